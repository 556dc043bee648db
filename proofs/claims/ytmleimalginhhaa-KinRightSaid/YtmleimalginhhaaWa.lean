import Derived.Test.YtmleimalginhhaaSb
import Derived.Test.YtmleimalginhhaaUa
/- Few things; scenes alike: told by functions on data, and what these come to. No conditions. -/
/-! The program's functions, told by functions on data. -/
set_option linter.unusedVariables false
set_option maxRecDepth 100000
set_option maxHeartbeats 0
namespace Go.DI.S
open Go.Proofs
/-! ### 22: maquette/maquettelaw19.Few -/
noncomputable def c_22 : Code := Try.f22.body.getD .skip
theorem hb_22 : Try.f22.body = some c_22 := by kernel_rfl
theorem hf_22 : CT.P.funcs[22]? = some Try.f22 := by kernel_rfl
noncomputable def T_22 : Tb := mkTb tyT mpT []
theorem T_22_ok : T_22.Ok CT.P := mkTb_ok (trivial)
noncomputable def l_22_2 : Code := atLoop c_22 2
noncomputable abbrev LD_22_2 : LayD := ⟨20, [(0, .data (.list tThing)), (5, .data I), (6, .data I)], [], fun _ => []⟩
noncomputable abbrev LA_22_2 : LayD := ⟨20, [(0, .data (.list tThing))], [], fun _ => []⟩
noncomputable abbrev LB_22_2 : LayD := ⟨20, [(2, .data .bool)], [], fun _ => []⟩
noncomputable def EX_22_2 : Exits 0 LA_22_2.El LB_22_2.El := ⟨.exit 0, LA_22_2.lay [], .ret, LB_22_2.lay []⟩

noncomputable def lpi_22_2 {β : Type} : LpT β := fun _ _ _ => none
theorem lpi_22_2_ok {β : Type} : LpTOk CT (lpi_22_2 (β := β)) (loopsOf l_22_2) := by
  have h : loopsOf l_22_2 = [] := by kernel_rfl
  rw [h]
  exact LpTOk.nil
noncomputable def G_22_2 (r0 : Ty.El (.list tThing)) (r5 : Ty.El I) (r6 : Ty.El I) : Option (LD_22_2.El ⊕ (LA_22_2.El ⊕ LB_22_2.El)) :=
  bif Decidable.decide (r6 < r5) then
    bif Decidable.decide ((0 : Int) ≤ r6 ∧ r6 < (↑(List.length r0) : Int)) then
      bif Decidable.decide ((↑(List.length (List.getD r0 (Int.toNat r6) Go.DI.S.tThing.dflt).snd.snd.snd.snd) : Int) > (20 : Int)) then
        Option.some (Sum.inr (Sum.inr ((Bool.false, ()), ())))
      else Option.some (Sum.inl ((r0, r5, Go.IntKind.i64.wrap (r6 + (1 : Int)), ()), ()))
    else Option.none
  else Option.some (Sum.inr (Sum.inl ((r0, ()), ())))
theorem g_22_2 (x : LD_22_2.El) : codeT CT T_22 (drT CT T_22) lpi_22_2 l_22_2 (LD_22_2.enc x) (bodyK (LD_22_2.lay []) EX_22_2) = G_22_2 x.1.1 x.1.2.1 x.1.2.2.1 := by kernel_rfl
noncomputable def R_22_2 : LD_22_2.El → Option (LA_22_2.El ⊕ LB_22_2.El) := roundsT (fun x => G_22_2 x.1.1 x.1.2.1 x.1.2.2.1) fuel
theorem r_22_2 : ∀ x y, R_22_2 x = some y → CL CT l_22_2 (LD_22_2.enc x) (Sum.elim (fun _ => EX_22_2.xa) (fun _ => EX_22_2.xb) y) (Sum.elim EX_22_2.la.enc EX_22_2.lb.enc y) :=
  rounds_ok (L := LD_22_2.lay []) (E := EX_22_2) CT_ok T_22_ok (drT_ok CT_ok T_22_ok) lpi_22_2_ok g_22_2 rfl rfl (fun v h => by have hh : (.exit 0 : AX) = .pan v := h; cases hh) (fun v h => by have hh : (.ret : AX) = .pan v := h; cases hh) fuel
noncomputable def lp_22 {β : Type} : LpT β := fun k s K => if Nat.beq k 2 then lpOne (LD_22_2.lay []) EX_22_2 R_22_2 s K else none
theorem lp_22_ok {β : Type} : LpTOk CT (lp_22 (β := β)) (loopsOf c_22) := by
  have h : loopsOf c_22 = [(2, l_22_2)] := by kernel_rfl
  rw [h]
  exact LpTOk.cons (fun s K z h => lpOne_ok r_22_2 h) (LpTOk.nil)
noncomputable def F_22 (a1 : Ty.El (.list tThing)) : Option (Els [.bool]) :=
  (R_22_2 ((a1, (↑(List.length a1) : Int), (0 : Int), ()), ())).bind fun v1 =>
    Sum.elim (fun v2 => Option.some (Decidable.decide ((↑(List.length v2.fst.fst) : Int) ≤ (45 : Int)), ())) (fun v3 => Option.some (v3.fst.fst, ())) v1
theorem f_22 (x : Ps [.ty (.list tThing)]) : funcT CT T_22 [.bool] (drT CT T_22) lp_22 Try.f22 c_22 (encPs [.ty (.list tThing)] x) = F_22 x.1 := by kernel_rfl
noncomputable def E_22 : Ent := .fn 22 [] ⟨[.ty (.list tThing)], [.bool], fun x => F_22 x.1, false⟩
theorem e_22 : E_22.Ok CT.P := Ent.ofFn CT_ok T_22_ok hf_22 hb_22 lp_22_ok f_22
noncomputable def E_22h : Ent := .fn 22 [] ⟨[.ty (.list tThing)], [.bool], fun x => F_22 x.1, true⟩
/-! ### 25: maquette/maquettelaw19.Ref -/
noncomputable def c_25 : Code := Try.f25.body.getD .skip
theorem hb_25 : Try.f25.body = some c_25 := by kernel_rfl
theorem hf_25 : CT.P.funcs[25]? = some Try.f25 := by kernel_rfl
noncomputable def T_25 : Tb := mkTb tyT mpT []
theorem T_25_ok : T_25.Ok CT.P := mkTb_ok (trivial)
noncomputable def lp_25 {β : Type} : LpT β := fun _ _ _ => none
theorem lp_25_ok {β : Type} : LpTOk CT (lp_25 (β := β)) (loopsOf c_25) := by
  have h : loopsOf c_25 = [] := by kernel_rfl
  rw [h]
  exact LpTOk.nil
noncomputable def F_25 (a1 : Ty.El tScene) : Option (Els [tScene]) :=
  Option.some (a1, ())
theorem f_25 (x : Ps [.ty tScene]) : funcT CT T_25 [tScene] (drT CT T_25) lp_25 Try.f25 c_25 (encPs [.ty tScene] x) = F_25 x.1 := by kernel_rfl
noncomputable def E_25 : Ent := .fn 25 [] ⟨[.ty tScene], [tScene], fun x => F_25 x.1, false⟩
theorem e_25 : E_25.Ok CT.P := Ent.ofFn CT_ok T_25_ok hf_25 hb_25 lp_25_ok f_25
noncomputable def E_25h : Ent := .fn 25 [] ⟨[.ty tScene], [tScene], fun x => F_25 x.1, true⟩
/-! ### 100: maquette/maquetteref18.SameThing -/
noncomputable def c_100 : Code := Try.f100.body.getD .skip
theorem hb_100 : Try.f100.body = some c_100 := by kernel_rfl
theorem hf_100 : CT.P.funcs[100]? = some Try.f100 := by kernel_rfl
noncomputable def T_100 : Tb := mkTb tyT mpT []
theorem T_100_ok : T_100.Ok CT.P := mkTb_ok (trivial)
noncomputable def l_100_4 : Code := atLoop c_100 4
noncomputable abbrev LD_100_4 : LayD := ⟨59, [(2, .ptr 0), (3, .ptr 1), (5, .data I)], [.var 32 [.data tThing], .var 32 [.data tThing]], fun s => [slotR s 2, slotR s 3]⟩
noncomputable abbrev LA_100_4 : LayD := ⟨59, [], [], fun _ => []⟩
noncomputable abbrev LB_100_4 : LayD := ⟨59, [(4, .data .bool)], [], fun _ => []⟩
noncomputable def EX_100_4 : Exits 0 LA_100_4.El LB_100_4.El := ⟨.exit 0, LA_100_4.lay [], .ret, LB_100_4.lay []⟩

noncomputable def lpi_100_4 {β : Type} : LpT β := fun _ _ _ => none
theorem lpi_100_4_ok {β : Type} : LpTOk CT (lpi_100_4 (β := β)) (loopsOf l_100_4) := by
  have h : loopsOf l_100_4 = [] := by kernel_rfl
  rw [h]
  exact LpTOk.nil
noncomputable def G_100_4 (r5 : Ty.El I) (b0 : Ty.El tThing × Unit) (b1 : Ty.El tThing × Unit) : Option (LD_100_4.El ⊕ (LA_100_4.El ⊕ LB_100_4.El)) :=
  bif Decidable.decide (r5 < (↑(List.length b0.fst.snd.snd.snd.snd) : Int)) then
    bif Decidable.decide ((0 : Int) ≤ r5 ∧ r5 < (↑(List.length b0.fst.snd.snd.snd.snd) : Int)) then
      bif Decidable.decide ((0 : Int) ≤ r5 ∧ r5 < (↑(List.length b1.fst.snd.snd.snd.snd) : Int)) then
        bif List.getD b0.fst.snd.snd.snd.snd (Int.toNat r5) (0 : Int) != List.getD b1.fst.snd.snd.snd.snd (Int.toNat r5) (0 : Int) then
          Option.some (Sum.inr (Sum.inr ((Bool.false, ()), ())))
        else Option.some (Sum.inl (((), (), Go.IntKind.i64.wrap (r5 + (1 : Int)), ()), (b0.fst, ()), (b1.fst, ()), ()))
      else Option.none
    else Option.none
  else Option.some (Sum.inr (Sum.inl ((), ())))
theorem g_100_4 (x : LD_100_4.El) : codeT CT T_100 (drT CT T_100) lpi_100_4 l_100_4 (LD_100_4.enc x) (bodyK (LD_100_4.lay []) EX_100_4) = G_100_4 x.1.2.2.1 x.2.1 x.2.2.1 := by kernel_rfl
noncomputable def R_100_4 : LD_100_4.El → Option (LA_100_4.El ⊕ LB_100_4.El) := roundsT (fun x => G_100_4 x.1.2.2.1 x.2.1 x.2.2.1) fuel
theorem r_100_4 : ∀ x y, R_100_4 x = some y → CL CT l_100_4 (LD_100_4.enc x) (Sum.elim (fun _ => EX_100_4.xa) (fun _ => EX_100_4.xb) y) (Sum.elim EX_100_4.la.enc EX_100_4.lb.enc y) :=
  rounds_ok (L := LD_100_4.lay []) (E := EX_100_4) CT_ok T_100_ok (drT_ok CT_ok T_100_ok) lpi_100_4_ok g_100_4 rfl rfl (fun v h => by have hh : (.exit 0 : AX) = .pan v := h; cases hh) (fun v h => by have hh : (.ret : AX) = .pan v := h; cases hh) fuel
noncomputable def lp_100 {β : Type} : LpT β := fun k s K => if Nat.beq k 4 then lpOne (LD_100_4.lay []) EX_100_4 R_100_4 s K else none
theorem lp_100_ok {β : Type} : LpTOk CT (lp_100 (β := β)) (loopsOf c_100) := by
  have h : loopsOf c_100 = [(4, l_100_4)] := by kernel_rfl
  rw [h]
  exact LpTOk.cons (fun s K z h => lpOne_ok r_100_4 h) (LpTOk.nil)
noncomputable def F_100 (a1 : Ty.El tThing) (a2 : Ty.El tThing) : Option (Els [.bool]) :=
  bif a1.fst != a2.fst then Option.some (Bool.false, ())
  else
    bif a1.snd.fst != a2.snd.fst then Option.some (Bool.false, ())
    else
      bif
          !(a1.snd.snd.fst.fst == a2.snd.snd.fst.fst &&
              (a1.snd.snd.fst.snd.fst.fst == a2.snd.snd.fst.snd.fst.fst && (a1.snd.snd.fst.snd.fst.snd == a2.snd.snd.fst.snd.fst.snd && Bool.true) &&
                (a1.snd.snd.fst.snd.snd.fst == a2.snd.snd.fst.snd.snd.fst &&
                  (a1.snd.snd.fst.snd.snd.snd.fst.fst == a2.snd.snd.fst.snd.snd.snd.fst.fst &&
                      (a1.snd.snd.fst.snd.snd.snd.fst.snd == a2.snd.snd.fst.snd.snd.snd.fst.snd && Bool.true) &&
                    (a1.snd.snd.fst.snd.snd.snd.snd.fst == a2.snd.snd.fst.snd.snd.snd.snd.fst &&
                        (a1.snd.snd.fst.snd.snd.snd.snd.snd == a2.snd.snd.fst.snd.snd.snd.snd.snd && Bool.true) &&
                      Bool.true))))) then
        Option.some (Bool.false, ())
      else
        bif
            !(a1.snd.snd.snd.fst.fst == a2.snd.snd.snd.fst.fst &&
                (a1.snd.snd.snd.fst.snd.fst == a2.snd.snd.snd.fst.snd.fst && (a1.snd.snd.snd.fst.snd.snd == a2.snd.snd.snd.fst.snd.snd && Bool.true))) then
          Option.some (Bool.false, ())
        else
          bif (↑(List.length a1.snd.snd.snd.snd) : Int) != (↑(List.length a2.snd.snd.snd.snd) : Int) then Option.some (Bool.false, ())
          else (R_100_4 (((), (), (0 : Int), ()), (a1, ()), (a2, ()), ())).bind fun v1 => Sum.elim (fun v2 => Option.some (Bool.true, ())) (fun v3 => Option.some (v3.fst.fst, ())) v1
theorem f_100 (x : Ps [.ty tThing, .ty tThing]) : funcT CT T_100 [.bool] (drT CT T_100) lp_100 Try.f100 c_100 (encPs [.ty tThing, .ty tThing] x) = F_100 x.1 x.2.1 := by kernel_rfl
noncomputable def E_100 : Ent := .fn 100 [] ⟨[.ty tThing, .ty tThing], [.bool], fun x => F_100 x.1 x.2.1, false⟩
theorem e_100 : E_100.Ok CT.P := Ent.ofFn CT_ok T_100_ok hf_100 hb_100 lp_100_ok f_100
noncomputable def E_100h : Ent := .fn 100 [] ⟨[.ty tThing, .ty tThing], [.bool], fun x => F_100 x.1 x.2.1, true⟩
/-! ### 57: maquette/maquetteref18.SameScene -/
noncomputable def c_57 : Code := Try.f57.body.getD .skip
theorem hb_57 : Try.f57.body = some c_57 := by kernel_rfl
theorem hf_57 : CT.P.funcs[57]? = some Try.f57 := by kernel_rfl
noncomputable def T_57 : Tb := mkTb tyT mpT [E_100]
theorem T_57_ok : T_57.Ok CT.P := mkTb_ok (⟨e_100, trivial⟩)
noncomputable def l_57_4 : Code := atLoop c_57 4
noncomputable abbrev LD_57_4 : LayD := ⟨46, [(2, .ptr 0), (3, .ptr 1), (5, .data I)], [.var 52 [.data tScene], .var 52 [.data tScene]], fun s => [slotR s 2, slotR s 3]⟩
noncomputable abbrev LA_57_4 : LayD := ⟨46, [], [], fun _ => []⟩
noncomputable abbrev LB_57_4 : LayD := ⟨46, [(4, .data .bool)], [], fun _ => []⟩
noncomputable def EX_57_4 : Exits 0 LA_57_4.El LB_57_4.El := ⟨.exit 0, LA_57_4.lay [], .ret, LB_57_4.lay []⟩

noncomputable def lpi_57_4 {β : Type} : LpT β := fun _ _ _ => none
theorem lpi_57_4_ok {β : Type} : LpTOk CT (lpi_57_4 (β := β)) (loopsOf l_57_4) := by
  have h : loopsOf l_57_4 = [] := by kernel_rfl
  rw [h]
  exact LpTOk.nil
noncomputable def G_57_4 (r5 : Ty.El I) (b0 : Ty.El tScene × Unit) (b1 : Ty.El tScene × Unit) : Option (LD_57_4.El ⊕ (LA_57_4.El ⊕ LB_57_4.El)) :=
  bif Decidable.decide (r5 < (↑(List.length b0.fst.snd.snd) : Int)) then
    bif Decidable.decide ((0 : Int) ≤ r5 ∧ r5 < (↑(List.length b0.fst.snd.snd) : Int)) then
      bif Decidable.decide ((0 : Int) ≤ r5 ∧ r5 < (↑(List.length b1.fst.snd.snd) : Int)) then
        (F_100 (List.getD b0.fst.snd.snd (Int.toNat r5) Go.DI.S.tThing.dflt) (List.getD b1.fst.snd.snd (Int.toNat r5) Go.DI.S.tThing.dflt)).bind fun v2 =>
          bif !v2.fst then Option.some (Sum.inr (Sum.inr ((Bool.false, ()), ())))
          else Option.some (Sum.inl (((), (), Go.IntKind.i64.wrap (r5 + (1 : Int)), ()), (b0.fst, ()), (b1.fst, ()), ()))
      else Option.none
    else Option.none
  else Option.some (Sum.inr (Sum.inl ((), ())))
theorem g_57_4 (x : LD_57_4.El) : codeT CT T_57 (drT CT T_57) lpi_57_4 l_57_4 (LD_57_4.enc x) (bodyK (LD_57_4.lay []) EX_57_4) = G_57_4 x.1.2.2.1 x.2.1 x.2.2.1 := by kernel_rfl
noncomputable def R_57_4 : LD_57_4.El → Option (LA_57_4.El ⊕ LB_57_4.El) := roundsT (fun x => G_57_4 x.1.2.2.1 x.2.1 x.2.2.1) fuel
theorem r_57_4 : ∀ x y, R_57_4 x = some y → CL CT l_57_4 (LD_57_4.enc x) (Sum.elim (fun _ => EX_57_4.xa) (fun _ => EX_57_4.xb) y) (Sum.elim EX_57_4.la.enc EX_57_4.lb.enc y) :=
  rounds_ok (L := LD_57_4.lay []) (E := EX_57_4) CT_ok T_57_ok (drT_ok CT_ok T_57_ok) lpi_57_4_ok g_57_4 rfl rfl (fun v h => by have hh : (.exit 0 : AX) = .pan v := h; cases hh) (fun v h => by have hh : (.ret : AX) = .pan v := h; cases hh) fuel
noncomputable def lp_57 {β : Type} : LpT β := fun k s K => if Nat.beq k 4 then lpOne (LD_57_4.lay []) EX_57_4 R_57_4 s K else none
theorem lp_57_ok {β : Type} : LpTOk CT (lp_57 (β := β)) (loopsOf c_57) := by
  have h : loopsOf c_57 = [(4, l_57_4)] := by kernel_rfl
  rw [h]
  exact LpTOk.cons (fun s K z h => lpOne_ok r_57_4 h) (LpTOk.nil)
noncomputable def F_57 (a1 : Ty.El tScene) (a2 : Ty.El tScene) : Option (Els [.bool]) :=
  bif !(a1.fst.fst == a2.fst.fst && (a1.fst.snd == a2.fst.snd && Bool.true)) then Option.some (Bool.false, ())
  else
    bif a1.snd.fst != a2.snd.fst then Option.some (Bool.false, ())
    else
      bif (↑(List.length a1.snd.snd) : Int) != (↑(List.length a2.snd.snd) : Int) then Option.some (Bool.false, ())
      else (R_57_4 (((), (), (0 : Int), ()), (a1, ()), (a2, ()), ())).bind fun v1 => Sum.elim (fun v2 => Option.some (Bool.true, ())) (fun v3 => Option.some (v3.fst.fst, ())) v1
theorem f_57 (x : Ps [.ty tScene, .ty tScene]) : funcT CT T_57 [.bool] (drT CT T_57) lp_57 Try.f57 c_57 (encPs [.ty tScene, .ty tScene] x) = F_57 x.1 x.2.1 := by kernel_rfl
noncomputable def E_57 : Ent := .fn 57 [] ⟨[.ty tScene, .ty tScene], [.bool], fun x => F_57 x.1 x.2.1, false⟩
theorem e_57 : E_57.Ok CT.P := Ent.ofFn CT_ok T_57_ok hf_57 hb_57 lp_57_ok f_57
noncomputable def E_57h : Ent := .fn 57 [] ⟨[.ty tScene, .ty tScene], [.bool], fun x => F_57 x.1 x.2.1, true⟩
/-! ### 24: maquette/maquettelaw19.Same -/
noncomputable def c_24 : Code := Try.f24.body.getD .skip
theorem hb_24 : Try.f24.body = some c_24 := by kernel_rfl
theorem hf_24 : CT.P.funcs[24]? = some Try.f24 := by kernel_rfl
noncomputable def T_24 : Tb := mkTb tyT mpT [E_25, E_57]
theorem T_24_ok : T_24.Ok CT.P := mkTb_ok (⟨e_25, e_57, trivial⟩)
noncomputable def lp_24 {β : Type} : LpT β := fun _ _ _ => none
theorem lp_24_ok {β : Type} : LpTOk CT (lp_24 (β := β)) (loopsOf c_24) := by
  have h : loopsOf c_24 = [] := by kernel_rfl
  rw [h]
  exact LpTOk.nil
noncomputable def F_24 (a1 : Ty.El tScene) (a2 : Ty.El tScene) : Option (Els [.bool]) :=
  (F_25 a1).bind fun v2 => (F_57 v2.fst a2).bind fun v4 => Option.some (v4.fst, ())
theorem f_24 (x : Ps [.ty tScene, .ty tScene]) : funcT CT T_24 [.bool] (drT CT T_24) lp_24 Try.f24 c_24 (encPs [.ty tScene, .ty tScene] x) = F_24 x.1 x.2.1 := by kernel_rfl
noncomputable def E_24 : Ent := .fn 24 [] ⟨[.ty tScene, .ty tScene], [.bool], fun x => F_24 x.1 x.2.1, false⟩
theorem e_24 : E_24.Ok CT.P := Ent.ofFn CT_ok T_24_ok hf_24 hb_24 lp_24_ok f_24
noncomputable def E_24h : Ent := .fn 24 [] ⟨[.ty tScene, .ty tScene], [.bool], fun x => F_24 x.1 x.2.1, true⟩
end Go.DI.S

/-! Few things; scenes alike. -/
set_option linter.unusedVariables false
set_option linter.unusedSimpArgs false
set_option maxRecDepth 100000
namespace Go.DI.S
open Go.Proofs

theorem wrap_up' {k n : Nat} (h : k < n) (hn : n ≤ 9223372036854775807) : IntKind.i64.wrap ((k : Int) + 1) = ((k + 1 : Nat) : Int) := by
  rw [wrap64 (by omega) (by omega)]; omega
theorem fuel_max {n : Nat} (h : n ≤ maxLen) : n < fuel := by unfold fuel; unfold maxLen at h; omega
def insLen (t : Thing) : Nat := t.2.2.2.2.length
def fewB (l : List Thing) : Bool := (l.all fun t => !decide ((insLen t : Int) > 20)) && decide ((l.length : Int) ≤ 45)
theorem v_22 (l : List Thing) (hl : l.length ≤ maxLen) : F_22 l = some ((fewB l, ()) : Els [.bool]) := by
  have hl' : l.length ≤ 9223372036854775807 := by unfold maxLen at hl; omega
  have h := all_loop (G := fun x => G_22_2 x.1.1 x.1.2.1 x.1.2.2.1) (m := fuel) l (fun t => !decide ((insLen t : Int) > 20)) (fun k => ((l, (l.length : Int), (k : Int), ()), ())) (.inr ((false, ()), ())) (.inl ((l, ()), ()))
    (fun k t ha => ?_) ?_ (fuel_max hl)
  · unfold F_22 R_22_2 fewB
    rw [show (0 : Int) = ((0 : Nat) : Int) from rfl, h]
    cases (l.all fun t => !decide ((insLen t : Int) > 20)) <;> rfl
  · have hk := len_of ha
    simp only [G_22_2, dec_lt hk, dec_in hk, cond_true, getD_of ha, wrap_up' hk hl']
    show (bif decide ((insLen t : Int) > 20) then _ else _) = _
    cases decide ((insLen t : Int) > 20) <;> rfl
  · simp only [G_22_2, dec_end, cond_false]
theorem few_small {l : List Thing} (h : fewB l = true) : l.length ≤ 45 ∧ ∀ t ∈ l, t.2.2.2.2.length ≤ 20 := by
  unfold fewB at h
  rw [Bool.and_eq_true] at h
  refine ⟨by have := of_decide_eq_true h.2; omega, fun t ht => ?_⟩
  have h1 := List.all_eq_true.1 h.1 t ht
  have h2 : ¬ ((insLen t : Int) > 20) := by
    intro h3
    rw [decide_eq_true h3] at h1; cases h1
  unfold insLen at h2
  omega
theorem small_of {l : List Thing} (h : l.length ≤ 45 ∧ ∀ t ∈ l, t.2.2.2.2.length ≤ 20) : Small l := ⟨by have := h.1; omega, fun t ht => by have := h.2 t ht; omega⟩

/-! ### alike -/
theorem v_100 (t : Thing) (h : t.2.2.2.2.length ≤ 1000000000) : F_100 t t = some ((true, ()) : Els [.bool]) := by
  have h := all_loop (G := fun x => G_100_4 x.1.2.2.1 x.2.1 x.2.2.1) (m := fuel) t.2.2.2.2 (fun _ => true) (fun k => (((), (), (k : Int), ()), (t, ()), (t, ()), ())) (.inr ((false, ()), ())) (.inl ((), ()))
    (fun k a ha => ?_) ?_ (fuel_lt h)
  · have h2 : R_100_4 (((), (), (0 : Int), ()), (t, ()), (t, ()), ()) = some (.inl ((), ())) := by
      refine Eq.trans h ?_
      rw [if_pos (List.all_eq_true.2 fun _ _ => rfl)]
    unfold F_100
    simp only [bne_self_eq_false, beq_self_eq_true, Bool.and_true, Bool.not_true, cond_false, h2, Option.bind_some, Sum.elim_inl]
  · have hk := len_of ha
    simp only [G_100_4, dec_lt hk, dec_in hk, cond_true, bne_self_eq_false, cond_false, wrap_up hk (by omega), if_true]
  · simp only [G_100_4, dec_end, cond_false]
theorem v_57 (s : Scene) (hs : Small s.2.2) : F_57 s s = some ((true, ()) : Els [.bool]) := by
  have h := all_loop (G := fun x => G_57_4 x.1.2.2.1 x.2.1 x.2.2.1) (m := fuel) s.2.2 (fun _ => true) (fun k => (((), (), (k : Int), ()), (s, ()), (s, ()), ())) (.inr ((false, ()), ())) (.inl ((), ()))
    (fun k a ha => ?_) ?_ (fuel_lt hs.1)
  · have h2 : R_57_4 (((), (), (0 : Int), ()), (s, ()), (s, ()), ()) = some (.inl ((), ())) := by
      refine Eq.trans h ?_
      rw [if_pos (List.all_eq_true.2 fun _ _ => rfl)]
    unfold F_57
    simp only [bne_self_eq_false, beq_self_eq_true, Bool.and_true, Bool.not_true, cond_false, h2, Option.bind_some, Sum.elim_inl]
  · have hk := len_of ha
    simp only [G_57_4, dec_lt hk, dec_in hk, cond_true, getD_of ha]
    rw [v_100 a (hs.2 a (List.mem_of_getElem? ha))]
    simp only [Option.bind_some, Bool.not_true, cond_false, wrap_up hk (by have := hs.1; omega), if_true]
  · simp only [G_57_4, dec_end, cond_false]
theorem v_25 (s : Scene) : F_25 s = some ((s, ()) : Els [tScene]) := rfl
theorem v_24 (s : Scene) (hs : Small s.2.2) : F_24 s s = some ((true, ()) : Els [.bool]) := by
  unfold F_24
  simp only [v_25, Option.bind_some, v_57 s hs]

end Go.DI.S

