import Derived.Test.YtmleimalginhhaaSb
/- scene.World and SceneMany, each told by a function on data. No conditions. -/
/-! The program's functions, told by functions on data. -/
set_option linter.unusedVariables false
set_option maxRecDepth 100000
set_option maxHeartbeats 0
namespace Go.DI.S
open Go.Proofs
/-! ### 21: maquette/scene.World -/
noncomputable def c_21 : Code := Try.f21.body.getD .skip
theorem hb_21 : Try.f21.body = some c_21 := by kernel_rfl
theorem hf_21 : CT.P.funcs[21]? = some Try.f21 := by kernel_rfl
noncomputable def T_21 : Tb := mkTb tyT mpT []
theorem T_21_ok : T_21.Ok CT.P := mkTb_ok (trivial)
noncomputable def l_21_11 : Code := atLoop c_21 11
noncomputable def l_21_4 : Code := atLoop c_21 4
noncomputable abbrev LD_21_4 : LayD := ⟨68, [(1, .ptr 0), (2, .ptr 1), (3, .ptr 2), (4, .map 5), (14, .data (.list tThing)), (15, .data I), (16, .data I)], [.var 36 [.data tScene], .var 46 [.data tWorld], .var 46 [.data tVec, .own tBody 3, .own tJoint 4], .row 27 tBody, .row 29 tJoint, .tmap I I], fun s => [slotR s 1, slotR s 2, slotR s 3, slotC s 3 2, slotC s 3 3, slotR s 4]⟩
noncomputable abbrev LA_21_4 : LayD := ⟨68, [(1, .ptr 0), (2, .ptr 1), (3, .ptr 2), (4, .map 5)], [.var 36 [.data tScene], .var 46 [.data tWorld], .var 46 [.data tVec, .own tBody 3, .own tJoint 4], .row 27 tBody, .row 29 tJoint, .tmap I I], fun s => [slotR s 1, slotR s 2, slotR s 3, slotC s 3 2, slotC s 3 3, slotR s 4]⟩
noncomputable abbrev LB_21_4 : LayD := ⟨68, [], [], fun _ => []⟩
noncomputable def EX_21_4 : Exits LA_21_4.El LB_21_4.El := ⟨.exit 0, LA_21_4.lay [.nilCell 3 2 27 tBody, .nilCell 3 3 29 tJoint], .ret, LB_21_4.lay []⟩

noncomputable def lpi_21_4 {β : Type} : LpT β := fun _ _ _ => none
theorem lpi_21_4_ok {β : Type} : LpTOk CT (lpi_21_4 (β := β)) (loopsOf l_21_4) := by
  have h : loopsOf l_21_4 = [] := by kernel_rfl
  rw [h]
  exact LpTOk.nil
noncomputable def G_21_4 (r14 : Ty.El (.list tThing)) (r15 : Ty.El I) (r16 : Ty.El I) (b0 : Ty.El tScene × Unit) (b1 : Ty.El tWorld × Unit) (b2 : Ty.El tVec × Unit × Unit × Unit) (b3 : List (Ty.El tBody)) (b4 : List (Ty.El tJoint)) (b5 : List (Ty.El I × Ty.El I)) : Option (LD_21_4.El ⊕ (LA_21_4.El ⊕ LB_21_4.El)) :=
  bif Decidable.decide (r16 < r15) then
    bif Decidable.decide ((0 : Int) ≤ r16 ∧ r16 < ↑(List.length r14)) then
      bif (List.getD r14 (Int.toNat r16) Go.DI.S.tThing.dflt).snd.fst == (1 : Int) then
        bif ((b3.length + [(List.getD r14 (Int.toNat r16) Go.DI.S.tThing.dflt).snd.snd.fst].length) * (64 : Nat)).ble (70368744177664 : Nat) then
          Option.some
            (Sum.inl
              (((), (), (), (), r14, r15, Go.IntKind.i64.wrap (r16 + (1 : Int)), ()), (b0.fst, ()), (b1.fst, ()), (b2.fst, (), (), ()),
                b3 ++ [(List.getD r14 (Int.toNat r16) Go.DI.S.tThing.dflt).snd.snd.fst], b4,
                Go.DI.tput Go.DI.S.I Go.DI.S.I (List.getD r14 (Int.toNat r16) Go.DI.S.tThing.dflt).fst (↑b3.length) b5, ()))
        else Option.none
      else Option.some (Sum.inl (((), (), (), (), r14, r15, Go.IntKind.i64.wrap (r16 + (1 : Int)), ()), (b0.fst, ()), (b1.fst, ()), (b2.fst, (), (), ()), b3, b4, b5, ()))
    else Option.none
  else Option.some (Sum.inr (Sum.inl (((), (), (), (), ()), (b0.fst, ()), (b1.fst, ()), (b2.fst, (), (), ()), b3, b4, b5, ())))
theorem g_21_4 (x : LD_21_4.El) : codeT CT T_21 (drT CT T_21) lpi_21_4 l_21_4 (LD_21_4.enc x) (bodyK (LD_21_4.lay [.nilCell 3 2 27 tBody, .nilCell 3 3 29 tJoint]) EX_21_4) = G_21_4 x.1.2.2.2.2.1 x.1.2.2.2.2.2.1 x.1.2.2.2.2.2.2.1 x.2.1 x.2.2.1 x.2.2.2.1 x.2.2.2.2.1 x.2.2.2.2.2.1 x.2.2.2.2.2.2.1 := by kernel_rfl
noncomputable def R_21_4 : LD_21_4.El → Option (LA_21_4.El ⊕ LB_21_4.El) := roundsT (fun x => G_21_4 x.1.2.2.2.2.1 x.1.2.2.2.2.2.1 x.1.2.2.2.2.2.2.1 x.2.1 x.2.2.1 x.2.2.2.1 x.2.2.2.2.1 x.2.2.2.2.2.1 x.2.2.2.2.2.2.1) fuel
theorem r_21_4 : ∀ x y, R_21_4 x = some y → CL CT.P l_21_4 (LD_21_4.enc x) (Sum.elim (fun _ => EX_21_4.xa) (fun _ => EX_21_4.xb) y) (Sum.elim EX_21_4.la.enc EX_21_4.lb.enc y) :=
  rounds_ok (L := LD_21_4.lay [.nilCell 3 2 27 tBody, .nilCell 3 3 29 tJoint]) (E := EX_21_4) CT_ok T_21_ok (drT_ok CT_ok T_21_ok) lpi_21_4_ok g_21_4 rfl rfl (fun v h => by have hh : (.exit 0 : AX) = .pan v := h; cases hh) (fun v h => by have hh : (.ret : AX) = .pan v := h; cases hh) fuel
noncomputable abbrev LD_21_11 : LayD := ⟨68, [(2, .ptr 0), (3, .ptr 1), (4, .map 4), (38, .data (.list tThing)), (39, .data I), (40, .data I)], [.var 46 [.data tWorld], .var 46 [.data tVec, .own tBody 2, .own tJoint 3], .row 27 tBody, .row 29 tJoint, .tmap I I], fun s => [slotR s 2, slotR s 3, slotC s 3 2, slotC s 3 3, slotR s 4]⟩
noncomputable abbrev LA_21_11 : LayD := ⟨68, [(2, .ptr 0), (3, .ptr 1)], [.var 46 [.data tWorld], .var 46 [.data tVec, .own tBody 2, .own tJoint 3], .row 27 tBody, .row 29 tJoint], fun s => [slotR s 2, slotR s 3, slotC s 3 2, slotC s 3 3]⟩
noncomputable abbrev LB_21_11 : LayD := ⟨68, [], [], fun _ => []⟩
noncomputable def EX_21_11 : Exits LA_21_11.El LB_21_11.El := ⟨.exit 2, LA_21_11.lay [.nilCell 3 2 27 tBody, .nilCell 3 3 29 tJoint], .ret, LB_21_11.lay []⟩

noncomputable def lpi_21_11 {β : Type} : LpT β := fun _ _ _ => none
theorem lpi_21_11_ok {β : Type} : LpTOk CT (lpi_21_11 (β := β)) (loopsOf l_21_11) := by
  have h : loopsOf l_21_11 = [] := by kernel_rfl
  rw [h]
  exact LpTOk.nil
noncomputable def G_21_11 (r38 : Ty.El (.list tThing)) (r39 : Ty.El I) (r40 : Ty.El I) (b0 : Ty.El tWorld × Unit) (b1 : Ty.El tVec × Unit × Unit × Unit) (b2 : List (Ty.El tBody)) (b3 : List (Ty.El tJoint)) (b4 : List (Ty.El I × Ty.El I)) : Option (LD_21_11.El ⊕ (LA_21_11.El ⊕ LB_21_11.El)) :=
  bif Decidable.decide (r40 < r39) then
    bif Decidable.decide ((0 : Int) ≤ r40 ∧ r40 < ↑(List.length r38)) then
      bif (List.getD r38 (Int.toNat r40) Go.DI.S.tThing.dflt).snd.fst == (2 : Int) then
        bif
            ((b3.length +
                    [((Go.DI.tget Go.DI.S.I Go.DI.S.I (List.getD r38 (Int.toNat r40) Go.DI.S.tThing.dflt).snd.snd.snd.fst.fst b4).getD (0 : Int),
                          (Go.DI.tget Go.DI.S.I Go.DI.S.I (List.getD r38 (Int.toNat r40) Go.DI.S.tThing.dflt).snd.snd.snd.fst.snd.fst b4).getD (0 : Int),
                          (List.getD r38 (Int.toNat r40) Go.DI.S.tThing.dflt).snd.snd.snd.fst.snd.snd)].length) *
                  (24 : Nat)).ble
              (70368744177664 : Nat) then
          Option.some
            (Sum.inl
              (((), (), (), r38, r39, Go.IntKind.i64.wrap (r40 + (1 : Int)), ()), (b0.fst, ()), (b1.fst, (), (), ()), b2,
                b3 ++
                  [((Go.DI.tget Go.DI.S.I Go.DI.S.I (List.getD r38 (Int.toNat r40) Go.DI.S.tThing.dflt).snd.snd.snd.fst.fst b4).getD (0 : Int),
                      (Go.DI.tget Go.DI.S.I Go.DI.S.I (List.getD r38 (Int.toNat r40) Go.DI.S.tThing.dflt).snd.snd.snd.fst.snd.fst b4).getD (0 : Int),
                      (List.getD r38 (Int.toNat r40) Go.DI.S.tThing.dflt).snd.snd.snd.fst.snd.snd)],
                b4, ()))
        else Option.none
      else Option.some (Sum.inl (((), (), (), r38, r39, Go.IntKind.i64.wrap (r40 + (1 : Int)), ()), (b0.fst, ()), (b1.fst, (), (), ()), b2, b3, b4, ()))
    else Option.none
  else Option.some (Sum.inr (Sum.inl (((), (), ()), (b0.fst, ()), (b1.fst, (), (), ()), b2, b3, ())))
theorem g_21_11 (x : LD_21_11.El) : codeT CT T_21 (drT CT T_21) lpi_21_11 l_21_11 (LD_21_11.enc x) (bodyK (LD_21_11.lay [.nilCell 3 2 27 tBody, .nilCell 3 3 29 tJoint]) EX_21_11) = G_21_11 x.1.2.2.2.1 x.1.2.2.2.2.1 x.1.2.2.2.2.2.1 x.2.1 x.2.2.1 x.2.2.2.1 x.2.2.2.2.1 x.2.2.2.2.2.1 := by kernel_rfl
noncomputable def R_21_11 : LD_21_11.El → Option (LA_21_11.El ⊕ LB_21_11.El) := roundsT (fun x => G_21_11 x.1.2.2.2.1 x.1.2.2.2.2.1 x.1.2.2.2.2.2.1 x.2.1 x.2.2.1 x.2.2.2.1 x.2.2.2.2.1 x.2.2.2.2.2.1) fuel
theorem r_21_11 : ∀ x y, R_21_11 x = some y → CL CT.P l_21_11 (LD_21_11.enc x) (Sum.elim (fun _ => EX_21_11.xa) (fun _ => EX_21_11.xb) y) (Sum.elim EX_21_11.la.enc EX_21_11.lb.enc y) :=
  rounds_ok (L := LD_21_11.lay [.nilCell 3 2 27 tBody, .nilCell 3 3 29 tJoint]) (E := EX_21_11) CT_ok T_21_ok (drT_ok CT_ok T_21_ok) lpi_21_11_ok g_21_11 rfl rfl (fun v h => by have hh : (.exit 2 : AX) = .pan v := h; cases hh) (fun v h => by have hh : (.ret : AX) = .pan v := h; cases hh) fuel
noncomputable def lp_21 {β : Type} : LpT β := fun k s K => if Nat.beq k 4 then lpOne (LD_21_4.lay [.nilCell 3 2 27 tBody, .nilCell 3 3 29 tJoint]) EX_21_4 R_21_4 s K else if Nat.beq k 11 then lpOne (LD_21_11.lay [.nilCell 3 2 27 tBody, .nilCell 3 3 29 tJoint]) EX_21_11 R_21_11 s K else none
theorem lp_21_ok {β : Type} : LpTOk CT (lp_21 (β := β)) (loopsOf c_21) := by
  have h : loopsOf c_21 = [(4, l_21_4), (11, l_21_11)] := by kernel_rfl
  rw [h]
  exact LpTOk.cons (fun s K z h => lpOne_ok r_21_4 h) (LpTOk.cons (fun s K z h => lpOne_ok r_21_11 h) (LpTOk.nil))
noncomputable def F_21 (a1 : Ty.El tScene) : Option (Els [tWorld]) :=
  (R_21_4 (((), (), (), (), a1.snd.snd, ↑(List.length a1.snd.snd), (0 : Int), ()), (a1, ()), ((((0 : Int), (0 : Int)), [], []), ()), (a1.fst, (), (), ()), [], [], [], ())).bind
    fun v1 =>
    Sum.elim
      (fun v2 =>
        (R_21_11
              (((), (), (), v2.snd.fst.fst.snd.snd, ↑(List.length v2.snd.fst.fst.snd.snd), (0 : Int), ()), (v2.snd.snd.fst.fst, ()), (v2.snd.snd.snd.fst.fst, (), (), ()),
                v2.snd.snd.snd.snd.fst, v2.snd.snd.snd.snd.snd.fst, v2.snd.snd.snd.snd.snd.snd.fst, ())).bind
          fun v3 => Sum.elim (fun v4 => Option.some ((v4.snd.snd.fst.fst, v4.snd.snd.snd.fst, v4.snd.snd.snd.snd.fst), ())) (fun v5 => Option.none) v3)
      (fun v6 => Option.none) v1
theorem f_21 (x : Ps [.ty tScene]) : funcT CT T_21 [tWorld] (drT CT T_21) lp_21 Try.f21 c_21 (encPs [.ty tScene] x) = F_21 x.1 := by kernel_rfl
noncomputable def E_21 : Ent := .fn 21 [] ⟨[.ty tScene], [tWorld], fun x => F_21 x.1, false⟩
theorem e_21 : E_21.Ok CT.P := Ent.ofFn CT_ok T_21_ok hf_21 hb_21 lp_21_ok f_21
noncomputable def E_21h : Ent := .fn 21 [] ⟨[.ty tScene], [tWorld], fun x => F_21 x.1, true⟩
/-! ### 4: maquette/maquettelaw19.SceneMany -/
noncomputable def c_4 : Code := Try.f4.body.getD .skip
theorem hb_4 : Try.f4.body = some c_4 := by kernel_rfl
theorem hf_4 : CT.P.funcs[4]? = some Try.f4 := by kernel_rfl
noncomputable def T_4 : Tb := mkTb tyT mpT [E_16, E_17, E_18, E_19, E_20, E_21]
theorem T_4_ok : T_4.Ok CT.P := mkTb_ok (⟨e_16, e_17, e_18, e_19, e_20, e_21, trivial⟩)
noncomputable def l_4_6 : Code := atLoop c_4 6
noncomputable abbrev LD_4_6 : LayD := ⟨59, [(0, .data I), (3, .ptr 0), (4, .data I)], [.var 36 [.data tScene]], fun s => [slotR s 3]⟩
noncomputable abbrev LA_4_6 : LayD := ⟨59, [(0, .data I), (3, .ptr 0)], [.var 36 [.data tScene]], fun s => [slotR s 3]⟩
noncomputable abbrev LB_4_6 : LayD := ⟨59, [(2, .data .bool)], [], fun _ => []⟩
noncomputable def EX_4_6 : Exits LA_4_6.El LB_4_6.El := ⟨.exit 0, LA_4_6.lay [.frzCell 3 3 (.list tThing)], .ret, LB_4_6.lay []⟩

noncomputable def lpi_4_6 {β : Type} : LpT β := fun _ _ _ => none
theorem lpi_4_6_ok {β : Type} : LpTOk CT (lpi_4_6 (β := β)) (loopsOf l_4_6) := by
  have h : loopsOf l_4_6 = [] := by kernel_rfl
  rw [h]
  exact LpTOk.nil
noncomputable def G_4_6 (r0 : Ty.El I) (r4 : Ty.El I) (b0 : Ty.El tScene × Unit) : Option (LD_4_6.El ⊕ (LA_4_6.El ⊕ LB_4_6.El)) :=
  bif Decidable.decide (r4 ≤ r0) then
    (F_17 r4 (0 : Int) (0 : Int) (4294967296 : Int)).bind fun v2 =>
      (F_18 b0.fst v2.fst).bind fun v4 =>
        bif Decidable.decide (r4 > (40 : Int)) then
          bif v4.snd.fst != (12 : Int) then Option.some (Sum.inr (Sum.inr ((Bool.false, ()), ())))
          else Option.some (Sum.inl ((r0, (), Go.IntKind.i64.wrap (r4 + (1 : Int)), ()), (b0.fst, ()), ()))
        else
          bif v4.snd.fst != (0 : Int) then Option.some (Sum.inr (Sum.inr ((Bool.false, ()), ())))
          else Option.some (Sum.inl ((r0, (), Go.IntKind.i64.wrap (r4 + (1 : Int)), ()), (v4.fst, ()), ()))
  else Option.some (Sum.inr (Sum.inl ((r0, (), ()), (b0.fst, ()), ())))
theorem g_4_6 (x : LD_4_6.El) : codeT CT T_4 (drT CT T_4) lpi_4_6 l_4_6 (LD_4_6.enc x) (bodyK (LD_4_6.lay [.frzCell 3 3 (.list tThing)]) EX_4_6) = G_4_6 x.1.1 x.1.2.2.1 x.2.1 := by kernel_rfl
noncomputable def R_4_6 : LD_4_6.El → Option (LA_4_6.El ⊕ LB_4_6.El) := roundsT (fun x => G_4_6 x.1.1 x.1.2.2.1 x.2.1) fuel
theorem r_4_6 : ∀ x y, R_4_6 x = some y → CL CT.P l_4_6 (LD_4_6.enc x) (Sum.elim (fun _ => EX_4_6.xa) (fun _ => EX_4_6.xb) y) (Sum.elim EX_4_6.la.enc EX_4_6.lb.enc y) :=
  rounds_ok (L := LD_4_6.lay [.frzCell 3 3 (.list tThing)]) (E := EX_4_6) CT_ok T_4_ok (drT_ok CT_ok T_4_ok) lpi_4_6_ok g_4_6 rfl rfl (fun v h => by have hh : (.exit 0 : AX) = .pan v := h; cases hh) (fun v h => by have hh : (.ret : AX) = .pan v := h; cases hh) fuel
noncomputable def lp_4 {β : Type} : LpT β := fun k s K => if Nat.beq k 6 then lpOne (LD_4_6.lay [.frzCell 3 3 (.list tThing)]) EX_4_6 R_4_6 s K else none
theorem lp_4_ok {β : Type} : LpTOk CT (lp_4 (β := β)) (loopsOf c_4) := by
  have h : loopsOf c_4 = [(6, l_4_6)] := by kernel_rfl
  rw [h]
  exact LpTOk.cons (fun s K z h => lpOne_ok r_4_6 h) (LpTOk.nil)
noncomputable def F_4 (a1 : Ty.El I) : Option (Els [.bool]) :=
  bif Decidable.decide (a1 < (0 : Int)) then F_16.bind fun v2 => Option.some (v2.fst, ())
  else
    bif Decidable.decide (a1 > (50 : Int)) then F_16.bind fun v4 => Option.some (v4.fst, ())
    else
      F_16.bind fun v6 =>
        bif !v6.fst then F_16.bind fun v8 => Option.some (v8.fst, ())
        else
          F_19.bind fun v10 =>
            (R_4_6 ((a1, (), (1 : Int), ()), ((v10.fst.fst, (100 : Int), v10.fst.snd.snd), ()), ())).bind fun v11 =>
              Sum.elim
                (fun v12 =>
                  bif ↑(List.length v12.snd.fst.fst.snd.snd) == if (40 : Int) < v12.fst.fst then (40 : Int) else v12.fst.fst then
                    (F_20 v12.snd.fst.fst).bind fun v14 =>
                      bif v14.fst then (F_21 v12.snd.fst.fst).bind fun v16 => Option.some ((((List.length v16.fst.snd.fst : Nat) : Int) == ((List.length v12.snd.fst.fst.snd.snd : Nat) : Int)), ())
                      else Option.some (Bool.false, ())
                  else Option.some (Bool.false, ()))
                (fun v17 => Option.some (v17.fst.fst, ())) v11
theorem f_4 (x : Ps [.ty I]) : funcT CT T_4 [.bool] (drT CT T_4) lp_4 Try.f4 c_4 (encPs [.ty I] x) = F_4 x.1 := by kernel_rfl
noncomputable def E_4 : Ent := .fn 4 [] ⟨[.ty I], [.bool], fun x => F_4 x.1, false⟩
theorem e_4 : E_4.Ok CT.P := Ent.ofFn CT_ok T_4_ok hf_4 hb_4 lp_4_ok f_4
noncomputable def E_4h : Ent := .fn 4 [] ⟨[.ty I], [.bool], fun x => F_4 x.1, true⟩
end Go.DI.S

