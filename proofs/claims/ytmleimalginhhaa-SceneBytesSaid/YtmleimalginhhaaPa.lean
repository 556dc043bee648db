import Derived.Test.YtmleimalginhhaaSb
/- The functions of the past, each told by a function on data. No conditions. -/
/-! The types of the past. -/
set_option linter.unusedVariables false
namespace Go.DI.S
open Go.Proofs
abbrev tDelta : Ty := .pair I (.pair .str .str)
abbrev tEntry : Ty := .pair (.list tDelta) (.pair .bool (.pair tVec (.pair tVec (.pair I I))))
abbrev tPast : Ty := .pair (.list tEntry) (.list tEntry)
abbrev tRec : Ty := .pair I .str
noncomputable def tyP : TypeId → Option Ty
  | 62 => some (.list tEntry)
  | 69 => some tEntry
  | 147 => some tDelta
  | 105 => some tRec
  | t => tyT t
noncomputable def mpP : TypeId → Option (Ty × Ty)
  | 151 => some (I, .str)
  | t => mpT t
end Go.DI.S

/-! slices.Clone at steps and at changes. -/
set_option linter.unusedVariables false
set_option maxRecDepth 100000
set_option maxHeartbeats 0
namespace Go.DI.S
open Go.Proofs
noncomputable def T_P : Tb := mkTb tyP mpP []
theorem T_P_ok : T_P.Ok CT.P := mkTb_ok trivial
noncomputable def c_132 : Code := Try.f132.body.getD .skip
theorem hb_132 : Try.f132.body = some c_132 := by kernel_rfl
theorem hf_132 : CT.P.funcs[132]? = some Try.f132 := by kernel_rfl
noncomputable def k_132 : CloneCode CT Try.f132 c_132 67 where
  i0 := (partA c_132).1
  i1 := (partB c_132).1
  i2 := (partC c_132).1
  ops0 := (partA c_132).2
  ops1 := (partB c_132).2
  ops2 := (partC c_132).2
  rest := restOf c_132
  code := by kernel_rfl
  s0 := by kernel_rfl
  s1 := by kernel_rfl
  s2 := by kernel_rfl
  o00 := ((partA c_132).2[0]?).getD default
  o10 := ((partB c_132).2[0]?).getD default
  o11 := ((partB c_132).2[1]?).getD default
  o20 := ((partC c_132).2[0]?).getD default
  h00 := by kernel_rfl
  h10 := by kernel_rfl
  h11 := by kernel_rfl
  h20 := by kernel_rfl
  g00 := ⟨by kernel_rfl, by kernel_rfl, by kernel_rfl⟩
  g10 := ⟨by kernel_rfl, by kernel_rfl, by kernel_rfl⟩
  g11 := ⟨by kernel_rfl, by kernel_rfl, by kernel_rfl⟩
  g20 := ⟨by kernel_rfl, by kernel_rfl, by kernel_rfl⟩
  nt := by kernel_rfl
  res := by kernel_rfl
noncomputable def O_132 (l : List (Ty.El tDelta)) : Option (List (Ty.El tDelta)) := bif Nat.ble (l.length * 40) 70368744177664 then some l else none
theorem f_132 (l : List (Ty.El tDelta)) : codeT CT T_P (drT CT T_P) (fun _ _ _ => none) (restOf c_132) ⟨[.lst tDelta l, .any, .nils, .any, .bool false, .any, .any, .any], []⟩ (retO CT 147 tDelta [.tmp 2]) = O_132 l := by kernel_rfl
noncomputable def F_132 (a1 : Ty.El (.list tDelta)) : Option (Els [.list tDelta]) := (O_132 a1).map fun l => (l, ())
noncomputable def E_132 : Ent := .fn 132 [] ⟨[.ty (.list tDelta)], [.list tDelta], fun x => F_132 x.1, false⟩
theorem und_67 : CT.P.underlying 67 = some (.slice 147) := by kernel_rfl
theorem lo_132 : loopsOf (restOf c_132) = [] := by kernel_rfl
theorem e_132 : E_132.Ok CT.P := by
  intro x y h
  have h : F_132 x.1 = some y := h
  unfold F_132 at h
  obtain ⟨l, hl, rfl⟩ := Option.map_eq_some_iff.1 h
  have h1 := clone_own (e := 147) (bt := 147) CT_ok T_P_ok hf_132 hb_132 k_132 und_67 lo_132 (l := x.1) (y := l) ((f_132 x.1).trans hl) (fun h0 => by
    rw [h0] at hl
    exact (Option.some.inj hl).symm)
  exact h1.ownFreeze
noncomputable def c_108 : Code := Try.f108.body.getD .skip
theorem hb_108 : Try.f108.body = some c_108 := by kernel_rfl
theorem hf_108 : CT.P.funcs[108]? = some Try.f108 := by kernel_rfl
noncomputable def k_108 : CloneCode CT Try.f108 c_108 62 where
  i0 := (partA c_108).1
  i1 := (partB c_108).1
  i2 := (partC c_108).1
  ops0 := (partA c_108).2
  ops1 := (partB c_108).2
  ops2 := (partC c_108).2
  rest := restOf c_108
  code := by kernel_rfl
  s0 := by kernel_rfl
  s1 := by kernel_rfl
  s2 := by kernel_rfl
  o00 := ((partA c_108).2[0]?).getD default
  o10 := ((partB c_108).2[0]?).getD default
  o11 := ((partB c_108).2[1]?).getD default
  o20 := ((partC c_108).2[0]?).getD default
  h00 := by kernel_rfl
  h10 := by kernel_rfl
  h11 := by kernel_rfl
  h20 := by kernel_rfl
  g00 := ⟨by kernel_rfl, by kernel_rfl, by kernel_rfl⟩
  g10 := ⟨by kernel_rfl, by kernel_rfl, by kernel_rfl⟩
  g11 := ⟨by kernel_rfl, by kernel_rfl, by kernel_rfl⟩
  g20 := ⟨by kernel_rfl, by kernel_rfl, by kernel_rfl⟩
  nt := by kernel_rfl
  res := by kernel_rfl
noncomputable def F_108 (a1 : Ty.El (.list tEntry)) : Option (List (Ty.El tEntry)) := bif Nat.ble (List.length a1 * 80) 70368744177664 then some a1 else none
theorem f_108 (l : List (Ty.El tEntry)) : codeT CT T_P (drT CT T_P) (fun _ _ _ => none) (restOf c_108) ⟨[.lst tEntry l, .any, .nils, .any, .bool false, .any, .any, .any], []⟩ (retO CT 69 tEntry [.tmp 2]) = F_108 l := by kernel_rfl
noncomputable def E_108 : Ent := .own 108 [] ⟨[.ty (.list tEntry)], 69, tEntry, fun x => F_108 x.1⟩
theorem und_62 : CT.P.underlying 62 = some (.slice 69) := by kernel_rfl
theorem lo_108 : loopsOf (restOf c_108) = [] := by kernel_rfl
theorem e_108 : E_108.Ok CT.P := by
  intro x y h
  have h : F_108 x.1 = some y := h
  exact clone_own (e := 69) (bt := 69) CT_ok T_P_ok hf_108 hb_108 k_108 und_62 lo_108 (l := x.1) (y := y) ((f_108 x.1).trans h) (fun h0 => by
    rw [h0] at h
    exact (Option.some.inj h).symm)
end Go.DI.S

/-! The program's functions, told by functions on data. -/
set_option linter.unusedVariables false
set_option maxRecDepth 100000
set_option maxHeartbeats 0
namespace Go.DI.S
open Go.Proofs
/-! ### 64: maquette/clay.RightEntry -/
noncomputable def c_64 : Code := Try.f64.body.getD .skip
theorem hb_64 : Try.f64.body = some c_64 := by kernel_rfl
theorem hf_64 : CT.P.funcs[64]? = some Try.f64 := by kernel_rfl
noncomputable def T_64 : Tb := mkTb tyP mpP [E_86, E_99]
theorem T_64_ok : T_64.Ok CT.P := mkTb_ok (⟨e_86, e_99, trivial⟩)
noncomputable def l_64_3 : Code := atLoop c_64 3
noncomputable abbrev LD_64_3 : LayD := ⟨118, [(1, .ptr 0), (3, .data I), (9, .data (.list tDelta)), (10, .data I), (11, .data I)], [.var 69 [.data tEntry]], fun s => [slotR s 1]⟩
noncomputable abbrev LA_64_3 : LayD := ⟨118, [(1, .ptr 0)], [.var 69 [.data tEntry]], fun s => [slotR s 1]⟩
noncomputable abbrev LB_64_3 : LayD := ⟨118, [(2, .data .bool)], [], fun _ => []⟩
noncomputable def EX_64_3 : Exits 0 LA_64_3.El LB_64_3.El := ⟨.exit 0, LA_64_3.lay [], .ret, LB_64_3.lay []⟩

noncomputable def lpi_64_3 {β : Type} : LpT β := fun _ _ _ => none
theorem lpi_64_3_ok {β : Type} : LpTOk CT (lpi_64_3 (β := β)) (loopsOf l_64_3) := by
  have h : loopsOf l_64_3 = [] := by kernel_rfl
  rw [h]
  exact LpTOk.nil
noncomputable def G_64_3 (r3 : Ty.El I) (r9 : Ty.El (.list tDelta)) (r10 : Ty.El I) (r11 : Ty.El I) (b0 : Ty.El tEntry × Unit) : Option (LD_64_3.El ⊕ (LA_64_3.El ⊕ LB_64_3.El)) :=
  bif Decidable.decide (r11 < r10) then
    bif Decidable.decide ((0 : Int) ≤ r11 ∧ r11 < (↑(List.length r9) : Int)) then
      bif Decidable.decide ((List.getD r9 (Int.toNat r11) Go.DI.S.tDelta.dflt).fst ≤ r3) then Option.some (Sum.inr (Sum.inr ((Bool.false, ()), ())))
      else
        (F_86 (List.getD r9 (Int.toNat r11) Go.DI.S.tDelta.dflt).fst).bind fun v2 =>
          bif !v2.fst then Option.some (Sum.inr (Sum.inr ((Bool.false, ()), ())))
          else
            bif (List.getD r9 (Int.toNat r11) Go.DI.S.tDelta.dflt).snd.fst == (List.getD r9 (Int.toNat r11) Go.DI.S.tDelta.dflt).snd.snd then
              Option.some (Sum.inr (Sum.inr ((Bool.false, ()), ())))
            else Option.none
    else Option.none
  else Option.some (Sum.inr (Sum.inl (((), ()), (b0.fst, ()), ())))
theorem g_64_3 (x : LD_64_3.El) : codeT CT T_64 (drT CT T_64) lpi_64_3 l_64_3 (LD_64_3.enc x) (bodyK (LD_64_3.lay []) EX_64_3) = G_64_3 x.1.2.1 x.1.2.2.1 x.1.2.2.2.1 x.1.2.2.2.2.1 x.2.1 := by kernel_rfl
noncomputable def R_64_3 : LD_64_3.El → Option (LA_64_3.El ⊕ LB_64_3.El) := roundsT (fun x => G_64_3 x.1.2.1 x.1.2.2.1 x.1.2.2.2.1 x.1.2.2.2.2.1 x.2.1) fuel
theorem r_64_3 : ∀ x y, R_64_3 x = some y → CL CT l_64_3 (LD_64_3.enc x) (Sum.elim (fun _ => EX_64_3.xa) (fun _ => EX_64_3.xb) y) (Sum.elim EX_64_3.la.enc EX_64_3.lb.enc y) :=
  rounds_ok (L := LD_64_3.lay []) (E := EX_64_3) CT_ok T_64_ok (drT_ok CT_ok T_64_ok) lpi_64_3_ok g_64_3 rfl rfl (fun v h => by have hh : (.exit 0 : AX) = .pan v := h; cases hh) (fun v h => by have hh : (.ret : AX) = .pan v := h; cases hh) fuel
noncomputable def lp_64 {β : Type} : LpT β := fun k s K => if Nat.beq k 3 then lpOne (LD_64_3.lay []) EX_64_3 R_64_3 s K else none
theorem lp_64_ok {β : Type} : LpTOk CT (lp_64 (β := β)) (loopsOf c_64) := by
  have h : loopsOf c_64 = [(3, l_64_3)] := by kernel_rfl
  rw [h]
  exact LpTOk.cons (fun s K z h => lpOne_ok r_64_3 h) (LpTOk.nil)
noncomputable def F_64 (a1 : Ty.El tEntry) : Option (Els [.bool]) :=
  (R_64_3 (((), (0 : Int), a1.fst, (↑(List.length a1.fst) : Int), (0 : Int), ()), (a1, ()), ())).bind fun v1 =>
    Sum.elim
      (fun v2 =>
        bif Decidable.decide ((↑(List.length v2.snd.fst.fst.fst) : Int) > (40 : Int)) then Option.some (Bool.false, ())
        else
          bif
              !v2.snd.fst.fst.snd.fst ==
                  !(v2.snd.fst.fst.snd.snd.fst.fst == v2.snd.fst.fst.snd.snd.snd.fst.fst && (v2.snd.fst.fst.snd.snd.fst.snd == v2.snd.fst.fst.snd.snd.snd.fst.snd && Bool.true)) then
            Option.some (Bool.false, ())
          else
            bif !v2.snd.fst.fst.snd.fst then
              bif !(v2.snd.fst.fst.snd.snd.fst.fst == (0 : Int) && (v2.snd.fst.fst.snd.snd.fst.snd == (0 : Int) && Bool.true)) then Option.some (Bool.false, ())
              else
                bif
                    Decidable.decide
                      ((if v2.snd.fst.fst.snd.snd.snd.snd.snd < v2.snd.fst.fst.snd.snd.snd.snd.fst then v2.snd.fst.fst.snd.snd.snd.snd.snd else v2.snd.fst.fst.snd.snd.snd.snd.fst) <
                        (1 : Int)) then
                  Option.some (Bool.false, ())
                else
                  bif
                      Decidable.decide
                        ((if v2.snd.fst.fst.snd.snd.snd.snd.snd > v2.snd.fst.fst.snd.snd.snd.snd.fst then v2.snd.fst.fst.snd.snd.snd.snd.snd
                          else v2.snd.fst.fst.snd.snd.snd.snd.fst) >
                          (1000001 : Int)) then
                    Option.some (Bool.false, ())
                  else
                    (F_99 (v2.snd.fst.fst.snd.snd.fst, [], [])).bind fun v4 =>
                      bif v4.fst then
                        (F_99 (v2.snd.fst.fst.snd.snd.snd.fst, [], [])).bind fun v6 =>
                          bif v6.fst then
                            bif Decidable.decide ((↑(List.length v2.snd.fst.fst.fst) : Int) > (0 : Int)) then Option.some (Bool.true, ())
                            else
                              bif v2.snd.fst.fst.snd.fst then Option.some (Bool.true, ())
                              else Option.some (v2.snd.fst.fst.snd.snd.snd.snd.fst != v2.snd.fst.fst.snd.snd.snd.snd.snd, ())
                          else Option.some (Bool.false, ())
                      else Option.some (Bool.false, ())
            else
              bif
                  Decidable.decide
                    ((if v2.snd.fst.fst.snd.snd.snd.snd.snd < v2.snd.fst.fst.snd.snd.snd.snd.fst then v2.snd.fst.fst.snd.snd.snd.snd.snd else v2.snd.fst.fst.snd.snd.snd.snd.fst) <
                      (1 : Int)) then
                Option.some (Bool.false, ())
              else
                bif
                    Decidable.decide
                      ((if v2.snd.fst.fst.snd.snd.snd.snd.snd > v2.snd.fst.fst.snd.snd.snd.snd.fst then v2.snd.fst.fst.snd.snd.snd.snd.snd else v2.snd.fst.fst.snd.snd.snd.snd.fst) >
                        (1000001 : Int)) then
                  Option.some (Bool.false, ())
                else
                  (F_99 (v2.snd.fst.fst.snd.snd.fst, [], [])).bind fun v8 =>
                    bif v8.fst then
                      (F_99 (v2.snd.fst.fst.snd.snd.snd.fst, [], [])).bind fun v10 =>
                        bif v10.fst then
                          bif Decidable.decide ((↑(List.length v2.snd.fst.fst.fst) : Int) > (0 : Int)) then Option.some (Bool.true, ())
                          else
                            bif v2.snd.fst.fst.snd.fst then Option.some (Bool.true, ())
                            else Option.some (v2.snd.fst.fst.snd.snd.snd.snd.fst != v2.snd.fst.fst.snd.snd.snd.snd.snd, ())
                        else Option.some (Bool.false, ())
                    else Option.some (Bool.false, ()))
      (fun v11 => Option.some (v11.fst.fst, ())) v1
theorem f_64 (x : Ps [.ty tEntry]) : funcT CT T_64 [.bool] (drT CT T_64) lp_64 Try.f64 c_64 (encPs [.ty tEntry] x) = F_64 x.1 := by kernel_rfl
noncomputable def E_64 : Ent := .fn 64 [] ⟨[.ty tEntry], [.bool], fun x => F_64 x.1, false⟩
theorem e_64 : E_64.Ok CT.P := Ent.ofFn CT_ok T_64_ok hf_64 hb_64 lp_64_ok f_64
noncomputable def E_64h : Ent := .fn 64 [] ⟨[.ty tEntry], [.bool], fun x => F_64 x.1, true⟩
/-! ### 116: maquette/past.right$1 -/
noncomputable def c_116 : Code := Try.f116.body.getD .skip
theorem hb_116 : Try.f116.body = some c_116 := by kernel_rfl
theorem hf_116 : CT.P.funcs[116]? = some Try.f116 := by kernel_rfl
noncomputable def T_116 : Tb := mkTb tyP mpP [E_64]
theorem T_116_ok : T_116.Ok CT.P := mkTb_ok (⟨e_64, trivial⟩)
noncomputable def lp_116 {β : Type} : LpT β := fun _ _ _ => none
theorem lp_116_ok {β : Type} : LpTOk CT (lp_116 (β := β)) (loopsOf c_116) := by
  have h : loopsOf c_116 = [] := by kernel_rfl
  rw [h]
  exact LpTOk.nil
noncomputable def F_116 (a1 : Ty.El tEntry) : Option (Els [.bool]) :=
  (F_64 a1).bind fun v2 => Option.some (!v2.fst, ())
theorem f_116 (x : Ps [.ty tEntry]) : funcT CT T_116 [.bool] (drT CT T_116) lp_116 Try.f116 c_116 (encPs [.ty tEntry] x) = F_116 x.1 := by kernel_rfl
noncomputable def E_116 : Ent := .fn 116 [] ⟨[.ty tEntry], [.bool], fun x => F_116 x.1, false⟩
theorem e_116 : E_116.Ok CT.P := Ent.ofFn CT_ok T_116_ok hf_116 hb_116 lp_116_ok f_116
noncomputable def E_116h : Ent := .fn 116 [] ⟨[.ty tEntry], [.bool], fun x => F_116 x.1, true⟩
/-! ### 134: slices.IndexFuncmaquette/api.Entry,maquette/api.Entry -/
noncomputable def c_134 : Code := Try.f134.body.getD .skip
theorem hb_134 : Try.f134.body = some c_134 := by kernel_rfl
theorem hf_134 : CT.P.funcs[134]? = some Try.f134 := by kernel_rfl
noncomputable def T_134 : Tb := mkTb tyP mpP [E_116]
theorem T_134_ok : T_134.Ok CT.P := mkTb_ok (⟨e_116, trivial⟩)
noncomputable def l_134_2 : Code := atLoop c_134 2
noncomputable abbrev LD_134_2 : LayD := ⟨19, [(0, .data (.list tEntry)), (1, .clo 116 []), (7, .data I), (8, .data I)], [], fun _ => []⟩
noncomputable abbrev LA_134_2 : LayD := ⟨19, [], [], fun _ => []⟩
noncomputable abbrev LB_134_2 : LayD := ⟨19, [(4, .data I)], [], fun _ => []⟩
noncomputable def EX_134_2 : Exits 0 LA_134_2.El LB_134_2.El := ⟨.exit 0, LA_134_2.lay [], .ret, LB_134_2.lay []⟩

noncomputable def lpi_134_2 {β : Type} : LpT β := fun _ _ _ => none
theorem lpi_134_2_ok {β : Type} : LpTOk CT (lpi_134_2 (β := β)) (loopsOf l_134_2) := by
  have h : loopsOf l_134_2 = [] := by kernel_rfl
  rw [h]
  exact LpTOk.nil
noncomputable def G_134_2 (r0 : Ty.El (.list tEntry)) (r1 : Els []) (r7 : Ty.El I) (r8 : Ty.El I) : Option (LD_134_2.El ⊕ (LA_134_2.El ⊕ LB_134_2.El)) :=
  bif Decidable.decide (r8 < r7) then
    bif Decidable.decide ((0 : Int) ≤ r8 ∧ r8 < (↑(List.length r0) : Int)) then
      (F_116 (List.getD r0 (Int.toNat r8) Go.DI.S.tEntry.dflt)).bind fun v2 =>
        bif v2.fst then Option.some (Sum.inr (Sum.inr ((r8, ()), ()))) else Option.some (Sum.inl ((r0, (), r7, Go.IntKind.i64.wrap (r8 + (1 : Int)), ()), ()))
    else Option.none
  else Option.some (Sum.inr (Sum.inl ((), ())))
theorem g_134_2 (x : LD_134_2.El) : codeT CT T_134 (drT CT T_134) lpi_134_2 l_134_2 (LD_134_2.enc x) (bodyK (LD_134_2.lay []) EX_134_2) = G_134_2 x.1.1 x.1.2.1 x.1.2.2.1 x.1.2.2.2.1 := by kernel_rfl
noncomputable def R_134_2 : LD_134_2.El → Option (LA_134_2.El ⊕ LB_134_2.El) := roundsT (fun x => G_134_2 x.1.1 x.1.2.1 x.1.2.2.1 x.1.2.2.2.1) fuel
theorem r_134_2 : ∀ x y, R_134_2 x = some y → CL CT l_134_2 (LD_134_2.enc x) (Sum.elim (fun _ => EX_134_2.xa) (fun _ => EX_134_2.xb) y) (Sum.elim EX_134_2.la.enc EX_134_2.lb.enc y) :=
  rounds_ok (L := LD_134_2.lay []) (E := EX_134_2) CT_ok T_134_ok (drT_ok CT_ok T_134_ok) lpi_134_2_ok g_134_2 rfl rfl (fun v h => by have hh : (.exit 0 : AX) = .pan v := h; cases hh) (fun v h => by have hh : (.ret : AX) = .pan v := h; cases hh) fuel
noncomputable def lp_134 {β : Type} : LpT β := fun k s K => if Nat.beq k 2 then lpOne (LD_134_2.lay []) EX_134_2 R_134_2 s K else none
theorem lp_134_ok {β : Type} : LpTOk CT (lp_134 (β := β)) (loopsOf c_134) := by
  have h : loopsOf c_134 = [(2, l_134_2)] := by kernel_rfl
  rw [h]
  exact LpTOk.cons (fun s K z h => lpOne_ok r_134_2 h) (LpTOk.nil)
noncomputable def F_134 (a1 : Ty.El (.list tEntry)) (a2 : Els []) : Option (Els [I]) :=
  (R_134_2 ((a1, (), (↑(List.length a1) : Int), (0 : Int), ()), ())).bind fun v1 => Sum.elim (fun v2 => Option.some ((-1 : Int), ())) (fun v3 => Option.some (v3.fst.fst, ())) v1
theorem f_134 (x : Ps [.ty (.list tEntry), .clo 116 []]) : funcT CT T_134 [I] (drT CT T_134) lp_134 Try.f134 c_134 (encPs [.ty (.list tEntry), .clo 116 []] x) = F_134 x.1 x.2.1 := by kernel_rfl
noncomputable def E_134 : Ent := .fn 134 [116] ⟨[.ty (.list tEntry), .clo 116 []], [I], fun x => F_134 x.1 x.2.1, false⟩
theorem e_134 : E_134.Ok CT.P := Ent.ofFn CT_ok T_134_ok hf_134 hb_134 lp_134_ok f_134
noncomputable def E_134h : Ent := .fn 134 [116] ⟨[.ty (.list tEntry), .clo 116 []], [I], fun x => F_134 x.1 x.2.1, true⟩
/-! ### 115: slices.ContainsFuncmaquette/api.Entry,maquette/api.Entry -/
noncomputable def c_115 : Code := Try.f115.body.getD .skip
theorem hb_115 : Try.f115.body = some c_115 := by kernel_rfl
theorem hf_115 : CT.P.funcs[115]? = some Try.f115 := by kernel_rfl
noncomputable def T_115 : Tb := mkTb tyP mpP [E_134]
theorem T_115_ok : T_115.Ok CT.P := mkTb_ok (⟨e_134, trivial⟩)
noncomputable def lp_115 {β : Type} : LpT β := fun _ _ _ => none
theorem lp_115_ok {β : Type} : LpTOk CT (lp_115 (β := β)) (loopsOf c_115) := by
  have h : loopsOf c_115 = [] := by kernel_rfl
  rw [h]
  exact LpTOk.nil
noncomputable def F_115 (a1 : Ty.El (.list tEntry)) (a2 : Els []) : Option (Els [.bool]) :=
  (F_134 a1 ()).bind fun v2 => Option.some (Decidable.decide (v2.fst ≥ (0 : Int)), ())
theorem f_115 (x : Ps [.ty (.list tEntry), .clo 116 []]) : funcT CT T_115 [.bool] (drT CT T_115) lp_115 Try.f115 c_115 (encPs [.ty (.list tEntry), .clo 116 []] x) = F_115 x.1 x.2.1 := by kernel_rfl
noncomputable def E_115 : Ent := .fn 115 [116] ⟨[.ty (.list tEntry), .clo 116 []], [.bool], fun x => F_115 x.1 x.2.1, false⟩
theorem e_115 : E_115.Ok CT.P := Ent.ofFn CT_ok T_115_ok hf_115 hb_115 lp_115_ok f_115
noncomputable def E_115h : Ent := .fn 115 [116] ⟨[.ty (.list tEntry), .clo 116 []], [.bool], fun x => F_115 x.1 x.2.1, true⟩
/-! ### 72: maquette/past.right -/
noncomputable def c_72 : Code := Try.f72.body.getD .skip
theorem hb_72 : Try.f72.body = some c_72 := by kernel_rfl
theorem hf_72 : CT.P.funcs[72]? = some Try.f72 := by kernel_rfl
noncomputable def T_72 : Tb := mkTb tyP mpP [E_115]
theorem T_72_ok : T_72.Ok CT.P := mkTb_ok (⟨e_115, trivial⟩)
noncomputable def lp_72 {β : Type} : LpT β := fun _ _ _ => none
theorem lp_72_ok {β : Type} : LpTOk CT (lp_72 (β := β)) (loopsOf c_72) := by
  have h : loopsOf c_72 = [] := by kernel_rfl
  rw [h]
  exact LpTOk.nil
noncomputable def F_72 (a1 : Ty.El (.list tEntry)) : Option (Els [.bool]) :=
  bif Decidable.decide ((↑(List.length a1) : Int) ≤ (16 : Int)) then (F_115 a1 ()).bind fun v2 => Option.some (!v2.fst, ()) else Option.some (Bool.false, ())
theorem f_72 (x : Ps [.ty (.list tEntry)]) : funcT CT T_72 [.bool] (drT CT T_72) lp_72 Try.f72 c_72 (encPs [.ty (.list tEntry)] x) = F_72 x.1 := by kernel_rfl
noncomputable def E_72 : Ent := .fn 72 [] ⟨[.ty (.list tEntry)], [.bool], fun x => F_72 x.1, false⟩
theorem e_72 : E_72.Ok CT.P := Ent.ofFn CT_ok T_72_ok hf_72 hb_72 lp_72_ok f_72
noncomputable def E_72h : Ent := .fn 72 [] ⟨[.ty (.list tEntry)], [.bool], fun x => F_72 x.1, true⟩
/-! ### 35: maquette/past.Right -/
noncomputable def c_35 : Code := Try.f35.body.getD .skip
theorem hb_35 : Try.f35.body = some c_35 := by kernel_rfl
theorem hf_35 : CT.P.funcs[35]? = some Try.f35 := by kernel_rfl
noncomputable def T_35 : Tb := mkTb tyP mpP [E_72]
theorem T_35_ok : T_35.Ok CT.P := mkTb_ok (⟨e_72, trivial⟩)
noncomputable def lp_35 {β : Type} : LpT β := fun _ _ _ => none
theorem lp_35_ok {β : Type} : LpTOk CT (lp_35 (β := β)) (loopsOf c_35) := by
  have h : loopsOf c_35 = [] := by kernel_rfl
  rw [h]
  exact LpTOk.nil
noncomputable def F_35 (a1 : Ty.El tPast) : Option (Els [.bool]) :=
  (F_72 a1.fst).bind fun v2 => bif v2.fst then (F_72 a1.snd).bind fun v4 => Option.some (v4.fst, ()) else Option.some (Bool.false, ())
theorem f_35 (x : Ps [.ty tPast]) : funcT CT T_35 [.bool] (drT CT T_35) lp_35 Try.f35 c_35 (encPs [.ty tPast] x) = F_35 x.1 := by kernel_rfl
noncomputable def E_35 : Ent := .fn 35 [] ⟨[.ty tPast], [.bool], fun x => F_35 x.1, false⟩
theorem e_35 : E_35.Ok CT.P := Ent.ofFn CT_ok T_35_ok hf_35 hb_35 lp_35_ok f_35
noncomputable def E_35h : Ent := .fn 35 [] ⟨[.ty tPast], [.bool], fun x => F_35 x.1, true⟩
/-! ### 107: maquette/past.own -/
noncomputable def c_107 : Code := Try.f107.body.getD .skip
theorem hb_107 : Try.f107.body = some c_107 := by kernel_rfl
theorem hf_107 : CT.P.funcs[107]? = some Try.f107 := by kernel_rfl
noncomputable def T_107 : Tb := mkTb tyP mpP [E_132]
theorem T_107_ok : T_107.Ok CT.P := mkTb_ok (⟨e_132, trivial⟩)
noncomputable def l_107_3 : Code := atLoop c_107 3
noncomputable abbrev LD_107_3 : LayD := ⟨22, [(3, .own tEntry 0), (6, .data (.list tEntry)), (7, .data I), (8, .data I)], [.row 69 tEntry], fun s => [slotR s 3]⟩
noncomputable abbrev LA_107_3 : LayD := ⟨22, [(3, .own tEntry 0)], [.row 69 tEntry], fun s => [slotR s 3]⟩
noncomputable abbrev LB_107_3 : LayD := ⟨22, [], [], fun _ => []⟩
noncomputable def EX_107_3 : Exits 0 LA_107_3.El LB_107_3.El := ⟨.exit 0, LA_107_3.lay [.nilReg 3 69 tEntry], .ret, LB_107_3.lay []⟩

noncomputable def lpi_107_3 {β : Type} : LpT β := fun _ _ _ => none
theorem lpi_107_3_ok {β : Type} : LpTOk CT (lpi_107_3 (β := β)) (loopsOf l_107_3) := by
  have h : loopsOf l_107_3 = [] := by kernel_rfl
  rw [h]
  exact LpTOk.nil
noncomputable def G_107_3 (r6 : Ty.El (.list tEntry)) (r7 : Ty.El I) (r8 : Ty.El I) (b0 : List (Ty.El tEntry)) : Option (LD_107_3.El ⊕ (LA_107_3.El ⊕ LB_107_3.El)) :=
  bif Decidable.decide (r8 < r7) then
    bif Decidable.decide ((0 : Int) ≤ r8 ∧ r8 < (↑(List.length r6) : Int)) then
      (F_132 (List.getD r6 (Int.toNat r8) Go.DI.S.tEntry.dflt).fst).bind fun v2 =>
        bif ((b0.length + [(v2.fst, (List.getD r6 (Int.toNat r8) Go.DI.S.tEntry.dflt).snd)].length) * (80 : Nat)).ble (70368744177664 : Nat) then
          Option.some (Sum.inl (((), r6, r7, Go.IntKind.i64.wrap (r8 + (1 : Int)), ()), b0 ++ [(v2.fst, (List.getD r6 (Int.toNat r8) Go.DI.S.tEntry.dflt).snd)], ()))
        else Option.none
    else Option.none
  else Option.some (Sum.inr (Sum.inl (((), ()), b0, ())))
theorem g_107_3 (x : LD_107_3.El) : codeT CT T_107 (drT CT T_107) lpi_107_3 l_107_3 (LD_107_3.enc x) (bodyK (LD_107_3.lay [.nilReg 3 69 tEntry]) EX_107_3) = G_107_3 x.1.2.1 x.1.2.2.1 x.1.2.2.2.1 x.2.1 := by kernel_rfl
noncomputable def R_107_3 : LD_107_3.El → Option (LA_107_3.El ⊕ LB_107_3.El) := roundsT (fun x => G_107_3 x.1.2.1 x.1.2.2.1 x.1.2.2.2.1 x.2.1) fuel
theorem r_107_3 : ∀ x y, R_107_3 x = some y → CL CT l_107_3 (LD_107_3.enc x) (Sum.elim (fun _ => EX_107_3.xa) (fun _ => EX_107_3.xb) y) (Sum.elim EX_107_3.la.enc EX_107_3.lb.enc y) :=
  rounds_ok (L := LD_107_3.lay [.nilReg 3 69 tEntry]) (E := EX_107_3) CT_ok T_107_ok (drT_ok CT_ok T_107_ok) lpi_107_3_ok g_107_3 rfl rfl (fun v h => by have hh : (.exit 0 : AX) = .pan v := h; cases hh) (fun v h => by have hh : (.ret : AX) = .pan v := h; cases hh) fuel
noncomputable def lp_107 {β : Type} : LpT β := fun k s K => if Nat.beq k 3 then lpOne (LD_107_3.lay [.nilReg 3 69 tEntry]) EX_107_3 R_107_3 s K else none
theorem lp_107_ok {β : Type} : LpTOk CT (lp_107 (β := β)) (loopsOf c_107) := by
  have h : loopsOf c_107 = [(3, l_107_3)] := by kernel_rfl
  rw [h]
  exact LpTOk.cons (fun s K z h => lpOne_ok r_107_3 h) (LpTOk.nil)
noncomputable def F_107 (a1 : Ty.El (.list tEntry)) : Option (Els [.list tEntry]) :=
  (R_107_3 (((), a1, (↑(List.length a1) : Int), (0 : Int), ()), [], ())).bind fun v1 => Sum.elim (fun v2 => Option.some (v2.snd.fst, ())) (fun v3 => Option.none) v1
theorem f_107 (x : Ps [.ty (.list tEntry)]) : funcT CT T_107 [.list tEntry] (drT CT T_107) lp_107 Try.f107 c_107 (encPs [.ty (.list tEntry)] x) = F_107 x.1 := by kernel_rfl
noncomputable def E_107 : Ent := .fn 107 [] ⟨[.ty (.list tEntry)], [.list tEntry], fun x => F_107 x.1, false⟩
theorem e_107 : E_107.Ok CT.P := Ent.ofFn CT_ok T_107_ok hf_107 hb_107 lp_107_ok f_107
noncomputable def E_107h : Ent := .fn 107 [] ⟨[.ty (.list tEntry)], [.list tEntry], fun x => F_107 x.1, true⟩
/-! ### 65: maquette/past.more -/
noncomputable def c_65 : Code := Try.f65.body.getD .skip
theorem hb_65 : Try.f65.body = some c_65 := by kernel_rfl
theorem hf_65 : CT.P.funcs[65]? = some Try.f65 := by kernel_rfl
noncomputable def T_65 : Tb := mkTb tyP mpP [E_107, E_108]
theorem T_65_ok : T_65.Ok CT.P := mkTb_ok (⟨e_107, e_108, trivial⟩)
noncomputable def lp_65 {β : Type} : LpT β := fun _ _ _ => none
theorem lp_65_ok {β : Type} : LpTOk CT (lp_65 (β := β)) (loopsOf c_65) := by
  have h : loopsOf c_65 = [] := by kernel_rfl
  rw [h]
  exact LpTOk.nil
noncomputable def F_65 (a1 : Ty.El (.list tEntry)) (a2 : Ty.El tEntry) : Option (Els [.list tEntry]) :=
  (F_108 a1).bind fun v2 =>
    bif ((v2.length + [a2].length) * (80 : Nat)).ble (70368744177664 : Nat) then
      (F_107 (v2 ++ [a2])).bind fun v15 =>
        bif
            Decidable.decide
              (((0 : Int) ≤
                  if (0 : Int) > Go.IntKind.i64.wrap ((↑(List.length v15.fst) : Int) - (16 : Int)) then (0 : Int)
                  else Go.IntKind.i64.wrap ((↑(List.length v15.fst) : Int) - (16 : Int))) ∧
                (if (0 : Int) > Go.IntKind.i64.wrap ((↑(List.length v15.fst) : Int) - (16 : Int)) then (0 : Int)
                  else Go.IntKind.i64.wrap ((↑(List.length v15.fst) : Int) - (16 : Int))) ≤
                  (↑(List.length v15.fst) : Int)) then
          Option.some
            (List.take
                (List.length v15.fst -
                  (if (0 : Int) > Go.IntKind.i64.wrap ((↑(List.length v15.fst) : Int) - (16 : Int)) then (0 : Int)
                    else Go.IntKind.i64.wrap ((↑(List.length v15.fst) : Int) - (16 : Int))).toNat)
                (List.drop
                  (if (0 : Int) > Go.IntKind.i64.wrap ((↑(List.length v15.fst) : Int) - (16 : Int)) then (0 : Int)
                    else Go.IntKind.i64.wrap ((↑(List.length v15.fst) : Int) - (16 : Int))).toNat
                  v15.fst),
              ())
        else Option.none
    else Option.none
theorem f_65 (x : Ps [.ty (.list tEntry), .ty tEntry]) : funcT CT T_65 [.list tEntry] (drT CT T_65) lp_65 Try.f65 c_65 (encPs [.ty (.list tEntry), .ty tEntry] x) = F_65 x.1 x.2.1 := by kernel_rfl
noncomputable def E_65 : Ent := .fn 65 [] ⟨[.ty (.list tEntry), .ty tEntry], [.list tEntry], fun x => F_65 x.1 x.2.1, false⟩
theorem e_65 : E_65.Ok CT.P := Ent.ofFn CT_ok T_65_ok hf_65 hb_65 lp_65_ok f_65
noncomputable def E_65h : Ent := .fn 65 [] ⟨[.ty (.list tEntry), .ty tEntry], [.list tEntry], fun x => F_65 x.1 x.2.1, true⟩
/-! ### 31: maquette/past.Add -/
noncomputable def c_31 : Code := Try.f31.body.getD .skip
theorem hb_31 : Try.f31.body = some c_31 := by kernel_rfl
theorem hf_31 : CT.P.funcs[31]? = some Try.f31 := by kernel_rfl
noncomputable def T_31 : Tb := mkTb tyP mpP [E_35, E_64, E_65]
theorem T_31_ok : T_31.Ok CT.P := mkTb_ok (⟨e_35, e_64, e_65, trivial⟩)
noncomputable def lp_31 {β : Type} : LpT β := fun _ _ _ => none
theorem lp_31_ok {β : Type} : LpTOk CT (lp_31 (β := β)) (loopsOf c_31) := by
  have h : loopsOf c_31 = [] := by kernel_rfl
  rw [h]
  exact LpTOk.nil
noncomputable def F_31 (a1 : Ty.El tPast) (a2 : Ty.El tEntry) : Option (Els [tPast, .bool]) :=
  (F_35 a1).bind fun v2 =>
    bif !v2.fst then Option.some (a1, Bool.false, ())
    else (F_64 a2).bind fun v4 => bif !v4.fst then Option.some (a1, Bool.false, ()) else (F_65 a1.fst a2).bind fun v6 => Option.some ((v6.fst, []), Bool.true, ())
theorem f_31 (x : Ps [.ty tPast, .ty tEntry]) : funcT CT T_31 [tPast, .bool] (drT CT T_31) lp_31 Try.f31 c_31 (encPs [.ty tPast, .ty tEntry] x) = F_31 x.1 x.2.1 := by kernel_rfl
noncomputable def E_31 : Ent := .fn 31 [] ⟨[.ty tPast, .ty tEntry], [tPast, .bool], fun x => F_31 x.1 x.2.1, false⟩
theorem e_31 : E_31.Ok CT.P := Ent.ofFn CT_ok T_31_ok hf_31 hb_31 lp_31_ok f_31
noncomputable def E_31h : Ent := .fn 31 [] ⟨[.ty tPast, .ty tEntry], [tPast, .bool], fun x => F_31 x.1 x.2.1, true⟩
/-! ### 67: maquette/past.pass -/
noncomputable def c_67 : Code := Try.f67.body.getD .skip
theorem hb_67 : Try.f67.body = some c_67 := by kernel_rfl
theorem hf_67 : CT.P.funcs[67]? = some Try.f67 := by kernel_rfl
noncomputable def T_67 : Tb := mkTb tyP mpP [E_65, E_107]
theorem T_67_ok : T_67.Ok CT.P := mkTb_ok (⟨e_65, e_107, trivial⟩)
noncomputable def lp_67 {β : Type} : LpT β := fun _ _ _ => none
theorem lp_67_ok {β : Type} : LpTOk CT (lp_67 (β := β)) (loopsOf c_67) := by
  have h : loopsOf c_67 = [] := by kernel_rfl
  rw [h]
  exact LpTOk.nil
noncomputable def F_67 (a1 : Ty.El (.list tEntry)) (a2 : Ty.El (.list tEntry)) : Option (Els [.list tEntry, .list tEntry]) :=
  bif
      Decidable.decide
        ((0 : Int) ≤ Go.IntKind.i64.wrap ((↑(List.length a1) : Int) - (1 : Int)) ∧ Go.IntKind.i64.wrap ((↑(List.length a1) : Int) - (1 : Int)) ≤ (↑(List.length a1) : Int)) then
    (F_107 (List.take ((Go.IntKind.i64.wrap ((↑(List.length a1) : Int) - (1 : Int))).toNat - (0 : Nat)) (List.drop (0 : Nat) a1))).bind fun v2 =>
      bif
          Decidable.decide
            ((0 : Int) ≤ Go.IntKind.i64.wrap ((↑(List.length a1) : Int) - (1 : Int)) ∧ Go.IntKind.i64.wrap ((↑(List.length a1) : Int) - (1 : Int)) < (↑(List.length a1) : Int)) then
        (F_65 a2 (List.getD a1 (Go.IntKind.i64.wrap ((↑(List.length a1) : Int) - (1 : Int))).toNat Go.DI.S.tEntry.dflt)).bind fun v4 => Option.some (v2.fst, v4.fst, ())
      else Option.none
  else Option.none
theorem f_67 (x : Ps [.ty (.list tEntry), .ty (.list tEntry)]) : funcT CT T_67 [.list tEntry, .list tEntry] (drT CT T_67) lp_67 Try.f67 c_67 (encPs [.ty (.list tEntry), .ty (.list tEntry)] x) = F_67 x.1 x.2.1 := by kernel_rfl
noncomputable def E_67 : Ent := .fn 67 [] ⟨[.ty (.list tEntry), .ty (.list tEntry)], [.list tEntry, .list tEntry], fun x => F_67 x.1 x.2.1, false⟩
theorem e_67 : E_67.Ok CT.P := Ent.ofFn CT_ok T_67_ok hf_67 hb_67 lp_67_ok f_67
noncomputable def E_67h : Ent := .fn 67 [] ⟨[.ty (.list tEntry), .ty (.list tEntry)], [.list tEntry, .list tEntry], fun x => F_67 x.1 x.2.1, true⟩
/-! ### 109: maquette/change.Turn -/
noncomputable def c_109 : Code := Try.f109.body.getD .skip
theorem hb_109 : Try.f109.body = some c_109 := by kernel_rfl
theorem hf_109 : CT.P.funcs[109]? = some Try.f109 := by kernel_rfl
noncomputable def T_109 : Tb := mkTb tyP mpP [E_132]
theorem T_109_ok : T_109.Ok CT.P := mkTb_ok (⟨e_132, trivial⟩)
noncomputable def l_109_3 : Code := atLoop c_109 3
noncomputable abbrev LD_109_3 : LayD := ⟨45, [(1, .ptr 0), (2, .ptr 1), (10, .data (.list tDelta)), (11, .data I), (12, .data I)], [.var 69 [.data tEntry], .var 69 [.data tEntry]], fun s => [slotR s 1, slotR s 2]⟩
noncomputable abbrev LA_109_3 : LayD := ⟨45, [(1, .ptr 0), (2, .ptr 1)], [.var 69 [.data tEntry], .var 69 [.data tEntry]], fun s => [slotR s 1, slotR s 2]⟩
noncomputable abbrev LB_109_3 : LayD := ⟨45, [], [], fun _ => []⟩
noncomputable def EX_109_3 : Exits 0 LA_109_3.El LB_109_3.El := ⟨.exit 0, LA_109_3.lay [], .ret, LB_109_3.lay []⟩

noncomputable def lpi_109_3 {β : Type} : LpT β := fun _ _ _ => none
theorem lpi_109_3_ok {β : Type} : LpTOk CT (lpi_109_3 (β := β)) (loopsOf l_109_3) := by
  have h : loopsOf l_109_3 = [] := by kernel_rfl
  rw [h]
  exact LpTOk.nil
noncomputable def G_109_3 (r10 : Ty.El (.list tDelta)) (r11 : Ty.El I) (r12 : Ty.El I) (b0 : Ty.El tEntry × Unit) (b1 : Ty.El tEntry × Unit) : Option (LD_109_3.El ⊕ (LA_109_3.El ⊕ LB_109_3.El)) :=
  bif Decidable.decide (r12 < r11) then
    bif Decidable.decide ((0 : Int) ≤ r12 ∧ r12 < (↑(List.length r10) : Int)) then
      bif Decidable.decide ((0 : Int) ≤ r12 ∧ r12 < (↑(List.length b0.fst.fst) : Int)) then Option.none else Option.none
    else Option.none
  else Option.some (Sum.inr (Sum.inl (((), (), ()), (b0.fst, ()), (b1.fst, ()), ())))
theorem g_109_3 (x : LD_109_3.El) : codeT CT T_109 (drT CT T_109) lpi_109_3 l_109_3 (LD_109_3.enc x) (bodyK (LD_109_3.lay []) EX_109_3) = G_109_3 x.1.2.2.1 x.1.2.2.2.1 x.1.2.2.2.2.1 x.2.1 x.2.2.1 := by kernel_rfl
noncomputable def R_109_3 : LD_109_3.El → Option (LA_109_3.El ⊕ LB_109_3.El) := roundsT (fun x => G_109_3 x.1.2.2.1 x.1.2.2.2.1 x.1.2.2.2.2.1 x.2.1 x.2.2.1) fuel
theorem r_109_3 : ∀ x y, R_109_3 x = some y → CL CT l_109_3 (LD_109_3.enc x) (Sum.elim (fun _ => EX_109_3.xa) (fun _ => EX_109_3.xb) y) (Sum.elim EX_109_3.la.enc EX_109_3.lb.enc y) :=
  rounds_ok (L := LD_109_3.lay []) (E := EX_109_3) CT_ok T_109_ok (drT_ok CT_ok T_109_ok) lpi_109_3_ok g_109_3 rfl rfl (fun v h => by have hh : (.exit 0 : AX) = .pan v := h; cases hh) (fun v h => by have hh : (.ret : AX) = .pan v := h; cases hh) fuel
noncomputable def lp_109 {β : Type} : LpT β := fun k s K => if Nat.beq k 3 then lpOne (LD_109_3.lay []) EX_109_3 R_109_3 s K else none
theorem lp_109_ok {β : Type} : LpTOk CT (lp_109 (β := β)) (loopsOf c_109) := by
  have h : loopsOf c_109 = [(3, l_109_3)] := by kernel_rfl
  rw [h]
  exact LpTOk.cons (fun s K z h => lpOne_ok r_109_3 h) (LpTOk.nil)
noncomputable def F_109 (a1 : Ty.El tEntry) : Option (Els [tEntry]) :=
  (F_132 a1.fst).bind fun v2 =>
    (R_109_3
          (((), (), v2.fst, (↑(List.length v2.fst) : Int), (0 : Int), ()), ((v2.fst, a1.snd), ()),
            (([], Bool.false, ((0 : Int), (0 : Int)), ((0 : Int), (0 : Int)), (0 : Int), (0 : Int)), ()), ())).bind
      fun v3 =>
      Sum.elim
        (fun v4 =>
          Option.some
            ((v4.snd.fst.fst.fst, v4.snd.fst.fst.snd.fst, v4.snd.fst.fst.snd.snd.snd.fst, v4.snd.fst.fst.snd.snd.fst, v4.snd.fst.fst.snd.snd.snd.snd.snd,
                v4.snd.fst.fst.snd.snd.snd.snd.fst),
              ()))
        (fun v5 => Option.none) v3
theorem f_109 (x : Ps [.ty tEntry]) : funcT CT T_109 [tEntry] (drT CT T_109) lp_109 Try.f109 c_109 (encPs [.ty tEntry] x) = F_109 x.1 := by kernel_rfl
noncomputable def E_109 : Ent := .fn 109 [] ⟨[.ty tEntry], [tEntry], fun x => F_109 x.1, false⟩
theorem e_109 : E_109.Ok CT.P := Ent.ofFn CT_ok T_109_ok hf_109 hb_109 lp_109_ok f_109
noncomputable def E_109h : Ent := .fn 109 [] ⟨[.ty tEntry], [tEntry], fun x => F_109 x.1, true⟩
/-! ### 112: maquette/change.Forth$1 -/
noncomputable def c_112 : Code := Try.f112.body.getD .skip
theorem hb_112 : Try.f112.body = some c_112 := by kernel_rfl
theorem hf_112 : CT.P.funcs[112]? = some Try.f112 := by kernel_rfl
noncomputable def T_112 : Tb := mkTb tyP mpP []
theorem T_112_ok : T_112.Ok CT.P := mkTb_ok (trivial)
noncomputable def lp_112 {β : Type} : LpT β := fun _ _ _ => none
theorem lp_112_ok {β : Type} : LpTOk CT (lp_112 (β := β)) (loopsOf c_112) := by
  have h : loopsOf c_112 = [] := by kernel_rfl
  rw [h]
  exact LpTOk.nil
noncomputable def F_112 (a1 : Ty.El tThing) (a2 : Ty.El tThing) : Option (Els [I]) :=
  Option.some (Go.IntKind.i64.wrap (a1.fst - a2.fst), ())
theorem f_112 (x : Ps [.ty tThing, .ty tThing]) : funcT CT T_112 [I] (drT CT T_112) lp_112 Try.f112 c_112 (encPs [.ty tThing, .ty tThing] x) = F_112 x.1 x.2.1 := by kernel_rfl
noncomputable def E_112 : Ent := .fn 112 [] ⟨[.ty tThing, .ty tThing], [I], fun x => F_112 x.1 x.2.1, false⟩
theorem e_112 : E_112.Ok CT.P := Ent.ofFn CT_ok T_112_ok hf_112 hb_112 lp_112_ok f_112
noncomputable def E_112h : Ent := .fn 112 [] ⟨[.ty tThing, .ty tThing], [I], fun x => F_112 x.1 x.2.1, true⟩
/-! ### 148: slices.insertionSortCmpFuncmaquette/api.Thing -/
noncomputable def c_148 : Code := Try.f148.body.getD .skip
theorem hb_148 : Try.f148.body = some c_148 := by kernel_rfl
theorem hf_148 : CT.P.funcs[148]? = some Try.f148 := by kernel_rfl
noncomputable def T_148 : Tb := mkTb tyP mpP [E_112]
theorem T_148_ok : T_148.Ok CT.P := mkTb_ok (⟨e_112, trivial⟩)
noncomputable def l_148_1 : Code := atLoop c_148 1
noncomputable def l_148_4 : Code := atLoop l_148_1 4
noncomputable abbrev LD_148_4 : LayD := ⟨53, [(0, .data (.list tThing)), (1, .data I), (2, .data I), (3, .clo 112 []), (8, .data I), (9, .data I)], [], fun _ => []⟩
noncomputable abbrev LA_148_4 : LayD := ⟨53, [(0, .data (.list tThing)), (1, .data I), (2, .data I), (3, .clo 112 []), (8, .data I)], [], fun _ => []⟩
noncomputable abbrev LB_148_4 : LayD := ⟨53, [], [], fun _ => []⟩
noncomputable def EX_148_4 : Exits 0 LA_148_4.El LB_148_4.El := ⟨.exit 2, LA_148_4.lay [], .ret, LB_148_4.lay []⟩

noncomputable def lpi_148_4 {β : Type} : LpT β := fun _ _ _ => none
theorem lpi_148_4_ok {β : Type} : LpTOk CT (lpi_148_4 (β := β)) (loopsOf l_148_4) := by
  have h : loopsOf l_148_4 = [] := by kernel_rfl
  rw [h]
  exact LpTOk.nil
noncomputable def G_148_4 (r0 : Ty.El (.list tThing)) (r1 : Ty.El I) (r2 : Ty.El I) (r3 : Els []) (r8 : Ty.El I) (r9 : Ty.El I) : Option (LD_148_4.El ⊕ (LA_148_4.El ⊕ LB_148_4.El)) :=
  bif Decidable.decide (r9 > r1) then
    bif Decidable.decide ((0 : Int) ≤ r9 ∧ r9 < (↑(List.length r0) : Int)) then
      bif Decidable.decide ((0 : Int) ≤ Go.IntKind.i64.wrap (r9 - (1 : Int)) ∧ Go.IntKind.i64.wrap (r9 - (1 : Int)) < (↑(List.length r0) : Int)) then
        (F_112 (List.getD r0 (Int.toNat r9) Go.DI.S.tThing.dflt) (List.getD r0 (Go.IntKind.i64.wrap (r9 - (1 : Int))).toNat Go.DI.S.tThing.dflt)).bind fun v2 =>
          bif Decidable.decide (v2.fst < (0 : Int)) then
            bif Decidable.decide ((0 : Int) ≤ Go.IntKind.i64.wrap (r9 - (1 : Int)) ∧ Go.IntKind.i64.wrap (r9 - (1 : Int)) < (↑(List.length r0) : Int)) then
              bif Decidable.decide ((0 : Int) ≤ r9 ∧ r9 < (↑(List.length r0) : Int)) then
                bif Decidable.decide ((0 : Int) ≤ r9 ∧ r9 < (↑(List.length r0) : Int)) then Option.none else Option.none
              else Option.none
            else Option.none
          else Option.some (Sum.inr (Sum.inl ((r0, r1, r2, (), r8, ()), ())))
      else Option.none
    else Option.none
  else Option.some (Sum.inr (Sum.inl ((r0, r1, r2, (), r8, ()), ())))
theorem g_148_4 (x : LD_148_4.El) : codeT CT T_148 (drT CT T_148) lpi_148_4 l_148_4 (LD_148_4.enc x) (bodyK (LD_148_4.lay []) EX_148_4) = G_148_4 x.1.1 x.1.2.1 x.1.2.2.1 x.1.2.2.2.1 x.1.2.2.2.2.1 x.1.2.2.2.2.2.1 := by kernel_rfl
noncomputable def R_148_4 : LD_148_4.El → Option (LA_148_4.El ⊕ LB_148_4.El) := roundsT (fun x => G_148_4 x.1.1 x.1.2.1 x.1.2.2.1 x.1.2.2.2.1 x.1.2.2.2.2.1 x.1.2.2.2.2.2.1) fuel
theorem r_148_4 : ∀ x y, R_148_4 x = some y → CL CT l_148_4 (LD_148_4.enc x) (Sum.elim (fun _ => EX_148_4.xa) (fun _ => EX_148_4.xb) y) (Sum.elim EX_148_4.la.enc EX_148_4.lb.enc y) :=
  rounds_ok (L := LD_148_4.lay []) (E := EX_148_4) CT_ok T_148_ok (drT_ok CT_ok T_148_ok) lpi_148_4_ok g_148_4 rfl rfl (fun v h => by have hh : (.exit 2 : AX) = .pan v := h; cases hh) (fun v h => by have hh : (.ret : AX) = .pan v := h; cases hh) fuel
noncomputable abbrev LD_148_1 : LayD := ⟨53, [(0, .data (.list tThing)), (1, .data I), (2, .data I), (3, .clo 112 []), (8, .data I)], [], fun _ => []⟩
noncomputable abbrev LA_148_1 : LayD := ⟨53, [], [], fun _ => []⟩
noncomputable abbrev LB_148_1 : LayD := ⟨53, [], [], fun _ => []⟩
noncomputable def EX_148_1 : Exits 0 LA_148_1.El LB_148_1.El := ⟨.exit 0, LA_148_1.lay [], .ret, LB_148_1.lay []⟩

noncomputable def lpi_148_1 {β : Type} : LpT β := fun k s K => if Nat.beq k 4 then lpOne (LD_148_4.lay []) EX_148_4 R_148_4 s K else none
theorem lpi_148_1_ok {β : Type} : LpTOk CT (lpi_148_1 (β := β)) (loopsOf l_148_1) := by
  have h : loopsOf l_148_1 = [(4, l_148_4)] := by kernel_rfl
  rw [h]
  exact LpTOk.cons (fun s K z h => lpOne_ok r_148_4 h) (LpTOk.nil)
noncomputable def G_148_1 (r0 : Ty.El (.list tThing)) (r1 : Ty.El I) (r2 : Ty.El I) (r3 : Els []) (r8 : Ty.El I) : Option (LD_148_1.El ⊕ (LA_148_1.El ⊕ LB_148_1.El)) :=
  bif Decidable.decide (r8 < r2) then
    (R_148_4 ((r0, r1, r2, (), r8, r8, ()), ())).bind fun v1 =>
      Sum.elim (fun v2 => Option.some (Sum.inl ((v2.fst.fst, v2.fst.snd.fst, v2.fst.snd.snd.fst, (), Go.IntKind.i64.wrap (v2.fst.snd.snd.snd.snd.fst + (1 : Int)), ()), ())))
        (fun v3 => Option.some (Sum.inr (Sum.inr ((), ())))) v1
  else Option.some (Sum.inr (Sum.inl ((), ())))
theorem g_148_1 (x : LD_148_1.El) : codeT CT T_148 (drT CT T_148) lpi_148_1 l_148_1 (LD_148_1.enc x) (bodyK (LD_148_1.lay []) EX_148_1) = G_148_1 x.1.1 x.1.2.1 x.1.2.2.1 x.1.2.2.2.1 x.1.2.2.2.2.1 := by kernel_rfl
noncomputable def R_148_1 : LD_148_1.El → Option (LA_148_1.El ⊕ LB_148_1.El) := roundsT (fun x => G_148_1 x.1.1 x.1.2.1 x.1.2.2.1 x.1.2.2.2.1 x.1.2.2.2.2.1) fuel
theorem r_148_1 : ∀ x y, R_148_1 x = some y → CL CT l_148_1 (LD_148_1.enc x) (Sum.elim (fun _ => EX_148_1.xa) (fun _ => EX_148_1.xb) y) (Sum.elim EX_148_1.la.enc EX_148_1.lb.enc y) :=
  rounds_ok (L := LD_148_1.lay []) (E := EX_148_1) CT_ok T_148_ok (drT_ok CT_ok T_148_ok) lpi_148_1_ok g_148_1 rfl rfl (fun v h => by have hh : (.exit 0 : AX) = .pan v := h; cases hh) (fun v h => by have hh : (.ret : AX) = .pan v := h; cases hh) fuel
noncomputable def lp_148 {β : Type} : LpT β := fun k s K => if Nat.beq k 1 then lpOne (LD_148_1.lay []) EX_148_1 R_148_1 s K else none
theorem lp_148_ok {β : Type} : LpTOk CT (lp_148 (β := β)) (loopsOf c_148) := by
  have h : loopsOf c_148 = [(1, l_148_1)] := by kernel_rfl
  rw [h]
  exact LpTOk.cons (fun s K z h => lpOne_ok r_148_1 h) (LpTOk.nil)
noncomputable def F_148 (a1 : Ty.El (.list tThing)) (a2 : Ty.El I) (a3 : Ty.El I) (a4 : Els []) : Option (Els []) :=
  (R_148_1 ((a1, a2, a3, (), Go.IntKind.i64.wrap (a2 + (1 : Int)), ()), ())).bind fun v1 => Sum.elim (fun v2 => Option.some ()) (fun v3 => Option.some ()) v1
theorem f_148 (x : Ps [.ty (.list tThing), .ty I, .ty I, .clo 112 []]) : funcT CT T_148 [] (drT CT T_148) lp_148 Try.f148 c_148 (encPs [.ty (.list tThing), .ty I, .ty I, .clo 112 []] x) = F_148 x.1 x.2.1 x.2.2.1 x.2.2.2.1 := by kernel_rfl
noncomputable def E_148 : Ent := .fn 148 [112] ⟨[.ty (.list tThing), .ty I, .ty I, .clo 112 []], [], fun x => F_148 x.1 x.2.1 x.2.2.1 x.2.2.2.1, false⟩
theorem e_148 : E_148.Ok CT.P := Ent.ofFn CT_ok T_148_ok hf_148 hb_148 lp_148_ok f_148
noncomputable def E_148h : Ent := .fn 148 [112] ⟨[.ty (.list tThing), .ty I, .ty I, .clo 112 []], [], fun x => F_148 x.1 x.2.1 x.2.2.1 x.2.2.2.1, true⟩
/-! ### 144: math/bits.Len32 -/
noncomputable def c_144 : Code := Try.f144.body.getD .skip
theorem hb_144 : Try.f144.body = some c_144 := by kernel_rfl
theorem hf_144 : CT.P.funcs[144]? = some Try.f144 := by kernel_rfl
noncomputable def T_144 : Tb := mkTb tyP mpP []
theorem T_144_ok : T_144.Ok CT.P := mkTb_ok (trivial)
noncomputable def lp_144 {β : Type} : LpT β := fun _ _ _ => none
theorem lp_144_ok {β : Type} : LpTOk CT (lp_144 (β := β)) (loopsOf c_144) := by
  have h : loopsOf c_144 = [] := by kernel_rfl
  rw [h]
  exact LpTOk.nil
noncomputable def F_144 (a1 : Ty.El (.int .u32)) : Option (Els [I]) :=
  funcT CT T_144 [I] (drT CT T_144) lp_144 Try.f144 c_144 (encPs [.ty (.int .u32)] (a1, ()))
theorem f_144 (x : Ps [.ty (.int .u32)]) : funcT CT T_144 [I] (drT CT T_144) lp_144 Try.f144 c_144 (encPs [.ty (.int .u32)] x) = F_144 x.1 := by kernel_rfl
noncomputable def E_144 : Ent := .fn 144 [] ⟨[.ty (.int .u32)], [I], fun x => F_144 x.1, false⟩
theorem e_144 : E_144.Ok CT.P := Ent.ofFn CT_ok T_144_ok hf_144 hb_144 lp_144_ok f_144
noncomputable def E_144h : Ent := .fn 144 [] ⟨[.ty (.int .u32)], [I], fun x => F_144 x.1, true⟩
/-! ### 145: math/bits.Len64 -/
noncomputable def c_145 : Code := Try.f145.body.getD .skip
theorem hb_145 : Try.f145.body = some c_145 := by kernel_rfl
theorem hf_145 : CT.P.funcs[145]? = some Try.f145 := by kernel_rfl
noncomputable def T_145 : Tb := mkTb tyP mpP []
theorem T_145_ok : T_145.Ok CT.P := mkTb_ok (trivial)
noncomputable def lp_145 {β : Type} : LpT β := fun _ _ _ => none
theorem lp_145_ok {β : Type} : LpTOk CT (lp_145 (β := β)) (loopsOf c_145) := by
  have h : loopsOf c_145 = [] := by kernel_rfl
  rw [h]
  exact LpTOk.nil
noncomputable def F_145 (a1 : Ty.El (.int .u64)) : Option (Els [I]) :=
  funcT CT T_145 [I] (drT CT T_145) lp_145 Try.f145 c_145 (encPs [.ty (.int .u64)] (a1, ()))
theorem f_145 (x : Ps [.ty (.int .u64)]) : funcT CT T_145 [I] (drT CT T_145) lp_145 Try.f145 c_145 (encPs [.ty (.int .u64)] x) = F_145 x.1 := by kernel_rfl
noncomputable def E_145 : Ent := .fn 145 [] ⟨[.ty (.int .u64)], [I], fun x => F_145 x.1, false⟩
theorem e_145 : E_145.Ok CT.P := Ent.ofFn CT_ok T_145_ok hf_145 hb_145 lp_145_ok f_145
noncomputable def E_145h : Ent := .fn 145 [] ⟨[.ty (.int .u64)], [I], fun x => F_145 x.1, true⟩
/-! ### 118: math/bits.Len -/
noncomputable def c_118 : Code := Try.f118.body.getD .skip
theorem hb_118 : Try.f118.body = some c_118 := by kernel_rfl
theorem hf_118 : CT.P.funcs[118]? = some Try.f118 := by kernel_rfl
noncomputable def T_118 : Tb := mkTb tyP mpP [E_144, E_145]
theorem T_118_ok : T_118.Ok CT.P := mkTb_ok (⟨e_144, e_145, trivial⟩)
noncomputable def lp_118 {β : Type} : LpT β := fun _ _ _ => none
theorem lp_118_ok {β : Type} : LpTOk CT (lp_118 (β := β)) (loopsOf c_118) := by
  have h : loopsOf c_118 = [] := by kernel_rfl
  rw [h]
  exact LpTOk.nil
noncomputable def F_118 (a1 : Ty.El (.int .u64)) : Option (Els [I]) :=
  (F_145 a1).bind fun v2 => Option.some (v2.fst, ())
theorem f_118 (x : Ps [.ty (.int .u64)]) : funcT CT T_118 [I] (drT CT T_118) lp_118 Try.f118 c_118 (encPs [.ty (.int .u64)] x) = F_118 x.1 := by kernel_rfl
noncomputable def E_118 : Ent := .fn 118 [] ⟨[.ty (.int .u64)], [I], fun x => F_118 x.1, false⟩
theorem e_118 : E_118.Ok CT.P := Ent.ofFn CT_ok T_118_ok hf_118 hb_118 lp_118_ok f_118
noncomputable def E_118h : Ent := .fn 118 [] ⟨[.ty (.int .u64)], [I], fun x => F_118 x.1, true⟩
/-! ### 133: slices.pdqsortCmpFuncmaquette/api.Thing -/
noncomputable def c_133 : Code := Try.f133.body.getD .skip
theorem hb_133 : Try.f133.body = some c_133 := by kernel_rfl
theorem hf_133 : CT.P.funcs[133]? = some Try.f133 := by kernel_rfl
noncomputable def T_133 : Tb := mkTb tyP mpP [E_148]
theorem T_133_ok : T_133.Ok CT.P := mkTb_ok (⟨e_148, trivial⟩)
noncomputable def l_133_2 : Code := atLoop c_133 2
noncomputable abbrev LD_133_2 : LayD := ⟨148, [(0, .data (.list tThing)), (1, .data I), (2, .data I), (3, .data I), (4, .clo 112 []), (10, .data .bool), (11, .data .bool)], [], fun _ => []⟩
noncomputable abbrev LA_133_2 : LayD := ⟨148, [], [], fun _ => []⟩
noncomputable abbrev LB_133_2 : LayD := ⟨148, [], [], fun _ => []⟩
noncomputable def EX_133_2 : Exits 0 LA_133_2.El LB_133_2.El := ⟨.exit 9999, LA_133_2.lay [], .ret, LB_133_2.lay []⟩

noncomputable def lpi_133_2 {β : Type} : LpT β := fun _ _ _ => none
theorem lpi_133_2_ok {β : Type} : LpTOk CT (lpi_133_2 (β := β)) (loopsOf l_133_2) := by
  have h : loopsOf l_133_2 = [] := by kernel_rfl
  rw [h]
  exact LpTOk.nil
noncomputable def G_133_2 (r0 : Ty.El (.list tThing)) (r1 : Ty.El I) (r2 : Ty.El I) (r3 : Ty.El I) (r4 : Els []) (r10 : Ty.El .bool) (r11 : Ty.El .bool) : Option (LD_133_2.El ⊕ (LA_133_2.El ⊕ LB_133_2.El)) :=
  bif Decidable.decide (Go.IntKind.i64.wrap (r2 - r1) ≤ (12 : Int)) then (F_148 r0 r1 r2 ()).bind fun v2 => Option.some (Sum.inr (Sum.inr ((), ())))
  else bif r3 == (0 : Int) then Option.none else bif !r10 then Option.none else Option.none
theorem g_133_2 (x : LD_133_2.El) : codeT CT T_133 (drT CT T_133) lpi_133_2 l_133_2 (LD_133_2.enc x) (bodyK (LD_133_2.lay []) EX_133_2) = G_133_2 x.1.1 x.1.2.1 x.1.2.2.1 x.1.2.2.2.1 x.1.2.2.2.2.1 x.1.2.2.2.2.2.1 x.1.2.2.2.2.2.2.1 := by kernel_rfl
noncomputable def R_133_2 : LD_133_2.El → Option (LA_133_2.El ⊕ LB_133_2.El) := roundsT (fun x => G_133_2 x.1.1 x.1.2.1 x.1.2.2.1 x.1.2.2.2.1 x.1.2.2.2.2.1 x.1.2.2.2.2.2.1 x.1.2.2.2.2.2.2.1) fuel
theorem r_133_2 : ∀ x y, R_133_2 x = some y → CL CT l_133_2 (LD_133_2.enc x) (Sum.elim (fun _ => EX_133_2.xa) (fun _ => EX_133_2.xb) y) (Sum.elim EX_133_2.la.enc EX_133_2.lb.enc y) :=
  rounds_ok (L := LD_133_2.lay []) (E := EX_133_2) CT_ok T_133_ok (drT_ok CT_ok T_133_ok) lpi_133_2_ok g_133_2 rfl rfl (fun v h => by have hh : (.exit 9999 : AX) = .pan v := h; cases hh) (fun v h => by have hh : (.ret : AX) = .pan v := h; cases hh) fuel
noncomputable def lp_133 {β : Type} : LpT β := fun k s K => if Nat.beq k 2 then lpOne (LD_133_2.lay []) EX_133_2 R_133_2 s K else none
theorem lp_133_ok {β : Type} : LpTOk CT (lp_133 (β := β)) (loopsOf c_133) := by
  have h : loopsOf c_133 = [(2, l_133_2)] := by kernel_rfl
  rw [h]
  exact LpTOk.cons (fun s K z h => lpOne_ok r_133_2 h) (LpTOk.nil)
noncomputable def F_133 (a1 : Ty.El (.list tThing)) (a2 : Ty.El I) (a3 : Ty.El I) (a4 : Ty.El I) (a5 : Els []) : Option (Els []) :=
  (R_133_2 ((a1, a2, a3, a4, (), Bool.true, Bool.true, ()), ())).bind fun v1 => Sum.elim (fun v2 => Option.none) (fun v3 => Option.some ()) v1
theorem f_133 (x : Ps [.ty (.list tThing), .ty I, .ty I, .ty I, .clo 112 []]) : funcT CT T_133 [] (drT CT T_133) lp_133 Try.f133 c_133 (encPs [.ty (.list tThing), .ty I, .ty I, .ty I, .clo 112 []] x) = F_133 x.1 x.2.1 x.2.2.1 x.2.2.2.1 x.2.2.2.2.1 := by kernel_rfl
noncomputable def E_133 : Ent := .fn 133 [112] ⟨[.ty (.list tThing), .ty I, .ty I, .ty I, .clo 112 []], [], fun x => F_133 x.1 x.2.1 x.2.2.1 x.2.2.2.1 x.2.2.2.2.1, false⟩
theorem e_133 : E_133.Ok CT.P := Ent.ofFn CT_ok T_133_ok hf_133 hb_133 lp_133_ok f_133
noncomputable def E_133h : Ent := .fn 133 [112] ⟨[.ty (.list tThing), .ty I, .ty I, .ty I, .clo 112 []], [], fun x => F_133 x.1 x.2.1 x.2.2.1 x.2.2.2.1 x.2.2.2.2.1, true⟩
/-! ### 111: slices.SortFuncmaquette/api.Thing,maquette/api.Thing -/
noncomputable def c_111 : Code := Try.f111.body.getD .skip
theorem hb_111 : Try.f111.body = some c_111 := by kernel_rfl
theorem hf_111 : CT.P.funcs[111]? = some Try.f111 := by kernel_rfl
noncomputable def T_111 : Tb := mkTb tyP mpP [E_118, E_133]
theorem T_111_ok : T_111.Ok CT.P := mkTb_ok (⟨e_118, e_133, trivial⟩)
noncomputable def lp_111 {β : Type} : LpT β := fun _ _ _ => none
theorem lp_111_ok {β : Type} : LpTOk CT (lp_111 (β := β)) (loopsOf c_111) := by
  have h : loopsOf c_111 = [] := by kernel_rfl
  rw [h]
  exact LpTOk.nil
noncomputable def F_111 (a1 : Ty.El (.list tThing)) (a2 : Els []) : Option (Els []) :=
  (F_118 (Go.IntKind.u64.wrap (↑(List.length a1) : Int))).bind fun v2 => (F_133 a1 (0 : Int) (↑(List.length a1) : Int) v2.fst ()).bind fun v4 => Option.some ()
theorem f_111 (x : Ps [.ty (.list tThing), .clo 112 []]) : funcT CT T_111 [] (drT CT T_111) lp_111 Try.f111 c_111 (encPs [.ty (.list tThing), .clo 112 []] x) = F_111 x.1 x.2.1 := by kernel_rfl
noncomputable def E_111 : Ent := .fn 111 [112] ⟨[.ty (.list tThing), .clo 112 []], [], fun x => F_111 x.1 x.2.1, false⟩
theorem e_111 : E_111.Ok CT.P := Ent.ofFn CT_ok T_111_ok hf_111 hb_111 lp_111_ok f_111
noncomputable def E_111h : Ent := .fn 111 [112] ⟨[.ty (.list tThing), .clo 112 []], [], fun x => F_111 x.1 x.2.1, true⟩
/-! ### 68: maquette/change.Forth -/
noncomputable def c_68 : Code := Try.f68.body.getD .skip
theorem hb_68 : Try.f68.body = some c_68 := by kernel_rfl
theorem hf_68 : CT.P.funcs[68]? = some Try.f68 := by kernel_rfl
noncomputable def T_68 : Tb := mkTb tyP mpP [E_20, E_46, E_64, E_111]
theorem T_68_ok : T_68.Ok CT.P := mkTb_ok (⟨e_20, e_46, e_64, e_111, trivial⟩)
noncomputable def l_68_25 : Code := atLoop c_68 25
noncomputable def l_68_17 : Code := atLoop c_68 17
noncomputable def l_68_7 : Code := atLoop c_68 7
noncomputable abbrev LD_68_7 : LayD := ⟨132, [(2, .ptr 0), (3, .ptr 1), (4, .ptr 2), (6, .map 3), (46, .data (.list tDelta)), (47, .data I), (48, .data I)], [.var 36 [.data tScene], .var 69 [.data tEntry], .var 36 [.data tScene], .tmap I .str], fun s => [slotR s 2, slotR s 3, slotR s 4, slotR s 6]⟩
noncomputable abbrev LA_68_7 : LayD := ⟨132, [(2, .ptr 0), (3, .ptr 1), (4, .ptr 2), (6, .map 3)], [.var 36 [.data tScene], .var 69 [.data tEntry], .var 36 [.data tScene], .tmap I .str], fun s => [slotR s 2, slotR s 3, slotR s 4, slotR s 6]⟩
noncomputable abbrev LB_68_7 : LayD := ⟨132, [(4, .ptr 0), (5, .data I)], [.var 36 [.data tScene]], fun s => [slotR s 4]⟩
noncomputable def EX_68_7 : Exits 0 LA_68_7.El LB_68_7.El := ⟨.exit 0, LA_68_7.lay [], .ret, LB_68_7.lay []⟩

noncomputable def lpi_68_7 {β : Type} : LpT β := fun _ _ _ => none
theorem lpi_68_7_ok {β : Type} : LpTOk CT (lpi_68_7 (β := β)) (loopsOf l_68_7) := by
  have h : loopsOf l_68_7 = [] := by kernel_rfl
  rw [h]
  exact LpTOk.nil
noncomputable def G_68_7 (r46 : Ty.El (.list tDelta)) (r47 : Ty.El I) (r48 : Ty.El I) (b0 : Ty.El tScene × Unit) (b1 : Ty.El tEntry × Unit) (b2 : Ty.El tScene × Unit) (b3 : List (Ty.El I × Ty.El (.str))) : Option (LD_68_7.El ⊕ (LA_68_7.El ⊕ LB_68_7.El)) :=
  bif Decidable.decide (r48 < r47) then bif Decidable.decide ((0 : Int) ≤ r48 ∧ r48 < (↑(List.length r46) : Int)) then Option.none else Option.none
  else Option.some (Sum.inr (Sum.inl (((), (), (), (), ()), (b0.fst, ()), (b1.fst, ()), (b2.fst, ()), b3, ())))
theorem g_68_7 (x : LD_68_7.El) : codeT CT T_68 (drT CT T_68) lpi_68_7 l_68_7 (LD_68_7.enc x) (bodyK (LD_68_7.lay []) EX_68_7) = G_68_7 x.1.2.2.2.2.1 x.1.2.2.2.2.2.1 x.1.2.2.2.2.2.2.1 x.2.1 x.2.2.1 x.2.2.2.1 x.2.2.2.2.1 := by kernel_rfl
noncomputable def R_68_7 : LD_68_7.El → Option (LA_68_7.El ⊕ LB_68_7.El) := roundsT (fun x => G_68_7 x.1.2.2.2.2.1 x.1.2.2.2.2.2.1 x.1.2.2.2.2.2.2.1 x.2.1 x.2.2.1 x.2.2.2.1 x.2.2.2.2.1) fuel
theorem r_68_7 : ∀ x y, R_68_7 x = some y → CL CT l_68_7 (LD_68_7.enc x) (Sum.elim (fun _ => EX_68_7.xa) (fun _ => EX_68_7.xb) y) (Sum.elim EX_68_7.la.enc EX_68_7.lb.enc y) :=
  rounds_ok (L := LD_68_7.lay []) (E := EX_68_7) CT_ok T_68_ok (drT_ok CT_ok T_68_ok) lpi_68_7_ok g_68_7 rfl rfl (fun v h => by have hh : (.exit 0 : AX) = .pan v := h; cases hh) (fun v h => by have hh : (.ret : AX) = .pan v := h; cases hh) fuel
noncomputable abbrev LD_68_17 : LayD := ⟨132, [(3, .ptr 0), (4, .ptr 1), (6, .map 2), (9, .ptr 3), (77, .data (.list tThing)), (78, .data I), (79, .data I)], [.var 69 [.data tEntry], .var 36 [.data tScene], .tmap I .str, .var 36 [.data tScene]], fun s => [slotR s 3, slotR s 4, slotR s 6, slotR s 9]⟩
noncomputable abbrev LA_68_17 : LayD := ⟨132, [(3, .ptr 0), (4, .ptr 1), (9, .ptr 2)], [.var 69 [.data tEntry], .var 36 [.data tScene], .var 36 [.data tScene]], fun s => [slotR s 3, slotR s 4, slotR s 9]⟩
noncomputable abbrev LB_68_17 : LayD := ⟨132, [], [], fun _ => []⟩
noncomputable def EX_68_17 : Exits 0 LA_68_17.El LB_68_17.El := ⟨.exit 2, LA_68_17.lay [], .ret, LB_68_17.lay []⟩

noncomputable def lpi_68_17 {β : Type} : LpT β := fun _ _ _ => none
theorem lpi_68_17_ok {β : Type} : LpTOk CT (lpi_68_17 (β := β)) (loopsOf l_68_17) := by
  have h : loopsOf l_68_17 = [] := by kernel_rfl
  rw [h]
  exact LpTOk.nil
noncomputable def G_68_17 (r77 : Ty.El (.list tThing)) (r78 : Ty.El I) (r79 : Ty.El I) (b0 : Ty.El tEntry × Unit) (b1 : Ty.El tScene × Unit) (b2 : List (Ty.El I × Ty.El (.str))) (b3 : Ty.El tScene × Unit) : Option (LD_68_17.El ⊕ (LA_68_17.El ⊕ LB_68_17.El)) :=
  bif Decidable.decide (r79 < r78) then
    bif Decidable.decide ((0 : Int) ≤ r79 ∧ r79 < (↑(List.length r77) : Int)) then
      bif !(Go.DI.tget Go.DI.S.I Go.DI.Ty.str (List.getD r77 (Int.toNat r79) Go.DI.S.tThing.dflt).fst b2).isSome then
        (F_46 (List.getD r77 (Int.toNat r79) Go.DI.S.tThing.dflt).snd.snd.snd.snd).bind fun v2 => Option.none
      else Option.some (Sum.inl (((), (), (), (), r77, r78, Go.IntKind.i64.wrap (r79 + (1 : Int)), ()), (b0.fst, ()), (b1.fst, ()), b2, (b3.fst, ()), ()))
    else Option.none
  else Option.some (Sum.inr (Sum.inl (((), (), (), ()), (b0.fst, ()), (b1.fst, ()), (b3.fst, ()), ())))
theorem g_68_17 (x : LD_68_17.El) : codeT CT T_68 (drT CT T_68) lpi_68_17 l_68_17 (LD_68_17.enc x) (bodyK (LD_68_17.lay []) EX_68_17) = G_68_17 x.1.2.2.2.2.1 x.1.2.2.2.2.2.1 x.1.2.2.2.2.2.2.1 x.2.1 x.2.2.1 x.2.2.2.1 x.2.2.2.2.1 := by kernel_rfl
noncomputable def R_68_17 : LD_68_17.El → Option (LA_68_17.El ⊕ LB_68_17.El) := roundsT (fun x => G_68_17 x.1.2.2.2.2.1 x.1.2.2.2.2.2.1 x.1.2.2.2.2.2.2.1 x.2.1 x.2.2.1 x.2.2.2.1 x.2.2.2.2.1) fuel
theorem r_68_17 : ∀ x y, R_68_17 x = some y → CL CT l_68_17 (LD_68_17.enc x) (Sum.elim (fun _ => EX_68_17.xa) (fun _ => EX_68_17.xb) y) (Sum.elim EX_68_17.la.enc EX_68_17.lb.enc y) :=
  rounds_ok (L := LD_68_17.lay []) (E := EX_68_17) CT_ok T_68_ok (drT_ok CT_ok T_68_ok) lpi_68_17_ok g_68_17 rfl rfl (fun v h => by have hh : (.exit 2 : AX) = .pan v := h; cases hh) (fun v h => by have hh : (.ret : AX) = .pan v := h; cases hh) fuel
noncomputable abbrev LD_68_25 : LayD := ⟨132, [(4, .ptr 0), (9, .ptr 1), (104, .data (.list tDelta)), (105, .data I), (106, .data I)], [.var 36 [.data tScene], .var 36 [.data tScene]], fun s => [slotR s 4, slotR s 9]⟩
noncomputable abbrev LA_68_25 : LayD := ⟨132, [(4, .ptr 0), (9, .ptr 1)], [.var 36 [.data tScene], .var 36 [.data tScene]], fun s => [slotR s 4, slotR s 9]⟩
noncomputable abbrev LB_68_25 : LayD := ⟨132, [], [], fun _ => []⟩
noncomputable def EX_68_25 : Exits 0 LA_68_25.El LB_68_25.El := ⟨.exit 4, LA_68_25.lay [], .ret, LB_68_25.lay []⟩

noncomputable def lpi_68_25 {β : Type} : LpT β := fun _ _ _ => none
theorem lpi_68_25_ok {β : Type} : LpTOk CT (lpi_68_25 (β := β)) (loopsOf l_68_25) := by
  have h : loopsOf l_68_25 = [] := by kernel_rfl
  rw [h]
  exact LpTOk.nil
noncomputable def G_68_25 (r104 : Ty.El (.list tDelta)) (r105 : Ty.El I) (r106 : Ty.El I) (b0 : Ty.El tScene × Unit) (b1 : Ty.El tScene × Unit) : Option (LD_68_25.El ⊕ (LA_68_25.El ⊕ LB_68_25.El)) :=
  bif Decidable.decide (r106 < r105) then bif Decidable.decide ((0 : Int) ≤ r106 ∧ r106 < (↑(List.length r104) : Int)) then Option.none else Option.none
  else Option.some (Sum.inr (Sum.inl (((), (), ()), (b0.fst, ()), (b1.fst, ()), ())))
theorem g_68_25 (x : LD_68_25.El) : codeT CT T_68 (drT CT T_68) lpi_68_25 l_68_25 (LD_68_25.enc x) (bodyK (LD_68_25.lay []) EX_68_25) = G_68_25 x.1.2.2.1 x.1.2.2.2.1 x.1.2.2.2.2.1 x.2.1 x.2.2.1 := by kernel_rfl
noncomputable def R_68_25 : LD_68_25.El → Option (LA_68_25.El ⊕ LB_68_25.El) := roundsT (fun x => G_68_25 x.1.2.2.1 x.1.2.2.2.1 x.1.2.2.2.2.1 x.2.1 x.2.2.1) fuel
theorem r_68_25 : ∀ x y, R_68_25 x = some y → CL CT l_68_25 (LD_68_25.enc x) (Sum.elim (fun _ => EX_68_25.xa) (fun _ => EX_68_25.xb) y) (Sum.elim EX_68_25.la.enc EX_68_25.lb.enc y) :=
  rounds_ok (L := LD_68_25.lay []) (E := EX_68_25) CT_ok T_68_ok (drT_ok CT_ok T_68_ok) lpi_68_25_ok g_68_25 rfl rfl (fun v h => by have hh : (.exit 4 : AX) = .pan v := h; cases hh) (fun v h => by have hh : (.ret : AX) = .pan v := h; cases hh) fuel
noncomputable def lp_68 {β : Type} : LpT β := fun k s K => if Nat.beq k 7 then lpOne (LD_68_7.lay []) EX_68_7 R_68_7 s K else if Nat.beq k 17 then lpOne (LD_68_17.lay []) EX_68_17 R_68_17 s K else if Nat.beq k 25 then lpOne (LD_68_25.lay []) EX_68_25 R_68_25 s K else none
theorem lp_68_ok {β : Type} : LpTOk CT (lp_68 (β := β)) (loopsOf c_68) := by
  have h : loopsOf c_68 = [(7, l_68_7), (17, l_68_17), (25, l_68_25)] := by kernel_rfl
  rw [h]
  exact LpTOk.cons (fun s K z h => lpOne_ok r_68_7 h) (LpTOk.cons (fun s K z h => lpOne_ok r_68_17 h) (LpTOk.cons (fun s K z h => lpOne_ok r_68_25 h) (LpTOk.nil)))
noncomputable def F_68 (a1 : Ty.El tScene) (a2 : Ty.El tEntry) : Option (Els [tScene, I]) :=
  (F_20 a1).bind fun v2 =>
    bif !v2.fst then Option.some ((((0 : Int), (0 : Int)), (0 : Int), []), (9 : Int), ())
    else
      (F_64 a2).bind fun v4 =>
        bif !v4.fst then Option.some ((((0 : Int), (0 : Int)), (0 : Int), []), (9 : Int), ())
        else
          bif a1.snd.fst != a2.snd.snd.snd.snd.fst then Option.some ((((0 : Int), (0 : Int)), (0 : Int), []), (14 : Int), ())
          else
            bif a2.snd.fst then
              bif !(a1.fst.fst == a2.snd.snd.fst.fst && (a1.fst.snd == a2.snd.snd.fst.snd && Bool.true)) then Option.some ((((0 : Int), (0 : Int)), (0 : Int), []), (14 : Int), ())
              else
                (R_68_7 (((), (), (), (), a2.fst, (↑(List.length a2.fst) : Int), (0 : Int), ()), (a1, ()), (a2, ()), ((((0 : Int), (0 : Int)), (0 : Int), []), ()), [], ())).bind
                  fun v5 =>
                  Sum.elim
                    (fun v6 =>
                      bif v6.snd.snd.fst.fst.snd.fst then
                        (R_68_17
                              (((), (), (), (), v6.snd.fst.fst.snd.snd, (↑(List.length v6.snd.fst.fst.snd.snd) : Int), (0 : Int), ()), (v6.snd.snd.fst.fst, ()),
                                (v6.snd.snd.snd.fst.fst, ()), v6.snd.snd.snd.snd.fst, ((v6.snd.snd.fst.fst.snd.snd.snd.fst, v6.snd.snd.fst.fst.snd.snd.snd.snd.snd, []), ()),
                                ())).bind
                          fun v7 =>
                          Sum.elim
                            (fun v8 =>
                              (R_68_25
                                    (((), (), v8.snd.fst.fst.fst, (↑(List.length v8.snd.fst.fst.fst) : Int), (0 : Int), ()), (v8.snd.snd.fst.fst, ()), (v8.snd.snd.snd.fst.fst, ()),
                                      ())).bind
                                fun v9 =>
                                Sum.elim
                                  (fun v10 =>
                                    (F_111 v10.snd.snd.fst.fst.snd.snd ()).bind fun v12 =>
                                      (F_20 v10.snd.snd.fst.fst).bind fun v14 =>
                                        bif !v14.fst then Option.some ((((0 : Int), (0 : Int)), (0 : Int), []), (5 : Int), ()) else Option.some (v10.snd.snd.fst.fst, (0 : Int), ()))
                                  (fun v15 => Option.none) v9)
                            (fun v16 => Option.none) v7
                      else
                        (R_68_17
                              (((), (), (), (), v6.snd.fst.fst.snd.snd, (↑(List.length v6.snd.fst.fst.snd.snd) : Int), (0 : Int), ()), (v6.snd.snd.fst.fst, ()),
                                (v6.snd.snd.snd.fst.fst, ()), v6.snd.snd.snd.snd.fst, ((v6.snd.fst.fst.fst, v6.snd.snd.fst.fst.snd.snd.snd.snd.snd, []), ()), ())).bind
                          fun v17 =>
                          Sum.elim
                            (fun v18 =>
                              (R_68_25
                                    (((), (), v18.snd.fst.fst.fst, (↑(List.length v18.snd.fst.fst.fst) : Int), (0 : Int), ()), (v18.snd.snd.fst.fst, ()),
                                      (v18.snd.snd.snd.fst.fst, ()), ())).bind
                                fun v19 =>
                                Sum.elim
                                  (fun v20 =>
                                    (F_111 v20.snd.snd.fst.fst.snd.snd ()).bind fun v22 =>
                                      (F_20 v20.snd.snd.fst.fst).bind fun v24 =>
                                        bif !v24.fst then Option.some ((((0 : Int), (0 : Int)), (0 : Int), []), (5 : Int), ()) else Option.some (v20.snd.snd.fst.fst, (0 : Int), ()))
                                  (fun v25 => Option.none) v19)
                            (fun v26 => Option.none) v17)
                    (fun v27 => Option.some (v27.snd.fst.fst, v27.fst.snd.fst, ())) v5
            else
              (R_68_7 (((), (), (), (), a2.fst, (↑(List.length a2.fst) : Int), (0 : Int), ()), (a1, ()), (a2, ()), ((((0 : Int), (0 : Int)), (0 : Int), []), ()), [], ())).bind
                fun v28 =>
                Sum.elim
                  (fun v29 =>
                    bif v29.snd.snd.fst.fst.snd.fst then
                      (R_68_17
                            (((), (), (), (), v29.snd.fst.fst.snd.snd, (↑(List.length v29.snd.fst.fst.snd.snd) : Int), (0 : Int), ()), (v29.snd.snd.fst.fst, ()),
                              (v29.snd.snd.snd.fst.fst, ()), v29.snd.snd.snd.snd.fst, ((v29.snd.snd.fst.fst.snd.snd.snd.fst, v29.snd.snd.fst.fst.snd.snd.snd.snd.snd, []), ()),
                              ())).bind
                        fun v30 =>
                        Sum.elim
                          (fun v31 =>
                            (R_68_25
                                  (((), (), v31.snd.fst.fst.fst, (↑(List.length v31.snd.fst.fst.fst) : Int), (0 : Int), ()), (v31.snd.snd.fst.fst, ()), (v31.snd.snd.snd.fst.fst, ()),
                                    ())).bind
                              fun v32 =>
                              Sum.elim
                                (fun v33 =>
                                  (F_111 v33.snd.snd.fst.fst.snd.snd ()).bind fun v35 =>
                                    (F_20 v33.snd.snd.fst.fst).bind fun v37 =>
                                      bif !v37.fst then Option.some ((((0 : Int), (0 : Int)), (0 : Int), []), (5 : Int), ()) else Option.some (v33.snd.snd.fst.fst, (0 : Int), ()))
                                (fun v38 => Option.none) v32)
                          (fun v39 => Option.none) v30
                    else
                      (R_68_17
                            (((), (), (), (), v29.snd.fst.fst.snd.snd, (↑(List.length v29.snd.fst.fst.snd.snd) : Int), (0 : Int), ()), (v29.snd.snd.fst.fst, ()),
                              (v29.snd.snd.snd.fst.fst, ()), v29.snd.snd.snd.snd.fst, ((v29.snd.fst.fst.fst, v29.snd.snd.fst.fst.snd.snd.snd.snd.snd, []), ()), ())).bind
                        fun v40 =>
                        Sum.elim
                          (fun v41 =>
                            (R_68_25
                                  (((), (), v41.snd.fst.fst.fst, (↑(List.length v41.snd.fst.fst.fst) : Int), (0 : Int), ()), (v41.snd.snd.fst.fst, ()), (v41.snd.snd.snd.fst.fst, ()),
                                    ())).bind
                              fun v42 =>
                              Sum.elim
                                (fun v43 =>
                                  (F_111 v43.snd.snd.fst.fst.snd.snd ()).bind fun v45 =>
                                    (F_20 v43.snd.snd.fst.fst).bind fun v47 =>
                                      bif !v47.fst then Option.some ((((0 : Int), (0 : Int)), (0 : Int), []), (5 : Int), ()) else Option.some (v43.snd.snd.fst.fst, (0 : Int), ()))
                                (fun v48 => Option.none) v42)
                          (fun v49 => Option.none) v40)
                  (fun v50 => Option.some (v50.snd.fst.fst, v50.fst.snd.fst, ())) v28
theorem f_68 (x : Ps [.ty tScene, .ty tEntry]) : funcT CT T_68 [tScene, I] (drT CT T_68) lp_68 Try.f68 c_68 (encPs [.ty tScene, .ty tEntry] x) = F_68 x.1 x.2.1 := by kernel_rfl
noncomputable def E_68 : Ent := .fn 68 [] ⟨[.ty tScene, .ty tEntry], [tScene, I], fun x => F_68 x.1 x.2.1, false⟩
theorem e_68 : E_68.Ok CT.P := Ent.ofFn CT_ok T_68_ok hf_68 hb_68 lp_68_ok f_68
noncomputable def E_68h : Ent := .fn 68 [] ⟨[.ty tScene, .ty tEntry], [tScene, I], fun x => F_68 x.1 x.2.1, true⟩
/-! ### 66: maquette/change.Back -/
noncomputable def c_66 : Code := Try.f66.body.getD .skip
theorem hb_66 : Try.f66.body = some c_66 := by kernel_rfl
theorem hf_66 : CT.P.funcs[66]? = some Try.f66 := by kernel_rfl
noncomputable def T_66 : Tb := mkTb tyP mpP [E_68, E_109]
theorem T_66_ok : T_66.Ok CT.P := mkTb_ok (⟨e_68, e_109, trivial⟩)
noncomputable def lp_66 {β : Type} : LpT β := fun _ _ _ => none
theorem lp_66_ok {β : Type} : LpTOk CT (lp_66 (β := β)) (loopsOf c_66) := by
  have h : loopsOf c_66 = [] := by kernel_rfl
  rw [h]
  exact LpTOk.nil
noncomputable def F_66 (a1 : Ty.El tScene) (a2 : Ty.El tEntry) : Option (Els [tScene, I]) :=
  (F_109 a2).bind fun v2 => (F_68 a1 v2.fst).bind fun v4 => Option.some (v4.fst, v4.snd.fst, ())
theorem f_66 (x : Ps [.ty tScene, .ty tEntry]) : funcT CT T_66 [tScene, I] (drT CT T_66) lp_66 Try.f66 c_66 (encPs [.ty tScene, .ty tEntry] x) = F_66 x.1 x.2.1 := by kernel_rfl
noncomputable def E_66 : Ent := .fn 66 [] ⟨[.ty tScene, .ty tEntry], [tScene, I], fun x => F_66 x.1 x.2.1, false⟩
theorem e_66 : E_66.Ok CT.P := Ent.ofFn CT_ok T_66_ok hf_66 hb_66 lp_66_ok f_66
noncomputable def E_66h : Ent := .fn 66 [] ⟨[.ty tScene, .ty tEntry], [tScene, I], fun x => F_66 x.1 x.2.1, true⟩
/-! ### 32: maquette/past.Undo -/
noncomputable def c_32 : Code := Try.f32.body.getD .skip
theorem hb_32 : Try.f32.body = some c_32 := by kernel_rfl
theorem hf_32 : CT.P.funcs[32]? = some Try.f32 := by kernel_rfl
noncomputable def T_32 : Tb := mkTb tyP mpP [E_20, E_35, E_66, E_67]
theorem T_32_ok : T_32.Ok CT.P := mkTb_ok (⟨e_20, e_35, e_66, e_67, trivial⟩)
noncomputable def lp_32 {β : Type} : LpT β := fun _ _ _ => none
theorem lp_32_ok {β : Type} : LpTOk CT (lp_32 (β := β)) (loopsOf c_32) := by
  have h : loopsOf c_32 = [] := by kernel_rfl
  rw [h]
  exact LpTOk.nil
noncomputable def F_32 (a1 : Ty.El tPast) (a2 : Ty.El tScene) : Option (Els [tPast, tScene, I]) :=
  (F_35 a1).bind fun v2 =>
    bif !v2.fst then Option.some (a1, a2, (9 : Int), ())
    else
      (F_20 a2).bind fun v4 =>
        bif !v4.fst then Option.some (a1, a2, (9 : Int), ())
        else
          bif (↑(List.length a1.fst) : Int) == (0 : Int) then Option.some (a1, a2, (13 : Int), ())
          else
            bif
                Decidable.decide
                  ((0 : Int) ≤ Go.IntKind.i64.wrap ((↑(List.length a1.fst) : Int) - (1 : Int)) ∧
                    Go.IntKind.i64.wrap ((↑(List.length a1.fst) : Int) - (1 : Int)) < (↑(List.length a1.fst) : Int)) then
              (F_66 a2 (List.getD a1.fst (Go.IntKind.i64.wrap ((↑(List.length a1.fst) : Int) - (1 : Int))).toNat Go.DI.S.tEntry.dflt)).bind fun v6 =>
                bif v6.snd.fst != (0 : Int) then Option.some (a1, a2, v6.snd.fst, ())
                else (F_67 a1.fst a1.snd).bind fun v8 => Option.some ((v8.fst, v8.snd.fst), v6.fst, (0 : Int), ())
            else Option.none
theorem f_32 (x : Ps [.ty tPast, .ty tScene]) : funcT CT T_32 [tPast, tScene, I] (drT CT T_32) lp_32 Try.f32 c_32 (encPs [.ty tPast, .ty tScene] x) = F_32 x.1 x.2.1 := by kernel_rfl
noncomputable def E_32 : Ent := .fn 32 [] ⟨[.ty tPast, .ty tScene], [tPast, tScene, I], fun x => F_32 x.1 x.2.1, false⟩
theorem e_32 : E_32.Ok CT.P := Ent.ofFn CT_ok T_32_ok hf_32 hb_32 lp_32_ok f_32
noncomputable def E_32h : Ent := .fn 32 [] ⟨[.ty tPast, .ty tScene], [tPast, tScene, I], fun x => F_32 x.1 x.2.1, true⟩
/-! ### 69: maquette/past.number -/
noncomputable def c_69 : Code := Try.f69.body.getD .skip
theorem hb_69 : Try.f69.body = some c_69 := by kernel_rfl
theorem hf_69 : CT.P.funcs[69]? = some Try.f69 := by kernel_rfl
noncomputable def T_69 : Tb := mkTb tyP mpP []
theorem T_69_ok : T_69.Ok CT.P := mkTb_ok (trivial)
noncomputable def l_69_3 : Code := atLoop c_69 3
noncomputable abbrev LD_69_3 : LayD := ⟨22, [(0, .data I), (1, .data I), (5, .own (.int .u8) 0)], [.row 5 (.int .u8)], fun s => [slotR s 5]⟩
noncomputable abbrev LA_69_3 : LayD := ⟨22, [(5, .own (.int .u8) 0)], [.row 5 (.int .u8)], fun s => [slotR s 5]⟩
noncomputable abbrev LB_69_3 : LayD := ⟨22, [], [], fun _ => []⟩
noncomputable def EX_69_3 : Exits 0 LA_69_3.El LB_69_3.El := ⟨.exit 0, LA_69_3.lay [.nilReg 5 5 (.int .u8)], .ret, LB_69_3.lay []⟩

noncomputable def lpi_69_3 {β : Type} : LpT β := fun _ _ _ => none
theorem lpi_69_3_ok {β : Type} : LpTOk CT (lpi_69_3 (β := β)) (loopsOf l_69_3) := by
  have h : loopsOf l_69_3 = [] := by kernel_rfl
  rw [h]
  exact LpTOk.nil
noncomputable def G_69_3 (r0 : Ty.El I) (r1 : Ty.El I) (b0 : List (Ty.El (.int .u8))) : Option (LD_69_3.El ⊕ (LA_69_3.El ⊕ LB_69_3.El)) :=
  bif Decidable.decide (r1 ≥ (0 : Int)) then
    bif Decidable.decide (Go.IntKind.i64.wrap ((8 : Int) * r1) < (0 : Int)) then Option.none
    else
      bif
          ((b0.length + [Go.IntKind.u8.wrap (Int.fdiv r0 ((2 : Int) ^ Min.min (Go.IntKind.i64.wrap ((8 : Int) * r1)).toNat (64 : Nat)))].length) * (1 : Nat)).ble
            (70368744177664 : Nat) then
        Option.some
          (Sum.inl
            ((r0, Go.IntKind.i64.wrap (r1 - (1 : Int)), (), ()),
              b0 ++ [Go.IntKind.u8.wrap (Int.fdiv r0 ((2 : Int) ^ Min.min (Go.IntKind.i64.wrap ((8 : Int) * r1)).toNat (64 : Nat)))], ()))
      else Option.none
  else Option.some (Sum.inr (Sum.inl (((), ()), b0, ())))
theorem g_69_3 (x : LD_69_3.El) : codeT CT T_69 (drT CT T_69) lpi_69_3 l_69_3 (LD_69_3.enc x) (bodyK (LD_69_3.lay [.nilReg 5 5 (.int .u8)]) EX_69_3) = G_69_3 x.1.1 x.1.2.1 x.2.1 := by kernel_rfl
noncomputable def R_69_3 : LD_69_3.El → Option (LA_69_3.El ⊕ LB_69_3.El) := roundsT (fun x => G_69_3 x.1.1 x.1.2.1 x.2.1) fuel
theorem r_69_3 : ∀ x y, R_69_3 x = some y → CL CT l_69_3 (LD_69_3.enc x) (Sum.elim (fun _ => EX_69_3.xa) (fun _ => EX_69_3.xb) y) (Sum.elim EX_69_3.la.enc EX_69_3.lb.enc y) :=
  rounds_ok (L := LD_69_3.lay [.nilReg 5 5 (.int .u8)]) (E := EX_69_3) CT_ok T_69_ok (drT_ok CT_ok T_69_ok) lpi_69_3_ok g_69_3 rfl rfl (fun v h => by have hh : (.exit 0 : AX) = .pan v := h; cases hh) (fun v h => by have hh : (.ret : AX) = .pan v := h; cases hh) fuel
noncomputable def lp_69 {β : Type} : LpT β := fun k s K => if Nat.beq k 3 then lpOne (LD_69_3.lay [.nilReg 5 5 (.int .u8)]) EX_69_3 R_69_3 s K else none
theorem lp_69_ok {β : Type} : LpTOk CT (lp_69 (β := β)) (loopsOf c_69) := by
  have h : loopsOf c_69 = [(3, l_69_3)] := by kernel_rfl
  rw [h]
  exact LpTOk.cons (fun s K z h => lpOne_ok r_69_3 h) (LpTOk.nil)
noncomputable def F_69 (a1 : Ty.El I) (a2 : Ty.El I) : Option (Els [.str]) :=
  (R_69_3 ((a1, Go.IntKind.i64.wrap (a2 - (1 : Int)), (), ()), [], ())).bind fun v1 =>
    Sum.elim (fun v2 => Option.some (List.map (fun v3 => UInt8.ofNat (Int.toNat v3)) v2.snd.fst, ())) (fun v4 => Option.none) v1
theorem f_69 (x : Ps [.ty I, .ty I]) : funcT CT T_69 [.str] (drT CT T_69) lp_69 Try.f69 c_69 (encPs [.ty I, .ty I] x) = F_69 x.1 x.2.1 := by kernel_rfl
noncomputable def E_69 : Ent := .fn 69 [] ⟨[.ty I, .ty I], [.str], fun x => F_69 x.1 x.2.1, false⟩
theorem e_69 : E_69.Ok CT.P := Ent.ofFn CT_ok T_69_ok hf_69 hb_69 lp_69_ok f_69
noncomputable def E_69h : Ent := .fn 69 [] ⟨[.ty I, .ty I], [.str], fun x => F_69 x.1 x.2.1, true⟩
/-! ### 113: slices.Growmaquette/api.Entry,maquette/api.Entry -/
noncomputable def c_113 : Code := Try.f113.body.getD .skip
theorem hb_113 : Try.f113.body = some c_113 := by kernel_rfl
theorem hf_113 : CT.P.funcs[113]? = some Try.f113 := by kernel_rfl
noncomputable def T_113 : Tb := mkTb tyP mpP []
theorem T_113_ok : T_113.Ok CT.P := mkTb_ok (trivial)
noncomputable def lp_113 {β : Type} : LpT β := fun _ _ _ => none
theorem lp_113_ok {β : Type} : LpTOk CT (lp_113 (β := β)) (loopsOf c_113) := by
  have h : loopsOf c_113 = [] := by kernel_rfl
  rw [h]
  exact LpTOk.nil
noncomputable def F_113 (a1 : Unit) (a2 : Ty.El I) : Option (List (Ty.El tEntry)) :=
  bif Decidable.decide (a2 < (0 : Int)) then Option.none else bif Decidable.decide (Go.IntKind.i64.wrap (a2 - (0 : Int)) > (0 : Int)) then Option.none else Option.some []
theorem f_113 (x : Ps [.nil, .ty I]) : funcO CT T_113 69 tEntry (drT CT T_113) lp_113 Try.f113 c_113 (encPs [.nil, .ty I] x) = F_113 x.1 x.2.1 := by kernel_rfl
noncomputable def E_113 : Ent := .own 113 [] ⟨[.nil, .ty I], 69, tEntry, fun x => F_113 x.1 x.2.1⟩
theorem e_113 : E_113.Ok CT.P := Ent.ofOwn CT_ok T_113_ok hf_113 hb_113 lp_113_ok f_113
/-! ### 70: slices.Concatmaquette/api.Entry,maquette/api.Entry -/
noncomputable def c_70 : Code := Try.f70.body.getD .skip
theorem hb_70 : Try.f70.body = some c_70 := by kernel_rfl
theorem hf_70 : CT.P.funcs[70]? = some Try.f70 := by kernel_rfl
noncomputable def T_70 : Tb := mkTb tyP mpP [E_113]
theorem T_70_ok : T_70.Ok CT.P := mkTb_ok (⟨e_113, trivial⟩)
noncomputable def l_70_11 : Code := atLoop c_70 11
noncomputable def l_70_3 : Code := atLoop c_70 3
noncomputable abbrev LD_70_3 : LayD := ⟨36, [(0, .data (.list (.list tEntry))), (3, .data I), (9, .data (.list (.list tEntry))), (10, .data I), (11, .data I)], [], fun _ => []⟩
noncomputable abbrev LA_70_3 : LayD := ⟨36, [(0, .data (.list (.list tEntry))), (3, .data I)], [], fun _ => []⟩
noncomputable abbrev LB_70_3 : LayD := ⟨36, [], [], fun _ => []⟩
noncomputable def EX_70_3 : Exits 0 LA_70_3.El LB_70_3.El := ⟨.exit 0, LA_70_3.lay [], .ret, LB_70_3.lay []⟩

noncomputable def lpi_70_3 {β : Type} : LpT β := fun _ _ _ => none
theorem lpi_70_3_ok {β : Type} : LpTOk CT (lpi_70_3 (β := β)) (loopsOf l_70_3) := by
  have h : loopsOf l_70_3 = [] := by kernel_rfl
  rw [h]
  exact LpTOk.nil
noncomputable def G_70_3 (r0 : Ty.El (.list (.list tEntry))) (r3 : Ty.El I) (r9 : Ty.El (.list (.list tEntry))) (r10 : Ty.El I) (r11 : Ty.El I) : Option (LD_70_3.El ⊕ (LA_70_3.El ⊕ LB_70_3.El)) :=
  bif Decidable.decide (r11 < r10) then
    bif Decidable.decide ((0 : Int) ≤ r11 ∧ r11 < (↑(List.length r9) : Int)) then
      bif Decidable.decide (Go.IntKind.i64.wrap (r3 + (↑(List.length (List.getD r9 (Int.toNat r11) Go.DI.S.tEntry.list.dflt)) : Int)) < (0 : Int)) then Option.none
      else
        Option.some
          (Sum.inl
            ((r0, Go.IntKind.i64.wrap (r3 + (↑(List.length (List.getD r9 (Int.toNat r11) Go.DI.S.tEntry.list.dflt)) : Int)), r9, r10, Go.IntKind.i64.wrap (r11 + (1 : Int)), ()), ()))
    else Option.none
  else Option.some (Sum.inr (Sum.inl ((r0, r3, ()), ())))
theorem g_70_3 (x : LD_70_3.El) : codeT CT T_70 (drT CT T_70) lpi_70_3 l_70_3 (LD_70_3.enc x) (bodyK (LD_70_3.lay []) EX_70_3) = G_70_3 x.1.1 x.1.2.1 x.1.2.2.1 x.1.2.2.2.1 x.1.2.2.2.2.1 := by kernel_rfl
noncomputable def R_70_3 : LD_70_3.El → Option (LA_70_3.El ⊕ LB_70_3.El) := roundsT (fun x => G_70_3 x.1.1 x.1.2.1 x.1.2.2.1 x.1.2.2.2.1 x.1.2.2.2.2.1) fuel
theorem r_70_3 : ∀ x y, R_70_3 x = some y → CL CT l_70_3 (LD_70_3.enc x) (Sum.elim (fun _ => EX_70_3.xa) (fun _ => EX_70_3.xb) y) (Sum.elim EX_70_3.la.enc EX_70_3.lb.enc y) :=
  rounds_ok (L := LD_70_3.lay []) (E := EX_70_3) CT_ok T_70_ok (drT_ok CT_ok T_70_ok) lpi_70_3_ok g_70_3 rfl rfl (fun v h => by have hh : (.exit 0 : AX) = .pan v := h; cases hh) (fun v h => by have hh : (.ret : AX) = .pan v := h; cases hh) fuel
noncomputable abbrev LD_70_11 : LayD := ⟨36, [(6, .own tEntry 0), (25, .data (.list (.list tEntry))), (26, .data I), (27, .data I)], [.row 69 tEntry], fun s => [slotR s 6]⟩
noncomputable abbrev LA_70_11 : LayD := ⟨36, [(6, .own tEntry 0)], [.row 69 tEntry], fun s => [slotR s 6]⟩
noncomputable abbrev LB_70_11 : LayD := ⟨36, [], [], fun _ => []⟩
noncomputable def EX_70_11 : Exits 0 LA_70_11.El LB_70_11.El := ⟨.exit 2, LA_70_11.lay [], .ret, LB_70_11.lay []⟩

noncomputable def lpi_70_11 {β : Type} : LpT β := fun _ _ _ => none
theorem lpi_70_11_ok {β : Type} : LpTOk CT (lpi_70_11 (β := β)) (loopsOf l_70_11) := by
  have h : loopsOf l_70_11 = [] := by kernel_rfl
  rw [h]
  exact LpTOk.nil
noncomputable def G_70_11 (r25 : Ty.El (.list (.list tEntry))) (r26 : Ty.El I) (r27 : Ty.El I) (b0 : List (Ty.El tEntry)) : Option (LD_70_11.El ⊕ (LA_70_11.El ⊕ LB_70_11.El)) :=
  bif Decidable.decide (r27 < r26) then
    bif Decidable.decide ((0 : Int) ≤ r27 ∧ r27 < (↑(List.length r25) : Int)) then
      bif ((b0.length + List.length (List.getD r25 (Int.toNat r27) Go.DI.S.tEntry.list.dflt)) * (80 : Nat)).ble (70368744177664 : Nat) then
        Option.some (Sum.inl (((), r25, r26, Go.IntKind.i64.wrap (r27 + (1 : Int)), ()), b0 ++ List.getD r25 (Int.toNat r27) Go.DI.S.tEntry.list.dflt, ()))
      else Option.none
    else Option.none
  else Option.some (Sum.inr (Sum.inl (((), ()), b0, ())))
theorem g_70_11 (x : LD_70_11.El) : codeT CT T_70 (drT CT T_70) lpi_70_11 l_70_11 (LD_70_11.enc x) (bodyK (LD_70_11.lay []) EX_70_11) = G_70_11 x.1.2.1 x.1.2.2.1 x.1.2.2.2.1 x.2.1 := by kernel_rfl
noncomputable def R_70_11 : LD_70_11.El → Option (LA_70_11.El ⊕ LB_70_11.El) := roundsT (fun x => G_70_11 x.1.2.1 x.1.2.2.1 x.1.2.2.2.1 x.2.1) fuel
theorem r_70_11 : ∀ x y, R_70_11 x = some y → CL CT l_70_11 (LD_70_11.enc x) (Sum.elim (fun _ => EX_70_11.xa) (fun _ => EX_70_11.xb) y) (Sum.elim EX_70_11.la.enc EX_70_11.lb.enc y) :=
  rounds_ok (L := LD_70_11.lay []) (E := EX_70_11) CT_ok T_70_ok (drT_ok CT_ok T_70_ok) lpi_70_11_ok g_70_11 rfl rfl (fun v h => by have hh : (.exit 2 : AX) = .pan v := h; cases hh) (fun v h => by have hh : (.ret : AX) = .pan v := h; cases hh) fuel
noncomputable def lp_70 {β : Type} : LpT β := fun k s K => if Nat.beq k 3 then lpOne (LD_70_3.lay []) EX_70_3 R_70_3 s K else if Nat.beq k 11 then lpOne (LD_70_11.lay []) EX_70_11 R_70_11 s K else none
theorem lp_70_ok {β : Type} : LpTOk CT (lp_70 (β := β)) (loopsOf c_70) := by
  have h : loopsOf c_70 = [(3, l_70_3), (11, l_70_11)] := by kernel_rfl
  rw [h]
  exact LpTOk.cons (fun s K z h => lpOne_ok r_70_3 h) (LpTOk.cons (fun s K z h => lpOne_ok r_70_11 h) (LpTOk.nil))
noncomputable def F_70 (a1 : Ty.El (.list (.list tEntry))) : Option (Els [.list tEntry]) :=
  (R_70_3 ((a1, (0 : Int), a1, (↑(List.length a1) : Int), (0 : Int), ()), ())).bind fun v1 =>
    Sum.elim
      (fun v2 =>
        (F_113 () v2.fst.snd.fst).bind fun v4 =>
          (R_70_11 (((), v2.fst.fst, (↑(List.length v2.fst.fst) : Int), (0 : Int), ()), v4, ())).bind fun v5 =>
            Sum.elim (fun v6 => Option.some (v6.snd.fst, ())) (fun v7 => Option.none) v5)
      (fun v8 => Option.none) v1
theorem f_70 (x : Ps [.ty (.list (.list tEntry))]) : funcT CT T_70 [.list tEntry] (drT CT T_70) lp_70 Try.f70 c_70 (encPs [.ty (.list (.list tEntry))] x) = F_70 x.1 := by kernel_rfl
noncomputable def E_70 : Ent := .fn 70 [] ⟨[.ty (.list (.list tEntry))], [.list tEntry], fun x => F_70 x.1, false⟩
theorem e_70 : E_70.Ok CT.P := Ent.ofFn CT_ok T_70_ok hf_70 hb_70 lp_70_ok f_70
noncomputable def E_70h : Ent := .fn 70 [] ⟨[.ty (.list (.list tEntry))], [.list tEntry], fun x => F_70 x.1, true⟩
/-! ### 34: maquette/past.Records -/
noncomputable def c_34 : Code := Try.f34.body.getD .skip
theorem hb_34 : Try.f34.body = some c_34 := by kernel_rfl
theorem hf_34 : CT.P.funcs[34]? = some Try.f34 := by kernel_rfl
noncomputable def T_34 : Tb := mkTb tyP mpP [E_20, E_35, E_69, E_70]
theorem T_34_ok : T_34.Ok CT.P := mkTb_ok (⟨e_20, e_35, e_69, e_70, trivial⟩)
noncomputable def l_34_13 : Code := atLoop c_34 13
noncomputable def l_34_6 : Code := atLoop c_34 6
noncomputable def l_34_16 : Code := atLoop l_34_13 16
noncomputable abbrev LD_34_16 : LayD := ⟨116, [(7, .data (.list tRec)), (12, .data I), (15, .data .str), (79, .data (.list tEntry)), (80, .data I), (81, .data I)], [], fun _ => []⟩
noncomputable abbrev LA_34_16 : LayD := ⟨116, [(7, .data (.list tRec)), (12, .data I), (79, .data (.list tEntry)), (80, .data I), (81, .data I)], [], fun _ => []⟩
noncomputable abbrev LB_34_16 : LayD := ⟨116, [], [], fun _ => []⟩
noncomputable def EX_34_16 : Exits 0 LA_34_16.El LB_34_16.El := ⟨.exit 4, LA_34_16.lay [], .ret, LB_34_16.lay []⟩

noncomputable def lpi_34_16 {β : Type} : LpT β := fun _ _ _ => none
theorem lpi_34_16_ok {β : Type} : LpTOk CT (lpi_34_16 (β := β)) (loopsOf l_34_16) := by
  have h : loopsOf l_34_16 = [] := by kernel_rfl
  rw [h]
  exact LpTOk.nil
noncomputable def G_34_16 (r7 : Ty.El (.list tRec)) (r12 : Ty.El I) (r15 : Ty.El .str) (r79 : Ty.El (.list tEntry)) (r80 : Ty.El I) (r81 : Ty.El I) : Option (LD_34_16.El ⊕ (LA_34_16.El ⊕ LB_34_16.El)) :=
  bif !r15 == [] then
    bif (if (899 : Int) < (↑(List.length r15) : Int) then (899 : Int) else (↑(List.length r15) : Int)) == (↑(List.length r15) : Int) then
      bif
          Decidable.decide
            (((0 : Int) ≤ if (899 : Int) < (↑(List.length r15) : Int) then (899 : Int) else (↑(List.length r15) : Int)) ∧
              (if (899 : Int) < (↑(List.length r15) : Int) then (899 : Int) else (↑(List.length r15) : Int)) ≤ (↑(List.length r15) : Int)) then
        bif
            Decidable.decide
              ((1 : Nat) +
                  (List.take ((if (899 : Int) < (↑(List.length r15) : Int) then (899 : Int) else (↑(List.length r15) : Int)).toNat - (0 : Nat)) (List.drop (0 : Nat) r15)).length ≤
                (4611686018427387904 : Nat)) then
          Option.none
        else Option.none
      else Option.none
    else
      bif
          Decidable.decide
            (((0 : Int) ≤ if (899 : Int) < (↑(List.length r15) : Int) then (899 : Int) else (↑(List.length r15) : Int)) ∧
              (if (899 : Int) < (↑(List.length r15) : Int) then (899 : Int) else (↑(List.length r15) : Int)) ≤ (↑(List.length r15) : Int)) then
        bif
            Decidable.decide
              ((1 : Nat) +
                  (List.take ((if (899 : Int) < (↑(List.length r15) : Int) then (899 : Int) else (↑(List.length r15) : Int)).toNat - (0 : Nat)) (List.drop (0 : Nat) r15)).length ≤
                (4611686018427387904 : Nat)) then
          Option.none
        else Option.none
      else Option.none
  else Option.some (Sum.inr (Sum.inl ((r7, r12, r79, r80, r81, ()), ())))
theorem g_34_16 (x : LD_34_16.El) : codeT CT T_34 (drT CT T_34) lpi_34_16 l_34_16 (LD_34_16.enc x) (bodyK (LD_34_16.lay []) EX_34_16) = G_34_16 x.1.1 x.1.2.1 x.1.2.2.1 x.1.2.2.2.1 x.1.2.2.2.2.1 x.1.2.2.2.2.2.1 := by kernel_rfl
noncomputable def R_34_16 : LD_34_16.El → Option (LA_34_16.El ⊕ LB_34_16.El) := roundsT (fun x => G_34_16 x.1.1 x.1.2.1 x.1.2.2.1 x.1.2.2.2.1 x.1.2.2.2.2.1 x.1.2.2.2.2.2.1) fuel
theorem r_34_16 : ∀ x y, R_34_16 x = some y → CL CT l_34_16 (LD_34_16.enc x) (Sum.elim (fun _ => EX_34_16.xa) (fun _ => EX_34_16.xb) y) (Sum.elim EX_34_16.la.enc EX_34_16.lb.enc y) :=
  rounds_ok (L := LD_34_16.lay []) (E := EX_34_16) CT_ok T_34_ok (drT_ok CT_ok T_34_ok) lpi_34_16_ok g_34_16 rfl rfl (fun v h => by have hh : (.exit 4 : AX) = .pan v := h; cases hh) (fun v h => by have hh : (.ret : AX) = .pan v := h; cases hh) fuel
noncomputable abbrev LD_34_6 : LayD := ⟨116, [(3, .ptr 0), (7, .data (.list tRec)), (55, .data (.list tThing)), (56, .data I), (57, .data I)], [.var 64 [.data tPast]], fun s => [slotR s 3]⟩
noncomputable abbrev LA_34_6 : LayD := ⟨116, [(3, .ptr 0), (7, .data (.list tRec))], [.var 64 [.data tPast]], fun s => [slotR s 3]⟩
noncomputable abbrev LB_34_6 : LayD := ⟨116, [], [], fun _ => []⟩
noncomputable def EX_34_6 : Exits 0 LA_34_6.El LB_34_6.El := ⟨.exit 0, LA_34_6.lay [.frzReg 7 (.list tRec)], .ret, LB_34_6.lay []⟩

noncomputable def lpi_34_6 {β : Type} : LpT β := fun _ _ _ => none
theorem lpi_34_6_ok {β : Type} : LpTOk CT (lpi_34_6 (β := β)) (loopsOf l_34_6) := by
  have h : loopsOf l_34_6 = [] := by kernel_rfl
  rw [h]
  exact LpTOk.nil
noncomputable def G_34_6 (r7 : Ty.El (.list tRec)) (r55 : Ty.El (.list tThing)) (r56 : Ty.El I) (r57 : Ty.El I) (b0 : Ty.El tPast × Unit) : Option (LD_34_6.El ⊕ (LA_34_6.El ⊕ LB_34_6.El)) :=
  bif Decidable.decide (r57 < r56) then bif Decidable.decide ((0 : Int) ≤ r57 ∧ r57 < (↑(List.length r55) : Int)) then Option.none else Option.none
  else Option.some (Sum.inr (Sum.inl (((), r7, ()), (b0.fst, ()), ())))
theorem g_34_6 (x : LD_34_6.El) : codeT CT T_34 (drT CT T_34) lpi_34_6 l_34_6 (LD_34_6.enc x) (bodyK (LD_34_6.lay [.frzReg 7 (.list tRec)]) EX_34_6) = G_34_6 x.1.2.1 x.1.2.2.1 x.1.2.2.2.1 x.1.2.2.2.2.1 x.2.1 := by kernel_rfl
noncomputable def R_34_6 : LD_34_6.El → Option (LA_34_6.El ⊕ LB_34_6.El) := roundsT (fun x => G_34_6 x.1.2.1 x.1.2.2.1 x.1.2.2.2.1 x.1.2.2.2.2.1 x.2.1) fuel
theorem r_34_6 : ∀ x y, R_34_6 x = some y → CL CT l_34_6 (LD_34_6.enc x) (Sum.elim (fun _ => EX_34_6.xa) (fun _ => EX_34_6.xb) y) (Sum.elim EX_34_6.la.enc EX_34_6.lb.enc y) :=
  rounds_ok (L := LD_34_6.lay [.frzReg 7 (.list tRec)]) (E := EX_34_6) CT_ok T_34_ok (drT_ok CT_ok T_34_ok) lpi_34_6_ok g_34_6 rfl rfl (fun v h => by have hh : (.exit 0 : AX) = .pan v := h; cases hh) (fun v h => by have hh : (.ret : AX) = .pan v := h; cases hh) fuel
noncomputable abbrev LD_34_13 : LayD := ⟨116, [(7, .data (.list tRec)), (12, .data I), (79, .data (.list tEntry)), (80, .data I), (81, .data I)], [], fun _ => []⟩
noncomputable abbrev LA_34_13 : LayD := ⟨116, [(7, .data (.list tRec))], [], fun _ => []⟩
noncomputable abbrev LB_34_13 : LayD := ⟨116, [], [], fun _ => []⟩
noncomputable def EX_34_13 : Exits 0 LA_34_13.El LB_34_13.El := ⟨.exit 2, LA_34_13.lay [], .ret, LB_34_13.lay []⟩

noncomputable def lpi_34_13 {β : Type} : LpT β := fun k s K => if Nat.beq k 16 then lpOne (LD_34_16.lay []) EX_34_16 R_34_16 s K else none
theorem lpi_34_13_ok {β : Type} : LpTOk CT (lpi_34_13 (β := β)) (loopsOf l_34_13) := by
  have h : loopsOf l_34_13 = [(16, l_34_16)] := by kernel_rfl
  rw [h]
  exact LpTOk.cons (fun s K z h => lpOne_ok r_34_16 h) (LpTOk.nil)
noncomputable def G_34_13 (r7 : Ty.El (.list tRec)) (r12 : Ty.El I) (r79 : Ty.El (.list tEntry)) (r80 : Ty.El I) (r81 : Ty.El I) : Option (LD_34_13.El ⊕ (LA_34_13.El ⊕ LB_34_13.El)) :=
  bif Decidable.decide (r81 < r80) then bif Decidable.decide ((0 : Int) ≤ r81 ∧ r81 < (↑(List.length r79) : Int)) then Option.none else Option.none
  else Option.some (Sum.inr (Sum.inl ((r7, ()), ())))
theorem g_34_13 (x : LD_34_13.El) : codeT CT T_34 (drT CT T_34) lpi_34_13 l_34_13 (LD_34_13.enc x) (bodyK (LD_34_13.lay []) EX_34_13) = G_34_13 x.1.1 x.1.2.1 x.1.2.2.1 x.1.2.2.2.1 x.1.2.2.2.2.1 := by kernel_rfl
noncomputable def R_34_13 : LD_34_13.El → Option (LA_34_13.El ⊕ LB_34_13.El) := roundsT (fun x => G_34_13 x.1.1 x.1.2.1 x.1.2.2.1 x.1.2.2.2.1 x.1.2.2.2.2.1) fuel
theorem r_34_13 : ∀ x y, R_34_13 x = some y → CL CT l_34_13 (LD_34_13.enc x) (Sum.elim (fun _ => EX_34_13.xa) (fun _ => EX_34_13.xb) y) (Sum.elim EX_34_13.la.enc EX_34_13.lb.enc y) :=
  rounds_ok (L := LD_34_13.lay []) (E := EX_34_13) CT_ok T_34_ok (drT_ok CT_ok T_34_ok) lpi_34_13_ok g_34_13 rfl rfl (fun v h => by have hh : (.exit 2 : AX) = .pan v := h; cases hh) (fun v h => by have hh : (.ret : AX) = .pan v := h; cases hh) fuel
noncomputable def lp_34 {β : Type} : LpT β := fun k s K => if Nat.beq k 6 then lpOne (LD_34_6.lay [.frzReg 7 (.list tRec)]) EX_34_6 R_34_6 s K else if Nat.beq k 13 then lpOne (LD_34_13.lay []) EX_34_13 R_34_13 s K else none
theorem lp_34_ok {β : Type} : LpTOk CT (lp_34 (β := β)) (loopsOf c_34) := by
  have h : loopsOf c_34 = [(6, l_34_6), (13, l_34_13)] := by kernel_rfl
  rw [h]
  exact LpTOk.cons (fun s K z h => lpOne_ok r_34_6 h) (LpTOk.cons (fun s K z h => lpOne_ok r_34_13 h) (LpTOk.nil))
noncomputable def F_34 (a1 : Ty.El tScene) (a2 : Ty.El tPast) : Option (Els [.list tRec, I]) :=
  (F_20 a1).bind fun v2 =>
    bif !v2.fst then Option.some ([], (9 : Int), ())
    else
      (F_35 a2).bind fun v4 =>
        bif !v4.fst then Option.some ([], (9 : Int), ())
        else
          (F_69 a1.fst.fst (8 : Int)).bind fun v6 =>
            (F_69 a1.fst.snd (8 : Int)).bind fun v8 =>
              bif Decidable.decide (List.length v6.fst + List.length v8.fst ≤ (4611686018427387904 : Nat)) then
                (F_69 a1.snd.fst (4 : Int)).bind fun v10 =>
                  bif Decidable.decide ((v6.fst ++ v8.fst).length + List.length v10.fst ≤ (4611686018427387904 : Nat)) then
                    bif
                        Decidable.decide
                          ((v6.fst ++ v8.fst ++ v10.fst).length +
                              (List.map (fun v11 => UInt8.ofNat v11.toNat)
                                  [Go.IntKind.u8.wrap (↑(List.length a2.fst) : Int), Go.IntKind.u8.wrap (↑(List.length a2.snd) : Int)]).length ≤
                            (4611686018427387904 : Nat)) then
                      (R_34_6
                            (((),
                                [((0 : Int),
                                    v6.fst ++ v8.fst ++ v10.fst ++
                                      List.map (fun v13 => UInt8.ofNat v13.toNat)
                                        [Go.IntKind.u8.wrap (↑(List.length a2.fst) : Int), Go.IntKind.u8.wrap (↑(List.length a2.snd) : Int)])],
                                a1.snd.snd, (↑(List.length a1.snd.snd) : Int), (0 : Int), ()),
                              (a2, ()), ())).bind
                        fun v14 =>
                        Sum.elim
                          (fun v15 =>
                            (F_70 [v15.snd.fst.fst.fst, v15.snd.fst.fst.snd]).bind fun v17 =>
                              (R_34_13 ((v15.fst.snd.fst, (2000000 : Int), v17.fst, (↑(List.length v17.fst) : Int), (0 : Int), ()), ())).bind fun v18 =>
                                Sum.elim (fun v19 => Option.some (v19.fst.fst, (0 : Int), ())) (fun v20 => Option.none) v18)
                          (fun v21 => Option.none) v14
                    else Option.none
                  else Option.none
              else Option.none
theorem f_34 (x : Ps [.ty tScene, .ty tPast]) : funcT CT T_34 [.list tRec, I] (drT CT T_34) lp_34 Try.f34 c_34 (encPs [.ty tScene, .ty tPast] x) = F_34 x.1 x.2.1 := by kernel_rfl
noncomputable def E_34 : Ent := .fn 34 [] ⟨[.ty tScene, .ty tPast], [.list tRec, I], fun x => F_34 x.1 x.2.1, false⟩
theorem e_34 : E_34.Ok CT.P := Ent.ofFn CT_ok T_34_ok hf_34 hb_34 lp_34_ok f_34
noncomputable def E_34h : Ent := .fn 34 [] ⟨[.ty tScene, .ty tPast], [.list tRec, I], fun x => F_34 x.1 x.2.1, true⟩
/-! ### 30: maquette/maquettelaw23.alive -/
noncomputable def c_30 : Code := Try.f30.body.getD .skip
theorem hb_30 : Try.f30.body = some c_30 := by kernel_rfl
theorem hf_30 : CT.P.funcs[30]? = some Try.f30 := by kernel_rfl
noncomputable def T_30 : Tb := mkTb tyP mpP [E_19, E_31, E_32, E_34]
theorem T_30_ok : T_30.Ok CT.P := mkTb_ok (⟨e_19, e_31, e_32, e_34, trivial⟩)
noncomputable def lp_30 {β : Type} : LpT β := fun _ _ _ => none
theorem lp_30_ok {β : Type} : LpTOk CT (lp_30 (β := β)) (loopsOf c_30) := by
  have h : loopsOf c_30 = [] := by kernel_rfl
  rw [h]
  exact LpTOk.nil
noncomputable def F_30  : Option (Els [.bool]) :=
  (F_31 ([], []) ([], Bool.false, ((0 : Int), (0 : Int)), ((0 : Int), (0 : Int)), (1 : Int), (2 : Int))).bind fun v2 =>
    F_19.bind fun v4 =>
      (F_32 v2.fst (v4.fst.fst, (2 : Int), v4.fst.snd.snd)).bind fun v6 =>
        (F_32 v6.fst v6.snd.fst).bind fun v8 =>
          F_19.bind fun v10 =>
            (F_34 v10.fst ([], [])).bind fun v12 =>
              bif v2.snd.fst then
                bif v6.snd.snd.fst == (0 : Int) then
                  bif (↑(List.length v6.fst.snd) : Int) == (1 : Int) then
                    bif v6.snd.fst.snd.fst == (1 : Int) then
                      bif v8.snd.snd.fst == (13 : Int) then
                        bif v12.snd.fst == (0 : Int) then
                          bif (↑(List.length v12.fst) : Int) == (1 : Int) then
                            bif Decidable.decide ((0 : Int) ≤ (0 : Int) ∧ (0 : Int) < (↑(List.length v12.fst) : Int)) then
                              Option.some ((↑(List.length (List.getD v12.fst (0 : Nat) Go.DI.S.tRec.dflt).snd) : Int) == (22 : Int), ())
                            else Option.none
                          else Option.some (Bool.false, ())
                        else Option.some (Bool.false, ())
                      else Option.some (Bool.false, ())
                    else Option.some (Bool.false, ())
                  else Option.some (Bool.false, ())
                else Option.some (Bool.false, ())
              else Option.some (Bool.false, ())
theorem f_30 (x : Ps []) : funcT CT T_30 [.bool] (drT CT T_30) lp_30 Try.f30 c_30 (encPs [] x) = F_30 := by kernel_rfl
noncomputable def E_30 : Ent := .fn 30 [] ⟨[], [.bool], fun x => F_30, false⟩
theorem e_30 : E_30.Ok CT.P := Ent.ofFn CT_ok T_30_ok hf_30 hb_30 lp_30_ok f_30
noncomputable def E_30h : Ent := .fn 30 [] ⟨[], [.bool], fun x => F_30, true⟩
/-! ### 8: maquette/maquettelaw23.PastBound -/
noncomputable def c_8 : Code := Try.f8.body.getD .skip
theorem hb_8 : Try.f8.body = some c_8 := by kernel_rfl
theorem hf_8 : CT.P.funcs[8]? = some Try.f8 := by kernel_rfl
noncomputable def T_8 : Tb := mkTb tyP mpP [E_30, E_31]
theorem T_8_ok : T_8.Ok CT.P := mkTb_ok (⟨e_30, e_31, trivial⟩)
noncomputable def l_8_14 : Code := atLoop c_8 14
noncomputable def l_8_5 : Code := atLoop c_8 5
noncomputable abbrev LD_8_5 : LayD := ⟨71, [(0, .data I), (3, .ptr 0), (4, .data I)], [.var 64 [.data tPast]], fun s => [slotR s 3]⟩
noncomputable abbrev LA_8_5 : LayD := ⟨71, [(0, .data I), (3, .ptr 0)], [.var 64 [.data tPast]], fun s => [slotR s 3]⟩
noncomputable abbrev LB_8_5 : LayD := ⟨71, [(2, .data .bool)], [], fun _ => []⟩
noncomputable def EX_8_5 : Exits 0 LA_8_5.El LB_8_5.El := ⟨.exit 0, LA_8_5.lay [], .ret, LB_8_5.lay []⟩

noncomputable def lpi_8_5 {β : Type} : LpT β := fun _ _ _ => none
theorem lpi_8_5_ok {β : Type} : LpTOk CT (lpi_8_5 (β := β)) (loopsOf l_8_5) := by
  have h : loopsOf l_8_5 = [] := by kernel_rfl
  rw [h]
  exact LpTOk.nil
noncomputable def G_8_5 (r0 : Ty.El I) (r4 : Ty.El I) (b0 : Ty.El tPast × Unit) : Option (LD_8_5.El ⊕ (LA_8_5.El ⊕ LB_8_5.El)) :=
  bif Decidable.decide (r4 ≤ r0) then
    (F_31 b0.fst ([], Bool.false, ((0 : Int), (0 : Int)), ((0 : Int), (0 : Int)), r4, Go.IntKind.i64.wrap (r4 + (1 : Int)))).bind fun v2 =>
      bif !v2.snd.fst then Option.some (Sum.inr (Sum.inr ((Bool.false, ()), ()))) else Option.some (Sum.inl ((r0, (), Go.IntKind.i64.wrap (r4 + (1 : Int)), ()), (v2.fst, ()), ()))
  else Option.some (Sum.inr (Sum.inl ((r0, (), ()), (b0.fst, ()), ())))
theorem g_8_5 (x : LD_8_5.El) : codeT CT T_8 (drT CT T_8) lpi_8_5 l_8_5 (LD_8_5.enc x) (bodyK (LD_8_5.lay []) EX_8_5) = G_8_5 x.1.1 x.1.2.2.1 x.2.1 := by kernel_rfl
noncomputable def R_8_5 : LD_8_5.El → Option (LA_8_5.El ⊕ LB_8_5.El) := roundsT (fun x => G_8_5 x.1.1 x.1.2.2.1 x.2.1) fuel
theorem r_8_5 : ∀ x y, R_8_5 x = some y → CL CT l_8_5 (LD_8_5.enc x) (Sum.elim (fun _ => EX_8_5.xa) (fun _ => EX_8_5.xb) y) (Sum.elim EX_8_5.la.enc EX_8_5.lb.enc y) :=
  rounds_ok (L := LD_8_5.lay []) (E := EX_8_5) CT_ok T_8_ok (drT_ok CT_ok T_8_ok) lpi_8_5_ok g_8_5 rfl rfl (fun v h => by have hh : (.exit 0 : AX) = .pan v := h; cases hh) (fun v h => by have hh : (.ret : AX) = .pan v := h; cases hh) fuel
noncomputable abbrev LD_8_14 : LayD := ⟨71, [(0, .data I), (3, .ptr 0), (51, .data I), (52, .data I)], [.var 64 [.data tPast]], fun s => [slotR s 3]⟩
noncomputable abbrev LA_8_14 : LayD := ⟨71, [], [], fun _ => []⟩
noncomputable abbrev LB_8_14 : LayD := ⟨71, [(2, .data .bool)], [], fun _ => []⟩
noncomputable def EX_8_14 : Exits 0 LA_8_14.El LB_8_14.El := ⟨.exit 2, LA_8_14.lay [], .ret, LB_8_14.lay []⟩

noncomputable def lpi_8_14 {β : Type} : LpT β := fun _ _ _ => none
theorem lpi_8_14_ok {β : Type} : LpTOk CT (lpi_8_14 (β := β)) (loopsOf l_8_14) := by
  have h : loopsOf l_8_14 = [] := by kernel_rfl
  rw [h]
  exact LpTOk.nil
noncomputable def G_8_14 (r0 : Ty.El I) (r51 : Ty.El I) (r52 : Ty.El I) (b0 : Ty.El tPast × Unit) : Option (LD_8_14.El ⊕ (LA_8_14.El ⊕ LB_8_14.El)) :=
  bif Decidable.decide (r52 < r51) then
    bif Decidable.decide ((0 : Int) ≤ r52 ∧ r52 < (↑(List.length b0.fst.fst) : Int)) then
      bif
          (List.getD b0.fst.fst (Int.toNat r52) Go.DI.S.tEntry.dflt).snd.snd.snd.snd.fst !=
            Go.IntKind.i64.wrap (Go.IntKind.i64.wrap (Go.IntKind.i64.wrap (r0 - (↑(List.length b0.fst.fst) : Int)) + (1 : Int)) + r52) then
        Option.some (Sum.inr (Sum.inr ((Bool.false, ()), ())))
      else Option.some (Sum.inl ((r0, (), r51, Go.IntKind.i64.wrap (r52 + (1 : Int)), ()), (b0.fst, ()), ()))
    else Option.none
  else Option.some (Sum.inr (Sum.inl ((), ())))
theorem g_8_14 (x : LD_8_14.El) : codeT CT T_8 (drT CT T_8) lpi_8_14 l_8_14 (LD_8_14.enc x) (bodyK (LD_8_14.lay []) EX_8_14) = G_8_14 x.1.1 x.1.2.2.1 x.1.2.2.2.1 x.2.1 := by kernel_rfl
noncomputable def R_8_14 : LD_8_14.El → Option (LA_8_14.El ⊕ LB_8_14.El) := roundsT (fun x => G_8_14 x.1.1 x.1.2.2.1 x.1.2.2.2.1 x.2.1) fuel
theorem r_8_14 : ∀ x y, R_8_14 x = some y → CL CT l_8_14 (LD_8_14.enc x) (Sum.elim (fun _ => EX_8_14.xa) (fun _ => EX_8_14.xb) y) (Sum.elim EX_8_14.la.enc EX_8_14.lb.enc y) :=
  rounds_ok (L := LD_8_14.lay []) (E := EX_8_14) CT_ok T_8_ok (drT_ok CT_ok T_8_ok) lpi_8_14_ok g_8_14 rfl rfl (fun v h => by have hh : (.exit 2 : AX) = .pan v := h; cases hh) (fun v h => by have hh : (.ret : AX) = .pan v := h; cases hh) fuel
noncomputable def lp_8 {β : Type} : LpT β := fun k s K => if Nat.beq k 5 then lpOne (LD_8_5.lay []) EX_8_5 R_8_5 s K else if Nat.beq k 14 then lpOne (LD_8_14.lay []) EX_8_14 R_8_14 s K else none
theorem lp_8_ok {β : Type} : LpTOk CT (lp_8 (β := β)) (loopsOf c_8) := by
  have h : loopsOf c_8 = [(5, l_8_5), (14, l_8_14)] := by kernel_rfl
  rw [h]
  exact LpTOk.cons (fun s K z h => lpOne_ok r_8_5 h) (LpTOk.cons (fun s K z h => lpOne_ok r_8_14 h) (LpTOk.nil))
noncomputable def F_8 (a1 : Ty.El I) : Option (Els [.bool]) :=
  bif Decidable.decide (a1 < (0 : Int)) then F_30.bind fun v2 => Option.some (v2.fst, ())
  else
    bif Decidable.decide (a1 > (60 : Int)) then F_30.bind fun v4 => Option.some (v4.fst, ())
    else
      F_30.bind fun v6 =>
        bif !v6.fst then F_30.bind fun v8 => Option.some (v8.fst, ())
        else
          (R_8_5 ((a1, (), (1 : Int), ()), (([], []), ()), ())).bind fun v9 =>
            Sum.elim
              (fun v10 =>
                bif (↑(List.length v10.snd.fst.fst.fst) : Int) != if (16 : Int) < v10.fst.fst then (16 : Int) else v10.fst.fst then Option.some (Bool.false, ())
                else
                  bif (↑(List.length v10.snd.fst.fst.snd) : Int) != (0 : Int) then Option.some (Bool.false, ())
                  else
                    (R_8_14 ((v10.fst.fst, (), (↑(List.length v10.snd.fst.fst.fst) : Int), (0 : Int), ()), (v10.snd.fst.fst, ()), ())).bind fun v11 =>
                      Sum.elim (fun v12 => Option.some (Bool.true, ())) (fun v13 => Option.some (v13.fst.fst, ())) v11)
              (fun v14 => Option.some (v14.fst.fst, ())) v9
theorem f_8 (x : Ps [.ty I]) : funcT CT T_8 [.bool] (drT CT T_8) lp_8 Try.f8 c_8 (encPs [.ty I] x) = F_8 x.1 := by kernel_rfl
noncomputable def E_8 : Ent := .fn 8 [] ⟨[.ty I], [.bool], fun x => F_8 x.1, false⟩
theorem e_8 : E_8.Ok CT.P := Ent.ofFn CT_ok T_8_ok hf_8 hb_8 lp_8_ok f_8
noncomputable def E_8h : Ent := .fn 8 [] ⟨[.ty I], [.bool], fun x => F_8 x.1, true⟩
end Go.DI.S

