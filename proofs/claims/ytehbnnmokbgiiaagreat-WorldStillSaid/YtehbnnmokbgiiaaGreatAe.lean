import Derived.Test.YtehbnnmokbgiiaaGreatAd
/- Boxes that meet; parts of a step: told by functions on data. No conditions. -/
/-! slices.Clone at bodies and at joints; where a struct's row lies. -/
set_option linter.unusedVariables false
set_option maxRecDepth 100000
set_option maxHeartbeats 0
namespace Go.DI.S
open Go.Proofs
/-- The block of a struct's row of our own. -/
def slotA (s : AS) (t o : Nat) : Nat := match s.r[t]? with
  | some (.agg cs) => match cs[o]? with
    | some (.orow _ j) => j
    | _ => 0
  | _ => 0
def restOf : Code → Code
  | .seq _ (.seq _ r) => r
  | c => c
def partA : Code → Nat × Array Oper
  | .seq (.region i o _) _ => (i, o)
  | _ => (0, #[])
def partB : Code → Nat × Array Oper
  | .seq _ (.seq (.seq (.region i o _) _) _) => (i, o)
  | _ => (0, #[])
def partC : Code → Nat × Array Oper
  | .seq _ (.seq (.seq _ (.cond _ (.seq (.region i o _) _) _)) _) => (i, o)
  | _ => (0, #[])
noncomputable def T_0 : Tb := mkTb tyT mpT []
theorem T_0_ok : T_0.Ok CT.P := mkTb_ok trivial
noncomputable def c_56 : Code := Tryz.f56.body.getD .skip
theorem hb_56 : Tryz.f56.body = some c_56 := by kernel_rfl
theorem hf_56 : CT.P.funcs[56]? = some Tryz.f56 := by kernel_rfl
noncomputable def k_56 : CloneCode CT Tryz.f56 c_56 25 where
  i0 := (partA c_56).1
  i1 := (partB c_56).1
  i2 := (partC c_56).1
  ops0 := (partA c_56).2
  ops1 := (partB c_56).2
  ops2 := (partC c_56).2
  rest := restOf c_56
  code := by kernel_rfl
  s0 := by kernel_rfl
  s1 := by kernel_rfl
  s2 := by kernel_rfl
  o00 := ((partA c_56).2[0]?).getD default
  o10 := ((partB c_56).2[0]?).getD default
  o11 := ((partB c_56).2[1]?).getD default
  o20 := ((partC c_56).2[0]?).getD default
  h00 := by kernel_rfl
  h10 := by kernel_rfl
  h11 := by kernel_rfl
  h20 := by kernel_rfl
  g00 := ⟨by kernel_rfl, by kernel_rfl, by kernel_rfl⟩
  g10 := ⟨by kernel_rfl, by kernel_rfl, by kernel_rfl⟩
  g11 := ⟨by kernel_rfl, by kernel_rfl, by kernel_rfl⟩
  g20 := ⟨by kernel_rfl, by kernel_rfl, by kernel_rfl⟩
  nt := by kernel_rfl
  res := by kernel_rfl
noncomputable def F_56 (a1 : Ty.El (.list tBody)) : Option (List (Ty.El tBody)) := bif Nat.ble (List.length a1 * 64) 70368744177664 then some a1 else none
theorem f_56 (l : List (Ty.El tBody)) : codeT CT T_0 (drT CT T_0) (fun _ _ _ => none) (restOf c_56) ⟨[.lst tBody l, .any, .nils, .any, .bool false, .any, .any, .any], []⟩ (retO CT 39 tBody [.tmp 2]) = F_56 l := by kernel_rfl
noncomputable def E_56 : Ent := .own 56 [] ⟨[.ty (.list tBody)], 39, tBody, fun x => F_56 x.1⟩
theorem und_25 : CT.P.underlying 25 = some (.slice 39) := by kernel_rfl
theorem lo_56 : loopsOf (restOf c_56) = [] := by kernel_rfl
theorem e_56 : E_56.Ok CT.P := by
  intro x y h
  have h : F_56 x.1 = some y := h
  exact clone_own (e := 39) (bt := 39) CT_ok T_0_ok hf_56 hb_56 k_56 und_25 lo_56 (l := x.1) (y := y) ((f_56 x.1).trans h) (fun h0 => by
    rw [h0] at h
    exact (Option.some.inj h).symm)
noncomputable def c_57 : Code := Tryz.f57.body.getD .skip
theorem hb_57 : Tryz.f57.body = some c_57 := by kernel_rfl
theorem hf_57 : CT.P.funcs[57]? = some Tryz.f57 := by kernel_rfl
noncomputable def k_57 : CloneCode CT Tryz.f57 c_57 26 where
  i0 := (partA c_57).1
  i1 := (partB c_57).1
  i2 := (partC c_57).1
  ops0 := (partA c_57).2
  ops1 := (partB c_57).2
  ops2 := (partC c_57).2
  rest := restOf c_57
  code := by kernel_rfl
  s0 := by kernel_rfl
  s1 := by kernel_rfl
  s2 := by kernel_rfl
  o00 := ((partA c_57).2[0]?).getD default
  o10 := ((partB c_57).2[0]?).getD default
  o11 := ((partB c_57).2[1]?).getD default
  o20 := ((partC c_57).2[0]?).getD default
  h00 := by kernel_rfl
  h10 := by kernel_rfl
  h11 := by kernel_rfl
  h20 := by kernel_rfl
  g00 := ⟨by kernel_rfl, by kernel_rfl, by kernel_rfl⟩
  g10 := ⟨by kernel_rfl, by kernel_rfl, by kernel_rfl⟩
  g11 := ⟨by kernel_rfl, by kernel_rfl, by kernel_rfl⟩
  g20 := ⟨by kernel_rfl, by kernel_rfl, by kernel_rfl⟩
  nt := by kernel_rfl
  res := by kernel_rfl
noncomputable def O_57 (l : List (Ty.El tJoint)) : Option (List (Ty.El tJoint)) := bif Nat.ble (l.length * 24) 70368744177664 then some l else none
theorem f_57 (l : List (Ty.El tJoint)) : codeT CT T_0 (drT CT T_0) (fun _ _ _ => none) (restOf c_57) ⟨[.lst tJoint l, .any, .nils, .any, .bool false, .any, .any, .any], []⟩ (retO CT 95 tJoint [.tmp 2]) = O_57 l := by kernel_rfl
noncomputable def F_57 (a1 : Ty.El (.list tJoint)) : Option (Els [.list tJoint]) := (O_57 a1).map fun l => (l, ())
noncomputable def E_57 : Ent := .fn 57 [] ⟨[.ty (.list tJoint)], [.list tJoint], fun x => F_57 x.1, false⟩
theorem und_26 : CT.P.underlying 26 = some (.slice 95) := by kernel_rfl
theorem lo_57 : loopsOf (restOf c_57) = [] := by kernel_rfl
theorem e_57 : E_57.Ok CT.P := by
  intro x y h
  have h : F_57 x.1 = some y := h
  unfold F_57 at h
  obtain ⟨l, hl, rfl⟩ := Option.map_eq_some_iff.1 h
  have h1 := clone_own (e := 95) (bt := 95) CT_ok T_0_ok hf_57 hb_57 k_57 und_26 lo_57 (l := x.1) (y := l) ((f_57 x.1).trans hl) (fun h0 => by
    rw [h0] at hl
    exact (Option.some.inj hl).symm)
  exact h1.ownFreeze
end Go.DI.S

/-! The program's functions, told by functions on data. -/
set_option linter.unusedVariables false
set_option maxRecDepth 100000
set_option maxHeartbeats 0
namespace Go.DI.S
open Go.Proofs
/-! ### 235: slices.SortFuncmaquette/api.Pair,maquette/api.Pair -/
noncomputable def c_235 : Code := Tryz.f235.body.getD .skip
theorem hb_235 : Tryz.f235.body = some c_235 := by kernel_rfl
theorem hf_235 : CT.P.funcs[235]? = some Tryz.f235 := by kernel_rfl
noncomputable abbrev IN_235 : LayD := ⟨2, [(0, .own tPair 0), (1, .clo 236 [])], [.row 204 tPair], fun s => [slotR s 0]⟩
noncomputable abbrev OUT_235 : LayD := ⟨0, [], [.row 204 tPair], fun _ => [0]⟩
noncomputable def T_235 : Tb := mkTb tyT mpT [E_172, E_289]
theorem T_235_ok : T_235.Ok CT.P := mkTb_ok (⟨e_172, e_289, trivial⟩)
noncomputable def lp_235 {β : Type} : LpT β := fun _ _ _ => none
theorem lp_235_ok {β : Type} : LpTOk (CTp 1) (lp_235 (β := β)) (loopsOf c_235) := by
  have h : loopsOf c_235 = [] := by kernel_rfl
  rw [h]
  exact LpTOk.nil
noncomputable def F_235 (b0 : List (Ty.El tPair)) : Option OUT_235.El := (F_172 (Go.IntKind.u64.wrap (↑b0.length : Int))).bind fun v2 => (F_289 (0 : Int) (↑b0.length : Int) v2.fst b0).bind fun v4 => Option.some ((), v4.snd.fst, ())
theorem f_235 (x : IN_235.El) : funcX (CTp 1) T_235 IN_235 OUT_235 [] (drT (CTp 1) T_235) lp_235 Tryz.f235 c_235 x = F_235 x.2.1 := by kernel_rfl
noncomputable def E_235 : Ent := .mkGen 235 [236] ⟨1, [.nilReg 0 204 tPair, .rowReg 0 204 tPair], IN_235, OUT_235, fun x => F_235 x.2.1⟩
theorem e_235 : E_235.Ok CT.P := Ent.ofGen (C := (CTp 1)) (steps := [.nilReg 0 204 tPair, .rowReg 0 204 tPair]) (osteps := []) (CTp_ok 1) T_235_ok hf_235 hb_235 lp_235_ok f_235
/-! ### 233: maquette/prune.Sorted -/
noncomputable def c_233 : Code := Tryz.f233.body.getD .skip
theorem hb_233 : Tryz.f233.body = some c_233 := by kernel_rfl
theorem hf_233 : CT.P.funcs[233]? = some Tryz.f233 := by kernel_rfl
noncomputable def T_233 : Tb := mkTb tyT mpT [E_286]
theorem T_233_ok : T_233.Ok CT.P := mkTb_ok (⟨e_286, trivial⟩)
noncomputable def l_233_3 : Code := atLoop c_233 3
noncomputable abbrev LD_233_3 : LayD := ⟨19, [(1, .ptr 0), (3, .own I 1), (6, .data I), (7, .data I)], [.var 200 [.data (.list tBox)], .row 3 I], fun s => [slotR s 1, slotR s 3]⟩
noncomputable abbrev LA_233_3 : LayD := ⟨19, [(1, .ptr 0), (3, .own I 1)], [.var 200 [.data (.list tBox)], .row 3 I], fun s => [slotR s 1, slotR s 3]⟩
noncomputable abbrev LB_233_3 : LayD := ⟨19, [], [], fun _ => []⟩
noncomputable def EX_233_3 : Exits 0 LA_233_3.El LB_233_3.El := ⟨.exit 0, LA_233_3.lay [.nilReg 3 3 I], .ret, LB_233_3.lay []⟩

noncomputable def lpi_233_3 {β : Type} : LpT β := fun _ _ _ => none
theorem lpi_233_3_ok {β : Type} : LpTOk CT (lpi_233_3 (β := β)) (loopsOf l_233_3) := by
  have h : loopsOf l_233_3 = [] := by kernel_rfl
  rw [h]
  exact LpTOk.nil
noncomputable def G_233_3 (r6 : Ty.El I) (r7 : Ty.El I) (b0 : Ty.El (.list tBox) × Unit) (b1 : List (Ty.El I)) : Option (LD_233_3.El ⊕ (LA_233_3.El ⊕ LB_233_3.El)) := bif Decidable.decide (r7 < r6) then bif ((b1.length + [r7].length) * (8 : Nat)).ble (70368744177664 : Nat) then Option.some (Sum.inl (((), (), r6, Go.IntKind.i64.wrap (r7 + (1 : Int)), ()), (b0.fst, ()), b1 ++ [r7], ())) else Option.none else Option.some (Sum.inr (Sum.inl (((), (), ()), (b0.fst, ()), b1, ())))
theorem g_233_3 (x : LD_233_3.El) : codeT CT T_233 (drT CT T_233) lpi_233_3 l_233_3 (LD_233_3.enc x) (bodyK (LD_233_3.lay [.nilReg 3 3 I]) EX_233_3) = G_233_3 x.1.2.2.1 x.1.2.2.2.1 x.2.1 x.2.2.1 := by kernel_rfl
noncomputable def R_233_3 : LD_233_3.El → Option (LA_233_3.El ⊕ LB_233_3.El) := roundsT (fun x => G_233_3 x.1.2.2.1 x.1.2.2.2.1 x.2.1 x.2.2.1) fuel
theorem r_233_3 : ∀ x y, R_233_3 x = some y → CL CT l_233_3 (LD_233_3.enc x) (Sum.elim (fun _ => EX_233_3.xa) (fun _ => EX_233_3.xb) y) (Sum.elim EX_233_3.la.enc EX_233_3.lb.enc y) :=
  rounds_ok (L := LD_233_3.lay [.nilReg 3 3 I]) (E := EX_233_3) CT_ok T_233_ok (drT_ok CT_ok T_233_ok) lpi_233_3_ok g_233_3 rfl rfl (fun v h => by have hh : (.exit 0 : AX) = .pan v := h; cases hh) (fun v h => by have hh : (.ret : AX) = .pan v := h; cases hh) fuel
noncomputable def lp_233 {β : Type} : LpT β := fun k s K => if Nat.beq k 3 then lpOne (LD_233_3.lay [.nilReg 3 3 I]) EX_233_3 R_233_3 s K else none
theorem lp_233_ok {β : Type} : LpTOk CT (lp_233 (β := β)) (loopsOf c_233) := by
  have h : loopsOf c_233 = [(3, l_233_3)] := by kernel_rfl
  rw [h]
  exact LpTOk.cons (fun s K z h => lpOne_ok r_233_3 h) (LpTOk.nil)
noncomputable def F_233 (a1 : Ty.El (.list tBox)) : Option (Els [.list I]) := (R_233_3 (((), (), (↑(List.length a1) : Int), (0 : Int), ()), (a1, ()), [], ())).bind fun v1 => Sum.elim (fun v2 => (F_286 v2.snd.snd.fst (v2.snd.fst.fst, ())).bind fun v4 => Option.some (v4.snd.fst, ())) (fun v7 => Option.none) v1
theorem f_233 (x : Ps [.ty (.list tBox)]) : funcT CT T_233 [.list I] (drT CT T_233) lp_233 Tryz.f233 c_233 (encPs [.ty (.list tBox)] x) = F_233 x.1 := by kernel_rfl
noncomputable def E_233 : Ent := .fn 233 [] ⟨[.ty (.list tBox)], [.list I], fun x => F_233 x.1, false⟩
theorem e_233 : E_233.Ok CT.P := Ent.ofFn CT_ok T_233_ok hf_233 hb_233 lp_233_ok f_233
noncomputable def E_233h : Ent := .fn 233 [] ⟨[.ty (.list tBox)], [.list I], fun x => F_233 x.1, true⟩
/-! ### 165: maquette/prune.Pairs -/
noncomputable def c_165 : Code := Tryz.f165.body.getD .skip
theorem hb_165 : Tryz.f165.body = some c_165 := by kernel_rfl
theorem hf_165 : CT.P.funcs[165]? = some Tryz.f165 := by kernel_rfl
noncomputable def T_165 : Tb := mkTb tyT mpT [E_233, E_234, E_235]
theorem T_165_ok : T_165.Ok CT.P := mkTb_ok (⟨e_233, e_234, e_235, trivial⟩)
noncomputable def l_165_4 : Code := atLoop c_165 4
noncomputable def l_165_7 : Code := atLoop l_165_4 7
noncomputable abbrev LD_165_7 : LayD := ⟨51, [(0, .data (.list tBox)), (3, .own tPair 0), (4, .data (.list I)), (6, .data I), (11, .data (.list I)), (12, .data I), (13, .data I), (21, .data (.list I)), (22, .data I), (23, .data I)], [.row 204 tPair], fun s => [slotR s 3]⟩
noncomputable abbrev LA_165_7 : LayD := ⟨51, [(0, .data (.list tBox)), (3, .own tPair 0), (4, .data (.list I)), (11, .data (.list I)), (12, .data I), (13, .data I)], [.row 204 tPair], fun s => [slotR s 3]⟩
noncomputable abbrev LB_165_7 : LayD := ⟨51, [], [], fun _ => []⟩
noncomputable def EX_165_7 : Exits 0 LA_165_7.El LB_165_7.El := ⟨.exit 2, LA_165_7.lay [.nilReg 3 204 tPair], .ret, LB_165_7.lay []⟩

noncomputable def lpi_165_7 {β : Type} : LpT β := fun _ _ _ => none
theorem lpi_165_7_ok {β : Type} : LpTOk CT (lpi_165_7 (β := β)) (loopsOf l_165_7) := by
  have h : loopsOf l_165_7 = [] := by kernel_rfl
  rw [h]
  exact LpTOk.nil
noncomputable def G_165_7 (r0 : Ty.El (.list tBox)) (r4 : Ty.El (.list I)) (r6 : Ty.El I) (r11 : Ty.El (.list I)) (r12 : Ty.El I) (r13 : Ty.El I) (r21 : Ty.El (.list I)) (r22 : Ty.El I) (r23 : Ty.El I) (b0 : List (Ty.El tPair)) : Option (LD_165_7.El ⊕ (LA_165_7.El ⊕ LB_165_7.El)) := bif Decidable.decide (r23 < r22) then bif Decidable.decide ((0 : Int) ≤ r23 ∧ r23 < (↑(List.length r21) : Int)) then bif Decidable.decide ((0 : Int) ≤ r6 ∧ r6 < (↑(List.length r0) : Int)) then bif Decidable.decide ((0 : Int) ≤ List.getD r21 (Int.toNat r23) (0 : Int) ∧ List.getD r21 (Int.toNat r23) (0 : Int) < (↑(List.length r0) : Int)) then (F_234 (List.getD r0 (Int.toNat r6) Go.DI.S.tBox.dflt) (List.getD r0 (Int.toNat (List.getD r21 (Int.toNat r23) (0 : Int))) Go.DI.S.tBox.dflt)).bind fun v2 => bif v2.fst then bif ((b0.length + [(if List.getD r21 (Int.toNat r23) (0 : Int) < r6 then List.getD r21 (Int.toNat r23) (0 : Int) else r6, if List.getD r21 (Int.toNat r23) (0 : Int) > r6 then List.getD r21 (Int.toNat r23) (0 : Int) else r6)].length) * (16 : Nat)).ble (70368744177664 : Nat) then Option.some (Sum.inl ((r0, (), r4, r6, r11, r12, r13, r21, r22, Go.IntKind.i64.wrap (r23 + (1 : Int)), ()), b0 ++ [(if List.getD r21 (Int.toNat r23) (0 : Int) < r6 then List.getD r21 (Int.toNat r23) (0 : Int) else r6, if List.getD r21 (Int.toNat r23) (0 : Int) > r6 then List.getD r21 (Int.toNat r23) (0 : Int) else r6)], ())) else Option.none else Option.some (Sum.inl ((r0, (), r4, r6, r11, r12, r13, r21, r22, Go.IntKind.i64.wrap (r23 + (1 : Int)), ()), b0, ())) else Option.none else Option.none else Option.none else Option.some (Sum.inr (Sum.inl ((r0, (), r4, r11, r12, r13, ()), b0, ())))
theorem g_165_7 (x : LD_165_7.El) : codeT CT T_165 (drT CT T_165) lpi_165_7 l_165_7 (LD_165_7.enc x) (bodyK (LD_165_7.lay [.nilReg 3 204 tPair]) EX_165_7) = G_165_7 x.1.1 x.1.2.2.1 x.1.2.2.2.1 x.1.2.2.2.2.1 x.1.2.2.2.2.2.1 x.1.2.2.2.2.2.2.1 x.1.2.2.2.2.2.2.2.1 x.1.2.2.2.2.2.2.2.2.1 x.1.2.2.2.2.2.2.2.2.2.1 x.2.1 := by kernel_rfl
noncomputable def R_165_7 : LD_165_7.El → Option (LA_165_7.El ⊕ LB_165_7.El) := roundsT (fun x => G_165_7 x.1.1 x.1.2.2.1 x.1.2.2.2.1 x.1.2.2.2.2.1 x.1.2.2.2.2.2.1 x.1.2.2.2.2.2.2.1 x.1.2.2.2.2.2.2.2.1 x.1.2.2.2.2.2.2.2.2.1 x.1.2.2.2.2.2.2.2.2.2.1 x.2.1) fuel
theorem r_165_7 : ∀ x y, R_165_7 x = some y → CL CT l_165_7 (LD_165_7.enc x) (Sum.elim (fun _ => EX_165_7.xa) (fun _ => EX_165_7.xb) y) (Sum.elim EX_165_7.la.enc EX_165_7.lb.enc y) :=
  rounds_ok (L := LD_165_7.lay [.nilReg 3 204 tPair]) (E := EX_165_7) CT_ok T_165_ok (drT_ok CT_ok T_165_ok) lpi_165_7_ok g_165_7 rfl rfl (fun v h => by have hh : (.exit 2 : AX) = .pan v := h; cases hh) (fun v h => by have hh : (.ret : AX) = .pan v := h; cases hh) fuel
noncomputable abbrev LD_165_4 : LayD := ⟨51, [(0, .data (.list tBox)), (3, .own tPair 0), (4, .data (.list I)), (11, .data (.list I)), (12, .data I), (13, .data I)], [.row 204 tPair], fun s => [slotR s 3]⟩
noncomputable abbrev LA_165_4 : LayD := ⟨51, [(3, .own tPair 0)], [.row 204 tPair], fun s => [slotR s 3]⟩
noncomputable abbrev LB_165_4 : LayD := ⟨51, [], [], fun _ => []⟩
noncomputable def EX_165_4 : Exits 0 LA_165_4.El LB_165_4.El := ⟨.exit 0, LA_165_4.lay [.nilReg 3 204 tPair], .ret, LB_165_4.lay []⟩

noncomputable def lpi_165_4 {β : Type} : LpT β := fun k s K => if Nat.beq k 7 then lpOne (LD_165_7.lay [.nilReg 3 204 tPair]) EX_165_7 R_165_7 s K else none
theorem lpi_165_4_ok {β : Type} : LpTOk CT (lpi_165_4 (β := β)) (loopsOf l_165_4) := by
  have h : loopsOf l_165_4 = [(7, l_165_7)] := by kernel_rfl
  rw [h]
  exact LpTOk.cons (fun s K z h => lpOne_ok r_165_7 h) (LpTOk.nil)
noncomputable def G_165_4 (r0 : Ty.El (.list tBox)) (r4 : Ty.El (.list I)) (r11 : Ty.El (.list I)) (r12 : Ty.El I) (r13 : Ty.El I) (b0 : List (Ty.El tPair)) : Option (LD_165_4.El ⊕ (LA_165_4.El ⊕ LB_165_4.El)) := bif Decidable.decide (r13 < r12) then bif Decidable.decide ((0 : Int) ≤ r13 ∧ r13 < (↑(List.length r11) : Int)) then bif Decidable.decide ((0 : Int) ≤ Go.IntKind.i64.wrap (r13 + (1 : Int)) ∧ Go.IntKind.i64.wrap (r13 + (1 : Int)) ≤ (↑(List.length r4) : Int)) then (R_165_7 ((r0, (), r4, List.getD r11 (Int.toNat r13) (0 : Int), r11, r12, r13, List.take (List.length r4 - (Go.IntKind.i64.wrap (r13 + (1 : Int))).toNat) (List.drop (Go.IntKind.i64.wrap (r13 + (1 : Int))).toNat r4), (↑(List.take (List.length r4 - (Go.IntKind.i64.wrap (r13 + (1 : Int))).toNat) (List.drop (Go.IntKind.i64.wrap (r13 + (1 : Int))).toNat r4)).length : Int), (0 : Int), ()), b0, ())).bind fun v1 => Sum.elim (fun v2 => Option.some (Sum.inl ((v2.fst.fst, (), v2.fst.snd.snd.fst, v2.fst.snd.snd.snd.fst, v2.fst.snd.snd.snd.snd.fst, Go.IntKind.i64.wrap (v2.fst.snd.snd.snd.snd.snd.fst + (1 : Int)), ()), v2.snd.fst, ()))) (fun v3 => Option.some (Sum.inr (Sum.inr ((), ())))) v1 else Option.none else Option.none else Option.some (Sum.inr (Sum.inl (((), ()), b0, ())))
theorem g_165_4 (x : LD_165_4.El) : codeT CT T_165 (drT CT T_165) lpi_165_4 l_165_4 (LD_165_4.enc x) (bodyK (LD_165_4.lay [.nilReg 3 204 tPair]) EX_165_4) = G_165_4 x.1.1 x.1.2.2.1 x.1.2.2.2.1 x.1.2.2.2.2.1 x.1.2.2.2.2.2.1 x.2.1 := by kernel_rfl
noncomputable def R_165_4 : LD_165_4.El → Option (LA_165_4.El ⊕ LB_165_4.El) := roundsT (fun x => G_165_4 x.1.1 x.1.2.2.1 x.1.2.2.2.1 x.1.2.2.2.2.1 x.1.2.2.2.2.2.1 x.2.1) fuel
theorem r_165_4 : ∀ x y, R_165_4 x = some y → CL CT l_165_4 (LD_165_4.enc x) (Sum.elim (fun _ => EX_165_4.xa) (fun _ => EX_165_4.xb) y) (Sum.elim EX_165_4.la.enc EX_165_4.lb.enc y) :=
  rounds_ok (L := LD_165_4.lay [.nilReg 3 204 tPair]) (E := EX_165_4) CT_ok T_165_ok (drT_ok CT_ok T_165_ok) lpi_165_4_ok g_165_4 rfl rfl (fun v h => by have hh : (.exit 0 : AX) = .pan v := h; cases hh) (fun v h => by have hh : (.ret : AX) = .pan v := h; cases hh) fuel
noncomputable def lp_165 {β : Type} : LpT β := fun k s K => if Nat.beq k 4 then lpOne (LD_165_4.lay [.nilReg 3 204 tPair]) EX_165_4 R_165_4 s K else none
theorem lp_165_ok {β : Type} : LpTOk CT (lp_165 (β := β)) (loopsOf c_165) := by
  have h : loopsOf c_165 = [(4, l_165_4)] := by kernel_rfl
  rw [h]
  exact LpTOk.cons (fun s K z h => lpOne_ok r_165_4 h) (LpTOk.nil)
noncomputable def F_165 (a1 : Ty.El (.list tBox)) : Option (Els [.list tPair]) := (F_233 a1).bind fun v2 => (R_165_4 ((a1, (), v2.fst, v2.fst, (↑(List.length v2.fst) : Int), (0 : Int), ()), [], ())).bind fun v3 => Sum.elim (fun v4 => (F_235 v4.snd.fst).bind fun v6 => Option.some (v6.snd.fst, ())) (fun v9 => Option.none) v3
theorem f_165 (x : Ps [.ty (.list tBox)]) : funcT CT T_165 [.list tPair] (drT CT T_165) lp_165 Tryz.f165 c_165 (encPs [.ty (.list tBox)] x) = F_165 x.1 := by kernel_rfl
noncomputable def E_165 : Ent := .fn 165 [] ⟨[.ty (.list tBox)], [.list tPair], fun x => F_165 x.1, false⟩
theorem e_165 : E_165.Ok CT.P := Ent.ofFn CT_ok T_165_ok hf_165 hb_165 lp_165_ok f_165
noncomputable def E_165h : Ent := .fn 165 [] ⟨[.ty (.list tBox)], [.list tPair], fun x => F_165 x.1, true⟩
end Go.DI.S

/-! The program's functions, told by functions on data. -/
set_option linter.unusedVariables false
set_option maxRecDepth 100000
set_option maxHeartbeats 0
namespace Go.DI.S
open Go.Proofs
/-! ### 74: (maquette/world.World).fall -/
noncomputable def c_74 : Code := Tryz.f74.body.getD .skip
theorem hb_74 : Tryz.f74.body = some c_74 := by kernel_rfl
theorem hf_74 : CT.P.funcs[74]? = some Tryz.f74 := by kernel_rfl
noncomputable abbrev IN_74 : LayD := ⟨1, [(0, .comp [.dat tVec, .row tBody 0, .dat (.list tJoint)])], [.row 39 tBody], fun s => [slotA s 0 2]⟩
noncomputable abbrev OUT_74 : LayD := ⟨0, [], [.row 39 tBody], fun _ => [0]⟩
noncomputable def T_74 : Tb := mkTb tyT mpT [E_162, E_161, E_62]
theorem T_74_ok : T_74.Ok CT.P := mkTb_ok (⟨e_162, e_161, e_62, trivial⟩)
noncomputable def l_74_2 : Code := atLoop c_74 2
noncomputable abbrev LD_74_2 : LayD := ⟨30, [(1, .ptr 1), (5, .own tBody 0), (6, .data I), (7, .data I)], [.row 39 tBody, .var 29 [.data tVec, .own tBody 0, .data (.list tJoint)]], fun s => [0, slotR s 1]⟩
noncomputable abbrev LA_74_2 : LayD := ⟨30, [], [.row 39 tBody], fun s => [0]⟩
noncomputable abbrev LB_74_2 : LayD := ⟨30, [], [], fun _ => []⟩
noncomputable def EX_74_2 : Exits 1 LA_74_2.El LB_74_2.El := ⟨.exit 0, LA_74_2.lay [], .ret, LB_74_2.lay []⟩

noncomputable def lpi_74_2 {β : Type} : LpT β := fun _ _ _ => none
theorem lpi_74_2_ok {β : Type} : LpTOk (CTp 1) (lpi_74_2 (β := β)) (loopsOf l_74_2) := by
  have h : loopsOf l_74_2 = [] := by kernel_rfl
  rw [h]
  exact LpTOk.nil
noncomputable def G_74_2 (r6 : Ty.El I) (r7 : Ty.El I) (b0 : List (Ty.El tBody)) (b1 : Ty.El tVec × Unit × Ty.El (.list tJoint) × Unit) : Option (LD_74_2.El ⊕ ((LA_74_2.El ⊕ LB_74_2.El) ⊕ Int)) := bif Decidable.decide (r7 < r6) then bif Decidable.decide ((0 : Int) ≤ r7 ∧ r7 < (↑b0.length : Int)) then bif (b0.getD (Int.toNat r7) Go.DI.S.tBody.dflt).snd.snd.fst != (0 : Int) then (F_162 b1.fst (b0.getD (Int.toNat r7) Go.DI.S.tBody.dflt).snd.snd.fst).bind fun v2 => Sum.elim (fun v4 => (F_161 v4.fst (64 : Int)).bind fun v6 => Sum.elim (fun v8 => (F_62 (b0.getD (Int.toNat r7) Go.DI.S.tBody.dflt).snd.snd.snd.snd v8.fst).bind fun v10 => Sum.elim (fun v12 => bif Decidable.decide ((0 : Int) ≤ r7 ∧ r7 < (↑b0.length : Int)) then Option.some (Sum.inl (((), (), r6, Go.IntKind.i64.wrap (r7 + (1 : Int)), ()), b0.set (Int.toNat r7) ((b0.getD (Int.toNat r7) Go.DI.S.tBody.dflt).fst, (b0.getD (Int.toNat r7) Go.DI.S.tBody.dflt).snd.fst, (b0.getD (Int.toNat r7) Go.DI.S.tBody.dflt).snd.snd.fst, (b0.getD (Int.toNat r7) Go.DI.S.tBody.dflt).snd.snd.snd.fst, v12.fst), (b1.fst, (), b1.snd.snd.fst, ()), ())) else Option.none) (fun v13 => Option.some (Sum.inr (Sum.inr v13))) v10) (fun v14 => Option.some (Sum.inr (Sum.inr v14))) v6) (fun v15 => Option.some (Sum.inr (Sum.inr v15))) v2 else Option.some (Sum.inl (((), (), r6, Go.IntKind.i64.wrap (r7 + (1 : Int)), ()), b0, (b1.fst, (), b1.snd.snd.fst, ()), ())) else Option.none else Option.some (Sum.inr (Sum.inl (Sum.inl ((), b0, ()))))
theorem g_74_2 (x : LD_74_2.El) : codeT (CTp 1) T_74 (drT (CTp 1) T_74) lpi_74_2 l_74_2 (LD_74_2.enc x) (bodyKP (LD_74_2.lay []) EX_74_2 251 30) = G_74_2 x.1.2.2.1 x.1.2.2.2.1 x.2.1 x.2.2.1 := by kernel_rfl
noncomputable def R_74_2 : LD_74_2.El → Option ((LA_74_2.El ⊕ LB_74_2.El) ⊕ Int) := roundsT (fun x => G_74_2 x.1.2.2.1 x.1.2.2.2.1 x.2.1 x.2.2.1) fuel
theorem r_74_2 : ∀ x y, R_74_2 x = some y → CL (CTp 1) l_74_2 (LD_74_2.enc x) (Sum.elim (fun ab => Sum.elim (fun _ => EX_74_2.xa) (fun _ => EX_74_2.xb) ab) (fun e => .pan (faultV 251 e)) y) (Sum.elim (fun ab => Sum.elim EX_74_2.la.enc EX_74_2.lb.enc ab) (fun _ => panS 1 30) y) :=
  roundsP_ok (L := LD_74_2.lay []) (E := EX_74_2) (CTp_ok 1) T_74_ok (drT_ok (CTp_ok 1) T_74_ok) lpi_74_2_ok g_74_2 rfl rfl (fun v h => by have hh : (.exit 0 : AX) = .pan v := h; cases hh) (fun v h => by have hh : (.ret : AX) = .pan v := h; cases hh) fuel
noncomputable def lp_74 {β : Type} : LpT β := fun k s K => if Nat.beq k 2 then lpOneP (LD_74_2.lay []) EX_74_2 251 30 R_74_2 s K else none
theorem lp_74_ok {β : Type} : LpTOk (CTp 1) (lp_74 (β := β)) (loopsOf c_74) := by
  have h : loopsOf c_74 = [(2, l_74_2)] := by kernel_rfl
  rw [h]
  exact LpTOk.cons (fun s K z h => lpOneP_ok r_74_2 h) (LpTOk.nil)
noncomputable def F_74 (a0 : Ty.El tVec × Unit × Ty.El (.list tJoint) × Unit) (b0 : List (Ty.El tBody)) : Option (OUT_74.El ⊕ Int) := (R_74_2 (((), (), (↑b0.length : Int), (0 : Int), ()), b0, (a0.fst, (), a0.snd.snd.fst, ()), ())).bind fun v1 => Sum.elim (fun v2 => Sum.elim (fun v3 => Option.some (Sum.inl ((), v3.snd.fst, ()))) (fun v4 => Option.none) v2) (fun v5 => Option.some (Sum.inr v5)) v1
theorem f_74 (x : IN_74.El) : funcXP (CTp 1) T_74 251 IN_74 OUT_74 [] (drT (CTp 1) T_74) lp_74 Tryz.f74 c_74 x = F_74 x.1.1 x.2.1 := by kernel_rfl
noncomputable def E_74 : Ent := .mkGenP 74 [] ⟨251, 1, [], IN_74, OUT_74, fun x => F_74 x.1.1 x.2.1⟩
theorem e_74 : E_74.Ok CT.P := Ent.ofGenP (C := (CTp 1)) (steps := []) (osteps := []) (CTp_ok 1) T_74_ok hf_74 hb_74 lp_74_ok f_74
/-! ### 75: (maquette/world.World).hold -/
noncomputable def c_75 : Code := Tryz.f75.body.getD .skip
theorem hb_75 : Tryz.f75.body = some c_75 := by kernel_rfl
theorem hf_75 : CT.P.funcs[75]? = some Tryz.f75 := by kernel_rfl
noncomputable abbrev IN_75 : LayD := ⟨1, [(0, .comp [.dat tVec, .row tBody 0, .dat (.list tJoint)])], [.row 39 tBody], fun s => [slotA s 0 2]⟩
noncomputable abbrev OUT_75 : LayD := ⟨0, [], [.row 39 tBody], fun _ => [0]⟩
noncomputable def T_75 : Tb := mkTb tyT mpT [E_163]
theorem T_75_ok : T_75.Ok CT.P := mkTb_ok (⟨e_163, trivial⟩)
noncomputable def l_75_2 : Code := atLoop c_75 2
noncomputable def l_75_4 : Code := atLoop l_75_2 4
noncomputable abbrev LD_75_4 : LayD := ⟨43, [(1, .ptr 1), (4, .data I), (7, .data (.list tJoint)), (8, .data I), (9, .data I)], [.row 39 tBody, .var 29 [.data tVec, .own tBody 0, .data (.list tJoint)]], fun s => [0, slotR s 1]⟩
noncomputable abbrev LA_75_4 : LayD := ⟨43, [(1, .ptr 1), (4, .data I)], [.row 39 tBody, .var 29 [.data tVec, .own tBody 0, .data (.list tJoint)]], fun s => [0, slotR s 1]⟩
noncomputable abbrev LB_75_4 : LayD := ⟨43, [], [], fun _ => []⟩
noncomputable def EX_75_4 : Exits 1 LA_75_4.El LB_75_4.El := ⟨.exit 2, LA_75_4.lay [], .ret, LB_75_4.lay []⟩

noncomputable def lpi_75_4 {β : Type} : LpT β := fun _ _ _ => none
theorem lpi_75_4_ok {β : Type} : LpTOk (CTp 1) (lpi_75_4 (β := β)) (loopsOf l_75_4) := by
  have h : loopsOf l_75_4 = [] := by kernel_rfl
  rw [h]
  exact LpTOk.nil
noncomputable def G_75_4 (r4 : Ty.El I) (r7 : Ty.El (.list tJoint)) (r8 : Ty.El I) (r9 : Ty.El I) (b0 : List (Ty.El tBody)) (b1 : Ty.El tVec × Unit × Ty.El (.list tJoint) × Unit) : Option (LD_75_4.El ⊕ ((LA_75_4.El ⊕ LB_75_4.El) ⊕ Int)) := bif Decidable.decide (r9 < r8) then bif Decidable.decide ((0 : Int) ≤ r9 ∧ r9 < (↑(List.length r7) : Int)) then bif Decidable.decide ((0 : Int) ≤ (List.getD r7 (Int.toNat r9) Go.DI.S.tJoint.dflt).fst ∧ (List.getD r7 (Int.toNat r9) Go.DI.S.tJoint.dflt).fst < (↑b0.length : Int)) then bif Decidable.decide ((0 : Int) ≤ (List.getD r7 (Int.toNat r9) Go.DI.S.tJoint.dflt).snd.fst ∧ (List.getD r7 (Int.toNat r9) Go.DI.S.tJoint.dflt).snd.fst < (↑b0.length : Int)) then (F_163 (b0.getD (Int.toNat (List.getD r7 (Int.toNat r9) Go.DI.S.tJoint.dflt).fst) Go.DI.S.tBody.dflt) (b0.getD (Int.toNat (List.getD r7 (Int.toNat r9) Go.DI.S.tJoint.dflt).snd.fst) Go.DI.S.tBody.dflt) (List.getD r7 (Int.toNat r9) Go.DI.S.tJoint.dflt).snd.snd).bind fun v2 => Sum.elim (fun v4 => bif Decidable.decide ((0 : Int) ≤ (List.getD r7 (Int.toNat r9) Go.DI.S.tJoint.dflt).fst ∧ (List.getD r7 (Int.toNat r9) Go.DI.S.tJoint.dflt).fst < (↑b0.length : Int)) then bif Decidable.decide ((0 : Int) ≤ (List.getD r7 (Int.toNat r9) Go.DI.S.tJoint.dflt).snd.fst ∧ (List.getD r7 (Int.toNat r9) Go.DI.S.tJoint.dflt).snd.fst < (↑(b0.set (Int.toNat (List.getD r7 (Int.toNat r9) Go.DI.S.tJoint.dflt).fst) v4.fst).length : Int)) then Option.some (Sum.inl (((), r4, r7, r8, Go.IntKind.i64.wrap (r9 + (1 : Int)), ()), (b0.set (Int.toNat (List.getD r7 (Int.toNat r9) Go.DI.S.tJoint.dflt).fst) v4.fst).set (Int.toNat (List.getD r7 (Int.toNat r9) Go.DI.S.tJoint.dflt).snd.fst) v4.snd.fst, (b1.fst, (), b1.snd.snd.fst, ()), ())) else Option.none else Option.none) (fun v5 => Option.some (Sum.inr (Sum.inr v5))) v2 else Option.none else Option.none else Option.none else Option.some (Sum.inr (Sum.inl (Sum.inl (((), r4, ()), b0, (b1.fst, (), b1.snd.snd.fst, ()), ()))))
theorem g_75_4 (x : LD_75_4.El) : codeT (CTp 1) T_75 (drT (CTp 1) T_75) lpi_75_4 l_75_4 (LD_75_4.enc x) (bodyKP (LD_75_4.lay []) EX_75_4 251 43) = G_75_4 x.1.2.1 x.1.2.2.1 x.1.2.2.2.1 x.1.2.2.2.2.1 x.2.1 x.2.2.1 := by kernel_rfl
noncomputable def R_75_4 : LD_75_4.El → Option ((LA_75_4.El ⊕ LB_75_4.El) ⊕ Int) := roundsT (fun x => G_75_4 x.1.2.1 x.1.2.2.1 x.1.2.2.2.1 x.1.2.2.2.2.1 x.2.1 x.2.2.1) fuel
theorem r_75_4 : ∀ x y, R_75_4 x = some y → CL (CTp 1) l_75_4 (LD_75_4.enc x) (Sum.elim (fun ab => Sum.elim (fun _ => EX_75_4.xa) (fun _ => EX_75_4.xb) ab) (fun e => .pan (faultV 251 e)) y) (Sum.elim (fun ab => Sum.elim EX_75_4.la.enc EX_75_4.lb.enc ab) (fun _ => panS 1 43) y) :=
  roundsP_ok (L := LD_75_4.lay []) (E := EX_75_4) (CTp_ok 1) T_75_ok (drT_ok (CTp_ok 1) T_75_ok) lpi_75_4_ok g_75_4 rfl rfl (fun v h => by have hh : (.exit 2 : AX) = .pan v := h; cases hh) (fun v h => by have hh : (.ret : AX) = .pan v := h; cases hh) fuel
noncomputable abbrev LD_75_2 : LayD := ⟨43, [(1, .ptr 1), (4, .data I)], [.row 39 tBody, .var 29 [.data tVec, .own tBody 0, .data (.list tJoint)]], fun s => [0, slotR s 1]⟩
noncomputable abbrev LA_75_2 : LayD := ⟨43, [], [.row 39 tBody], fun s => [0]⟩
noncomputable abbrev LB_75_2 : LayD := ⟨43, [], [], fun _ => []⟩
noncomputable def EX_75_2 : Exits 1 LA_75_2.El LB_75_2.El := ⟨.exit 0, LA_75_2.lay [], .ret, LB_75_2.lay []⟩

noncomputable def lpi_75_2 {β : Type} : LpT β := fun k s K => if Nat.beq k 4 then lpOneP (LD_75_4.lay []) EX_75_4 251 43 R_75_4 s K else none
theorem lpi_75_2_ok {β : Type} : LpTOk (CTp 1) (lpi_75_2 (β := β)) (loopsOf l_75_2) := by
  have h : loopsOf l_75_2 = [(4, l_75_4)] := by kernel_rfl
  rw [h]
  exact LpTOk.cons (fun s K z h => lpOneP_ok r_75_4 h) (LpTOk.nil)
noncomputable def G_75_2 (r4 : Ty.El I) (b0 : List (Ty.El tBody)) (b1 : Ty.El tVec × Unit × Ty.El (.list tJoint) × Unit) : Option (LD_75_2.El ⊕ ((LA_75_2.El ⊕ LB_75_2.El) ⊕ Int)) := bif Decidable.decide (r4 < (4 : Int)) then (R_75_4 (((), r4, b1.snd.snd.fst, (↑(List.length b1.snd.snd.fst) : Int), (0 : Int), ()), b0, (b1.fst, (), b1.snd.snd.fst, ()), ())).bind fun v1 => Sum.elim (fun v2 => Sum.elim (fun v3 => Option.some (Sum.inl (((), Go.IntKind.i64.wrap (v3.fst.snd.fst + (1 : Int)), ()), v3.snd.fst, (v3.snd.snd.fst.fst, (), v3.snd.snd.fst.snd.snd.fst, ()), ()))) (fun v4 => Option.none) v2) (fun v5 => Option.some (Sum.inr (Sum.inr v5))) v1 else Option.some (Sum.inr (Sum.inl (Sum.inl ((), b0, ()))))
theorem g_75_2 (x : LD_75_2.El) : codeT (CTp 1) T_75 (drT (CTp 1) T_75) lpi_75_2 l_75_2 (LD_75_2.enc x) (bodyKP (LD_75_2.lay []) EX_75_2 251 43) = G_75_2 x.1.2.1 x.2.1 x.2.2.1 := by kernel_rfl
noncomputable def R_75_2 : LD_75_2.El → Option ((LA_75_2.El ⊕ LB_75_2.El) ⊕ Int) := roundsT (fun x => G_75_2 x.1.2.1 x.2.1 x.2.2.1) fuel
theorem r_75_2 : ∀ x y, R_75_2 x = some y → CL (CTp 1) l_75_2 (LD_75_2.enc x) (Sum.elim (fun ab => Sum.elim (fun _ => EX_75_2.xa) (fun _ => EX_75_2.xb) ab) (fun e => .pan (faultV 251 e)) y) (Sum.elim (fun ab => Sum.elim EX_75_2.la.enc EX_75_2.lb.enc ab) (fun _ => panS 1 43) y) :=
  roundsP_ok (L := LD_75_2.lay []) (E := EX_75_2) (CTp_ok 1) T_75_ok (drT_ok (CTp_ok 1) T_75_ok) lpi_75_2_ok g_75_2 rfl rfl (fun v h => by have hh : (.exit 0 : AX) = .pan v := h; cases hh) (fun v h => by have hh : (.ret : AX) = .pan v := h; cases hh) fuel
noncomputable def lp_75 {β : Type} : LpT β := fun k s K => if Nat.beq k 2 then lpOneP (LD_75_2.lay []) EX_75_2 251 43 R_75_2 s K else none
theorem lp_75_ok {β : Type} : LpTOk (CTp 1) (lp_75 (β := β)) (loopsOf c_75) := by
  have h : loopsOf c_75 = [(2, l_75_2)] := by kernel_rfl
  rw [h]
  exact LpTOk.cons (fun s K z h => lpOneP_ok r_75_2 h) (LpTOk.nil)
noncomputable def F_75 (a0 : Ty.El tVec × Unit × Ty.El (.list tJoint) × Unit) (b0 : List (Ty.El tBody)) : Option (OUT_75.El ⊕ Int) := (R_75_2 (((), (0 : Int), ()), b0, (a0.fst, (), a0.snd.snd.fst, ()), ())).bind fun v1 => Sum.elim (fun v2 => Sum.elim (fun v3 => Option.some (Sum.inl ((), v3.snd.fst, ()))) (fun v4 => Option.none) v2) (fun v5 => Option.some (Sum.inr v5)) v1
theorem f_75 (x : IN_75.El) : funcXP (CTp 1) T_75 251 IN_75 OUT_75 [] (drT (CTp 1) T_75) lp_75 Tryz.f75 c_75 x = F_75 x.1.1 x.2.1 := by kernel_rfl
noncomputable def E_75 : Ent := .mkGenP 75 [] ⟨251, 1, [], IN_75, OUT_75, fun x => F_75 x.1.1 x.2.1⟩
theorem e_75 : E_75.Ok CT.P := Ent.ofGenP (C := (CTp 1)) (steps := []) (osteps := []) (CTp_ok 1) T_75_ok hf_75 hb_75 lp_75_ok f_75
/-! ### 76: (maquette/world.World).meet -/
noncomputable def c_76 : Code := Tryz.f76.body.getD .skip
theorem hb_76 : Tryz.f76.body = some c_76 := by kernel_rfl
theorem hf_76 : CT.P.funcs[76]? = some Tryz.f76 := by kernel_rfl
noncomputable abbrev IN_76 : LayD := ⟨1, [(0, .comp [.dat tVec, .row tBody 0, .dat (.list tJoint)])], [.row 39 tBody], fun s => [slotA s 0 2]⟩
noncomputable abbrev OUT_76 : LayD := ⟨0, [], [.row 39 tBody], fun _ => [0]⟩
noncomputable def T_76 : Tb := mkTb tyT mpT [E_164, E_165, E_166, E_167]
theorem T_76_ok : T_76.Ok CT.P := mkTb_ok (⟨e_164, e_165, e_166, e_167, trivial⟩)
noncomputable def l_76_8 : Code := atLoop c_76 8
noncomputable def l_76_3 : Code := atLoop c_76 3
noncomputable abbrev LD_76_3 : LayD := ⟨68, [(1, .ptr 1), (2, .own tBox 2), (12, .own tBody 0), (13, .data I), (14, .data I)], [.row 39 tBody, .var 29 [.data tVec, .own tBody 0, .data (.list tJoint)], .row 131 tBox], fun s => [0, slotR s 1, slotR s 2]⟩
noncomputable abbrev LA_76_3 : LayD := ⟨68, [(1, .ptr 1), (2, .own tBox 2)], [.row 39 tBody, .var 29 [.data tVec, .own tBody 0, .data (.list tJoint)], .row 131 tBox], fun s => [0, slotR s 1, slotR s 2]⟩
noncomputable abbrev LB_76_3 : LayD := ⟨68, [], [], fun _ => []⟩
noncomputable def EX_76_3 : Exits 1 LA_76_3.El LB_76_3.El := ⟨.exit 0, LA_76_3.lay [.nilReg 2 131 tBox], .ret, LB_76_3.lay []⟩

noncomputable def lpi_76_3 {β : Type} : LpT β := fun _ _ _ => none
theorem lpi_76_3_ok {β : Type} : LpTOk (CTp 1) (lpi_76_3 (β := β)) (loopsOf l_76_3) := by
  have h : loopsOf l_76_3 = [] := by kernel_rfl
  rw [h]
  exact LpTOk.nil
noncomputable def G_76_3 (r13 : Ty.El I) (r14 : Ty.El I) (b0 : List (Ty.El tBody)) (b1 : Ty.El tVec × Unit × Ty.El (.list tJoint) × Unit) (b2 : List (Ty.El tBox)) : Option (LD_76_3.El ⊕ ((LA_76_3.El ⊕ LB_76_3.El) ⊕ Int)) := bif Decidable.decide (r14 < r13) then bif Decidable.decide ((0 : Int) ≤ r14 ∧ r14 < (↑b0.length : Int)) then (F_164 (b0.getD (Int.toNat r14) Go.DI.S.tBody.dflt)).bind fun v2 => Sum.elim (fun v4 => bif ((b2.length + [v4.fst].length) * (32 : Nat)).ble (70368744177664 : Nat) then Option.some (Sum.inl (((), (), (), r13, Go.IntKind.i64.wrap (r14 + (1 : Int)), ()), b0, (b1.fst, (), b1.snd.snd.fst, ()), b2 ++ [v4.fst], ())) else Option.none) (fun v5 => Option.some (Sum.inr (Sum.inr v5))) v2 else Option.none else Option.some (Sum.inr (Sum.inl (Sum.inl (((), (), ()), b0, (b1.fst, (), b1.snd.snd.fst, ()), b2, ()))))
theorem g_76_3 (x : LD_76_3.El) : codeT (CTp 1) T_76 (drT (CTp 1) T_76) lpi_76_3 l_76_3 (LD_76_3.enc x) (bodyKP (LD_76_3.lay [.nilReg 2 131 tBox]) EX_76_3 251 68) = G_76_3 x.1.2.2.2.1 x.1.2.2.2.2.1 x.2.1 x.2.2.1 x.2.2.2.1 := by kernel_rfl
noncomputable def R_76_3 : LD_76_3.El → Option ((LA_76_3.El ⊕ LB_76_3.El) ⊕ Int) := roundsT (fun x => G_76_3 x.1.2.2.2.1 x.1.2.2.2.2.1 x.2.1 x.2.2.1 x.2.2.2.1) fuel
theorem r_76_3 : ∀ x y, R_76_3 x = some y → CL (CTp 1) l_76_3 (LD_76_3.enc x) (Sum.elim (fun ab => Sum.elim (fun _ => EX_76_3.xa) (fun _ => EX_76_3.xb) ab) (fun e => .pan (faultV 251 e)) y) (Sum.elim (fun ab => Sum.elim EX_76_3.la.enc EX_76_3.lb.enc ab) (fun _ => panS 1 68) y) :=
  roundsP_ok (L := LD_76_3.lay [.nilReg 2 131 tBox]) (E := EX_76_3) (CTp_ok 1) T_76_ok (drT_ok (CTp_ok 1) T_76_ok) lpi_76_3_ok g_76_3 rfl rfl (fun v h => by have hh : (.exit 0 : AX) = .pan v := h; cases hh) (fun v h => by have hh : (.ret : AX) = .pan v := h; cases hh) fuel
noncomputable abbrev LD_76_8 : LayD := ⟨68, [(1, .ptr 1), (25, .data (.list tPair)), (26, .data I), (27, .data I)], [.row 39 tBody, .var 29 [.data tVec, .own tBody 0, .data (.list tJoint)]], fun s => [0, slotR s 1]⟩
noncomputable abbrev LA_76_8 : LayD := ⟨68, [], [.row 39 tBody], fun s => [0]⟩
noncomputable abbrev LB_76_8 : LayD := ⟨68, [], [], fun _ => []⟩
noncomputable def EX_76_8 : Exits 1 LA_76_8.El LB_76_8.El := ⟨.exit 2, LA_76_8.lay [], .ret, LB_76_8.lay []⟩

noncomputable def lpi_76_8 {β : Type} : LpT β := fun _ _ _ => none
theorem lpi_76_8_ok {β : Type} : LpTOk (CTp 1) (lpi_76_8 (β := β)) (loopsOf l_76_8) := by
  have h : loopsOf l_76_8 = [] := by kernel_rfl
  rw [h]
  exact LpTOk.nil
noncomputable def G_76_8 (r25 : Ty.El (.list tPair)) (r26 : Ty.El I) (r27 : Ty.El I) (b0 : List (Ty.El tBody)) (b1 : Ty.El tVec × Unit × Ty.El (.list tJoint) × Unit) : Option (LD_76_8.El ⊕ ((LA_76_8.El ⊕ LB_76_8.El) ⊕ Int)) := bif Decidable.decide (r27 < r26) then bif Decidable.decide ((0 : Int) ≤ r27 ∧ r27 < (↑(List.length r25) : Int)) then bif Decidable.decide ((0 : Int) ≤ (List.getD r25 (Int.toNat r27) Go.DI.S.tPair.dflt).fst ∧ (List.getD r25 (Int.toNat r27) Go.DI.S.tPair.dflt).fst < (↑b0.length : Int)) then bif Decidable.decide ((0 : Int) ≤ (List.getD r25 (Int.toNat r27) Go.DI.S.tPair.dflt).snd ∧ (List.getD r25 (Int.toNat r27) Go.DI.S.tPair.dflt).snd < (↑b0.length : Int)) then (F_166 (b0.getD (Int.toNat (List.getD r25 (Int.toNat r27) Go.DI.S.tPair.dflt).fst) Go.DI.S.tBody.dflt) (b0.getD (Int.toNat (List.getD r25 (Int.toNat r27) Go.DI.S.tPair.dflt).snd) Go.DI.S.tBody.dflt)).bind fun v2 => Sum.elim (fun v4 => bif v4.snd.fst then (F_167 (b0.getD (Int.toNat (List.getD r25 (Int.toNat r27) Go.DI.S.tPair.dflt).fst) Go.DI.S.tBody.dflt) (b0.getD (Int.toNat (List.getD r25 (Int.toNat r27) Go.DI.S.tPair.dflt).snd) Go.DI.S.tBody.dflt) v4.fst).bind fun v6 => Sum.elim (fun v8 => bif Decidable.decide ((0 : Int) ≤ (List.getD r25 (Int.toNat r27) Go.DI.S.tPair.dflt).fst ∧ (List.getD r25 (Int.toNat r27) Go.DI.S.tPair.dflt).fst < (↑b0.length : Int)) then bif Decidable.decide ((0 : Int) ≤ (List.getD r25 (Int.toNat r27) Go.DI.S.tPair.dflt).snd ∧ (List.getD r25 (Int.toNat r27) Go.DI.S.tPair.dflt).snd < (↑(b0.set (Int.toNat (List.getD r25 (Int.toNat r27) Go.DI.S.tPair.dflt).fst) v8.fst).length : Int)) then Option.some (Sum.inl (((), r25, r26, Go.IntKind.i64.wrap (r27 + (1 : Int)), ()), (b0.set (Int.toNat (List.getD r25 (Int.toNat r27) Go.DI.S.tPair.dflt).fst) v8.fst).set (Int.toNat (List.getD r25 (Int.toNat r27) Go.DI.S.tPair.dflt).snd) v8.snd.fst, (b1.fst, (), b1.snd.snd.fst, ()), ())) else Option.none else Option.none) (fun v9 => Option.some (Sum.inr (Sum.inr v9))) v6 else Option.some (Sum.inl (((), r25, r26, Go.IntKind.i64.wrap (r27 + (1 : Int)), ()), b0, (b1.fst, (), b1.snd.snd.fst, ()), ()))) (fun v10 => Option.some (Sum.inr (Sum.inr v10))) v2 else Option.none else Option.none else Option.none else Option.some (Sum.inr (Sum.inl (Sum.inl ((), b0, ()))))
theorem g_76_8 (x : LD_76_8.El) : codeT (CTp 1) T_76 (drT (CTp 1) T_76) lpi_76_8 l_76_8 (LD_76_8.enc x) (bodyKP (LD_76_8.lay []) EX_76_8 251 68) = G_76_8 x.1.2.1 x.1.2.2.1 x.1.2.2.2.1 x.2.1 x.2.2.1 := by kernel_rfl
noncomputable def R_76_8 : LD_76_8.El → Option ((LA_76_8.El ⊕ LB_76_8.El) ⊕ Int) := roundsT (fun x => G_76_8 x.1.2.1 x.1.2.2.1 x.1.2.2.2.1 x.2.1 x.2.2.1) fuel
theorem r_76_8 : ∀ x y, R_76_8 x = some y → CL (CTp 1) l_76_8 (LD_76_8.enc x) (Sum.elim (fun ab => Sum.elim (fun _ => EX_76_8.xa) (fun _ => EX_76_8.xb) ab) (fun e => .pan (faultV 251 e)) y) (Sum.elim (fun ab => Sum.elim EX_76_8.la.enc EX_76_8.lb.enc ab) (fun _ => panS 1 68) y) :=
  roundsP_ok (L := LD_76_8.lay []) (E := EX_76_8) (CTp_ok 1) T_76_ok (drT_ok (CTp_ok 1) T_76_ok) lpi_76_8_ok g_76_8 rfl rfl (fun v h => by have hh : (.exit 2 : AX) = .pan v := h; cases hh) (fun v h => by have hh : (.ret : AX) = .pan v := h; cases hh) fuel
noncomputable def lp_76 {β : Type} : LpT β := fun k s K => if Nat.beq k 3 then lpOneP (LD_76_3.lay [.nilReg 2 131 tBox]) EX_76_3 251 68 R_76_3 s K else if Nat.beq k 8 then lpOneP (LD_76_8.lay []) EX_76_8 251 68 R_76_8 s K else none
theorem lp_76_ok {β : Type} : LpTOk (CTp 1) (lp_76 (β := β)) (loopsOf c_76) := by
  have h : loopsOf c_76 = [(3, l_76_3), (8, l_76_8)] := by kernel_rfl
  rw [h]
  exact LpTOk.cons (fun s K z h => lpOneP_ok r_76_3 h) (LpTOk.cons (fun s K z h => lpOneP_ok r_76_8 h) (LpTOk.nil))
noncomputable def F_76 (a0 : Ty.El tVec × Unit × Ty.El (.list tJoint) × Unit) (b0 : List (Ty.El tBody)) : Option (OUT_76.El ⊕ Int) := (R_76_3 (((), (), (), (↑b0.length : Int), (0 : Int), ()), b0, (a0.fst, (), a0.snd.snd.fst, ()), [], ())).bind fun v1 => Sum.elim (fun v2 => Sum.elim (fun v3 => (F_165 v3.snd.snd.snd.fst).bind fun v5 => (R_76_8 (((), v5.fst, (↑(List.length v5.fst) : Int), (0 : Int), ()), v3.snd.fst, (v3.snd.snd.fst.fst, (), v3.snd.snd.fst.snd.snd.fst, ()), ())).bind fun v6 => Sum.elim (fun v7 => Sum.elim (fun v8 => Option.some (Sum.inl ((), v8.snd.fst, ()))) (fun v9 => Option.none) v7) (fun v10 => Option.some (Sum.inr v10)) v6) (fun v11 => Option.none) v2) (fun v12 => Option.some (Sum.inr v12)) v1
theorem f_76 (x : IN_76.El) : funcXP (CTp 1) T_76 251 IN_76 OUT_76 [] (drT (CTp 1) T_76) lp_76 Tryz.f76 c_76 x = F_76 x.1.1 x.2.1 := by kernel_rfl
noncomputable def E_76 : Ent := .mkGenP 76 [] ⟨251, 1, [], IN_76, OUT_76, fun x => F_76 x.1.1 x.2.1⟩
theorem e_76 : E_76.Ok CT.P := Ent.ofGenP (C := (CTp 1)) (steps := []) (osteps := []) (CTp_ok 1) T_76_ok hf_76 hb_76 lp_76_ok f_76
/-! ### 77: (maquette/world.World).move -/
noncomputable def c_77 : Code := Tryz.f77.body.getD .skip
theorem hb_77 : Tryz.f77.body = some c_77 := by kernel_rfl
theorem hf_77 : CT.P.funcs[77]? = some Tryz.f77 := by kernel_rfl
noncomputable abbrev IN_77 : LayD := ⟨1, [(0, .comp [.dat tVec, .row tBody 0, .dat (.list tJoint)])], [.row 39 tBody], fun s => [slotA s 0 2]⟩
noncomputable abbrev OUT_77 : LayD := ⟨0, [], [.row 39 tBody], fun _ => [0]⟩
noncomputable def T_77 : Tb := mkTb tyT mpT [E_168, E_161, E_62]
theorem T_77_ok : T_77.Ok CT.P := mkTb_ok (⟨e_168, e_161, e_62, trivial⟩)
noncomputable def l_77_2 : Code := atLoop c_77 2
noncomputable abbrev LD_77_2 : LayD := ⟨27, [(1, .ptr 1), (5, .own tBody 0), (6, .data I), (7, .data I)], [.row 39 tBody, .var 29 [.data tVec, .own tBody 0, .data (.list tJoint)]], fun s => [0, slotR s 1]⟩
noncomputable abbrev LA_77_2 : LayD := ⟨27, [], [.row 39 tBody], fun s => [0]⟩
noncomputable abbrev LB_77_2 : LayD := ⟨27, [], [], fun _ => []⟩
noncomputable def EX_77_2 : Exits 1 LA_77_2.El LB_77_2.El := ⟨.exit 0, LA_77_2.lay [], .ret, LB_77_2.lay []⟩

noncomputable def lpi_77_2 {β : Type} : LpT β := fun _ _ _ => none
theorem lpi_77_2_ok {β : Type} : LpTOk (CTp 1) (lpi_77_2 (β := β)) (loopsOf l_77_2) := by
  have h : loopsOf l_77_2 = [] := by kernel_rfl
  rw [h]
  exact LpTOk.nil
noncomputable def G_77_2 (r6 : Ty.El I) (r7 : Ty.El I) (b0 : List (Ty.El tBody)) (b1 : Ty.El tVec × Unit × Ty.El (.list tJoint) × Unit) : Option (LD_77_2.El ⊕ ((LA_77_2.El ⊕ LB_77_2.El) ⊕ Int)) := bif Decidable.decide (r7 < r6) then bif Decidable.decide ((0 : Int) ≤ r7 ∧ r7 < (↑b0.length : Int)) then bif (b0.getD (Int.toNat r7) Go.DI.S.tBody.dflt).snd.snd.fst != (0 : Int) then (F_168 (b0.getD (Int.toNat r7) Go.DI.S.tBody.dflt)).bind fun v2 => Sum.elim (fun v4 => (F_161 v4.fst (64 : Int)).bind fun v6 => Sum.elim (fun v8 => (F_62 (b0.getD (Int.toNat r7) Go.DI.S.tBody.dflt).snd.snd.snd.fst v8.fst).bind fun v10 => Sum.elim (fun v12 => bif Decidable.decide ((0 : Int) ≤ r7 ∧ r7 < (↑b0.length : Int)) then Option.some (Sum.inl (((), (), r6, Go.IntKind.i64.wrap (r7 + (1 : Int)), ()), b0.set (Int.toNat r7) ((b0.getD (Int.toNat r7) Go.DI.S.tBody.dflt).fst, (b0.getD (Int.toNat r7) Go.DI.S.tBody.dflt).snd.fst, (b0.getD (Int.toNat r7) Go.DI.S.tBody.dflt).snd.snd.fst, v12.fst, (b0.getD (Int.toNat r7) Go.DI.S.tBody.dflt).snd.snd.snd.snd), (b1.fst, (), b1.snd.snd.fst, ()), ())) else Option.none) (fun v13 => Option.some (Sum.inr (Sum.inr v13))) v10) (fun v14 => Option.some (Sum.inr (Sum.inr v14))) v6) (fun v15 => Option.some (Sum.inr (Sum.inr v15))) v2 else Option.some (Sum.inl (((), (), r6, Go.IntKind.i64.wrap (r7 + (1 : Int)), ()), b0, (b1.fst, (), b1.snd.snd.fst, ()), ())) else Option.none else Option.some (Sum.inr (Sum.inl (Sum.inl ((), b0, ()))))
theorem g_77_2 (x : LD_77_2.El) : codeT (CTp 1) T_77 (drT (CTp 1) T_77) lpi_77_2 l_77_2 (LD_77_2.enc x) (bodyKP (LD_77_2.lay []) EX_77_2 251 27) = G_77_2 x.1.2.2.1 x.1.2.2.2.1 x.2.1 x.2.2.1 := by kernel_rfl
noncomputable def R_77_2 : LD_77_2.El → Option ((LA_77_2.El ⊕ LB_77_2.El) ⊕ Int) := roundsT (fun x => G_77_2 x.1.2.2.1 x.1.2.2.2.1 x.2.1 x.2.2.1) fuel
theorem r_77_2 : ∀ x y, R_77_2 x = some y → CL (CTp 1) l_77_2 (LD_77_2.enc x) (Sum.elim (fun ab => Sum.elim (fun _ => EX_77_2.xa) (fun _ => EX_77_2.xb) ab) (fun e => .pan (faultV 251 e)) y) (Sum.elim (fun ab => Sum.elim EX_77_2.la.enc EX_77_2.lb.enc ab) (fun _ => panS 1 27) y) :=
  roundsP_ok (L := LD_77_2.lay []) (E := EX_77_2) (CTp_ok 1) T_77_ok (drT_ok (CTp_ok 1) T_77_ok) lpi_77_2_ok g_77_2 rfl rfl (fun v h => by have hh : (.exit 0 : AX) = .pan v := h; cases hh) (fun v h => by have hh : (.ret : AX) = .pan v := h; cases hh) fuel
noncomputable def lp_77 {β : Type} : LpT β := fun k s K => if Nat.beq k 2 then lpOneP (LD_77_2.lay []) EX_77_2 251 27 R_77_2 s K else none
theorem lp_77_ok {β : Type} : LpTOk (CTp 1) (lp_77 (β := β)) (loopsOf c_77) := by
  have h : loopsOf c_77 = [(2, l_77_2)] := by kernel_rfl
  rw [h]
  exact LpTOk.cons (fun s K z h => lpOneP_ok r_77_2 h) (LpTOk.nil)
noncomputable def F_77 (a0 : Ty.El tVec × Unit × Ty.El (.list tJoint) × Unit) (b0 : List (Ty.El tBody)) : Option (OUT_77.El ⊕ Int) := (R_77_2 (((), (), (↑b0.length : Int), (0 : Int), ()), b0, (a0.fst, (), a0.snd.snd.fst, ()), ())).bind fun v1 => Sum.elim (fun v2 => Sum.elim (fun v3 => Option.some (Sum.inl ((), v3.snd.fst, ()))) (fun v4 => Option.none) v2) (fun v5 => Option.some (Sum.inr v5)) v1
theorem f_77 (x : IN_77.El) : funcXP (CTp 1) T_77 251 IN_77 OUT_77 [] (drT (CTp 1) T_77) lp_77 Tryz.f77 c_77 x = F_77 x.1.1 x.2.1 := by kernel_rfl
noncomputable def E_77 : Ent := .mkGenP 77 [] ⟨251, 1, [], IN_77, OUT_77, fun x => F_77 x.1.1 x.2.1⟩
theorem e_77 : E_77.Ok CT.P := Ent.ofGenP (C := (CTp 1)) (steps := []) (osteps := []) (CTp_ok 1) T_77_ok hf_77 hb_77 lp_77_ok f_77
end Go.DI.S

