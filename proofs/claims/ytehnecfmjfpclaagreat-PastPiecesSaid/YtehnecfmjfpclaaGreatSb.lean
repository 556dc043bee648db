import Derived.Test.YtehnecfmjfpclaaGreatSa
import Derived.Test.YtehnecfmjfpclaaGreatDid
import Derived.Test.YtehnecfmjfpclaaGreatDie
/- The functions of scenes, each told by a function on data; slices.Clone. No conditions. -/
set_option linter.unusedVariables false
set_option maxRecDepth 100000
set_option maxHeartbeats 0
namespace Go.DI.S
open Go.Proofs
def restOf : Code → Code
  | .seq _ (.seq _ r) => r
  | c => c
def partA : Code → Nat × Array Oper
  | .seq (.region i o _) _ => (i, o)
  | _ => (0, #[])
def partB : Code → Nat × Array Oper
  | .seq _ (.seq (.seq (.region i o _) _) _) => (i, o)
  | _ => (0, #[])
def partC : Code → Nat × Array Oper
  | .seq _ (.seq (.seq _ (.cond _ (.seq (.region i o _) _) _)) _) => (i, o)
  | _ => (0, #[])
noncomputable def T_0 : Tb := mkTb tyT mpT []
theorem T_0_ok : T_0.Ok CT.P := mkTb_ok trivial
noncomputable def c_46 : Code := Tryz.f104.body.getD .skip
theorem hb_46 : Tryz.f104.body = some c_46 := by kernel_rfl
theorem hf_46 : CT.P.funcs[104]? = some Tryz.f104 := by kernel_rfl
noncomputable def k_46 : CloneCode CT Tryz.f104 c_46 50 where
  i0 := (partA c_46).1
  i1 := (partB c_46).1
  i2 := (partC c_46).1
  ops0 := (partA c_46).2
  ops1 := (partB c_46).2
  ops2 := (partC c_46).2
  rest := restOf c_46
  code := by kernel_rfl
  s0 := by kernel_rfl
  s1 := by kernel_rfl
  s2 := by kernel_rfl
  o00 := ((partA c_46).2[0]?).getD default
  o10 := ((partB c_46).2[0]?).getD default
  o11 := ((partB c_46).2[1]?).getD default
  o20 := ((partC c_46).2[0]?).getD default
  h00 := by kernel_rfl
  h10 := by kernel_rfl
  h11 := by kernel_rfl
  h20 := by kernel_rfl
  g00 := ⟨by kernel_rfl, by kernel_rfl, by kernel_rfl⟩
  g10 := ⟨by kernel_rfl, by kernel_rfl, by kernel_rfl⟩
  g11 := ⟨by kernel_rfl, by kernel_rfl, by kernel_rfl⟩
  g20 := ⟨by kernel_rfl, by kernel_rfl, by kernel_rfl⟩
  nt := by kernel_rfl
  res := by kernel_rfl
def O_46 (l : List Int) : Option (List Int) := bif Nat.ble (l.length * 8) 70368744177664 then some l else none
theorem f_46 (l : List (Ty.El I)) : codeT CT T_0 (drT CT T_0) (fun _ _ _ => none) (restOf c_46) ⟨[.lst I l, .any, .nils, .any, .bool false, .any, .any, .any], []⟩ (retO CT 3 I [.tmp 2]) = O_46 l := by kernel_rfl
noncomputable def F_46 (a1 : Ty.El (.list I)) : Option (Els [.list I]) := (O_46 a1).map fun l => (l, ())
noncomputable def E_46 : Ent := .fn 104 [] ⟨[.ty (.list I)], [.list I], fun x => F_46 x.1, false⟩
theorem und_30 : CT.P.underlying 50 = some (.slice 3) := by kernel_rfl
theorem lo_46 : loopsOf (restOf c_46) = [] := by kernel_rfl
theorem e_46 : E_46.Ok CT.P := by
  intro x y h
  have h : F_46 x.1 = some y := h
  unfold F_46 at h
  obtain ⟨l, hl, rfl⟩ := Option.map_eq_some_iff.1 h
  have h1 := clone_own (e := 3) (bt := 3) CT_ok T_0_ok hf_46 hb_46 k_46 und_30 lo_46 (l := x.1) (y := l) ((f_46 x.1).trans hl) (fun h0 => by
    rw [h0] at hl
    exact (Option.some.inj hl).symm)
  exact h1.ownFreeze
end Go.DI.S
set_option linter.unusedVariables false
set_option maxRecDepth 100000
set_option maxHeartbeats 0
namespace Go.DI.S
open Go.Proofs
noncomputable def c_23 : Code := Tryz.f97.body.getD .skip
theorem hb_23 : Tryz.f97.body = some c_23 := by kernel_rfl
theorem hf_23 : CT.P.funcs[97]? = some Tryz.f97 := by kernel_rfl
noncomputable def T_23 : Tb := mkTb tyT mpT [E_55a, E_46]
theorem T_23_ok : T_23.Ok CT.P := mkTb_ok (⟨e_55a, e_46, trivial⟩)
noncomputable def lp_23 {β : Type} : LpT β := fun _ _ _ => none
theorem lp_23_ok {β : Type} : LpTOk CT (lp_23 (β := β)) (loopsOf c_23) := by
  have h : loopsOf c_23 = [] := by kernel_rfl
  rw [h]
  exact LpTOk.nil
noncomputable def F_23 (a1 : Ty.El tScene) (a2 : Ty.El I) : Option (Els [tThing, .bool]) := (F_55a a1.snd.snd (a2, ())).bind fun v1 => bif Decidable.decide (v1.fst < (0 : Int)) then Option.some (((0 : Int), (0 : Int), ((0 : Int), ((0 : Int), (0 : Int)), (0 : Int), ((0 : Int), (0 : Int)), (0 : Int), (0 : Int)), ((0 : Int), (0 : Int), (0 : Int)), []), Bool.false, ()) else bif Decidable.decide ((0 : Int) ≤ v1.fst ∧ v1.fst < ↑(List.length a1.snd.snd)) then (F_46 (List.getD a1.snd.snd (Int.toNat v1.fst) Go.DI.S.tThing.dflt).snd.snd.snd.snd).bind fun v4 => Option.some (((List.getD a1.snd.snd (Int.toNat v1.fst) Go.DI.S.tThing.dflt).fst, (List.getD a1.snd.snd (Int.toNat v1.fst) Go.DI.S.tThing.dflt).snd.fst, (List.getD a1.snd.snd (Int.toNat v1.fst) Go.DI.S.tThing.dflt).snd.snd.fst, (List.getD a1.snd.snd (Int.toNat v1.fst) Go.DI.S.tThing.dflt).snd.snd.snd.fst, v4.fst), Bool.true, ()) else Option.none
theorem f_23 (x : Ps [.ty tScene, .ty I]) : funcT CT T_23 [tThing, .bool] (drT CT T_23) lp_23 Tryz.f97 c_23 (encPs [.ty tScene, .ty I] x) = F_23 x.1 x.2.1 := by kernel_rfl
noncomputable def E_23 : Ent := .fn 97 [] ⟨[.ty tScene, .ty I], [tThing, .bool], fun x => F_23 x.1 x.2.1, false⟩
theorem e_23 : E_23.Ok CT.P := Ent.ofFn CT_ok T_23_ok hf_23 hb_23 lp_23_ok f_23
noncomputable def E_23h : Ent := .fn 97 [] ⟨[.ty tScene, .ty I], [tThing, .bool], fun x => F_23 x.1 x.2.1, true⟩
noncomputable def c_52 : Code := Tryz.f64.body.getD .skip
theorem hb_52 : Tryz.f64.body = some c_52 := by kernel_rfl
theorem hf_52 : CT.P.funcs[64]? = some Tryz.f64 := by kernel_rfl
noncomputable def T_52 : Tb := mkTb tyT mpT [E_23h, E_48]
theorem T_52_ok : T_52.Ok CT.P := mkTb_ok (⟨e_23, e_48, trivial⟩)
noncomputable def l_52_2 : Code := atLoop c_52 2
noncomputable def l_52_10 : Code := atLoop l_52_2 10
noncomputable abbrev LD_52_10 : LayD := ⟨64, [(1, .ptr 0), (14, .data (.list tThing)), (15, .data I), (16, .data I), (48, .data (.list I)), (49, .data I), (50, .data I)], [.var 30 [.data tScene]], fun s => [slotR s 1]⟩
noncomputable abbrev LA_52_10 : LayD := ⟨64, [(1, .ptr 0), (14, .data (.list tThing)), (15, .data I), (16, .data I)], [.var 30 [.data tScene]], fun s => [slotR s 1]⟩
noncomputable abbrev LB_52_10 : LayD := ⟨64, [(2, .data .bool)], [], fun _ => []⟩
noncomputable def EX_52_10 : Exits 0 LA_52_10.El LB_52_10.El := ⟨.exit 2, LA_52_10.lay [], .ret, LB_52_10.lay []⟩
noncomputable def lpi_52_10 {β : Type} : LpT β := fun _ _ _ => none
theorem lpi_52_10_ok {β : Type} : LpTOk CT (lpi_52_10 (β := β)) (loopsOf l_52_10) := by
  have h : loopsOf l_52_10 = [] := by kernel_rfl
  rw [h]
  exact LpTOk.nil
noncomputable def G_52_10 (r14 : Ty.El (.list tThing)) (r15 : Ty.El I) (r16 : Ty.El I) (r48 : Ty.El (.list I)) (r49 : Ty.El I) (r50 : Ty.El I) (b0 : Ty.El tScene × Unit) : Option (LD_52_10.El ⊕ (LA_52_10.El ⊕ LB_52_10.El)) := bif Decidable.decide (r50 < r49) then bif Decidable.decide ((0 : Int) ≤ r50 ∧ r50 < ↑(List.length r48)) then (F_48 b0.fst (List.getD r48 (Int.toNat r50) (0 : Int))).bind fun v3 => bif !v3.snd.fst then Option.some (Sum.inr (Sum.inr ((Bool.false, ()), ()))) else Option.some (Sum.inl (((), r14, r15, r16, r48, r49, Go.IntKind.i64.wrap (r50 + (1 : Int)), ()), (b0.fst, ()), ())) else Option.none else Option.some (Sum.inr (Sum.inl (((), r14, r15, r16, ()), (b0.fst, ()), ())))
theorem g_52_10 (x : LD_52_10.El) : codeT CT T_52 (drT CT T_52) lpi_52_10 l_52_10 (LD_52_10.enc x) (bodyK (LD_52_10.lay []) EX_52_10) = G_52_10 x.1.2.1 x.1.2.2.1 x.1.2.2.2.1 x.1.2.2.2.2.1 x.1.2.2.2.2.2.1 x.1.2.2.2.2.2.2.1 x.2.1 := by kernel_rfl
noncomputable def R_52_10 : LD_52_10.El → Option (LA_52_10.El ⊕ LB_52_10.El) := roundsT (fun x => G_52_10 x.1.2.1 x.1.2.2.1 x.1.2.2.2.1 x.1.2.2.2.2.1 x.1.2.2.2.2.2.1 x.1.2.2.2.2.2.2.1 x.2.1) fuel
theorem r_52_10 : ∀ x y, R_52_10 x = some y → CL CT l_52_10 (LD_52_10.enc x) (Sum.elim (fun _ => EX_52_10.xa) (fun _ => EX_52_10.xb) y) (Sum.elim EX_52_10.la.enc EX_52_10.lb.enc y) :=
  rounds_ok (L := LD_52_10.lay []) (E := EX_52_10) CT_ok T_52_ok (drT_ok CT_ok T_52_ok) lpi_52_10_ok g_52_10 rfl rfl (fun v h => by have hh : (.exit 2 : AX) = .pan v := h; cases hh) (fun v h => by have hh : (.ret : AX) = .pan v := h; cases hh) fuel
noncomputable abbrev LD_52_2 : LayD := ⟨64, [(1, .ptr 0), (14, .data (.list tThing)), (15, .data I), (16, .data I)], [.var 30 [.data tScene]], fun s => [slotR s 1]⟩
noncomputable abbrev LA_52_2 : LayD := ⟨64, [], [], fun _ => []⟩
noncomputable abbrev LB_52_2 : LayD := ⟨64, [(2, .data .bool)], [], fun _ => []⟩
noncomputable def EX_52_2 : Exits 0 LA_52_2.El LB_52_2.El := ⟨.exit 0, LA_52_2.lay [], .ret, LB_52_2.lay []⟩
noncomputable def lpi_52_2 {β : Type} : LpT β := fun k s K => if Nat.beq k 10 then lpOne (LD_52_10.lay []) EX_52_10 R_52_10 s K else none
theorem lpi_52_2_ok {β : Type} : LpTOk CT (lpi_52_2 (β := β)) (loopsOf l_52_2) := by
  have h : loopsOf l_52_2 = [(10, l_52_10)] := by kernel_rfl
  rw [h]
  exact LpTOk.cons (fun s K z h => lpOne_ok r_52_10 h) (LpTOk.nil)
noncomputable def G_52_2 (r14 : Ty.El (.list tThing)) (r15 : Ty.El I) (r16 : Ty.El I) (b0 : Ty.El tScene × Unit) : Option (LD_52_2.El ⊕ (LA_52_2.El ⊕ LB_52_2.El)) := bif Decidable.decide (r16 < r15) then bif Decidable.decide ((0 : Int) ≤ r16 ∧ r16 < ↑(List.length r14)) then bif (List.getD r14 (Int.toNat r16) Go.DI.S.tThing.dflt).snd.fst == (2 : Int) then (F_23 b0.fst (List.getD r14 (Int.toNat r16) Go.DI.S.tThing.dflt).snd.snd.snd.fst.fst).bind fun v4 => (F_23 b0.fst (List.getD r14 (Int.toNat r16) Go.DI.S.tThing.dflt).snd.snd.snd.fst.snd.fst).bind fun v5 => bif v4.fst.snd.fst != (1 : Int) then Option.some (Sum.inr (Sum.inr ((Bool.false, ()), ()))) else bif v5.fst.snd.fst != (1 : Int) then Option.some (Sum.inr (Sum.inr ((Bool.false, ()), ()))) else (R_52_10 (((), r14, r15, r16, (List.getD r14 (Int.toNat r16) Go.DI.S.tThing.dflt).snd.snd.snd.snd, ↑(List.length (List.getD r14 (Int.toNat r16) Go.DI.S.tThing.dflt).snd.snd.snd.snd), (0 : Int), ()), (b0.fst, ()), ())).bind fun v8 => Sum.elim (fun v9 => Option.some (Sum.inl (((), v9.fst.snd.fst, v9.fst.snd.snd.fst, Go.IntKind.i64.wrap (v9.fst.snd.snd.snd.fst + (1 : Int)), ()), (v9.snd.fst.fst, ()), ()))) (fun v10 => Option.some (Sum.inr (Sum.inr ((v10.fst.fst, ()), ())))) v8 else (R_52_10 (((), r14, r15, r16, (List.getD r14 (Int.toNat r16) Go.DI.S.tThing.dflt).snd.snd.snd.snd, ↑(List.length (List.getD r14 (Int.toNat r16) Go.DI.S.tThing.dflt).snd.snd.snd.snd), (0 : Int), ()), (b0.fst, ()), ())).bind fun v11 => Sum.elim (fun v12 => Option.some (Sum.inl (((), v12.fst.snd.fst, v12.fst.snd.snd.fst, Go.IntKind.i64.wrap (v12.fst.snd.snd.snd.fst + (1 : Int)), ()), (v12.snd.fst.fst, ()), ()))) (fun v13 => Option.some (Sum.inr (Sum.inr ((v13.fst.fst, ()), ())))) v11 else Option.none else Option.some (Sum.inr (Sum.inl ((), ())))
theorem g_52_2 (x : LD_52_2.El) : codeT CT T_52 (drT CT T_52) lpi_52_2 l_52_2 (LD_52_2.enc x) (bodyK (LD_52_2.lay []) EX_52_2) = G_52_2 x.1.2.1 x.1.2.2.1 x.1.2.2.2.1 x.2.1 := by kernel_rfl
noncomputable def R_52_2 : LD_52_2.El → Option (LA_52_2.El ⊕ LB_52_2.El) := roundsT (fun x => G_52_2 x.1.2.1 x.1.2.2.1 x.1.2.2.2.1 x.2.1) fuel
theorem r_52_2 : ∀ x y, R_52_2 x = some y → CL CT l_52_2 (LD_52_2.enc x) (Sum.elim (fun _ => EX_52_2.xa) (fun _ => EX_52_2.xb) y) (Sum.elim EX_52_2.la.enc EX_52_2.lb.enc y) :=
  rounds_ok (L := LD_52_2.lay []) (E := EX_52_2) CT_ok T_52_ok (drT_ok CT_ok T_52_ok) lpi_52_2_ok g_52_2 rfl rfl (fun v h => by have hh : (.exit 0 : AX) = .pan v := h; cases hh) (fun v h => by have hh : (.ret : AX) = .pan v := h; cases hh) fuel
noncomputable def lp_52 {β : Type} : LpT β := fun k s K => if Nat.beq k 2 then lpOne (LD_52_2.lay []) EX_52_2 R_52_2 s K else none
theorem lp_52_ok {β : Type} : LpTOk CT (lp_52 (β := β)) (loopsOf c_52) := by
  have h : loopsOf c_52 = [(2, l_52_2)] := by kernel_rfl
  rw [h]
  exact LpTOk.cons (fun s K z h => lpOne_ok r_52_2 h) (LpTOk.nil)
noncomputable def F_52 (a1 : Ty.El tScene) : Option (Els [.bool]) := (R_52_2 (((), a1.snd.snd, ↑(List.length a1.snd.snd), (0 : Int), ()), (a1, ()), ())).bind fun v1 => Sum.elim (fun v2 => Option.some (Bool.true, ())) (fun v3 => Option.some (v3.fst.fst, ())) v1
theorem f_52 (x : Ps [.ty tScene]) : funcT CT T_52 [.bool] (drT CT T_52) lp_52 Tryz.f64 c_52 (encPs [.ty tScene] x) = F_52 x.1 := by kernel_rfl
noncomputable def E_52 : Ent := .fn 64 [] ⟨[.ty tScene], [.bool], fun x => F_52 x.1, false⟩
theorem e_52 : E_52.Ok CT.P := Ent.ofFn CT_ok T_52_ok hf_52 hb_52 lp_52_ok f_52
noncomputable def c_20 : Code := Tryz.f25.body.getD .skip
theorem hb_20 : Tryz.f25.body = some c_20 := by kernel_rfl
theorem hf_20 : CT.P.funcs[25]? = some Tryz.f25 := by kernel_rfl
noncomputable def T_20 : Tb := mkTb tyT mpT [E_51, E_52, E_53, E_54]
theorem T_20_ok : T_20.Ok CT.P := mkTb_ok (⟨e_51, e_52, e_53, e_54, trivial⟩)
noncomputable def lp_20 {β : Type} : LpT β := fun _ _ _ => none
theorem lp_20_ok {β : Type} : LpTOk CT (lp_20 (β := β)) (loopsOf c_20) := by
  have h : loopsOf c_20 = [] := by kernel_rfl
  rw [h]
  exact LpTOk.nil
noncomputable def F_20 (a1 : Ty.El tScene) : Option (Els [.bool]) := (F_54 a1).bind fun v1 => bif v1.fst then (F_52 a1).bind fun v3 => bif v3.fst then (F_51 a1).bind fun v5 => bif v5.fst then (F_53 a1).bind fun v7 => Option.some (v7.fst, ()) else Option.some (Bool.false, ()) else Option.some (Bool.false, ()) else Option.some (Bool.false, ())
theorem f_20 (x : Ps [.ty tScene]) : funcT CT T_20 [.bool] (drT CT T_20) lp_20 Tryz.f25 c_20 (encPs [.ty tScene] x) = F_20 x.1 := by kernel_rfl
noncomputable def E_20 : Ent := .fn 25 [] ⟨[.ty tScene], [.bool], fun x => F_20 x.1, false⟩
theorem e_20 : E_20.Ok CT.P := Ent.ofFn CT_ok T_20_ok hf_20 hb_20 lp_20_ok f_20
end Go.DI.S
set_option linter.unusedVariables false
set_option maxRecDepth 100000
set_option maxHeartbeats 0
namespace Go.DI.S
open Go.Proofs
end Go.DI.S
set_option linter.unusedVariables false
set_option maxRecDepth 100000
set_option maxHeartbeats 0
namespace Go.DI.S
open Go.Proofs
end Go.DI.S
set_option linter.unusedVariables false
namespace Go.DI.S
open Go.Proofs
noncomputable abbrev tyP : TypeId → Option Ty := tyT
noncomputable abbrev mpP : TypeId → Option (Ty × Ty) := mpT
end Go.DI.S
set_option linter.unusedVariables false
set_option maxRecDepth 100000
set_option maxHeartbeats 0
namespace Go.DI.S
open Go.Proofs
noncomputable def T_P : Tb := mkTb tyP mpP []
theorem T_P_ok : T_P.Ok CT.P := mkTb_ok trivial
noncomputable def c_132 : Code := Tryz.f81.body.getD .skip
theorem hb_132 : Tryz.f81.body = some c_132 := by kernel_rfl
theorem hf_132 : CT.P.funcs[81]? = some Tryz.f81 := by kernel_rfl
noncomputable def k_132 : CloneCode CT Tryz.f81 c_132 54 where
  i0 := (partA c_132).1
  i1 := (partB c_132).1
  i2 := (partC c_132).1
  ops0 := (partA c_132).2
  ops1 := (partB c_132).2
  ops2 := (partC c_132).2
  rest := restOf c_132
  code := by kernel_rfl
  s0 := by kernel_rfl
  s1 := by kernel_rfl
  s2 := by kernel_rfl
  o00 := ((partA c_132).2[0]?).getD default
  o10 := ((partB c_132).2[0]?).getD default
  o11 := ((partB c_132).2[1]?).getD default
  o20 := ((partC c_132).2[0]?).getD default
  h00 := by kernel_rfl
  h10 := by kernel_rfl
  h11 := by kernel_rfl
  h20 := by kernel_rfl
  g00 := ⟨by kernel_rfl, by kernel_rfl, by kernel_rfl⟩
  g10 := ⟨by kernel_rfl, by kernel_rfl, by kernel_rfl⟩
  g11 := ⟨by kernel_rfl, by kernel_rfl, by kernel_rfl⟩
  g20 := ⟨by kernel_rfl, by kernel_rfl, by kernel_rfl⟩
  nt := by kernel_rfl
  res := by kernel_rfl
noncomputable def O_132 (l : List (Ty.El tDelta)) : Option (List (Ty.El tDelta)) := bif Nat.ble (l.length * 40) 70368744177664 then some l else none
theorem f_132 (l : List (Ty.El tDelta)) : codeT CT T_P (drT CT T_P) (fun _ _ _ => none) (restOf c_132) ⟨[.lst tDelta l, .any, .nils, .any, .bool false, .any, .any, .any], []⟩ (retO CT 108 tDelta [.tmp 2]) = O_132 l := by kernel_rfl
noncomputable def F_132 (a1 : Ty.El (.list tDelta)) : Option (Els [.list tDelta]) := (O_132 a1).map fun l => (l, ())
noncomputable def E_132 : Ent := .fn 81 [] ⟨[.ty (.list tDelta)], [.list tDelta], fun x => F_132 x.1, false⟩
theorem und_67 : CT.P.underlying 54 = some (.slice 108) := by kernel_rfl
theorem lo_132 : loopsOf (restOf c_132) = [] := by kernel_rfl
theorem e_132 : E_132.Ok CT.P := by
  intro x y h
  have h : F_132 x.1 = some y := h
  unfold F_132 at h
  obtain ⟨l, hl, rfl⟩ := Option.map_eq_some_iff.1 h
  have h1 := clone_own (e := 108) (bt := 108) CT_ok T_P_ok hf_132 hb_132 k_132 und_67 lo_132 (l := x.1) (y := l) ((f_132 x.1).trans hl) (fun h0 => by
    rw [h0] at hl
    exact (Option.some.inj hl).symm)
  exact h1.ownFreeze
noncomputable def F_108 (a1 : Ty.El (.list tEntry)) : Option (List (Ty.El tEntry)) := bif Nat.ble (List.length a1 * 80) 70368744177664 then some a1 else none
end Go.DI.S
