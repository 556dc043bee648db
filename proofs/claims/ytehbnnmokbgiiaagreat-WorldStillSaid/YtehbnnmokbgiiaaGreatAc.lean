import Derived.Test.YtehbnnmokbgiiaaGreatAb
/- Sorting: told by functions on data. No conditions. -/
/-! The program's functions, told by functions on data. -/
set_option linter.unusedVariables false
set_option maxRecDepth 100000
set_option maxHeartbeats 0
namespace Go.DI.S
open Go.Proofs
/-! ### 290: cmp.isNaNint -/
noncomputable def c_290 : Code := Tryz.f290.body.getD .skip
theorem hb_290 : Tryz.f290.body = some c_290 := by kernel_rfl
theorem hf_290 : CT.P.funcs[290]? = some Tryz.f290 := by kernel_rfl
noncomputable def T_290 : Tb := mkTb tyT mpT []
theorem T_290_ok : T_290.Ok CT.P := mkTb_ok (trivial)
noncomputable def lp_290 {β : Type} : LpT β := fun _ _ _ => none
theorem lp_290_ok {β : Type} : LpTOk CT (lp_290 (β := β)) (loopsOf c_290) := by
  have h : loopsOf c_290 = [] := by kernel_rfl
  rw [h]
  exact LpTOk.nil
noncomputable def F_290 (a1 : Ty.El I) : Option (Els [.bool]) := Option.some (a1 != a1, ())
theorem f_290 (x : Ps [.ty I]) : funcT CT T_290 [.bool] (drT CT T_290) lp_290 Tryz.f290 c_290 (encPs [.ty I] x) = F_290 x.1 := by kernel_rfl
noncomputable def E_290 : Ent := .fn 290 [] ⟨[.ty I], [.bool], fun x => F_290 x.1, false⟩
theorem e_290 : E_290.Ok CT.P := Ent.ofFn CT_ok T_290_ok hf_290 hb_290 lp_290_ok f_290
noncomputable def E_290h : Ent := .fn 290 [] ⟨[.ty I], [.bool], fun x => F_290 x.1, true⟩
/-! ### 238: cmp.Compareint -/
noncomputable def c_238 : Code := Tryz.f238.body.getD .skip
theorem hb_238 : Tryz.f238.body = some c_238 := by kernel_rfl
theorem hf_238 : CT.P.funcs[238]? = some Tryz.f238 := by kernel_rfl
noncomputable def T_238 : Tb := mkTb tyT mpT [E_290]
theorem T_238_ok : T_238.Ok CT.P := mkTb_ok (⟨e_290, trivial⟩)
noncomputable def lp_238 {β : Type} : LpT β := fun _ _ _ => none
theorem lp_238_ok {β : Type} : LpTOk CT (lp_238 (β := β)) (loopsOf c_238) := by
  have h : loopsOf c_238 = [] := by kernel_rfl
  rw [h]
  exact LpTOk.nil
noncomputable def F_238 (a1 : Ty.El I) (a2 : Ty.El I) : Option (Els [I]) := (F_290 a1).bind fun v2 => (F_290 a2).bind fun v4 => bif v2.fst then bif v4.fst then Option.some ((0 : Int), ()) else Option.some ((-1 : Int), ()) else bif v4.fst then Option.some ((1 : Int), ()) else bif Decidable.decide (a1 < a2) then Option.some ((-1 : Int), ()) else bif Decidable.decide (a1 > a2) then Option.some ((1 : Int), ()) else Option.some ((0 : Int), ())
theorem f_238 (x : Ps [.ty I, .ty I]) : funcT CT T_238 [I] (drT CT T_238) lp_238 Tryz.f238 c_238 (encPs [.ty I, .ty I] x) = F_238 x.1 x.2.1 := by kernel_rfl
noncomputable def E_238 : Ent := .fn 238 [] ⟨[.ty I, .ty I], [I], fun x => F_238 x.1 x.2.1, false⟩
theorem e_238 : E_238.Ok CT.P := Ent.ofFn CT_ok T_238_ok hf_238 hb_238 lp_238_ok f_238
noncomputable def E_238h : Ent := .fn 238 [] ⟨[.ty I, .ty I], [I], fun x => F_238 x.1 x.2.1, true⟩
/-! ### 310: cmp.isNaNmaquette/api.Fix -/
noncomputable def c_310 : Code := Tryz.f310.body.getD .skip
theorem hb_310 : Tryz.f310.body = some c_310 := by kernel_rfl
theorem hf_310 : CT.P.funcs[310]? = some Tryz.f310 := by kernel_rfl
noncomputable def T_310 : Tb := mkTb tyT mpT []
theorem T_310_ok : T_310.Ok CT.P := mkTb_ok (trivial)
noncomputable def lp_310 {β : Type} : LpT β := fun _ _ _ => none
theorem lp_310_ok {β : Type} : LpTOk CT (lp_310 (β := β)) (loopsOf c_310) := by
  have h : loopsOf c_310 = [] := by kernel_rfl
  rw [h]
  exact LpTOk.nil
noncomputable def F_310 (a1 : Ty.El I) : Option (Els [.bool]) := Option.some (a1 != a1, ())
theorem f_310 (x : Ps [.ty I]) : funcT CT T_310 [.bool] (drT CT T_310) lp_310 Tryz.f310 c_310 (encPs [.ty I] x) = F_310 x.1 := by kernel_rfl
noncomputable def E_310 : Ent := .fn 310 [] ⟨[.ty I], [.bool], fun x => F_310 x.1, false⟩
theorem e_310 : E_310.Ok CT.P := Ent.ofFn CT_ok T_310_ok hf_310 hb_310 lp_310_ok f_310
noncomputable def E_310h : Ent := .fn 310 [] ⟨[.ty I], [.bool], fun x => F_310 x.1, true⟩
/-! ### 288: cmp.Comparemaquette/api.Fix -/
noncomputable def c_288 : Code := Tryz.f288.body.getD .skip
theorem hb_288 : Tryz.f288.body = some c_288 := by kernel_rfl
theorem hf_288 : CT.P.funcs[288]? = some Tryz.f288 := by kernel_rfl
noncomputable def T_288 : Tb := mkTb tyT mpT [E_310]
theorem T_288_ok : T_288.Ok CT.P := mkTb_ok (⟨e_310, trivial⟩)
noncomputable def lp_288 {β : Type} : LpT β := fun _ _ _ => none
theorem lp_288_ok {β : Type} : LpTOk CT (lp_288 (β := β)) (loopsOf c_288) := by
  have h : loopsOf c_288 = [] := by kernel_rfl
  rw [h]
  exact LpTOk.nil
noncomputable def F_288 (a1 : Ty.El I) (a2 : Ty.El I) : Option (Els [I]) := (F_310 a1).bind fun v2 => (F_310 a2).bind fun v4 => bif v2.fst then bif v4.fst then Option.some ((0 : Int), ()) else Option.some ((-1 : Int), ()) else bif v4.fst then Option.some ((1 : Int), ()) else bif Decidable.decide (a1 < a2) then Option.some ((-1 : Int), ()) else bif Decidable.decide (a1 > a2) then Option.some ((1 : Int), ()) else Option.some ((0 : Int), ())
theorem f_288 (x : Ps [.ty I, .ty I]) : funcT CT T_288 [I] (drT CT T_288) lp_288 Tryz.f288 c_288 (encPs [.ty I, .ty I] x) = F_288 x.1 x.2.1 := by kernel_rfl
noncomputable def E_288 : Ent := .fn 288 [] ⟨[.ty I, .ty I], [I], fun x => F_288 x.1 x.2.1, false⟩
theorem e_288 : E_288.Ok CT.P := Ent.ofFn CT_ok T_288_ok hf_288 hb_288 lp_288_ok f_288
noncomputable def E_288h : Ent := .fn 288 [] ⟨[.ty I, .ty I], [I], fun x => F_288 x.1 x.2.1, true⟩
/-! ### 237: cmp.Orint -/
noncomputable def c_237 : Code := Tryz.f237.body.getD .skip
theorem hb_237 : Tryz.f237.body = some c_237 := by kernel_rfl
theorem hf_237 : CT.P.funcs[237]? = some Tryz.f237 := by kernel_rfl
noncomputable def T_237 : Tb := mkTb tyT mpT []
theorem T_237_ok : T_237.Ok CT.P := mkTb_ok (trivial)
noncomputable def l_237_3 : Code := atLoop c_237 3
noncomputable abbrev LD_237_3 : LayD := ⟨18, [(3, .data I), (6, .data (.list I)), (7, .data I), (8, .data I)], [], fun _ => []⟩
noncomputable abbrev LA_237_3 : LayD := ⟨18, [(3, .data I)], [], fun _ => []⟩
noncomputable abbrev LB_237_3 : LayD := ⟨18, [(2, .data I)], [], fun _ => []⟩
noncomputable def EX_237_3 : Exits 0 LA_237_3.El LB_237_3.El := ⟨.exit 0, LA_237_3.lay [], .ret, LB_237_3.lay []⟩

noncomputable def lpi_237_3 {β : Type} : LpT β := fun _ _ _ => none
theorem lpi_237_3_ok {β : Type} : LpTOk CT (lpi_237_3 (β := β)) (loopsOf l_237_3) := by
  have h : loopsOf l_237_3 = [] := by kernel_rfl
  rw [h]
  exact LpTOk.nil
noncomputable def G_237_3 (r3 : Ty.El I) (r6 : Ty.El (.list I)) (r7 : Ty.El I) (r8 : Ty.El I) : Option (LD_237_3.El ⊕ (LA_237_3.El ⊕ LB_237_3.El)) := bif Decidable.decide (r8 < r7) then bif Decidable.decide ((0 : Int) ≤ r8 ∧ r8 < (↑(List.length r6) : Int)) then bif List.getD r6 (Int.toNat r8) (0 : Int) != r3 then Option.some (Sum.inr (Sum.inr ((List.getD r6 (Int.toNat r8) (0 : Int), ()), ()))) else Option.some (Sum.inl ((r3, r6, r7, Go.IntKind.i64.wrap (r8 + (1 : Int)), ()), ())) else Option.none else Option.some (Sum.inr (Sum.inl ((r3, ()), ())))
theorem g_237_3 (x : LD_237_3.El) : codeT CT T_237 (drT CT T_237) lpi_237_3 l_237_3 (LD_237_3.enc x) (bodyK (LD_237_3.lay []) EX_237_3) = G_237_3 x.1.1 x.1.2.1 x.1.2.2.1 x.1.2.2.2.1 := by kernel_rfl
noncomputable def R_237_3 : LD_237_3.El → Option (LA_237_3.El ⊕ LB_237_3.El) := roundsT (fun x => G_237_3 x.1.1 x.1.2.1 x.1.2.2.1 x.1.2.2.2.1) fuel
theorem r_237_3 : ∀ x y, R_237_3 x = some y → CL CT l_237_3 (LD_237_3.enc x) (Sum.elim (fun _ => EX_237_3.xa) (fun _ => EX_237_3.xb) y) (Sum.elim EX_237_3.la.enc EX_237_3.lb.enc y) :=
  rounds_ok (L := LD_237_3.lay []) (E := EX_237_3) CT_ok T_237_ok (drT_ok CT_ok T_237_ok) lpi_237_3_ok g_237_3 rfl rfl (fun v h => by have hh : (.exit 0 : AX) = .pan v := h; cases hh) (fun v h => by have hh : (.ret : AX) = .pan v := h; cases hh) fuel
noncomputable def lp_237 {β : Type} : LpT β := fun k s K => if Nat.beq k 3 then lpOne (LD_237_3.lay []) EX_237_3 R_237_3 s K else none
theorem lp_237_ok {β : Type} : LpTOk CT (lp_237 (β := β)) (loopsOf c_237) := by
  have h : loopsOf c_237 = [(3, l_237_3)] := by kernel_rfl
  rw [h]
  exact LpTOk.cons (fun s K z h => lpOne_ok r_237_3 h) (LpTOk.nil)
noncomputable def F_237 (a1 : Ty.El (.list I)) : Option (Els [I]) := (R_237_3 (((0 : Int), a1, (↑(List.length a1) : Int), (0 : Int), ()), ())).bind fun v1 => Sum.elim (fun v2 => Option.some (v2.fst.fst, ())) (fun v3 => Option.some (v3.fst.fst, ())) v1
theorem f_237 (x : Ps [.ty (.list I)]) : funcT CT T_237 [I] (drT CT T_237) lp_237 Tryz.f237 c_237 (encPs [.ty (.list I)] x) = F_237 x.1 := by kernel_rfl
noncomputable def E_237 : Ent := .fn 237 [] ⟨[.ty (.list I)], [I], fun x => F_237 x.1, false⟩
theorem e_237 : E_237.Ok CT.P := Ent.ofFn CT_ok T_237_ok hf_237 hb_237 lp_237_ok f_237
noncomputable def E_237h : Ent := .fn 237 [] ⟨[.ty (.list I)], [I], fun x => F_237 x.1, true⟩
/-! ### 236: maquette/prune.Pairs$1 -/
noncomputable def c_236 : Code := Tryz.f236.body.getD .skip
theorem hb_236 : Tryz.f236.body = some c_236 := by kernel_rfl
theorem hf_236 : CT.P.funcs[236]? = some Tryz.f236 := by kernel_rfl
noncomputable def T_236 : Tb := mkTb tyT mpT [E_238, E_237]
theorem T_236_ok : T_236.Ok CT.P := mkTb_ok (⟨e_238, e_237, trivial⟩)
noncomputable def lp_236 {β : Type} : LpT β := fun _ _ _ => none
theorem lp_236_ok {β : Type} : LpTOk CT (lp_236 (β := β)) (loopsOf c_236) := by
  have h : loopsOf c_236 = [] := by kernel_rfl
  rw [h]
  exact LpTOk.nil
noncomputable def F_236 (a1 : Ty.El tPair) (a2 : Ty.El tPair) : Option (Els [I]) := (F_238 a1.fst a2.fst).bind fun v2 => (F_238 a1.snd a2.snd).bind fun v4 => (F_237 [v2.fst, v4.fst]).bind fun v6 => Option.some (v6.fst, ())
theorem f_236 (x : Ps [.ty tPair, .ty tPair]) : funcT CT T_236 [I] (drT CT T_236) lp_236 Tryz.f236 c_236 (encPs [.ty tPair, .ty tPair] x) = F_236 x.1 x.2.1 := by kernel_rfl
noncomputable def E_236 : Ent := .fn 236 [] ⟨[.ty tPair, .ty tPair], [I], fun x => F_236 x.1 x.2.1, false⟩
theorem e_236 : E_236.Ok CT.P := Ent.ofFn CT_ok T_236_ok hf_236 hb_236 lp_236_ok f_236
noncomputable def E_236h : Ent := .fn 236 [] ⟨[.ty tPair, .ty tPair], [I], fun x => F_236 x.1 x.2.1, true⟩
/-! ### 287: maquette/prune.Sorted$1 -/
noncomputable def c_287 : Code := Tryz.f287.body.getD .skip
theorem hb_287 : Tryz.f287.body = some c_287 := by kernel_rfl
theorem hf_287 : CT.P.funcs[287]? = some Tryz.f287 := by kernel_rfl
noncomputable abbrev IN_287 : LayD := ⟨3, [(0, .data I), (1, .data I), (2, .ptr 0)], [.var 200 [.data (.list tBox)]], fun s => [slotR s 2]⟩
noncomputable abbrev OUT_287 : LayD := ⟨1, [(0, .data I)], [.var 200 [.data (.list tBox)]], fun _ => [0]⟩
noncomputable def T_287 : Tb := mkTb tyT mpT [E_288]
theorem T_287_ok : T_287.Ok CT.P := mkTb_ok (⟨e_288, trivial⟩)
noncomputable def lp_287 {β : Type} : LpT β := fun _ _ _ => none
theorem lp_287_ok {β : Type} : LpTOk (CTp 1) (lp_287 (β := β)) (loopsOf c_287) := by
  have h : loopsOf c_287 = [] := by kernel_rfl
  rw [h]
  exact LpTOk.nil
noncomputable def F_287 (a0 : Ty.El I) (a1 : Ty.El I) (b0 : Ty.El (.list tBox) × Unit) : Option OUT_287.El := bif Decidable.decide ((0 : Int) ≤ a0 ∧ a0 < (↑(List.length b0.fst) : Int)) then bif Decidable.decide ((0 : Int) ≤ a1 ∧ a1 < (↑(List.length b0.fst) : Int)) then (F_288 (List.getD b0.fst (Int.toNat a0) Go.DI.S.tBox.dflt).fst.fst (List.getD b0.fst (Int.toNat a1) Go.DI.S.tBox.dflt).fst.fst).bind fun v2 => Option.some ((v2.fst, ()), (b0.fst, ()), ()) else Option.none else Option.none
theorem f_287 (x : IN_287.El) : funcX (CTp 1) T_287 IN_287 OUT_287 [] (drT (CTp 1) T_287) lp_287 Tryz.f287 c_287 x = F_287 x.1.1 x.1.2.1 x.2.1 := by kernel_rfl
noncomputable def E_287 : Ent := .mkGen 287 [] ⟨1, [], IN_287, OUT_287, fun x => F_287 x.1.1 x.1.2.1 x.2.1⟩
theorem e_287 : E_287.Ok CT.P := Ent.ofGen (C := (CTp 1)) (steps := []) (osteps := []) (CTp_ok 1) T_287_ok hf_287 hb_287 lp_287_ok f_287
/-! ### 325: slices.insertionSortCmpFuncint -/
noncomputable def c_325 : Code := Tryz.f325.body.getD .skip
theorem hb_325 : Tryz.f325.body = some c_325 := by kernel_rfl
theorem hf_325 : CT.P.funcs[325]? = some Tryz.f325 := by kernel_rfl
noncomputable abbrev IN_325 : LayD := ⟨4, [(0, .own I 0), (1, .data I), (2, .data I), (3, .cloP 287 [1])], [.row 3 I, .var 200 [.data (.list tBox)]], fun s => [slotR s 0, slotF s 3]⟩
noncomputable abbrev OUT_325 : LayD := ⟨0, [], [.row 3 I, .var 200 [.data (.list tBox)]], fun _ => [0, 1]⟩
noncomputable def T_325 : Tb := mkTb tyT mpT [E_287]
theorem T_325_ok : T_325.Ok CT.P := mkTb_ok (⟨e_287, trivial⟩)
noncomputable def l_325_1 : Code := atLoop c_325 1
noncomputable def l_325_4 : Code := atLoop l_325_1 4
noncomputable abbrev LD_325_4 : LayD := ⟨53, [(0, .own I 0), (1, .data I), (2, .data I), (3, .cloP 287 [1]), (8, .data I), (9, .data I)], [.row 3 I, .var 200 [.data (.list tBox)]], fun s => [0, 1]⟩
noncomputable abbrev LA_325_4 : LayD := ⟨53, [(0, .own I 0), (1, .data I), (2, .data I), (3, .cloP 287 [1]), (8, .data I)], [.row 3 I, .var 200 [.data (.list tBox)]], fun s => [0, 1]⟩
noncomputable abbrev LB_325_4 : LayD := ⟨53, [], [], fun _ => []⟩
noncomputable def EX_325_4 : Exits 2 LA_325_4.El LB_325_4.El := ⟨.exit 2, LA_325_4.lay [], .ret, LB_325_4.lay []⟩

noncomputable def lpi_325_4 {β : Type} : LpT β := fun _ _ _ => none
theorem lpi_325_4_ok {β : Type} : LpTOk (CTp 2) (lpi_325_4 (β := β)) (loopsOf l_325_4) := by
  have h : loopsOf l_325_4 = [] := by kernel_rfl
  rw [h]
  exact LpTOk.nil
noncomputable def G_325_4 (r1 : Ty.El I) (r2 : Ty.El I) (r8 : Ty.El I) (r9 : Ty.El I) (b0 : List (Ty.El I)) (b1 : Ty.El (.list tBox) × Unit) : Option (LD_325_4.El ⊕ (LA_325_4.El ⊕ LB_325_4.El)) := bif Decidable.decide (r9 > r1) then bif Decidable.decide ((0 : Int) ≤ r9 ∧ r9 < (↑b0.length : Int)) then bif Decidable.decide ((0 : Int) ≤ Go.IntKind.i64.wrap (r9 - (1 : Int)) ∧ Go.IntKind.i64.wrap (r9 - (1 : Int)) < (↑b0.length : Int)) then (F_287 (b0.getD (Int.toNat r9) (0 : Int)) (b0.getD (Go.IntKind.i64.wrap (r9 - (1 : Int))).toNat (0 : Int)) (b1.fst, ())).bind fun v2 => bif Decidable.decide (v2.fst.fst < (0 : Int)) then bif Decidable.decide ((0 : Int) ≤ Go.IntKind.i64.wrap (r9 - (1 : Int)) ∧ Go.IntKind.i64.wrap (r9 - (1 : Int)) < (↑b0.length : Int)) then bif Decidable.decide ((0 : Int) ≤ r9 ∧ r9 < (↑b0.length : Int)) then bif Decidable.decide ((0 : Int) ≤ r9 ∧ r9 < (↑b0.length : Int)) then bif Decidable.decide ((0 : Int) ≤ Go.IntKind.i64.wrap (r9 - (1 : Int)) ∧ Go.IntKind.i64.wrap (r9 - (1 : Int)) < (↑(b0.set (Int.toNat r9) (b0.getD (Go.IntKind.i64.wrap (r9 - (1 : Int))).toNat (0 : Int))).length : Int)) then Option.some (Sum.inl (((), r1, r2, (), r8, Go.IntKind.i64.wrap (r9 - (1 : Int)), ()), (b0.set (Int.toNat r9) (b0.getD (Go.IntKind.i64.wrap (r9 - (1 : Int))).toNat (0 : Int))).set (Go.IntKind.i64.wrap (r9 - (1 : Int))).toNat (b0.getD (Int.toNat r9) (0 : Int)), (v2.snd.fst.fst, ()), ())) else Option.none else Option.none else Option.none else Option.none else Option.some (Sum.inr (Sum.inl (((), r1, r2, (), r8, ()), b0, (v2.snd.fst.fst, ()), ()))) else Option.none else Option.none else Option.some (Sum.inr (Sum.inl (((), r1, r2, (), r8, ()), b0, (b1.fst, ()), ())))
theorem g_325_4 (x : LD_325_4.El) : codeT (CTp 2) T_325 (drT (CTp 2) T_325) lpi_325_4 l_325_4 (LD_325_4.enc x) (bodyK (LD_325_4.lay []) EX_325_4) = G_325_4 x.1.2.1 x.1.2.2.1 x.1.2.2.2.2.1 x.1.2.2.2.2.2.1 x.2.1 x.2.2.1 := by kernel_rfl
noncomputable def R_325_4 : LD_325_4.El → Option (LA_325_4.El ⊕ LB_325_4.El) := roundsT (fun x => G_325_4 x.1.2.1 x.1.2.2.1 x.1.2.2.2.2.1 x.1.2.2.2.2.2.1 x.2.1 x.2.2.1) fuel
theorem r_325_4 : ∀ x y, R_325_4 x = some y → CL (CTp 2) l_325_4 (LD_325_4.enc x) (Sum.elim (fun _ => EX_325_4.xa) (fun _ => EX_325_4.xb) y) (Sum.elim EX_325_4.la.enc EX_325_4.lb.enc y) :=
  rounds_ok (L := LD_325_4.lay []) (E := EX_325_4) (CTp_ok 2) T_325_ok (drT_ok (CTp_ok 2) T_325_ok) lpi_325_4_ok g_325_4 rfl rfl (fun v h => by have hh : (.exit 2 : AX) = .pan v := h; cases hh) (fun v h => by have hh : (.ret : AX) = .pan v := h; cases hh) fuel
noncomputable abbrev LD_325_1 : LayD := ⟨53, [(0, .own I 0), (1, .data I), (2, .data I), (3, .cloP 287 [1]), (8, .data I)], [.row 3 I, .var 200 [.data (.list tBox)]], fun s => [0, 1]⟩
noncomputable abbrev LA_325_1 : LayD := ⟨53, [], [.row 3 I, .var 200 [.data (.list tBox)]], fun s => [0, 1]⟩
noncomputable abbrev LB_325_1 : LayD := ⟨53, [], [], fun _ => []⟩
noncomputable def EX_325_1 : Exits 2 LA_325_1.El LB_325_1.El := ⟨.exit 0, LA_325_1.lay [], .ret, LB_325_1.lay []⟩

noncomputable def lpi_325_1 {β : Type} : LpT β := fun k s K => if Nat.beq k 4 then lpOne (LD_325_4.lay []) EX_325_4 R_325_4 s K else none
theorem lpi_325_1_ok {β : Type} : LpTOk (CTp 2) (lpi_325_1 (β := β)) (loopsOf l_325_1) := by
  have h : loopsOf l_325_1 = [(4, l_325_4)] := by kernel_rfl
  rw [h]
  exact LpTOk.cons (fun s K z h => lpOne_ok r_325_4 h) (LpTOk.nil)
noncomputable def G_325_1 (r1 : Ty.El I) (r2 : Ty.El I) (r8 : Ty.El I) (b0 : List (Ty.El I)) (b1 : Ty.El (.list tBox) × Unit) : Option (LD_325_1.El ⊕ (LA_325_1.El ⊕ LB_325_1.El)) := bif Decidable.decide (r8 < r2) then (R_325_4 (((), r1, r2, (), r8, r8, ()), b0, (b1.fst, ()), ())).bind fun v1 => Sum.elim (fun v2 => Option.some (Sum.inl (((), v2.fst.snd.fst, v2.fst.snd.snd.fst, (), Go.IntKind.i64.wrap (v2.fst.snd.snd.snd.snd.fst + (1 : Int)), ()), v2.snd.fst, (v2.snd.snd.fst.fst, ()), ()))) (fun v3 => Option.none) v1 else Option.some (Sum.inr (Sum.inl ((), b0, (b1.fst, ()), ())))
theorem g_325_1 (x : LD_325_1.El) : codeT (CTp 2) T_325 (drT (CTp 2) T_325) lpi_325_1 l_325_1 (LD_325_1.enc x) (bodyK (LD_325_1.lay []) EX_325_1) = G_325_1 x.1.2.1 x.1.2.2.1 x.1.2.2.2.2.1 x.2.1 x.2.2.1 := by kernel_rfl
noncomputable def R_325_1 : LD_325_1.El → Option (LA_325_1.El ⊕ LB_325_1.El) := roundsT (fun x => G_325_1 x.1.2.1 x.1.2.2.1 x.1.2.2.2.2.1 x.2.1 x.2.2.1) fuel
theorem r_325_1 : ∀ x y, R_325_1 x = some y → CL (CTp 2) l_325_1 (LD_325_1.enc x) (Sum.elim (fun _ => EX_325_1.xa) (fun _ => EX_325_1.xb) y) (Sum.elim EX_325_1.la.enc EX_325_1.lb.enc y) :=
  rounds_ok (L := LD_325_1.lay []) (E := EX_325_1) (CTp_ok 2) T_325_ok (drT_ok (CTp_ok 2) T_325_ok) lpi_325_1_ok g_325_1 rfl rfl (fun v h => by have hh : (.exit 0 : AX) = .pan v := h; cases hh) (fun v h => by have hh : (.ret : AX) = .pan v := h; cases hh) fuel
noncomputable def lp_325 {β : Type} : LpT β := fun k s K => if Nat.beq k 1 then lpOne (LD_325_1.lay []) EX_325_1 R_325_1 s K else none
theorem lp_325_ok {β : Type} : LpTOk (CTp 2) (lp_325 (β := β)) (loopsOf c_325) := by
  have h : loopsOf c_325 = [(1, l_325_1)] := by kernel_rfl
  rw [h]
  exact LpTOk.cons (fun s K z h => lpOne_ok r_325_1 h) (LpTOk.nil)
noncomputable def F_325 (a1 : Ty.El I) (a2 : Ty.El I) (b0 : List (Ty.El I)) (b1 : Ty.El (.list tBox) × Unit) : Option OUT_325.El := (R_325_1 (((), a1, a2, (), Go.IntKind.i64.wrap (a1 + (1 : Int)), ()), b0, (b1.fst, ()), ())).bind fun v1 => Sum.elim (fun v2 => Option.some ((), v2.snd.fst, (v2.snd.snd.fst.fst, ()), ())) (fun v3 => Option.none) v1
theorem f_325 (x : IN_325.El) : funcX (CTp 2) T_325 IN_325 OUT_325 [] (drT (CTp 2) T_325) lp_325 Tryz.f325 c_325 x = F_325 x.1.2.1 x.1.2.2.1 x.2.1 x.2.2.1 := by kernel_rfl
noncomputable def E_325 : Ent := .mkGen 325 [287] ⟨2, [.nilReg 0 3 I, .rowReg 0 3 I], IN_325, OUT_325, fun x => F_325 x.1.2.1 x.1.2.2.1 x.2.1 x.2.2.1⟩
theorem e_325 : E_325.Ok CT.P := Ent.ofGen (C := (CTp 2)) (steps := [.nilReg 0 3 I, .rowReg 0 3 I]) (osteps := []) (CTp_ok 2) T_325_ok hf_325 hb_325 lp_325_ok f_325
/-! ### 309: slices.stableCmpFuncint -/
noncomputable def c_309 : Code := Tryz.f309.body.getD .skip
theorem hb_309 : Tryz.f309.body = some c_309 := by kernel_rfl
theorem hf_309 : CT.P.funcs[309]? = some Tryz.f309 := by kernel_rfl
noncomputable abbrev IN_309 : LayD := ⟨3, [(0, .own I 0), (1, .data I), (2, .cloP 287 [1])], [.row 3 I, .var 200 [.data (.list tBox)]], fun s => [slotR s 0, slotF s 2]⟩
noncomputable abbrev OUT_309 : LayD := ⟨0, [], [.row 3 I, .var 200 [.data (.list tBox)]], fun _ => [0, 1]⟩
noncomputable def T_309 : Tb := mkTb tyT mpT [E_325]
theorem T_309_ok : T_309.Ok CT.P := mkTb_ok (⟨e_325, trivial⟩)
noncomputable def l_309_7 : Code := atLoop c_309 7
noncomputable def l_309_2 : Code := atLoop c_309 2
noncomputable def l_309_9 : Code := atLoop l_309_7 9
noncomputable abbrev LD_309_9 : LayD := ⟨63, [(0, .own I 0), (1, .data I), (2, .cloP 287 [1]), (6, .data I), (7, .data I), (8, .data I)], [.row 3 I, .var 200 [.data (.list tBox)]], fun s => [0, 1]⟩
noncomputable abbrev LA_309_9 : LayD := ⟨63, [(0, .own I 0), (1, .data I), (2, .cloP 287 [1]), (6, .data I), (7, .data I)], [.row 3 I, .var 200 [.data (.list tBox)]], fun s => [0, 1]⟩
noncomputable abbrev LB_309_9 : LayD := ⟨63, [], [], fun _ => []⟩
noncomputable def EX_309_9 : Exits 2 LA_309_9.El LB_309_9.El := ⟨.exit 4, LA_309_9.lay [], .ret, LB_309_9.lay []⟩

noncomputable def lpi_309_9 {β : Type} : LpT β := fun _ _ _ => none
theorem lpi_309_9_ok {β : Type} : LpTOk (CTp 2) (lpi_309_9 (β := β)) (loopsOf l_309_9) := by
  have h : loopsOf l_309_9 = [] := by kernel_rfl
  rw [h]
  exact LpTOk.nil
noncomputable def G_309_9 (r1 : Ty.El I) (r6 : Ty.El I) (r7 : Ty.El I) (r8 : Ty.El I) (b0 : List (Ty.El I)) (b1 : Ty.El (.list tBox) × Unit) : Option (LD_309_9.El ⊕ (LA_309_9.El ⊕ LB_309_9.El)) := bif Decidable.decide (r8 ≤ r1) then Option.none else Option.some (Sum.inr (Sum.inl (((), r1, (), r6, r7, ()), b0, (b1.fst, ()), ())))
theorem g_309_9 (x : LD_309_9.El) : codeT (CTp 2) T_309 (drT (CTp 2) T_309) lpi_309_9 l_309_9 (LD_309_9.enc x) (bodyK (LD_309_9.lay []) EX_309_9) = G_309_9 x.1.2.1 x.1.2.2.2.1 x.1.2.2.2.2.1 x.1.2.2.2.2.2.1 x.2.1 x.2.2.1 := by kernel_rfl
noncomputable def R_309_9 : LD_309_9.El → Option (LA_309_9.El ⊕ LB_309_9.El) := roundsT (fun x => G_309_9 x.1.2.1 x.1.2.2.2.1 x.1.2.2.2.2.1 x.1.2.2.2.2.2.1 x.2.1 x.2.2.1) fuel
theorem r_309_9 : ∀ x y, R_309_9 x = some y → CL (CTp 2) l_309_9 (LD_309_9.enc x) (Sum.elim (fun _ => EX_309_9.xa) (fun _ => EX_309_9.xb) y) (Sum.elim EX_309_9.la.enc EX_309_9.lb.enc y) :=
  rounds_ok (L := LD_309_9.lay []) (E := EX_309_9) (CTp_ok 2) T_309_ok (drT_ok (CTp_ok 2) T_309_ok) lpi_309_9_ok g_309_9 rfl rfl (fun v h => by have hh : (.exit 4 : AX) = .pan v := h; cases hh) (fun v h => by have hh : (.ret : AX) = .pan v := h; cases hh) fuel
noncomputable abbrev LD_309_2 : LayD := ⟨63, [(0, .own I 0), (1, .data I), (2, .cloP 287 [1]), (6, .data I), (7, .data I), (8, .data I)], [.row 3 I, .var 200 [.data (.list tBox)]], fun s => [0, 1]⟩
noncomputable abbrev LA_309_2 : LayD := ⟨63, [(0, .own I 0), (1, .data I), (2, .cloP 287 [1]), (6, .data I), (7, .data I)], [.row 3 I, .var 200 [.data (.list tBox)]], fun s => [0, 1]⟩
noncomputable abbrev LB_309_2 : LayD := ⟨63, [], [], fun _ => []⟩
noncomputable def EX_309_2 : Exits 2 LA_309_2.El LB_309_2.El := ⟨.exit 0, LA_309_2.lay [], .ret, LB_309_2.lay []⟩

noncomputable def lpi_309_2 {β : Type} : LpT β := fun _ _ _ => none
theorem lpi_309_2_ok {β : Type} : LpTOk (CTp 2) (lpi_309_2 (β := β)) (loopsOf l_309_2) := by
  have h : loopsOf l_309_2 = [] := by kernel_rfl
  rw [h]
  exact LpTOk.nil
noncomputable def G_309_2 (r1 : Ty.El I) (r6 : Ty.El I) (r7 : Ty.El I) (r8 : Ty.El I) (b0 : List (Ty.El I)) (b1 : Ty.El (.list tBox) × Unit) : Option (LD_309_2.El ⊕ (LA_309_2.El ⊕ LB_309_2.El)) := bif Decidable.decide (r8 ≤ r1) then (F_325 r7 r8 b0 (b1.fst, ())).bind fun v2 => Option.some (Sum.inl (((), r1, (), r6, r8, Go.IntKind.i64.wrap (r8 + r6), ()), v2.snd.fst, (v2.snd.snd.fst.fst, ()), ())) else Option.some (Sum.inr (Sum.inl (((), r1, (), r6, r7, ()), b0, (b1.fst, ()), ())))
theorem g_309_2 (x : LD_309_2.El) : codeT (CTp 2) T_309 (drT (CTp 2) T_309) lpi_309_2 l_309_2 (LD_309_2.enc x) (bodyK (LD_309_2.lay []) EX_309_2) = G_309_2 x.1.2.1 x.1.2.2.2.1 x.1.2.2.2.2.1 x.1.2.2.2.2.2.1 x.2.1 x.2.2.1 := by kernel_rfl
noncomputable def R_309_2 : LD_309_2.El → Option (LA_309_2.El ⊕ LB_309_2.El) := roundsT (fun x => G_309_2 x.1.2.1 x.1.2.2.2.1 x.1.2.2.2.2.1 x.1.2.2.2.2.2.1 x.2.1 x.2.2.1) fuel
theorem r_309_2 : ∀ x y, R_309_2 x = some y → CL (CTp 2) l_309_2 (LD_309_2.enc x) (Sum.elim (fun _ => EX_309_2.xa) (fun _ => EX_309_2.xb) y) (Sum.elim EX_309_2.la.enc EX_309_2.lb.enc y) :=
  rounds_ok (L := LD_309_2.lay []) (E := EX_309_2) (CTp_ok 2) T_309_ok (drT_ok (CTp_ok 2) T_309_ok) lpi_309_2_ok g_309_2 rfl rfl (fun v h => by have hh : (.exit 0 : AX) = .pan v := h; cases hh) (fun v h => by have hh : (.ret : AX) = .pan v := h; cases hh) fuel
noncomputable abbrev LD_309_7 : LayD := ⟨63, [(0, .own I 0), (1, .data I), (2, .cloP 287 [1]), (6, .data I)], [.row 3 I, .var 200 [.data (.list tBox)]], fun s => [0, 1]⟩
noncomputable abbrev LA_309_7 : LayD := ⟨63, [], [.row 3 I, .var 200 [.data (.list tBox)]], fun s => [0, 1]⟩
noncomputable abbrev LB_309_7 : LayD := ⟨63, [], [], fun _ => []⟩
noncomputable def EX_309_7 : Exits 2 LA_309_7.El LB_309_7.El := ⟨.exit 2, LA_309_7.lay [], .ret, LB_309_7.lay []⟩

noncomputable def lpi_309_7 {β : Type} : LpT β := fun k s K => if Nat.beq k 9 then lpOne (LD_309_9.lay []) EX_309_9 R_309_9 s K else none
theorem lpi_309_7_ok {β : Type} : LpTOk (CTp 2) (lpi_309_7 (β := β)) (loopsOf l_309_7) := by
  have h : loopsOf l_309_7 = [(9, l_309_9)] := by kernel_rfl
  rw [h]
  exact LpTOk.cons (fun s K z h => lpOne_ok r_309_9 h) (LpTOk.nil)
noncomputable def G_309_7 (r1 : Ty.El I) (r6 : Ty.El I) (b0 : List (Ty.El I)) (b1 : Ty.El (.list tBox) × Unit) : Option (LD_309_7.El ⊕ (LA_309_7.El ⊕ LB_309_7.El)) := bif Decidable.decide (r6 < r1) then (R_309_9 (((), r1, (), r6, (0 : Int), Go.IntKind.i64.wrap ((2 : Int) * r6), ()), b0, (b1.fst, ()), ())).bind fun v1 => Sum.elim (fun v2 => bif Decidable.decide (Go.IntKind.i64.wrap (v2.fst.snd.snd.snd.snd.fst + v2.fst.snd.snd.snd.fst) < v2.fst.snd.fst) then Option.none else Option.some (Sum.inl (((), v2.fst.snd.fst, (), Go.IntKind.i64.wrap (v2.fst.snd.snd.snd.fst * (2 : Int)), ()), v2.snd.fst, (v2.snd.snd.fst.fst, ()), ()))) (fun v3 => Option.none) v1 else Option.some (Sum.inr (Sum.inl ((), b0, (b1.fst, ()), ())))
theorem g_309_7 (x : LD_309_7.El) : codeT (CTp 2) T_309 (drT (CTp 2) T_309) lpi_309_7 l_309_7 (LD_309_7.enc x) (bodyK (LD_309_7.lay []) EX_309_7) = G_309_7 x.1.2.1 x.1.2.2.2.1 x.2.1 x.2.2.1 := by kernel_rfl
noncomputable def R_309_7 : LD_309_7.El → Option (LA_309_7.El ⊕ LB_309_7.El) := roundsT (fun x => G_309_7 x.1.2.1 x.1.2.2.2.1 x.2.1 x.2.2.1) fuel
theorem r_309_7 : ∀ x y, R_309_7 x = some y → CL (CTp 2) l_309_7 (LD_309_7.enc x) (Sum.elim (fun _ => EX_309_7.xa) (fun _ => EX_309_7.xb) y) (Sum.elim EX_309_7.la.enc EX_309_7.lb.enc y) :=
  rounds_ok (L := LD_309_7.lay []) (E := EX_309_7) (CTp_ok 2) T_309_ok (drT_ok (CTp_ok 2) T_309_ok) lpi_309_7_ok g_309_7 rfl rfl (fun v h => by have hh : (.exit 2 : AX) = .pan v := h; cases hh) (fun v h => by have hh : (.ret : AX) = .pan v := h; cases hh) fuel
noncomputable def lp_309 {β : Type} : LpT β := fun k s K => if Nat.beq k 2 then lpOne (LD_309_2.lay []) EX_309_2 R_309_2 s K else if Nat.beq k 7 then lpOne (LD_309_7.lay []) EX_309_7 R_309_7 s K else none
theorem lp_309_ok {β : Type} : LpTOk (CTp 2) (lp_309 (β := β)) (loopsOf c_309) := by
  have h : loopsOf c_309 = [(2, l_309_2), (7, l_309_7)] := by kernel_rfl
  rw [h]
  exact LpTOk.cons (fun s K z h => lpOne_ok r_309_2 h) (LpTOk.cons (fun s K z h => lpOne_ok r_309_7 h) (LpTOk.nil))
noncomputable def F_309 (a1 : Ty.El I) (b0 : List (Ty.El I)) (b1 : Ty.El (.list tBox) × Unit) : Option OUT_309.El := (R_309_2 (((), a1, (), (20 : Int), (0 : Int), (20 : Int), ()), b0, (b1.fst, ()), ())).bind fun v1 => Sum.elim (fun v2 => (F_325 v2.fst.snd.snd.snd.snd.fst v2.fst.snd.fst v2.snd.fst (v2.snd.snd.fst.fst, ())).bind fun v4 => (R_309_7 (((), v2.fst.snd.fst, (), v2.fst.snd.snd.snd.fst, ()), v4.snd.fst, (v4.snd.snd.fst.fst, ()), ())).bind fun v9 => Sum.elim (fun v10 => Option.some ((), v10.snd.fst, (v10.snd.snd.fst.fst, ()), ())) (fun v11 => Option.none) v9) (fun v12 => Option.none) v1
theorem f_309 (x : IN_309.El) : funcX (CTp 2) T_309 IN_309 OUT_309 [] (drT (CTp 2) T_309) lp_309 Tryz.f309 c_309 x = F_309 x.1.2.1 x.2.1 x.2.2.1 := by kernel_rfl
noncomputable def E_309 : Ent := .mkGen 309 [287] ⟨2, [.nilReg 0 3 I, .rowReg 0 3 I], IN_309, OUT_309, fun x => F_309 x.1.2.1 x.2.1 x.2.2.1⟩
theorem e_309 : E_309.Ok CT.P := Ent.ofGen (C := (CTp 2)) (steps := [.nilReg 0 3 I, .rowReg 0 3 I]) (osteps := []) (CTp_ok 2) T_309_ok hf_309 hb_309 lp_309_ok f_309
/-! ### 286: slices.SortStableFuncint,int -/
noncomputable def c_286 : Code := Tryz.f286.body.getD .skip
theorem hb_286 : Tryz.f286.body = some c_286 := by kernel_rfl
theorem hf_286 : CT.P.funcs[286]? = some Tryz.f286 := by kernel_rfl
noncomputable abbrev IN_286 : LayD := ⟨2, [(0, .own I 0), (1, .cloP 287 [1])], [.row 3 I, .var 200 [.data (.list tBox)]], fun s => [slotR s 0, slotF s 1]⟩
noncomputable abbrev OUT_286 : LayD := ⟨0, [], [.row 3 I, .var 200 [.data (.list tBox)]], fun _ => [0, 1]⟩
noncomputable def T_286 : Tb := mkTb tyT mpT [E_309]
theorem T_286_ok : T_286.Ok CT.P := mkTb_ok (⟨e_309, trivial⟩)
noncomputable def lp_286 {β : Type} : LpT β := fun _ _ _ => none
theorem lp_286_ok {β : Type} : LpTOk (CTp 2) (lp_286 (β := β)) (loopsOf c_286) := by
  have h : loopsOf c_286 = [] := by kernel_rfl
  rw [h]
  exact LpTOk.nil
noncomputable def F_286 (b0 : List (Ty.El I)) (b1 : Ty.El (.list tBox) × Unit) : Option OUT_286.El := (F_309 (↑b0.length : Int) b0 (b1.fst, ())).bind fun v2 => Option.some ((), v2.snd.fst, (v2.snd.snd.fst.fst, ()), ())
theorem f_286 (x : IN_286.El) : funcX (CTp 2) T_286 IN_286 OUT_286 [] (drT (CTp 2) T_286) lp_286 Tryz.f286 c_286 x = F_286 x.2.1 x.2.2.1 := by kernel_rfl
noncomputable def E_286 : Ent := .mkGen 286 [287] ⟨2, [.nilReg 0 3 I, .rowReg 0 3 I], IN_286, OUT_286, fun x => F_286 x.2.1 x.2.2.1⟩
theorem e_286 : E_286.Ok CT.P := Ent.ofGen (C := (CTp 2)) (steps := [.nilReg 0 3 I, .rowReg 0 3 I]) (osteps := []) (CTp_ok 2) T_286_ok hf_286 hb_286 lp_286_ok f_286
/-! ### 311: slices.insertionSortCmpFuncmaquette/api.Pair -/
noncomputable def c_311 : Code := Tryz.f311.body.getD .skip
theorem hb_311 : Tryz.f311.body = some c_311 := by kernel_rfl
theorem hf_311 : CT.P.funcs[311]? = some Tryz.f311 := by kernel_rfl
noncomputable abbrev IN_311 : LayD := ⟨4, [(0, .own tPair 0), (1, .data I), (2, .data I), (3, .clo 236 [])], [.row 204 tPair], fun s => [slotR s 0]⟩
noncomputable abbrev OUT_311 : LayD := ⟨0, [], [.row 204 tPair], fun _ => [0]⟩
noncomputable def T_311 : Tb := mkTb tyT mpT [E_236]
theorem T_311_ok : T_311.Ok CT.P := mkTb_ok (⟨e_236, trivial⟩)
noncomputable def l_311_1 : Code := atLoop c_311 1
noncomputable def l_311_4 : Code := atLoop l_311_1 4
noncomputable abbrev LD_311_4 : LayD := ⟨53, [(0, .own tPair 0), (1, .data I), (2, .data I), (3, .clo 236 []), (8, .data I), (9, .data I)], [.row 204 tPair], fun s => [0]⟩
noncomputable abbrev LA_311_4 : LayD := ⟨53, [(0, .own tPair 0), (1, .data I), (2, .data I), (3, .clo 236 []), (8, .data I)], [.row 204 tPair], fun s => [0]⟩
noncomputable abbrev LB_311_4 : LayD := ⟨53, [], [], fun _ => []⟩
noncomputable def EX_311_4 : Exits 1 LA_311_4.El LB_311_4.El := ⟨.exit 2, LA_311_4.lay [], .ret, LB_311_4.lay []⟩

noncomputable def lpi_311_4 {β : Type} : LpT β := fun _ _ _ => none
theorem lpi_311_4_ok {β : Type} : LpTOk (CTp 1) (lpi_311_4 (β := β)) (loopsOf l_311_4) := by
  have h : loopsOf l_311_4 = [] := by kernel_rfl
  rw [h]
  exact LpTOk.nil
noncomputable def G_311_4 (r1 : Ty.El I) (r2 : Ty.El I) (r8 : Ty.El I) (r9 : Ty.El I) (b0 : List (Ty.El tPair)) : Option (LD_311_4.El ⊕ (LA_311_4.El ⊕ LB_311_4.El)) := bif Decidable.decide (r9 > r1) then bif Decidable.decide ((0 : Int) ≤ r9 ∧ r9 < (↑b0.length : Int)) then bif Decidable.decide ((0 : Int) ≤ Go.IntKind.i64.wrap (r9 - (1 : Int)) ∧ Go.IntKind.i64.wrap (r9 - (1 : Int)) < (↑b0.length : Int)) then (F_236 (b0.getD (Int.toNat r9) Go.DI.S.tPair.dflt) (b0.getD (Go.IntKind.i64.wrap (r9 - (1 : Int))).toNat Go.DI.S.tPair.dflt)).bind fun v2 => bif Decidable.decide (v2.fst < (0 : Int)) then bif Decidable.decide ((0 : Int) ≤ Go.IntKind.i64.wrap (r9 - (1 : Int)) ∧ Go.IntKind.i64.wrap (r9 - (1 : Int)) < (↑b0.length : Int)) then bif Decidable.decide ((0 : Int) ≤ r9 ∧ r9 < (↑b0.length : Int)) then bif Decidable.decide ((0 : Int) ≤ r9 ∧ r9 < (↑b0.length : Int)) then bif Decidable.decide ((0 : Int) ≤ Go.IntKind.i64.wrap (r9 - (1 : Int)) ∧ Go.IntKind.i64.wrap (r9 - (1 : Int)) < (↑(b0.set (Int.toNat r9) (b0.getD (Go.IntKind.i64.wrap (r9 - (1 : Int))).toNat Go.DI.S.tPair.dflt)).length : Int)) then Option.some (Sum.inl (((), r1, r2, (), r8, Go.IntKind.i64.wrap (r9 - (1 : Int)), ()), (b0.set (Int.toNat r9) (b0.getD (Go.IntKind.i64.wrap (r9 - (1 : Int))).toNat Go.DI.S.tPair.dflt)).set (Go.IntKind.i64.wrap (r9 - (1 : Int))).toNat (b0.getD (Int.toNat r9) Go.DI.S.tPair.dflt), ())) else Option.none else Option.none else Option.none else Option.none else Option.some (Sum.inr (Sum.inl (((), r1, r2, (), r8, ()), b0, ()))) else Option.none else Option.none else Option.some (Sum.inr (Sum.inl (((), r1, r2, (), r8, ()), b0, ())))
theorem g_311_4 (x : LD_311_4.El) : codeT (CTp 1) T_311 (drT (CTp 1) T_311) lpi_311_4 l_311_4 (LD_311_4.enc x) (bodyK (LD_311_4.lay []) EX_311_4) = G_311_4 x.1.2.1 x.1.2.2.1 x.1.2.2.2.2.1 x.1.2.2.2.2.2.1 x.2.1 := by kernel_rfl
noncomputable def R_311_4 : LD_311_4.El → Option (LA_311_4.El ⊕ LB_311_4.El) := roundsT (fun x => G_311_4 x.1.2.1 x.1.2.2.1 x.1.2.2.2.2.1 x.1.2.2.2.2.2.1 x.2.1) fuel
theorem r_311_4 : ∀ x y, R_311_4 x = some y → CL (CTp 1) l_311_4 (LD_311_4.enc x) (Sum.elim (fun _ => EX_311_4.xa) (fun _ => EX_311_4.xb) y) (Sum.elim EX_311_4.la.enc EX_311_4.lb.enc y) :=
  rounds_ok (L := LD_311_4.lay []) (E := EX_311_4) (CTp_ok 1) T_311_ok (drT_ok (CTp_ok 1) T_311_ok) lpi_311_4_ok g_311_4 rfl rfl (fun v h => by have hh : (.exit 2 : AX) = .pan v := h; cases hh) (fun v h => by have hh : (.ret : AX) = .pan v := h; cases hh) fuel
noncomputable abbrev LD_311_1 : LayD := ⟨53, [(0, .own tPair 0), (1, .data I), (2, .data I), (3, .clo 236 []), (8, .data I)], [.row 204 tPair], fun s => [0]⟩
noncomputable abbrev LA_311_1 : LayD := ⟨53, [], [.row 204 tPair], fun s => [0]⟩
noncomputable abbrev LB_311_1 : LayD := ⟨53, [], [], fun _ => []⟩
noncomputable def EX_311_1 : Exits 1 LA_311_1.El LB_311_1.El := ⟨.exit 0, LA_311_1.lay [], .ret, LB_311_1.lay []⟩

noncomputable def lpi_311_1 {β : Type} : LpT β := fun k s K => if Nat.beq k 4 then lpOne (LD_311_4.lay []) EX_311_4 R_311_4 s K else none
theorem lpi_311_1_ok {β : Type} : LpTOk (CTp 1) (lpi_311_1 (β := β)) (loopsOf l_311_1) := by
  have h : loopsOf l_311_1 = [(4, l_311_4)] := by kernel_rfl
  rw [h]
  exact LpTOk.cons (fun s K z h => lpOne_ok r_311_4 h) (LpTOk.nil)
noncomputable def G_311_1 (r1 : Ty.El I) (r2 : Ty.El I) (r8 : Ty.El I) (b0 : List (Ty.El tPair)) : Option (LD_311_1.El ⊕ (LA_311_1.El ⊕ LB_311_1.El)) := bif Decidable.decide (r8 < r2) then (R_311_4 (((), r1, r2, (), r8, r8, ()), b0, ())).bind fun v1 => Sum.elim (fun v2 => Option.some (Sum.inl (((), v2.fst.snd.fst, v2.fst.snd.snd.fst, (), Go.IntKind.i64.wrap (v2.fst.snd.snd.snd.snd.fst + (1 : Int)), ()), v2.snd.fst, ()))) (fun v3 => Option.none) v1 else Option.some (Sum.inr (Sum.inl ((), b0, ())))
theorem g_311_1 (x : LD_311_1.El) : codeT (CTp 1) T_311 (drT (CTp 1) T_311) lpi_311_1 l_311_1 (LD_311_1.enc x) (bodyK (LD_311_1.lay []) EX_311_1) = G_311_1 x.1.2.1 x.1.2.2.1 x.1.2.2.2.2.1 x.2.1 := by kernel_rfl
noncomputable def R_311_1 : LD_311_1.El → Option (LA_311_1.El ⊕ LB_311_1.El) := roundsT (fun x => G_311_1 x.1.2.1 x.1.2.2.1 x.1.2.2.2.2.1 x.2.1) fuel
theorem r_311_1 : ∀ x y, R_311_1 x = some y → CL (CTp 1) l_311_1 (LD_311_1.enc x) (Sum.elim (fun _ => EX_311_1.xa) (fun _ => EX_311_1.xb) y) (Sum.elim EX_311_1.la.enc EX_311_1.lb.enc y) :=
  rounds_ok (L := LD_311_1.lay []) (E := EX_311_1) (CTp_ok 1) T_311_ok (drT_ok (CTp_ok 1) T_311_ok) lpi_311_1_ok g_311_1 rfl rfl (fun v h => by have hh : (.exit 0 : AX) = .pan v := h; cases hh) (fun v h => by have hh : (.ret : AX) = .pan v := h; cases hh) fuel
noncomputable def lp_311 {β : Type} : LpT β := fun k s K => if Nat.beq k 1 then lpOne (LD_311_1.lay []) EX_311_1 R_311_1 s K else none
theorem lp_311_ok {β : Type} : LpTOk (CTp 1) (lp_311 (β := β)) (loopsOf c_311) := by
  have h : loopsOf c_311 = [(1, l_311_1)] := by kernel_rfl
  rw [h]
  exact LpTOk.cons (fun s K z h => lpOne_ok r_311_1 h) (LpTOk.nil)
noncomputable def F_311 (a1 : Ty.El I) (a2 : Ty.El I) (b0 : List (Ty.El tPair)) : Option OUT_311.El := (R_311_1 (((), a1, a2, (), Go.IntKind.i64.wrap (a1 + (1 : Int)), ()), b0, ())).bind fun v1 => Sum.elim (fun v2 => Option.some ((), v2.snd.fst, ())) (fun v3 => Option.none) v1
theorem f_311 (x : IN_311.El) : funcX (CTp 1) T_311 IN_311 OUT_311 [] (drT (CTp 1) T_311) lp_311 Tryz.f311 c_311 x = F_311 x.1.2.1 x.1.2.2.1 x.2.1 := by kernel_rfl
noncomputable def E_311 : Ent := .mkGen 311 [236] ⟨1, [.nilReg 0 204 tPair, .rowReg 0 204 tPair], IN_311, OUT_311, fun x => F_311 x.1.2.1 x.1.2.2.1 x.2.1⟩
theorem e_311 : E_311.Ok CT.P := Ent.ofGen (C := (CTp 1)) (steps := [.nilReg 0 204 tPair, .rowReg 0 204 tPair]) (osteps := []) (CTp_ok 1) T_311_ok hf_311 hb_311 lp_311_ok f_311
/-! ### 172: math/bits.Len -/
noncomputable def c_172 : Code := Tryz.f172.body.getD .skip
theorem hb_172 : Tryz.f172.body = some c_172 := by kernel_rfl
theorem hf_172 : CT.P.funcs[172]? = some Tryz.f172 := by kernel_rfl
noncomputable def T_172 : Tb := mkTb tyT mpT [E_255]
theorem T_172_ok : T_172.Ok CT.P := mkTb_ok (⟨e_255, trivial⟩)
noncomputable def lp_172 {β : Type} : LpT β := fun _ _ _ => none
theorem lp_172_ok {β : Type} : LpTOk CT (lp_172 (β := β)) (loopsOf c_172) := by
  have h : loopsOf c_172 = [] := by kernel_rfl
  rw [h]
  exact LpTOk.nil
noncomputable def F_172 (a1 : Ty.El (.int .u64)) : Option (Els [I]) := (F_255 a1).bind fun v2 => Option.some (v2.fst, ())
theorem f_172 (x : Ps [.ty (.int .u64)]) : funcT CT T_172 [I] (drT CT T_172) lp_172 Tryz.f172 c_172 (encPs [.ty (.int .u64)] x) = F_172 x.1 := by kernel_rfl
noncomputable def E_172 : Ent := .fn 172 [] ⟨[.ty (.int .u64)], [I], fun x => F_172 x.1, false⟩
theorem e_172 : E_172.Ok CT.P := Ent.ofFn CT_ok T_172_ok hf_172 hb_172 lp_172_ok f_172
noncomputable def E_172h : Ent := .fn 172 [] ⟨[.ty (.int .u64)], [I], fun x => F_172 x.1, true⟩
/-! ### 296: slices.nextPowerOfTwo -/
noncomputable def c_296 : Code := Tryz.f296.body.getD .skip
theorem hb_296 : Tryz.f296.body = some c_296 := by kernel_rfl
theorem hf_296 : CT.P.funcs[296]? = some Tryz.f296 := by kernel_rfl
noncomputable def T_296 : Tb := mkTb tyT mpT [E_172]
theorem T_296_ok : T_296.Ok CT.P := mkTb_ok (⟨e_172, trivial⟩)
noncomputable def lp_296 {β : Type} : LpT β := fun _ _ _ => none
theorem lp_296_ok {β : Type} : LpTOk CT (lp_296 (β := β)) (loopsOf c_296) := by
  have h : loopsOf c_296 = [] := by kernel_rfl
  rw [h]
  exact LpTOk.nil
noncomputable def F_296 (a1 : Ty.El I) : Option (Els [.int .u64]) := (F_172 (Go.IntKind.u64.wrap a1)).bind fun v2 => bif Decidable.decide (v2.fst < (0 : Int)) then Option.none else Option.some (Go.IntKind.u64.wrap ((1 : Int) * (2 : Int) ^ Min.min (Int.toNat v2.fst) (64 : Nat)), ())
theorem f_296 (x : Ps [.ty I]) : funcT CT T_296 [.int .u64] (drT CT T_296) lp_296 Tryz.f296 c_296 (encPs [.ty I] x) = F_296 x.1 := by kernel_rfl
noncomputable def E_296 : Ent := .fn 296 [] ⟨[.ty I], [.int .u64], fun x => F_296 x.1, false⟩
theorem e_296 : E_296.Ok CT.P := Ent.ofFn CT_ok T_296_ok hf_296 hb_296 lp_296_ok f_296
noncomputable def E_296h : Ent := .fn 296 [] ⟨[.ty I], [.int .u64], fun x => F_296 x.1, true⟩
/-! ### 297: (*slices.xorshift).Next -/
noncomputable def c_297 : Code := Tryz.f297.body.getD .skip
theorem hb_297 : Tryz.f297.body = some c_297 := by kernel_rfl
theorem hf_297 : CT.P.funcs[297]? = some Tryz.f297 := by kernel_rfl
noncomputable abbrev IN_297 : LayD := ⟨1, [(0, .ptr 0)], [.var 301 [.data (.int .u64)]], fun s => [slotR s 0]⟩
noncomputable abbrev OUT_297 : LayD := ⟨1, [(0, .data (.int .u64))], [.var 301 [.data (.int .u64)]], fun _ => [0]⟩
noncomputable def T_297 : Tb := mkTb tyT mpT []
theorem T_297_ok : T_297.Ok CT.P := mkTb_ok (trivial)
noncomputable def lp_297 {β : Type} : LpT β := fun _ _ _ => none
theorem lp_297_ok {β : Type} : LpTOk (CTp 1) (lp_297 (β := β)) (loopsOf c_297) := by
  have h : loopsOf c_297 = [] := by kernel_rfl
  rw [h]
  exact LpTOk.nil
noncomputable def F_297 (b0 : Ty.El (.int .u64) × Unit) : Option OUT_297.El := Option.some ((Go.DI.bXor Go.IntKind.u64 (Go.DI.bXor Go.IntKind.u64 (Go.DI.bXor Go.IntKind.u64 b0.fst (Go.IntKind.u64.wrap (b0.fst * (8192 : Int)))) ((Go.DI.bXor Go.IntKind.u64 b0.fst (Go.IntKind.u64.wrap (b0.fst * (8192 : Int)))).fdiv (128 : Int))) (Go.IntKind.u64.wrap (Go.DI.bXor Go.IntKind.u64 (Go.DI.bXor Go.IntKind.u64 b0.fst (Go.IntKind.u64.wrap (b0.fst * (8192 : Int)))) ((Go.DI.bXor Go.IntKind.u64 b0.fst (Go.IntKind.u64.wrap (b0.fst * (8192 : Int)))).fdiv (128 : Int)) * (131072 : Int))), ()), (Go.DI.bXor Go.IntKind.u64 (Go.DI.bXor Go.IntKind.u64 (Go.DI.bXor Go.IntKind.u64 b0.fst (Go.IntKind.u64.wrap (b0.fst * (8192 : Int)))) ((Go.DI.bXor Go.IntKind.u64 b0.fst (Go.IntKind.u64.wrap (b0.fst * (8192 : Int)))).fdiv (128 : Int))) (Go.IntKind.u64.wrap (Go.DI.bXor Go.IntKind.u64 (Go.DI.bXor Go.IntKind.u64 b0.fst (Go.IntKind.u64.wrap (b0.fst * (8192 : Int)))) ((Go.DI.bXor Go.IntKind.u64 b0.fst (Go.IntKind.u64.wrap (b0.fst * (8192 : Int)))).fdiv (128 : Int)) * (131072 : Int))), ()), ())
theorem f_297 (x : IN_297.El) : funcX (CTp 1) T_297 IN_297 OUT_297 [] (drT (CTp 1) T_297) lp_297 Tryz.f297 c_297 x = F_297 x.2.1 := by kernel_rfl
noncomputable def E_297 : Ent := .mkGen 297 [] ⟨1, [], IN_297, OUT_297, fun x => F_297 x.2.1⟩
theorem e_297 : E_297.Ok CT.P := Ent.ofGen (C := (CTp 1)) (steps := []) (osteps := []) (CTp_ok 1) T_297_ok hf_297 hb_297 lp_297_ok f_297
/-! ### 313: slices.breakPatternsCmpFuncmaquette/api.Pair -/
noncomputable def c_313 : Code := Tryz.f313.body.getD .skip
theorem hb_313 : Tryz.f313.body = some c_313 := by kernel_rfl
theorem hf_313 : CT.P.funcs[313]? = some Tryz.f313 := by kernel_rfl
noncomputable abbrev IN_313 : LayD := ⟨4, [(0, .own tPair 0), (1, .data I), (2, .data I), (3, .clo 236 [])], [.row 204 tPair], fun s => [slotR s 0]⟩
noncomputable abbrev OUT_313 : LayD := ⟨0, [], [.row 204 tPair], fun _ => [0]⟩
noncomputable def T_313 : Tb := mkTb tyT mpT [E_296, E_297]
theorem T_313_ok : T_313.Ok CT.P := mkTb_ok (⟨e_296, e_297, trivial⟩)
noncomputable def l_313_5 : Code := atLoop c_313 5
noncomputable abbrev LD_313_5 : LayD := ⟨67, [(0, .own tPair 0), (1, .data I), (8, .data I), (9, .ptr 1), (10, .data (.int .u64)), (11, .data I)], [.row 204 tPair, .var 301 [.data (.int .u64)]], fun s => [0, slotR s 9]⟩
noncomputable abbrev LA_313_5 : LayD := ⟨67, [], [.row 204 tPair], fun s => [0]⟩
noncomputable abbrev LB_313_5 : LayD := ⟨67, [], [], fun _ => []⟩
noncomputable def EX_313_5 : Exits 1 LA_313_5.El LB_313_5.El := ⟨.exit 0, LA_313_5.lay [], .ret, LB_313_5.lay []⟩

noncomputable def lpi_313_5 {β : Type} : LpT β := fun _ _ _ => none
theorem lpi_313_5_ok {β : Type} : LpTOk (CTp 1) (lpi_313_5 (β := β)) (loopsOf l_313_5) := by
  have h : loopsOf l_313_5 = [] := by kernel_rfl
  rw [h]
  exact LpTOk.nil
noncomputable def G_313_5 (r1 : Ty.El I) (r8 : Ty.El I) (r10 : Ty.El (.int .u64)) (r11 : Ty.El I) (b0 : List (Ty.El tPair)) (b1 : Ty.El (.int .u64) × Unit) : Option (LD_313_5.El ⊕ (LA_313_5.El ⊕ LB_313_5.El)) := bif Decidable.decide (r11 ≤ Go.IntKind.i64.wrap (Go.IntKind.i64.wrap (r1 + Go.IntKind.i64.wrap (Go.IntKind.i64.wrap (Int.tdiv r8 (4 : Int)) * (2 : Int))) + (1 : Int))) then (F_297 (b1.fst, ())).bind fun v2 => bif Decidable.decide (Go.IntKind.i64.wrap (Go.DI.bAnd Go.IntKind.u64 v2.fst.fst (Go.IntKind.u64.wrap (r10 - (1 : Int)))) ≥ r8) then bif Decidable.decide ((0 : Int) ≤ Go.IntKind.i64.wrap (r1 + Go.IntKind.i64.wrap (Go.IntKind.i64.wrap (Go.DI.bAnd Go.IntKind.u64 v2.fst.fst (Go.IntKind.u64.wrap (r10 - (1 : Int)))) - r8)) ∧ Go.IntKind.i64.wrap (r1 + Go.IntKind.i64.wrap (Go.IntKind.i64.wrap (Go.DI.bAnd Go.IntKind.u64 v2.fst.fst (Go.IntKind.u64.wrap (r10 - (1 : Int)))) - r8)) < (↑b0.length : Int)) then bif Decidable.decide ((0 : Int) ≤ r11 ∧ r11 < (↑b0.length : Int)) then bif Decidable.decide ((0 : Int) ≤ r11 ∧ r11 < (↑b0.length : Int)) then bif Decidable.decide ((0 : Int) ≤ Go.IntKind.i64.wrap (r1 + Go.IntKind.i64.wrap (Go.IntKind.i64.wrap (Go.DI.bAnd Go.IntKind.u64 v2.fst.fst (Go.IntKind.u64.wrap (r10 - (1 : Int)))) - r8)) ∧ Go.IntKind.i64.wrap (r1 + Go.IntKind.i64.wrap (Go.IntKind.i64.wrap (Go.DI.bAnd Go.IntKind.u64 v2.fst.fst (Go.IntKind.u64.wrap (r10 - (1 : Int)))) - r8)) < (↑(b0.set (Int.toNat r11) (b0.getD (Go.IntKind.i64.wrap (r1 + Go.IntKind.i64.wrap (Go.IntKind.i64.wrap (Go.DI.bAnd Go.IntKind.u64 v2.fst.fst (Go.IntKind.u64.wrap (r10 - (1 : Int)))) - r8))).toNat Go.DI.S.tPair.dflt)).length : Int)) then Option.some (Sum.inl (((), r1, r8, (), r10, Go.IntKind.i64.wrap (r11 + (1 : Int)), ()), (b0.set (Int.toNat r11) (b0.getD (Go.IntKind.i64.wrap (r1 + Go.IntKind.i64.wrap (Go.IntKind.i64.wrap (Go.DI.bAnd Go.IntKind.u64 v2.fst.fst (Go.IntKind.u64.wrap (r10 - (1 : Int)))) - r8))).toNat Go.DI.S.tPair.dflt)).set (Go.IntKind.i64.wrap (r1 + Go.IntKind.i64.wrap (Go.IntKind.i64.wrap (Go.DI.bAnd Go.IntKind.u64 v2.fst.fst (Go.IntKind.u64.wrap (r10 - (1 : Int)))) - r8))).toNat (b0.getD (Int.toNat r11) Go.DI.S.tPair.dflt), (v2.snd.fst.fst, ()), ())) else Option.none else Option.none else Option.none else Option.none else bif Decidable.decide ((0 : Int) ≤ Go.IntKind.i64.wrap (r1 + Go.IntKind.i64.wrap (Go.DI.bAnd Go.IntKind.u64 v2.fst.fst (Go.IntKind.u64.wrap (r10 - (1 : Int))))) ∧ Go.IntKind.i64.wrap (r1 + Go.IntKind.i64.wrap (Go.DI.bAnd Go.IntKind.u64 v2.fst.fst (Go.IntKind.u64.wrap (r10 - (1 : Int))))) < (↑b0.length : Int)) then bif Decidable.decide ((0 : Int) ≤ r11 ∧ r11 < (↑b0.length : Int)) then bif Decidable.decide ((0 : Int) ≤ r11 ∧ r11 < (↑b0.length : Int)) then bif Decidable.decide ((0 : Int) ≤ Go.IntKind.i64.wrap (r1 + Go.IntKind.i64.wrap (Go.DI.bAnd Go.IntKind.u64 v2.fst.fst (Go.IntKind.u64.wrap (r10 - (1 : Int))))) ∧ Go.IntKind.i64.wrap (r1 + Go.IntKind.i64.wrap (Go.DI.bAnd Go.IntKind.u64 v2.fst.fst (Go.IntKind.u64.wrap (r10 - (1 : Int))))) < (↑(b0.set (Int.toNat r11) (b0.getD (Go.IntKind.i64.wrap (r1 + Go.IntKind.i64.wrap (Go.DI.bAnd Go.IntKind.u64 v2.fst.fst (Go.IntKind.u64.wrap (r10 - (1 : Int)))))).toNat Go.DI.S.tPair.dflt)).length : Int)) then Option.some (Sum.inl (((), r1, r8, (), r10, Go.IntKind.i64.wrap (r11 + (1 : Int)), ()), (b0.set (Int.toNat r11) (b0.getD (Go.IntKind.i64.wrap (r1 + Go.IntKind.i64.wrap (Go.DI.bAnd Go.IntKind.u64 v2.fst.fst (Go.IntKind.u64.wrap (r10 - (1 : Int)))))).toNat Go.DI.S.tPair.dflt)).set (Go.IntKind.i64.wrap (r1 + Go.IntKind.i64.wrap (Go.DI.bAnd Go.IntKind.u64 v2.fst.fst (Go.IntKind.u64.wrap (r10 - (1 : Int)))))).toNat (b0.getD (Int.toNat r11) Go.DI.S.tPair.dflt), (v2.snd.fst.fst, ()), ())) else Option.none else Option.none else Option.none else Option.none else Option.some (Sum.inr (Sum.inl ((), b0, ())))
theorem g_313_5 (x : LD_313_5.El) : codeT (CTp 1) T_313 (drT (CTp 1) T_313) lpi_313_5 l_313_5 (LD_313_5.enc x) (bodyK (LD_313_5.lay []) EX_313_5) = G_313_5 x.1.2.1 x.1.2.2.1 x.1.2.2.2.2.1 x.1.2.2.2.2.2.1 x.2.1 x.2.2.1 := by kernel_rfl
noncomputable def R_313_5 : LD_313_5.El → Option (LA_313_5.El ⊕ LB_313_5.El) := roundsT (fun x => G_313_5 x.1.2.1 x.1.2.2.1 x.1.2.2.2.2.1 x.1.2.2.2.2.2.1 x.2.1 x.2.2.1) fuel
theorem r_313_5 : ∀ x y, R_313_5 x = some y → CL (CTp 1) l_313_5 (LD_313_5.enc x) (Sum.elim (fun _ => EX_313_5.xa) (fun _ => EX_313_5.xb) y) (Sum.elim EX_313_5.la.enc EX_313_5.lb.enc y) :=
  rounds_ok (L := LD_313_5.lay []) (E := EX_313_5) (CTp_ok 1) T_313_ok (drT_ok (CTp_ok 1) T_313_ok) lpi_313_5_ok g_313_5 rfl rfl (fun v h => by have hh : (.exit 0 : AX) = .pan v := h; cases hh) (fun v h => by have hh : (.ret : AX) = .pan v := h; cases hh) fuel
noncomputable def lp_313 {β : Type} : LpT β := fun k s K => if Nat.beq k 5 then lpOne (LD_313_5.lay []) EX_313_5 R_313_5 s K else none
theorem lp_313_ok {β : Type} : LpTOk (CTp 1) (lp_313 (β := β)) (loopsOf c_313) := by
  have h : loopsOf c_313 = [(5, l_313_5)] := by kernel_rfl
  rw [h]
  exact LpTOk.cons (fun s K z h => lpOne_ok r_313_5 h) (LpTOk.nil)
noncomputable def F_313 (a1 : Ty.El I) (a2 : Ty.El I) (b0 : List (Ty.El tPair)) : Option OUT_313.El := bif Decidable.decide (Go.IntKind.i64.wrap (a2 - a1) ≥ (8 : Int)) then (F_296 (Go.IntKind.i64.wrap (a2 - a1))).bind fun v2 => (R_313_5 (((), a1, Go.IntKind.i64.wrap (a2 - a1), (), v2.fst, Go.IntKind.i64.wrap (Go.IntKind.i64.wrap (a1 + Go.IntKind.i64.wrap (Go.IntKind.i64.wrap ((Go.IntKind.i64.wrap (a2 - a1)).tdiv (4 : Int)) * (2 : Int))) - (1 : Int)), ()), b0, (Go.IntKind.u64.wrap (Go.IntKind.i64.wrap (a2 - a1)), ()), ())).bind fun v3 => Sum.elim (fun v4 => Option.some ((), v4.snd.fst, ())) (fun v5 => Option.none) v3 else Option.some ((), b0, ())
theorem f_313 (x : IN_313.El) : funcX (CTp 1) T_313 IN_313 OUT_313 [] (drT (CTp 1) T_313) lp_313 Tryz.f313 c_313 x = F_313 x.1.2.1 x.1.2.2.1 x.2.1 := by kernel_rfl
noncomputable def E_313 : Ent := .mkGen 313 [236] ⟨1, [.nilReg 0 204 tPair, .rowReg 0 204 tPair], IN_313, OUT_313, fun x => F_313 x.1.2.1 x.1.2.2.1 x.2.1⟩
theorem e_313 : E_313.Ok CT.P := Ent.ofGen (C := (CTp 1)) (steps := [.nilReg 0 204 tPair, .rowReg 0 204 tPair]) (osteps := []) (CTp_ok 1) T_313_ok hf_313 hb_313 lp_313_ok f_313
/-! ### 332: slices.order2CmpFuncmaquette/api.Pair -/
noncomputable def c_332 : Code := Tryz.f332.body.getD .skip
theorem hb_332 : Tryz.f332.body = some c_332 := by kernel_rfl
theorem hf_332 : CT.P.funcs[332]? = some Tryz.f332 := by kernel_rfl
noncomputable abbrev IN_332 : LayD := ⟨5, [(0, .own tPair 0), (1, .data I), (2, .data I), (3, .ptr 1), (4, .clo 236 [])], [.row 204 tPair, .var 3 [.data I]], fun s => [slotR s 0, slotR s 3]⟩
noncomputable abbrev OUT_332 : LayD := ⟨2, [(0, .data I), (1, .data I)], [.row 204 tPair, .var 3 [.data I]], fun _ => [0, 1]⟩
noncomputable def T_332 : Tb := mkTb tyT mpT [E_236]
theorem T_332_ok : T_332.Ok CT.P := mkTb_ok (⟨e_236, trivial⟩)
noncomputable def lp_332 {β : Type} : LpT β := fun _ _ _ => none
theorem lp_332_ok {β : Type} : LpTOk (CTp 2) (lp_332 (β := β)) (loopsOf c_332) := by
  have h : loopsOf c_332 = [] := by kernel_rfl
  rw [h]
  exact LpTOk.nil
noncomputable def F_332 (a1 : Ty.El I) (a2 : Ty.El I) (b0 : List (Ty.El tPair)) (b1 : Ty.El I × Unit) : Option OUT_332.El := bif Decidable.decide ((0 : Int) ≤ a2 ∧ a2 < (↑b0.length : Int)) then bif Decidable.decide ((0 : Int) ≤ a1 ∧ a1 < (↑b0.length : Int)) then (F_236 (b0.getD (Int.toNat a2) Go.DI.S.tPair.dflt) (b0.getD (Int.toNat a1) Go.DI.S.tPair.dflt)).bind fun v2 => bif Decidable.decide (v2.fst < (0 : Int)) then Option.some ((a2, a1, ()), b0, (Go.IntKind.i64.wrap (b1.fst + (1 : Int)), ()), ()) else Option.some ((a1, a2, ()), b0, (b1.fst, ()), ()) else Option.none else Option.none
theorem f_332 (x : IN_332.El) : funcX (CTp 2) T_332 IN_332 OUT_332 [] (drT (CTp 2) T_332) lp_332 Tryz.f332 c_332 x = F_332 x.1.2.1 x.1.2.2.1 x.2.1 x.2.2.1 := by kernel_rfl
noncomputable def E_332 : Ent := .mkGen 332 [236] ⟨2, [.nilReg 0 204 tPair, .rowReg 0 204 tPair], IN_332, OUT_332, fun x => F_332 x.1.2.1 x.1.2.2.1 x.2.1 x.2.2.1⟩
theorem e_332 : E_332.Ok CT.P := Ent.ofGen (C := (CTp 2)) (steps := [.nilReg 0 204 tPair, .rowReg 0 204 tPair]) (osteps := []) (CTp_ok 2) T_332_ok hf_332 hb_332 lp_332_ok f_332
/-! ### 329: slices.medianCmpFuncmaquette/api.Pair -/
noncomputable def c_329 : Code := Tryz.f329.body.getD .skip
theorem hb_329 : Tryz.f329.body = some c_329 := by kernel_rfl
theorem hf_329 : CT.P.funcs[329]? = some Tryz.f329 := by kernel_rfl
noncomputable abbrev IN_329 : LayD := ⟨6, [(0, .own tPair 0), (1, .data I), (2, .data I), (3, .data I), (4, .ptr 1), (5, .clo 236 [])], [.row 204 tPair, .var 3 [.data I]], fun s => [slotR s 0, slotR s 4]⟩
noncomputable abbrev OUT_329 : LayD := ⟨1, [(0, .data I)], [.row 204 tPair, .var 3 [.data I]], fun _ => [0, 1]⟩
noncomputable def T_329 : Tb := mkTb tyT mpT [E_332]
theorem T_329_ok : T_329.Ok CT.P := mkTb_ok (⟨e_332, trivial⟩)
noncomputable def lp_329 {β : Type} : LpT β := fun _ _ _ => none
theorem lp_329_ok {β : Type} : LpTOk (CTp 2) (lp_329 (β := β)) (loopsOf c_329) := by
  have h : loopsOf c_329 = [] := by kernel_rfl
  rw [h]
  exact LpTOk.nil
noncomputable def F_329 (a1 : Ty.El I) (a2 : Ty.El I) (a3 : Ty.El I) (b0 : List (Ty.El tPair)) (b1 : Ty.El I × Unit) : Option OUT_329.El := (F_332 a1 a2 b0 (b1.fst, ())).bind fun v2 => (F_332 v2.fst.snd.fst a3 v2.snd.fst (v2.snd.snd.fst.fst, ())).bind fun v10 => (F_332 v2.fst.fst v10.fst.fst v10.snd.fst (v10.snd.snd.fst.fst, ())).bind fun v20 => Option.some ((v20.fst.snd.fst, ()), v20.snd.fst, (v20.snd.snd.fst.fst, ()), ())
theorem f_329 (x : IN_329.El) : funcX (CTp 2) T_329 IN_329 OUT_329 [] (drT (CTp 2) T_329) lp_329 Tryz.f329 c_329 x = F_329 x.1.2.1 x.1.2.2.1 x.1.2.2.2.1 x.2.1 x.2.2.1 := by kernel_rfl
noncomputable def E_329 : Ent := .mkGen 329 [236] ⟨2, [.nilReg 0 204 tPair, .rowReg 0 204 tPair], IN_329, OUT_329, fun x => F_329 x.1.2.1 x.1.2.2.1 x.1.2.2.2.1 x.2.1 x.2.2.1⟩
theorem e_329 : E_329.Ok CT.P := Ent.ofGen (C := (CTp 2)) (steps := [.nilReg 0 204 tPair, .rowReg 0 204 tPair]) (osteps := []) (CTp_ok 2) T_329_ok hf_329 hb_329 lp_329_ok f_329
/-! ### 328: slices.medianAdjacentCmpFuncmaquette/api.Pair -/
noncomputable def c_328 : Code := Tryz.f328.body.getD .skip
theorem hb_328 : Tryz.f328.body = some c_328 := by kernel_rfl
theorem hf_328 : CT.P.funcs[328]? = some Tryz.f328 := by kernel_rfl
noncomputable abbrev IN_328 : LayD := ⟨4, [(0, .own tPair 0), (1, .data I), (2, .ptr 1), (3, .clo 236 [])], [.row 204 tPair, .var 3 [.data I]], fun s => [slotR s 0, slotR s 2]⟩
noncomputable abbrev OUT_328 : LayD := ⟨1, [(0, .data I)], [.row 204 tPair, .var 3 [.data I]], fun _ => [0, 1]⟩
noncomputable def T_328 : Tb := mkTb tyT mpT [E_329]
theorem T_328_ok : T_328.Ok CT.P := mkTb_ok (⟨e_329, trivial⟩)
noncomputable def lp_328 {β : Type} : LpT β := fun _ _ _ => none
theorem lp_328_ok {β : Type} : LpTOk (CTp 2) (lp_328 (β := β)) (loopsOf c_328) := by
  have h : loopsOf c_328 = [] := by kernel_rfl
  rw [h]
  exact LpTOk.nil
noncomputable def F_328 (a1 : Ty.El I) (b0 : List (Ty.El tPair)) (b1 : Ty.El I × Unit) : Option OUT_328.El := (F_329 (Go.IntKind.i64.wrap (a1 - (1 : Int))) a1 (Go.IntKind.i64.wrap (a1 + (1 : Int))) b0 (b1.fst, ())).bind fun v2 => Option.some ((v2.fst.fst, ()), v2.snd.fst, (v2.snd.snd.fst.fst, ()), ())
theorem f_328 (x : IN_328.El) : funcX (CTp 2) T_328 IN_328 OUT_328 [] (drT (CTp 2) T_328) lp_328 Tryz.f328 c_328 x = F_328 x.1.2.1 x.2.1 x.2.2.1 := by kernel_rfl
noncomputable def E_328 : Ent := .mkGen 328 [236] ⟨2, [.nilReg 0 204 tPair, .rowReg 0 204 tPair], IN_328, OUT_328, fun x => F_328 x.1.2.1 x.2.1 x.2.2.1⟩
theorem e_328 : E_328.Ok CT.P := Ent.ofGen (C := (CTp 2)) (steps := [.nilReg 0 204 tPair, .rowReg 0 204 tPair]) (osteps := []) (CTp_ok 2) T_328_ok hf_328 hb_328 lp_328_ok f_328
/-! ### 314: slices.choosePivotCmpFuncmaquette/api.Pair -/
noncomputable def c_314 : Code := Tryz.f314.body.getD .skip
theorem hb_314 : Tryz.f314.body = some c_314 := by kernel_rfl
theorem hf_314 : CT.P.funcs[314]? = some Tryz.f314 := by kernel_rfl
noncomputable abbrev IN_314 : LayD := ⟨4, [(0, .own tPair 0), (1, .data I), (2, .data I), (3, .clo 236 [])], [.row 204 tPair], fun s => [slotR s 0]⟩
noncomputable abbrev OUT_314 : LayD := ⟨2, [(0, .data I), (1, .data I)], [.row 204 tPair], fun _ => [0]⟩
noncomputable def T_314 : Tb := mkTb tyT mpT [E_328, E_329]
theorem T_314_ok : T_314.Ok CT.P := mkTb_ok (⟨e_328, e_329, trivial⟩)
noncomputable def lp_314 {β : Type} : LpT β := fun _ _ _ => none
theorem lp_314_ok {β : Type} : LpTOk (CTp 1) (lp_314 (β := β)) (loopsOf c_314) := by
  have h : loopsOf c_314 = [] := by kernel_rfl
  rw [h]
  exact LpTOk.nil
noncomputable def F_314 (a1 : Ty.El I) (a2 : Ty.El I) (b0 : List (Ty.El tPair)) : Option OUT_314.El := bif Decidable.decide (Go.IntKind.i64.wrap (a2 - a1) ≥ (8 : Int)) then bif Decidable.decide (Go.IntKind.i64.wrap (a2 - a1) ≥ (50 : Int)) then (F_328 (Go.IntKind.i64.wrap (a1 + Go.IntKind.i64.wrap (Go.IntKind.i64.wrap ((Go.IntKind.i64.wrap (a2 - a1)).tdiv (4 : Int)) * (1 : Int)))) b0 ((0 : Int), ())).bind fun v2 => (F_328 (Go.IntKind.i64.wrap (a1 + Go.IntKind.i64.wrap (Go.IntKind.i64.wrap ((Go.IntKind.i64.wrap (a2 - a1)).tdiv (4 : Int)) * (2 : Int)))) v2.snd.fst (v2.snd.snd.fst.fst, ())).bind fun v8 => (F_328 (Go.IntKind.i64.wrap (a1 + Go.IntKind.i64.wrap (Go.IntKind.i64.wrap ((Go.IntKind.i64.wrap (a2 - a1)).tdiv (4 : Int)) * (3 : Int)))) v8.snd.fst (v8.snd.snd.fst.fst, ())).bind fun v14 => (F_329 v2.fst.fst v8.fst.fst v14.fst.fst v14.snd.fst (v14.snd.snd.fst.fst, ())).bind fun v26 => bif v26.snd.snd.fst.fst == (0 : Int) then Option.some ((v26.fst.fst, (1 : Int), ()), v26.snd.fst, ()) else bif v26.snd.snd.fst.fst == (12 : Int) then Option.some ((v26.fst.fst, (2 : Int), ()), v26.snd.fst, ()) else Option.some ((v26.fst.fst, (0 : Int), ()), v26.snd.fst, ()) else (F_329 (Go.IntKind.i64.wrap (a1 + Go.IntKind.i64.wrap (Go.IntKind.i64.wrap ((Go.IntKind.i64.wrap (a2 - a1)).tdiv (4 : Int)) * (1 : Int)))) (Go.IntKind.i64.wrap (a1 + Go.IntKind.i64.wrap (Go.IntKind.i64.wrap ((Go.IntKind.i64.wrap (a2 - a1)).tdiv (4 : Int)) * (2 : Int)))) (Go.IntKind.i64.wrap (a1 + Go.IntKind.i64.wrap (Go.IntKind.i64.wrap ((Go.IntKind.i64.wrap (a2 - a1)).tdiv (4 : Int)) * (3 : Int)))) b0 ((0 : Int), ())).bind fun v44 => bif v44.snd.snd.fst.fst == (0 : Int) then Option.some ((v44.fst.fst, (1 : Int), ()), v44.snd.fst, ()) else bif v44.snd.snd.fst.fst == (12 : Int) then Option.some ((v44.fst.fst, (2 : Int), ()), v44.snd.fst, ()) else Option.some ((v44.fst.fst, (0 : Int), ()), v44.snd.fst, ()) else Option.some ((Go.IntKind.i64.wrap (a1 + Go.IntKind.i64.wrap (Go.IntKind.i64.wrap ((Go.IntKind.i64.wrap (a2 - a1)).tdiv (4 : Int)) * (2 : Int))), (1 : Int), ()), b0, ())
theorem f_314 (x : IN_314.El) : funcX (CTp 1) T_314 IN_314 OUT_314 [] (drT (CTp 1) T_314) lp_314 Tryz.f314 c_314 x = F_314 x.1.2.1 x.1.2.2.1 x.2.1 := by kernel_rfl
noncomputable def E_314 : Ent := .mkGen 314 [236] ⟨1, [.nilReg 0 204 tPair, .rowReg 0 204 tPair], IN_314, OUT_314, fun x => F_314 x.1.2.1 x.1.2.2.1 x.2.1⟩
theorem e_314 : E_314.Ok CT.P := Ent.ofGen (C := (CTp 1)) (steps := [.nilReg 0 204 tPair, .rowReg 0 204 tPair]) (osteps := []) (CTp_ok 1) T_314_ok hf_314 hb_314 lp_314_ok f_314
/-! ### 315: slices.reverseRangeCmpFuncmaquette/api.Pair -/
noncomputable def c_315 : Code := Tryz.f315.body.getD .skip
theorem hb_315 : Tryz.f315.body = some c_315 := by kernel_rfl
theorem hf_315 : CT.P.funcs[315]? = some Tryz.f315 := by kernel_rfl
noncomputable abbrev IN_315 : LayD := ⟨4, [(0, .own tPair 0), (1, .data I), (2, .data I), (3, .clo 236 [])], [.row 204 tPair], fun s => [slotR s 0]⟩
noncomputable abbrev OUT_315 : LayD := ⟨0, [], [.row 204 tPair], fun _ => [0]⟩
noncomputable def T_315 : Tb := mkTb tyT mpT []
theorem T_315_ok : T_315.Ok CT.P := mkTb_ok (trivial)
noncomputable def l_315_2 : Code := atLoop c_315 2
noncomputable abbrev LD_315_2 : LayD := ⟨34, [(0, .own tPair 0), (8, .data I), (9, .data I)], [.row 204 tPair], fun s => [0]⟩
noncomputable abbrev LA_315_2 : LayD := ⟨34, [], [.row 204 tPair], fun s => [0]⟩
noncomputable abbrev LB_315_2 : LayD := ⟨34, [], [], fun _ => []⟩
noncomputable def EX_315_2 : Exits 1 LA_315_2.El LB_315_2.El := ⟨.exit 0, LA_315_2.lay [], .ret, LB_315_2.lay []⟩

noncomputable def lpi_315_2 {β : Type} : LpT β := fun _ _ _ => none
theorem lpi_315_2_ok {β : Type} : LpTOk (CTp 1) (lpi_315_2 (β := β)) (loopsOf l_315_2) := by
  have h : loopsOf l_315_2 = [] := by kernel_rfl
  rw [h]
  exact LpTOk.nil
noncomputable def G_315_2 (r8 : Ty.El I) (r9 : Ty.El I) (b0 : List (Ty.El tPair)) : Option (LD_315_2.El ⊕ (LA_315_2.El ⊕ LB_315_2.El)) := bif Decidable.decide (r8 < r9) then bif Decidable.decide ((0 : Int) ≤ r9 ∧ r9 < (↑b0.length : Int)) then bif Decidable.decide ((0 : Int) ≤ r8 ∧ r8 < (↑b0.length : Int)) then bif Decidable.decide ((0 : Int) ≤ r8 ∧ r8 < (↑b0.length : Int)) then bif Decidable.decide ((0 : Int) ≤ r9 ∧ r9 < (↑(b0.set (Int.toNat r8) (b0.getD (Int.toNat r9) Go.DI.S.tPair.dflt)).length : Int)) then Option.some (Sum.inl (((), Go.IntKind.i64.wrap (r8 + (1 : Int)), Go.IntKind.i64.wrap (r9 - (1 : Int)), ()), (b0.set (Int.toNat r8) (b0.getD (Int.toNat r9) Go.DI.S.tPair.dflt)).set (Int.toNat r9) (b0.getD (Int.toNat r8) Go.DI.S.tPair.dflt), ())) else Option.none else Option.none else Option.none else Option.none else Option.some (Sum.inr (Sum.inl ((), b0, ())))
theorem g_315_2 (x : LD_315_2.El) : codeT (CTp 1) T_315 (drT (CTp 1) T_315) lpi_315_2 l_315_2 (LD_315_2.enc x) (bodyK (LD_315_2.lay []) EX_315_2) = G_315_2 x.1.2.1 x.1.2.2.1 x.2.1 := by kernel_rfl
noncomputable def R_315_2 : LD_315_2.El → Option (LA_315_2.El ⊕ LB_315_2.El) := roundsT (fun x => G_315_2 x.1.2.1 x.1.2.2.1 x.2.1) fuel
theorem r_315_2 : ∀ x y, R_315_2 x = some y → CL (CTp 1) l_315_2 (LD_315_2.enc x) (Sum.elim (fun _ => EX_315_2.xa) (fun _ => EX_315_2.xb) y) (Sum.elim EX_315_2.la.enc EX_315_2.lb.enc y) :=
  rounds_ok (L := LD_315_2.lay []) (E := EX_315_2) (CTp_ok 1) T_315_ok (drT_ok (CTp_ok 1) T_315_ok) lpi_315_2_ok g_315_2 rfl rfl (fun v h => by have hh : (.exit 0 : AX) = .pan v := h; cases hh) (fun v h => by have hh : (.ret : AX) = .pan v := h; cases hh) fuel
noncomputable def lp_315 {β : Type} : LpT β := fun k s K => if Nat.beq k 2 then lpOne (LD_315_2.lay []) EX_315_2 R_315_2 s K else none
theorem lp_315_ok {β : Type} : LpTOk (CTp 1) (lp_315 (β := β)) (loopsOf c_315) := by
  have h : loopsOf c_315 = [(2, l_315_2)] := by kernel_rfl
  rw [h]
  exact LpTOk.cons (fun s K z h => lpOne_ok r_315_2 h) (LpTOk.nil)
noncomputable def F_315 (a1 : Ty.El I) (a2 : Ty.El I) (b0 : List (Ty.El tPair)) : Option OUT_315.El := (R_315_2 (((), a1, Go.IntKind.i64.wrap (a2 - (1 : Int)), ()), b0, ())).bind fun v1 => Sum.elim (fun v2 => Option.some ((), v2.snd.fst, ())) (fun v3 => Option.none) v1
theorem f_315 (x : IN_315.El) : funcX (CTp 1) T_315 IN_315 OUT_315 [] (drT (CTp 1) T_315) lp_315 Tryz.f315 c_315 x = F_315 x.1.2.1 x.1.2.2.1 x.2.1 := by kernel_rfl
noncomputable def E_315 : Ent := .mkGen 315 [236] ⟨1, [.nilReg 0 204 tPair, .rowReg 0 204 tPair], IN_315, OUT_315, fun x => F_315 x.1.2.1 x.1.2.2.1 x.2.1⟩
theorem e_315 : E_315.Ok CT.P := Ent.ofGen (C := (CTp 1)) (steps := [.nilReg 0 204 tPair, .rowReg 0 204 tPair]) (osteps := []) (CTp_ok 1) T_315_ok hf_315 hb_315 lp_315_ok f_315
/-! ### 316: slices.partialInsertionSortCmpFuncmaquette/api.Pair -/
noncomputable def c_316 : Code := Tryz.f316.body.getD .skip
theorem hb_316 : Tryz.f316.body = some c_316 := by kernel_rfl
theorem hf_316 : CT.P.funcs[316]? = some Tryz.f316 := by kernel_rfl
noncomputable abbrev IN_316 : LayD := ⟨4, [(0, .own tPair 0), (1, .data I), (2, .data I), (3, .clo 236 [])], [.row 204 tPair], fun s => [slotR s 0]⟩
noncomputable abbrev OUT_316 : LayD := ⟨1, [(0, .data .bool)], [.row 204 tPair], fun _ => [0]⟩
noncomputable def T_316 : Tb := mkTb tyT mpT [E_236]
theorem T_316_ok : T_316.Ok CT.P := mkTb_ok (⟨e_236, trivial⟩)
noncomputable def l_316_3 : Code := atLoop c_316 3
noncomputable def l_316_20 : Code := atLoop l_316_3 20
noncomputable def l_316_14 : Code := atLoop l_316_3 14
noncomputable def l_316_5 : Code := atLoop l_316_3 5
noncomputable abbrev LD_316_5 : LayD := ⟨141, [(0, .own tPair 0), (1, .data I), (2, .data I), (3, .clo 236 []), (9, .data I), (10, .data I)], [.row 204 tPair], fun s => [0]⟩
noncomputable abbrev LA_316_5 : LayD := ⟨141, [(0, .own tPair 0), (1, .data I), (2, .data I), (3, .clo 236 []), (9, .data I), (10, .data I)], [.row 204 tPair], fun s => [0]⟩
noncomputable abbrev LB_316_5 : LayD := ⟨141, [], [], fun _ => []⟩
noncomputable def EX_316_5 : Exits 1 LA_316_5.El LB_316_5.El := ⟨.exit 2, LA_316_5.lay [], .ret, LB_316_5.lay []⟩

noncomputable def lpi_316_5 {β : Type} : LpT β := fun _ _ _ => none
theorem lpi_316_5_ok {β : Type} : LpTOk (CTp 1) (lpi_316_5 (β := β)) (loopsOf l_316_5) := by
  have h : loopsOf l_316_5 = [] := by kernel_rfl
  rw [h]
  exact LpTOk.nil
noncomputable def G_316_5 (r1 : Ty.El I) (r2 : Ty.El I) (r9 : Ty.El I) (r10 : Ty.El I) (b0 : List (Ty.El tPair)) : Option (LD_316_5.El ⊕ (LA_316_5.El ⊕ LB_316_5.El)) := bif Decidable.decide (r9 < r2) then bif Decidable.decide ((0 : Int) ≤ r9 ∧ r9 < (↑b0.length : Int)) then bif Decidable.decide ((0 : Int) ≤ Go.IntKind.i64.wrap (r9 - (1 : Int)) ∧ Go.IntKind.i64.wrap (r9 - (1 : Int)) < (↑b0.length : Int)) then (F_236 (b0.getD (Int.toNat r9) Go.DI.S.tPair.dflt) (b0.getD (Go.IntKind.i64.wrap (r9 - (1 : Int))).toNat Go.DI.S.tPair.dflt)).bind fun v2 => bif !Decidable.decide (v2.fst < (0 : Int)) then Option.some (Sum.inl (((), r1, r2, (), Go.IntKind.i64.wrap (r9 + (1 : Int)), r10, ()), b0, ())) else Option.some (Sum.inr (Sum.inl (((), r1, r2, (), r9, r10, ()), b0, ()))) else Option.none else Option.none else Option.some (Sum.inr (Sum.inl (((), r1, r2, (), r9, r10, ()), b0, ())))
theorem g_316_5 (x : LD_316_5.El) : codeT (CTp 1) T_316 (drT (CTp 1) T_316) lpi_316_5 l_316_5 (LD_316_5.enc x) (bodyK (LD_316_5.lay []) EX_316_5) = G_316_5 x.1.2.1 x.1.2.2.1 x.1.2.2.2.2.1 x.1.2.2.2.2.2.1 x.2.1 := by kernel_rfl
noncomputable def R_316_5 : LD_316_5.El → Option (LA_316_5.El ⊕ LB_316_5.El) := roundsT (fun x => G_316_5 x.1.2.1 x.1.2.2.1 x.1.2.2.2.2.1 x.1.2.2.2.2.2.1 x.2.1) fuel
theorem r_316_5 : ∀ x y, R_316_5 x = some y → CL (CTp 1) l_316_5 (LD_316_5.enc x) (Sum.elim (fun _ => EX_316_5.xa) (fun _ => EX_316_5.xb) y) (Sum.elim EX_316_5.la.enc EX_316_5.lb.enc y) :=
  rounds_ok (L := LD_316_5.lay []) (E := EX_316_5) (CTp_ok 1) T_316_ok (drT_ok (CTp_ok 1) T_316_ok) lpi_316_5_ok g_316_5 rfl rfl (fun v h => by have hh : (.exit 2 : AX) = .pan v := h; cases hh) (fun v h => by have hh : (.ret : AX) = .pan v := h; cases hh) fuel
noncomputable abbrev LD_316_14 : LayD := ⟨141, [(0, .own tPair 0), (1, .data I), (2, .data I), (3, .clo 236 []), (9, .data I), (10, .data I), (11, .data I)], [.row 204 tPair], fun s => [0]⟩
noncomputable abbrev LA_316_14 : LayD := ⟨141, [(0, .own tPair 0), (1, .data I), (2, .data I), (3, .clo 236 []), (9, .data I), (10, .data I)], [.row 204 tPair], fun s => [0]⟩
noncomputable abbrev LB_316_14 : LayD := ⟨141, [], [], fun _ => []⟩
noncomputable def EX_316_14 : Exits 1 LA_316_14.El LB_316_14.El := ⟨.exit 4, LA_316_14.lay [], .ret, LB_316_14.lay []⟩

noncomputable def lpi_316_14 {β : Type} : LpT β := fun _ _ _ => none
theorem lpi_316_14_ok {β : Type} : LpTOk (CTp 1) (lpi_316_14 (β := β)) (loopsOf l_316_14) := by
  have h : loopsOf l_316_14 = [] := by kernel_rfl
  rw [h]
  exact LpTOk.nil
noncomputable def G_316_14 (r1 : Ty.El I) (r2 : Ty.El I) (r9 : Ty.El I) (r10 : Ty.El I) (r11 : Ty.El I) (b0 : List (Ty.El tPair)) : Option (LD_316_14.El ⊕ (LA_316_14.El ⊕ LB_316_14.El)) := bif Decidable.decide (r11 ≥ (1 : Int)) then bif Decidable.decide ((0 : Int) ≤ r11 ∧ r11 < (↑b0.length : Int)) then bif Decidable.decide ((0 : Int) ≤ Go.IntKind.i64.wrap (r11 - (1 : Int)) ∧ Go.IntKind.i64.wrap (r11 - (1 : Int)) < (↑b0.length : Int)) then (F_236 (b0.getD (Int.toNat r11) Go.DI.S.tPair.dflt) (b0.getD (Go.IntKind.i64.wrap (r11 - (1 : Int))).toNat Go.DI.S.tPair.dflt)).bind fun v2 => bif !Decidable.decide (v2.fst < (0 : Int)) then Option.some (Sum.inr (Sum.inl (((), r1, r2, (), r9, r10, ()), b0, ()))) else bif Decidable.decide ((0 : Int) ≤ Go.IntKind.i64.wrap (r11 - (1 : Int)) ∧ Go.IntKind.i64.wrap (r11 - (1 : Int)) < (↑b0.length : Int)) then bif Decidable.decide ((0 : Int) ≤ r11 ∧ r11 < (↑b0.length : Int)) then bif Decidable.decide ((0 : Int) ≤ r11 ∧ r11 < (↑b0.length : Int)) then bif Decidable.decide ((0 : Int) ≤ Go.IntKind.i64.wrap (r11 - (1 : Int)) ∧ Go.IntKind.i64.wrap (r11 - (1 : Int)) < (↑(b0.set (Int.toNat r11) (b0.getD (Go.IntKind.i64.wrap (r11 - (1 : Int))).toNat Go.DI.S.tPair.dflt)).length : Int)) then Option.some (Sum.inl (((), r1, r2, (), r9, r10, Go.IntKind.i64.wrap (r11 - (1 : Int)), ()), (b0.set (Int.toNat r11) (b0.getD (Go.IntKind.i64.wrap (r11 - (1 : Int))).toNat Go.DI.S.tPair.dflt)).set (Go.IntKind.i64.wrap (r11 - (1 : Int))).toNat (b0.getD (Int.toNat r11) Go.DI.S.tPair.dflt), ())) else Option.none else Option.none else Option.none else Option.none else Option.none else Option.none else Option.some (Sum.inr (Sum.inl (((), r1, r2, (), r9, r10, ()), b0, ())))
theorem g_316_14 (x : LD_316_14.El) : codeT (CTp 1) T_316 (drT (CTp 1) T_316) lpi_316_14 l_316_14 (LD_316_14.enc x) (bodyK (LD_316_14.lay []) EX_316_14) = G_316_14 x.1.2.1 x.1.2.2.1 x.1.2.2.2.2.1 x.1.2.2.2.2.2.1 x.1.2.2.2.2.2.2.1 x.2.1 := by kernel_rfl
noncomputable def R_316_14 : LD_316_14.El → Option (LA_316_14.El ⊕ LB_316_14.El) := roundsT (fun x => G_316_14 x.1.2.1 x.1.2.2.1 x.1.2.2.2.2.1 x.1.2.2.2.2.2.1 x.1.2.2.2.2.2.2.1 x.2.1) fuel
theorem r_316_14 : ∀ x y, R_316_14 x = some y → CL (CTp 1) l_316_14 (LD_316_14.enc x) (Sum.elim (fun _ => EX_316_14.xa) (fun _ => EX_316_14.xb) y) (Sum.elim EX_316_14.la.enc EX_316_14.lb.enc y) :=
  rounds_ok (L := LD_316_14.lay []) (E := EX_316_14) (CTp_ok 1) T_316_ok (drT_ok (CTp_ok 1) T_316_ok) lpi_316_14_ok g_316_14 rfl rfl (fun v h => by have hh : (.exit 4 : AX) = .pan v := h; cases hh) (fun v h => by have hh : (.ret : AX) = .pan v := h; cases hh) fuel
noncomputable abbrev LD_316_20 : LayD := ⟨141, [(0, .own tPair 0), (1, .data I), (2, .data I), (3, .clo 236 []), (9, .data I), (10, .data I), (12, .data I)], [.row 204 tPair], fun s => [0]⟩
noncomputable abbrev LA_316_20 : LayD := ⟨141, [(0, .own tPair 0), (1, .data I), (2, .data I), (3, .clo 236 []), (9, .data I), (10, .data I)], [.row 204 tPair], fun s => [0]⟩
noncomputable abbrev LB_316_20 : LayD := ⟨141, [], [], fun _ => []⟩
noncomputable def EX_316_20 : Exits 1 LA_316_20.El LB_316_20.El := ⟨.exit 6, LA_316_20.lay [], .ret, LB_316_20.lay []⟩

noncomputable def lpi_316_20 {β : Type} : LpT β := fun _ _ _ => none
theorem lpi_316_20_ok {β : Type} : LpTOk (CTp 1) (lpi_316_20 (β := β)) (loopsOf l_316_20) := by
  have h : loopsOf l_316_20 = [] := by kernel_rfl
  rw [h]
  exact LpTOk.nil
noncomputable def G_316_20 (r1 : Ty.El I) (r2 : Ty.El I) (r9 : Ty.El I) (r10 : Ty.El I) (r12 : Ty.El I) (b0 : List (Ty.El tPair)) : Option (LD_316_20.El ⊕ (LA_316_20.El ⊕ LB_316_20.El)) := bif Decidable.decide (r12 < r2) then bif Decidable.decide ((0 : Int) ≤ r12 ∧ r12 < (↑b0.length : Int)) then bif Decidable.decide ((0 : Int) ≤ Go.IntKind.i64.wrap (r12 - (1 : Int)) ∧ Go.IntKind.i64.wrap (r12 - (1 : Int)) < (↑b0.length : Int)) then (F_236 (b0.getD (Int.toNat r12) Go.DI.S.tPair.dflt) (b0.getD (Go.IntKind.i64.wrap (r12 - (1 : Int))).toNat Go.DI.S.tPair.dflt)).bind fun v2 => bif !Decidable.decide (v2.fst < (0 : Int)) then Option.some (Sum.inr (Sum.inl (((), r1, r2, (), r9, r10, ()), b0, ()))) else bif Decidable.decide ((0 : Int) ≤ Go.IntKind.i64.wrap (r12 - (1 : Int)) ∧ Go.IntKind.i64.wrap (r12 - (1 : Int)) < (↑b0.length : Int)) then bif Decidable.decide ((0 : Int) ≤ r12 ∧ r12 < (↑b0.length : Int)) then bif Decidable.decide ((0 : Int) ≤ r12 ∧ r12 < (↑b0.length : Int)) then bif Decidable.decide ((0 : Int) ≤ Go.IntKind.i64.wrap (r12 - (1 : Int)) ∧ Go.IntKind.i64.wrap (r12 - (1 : Int)) < (↑(b0.set (Int.toNat r12) (b0.getD (Go.IntKind.i64.wrap (r12 - (1 : Int))).toNat Go.DI.S.tPair.dflt)).length : Int)) then Option.some (Sum.inl (((), r1, r2, (), r9, r10, Go.IntKind.i64.wrap (r12 + (1 : Int)), ()), (b0.set (Int.toNat r12) (b0.getD (Go.IntKind.i64.wrap (r12 - (1 : Int))).toNat Go.DI.S.tPair.dflt)).set (Go.IntKind.i64.wrap (r12 - (1 : Int))).toNat (b0.getD (Int.toNat r12) Go.DI.S.tPair.dflt), ())) else Option.none else Option.none else Option.none else Option.none else Option.none else Option.none else Option.some (Sum.inr (Sum.inl (((), r1, r2, (), r9, r10, ()), b0, ())))
theorem g_316_20 (x : LD_316_20.El) : codeT (CTp 1) T_316 (drT (CTp 1) T_316) lpi_316_20 l_316_20 (LD_316_20.enc x) (bodyK (LD_316_20.lay []) EX_316_20) = G_316_20 x.1.2.1 x.1.2.2.1 x.1.2.2.2.2.1 x.1.2.2.2.2.2.1 x.1.2.2.2.2.2.2.1 x.2.1 := by kernel_rfl
noncomputable def R_316_20 : LD_316_20.El → Option (LA_316_20.El ⊕ LB_316_20.El) := roundsT (fun x => G_316_20 x.1.2.1 x.1.2.2.1 x.1.2.2.2.2.1 x.1.2.2.2.2.2.1 x.1.2.2.2.2.2.2.1 x.2.1) fuel
theorem r_316_20 : ∀ x y, R_316_20 x = some y → CL (CTp 1) l_316_20 (LD_316_20.enc x) (Sum.elim (fun _ => EX_316_20.xa) (fun _ => EX_316_20.xb) y) (Sum.elim EX_316_20.la.enc EX_316_20.lb.enc y) :=
  rounds_ok (L := LD_316_20.lay []) (E := EX_316_20) (CTp_ok 1) T_316_ok (drT_ok (CTp_ok 1) T_316_ok) lpi_316_20_ok g_316_20 rfl rfl (fun v h => by have hh : (.exit 6 : AX) = .pan v := h; cases hh) (fun v h => by have hh : (.ret : AX) = .pan v := h; cases hh) fuel
noncomputable abbrev LD_316_3 : LayD := ⟨141, [(0, .own tPair 0), (1, .data I), (2, .data I), (3, .clo 236 []), (9, .data I), (10, .data I)], [.row 204 tPair], fun s => [0]⟩
noncomputable abbrev LA_316_3 : LayD := ⟨141, [], [.row 204 tPair], fun s => [0]⟩
noncomputable abbrev LB_316_3 : LayD := ⟨141, [(8, .data .bool)], [.row 204 tPair], fun s => [0]⟩
noncomputable def EX_316_3 : Exits 1 LA_316_3.El LB_316_3.El := ⟨.exit 0, LA_316_3.lay [], .ret, LB_316_3.lay []⟩

noncomputable def lpi_316_3 {β : Type} : LpT β := fun k s K => if Nat.beq k 5 then lpOne (LD_316_5.lay []) EX_316_5 R_316_5 s K else if Nat.beq k 14 then lpOne (LD_316_14.lay []) EX_316_14 R_316_14 s K else if Nat.beq k 20 then lpOne (LD_316_20.lay []) EX_316_20 R_316_20 s K else none
theorem lpi_316_3_ok {β : Type} : LpTOk (CTp 1) (lpi_316_3 (β := β)) (loopsOf l_316_3) := by
  have h : loopsOf l_316_3 = [(5, l_316_5), (14, l_316_14), (20, l_316_20)] := by kernel_rfl
  rw [h]
  exact LpTOk.cons (fun s K z h => lpOne_ok r_316_5 h) (LpTOk.cons (fun s K z h => lpOne_ok r_316_14 h) (LpTOk.cons (fun s K z h => lpOne_ok r_316_20 h) (LpTOk.nil)))
noncomputable def G_316_3 (r1 : Ty.El I) (r2 : Ty.El I) (r9 : Ty.El I) (r10 : Ty.El I) (b0 : List (Ty.El tPair)) : Option (LD_316_3.El ⊕ (LA_316_3.El ⊕ LB_316_3.El)) := bif Decidable.decide (r10 < (5 : Int)) then (R_316_5 (((), r1, r2, (), r9, r10, ()), b0, ())).bind fun v1 => Sum.elim (fun v2 => bif v2.fst.snd.snd.snd.snd.fst == v2.fst.snd.snd.fst then Option.some (Sum.inr (Sum.inr ((Bool.true, ()), v2.snd.fst, ()))) else bif Decidable.decide (Go.IntKind.i64.wrap (v2.fst.snd.snd.fst - v2.fst.snd.fst) < (50 : Int)) then Option.some (Sum.inr (Sum.inr ((Bool.false, ()), v2.snd.fst, ()))) else bif Decidable.decide ((0 : Int) ≤ Go.IntKind.i64.wrap (v2.fst.snd.snd.snd.snd.fst - (1 : Int)) ∧ Go.IntKind.i64.wrap (v2.fst.snd.snd.snd.snd.fst - (1 : Int)) < (↑(List.length v2.snd.fst) : Int)) then bif Decidable.decide ((0 : Int) ≤ v2.fst.snd.snd.snd.snd.fst ∧ v2.fst.snd.snd.snd.snd.fst < (↑(List.length v2.snd.fst) : Int)) then bif Decidable.decide ((0 : Int) ≤ v2.fst.snd.snd.snd.snd.fst ∧ v2.fst.snd.snd.snd.snd.fst < (↑(List.length v2.snd.fst) : Int)) then bif Decidable.decide ((0 : Int) ≤ Go.IntKind.i64.wrap (v2.fst.snd.snd.snd.snd.fst - (1 : Int)) ∧ Go.IntKind.i64.wrap (v2.fst.snd.snd.snd.snd.fst - (1 : Int)) < (↑(List.set v2.snd.fst (Int.toNat v2.fst.snd.snd.snd.snd.fst) (List.getD v2.snd.fst (Go.IntKind.i64.wrap (v2.fst.snd.snd.snd.snd.fst - (1 : Int))).toNat Go.DI.S.tPair.dflt)).length : Int)) then bif Decidable.decide (Go.IntKind.i64.wrap (v2.fst.snd.snd.snd.snd.fst - v2.fst.snd.fst) ≥ (2 : Int)) then (R_316_14 (((), v2.fst.snd.fst, v2.fst.snd.snd.fst, (), v2.fst.snd.snd.snd.snd.fst, v2.fst.snd.snd.snd.snd.snd.fst, Go.IntKind.i64.wrap (v2.fst.snd.snd.snd.snd.fst - (1 : Int)), ()), (List.set v2.snd.fst (Int.toNat v2.fst.snd.snd.snd.snd.fst) (List.getD v2.snd.fst (Go.IntKind.i64.wrap (v2.fst.snd.snd.snd.snd.fst - (1 : Int))).toNat Go.DI.S.tPair.dflt)).set (Go.IntKind.i64.wrap (v2.fst.snd.snd.snd.snd.fst - (1 : Int))).toNat (List.getD v2.snd.fst (Int.toNat v2.fst.snd.snd.snd.snd.fst) Go.DI.S.tPair.dflt), ())).bind fun v3 => Sum.elim (fun v4 => bif Decidable.decide (Go.IntKind.i64.wrap (v4.fst.snd.snd.fst - v4.fst.snd.snd.snd.snd.fst) ≥ (2 : Int)) then (R_316_20 (((), v4.fst.snd.fst, v4.fst.snd.snd.fst, (), v4.fst.snd.snd.snd.snd.fst, v4.fst.snd.snd.snd.snd.snd.fst, Go.IntKind.i64.wrap (v4.fst.snd.snd.snd.snd.fst + (1 : Int)), ()), v4.snd.fst, ())).bind fun v5 => Sum.elim (fun v6 => Option.some (Sum.inl (((), v6.fst.snd.fst, v6.fst.snd.snd.fst, (), v6.fst.snd.snd.snd.snd.fst, Go.IntKind.i64.wrap (v6.fst.snd.snd.snd.snd.snd.fst + (1 : Int)), ()), v6.snd.fst, ()))) (fun v7 => Option.none) v5 else Option.some (Sum.inl (((), v4.fst.snd.fst, v4.fst.snd.snd.fst, (), v4.fst.snd.snd.snd.snd.fst, Go.IntKind.i64.wrap (v4.fst.snd.snd.snd.snd.snd.fst + (1 : Int)), ()), v4.snd.fst, ()))) (fun v8 => Option.none) v3 else bif Decidable.decide (Go.IntKind.i64.wrap (v2.fst.snd.snd.fst - v2.fst.snd.snd.snd.snd.fst) ≥ (2 : Int)) then (R_316_20 (((), v2.fst.snd.fst, v2.fst.snd.snd.fst, (), v2.fst.snd.snd.snd.snd.fst, v2.fst.snd.snd.snd.snd.snd.fst, Go.IntKind.i64.wrap (v2.fst.snd.snd.snd.snd.fst + (1 : Int)), ()), (List.set v2.snd.fst (Int.toNat v2.fst.snd.snd.snd.snd.fst) (List.getD v2.snd.fst (Go.IntKind.i64.wrap (v2.fst.snd.snd.snd.snd.fst - (1 : Int))).toNat Go.DI.S.tPair.dflt)).set (Go.IntKind.i64.wrap (v2.fst.snd.snd.snd.snd.fst - (1 : Int))).toNat (List.getD v2.snd.fst (Int.toNat v2.fst.snd.snd.snd.snd.fst) Go.DI.S.tPair.dflt), ())).bind fun v9 => Sum.elim (fun v10 => Option.some (Sum.inl (((), v10.fst.snd.fst, v10.fst.snd.snd.fst, (), v10.fst.snd.snd.snd.snd.fst, Go.IntKind.i64.wrap (v10.fst.snd.snd.snd.snd.snd.fst + (1 : Int)), ()), v10.snd.fst, ()))) (fun v11 => Option.none) v9 else Option.some (Sum.inl (((), v2.fst.snd.fst, v2.fst.snd.snd.fst, (), v2.fst.snd.snd.snd.snd.fst, Go.IntKind.i64.wrap (v2.fst.snd.snd.snd.snd.snd.fst + (1 : Int)), ()), (List.set v2.snd.fst (Int.toNat v2.fst.snd.snd.snd.snd.fst) (List.getD v2.snd.fst (Go.IntKind.i64.wrap (v2.fst.snd.snd.snd.snd.fst - (1 : Int))).toNat Go.DI.S.tPair.dflt)).set (Go.IntKind.i64.wrap (v2.fst.snd.snd.snd.snd.fst - (1 : Int))).toNat (List.getD v2.snd.fst (Int.toNat v2.fst.snd.snd.snd.snd.fst) Go.DI.S.tPair.dflt), ())) else Option.none else Option.none else Option.none else Option.none) (fun v12 => Option.none) v1 else Option.some (Sum.inr (Sum.inl ((), b0, ())))
theorem g_316_3 (x : LD_316_3.El) : codeT (CTp 1) T_316 (drT (CTp 1) T_316) lpi_316_3 l_316_3 (LD_316_3.enc x) (bodyK (LD_316_3.lay []) EX_316_3) = G_316_3 x.1.2.1 x.1.2.2.1 x.1.2.2.2.2.1 x.1.2.2.2.2.2.1 x.2.1 := by kernel_rfl
noncomputable def R_316_3 : LD_316_3.El → Option (LA_316_3.El ⊕ LB_316_3.El) := roundsT (fun x => G_316_3 x.1.2.1 x.1.2.2.1 x.1.2.2.2.2.1 x.1.2.2.2.2.2.1 x.2.1) fuel
theorem r_316_3 : ∀ x y, R_316_3 x = some y → CL (CTp 1) l_316_3 (LD_316_3.enc x) (Sum.elim (fun _ => EX_316_3.xa) (fun _ => EX_316_3.xb) y) (Sum.elim EX_316_3.la.enc EX_316_3.lb.enc y) :=
  rounds_ok (L := LD_316_3.lay []) (E := EX_316_3) (CTp_ok 1) T_316_ok (drT_ok (CTp_ok 1) T_316_ok) lpi_316_3_ok g_316_3 rfl rfl (fun v h => by have hh : (.exit 0 : AX) = .pan v := h; cases hh) (fun v h => by have hh : (.ret : AX) = .pan v := h; cases hh) fuel
noncomputable def lp_316 {β : Type} : LpT β := fun k s K => if Nat.beq k 3 then lpOne (LD_316_3.lay []) EX_316_3 R_316_3 s K else none
theorem lp_316_ok {β : Type} : LpTOk (CTp 1) (lp_316 (β := β)) (loopsOf c_316) := by
  have h : loopsOf c_316 = [(3, l_316_3)] := by kernel_rfl
  rw [h]
  exact LpTOk.cons (fun s K z h => lpOne_ok r_316_3 h) (LpTOk.nil)
noncomputable def F_316 (a1 : Ty.El I) (a2 : Ty.El I) (b0 : List (Ty.El tPair)) : Option OUT_316.El := (R_316_3 (((), a1, a2, (), Go.IntKind.i64.wrap (a1 + (1 : Int)), (0 : Int), ()), b0, ())).bind fun v1 => Sum.elim (fun v2 => Option.some ((Bool.false, ()), v2.snd.fst, ())) (fun v3 => Option.some ((v3.fst.fst, ()), v3.snd.fst, ())) v1
theorem f_316 (x : IN_316.El) : funcX (CTp 1) T_316 IN_316 OUT_316 [] (drT (CTp 1) T_316) lp_316 Tryz.f316 c_316 x = F_316 x.1.2.1 x.1.2.2.1 x.2.1 := by kernel_rfl
noncomputable def E_316 : Ent := .mkGen 316 [236] ⟨1, [.nilReg 0 204 tPair, .rowReg 0 204 tPair], IN_316, OUT_316, fun x => F_316 x.1.2.1 x.1.2.2.1 x.2.1⟩
theorem e_316 : E_316.Ok CT.P := Ent.ofGen (C := (CTp 1)) (steps := [.nilReg 0 204 tPair, .rowReg 0 204 tPair]) (osteps := []) (CTp_ok 1) T_316_ok hf_316 hb_316 lp_316_ok f_316
/-! ### 317: slices.partitionEqualCmpFuncmaquette/api.Pair -/
noncomputable def c_317 : Code := Tryz.f317.body.getD .skip
theorem hb_317 : Tryz.f317.body = some c_317 := by kernel_rfl
theorem hf_317 : CT.P.funcs[317]? = some Tryz.f317 := by kernel_rfl
noncomputable abbrev IN_317 : LayD := ⟨5, [(0, .own tPair 0), (1, .data I), (2, .data I), (3, .data I), (4, .clo 236 [])], [.row 204 tPair], fun s => [slotR s 0]⟩
noncomputable abbrev OUT_317 : LayD := ⟨1, [(0, .data I)], [.row 204 tPair], fun _ => [0]⟩
noncomputable def T_317 : Tb := mkTb tyT mpT [E_236]
theorem T_317_ok : T_317.Ok CT.P := mkTb_ok (⟨e_236, trivial⟩)
noncomputable def l_317_1003 : Code := atLoop c_317 3
noncomputable def l_317_5 : Code := atLoop l_317_1003 5
noncomputable def l_317_3 : Code := atLoop l_317_1003 3
noncomputable abbrev LD_317_3 : LayD := ⟨90, [(0, .own tPair 0), (1, .data I), (4, .clo 236 []), (11, .data I), (12, .data I)], [.row 204 tPair], fun s => [0]⟩
noncomputable abbrev LA_317_3 : LayD := ⟨90, [(0, .own tPair 0), (1, .data I), (4, .clo 236 []), (11, .data I), (12, .data I)], [.row 204 tPair], fun s => [0]⟩
noncomputable abbrev LB_317_3 : LayD := ⟨90, [], [], fun _ => []⟩
noncomputable def EX_317_3 : Exits 1 LA_317_3.El LB_317_3.El := ⟨.exit 2, LA_317_3.lay [], .ret, LB_317_3.lay []⟩

noncomputable def lpi_317_3 {β : Type} : LpT β := fun _ _ _ => none
theorem lpi_317_3_ok {β : Type} : LpTOk (CTp 1) (lpi_317_3 (β := β)) (loopsOf l_317_3) := by
  have h : loopsOf l_317_3 = [] := by kernel_rfl
  rw [h]
  exact LpTOk.nil
noncomputable def G_317_3 (r1 : Ty.El I) (r11 : Ty.El I) (r12 : Ty.El I) (b0 : List (Ty.El tPair)) : Option (LD_317_3.El ⊕ (LA_317_3.El ⊕ LB_317_3.El)) := bif Decidable.decide (r11 ≤ r12) then bif Decidable.decide ((0 : Int) ≤ r1 ∧ r1 < (↑b0.length : Int)) then bif Decidable.decide ((0 : Int) ≤ r11 ∧ r11 < (↑b0.length : Int)) then (F_236 (b0.getD (Int.toNat r1) Go.DI.S.tPair.dflt) (b0.getD (Int.toNat r11) Go.DI.S.tPair.dflt)).bind fun v2 => bif !Decidable.decide (v2.fst < (0 : Int)) then Option.some (Sum.inl (((), r1, (), Go.IntKind.i64.wrap (r11 + (1 : Int)), r12, ()), b0, ())) else Option.some (Sum.inr (Sum.inl (((), r1, (), r11, r12, ()), b0, ()))) else Option.none else Option.none else Option.some (Sum.inr (Sum.inl (((), r1, (), r11, r12, ()), b0, ())))
theorem g_317_3 (x : LD_317_3.El) : codeT (CTp 1) T_317 (drT (CTp 1) T_317) lpi_317_3 l_317_3 (LD_317_3.enc x) (bodyK (LD_317_3.lay []) EX_317_3) = G_317_3 x.1.2.1 x.1.2.2.2.1 x.1.2.2.2.2.1 x.2.1 := by kernel_rfl
noncomputable def R_317_3 : LD_317_3.El → Option (LA_317_3.El ⊕ LB_317_3.El) := roundsT (fun x => G_317_3 x.1.2.1 x.1.2.2.2.1 x.1.2.2.2.2.1 x.2.1) fuel
theorem r_317_3 : ∀ x y, R_317_3 x = some y → CL (CTp 1) l_317_3 (LD_317_3.enc x) (Sum.elim (fun _ => EX_317_3.xa) (fun _ => EX_317_3.xb) y) (Sum.elim EX_317_3.la.enc EX_317_3.lb.enc y) :=
  rounds_ok (L := LD_317_3.lay []) (E := EX_317_3) (CTp_ok 1) T_317_ok (drT_ok (CTp_ok 1) T_317_ok) lpi_317_3_ok g_317_3 rfl rfl (fun v h => by have hh : (.exit 2 : AX) = .pan v := h; cases hh) (fun v h => by have hh : (.ret : AX) = .pan v := h; cases hh) fuel
noncomputable abbrev LD_317_5 : LayD := ⟨90, [(0, .own tPair 0), (1, .data I), (4, .clo 236 []), (11, .data I), (12, .data I)], [.row 204 tPair], fun s => [0]⟩
noncomputable abbrev LA_317_5 : LayD := ⟨90, [(0, .own tPair 0), (1, .data I), (4, .clo 236 []), (11, .data I), (12, .data I)], [.row 204 tPair], fun s => [0]⟩
noncomputable abbrev LB_317_5 : LayD := ⟨90, [], [], fun _ => []⟩
noncomputable def EX_317_5 : Exits 1 LA_317_5.El LB_317_5.El := ⟨.exit 4, LA_317_5.lay [], .ret, LB_317_5.lay []⟩

noncomputable def lpi_317_5 {β : Type} : LpT β := fun _ _ _ => none
theorem lpi_317_5_ok {β : Type} : LpTOk (CTp 1) (lpi_317_5 (β := β)) (loopsOf l_317_5) := by
  have h : loopsOf l_317_5 = [] := by kernel_rfl
  rw [h]
  exact LpTOk.nil
noncomputable def G_317_5 (r1 : Ty.El I) (r11 : Ty.El I) (r12 : Ty.El I) (b0 : List (Ty.El tPair)) : Option (LD_317_5.El ⊕ (LA_317_5.El ⊕ LB_317_5.El)) := bif Decidable.decide (r11 ≤ r12) then bif Decidable.decide ((0 : Int) ≤ r1 ∧ r1 < (↑b0.length : Int)) then bif Decidable.decide ((0 : Int) ≤ r12 ∧ r12 < (↑b0.length : Int)) then (F_236 (b0.getD (Int.toNat r1) Go.DI.S.tPair.dflt) (b0.getD (Int.toNat r12) Go.DI.S.tPair.dflt)).bind fun v2 => bif Decidable.decide (v2.fst < (0 : Int)) then Option.some (Sum.inl (((), r1, (), r11, Go.IntKind.i64.wrap (r12 - (1 : Int)), ()), b0, ())) else Option.some (Sum.inr (Sum.inl (((), r1, (), r11, r12, ()), b0, ()))) else Option.none else Option.none else Option.some (Sum.inr (Sum.inl (((), r1, (), r11, r12, ()), b0, ())))
theorem g_317_5 (x : LD_317_5.El) : codeT (CTp 1) T_317 (drT (CTp 1) T_317) lpi_317_5 l_317_5 (LD_317_5.enc x) (bodyK (LD_317_5.lay []) EX_317_5) = G_317_5 x.1.2.1 x.1.2.2.2.1 x.1.2.2.2.2.1 x.2.1 := by kernel_rfl
noncomputable def R_317_5 : LD_317_5.El → Option (LA_317_5.El ⊕ LB_317_5.El) := roundsT (fun x => G_317_5 x.1.2.1 x.1.2.2.2.1 x.1.2.2.2.2.1 x.2.1) fuel
theorem r_317_5 : ∀ x y, R_317_5 x = some y → CL (CTp 1) l_317_5 (LD_317_5.enc x) (Sum.elim (fun _ => EX_317_5.xa) (fun _ => EX_317_5.xb) y) (Sum.elim EX_317_5.la.enc EX_317_5.lb.enc y) :=
  rounds_ok (L := LD_317_5.lay []) (E := EX_317_5) (CTp_ok 1) T_317_ok (drT_ok (CTp_ok 1) T_317_ok) lpi_317_5_ok g_317_5 rfl rfl (fun v h => by have hh : (.exit 4 : AX) = .pan v := h; cases hh) (fun v h => by have hh : (.ret : AX) = .pan v := h; cases hh) fuel
noncomputable abbrev LD_317_1003 : LayD := ⟨90, [(0, .own tPair 0), (1, .data I), (4, .clo 236 []), (11, .data I), (12, .data I)], [.row 204 tPair], fun s => [0]⟩
noncomputable abbrev LA_317_1003 : LayD := ⟨90, [(11, .data I)], [.row 204 tPair], fun s => [0]⟩
noncomputable abbrev LB_317_1003 : LayD := ⟨90, [], [], fun _ => []⟩
noncomputable def EX_317_1003 : Exits 1 LA_317_1003.El LB_317_1003.El := ⟨.exit 0, LA_317_1003.lay [], .ret, LB_317_1003.lay []⟩

noncomputable def lpi_317_1003 {β : Type} : LpT β := fun k s K => if Nat.beq k 3 then lpOne (LD_317_3.lay []) EX_317_3 R_317_3 s K else if Nat.beq k 5 then lpOne (LD_317_5.lay []) EX_317_5 R_317_5 s K else none
theorem lpi_317_1003_ok {β : Type} : LpTOk (CTp 1) (lpi_317_1003 (β := β)) (loopsOf l_317_1003) := by
  have h : loopsOf l_317_1003 = [(3, l_317_3), (5, l_317_5)] := by kernel_rfl
  rw [h]
  exact LpTOk.cons (fun s K z h => lpOne_ok r_317_3 h) (LpTOk.cons (fun s K z h => lpOne_ok r_317_5 h) (LpTOk.nil))
noncomputable def G_317_1003 (r1 : Ty.El I) (r11 : Ty.El I) (r12 : Ty.El I) (b0 : List (Ty.El tPair)) : Option (LD_317_1003.El ⊕ (LA_317_1003.El ⊕ LB_317_1003.El)) := (R_317_3 (((), r1, (), r11, r12, ()), b0, ())).bind fun v1 => Sum.elim (fun v2 => (R_317_5 (((), v2.fst.snd.fst, (), v2.fst.snd.snd.snd.fst, v2.fst.snd.snd.snd.snd.fst, ()), v2.snd.fst, ())).bind fun v3 => Sum.elim (fun v4 => bif Decidable.decide (v4.fst.snd.snd.snd.fst > v4.fst.snd.snd.snd.snd.fst) then Option.some (Sum.inr (Sum.inl ((v4.fst.snd.snd.snd.fst, ()), v4.snd.fst, ()))) else bif Decidable.decide ((0 : Int) ≤ v4.fst.snd.snd.snd.snd.fst ∧ v4.fst.snd.snd.snd.snd.fst < (↑(List.length v4.snd.fst) : Int)) then bif Decidable.decide ((0 : Int) ≤ v4.fst.snd.snd.snd.fst ∧ v4.fst.snd.snd.snd.fst < (↑(List.length v4.snd.fst) : Int)) then bif Decidable.decide ((0 : Int) ≤ v4.fst.snd.snd.snd.fst ∧ v4.fst.snd.snd.snd.fst < (↑(List.length v4.snd.fst) : Int)) then bif Decidable.decide ((0 : Int) ≤ v4.fst.snd.snd.snd.snd.fst ∧ v4.fst.snd.snd.snd.snd.fst < (↑(List.set v4.snd.fst (Int.toNat v4.fst.snd.snd.snd.fst) (List.getD v4.snd.fst (Int.toNat v4.fst.snd.snd.snd.snd.fst) Go.DI.S.tPair.dflt)).length : Int)) then Option.some (Sum.inl (((), v4.fst.snd.fst, (), Go.IntKind.i64.wrap (v4.fst.snd.snd.snd.fst + (1 : Int)), Go.IntKind.i64.wrap (v4.fst.snd.snd.snd.snd.fst - (1 : Int)), ()), (List.set v4.snd.fst (Int.toNat v4.fst.snd.snd.snd.fst) (List.getD v4.snd.fst (Int.toNat v4.fst.snd.snd.snd.snd.fst) Go.DI.S.tPair.dflt)).set (Int.toNat v4.fst.snd.snd.snd.snd.fst) (List.getD v4.snd.fst (Int.toNat v4.fst.snd.snd.snd.fst) Go.DI.S.tPair.dflt), ())) else Option.none else Option.none else Option.none else Option.none) (fun v5 => Option.none) v3) (fun v6 => Option.none) v1
theorem g_317_1003 (x : LD_317_1003.El) : codeT (CTp 1) T_317 (drT (CTp 1) T_317) lpi_317_1003 l_317_1003 (LD_317_1003.enc x) (bodyK (LD_317_1003.lay []) EX_317_1003) = G_317_1003 x.1.2.1 x.1.2.2.2.1 x.1.2.2.2.2.1 x.2.1 := by kernel_rfl
noncomputable def R_317_1003 : LD_317_1003.El → Option (LA_317_1003.El ⊕ LB_317_1003.El) := roundsT (fun x => G_317_1003 x.1.2.1 x.1.2.2.2.1 x.1.2.2.2.2.1 x.2.1) fuel
theorem r_317_1003 : ∀ x y, R_317_1003 x = some y → CL (CTp 1) l_317_1003 (LD_317_1003.enc x) (Sum.elim (fun _ => EX_317_1003.xa) (fun _ => EX_317_1003.xb) y) (Sum.elim EX_317_1003.la.enc EX_317_1003.lb.enc y) :=
  rounds_ok (L := LD_317_1003.lay []) (E := EX_317_1003) (CTp_ok 1) T_317_ok (drT_ok (CTp_ok 1) T_317_ok) lpi_317_1003_ok g_317_1003 rfl rfl (fun v h => by have hh : (.exit 0 : AX) = .pan v := h; cases hh) (fun v h => by have hh : (.ret : AX) = .pan v := h; cases hh) fuel
noncomputable def lp_317 {β : Type} : LpT β := fun k s K => if Nat.beq k 3 then lpOne (LD_317_1003.lay []) EX_317_1003 R_317_1003 s K else none
theorem lp_317_ok {β : Type} : LpTOk (CTp 1) (lp_317 (β := β)) (loopsOf c_317) := by
  have h : loopsOf c_317 = [(3, l_317_1003)] := by kernel_rfl
  rw [h]
  exact LpTOk.cons (fun s K z h => lpOne_ok r_317_1003 h) (LpTOk.nil)
noncomputable def F_317 (a1 : Ty.El I) (a2 : Ty.El I) (a3 : Ty.El I) (b0 : List (Ty.El tPair)) : Option OUT_317.El := bif Decidable.decide ((0 : Int) ≤ a3 ∧ a3 < (↑b0.length : Int)) then bif Decidable.decide ((0 : Int) ≤ a1 ∧ a1 < (↑b0.length : Int)) then bif Decidable.decide ((0 : Int) ≤ a1 ∧ a1 < (↑b0.length : Int)) then bif Decidable.decide ((0 : Int) ≤ a3 ∧ a3 < (↑(b0.set (Int.toNat a1) (b0.getD (Int.toNat a3) Go.DI.S.tPair.dflt)).length : Int)) then (R_317_1003 (((), a1, (), Go.IntKind.i64.wrap (a1 + (1 : Int)), Go.IntKind.i64.wrap (a2 - (1 : Int)), ()), (b0.set (Int.toNat a1) (b0.getD (Int.toNat a3) Go.DI.S.tPair.dflt)).set (Int.toNat a3) (b0.getD (Int.toNat a1) Go.DI.S.tPair.dflt), ())).bind fun v1 => Sum.elim (fun v2 => Option.some ((v2.fst.fst, ()), v2.snd.fst, ())) (fun v3 => Option.none) v1 else Option.none else Option.none else Option.none else Option.none
theorem f_317 (x : IN_317.El) : funcX (CTp 1) T_317 IN_317 OUT_317 [] (drT (CTp 1) T_317) lp_317 Tryz.f317 c_317 x = F_317 x.1.2.1 x.1.2.2.1 x.1.2.2.2.1 x.2.1 := by kernel_rfl
noncomputable def E_317 : Ent := .mkGen 317 [236] ⟨1, [.nilReg 0 204 tPair, .rowReg 0 204 tPair], IN_317, OUT_317, fun x => F_317 x.1.2.1 x.1.2.2.1 x.1.2.2.2.1 x.2.1⟩
theorem e_317 : E_317.Ok CT.P := Ent.ofGen (C := (CTp 1)) (steps := [.nilReg 0 204 tPair, .rowReg 0 204 tPair]) (osteps := []) (CTp_ok 1) T_317_ok hf_317 hb_317 lp_317_ok f_317
/-! ### 318: slices.partitionCmpFuncmaquette/api.Pair -/
noncomputable def c_318 : Code := Tryz.f318.body.getD .skip
theorem hb_318 : Tryz.f318.body = some c_318 := by kernel_rfl
theorem hf_318 : CT.P.funcs[318]? = some Tryz.f318 := by kernel_rfl
noncomputable abbrev IN_318 : LayD := ⟨5, [(0, .own tPair 0), (1, .data I), (2, .data I), (3, .data I), (4, .clo 236 [])], [.row 204 tPair], fun s => [slotR s 0]⟩
noncomputable abbrev OUT_318 : LayD := ⟨2, [(0, .data I), (1, .data .bool)], [.row 204 tPair], fun _ => [0]⟩
noncomputable def T_318 : Tb := mkTb tyT mpT [E_236]
theorem T_318_ok : T_318.Ok CT.P := mkTb_ok (⟨e_236, trivial⟩)
noncomputable def l_318_1013 : Code := atLoop c_318 13
noncomputable def l_318_5 : Code := atLoop c_318 5
noncomputable def l_318_3 : Code := atLoop c_318 3
noncomputable def l_318_15 : Code := atLoop l_318_1013 15
noncomputable def l_318_13 : Code := atLoop l_318_1013 13
noncomputable abbrev LD_318_13 : LayD := ⟨178, [(0, .own tPair 0), (1, .data I), (4, .clo 236 []), (12, .data I), (13, .data I)], [.row 204 tPair], fun s => [0]⟩
noncomputable abbrev LA_318_13 : LayD := ⟨178, [(0, .own tPair 0), (1, .data I), (4, .clo 236 []), (12, .data I), (13, .data I)], [.row 204 tPair], fun s => [0]⟩
noncomputable abbrev LB_318_13 : LayD := ⟨178, [], [], fun _ => []⟩
noncomputable def EX_318_13 : Exits 1 LA_318_13.El LB_318_13.El := ⟨.exit 6, LA_318_13.lay [], .ret, LB_318_13.lay []⟩

noncomputable def lpi_318_13 {β : Type} : LpT β := fun _ _ _ => none
theorem lpi_318_13_ok {β : Type} : LpTOk (CTp 1) (lpi_318_13 (β := β)) (loopsOf l_318_13) := by
  have h : loopsOf l_318_13 = [] := by kernel_rfl
  rw [h]
  exact LpTOk.nil
noncomputable def G_318_13 (r1 : Ty.El I) (r12 : Ty.El I) (r13 : Ty.El I) (b0 : List (Ty.El tPair)) : Option (LD_318_13.El ⊕ (LA_318_13.El ⊕ LB_318_13.El)) := bif Decidable.decide (r12 ≤ r13) then bif Decidable.decide ((0 : Int) ≤ r12 ∧ r12 < (↑b0.length : Int)) then bif Decidable.decide ((0 : Int) ≤ r1 ∧ r1 < (↑b0.length : Int)) then (F_236 (b0.getD (Int.toNat r12) Go.DI.S.tPair.dflt) (b0.getD (Int.toNat r1) Go.DI.S.tPair.dflt)).bind fun v2 => bif Decidable.decide (v2.fst < (0 : Int)) then Option.some (Sum.inl (((), r1, (), Go.IntKind.i64.wrap (r12 + (1 : Int)), r13, ()), b0, ())) else Option.some (Sum.inr (Sum.inl (((), r1, (), r12, r13, ()), b0, ()))) else Option.none else Option.none else Option.some (Sum.inr (Sum.inl (((), r1, (), r12, r13, ()), b0, ())))
theorem g_318_13 (x : LD_318_13.El) : codeT (CTp 1) T_318 (drT (CTp 1) T_318) lpi_318_13 l_318_13 (LD_318_13.enc x) (bodyK (LD_318_13.lay []) EX_318_13) = G_318_13 x.1.2.1 x.1.2.2.2.1 x.1.2.2.2.2.1 x.2.1 := by kernel_rfl
noncomputable def R_318_13 : LD_318_13.El → Option (LA_318_13.El ⊕ LB_318_13.El) := roundsT (fun x => G_318_13 x.1.2.1 x.1.2.2.2.1 x.1.2.2.2.2.1 x.2.1) fuel
theorem r_318_13 : ∀ x y, R_318_13 x = some y → CL (CTp 1) l_318_13 (LD_318_13.enc x) (Sum.elim (fun _ => EX_318_13.xa) (fun _ => EX_318_13.xb) y) (Sum.elim EX_318_13.la.enc EX_318_13.lb.enc y) :=
  rounds_ok (L := LD_318_13.lay []) (E := EX_318_13) (CTp_ok 1) T_318_ok (drT_ok (CTp_ok 1) T_318_ok) lpi_318_13_ok g_318_13 rfl rfl (fun v h => by have hh : (.exit 6 : AX) = .pan v := h; cases hh) (fun v h => by have hh : (.ret : AX) = .pan v := h; cases hh) fuel
noncomputable abbrev LD_318_15 : LayD := ⟨178, [(0, .own tPair 0), (1, .data I), (4, .clo 236 []), (12, .data I), (13, .data I)], [.row 204 tPair], fun s => [0]⟩
noncomputable abbrev LA_318_15 : LayD := ⟨178, [(0, .own tPair 0), (1, .data I), (4, .clo 236 []), (12, .data I), (13, .data I)], [.row 204 tPair], fun s => [0]⟩
noncomputable abbrev LB_318_15 : LayD := ⟨178, [], [], fun _ => []⟩
noncomputable def EX_318_15 : Exits 1 LA_318_15.El LB_318_15.El := ⟨.exit 8, LA_318_15.lay [], .ret, LB_318_15.lay []⟩

noncomputable def lpi_318_15 {β : Type} : LpT β := fun _ _ _ => none
theorem lpi_318_15_ok {β : Type} : LpTOk (CTp 1) (lpi_318_15 (β := β)) (loopsOf l_318_15) := by
  have h : loopsOf l_318_15 = [] := by kernel_rfl
  rw [h]
  exact LpTOk.nil
noncomputable def G_318_15 (r1 : Ty.El I) (r12 : Ty.El I) (r13 : Ty.El I) (b0 : List (Ty.El tPair)) : Option (LD_318_15.El ⊕ (LA_318_15.El ⊕ LB_318_15.El)) := bif Decidable.decide (r12 ≤ r13) then bif Decidable.decide ((0 : Int) ≤ r13 ∧ r13 < (↑b0.length : Int)) then bif Decidable.decide ((0 : Int) ≤ r1 ∧ r1 < (↑b0.length : Int)) then (F_236 (b0.getD (Int.toNat r13) Go.DI.S.tPair.dflt) (b0.getD (Int.toNat r1) Go.DI.S.tPair.dflt)).bind fun v2 => bif !Decidable.decide (v2.fst < (0 : Int)) then Option.some (Sum.inl (((), r1, (), r12, Go.IntKind.i64.wrap (r13 - (1 : Int)), ()), b0, ())) else Option.some (Sum.inr (Sum.inl (((), r1, (), r12, r13, ()), b0, ()))) else Option.none else Option.none else Option.some (Sum.inr (Sum.inl (((), r1, (), r12, r13, ()), b0, ())))
theorem g_318_15 (x : LD_318_15.El) : codeT (CTp 1) T_318 (drT (CTp 1) T_318) lpi_318_15 l_318_15 (LD_318_15.enc x) (bodyK (LD_318_15.lay []) EX_318_15) = G_318_15 x.1.2.1 x.1.2.2.2.1 x.1.2.2.2.2.1 x.2.1 := by kernel_rfl
noncomputable def R_318_15 : LD_318_15.El → Option (LA_318_15.El ⊕ LB_318_15.El) := roundsT (fun x => G_318_15 x.1.2.1 x.1.2.2.2.1 x.1.2.2.2.2.1 x.2.1) fuel
theorem r_318_15 : ∀ x y, R_318_15 x = some y → CL (CTp 1) l_318_15 (LD_318_15.enc x) (Sum.elim (fun _ => EX_318_15.xa) (fun _ => EX_318_15.xb) y) (Sum.elim EX_318_15.la.enc EX_318_15.lb.enc y) :=
  rounds_ok (L := LD_318_15.lay []) (E := EX_318_15) (CTp_ok 1) T_318_ok (drT_ok (CTp_ok 1) T_318_ok) lpi_318_15_ok g_318_15 rfl rfl (fun v h => by have hh : (.exit 8 : AX) = .pan v := h; cases hh) (fun v h => by have hh : (.ret : AX) = .pan v := h; cases hh) fuel
noncomputable abbrev LD_318_3 : LayD := ⟨178, [(0, .own tPair 0), (1, .data I), (4, .clo 236 []), (12, .data I), (13, .data I)], [.row 204 tPair], fun s => [0]⟩
noncomputable abbrev LA_318_3 : LayD := ⟨178, [(0, .own tPair 0), (1, .data I), (4, .clo 236 []), (12, .data I), (13, .data I)], [.row 204 tPair], fun s => [0]⟩
noncomputable abbrev LB_318_3 : LayD := ⟨178, [], [], fun _ => []⟩
noncomputable def EX_318_3 : Exits 1 LA_318_3.El LB_318_3.El := ⟨.exit 0, LA_318_3.lay [], .ret, LB_318_3.lay []⟩

noncomputable def lpi_318_3 {β : Type} : LpT β := fun _ _ _ => none
theorem lpi_318_3_ok {β : Type} : LpTOk (CTp 1) (lpi_318_3 (β := β)) (loopsOf l_318_3) := by
  have h : loopsOf l_318_3 = [] := by kernel_rfl
  rw [h]
  exact LpTOk.nil
noncomputable def G_318_3 (r1 : Ty.El I) (r12 : Ty.El I) (r13 : Ty.El I) (b0 : List (Ty.El tPair)) : Option (LD_318_3.El ⊕ (LA_318_3.El ⊕ LB_318_3.El)) := bif Decidable.decide (r12 ≤ r13) then bif Decidable.decide ((0 : Int) ≤ r12 ∧ r12 < (↑b0.length : Int)) then bif Decidable.decide ((0 : Int) ≤ r1 ∧ r1 < (↑b0.length : Int)) then (F_236 (b0.getD (Int.toNat r12) Go.DI.S.tPair.dflt) (b0.getD (Int.toNat r1) Go.DI.S.tPair.dflt)).bind fun v2 => bif Decidable.decide (v2.fst < (0 : Int)) then Option.some (Sum.inl (((), r1, (), Go.IntKind.i64.wrap (r12 + (1 : Int)), r13, ()), b0, ())) else Option.some (Sum.inr (Sum.inl (((), r1, (), r12, r13, ()), b0, ()))) else Option.none else Option.none else Option.some (Sum.inr (Sum.inl (((), r1, (), r12, r13, ()), b0, ())))
theorem g_318_3 (x : LD_318_3.El) : codeT (CTp 1) T_318 (drT (CTp 1) T_318) lpi_318_3 l_318_3 (LD_318_3.enc x) (bodyK (LD_318_3.lay []) EX_318_3) = G_318_3 x.1.2.1 x.1.2.2.2.1 x.1.2.2.2.2.1 x.2.1 := by kernel_rfl
noncomputable def R_318_3 : LD_318_3.El → Option (LA_318_3.El ⊕ LB_318_3.El) := roundsT (fun x => G_318_3 x.1.2.1 x.1.2.2.2.1 x.1.2.2.2.2.1 x.2.1) fuel
theorem r_318_3 : ∀ x y, R_318_3 x = some y → CL (CTp 1) l_318_3 (LD_318_3.enc x) (Sum.elim (fun _ => EX_318_3.xa) (fun _ => EX_318_3.xb) y) (Sum.elim EX_318_3.la.enc EX_318_3.lb.enc y) :=
  rounds_ok (L := LD_318_3.lay []) (E := EX_318_3) (CTp_ok 1) T_318_ok (drT_ok (CTp_ok 1) T_318_ok) lpi_318_3_ok g_318_3 rfl rfl (fun v h => by have hh : (.exit 0 : AX) = .pan v := h; cases hh) (fun v h => by have hh : (.ret : AX) = .pan v := h; cases hh) fuel
noncomputable abbrev LD_318_5 : LayD := ⟨178, [(0, .own tPair 0), (1, .data I), (4, .clo 236 []), (12, .data I), (13, .data I)], [.row 204 tPair], fun s => [0]⟩
noncomputable abbrev LA_318_5 : LayD := ⟨178, [(0, .own tPair 0), (1, .data I), (4, .clo 236 []), (12, .data I), (13, .data I)], [.row 204 tPair], fun s => [0]⟩
noncomputable abbrev LB_318_5 : LayD := ⟨178, [], [], fun _ => []⟩
noncomputable def EX_318_5 : Exits 1 LA_318_5.El LB_318_5.El := ⟨.exit 2, LA_318_5.lay [], .ret, LB_318_5.lay []⟩

noncomputable def lpi_318_5 {β : Type} : LpT β := fun _ _ _ => none
theorem lpi_318_5_ok {β : Type} : LpTOk (CTp 1) (lpi_318_5 (β := β)) (loopsOf l_318_5) := by
  have h : loopsOf l_318_5 = [] := by kernel_rfl
  rw [h]
  exact LpTOk.nil
noncomputable def G_318_5 (r1 : Ty.El I) (r12 : Ty.El I) (r13 : Ty.El I) (b0 : List (Ty.El tPair)) : Option (LD_318_5.El ⊕ (LA_318_5.El ⊕ LB_318_5.El)) := bif Decidable.decide (r12 ≤ r13) then bif Decidable.decide ((0 : Int) ≤ r13 ∧ r13 < (↑b0.length : Int)) then bif Decidable.decide ((0 : Int) ≤ r1 ∧ r1 < (↑b0.length : Int)) then (F_236 (b0.getD (Int.toNat r13) Go.DI.S.tPair.dflt) (b0.getD (Int.toNat r1) Go.DI.S.tPair.dflt)).bind fun v2 => bif !Decidable.decide (v2.fst < (0 : Int)) then Option.some (Sum.inl (((), r1, (), r12, Go.IntKind.i64.wrap (r13 - (1 : Int)), ()), b0, ())) else Option.some (Sum.inr (Sum.inl (((), r1, (), r12, r13, ()), b0, ()))) else Option.none else Option.none else Option.some (Sum.inr (Sum.inl (((), r1, (), r12, r13, ()), b0, ())))
theorem g_318_5 (x : LD_318_5.El) : codeT (CTp 1) T_318 (drT (CTp 1) T_318) lpi_318_5 l_318_5 (LD_318_5.enc x) (bodyK (LD_318_5.lay []) EX_318_5) = G_318_5 x.1.2.1 x.1.2.2.2.1 x.1.2.2.2.2.1 x.2.1 := by kernel_rfl
noncomputable def R_318_5 : LD_318_5.El → Option (LA_318_5.El ⊕ LB_318_5.El) := roundsT (fun x => G_318_5 x.1.2.1 x.1.2.2.2.1 x.1.2.2.2.2.1 x.2.1) fuel
theorem r_318_5 : ∀ x y, R_318_5 x = some y → CL (CTp 1) l_318_5 (LD_318_5.enc x) (Sum.elim (fun _ => EX_318_5.xa) (fun _ => EX_318_5.xb) y) (Sum.elim EX_318_5.la.enc EX_318_5.lb.enc y) :=
  rounds_ok (L := LD_318_5.lay []) (E := EX_318_5) (CTp_ok 1) T_318_ok (drT_ok (CTp_ok 1) T_318_ok) lpi_318_5_ok g_318_5 rfl rfl (fun v h => by have hh : (.exit 2 : AX) = .pan v := h; cases hh) (fun v h => by have hh : (.ret : AX) = .pan v := h; cases hh) fuel
noncomputable abbrev LD_318_1013 : LayD := ⟨178, [(0, .own tPair 0), (1, .data I), (4, .clo 236 []), (12, .data I), (13, .data I)], [.row 204 tPair], fun s => [0]⟩
noncomputable abbrev LA_318_1013 : LayD := ⟨178, [(0, .own tPair 0), (1, .data I), (13, .data I)], [.row 204 tPair], fun s => [0]⟩
noncomputable abbrev LB_318_1013 : LayD := ⟨178, [], [], fun _ => []⟩
noncomputable def EX_318_1013 : Exits 1 LA_318_1013.El LB_318_1013.El := ⟨.exit 4, LA_318_1013.lay [], .ret, LB_318_1013.lay []⟩

noncomputable def lpi_318_1013 {β : Type} : LpT β := fun k s K => if Nat.beq k 13 then lpOne (LD_318_13.lay []) EX_318_13 R_318_13 s K else if Nat.beq k 15 then lpOne (LD_318_15.lay []) EX_318_15 R_318_15 s K else none
theorem lpi_318_1013_ok {β : Type} : LpTOk (CTp 1) (lpi_318_1013 (β := β)) (loopsOf l_318_1013) := by
  have h : loopsOf l_318_1013 = [(13, l_318_13), (15, l_318_15)] := by kernel_rfl
  rw [h]
  exact LpTOk.cons (fun s K z h => lpOne_ok r_318_13 h) (LpTOk.cons (fun s K z h => lpOne_ok r_318_15 h) (LpTOk.nil))
noncomputable def G_318_1013 (r1 : Ty.El I) (r12 : Ty.El I) (r13 : Ty.El I) (b0 : List (Ty.El tPair)) : Option (LD_318_1013.El ⊕ (LA_318_1013.El ⊕ LB_318_1013.El)) := (R_318_13 (((), r1, (), r12, r13, ()), b0, ())).bind fun v1 => Sum.elim (fun v2 => (R_318_15 (((), v2.fst.snd.fst, (), v2.fst.snd.snd.snd.fst, v2.fst.snd.snd.snd.snd.fst, ()), v2.snd.fst, ())).bind fun v3 => Sum.elim (fun v4 => bif Decidable.decide (v4.fst.snd.snd.snd.fst > v4.fst.snd.snd.snd.snd.fst) then Option.some (Sum.inr (Sum.inl (((), v4.fst.snd.fst, v4.fst.snd.snd.snd.snd.fst, ()), v4.snd.fst, ()))) else bif Decidable.decide ((0 : Int) ≤ v4.fst.snd.snd.snd.snd.fst ∧ v4.fst.snd.snd.snd.snd.fst < (↑(List.length v4.snd.fst) : Int)) then bif Decidable.decide ((0 : Int) ≤ v4.fst.snd.snd.snd.fst ∧ v4.fst.snd.snd.snd.fst < (↑(List.length v4.snd.fst) : Int)) then bif Decidable.decide ((0 : Int) ≤ v4.fst.snd.snd.snd.fst ∧ v4.fst.snd.snd.snd.fst < (↑(List.length v4.snd.fst) : Int)) then bif Decidable.decide ((0 : Int) ≤ v4.fst.snd.snd.snd.snd.fst ∧ v4.fst.snd.snd.snd.snd.fst < (↑(List.set v4.snd.fst (Int.toNat v4.fst.snd.snd.snd.fst) (List.getD v4.snd.fst (Int.toNat v4.fst.snd.snd.snd.snd.fst) Go.DI.S.tPair.dflt)).length : Int)) then Option.some (Sum.inl (((), v4.fst.snd.fst, (), Go.IntKind.i64.wrap (v4.fst.snd.snd.snd.fst + (1 : Int)), Go.IntKind.i64.wrap (v4.fst.snd.snd.snd.snd.fst - (1 : Int)), ()), (List.set v4.snd.fst (Int.toNat v4.fst.snd.snd.snd.fst) (List.getD v4.snd.fst (Int.toNat v4.fst.snd.snd.snd.snd.fst) Go.DI.S.tPair.dflt)).set (Int.toNat v4.fst.snd.snd.snd.snd.fst) (List.getD v4.snd.fst (Int.toNat v4.fst.snd.snd.snd.fst) Go.DI.S.tPair.dflt), ())) else Option.none else Option.none else Option.none else Option.none) (fun v5 => Option.none) v3) (fun v6 => Option.none) v1
theorem g_318_1013 (x : LD_318_1013.El) : codeT (CTp 1) T_318 (drT (CTp 1) T_318) lpi_318_1013 l_318_1013 (LD_318_1013.enc x) (bodyK (LD_318_1013.lay []) EX_318_1013) = G_318_1013 x.1.2.1 x.1.2.2.2.1 x.1.2.2.2.2.1 x.2.1 := by kernel_rfl
noncomputable def R_318_1013 : LD_318_1013.El → Option (LA_318_1013.El ⊕ LB_318_1013.El) := roundsT (fun x => G_318_1013 x.1.2.1 x.1.2.2.2.1 x.1.2.2.2.2.1 x.2.1) fuel
theorem r_318_1013 : ∀ x y, R_318_1013 x = some y → CL (CTp 1) l_318_1013 (LD_318_1013.enc x) (Sum.elim (fun _ => EX_318_1013.xa) (fun _ => EX_318_1013.xb) y) (Sum.elim EX_318_1013.la.enc EX_318_1013.lb.enc y) :=
  rounds_ok (L := LD_318_1013.lay []) (E := EX_318_1013) (CTp_ok 1) T_318_ok (drT_ok (CTp_ok 1) T_318_ok) lpi_318_1013_ok g_318_1013 rfl rfl (fun v h => by have hh : (.exit 4 : AX) = .pan v := h; cases hh) (fun v h => by have hh : (.ret : AX) = .pan v := h; cases hh) fuel
noncomputable def lp_318 {β : Type} : LpT β := fun k s K => if Nat.beq k 3 then lpOne (LD_318_3.lay []) EX_318_3 R_318_3 s K else if Nat.beq k 5 then lpOne (LD_318_5.lay []) EX_318_5 R_318_5 s K else if Nat.beq k 13 then lpOne (LD_318_1013.lay []) EX_318_1013 R_318_1013 s K else none
theorem lp_318_ok {β : Type} : LpTOk (CTp 1) (lp_318 (β := β)) (loopsOf c_318) := by
  have h : loopsOf c_318 = [(3, l_318_3), (5, l_318_5), (13, l_318_1013)] := by kernel_rfl
  rw [h]
  exact LpTOk.cons (fun s K z h => lpOne_ok r_318_3 h) (LpTOk.cons (fun s K z h => lpOne_ok r_318_5 h) (LpTOk.cons (fun s K z h => lpOne_ok r_318_1013 h) (LpTOk.nil)))
noncomputable def F_318 (a1 : Ty.El I) (a2 : Ty.El I) (a3 : Ty.El I) (b0 : List (Ty.El tPair)) : Option OUT_318.El := bif Decidable.decide ((0 : Int) ≤ a3 ∧ a3 < (↑b0.length : Int)) then bif Decidable.decide ((0 : Int) ≤ a1 ∧ a1 < (↑b0.length : Int)) then bif Decidable.decide ((0 : Int) ≤ a1 ∧ a1 < (↑b0.length : Int)) then bif Decidable.decide ((0 : Int) ≤ a3 ∧ a3 < (↑(b0.set (Int.toNat a1) (b0.getD (Int.toNat a3) Go.DI.S.tPair.dflt)).length : Int)) then (R_318_3 (((), a1, (), Go.IntKind.i64.wrap (a1 + (1 : Int)), Go.IntKind.i64.wrap (a2 - (1 : Int)), ()), (b0.set (Int.toNat a1) (b0.getD (Int.toNat a3) Go.DI.S.tPair.dflt)).set (Int.toNat a3) (b0.getD (Int.toNat a1) Go.DI.S.tPair.dflt), ())).bind fun v1 => Sum.elim (fun v2 => (R_318_5 (((), v2.fst.snd.fst, (), v2.fst.snd.snd.snd.fst, v2.fst.snd.snd.snd.snd.fst, ()), v2.snd.fst, ())).bind fun v3 => Sum.elim (fun v4 => bif Decidable.decide (v4.fst.snd.snd.snd.fst > v4.fst.snd.snd.snd.snd.fst) then bif Decidable.decide ((0 : Int) ≤ v4.fst.snd.fst ∧ v4.fst.snd.fst < (↑(List.length v4.snd.fst) : Int)) then bif Decidable.decide ((0 : Int) ≤ v4.fst.snd.snd.snd.snd.fst ∧ v4.fst.snd.snd.snd.snd.fst < (↑(List.length v4.snd.fst) : Int)) then bif Decidable.decide ((0 : Int) ≤ v4.fst.snd.snd.snd.snd.fst ∧ v4.fst.snd.snd.snd.snd.fst < (↑(List.length v4.snd.fst) : Int)) then bif Decidable.decide ((0 : Int) ≤ v4.fst.snd.fst ∧ v4.fst.snd.fst < (↑(List.set v4.snd.fst (Int.toNat v4.fst.snd.snd.snd.snd.fst) (List.getD v4.snd.fst (Int.toNat v4.fst.snd.fst) Go.DI.S.tPair.dflt)).length : Int)) then Option.some ((v4.fst.snd.snd.snd.snd.fst, Bool.true, ()), (List.set v4.snd.fst (Int.toNat v4.fst.snd.snd.snd.snd.fst) (List.getD v4.snd.fst (Int.toNat v4.fst.snd.fst) Go.DI.S.tPair.dflt)).set (Int.toNat v4.fst.snd.fst) (List.getD v4.snd.fst (Int.toNat v4.fst.snd.snd.snd.snd.fst) Go.DI.S.tPair.dflt), ()) else Option.none else Option.none else Option.none else Option.none else bif Decidable.decide ((0 : Int) ≤ v4.fst.snd.snd.snd.snd.fst ∧ v4.fst.snd.snd.snd.snd.fst < (↑(List.length v4.snd.fst) : Int)) then bif Decidable.decide ((0 : Int) ≤ v4.fst.snd.snd.snd.fst ∧ v4.fst.snd.snd.snd.fst < (↑(List.length v4.snd.fst) : Int)) then bif Decidable.decide ((0 : Int) ≤ v4.fst.snd.snd.snd.fst ∧ v4.fst.snd.snd.snd.fst < (↑(List.length v4.snd.fst) : Int)) then bif Decidable.decide ((0 : Int) ≤ v4.fst.snd.snd.snd.snd.fst ∧ v4.fst.snd.snd.snd.snd.fst < (↑(List.set v4.snd.fst (Int.toNat v4.fst.snd.snd.snd.fst) (List.getD v4.snd.fst (Int.toNat v4.fst.snd.snd.snd.snd.fst) Go.DI.S.tPair.dflt)).length : Int)) then (R_318_1013 (((), v4.fst.snd.fst, (), Go.IntKind.i64.wrap (v4.fst.snd.snd.snd.fst + (1 : Int)), Go.IntKind.i64.wrap (v4.fst.snd.snd.snd.snd.fst - (1 : Int)), ()), (List.set v4.snd.fst (Int.toNat v4.fst.snd.snd.snd.fst) (List.getD v4.snd.fst (Int.toNat v4.fst.snd.snd.snd.snd.fst) Go.DI.S.tPair.dflt)).set (Int.toNat v4.fst.snd.snd.snd.snd.fst) (List.getD v4.snd.fst (Int.toNat v4.fst.snd.snd.snd.fst) Go.DI.S.tPair.dflt), ())).bind fun v5 => Sum.elim (fun v6 => bif Decidable.decide ((0 : Int) ≤ v6.fst.snd.fst ∧ v6.fst.snd.fst < (↑(List.length v6.snd.fst) : Int)) then bif Decidable.decide ((0 : Int) ≤ v6.fst.snd.snd.fst ∧ v6.fst.snd.snd.fst < (↑(List.length v6.snd.fst) : Int)) then bif Decidable.decide ((0 : Int) ≤ v6.fst.snd.snd.fst ∧ v6.fst.snd.snd.fst < (↑(List.length v6.snd.fst) : Int)) then bif Decidable.decide ((0 : Int) ≤ v6.fst.snd.fst ∧ v6.fst.snd.fst < (↑(List.set v6.snd.fst (Int.toNat v6.fst.snd.snd.fst) (List.getD v6.snd.fst (Int.toNat v6.fst.snd.fst) Go.DI.S.tPair.dflt)).length : Int)) then Option.some ((v6.fst.snd.snd.fst, Bool.false, ()), (List.set v6.snd.fst (Int.toNat v6.fst.snd.snd.fst) (List.getD v6.snd.fst (Int.toNat v6.fst.snd.fst) Go.DI.S.tPair.dflt)).set (Int.toNat v6.fst.snd.fst) (List.getD v6.snd.fst (Int.toNat v6.fst.snd.snd.fst) Go.DI.S.tPair.dflt), ()) else Option.none else Option.none else Option.none else Option.none) (fun v7 => Option.none) v5 else Option.none else Option.none else Option.none else Option.none) (fun v8 => Option.none) v3) (fun v9 => Option.none) v1 else Option.none else Option.none else Option.none else Option.none
theorem f_318 (x : IN_318.El) : funcX (CTp 1) T_318 IN_318 OUT_318 [] (drT (CTp 1) T_318) lp_318 Tryz.f318 c_318 x = F_318 x.1.2.1 x.1.2.2.1 x.1.2.2.2.1 x.2.1 := by kernel_rfl
noncomputable def E_318 : Ent := .mkGen 318 [236] ⟨1, [.nilReg 0 204 tPair, .rowReg 0 204 tPair], IN_318, OUT_318, fun x => F_318 x.1.2.1 x.1.2.2.1 x.1.2.2.2.1 x.2.1⟩
theorem e_318 : E_318.Ok CT.P := Ent.ofGen (C := (CTp 1)) (steps := [.nilReg 0 204 tPair, .rowReg 0 204 tPair]) (osteps := []) (CTp_ok 1) T_318_ok hf_318 hb_318 lp_318_ok f_318
/-! ### 327: slices.siftDownCmpFuncmaquette/api.Pair -/
noncomputable def c_327 : Code := Tryz.f327.body.getD .skip
theorem hb_327 : Tryz.f327.body = some c_327 := by kernel_rfl
theorem hf_327 : CT.P.funcs[327]? = some Tryz.f327 := by kernel_rfl
noncomputable abbrev IN_327 : LayD := ⟨5, [(0, .own tPair 0), (1, .data I), (2, .data I), (3, .data I), (4, .clo 236 [])], [.row 204 tPair], fun s => [slotR s 0]⟩
noncomputable abbrev OUT_327 : LayD := ⟨0, [], [.row 204 tPair], fun _ => [0]⟩
noncomputable def T_327 : Tb := mkTb tyT mpT [E_236]
theorem T_327_ok : T_327.Ok CT.P := mkTb_ok (⟨e_236, trivial⟩)
noncomputable def l_327_1 : Code := atLoop c_327 1
noncomputable abbrev LD_327_1 : LayD := ⟨82, [(0, .own tPair 0), (2, .data I), (3, .data I), (4, .clo 236 []), (10, .data I)], [.row 204 tPair], fun s => [0]⟩
noncomputable abbrev LA_327_1 : LayD := ⟨82, [], [.row 204 tPair], fun s => [0]⟩
noncomputable abbrev LB_327_1 : LayD := ⟨82, [], [.row 204 tPair], fun s => [0]⟩
noncomputable def EX_327_1 : Exits 1 LA_327_1.El LB_327_1.El := ⟨.exit 0, LA_327_1.lay [], .ret, LB_327_1.lay []⟩

noncomputable def lpi_327_1 {β : Type} : LpT β := fun _ _ _ => none
theorem lpi_327_1_ok {β : Type} : LpTOk (CTp 1) (lpi_327_1 (β := β)) (loopsOf l_327_1) := by
  have h : loopsOf l_327_1 = [] := by kernel_rfl
  rw [h]
  exact LpTOk.nil
noncomputable def G_327_1 (r2 : Ty.El I) (r3 : Ty.El I) (r10 : Ty.El I) (b0 : List (Ty.El tPair)) : Option (LD_327_1.El ⊕ (LA_327_1.El ⊕ LB_327_1.El)) := bif Decidable.decide (Go.IntKind.i64.wrap (Go.IntKind.i64.wrap ((2 : Int) * r10) + (1 : Int)) ≥ r2) then Option.some (Sum.inr (Sum.inl ((), b0, ()))) else bif Decidable.decide (Go.IntKind.i64.wrap (Go.IntKind.i64.wrap (Go.IntKind.i64.wrap ((2 : Int) * r10) + (1 : Int)) + (1 : Int)) < r2) then bif Decidable.decide ((0 : Int) ≤ Go.IntKind.i64.wrap (r3 + Go.IntKind.i64.wrap (Go.IntKind.i64.wrap ((2 : Int) * r10) + (1 : Int))) ∧ Go.IntKind.i64.wrap (r3 + Go.IntKind.i64.wrap (Go.IntKind.i64.wrap ((2 : Int) * r10) + (1 : Int))) < (↑b0.length : Int)) then bif Decidable.decide ((0 : Int) ≤ Go.IntKind.i64.wrap (Go.IntKind.i64.wrap (r3 + Go.IntKind.i64.wrap (Go.IntKind.i64.wrap ((2 : Int) * r10) + (1 : Int))) + (1 : Int)) ∧ Go.IntKind.i64.wrap (Go.IntKind.i64.wrap (r3 + Go.IntKind.i64.wrap (Go.IntKind.i64.wrap ((2 : Int) * r10) + (1 : Int))) + (1 : Int)) < (↑b0.length : Int)) then (F_236 (b0.getD (Go.IntKind.i64.wrap (r3 + Go.IntKind.i64.wrap (Go.IntKind.i64.wrap ((2 : Int) * r10) + (1 : Int)))).toNat Go.DI.S.tPair.dflt) (b0.getD (Go.IntKind.i64.wrap (Go.IntKind.i64.wrap (r3 + Go.IntKind.i64.wrap (Go.IntKind.i64.wrap ((2 : Int) * r10) + (1 : Int))) + (1 : Int))).toNat Go.DI.S.tPair.dflt)).bind fun v2 => bif Decidable.decide (v2.fst < (0 : Int)) then bif Decidable.decide ((0 : Int) ≤ Go.IntKind.i64.wrap (r3 + r10) ∧ Go.IntKind.i64.wrap (r3 + r10) < (↑b0.length : Int)) then bif Decidable.decide ((0 : Int) ≤ Go.IntKind.i64.wrap (r3 + Go.IntKind.i64.wrap (Go.IntKind.i64.wrap (Go.IntKind.i64.wrap ((2 : Int) * r10) + (1 : Int)) + (1 : Int))) ∧ Go.IntKind.i64.wrap (r3 + Go.IntKind.i64.wrap (Go.IntKind.i64.wrap (Go.IntKind.i64.wrap ((2 : Int) * r10) + (1 : Int)) + (1 : Int))) < (↑b0.length : Int)) then (F_236 (b0.getD (Go.IntKind.i64.wrap (r3 + r10)).toNat Go.DI.S.tPair.dflt) (b0.getD (Go.IntKind.i64.wrap (r3 + Go.IntKind.i64.wrap (Go.IntKind.i64.wrap (Go.IntKind.i64.wrap ((2 : Int) * r10) + (1 : Int)) + (1 : Int)))).toNat Go.DI.S.tPair.dflt)).bind fun v4 => bif !Decidable.decide (v4.fst < (0 : Int)) then Option.some (Sum.inr (Sum.inr ((), b0, ()))) else bif Decidable.decide ((0 : Int) ≤ Go.IntKind.i64.wrap (r3 + Go.IntKind.i64.wrap (Go.IntKind.i64.wrap (Go.IntKind.i64.wrap ((2 : Int) * r10) + (1 : Int)) + (1 : Int))) ∧ Go.IntKind.i64.wrap (r3 + Go.IntKind.i64.wrap (Go.IntKind.i64.wrap (Go.IntKind.i64.wrap ((2 : Int) * r10) + (1 : Int)) + (1 : Int))) < (↑b0.length : Int)) then bif Decidable.decide ((0 : Int) ≤ Go.IntKind.i64.wrap (r3 + r10) ∧ Go.IntKind.i64.wrap (r3 + r10) < (↑b0.length : Int)) then bif Decidable.decide ((0 : Int) ≤ Go.IntKind.i64.wrap (r3 + r10) ∧ Go.IntKind.i64.wrap (r3 + r10) < (↑b0.length : Int)) then bif Decidable.decide ((0 : Int) ≤ Go.IntKind.i64.wrap (r3 + Go.IntKind.i64.wrap (Go.IntKind.i64.wrap (Go.IntKind.i64.wrap ((2 : Int) * r10) + (1 : Int)) + (1 : Int))) ∧ Go.IntKind.i64.wrap (r3 + Go.IntKind.i64.wrap (Go.IntKind.i64.wrap (Go.IntKind.i64.wrap ((2 : Int) * r10) + (1 : Int)) + (1 : Int))) < (↑(b0.set (Go.IntKind.i64.wrap (r3 + r10)).toNat (b0.getD (Go.IntKind.i64.wrap (r3 + Go.IntKind.i64.wrap (Go.IntKind.i64.wrap (Go.IntKind.i64.wrap ((2 : Int) * r10) + (1 : Int)) + (1 : Int)))).toNat Go.DI.S.tPair.dflt)).length : Int)) then Option.some (Sum.inl (((), r2, r3, (), Go.IntKind.i64.wrap (Go.IntKind.i64.wrap (Go.IntKind.i64.wrap ((2 : Int) * r10) + (1 : Int)) + (1 : Int)), ()), (b0.set (Go.IntKind.i64.wrap (r3 + r10)).toNat (b0.getD (Go.IntKind.i64.wrap (r3 + Go.IntKind.i64.wrap (Go.IntKind.i64.wrap (Go.IntKind.i64.wrap ((2 : Int) * r10) + (1 : Int)) + (1 : Int)))).toNat Go.DI.S.tPair.dflt)).set (Go.IntKind.i64.wrap (r3 + Go.IntKind.i64.wrap (Go.IntKind.i64.wrap (Go.IntKind.i64.wrap ((2 : Int) * r10) + (1 : Int)) + (1 : Int)))).toNat (b0.getD (Go.IntKind.i64.wrap (r3 + r10)).toNat Go.DI.S.tPair.dflt), ())) else Option.none else Option.none else Option.none else Option.none else Option.none else Option.none else bif Decidable.decide ((0 : Int) ≤ Go.IntKind.i64.wrap (r3 + r10) ∧ Go.IntKind.i64.wrap (r3 + r10) < (↑b0.length : Int)) then bif Decidable.decide ((0 : Int) ≤ Go.IntKind.i64.wrap (r3 + Go.IntKind.i64.wrap (Go.IntKind.i64.wrap ((2 : Int) * r10) + (1 : Int))) ∧ Go.IntKind.i64.wrap (r3 + Go.IntKind.i64.wrap (Go.IntKind.i64.wrap ((2 : Int) * r10) + (1 : Int))) < (↑b0.length : Int)) then (F_236 (b0.getD (Go.IntKind.i64.wrap (r3 + r10)).toNat Go.DI.S.tPair.dflt) (b0.getD (Go.IntKind.i64.wrap (r3 + Go.IntKind.i64.wrap (Go.IntKind.i64.wrap ((2 : Int) * r10) + (1 : Int)))).toNat Go.DI.S.tPair.dflt)).bind fun v6 => bif !Decidable.decide (v6.fst < (0 : Int)) then Option.some (Sum.inr (Sum.inr ((), b0, ()))) else bif Decidable.decide ((0 : Int) ≤ Go.IntKind.i64.wrap (r3 + Go.IntKind.i64.wrap (Go.IntKind.i64.wrap ((2 : Int) * r10) + (1 : Int))) ∧ Go.IntKind.i64.wrap (r3 + Go.IntKind.i64.wrap (Go.IntKind.i64.wrap ((2 : Int) * r10) + (1 : Int))) < (↑b0.length : Int)) then bif Decidable.decide ((0 : Int) ≤ Go.IntKind.i64.wrap (r3 + r10) ∧ Go.IntKind.i64.wrap (r3 + r10) < (↑b0.length : Int)) then bif Decidable.decide ((0 : Int) ≤ Go.IntKind.i64.wrap (r3 + r10) ∧ Go.IntKind.i64.wrap (r3 + r10) < (↑b0.length : Int)) then bif Decidable.decide ((0 : Int) ≤ Go.IntKind.i64.wrap (r3 + Go.IntKind.i64.wrap (Go.IntKind.i64.wrap ((2 : Int) * r10) + (1 : Int))) ∧ Go.IntKind.i64.wrap (r3 + Go.IntKind.i64.wrap (Go.IntKind.i64.wrap ((2 : Int) * r10) + (1 : Int))) < (↑(b0.set (Go.IntKind.i64.wrap (r3 + r10)).toNat (b0.getD (Go.IntKind.i64.wrap (r3 + Go.IntKind.i64.wrap (Go.IntKind.i64.wrap ((2 : Int) * r10) + (1 : Int)))).toNat Go.DI.S.tPair.dflt)).length : Int)) then Option.some (Sum.inl (((), r2, r3, (), Go.IntKind.i64.wrap (Go.IntKind.i64.wrap ((2 : Int) * r10) + (1 : Int)), ()), (b0.set (Go.IntKind.i64.wrap (r3 + r10)).toNat (b0.getD (Go.IntKind.i64.wrap (r3 + Go.IntKind.i64.wrap (Go.IntKind.i64.wrap ((2 : Int) * r10) + (1 : Int)))).toNat Go.DI.S.tPair.dflt)).set (Go.IntKind.i64.wrap (r3 + Go.IntKind.i64.wrap (Go.IntKind.i64.wrap ((2 : Int) * r10) + (1 : Int)))).toNat (b0.getD (Go.IntKind.i64.wrap (r3 + r10)).toNat Go.DI.S.tPair.dflt), ())) else Option.none else Option.none else Option.none else Option.none else Option.none else Option.none else Option.none else Option.none else bif Decidable.decide ((0 : Int) ≤ Go.IntKind.i64.wrap (r3 + r10) ∧ Go.IntKind.i64.wrap (r3 + r10) < (↑b0.length : Int)) then bif Decidable.decide ((0 : Int) ≤ Go.IntKind.i64.wrap (r3 + Go.IntKind.i64.wrap (Go.IntKind.i64.wrap ((2 : Int) * r10) + (1 : Int))) ∧ Go.IntKind.i64.wrap (r3 + Go.IntKind.i64.wrap (Go.IntKind.i64.wrap ((2 : Int) * r10) + (1 : Int))) < (↑b0.length : Int)) then (F_236 (b0.getD (Go.IntKind.i64.wrap (r3 + r10)).toNat Go.DI.S.tPair.dflt) (b0.getD (Go.IntKind.i64.wrap (r3 + Go.IntKind.i64.wrap (Go.IntKind.i64.wrap ((2 : Int) * r10) + (1 : Int)))).toNat Go.DI.S.tPair.dflt)).bind fun v8 => bif !Decidable.decide (v8.fst < (0 : Int)) then Option.some (Sum.inr (Sum.inr ((), b0, ()))) else bif Decidable.decide ((0 : Int) ≤ Go.IntKind.i64.wrap (r3 + Go.IntKind.i64.wrap (Go.IntKind.i64.wrap ((2 : Int) * r10) + (1 : Int))) ∧ Go.IntKind.i64.wrap (r3 + Go.IntKind.i64.wrap (Go.IntKind.i64.wrap ((2 : Int) * r10) + (1 : Int))) < (↑b0.length : Int)) then bif Decidable.decide ((0 : Int) ≤ Go.IntKind.i64.wrap (r3 + r10) ∧ Go.IntKind.i64.wrap (r3 + r10) < (↑b0.length : Int)) then bif Decidable.decide ((0 : Int) ≤ Go.IntKind.i64.wrap (r3 + r10) ∧ Go.IntKind.i64.wrap (r3 + r10) < (↑b0.length : Int)) then bif Decidable.decide ((0 : Int) ≤ Go.IntKind.i64.wrap (r3 + Go.IntKind.i64.wrap (Go.IntKind.i64.wrap ((2 : Int) * r10) + (1 : Int))) ∧ Go.IntKind.i64.wrap (r3 + Go.IntKind.i64.wrap (Go.IntKind.i64.wrap ((2 : Int) * r10) + (1 : Int))) < (↑(b0.set (Go.IntKind.i64.wrap (r3 + r10)).toNat (b0.getD (Go.IntKind.i64.wrap (r3 + Go.IntKind.i64.wrap (Go.IntKind.i64.wrap ((2 : Int) * r10) + (1 : Int)))).toNat Go.DI.S.tPair.dflt)).length : Int)) then Option.some (Sum.inl (((), r2, r3, (), Go.IntKind.i64.wrap (Go.IntKind.i64.wrap ((2 : Int) * r10) + (1 : Int)), ()), (b0.set (Go.IntKind.i64.wrap (r3 + r10)).toNat (b0.getD (Go.IntKind.i64.wrap (r3 + Go.IntKind.i64.wrap (Go.IntKind.i64.wrap ((2 : Int) * r10) + (1 : Int)))).toNat Go.DI.S.tPair.dflt)).set (Go.IntKind.i64.wrap (r3 + Go.IntKind.i64.wrap (Go.IntKind.i64.wrap ((2 : Int) * r10) + (1 : Int)))).toNat (b0.getD (Go.IntKind.i64.wrap (r3 + r10)).toNat Go.DI.S.tPair.dflt), ())) else Option.none else Option.none else Option.none else Option.none else Option.none else Option.none
theorem g_327_1 (x : LD_327_1.El) : codeT (CTp 1) T_327 (drT (CTp 1) T_327) lpi_327_1 l_327_1 (LD_327_1.enc x) (bodyK (LD_327_1.lay []) EX_327_1) = G_327_1 x.1.2.1 x.1.2.2.1 x.1.2.2.2.2.1 x.2.1 := by kernel_rfl
noncomputable def R_327_1 : LD_327_1.El → Option (LA_327_1.El ⊕ LB_327_1.El) := roundsT (fun x => G_327_1 x.1.2.1 x.1.2.2.1 x.1.2.2.2.2.1 x.2.1) fuel
theorem r_327_1 : ∀ x y, R_327_1 x = some y → CL (CTp 1) l_327_1 (LD_327_1.enc x) (Sum.elim (fun _ => EX_327_1.xa) (fun _ => EX_327_1.xb) y) (Sum.elim EX_327_1.la.enc EX_327_1.lb.enc y) :=
  rounds_ok (L := LD_327_1.lay []) (E := EX_327_1) (CTp_ok 1) T_327_ok (drT_ok (CTp_ok 1) T_327_ok) lpi_327_1_ok g_327_1 rfl rfl (fun v h => by have hh : (.exit 0 : AX) = .pan v := h; cases hh) (fun v h => by have hh : (.ret : AX) = .pan v := h; cases hh) fuel
noncomputable def lp_327 {β : Type} : LpT β := fun k s K => if Nat.beq k 1 then lpOne (LD_327_1.lay []) EX_327_1 R_327_1 s K else none
theorem lp_327_ok {β : Type} : LpTOk (CTp 1) (lp_327 (β := β)) (loopsOf c_327) := by
  have h : loopsOf c_327 = [(1, l_327_1)] := by kernel_rfl
  rw [h]
  exact LpTOk.cons (fun s K z h => lpOne_ok r_327_1 h) (LpTOk.nil)
noncomputable def F_327 (a1 : Ty.El I) (a2 : Ty.El I) (a3 : Ty.El I) (b0 : List (Ty.El tPair)) : Option OUT_327.El := (R_327_1 (((), a2, a3, (), a1, ()), b0, ())).bind fun v1 => Sum.elim (fun v2 => Option.some ((), v2.snd.fst, ())) (fun v3 => Option.some ((), v3.snd.fst, ())) v1
theorem f_327 (x : IN_327.El) : funcX (CTp 1) T_327 IN_327 OUT_327 [] (drT (CTp 1) T_327) lp_327 Tryz.f327 c_327 x = F_327 x.1.2.1 x.1.2.2.1 x.1.2.2.2.1 x.2.1 := by kernel_rfl
noncomputable def E_327 : Ent := .mkGen 327 [236] ⟨1, [.nilReg 0 204 tPair, .rowReg 0 204 tPair], IN_327, OUT_327, fun x => F_327 x.1.2.1 x.1.2.2.1 x.1.2.2.2.1 x.2.1⟩
theorem e_327 : E_327.Ok CT.P := Ent.ofGen (C := (CTp 1)) (steps := [.nilReg 0 204 tPair, .rowReg 0 204 tPair]) (osteps := []) (CTp_ok 1) T_327_ok hf_327 hb_327 lp_327_ok f_327
/-! ### 312: slices.heapSortCmpFuncmaquette/api.Pair -/
noncomputable def c_312 : Code := Tryz.f312.body.getD .skip
theorem hb_312 : Tryz.f312.body = some c_312 := by kernel_rfl
theorem hf_312 : CT.P.funcs[312]? = some Tryz.f312 := by kernel_rfl
noncomputable abbrev IN_312 : LayD := ⟨4, [(0, .own tPair 0), (1, .data I), (2, .data I), (3, .clo 236 [])], [.row 204 tPair], fun s => [slotR s 0]⟩
noncomputable abbrev OUT_312 : LayD := ⟨0, [], [.row 204 tPair], fun _ => [0]⟩
noncomputable def T_312 : Tb := mkTb tyT mpT [E_327]
theorem T_312_ok : T_312.Ok CT.P := mkTb_ok (⟨e_327, trivial⟩)
noncomputable def l_312_8 : Code := atLoop c_312 8
noncomputable def l_312_4 : Code := atLoop c_312 4
noncomputable abbrev LD_312_4 : LayD := ⟨60, [(0, .own tPair 0), (3, .clo 236 []), (8, .data I), (9, .data I), (10, .data I), (11, .data I)], [.row 204 tPair], fun s => [0]⟩
noncomputable abbrev LA_312_4 : LayD := ⟨60, [(0, .own tPair 0), (3, .clo 236 []), (8, .data I), (9, .data I), (10, .data I)], [.row 204 tPair], fun s => [0]⟩
noncomputable abbrev LB_312_4 : LayD := ⟨60, [], [], fun _ => []⟩
noncomputable def EX_312_4 : Exits 1 LA_312_4.El LB_312_4.El := ⟨.exit 0, LA_312_4.lay [], .ret, LB_312_4.lay []⟩

noncomputable def lpi_312_4 {β : Type} : LpT β := fun _ _ _ => none
theorem lpi_312_4_ok {β : Type} : LpTOk (CTp 1) (lpi_312_4 (β := β)) (loopsOf l_312_4) := by
  have h : loopsOf l_312_4 = [] := by kernel_rfl
  rw [h]
  exact LpTOk.nil
noncomputable def G_312_4 (r8 : Ty.El I) (r9 : Ty.El I) (r10 : Ty.El I) (r11 : Ty.El I) (b0 : List (Ty.El tPair)) : Option (LD_312_4.El ⊕ (LA_312_4.El ⊕ LB_312_4.El)) := bif Decidable.decide (r11 ≥ (0 : Int)) then (F_327 r11 r10 r8 b0).bind fun v2 => Option.some (Sum.inl (((), (), r8, r9, r10, Go.IntKind.i64.wrap (r11 - (1 : Int)), ()), v2.snd.fst, ())) else Option.some (Sum.inr (Sum.inl (((), (), r8, r9, r10, ()), b0, ())))
theorem g_312_4 (x : LD_312_4.El) : codeT (CTp 1) T_312 (drT (CTp 1) T_312) lpi_312_4 l_312_4 (LD_312_4.enc x) (bodyK (LD_312_4.lay []) EX_312_4) = G_312_4 x.1.2.2.1 x.1.2.2.2.1 x.1.2.2.2.2.1 x.1.2.2.2.2.2.1 x.2.1 := by kernel_rfl
noncomputable def R_312_4 : LD_312_4.El → Option (LA_312_4.El ⊕ LB_312_4.El) := roundsT (fun x => G_312_4 x.1.2.2.1 x.1.2.2.2.1 x.1.2.2.2.2.1 x.1.2.2.2.2.2.1 x.2.1) fuel
theorem r_312_4 : ∀ x y, R_312_4 x = some y → CL (CTp 1) l_312_4 (LD_312_4.enc x) (Sum.elim (fun _ => EX_312_4.xa) (fun _ => EX_312_4.xb) y) (Sum.elim EX_312_4.la.enc EX_312_4.lb.enc y) :=
  rounds_ok (L := LD_312_4.lay []) (E := EX_312_4) (CTp_ok 1) T_312_ok (drT_ok (CTp_ok 1) T_312_ok) lpi_312_4_ok g_312_4 rfl rfl (fun v h => by have hh : (.exit 0 : AX) = .pan v := h; cases hh) (fun v h => by have hh : (.ret : AX) = .pan v := h; cases hh) fuel
noncomputable abbrev LD_312_8 : LayD := ⟨60, [(0, .own tPair 0), (3, .clo 236 []), (8, .data I), (9, .data I), (12, .data I)], [.row 204 tPair], fun s => [0]⟩
noncomputable abbrev LA_312_8 : LayD := ⟨60, [], [.row 204 tPair], fun s => [0]⟩
noncomputable abbrev LB_312_8 : LayD := ⟨60, [], [], fun _ => []⟩
noncomputable def EX_312_8 : Exits 1 LA_312_8.El LB_312_8.El := ⟨.exit 2, LA_312_8.lay [], .ret, LB_312_8.lay []⟩

noncomputable def lpi_312_8 {β : Type} : LpT β := fun _ _ _ => none
theorem lpi_312_8_ok {β : Type} : LpTOk (CTp 1) (lpi_312_8 (β := β)) (loopsOf l_312_8) := by
  have h : loopsOf l_312_8 = [] := by kernel_rfl
  rw [h]
  exact LpTOk.nil
noncomputable def G_312_8 (r8 : Ty.El I) (r9 : Ty.El I) (r12 : Ty.El I) (b0 : List (Ty.El tPair)) : Option (LD_312_8.El ⊕ (LA_312_8.El ⊕ LB_312_8.El)) := bif Decidable.decide (r12 ≥ (0 : Int)) then bif Decidable.decide ((0 : Int) ≤ Go.IntKind.i64.wrap (r8 + r12) ∧ Go.IntKind.i64.wrap (r8 + r12) < (↑b0.length : Int)) then bif Decidable.decide ((0 : Int) ≤ r8 ∧ r8 < (↑b0.length : Int)) then bif Decidable.decide ((0 : Int) ≤ r8 ∧ r8 < (↑b0.length : Int)) then bif Decidable.decide ((0 : Int) ≤ Go.IntKind.i64.wrap (r8 + r12) ∧ Go.IntKind.i64.wrap (r8 + r12) < (↑(b0.set (Int.toNat r8) (b0.getD (Go.IntKind.i64.wrap (r8 + r12)).toNat Go.DI.S.tPair.dflt)).length : Int)) then (F_327 r9 r12 r8 ((b0.set (Int.toNat r8) (b0.getD (Go.IntKind.i64.wrap (r8 + r12)).toNat Go.DI.S.tPair.dflt)).set (Go.IntKind.i64.wrap (r8 + r12)).toNat (b0.getD (Int.toNat r8) Go.DI.S.tPair.dflt))).bind fun v2 => Option.some (Sum.inl (((), (), r8, r9, Go.IntKind.i64.wrap (r12 - (1 : Int)), ()), v2.snd.fst, ())) else Option.none else Option.none else Option.none else Option.none else Option.some (Sum.inr (Sum.inl ((), b0, ())))
theorem g_312_8 (x : LD_312_8.El) : codeT (CTp 1) T_312 (drT (CTp 1) T_312) lpi_312_8 l_312_8 (LD_312_8.enc x) (bodyK (LD_312_8.lay []) EX_312_8) = G_312_8 x.1.2.2.1 x.1.2.2.2.1 x.1.2.2.2.2.1 x.2.1 := by kernel_rfl
noncomputable def R_312_8 : LD_312_8.El → Option (LA_312_8.El ⊕ LB_312_8.El) := roundsT (fun x => G_312_8 x.1.2.2.1 x.1.2.2.2.1 x.1.2.2.2.2.1 x.2.1) fuel
theorem r_312_8 : ∀ x y, R_312_8 x = some y → CL (CTp 1) l_312_8 (LD_312_8.enc x) (Sum.elim (fun _ => EX_312_8.xa) (fun _ => EX_312_8.xb) y) (Sum.elim EX_312_8.la.enc EX_312_8.lb.enc y) :=
  rounds_ok (L := LD_312_8.lay []) (E := EX_312_8) (CTp_ok 1) T_312_ok (drT_ok (CTp_ok 1) T_312_ok) lpi_312_8_ok g_312_8 rfl rfl (fun v h => by have hh : (.exit 2 : AX) = .pan v := h; cases hh) (fun v h => by have hh : (.ret : AX) = .pan v := h; cases hh) fuel
noncomputable def lp_312 {β : Type} : LpT β := fun k s K => if Nat.beq k 4 then lpOne (LD_312_4.lay []) EX_312_4 R_312_4 s K else if Nat.beq k 8 then lpOne (LD_312_8.lay []) EX_312_8 R_312_8 s K else none
theorem lp_312_ok {β : Type} : LpTOk (CTp 1) (lp_312 (β := β)) (loopsOf c_312) := by
  have h : loopsOf c_312 = [(4, l_312_4), (8, l_312_8)] := by kernel_rfl
  rw [h]
  exact LpTOk.cons (fun s K z h => lpOne_ok r_312_4 h) (LpTOk.cons (fun s K z h => lpOne_ok r_312_8 h) (LpTOk.nil))
noncomputable def F_312 (a1 : Ty.El I) (a2 : Ty.El I) (b0 : List (Ty.El tPair)) : Option OUT_312.El := (R_312_4 (((), (), a1, (0 : Int), Go.IntKind.i64.wrap (a2 - a1), Go.IntKind.i64.wrap ((Go.IntKind.i64.wrap (Go.IntKind.i64.wrap (a2 - a1) - (1 : Int))).tdiv (2 : Int)), ()), b0, ())).bind fun v1 => Sum.elim (fun v2 => (R_312_8 (((), (), v2.fst.snd.snd.fst, v2.fst.snd.snd.snd.fst, Go.IntKind.i64.wrap (v2.fst.snd.snd.snd.snd.fst - (1 : Int)), ()), v2.snd.fst, ())).bind fun v3 => Sum.elim (fun v4 => Option.some ((), v4.snd.fst, ())) (fun v5 => Option.none) v3) (fun v6 => Option.none) v1
theorem f_312 (x : IN_312.El) : funcX (CTp 1) T_312 IN_312 OUT_312 [] (drT (CTp 1) T_312) lp_312 Tryz.f312 c_312 x = F_312 x.1.2.1 x.1.2.2.1 x.2.1 := by kernel_rfl
noncomputable def E_312 : Ent := .mkGen 312 [236] ⟨1, [.nilReg 0 204 tPair, .rowReg 0 204 tPair], IN_312, OUT_312, fun x => F_312 x.1.2.1 x.1.2.2.1 x.2.1⟩
theorem e_312 : E_312.Ok CT.P := Ent.ofGen (C := (CTp 1)) (steps := [.nilReg 0 204 tPair, .rowReg 0 204 tPair]) (osteps := []) (CTp_ok 1) T_312_ok hf_312 hb_312 lp_312_ok f_312
end Go.DI.S

