import Derived.Test.YtbjldjihpekhaaaGreatMb
/- Groups; what a command's worker does: told by functions on data. No conditions. -/
set_option linter.unusedVariables false
set_option maxRecDepth 100000
set_option maxHeartbeats 0
namespace Go.DI.S
open Go.Proofs
noncomputable def c_101 : Code := Tryz.f227.body.getD .skip
theorem hb_101 : Tryz.f227.body = some c_101 := by kernel_rfl
theorem hf_101 : CT.P.funcs[227]? = some Tryz.f227 := by kernel_rfl
noncomputable def T_101 : Tb := mkTb tyT mpT []
theorem T_101_ok : T_101.Ok CT.P := mkTb_ok (trivial)
noncomputable def l_101_2 : Code := atLoop c_101 2
noncomputable abbrev LD_101_2 : LayD := ⟨19, [(0, .data (.list I)), (1, .data I), (7, .data I), (8, .data I)], [], fun _ => []⟩
noncomputable abbrev LA_101_2 : LayD := ⟨19, [], [], fun _ => []⟩
noncomputable abbrev LB_101_2 : LayD := ⟨19, [(4, .data I)], [], fun _ => []⟩
noncomputable def EX_101_2 : Exits 0 LA_101_2.El LB_101_2.El := ⟨.exit 0, LA_101_2.lay [], .ret, LB_101_2.lay []⟩
noncomputable def lpi_101_2 {β : Type} : LpT β := fun _ _ _ => none
theorem lpi_101_2_ok {β : Type} : LpTOk CT (lpi_101_2 (β := β)) (loopsOf l_101_2) := by
  have h : loopsOf l_101_2 = [] := by kernel_rfl
  rw [h]
  exact LpTOk.nil
noncomputable def G_101_2 (r0 : Ty.El (.list I)) (r1 : Ty.El I) (r7 : Ty.El I) (r8 : Ty.El I) : Option (LD_101_2.El ⊕ (LA_101_2.El ⊕ LB_101_2.El)) := bif Decidable.decide (r8 < r7) then bif Decidable.decide ((0 : Int) ≤ r8 ∧ r8 < (↑(List.length r0) : Int)) then bif r1 == List.getD r0 (Int.toNat r8) (0 : Int) then Option.some (Sum.inr (Sum.inr ((r8, ()), ()))) else Option.some (Sum.inl ((r0, r1, r7, Go.IntKind.i64.wrap (r8 + (1 : Int)), ()), ())) else Option.none else Option.some (Sum.inr (Sum.inl ((), ())))
theorem g_101_2 (x : LD_101_2.El) : codeT CT T_101 (drT CT T_101) lpi_101_2 l_101_2 (LD_101_2.enc x) (bodyK (LD_101_2.lay []) EX_101_2) = G_101_2 x.1.1 x.1.2.1 x.1.2.2.1 x.1.2.2.2.1 := by kernel_rfl
noncomputable def R_101_2 : LD_101_2.El → Option (LA_101_2.El ⊕ LB_101_2.El) := roundsT (fun x => G_101_2 x.1.1 x.1.2.1 x.1.2.2.1 x.1.2.2.2.1) fuel
theorem r_101_2 : ∀ x y, R_101_2 x = some y → CL CT l_101_2 (LD_101_2.enc x) (Sum.elim (fun _ => EX_101_2.xa) (fun _ => EX_101_2.xb) y) (Sum.elim EX_101_2.la.enc EX_101_2.lb.enc y) :=
  rounds_ok (L := LD_101_2.lay []) (E := EX_101_2) CT_ok T_101_ok (drT_ok CT_ok T_101_ok) lpi_101_2_ok g_101_2 rfl rfl (fun v h => by have hh : (.exit 0 : AX) = .pan v := h; cases hh) (fun v h => by have hh : (.ret : AX) = .pan v := h; cases hh) fuel
noncomputable def lp_101 {β : Type} : LpT β := fun k s K => if Nat.beq k 2 then lpOne (LD_101_2.lay []) EX_101_2 R_101_2 s K else none
theorem lp_101_ok {β : Type} : LpTOk CT (lp_101 (β := β)) (loopsOf c_101) := by
  have h : loopsOf c_101 = [(2, l_101_2)] := by kernel_rfl
  rw [h]
  exact LpTOk.cons (fun s K z h => lpOne_ok r_101_2 h) (LpTOk.nil)
noncomputable def F_101 (a1 : Ty.El (.list I)) (a2 : Ty.El I) : Option (Els [I]) := (R_101_2 ((a1, a2, (↑(List.length a1) : Int), (0 : Int), ()), ())).bind fun v1 => Sum.elim (fun v2 => Option.some ((-1 : Int), ())) (fun v3 => Option.some (v3.fst.fst, ())) v1
theorem f_101 (x : Ps [.ty (.list I), .ty I]) : funcT CT T_101 [I] (drT CT T_101) lp_101 Tryz.f227 c_101 (encPs [.ty (.list I), .ty I] x) = F_101 x.1 x.2.1 := by kernel_rfl
noncomputable def E_101 : Ent := .fn 227 [] ⟨[.ty (.list I), .ty I], [I], fun x => F_101 x.1 x.2.1, false⟩
theorem e_101 : E_101.Ok CT.P := Ent.ofFn CT_ok T_101_ok hf_101 hb_101 lp_101_ok f_101
noncomputable def c_59 : Code := Tryz.f180.body.getD .skip
theorem hb_59 : Tryz.f180.body = some c_59 := by kernel_rfl
theorem hf_59 : CT.P.funcs[180]? = some Tryz.f180 := by kernel_rfl
noncomputable def T_59 : Tb := mkTb tyT mpT [E_101]
theorem T_59_ok : T_59.Ok CT.P := mkTb_ok (⟨e_101, trivial⟩)
noncomputable def lp_59 {β : Type} : LpT β := fun _ _ _ => none
theorem lp_59_ok {β : Type} : LpTOk CT (lp_59 (β := β)) (loopsOf c_59) := by
  have h : loopsOf c_59 = [] := by kernel_rfl
  rw [h]
  exact LpTOk.nil
noncomputable def F_59 (a1 : Ty.El (.list I)) (a2 : Ty.El I) : Option (Els [.bool]) := (F_101 a1 a2).bind fun v2 => Option.some (Decidable.decide (v2.fst ≥ (0 : Int)), ())
theorem f_59 (x : Ps [.ty (.list I), .ty I]) : funcT CT T_59 [.bool] (drT CT T_59) lp_59 Tryz.f180 c_59 (encPs [.ty (.list I), .ty I] x) = F_59 x.1 x.2.1 := by kernel_rfl
noncomputable def E_59 : Ent := .fn 180 [] ⟨[.ty (.list I), .ty I], [.bool], fun x => F_59 x.1 x.2.1, false⟩
theorem e_59 : E_59.Ok CT.P := Ent.ofFn CT_ok T_59_ok hf_59 hb_59 lp_59_ok f_59
noncomputable def c_80 : Code := Tryz.f183.body.getD .skip
theorem hb_80 : Tryz.f183.body = some c_80 := by kernel_rfl
theorem hf_80 : CT.P.funcs[183]? = some Tryz.f183 := by kernel_rfl
noncomputable def T_80 : Tb := mkTb tyT mpT []
theorem T_80_ok : T_80.Ok CT.P := mkTb_ok (trivial)
noncomputable def lp_80 {β : Type} : LpT β := fun _ _ _ => none
theorem lp_80_ok {β : Type} : LpTOk CT (lp_80 (β := β)) (loopsOf c_80) := by
  have h : loopsOf c_80 = [] := by kernel_rfl
  rw [h]
  exact LpTOk.nil
noncomputable def F_80 (a1 : Ty.El I) (a2 : Ty.El tScene) : Option (Els [.bool]) := bif Decidable.decide (a1 < (1 : Int)) then Option.some (Bool.true, ()) else bif Decidable.decide (a1 > (1000000 : Int)) then Option.some (Bool.true, ()) else Option.some (a1 == a2.snd.fst, ())
theorem f_80 (x : Ps [.ty I, .roa tScene]) : funcT CT T_80 [.bool] (drT CT T_80) lp_80 Tryz.f183 c_80 (encPs [.ty I, .roa tScene] x) = F_80 x.1 x.2.1 := by kernel_rfl
noncomputable def E_80 : Ent := .fn 183 [] ⟨[.ty I, .roa tScene], [.bool], fun x => F_80 x.1 x.2.1, false⟩
theorem e_80 : E_80.Ok CT.P := Ent.ofFn CT_ok T_80_ok hf_80 hb_80 lp_80_ok f_80
noncomputable def c_120_80 : Code := Tryz.f224.body.getD .skip
theorem hb_120_80 : Tryz.f224.body = some c_120_80 := by kernel_rfl
theorem hf_120_80 : CT.P.funcs[224]? = some Tryz.f224 := by kernel_rfl
noncomputable def T_120_80 : Tb := mkTb tyT mpT [E_80]
theorem T_120_80_ok : T_120_80.Ok CT.P := mkTb_ok (⟨e_80, trivial⟩)
noncomputable def l_120_80_2 : Code := atLoop c_120_80 2
noncomputable abbrev LD_120_80_2 : LayD := ⟨19, [(0, .data (.list I)), (1, .clo 183 [tScene]), (7, .data I), (8, .data I)], [], fun _ => []⟩
noncomputable abbrev LA_120_80_2 : LayD := ⟨19, [], [], fun _ => []⟩
noncomputable abbrev LB_120_80_2 : LayD := ⟨19, [(4, .data I)], [], fun _ => []⟩
noncomputable def EX_120_80_2 : Exits 0 LA_120_80_2.El LB_120_80_2.El := ⟨.exit 0, LA_120_80_2.lay [], .ret, LB_120_80_2.lay []⟩
noncomputable def lpi_120_80_2 {β : Type} : LpT β := fun _ _ _ => none
theorem lpi_120_80_2_ok {β : Type} : LpTOk CT (lpi_120_80_2 (β := β)) (loopsOf l_120_80_2) := by
  have h : loopsOf l_120_80_2 = [] := by kernel_rfl
  rw [h]
  exact LpTOk.nil
noncomputable def G_120_80_2 (r0 : Ty.El (.list I)) (r1 : Els [tScene]) (r7 : Ty.El I) (r8 : Ty.El I) : Option (LD_120_80_2.El ⊕ (LA_120_80_2.El ⊕ LB_120_80_2.El)) := bif Decidable.decide (r8 < r7) then bif Decidable.decide ((0 : Int) ≤ r8 ∧ r8 < (↑(List.length r0) : Int)) then (F_80 (List.getD r0 (Int.toNat r8) (0 : Int)) r1.fst).bind fun v2 => bif v2.fst then Option.some (Sum.inr (Sum.inr ((r8, ()), ()))) else Option.some (Sum.inl ((r0, (r1.fst, ()), r7, Go.IntKind.i64.wrap (r8 + (1 : Int)), ()), ())) else Option.none else Option.some (Sum.inr (Sum.inl ((), ())))
theorem g_120_80_2 (x : LD_120_80_2.El) : codeT CT T_120_80 (drT CT T_120_80) lpi_120_80_2 l_120_80_2 (LD_120_80_2.enc x) (bodyK (LD_120_80_2.lay []) EX_120_80_2) = G_120_80_2 x.1.1 x.1.2.1 x.1.2.2.1 x.1.2.2.2.1 := by kernel_rfl
noncomputable def R_120_80_2 : LD_120_80_2.El → Option (LA_120_80_2.El ⊕ LB_120_80_2.El) := roundsT (fun x => G_120_80_2 x.1.1 x.1.2.1 x.1.2.2.1 x.1.2.2.2.1) fuel
theorem r_120_80_2 : ∀ x y, R_120_80_2 x = some y → CL CT l_120_80_2 (LD_120_80_2.enc x) (Sum.elim (fun _ => EX_120_80_2.xa) (fun _ => EX_120_80_2.xb) y) (Sum.elim EX_120_80_2.la.enc EX_120_80_2.lb.enc y) :=
  rounds_ok (L := LD_120_80_2.lay []) (E := EX_120_80_2) CT_ok T_120_80_ok (drT_ok CT_ok T_120_80_ok) lpi_120_80_2_ok g_120_80_2 rfl rfl (fun v h => by have hh : (.exit 0 : AX) = .pan v := h; cases hh) (fun v h => by have hh : (.ret : AX) = .pan v := h; cases hh) fuel
noncomputable def lp_120_80 {β : Type} : LpT β := fun k s K => if Nat.beq k 2 then lpOne (LD_120_80_2.lay []) EX_120_80_2 R_120_80_2 s K else none
theorem lp_120_80_ok {β : Type} : LpTOk CT (lp_120_80 (β := β)) (loopsOf c_120_80) := by
  have h : loopsOf c_120_80 = [(2, l_120_80_2)] := by kernel_rfl
  rw [h]
  exact LpTOk.cons (fun s K z h => lpOne_ok r_120_80_2 h) (LpTOk.nil)
noncomputable def F_120_80 (a1 : Ty.El (.list I)) (a2 : Els [tScene]) : Option (Els [I]) := (R_120_80_2 ((a1, (a2.fst, ()), (↑(List.length a1) : Int), (0 : Int), ()), ())).bind fun v1 => Sum.elim (fun v2 => Option.some ((-1 : Int), ())) (fun v3 => Option.some (v3.fst.fst, ())) v1
theorem f_120_80 (x : Ps [.ty (.list I), .clo 183 [tScene]]) : funcT CT T_120_80 [I] (drT CT T_120_80) lp_120_80 Tryz.f224 c_120_80 (encPs [.ty (.list I), .clo 183 [tScene]] x) = F_120_80 x.1 x.2.1 := by kernel_rfl
noncomputable def E_120_80 : Ent := .fn 224 [183] ⟨[.ty (.list I), .clo 183 [tScene]], [I], fun x => F_120_80 x.1 x.2.1, false⟩
theorem e_120_80 : E_120_80.Ok CT.P := Ent.ofFn CT_ok T_120_80_ok hf_120_80 hb_120_80 lp_120_80_ok f_120_80
noncomputable def c_79_80 : Code := Tryz.f182.body.getD .skip
theorem hb_79_80 : Tryz.f182.body = some c_79_80 := by kernel_rfl
theorem hf_79_80 : CT.P.funcs[182]? = some Tryz.f182 := by kernel_rfl
noncomputable def T_79_80 : Tb := mkTb tyT mpT [E_120_80]
theorem T_79_80_ok : T_79_80.Ok CT.P := mkTb_ok (⟨e_120_80, trivial⟩)
noncomputable def lp_79_80 {β : Type} : LpT β := fun _ _ _ => none
theorem lp_79_80_ok {β : Type} : LpTOk CT (lp_79_80 (β := β)) (loopsOf c_79_80) := by
  have h : loopsOf c_79_80 = [] := by kernel_rfl
  rw [h]
  exact LpTOk.nil
noncomputable def F_79_80 (a1 : Ty.El (.list I)) (a2 : Els [tScene]) : Option (Els [.bool]) := (F_120_80 a1 (a2.fst, ())).bind fun v2 => Option.some (Decidable.decide (v2.fst ≥ (0 : Int)), ())
theorem f_79_80 (x : Ps [.ty (.list I), .clo 183 [tScene]]) : funcT CT T_79_80 [.bool] (drT CT T_79_80) lp_79_80 Tryz.f182 c_79_80 (encPs [.ty (.list I), .clo 183 [tScene]] x) = F_79_80 x.1 x.2.1 := by kernel_rfl
noncomputable def E_79_80 : Ent := .fn 182 [183] ⟨[.ty (.list I), .clo 183 [tScene]], [.bool], fun x => F_79_80 x.1 x.2.1, false⟩
theorem e_79_80 : E_79_80.Ok CT.P := Ent.ofFn CT_ok T_79_80_ok hf_79_80 hb_79_80 lp_79_80_ok f_79_80
noncomputable def c_41w : Code := Tryz.f136.body.getD .skip
theorem hb_41w : Tryz.f136.body = some c_41w := by kernel_rfl
theorem hf_41w : CT.P.funcs[136]? = some Tryz.f136 := by kernel_rfl
noncomputable def T_41w : Tb := mkTb tyT mpT [E_18w, E_20, E_46o, E_74, E_78, E_79_80]
theorem T_41w_ok : T_41w.Ok CT.P := mkTb_ok (⟨e_18w, e_20, e_46o, e_74, e_78, e_79_80, trivial⟩)
noncomputable def lp_41w {β : Type} : LpT β := fun _ _ _ => none
theorem lp_41w_ok {β : Type} : LpTOk CT (lp_41w (β := β)) (loopsOf c_41w) := by
  have h : loopsOf c_41w = [] := by kernel_rfl
  rw [h]
  exact LpTOk.nil
noncomputable def F_41w (a1 : Ty.El tScene) (a2 : Ty.El (.list I)) : Option (Els [tScene, I, I]) := (F_46o a2).bind fun v2 => (F_74 v2).bind fun v4 => (F_20 a1).bind fun v6 => bif !v6.fst then Option.some ((((0 : Int), (0 : Int)), (0 : Int), []), (0 : Int), (9 : Int), ()) else bif Decidable.decide ((↑(List.length v4.snd.fst) : Int) < (1 : Int)) then Option.some ((((0 : Int), (0 : Int)), (0 : Int), []), (0 : Int), (9 : Int), ()) else bif Decidable.decide ((↑(List.length v4.snd.fst) : Int) > (8 : Int)) then Option.some ((((0 : Int), (0 : Int)), (0 : Int), []), (0 : Int), (9 : Int), ()) else (F_46o v4.snd.fst).bind fun v18 => (F_78 v18).bind fun v21 => bif Decidable.decide ((↑v21.length : Int) < (↑(List.length v4.snd.fst) : Int)) then Option.some ((((0 : Int), (0 : Int)), (0 : Int), []), (0 : Int), (9 : Int), ()) else (F_79_80 v4.snd.fst (a1, ())).bind fun v33 => bif v33.fst then Option.some ((((0 : Int), (0 : Int)), (0 : Int), []), (0 : Int), (9 : Int), ()) else bif Decidable.decide (a1.snd.fst > (1000000 : Int)) then Option.some ((((0 : Int), (0 : Int)), (0 : Int), []), (0 : Int), (12 : Int), ()) else (F_18w (a1.fst, Go.IntKind.i64.wrap (a1.snd.fst + (1 : Int)), a1.snd.snd) (a1.snd.fst, (3 : Int), ((0 : Int), ((0 : Int), (0 : Int)), (0 : Int), ((0 : Int), (0 : Int)), (0 : Int), (0 : Int)), ((0 : Int), (0 : Int), (0 : Int)), v4.snd.fst)).bind fun v37 => bif v37.snd.fst != (0 : Int) then Option.some ((((0 : Int), (0 : Int)), (0 : Int), []), (0 : Int), v37.snd.fst, ()) else Option.some (v37.fst, a1.snd.fst, (0 : Int), ())
theorem f_41w (x : Ps [.ty tScene, .ty (.list I)]) : funcT CT T_41w [tScene, I, I] (drT CT T_41w) lp_41w Tryz.f136 c_41w (encPs [.ty tScene, .ty (.list I)] x) = F_41w x.1 x.2.1 := by kernel_rfl
noncomputable def E_41w : Ent := .fn 136 [] ⟨[.ty tScene, .ty (.list I)], [tScene, I, I], fun x => F_41w x.1 x.2.1, false⟩
theorem e_41w : E_41w.Ok CT.P := Ent.ofFn CT_ok T_41w_ok hf_41w hb_41w lp_41w_ok f_41w
noncomputable def c_by : Code := Tryz.f139.body.getD .skip
theorem hb_by : Tryz.f139.body = some c_by := by kernel_rfl
theorem hf_by : CT.P.funcs[139]? = some Tryz.f139 := by kernel_rfl
noncomputable def T_by : Tb := mkTb tyT mpT []
theorem T_by_ok : T_by.Ok CT.P := mkTb_ok (trivial)
noncomputable def lp_by {β : Type} : LpT β := fun _ _ _ => none
theorem lp_by_ok {β : Type} : LpTOk CT (lp_by (β := β)) (loopsOf c_by) := by
  have h : loopsOf c_by = [] := by kernel_rfl
  rw [h]
  exact LpTOk.nil
noncomputable def F_by (a1 : Ty.El tWorker) : Option (Els [tVec]) := Option.some ((a1.snd.snd.fst, a1.snd.snd.snd.fst), ())
theorem f_by (x : Ps [.roa tWorker]) : funcT CT T_by [tVec] (drT CT T_by) lp_by Tryz.f139 c_by (encPs [.roa tWorker] x) = F_by x.1 := by kernel_rfl
noncomputable def E_by : Ent := .fn 139 [] ⟨[.roa tWorker], [tVec], fun x => F_by x.1, false⟩
theorem e_by : E_by.Ok CT.P := Ent.ofFn CT_ok T_by_ok hf_by hb_by lp_by_ok f_by
noncomputable def c_body : Code := Tryz.f132.body.getD .skip
theorem hb_body : Tryz.f132.body = some c_body := by kernel_rfl
theorem hf_body : CT.P.funcs[132]? = some Tryz.f132 := by kernel_rfl
noncomputable abbrev IN_body : LayD := ⟨1, [(0, .ptr 0)], [.var 140 [.data tWorker]], fun s => [slotR s 0]⟩
noncomputable abbrev OUT_body : LayD := ⟨1, [(0, .data tThing)], [.var 140 [.data tWorker]], fun _ => [0]⟩
noncomputable def T_body : Tb := mkTb tyT mpT [E_by]
theorem T_body_ok : T_body.Ok CT.P := mkTb_ok (⟨e_by, trivial⟩)
noncomputable def lp_body {β : Type} : LpT β := fun _ _ _ => none
theorem lp_body_ok {β : Type} : LpTOk (CTp 1) (lp_body (β := β)) (loopsOf c_body) := by
  have h : loopsOf c_body = [] := by kernel_rfl
  rw [h]
  exact LpTOk.nil
noncomputable def F_body (b0 : Ty.El tWorker × Unit) : Option OUT_body.El := (F_by b0.fst).bind fun v2 => Option.some ((((0 : Int), (1 : Int), (b0.fst.snd.fst.snd.snd.snd.fst, (b0.fst.snd.snd.snd.snd.fst, b0.fst.snd.snd.snd.snd.snd.fst), b0.fst.snd.snd.snd.snd.snd.snd, v2.fst, (0 : Int), (0 : Int)), ((0 : Int), (0 : Int), (0 : Int)), []), ()), (b0.fst, ()), ())
theorem f_body (x : IN_body.El) : funcX (CTp 1) T_body IN_body OUT_body [] (drT (CTp 1) T_body) lp_body Tryz.f132 c_body x = F_body x.2.1 := by kernel_rfl
noncomputable def E_body : Ent := .mkGen 132 [] ⟨1, [], IN_body, OUT_body, fun x => F_body x.2.1⟩
theorem e_body : E_body.Ok CT.P := Ent.ofGen (C := (CTp 1)) (steps := []) (osteps := []) (CTp_ok 1) T_body_ok hf_body hb_body lp_body_ok f_body
noncomputable def c_make : Code := Tryz.f131.body.getD .skip
theorem hb_make : Tryz.f131.body = some c_make := by kernel_rfl
theorem hf_make : CT.P.funcs[131]? = some Tryz.f131 := by kernel_rfl
noncomputable abbrev IN_make : LayD := ⟨2, [(0, .ptr 0), (1, .data tThing)], [.var 140 [.data tWorker]], fun s => [slotR s 0]⟩
noncomputable abbrev OUT_make : LayD := ⟨3, [(0, .data tScene), (1, .data I), (2, .data I)], [.var 140 [.data tWorker]], fun _ => [0]⟩
noncomputable def T_make : Tb := mkTb tyT mpT [E_45, E_18w]
theorem T_make_ok : T_make.Ok CT.P := mkTb_ok (⟨e_45, e_18w, trivial⟩)
noncomputable def lp_make {β : Type} : LpT β := fun _ _ _ => none
theorem lp_make_ok {β : Type} : LpTOk (CTp 1) (lp_make (β := β)) (loopsOf c_make) := by
  have h : loopsOf c_make = [] := by kernel_rfl
  rw [h]
  exact LpTOk.nil
noncomputable def F_make (a1 : Ty.El tThing) (b0 : Ty.El tWorker × Unit) : Option OUT_make.El := (F_45 (if (1000000 : Int) < b0.fst.fst.snd.fst then (1000000 : Int) else b0.fst.fst.snd.fst, a1.snd)).bind fun v2 => bif !v2.fst then Option.some ((b0.fst.fst, (0 : Int), (9 : Int), ()), (b0.fst, ()), ()) else bif Decidable.decide (b0.fst.fst.snd.fst > (1000000 : Int)) then Option.some ((b0.fst.fst, (0 : Int), (12 : Int), ()), (b0.fst, ()), ()) else (F_18w (b0.fst.fst.fst, Go.IntKind.i64.wrap (b0.fst.fst.snd.fst + (1 : Int)), b0.fst.fst.snd.snd) (if (1000000 : Int) < b0.fst.fst.snd.fst then (1000000 : Int) else b0.fst.fst.snd.fst, a1.snd)).bind fun v4 => Option.some ((v4.fst, if (1000000 : Int) < b0.fst.fst.snd.fst then (1000000 : Int) else b0.fst.fst.snd.fst, v4.snd.fst, ()), (b0.fst, ()), ())
theorem f_make (x : IN_make.El) : funcX (CTp 1) T_make IN_make OUT_make [] (drT (CTp 1) T_make) lp_make Tryz.f131 c_make x = F_make x.1.2.1 x.2.1 := by kernel_rfl
noncomputable def E_make : Ent := .mkGen 131 [] ⟨1, [], IN_make, OUT_make, fun x => F_make x.1.2.1 x.2.1⟩
theorem e_make : E_make.Ok CT.P := Ent.ofGen (C := (CTp 1)) (steps := []) (osteps := []) (CTp_ok 1) T_make_ok hf_make hb_make lp_make_ok f_make
noncomputable def c_readw : Code := Tryz.f89.body.getD .skip
theorem hb_readw : Tryz.f89.body = some c_readw := by kernel_rfl
theorem hf_readw : CT.P.funcs[89]? = some Tryz.f89 := by kernel_rfl
noncomputable abbrev IN_readw : LayD := ⟨1, [(0, .ptr 0)], [.var 140 [.data tWorker]], fun s => [slotR s 0]⟩
noncomputable abbrev OUT_readw : LayD := ⟨1, [(0, .data I)], [.var 140 [.data tWorker]], fun _ => [0]⟩
noncomputable def T_readw : Tb := mkTb tyT mpT [E_realsw, E_get]
theorem T_readw_ok : T_readw.Ok CT.P := mkTb_ok (⟨e_realsw, e_get, trivial⟩)
noncomputable def l_readw_4 : Code := atLoop c_readw 4
noncomputable def lpi_readw_4 {β : Type} : LpT β := fun _ _ _ => none
theorem lpi_readw_4_ok {β : Type} : LpTOk (CTp 1) (lpi_readw_4 (β := β)) (loopsOf l_readw_4) := by
  have h : loopsOf l_readw_4 = [] := by kernel_rfl
  rw [h]
  exact LpTOk.nil
noncomputable def lp_readw {β : Type} : LpT β := fun k s K => if Nat.beq k 4 then lpUn (CTp 1) T_readw (drT (CTp 1) T_readw) (lpi_readw_4) l_readw_4 7 s K else none
theorem lp_readw_ok {β : Type} : LpTOk (CTp 1) (lp_readw (β := β)) (loopsOf c_readw) := by
  have h : loopsOf c_readw = [(4, l_readw_4)] := by kernel_rfl
  rw [h]
  exact LpTOk.cons (fun s K z h => lpUn_ok (CTp_ok 1) T_readw_ok (drT_ok (CTp_ok 1) T_readw_ok) lpi_readw_4_ok h) (LpTOk.nil)
noncomputable def F_readw (b0 : Ty.El tWorker × Unit) : Option OUT_readw.El := bif b0.fst.snd.fst.fst == (1 : Int) then (F_realsw (b0.fst, ())).bind fun v2 => (F_get v2.snd.fst.fst.snd.fst.snd.snd.snd.snd.fst).bind fun v6 => bif v6.snd.fst != (0 : Int) then Option.some ((v6.snd.fst, ()), (v2.snd.fst.fst, ()), ()) else (F_get v2.snd.fst.fst.snd.fst.snd.snd.snd.snd.snd.fst).bind fun v12 => bif v12.snd.fst != (0 : Int) then Option.some ((v12.snd.fst, ()), ((v2.snd.fst.fst.fst, v2.snd.fst.fst.snd.fst, v6.fst, v2.snd.fst.fst.snd.snd.snd), ()), ()) else (F_get v2.snd.fst.fst.snd.fst.snd.snd.snd.snd.snd.snd.fst).bind fun v22 => bif v22.snd.fst != (0 : Int) then Option.some ((v22.snd.fst, ()), ((v2.snd.fst.fst.fst, v2.snd.fst.fst.snd.fst, v6.fst, v12.fst, v2.snd.fst.fst.snd.snd.snd.snd), ()), ()) else bif v2.snd.fst.fst.snd.fst.snd.snd.snd.fst == (1 : Int) then (F_get v2.snd.fst.fst.snd.fst.snd.snd.snd.snd.snd.snd.snd.snd.fst).bind fun v34 => bif v34.snd.fst != (0 : Int) then Option.some ((v34.snd.fst, ()), ((v2.snd.fst.fst.fst, v2.snd.fst.fst.snd.fst, v6.fst, v12.fst, v22.fst, v2.snd.fst.fst.snd.snd.snd.snd.snd), ()), ()) else Option.some (((0 : Int), ()), ((v2.snd.fst.fst.fst, v2.snd.fst.fst.snd.fst, v6.fst, v12.fst, v22.fst, v2.snd.fst.fst.snd.snd.snd.snd.snd.fst, v34.fst), ()), ()) else (F_get v2.snd.fst.fst.snd.fst.snd.snd.snd.snd.snd.snd.snd.fst).bind fun v50 => bif v50.snd.fst != (0 : Int) then Option.some ((v50.snd.fst, ()), ((v2.snd.fst.fst.fst, v2.snd.fst.fst.snd.fst, v6.fst, v12.fst, v22.fst, v2.snd.fst.fst.snd.snd.snd.snd.snd), ()), ()) else (F_get v2.snd.fst.fst.snd.fst.snd.snd.snd.snd.snd.snd.snd.snd.fst).bind fun v60 => bif v60.snd.fst != (0 : Int) then Option.some ((v60.snd.fst, ()), ((v2.snd.fst.fst.fst, v2.snd.fst.fst.snd.fst, v6.fst, v12.fst, v22.fst, v50.fst, v2.snd.fst.fst.snd.snd.snd.snd.snd.snd), ()), ()) else Option.some (((0 : Int), ()), ((v2.snd.fst.fst.fst, v2.snd.fst.fst.snd.fst, v6.fst, v12.fst, v22.fst, v50.fst, v60.fst), ()), ()) else bif b0.fst.snd.fst.fst == (3 : Int) then (F_realsw (b0.fst, ())).bind fun v72 => (F_get v72.snd.fst.fst.snd.fst.snd.snd.snd.snd.fst).bind fun v76 => bif v76.snd.fst != (0 : Int) then Option.some ((v76.snd.fst, ()), (v72.snd.fst.fst, ()), ()) else (F_get v72.snd.fst.fst.snd.fst.snd.snd.snd.snd.snd.fst).bind fun v82 => bif v82.snd.fst != (0 : Int) then Option.some ((v82.snd.fst, ()), ((v72.snd.fst.fst.fst, v72.snd.fst.fst.snd.fst, v76.fst, v72.snd.fst.fst.snd.snd.snd), ()), ()) else Option.some (((0 : Int), ()), ((v72.snd.fst.fst.fst, v72.snd.fst.fst.snd.fst, v76.fst, v82.fst, v72.snd.fst.fst.snd.snd.snd.snd), ()), ()) else bif b0.fst.snd.fst.fst == (4 : Int) then (F_realsw (b0.fst, ())).bind fun v96 => (F_get v96.snd.fst.fst.snd.fst.snd.snd.snd.snd.snd.snd.fst).bind fun v100 => bif v100.snd.fst != (0 : Int) then Option.some ((v100.snd.fst, ()), (v96.snd.fst.fst, ()), ()) else Option.some (((0 : Int), ()), ((v96.snd.fst.fst.fst, v96.snd.fst.fst.snd.fst, v96.snd.fst.fst.snd.snd.fst, v96.snd.fst.fst.snd.snd.snd.fst, v100.fst, v96.snd.fst.fst.snd.snd.snd.snd.snd), ()), ()) else bif b0.fst.snd.fst.fst == (7 : Int) then (F_realsw (b0.fst, ())).bind fun v114 => (F_get v114.snd.fst.fst.snd.fst.snd.snd.snd.snd.fst).bind fun v118 => bif v118.snd.fst != (0 : Int) then Option.some ((v118.snd.fst, ()), (v114.snd.fst.fst, ()), ()) else (F_get v114.snd.fst.fst.snd.fst.snd.snd.snd.snd.snd.fst).bind fun v124 => bif v124.snd.fst != (0 : Int) then Option.some ((v124.snd.fst, ()), ((v114.snd.fst.fst.fst, v114.snd.fst.fst.snd.fst, v118.fst, v114.snd.fst.fst.snd.snd.snd), ()), ()) else Option.some (((0 : Int), ()), ((v114.snd.fst.fst.fst, v114.snd.fst.fst.snd.fst, v118.fst, v124.fst, v114.snd.fst.fst.snd.snd.snd.snd), ()), ()) else bif b0.fst.snd.fst.fst == (8 : Int) then (F_realsw (b0.fst, ())).bind fun v138 => (F_get v138.snd.fst.fst.snd.fst.snd.snd.snd.snd.fst).bind fun v142 => bif v142.snd.fst != (0 : Int) then Option.some ((v142.snd.fst, ()), (v138.snd.fst.fst, ()), ()) else (F_get v138.snd.fst.fst.snd.fst.snd.snd.snd.snd.snd.fst).bind fun v148 => bif v148.snd.fst != (0 : Int) then Option.some ((v148.snd.fst, ()), ((v138.snd.fst.fst.fst, v138.snd.fst.fst.snd.fst, v142.fst, v138.snd.fst.fst.snd.snd.snd), ()), ()) else Option.some (((0 : Int), ()), ((v138.snd.fst.fst.fst, v138.snd.fst.fst.snd.fst, v142.fst, v148.fst, v138.snd.fst.fst.snd.snd.snd.snd), ()), ()) else (F_realsw (b0.fst, ())).bind fun v162 => Option.some (((0 : Int), ()), (v162.snd.fst.fst, ()), ())
theorem f_readw (x : IN_readw.El) : funcX (CTp 1) T_readw IN_readw OUT_readw [] (drT (CTp 1) T_readw) lp_readw Tryz.f89 c_readw x = F_readw x.2.1 := by kernel_rfl
noncomputable def E_readw : Ent := .mkGen 89 [] ⟨1, [], IN_readw, OUT_readw, fun x => F_readw x.2.1⟩
theorem e_readw : E_readw.Ok CT.P := Ent.ofGen (C := (CTp 1)) (steps := []) (osteps := []) (CTp_ok 1) T_readw_ok hf_readw hb_readw lp_readw_ok f_readw
noncomputable def c_oown : Code := Tryz.f140.body.getD .skip
theorem hb_oown : Tryz.f140.body = some c_oown := by kernel_rfl
theorem hf_oown : CT.P.funcs[140]? = some Tryz.f140 := by kernel_rfl
noncomputable def T_oown : Tb := mkTb tyT mpT [E_90, E_46]
theorem T_oown_ok : T_oown.Ok CT.P := mkTb_ok (⟨e_90, e_46, trivial⟩)
noncomputable def l_oown_3 : Code := atLoop c_oown 3
noncomputable abbrev LD_oown_3 : LayD := ⟨23, [(0, .own tThing 0), (7, .own tThing 0), (8, .data I), (9, .data I)], [.row 68 tThing], fun s => [slotR s 0]⟩
noncomputable abbrev LA_oown_3 : LayD := ⟨23, [(0, .own tThing 0)], [.row 68 tThing], fun s => [slotR s 0]⟩
noncomputable abbrev LB_oown_3 : LayD := ⟨23, [], [], fun _ => []⟩
noncomputable def EX_oown_3 : Exits 0 LA_oown_3.El LB_oown_3.El := ⟨.exit 0, LA_oown_3.lay [], .ret, LB_oown_3.lay []⟩
noncomputable def lpi_oown_3 {β : Type} : LpT β := fun _ _ _ => none
theorem lpi_oown_3_ok {β : Type} : LpTOk CT (lpi_oown_3 (β := β)) (loopsOf l_oown_3) := by
  have h : loopsOf l_oown_3 = [] := by kernel_rfl
  rw [h]
  exact LpTOk.nil
noncomputable def G_oown_3 (r8 : Ty.El I) (r9 : Ty.El I) (b0 : List (Ty.El tThing)) : Option (LD_oown_3.El ⊕ (LA_oown_3.El ⊕ LB_oown_3.El)) := bif Decidable.decide (r9 < r8) then bif Decidable.decide ((0 : Int) ≤ r9 ∧ r9 < (↑b0.length : Int)) then (F_46 (b0.getD (Int.toNat r9) Go.DI.S.tThing.dflt).snd.snd.snd.snd).bind fun v2 => bif Decidable.decide ((0 : Int) ≤ r9 ∧ r9 < (↑b0.length : Int)) then Option.some (Sum.inl (((), (), r8, Go.IntKind.i64.wrap (r9 + (1 : Int)), ()), b0.set (Int.toNat r9) ((b0.getD (Int.toNat r9) Go.DI.S.tThing.dflt).fst, (b0.getD (Int.toNat r9) Go.DI.S.tThing.dflt).snd.fst, (b0.getD (Int.toNat r9) Go.DI.S.tThing.dflt).snd.snd.fst, (b0.getD (Int.toNat r9) Go.DI.S.tThing.dflt).snd.snd.snd.fst, v2.fst), ())) else Option.none else Option.none else Option.some (Sum.inr (Sum.inl (((), ()), b0, ())))
theorem g_oown_3 (x : LD_oown_3.El) : codeT CT T_oown (drT CT T_oown) lpi_oown_3 l_oown_3 (LD_oown_3.enc x) (bodyK (LD_oown_3.lay []) EX_oown_3) = G_oown_3 x.1.2.2.1 x.1.2.2.2.1 x.2.1 := by kernel_rfl
noncomputable def R_oown_3 : LD_oown_3.El → Option (LA_oown_3.El ⊕ LB_oown_3.El) := roundsT (fun x => G_oown_3 x.1.2.2.1 x.1.2.2.2.1 x.2.1) fuel
theorem r_oown_3 : ∀ x y, R_oown_3 x = some y → CL CT l_oown_3 (LD_oown_3.enc x) (Sum.elim (fun _ => EX_oown_3.xa) (fun _ => EX_oown_3.xb) y) (Sum.elim EX_oown_3.la.enc EX_oown_3.lb.enc y) :=
  rounds_ok (L := LD_oown_3.lay []) (E := EX_oown_3) CT_ok T_oown_ok (drT_ok CT_ok T_oown_ok) lpi_oown_3_ok g_oown_3 rfl rfl (fun v h => by have hh : (.exit 0 : AX) = .pan v := h; cases hh) (fun v h => by have hh : (.ret : AX) = .pan v := h; cases hh) fuel
noncomputable def lp_oown {β : Type} : LpT β := fun k s K => if Nat.beq k 3 then lpOne (LD_oown_3.lay []) EX_oown_3 R_oown_3 s K else none
theorem lp_oown_ok {β : Type} : LpTOk CT (lp_oown (β := β)) (loopsOf c_oown) := by
  have h : loopsOf c_oown = [(3, l_oown_3)] := by kernel_rfl
  rw [h]
  exact LpTOk.cons (fun s K z h => lpOne_ok r_oown_3 h) (LpTOk.nil)
noncomputable def F_oown (a1 : Ty.El (.list tThing)) : Option (List (Ty.El tThing)) := (F_90 a1).bind fun v2 => (R_oown_3 (((), (), (↑v2.length : Int), (0 : Int), ()), v2, ())).bind fun v4 => Sum.elim (fun v5 => Option.some v5.snd.fst) (fun v6 => Option.none) v4
theorem f_oown (x : Ps [.ty (.list tThing)]) : funcO CT T_oown 68 tThing (drT CT T_oown) lp_oown Tryz.f140 c_oown (encPs [.ty (.list tThing)] x) = F_oown x.1 := by kernel_rfl
noncomputable def E_oown : Ent := .own 140 [] ⟨[.ty (.list tThing)], 68, tThing, fun x => F_oown x.1⟩
theorem e_oown : E_oown.Ok CT.P := Ent.ofOwn CT_ok T_oown_ok hf_oown hb_oown lp_oown_ok f_oown
end Go.DI.S
set_option linter.unusedVariables false
set_option maxRecDepth 100000
set_option maxHeartbeats 0
namespace Go.DI.S
open Go.Proofs
noncomputable def c_cat : Code := Tryz.f184.body.getD .skip
theorem hb_cat : Tryz.f184.body = some c_cat := by kernel_rfl
theorem hf_cat : CT.P.funcs[184]? = some Tryz.f184 := by kernel_rfl
noncomputable def T_cat : Tb := mkTb tyT mpT [E_growi]
theorem T_cat_ok : T_cat.Ok CT.P := mkTb_ok (⟨e_growi, trivial⟩)
noncomputable def l_cat_11 : Code := atLoop c_cat 11
noncomputable def l_cat_3 : Code := atLoop c_cat 3
noncomputable abbrev LD_cat_3 : LayD := ⟨36, [(0, .data (.list (.list I))), (3, .data I), (9, .data (.list (.list I))), (10, .data I), (11, .data I)], [], fun _ => []⟩
noncomputable abbrev LA_cat_3 : LayD := ⟨36, [(0, .data (.list (.list I))), (3, .data I)], [], fun _ => []⟩
noncomputable abbrev LB_cat_3 : LayD := ⟨36, [], [], fun _ => []⟩
noncomputable def EX_cat_3 : Exits 0 LA_cat_3.El LB_cat_3.El := ⟨.exit 0, LA_cat_3.lay [], .ret, LB_cat_3.lay []⟩
noncomputable def lpi_cat_3 {β : Type} : LpT β := fun _ _ _ => none
theorem lpi_cat_3_ok {β : Type} : LpTOk CT (lpi_cat_3 (β := β)) (loopsOf l_cat_3) := by
  have h : loopsOf l_cat_3 = [] := by kernel_rfl
  rw [h]
  exact LpTOk.nil
noncomputable def G_cat_3 (r0 : Ty.El (.list (.list I))) (r3 : Ty.El I) (r9 : Ty.El (.list (.list I))) (r10 : Ty.El I) (r11 : Ty.El I) : Option (LD_cat_3.El ⊕ (LA_cat_3.El ⊕ LB_cat_3.El)) := bif Decidable.decide (r11 < r10) then bif Decidable.decide ((0 : Int) ≤ r11 ∧ r11 < (↑(List.length r9) : Int)) then bif Decidable.decide (Go.IntKind.i64.wrap (r3 + (↑(List.length (List.getD r9 (Int.toNat r11) Go.DI.S.I.list.dflt)) : Int)) < (0 : Int)) then Option.none else Option.some (Sum.inl ((r0, Go.IntKind.i64.wrap (r3 + (↑(List.length (List.getD r9 (Int.toNat r11) Go.DI.S.I.list.dflt)) : Int)), r9, r10, Go.IntKind.i64.wrap (r11 + (1 : Int)), ()), ())) else Option.none else Option.some (Sum.inr (Sum.inl ((r0, r3, ()), ())))
theorem g_cat_3 (x : LD_cat_3.El) : codeT CT T_cat (drT CT T_cat) lpi_cat_3 l_cat_3 (LD_cat_3.enc x) (bodyK (LD_cat_3.lay []) EX_cat_3) = G_cat_3 x.1.1 x.1.2.1 x.1.2.2.1 x.1.2.2.2.1 x.1.2.2.2.2.1 := by kernel_rfl
noncomputable def R_cat_3 : LD_cat_3.El → Option (LA_cat_3.El ⊕ LB_cat_3.El) := roundsT (fun x => G_cat_3 x.1.1 x.1.2.1 x.1.2.2.1 x.1.2.2.2.1 x.1.2.2.2.2.1) fuel
theorem r_cat_3 : ∀ x y, R_cat_3 x = some y → CL CT l_cat_3 (LD_cat_3.enc x) (Sum.elim (fun _ => EX_cat_3.xa) (fun _ => EX_cat_3.xb) y) (Sum.elim EX_cat_3.la.enc EX_cat_3.lb.enc y) :=
  rounds_ok (L := LD_cat_3.lay []) (E := EX_cat_3) CT_ok T_cat_ok (drT_ok CT_ok T_cat_ok) lpi_cat_3_ok g_cat_3 rfl rfl (fun v h => by have hh : (.exit 0 : AX) = .pan v := h; cases hh) (fun v h => by have hh : (.ret : AX) = .pan v := h; cases hh) fuel
noncomputable abbrev LD_cat_11 : LayD := ⟨36, [(6, .own I 0), (25, .data (.list (.list I))), (26, .data I), (27, .data I)], [.row 3 I], fun s => [slotR s 6]⟩
noncomputable abbrev LA_cat_11 : LayD := ⟨36, [(6, .own I 0)], [.row 3 I], fun s => [slotR s 6]⟩
noncomputable abbrev LB_cat_11 : LayD := ⟨36, [], [], fun _ => []⟩
noncomputable def EX_cat_11 : Exits 0 LA_cat_11.El LB_cat_11.El := ⟨.exit 2, LA_cat_11.lay [], .ret, LB_cat_11.lay []⟩
noncomputable def lpi_cat_11 {β : Type} : LpT β := fun _ _ _ => none
theorem lpi_cat_11_ok {β : Type} : LpTOk CT (lpi_cat_11 (β := β)) (loopsOf l_cat_11) := by
  have h : loopsOf l_cat_11 = [] := by kernel_rfl
  rw [h]
  exact LpTOk.nil
noncomputable def G_cat_11 (r25 : Ty.El (.list (.list I))) (r26 : Ty.El I) (r27 : Ty.El I) (b0 : List (Ty.El I)) : Option (LD_cat_11.El ⊕ (LA_cat_11.El ⊕ LB_cat_11.El)) := bif Decidable.decide (r27 < r26) then bif Decidable.decide ((0 : Int) ≤ r27 ∧ r27 < (↑(List.length r25) : Int)) then bif ((b0.length + List.length (List.getD r25 (Int.toNat r27) Go.DI.S.I.list.dflt)) * (8 : Nat)).ble (70368744177664 : Nat) then Option.some (Sum.inl (((), r25, r26, Go.IntKind.i64.wrap (r27 + (1 : Int)), ()), b0 ++ List.getD r25 (Int.toNat r27) Go.DI.S.I.list.dflt, ())) else Option.none else Option.none else Option.some (Sum.inr (Sum.inl (((), ()), b0, ())))
theorem g_cat_11 (x : LD_cat_11.El) : codeT CT T_cat (drT CT T_cat) lpi_cat_11 l_cat_11 (LD_cat_11.enc x) (bodyK (LD_cat_11.lay []) EX_cat_11) = G_cat_11 x.1.2.1 x.1.2.2.1 x.1.2.2.2.1 x.2.1 := by kernel_rfl
noncomputable def R_cat_11 : LD_cat_11.El → Option (LA_cat_11.El ⊕ LB_cat_11.El) := roundsT (fun x => G_cat_11 x.1.2.1 x.1.2.2.1 x.1.2.2.2.1 x.2.1) fuel
theorem r_cat_11 : ∀ x y, R_cat_11 x = some y → CL CT l_cat_11 (LD_cat_11.enc x) (Sum.elim (fun _ => EX_cat_11.xa) (fun _ => EX_cat_11.xb) y) (Sum.elim EX_cat_11.la.enc EX_cat_11.lb.enc y) :=
  rounds_ok (L := LD_cat_11.lay []) (E := EX_cat_11) CT_ok T_cat_ok (drT_ok CT_ok T_cat_ok) lpi_cat_11_ok g_cat_11 rfl rfl (fun v h => by have hh : (.exit 2 : AX) = .pan v := h; cases hh) (fun v h => by have hh : (.ret : AX) = .pan v := h; cases hh) fuel
noncomputable def lp_cat {β : Type} : LpT β := fun k s K => if Nat.beq k 3 then lpOne (LD_cat_3.lay []) EX_cat_3 R_cat_3 s K else if Nat.beq k 11 then lpOne (LD_cat_11.lay []) EX_cat_11 R_cat_11 s K else none
theorem lp_cat_ok {β : Type} : LpTOk CT (lp_cat (β := β)) (loopsOf c_cat) := by
  have h : loopsOf c_cat = [(3, l_cat_3), (11, l_cat_11)] := by kernel_rfl
  rw [h]
  exact LpTOk.cons (fun s K z h => lpOne_ok r_cat_3 h) (LpTOk.cons (fun s K z h => lpOne_ok r_cat_11 h) (LpTOk.nil))
noncomputable def F_cat (a1 : Ty.El (.list (.list I))) : Option (List (Ty.El I)) := (R_cat_3 ((a1, (0 : Int), a1, (↑(List.length a1) : Int), (0 : Int), ()), ())).bind fun v1 => Sum.elim (fun v2 => (F_growi () v2.fst.snd.fst).bind fun v4 => (R_cat_11 (((), v2.fst.fst, (↑(List.length v2.fst.fst) : Int), (0 : Int), ()), v4, ())).bind fun v5 => Sum.elim (fun v6 => Option.some v6.snd.fst) (fun v7 => Option.none) v5) (fun v8 => Option.none) v1
theorem f_cat (x : Ps [.ty (.list (.list I))]) : funcO CT T_cat 3 I (drT CT T_cat) lp_cat Tryz.f184 c_cat (encPs [.ty (.list (.list I))] x) = F_cat x.1 := by kernel_rfl
noncomputable def E_cat : Ent := .own 184 [] ⟨[.ty (.list (.list I))], 3, I, fun x => F_cat x.1⟩
theorem e_cat : E_cat.Ok CT.P := Ent.ofOwn CT_ok T_cat_ok hf_cat hb_cat lp_cat_ok f_cat
noncomputable def c_free1 : Code := Tryz.f185.body.getD .skip
theorem hb_free1 : Tryz.f185.body = some c_free1 := by kernel_rfl
theorem hf_free1 : CT.P.funcs[185]? = some Tryz.f185 := by kernel_rfl
noncomputable abbrev IN_free1 : LayD := ⟨2, [(0, .data I), (1, .ptr 0)], [.var 68 [.data tThing]], fun s => [slotR s 1]⟩
noncomputable abbrev OUT_free1 : LayD := ⟨1, [(0, .data .bool)], [.var 68 [.data tThing]], fun _ => [0]⟩
noncomputable def T_free1 : Tb := mkTb tyT mpT []
theorem T_free1_ok : T_free1.Ok CT.P := mkTb_ok (trivial)
noncomputable def lp_free1 {β : Type} : LpT β := fun _ _ _ => none
theorem lp_free1_ok {β : Type} : LpTOk (CTp 1) (lp_free1 (β := β)) (loopsOf c_free1) := by
  have h : loopsOf c_free1 = [] := by kernel_rfl
  rw [h]
  exact LpTOk.nil
noncomputable def F_free1 (a0 : Ty.El I) (b0 : Ty.El tThing × Unit) : Option OUT_free1.El := Option.some ((a0 == b0.fst.fst, ()), (b0.fst, ()), ())
theorem f_free1 (x : IN_free1.El) : funcX (CTp 1) T_free1 IN_free1 OUT_free1 [] (drT (CTp 1) T_free1) lp_free1 Tryz.f185 c_free1 x = F_free1 x.1.1 x.2.1 := by kernel_rfl
noncomputable def E_free1 : Ent := .mkGen 185 [] ⟨1, [], IN_free1, OUT_free1, fun x => F_free1 x.1.1 x.2.1⟩
theorem e_free1 : E_free1.Ok CT.P := Ent.ofGen (C := (CTp 1)) (steps := []) (osteps := []) (CTp_ok 1) T_free1_ok hf_free1 hb_free1 lp_free1_ok f_free1
noncomputable def c_idxf : Code := Tryz.f224.body.getD .skip
theorem hb_idxf : Tryz.f224.body = some c_idxf := by kernel_rfl
theorem hf_idxf : CT.P.funcs[224]? = some Tryz.f224 := by kernel_rfl
noncomputable abbrev IN_idxf : LayD := ⟨2, [(0, .own I 1), (1, .cloP 185 [0])], [.var 68 [.data tThing], .row 3 I], fun s => [slotF s 1, slotR s 0]⟩
noncomputable abbrev OUT_idxf : LayD := ⟨1, [(0, .data I)], [.var 68 [.data tThing], .row 3 I], fun _ => [0, 1]⟩
noncomputable def T_idxf : Tb := mkTb tyT mpT [E_free1]
theorem T_idxf_ok : T_idxf.Ok CT.P := mkTb_ok (⟨e_free1, trivial⟩)
noncomputable def l_idxf_2 : Code := atLoop c_idxf 2
noncomputable abbrev LD_idxf_2 : LayD := ⟨19, [(0, .own I 1), (1, .cloP 185 [0]), (7, .data I), (8, .data I)], [.var 68 [.data tThing], .row 3 I], fun s => [0, 1]⟩
noncomputable abbrev LA_idxf_2 : LayD := ⟨19, [], [.var 68 [.data tThing], .row 3 I], fun s => [0, 1]⟩
noncomputable abbrev LB_idxf_2 : LayD := ⟨19, [(4, .data I)], [.var 68 [.data tThing], .row 3 I], fun s => [0, 1]⟩
noncomputable def EX_idxf_2 : Exits 2 LA_idxf_2.El LB_idxf_2.El := ⟨.exit 0, LA_idxf_2.lay [], .ret, LB_idxf_2.lay []⟩
noncomputable def lpi_idxf_2 {β : Type} : LpT β := fun _ _ _ => none
theorem lpi_idxf_2_ok {β : Type} : LpTOk (CTp 2) (lpi_idxf_2 (β := β)) (loopsOf l_idxf_2) := by
  have h : loopsOf l_idxf_2 = [] := by kernel_rfl
  rw [h]
  exact LpTOk.nil
noncomputable def G_idxf_2 (r7 : Ty.El I) (r8 : Ty.El I) (b0 : Ty.El tThing × Unit) (b1 : List (Ty.El I)) : Option (LD_idxf_2.El ⊕ (LA_idxf_2.El ⊕ LB_idxf_2.El)) := bif Decidable.decide (r8 < r7) then bif Decidable.decide ((0 : Int) ≤ r8 ∧ r8 < (↑b1.length : Int)) then (F_free1 (b1.getD (Int.toNat r8) (0 : Int)) (b0.fst, ())).bind fun v2 => bif v2.fst.fst then Option.some (Sum.inr (Sum.inr ((r8, ()), (v2.snd.fst.fst, ()), b1, ()))) else Option.some (Sum.inl (((), (), r7, Go.IntKind.i64.wrap (r8 + (1 : Int)), ()), (v2.snd.fst.fst, ()), b1, ())) else Option.none else Option.some (Sum.inr (Sum.inl ((), (b0.fst, ()), b1, ())))
theorem g_idxf_2 (x : LD_idxf_2.El) : codeT (CTp 2) T_idxf (drT (CTp 2) T_idxf) lpi_idxf_2 l_idxf_2 (LD_idxf_2.enc x) (bodyK (LD_idxf_2.lay []) EX_idxf_2) = G_idxf_2 x.1.2.2.1 x.1.2.2.2.1 x.2.1 x.2.2.1 := by kernel_rfl
noncomputable def R_idxf_2 : LD_idxf_2.El → Option (LA_idxf_2.El ⊕ LB_idxf_2.El) := roundsT (fun x => G_idxf_2 x.1.2.2.1 x.1.2.2.2.1 x.2.1 x.2.2.1) fuel
theorem r_idxf_2 : ∀ x y, R_idxf_2 x = some y → CL (CTp 2) l_idxf_2 (LD_idxf_2.enc x) (Sum.elim (fun _ => EX_idxf_2.xa) (fun _ => EX_idxf_2.xb) y) (Sum.elim EX_idxf_2.la.enc EX_idxf_2.lb.enc y) :=
  rounds_ok (L := LD_idxf_2.lay []) (E := EX_idxf_2) (CTp_ok 2) T_idxf_ok (drT_ok (CTp_ok 2) T_idxf_ok) lpi_idxf_2_ok g_idxf_2 rfl rfl (fun v h => by have hh : (.exit 0 : AX) = .pan v := h; cases hh) (fun v h => by have hh : (.ret : AX) = .pan v := h; cases hh) fuel
noncomputable def lp_idxf {β : Type} : LpT β := fun k s K => if Nat.beq k 2 then lpOne (LD_idxf_2.lay []) EX_idxf_2 R_idxf_2 s K else none
theorem lp_idxf_ok {β : Type} : LpTOk (CTp 2) (lp_idxf (β := β)) (loopsOf c_idxf) := by
  have h : loopsOf c_idxf = [(2, l_idxf_2)] := by kernel_rfl
  rw [h]
  exact LpTOk.cons (fun s K z h => lpOne_ok r_idxf_2 h) (LpTOk.nil)
noncomputable def F_idxf (b0 : Ty.El tThing × Unit) (b1 : List (Ty.El I)) : Option OUT_idxf.El := (R_idxf_2 (((), (), (↑b1.length : Int), (0 : Int), ()), (b0.fst, ()), b1, ())).bind fun v1 => Sum.elim (fun v2 => Option.some (((-1 : Int), ()), (v2.snd.fst.fst, ()), v2.snd.snd.fst, ())) (fun v3 => Option.some ((v3.fst.fst, ()), (v3.snd.fst.fst, ()), v3.snd.snd.fst, ())) v1
theorem f_idxf (x : IN_idxf.El) : funcX (CTp 2) T_idxf IN_idxf OUT_idxf [] (drT (CTp 2) T_idxf) lp_idxf Tryz.f224 c_idxf x = F_idxf x.2.1 x.2.2.1 := by kernel_rfl
noncomputable def E_idxf : Ent := .mkGen 224 [185] ⟨2, [.nilReg 0 3 I, .rowReg 0 3 I], IN_idxf, OUT_idxf, fun x => F_idxf x.2.1 x.2.2.1⟩
theorem e_idxf : E_idxf.Ok CT.P := Ent.ofGen (C := (CTp 2)) (steps := [.nilReg 0 3 I, .rowReg 0 3 I]) (osteps := []) (CTp_ok 2) T_idxf_ok hf_idxf hb_idxf lp_idxf_ok f_idxf
noncomputable def c_delf : Code := Tryz.f175.body.getD .skip
theorem hb_delf : Tryz.f175.body = some c_delf := by kernel_rfl
theorem hf_delf : CT.P.funcs[175]? = some Tryz.f175 := by kernel_rfl
noncomputable abbrev IN_delf : LayD := ⟨2, [(0, .own I 1), (1, .cloP 185 [0])], [.var 68 [.data tThing], .row 3 I], fun s => [slotF s 1, slotR s 0]⟩
noncomputable abbrev OUT_delf : LayD := ⟨1, [(0, .own I 1)], [.var 68 [.data tThing], .row 3 I], fun s => [0, slotR s 0]⟩
noncomputable def T_delf : Tb := mkTb tyT mpT [E_idxf, E_free1]
theorem T_delf_ok : T_delf.Ok CT.P := mkTb_ok (⟨e_idxf, e_free1, trivial⟩)
noncomputable def l_delf_5 : Code := atLoop c_delf 5
noncomputable abbrev LD_delf_5 : LayD := ⟨42, [(0, .own I 1), (1, .cloP 185 [0]), (5, .data I), (6, .data I)], [.var 68 [.data tThing], .row 3 I], fun s => [0, 1]⟩
noncomputable abbrev LA_delf_5 : LayD := ⟨42, [(0, .own I 1), (5, .data I)], [.var 68 [.data tThing], .row 3 I], fun s => [0, 1]⟩
noncomputable abbrev LB_delf_5 : LayD := ⟨42, [], [], fun _ => []⟩
noncomputable def EX_delf_5 : Exits 1 LA_delf_5.El LB_delf_5.El := ⟨.exit 0, LA_delf_5.lay [], .ret, LB_delf_5.lay []⟩
noncomputable def lpi_delf_5 {β : Type} : LpT β := fun _ _ _ => none
theorem lpi_delf_5_ok {β : Type} : LpTOk (CTp 1) (lpi_delf_5 (β := β)) (loopsOf l_delf_5) := by
  have h : loopsOf l_delf_5 = [] := by kernel_rfl
  rw [h]
  exact LpTOk.nil
noncomputable def G_delf_5 (r5 : Ty.El I) (r6 : Ty.El I) (b0 : Ty.El tThing × Unit) (b1 : List (Ty.El I)) : Option (LD_delf_5.El ⊕ (LA_delf_5.El ⊕ LB_delf_5.El)) := bif Decidable.decide (r6 < (↑b1.length : Int)) then bif Decidable.decide ((0 : Int) ≤ r6 ∧ r6 < (↑b1.length : Int)) then (F_free1 (b1.getD (Int.toNat r6) (0 : Int)) (b0.fst, ())).bind fun v2 => bif !v2.fst.fst then bif Decidable.decide ((0 : Int) ≤ r5 ∧ r5 < (↑b1.length : Int)) then Option.some (Sum.inl (((), (), Go.IntKind.i64.wrap (r5 + (1 : Int)), Go.IntKind.i64.wrap (r6 + (1 : Int)), ()), (v2.snd.fst.fst, ()), b1.set (Int.toNat r5) (b1.getD (Int.toNat r6) (0 : Int)), ())) else Option.none else Option.some (Sum.inl (((), (), r5, Go.IntKind.i64.wrap (r6 + (1 : Int)), ()), (v2.snd.fst.fst, ()), b1, ())) else Option.none else Option.some (Sum.inr (Sum.inl (((), r5, ()), (b0.fst, ()), b1, ())))
theorem g_delf_5 (x : LD_delf_5.El) : codeT (CTp 1) T_delf (drT (CTp 1) T_delf) lpi_delf_5 l_delf_5 (LD_delf_5.enc x) (bodyK (LD_delf_5.lay []) EX_delf_5) = G_delf_5 x.1.2.2.1 x.1.2.2.2.1 x.2.1 x.2.2.1 := by kernel_rfl
noncomputable def R_delf_5 : LD_delf_5.El → Option (LA_delf_5.El ⊕ LB_delf_5.El) := roundsT (fun x => G_delf_5 x.1.2.2.1 x.1.2.2.2.1 x.2.1 x.2.2.1) fuel
theorem r_delf_5 : ∀ x y, R_delf_5 x = some y → CL (CTp 1) l_delf_5 (LD_delf_5.enc x) (Sum.elim (fun _ => EX_delf_5.xa) (fun _ => EX_delf_5.xb) y) (Sum.elim EX_delf_5.la.enc EX_delf_5.lb.enc y) :=
  rounds_ok (L := LD_delf_5.lay []) (E := EX_delf_5) (CTp_ok 1) T_delf_ok (drT_ok (CTp_ok 1) T_delf_ok) lpi_delf_5_ok g_delf_5 rfl rfl (fun v h => by have hh : (.exit 0 : AX) = .pan v := h; cases hh) (fun v h => by have hh : (.ret : AX) = .pan v := h; cases hh) fuel
noncomputable def lp_delf {β : Type} : LpT β := fun k s K => if Nat.beq k 5 then lpOne (LD_delf_5.lay []) EX_delf_5 R_delf_5 s K else none
theorem lp_delf_ok {β : Type} : LpTOk (CTp 1) (lp_delf (β := β)) (loopsOf c_delf) := by
  have h : loopsOf c_delf = [(5, l_delf_5)] := by kernel_rfl
  rw [h]
  exact LpTOk.cons (fun s K z h => lpOne_ok r_delf_5 h) (LpTOk.nil)
noncomputable def F_delf (b0 : Ty.El tThing × Unit) (b1 : List (Ty.El I)) : Option OUT_delf.El := (F_idxf (b0.fst, ()) b1).bind fun v2 => bif v2.fst.fst == (-1 : Int) then Option.some (((), ()), (v2.snd.fst.fst, ()), v2.snd.snd.fst, ()) else (R_delf_5 (((), (), v2.fst.fst, Go.IntKind.i64.wrap (v2.fst.fst + (1 : Int)), ()), (v2.snd.fst.fst, ()), v2.snd.snd.fst, ())).bind fun v17 => Sum.elim (fun v18 => bif Decidable.decide ((0 : Int) ≤ v18.fst.snd.fst ∧ v18.fst.snd.fst ≤ (↑(List.length v18.snd.snd.fst) : Int)) then bif (Int.toNat v18.fst.snd.fst).blt (List.length v18.snd.snd.fst) then bif Bool.true && ((Int.toNat v18.fst.snd.fst * (1 : Nat) + (List.length v18.snd.snd.fst - Int.toNat v18.fst.snd.fst)).beq (List.length v18.snd.snd.fst) && (Nat.blt (0 : Nat) (List.length v18.snd.snd.fst) && Bool.true)) then bif Decidable.decide ((0 : Int) ≤ v18.fst.snd.fst ∧ v18.fst.snd.fst ≤ (↑(List.take (Int.toNat v18.fst.snd.fst * (1 : Nat)) v18.snd.snd.fst ++ List.replicate (List.length v18.snd.snd.fst - Int.toNat v18.fst.snd.fst) (0 : Int)).length : Int)) then bif Nat.blt (0 : Nat) (List.take (Int.toNat v18.fst.snd.fst * (1 : Nat)) v18.snd.snd.fst ++ List.replicate (List.length v18.snd.snd.fst - Int.toNat v18.fst.snd.fst) (0 : Int)).length then Option.some (((), ()), (v18.snd.fst.fst, ()), List.take (Int.toNat v18.fst.snd.fst) (List.take (Int.toNat v18.fst.snd.fst * (1 : Nat)) v18.snd.snd.fst ++ List.replicate (List.length v18.snd.snd.fst - Int.toNat v18.fst.snd.fst) (0 : Int)), ()) else Option.none else Option.none else Option.none else Option.none else Option.none) (fun v19 => Option.none) v17
theorem f_delf (x : IN_delf.El) : funcX (CTp 1) T_delf IN_delf OUT_delf [.nilReg 0 3 I, .rowReg 0 3 I] (drT (CTp 1) T_delf) lp_delf Tryz.f175 c_delf x = F_delf x.2.1 x.2.2.1 := by kernel_rfl
noncomputable def E_delf : Ent := .mkGen 175 [185] ⟨1, [.nilReg 0 3 I, .rowReg 0 3 I], IN_delf, OUT_delf, fun x => F_delf x.2.1 x.2.2.1⟩
theorem e_delf : E_delf.Ok CT.P := Ent.ofGen (C := (CTp 1)) (steps := [.nilReg 0 3 I, .rowReg 0 3 I]) (osteps := [.nilReg 0 3 I, .rowReg 0 3 I]) (CTp_ok 1) T_delf_ok hf_delf hb_delf lp_delf_ok f_delf
noncomputable def c_free : Code := Tryz.f137.body.getD .skip
theorem hb_free : Tryz.f137.body = some c_free := by kernel_rfl
theorem hf_free : CT.P.funcs[137]? = some Tryz.f137 := by kernel_rfl
noncomputable abbrev IN_free : LayD := ⟨1, [(0, .ptr 0)], [.var 140 [.data tWorker]], fun s => [slotR s 0]⟩
noncomputable abbrev OUT_free : LayD := ⟨3, [(0, .data tScene), (1, .data I), (2, .data I)], [.var 140 [.data tWorker]], fun _ => [0]⟩
noncomputable def T_free : Tb := mkTb tyT mpT [E_23, E_oown, E_59, E_cat, E_delf, E_74]
theorem T_free_ok : T_free.Ok CT.P := mkTb_ok (⟨e_23, e_oown, e_59, e_cat, e_delf, e_74, trivial⟩)
noncomputable def l_free_9 : Code := atLoop c_free 9
noncomputable abbrev LD_free_9 : LayD := ⟨92, [(0, .ptr 0), (2, .ptr 1), (5, .ptr 2), (7, .ptr 3), (48, .own tThing 5), (49, .data I), (50, .data I)], [.var 140 [.data tWorker], .var 51 [.data tScene], .var 68 [.data tThing], .var 51 [.data tVec, .data I, .own tThing 4], .row 68 tThing, .row 68 tThing], fun s => [slotR s 0, slotR s 2, slotR s 5, slotR s 7, slotC s 7 3, slotR s 48]⟩
noncomputable abbrev LA_free_9 : LayD := ⟨92, [(0, .ptr 0), (2, .ptr 1), (7, .ptr 2)], [.var 140 [.data tWorker], .var 51 [.data tScene], .var 51 [.data tVec, .data I, .own tThing 3], .row 68 tThing], fun s => [slotR s 0, slotR s 2, slotR s 7, slotC s 7 3]⟩
noncomputable abbrev LB_free_9 : LayD := ⟨92, [(0, .ptr 0), (2, .ptr 1), (3, .data I), (4, .data I)], [.var 140 [.data tWorker], .var 51 [.data tScene]], fun s => [slotR s 0, slotR s 2]⟩
noncomputable def EX_free_9 : Exits 1 LA_free_9.El LB_free_9.El := ⟨.exit 1, LA_free_9.lay [.nilCell 7 3 68 tThing], .ret, LB_free_9.lay []⟩
noncomputable def lpi_free_9 {β : Type} : LpT β := fun _ _ _ => none
theorem lpi_free_9_ok {β : Type} : LpTOk (CTp 1) (lpi_free_9 (β := β)) (loopsOf l_free_9) := by
  have h : loopsOf l_free_9 = [] := by kernel_rfl
  rw [h]
  exact LpTOk.nil
noncomputable def G_free_9 (r49 : Ty.El I) (r50 : Ty.El I) (b0 : Ty.El tWorker × Unit) (b1 : Ty.El tScene × Unit) (b2 : Ty.El tThing × Unit) (b3 : Ty.El tVec × Ty.El I × Unit × Unit) (b4 : List (Ty.El tThing)) (b5 : List (Ty.El tThing)) : Option (LD_free_9.El ⊕ (LA_free_9.El ⊕ LB_free_9.El)) := bif Decidable.decide (r50 < r49) then bif Decidable.decide ((0 : Int) ≤ r50 ∧ r50 < (↑b5.length : Int)) then (F_59 (b5.getD (Int.toNat r50) Go.DI.S.tThing.dflt).snd.snd.snd.snd b2.fst.fst).bind fun v2 => bif v2.fst then (F_cat [(b5.getD (Int.toNat r50) Go.DI.S.tThing.dflt).snd.snd.snd.snd, b2.fst.snd.snd.snd.snd]).bind fun v4 => (F_delf (b2.fst, ()) v4).bind fun v6 => (F_74 v6.snd.snd.fst).bind fun v10 => bif Decidable.decide ((↑(List.length v10.snd.fst) : Int) > (8 : Int)) then Option.some (Sum.inr (Sum.inr (((), (), (0 : Int), (12 : Int), ()), (b0.fst, ()), (b0.fst.fst, ()), ()))) else bif (b5.getD (Int.toNat r50) Go.DI.S.tThing.dflt).fst != v6.snd.fst.fst.fst then bif ((b4.length + [((b5.getD (Int.toNat r50) Go.DI.S.tThing.dflt).fst, (b5.getD (Int.toNat r50) Go.DI.S.tThing.dflt).snd.fst, (b5.getD (Int.toNat r50) Go.DI.S.tThing.dflt).snd.snd.fst, (b5.getD (Int.toNat r50) Go.DI.S.tThing.dflt).snd.snd.snd.fst, v10.snd.fst)].length) * (128 : Nat)).ble (70368744177664 : Nat) then Option.some (Sum.inl (((), (), (), (), (), r49, Go.IntKind.i64.wrap (r50 + (1 : Int)), ()), (b0.fst, ()), (b1.fst, ()), (v6.snd.fst.fst, ()), (b3.fst, b3.snd.fst, (), ()), b4 ++ [((b5.getD (Int.toNat r50) Go.DI.S.tThing.dflt).fst, (b5.getD (Int.toNat r50) Go.DI.S.tThing.dflt).snd.fst, (b5.getD (Int.toNat r50) Go.DI.S.tThing.dflt).snd.snd.fst, (b5.getD (Int.toNat r50) Go.DI.S.tThing.dflt).snd.snd.snd.fst, v10.snd.fst)], b5, ())) else Option.none else Option.some (Sum.inl (((), (), (), (), (), r49, Go.IntKind.i64.wrap (r50 + (1 : Int)), ()), (b0.fst, ()), (b1.fst, ()), (v6.snd.fst.fst, ()), (b3.fst, b3.snd.fst, (), ()), b4, b5, ())) else bif (b5.getD (Int.toNat r50) Go.DI.S.tThing.dflt).fst != b2.fst.fst then bif ((b4.length + [b5.getD (Int.toNat r50) Go.DI.S.tThing.dflt].length) * (128 : Nat)).ble (70368744177664 : Nat) then Option.some (Sum.inl (((), (), (), (), (), r49, Go.IntKind.i64.wrap (r50 + (1 : Int)), ()), (b0.fst, ()), (b1.fst, ()), (b2.fst, ()), (b3.fst, b3.snd.fst, (), ()), b4 ++ [b5.getD (Int.toNat r50) Go.DI.S.tThing.dflt], b5, ())) else Option.none else Option.some (Sum.inl (((), (), (), (), (), r49, Go.IntKind.i64.wrap (r50 + (1 : Int)), ()), (b0.fst, ()), (b1.fst, ()), (b2.fst, ()), (b3.fst, b3.snd.fst, (), ()), b4, b5, ())) else Option.none else Option.some (Sum.inr (Sum.inl (((), (), (), ()), (b0.fst, ()), (b1.fst, ()), (b3.fst, b3.snd.fst, (), ()), b4, ())))
theorem g_free_9 (x : LD_free_9.El) : codeT (CTp 1) T_free (drT (CTp 1) T_free) lpi_free_9 l_free_9 (LD_free_9.enc x) (bodyK (LD_free_9.lay [.nilCell 7 3 68 tThing]) EX_free_9) = G_free_9 x.1.2.2.2.2.2.1 x.1.2.2.2.2.2.2.1 x.2.1 x.2.2.1 x.2.2.2.1 x.2.2.2.2.1 x.2.2.2.2.2.1 x.2.2.2.2.2.2.1 := by kernel_rfl
noncomputable def R_free_9 : LD_free_9.El → Option (LA_free_9.El ⊕ LB_free_9.El) := roundsT (fun x => G_free_9 x.1.2.2.2.2.2.1 x.1.2.2.2.2.2.2.1 x.2.1 x.2.2.1 x.2.2.2.1 x.2.2.2.2.1 x.2.2.2.2.2.1 x.2.2.2.2.2.2.1) fuel
theorem r_free_9 : ∀ x y, R_free_9 x = some y → CL (CTp 1) l_free_9 (LD_free_9.enc x) (Sum.elim (fun _ => EX_free_9.xa) (fun _ => EX_free_9.xb) y) (Sum.elim EX_free_9.la.enc EX_free_9.lb.enc y) :=
  rounds_ok (L := LD_free_9.lay [.nilCell 7 3 68 tThing]) (E := EX_free_9) (CTp_ok 1) T_free_ok (drT_ok (CTp_ok 1) T_free_ok) lpi_free_9_ok g_free_9 rfl rfl (fun v h => by have hh : (.exit 1 : AX) = .pan v := h; cases hh) (fun v h => by have hh : (.ret : AX) = .pan v := h; cases hh) fuel
noncomputable def lp_free {β : Type} : LpT β := fun k s K => if Nat.beq k 9 then lpOne (LD_free_9.lay [.nilCell 7 3 68 tThing]) EX_free_9 R_free_9 s K else none
theorem lp_free_ok {β : Type} : LpTOk (CTp 1) (lp_free (β := β)) (loopsOf c_free) := by
  have h : loopsOf c_free = [(9, l_free_9)] := by kernel_rfl
  rw [h]
  exact LpTOk.cons (fun s K z h => lpOne_ok r_free_9 h) (LpTOk.nil)
noncomputable def F_free (b0 : Ty.El tWorker × Unit) : Option OUT_free.El := (F_23 b0.fst.fst b0.fst.snd.fst.snd.fst).bind fun v2 => bif !v2.snd.fst then Option.some ((b0.fst.fst, (0 : Int), (10 : Int), ()), (b0.fst, ()), ()) else bif v2.fst.snd.fst != (3 : Int) then Option.some ((b0.fst.fst, (0 : Int), (9 : Int), ()), (b0.fst, ()), ()) else (F_oown b0.fst.fst.snd.snd).bind fun v4 => (R_free_9 (((), (), (), (), (), (↑v4.length : Int), (0 : Int), ()), (b0.fst, ()), ((((0 : Int), (0 : Int)), (0 : Int), []), ()), (v2.fst, ()), (b0.fst.fst.fst, b0.fst.fst.snd.fst, (), ()), [], v4, ())).bind fun v6 => Sum.elim (fun v7 => Option.some (((v7.snd.snd.snd.fst.fst, v7.snd.snd.snd.fst.snd.fst, v7.snd.snd.snd.snd.fst), (0 : Int), (0 : Int), ()), (v7.snd.fst.fst, ()), ())) (fun v8 => Option.some ((v8.snd.snd.fst.fst, v8.fst.snd.snd.fst, v8.fst.snd.snd.snd.fst, ()), (v8.snd.fst.fst, ()), ())) v6
theorem f_free (x : IN_free.El) : funcX (CTp 1) T_free IN_free OUT_free [.frzReg 0 tScene] (drT (CTp 1) T_free) lp_free Tryz.f137 c_free x = F_free x.2.1 := by kernel_rfl
noncomputable def E_free : Ent := .mkGen 137 [] ⟨1, [], IN_free, OUT_free, fun x => F_free x.2.1⟩
theorem e_free : E_free.Ok CT.P := Ent.ofGen (C := (CTp 1)) (steps := []) (osteps := [.frzReg 0 tScene]) (CTp_ok 1) T_free_ok hf_free hb_free lp_free_ok f_free
end Go.DI.S
