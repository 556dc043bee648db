import Derived.Test.YtehbnnmokbgiiaaGreatBa
/- Laws of worlds: told by functions on data. No conditions. -/
/-! The program's functions, told by functions on data. -/
set_option linter.unusedVariables false
set_option maxRecDepth 100000
set_option maxHeartbeats 0
namespace Go.DI.S
open Go.Proofs
/-! ### 3: maquette/maquettelaw12.WorldParts -/
noncomputable def c_3 : Code := Tryz.f3.body.getD .skip
theorem hb_3 : Tryz.f3.body = some c_3 := by kernel_rfl
theorem hf_3 : CT.P.funcs[3]? = some Tryz.f3 := by kernel_rfl
noncomputable def T_3 : Tb := mkTb tyT mpT [E_14, E_15, E_16, E_17, E_18]
theorem T_3_ok : T_3.Ok CT.P := mkTb_ok (⟨e_14, e_15, e_16, e_17, e_18, trivial⟩)
noncomputable def lp_3 {β : Type} : LpT β := fun _ _ _ => none
theorem lp_3_ok {β : Type} : LpTOk CT (lp_3 (β := β)) (loopsOf c_3) := by
  have h : loopsOf c_3 = [] := by kernel_rfl
  rw [h]
  exact LpTOk.nil
noncomputable def F_3 (a1 : Ty.El tVec) (a2 : Ty.El (.list tBody)) (a3 : Ty.El (.list tJoint)) (a4 : Ty.El I) (a5 : Ty.El I) : Option (Els [.bool]) := bif Decidable.decide ((↑(List.length a2) : Int) > (10 : Int)) then F_14.bind fun v2 => Option.some (v2.fst, ()) else bif Decidable.decide ((↑(List.length a3) : Int) > (8 : Int)) then F_14.bind fun v4 => Option.some (v4.fst, ()) else bif Decidable.decide (a4 < (0 : Int)) then F_14.bind fun v6 => Option.some (v6.fst, ()) else bif Decidable.decide (a5 < (0 : Int)) then F_14.bind fun v8 => Option.some (v8.fst, ()) else bif Decidable.decide (a4 > (6 : Int)) then F_14.bind fun v10 => Option.some (v10.fst, ()) else bif Decidable.decide (a5 > (6 : Int)) then F_14.bind fun v12 => Option.some (v12.fst, ()) else F_14.bind fun v14 => bif !v14.fst then F_14.bind fun v16 => Option.some (v16.fst, ()) else (F_15 (a1, a2, a3) a4).bind fun v18 => bif v18.snd.snd.fst != (0 : Int) then (F_16 (a1, a2, a3)).bind fun v20 => bif !v20.fst then Option.some (Bool.true, ()) else bif Decidable.decide (v18.snd.fst ≥ (1 : Int)) then Option.some (Decidable.decide (v18.snd.fst ≤ a4), ()) else Option.some (Bool.false, ()) else (F_15 v18.fst a5).bind fun v22 => (F_15 (a1, a2, a3) (Go.IntKind.i64.wrap (a4 + a5))).bind fun v24 => bif v22.snd.snd.fst != v24.snd.snd.fst then Option.some (Bool.false, ()) else bif v22.snd.snd.fst != (0 : Int) then bif v24.snd.fst != Go.IntKind.i64.wrap (a4 + v22.snd.fst) then Option.some (Bool.false, ()) else (F_18 v22.fst).bind fun v26 => (F_17 v24.fst v26.fst).bind fun v28 => Option.some (v28.fst, ()) else (F_18 v22.fst).bind fun v30 => (F_17 v24.fst v30.fst).bind fun v32 => Option.some (v32.fst, ())
theorem f_3 (x : Ps [.ty tVec, .ty (.list tBody), .ty (.list tJoint), .ty I, .ty I]) : funcT CT T_3 [.bool] (drT CT T_3) lp_3 Tryz.f3 c_3 (encPs [.ty tVec, .ty (.list tBody), .ty (.list tJoint), .ty I, .ty I] x) = F_3 x.1 x.2.1 x.2.2.1 x.2.2.2.1 x.2.2.2.2.1 := by kernel_rfl
noncomputable def E_3 : Ent := .fn 3 [] ⟨[.ty tVec, .ty (.list tBody), .ty (.list tJoint), .ty I, .ty I], [.bool], fun x => F_3 x.1 x.2.1 x.2.2.1 x.2.2.2.1 x.2.2.2.2.1, false⟩
theorem e_3 : E_3.Ok CT.P := Ent.ofFn CT_ok T_3_ok hf_3 hb_3 lp_3_ok f_3
noncomputable def E_3h : Ent := .fn 3 [] ⟨[.ty tVec, .ty (.list tBody), .ty (.list tJoint), .ty I, .ty I], [.bool], fun x => F_3 x.1 x.2.1 x.2.2.1 x.2.2.2.1 x.2.2.2.2.1, true⟩
/-! ### 4: maquette/maquettelaw12.WorldMomentum -/
noncomputable def c_4 : Code := Tryz.f4.body.getD .skip
theorem hb_4 : Tryz.f4.body = some c_4 := by kernel_rfl
theorem hf_4 : CT.P.funcs[4]? = some Tryz.f4 := by kernel_rfl
noncomputable def T_4 : Tb := mkTb tyT mpT [E_14, E_15, E_19]
theorem T_4_ok : T_4.Ok CT.P := mkTb_ok (⟨e_14, e_15, e_19, trivial⟩)
noncomputable def l_4_4 : Code := atLoop c_4 4
noncomputable abbrev LD_4_4 : LayD := ⟨82, [(0, .data (.list tBody)), (1, .data (.list tJoint)), (2, .data I), (38, .data (.list tBody)), (39, .data I), (40, .data I)], [], fun _ => []⟩
noncomputable abbrev LA_4_4 : LayD := ⟨82, [(0, .data (.list tBody)), (1, .data (.list tJoint)), (2, .data I)], [], fun _ => []⟩
noncomputable abbrev LB_4_4 : LayD := ⟨82, [(6, .data .bool)], [], fun _ => []⟩
noncomputable def EX_4_4 : Exits 0 LA_4_4.El LB_4_4.El := ⟨.exit 0, LA_4_4.lay [], .ret, LB_4_4.lay []⟩

noncomputable def lpi_4_4 {β : Type} : LpT β := fun _ _ _ => none
theorem lpi_4_4_ok {β : Type} : LpTOk CT (lpi_4_4 (β := β)) (loopsOf l_4_4) := by
  have h : loopsOf l_4_4 = [] := by kernel_rfl
  rw [h]
  exact LpTOk.nil
noncomputable def G_4_4 (r0 : Ty.El (.list tBody)) (r1 : Ty.El (.list tJoint)) (r2 : Ty.El I) (r38 : Ty.El (.list tBody)) (r39 : Ty.El I) (r40 : Ty.El I) : Option (LD_4_4.El ⊕ (LA_4_4.El ⊕ LB_4_4.El)) := bif Decidable.decide (r40 < r39) then bif Decidable.decide ((0 : Int) ≤ r40 ∧ r40 < (↑(List.length r38) : Int)) then bif (List.getD r38 (Int.toNat r40) Go.DI.S.tBody.dflt).snd.snd.fst == (0 : Int) then Option.some (Sum.inr (Sum.inr ((Bool.true, ()), ()))) else Option.some (Sum.inl ((r0, r1, r2, r38, r39, Go.IntKind.i64.wrap (r40 + (1 : Int)), ()), ())) else Option.none else Option.some (Sum.inr (Sum.inl ((r0, r1, r2, ()), ())))
theorem g_4_4 (x : LD_4_4.El) : codeT CT T_4 (drT CT T_4) lpi_4_4 l_4_4 (LD_4_4.enc x) (bodyK (LD_4_4.lay []) EX_4_4) = G_4_4 x.1.1 x.1.2.1 x.1.2.2.1 x.1.2.2.2.1 x.1.2.2.2.2.1 x.1.2.2.2.2.2.1 := by kernel_rfl
noncomputable def R_4_4 : LD_4_4.El → Option (LA_4_4.El ⊕ LB_4_4.El) := roundsT (fun x => G_4_4 x.1.1 x.1.2.1 x.1.2.2.1 x.1.2.2.2.1 x.1.2.2.2.2.1 x.1.2.2.2.2.2.1) fuel
theorem r_4_4 : ∀ x y, R_4_4 x = some y → CL CT l_4_4 (LD_4_4.enc x) (Sum.elim (fun _ => EX_4_4.xa) (fun _ => EX_4_4.xb) y) (Sum.elim EX_4_4.la.enc EX_4_4.lb.enc y) :=
  rounds_ok (L := LD_4_4.lay []) (E := EX_4_4) CT_ok T_4_ok (drT_ok CT_ok T_4_ok) lpi_4_4_ok g_4_4 rfl rfl (fun v h => by have hh : (.exit 0 : AX) = .pan v := h; cases hh) (fun v h => by have hh : (.ret : AX) = .pan v := h; cases hh) fuel
noncomputable def lp_4 {β : Type} : LpT β := fun k s K => if Nat.beq k 4 then lpOne (LD_4_4.lay []) EX_4_4 R_4_4 s K else none
theorem lp_4_ok {β : Type} : LpTOk CT (lp_4 (β := β)) (loopsOf c_4) := by
  have h : loopsOf c_4 = [(4, l_4_4)] := by kernel_rfl
  rw [h]
  exact LpTOk.cons (fun s K z h => lpOne_ok r_4_4 h) (LpTOk.nil)
noncomputable def F_4 (a1 : Ty.El (.list tBody)) (a2 : Ty.El (.list tJoint)) (a3 : Ty.El I) : Option (Els [.bool]) := bif Decidable.decide ((↑(List.length a1) : Int) > (10 : Int)) then F_14.bind fun v2 => Option.some (v2.fst, ()) else bif Decidable.decide ((↑(List.length a2) : Int) > (8 : Int)) then F_14.bind fun v4 => Option.some (v4.fst, ()) else bif Decidable.decide (a3 < (0 : Int)) then F_14.bind fun v6 => Option.some (v6.fst, ()) else bif Decidable.decide (a3 > (10 : Int)) then F_14.bind fun v8 => Option.some (v8.fst, ()) else F_14.bind fun v10 => bif !v10.fst then F_14.bind fun v12 => Option.some (v12.fst, ()) else (R_4_4 ((a1, a2, a3, a1, (↑(List.length a1) : Int), (0 : Int), ()), ())).bind fun v13 => Sum.elim (fun v14 => (F_15 (((0 : Int), (0 : Int)), v14.fst.fst, v14.fst.snd.fst) v14.fst.snd.snd.fst).bind fun v16 => bif v16.snd.snd.fst != (0 : Int) then Option.some (Bool.true, ()) else (F_19 (((0 : Int), (0 : Int)), v14.fst.fst, v14.fst.snd.fst)).bind fun v18 => (F_19 v16.fst).bind fun v20 => bif v18.snd.fst == v20.snd.fst then bif v18.snd.fst != (0 : Int) then Option.some (Bool.true, ()) else Option.some (v18.fst.fst == v20.fst.fst && (v18.fst.snd == v20.fst.snd && Bool.true), ()) else Option.some (Bool.false, ())) (fun v21 => Option.some (v21.fst.fst, ())) v13
theorem f_4 (x : Ps [.ty (.list tBody), .ty (.list tJoint), .ty I]) : funcT CT T_4 [.bool] (drT CT T_4) lp_4 Tryz.f4 c_4 (encPs [.ty (.list tBody), .ty (.list tJoint), .ty I] x) = F_4 x.1 x.2.1 x.2.2.1 := by kernel_rfl
noncomputable def E_4 : Ent := .fn 4 [] ⟨[.ty (.list tBody), .ty (.list tJoint), .ty I], [.bool], fun x => F_4 x.1 x.2.1 x.2.2.1, false⟩
theorem e_4 : E_4.Ok CT.P := Ent.ofFn CT_ok T_4_ok hf_4 hb_4 lp_4_ok f_4
noncomputable def E_4h : Ent := .fn 4 [] ⟨[.ty (.list tBody), .ty (.list tJoint), .ty I], [.bool], fun x => F_4 x.1 x.2.1 x.2.2.1, true⟩
/-! ### 6: maquette/maquettelaw12.WorldFalls -/
noncomputable def c_6 : Code := Tryz.f6.body.getD .skip
theorem hb_6 : Tryz.f6.body = some c_6 := by kernel_rfl
theorem hf_6 : CT.P.funcs[6]? = some Tryz.f6 := by kernel_rfl
noncomputable def T_6 : Tb := mkTb tyT mpT [E_14, E_15]
theorem T_6_ok : T_6.Ok CT.P := mkTb_ok (⟨e_14, e_15, trivial⟩)
noncomputable def l_6_10 : Code := atLoop c_6 10
noncomputable abbrev LD_6_10 : LayD := ⟨100, [(1, .data I), (6, .ptr 0), (9, .data I), (10, .data I), (11, .data I)], [.var 29 [.data tWorld]], fun s => [slotR s 6]⟩
noncomputable abbrev LA_6_10 : LayD := ⟨100, [(1, .data I), (6, .ptr 0), (9, .data I), (10, .data I)], [.var 29 [.data tWorld]], fun s => [slotR s 6]⟩
noncomputable abbrev LB_6_10 : LayD := ⟨100, [], [], fun _ => []⟩
noncomputable def EX_6_10 : Exits 0 LA_6_10.El LB_6_10.El := ⟨.exit 0, LA_6_10.lay [], .ret, LB_6_10.lay []⟩

noncomputable def lpi_6_10 {β : Type} : LpT β := fun _ _ _ => none
theorem lpi_6_10_ok {β : Type} : LpTOk CT (lpi_6_10 (β := β)) (loopsOf l_6_10) := by
  have h : loopsOf l_6_10 = [] := by kernel_rfl
  rw [h]
  exact LpTOk.nil
noncomputable def G_6_10 (r1 : Ty.El I) (r9 : Ty.El I) (r10 : Ty.El I) (r11 : Ty.El I) (b0 : Ty.El tWorld × Unit) : Option (LD_6_10.El ⊕ (LA_6_10.El ⊕ LB_6_10.El)) := bif Decidable.decide (r11 ≤ r1) then Option.some (Sum.inl ((r1, (), r9, Go.IntKind.i64.wrap (r10 + Go.IntKind.i64.wrap ((Go.IntKind.i64.wrap (r9 * r11)).tdiv (64 : Int))), Go.IntKind.i64.wrap (r11 + (1 : Int)), ()), (b0.fst, ()), ())) else Option.some (Sum.inr (Sum.inl ((r1, (), r9, r10, ()), (b0.fst, ()), ())))
theorem g_6_10 (x : LD_6_10.El) : codeT CT T_6 (drT CT T_6) lpi_6_10 l_6_10 (LD_6_10.enc x) (bodyK (LD_6_10.lay []) EX_6_10) = G_6_10 x.1.1 x.1.2.2.1 x.1.2.2.2.1 x.1.2.2.2.2.1 x.2.1 := by kernel_rfl
noncomputable def R_6_10 : LD_6_10.El → Option (LA_6_10.El ⊕ LB_6_10.El) := roundsT (fun x => G_6_10 x.1.1 x.1.2.2.1 x.1.2.2.2.1 x.1.2.2.2.2.1 x.2.1) fuel
theorem r_6_10 : ∀ x y, R_6_10 x = some y → CL CT l_6_10 (LD_6_10.enc x) (Sum.elim (fun _ => EX_6_10.xa) (fun _ => EX_6_10.xb) y) (Sum.elim EX_6_10.la.enc EX_6_10.lb.enc y) :=
  rounds_ok (L := LD_6_10.lay []) (E := EX_6_10) CT_ok T_6_ok (drT_ok CT_ok T_6_ok) lpi_6_10_ok g_6_10 rfl rfl (fun v h => by have hh : (.exit 0 : AX) = .pan v := h; cases hh) (fun v h => by have hh : (.ret : AX) = .pan v := h; cases hh) fuel
noncomputable def lp_6 {β : Type} : LpT β := fun k s K => if Nat.beq k 10 then lpOne (LD_6_10.lay []) EX_6_10 R_6_10 s K else none
theorem lp_6_ok {β : Type} : LpTOk CT (lp_6 (β := β)) (loopsOf c_6) := by
  have h : loopsOf c_6 = [(10, l_6_10)] := by kernel_rfl
  rw [h]
  exact LpTOk.cons (fun s K z h => lpOne_ok r_6_10 h) (LpTOk.nil)
noncomputable def F_6 (a1 : Ty.El I) (a2 : Ty.El I) : Option (Els [.bool]) := bif Decidable.decide (a1 < (-100 : Int)) then F_14.bind fun v2 => Option.some (v2.fst, ()) else bif Decidable.decide (a1 > (100 : Int)) then F_14.bind fun v4 => Option.some (v4.fst, ()) else bif Decidable.decide (a2 < (0 : Int)) then F_14.bind fun v6 => Option.some (v6.fst, ()) else bif Decidable.decide (a2 > (60 : Int)) then F_14.bind fun v8 => Option.some (v8.fst, ()) else F_14.bind fun v10 => bif !v10.fst then F_14.bind fun v12 => Option.some (v12.fst, ()) else (F_15 (((0 : Int), Go.IntKind.i64.wrap (a1 * (4294967296 : Int))), [((1 : Int), ((4294967296 : Int), (0 : Int)), (4294967296 : Int), ((0 : Int), (0 : Int)), (0 : Int), (0 : Int))], []) a2).bind fun v14 => bif v14.snd.snd.fst != (0 : Int) then Option.some (Bool.false, ()) else bif v14.snd.fst != (0 : Int) then Option.some (Bool.false, ()) else bif (↑(List.length v14.fst.snd.fst) : Int) != (1 : Int) then Option.some (Bool.false, ()) else (R_6_10 ((a2, (), Go.IntKind.i64.wrap ((Go.IntKind.i64.wrap (a1 * (4294967296 : Int))).tdiv (64 : Int)), (0 : Int), (1 : Int), ()), (v14.fst, ()), ())).bind fun v15 => Sum.elim (fun v16 => bif Decidable.decide ((0 : Int) ≤ (0 : Int) ∧ (0 : Int) < (↑(List.length v16.snd.fst.fst.snd.fst) : Int)) then bif (List.getD v16.snd.fst.fst.snd.fst (0 : Nat) Go.DI.S.tBody.dflt).snd.snd.snd.snd.snd == Go.IntKind.i64.wrap (v16.fst.snd.snd.fst * v16.fst.fst) then bif Decidable.decide ((0 : Int) ≤ (0 : Int) ∧ (0 : Int) < (↑(List.length v16.snd.fst.fst.snd.fst) : Int)) then bif (List.getD v16.snd.fst.fst.snd.fst (0 : Nat) Go.DI.S.tBody.dflt).snd.snd.snd.fst.snd == v16.fst.snd.snd.snd.fst then bif Decidable.decide ((0 : Int) ≤ (0 : Int) ∧ (0 : Int) < (↑(List.length v16.snd.fst.fst.snd.fst) : Int)) then Option.some ((List.getD v16.snd.fst.fst.snd.fst (0 : Nat) Go.DI.S.tBody.dflt).snd.snd.snd.fst.fst == (0 : Int), ()) else Option.none else Option.some (Bool.false, ()) else Option.none else Option.some (Bool.false, ()) else Option.none) (fun v17 => Option.none) v15
theorem f_6 (x : Ps [.ty I, .ty I]) : funcT CT T_6 [.bool] (drT CT T_6) lp_6 Tryz.f6 c_6 (encPs [.ty I, .ty I] x) = F_6 x.1 x.2.1 := by kernel_rfl
noncomputable def E_6 : Ent := .fn 6 [] ⟨[.ty I, .ty I], [.bool], fun x => F_6 x.1 x.2.1, false⟩
theorem e_6 : E_6.Ok CT.P := Ent.ofFn CT_ok T_6_ok hf_6 hb_6 lp_6_ok f_6
noncomputable def E_6h : Ent := .fn 6 [] ⟨[.ty I, .ty I], [.bool], fun x => F_6 x.1 x.2.1, true⟩
/-! ### 7: maquette/maquettelaw12.WorldFails -/
noncomputable def c_7 : Code := Tryz.f7.body.getD .skip
theorem hb_7 : Tryz.f7.body = some c_7 := by kernel_rfl
theorem hf_7 : CT.P.funcs[7]? = some Tryz.f7 := by kernel_rfl
noncomputable def T_7 : Tb := mkTb tyT mpT [E_14, E_15, E_23]
theorem T_7_ok : T_7.Ok CT.P := mkTb_ok (⟨e_14, e_15, e_23, trivial⟩)
noncomputable def lp_7 {β : Type} : LpT β := fun _ _ _ => none
theorem lp_7_ok {β : Type} : LpTOk CT (lp_7 (β := β)) (loopsOf c_7) := by
  have h : loopsOf c_7 = [] := by kernel_rfl
  rw [h]
  exact LpTOk.nil
noncomputable def F_7 (a1 : Ty.El tVec) (a2 : Ty.El (.list tBody)) (a3 : Ty.El (.list tJoint)) (a4 : Ty.El I) : Option (Els [.bool]) := bif Decidable.decide ((↑(List.length a2) : Int) > (8 : Int)) then F_14.bind fun v2 => Option.some (v2.fst, ()) else bif Decidable.decide ((↑(List.length a3) : Int) > (6 : Int)) then F_14.bind fun v4 => Option.some (v4.fst, ()) else bif Decidable.decide (a4 < (1 : Int)) then F_14.bind fun v6 => Option.some (v6.fst, ()) else bif Decidable.decide (a4 > (10 : Int)) then F_14.bind fun v8 => Option.some (v8.fst, ()) else F_14.bind fun v10 => bif !v10.fst then F_14.bind fun v12 => Option.some (v12.fst, ()) else (F_15 (a1, a2, a3) a4).bind fun v14 => bif v14.snd.snd.fst == (0 : Int) then Option.some (v14.snd.fst == (0 : Int), ()) else bif Decidable.decide (v14.snd.fst < (1 : Int)) then Option.some (Bool.false, ()) else bif Decidable.decide (v14.snd.fst > a4) then Option.some (Bool.false, ()) else (F_15 (a1, a2, a3) (Go.IntKind.i64.wrap (v14.snd.fst - (1 : Int)))).bind fun v16 => bif v14.snd.fst == (1 : Int) then (F_23 (a1, a2, a3)).bind fun v18 => Option.some (v18.snd.fst == v14.snd.snd.fst, ()) else (F_23 v16.fst).bind fun v20 => bif v16.snd.snd.fst == (0 : Int) then bif v16.snd.fst == (0 : Int) then Option.some (v20.snd.fst == v14.snd.snd.fst, ()) else Option.some (Bool.false, ()) else Option.some (Bool.false, ())
theorem f_7 (x : Ps [.ty tVec, .ty (.list tBody), .ty (.list tJoint), .ty I]) : funcT CT T_7 [.bool] (drT CT T_7) lp_7 Tryz.f7 c_7 (encPs [.ty tVec, .ty (.list tBody), .ty (.list tJoint), .ty I] x) = F_7 x.1 x.2.1 x.2.2.1 x.2.2.2.1 := by kernel_rfl
noncomputable def E_7 : Ent := .fn 7 [] ⟨[.ty tVec, .ty (.list tBody), .ty (.list tJoint), .ty I], [.bool], fun x => F_7 x.1 x.2.1 x.2.2.1 x.2.2.2.1, false⟩
theorem e_7 : E_7.Ok CT.P := Ent.ofFn CT_ok T_7_ok hf_7 hb_7 lp_7_ok f_7
noncomputable def E_7h : Ent := .fn 7 [] ⟨[.ty tVec, .ty (.list tBody), .ty (.list tJoint), .ty I], [.bool], fun x => F_7 x.1 x.2.1 x.2.2.1 x.2.2.2.1, true⟩
/-! ### 8: maquette/maquettelaw12.WorldAlone -/
noncomputable def c_8 : Code := Tryz.f8.body.getD .skip
theorem hb_8 : Tryz.f8.body = some c_8 := by kernel_rfl
theorem hf_8 : CT.P.funcs[8]? = some Tryz.f8 := by kernel_rfl
noncomputable def T_8 : Tb := mkTb tyT mpT [E_14, E_15]
theorem T_8_ok : T_8.Ok CT.P := mkTb_ok (⟨e_14, e_15, trivial⟩)
noncomputable def lp_8 {β : Type} : LpT β := fun _ _ _ => none
theorem lp_8_ok {β : Type} : LpTOk CT (lp_8 (β := β)) (loopsOf c_8) := by
  have h : loopsOf c_8 = [] := by kernel_rfl
  rw [h]
  exact LpTOk.nil
noncomputable def F_8 (a1 : Ty.El I) (a2 : Ty.El I) (a3 : Ty.El I) : Option (Els [.bool]) := bif Decidable.decide (a1 < (-100 : Int)) then F_14.bind fun v2 => Option.some (v2.fst, ()) else bif Decidable.decide (a1 > (100 : Int)) then F_14.bind fun v4 => Option.some (v4.fst, ()) else bif Decidable.decide (a2 < (-100 : Int)) then F_14.bind fun v6 => Option.some (v6.fst, ()) else bif Decidable.decide (a2 > (100 : Int)) then F_14.bind fun v8 => Option.some (v8.fst, ()) else bif Decidable.decide (a3 < (0 : Int)) then F_14.bind fun v10 => Option.some (v10.fst, ()) else bif Decidable.decide (a3 > (50 : Int)) then F_14.bind fun v12 => Option.some (v12.fst, ()) else F_14.bind fun v14 => bif !v14.fst then F_14.bind fun v16 => Option.some (v16.fst, ()) else (F_15 (((0 : Int), (0 : Int)), [((2 : Int), ((4294967296 : Int), (4294967296 : Int)), (8589934592 : Int), ((0 : Int), (0 : Int)), Go.IntKind.i64.wrap (Go.IntKind.i64.wrap ((2 : Int) * a1) * (4294967296 : Int)), Go.IntKind.i64.wrap (Go.IntKind.i64.wrap ((2 : Int) * a2) * (4294967296 : Int)))], []) a3).bind fun v18 => bif v18.snd.snd.fst == (0 : Int) then bif v18.snd.fst == (0 : Int) then bif (↑(List.length v18.fst.snd.fst) : Int) == (1 : Int) then bif Decidable.decide ((0 : Int) ≤ (0 : Int) ∧ (0 : Int) < (↑(List.length v18.fst.snd.fst) : Int)) then Option.some ((List.getD v18.fst.snd.fst (0 : Nat) Go.DI.S.tBody.dflt).fst == (2 : Int) && ((List.getD v18.fst.snd.fst (0 : Nat) Go.DI.S.tBody.dflt).snd.fst.fst == (4294967296 : Int) && ((List.getD v18.fst.snd.fst (0 : Nat) Go.DI.S.tBody.dflt).snd.fst.snd == (4294967296 : Int) && Bool.true) && ((List.getD v18.fst.snd.fst (0 : Nat) Go.DI.S.tBody.dflt).snd.snd.fst == (8589934592 : Int) && ((List.getD v18.fst.snd.fst (0 : Nat) Go.DI.S.tBody.dflt).snd.snd.snd.fst.fst == Go.IntKind.i64.wrap ((Go.IntKind.i64.wrap (Go.IntKind.i64.wrap (a1 * a3) * (4294967296 : Int))).tdiv (64 : Int)) && ((List.getD v18.fst.snd.fst (0 : Nat) Go.DI.S.tBody.dflt).snd.snd.snd.fst.snd == Go.IntKind.i64.wrap ((Go.IntKind.i64.wrap (Go.IntKind.i64.wrap (a2 * a3) * (4294967296 : Int))).tdiv (64 : Int)) && Bool.true) && ((List.getD v18.fst.snd.fst (0 : Nat) Go.DI.S.tBody.dflt).snd.snd.snd.snd.fst == Go.IntKind.i64.wrap (Go.IntKind.i64.wrap ((2 : Int) * a1) * (4294967296 : Int)) && ((List.getD v18.fst.snd.fst (0 : Nat) Go.DI.S.tBody.dflt).snd.snd.snd.snd.snd == Go.IntKind.i64.wrap (Go.IntKind.i64.wrap ((2 : Int) * a2) * (4294967296 : Int)) && Bool.true) && Bool.true)))), ()) else Option.none else Option.some (Bool.false, ()) else Option.some (Bool.false, ()) else Option.some (Bool.false, ())
theorem f_8 (x : Ps [.ty I, .ty I, .ty I]) : funcT CT T_8 [.bool] (drT CT T_8) lp_8 Tryz.f8 c_8 (encPs [.ty I, .ty I, .ty I] x) = F_8 x.1 x.2.1 x.2.2.1 := by kernel_rfl
noncomputable def E_8 : Ent := .fn 8 [] ⟨[.ty I, .ty I, .ty I], [.bool], fun x => F_8 x.1 x.2.1 x.2.2.1, false⟩
theorem e_8 : E_8.Ok CT.P := Ent.ofFn CT_ok T_8_ok hf_8 hb_8 lp_8_ok f_8
noncomputable def E_8h : Ent := .fn 8 [] ⟨[.ty I, .ty I, .ty I], [.bool], fun x => F_8 x.1 x.2.1 x.2.2.1, true⟩
/-! ### 9: maquette/maquettelaw12.WorldRefused -/
noncomputable def c_9 : Code := Tryz.f9.body.getD .skip
theorem hb_9 : Tryz.f9.body = some c_9 := by kernel_rfl
theorem hf_9 : CT.P.funcs[9]? = some Tryz.f9 := by kernel_rfl
noncomputable def T_9 : Tb := mkTb tyT mpT [E_14, E_15, E_16, E_23]
theorem T_9_ok : T_9.Ok CT.P := mkTb_ok (⟨e_14, e_15, e_16, e_23, trivial⟩)
noncomputable def lp_9 {β : Type} : LpT β := fun _ _ _ => none
theorem lp_9_ok {β : Type} : LpTOk CT (lp_9 (β := β)) (loopsOf c_9) := by
  have h : loopsOf c_9 = [] := by kernel_rfl
  rw [h]
  exact LpTOk.nil
noncomputable def F_9 (a1 : Ty.El tVec) (a2 : Ty.El (.list tBody)) (a3 : Ty.El (.list tJoint)) (a4 : Ty.El I) : Option (Els [.bool]) := bif Decidable.decide ((↑(List.length a2) : Int) > (10 : Int)) then F_14.bind fun v2 => Option.some (v2.fst, ()) else bif Decidable.decide ((↑(List.length a3) : Int) > (8 : Int)) then F_14.bind fun v4 => Option.some (v4.fst, ()) else bif Decidable.decide (a4 ≥ (0 : Int)) then bif Decidable.decide (a4 ≤ (200 : Int)) then bif Decidable.decide (a4 > (5 : Int)) then F_14.bind fun v6 => Option.some (v6.fst, ()) else F_14.bind fun v8 => bif !v8.fst then F_14.bind fun v10 => Option.some (v10.fst, ()) else (F_23 (a1, a2, a3)).bind fun v12 => (F_15 (a1, a2, a3) a4).bind fun v14 => bif Decidable.decide (a4 < (0 : Int)) then bif v14.snd.snd.fst == (9 : Int) then Option.some (v14.snd.fst == (0 : Int), ()) else Option.some (Bool.false, ()) else bif Decidable.decide (a4 > (200 : Int)) then bif v14.snd.snd.fst == (9 : Int) then Option.some (v14.snd.fst == (0 : Int), ()) else Option.some (Bool.false, ()) else (F_16 (a1, a2, a3)).bind fun v16 => bif v16.fst then bif v12.snd.fst != (9 : Int) then bif v14.snd.snd.fst != (9 : Int) then bif v12.snd.fst != (0 : Int) then Option.some (Bool.true, ()) else (F_16 v12.fst).bind fun v18 => bif v18.fst then Option.some ((↑(List.length v12.fst.snd.fst) : Int) == (↑(List.length a2) : Int), ()) else Option.some (Bool.false, ()) else Option.some (Bool.false, ()) else Option.some (Bool.false, ()) else bif v12.snd.fst == (9 : Int) then bif (↑(List.length v12.fst.snd.fst) : Int) == (0 : Int) then bif v14.snd.snd.fst == (9 : Int) then Option.some (v14.snd.fst == if (1 : Int) < a4 then (1 : Int) else a4, ()) else Option.some (Bool.false, ()) else Option.some (Bool.false, ()) else Option.some (Bool.false, ()) else F_14.bind fun v20 => bif !v20.fst then F_14.bind fun v22 => Option.some (v22.fst, ()) else (F_23 (a1, a2, a3)).bind fun v24 => (F_15 (a1, a2, a3) a4).bind fun v26 => bif Decidable.decide (a4 < (0 : Int)) then bif v26.snd.snd.fst == (9 : Int) then Option.some (v26.snd.fst == (0 : Int), ()) else Option.some (Bool.false, ()) else bif Decidable.decide (a4 > (200 : Int)) then bif v26.snd.snd.fst == (9 : Int) then Option.some (v26.snd.fst == (0 : Int), ()) else Option.some (Bool.false, ()) else (F_16 (a1, a2, a3)).bind fun v28 => bif v28.fst then bif v24.snd.fst != (9 : Int) then bif v26.snd.snd.fst != (9 : Int) then bif v24.snd.fst != (0 : Int) then Option.some (Bool.true, ()) else (F_16 v24.fst).bind fun v30 => bif v30.fst then Option.some ((↑(List.length v24.fst.snd.fst) : Int) == (↑(List.length a2) : Int), ()) else Option.some (Bool.false, ()) else Option.some (Bool.false, ()) else Option.some (Bool.false, ()) else bif v24.snd.fst == (9 : Int) then bif (↑(List.length v24.fst.snd.fst) : Int) == (0 : Int) then bif v26.snd.snd.fst == (9 : Int) then Option.some (v26.snd.fst == if (1 : Int) < a4 then (1 : Int) else a4, ()) else Option.some (Bool.false, ()) else Option.some (Bool.false, ()) else Option.some (Bool.false, ()) else F_14.bind fun v32 => bif !v32.fst then F_14.bind fun v34 => Option.some (v34.fst, ()) else (F_23 (a1, a2, a3)).bind fun v36 => (F_15 (a1, a2, a3) a4).bind fun v38 => bif Decidable.decide (a4 < (0 : Int)) then bif v38.snd.snd.fst == (9 : Int) then Option.some (v38.snd.fst == (0 : Int), ()) else Option.some (Bool.false, ()) else bif Decidable.decide (a4 > (200 : Int)) then bif v38.snd.snd.fst == (9 : Int) then Option.some (v38.snd.fst == (0 : Int), ()) else Option.some (Bool.false, ()) else (F_16 (a1, a2, a3)).bind fun v40 => bif v40.fst then bif v36.snd.fst != (9 : Int) then bif v38.snd.snd.fst != (9 : Int) then bif v36.snd.fst != (0 : Int) then Option.some (Bool.true, ()) else (F_16 v36.fst).bind fun v42 => bif v42.fst then Option.some ((↑(List.length v36.fst.snd.fst) : Int) == (↑(List.length a2) : Int), ()) else Option.some (Bool.false, ()) else Option.some (Bool.false, ()) else Option.some (Bool.false, ()) else bif v36.snd.fst == (9 : Int) then bif (↑(List.length v36.fst.snd.fst) : Int) == (0 : Int) then bif v38.snd.snd.fst == (9 : Int) then Option.some (v38.snd.fst == if (1 : Int) < a4 then (1 : Int) else a4, ()) else Option.some (Bool.false, ()) else Option.some (Bool.false, ()) else Option.some (Bool.false, ())
theorem f_9 (x : Ps [.ty tVec, .ty (.list tBody), .ty (.list tJoint), .ty I]) : funcT CT T_9 [.bool] (drT CT T_9) lp_9 Tryz.f9 c_9 (encPs [.ty tVec, .ty (.list tBody), .ty (.list tJoint), .ty I] x) = F_9 x.1 x.2.1 x.2.2.1 x.2.2.2.1 := by kernel_rfl
noncomputable def E_9 : Ent := .fn 9 [] ⟨[.ty tVec, .ty (.list tBody), .ty (.list tJoint), .ty I], [.bool], fun x => F_9 x.1 x.2.1 x.2.2.1 x.2.2.2.1, false⟩
theorem e_9 : E_9.Ok CT.P := Ent.ofFn CT_ok T_9_ok hf_9 hb_9 lp_9_ok f_9
noncomputable def E_9h : Ent := .fn 9 [] ⟨[.ty tVec, .ty (.list tBody), .ty (.list tJoint), .ty I], [.bool], fun x => F_9 x.1 x.2.1 x.2.2.1 x.2.2.2.1, true⟩
/-! ### 10: maquette/maquettelaw12.WorldSame -/
noncomputable def c_10 : Code := Tryz.f10.body.getD .skip
theorem hb_10 : Tryz.f10.body = some c_10 := by kernel_rfl
theorem hf_10 : CT.P.funcs[10]? = some Tryz.f10 := by kernel_rfl
noncomputable def T_10 : Tb := mkTb tyT mpT [E_14, E_15, E_17, E_18]
theorem T_10_ok : T_10.Ok CT.P := mkTb_ok (⟨e_14, e_15, e_17, e_18, trivial⟩)
noncomputable def l_10_11 : Code := atLoop c_10 11
noncomputable abbrev LD_10_11 : LayD := ⟨144, [(1, .data (.list tBody)), (2, .data (.list tJoint)), (4, .ptr 0), (10, .ptr 1), (81, .data I), (82, .data I)], [.var 24 [.data tVec], .var 29 [.data tWorld]], fun s => [slotR s 4, slotR s 10]⟩
noncomputable abbrev LA_10_11 : LayD := ⟨144, [(1, .data (.list tBody)), (2, .data (.list tJoint)), (4, .ptr 0), (10, .ptr 1)], [.var 24 [.data tVec], .var 29 [.data tWorld]], fun s => [slotR s 4, slotR s 10]⟩
noncomputable abbrev LB_10_11 : LayD := ⟨144, [(8, .data .bool)], [], fun _ => []⟩
noncomputable def EX_10_11 : Exits 0 LA_10_11.El LB_10_11.El := ⟨.exit 0, LA_10_11.lay [], .ret, LB_10_11.lay []⟩

noncomputable def lpi_10_11 {β : Type} : LpT β := fun _ _ _ => none
theorem lpi_10_11_ok {β : Type} : LpTOk CT (lpi_10_11 (β := β)) (loopsOf l_10_11) := by
  have h : loopsOf l_10_11 = [] := by kernel_rfl
  rw [h]
  exact LpTOk.nil
noncomputable def G_10_11 (r1 : Ty.El (.list tBody)) (r2 : Ty.El (.list tJoint)) (r81 : Ty.El I) (r82 : Ty.El I) (b0 : Ty.El tVec × Unit) (b1 : Ty.El tWorld × Unit) : Option (LD_10_11.El ⊕ (LA_10_11.El ⊕ LB_10_11.El)) := bif Decidable.decide (r82 < r81) then bif Decidable.decide ((0 : Int) ≤ r82 ∧ r82 < (↑(List.length r1) : Int)) then bif Decidable.decide ((0 : Int) ≤ r82 ∧ r82 < (↑(List.length b1.fst.snd.fst) : Int)) then bif (List.getD r1 (Int.toNat r82) Go.DI.S.tBody.dflt).fst != (List.getD b1.fst.snd.fst (Int.toNat r82) Go.DI.S.tBody.dflt).fst then Option.some (Sum.inr (Sum.inr ((Bool.false, ()), ()))) else bif !((List.getD r1 (Int.toNat r82) Go.DI.S.tBody.dflt).snd.fst.fst == (List.getD b1.fst.snd.fst (Int.toNat r82) Go.DI.S.tBody.dflt).snd.fst.fst && ((List.getD r1 (Int.toNat r82) Go.DI.S.tBody.dflt).snd.fst.snd == (List.getD b1.fst.snd.fst (Int.toNat r82) Go.DI.S.tBody.dflt).snd.fst.snd && Bool.true)) then Option.some (Sum.inr (Sum.inr ((Bool.false, ()), ()))) else bif (List.getD r1 (Int.toNat r82) Go.DI.S.tBody.dflt).snd.snd.fst != (List.getD b1.fst.snd.fst (Int.toNat r82) Go.DI.S.tBody.dflt).snd.snd.fst then Option.some (Sum.inr (Sum.inr ((Bool.false, ()), ()))) else bif (List.getD r1 (Int.toNat r82) Go.DI.S.tBody.dflt).snd.snd.fst == (0 : Int) then bif !((List.getD r1 (Int.toNat r82) Go.DI.S.tBody.dflt).fst == (List.getD b1.fst.snd.fst (Int.toNat r82) Go.DI.S.tBody.dflt).fst && ((List.getD r1 (Int.toNat r82) Go.DI.S.tBody.dflt).snd.fst.fst == (List.getD b1.fst.snd.fst (Int.toNat r82) Go.DI.S.tBody.dflt).snd.fst.fst && ((List.getD r1 (Int.toNat r82) Go.DI.S.tBody.dflt).snd.fst.snd == (List.getD b1.fst.snd.fst (Int.toNat r82) Go.DI.S.tBody.dflt).snd.fst.snd && Bool.true) && ((List.getD r1 (Int.toNat r82) Go.DI.S.tBody.dflt).snd.snd.fst == (List.getD b1.fst.snd.fst (Int.toNat r82) Go.DI.S.tBody.dflt).snd.snd.fst && ((List.getD r1 (Int.toNat r82) Go.DI.S.tBody.dflt).snd.snd.snd.fst.fst == (List.getD b1.fst.snd.fst (Int.toNat r82) Go.DI.S.tBody.dflt).snd.snd.snd.fst.fst && ((List.getD r1 (Int.toNat r82) Go.DI.S.tBody.dflt).snd.snd.snd.fst.snd == (List.getD b1.fst.snd.fst (Int.toNat r82) Go.DI.S.tBody.dflt).snd.snd.snd.fst.snd && Bool.true) && ((List.getD r1 (Int.toNat r82) Go.DI.S.tBody.dflt).snd.snd.snd.snd.fst == (List.getD b1.fst.snd.fst (Int.toNat r82) Go.DI.S.tBody.dflt).snd.snd.snd.snd.fst && ((List.getD r1 (Int.toNat r82) Go.DI.S.tBody.dflt).snd.snd.snd.snd.snd == (List.getD b1.fst.snd.fst (Int.toNat r82) Go.DI.S.tBody.dflt).snd.snd.snd.snd.snd && Bool.true) && Bool.true))))) then Option.some (Sum.inr (Sum.inr ((Bool.false, ()), ()))) else Option.some (Sum.inl ((r1, r2, (), (), r81, Go.IntKind.i64.wrap (r82 + (1 : Int)), ()), (b0.fst, ()), (b1.fst, ()), ())) else Option.some (Sum.inl ((r1, r2, (), (), r81, Go.IntKind.i64.wrap (r82 + (1 : Int)), ()), (b0.fst, ()), (b1.fst, ()), ())) else Option.none else Option.none else Option.some (Sum.inr (Sum.inl ((r1, r2, (), (), ()), (b0.fst, ()), (b1.fst, ()), ())))
theorem g_10_11 (x : LD_10_11.El) : codeT CT T_10 (drT CT T_10) lpi_10_11 l_10_11 (LD_10_11.enc x) (bodyK (LD_10_11.lay []) EX_10_11) = G_10_11 x.1.1 x.1.2.1 x.1.2.2.2.2.1 x.1.2.2.2.2.2.1 x.2.1 x.2.2.1 := by kernel_rfl
noncomputable def R_10_11 : LD_10_11.El → Option (LA_10_11.El ⊕ LB_10_11.El) := roundsT (fun x => G_10_11 x.1.1 x.1.2.1 x.1.2.2.2.2.1 x.1.2.2.2.2.2.1 x.2.1 x.2.2.1) fuel
theorem r_10_11 : ∀ x y, R_10_11 x = some y → CL CT l_10_11 (LD_10_11.enc x) (Sum.elim (fun _ => EX_10_11.xa) (fun _ => EX_10_11.xb) y) (Sum.elim EX_10_11.la.enc EX_10_11.lb.enc y) :=
  rounds_ok (L := LD_10_11.lay []) (E := EX_10_11) CT_ok T_10_ok (drT_ok CT_ok T_10_ok) lpi_10_11_ok g_10_11 rfl rfl (fun v h => by have hh : (.exit 0 : AX) = .pan v := h; cases hh) (fun v h => by have hh : (.ret : AX) = .pan v := h; cases hh) fuel
noncomputable def lp_10 {β : Type} : LpT β := fun k s K => if Nat.beq k 11 then lpOne (LD_10_11.lay []) EX_10_11 R_10_11 s K else none
theorem lp_10_ok {β : Type} : LpTOk CT (lp_10 (β := β)) (loopsOf c_10) := by
  have h : loopsOf c_10 = [(11, l_10_11)] := by kernel_rfl
  rw [h]
  exact LpTOk.cons (fun s K z h => lpOne_ok r_10_11 h) (LpTOk.nil)
noncomputable def F_10 (a1 : Ty.El tVec) (a2 : Ty.El (.list tBody)) (a3 : Ty.El (.list tJoint)) (a4 : Ty.El I) : Option (Els [.bool]) := bif Decidable.decide ((↑(List.length a2) : Int) > (10 : Int)) then F_14.bind fun v2 => Option.some (v2.fst, ()) else bif Decidable.decide ((↑(List.length a3) : Int) > (8 : Int)) then F_14.bind fun v4 => Option.some (v4.fst, ()) else bif Decidable.decide (a4 < (0 : Int)) then F_14.bind fun v6 => Option.some (v6.fst, ()) else bif Decidable.decide (a4 > (10 : Int)) then F_14.bind fun v8 => Option.some (v8.fst, ()) else F_14.bind fun v10 => bif !v10.fst then F_14.bind fun v12 => Option.some (v12.fst, ()) else (F_15 (a1, a2, a3) a4).bind fun v14 => (F_15 (a1, a2, a3) a4).bind fun v16 => bif v14.snd.fst != v16.snd.fst then Option.some (Bool.false, ()) else bif v14.snd.snd.fst != v16.snd.snd.fst then Option.some (Bool.false, ()) else (F_18 v16.fst).bind fun v18 => (F_17 v14.fst v18.fst).bind fun v20 => bif !v20.fst then Option.some (Bool.false, ()) else bif v14.snd.snd.fst != (0 : Int) then Option.some ((↑(List.length v14.fst.snd.fst) : Int) == (0 : Int), ()) else (R_10_11 ((a2, a3, (), (), (↑(List.length v14.fst.snd.fst) : Int), (0 : Int), ()), (a1, ()), (v14.fst, ()), ())).bind fun v21 => Sum.elim (fun v22 => bif (↑(List.length v22.snd.snd.fst.fst.snd.fst) : Int) == (↑(List.length v22.fst.fst) : Int) then bif (↑(List.length v22.snd.snd.fst.fst.snd.snd) : Int) == (↑(List.length v22.fst.snd.fst) : Int) then Option.some (v22.snd.snd.fst.fst.fst.fst == v22.snd.fst.fst.fst && (v22.snd.snd.fst.fst.fst.snd == v22.snd.fst.fst.snd && Bool.true), ()) else Option.some (Bool.false, ()) else Option.some (Bool.false, ())) (fun v23 => Option.some (v23.fst.fst, ())) v21
theorem f_10 (x : Ps [.ty tVec, .ty (.list tBody), .ty (.list tJoint), .ty I]) : funcT CT T_10 [.bool] (drT CT T_10) lp_10 Tryz.f10 c_10 (encPs [.ty tVec, .ty (.list tBody), .ty (.list tJoint), .ty I] x) = F_10 x.1 x.2.1 x.2.2.1 x.2.2.2.1 := by kernel_rfl
noncomputable def E_10 : Ent := .fn 10 [] ⟨[.ty tVec, .ty (.list tBody), .ty (.list tJoint), .ty I], [.bool], fun x => F_10 x.1 x.2.1 x.2.2.1 x.2.2.2.1, false⟩
theorem e_10 : E_10.Ok CT.P := Ent.ofFn CT_ok T_10_ok hf_10 hb_10 lp_10_ok f_10
noncomputable def E_10h : Ent := .fn 10 [] ⟨[.ty tVec, .ty (.list tBody), .ty (.list tJoint), .ty I], [.bool], fun x => F_10 x.1 x.2.1 x.2.2.1 x.2.2.2.1, true⟩
end Go.DI.S

