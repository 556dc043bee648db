import Derived.Test.YtehbnnmokbgiiaaGreatAa
/- Bodies: told by functions on data. No conditions. -/
/-! The program's functions, told by functions on data. -/
set_option linter.unusedVariables false
set_option maxRecDepth 100000
set_option maxHeartbeats 0
namespace Go.DI.S
open Go.Proofs
/-! ### 149: maquette/shape.Name -/
noncomputable def c_149 : Code := Tryz.f149.body.getD .skip
theorem hb_149 : Tryz.f149.body = some c_149 := by kernel_rfl
theorem hf_149 : CT.P.funcs[149]? = some Tryz.f149 := by kernel_rfl
noncomputable def T_149 : Tb := mkTb tyT mpT []
theorem T_149_ok : T_149.Ok CT.P := mkTb_ok (trivial)
noncomputable def lp_149 {β : Type} : LpT β := fun _ _ _ => none
theorem lp_149_ok {β : Type} : LpTOk CT (lp_149 (β := β)) (loopsOf c_149) := by
  have h : loopsOf c_149 = [] := by kernel_rfl
  rw [h]
  exact LpTOk.nil
noncomputable def F_149 (a1 : Ty.El I) : Option (Els [.str]) := bif a1 == (1 : Int) then Option.some ([(98 : UInt8), (97 : UInt8), (108 : UInt8), (108 : UInt8)], ()) else bif a1 == (2 : Int) then Option.some ([(99 : UInt8), (114 : UInt8), (97 : UInt8), (116 : UInt8), (101 : UInt8)], ()) else Option.some ([], ())
theorem f_149 (x : Ps [.ty I]) : funcT CT T_149 [.str] (drT CT T_149) lp_149 Tryz.f149 c_149 (encPs [.ty I] x) = F_149 x.1 := by kernel_rfl
noncomputable def E_149 : Ent := .fn 149 [] ⟨[.ty I], [.str], fun x => F_149 x.1, false⟩
theorem e_149 : E_149.Ok CT.P := Ent.ofFn CT_ok T_149_ok hf_149 hb_149 lp_149_ok f_149
noncomputable def E_149h : Ent := .fn 149 [] ⟨[.ty I], [.str], fun x => F_149 x.1, true⟩
/-! ### 150: maquette/shape.in -/
noncomputable def c_150 : Code := Tryz.f150.body.getD .skip
theorem hb_150 : Tryz.f150.body = some c_150 := by kernel_rfl
theorem hf_150 : CT.P.funcs[150]? = some Tryz.f150 := by kernel_rfl
noncomputable def T_150 : Tb := mkTb tyT mpT []
theorem T_150_ok : T_150.Ok CT.P := mkTb_ok (trivial)
noncomputable def lp_150 {β : Type} : LpT β := fun _ _ _ => none
theorem lp_150_ok {β : Type} : LpTOk CT (lp_150 (β := β)) (loopsOf c_150) := by
  have h : loopsOf c_150 = [] := by kernel_rfl
  rw [h]
  exact LpTOk.nil
noncomputable def F_150 (a1 : Ty.El I) (a2 : Ty.El I) (a3 : Ty.El I) : Option (Els [.bool]) := bif Decidable.decide (a1 ≥ a2) then Option.some (Decidable.decide (a1 ≤ a3), ()) else Option.some (Bool.false, ())
theorem f_150 (x : Ps [.ty I, .ty I, .ty I]) : funcT CT T_150 [.bool] (drT CT T_150) lp_150 Tryz.f150 c_150 (encPs [.ty I, .ty I, .ty I] x) = F_150 x.1 x.2.1 x.2.2.1 := by kernel_rfl
noncomputable def E_150 : Ent := .fn 150 [] ⟨[.ty I, .ty I, .ty I], [.bool], fun x => F_150 x.1 x.2.1 x.2.2.1, false⟩
theorem e_150 : E_150.Ok CT.P := Ent.ofFn CT_ok T_150_ok hf_150 hb_150 lp_150_ok f_150
noncomputable def E_150h : Ent := .fn 150 [] ⟨[.ty I, .ty I, .ty I], [.bool], fun x => F_150 x.1 x.2.1 x.2.2.1, true⟩
/-! ### 151: maquette/shape.near -/
noncomputable def c_151 : Code := Tryz.f151.body.getD .skip
theorem hb_151 : Tryz.f151.body = some c_151 := by kernel_rfl
theorem hf_151 : CT.P.funcs[151]? = some Tryz.f151 := by kernel_rfl
noncomputable def T_151 : Tb := mkTb tyT mpT [E_150]
theorem T_151_ok : T_151.Ok CT.P := mkTb_ok (⟨e_150, trivial⟩)
noncomputable def lp_151 {β : Type} : LpT β := fun _ _ _ => none
theorem lp_151_ok {β : Type} : LpTOk CT (lp_151 (β := β)) (loopsOf c_151) := by
  have h : loopsOf c_151 = [] := by kernel_rfl
  rw [h]
  exact LpTOk.nil
noncomputable def F_151 (a1 : Ty.El tVec) (a2 : Ty.El I) : Option (Els [.bool]) := (F_150 a1.fst (Go.IntKind.i64.wrap ((0 : Int) - a2)) a2).bind fun v2 => bif v2.fst then (F_150 a1.snd (Go.IntKind.i64.wrap ((0 : Int) - a2)) a2).bind fun v4 => Option.some (v4.fst, ()) else Option.some (Bool.false, ())
theorem f_151 (x : Ps [.ty tVec, .ty I]) : funcT CT T_151 [.bool] (drT CT T_151) lp_151 Tryz.f151 c_151 (encPs [.ty tVec, .ty I] x) = F_151 x.1 x.2.1 := by kernel_rfl
noncomputable def E_151 : Ent := .fn 151 [] ⟨[.ty tVec, .ty I], [.bool], fun x => F_151 x.1 x.2.1, false⟩
theorem e_151 : E_151.Ok CT.P := Ent.ofFn CT_ok T_151_ok hf_151 hb_151 lp_151_ok f_151
noncomputable def E_151h : Ent := .fn 151 [] ⟨[.ty tVec, .ty I], [.bool], fun x => F_151 x.1 x.2.1, true⟩
/-! ### 58: maquette/shape.Right -/
noncomputable def c_58 : Code := Tryz.f58.body.getD .skip
theorem hb_58 : Tryz.f58.body = some c_58 := by kernel_rfl
theorem hf_58 : CT.P.funcs[58]? = some Tryz.f58 := by kernel_rfl
noncomputable def T_58 : Tb := mkTb tyT mpT [E_149, E_150, E_151]
theorem T_58_ok : T_58.Ok CT.P := mkTb_ok (⟨e_149, e_150, e_151, trivial⟩)
noncomputable def lp_58 {β : Type} : LpT β := fun _ _ _ => none
theorem lp_58_ok {β : Type} : LpTOk CT (lp_58 (β := β)) (loopsOf c_58) := by
  have h : loopsOf c_58 = [] := by kernel_rfl
  rw [h]
  exact LpTOk.nil
noncomputable def F_58 (a1 : Ty.El tBody) : Option (Els [.bool]) := (F_149 a1.fst).bind fun v2 => bif v2.fst == [] then Option.some (Bool.false, ()) else (F_150 a1.snd.fst.fst (67108864 : Int) (4294967296000 : Int)).bind fun v4 => bif !v4.fst then Option.some (Bool.false, ()) else bif a1.fst == (1 : Int) then bif a1.snd.fst.snd != (0 : Int) then Option.some (Bool.false, ()) else bif a1.fst == (2 : Int) then (F_150 a1.snd.fst.snd (67108864 : Int) (4294967296000 : Int)).bind fun v6 => bif !v6.fst then Option.some (Bool.false, ()) else bif a1.snd.snd.fst == (0 : Int) then bif !(a1.snd.snd.snd.snd.fst == (0 : Int) && (a1.snd.snd.snd.snd.snd == (0 : Int) && Bool.true)) then Option.some (Bool.false, ()) else bif a1.snd.snd.fst != (0 : Int) then (F_150 a1.snd.snd.fst (67108864 : Int) (42949672960000 : Int)).bind fun v8 => bif !v8.fst then Option.some (Bool.false, ()) else (F_151 a1.snd.snd.snd.fst (42949672960000 : Int)).bind fun v10 => bif v10.fst then (F_151 a1.snd.snd.snd.snd (4294967296000000 : Int)).bind fun v12 => Option.some (v12.fst, ()) else Option.some (Bool.false, ()) else (F_151 a1.snd.snd.snd.fst (42949672960000 : Int)).bind fun v14 => bif v14.fst then (F_151 a1.snd.snd.snd.snd (4294967296000000 : Int)).bind fun v16 => Option.some (v16.fst, ()) else Option.some (Bool.false, ()) else bif a1.snd.snd.fst != (0 : Int) then (F_150 a1.snd.snd.fst (67108864 : Int) (42949672960000 : Int)).bind fun v18 => bif !v18.fst then Option.some (Bool.false, ()) else (F_151 a1.snd.snd.snd.fst (42949672960000 : Int)).bind fun v20 => bif v20.fst then (F_151 a1.snd.snd.snd.snd (4294967296000000 : Int)).bind fun v22 => Option.some (v22.fst, ()) else Option.some (Bool.false, ()) else (F_151 a1.snd.snd.snd.fst (42949672960000 : Int)).bind fun v24 => bif v24.fst then (F_151 a1.snd.snd.snd.snd (4294967296000000 : Int)).bind fun v26 => Option.some (v26.fst, ()) else Option.some (Bool.false, ()) else bif a1.snd.snd.fst == (0 : Int) then bif !(a1.snd.snd.snd.snd.fst == (0 : Int) && (a1.snd.snd.snd.snd.snd == (0 : Int) && Bool.true)) then Option.some (Bool.false, ()) else bif a1.snd.snd.fst != (0 : Int) then (F_150 a1.snd.snd.fst (67108864 : Int) (42949672960000 : Int)).bind fun v28 => bif !v28.fst then Option.some (Bool.false, ()) else (F_151 a1.snd.snd.snd.fst (42949672960000 : Int)).bind fun v30 => bif v30.fst then (F_151 a1.snd.snd.snd.snd (4294967296000000 : Int)).bind fun v32 => Option.some (v32.fst, ()) else Option.some (Bool.false, ()) else (F_151 a1.snd.snd.snd.fst (42949672960000 : Int)).bind fun v34 => bif v34.fst then (F_151 a1.snd.snd.snd.snd (4294967296000000 : Int)).bind fun v36 => Option.some (v36.fst, ()) else Option.some (Bool.false, ()) else bif a1.snd.snd.fst != (0 : Int) then (F_150 a1.snd.snd.fst (67108864 : Int) (42949672960000 : Int)).bind fun v38 => bif !v38.fst then Option.some (Bool.false, ()) else (F_151 a1.snd.snd.snd.fst (42949672960000 : Int)).bind fun v40 => bif v40.fst then (F_151 a1.snd.snd.snd.snd (4294967296000000 : Int)).bind fun v42 => Option.some (v42.fst, ()) else Option.some (Bool.false, ()) else (F_151 a1.snd.snd.snd.fst (42949672960000 : Int)).bind fun v44 => bif v44.fst then (F_151 a1.snd.snd.snd.snd (4294967296000000 : Int)).bind fun v46 => Option.some (v46.fst, ()) else Option.some (Bool.false, ()) else bif a1.fst == (2 : Int) then (F_150 a1.snd.fst.snd (67108864 : Int) (4294967296000 : Int)).bind fun v48 => bif !v48.fst then Option.some (Bool.false, ()) else bif a1.snd.snd.fst == (0 : Int) then bif !(a1.snd.snd.snd.snd.fst == (0 : Int) && (a1.snd.snd.snd.snd.snd == (0 : Int) && Bool.true)) then Option.some (Bool.false, ()) else bif a1.snd.snd.fst != (0 : Int) then (F_150 a1.snd.snd.fst (67108864 : Int) (42949672960000 : Int)).bind fun v50 => bif !v50.fst then Option.some (Bool.false, ()) else (F_151 a1.snd.snd.snd.fst (42949672960000 : Int)).bind fun v52 => bif v52.fst then (F_151 a1.snd.snd.snd.snd (4294967296000000 : Int)).bind fun v54 => Option.some (v54.fst, ()) else Option.some (Bool.false, ()) else (F_151 a1.snd.snd.snd.fst (42949672960000 : Int)).bind fun v56 => bif v56.fst then (F_151 a1.snd.snd.snd.snd (4294967296000000 : Int)).bind fun v58 => Option.some (v58.fst, ()) else Option.some (Bool.false, ()) else bif a1.snd.snd.fst != (0 : Int) then (F_150 a1.snd.snd.fst (67108864 : Int) (42949672960000 : Int)).bind fun v60 => bif !v60.fst then Option.some (Bool.false, ()) else (F_151 a1.snd.snd.snd.fst (42949672960000 : Int)).bind fun v62 => bif v62.fst then (F_151 a1.snd.snd.snd.snd (4294967296000000 : Int)).bind fun v64 => Option.some (v64.fst, ()) else Option.some (Bool.false, ()) else (F_151 a1.snd.snd.snd.fst (42949672960000 : Int)).bind fun v66 => bif v66.fst then (F_151 a1.snd.snd.snd.snd (4294967296000000 : Int)).bind fun v68 => Option.some (v68.fst, ()) else Option.some (Bool.false, ()) else bif a1.snd.snd.fst == (0 : Int) then bif !(a1.snd.snd.snd.snd.fst == (0 : Int) && (a1.snd.snd.snd.snd.snd == (0 : Int) && Bool.true)) then Option.some (Bool.false, ()) else bif a1.snd.snd.fst != (0 : Int) then (F_150 a1.snd.snd.fst (67108864 : Int) (42949672960000 : Int)).bind fun v70 => bif !v70.fst then Option.some (Bool.false, ()) else (F_151 a1.snd.snd.snd.fst (42949672960000 : Int)).bind fun v72 => bif v72.fst then (F_151 a1.snd.snd.snd.snd (4294967296000000 : Int)).bind fun v74 => Option.some (v74.fst, ()) else Option.some (Bool.false, ()) else (F_151 a1.snd.snd.snd.fst (42949672960000 : Int)).bind fun v76 => bif v76.fst then (F_151 a1.snd.snd.snd.snd (4294967296000000 : Int)).bind fun v78 => Option.some (v78.fst, ()) else Option.some (Bool.false, ()) else bif a1.snd.snd.fst != (0 : Int) then (F_150 a1.snd.snd.fst (67108864 : Int) (42949672960000 : Int)).bind fun v80 => bif !v80.fst then Option.some (Bool.false, ()) else (F_151 a1.snd.snd.snd.fst (42949672960000 : Int)).bind fun v82 => bif v82.fst then (F_151 a1.snd.snd.snd.snd (4294967296000000 : Int)).bind fun v84 => Option.some (v84.fst, ()) else Option.some (Bool.false, ()) else (F_151 a1.snd.snd.snd.fst (42949672960000 : Int)).bind fun v86 => bif v86.fst then (F_151 a1.snd.snd.snd.snd (4294967296000000 : Int)).bind fun v88 => Option.some (v88.fst, ()) else Option.some (Bool.false, ())
theorem f_58 (x : Ps [.ty tBody]) : funcT CT T_58 [.bool] (drT CT T_58) lp_58 Tryz.f58 c_58 (encPs [.ty tBody] x) = F_58 x.1 := by kernel_rfl
noncomputable def E_58 : Ent := .fn 58 [] ⟨[.ty tBody], [.bool], fun x => F_58 x.1, false⟩
theorem e_58 : E_58.Ok CT.P := Ent.ofFn CT_ok T_58_ok hf_58 hb_58 lp_58_ok f_58
noncomputable def E_58h : Ent := .fn 58 [] ⟨[.ty tBody], [.bool], fun x => F_58 x.1, true⟩
/-! ### 59: maquette/world.near -/
noncomputable def c_59 : Code := Tryz.f59.body.getD .skip
theorem hb_59 : Tryz.f59.body = some c_59 := by kernel_rfl
theorem hf_59 : CT.P.funcs[59]? = some Tryz.f59 := by kernel_rfl
noncomputable def T_59 : Tb := mkTb tyT mpT []
theorem T_59_ok : T_59.Ok CT.P := mkTb_ok (trivial)
noncomputable def lp_59 {β : Type} : LpT β := fun _ _ _ => none
theorem lp_59_ok {β : Type} : LpTOk CT (lp_59 (β := β)) (loopsOf c_59) := by
  have h : loopsOf c_59 = [] := by kernel_rfl
  rw [h]
  exact LpTOk.nil
noncomputable def F_59 (a1 : Ty.El I) : Option (Els [.bool]) := bif Decidable.decide (a1 ≥ (-4294967296000 : Int)) then Option.some (Decidable.decide (a1 ≤ (4294967296000 : Int)), ()) else Option.some (Bool.false, ())
theorem f_59 (x : Ps [.ty I]) : funcT CT T_59 [.bool] (drT CT T_59) lp_59 Tryz.f59 c_59 (encPs [.ty I] x) = F_59 x.1 := by kernel_rfl
noncomputable def E_59 : Ent := .fn 59 [] ⟨[.ty I], [.bool], fun x => F_59 x.1, false⟩
theorem e_59 : E_59.Ok CT.P := Ent.ofFn CT_ok T_59_ok hf_59 hb_59 lp_59_ok f_59
noncomputable def E_59h : Ent := .fn 59 [] ⟨[.ty I], [.bool], fun x => F_59 x.1, true⟩
/-! ### 16: maquette/world.Right -/
noncomputable def c_16 : Code := Tryz.f16.body.getD .skip
theorem hb_16 : Tryz.f16.body = some c_16 := by kernel_rfl
theorem hf_16 : CT.P.funcs[16]? = some Tryz.f16 := by kernel_rfl
noncomputable def T_16 : Tb := mkTb tyT mpT [E_58, E_59, E_150]
theorem T_16_ok : T_16.Ok CT.P := mkTb_ok (⟨e_58, e_59, e_150, trivial⟩)
noncomputable def l_16_8 : Code := atLoop c_16 8
noncomputable def l_16_2 : Code := atLoop c_16 2
noncomputable abbrev LD_16_2 : LayD := ⟨70, [(1, .ptr 0), (8, .data (.list tBody)), (9, .data I), (10, .data I)], [.var 29 [.data tWorld]], fun s => [slotR s 1]⟩
noncomputable abbrev LA_16_2 : LayD := ⟨70, [(1, .ptr 0)], [.var 29 [.data tWorld]], fun s => [slotR s 1]⟩
noncomputable abbrev LB_16_2 : LayD := ⟨70, [(2, .data .bool)], [], fun _ => []⟩
noncomputable def EX_16_2 : Exits 0 LA_16_2.El LB_16_2.El := ⟨.exit 0, LA_16_2.lay [], .ret, LB_16_2.lay []⟩

noncomputable def lpi_16_2 {β : Type} : LpT β := fun _ _ _ => none
theorem lpi_16_2_ok {β : Type} : LpTOk CT (lpi_16_2 (β := β)) (loopsOf l_16_2) := by
  have h : loopsOf l_16_2 = [] := by kernel_rfl
  rw [h]
  exact LpTOk.nil
noncomputable def G_16_2 (r8 : Ty.El (.list tBody)) (r9 : Ty.El I) (r10 : Ty.El I) (b0 : Ty.El tWorld × Unit) : Option (LD_16_2.El ⊕ (LA_16_2.El ⊕ LB_16_2.El)) := bif Decidable.decide (r10 < r9) then bif Decidable.decide ((0 : Int) ≤ r10 ∧ r10 < (↑(List.length r8) : Int)) then (F_58 (List.getD r8 (Int.toNat r10) Go.DI.S.tBody.dflt)).bind fun v2 => bif !v2.fst then Option.some (Sum.inr (Sum.inr ((Bool.false, ()), ()))) else Option.some (Sum.inl (((), r8, r9, Go.IntKind.i64.wrap (r10 + (1 : Int)), ()), (b0.fst, ()), ())) else Option.none else Option.some (Sum.inr (Sum.inl (((), ()), (b0.fst, ()), ())))
theorem g_16_2 (x : LD_16_2.El) : codeT CT T_16 (drT CT T_16) lpi_16_2 l_16_2 (LD_16_2.enc x) (bodyK (LD_16_2.lay []) EX_16_2) = G_16_2 x.1.2.1 x.1.2.2.1 x.1.2.2.2.1 x.2.1 := by kernel_rfl
noncomputable def R_16_2 : LD_16_2.El → Option (LA_16_2.El ⊕ LB_16_2.El) := roundsT (fun x => G_16_2 x.1.2.1 x.1.2.2.1 x.1.2.2.2.1 x.2.1) fuel
theorem r_16_2 : ∀ x y, R_16_2 x = some y → CL CT l_16_2 (LD_16_2.enc x) (Sum.elim (fun _ => EX_16_2.xa) (fun _ => EX_16_2.xb) y) (Sum.elim EX_16_2.la.enc EX_16_2.lb.enc y) :=
  rounds_ok (L := LD_16_2.lay []) (E := EX_16_2) CT_ok T_16_ok (drT_ok CT_ok T_16_ok) lpi_16_2_ok g_16_2 rfl rfl (fun v h => by have hh : (.exit 0 : AX) = .pan v := h; cases hh) (fun v h => by have hh : (.ret : AX) = .pan v := h; cases hh) fuel
noncomputable abbrev LD_16_8 : LayD := ⟨70, [(1, .ptr 0), (19, .data (.list tJoint)), (20, .data I), (21, .data I)], [.var 29 [.data tWorld]], fun s => [slotR s 1]⟩
noncomputable abbrev LA_16_8 : LayD := ⟨70, [(1, .ptr 0)], [.var 29 [.data tWorld]], fun s => [slotR s 1]⟩
noncomputable abbrev LB_16_8 : LayD := ⟨70, [(2, .data .bool)], [], fun _ => []⟩
noncomputable def EX_16_8 : Exits 0 LA_16_8.El LB_16_8.El := ⟨.exit 2, LA_16_8.lay [], .ret, LB_16_8.lay []⟩

noncomputable def lpi_16_8 {β : Type} : LpT β := fun _ _ _ => none
theorem lpi_16_8_ok {β : Type} : LpTOk CT (lpi_16_8 (β := β)) (loopsOf l_16_8) := by
  have h : loopsOf l_16_8 = [] := by kernel_rfl
  rw [h]
  exact LpTOk.nil
noncomputable def G_16_8 (r19 : Ty.El (.list tJoint)) (r20 : Ty.El I) (r21 : Ty.El I) (b0 : Ty.El tWorld × Unit) : Option (LD_16_8.El ⊕ (LA_16_8.El ⊕ LB_16_8.El)) := bif Decidable.decide (r21 < r20) then bif Decidable.decide ((0 : Int) ≤ r21 ∧ r21 < (↑(List.length r19) : Int)) then bif Decidable.decide ((if (List.getD r19 (Int.toNat r21) Go.DI.S.tJoint.dflt).snd.fst < (List.getD r19 (Int.toNat r21) Go.DI.S.tJoint.dflt).fst then (List.getD r19 (Int.toNat r21) Go.DI.S.tJoint.dflt).snd.fst else (List.getD r19 (Int.toNat r21) Go.DI.S.tJoint.dflt).fst) < (0 : Int)) then Option.some (Sum.inr (Sum.inr ((Bool.false, ()), ()))) else bif Decidable.decide ((if (List.getD r19 (Int.toNat r21) Go.DI.S.tJoint.dflt).snd.fst > (List.getD r19 (Int.toNat r21) Go.DI.S.tJoint.dflt).fst then (List.getD r19 (Int.toNat r21) Go.DI.S.tJoint.dflt).snd.fst else (List.getD r19 (Int.toNat r21) Go.DI.S.tJoint.dflt).fst) ≥ (↑(List.length b0.fst.snd.fst) : Int)) then Option.some (Sum.inr (Sum.inr ((Bool.false, ()), ()))) else bif (List.getD r19 (Int.toNat r21) Go.DI.S.tJoint.dflt).fst == (List.getD r19 (Int.toNat r21) Go.DI.S.tJoint.dflt).snd.fst then Option.some (Sum.inr (Sum.inr ((Bool.false, ()), ()))) else bif Decidable.decide ((List.getD r19 (Int.toNat r21) Go.DI.S.tJoint.dflt).snd.snd < (0 : Int)) then Option.some (Sum.inr (Sum.inr ((Bool.false, ()), ()))) else bif Decidable.decide ((List.getD r19 (Int.toNat r21) Go.DI.S.tJoint.dflt).snd.snd > (4294967296000 : Int)) then Option.some (Sum.inr (Sum.inr ((Bool.false, ()), ()))) else Option.some (Sum.inl (((), r19, r20, Go.IntKind.i64.wrap (r21 + (1 : Int)), ()), (b0.fst, ()), ())) else Option.none else Option.some (Sum.inr (Sum.inl (((), ()), (b0.fst, ()), ())))
theorem g_16_8 (x : LD_16_8.El) : codeT CT T_16 (drT CT T_16) lpi_16_8 l_16_8 (LD_16_8.enc x) (bodyK (LD_16_8.lay []) EX_16_8) = G_16_8 x.1.2.1 x.1.2.2.1 x.1.2.2.2.1 x.2.1 := by kernel_rfl
noncomputable def R_16_8 : LD_16_8.El → Option (LA_16_8.El ⊕ LB_16_8.El) := roundsT (fun x => G_16_8 x.1.2.1 x.1.2.2.1 x.1.2.2.2.1 x.2.1) fuel
theorem r_16_8 : ∀ x y, R_16_8 x = some y → CL CT l_16_8 (LD_16_8.enc x) (Sum.elim (fun _ => EX_16_8.xa) (fun _ => EX_16_8.xb) y) (Sum.elim EX_16_8.la.enc EX_16_8.lb.enc y) :=
  rounds_ok (L := LD_16_8.lay []) (E := EX_16_8) CT_ok T_16_ok (drT_ok CT_ok T_16_ok) lpi_16_8_ok g_16_8 rfl rfl (fun v h => by have hh : (.exit 2 : AX) = .pan v := h; cases hh) (fun v h => by have hh : (.ret : AX) = .pan v := h; cases hh) fuel
noncomputable def lp_16 {β : Type} : LpT β := fun k s K => if Nat.beq k 2 then lpOne (LD_16_2.lay []) EX_16_2 R_16_2 s K else if Nat.beq k 8 then lpOne (LD_16_8.lay []) EX_16_8 R_16_8 s K else none
theorem lp_16_ok {β : Type} : LpTOk CT (lp_16 (β := β)) (loopsOf c_16) := by
  have h : loopsOf c_16 = [(2, l_16_2), (8, l_16_8)] := by kernel_rfl
  rw [h]
  exact LpTOk.cons (fun s K z h => lpOne_ok r_16_2 h) (LpTOk.cons (fun s K z h => lpOne_ok r_16_8 h) (LpTOk.nil))
noncomputable def F_16 (a1 : Ty.El tWorld) : Option (Els [.bool]) := (R_16_2 (((), a1.snd.fst, (↑(List.length a1.snd.fst) : Int), (0 : Int), ()), (a1, ()), ())).bind fun v1 => Sum.elim (fun v2 => (R_16_8 (((), v2.snd.fst.fst.snd.snd, (↑(List.length v2.snd.fst.fst.snd.snd) : Int), (0 : Int), ()), (v2.snd.fst.fst, ()), ())).bind fun v3 => Sum.elim (fun v4 => (F_59 v4.snd.fst.fst.fst.fst).bind fun v6 => bif v6.fst then (F_59 v4.snd.fst.fst.fst.snd).bind fun v8 => Option.some (v8.fst, ()) else Option.some (Bool.false, ())) (fun v9 => Option.some (v9.fst.fst, ())) v3) (fun v10 => Option.some (v10.fst.fst, ())) v1
theorem f_16 (x : Ps [.ty tWorld]) : funcT CT T_16 [.bool] (drT CT T_16) lp_16 Tryz.f16 c_16 (encPs [.ty tWorld] x) = F_16 x.1 := by kernel_rfl
noncomputable def E_16 : Ent := .fn 16 [] ⟨[.ty tWorld], [.bool], fun x => F_16 x.1, false⟩
theorem e_16 : E_16.Ok CT.P := Ent.ofFn CT_ok T_16_ok hf_16 hb_16 lp_16_ok f_16
noncomputable def E_16h : Ent := .fn 16 [] ⟨[.ty tWorld], [.bool], fun x => F_16 x.1, true⟩
/-! ### 168: maquette/shape.Speed -/
noncomputable def c_168 : Code := Tryz.f168.body.getD .skip
theorem hb_168 : Tryz.f168.body = some c_168 := by kernel_rfl
theorem hf_168 : CT.P.funcs[168]? = some Tryz.f168 := by kernel_rfl
noncomputable def T_168 : Tb := mkTb tyT mpT [E_244]
theorem T_168_ok : T_168.Ok CT.P := mkTb_ok (⟨e_244, trivial⟩)
noncomputable def lp_168 {β : Type} : LpT β := fun _ _ _ => none
theorem lp_168_ok {β : Type} : LpTOk CT (lp_168 (β := β)) (loopsOf c_168) := by
  have h : loopsOf c_168 = [] := by kernel_rfl
  rw [h]
  exact LpTOk.nil
noncomputable def F_168 (a1 : Ty.El tBody) : Option (Els [tVec] ⊕ Int) := bif a1.snd.snd.fst == (0 : Int) then Option.some (Sum.inl (((0 : Int), (0 : Int)), ())) else (F_244 a1.snd.snd.snd.snd a1.snd.snd.fst).bind fun v2 => Sum.elim (fun v4 => Option.some (Sum.inl (v4.fst, ()))) (fun v5 => Option.some (Sum.inr v5)) v2
theorem f_168 (x : Ps [.ty tBody]) : funcP CT T_168 251 [tVec] (drT CT T_168) lp_168 Tryz.f168 c_168 (encPs [.ty tBody] x) = F_168 x.1 := by kernel_rfl
noncomputable def E_168 : Ent := .mkFnP 168 [] ⟨251, [.ty tBody], [tVec], fun x => F_168 x.1, false⟩
theorem e_168 : E_168.Ok CT.P := Ent.ofFnP CT_ok T_168_ok hf_168 hb_168 lp_168_ok f_168
noncomputable def E_168h : Ent := .mkFnP 168 [] ⟨251, [.ty tBody], [tVec], fun x => F_168 x.1, true⟩
/-! ### 243: maquette/shape.Lightness -/
noncomputable def c_243 : Code := Tryz.f243.body.getD .skip
theorem hb_243 : Tryz.f243.body = some c_243 := by kernel_rfl
theorem hf_243 : CT.P.funcs[243]? = some Tryz.f243 := by kernel_rfl
noncomputable def T_243 : Tb := mkTb tyT mpT [E_231]
theorem T_243_ok : T_243.Ok CT.P := mkTb_ok (⟨e_231, trivial⟩)
noncomputable def lp_243 {β : Type} : LpT β := fun _ _ _ => none
theorem lp_243_ok {β : Type} : LpTOk CT (lp_243 (β := β)) (loopsOf c_243) := by
  have h : loopsOf c_243 = [] := by kernel_rfl
  rw [h]
  exact LpTOk.nil
noncomputable def F_243 (a1 : Ty.El tBody) : Option (Els [I] ⊕ Int) := bif a1.snd.snd.fst == (0 : Int) then Option.some (Sum.inl ((0 : Int), ())) else (F_231 (4294967296 : Int) a1.snd.snd.fst).bind fun v2 => Sum.elim (fun v4 => Option.some (Sum.inl (v4.fst, ()))) (fun v5 => Option.some (Sum.inr v5)) v2
theorem f_243 (x : Ps [.ty tBody]) : funcP CT T_243 251 [I] (drT CT T_243) lp_243 Tryz.f243 c_243 (encPs [.ty tBody] x) = F_243 x.1 := by kernel_rfl
noncomputable def E_243 : Ent := .mkFnP 243 [] ⟨251, [.ty tBody], [I], fun x => F_243 x.1, false⟩
theorem e_243 : E_243.Ok CT.P := Ent.ofFnP CT_ok T_243_ok hf_243 hb_243 lp_243_ok f_243
noncomputable def E_243h : Ent := .mkFnP 243 [] ⟨251, [.ty tBody], [I], fun x => F_243 x.1, true⟩
/-! ### 164: maquette/bounds.Of -/
noncomputable def c_164 : Code := Tryz.f164.body.getD .skip
theorem hb_164 : Tryz.f164.body = some c_164 := by kernel_rfl
theorem hf_164 : CT.P.funcs[164]? = some Tryz.f164 := by kernel_rfl
noncomputable def T_164 : Tb := mkTb tyT mpT [E_227, E_62]
theorem T_164_ok : T_164.Ok CT.P := mkTb_ok (⟨e_227, e_62, trivial⟩)
noncomputable def lp_164 {β : Type} : LpT β := fun _ _ _ => none
theorem lp_164_ok {β : Type} : LpTOk CT (lp_164 (β := β)) (loopsOf c_164) := by
  have h : loopsOf c_164 = [] := by kernel_rfl
  rw [h]
  exact LpTOk.nil
noncomputable def F_164 (a1 : Ty.El tBody) : Option (Els [tBox] ⊕ Int) := bif a1.fst == (1 : Int) then (F_227 a1.snd.snd.snd.fst (a1.snd.fst.fst, a1.snd.fst.fst)).bind fun v2 => Sum.elim (fun v4 => (F_62 a1.snd.snd.snd.fst (a1.snd.fst.fst, a1.snd.fst.fst)).bind fun v6 => Sum.elim (fun v8 => Option.some (Sum.inl ((v4.fst, v8.fst), ()))) (fun v9 => Option.some (Sum.inr v9)) v6) (fun v10 => Option.some (Sum.inr v10)) v2 else (F_227 a1.snd.snd.snd.fst a1.snd.fst).bind fun v12 => Sum.elim (fun v14 => (F_62 a1.snd.snd.snd.fst a1.snd.fst).bind fun v16 => Sum.elim (fun v18 => Option.some (Sum.inl ((v14.fst, v18.fst), ()))) (fun v19 => Option.some (Sum.inr v19)) v16) (fun v20 => Option.some (Sum.inr v20)) v12
theorem f_164 (x : Ps [.ty tBody]) : funcP CT T_164 251 [tBox] (drT CT T_164) lp_164 Tryz.f164 c_164 (encPs [.ty tBody] x) = F_164 x.1 := by kernel_rfl
noncomputable def E_164 : Ent := .mkFnP 164 [] ⟨251, [.ty tBody], [tBox], fun x => F_164 x.1, false⟩
theorem e_164 : E_164.Ok CT.P := Ent.ofFnP CT_ok T_164_ok hf_164 hb_164 lp_164_ok f_164
noncomputable def E_164h : Ent := .mkFnP 164 [] ⟨251, [.ty tBody], [tBox], fun x => F_164 x.1, true⟩
/-! ### 234: maquette/bounds.Meet -/
noncomputable def c_234 : Code := Tryz.f234.body.getD .skip
theorem hb_234 : Tryz.f234.body = some c_234 := by kernel_rfl
theorem hf_234 : CT.P.funcs[234]? = some Tryz.f234 := by kernel_rfl
noncomputable def T_234 : Tb := mkTb tyT mpT []
theorem T_234_ok : T_234.Ok CT.P := mkTb_ok (trivial)
noncomputable def lp_234 {β : Type} : LpT β := fun _ _ _ => none
theorem lp_234_ok {β : Type} : LpTOk CT (lp_234 (β := β)) (loopsOf c_234) := by
  have h : loopsOf c_234 = [] := by kernel_rfl
  rw [h]
  exact LpTOk.nil
noncomputable def F_234 (a1 : Ty.El tBox) (a2 : Ty.El tBox) : Option (Els [.bool]) := bif Decidable.decide (a1.fst.fst ≤ a2.snd.fst) then bif Decidable.decide (a2.fst.fst ≤ a1.snd.fst) then bif Decidable.decide (a1.fst.snd ≤ a2.snd.snd) then Option.some (Decidable.decide (a2.fst.snd ≤ a1.snd.snd), ()) else Option.some (Bool.false, ()) else Option.some (Bool.false, ()) else Option.some (Bool.false, ())
theorem f_234 (x : Ps [.ty tBox, .ty tBox]) : funcT CT T_234 [.bool] (drT CT T_234) lp_234 Tryz.f234 c_234 (encPs [.ty tBox, .ty tBox] x) = F_234 x.1 x.2.1 := by kernel_rfl
noncomputable def E_234 : Ent := .fn 234 [] ⟨[.ty tBox, .ty tBox], [.bool], fun x => F_234 x.1 x.2.1, false⟩
theorem e_234 : E_234.Ok CT.P := Ent.ofFn CT_ok T_234_ok hf_234 hb_234 lp_234_ok f_234
noncomputable def E_234h : Ent := .fn 234 [] ⟨[.ty tBox, .ty tBox], [.bool], fun x => F_234 x.1 x.2.1, true⟩
/-! ### 319: maquette/bounds.clamp -/
noncomputable def c_319 : Code := Tryz.f319.body.getD .skip
theorem hb_319 : Tryz.f319.body = some c_319 := by kernel_rfl
theorem hf_319 : CT.P.funcs[319]? = some Tryz.f319 := by kernel_rfl
noncomputable def T_319 : Tb := mkTb tyT mpT []
theorem T_319_ok : T_319.Ok CT.P := mkTb_ok (trivial)
noncomputable def lp_319 {β : Type} : LpT β := fun _ _ _ => none
theorem lp_319_ok {β : Type} : LpTOk CT (lp_319 (β := β)) (loopsOf c_319) := by
  have h : loopsOf c_319 = [] := by kernel_rfl
  rw [h]
  exact LpTOk.nil
noncomputable def F_319 (a1 : Ty.El I) (a2 : Ty.El I) (a3 : Ty.El I) : Option (Els [I]) := bif Decidable.decide (a1 < a2) then Option.some (a2, ()) else bif Decidable.decide (a1 > a3) then Option.some (a3, ()) else Option.some (a1, ())
theorem f_319 (x : Ps [.ty I, .ty I, .ty I]) : funcT CT T_319 [I] (drT CT T_319) lp_319 Tryz.f319 c_319 (encPs [.ty I, .ty I, .ty I] x) = F_319 x.1 x.2.1 x.2.2.1 := by kernel_rfl
noncomputable def E_319 : Ent := .fn 319 [] ⟨[.ty I, .ty I, .ty I], [I], fun x => F_319 x.1 x.2.1 x.2.2.1, false⟩
theorem e_319 : E_319.Ok CT.P := Ent.ofFn CT_ok T_319_ok hf_319 hb_319 lp_319_ok f_319
noncomputable def E_319h : Ent := .fn 319 [] ⟨[.ty I, .ty I, .ty I], [I], fun x => F_319 x.1 x.2.1 x.2.2.1, true⟩
/-! ### 294: maquette/bounds.Clamp -/
noncomputable def c_294 : Code := Tryz.f294.body.getD .skip
theorem hb_294 : Tryz.f294.body = some c_294 := by kernel_rfl
theorem hf_294 : CT.P.funcs[294]? = some Tryz.f294 := by kernel_rfl
noncomputable def T_294 : Tb := mkTb tyT mpT [E_319]
theorem T_294_ok : T_294.Ok CT.P := mkTb_ok (⟨e_319, trivial⟩)
noncomputable def lp_294 {β : Type} : LpT β := fun _ _ _ => none
theorem lp_294_ok {β : Type} : LpTOk CT (lp_294 (β := β)) (loopsOf c_294) := by
  have h : loopsOf c_294 = [] := by kernel_rfl
  rw [h]
  exact LpTOk.nil
noncomputable def F_294 (a1 : Ty.El tVec) (a2 : Ty.El tBox) : Option (Els [tVec]) := (F_319 a1.fst a2.fst.fst a2.snd.fst).bind fun v2 => (F_319 a1.snd a2.fst.snd a2.snd.snd).bind fun v4 => Option.some ((v2.fst, v4.fst), ())
theorem f_294 (x : Ps [.ty tVec, .ty tBox]) : funcT CT T_294 [tVec] (drT CT T_294) lp_294 Tryz.f294 c_294 (encPs [.ty tVec, .ty tBox] x) = F_294 x.1 x.2.1 := by kernel_rfl
noncomputable def E_294 : Ent := .fn 294 [] ⟨[.ty tVec, .ty tBox], [tVec], fun x => F_294 x.1 x.2.1, false⟩
theorem e_294 : E_294.Ok CT.P := Ent.ofFn CT_ok T_294_ok hf_294 hb_294 lp_294_ok f_294
noncomputable def E_294h : Ent := .fn 294 [] ⟨[.ty tVec, .ty tBox], [tVec], fun x => F_294 x.1 x.2.1, true⟩
/-! ### 308: maquette/root.Len -/
noncomputable def c_308 : Code := Tryz.f308.body.getD .skip
theorem hb_308 : Tryz.f308.body = some c_308 := by kernel_rfl
theorem hf_308 : CT.P.funcs[308]? = some Tryz.f308 := by kernel_rfl
noncomputable def T_308 : Tb := mkTb tyT mpT [E_323, E_218, E_220, E_324]
theorem T_308_ok : T_308.Ok CT.P := mkTb_ok (⟨e_323, e_218, e_220, e_324, trivial⟩)
noncomputable def lp_308 {β : Type} : LpT β := fun _ _ _ => none
theorem lp_308_ok {β : Type} : LpTOk CT (lp_308 (β := β)) (loopsOf c_308) := by
  have h : loopsOf c_308 = [] := by kernel_rfl
  rw [h]
  exact LpTOk.nil
noncomputable def F_308 (a1 : Ty.El I) (a2 : Ty.El I) : Option (Els [I, I]) := (F_323 a1).bind fun v2 => (F_323 a1).bind fun v4 => (F_218 v2.fst v4.fst).bind fun v6 => (F_323 a2).bind fun v8 => (F_323 a2).bind fun v10 => (F_218 v8.fst v10.fst).bind fun v12 => bif Decidable.decide ((0 : Int) ≤ v6.snd.fst ∧ (0 : Int) ≤ v12.snd.fst ∧ (0 : Int) ≤ (0 : Int) ∧ (0 : Int) ≤ (1 : Int)) then bif Decidable.decide ((0 : Int) ≤ v6.fst ∧ (0 : Int) ≤ v12.fst ∧ (0 : Int) ≤ (v6.snd.fst + v12.snd.fst + (0 : Int)) / (18446744073709551616 : Int) ∧ (v6.snd.fst + v12.snd.fst + (0 : Int)) / (18446744073709551616 : Int) ≤ (1 : Int)) then (F_324 ((v6.fst + v12.fst + (v6.snd.fst + v12.snd.fst + (0 : Int)) / (18446744073709551616 : Int)) % (18446744073709551616 : Int)) ((v6.snd.fst + v12.snd.fst + (0 : Int)) % (18446744073709551616 : Int))).bind fun v14 => bif Decidable.decide (v14.fst ≥ (9223372036854775808 : Int)) then Option.some ((0 : Int), (3 : Int), ()) else Option.some (Go.IntKind.i64.wrap v14.fst, (0 : Int), ()) else Option.none else Option.none
theorem f_308 (x : Ps [.ty I, .ty I]) : funcT CT T_308 [I, I] (drT CT T_308) lp_308 Tryz.f308 c_308 (encPs [.ty I, .ty I] x) = F_308 x.1 x.2.1 := by kernel_rfl
noncomputable def E_308 : Ent := .fn 308 [] ⟨[.ty I, .ty I], [I, I], fun x => F_308 x.1 x.2.1, false⟩
theorem e_308 : E_308.Ok CT.P := Ent.ofFn CT_ok T_308_ok hf_308 hb_308 lp_308_ok f_308
noncomputable def E_308h : Ent := .fn 308 [] ⟨[.ty I, .ty I], [I, I], fun x => F_308 x.1 x.2.1, true⟩
/-! ### 282: maquette/vec.Len -/
noncomputable def c_282 : Code := Tryz.f282.body.getD .skip
theorem hb_282 : Tryz.f282.body = some c_282 := by kernel_rfl
theorem hf_282 : CT.P.funcs[282]? = some Tryz.f282 := by kernel_rfl
noncomputable def T_282 : Tb := mkTb tyT mpT [E_308]
theorem T_282_ok : T_282.Ok CT.P := mkTb_ok (⟨e_308, trivial⟩)
noncomputable def lp_282 {β : Type} : LpT β := fun _ _ _ => none
theorem lp_282_ok {β : Type} : LpTOk CT (lp_282 (β := β)) (loopsOf c_282) := by
  have h : loopsOf c_282 = [] := by kernel_rfl
  rw [h]
  exact LpTOk.nil
noncomputable def F_282 (a1 : Ty.El tVec) : Option (Els [I] ⊕ Int) := (F_308 a1.fst a1.snd).bind fun v2 => bif v2.snd.fst != (0 : Int) then Option.some (Sum.inr v2.snd.fst) else Option.some (Sum.inl (v2.fst, ()))
theorem f_282 (x : Ps [.ty tVec]) : funcP CT T_282 251 [I] (drT CT T_282) lp_282 Tryz.f282 c_282 (encPs [.ty tVec] x) = F_282 x.1 := by kernel_rfl
noncomputable def E_282 : Ent := .mkFnP 282 [] ⟨251, [.ty tVec], [I], fun x => F_282 x.1, false⟩
theorem e_282 : E_282.Ok CT.P := Ent.ofFnP CT_ok T_282_ok hf_282 hb_282 lp_282_ok f_282
noncomputable def E_282h : Ent := .mkFnP 282 [] ⟨251, [.ty tVec], [I], fun x => F_282 x.1, true⟩
/-! ### 226: maquette/vec.Unit -/
noncomputable def c_226 : Code := Tryz.f226.body.getD .skip
theorem hb_226 : Tryz.f226.body = some c_226 := by kernel_rfl
theorem hf_226 : CT.P.funcs[226]? = some Tryz.f226 := by kernel_rfl
noncomputable def T_226 : Tb := mkTb tyT mpT [E_282, E_244]
theorem T_226_ok : T_226.Ok CT.P := mkTb_ok (⟨e_282, e_244, trivial⟩)
noncomputable def lp_226 {β : Type} : LpT β := fun _ _ _ => none
theorem lp_226_ok {β : Type} : LpTOk CT (lp_226 (β := β)) (loopsOf c_226) := by
  have h : loopsOf c_226 = [] := by kernel_rfl
  rw [h]
  exact LpTOk.nil
noncomputable def F_226 (a1 : Ty.El tVec) : Option (Els [tVec, I] ⊕ Int) := (F_282 a1).bind fun v2 => Sum.elim (fun v4 => bif v4.fst == (0 : Int) then Option.some (Sum.inl (((0 : Int), (0 : Int)), (0 : Int), ())) else (F_244 a1 v4.fst).bind fun v6 => Sum.elim (fun v8 => Option.some (Sum.inl (v8.fst, v4.fst, ()))) (fun v9 => Option.some (Sum.inr v9)) v6) (fun v10 => Option.some (Sum.inr v10)) v2
theorem f_226 (x : Ps [.ty tVec]) : funcP CT T_226 251 [tVec, I] (drT CT T_226) lp_226 Tryz.f226 c_226 (encPs [.ty tVec] x) = F_226 x.1 := by kernel_rfl
noncomputable def E_226 : Ent := .mkFnP 226 [] ⟨251, [.ty tVec], [tVec, I], fun x => F_226 x.1, false⟩
theorem e_226 : E_226.Ok CT.P := Ent.ofFnP CT_ok T_226_ok hf_226 hb_226 lp_226_ok f_226
noncomputable def E_226h : Ent := .mkFnP 226 [] ⟨251, [.ty tVec], [tVec, I], fun x => F_226 x.1, true⟩
/-! ### 291: maquette/touch.hit -/
noncomputable def c_291 : Code := Tryz.f291.body.getD .skip
theorem hb_291 : Tryz.f291.body = some c_291 := by kernel_rfl
theorem hf_291 : CT.P.funcs[291]? = some Tryz.f291 := by kernel_rfl
noncomputable def T_291 : Tb := mkTb tyT mpT []
theorem T_291_ok : T_291.Ok CT.P := mkTb_ok (trivial)
noncomputable def lp_291 {β : Type} : LpT β := fun _ _ _ => none
theorem lp_291_ok {β : Type} : LpTOk CT (lp_291 (β := β)) (loopsOf c_291) := by
  have h : loopsOf c_291 = [] := by kernel_rfl
  rw [h]
  exact LpTOk.nil
noncomputable def F_291 (a1 : Ty.El tVec) (a2 : Ty.El I) : Option (Els [tHit, .bool]) := bif Decidable.decide (a2 ≤ (0 : Int)) then Option.some ((((0 : Int), (0 : Int)), (0 : Int)), Bool.false, ()) else Option.some ((a1, a2), Bool.true, ())
theorem f_291 (x : Ps [.ty tVec, .ty I]) : funcT CT T_291 [tHit, .bool] (drT CT T_291) lp_291 Tryz.f291 c_291 (encPs [.ty tVec, .ty I] x) = F_291 x.1 x.2.1 := by kernel_rfl
noncomputable def E_291 : Ent := .fn 291 [] ⟨[.ty tVec, .ty I], [tHit, .bool], fun x => F_291 x.1 x.2.1, false⟩
theorem e_291 : E_291.Ok CT.P := Ent.ofFn CT_ok T_291_ok hf_291 hb_291 lp_291_ok f_291
noncomputable def E_291h : Ent := .fn 291 [] ⟨[.ty tVec, .ty I], [tHit, .bool], fun x => F_291 x.1 x.2.1, true⟩
/-! ### 292: maquette/touch.overlap -/
noncomputable def c_292 : Code := Tryz.f292.body.getD .skip
theorem hb_292 : Tryz.f292.body = some c_292 := by kernel_rfl
theorem hf_292 : CT.P.funcs[292]? = some Tryz.f292 := by kernel_rfl
noncomputable def T_292 : Tb := mkTb tyT mpT [E_154, E_230]
theorem T_292_ok : T_292.Ok CT.P := mkTb_ok (⟨e_154, e_230, trivial⟩)
noncomputable def lp_292 {β : Type} : LpT β := fun _ _ _ => none
theorem lp_292_ok {β : Type} : LpTOk CT (lp_292 (β := β)) (loopsOf c_292) := by
  have h : loopsOf c_292 = [] := by kernel_rfl
  rw [h]
  exact LpTOk.nil
noncomputable def F_292 (a1 : Ty.El I) (a2 : Ty.El I) (a3 : Ty.El I) : Option (Els [I] ⊕ Int) := (F_154 a1 a2).bind fun v2 => Sum.elim (fun v4 => bif Decidable.decide (a3 < (0 : Int)) then (F_230 (0 : Int) a3).bind fun v6 => Sum.elim (fun v8 => (F_230 v4.fst v8.fst).bind fun v10 => Sum.elim (fun v12 => Option.some (Sum.inl (v12.fst, ()))) (fun v13 => Option.some (Sum.inr v13)) v10) (fun v14 => Option.some (Sum.inr v14)) v6 else (F_230 v4.fst a3).bind fun v16 => Sum.elim (fun v18 => Option.some (Sum.inl (v18.fst, ()))) (fun v19 => Option.some (Sum.inr v19)) v16) (fun v20 => Option.some (Sum.inr v20)) v2
theorem f_292 (x : Ps [.ty I, .ty I, .ty I]) : funcP CT T_292 251 [I] (drT CT T_292) lp_292 Tryz.f292 c_292 (encPs [.ty I, .ty I, .ty I] x) = F_292 x.1 x.2.1 x.2.2.1 := by kernel_rfl
noncomputable def E_292 : Ent := .mkFnP 292 [] ⟨251, [.ty I, .ty I, .ty I], [I], fun x => F_292 x.1 x.2.1 x.2.2.1, false⟩
theorem e_292 : E_292.Ok CT.P := Ent.ofFnP CT_ok T_292_ok hf_292 hb_292 lp_292_ok f_292
noncomputable def E_292h : Ent := .mkFnP 292 [] ⟨251, [.ty I, .ty I, .ty I], [I], fun x => F_292 x.1 x.2.1 x.2.2.1, true⟩
/-! ### 293: maquette/touch.one -/
noncomputable def c_293 : Code := Tryz.f293.body.getD .skip
theorem hb_293 : Tryz.f293.body = some c_293 := by kernel_rfl
theorem hf_293 : CT.P.funcs[293]? = some Tryz.f293 := by kernel_rfl
noncomputable def T_293 : Tb := mkTb tyT mpT []
theorem T_293_ok : T_293.Ok CT.P := mkTb_ok (trivial)
noncomputable def lp_293 {β : Type} : LpT β := fun _ _ _ => none
theorem lp_293_ok {β : Type} : LpTOk CT (lp_293 (β := β)) (loopsOf c_293) := by
  have h : loopsOf c_293 = [] := by kernel_rfl
  rw [h]
  exact LpTOk.nil
noncomputable def F_293 (a1 : Ty.El I) : Option (Els [I]) := bif Decidable.decide (a1 < (0 : Int)) then Option.some ((-4294967296 : Int), ()) else Option.some ((4294967296 : Int), ())
theorem f_293 (x : Ps [.ty I]) : funcT CT T_293 [I] (drT CT T_293) lp_293 Tryz.f293 c_293 (encPs [.ty I] x) = F_293 x.1 := by kernel_rfl
noncomputable def E_293 : Ent := .fn 293 [] ⟨[.ty I], [I], fun x => F_293 x.1, false⟩
theorem e_293 : E_293.Ok CT.P := Ent.ofFn CT_ok T_293_ok hf_293 hb_293 lp_293_ok f_293
noncomputable def E_293h : Ent := .fn 293 [] ⟨[.ty I], [I], fun x => F_293 x.1, true⟩
/-! ### 239: maquette/touch.balls -/
noncomputable def c_239 : Code := Tryz.f239.body.getD .skip
theorem hb_239 : Tryz.f239.body = some c_239 := by kernel_rfl
theorem hf_239 : CT.P.funcs[239]? = some Tryz.f239 := by kernel_rfl
noncomputable def T_239 : Tb := mkTb tyT mpT [E_227, E_226, E_154, E_230, E_291]
theorem T_239_ok : T_239.Ok CT.P := mkTb_ok (⟨e_227, e_226, e_154, e_230, e_291, trivial⟩)
noncomputable def lp_239 {β : Type} : LpT β := fun _ _ _ => none
theorem lp_239_ok {β : Type} : LpTOk CT (lp_239 (β := β)) (loopsOf c_239) := by
  have h : loopsOf c_239 = [] := by kernel_rfl
  rw [h]
  exact LpTOk.nil
noncomputable def F_239 (a1 : Ty.El tBody) (a2 : Ty.El tBody) : Option (Els [tHit, .bool] ⊕ Int) := (F_227 a2.snd.snd.snd.fst a1.snd.snd.snd.fst).bind fun v2 => Sum.elim (fun v4 => (F_226 v4.fst).bind fun v6 => Sum.elim (fun v8 => bif v8.snd.fst == (0 : Int) then (F_154 a1.snd.fst.fst a2.snd.fst.fst).bind fun v10 => Sum.elim (fun v12 => (F_230 v12.fst v8.snd.fst).bind fun v14 => Sum.elim (fun v16 => (F_291 ((4294967296 : Int), v8.fst.snd) v16.fst).bind fun v18 => Option.some (Sum.inl (v18.fst, v18.snd.fst, ()))) (fun v19 => Option.some (Sum.inr v19)) v14) (fun v20 => Option.some (Sum.inr v20)) v10 else (F_154 a1.snd.fst.fst a2.snd.fst.fst).bind fun v22 => Sum.elim (fun v24 => (F_230 v24.fst v8.snd.fst).bind fun v26 => Sum.elim (fun v28 => (F_291 v8.fst v28.fst).bind fun v30 => Option.some (Sum.inl (v30.fst, v30.snd.fst, ()))) (fun v31 => Option.some (Sum.inr v31)) v26) (fun v32 => Option.some (Sum.inr v32)) v22) (fun v33 => Option.some (Sum.inr v33)) v6) (fun v34 => Option.some (Sum.inr v34)) v2
theorem f_239 (x : Ps [.ty tBody, .ty tBody]) : funcP CT T_239 251 [tHit, .bool] (drT CT T_239) lp_239 Tryz.f239 c_239 (encPs [.ty tBody, .ty tBody] x) = F_239 x.1 x.2.1 := by kernel_rfl
noncomputable def E_239 : Ent := .mkFnP 239 [] ⟨251, [.ty tBody, .ty tBody], [tHit, .bool], fun x => F_239 x.1 x.2.1, false⟩
theorem e_239 : E_239.Ok CT.P := Ent.ofFnP CT_ok T_239_ok hf_239 hb_239 lp_239_ok f_239
noncomputable def E_239h : Ent := .mkFnP 239 [] ⟨251, [.ty tBody, .ty tBody], [tHit, .bool], fun x => F_239 x.1 x.2.1, true⟩
/-! ### 240: maquette/touch.crates -/
noncomputable def c_240 : Code := Tryz.f240.body.getD .skip
theorem hb_240 : Tryz.f240.body = some c_240 := by kernel_rfl
theorem hf_240 : CT.P.funcs[240]? = some Tryz.f240 := by kernel_rfl
noncomputable def T_240 : Tb := mkTb tyT mpT [E_227, E_292, E_293, E_291]
theorem T_240_ok : T_240.Ok CT.P := mkTb_ok (⟨e_227, e_292, e_293, e_291, trivial⟩)
noncomputable def lp_240 {β : Type} : LpT β := fun _ _ _ => none
theorem lp_240_ok {β : Type} : LpTOk CT (lp_240 (β := β)) (loopsOf c_240) := by
  have h : loopsOf c_240 = [] := by kernel_rfl
  rw [h]
  exact LpTOk.nil
noncomputable def F_240 (a1 : Ty.El tBody) (a2 : Ty.El tBody) : Option (Els [tHit, .bool] ⊕ Int) := (F_227 a2.snd.snd.snd.fst a1.snd.snd.snd.fst).bind fun v2 => Sum.elim (fun v4 => (F_292 a1.snd.fst.fst a2.snd.fst.fst v4.fst.fst).bind fun v6 => Sum.elim (fun v8 => bif Decidable.decide (v8.fst ≤ (0 : Int)) then Option.some (Sum.inl ((((0 : Int), (0 : Int)), (0 : Int)), Bool.false, ())) else (F_292 a1.snd.fst.snd a2.snd.fst.snd v4.fst.snd).bind fun v10 => Sum.elim (fun v12 => bif Decidable.decide (v8.fst ≤ v12.fst) then (F_293 v4.fst.fst).bind fun v14 => (F_291 (v14.fst, (0 : Int)) v8.fst).bind fun v16 => Option.some (Sum.inl (v16.fst, v16.snd.fst, ())) else (F_293 v4.fst.snd).bind fun v18 => (F_291 ((0 : Int), v18.fst) v12.fst).bind fun v20 => Option.some (Sum.inl (v20.fst, v20.snd.fst, ()))) (fun v21 => Option.some (Sum.inr v21)) v10) (fun v22 => Option.some (Sum.inr v22)) v6) (fun v23 => Option.some (Sum.inr v23)) v2
theorem f_240 (x : Ps [.ty tBody, .ty tBody]) : funcP CT T_240 251 [tHit, .bool] (drT CT T_240) lp_240 Tryz.f240 c_240 (encPs [.ty tBody, .ty tBody] x) = F_240 x.1 x.2.1 := by kernel_rfl
noncomputable def E_240 : Ent := .mkFnP 240 [] ⟨251, [.ty tBody, .ty tBody], [tHit, .bool], fun x => F_240 x.1 x.2.1, false⟩
theorem e_240 : E_240.Ok CT.P := Ent.ofFnP CT_ok T_240_ok hf_240 hb_240 lp_240_ok f_240
noncomputable def E_240h : Ent := .mkFnP 240 [] ⟨251, [.ty tBody, .ty tBody], [tHit, .bool], fun x => F_240 x.1 x.2.1, true⟩
/-! ### 241: maquette/touch.both -/
noncomputable def c_241 : Code := Tryz.f241.body.getD .skip
theorem hb_241 : Tryz.f241.body = some c_241 := by kernel_rfl
theorem hf_241 : CT.P.funcs[241]? = some Tryz.f241 := by kernel_rfl
noncomputable def T_241 : Tb := mkTb tyT mpT [E_164, E_294, E_227, E_226, E_240, E_230, E_291]
theorem T_241_ok : T_241.Ok CT.P := mkTb_ok (⟨e_164, e_294, e_227, e_226, e_240, e_230, e_291, trivial⟩)
noncomputable def lp_241 {β : Type} : LpT β := fun _ _ _ => none
theorem lp_241_ok {β : Type} : LpTOk CT (lp_241 (β := β)) (loopsOf c_241) := by
  have h : loopsOf c_241 = [] := by kernel_rfl
  rw [h]
  exact LpTOk.nil
noncomputable def F_241 (a1 : Ty.El tBody) (a2 : Ty.El tBody) : Option (Els [tHit, .bool] ⊕ Int) := (F_164 a2).bind fun v2 => Sum.elim (fun v4 => (F_294 a1.snd.snd.snd.fst v4.fst).bind fun v6 => (F_227 v6.fst a1.snd.snd.snd.fst).bind fun v8 => Sum.elim (fun v10 => (F_226 v10.fst).bind fun v12 => Sum.elim (fun v14 => bif v14.snd.fst == (0 : Int) then (F_240 (a1.fst, (a1.snd.fst.fst, a1.snd.fst.fst), a1.snd.snd) a2).bind fun v16 => Sum.elim (fun v18 => Option.some (Sum.inl (v18.fst, v18.snd.fst, ()))) (fun v19 => Option.some (Sum.inr v19)) v16 else (F_230 a1.snd.fst.fst v14.snd.fst).bind fun v21 => Sum.elim (fun v23 => (F_291 v14.fst v23.fst).bind fun v25 => Option.some (Sum.inl (v25.fst, v25.snd.fst, ()))) (fun v26 => Option.some (Sum.inr v26)) v21) (fun v27 => Option.some (Sum.inr v27)) v12) (fun v28 => Option.some (Sum.inr v28)) v8) (fun v29 => Option.some (Sum.inr v29)) v2
theorem f_241 (x : Ps [.ty tBody, .ty tBody]) : funcP CT T_241 251 [tHit, .bool] (drT CT T_241) lp_241 Tryz.f241 c_241 (encPs [.ty tBody, .ty tBody] x) = F_241 x.1 x.2.1 := by kernel_rfl
noncomputable def E_241 : Ent := .mkFnP 241 [] ⟨251, [.ty tBody, .ty tBody], [tHit, .bool], fun x => F_241 x.1 x.2.1, false⟩
theorem e_241 : E_241.Ok CT.P := Ent.ofFnP CT_ok T_241_ok hf_241 hb_241 lp_241_ok f_241
noncomputable def E_241h : Ent := .mkFnP 241 [] ⟨251, [.ty tBody, .ty tBody], [tHit, .bool], fun x => F_241 x.1 x.2.1, true⟩
/-! ### 242: maquette/touch.Flip -/
noncomputable def c_242 : Code := Tryz.f242.body.getD .skip
theorem hb_242 : Tryz.f242.body = some c_242 := by kernel_rfl
theorem hf_242 : CT.P.funcs[242]? = some Tryz.f242 := by kernel_rfl
noncomputable def T_242 : Tb := mkTb tyT mpT [E_227]
theorem T_242_ok : T_242.Ok CT.P := mkTb_ok (⟨e_227, trivial⟩)
noncomputable def lp_242 {β : Type} : LpT β := fun _ _ _ => none
theorem lp_242_ok {β : Type} : LpTOk CT (lp_242 (β := β)) (loopsOf c_242) := by
  have h : loopsOf c_242 = [] := by kernel_rfl
  rw [h]
  exact LpTOk.nil
noncomputable def F_242 (a1 : Ty.El tHit) : Option (Els [tHit] ⊕ Int) := (F_227 ((0 : Int), (0 : Int)) a1.fst).bind fun v2 => Sum.elim (fun v4 => Option.some (Sum.inl ((v4.fst, a1.snd), ()))) (fun v5 => Option.some (Sum.inr v5)) v2
theorem f_242 (x : Ps [.ty tHit]) : funcP CT T_242 251 [tHit] (drT CT T_242) lp_242 Tryz.f242 c_242 (encPs [.ty tHit] x) = F_242 x.1 := by kernel_rfl
noncomputable def E_242 : Ent := .mkFnP 242 [] ⟨251, [.ty tHit], [tHit], fun x => F_242 x.1, false⟩
theorem e_242 : E_242.Ok CT.P := Ent.ofFnP CT_ok T_242_ok hf_242 hb_242 lp_242_ok f_242
noncomputable def E_242h : Ent := .mkFnP 242 [] ⟨251, [.ty tHit], [tHit], fun x => F_242 x.1, true⟩
/-! ### 166: maquette/touch.Hit -/
noncomputable def c_166 : Code := Tryz.f166.body.getD .skip
theorem hb_166 : Tryz.f166.body = some c_166 := by kernel_rfl
theorem hf_166 : CT.P.funcs[166]? = some Tryz.f166 := by kernel_rfl
noncomputable def T_166 : Tb := mkTb tyT mpT [E_239, E_240, E_241, E_242]
theorem T_166_ok : T_166.Ok CT.P := mkTb_ok (⟨e_239, e_240, e_241, e_242, trivial⟩)
noncomputable def lp_166 {β : Type} : LpT β := fun _ _ _ => none
theorem lp_166_ok {β : Type} : LpTOk CT (lp_166 (β := β)) (loopsOf c_166) := by
  have h : loopsOf c_166 = [] := by kernel_rfl
  rw [h]
  exact LpTOk.nil
noncomputable def F_166 (a1 : Ty.El tBody) (a2 : Ty.El tBody) : Option (Els [tHit, .bool] ⊕ Int) := bif a1.fst == (1 : Int) then bif a2.fst == (1 : Int) then (F_239 a1 a2).bind fun v2 => Sum.elim (fun v4 => Option.some (Sum.inl (v4.fst, v4.snd.fst, ()))) (fun v5 => Option.some (Sum.inr v5)) v2 else bif a1.fst == (2 : Int) then bif a2.fst == (2 : Int) then (F_240 a1 a2).bind fun v7 => Sum.elim (fun v9 => Option.some (Sum.inl (v9.fst, v9.snd.fst, ()))) (fun v10 => Option.some (Sum.inr v10)) v7 else bif a1.fst == (1 : Int) then bif a2.fst == (2 : Int) then (F_241 a1 a2).bind fun v12 => Sum.elim (fun v14 => Option.some (Sum.inl (v14.fst, v14.snd.fst, ()))) (fun v15 => Option.some (Sum.inr v15)) v12 else bif a1.fst == (2 : Int) then bif a2.fst == (1 : Int) then (F_241 a2 a1).bind fun v17 => Sum.elim (fun v19 => (F_242 v19.fst).bind fun v21 => Sum.elim (fun v23 => Option.some (Sum.inl (v23.fst, v19.snd.fst, ()))) (fun v24 => Option.some (Sum.inr v24)) v21) (fun v25 => Option.some (Sum.inr v25)) v17 else Option.some (Sum.inl ((((0 : Int), (0 : Int)), (0 : Int)), Bool.false, ())) else Option.some (Sum.inl ((((0 : Int), (0 : Int)), (0 : Int)), Bool.false, ())) else bif a1.fst == (2 : Int) then bif a2.fst == (1 : Int) then (F_241 a2 a1).bind fun v27 => Sum.elim (fun v29 => (F_242 v29.fst).bind fun v31 => Sum.elim (fun v33 => Option.some (Sum.inl (v33.fst, v29.snd.fst, ()))) (fun v34 => Option.some (Sum.inr v34)) v31) (fun v35 => Option.some (Sum.inr v35)) v27 else Option.some (Sum.inl ((((0 : Int), (0 : Int)), (0 : Int)), Bool.false, ())) else Option.some (Sum.inl ((((0 : Int), (0 : Int)), (0 : Int)), Bool.false, ())) else bif a1.fst == (1 : Int) then bif a2.fst == (2 : Int) then (F_241 a1 a2).bind fun v37 => Sum.elim (fun v39 => Option.some (Sum.inl (v39.fst, v39.snd.fst, ()))) (fun v40 => Option.some (Sum.inr v40)) v37 else bif a1.fst == (2 : Int) then bif a2.fst == (1 : Int) then (F_241 a2 a1).bind fun v42 => Sum.elim (fun v44 => (F_242 v44.fst).bind fun v46 => Sum.elim (fun v48 => Option.some (Sum.inl (v48.fst, v44.snd.fst, ()))) (fun v49 => Option.some (Sum.inr v49)) v46) (fun v50 => Option.some (Sum.inr v50)) v42 else Option.some (Sum.inl ((((0 : Int), (0 : Int)), (0 : Int)), Bool.false, ())) else Option.some (Sum.inl ((((0 : Int), (0 : Int)), (0 : Int)), Bool.false, ())) else bif a1.fst == (2 : Int) then bif a2.fst == (1 : Int) then (F_241 a2 a1).bind fun v52 => Sum.elim (fun v54 => (F_242 v54.fst).bind fun v56 => Sum.elim (fun v58 => Option.some (Sum.inl (v58.fst, v54.snd.fst, ()))) (fun v59 => Option.some (Sum.inr v59)) v56) (fun v60 => Option.some (Sum.inr v60)) v52 else Option.some (Sum.inl ((((0 : Int), (0 : Int)), (0 : Int)), Bool.false, ())) else Option.some (Sum.inl ((((0 : Int), (0 : Int)), (0 : Int)), Bool.false, ())) else bif a1.fst == (2 : Int) then bif a2.fst == (2 : Int) then (F_240 a1 a2).bind fun v62 => Sum.elim (fun v64 => Option.some (Sum.inl (v64.fst, v64.snd.fst, ()))) (fun v65 => Option.some (Sum.inr v65)) v62 else bif a1.fst == (1 : Int) then bif a2.fst == (2 : Int) then (F_241 a1 a2).bind fun v67 => Sum.elim (fun v69 => Option.some (Sum.inl (v69.fst, v69.snd.fst, ()))) (fun v70 => Option.some (Sum.inr v70)) v67 else bif a1.fst == (2 : Int) then bif a2.fst == (1 : Int) then (F_241 a2 a1).bind fun v72 => Sum.elim (fun v74 => (F_242 v74.fst).bind fun v76 => Sum.elim (fun v78 => Option.some (Sum.inl (v78.fst, v74.snd.fst, ()))) (fun v79 => Option.some (Sum.inr v79)) v76) (fun v80 => Option.some (Sum.inr v80)) v72 else Option.some (Sum.inl ((((0 : Int), (0 : Int)), (0 : Int)), Bool.false, ())) else Option.some (Sum.inl ((((0 : Int), (0 : Int)), (0 : Int)), Bool.false, ())) else bif a1.fst == (2 : Int) then bif a2.fst == (1 : Int) then (F_241 a2 a1).bind fun v82 => Sum.elim (fun v84 => (F_242 v84.fst).bind fun v86 => Sum.elim (fun v88 => Option.some (Sum.inl (v88.fst, v84.snd.fst, ()))) (fun v89 => Option.some (Sum.inr v89)) v86) (fun v90 => Option.some (Sum.inr v90)) v82 else Option.some (Sum.inl ((((0 : Int), (0 : Int)), (0 : Int)), Bool.false, ())) else Option.some (Sum.inl ((((0 : Int), (0 : Int)), (0 : Int)), Bool.false, ())) else bif a1.fst == (1 : Int) then bif a2.fst == (2 : Int) then (F_241 a1 a2).bind fun v92 => Sum.elim (fun v94 => Option.some (Sum.inl (v94.fst, v94.snd.fst, ()))) (fun v95 => Option.some (Sum.inr v95)) v92 else bif a1.fst == (2 : Int) then bif a2.fst == (1 : Int) then (F_241 a2 a1).bind fun v97 => Sum.elim (fun v99 => (F_242 v99.fst).bind fun v101 => Sum.elim (fun v103 => Option.some (Sum.inl (v103.fst, v99.snd.fst, ()))) (fun v104 => Option.some (Sum.inr v104)) v101) (fun v105 => Option.some (Sum.inr v105)) v97 else Option.some (Sum.inl ((((0 : Int), (0 : Int)), (0 : Int)), Bool.false, ())) else Option.some (Sum.inl ((((0 : Int), (0 : Int)), (0 : Int)), Bool.false, ())) else bif a1.fst == (2 : Int) then bif a2.fst == (1 : Int) then (F_241 a2 a1).bind fun v107 => Sum.elim (fun v109 => (F_242 v109.fst).bind fun v111 => Sum.elim (fun v113 => Option.some (Sum.inl (v113.fst, v109.snd.fst, ()))) (fun v114 => Option.some (Sum.inr v114)) v111) (fun v115 => Option.some (Sum.inr v115)) v107 else Option.some (Sum.inl ((((0 : Int), (0 : Int)), (0 : Int)), Bool.false, ())) else Option.some (Sum.inl ((((0 : Int), (0 : Int)), (0 : Int)), Bool.false, ()))
theorem f_166 (x : Ps [.ty tBody, .ty tBody]) : funcP CT T_166 251 [tHit, .bool] (drT CT T_166) lp_166 Tryz.f166 c_166 (encPs [.ty tBody, .ty tBody] x) = F_166 x.1 x.2.1 := by kernel_rfl
noncomputable def E_166 : Ent := .mkFnP 166 [] ⟨251, [.ty tBody, .ty tBody], [tHit, .bool], fun x => F_166 x.1 x.2.1, false⟩
theorem e_166 : E_166.Ok CT.P := Ent.ofFnP CT_ok T_166_ok hf_166 hb_166 lp_166_ok f_166
noncomputable def E_166h : Ent := .mkFnP 166 [] ⟨251, [.ty tBody, .ty tBody], [tHit, .bool], fun x => F_166 x.1 x.2.1, true⟩
/-! ### 228: maquette/push.both -/
noncomputable def c_228 : Code := Tryz.f228.body.getD .skip
theorem hb_228 : Tryz.f228.body = some c_228 := by kernel_rfl
theorem hf_228 : CT.P.funcs[228]? = some Tryz.f228 := by kernel_rfl
noncomputable def T_228 : Tb := mkTb tyT mpT [E_243, E_154]
theorem T_228_ok : T_228.Ok CT.P := mkTb_ok (⟨e_243, e_154, trivial⟩)
noncomputable def lp_228 {β : Type} : LpT β := fun _ _ _ => none
theorem lp_228_ok {β : Type} : LpTOk CT (lp_228 (β := β)) (loopsOf c_228) := by
  have h : loopsOf c_228 = [] := by kernel_rfl
  rw [h]
  exact LpTOk.nil
noncomputable def F_228 (a1 : Ty.El tBody) (a2 : Ty.El tBody) : Option (Els [I] ⊕ Int) := (F_243 a1).bind fun v2 => Sum.elim (fun v4 => (F_243 a2).bind fun v6 => Sum.elim (fun v8 => (F_154 v4.fst v8.fst).bind fun v10 => Sum.elim (fun v12 => Option.some (Sum.inl (v12.fst, ()))) (fun v13 => Option.some (Sum.inr v13)) v10) (fun v14 => Option.some (Sum.inr v14)) v6) (fun v15 => Option.some (Sum.inr v15)) v2
theorem f_228 (x : Ps [.ty tBody, .ty tBody]) : funcP CT T_228 251 [I] (drT CT T_228) lp_228 Tryz.f228 c_228 (encPs [.ty tBody, .ty tBody] x) = F_228 x.1 x.2.1 := by kernel_rfl
noncomputable def E_228 : Ent := .mkFnP 228 [] ⟨251, [.ty tBody, .ty tBody], [I], fun x => F_228 x.1 x.2.1, false⟩
theorem e_228 : E_228.Ok CT.P := Ent.ofFnP CT_ok T_228_ok hf_228 hb_228 lp_228_ok f_228
noncomputable def E_228h : Ent := .mkFnP 228 [] ⟨251, [.ty tBody, .ty tBody], [I], fun x => F_228 x.1 x.2.1, true⟩
/-! ### 229: maquette/push.speed -/
noncomputable def c_229 : Code := Tryz.f229.body.getD .skip
theorem hb_229 : Tryz.f229.body = some c_229 := by kernel_rfl
theorem hf_229 : CT.P.funcs[229]? = some Tryz.f229 := by kernel_rfl
noncomputable def T_229 : Tb := mkTb tyT mpT [E_168, E_227, E_283]
theorem T_229_ok : T_229.Ok CT.P := mkTb_ok (⟨e_168, e_227, e_283, trivial⟩)
noncomputable def lp_229 {β : Type} : LpT β := fun _ _ _ => none
theorem lp_229_ok {β : Type} : LpTOk CT (lp_229 (β := β)) (loopsOf c_229) := by
  have h : loopsOf c_229 = [] := by kernel_rfl
  rw [h]
  exact LpTOk.nil
noncomputable def F_229 (a1 : Ty.El tBody) (a2 : Ty.El tBody) (a3 : Ty.El tVec) : Option (Els [I] ⊕ Int) := (F_168 a2).bind fun v2 => Sum.elim (fun v4 => (F_168 a1).bind fun v6 => Sum.elim (fun v8 => (F_227 v4.fst v8.fst).bind fun v10 => Sum.elim (fun v12 => (F_283 v12.fst a3).bind fun v14 => Sum.elim (fun v16 => Option.some (Sum.inl (v16.fst, ()))) (fun v17 => Option.some (Sum.inr v17)) v14) (fun v18 => Option.some (Sum.inr v18)) v10) (fun v19 => Option.some (Sum.inr v19)) v6) (fun v20 => Option.some (Sum.inr v20)) v2
theorem f_229 (x : Ps [.ty tBody, .ty tBody, .ty tVec]) : funcP CT T_229 251 [I] (drT CT T_229) lp_229 Tryz.f229 c_229 (encPs [.ty tBody, .ty tBody, .ty tVec] x) = F_229 x.1 x.2.1 x.2.2.1 := by kernel_rfl
noncomputable def E_229 : Ent := .mkFnP 229 [] ⟨251, [.ty tBody, .ty tBody, .ty tVec], [I], fun x => F_229 x.1 x.2.1 x.2.2.1, false⟩
theorem e_229 : E_229.Ok CT.P := Ent.ofFnP CT_ok T_229_ok hf_229 hb_229 lp_229_ok f_229
noncomputable def E_229h : Ent := .mkFnP 229 [] ⟨251, [.ty tBody, .ty tBody, .ty tVec], [I], fun x => F_229 x.1 x.2.1 x.2.2.1, true⟩
/-! ### 232: maquette/push.Apply -/
noncomputable def c_232 : Code := Tryz.f232.body.getD .skip
theorem hb_232 : Tryz.f232.body = some c_232 := by kernel_rfl
theorem hf_232 : CT.P.funcs[232]? = some Tryz.f232 := by kernel_rfl
noncomputable def T_232 : Tb := mkTb tyT mpT [E_227, E_62]
theorem T_232_ok : T_232.Ok CT.P := mkTb_ok (⟨e_227, e_62, trivial⟩)
noncomputable def lp_232 {β : Type} : LpT β := fun _ _ _ => none
theorem lp_232_ok {β : Type} : LpTOk CT (lp_232 (β := β)) (loopsOf c_232) := by
  have h : loopsOf c_232 = [] := by kernel_rfl
  rw [h]
  exact LpTOk.nil
noncomputable def F_232 (a1 : Ty.El tBody) (a2 : Ty.El tBody) (a3 : Ty.El tVec) : Option (Els [tBody, tBody] ⊕ Int) := bif a1.snd.snd.fst != (0 : Int) then (F_227 a1.snd.snd.snd.snd a3).bind fun v2 => Sum.elim (fun v4 => bif a2.snd.snd.fst != (0 : Int) then (F_62 a2.snd.snd.snd.snd a3).bind fun v6 => Sum.elim (fun v8 => Option.some (Sum.inl ((a1.fst, a1.snd.fst, a1.snd.snd.fst, a1.snd.snd.snd.fst, v4.fst), (a2.fst, a2.snd.fst, a2.snd.snd.fst, a2.snd.snd.snd.fst, v8.fst), ()))) (fun v9 => Option.some (Sum.inr v9)) v6 else Option.some (Sum.inl ((a1.fst, a1.snd.fst, a1.snd.snd.fst, a1.snd.snd.snd.fst, v4.fst), a2, ()))) (fun v10 => Option.some (Sum.inr v10)) v2 else bif a2.snd.snd.fst != (0 : Int) then (F_62 a2.snd.snd.snd.snd a3).bind fun v12 => Sum.elim (fun v14 => Option.some (Sum.inl (a1, (a2.fst, a2.snd.fst, a2.snd.snd.fst, a2.snd.snd.snd.fst, v14.fst), ()))) (fun v15 => Option.some (Sum.inr v15)) v12 else Option.some (Sum.inl (a1, a2, ()))
theorem f_232 (x : Ps [.ty tBody, .ty tBody, .ty tVec]) : funcP CT T_232 251 [tBody, tBody] (drT CT T_232) lp_232 Tryz.f232 c_232 (encPs [.ty tBody, .ty tBody, .ty tVec] x) = F_232 x.1 x.2.1 x.2.2.1 := by kernel_rfl
noncomputable def E_232 : Ent := .mkFnP 232 [] ⟨251, [.ty tBody, .ty tBody, .ty tVec], [tBody, tBody], fun x => F_232 x.1 x.2.1 x.2.2.1, false⟩
theorem e_232 : E_232.Ok CT.P := Ent.ofFnP CT_ok T_232_ok hf_232 hb_232 lp_232_ok f_232
noncomputable def E_232h : Ent := .mkFnP 232 [] ⟨251, [.ty tBody, .ty tBody, .ty tVec], [tBody, tBody], fun x => F_232 x.1 x.2.1 x.2.2.1, true⟩
/-! ### 163: maquette/push.Joint -/
noncomputable def c_163 : Code := Tryz.f163.body.getD .skip
theorem hb_163 : Tryz.f163.body = some c_163 := by kernel_rfl
theorem hf_163 : CT.P.funcs[163]? = some Tryz.f163 := by kernel_rfl
noncomputable def T_163 : Tb := mkTb tyT mpT [E_227, E_226, E_228, E_229, E_230, E_225, E_154, E_231, E_162, E_232]
theorem T_163_ok : T_163.Ok CT.P := mkTb_ok (⟨e_227, e_226, e_228, e_229, e_230, e_225, e_154, e_231, e_162, e_232, trivial⟩)
noncomputable def lp_163 {β : Type} : LpT β := fun _ _ _ => none
theorem lp_163_ok {β : Type} : LpTOk CT (lp_163 (β := β)) (loopsOf c_163) := by
  have h : loopsOf c_163 = [] := by kernel_rfl
  rw [h]
  exact LpTOk.nil
noncomputable def F_163 (a1 : Ty.El tBody) (a2 : Ty.El tBody) (a3 : Ty.El I) : Option (Els [tBody, tBody] ⊕ Int) := (F_227 a2.snd.snd.snd.fst a1.snd.snd.snd.fst).bind fun v2 => Sum.elim (fun v4 => (F_226 v4.fst).bind fun v6 => Sum.elim (fun v8 => bif v8.snd.fst == (0 : Int) then Option.some (Sum.inl (a1, a2, ())) else (F_228 a1 a2).bind fun v10 => Sum.elim (fun v12 => bif v12.fst == (0 : Int) then Option.some (Sum.inl (a1, a2, ())) else (F_229 a1 a2 v8.fst).bind fun v14 => Sum.elim (fun v16 => (F_230 v8.snd.fst a3).bind fun v18 => Sum.elim (fun v20 => (F_225 v20.fst (34359738368 : Int)).bind fun v22 => Sum.elim (fun v24 => (F_154 v16.fst v24.fst).bind fun v26 => Sum.elim (fun v28 => (F_230 (0 : Int) v28.fst).bind fun v30 => Sum.elim (fun v32 => (F_231 v32.fst v12.fst).bind fun v34 => Sum.elim (fun v36 => (F_162 v8.fst v36.fst).bind fun v38 => Sum.elim (fun v40 => (F_232 a1 a2 v40.fst).bind fun v42 => Sum.elim (fun v44 => Option.some (Sum.inl (v44.fst, v44.snd.fst, ()))) (fun v45 => Option.some (Sum.inr v45)) v42) (fun v46 => Option.some (Sum.inr v46)) v38) (fun v47 => Option.some (Sum.inr v47)) v34) (fun v48 => Option.some (Sum.inr v48)) v30) (fun v49 => Option.some (Sum.inr v49)) v26) (fun v50 => Option.some (Sum.inr v50)) v22) (fun v51 => Option.some (Sum.inr v51)) v18) (fun v52 => Option.some (Sum.inr v52)) v14) (fun v53 => Option.some (Sum.inr v53)) v10) (fun v54 => Option.some (Sum.inr v54)) v6) (fun v55 => Option.some (Sum.inr v55)) v2
theorem f_163 (x : Ps [.ty tBody, .ty tBody, .ty I]) : funcP CT T_163 251 [tBody, tBody] (drT CT T_163) lp_163 Tryz.f163 c_163 (encPs [.ty tBody, .ty tBody, .ty I] x) = F_163 x.1 x.2.1 x.2.2.1 := by kernel_rfl
noncomputable def E_163 : Ent := .mkFnP 163 [] ⟨251, [.ty tBody, .ty tBody, .ty I], [tBody, tBody], fun x => F_163 x.1 x.2.1 x.2.2.1, false⟩
theorem e_163 : E_163.Ok CT.P := Ent.ofFnP CT_ok T_163_ok hf_163 hb_163 lp_163_ok f_163
noncomputable def E_163h : Ent := .mkFnP 163 [] ⟨251, [.ty tBody, .ty tBody, .ty I], [tBody, tBody], fun x => F_163 x.1 x.2.1 x.2.2.1, true⟩
/-! ### 167: maquette/push.Contact -/
noncomputable def c_167 : Code := Tryz.f167.body.getD .skip
theorem hb_167 : Tryz.f167.body = some c_167 := by kernel_rfl
theorem hf_167 : CT.P.funcs[167]? = some Tryz.f167 := by kernel_rfl
noncomputable def T_167 : Tb := mkTb tyT mpT [E_228, E_229, E_154, E_230, E_231, E_162, E_232, E_225, E_243, E_227, E_62]
theorem T_167_ok : T_167.Ok CT.P := mkTb_ok (⟨e_228, e_229, e_154, e_230, e_231, e_162, e_232, e_225, e_243, e_227, e_62, trivial⟩)
noncomputable def lp_167 {β : Type} : LpT β := fun _ _ _ => none
theorem lp_167_ok {β : Type} : LpTOk CT (lp_167 (β := β)) (loopsOf c_167) := by
  have h : loopsOf c_167 = [] := by kernel_rfl
  rw [h]
  exact LpTOk.nil
noncomputable def F_167 (a1 : Ty.El tBody) (a2 : Ty.El tBody) (a3 : Ty.El tHit) : Option (Els [tBody, tBody] ⊕ Int) := (F_228 a1 a2).bind fun v2 => Sum.elim (fun v4 => bif v4.fst == (0 : Int) then Option.some (Sum.inl (a1, a2, ())) else (F_229 a1 a2 a3.fst).bind fun v6 => Sum.elim (fun v8 => bif Decidable.decide (v8.fst < (0 : Int)) then (F_154 v8.fst (Go.IntKind.i64.wrap (Int.tdiv v8.fst (2 : Int)))).bind fun v10 => Sum.elim (fun v12 => (F_230 (0 : Int) v12.fst).bind fun v14 => Sum.elim (fun v16 => (F_231 v16.fst v4.fst).bind fun v18 => Sum.elim (fun v20 => (F_162 a3.fst v20.fst).bind fun v22 => Sum.elim (fun v24 => (F_232 a1 a2 v24.fst).bind fun v26 => Sum.elim (fun v28 => (F_231 (Go.IntKind.i64.wrap (Int.tdiv a3.snd (2 : Int))) v4.fst).bind fun v30 => Sum.elim (fun v32 => (F_243 v28.fst).bind fun v34 => Sum.elim (fun v36 => (F_225 v32.fst v36.fst).bind fun v38 => Sum.elim (fun v40 => (F_162 a3.fst v40.fst).bind fun v42 => Sum.elim (fun v44 => (F_227 v28.fst.snd.snd.snd.fst v44.fst).bind fun v46 => Sum.elim (fun v48 => (F_243 v28.snd.fst).bind fun v50 => Sum.elim (fun v52 => (F_225 v32.fst v52.fst).bind fun v54 => Sum.elim (fun v56 => (F_162 a3.fst v56.fst).bind fun v58 => Sum.elim (fun v60 => (F_62 v28.snd.fst.snd.snd.snd.fst v60.fst).bind fun v62 => Sum.elim (fun v64 => Option.some (Sum.inl ((v28.fst.fst, v28.fst.snd.fst, v28.fst.snd.snd.fst, v48.fst, v28.fst.snd.snd.snd.snd), (v28.snd.fst.fst, v28.snd.fst.snd.fst, v28.snd.fst.snd.snd.fst, v64.fst, v28.snd.fst.snd.snd.snd.snd), ()))) (fun v65 => Option.some (Sum.inr v65)) v62) (fun v66 => Option.some (Sum.inr v66)) v58) (fun v67 => Option.some (Sum.inr v67)) v54) (fun v68 => Option.some (Sum.inr v68)) v50) (fun v69 => Option.some (Sum.inr v69)) v46) (fun v70 => Option.some (Sum.inr v70)) v42) (fun v71 => Option.some (Sum.inr v71)) v38) (fun v72 => Option.some (Sum.inr v72)) v34) (fun v73 => Option.some (Sum.inr v73)) v30) (fun v74 => Option.some (Sum.inr v74)) v26) (fun v75 => Option.some (Sum.inr v75)) v22) (fun v76 => Option.some (Sum.inr v76)) v18) (fun v77 => Option.some (Sum.inr v77)) v14) (fun v78 => Option.some (Sum.inr v78)) v10 else (F_231 (Go.IntKind.i64.wrap (Int.tdiv a3.snd (2 : Int))) v4.fst).bind fun v80 => Sum.elim (fun v82 => (F_243 a1).bind fun v84 => Sum.elim (fun v86 => (F_225 v82.fst v86.fst).bind fun v88 => Sum.elim (fun v90 => (F_162 a3.fst v90.fst).bind fun v92 => Sum.elim (fun v94 => (F_227 a1.snd.snd.snd.fst v94.fst).bind fun v96 => Sum.elim (fun v98 => (F_243 a2).bind fun v100 => Sum.elim (fun v102 => (F_225 v82.fst v102.fst).bind fun v104 => Sum.elim (fun v106 => (F_162 a3.fst v106.fst).bind fun v108 => Sum.elim (fun v110 => (F_62 a2.snd.snd.snd.fst v110.fst).bind fun v112 => Sum.elim (fun v114 => Option.some (Sum.inl ((a1.fst, a1.snd.fst, a1.snd.snd.fst, v98.fst, a1.snd.snd.snd.snd), (a2.fst, a2.snd.fst, a2.snd.snd.fst, v114.fst, a2.snd.snd.snd.snd), ()))) (fun v115 => Option.some (Sum.inr v115)) v112) (fun v116 => Option.some (Sum.inr v116)) v108) (fun v117 => Option.some (Sum.inr v117)) v104) (fun v118 => Option.some (Sum.inr v118)) v100) (fun v119 => Option.some (Sum.inr v119)) v96) (fun v120 => Option.some (Sum.inr v120)) v92) (fun v121 => Option.some (Sum.inr v121)) v88) (fun v122 => Option.some (Sum.inr v122)) v84) (fun v123 => Option.some (Sum.inr v123)) v80) (fun v124 => Option.some (Sum.inr v124)) v6) (fun v125 => Option.some (Sum.inr v125)) v2
theorem f_167 (x : Ps [.ty tBody, .ty tBody, .ty tHit]) : funcP CT T_167 251 [tBody, tBody] (drT CT T_167) lp_167 Tryz.f167 c_167 (encPs [.ty tBody, .ty tBody, .ty tHit] x) = F_167 x.1 x.2.1 x.2.2.1 := by kernel_rfl
noncomputable def E_167 : Ent := .mkFnP 167 [] ⟨251, [.ty tBody, .ty tBody, .ty tHit], [tBody, tBody], fun x => F_167 x.1 x.2.1 x.2.2.1, false⟩
theorem e_167 : E_167.Ok CT.P := Ent.ofFnP CT_ok T_167_ok hf_167 hb_167 lp_167_ok f_167
noncomputable def E_167h : Ent := .mkFnP 167 [] ⟨251, [.ty tBody, .ty tBody, .ty tHit], [tBody, tBody], fun x => F_167 x.1 x.2.1 x.2.2.1, true⟩
end Go.DI.S

