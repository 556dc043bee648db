import Derived.Test.YtehnecfmjfpclaaGreatAa
/- Changes: told by functions on data. No conditions. -/
set_option linter.unusedVariables false
set_option maxRecDepth 100000
set_option maxHeartbeats 0
namespace Go.DI.S
open Go.Proofs
noncomputable def c_106 : Code := Tryz.f99.body.getD .skip
theorem hb_106 : Tryz.f99.body = some c_106 := by kernel_rfl
theorem hf_106 : CT.P.funcs[99]? = some Tryz.f99 := by kernel_rfl
noncomputable def T_106 : Tb := mkTb tyP mpP [E_63]
theorem T_106_ok : T_106.Ok CT.P := mkTb_ok (⟨e_63, trivial⟩)
noncomputable def lp_106 {β : Type} : LpT β := fun _ _ _ => none
theorem lp_106_ok {β : Type} : LpTOk CT (lp_106 (β := β)) (loopsOf c_106) := by
  have h : loopsOf c_106 = [] := by kernel_rfl
  rw [h]
  exact LpTOk.nil
noncomputable def F_106 (a1 : Ty.El tDelta) (a2 : Ty.El .str) : Option (Els [.bool]) := (F_63 a2).bind fun v2 => bif a2 == [] then Option.some (Bool.true, ()) else bif v2.snd.fst then Option.some (v2.fst.fst == a1.fst, ()) else Option.some (Bool.false, ())
theorem f_106 (x : Ps [.ty tDelta, .ty .str]) : funcT CT T_106 [.bool] (drT CT T_106) lp_106 Tryz.f99 c_106 (encPs [.ty tDelta, .ty .str] x) = F_106 x.1 x.2.1 := by kernel_rfl
noncomputable def E_106 : Ent := .fn 99 [] ⟨[.ty tDelta, .ty .str], [.bool], fun x => F_106 x.1 x.2.1, false⟩
theorem e_106 : E_106.Ok CT.P := Ent.ofFn CT_ok T_106_ok hf_106 hb_106 lp_106_ok f_106
noncomputable def c_64 : Code := Tryz.f48.body.getD .skip
theorem hb_64 : Tryz.f48.body = some c_64 := by kernel_rfl
theorem hf_64 : CT.P.funcs[48]? = some Tryz.f48 := by kernel_rfl
noncomputable def T_64 : Tb := mkTb tyP mpP [E_86, E_99, E_106]
theorem T_64_ok : T_64.Ok CT.P := mkTb_ok (⟨e_86, e_99, e_106, trivial⟩)
noncomputable def l_64_3 : Code := atLoop c_64 3
noncomputable abbrev LD_64_3 : LayD := ⟨118, [(1, .ptr 0), (3, .data I), (9, .data (.list tDelta)), (10, .data I), (11, .data I)], [.var 56 [.data tEntry]], fun s => [slotR s 1]⟩
noncomputable abbrev LA_64_3 : LayD := ⟨118, [(1, .ptr 0)], [.var 56 [.data tEntry]], fun s => [slotR s 1]⟩
noncomputable abbrev LB_64_3 : LayD := ⟨118, [(2, .data .bool)], [], fun _ => []⟩
noncomputable def EX_64_3 : Exits 0 LA_64_3.El LB_64_3.El := ⟨.exit 0, LA_64_3.lay [], .ret, LB_64_3.lay []⟩
noncomputable def lpi_64_3 {β : Type} : LpT β := fun _ _ _ => none
theorem lpi_64_3_ok {β : Type} : LpTOk CT (lpi_64_3 (β := β)) (loopsOf l_64_3) := by
  have h : loopsOf l_64_3 = [] := by kernel_rfl
  rw [h]
  exact LpTOk.nil
noncomputable def G_64_3 (r3 : Ty.El I) (r9 : Ty.El (.list tDelta)) (r10 : Ty.El I) (r11 : Ty.El I) (b0 : Ty.El tEntry × Unit) : Option (LD_64_3.El ⊕ (LA_64_3.El ⊕ LB_64_3.El)) := bif Decidable.decide (r11 < r10) then bif Decidable.decide ((0 : Int) ≤ r11 ∧ r11 < (↑(List.length r9) : Int)) then bif Decidable.decide ((List.getD r9 (Int.toNat r11) Go.DI.S.tDelta.dflt).fst ≤ r3) then Option.some (Sum.inr (Sum.inr ((Bool.false, ()), ()))) else (F_86 (List.getD r9 (Int.toNat r11) Go.DI.S.tDelta.dflt).fst).bind fun v2 => bif !v2.fst then Option.some (Sum.inr (Sum.inr ((Bool.false, ()), ()))) else bif (List.getD r9 (Int.toNat r11) Go.DI.S.tDelta.dflt).snd.fst == (List.getD r9 (Int.toNat r11) Go.DI.S.tDelta.dflt).snd.snd then Option.some (Sum.inr (Sum.inr ((Bool.false, ()), ()))) else (F_106 (List.getD r9 (Int.toNat r11) Go.DI.S.tDelta.dflt) (List.getD r9 (Int.toNat r11) Go.DI.S.tDelta.dflt).snd.fst).bind fun v4 => bif !v4.fst then Option.some (Sum.inr (Sum.inr ((Bool.false, ()), ()))) else (F_106 (List.getD r9 (Int.toNat r11) Go.DI.S.tDelta.dflt) (List.getD r9 (Int.toNat r11) Go.DI.S.tDelta.dflt).snd.snd).bind fun v6 => bif !v6.fst then Option.some (Sum.inr (Sum.inr ((Bool.false, ()), ()))) else Option.some (Sum.inl (((), (List.getD r9 (Int.toNat r11) Go.DI.S.tDelta.dflt).fst, r9, r10, Go.IntKind.i64.wrap (r11 + (1 : Int)), ()), (b0.fst, ()), ())) else Option.none else Option.some (Sum.inr (Sum.inl (((), ()), (b0.fst, ()), ())))
theorem g_64_3 (x : LD_64_3.El) : codeT CT T_64 (drT CT T_64) lpi_64_3 l_64_3 (LD_64_3.enc x) (bodyK (LD_64_3.lay []) EX_64_3) = G_64_3 x.1.2.1 x.1.2.2.1 x.1.2.2.2.1 x.1.2.2.2.2.1 x.2.1 := by kernel_rfl
noncomputable def R_64_3 : LD_64_3.El → Option (LA_64_3.El ⊕ LB_64_3.El) := roundsT (fun x => G_64_3 x.1.2.1 x.1.2.2.1 x.1.2.2.2.1 x.1.2.2.2.2.1 x.2.1) fuel
theorem r_64_3 : ∀ x y, R_64_3 x = some y → CL CT l_64_3 (LD_64_3.enc x) (Sum.elim (fun _ => EX_64_3.xa) (fun _ => EX_64_3.xb) y) (Sum.elim EX_64_3.la.enc EX_64_3.lb.enc y) :=
  rounds_ok (L := LD_64_3.lay []) (E := EX_64_3) CT_ok T_64_ok (drT_ok CT_ok T_64_ok) lpi_64_3_ok g_64_3 rfl rfl (fun v h => by have hh : (.exit 0 : AX) = .pan v := h; cases hh) (fun v h => by have hh : (.ret : AX) = .pan v := h; cases hh) fuel
noncomputable def lp_64 {β : Type} : LpT β := fun k s K => if Nat.beq k 3 then lpOne (LD_64_3.lay []) EX_64_3 R_64_3 s K else none
theorem lp_64_ok {β : Type} : LpTOk CT (lp_64 (β := β)) (loopsOf c_64) := by
  have h : loopsOf c_64 = [(3, l_64_3)] := by kernel_rfl
  rw [h]
  exact LpTOk.cons (fun s K z h => lpOne_ok r_64_3 h) (LpTOk.nil)
noncomputable def F_64 (a1 : Ty.El tEntry) : Option (Els [.bool]) := (R_64_3 (((), (0 : Int), a1.fst, (↑(List.length a1.fst) : Int), (0 : Int), ()), (a1, ()), ())).bind fun v1 => Sum.elim (fun v2 => bif Decidable.decide ((↑(List.length v2.snd.fst.fst.fst) : Int) > (40 : Int)) then Option.some (Bool.false, ()) else bif !v2.snd.fst.fst.snd.fst == !(v2.snd.fst.fst.snd.snd.fst.fst == v2.snd.fst.fst.snd.snd.snd.fst.fst && (v2.snd.fst.fst.snd.snd.fst.snd == v2.snd.fst.fst.snd.snd.snd.fst.snd && Bool.true)) then Option.some (Bool.false, ()) else bif !v2.snd.fst.fst.snd.fst then bif !(v2.snd.fst.fst.snd.snd.fst.fst == (0 : Int) && (v2.snd.fst.fst.snd.snd.fst.snd == (0 : Int) && Bool.true)) then Option.some (Bool.false, ()) else bif Decidable.decide ((if v2.snd.fst.fst.snd.snd.snd.snd.snd < v2.snd.fst.fst.snd.snd.snd.snd.fst then v2.snd.fst.fst.snd.snd.snd.snd.snd else v2.snd.fst.fst.snd.snd.snd.snd.fst) < (1 : Int)) then Option.some (Bool.false, ()) else bif Decidable.decide ((if v2.snd.fst.fst.snd.snd.snd.snd.snd > v2.snd.fst.fst.snd.snd.snd.snd.fst then v2.snd.fst.fst.snd.snd.snd.snd.snd else v2.snd.fst.fst.snd.snd.snd.snd.fst) > (1000001 : Int)) then Option.some (Bool.false, ()) else (F_99 (v2.snd.fst.fst.snd.snd.fst, [], [])).bind fun v4 => bif v4.fst then (F_99 (v2.snd.fst.fst.snd.snd.snd.fst, [], [])).bind fun v6 => bif v6.fst then bif Decidable.decide ((↑(List.length v2.snd.fst.fst.fst) : Int) > (0 : Int)) then Option.some (Bool.true, ()) else bif v2.snd.fst.fst.snd.fst then Option.some (Bool.true, ()) else Option.some (v2.snd.fst.fst.snd.snd.snd.snd.fst != v2.snd.fst.fst.snd.snd.snd.snd.snd, ()) else Option.some (Bool.false, ()) else Option.some (Bool.false, ()) else bif Decidable.decide ((if v2.snd.fst.fst.snd.snd.snd.snd.snd < v2.snd.fst.fst.snd.snd.snd.snd.fst then v2.snd.fst.fst.snd.snd.snd.snd.snd else v2.snd.fst.fst.snd.snd.snd.snd.fst) < (1 : Int)) then Option.some (Bool.false, ()) else bif Decidable.decide ((if v2.snd.fst.fst.snd.snd.snd.snd.snd > v2.snd.fst.fst.snd.snd.snd.snd.fst then v2.snd.fst.fst.snd.snd.snd.snd.snd else v2.snd.fst.fst.snd.snd.snd.snd.fst) > (1000001 : Int)) then Option.some (Bool.false, ()) else (F_99 (v2.snd.fst.fst.snd.snd.fst, [], [])).bind fun v8 => bif v8.fst then (F_99 (v2.snd.fst.fst.snd.snd.snd.fst, [], [])).bind fun v10 => bif v10.fst then bif Decidable.decide ((↑(List.length v2.snd.fst.fst.fst) : Int) > (0 : Int)) then Option.some (Bool.true, ()) else bif v2.snd.fst.fst.snd.fst then Option.some (Bool.true, ()) else Option.some (v2.snd.fst.fst.snd.snd.snd.snd.fst != v2.snd.fst.fst.snd.snd.snd.snd.snd, ()) else Option.some (Bool.false, ()) else Option.some (Bool.false, ())) (fun v11 => Option.some (v11.fst.fst, ())) v1
theorem f_64 (x : Ps [.ty tEntry]) : funcT CT T_64 [.bool] (drT CT T_64) lp_64 Tryz.f48 c_64 (encPs [.ty tEntry] x) = F_64 x.1 := by kernel_rfl
noncomputable def E_64 : Ent := .fn 48 [] ⟨[.ty tEntry], [.bool], fun x => F_64 x.1, false⟩
theorem e_64 : E_64.Ok CT.P := Ent.ofFn CT_ok T_64_ok hf_64 hb_64 lp_64_ok f_64
noncomputable def c_110 : Code := Tryz.f47.body.getD .skip
theorem hb_110 : Tryz.f47.body = some c_110 := by kernel_rfl
theorem hf_110 : CT.P.funcs[47]? = some Tryz.f47 := by kernel_rfl
noncomputable def T_110 : Tb := mkTb tyP mpP [E_23, E_61]
theorem T_110_ok : T_110.Ok CT.P := mkTb_ok (⟨e_23, e_61, trivial⟩)
noncomputable def lp_110 {β : Type} : LpT β := fun _ _ _ => none
theorem lp_110_ok {β : Type} : LpTOk CT (lp_110 (β := β)) (loopsOf c_110) := by
  have h : loopsOf c_110 = [] := by kernel_rfl
  rw [h]
  exact LpTOk.nil
noncomputable def F_110 (a1 : Ty.El tScene) (a2 : Ty.El I) : Option (Els [.str]) := (F_23 a1 a2).bind fun v2 => bif !v2.snd.fst then Option.some ([], ()) else (F_61 v2.fst).bind fun v4 => Option.some (v4.fst, ())
theorem f_110 (x : Ps [.ty tScene, .ty I]) : funcT CT T_110 [.str] (drT CT T_110) lp_110 Tryz.f47 c_110 (encPs [.ty tScene, .ty I] x) = F_110 x.1 x.2.1 := by kernel_rfl
noncomputable def E_110 : Ent := .fn 47 [] ⟨[.ty tScene, .ty I], [.str], fun x => F_110 x.1 x.2.1, false⟩
theorem e_110 : E_110.Ok CT.P := Ent.ofFn CT_ok T_110_ok hf_110 hb_110 lp_110_ok f_110
noncomputable def c_109 : Code := Tryz.f129.body.getD .skip
theorem hb_109 : Tryz.f129.body = some c_109 := by kernel_rfl
theorem hf_109 : CT.P.funcs[129]? = some Tryz.f129 := by kernel_rfl
noncomputable def T_109 : Tb := mkTb tyP mpP [E_132o]
theorem T_109_ok : T_109.Ok CT.P := mkTb_ok (⟨e_132o, trivial⟩)
noncomputable def l_109_3 : Code := atLoop c_109 3
noncomputable abbrev LD_109_3 : LayD := ⟨45, [(1, .ptr 0), (2, .ptr 2), (10, .own tDelta 1), (11, .data I), (12, .data I)], [.var 56 [.own tDelta 1, .data .bool, .data tVec, .data tVec, .data I, .data I], .row 108 tDelta, .var 56 [.data tEntry]], fun s => [slotR s 1, slotC s 1 0, slotR s 2]⟩
noncomputable abbrev LA_109_3 : LayD := ⟨45, [(1, .ptr 0), (2, .ptr 2)], [.var 56 [.own tDelta 1, .data .bool, .data tVec, .data tVec, .data I, .data I], .row 108 tDelta, .var 56 [.data tEntry]], fun s => [slotR s 1, slotC s 1 0, slotR s 2]⟩
noncomputable abbrev LB_109_3 : LayD := ⟨45, [], [], fun _ => []⟩
noncomputable def EX_109_3 : Exits 0 LA_109_3.El LB_109_3.El := ⟨.exit 0, LA_109_3.lay [.nilCell 1 0 108 tDelta], .ret, LB_109_3.lay []⟩
noncomputable def lpi_109_3 {β : Type} : LpT β := fun _ _ _ => none
theorem lpi_109_3_ok {β : Type} : LpTOk CT (lpi_109_3 (β := β)) (loopsOf l_109_3) := by
  have h : loopsOf l_109_3 = [] := by kernel_rfl
  rw [h]
  exact LpTOk.nil
noncomputable def G_109_3 (r11 : Ty.El I) (r12 : Ty.El I) (b0 : Unit × Ty.El .bool × Ty.El tVec × Ty.El tVec × Ty.El I × Ty.El I × Unit) (b1 : List (Ty.El tDelta)) (b2 : Ty.El tEntry × Unit) : Option (LD_109_3.El ⊕ (LA_109_3.El ⊕ LB_109_3.El)) := bif Decidable.decide (r12 < r11) then bif Decidable.decide ((0 : Int) ≤ r12 ∧ r12 < (↑b1.length : Int)) then bif Decidable.decide ((0 : Int) ≤ r12 ∧ r12 < (↑b1.length : Int)) then bif Decidable.decide ((0 : Int) ≤ r12 ∧ r12 < (↑(b1.set (Int.toNat r12) ((b1.getD (Int.toNat r12) Go.DI.S.tDelta.dflt).fst, (b1.getD (Int.toNat r12) Go.DI.S.tDelta.dflt).snd.snd, (b1.getD (Int.toNat r12) Go.DI.S.tDelta.dflt).snd.snd)).length : Int)) then Option.some (Sum.inl (((), (), (), r11, Go.IntKind.i64.wrap (r12 + (1 : Int)), ()), ((), b0.snd.fst, b0.snd.snd.fst, b0.snd.snd.snd.fst, b0.snd.snd.snd.snd.fst, b0.snd.snd.snd.snd.snd.fst, ()), (b1.set (Int.toNat r12) ((b1.getD (Int.toNat r12) Go.DI.S.tDelta.dflt).fst, (b1.getD (Int.toNat r12) Go.DI.S.tDelta.dflt).snd.snd, (b1.getD (Int.toNat r12) Go.DI.S.tDelta.dflt).snd.snd)).set (Int.toNat r12) (((b1.set (Int.toNat r12) ((b1.getD (Int.toNat r12) Go.DI.S.tDelta.dflt).fst, (b1.getD (Int.toNat r12) Go.DI.S.tDelta.dflt).snd.snd, (b1.getD (Int.toNat r12) Go.DI.S.tDelta.dflt).snd.snd)).getD (Int.toNat r12) Go.DI.S.tDelta.dflt).fst, ((b1.set (Int.toNat r12) ((b1.getD (Int.toNat r12) Go.DI.S.tDelta.dflt).fst, (b1.getD (Int.toNat r12) Go.DI.S.tDelta.dflt).snd.snd, (b1.getD (Int.toNat r12) Go.DI.S.tDelta.dflt).snd.snd)).getD (Int.toNat r12) Go.DI.S.tDelta.dflt).snd.fst, (b1.getD (Int.toNat r12) Go.DI.S.tDelta.dflt).snd.fst), (b2.fst, ()), ())) else Option.none else Option.none else Option.none else Option.some (Sum.inr (Sum.inl (((), (), ()), ((), b0.snd.fst, b0.snd.snd.fst, b0.snd.snd.snd.fst, b0.snd.snd.snd.snd.fst, b0.snd.snd.snd.snd.snd.fst, ()), b1, (b2.fst, ()), ())))
theorem g_109_3 (x : LD_109_3.El) : codeT CT T_109 (drT CT T_109) lpi_109_3 l_109_3 (LD_109_3.enc x) (bodyK (LD_109_3.lay [.nilCell 1 0 108 tDelta]) EX_109_3) = G_109_3 x.1.2.2.2.1 x.1.2.2.2.2.1 x.2.1 x.2.2.1 x.2.2.2.1 := by kernel_rfl
noncomputable def R_109_3 : LD_109_3.El → Option (LA_109_3.El ⊕ LB_109_3.El) := roundsT (fun x => G_109_3 x.1.2.2.2.1 x.1.2.2.2.2.1 x.2.1 x.2.2.1 x.2.2.2.1) fuel
theorem r_109_3 : ∀ x y, R_109_3 x = some y → CL CT l_109_3 (LD_109_3.enc x) (Sum.elim (fun _ => EX_109_3.xa) (fun _ => EX_109_3.xb) y) (Sum.elim EX_109_3.la.enc EX_109_3.lb.enc y) :=
  rounds_ok (L := LD_109_3.lay [.nilCell 1 0 108 tDelta]) (E := EX_109_3) CT_ok T_109_ok (drT_ok CT_ok T_109_ok) lpi_109_3_ok g_109_3 rfl rfl (fun v h => by have hh : (.exit 0 : AX) = .pan v := h; cases hh) (fun v h => by have hh : (.ret : AX) = .pan v := h; cases hh) fuel
noncomputable def lp_109 {β : Type} : LpT β := fun k s K => if Nat.beq k 3 then lpOne (LD_109_3.lay [.nilCell 1 0 108 tDelta]) EX_109_3 R_109_3 s K else none
theorem lp_109_ok {β : Type} : LpTOk CT (lp_109 (β := β)) (loopsOf c_109) := by
  have h : loopsOf c_109 = [(3, l_109_3)] := by kernel_rfl
  rw [h]
  exact LpTOk.cons (fun s K z h => lpOne_ok r_109_3 h) (LpTOk.nil)
noncomputable def F_109 (a1 : Ty.El tEntry) : Option (Els [tEntry]) := (F_132o a1.fst).bind fun v2 => (R_109_3 (((), (), (), (↑v2.length : Int), (0 : Int), ()), ((), a1.snd.fst, a1.snd.snd.fst, a1.snd.snd.snd.fst, a1.snd.snd.snd.snd.fst, a1.snd.snd.snd.snd.snd, ()), v2, (([], Bool.false, ((0 : Int), (0 : Int)), ((0 : Int), (0 : Int)), (0 : Int), (0 : Int)), ()), ())).bind fun v4 => Sum.elim (fun v5 => Option.some ((v5.snd.snd.fst, v5.snd.fst.snd.fst, v5.snd.fst.snd.snd.snd.fst, v5.snd.fst.snd.snd.fst, v5.snd.fst.snd.snd.snd.snd.snd.fst, v5.snd.fst.snd.snd.snd.snd.fst), ())) (fun v6 => Option.none) v4
theorem f_109 (x : Ps [.ty tEntry]) : funcT CT T_109 [tEntry] (drT CT T_109) lp_109 Tryz.f129 c_109 (encPs [.ty tEntry] x) = F_109 x.1 := by kernel_rfl
noncomputable def E_109 : Ent := .fn 129 [] ⟨[.ty tEntry], [tEntry], fun x => F_109 x.1, false⟩
theorem e_109 : E_109.Ok CT.P := Ent.ofFn CT_ok T_109_ok hf_109 hb_109 lp_109_ok f_109
noncomputable def c_221 : Code := Tryz.f57.body.getD .skip
theorem hb_221 : Tryz.f57.body = some c_221 := by kernel_rfl
theorem hf_221 : CT.P.funcs[57]? = some Tryz.f57 := by kernel_rfl
noncomputable def T_221 : Tb := mkTb tyP mpP []
theorem T_221_ok : T_221.Ok CT.P := mkTb_ok (trivial)
noncomputable def l_221_4 : Code := atLoop c_221 4
noncomputable abbrev LD_221_4 : LayD := ⟨27, [(0, .data (.list tDelta)), (1, .data (.list tDelta)), (5, .data I)], [], fun _ => []⟩
noncomputable abbrev LA_221_4 : LayD := ⟨27, [], [], fun _ => []⟩
noncomputable abbrev LB_221_4 : LayD := ⟨27, [(4, .data .bool)], [], fun _ => []⟩
noncomputable def EX_221_4 : Exits 0 LA_221_4.El LB_221_4.El := ⟨.exit 0, LA_221_4.lay [], .ret, LB_221_4.lay []⟩
noncomputable def lpi_221_4 {β : Type} : LpT β := fun _ _ _ => none
theorem lpi_221_4_ok {β : Type} : LpTOk CT (lpi_221_4 (β := β)) (loopsOf l_221_4) := by
  have h : loopsOf l_221_4 = [] := by kernel_rfl
  rw [h]
  exact LpTOk.nil
noncomputable def G_221_4 (r0 : Ty.El (.list tDelta)) (r1 : Ty.El (.list tDelta)) (r5 : Ty.El I) : Option (LD_221_4.El ⊕ (LA_221_4.El ⊕ LB_221_4.El)) := bif Decidable.decide (r5 < (↑(List.length r0) : Int)) then bif Decidable.decide ((0 : Int) ≤ r5 ∧ r5 < (↑(List.length r0) : Int)) then bif Decidable.decide ((0 : Int) ≤ r5 ∧ r5 < (↑(List.length r1) : Int)) then bif !((List.getD r0 (Int.toNat r5) Go.DI.S.tDelta.dflt).fst == (List.getD r1 (Int.toNat r5) Go.DI.S.tDelta.dflt).fst && ((List.getD r0 (Int.toNat r5) Go.DI.S.tDelta.dflt).snd.fst == (List.getD r1 (Int.toNat r5) Go.DI.S.tDelta.dflt).snd.fst && ((List.getD r0 (Int.toNat r5) Go.DI.S.tDelta.dflt).snd.snd == (List.getD r1 (Int.toNat r5) Go.DI.S.tDelta.dflt).snd.snd && Bool.true))) then Option.some (Sum.inr (Sum.inr ((Bool.false, ()), ()))) else Option.some (Sum.inl ((r0, r1, Go.IntKind.i64.wrap (r5 + (1 : Int)), ()), ())) else Option.none else Option.none else Option.some (Sum.inr (Sum.inl ((), ())))
theorem g_221_4 (x : LD_221_4.El) : codeT CT T_221 (drT CT T_221) lpi_221_4 l_221_4 (LD_221_4.enc x) (bodyK (LD_221_4.lay []) EX_221_4) = G_221_4 x.1.1 x.1.2.1 x.1.2.2.1 := by kernel_rfl
noncomputable def R_221_4 : LD_221_4.El → Option (LA_221_4.El ⊕ LB_221_4.El) := roundsT (fun x => G_221_4 x.1.1 x.1.2.1 x.1.2.2.1) fuel
theorem r_221_4 : ∀ x y, R_221_4 x = some y → CL CT l_221_4 (LD_221_4.enc x) (Sum.elim (fun _ => EX_221_4.xa) (fun _ => EX_221_4.xb) y) (Sum.elim EX_221_4.la.enc EX_221_4.lb.enc y) :=
  rounds_ok (L := LD_221_4.lay []) (E := EX_221_4) CT_ok T_221_ok (drT_ok CT_ok T_221_ok) lpi_221_4_ok g_221_4 rfl rfl (fun v h => by have hh : (.exit 0 : AX) = .pan v := h; cases hh) (fun v h => by have hh : (.ret : AX) = .pan v := h; cases hh) fuel
noncomputable def lp_221 {β : Type} : LpT β := fun k s K => if Nat.beq k 4 then lpOne (LD_221_4.lay []) EX_221_4 R_221_4 s K else none
theorem lp_221_ok {β : Type} : LpTOk CT (lp_221 (β := β)) (loopsOf c_221) := by
  have h : loopsOf c_221 = [(4, l_221_4)] := by kernel_rfl
  rw [h]
  exact LpTOk.cons (fun s K z h => lpOne_ok r_221_4 h) (LpTOk.nil)
noncomputable def F_221 (a1 : Ty.El (.list tDelta)) (a2 : Ty.El (.list tDelta)) : Option (Els [.bool]) := bif (↑(List.length a1) : Int) != (↑(List.length a2) : Int) then Option.some (Bool.false, ()) else (R_221_4 ((a1, a2, (0 : Int), ()), ())).bind fun v1 => Sum.elim (fun v2 => Option.some (Bool.true, ())) (fun v3 => Option.some (v3.fst.fst, ())) v1
theorem f_221 (x : Ps [.ty (.list tDelta), .ty (.list tDelta)]) : funcT CT T_221 [.bool] (drT CT T_221) lp_221 Tryz.f57 c_221 (encPs [.ty (.list tDelta), .ty (.list tDelta)] x) = F_221 x.1 x.2.1 := by kernel_rfl
noncomputable def E_221 : Ent := .fn 57 [] ⟨[.ty (.list tDelta), .ty (.list tDelta)], [.bool], fun x => F_221 x.1 x.2.1, false⟩
theorem e_221 : E_221.Ok CT.P := Ent.ofFn CT_ok T_221_ok hf_221 hb_221 lp_221_ok f_221
noncomputable def c_209 : Code := Tryz.f20.body.getD .skip
theorem hb_209 : Tryz.f20.body = some c_209 := by kernel_rfl
theorem hf_209 : CT.P.funcs[20]? = some Tryz.f20 := by kernel_rfl
noncomputable def T_209 : Tb := mkTb tyP mpP [E_221]
theorem T_209_ok : T_209.Ok CT.P := mkTb_ok (⟨e_221, trivial⟩)
noncomputable def lp_209 {β : Type} : LpT β := fun _ _ _ => none
theorem lp_209_ok {β : Type} : LpTOk CT (lp_209 (β := β)) (loopsOf c_209) := by
  have h : loopsOf c_209 = [] := by kernel_rfl
  rw [h]
  exact LpTOk.nil
noncomputable def F_209 (a1 : Ty.El tEntry) (a2 : Ty.El tEntry) : Option (Els [.bool]) := bif a1.snd.fst == a2.snd.fst then bif a1.snd.snd.fst.fst == a2.snd.snd.fst.fst && (a1.snd.snd.fst.snd == a2.snd.snd.fst.snd && Bool.true) then bif a1.snd.snd.snd.fst.fst == a2.snd.snd.snd.fst.fst && (a1.snd.snd.snd.fst.snd == a2.snd.snd.snd.fst.snd && Bool.true) then bif a1.snd.snd.snd.snd.fst == a2.snd.snd.snd.snd.fst then bif a1.snd.snd.snd.snd.snd == a2.snd.snd.snd.snd.snd then (F_221 a1.fst a2.fst).bind fun v2 => Option.some (v2.fst, ()) else Option.some (Bool.false, ()) else Option.some (Bool.false, ()) else Option.some (Bool.false, ()) else Option.some (Bool.false, ()) else Option.some (Bool.false, ())
theorem f_209 (x : Ps [.ty tEntry, .ty tEntry]) : funcT CT T_209 [.bool] (drT CT T_209) lp_209 Tryz.f20 c_209 (encPs [.ty tEntry, .ty tEntry] x) = F_209 x.1 x.2.1 := by kernel_rfl
noncomputable def E_209 : Ent := .fn 20 [] ⟨[.ty tEntry, .ty tEntry], [.bool], fun x => F_209 x.1 x.2.1, false⟩
theorem e_209 : E_209.Ok CT.P := Ent.ofFn CT_ok T_209_ok hf_209 hb_209 lp_209_ok f_209
noncomputable def c_235 : Code := Tryz.f44.body.getD .skip
theorem hb_235 : Tryz.f44.body = some c_235 := by kernel_rfl
theorem hf_235 : CT.P.funcs[44]? = some Tryz.f44 := by kernel_rfl
noncomputable def T_235 : Tb := mkTb tyP mpP [E_253]
theorem T_235_ok : T_235.Ok CT.P := mkTb_ok (⟨e_253, trivial⟩)
noncomputable def l_235_11 : Code := atLoop c_235 11
noncomputable def l_235_3 : Code := atLoop c_235 3
noncomputable abbrev LD_235_3 : LayD := ⟨36, [(0, .data (.list (.list tThing))), (3, .data I), (9, .data (.list (.list tThing))), (10, .data I), (11, .data I)], [], fun _ => []⟩
noncomputable abbrev LA_235_3 : LayD := ⟨36, [(0, .data (.list (.list tThing))), (3, .data I)], [], fun _ => []⟩
noncomputable abbrev LB_235_3 : LayD := ⟨36, [], [], fun _ => []⟩
noncomputable def EX_235_3 : Exits 0 LA_235_3.El LB_235_3.El := ⟨.exit 0, LA_235_3.lay [], .ret, LB_235_3.lay []⟩
noncomputable def lpi_235_3 {β : Type} : LpT β := fun _ _ _ => none
theorem lpi_235_3_ok {β : Type} : LpTOk CT (lpi_235_3 (β := β)) (loopsOf l_235_3) := by
  have h : loopsOf l_235_3 = [] := by kernel_rfl
  rw [h]
  exact LpTOk.nil
noncomputable def G_235_3 (r0 : Ty.El (.list (.list tThing))) (r3 : Ty.El I) (r9 : Ty.El (.list (.list tThing))) (r10 : Ty.El I) (r11 : Ty.El I) : Option (LD_235_3.El ⊕ (LA_235_3.El ⊕ LB_235_3.El)) := bif Decidable.decide (r11 < r10) then bif Decidable.decide ((0 : Int) ≤ r11 ∧ r11 < (↑(List.length r9) : Int)) then bif Decidable.decide (Go.IntKind.i64.wrap (r3 + (↑(List.length (List.getD r9 (Int.toNat r11) Go.DI.S.tThing.list.dflt)) : Int)) < (0 : Int)) then Option.none else Option.some (Sum.inl ((r0, Go.IntKind.i64.wrap (r3 + (↑(List.length (List.getD r9 (Int.toNat r11) Go.DI.S.tThing.list.dflt)) : Int)), r9, r10, Go.IntKind.i64.wrap (r11 + (1 : Int)), ()), ())) else Option.none else Option.some (Sum.inr (Sum.inl ((r0, r3, ()), ())))
theorem g_235_3 (x : LD_235_3.El) : codeT CT T_235 (drT CT T_235) lpi_235_3 l_235_3 (LD_235_3.enc x) (bodyK (LD_235_3.lay []) EX_235_3) = G_235_3 x.1.1 x.1.2.1 x.1.2.2.1 x.1.2.2.2.1 x.1.2.2.2.2.1 := by kernel_rfl
noncomputable def R_235_3 : LD_235_3.El → Option (LA_235_3.El ⊕ LB_235_3.El) := roundsT (fun x => G_235_3 x.1.1 x.1.2.1 x.1.2.2.1 x.1.2.2.2.1 x.1.2.2.2.2.1) fuel
theorem r_235_3 : ∀ x y, R_235_3 x = some y → CL CT l_235_3 (LD_235_3.enc x) (Sum.elim (fun _ => EX_235_3.xa) (fun _ => EX_235_3.xb) y) (Sum.elim EX_235_3.la.enc EX_235_3.lb.enc y) :=
  rounds_ok (L := LD_235_3.lay []) (E := EX_235_3) CT_ok T_235_ok (drT_ok CT_ok T_235_ok) lpi_235_3_ok g_235_3 rfl rfl (fun v h => by have hh : (.exit 0 : AX) = .pan v := h; cases hh) (fun v h => by have hh : (.ret : AX) = .pan v := h; cases hh) fuel
noncomputable abbrev LD_235_11 : LayD := ⟨36, [(6, .own tThing 0), (25, .data (.list (.list tThing))), (26, .data I), (27, .data I)], [.row 52 tThing], fun s => [slotR s 6]⟩
noncomputable abbrev LA_235_11 : LayD := ⟨36, [(6, .own tThing 0)], [.row 52 tThing], fun s => [slotR s 6]⟩
noncomputable abbrev LB_235_11 : LayD := ⟨36, [], [], fun _ => []⟩
noncomputable def EX_235_11 : Exits 0 LA_235_11.El LB_235_11.El := ⟨.exit 2, LA_235_11.lay [], .ret, LB_235_11.lay []⟩
noncomputable def lpi_235_11 {β : Type} : LpT β := fun _ _ _ => none
theorem lpi_235_11_ok {β : Type} : LpTOk CT (lpi_235_11 (β := β)) (loopsOf l_235_11) := by
  have h : loopsOf l_235_11 = [] := by kernel_rfl
  rw [h]
  exact LpTOk.nil
noncomputable def G_235_11 (r25 : Ty.El (.list (.list tThing))) (r26 : Ty.El I) (r27 : Ty.El I) (b0 : List (Ty.El tThing)) : Option (LD_235_11.El ⊕ (LA_235_11.El ⊕ LB_235_11.El)) := bif Decidable.decide (r27 < r26) then bif Decidable.decide ((0 : Int) ≤ r27 ∧ r27 < (↑(List.length r25) : Int)) then bif ((b0.length + List.length (List.getD r25 (Int.toNat r27) Go.DI.S.tThing.list.dflt)) * (128 : Nat)).ble (70368744177664 : Nat) then Option.some (Sum.inl (((), r25, r26, Go.IntKind.i64.wrap (r27 + (1 : Int)), ()), b0 ++ List.getD r25 (Int.toNat r27) Go.DI.S.tThing.list.dflt, ())) else Option.none else Option.none else Option.some (Sum.inr (Sum.inl (((), ()), b0, ())))
theorem g_235_11 (x : LD_235_11.El) : codeT CT T_235 (drT CT T_235) lpi_235_11 l_235_11 (LD_235_11.enc x) (bodyK (LD_235_11.lay []) EX_235_11) = G_235_11 x.1.2.1 x.1.2.2.1 x.1.2.2.2.1 x.2.1 := by kernel_rfl
noncomputable def R_235_11 : LD_235_11.El → Option (LA_235_11.El ⊕ LB_235_11.El) := roundsT (fun x => G_235_11 x.1.2.1 x.1.2.2.1 x.1.2.2.2.1 x.2.1) fuel
theorem r_235_11 : ∀ x y, R_235_11 x = some y → CL CT l_235_11 (LD_235_11.enc x) (Sum.elim (fun _ => EX_235_11.xa) (fun _ => EX_235_11.xb) y) (Sum.elim EX_235_11.la.enc EX_235_11.lb.enc y) :=
  rounds_ok (L := LD_235_11.lay []) (E := EX_235_11) CT_ok T_235_ok (drT_ok CT_ok T_235_ok) lpi_235_11_ok g_235_11 rfl rfl (fun v h => by have hh : (.exit 2 : AX) = .pan v := h; cases hh) (fun v h => by have hh : (.ret : AX) = .pan v := h; cases hh) fuel
noncomputable def lp_235 {β : Type} : LpT β := fun k s K => if Nat.beq k 3 then lpOne (LD_235_3.lay []) EX_235_3 R_235_3 s K else if Nat.beq k 11 then lpOne (LD_235_11.lay []) EX_235_11 R_235_11 s K else none
theorem lp_235_ok {β : Type} : LpTOk CT (lp_235 (β := β)) (loopsOf c_235) := by
  have h : loopsOf c_235 = [(3, l_235_3), (11, l_235_11)] := by kernel_rfl
  rw [h]
  exact LpTOk.cons (fun s K z h => lpOne_ok r_235_3 h) (LpTOk.cons (fun s K z h => lpOne_ok r_235_11 h) (LpTOk.nil))
noncomputable def F_235 (a1 : Ty.El (.list (.list tThing))) : Option (Els [.list tThing]) := (R_235_3 ((a1, (0 : Int), a1, (↑(List.length a1) : Int), (0 : Int), ()), ())).bind fun v1 => Sum.elim (fun v2 => (F_253 () v2.fst.snd.fst).bind fun v4 => (R_235_11 (((), v2.fst.fst, (↑(List.length v2.fst.fst) : Int), (0 : Int), ()), v4, ())).bind fun v5 => Sum.elim (fun v6 => Option.some (v6.snd.fst, ())) (fun v7 => Option.none) v5) (fun v8 => Option.none) v1
theorem f_235 (x : Ps [.ty (.list (.list tThing))]) : funcT CT T_235 [.list tThing] (drT CT T_235) lp_235 Tryz.f44 c_235 (encPs [.ty (.list (.list tThing))] x) = F_235 x.1 := by kernel_rfl
noncomputable def E_235 : Ent := .fn 44 [] ⟨[.ty (.list (.list tThing))], [.list tThing], fun x => F_235 x.1, false⟩
theorem e_235 : E_235.Ok CT.P := Ent.ofFn CT_ok T_235_ok hf_235 hb_235 lp_235_ok f_235
end Go.DI.S
set_option linter.unusedVariables false
set_option maxRecDepth 100000
set_option maxHeartbeats 0
namespace Go.DI.S
open Go.Proofs
noncomputable def c_216 : Code := Tryz.f15.body.getD .skip
theorem hb_216 : Tryz.f15.body = some c_216 := by kernel_rfl
theorem hf_216 : CT.P.funcs[15]? = some Tryz.f15 := by kernel_rfl
noncomputable def T_216 : Tb := mkTb tyP mpP [E_20, E_64, E_74, E_78, E_110, E_235]
theorem T_216_ok : T_216.Ok CT.P := mkTb_ok (⟨e_20, e_64, e_74, e_78, e_110, e_235, trivial⟩)
noncomputable def l_216_12 : Code := atLoop c_216 12
noncomputable def l_216_5 : Code := atLoop c_216 5
noncomputable abbrev LD_216_5 : LayD := ⟨90, [(2, .ptr 0), (3, .ptr 1), (4, .ptr 2), (6, .own I 3), (27, .data (.list tThing)), (28, .data I), (29, .data I)], [.var 30 [.data tScene], .var 30 [.data tScene], .var 56 [.data tEntry], .row 3 I], fun s => [slotR s 2, slotR s 3, slotR s 4, slotR s 6]⟩
noncomputable abbrev LA_216_5 : LayD := ⟨90, [(2, .ptr 0), (3, .ptr 1), (4, .ptr 2), (6, .own I 3)], [.var 30 [.data tScene], .var 30 [.data tScene], .var 56 [.data tEntry], .row 3 I], fun s => [slotR s 2, slotR s 3, slotR s 4, slotR s 6]⟩
noncomputable abbrev LB_216_5 : LayD := ⟨90, [], [], fun _ => []⟩
noncomputable def EX_216_5 : Exits 0 LA_216_5.El LB_216_5.El := ⟨.exit 0, LA_216_5.lay [.nilReg 6 3 I], .ret, LB_216_5.lay []⟩
noncomputable def lpi_216_5 {β : Type} : LpT β := fun _ _ _ => none
theorem lpi_216_5_ok {β : Type} : LpTOk CT (lpi_216_5 (β := β)) (loopsOf l_216_5) := by
  have h : loopsOf l_216_5 = [] := by kernel_rfl
  rw [h]
  exact LpTOk.nil
noncomputable def G_216_5 (r27 : Ty.El (.list tThing)) (r28 : Ty.El I) (r29 : Ty.El I) (b0 : Ty.El tScene × Unit) (b1 : Ty.El tScene × Unit) (b2 : Ty.El tEntry × Unit) (b3 : List (Ty.El I)) : Option (LD_216_5.El ⊕ (LA_216_5.El ⊕ LB_216_5.El)) := bif Decidable.decide (r29 < r28) then bif Decidable.decide ((0 : Int) ≤ r29 ∧ r29 < (↑(List.length r27) : Int)) then bif ((b3.length + [(List.getD r27 (Int.toNat r29) Go.DI.S.tThing.dflt).fst].length) * (8 : Nat)).ble (70368744177664 : Nat) then Option.some (Sum.inl (((), (), (), (), r27, r28, Go.IntKind.i64.wrap (r29 + (1 : Int)), ()), (b0.fst, ()), (b1.fst, ()), (b2.fst, ()), b3 ++ [(List.getD r27 (Int.toNat r29) Go.DI.S.tThing.dflt).fst], ())) else Option.none else Option.none else Option.some (Sum.inr (Sum.inl (((), (), (), (), ()), (b0.fst, ()), (b1.fst, ()), (b2.fst, ()), b3, ())))
theorem g_216_5 (x : LD_216_5.El) : codeT CT T_216 (drT CT T_216) lpi_216_5 l_216_5 (LD_216_5.enc x) (bodyK (LD_216_5.lay [.nilReg 6 3 I]) EX_216_5) = G_216_5 x.1.2.2.2.2.1 x.1.2.2.2.2.2.1 x.1.2.2.2.2.2.2.1 x.2.1 x.2.2.1 x.2.2.2.1 x.2.2.2.2.1 := by kernel_rfl
noncomputable def R_216_5 : LD_216_5.El → Option (LA_216_5.El ⊕ LB_216_5.El) := roundsT (fun x => G_216_5 x.1.2.2.2.2.1 x.1.2.2.2.2.2.1 x.1.2.2.2.2.2.2.1 x.2.1 x.2.2.1 x.2.2.2.1 x.2.2.2.2.1) fuel
theorem r_216_5 : ∀ x y, R_216_5 x = some y → CL CT l_216_5 (LD_216_5.enc x) (Sum.elim (fun _ => EX_216_5.xa) (fun _ => EX_216_5.xb) y) (Sum.elim EX_216_5.la.enc EX_216_5.lb.enc y) :=
  rounds_ok (L := LD_216_5.lay [.nilReg 6 3 I]) (E := EX_216_5) CT_ok T_216_ok (drT_ok CT_ok T_216_ok) lpi_216_5_ok g_216_5 rfl rfl (fun v h => by have hh : (.exit 0 : AX) = .pan v := h; cases hh) (fun v h => by have hh : (.ret : AX) = .pan v := h; cases hh) fuel
noncomputable abbrev LD_216_12 : LayD := ⟨90, [(2, .ptr 0), (3, .ptr 1), (4, .ptr 2), (9, .ptr 3), (47, .data (.list I)), (48, .data I), (49, .data I)], [.var 30 [.data tScene], .var 30 [.data tScene], .var 56 [.data tEntry], .var 56 [.own tDelta 4, .data .bool, .data tVec, .data tVec, .data I, .data I], .row 108 tDelta], fun s => [slotR s 2, slotR s 3, slotR s 4, slotR s 9, slotC s 9 0]⟩
noncomputable abbrev LA_216_12 : LayD := ⟨90, [(2, .ptr 0), (3, .ptr 1), (4, .ptr 2), (9, .ptr 3)], [.var 30 [.data tScene], .var 30 [.data tScene], .var 56 [.data tEntry], .var 56 [.own tDelta 4, .data .bool, .data tVec, .data tVec, .data I, .data I], .row 108 tDelta], fun s => [slotR s 2, slotR s 3, slotR s 4, slotR s 9, slotC s 9 0]⟩
noncomputable abbrev LB_216_12 : LayD := ⟨90, [], [], fun _ => []⟩
noncomputable def EX_216_12 : Exits 0 LA_216_12.El LB_216_12.El := ⟨.exit 2, LA_216_12.lay [.frzReg 47 (.list I), .nilCell 9 0 108 tDelta], .ret, LB_216_12.lay []⟩
noncomputable def lpi_216_12 {β : Type} : LpT β := fun _ _ _ => none
theorem lpi_216_12_ok {β : Type} : LpTOk CT (lpi_216_12 (β := β)) (loopsOf l_216_12) := by
  have h : loopsOf l_216_12 = [] := by kernel_rfl
  rw [h]
  exact LpTOk.nil
noncomputable def G_216_12 (r47 : Ty.El (.list I)) (r48 : Ty.El I) (r49 : Ty.El I) (b0 : Ty.El tScene × Unit) (b1 : Ty.El tScene × Unit) (b2 : Ty.El tEntry × Unit) (b3 : Unit × Ty.El .bool × Ty.El tVec × Ty.El tVec × Ty.El I × Ty.El I × Unit) (b4 : List (Ty.El tDelta)) : Option (LD_216_12.El ⊕ (LA_216_12.El ⊕ LB_216_12.El)) := bif Decidable.decide (r49 < r48) then bif Decidable.decide ((0 : Int) ≤ r49 ∧ r49 < (↑(List.length r47) : Int)) then (F_110 b0.fst (List.getD r47 (Int.toNat r49) (0 : Int))).bind fun v2 => (F_110 b1.fst (List.getD r47 (Int.toNat r49) (0 : Int))).bind fun v4 => bif !v2.fst == v4.fst then bif ((b4.length + [(List.getD r47 (Int.toNat r49) (0 : Int), v2.fst, v4.fst)].length) * (40 : Nat)).ble (70368744177664 : Nat) then Option.some (Sum.inl (((), (), (), (), r47, r48, Go.IntKind.i64.wrap (r49 + (1 : Int)), ()), (b0.fst, ()), (b1.fst, ()), (b2.fst, ()), ((), b3.snd.fst, b3.snd.snd.fst, b3.snd.snd.snd.fst, b3.snd.snd.snd.snd.fst, b3.snd.snd.snd.snd.snd.fst, ()), b4 ++ [(List.getD r47 (Int.toNat r49) (0 : Int), v2.fst, v4.fst)], ())) else Option.none else Option.some (Sum.inl (((), (), (), (), r47, r48, Go.IntKind.i64.wrap (r49 + (1 : Int)), ()), (b0.fst, ()), (b1.fst, ()), (b2.fst, ()), ((), b3.snd.fst, b3.snd.snd.fst, b3.snd.snd.snd.fst, b3.snd.snd.snd.snd.fst, b3.snd.snd.snd.snd.snd.fst, ()), b4, ())) else Option.none else Option.some (Sum.inr (Sum.inl (((), (), (), (), ()), (b0.fst, ()), (b1.fst, ()), (b2.fst, ()), ((), b3.snd.fst, b3.snd.snd.fst, b3.snd.snd.snd.fst, b3.snd.snd.snd.snd.fst, b3.snd.snd.snd.snd.snd.fst, ()), b4, ())))
theorem g_216_12 (x : LD_216_12.El) : codeT CT T_216 (drT CT T_216) lpi_216_12 l_216_12 (LD_216_12.enc x) (bodyK (LD_216_12.lay [.frzReg 47 (.list I), .nilCell 9 0 108 tDelta]) EX_216_12) = G_216_12 x.1.2.2.2.2.1 x.1.2.2.2.2.2.1 x.1.2.2.2.2.2.2.1 x.2.1 x.2.2.1 x.2.2.2.1 x.2.2.2.2.1 x.2.2.2.2.2.1 := by kernel_rfl
noncomputable def R_216_12 : LD_216_12.El → Option (LA_216_12.El ⊕ LB_216_12.El) := roundsT (fun x => G_216_12 x.1.2.2.2.2.1 x.1.2.2.2.2.2.1 x.1.2.2.2.2.2.2.1 x.2.1 x.2.2.1 x.2.2.2.1 x.2.2.2.2.1 x.2.2.2.2.2.1) fuel
theorem r_216_12 : ∀ x y, R_216_12 x = some y → CL CT l_216_12 (LD_216_12.enc x) (Sum.elim (fun _ => EX_216_12.xa) (fun _ => EX_216_12.xb) y) (Sum.elim EX_216_12.la.enc EX_216_12.lb.enc y) :=
  rounds_ok (L := LD_216_12.lay [.frzReg 47 (.list I), .nilCell 9 0 108 tDelta]) (E := EX_216_12) CT_ok T_216_ok (drT_ok CT_ok T_216_ok) lpi_216_12_ok g_216_12 rfl rfl (fun v h => by have hh : (.exit 2 : AX) = .pan v := h; cases hh) (fun v h => by have hh : (.ret : AX) = .pan v := h; cases hh) fuel
noncomputable def lp_216 {β : Type} : LpT β := fun k s K => if Nat.beq k 5 then lpOne (LD_216_5.lay [.nilReg 6 3 I]) EX_216_5 R_216_5 s K else if Nat.beq k 12 then lpOne (LD_216_12.lay [.frzReg 47 (.list I), .nilCell 9 0 108 tDelta]) EX_216_12 R_216_12 s K else none
theorem lp_216_ok {β : Type} : LpTOk CT (lp_216 (β := β)) (loopsOf c_216) := by
  have h : loopsOf c_216 = [(5, l_216_5), (12, l_216_12)] := by kernel_rfl
  rw [h]
  exact LpTOk.cons (fun s K z h => lpOne_ok r_216_5 h) (LpTOk.cons (fun s K z h => lpOne_ok r_216_12 h) (LpTOk.nil))
noncomputable def F_216 (a1 : Ty.El tScene) (a2 : Ty.El tScene) : Option (Els [tEntry, .bool]) := (F_20 a1).bind fun v2 => bif !v2.fst then Option.some (([], Bool.false, ((0 : Int), (0 : Int)), ((0 : Int), (0 : Int)), (0 : Int), (0 : Int)), Bool.false, ()) else (F_20 a2).bind fun v4 => bif !v4.fst then Option.some (([], Bool.false, ((0 : Int), (0 : Int)), ((0 : Int), (0 : Int)), (0 : Int), (0 : Int)), Bool.false, ()) else (F_235 [a1.snd.snd, a2.snd.snd]).bind fun v6 => (R_216_5 (((), (), (), (), v6.fst, (↑(List.length v6.fst) : Int), (0 : Int), ()), (a1, ()), (a2, ()), (([], Bool.false, ((0 : Int), (0 : Int)), ((0 : Int), (0 : Int)), (0 : Int), (0 : Int)), ()), [], ())).bind fun v7 => Sum.elim (fun v8 => (F_74 v8.snd.snd.snd.snd.fst).bind fun v10 => (F_78 v10.snd.fst).bind fun v15 => (R_216_12 (((), (), (), (), v15, (↑v15.length : Int), (0 : Int), ()), (v8.snd.fst.fst, ()), (v8.snd.snd.fst.fst, ()), (v8.snd.snd.snd.fst.fst, ()), ((), Bool.false, ((0 : Int), (0 : Int)), ((0 : Int), (0 : Int)), v8.snd.fst.fst.snd.fst, v8.snd.snd.fst.fst.snd.fst, ()), [], ())).bind fun v18 => Sum.elim (fun v19 => bif !(v19.snd.fst.fst.fst.fst == v19.snd.snd.fst.fst.fst.fst && (v19.snd.fst.fst.fst.snd == v19.snd.snd.fst.fst.fst.snd && Bool.true)) then (F_64 (v19.snd.snd.snd.snd.snd.fst, Bool.true, v19.snd.fst.fst.fst, v19.snd.snd.fst.fst.fst, v19.snd.snd.snd.snd.fst.snd.snd.snd.snd.fst, v19.snd.snd.snd.snd.fst.snd.snd.snd.snd.snd.fst)).bind fun v21 => bif !v21.fst then Option.some (([], Bool.false, ((0 : Int), (0 : Int)), ((0 : Int), (0 : Int)), (0 : Int), (0 : Int)), Bool.false, ()) else Option.some ((v19.snd.snd.snd.snd.snd.fst, Bool.true, v19.snd.fst.fst.fst, v19.snd.snd.fst.fst.fst, v19.snd.snd.snd.snd.fst.snd.snd.snd.snd.fst, v19.snd.snd.snd.snd.fst.snd.snd.snd.snd.snd.fst), Bool.true, ()) else (F_64 (v19.snd.snd.snd.snd.snd.fst, v19.snd.snd.snd.snd.fst.snd.fst, v19.snd.snd.snd.snd.fst.snd.snd.fst, v19.snd.snd.snd.snd.fst.snd.snd.snd.fst, v19.snd.snd.snd.snd.fst.snd.snd.snd.snd.fst, v19.snd.snd.snd.snd.fst.snd.snd.snd.snd.snd.fst)).bind fun v23 => bif !v23.fst then Option.some (([], Bool.false, ((0 : Int), (0 : Int)), ((0 : Int), (0 : Int)), (0 : Int), (0 : Int)), Bool.false, ()) else Option.some ((v19.snd.snd.snd.snd.snd.fst, v19.snd.snd.snd.snd.fst.snd.fst, v19.snd.snd.snd.snd.fst.snd.snd.fst, v19.snd.snd.snd.snd.fst.snd.snd.snd.fst, v19.snd.snd.snd.snd.fst.snd.snd.snd.snd.fst, v19.snd.snd.snd.snd.fst.snd.snd.snd.snd.snd.fst), Bool.true, ())) (fun v24 => Option.none) v18) (fun v25 => Option.none) v7
theorem f_216 (x : Ps [.ty tScene, .ty tScene]) : funcT CT T_216 [tEntry, .bool] (drT CT T_216) lp_216 Tryz.f15 c_216 (encPs [.ty tScene, .ty tScene] x) = F_216 x.1 x.2.1 := by kernel_rfl
noncomputable def E_216 : Ent := .fn 15 [] ⟨[.ty tScene, .ty tScene], [tEntry, .bool], fun x => F_216 x.1 x.2.1, false⟩
theorem e_216 : E_216.Ok CT.P := Ent.ofFn CT_ok T_216_ok hf_216 hb_216 lp_216_ok f_216
noncomputable def c_68 : Code := Tryz.f128.body.getD .skip
theorem hb_68 : Tryz.f128.body = some c_68 := by kernel_rfl
theorem hf_68 : CT.P.funcs[128]? = some Tryz.f128 := by kernel_rfl
noncomputable def T_68 : Tb := mkTb tyP mpP [E_20, E_46, E_64, E_63, E_110, E_111]
theorem T_68_ok : T_68.Ok CT.P := mkTb_ok (⟨e_20, e_46, e_64, e_63, e_110, e_111, trivial⟩)
noncomputable def l_68_25 : Code := atLoop c_68 25
noncomputable def l_68_17 : Code := atLoop c_68 17
noncomputable def l_68_7 : Code := atLoop c_68 7
noncomputable abbrev LD_68_7 : LayD := ⟨132, [(2, .ptr 0), (3, .ptr 1), (4, .ptr 2), (6, .map 3), (46, .data (.list tDelta)), (47, .data I), (48, .data I)], [.var 30 [.data tScene], .var 56 [.data tEntry], .var 30 [.data tScene], .tmap I .str], fun s => [slotR s 2, slotR s 3, slotR s 4, slotR s 6]⟩
noncomputable abbrev LA_68_7 : LayD := ⟨132, [(2, .ptr 0), (3, .ptr 1), (4, .ptr 2), (6, .map 3)], [.var 30 [.data tScene], .var 56 [.data tEntry], .var 30 [.data tScene], .tmap I .str], fun s => [slotR s 2, slotR s 3, slotR s 4, slotR s 6]⟩
noncomputable abbrev LB_68_7 : LayD := ⟨132, [(4, .ptr 0), (5, .data I)], [.var 30 [.data tScene]], fun s => [slotR s 4]⟩
noncomputable def EX_68_7 : Exits 0 LA_68_7.El LB_68_7.El := ⟨.exit 0, LA_68_7.lay [], .ret, LB_68_7.lay []⟩
noncomputable def lpi_68_7 {β : Type} : LpT β := fun _ _ _ => none
theorem lpi_68_7_ok {β : Type} : LpTOk CT (lpi_68_7 (β := β)) (loopsOf l_68_7) := by
  have h : loopsOf l_68_7 = [] := by kernel_rfl
  rw [h]
  exact LpTOk.nil
noncomputable def G_68_7 (r46 : Ty.El (.list tDelta)) (r47 : Ty.El I) (r48 : Ty.El I) (b0 : Ty.El tScene × Unit) (b1 : Ty.El tEntry × Unit) (b2 : Ty.El tScene × Unit) (b3 : List (Ty.El I × Ty.El (.str))) : Option (LD_68_7.El ⊕ (LA_68_7.El ⊕ LB_68_7.El)) := bif Decidable.decide (r48 < r47) then bif Decidable.decide ((0 : Int) ≤ r48 ∧ r48 < (↑(List.length r46) : Int)) then (F_110 b0.fst (List.getD r46 (Int.toNat r48) Go.DI.S.tDelta.dflt).fst).bind fun v2 => bif !v2.fst == (List.getD r46 (Int.toNat r48) Go.DI.S.tDelta.dflt).snd.fst then Option.some (Sum.inr (Sum.inr (((), (14 : Int), ()), ((((0 : Int), (0 : Int)), (0 : Int), []), ()), ()))) else Option.some (Sum.inl (((), (), (), (), r46, r47, Go.IntKind.i64.wrap (r48 + (1 : Int)), ()), (b0.fst, ()), (b1.fst, ()), (b2.fst, ()), Go.DI.tput Go.DI.S.I Go.DI.Ty.str (List.getD r46 (Int.toNat r48) Go.DI.S.tDelta.dflt).fst (List.getD r46 (Int.toNat r48) Go.DI.S.tDelta.dflt).snd.snd b3, ())) else Option.none else Option.some (Sum.inr (Sum.inl (((), (), (), (), ()), (b0.fst, ()), (b1.fst, ()), (b2.fst, ()), b3, ())))
theorem g_68_7 (x : LD_68_7.El) : codeT CT T_68 (drT CT T_68) lpi_68_7 l_68_7 (LD_68_7.enc x) (bodyK (LD_68_7.lay []) EX_68_7) = G_68_7 x.1.2.2.2.2.1 x.1.2.2.2.2.2.1 x.1.2.2.2.2.2.2.1 x.2.1 x.2.2.1 x.2.2.2.1 x.2.2.2.2.1 := by kernel_rfl
noncomputable def R_68_7 : LD_68_7.El → Option (LA_68_7.El ⊕ LB_68_7.El) := roundsT (fun x => G_68_7 x.1.2.2.2.2.1 x.1.2.2.2.2.2.1 x.1.2.2.2.2.2.2.1 x.2.1 x.2.2.1 x.2.2.2.1 x.2.2.2.2.1) fuel
theorem r_68_7 : ∀ x y, R_68_7 x = some y → CL CT l_68_7 (LD_68_7.enc x) (Sum.elim (fun _ => EX_68_7.xa) (fun _ => EX_68_7.xb) y) (Sum.elim EX_68_7.la.enc EX_68_7.lb.enc y) :=
  rounds_ok (L := LD_68_7.lay []) (E := EX_68_7) CT_ok T_68_ok (drT_ok CT_ok T_68_ok) lpi_68_7_ok g_68_7 rfl rfl (fun v h => by have hh : (.exit 0 : AX) = .pan v := h; cases hh) (fun v h => by have hh : (.ret : AX) = .pan v := h; cases hh) fuel
noncomputable abbrev LD_68_17 : LayD := ⟨132, [(3, .ptr 0), (4, .ptr 1), (6, .map 2), (9, .ptr 3), (77, .data (.list tThing)), (78, .data I), (79, .data I)], [.var 56 [.data tEntry], .var 30 [.data tScene], .tmap I .str, .var 30 [.data tVec, .data I, .own tThing 4], .row 52 tThing], fun s => [slotR s 3, slotR s 4, slotR s 6, slotR s 9, slotC s 9 3]⟩
noncomputable abbrev LA_68_17 : LayD := ⟨132, [(3, .ptr 0), (4, .ptr 1), (9, .ptr 2)], [.var 56 [.data tEntry], .var 30 [.data tScene], .var 30 [.data tVec, .data I, .own tThing 3], .row 52 tThing], fun s => [slotR s 3, slotR s 4, slotR s 9, slotC s 9 3]⟩
noncomputable abbrev LB_68_17 : LayD := ⟨132, [], [], fun _ => []⟩
noncomputable def EX_68_17 : Exits 0 LA_68_17.El LB_68_17.El := ⟨.exit 2, LA_68_17.lay [.nilCell 9 3 52 tThing], .ret, LB_68_17.lay []⟩
noncomputable def lpi_68_17 {β : Type} : LpT β := fun _ _ _ => none
theorem lpi_68_17_ok {β : Type} : LpTOk CT (lpi_68_17 (β := β)) (loopsOf l_68_17) := by
  have h : loopsOf l_68_17 = [] := by kernel_rfl
  rw [h]
  exact LpTOk.nil
noncomputable def G_68_17 (r77 : Ty.El (.list tThing)) (r78 : Ty.El I) (r79 : Ty.El I) (b0 : Ty.El tEntry × Unit) (b1 : Ty.El tScene × Unit) (b2 : List (Ty.El I × Ty.El (.str))) (b3 : Ty.El tVec × Ty.El I × Unit × Unit) (b4 : List (Ty.El tThing)) : Option (LD_68_17.El ⊕ (LA_68_17.El ⊕ LB_68_17.El)) := bif Decidable.decide (r79 < r78) then bif Decidable.decide ((0 : Int) ≤ r79 ∧ r79 < (↑(List.length r77) : Int)) then bif !(Go.DI.tget Go.DI.S.I Go.DI.Ty.str (List.getD r77 (Int.toNat r79) Go.DI.S.tThing.dflt).fst b2).isSome then (F_46 (List.getD r77 (Int.toNat r79) Go.DI.S.tThing.dflt).snd.snd.snd.snd).bind fun v2 => bif ((b4.length + [((List.getD r77 (Int.toNat r79) Go.DI.S.tThing.dflt).fst, (List.getD r77 (Int.toNat r79) Go.DI.S.tThing.dflt).snd.fst, (List.getD r77 (Int.toNat r79) Go.DI.S.tThing.dflt).snd.snd.fst, (List.getD r77 (Int.toNat r79) Go.DI.S.tThing.dflt).snd.snd.snd.fst, v2.fst)].length) * (128 : Nat)).ble (70368744177664 : Nat) then Option.some (Sum.inl (((), (), (), (), r77, r78, Go.IntKind.i64.wrap (r79 + (1 : Int)), ()), (b0.fst, ()), (b1.fst, ()), b2, (b3.fst, b3.snd.fst, (), ()), b4 ++ [((List.getD r77 (Int.toNat r79) Go.DI.S.tThing.dflt).fst, (List.getD r77 (Int.toNat r79) Go.DI.S.tThing.dflt).snd.fst, (List.getD r77 (Int.toNat r79) Go.DI.S.tThing.dflt).snd.snd.fst, (List.getD r77 (Int.toNat r79) Go.DI.S.tThing.dflt).snd.snd.snd.fst, v2.fst)], ())) else Option.none else Option.some (Sum.inl (((), (), (), (), r77, r78, Go.IntKind.i64.wrap (r79 + (1 : Int)), ()), (b0.fst, ()), (b1.fst, ()), b2, (b3.fst, b3.snd.fst, (), ()), b4, ())) else Option.none else Option.some (Sum.inr (Sum.inl (((), (), (), ()), (b0.fst, ()), (b1.fst, ()), (b3.fst, b3.snd.fst, (), ()), b4, ())))
theorem g_68_17 (x : LD_68_17.El) : codeT CT T_68 (drT CT T_68) lpi_68_17 l_68_17 (LD_68_17.enc x) (bodyK (LD_68_17.lay [.nilCell 9 3 52 tThing]) EX_68_17) = G_68_17 x.1.2.2.2.2.1 x.1.2.2.2.2.2.1 x.1.2.2.2.2.2.2.1 x.2.1 x.2.2.1 x.2.2.2.1 x.2.2.2.2.1 x.2.2.2.2.2.1 := by kernel_rfl
noncomputable def R_68_17 : LD_68_17.El → Option (LA_68_17.El ⊕ LB_68_17.El) := roundsT (fun x => G_68_17 x.1.2.2.2.2.1 x.1.2.2.2.2.2.1 x.1.2.2.2.2.2.2.1 x.2.1 x.2.2.1 x.2.2.2.1 x.2.2.2.2.1 x.2.2.2.2.2.1) fuel
theorem r_68_17 : ∀ x y, R_68_17 x = some y → CL CT l_68_17 (LD_68_17.enc x) (Sum.elim (fun _ => EX_68_17.xa) (fun _ => EX_68_17.xb) y) (Sum.elim EX_68_17.la.enc EX_68_17.lb.enc y) :=
  rounds_ok (L := LD_68_17.lay [.nilCell 9 3 52 tThing]) (E := EX_68_17) CT_ok T_68_ok (drT_ok CT_ok T_68_ok) lpi_68_17_ok g_68_17 rfl rfl (fun v h => by have hh : (.exit 2 : AX) = .pan v := h; cases hh) (fun v h => by have hh : (.ret : AX) = .pan v := h; cases hh) fuel
noncomputable abbrev LD_68_25 : LayD := ⟨132, [(4, .ptr 0), (9, .ptr 1), (104, .data (.list tDelta)), (105, .data I), (106, .data I)], [.var 30 [.data tScene], .var 30 [.data tVec, .data I, .own tThing 2], .row 52 tThing], fun s => [slotR s 4, slotR s 9, slotC s 9 3]⟩
noncomputable abbrev LA_68_25 : LayD := ⟨132, [(4, .ptr 0), (9, .ptr 1)], [.var 30 [.data tScene], .var 30 [.data tVec, .data I, .own tThing 2], .row 52 tThing], fun s => [slotR s 4, slotR s 9, slotC s 9 3]⟩
noncomputable abbrev LB_68_25 : LayD := ⟨132, [], [], fun _ => []⟩
noncomputable def EX_68_25 : Exits 0 LA_68_25.El LB_68_25.El := ⟨.exit 4, LA_68_25.lay [.nilCell 9 3 52 tThing], .ret, LB_68_25.lay []⟩
noncomputable def lpi_68_25 {β : Type} : LpT β := fun _ _ _ => none
theorem lpi_68_25_ok {β : Type} : LpTOk CT (lpi_68_25 (β := β)) (loopsOf l_68_25) := by
  have h : loopsOf l_68_25 = [] := by kernel_rfl
  rw [h]
  exact LpTOk.nil
noncomputable def G_68_25 (r104 : Ty.El (.list tDelta)) (r105 : Ty.El I) (r106 : Ty.El I) (b0 : Ty.El tScene × Unit) (b1 : Ty.El tVec × Ty.El I × Unit × Unit) (b2 : List (Ty.El tThing)) : Option (LD_68_25.El ⊕ (LA_68_25.El ⊕ LB_68_25.El)) := bif Decidable.decide (r106 < r105) then bif Decidable.decide ((0 : Int) ≤ r106 ∧ r106 < (↑(List.length r104) : Int)) then (F_63 (List.getD r104 (Int.toNat r106) Go.DI.S.tDelta.dflt).snd.snd).bind fun v2 => bif v2.snd.fst then bif ((b2.length + [v2.fst].length) * (128 : Nat)).ble (70368744177664 : Nat) then Option.some (Sum.inl (((), (), r104, r105, Go.IntKind.i64.wrap (r106 + (1 : Int)), ()), (b0.fst, ()), (b1.fst, b1.snd.fst, (), ()), b2 ++ [v2.fst], ())) else Option.none else Option.some (Sum.inl (((), (), r104, r105, Go.IntKind.i64.wrap (r106 + (1 : Int)), ()), (b0.fst, ()), (b1.fst, b1.snd.fst, (), ()), b2, ())) else Option.none else Option.some (Sum.inr (Sum.inl (((), (), ()), (b0.fst, ()), (b1.fst, b1.snd.fst, (), ()), b2, ())))
theorem g_68_25 (x : LD_68_25.El) : codeT CT T_68 (drT CT T_68) lpi_68_25 l_68_25 (LD_68_25.enc x) (bodyK (LD_68_25.lay [.nilCell 9 3 52 tThing]) EX_68_25) = G_68_25 x.1.2.2.1 x.1.2.2.2.1 x.1.2.2.2.2.1 x.2.1 x.2.2.1 x.2.2.2.1 := by kernel_rfl
noncomputable def R_68_25 : LD_68_25.El → Option (LA_68_25.El ⊕ LB_68_25.El) := roundsT (fun x => G_68_25 x.1.2.2.1 x.1.2.2.2.1 x.1.2.2.2.2.1 x.2.1 x.2.2.1 x.2.2.2.1) fuel
theorem r_68_25 : ∀ x y, R_68_25 x = some y → CL CT l_68_25 (LD_68_25.enc x) (Sum.elim (fun _ => EX_68_25.xa) (fun _ => EX_68_25.xb) y) (Sum.elim EX_68_25.la.enc EX_68_25.lb.enc y) :=
  rounds_ok (L := LD_68_25.lay [.nilCell 9 3 52 tThing]) (E := EX_68_25) CT_ok T_68_ok (drT_ok CT_ok T_68_ok) lpi_68_25_ok g_68_25 rfl rfl (fun v h => by have hh : (.exit 4 : AX) = .pan v := h; cases hh) (fun v h => by have hh : (.ret : AX) = .pan v := h; cases hh) fuel
noncomputable def lp_68 {β : Type} : LpT β := fun k s K => if Nat.beq k 7 then lpOne (LD_68_7.lay []) EX_68_7 R_68_7 s K else if Nat.beq k 17 then lpOne (LD_68_17.lay [.nilCell 9 3 52 tThing]) EX_68_17 R_68_17 s K else if Nat.beq k 25 then lpOne (LD_68_25.lay [.nilCell 9 3 52 tThing]) EX_68_25 R_68_25 s K else none
theorem lp_68_ok {β : Type} : LpTOk CT (lp_68 (β := β)) (loopsOf c_68) := by
  have h : loopsOf c_68 = [(7, l_68_7), (17, l_68_17), (25, l_68_25)] := by kernel_rfl
  rw [h]
  exact LpTOk.cons (fun s K z h => lpOne_ok r_68_7 h) (LpTOk.cons (fun s K z h => lpOne_ok r_68_17 h) (LpTOk.cons (fun s K z h => lpOne_ok r_68_25 h) (LpTOk.nil)))
noncomputable def F_68 (a1 : Ty.El tScene) (a2 : Ty.El tEntry) : Option (Els [tScene, I]) := (F_20 a1).bind fun v2 => bif !v2.fst then Option.some ((((0 : Int), (0 : Int)), (0 : Int), []), (9 : Int), ()) else (F_64 a2).bind fun v4 => bif !v4.fst then Option.some ((((0 : Int), (0 : Int)), (0 : Int), []), (9 : Int), ()) else bif a1.snd.fst != a2.snd.snd.snd.snd.fst then Option.some ((((0 : Int), (0 : Int)), (0 : Int), []), (14 : Int), ()) else bif a2.snd.fst then bif !(a1.fst.fst == a2.snd.snd.fst.fst && (a1.fst.snd == a2.snd.snd.fst.snd && Bool.true)) then Option.some ((((0 : Int), (0 : Int)), (0 : Int), []), (14 : Int), ()) else (R_68_7 (((), (), (), (), a2.fst, (↑(List.length a2.fst) : Int), (0 : Int), ()), (a1, ()), (a2, ()), ((((0 : Int), (0 : Int)), (0 : Int), []), ()), [], ())).bind fun v5 => Sum.elim (fun v6 => bif v6.snd.snd.fst.fst.snd.fst then (R_68_17 (((), (), (), (), v6.snd.fst.fst.snd.snd, (↑(List.length v6.snd.fst.fst.snd.snd) : Int), (0 : Int), ()), (v6.snd.snd.fst.fst, ()), (v6.snd.snd.snd.fst.fst, ()), v6.snd.snd.snd.snd.fst, (v6.snd.snd.fst.fst.snd.snd.snd.fst, v6.snd.snd.fst.fst.snd.snd.snd.snd.snd, (), ()), [], ())).bind fun v7 => Sum.elim (fun v8 => (R_68_25 (((), (), v8.snd.fst.fst.fst, (↑(List.length v8.snd.fst.fst.fst) : Int), (0 : Int), ()), (v8.snd.snd.fst.fst, ()), (v8.snd.snd.snd.fst.fst, v8.snd.snd.snd.fst.snd.fst, (), ()), v8.snd.snd.snd.snd.fst, ())).bind fun v9 => Sum.elim (fun v10 => (F_111 () v10.snd.snd.snd.fst).bind fun v12 => (F_20 (v10.snd.snd.fst.fst, v10.snd.snd.fst.snd.fst, v12.snd.fst)).bind fun v16 => bif !v16.fst then Option.some ((((0 : Int), (0 : Int)), (0 : Int), []), (5 : Int), ()) else Option.some ((v10.snd.snd.fst.fst, v10.snd.snd.fst.snd.fst, v12.snd.fst), (0 : Int), ())) (fun v19 => Option.none) v9) (fun v20 => Option.none) v7 else (R_68_17 (((), (), (), (), v6.snd.fst.fst.snd.snd, (↑(List.length v6.snd.fst.fst.snd.snd) : Int), (0 : Int), ()), (v6.snd.snd.fst.fst, ()), (v6.snd.snd.snd.fst.fst, ()), v6.snd.snd.snd.snd.fst, (v6.snd.fst.fst.fst, v6.snd.snd.fst.fst.snd.snd.snd.snd.snd, (), ()), [], ())).bind fun v21 => Sum.elim (fun v22 => (R_68_25 (((), (), v22.snd.fst.fst.fst, (↑(List.length v22.snd.fst.fst.fst) : Int), (0 : Int), ()), (v22.snd.snd.fst.fst, ()), (v22.snd.snd.snd.fst.fst, v22.snd.snd.snd.fst.snd.fst, (), ()), v22.snd.snd.snd.snd.fst, ())).bind fun v23 => Sum.elim (fun v24 => (F_111 () v24.snd.snd.snd.fst).bind fun v26 => (F_20 (v24.snd.snd.fst.fst, v24.snd.snd.fst.snd.fst, v26.snd.fst)).bind fun v30 => bif !v30.fst then Option.some ((((0 : Int), (0 : Int)), (0 : Int), []), (5 : Int), ()) else Option.some ((v24.snd.snd.fst.fst, v24.snd.snd.fst.snd.fst, v26.snd.fst), (0 : Int), ())) (fun v33 => Option.none) v23) (fun v34 => Option.none) v21) (fun v35 => Option.some (v35.snd.fst.fst, v35.fst.snd.fst, ())) v5 else (R_68_7 (((), (), (), (), a2.fst, (↑(List.length a2.fst) : Int), (0 : Int), ()), (a1, ()), (a2, ()), ((((0 : Int), (0 : Int)), (0 : Int), []), ()), [], ())).bind fun v36 => Sum.elim (fun v37 => bif v37.snd.snd.fst.fst.snd.fst then (R_68_17 (((), (), (), (), v37.snd.fst.fst.snd.snd, (↑(List.length v37.snd.fst.fst.snd.snd) : Int), (0 : Int), ()), (v37.snd.snd.fst.fst, ()), (v37.snd.snd.snd.fst.fst, ()), v37.snd.snd.snd.snd.fst, (v37.snd.snd.fst.fst.snd.snd.snd.fst, v37.snd.snd.fst.fst.snd.snd.snd.snd.snd, (), ()), [], ())).bind fun v38 => Sum.elim (fun v39 => (R_68_25 (((), (), v39.snd.fst.fst.fst, (↑(List.length v39.snd.fst.fst.fst) : Int), (0 : Int), ()), (v39.snd.snd.fst.fst, ()), (v39.snd.snd.snd.fst.fst, v39.snd.snd.snd.fst.snd.fst, (), ()), v39.snd.snd.snd.snd.fst, ())).bind fun v40 => Sum.elim (fun v41 => (F_111 () v41.snd.snd.snd.fst).bind fun v43 => (F_20 (v41.snd.snd.fst.fst, v41.snd.snd.fst.snd.fst, v43.snd.fst)).bind fun v47 => bif !v47.fst then Option.some ((((0 : Int), (0 : Int)), (0 : Int), []), (5 : Int), ()) else Option.some ((v41.snd.snd.fst.fst, v41.snd.snd.fst.snd.fst, v43.snd.fst), (0 : Int), ())) (fun v50 => Option.none) v40) (fun v51 => Option.none) v38 else (R_68_17 (((), (), (), (), v37.snd.fst.fst.snd.snd, (↑(List.length v37.snd.fst.fst.snd.snd) : Int), (0 : Int), ()), (v37.snd.snd.fst.fst, ()), (v37.snd.snd.snd.fst.fst, ()), v37.snd.snd.snd.snd.fst, (v37.snd.fst.fst.fst, v37.snd.snd.fst.fst.snd.snd.snd.snd.snd, (), ()), [], ())).bind fun v52 => Sum.elim (fun v53 => (R_68_25 (((), (), v53.snd.fst.fst.fst, (↑(List.length v53.snd.fst.fst.fst) : Int), (0 : Int), ()), (v53.snd.snd.fst.fst, ()), (v53.snd.snd.snd.fst.fst, v53.snd.snd.snd.fst.snd.fst, (), ()), v53.snd.snd.snd.snd.fst, ())).bind fun v54 => Sum.elim (fun v55 => (F_111 () v55.snd.snd.snd.fst).bind fun v57 => (F_20 (v55.snd.snd.fst.fst, v55.snd.snd.fst.snd.fst, v57.snd.fst)).bind fun v61 => bif !v61.fst then Option.some ((((0 : Int), (0 : Int)), (0 : Int), []), (5 : Int), ()) else Option.some ((v55.snd.snd.fst.fst, v55.snd.snd.fst.snd.fst, v57.snd.fst), (0 : Int), ())) (fun v64 => Option.none) v54) (fun v65 => Option.none) v52) (fun v66 => Option.some (v66.snd.fst.fst, v66.fst.snd.fst, ())) v36
theorem f_68 (x : Ps [.ty tScene, .ty tEntry]) : funcT CT T_68 [tScene, I] (drT CT T_68) lp_68 Tryz.f128 c_68 (encPs [.ty tScene, .ty tEntry] x) = F_68 x.1 x.2.1 := by kernel_rfl
noncomputable def E_68 : Ent := .fn 128 [] ⟨[.ty tScene, .ty tEntry], [tScene, I], fun x => F_68 x.1 x.2.1, false⟩
theorem e_68 : E_68.Ok CT.P := Ent.ofFn CT_ok T_68_ok hf_68 hb_68 lp_68_ok f_68
noncomputable def c_66 : Code := Tryz.f76.body.getD .skip
theorem hb_66 : Tryz.f76.body = some c_66 := by kernel_rfl
theorem hf_66 : CT.P.funcs[76]? = some Tryz.f76 := by kernel_rfl
noncomputable def T_66 : Tb := mkTb tyP mpP [E_68, E_109]
theorem T_66_ok : T_66.Ok CT.P := mkTb_ok (⟨e_68, e_109, trivial⟩)
noncomputable def lp_66 {β : Type} : LpT β := fun _ _ _ => none
theorem lp_66_ok {β : Type} : LpTOk CT (lp_66 (β := β)) (loopsOf c_66) := by
  have h : loopsOf c_66 = [] := by kernel_rfl
  rw [h]
  exact LpTOk.nil
noncomputable def F_66 (a1 : Ty.El tScene) (a2 : Ty.El tEntry) : Option (Els [tScene, I]) := (F_109 a2).bind fun v2 => (F_68 a1 v2.fst).bind fun v4 => Option.some (v4.fst, v4.snd.fst, ())
theorem f_66 (x : Ps [.ty tScene, .ty tEntry]) : funcT CT T_66 [tScene, I] (drT CT T_66) lp_66 Tryz.f76 c_66 (encPs [.ty tScene, .ty tEntry] x) = F_66 x.1 x.2.1 := by kernel_rfl
noncomputable def E_66 : Ent := .fn 76 [] ⟨[.ty tScene, .ty tEntry], [tScene, I], fun x => F_66 x.1 x.2.1, false⟩
theorem e_66 : E_66.Ok CT.P := Ent.ofFn CT_ok T_66_ok hf_66 hb_66 lp_66_ok f_66
end Go.DI.S
