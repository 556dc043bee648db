import Derived.Test.YtbjldjihpekhaaaGreatMa
/- Commands as bytes, and back: told by functions on data. No conditions. -/
set_option linter.unusedVariables false
set_option maxRecDepth 100000
set_option maxHeartbeats 0
namespace Go.DI.S
open Go.Proofs
noncomputable def c_put : Code := Tryz.f15.body.getD .skip
theorem hb_put : Tryz.f15.body = some c_put := by kernel_rfl
theorem hf_put : CT.P.funcs[15]? = some Tryz.f15 := by kernel_rfl
noncomputable def T_put : Tb := mkTb tyT mpT [E_nums, E_reals, E_number, E_bytes]
theorem T_put_ok : T_put.Ok CT.P := mkTb_ok (⟨e_nums, e_reals, e_number, e_bytes, trivial⟩)
noncomputable def l_put_20 : Code := atLoop c_put 20
noncomputable def l_put_13 : Code := atLoop c_put 13
noncomputable def l_put_6 : Code := atLoop c_put 6
noncomputable def lpi_put_6 {β : Type} : LpT β := fun _ _ _ => none
theorem lpi_put_6_ok {β : Type} : LpTOk CT (lpi_put_6 (β := β)) (loopsOf l_put_6) := by
  have h : loopsOf l_put_6 = [] := by kernel_rfl
  rw [h]
  exact LpTOk.nil
noncomputable abbrev LD_put_13 : LayD := ⟨94, [(1, .ptr 0), (4, .data .str), (5, .data .str), (61, .data (.list I)), (62, .data I), (63, .data I)], [.var 25 [.data tOrder]], fun s => [slotR s 1]⟩
noncomputable abbrev LA_put_13 : LayD := ⟨94, [(1, .ptr 0), (4, .data .str), (5, .data .str)], [.var 25 [.data tOrder]], fun s => [slotR s 1]⟩
noncomputable abbrev LB_put_13 : LayD := ⟨94, [(2, .data .str), (3, .data .bool)], [], fun _ => []⟩
noncomputable def EX_put_13 : Exits 0 LA_put_13.El LB_put_13.El := ⟨.exit 2, LA_put_13.lay [], .ret, LB_put_13.lay []⟩
noncomputable def lpi_put_13 {β : Type} : LpT β := fun _ _ _ => none
theorem lpi_put_13_ok {β : Type} : LpTOk CT (lpi_put_13 (β := β)) (loopsOf l_put_13) := by
  have h : loopsOf l_put_13 = [] := by kernel_rfl
  rw [h]
  exact LpTOk.nil
noncomputable def G_put_13 (r4 : Ty.El .str) (r5 : Ty.El .str) (r61 : Ty.El (.list I)) (r62 : Ty.El I) (r63 : Ty.El I) (b0 : Ty.El tOrder × Unit) : Option (LD_put_13.El ⊕ (LA_put_13.El ⊕ LB_put_13.El)) := bif Decidable.decide (r63 < r62) then bif Decidable.decide ((0 : Int) ≤ r63 ∧ r63 < (↑(List.length r61) : Int)) then bif Decidable.decide (List.getD r61 (Int.toNat r63) (0 : Int) < (0 : Int)) then Option.some (Sum.inr (Sum.inr (([], Bool.false, ()), ()))) else bif Decidable.decide (List.getD r61 (Int.toNat r63) (0 : Int) > (1000000 : Int)) then Option.some (Sum.inr (Sum.inr (([], Bool.false, ()), ()))) else (F_number (List.getD r61 (Int.toNat r63) (0 : Int))).bind fun v2 => bif Decidable.decide (List.length r5 + List.length v2.fst ≤ (4611686018427387904 : Nat)) then Option.some (Sum.inl (((), r4, r5 ++ v2.fst, r61, r62, Go.IntKind.i64.wrap (r63 + (1 : Int)), ()), (b0.fst, ()), ())) else Option.none else Option.none else Option.some (Sum.inr (Sum.inl (((), r4, r5, ()), (b0.fst, ()), ())))
theorem g_put_13 (x : LD_put_13.El) : codeT CT T_put (drT CT T_put) lpi_put_13 l_put_13 (LD_put_13.enc x) (bodyK (LD_put_13.lay []) EX_put_13) = G_put_13 x.1.2.1 x.1.2.2.1 x.1.2.2.2.1 x.1.2.2.2.2.1 x.1.2.2.2.2.2.1 x.2.1 := by kernel_rfl
noncomputable def R_put_13 : LD_put_13.El → Option (LA_put_13.El ⊕ LB_put_13.El) := roundsT (fun x => G_put_13 x.1.2.1 x.1.2.2.1 x.1.2.2.2.1 x.1.2.2.2.2.1 x.1.2.2.2.2.2.1 x.2.1) fuel
theorem r_put_13 : ∀ x y, R_put_13 x = some y → CL CT l_put_13 (LD_put_13.enc x) (Sum.elim (fun _ => EX_put_13.xa) (fun _ => EX_put_13.xb) y) (Sum.elim EX_put_13.la.enc EX_put_13.lb.enc y) :=
  rounds_ok (L := LD_put_13.lay []) (E := EX_put_13) CT_ok T_put_ok (drT_ok CT_ok T_put_ok) lpi_put_13_ok g_put_13 rfl rfl (fun v h => by have hh : (.exit 2 : AX) = .pan v := h; cases hh) (fun v h => by have hh : (.ret : AX) = .pan v := h; cases hh) fuel
noncomputable def lpi_put_20 {β : Type} : LpT β := fun _ _ _ => none
theorem lpi_put_20_ok {β : Type} : LpTOk CT (lpi_put_20 (β := β)) (loopsOf l_put_20) := by
  have h : loopsOf l_put_20 = [] := by kernel_rfl
  rw [h]
  exact LpTOk.nil
noncomputable def lp_put {β : Type} : LpT β := fun k s K => if Nat.beq k 6 then lpUn CT T_put (drT CT T_put) (lpi_put_6) l_put_6 6 s K else if Nat.beq k 13 then lpOne (LD_put_13.lay []) EX_put_13 R_put_13 s K else if Nat.beq k 20 then lpUn CT T_put (drT CT T_put) (lpi_put_20) l_put_20 6 s K else none
theorem lp_put_ok {β : Type} : LpTOk CT (lp_put (β := β)) (loopsOf c_put) := by
  have h : loopsOf c_put = [(6, l_put_6), (13, l_put_13), (20, l_put_20)] := by kernel_rfl
  rw [h]
  exact LpTOk.cons (fun s K z h => lpUn_ok CT_ok T_put_ok (drT_ok CT_ok T_put_ok) lpi_put_6_ok h) (LpTOk.cons (fun s K z h => lpOne_ok r_put_13 h) (LpTOk.cons (fun s K z h => lpUn_ok CT_ok T_put_ok (drT_ok CT_ok T_put_ok) lpi_put_20_ok h) (LpTOk.nil)))
noncomputable def F_put (a1 : Ty.El tOrder) : Option (Els [.str, .bool]) := bif Decidable.decide (a1.fst < (1 : Int)) then Option.some ([], Bool.false, ()) else bif Decidable.decide (a1.fst > (15 : Int)) then Option.some ([], Bool.false, ()) else bif Decidable.decide ((↑(List.length a1.snd.snd.snd.snd.snd.snd.snd.snd.snd.snd.snd) : Int) > (8 : Int)) then Option.some ([], Bool.false, ()) else (F_nums (a1, ())).bind fun v2 => bif Decidable.decide (v2.snd.fst.fst.snd.fst < (0 : Int)) then Option.some ([], Bool.false, ()) else bif Decidable.decide (v2.snd.fst.fst.snd.fst > (1000000 : Int)) then Option.some ([], Bool.false, ()) else (F_number v2.snd.fst.fst.snd.fst).bind fun v14 => bif Decidable.decide ((List.map (fun v15 => UInt8.ofNat v15.toNat) [Go.IntKind.u8.wrap a1.fst]).length + List.length v14.fst ≤ (4611686018427387904 : Nat)) then bif Decidable.decide (v2.snd.fst.fst.snd.snd.fst < (0 : Int)) then Option.some ([], Bool.false, ()) else bif Decidable.decide (v2.snd.fst.fst.snd.snd.fst > (1000000 : Int)) then Option.some ([], Bool.false, ()) else (F_number v2.snd.fst.fst.snd.snd.fst).bind fun v28 => bif Decidable.decide ((List.map (fun v29 => UInt8.ofNat v29.toNat) [Go.IntKind.u8.wrap a1.fst] ++ v14.fst).length + List.length v28.fst ≤ (4611686018427387904 : Nat)) then bif Decidable.decide (v2.snd.fst.fst.snd.snd.snd.fst < (0 : Int)) then Option.some ([], Bool.false, ()) else bif Decidable.decide (v2.snd.fst.fst.snd.snd.snd.fst > (1000000 : Int)) then Option.some ([], Bool.false, ()) else (F_number v2.snd.fst.fst.snd.snd.snd.fst).bind fun v42 => bif Decidable.decide ((List.map (fun v43 => UInt8.ofNat v43.toNat) [Go.IntKind.u8.wrap a1.fst] ++ v14.fst ++ v28.fst).length + List.length v42.fst ≤ (4611686018427387904 : Nat)) then bif Decidable.decide (v2.snd.fst.fst.snd.snd.snd.snd.snd.snd.snd.snd.snd.fst < (0 : Int)) then Option.some ([], Bool.false, ()) else bif Decidable.decide (v2.snd.fst.fst.snd.snd.snd.snd.snd.snd.snd.snd.snd.fst > (1000000 : Int)) then Option.some ([], Bool.false, ()) else (F_number v2.snd.fst.fst.snd.snd.snd.snd.snd.snd.snd.snd.snd.fst).bind fun v56 => bif Decidable.decide ((List.map (fun v57 => UInt8.ofNat v57.toNat) [Go.IntKind.u8.wrap a1.fst] ++ v14.fst ++ v28.fst ++ v42.fst).length + List.length v56.fst ≤ (4611686018427387904 : Nat)) then bif Decidable.decide (v2.snd.fst.fst.snd.snd.snd.snd.snd.snd.snd.snd.snd.snd.fst < (0 : Int)) then Option.some ([], Bool.false, ()) else bif Decidable.decide (v2.snd.fst.fst.snd.snd.snd.snd.snd.snd.snd.snd.snd.snd.fst > (1000000 : Int)) then Option.some ([], Bool.false, ()) else (F_number v2.snd.fst.fst.snd.snd.snd.snd.snd.snd.snd.snd.snd.snd.fst).bind fun v70 => bif Decidable.decide ((List.map (fun v71 => UInt8.ofNat v71.toNat) [Go.IntKind.u8.wrap a1.fst] ++ v14.fst ++ v28.fst ++ v42.fst ++ v56.fst).length + List.length v70.fst ≤ (4611686018427387904 : Nat)) then (R_put_13 (((), List.map (fun v73 => UInt8.ofNat v73.toNat) [Go.IntKind.u8.wrap a1.fst] ++ v14.fst ++ v28.fst ++ v42.fst ++ v56.fst ++ v70.fst, List.map (fun v74 => UInt8.ofNat v74.toNat) [Go.IntKind.u8.wrap (↑(List.length a1.snd.snd.snd.snd.snd.snd.snd.snd.snd.snd.snd) : Int)], v2.snd.fst.fst.snd.snd.snd.snd.snd.snd.snd.snd.snd.snd.snd, (↑(List.length v2.snd.fst.fst.snd.snd.snd.snd.snd.snd.snd.snd.snd.snd.snd) : Int), (0 : Int), ()), (v2.snd.fst.fst, ()), ())).bind fun v81 => Sum.elim (fun v82 => (F_reals (v82.snd.fst.fst, ())).bind fun v84 => (F_bytes v84.snd.fst.fst.snd.snd.snd.snd.fst).bind fun v88 => bif Decidable.decide (List.length v82.fst.snd.fst + List.length v88.fst ≤ (4611686018427387904 : Nat)) then (F_bytes v84.snd.fst.fst.snd.snd.snd.snd.snd.fst).bind fun v92 => bif Decidable.decide ((v82.fst.snd.fst ++ v88.fst).length + List.length v92.fst ≤ (4611686018427387904 : Nat)) then (F_bytes v84.snd.fst.fst.snd.snd.snd.snd.snd.snd.fst).bind fun v96 => bif Decidable.decide ((v82.fst.snd.fst ++ v88.fst ++ v92.fst).length + List.length v96.fst ≤ (4611686018427387904 : Nat)) then (F_bytes v84.snd.fst.fst.snd.snd.snd.snd.snd.snd.snd.fst).bind fun v100 => bif Decidable.decide ((v82.fst.snd.fst ++ v88.fst ++ v92.fst ++ v96.fst).length + List.length v100.fst ≤ (4611686018427387904 : Nat)) then (F_bytes v84.snd.fst.fst.snd.snd.snd.snd.snd.snd.snd.snd.fst).bind fun v104 => bif Decidable.decide ((v82.fst.snd.fst ++ v88.fst ++ v92.fst ++ v96.fst ++ v100.fst).length + List.length v104.fst ≤ (4611686018427387904 : Nat)) then bif Decidable.decide ((v82.fst.snd.fst ++ v88.fst ++ v92.fst ++ v96.fst ++ v100.fst ++ v104.fst).length + List.length v82.fst.snd.snd.fst ≤ (4611686018427387904 : Nat)) then Option.some (v82.fst.snd.fst ++ v88.fst ++ v92.fst ++ v96.fst ++ v100.fst ++ v104.fst ++ v82.fst.snd.snd.fst, Bool.true, ()) else Option.none else Option.none else Option.none else Option.none else Option.none else Option.none) (fun v105 => Option.some (v105.fst.fst, v105.fst.snd.fst, ())) v81 else Option.none else Option.none else Option.none else Option.none else Option.none
theorem f_put (x : Ps [.ty tOrder]) : funcT CT T_put [.str, .bool] (drT CT T_put) lp_put Tryz.f15 c_put (encPs [.ty tOrder] x) = F_put x.1 := by kernel_rfl
noncomputable def E_put : Ent := .fn 15 [] ⟨[.ty tOrder], [.str, .bool], fun x => F_put x.1, false⟩
theorem e_put : E_put.Ok CT.P := Ent.ofFn CT_ok T_put_ok hf_put hb_put lp_put_ok f_put
noncomputable def c_take : Code := Tryz.f53.body.getD .skip
theorem hb_take : Tryz.f53.body = some c_take := by kernel_rfl
theorem hf_take : CT.P.funcs[53]? = some Tryz.f53 := by kernel_rfl
noncomputable abbrev IN_take : LayD := ⟨2, [(0, .ptr 0), (1, .data I)], [.var 118 [.data .str, .data .bool]], fun s => [slotR s 0]⟩
noncomputable abbrev OUT_take : LayD := ⟨1, [(0, .data .str)], [.var 118 [.data .str, .data .bool]], fun _ => [0]⟩
noncomputable def T_take : Tb := mkTb tyT mpT []
theorem T_take_ok : T_take.Ok CT.P := mkTb_ok (trivial)
noncomputable def lp_take {β : Type} : LpT β := fun _ _ _ => none
theorem lp_take_ok {β : Type} : LpTOk (CTp 1) (lp_take (β := β)) (loopsOf c_take) := by
  have h : loopsOf c_take = [] := by kernel_rfl
  rw [h]
  exact LpTOk.nil
noncomputable def F_take (a1 : Ty.El I) (b0 : Ty.El .str × Ty.El .bool × Unit) : Option OUT_take.El := bif b0.snd.fst then Option.some (([], ()), (b0.fst, Bool.true, ()), ()) else bif Decidable.decide (a1 > (↑(List.length b0.fst) : Int)) then Option.some (([], ()), (b0.fst, Decidable.decide (a1 > (↑(List.length b0.fst) : Int)), ()), ()) else bif Decidable.decide ((0 : Int) ≤ a1 ∧ a1 ≤ (↑(List.length b0.fst) : Int)) then bif Decidable.decide ((0 : Int) ≤ a1 ∧ a1 ≤ (↑(List.length b0.fst) : Int)) then Option.some ((List.take (Int.toNat a1 - (0 : Nat)) (List.drop (0 : Nat) b0.fst), ()), (List.take (List.length b0.fst - Int.toNat a1) (List.drop (Int.toNat a1) b0.fst), Decidable.decide (a1 > (↑(List.length b0.fst) : Int)), ()), ()) else Option.none else Option.none
theorem f_take (x : IN_take.El) : funcX (CTp 1) T_take IN_take OUT_take [] (drT (CTp 1) T_take) lp_take Tryz.f53 c_take x = F_take x.1.2.1 x.2.1 := by kernel_rfl
noncomputable def E_take : Ent := .mkGen 53 [] ⟨1, [], IN_take, OUT_take, fun x => F_take x.1.2.1 x.2.1⟩
theorem e_take : E_take.Ok CT.P := Ent.ofGen (C := (CTp 1)) (steps := []) (osteps := []) (CTp_ok 1) T_take_ok hf_take hb_take lp_take_ok f_take
noncomputable def c_num : Code := Tryz.f51.body.getD .skip
theorem hb_num : Tryz.f51.body = some c_num := by kernel_rfl
theorem hf_num : CT.P.funcs[51]? = some Tryz.f51 := by kernel_rfl
noncomputable abbrev IN_num : LayD := ⟨2, [(0, .ptr 0), (1, .data I)], [.var 118 [.data .str, .data .bool]], fun s => [slotR s 0]⟩
noncomputable abbrev OUT_num : LayD := ⟨1, [(0, .data I)], [.var 118 [.data .str, .data .bool]], fun _ => [0]⟩
noncomputable def T_num : Tb := mkTb tyT mpT [E_take]
theorem T_num_ok : T_num.Ok CT.P := mkTb_ok (⟨e_take, trivial⟩)
noncomputable def l_num_4 : Code := atLoop c_num 4
noncomputable abbrev LD_num_4 : LayD := ⟨25, [(0, .ptr 0), (5, .data I), (6, .data .str), (12, .data I), (13, .data I)], [.var 118 [.data .str, .data .bool]], fun s => [slotR s 0]⟩
noncomputable abbrev LA_num_4 : LayD := ⟨25, [(0, .ptr 0), (5, .data I)], [.var 118 [.data .str, .data .bool]], fun s => [slotR s 0]⟩
noncomputable abbrev LB_num_4 : LayD := ⟨25, [], [], fun _ => []⟩
noncomputable def EX_num_4 : Exits 1 LA_num_4.El LB_num_4.El := ⟨.exit 0, LA_num_4.lay [], .ret, LB_num_4.lay []⟩
noncomputable def lpi_num_4 {β : Type} : LpT β := fun _ _ _ => none
theorem lpi_num_4_ok {β : Type} : LpTOk (CTp 1) (lpi_num_4 (β := β)) (loopsOf l_num_4) := by
  have h : loopsOf l_num_4 = [] := by kernel_rfl
  rw [h]
  exact LpTOk.nil
noncomputable def G_num_4 (r5 : Ty.El I) (r6 : Ty.El .str) (r12 : Ty.El I) (r13 : Ty.El I) (b0 : Ty.El .str × Ty.El .bool × Unit) : Option (LD_num_4.El ⊕ (LA_num_4.El ⊕ LB_num_4.El)) := bif Decidable.decide (r13 < r12) then bif Decidable.decide ((0 : Int) ≤ r13 ∧ r13 < (↑(List.length r6) : Int)) then Option.some (Sum.inl (((), Go.DI.bOr Go.IntKind.i64 (Go.IntKind.i64.wrap (r5 * (256 : Int))) (Go.IntKind.i64.wrap (↑(List.getD (((), r5, r6, r12, r13, ()), b0, ()).fst.snd.snd.fst (Int.toNat (((), r5, r6, r12, r13, ()), b0, ()).fst.snd.snd.snd.snd.fst) (0 : UInt8)).toBitVec.toFin.1 : Int)), r6, r12, Go.IntKind.i64.wrap (r13 + (1 : Int)), ()), (b0.fst, b0.snd.fst, ()), ())) else Option.none else Option.some (Sum.inr (Sum.inl (((), r5, ()), (b0.fst, b0.snd.fst, ()), ())))
theorem g_num_4 (x : LD_num_4.El) : codeT (CTp 1) T_num (drT (CTp 1) T_num) lpi_num_4 l_num_4 (LD_num_4.enc x) (bodyK (LD_num_4.lay []) EX_num_4) = G_num_4 x.1.2.1 x.1.2.2.1 x.1.2.2.2.1 x.1.2.2.2.2.1 x.2.1 := by kernel_rfl
noncomputable def R_num_4 : LD_num_4.El → Option (LA_num_4.El ⊕ LB_num_4.El) := roundsT (fun x => G_num_4 x.1.2.1 x.1.2.2.1 x.1.2.2.2.1 x.1.2.2.2.2.1 x.2.1) fuel
theorem r_num_4 : ∀ x y, R_num_4 x = some y → CL (CTp 1) l_num_4 (LD_num_4.enc x) (Sum.elim (fun _ => EX_num_4.xa) (fun _ => EX_num_4.xb) y) (Sum.elim EX_num_4.la.enc EX_num_4.lb.enc y) :=
  rounds_ok (L := LD_num_4.lay []) (E := EX_num_4) (CTp_ok 1) T_num_ok (drT_ok (CTp_ok 1) T_num_ok) lpi_num_4_ok g_num_4 rfl rfl (fun v h => by have hh : (.exit 0 : AX) = .pan v := h; cases hh) (fun v h => by have hh : (.ret : AX) = .pan v := h; cases hh) fuel
noncomputable def lp_num {β : Type} : LpT β := fun k s K => if Nat.beq k 4 then lpOne (LD_num_4.lay []) EX_num_4 R_num_4 s K else none
theorem lp_num_ok {β : Type} : LpTOk (CTp 1) (lp_num (β := β)) (loopsOf c_num) := by
  have h : loopsOf c_num = [(4, l_num_4)] := by kernel_rfl
  rw [h]
  exact LpTOk.cons (fun s K z h => lpOne_ok r_num_4 h) (LpTOk.nil)
noncomputable def F_num (a1 : Ty.El I) (b0 : Ty.El .str × Ty.El .bool × Unit) : Option OUT_num.El := (F_take a1 (b0.fst, b0.snd.fst, ())).bind fun v2 => (R_num_4 (((), (0 : Int), v2.fst.fst, (↑(List.length v2.fst.fst) : Int), (0 : Int), ()), (v2.snd.fst.fst, v2.snd.fst.snd.fst, ()), ())).bind fun v11 => Sum.elim (fun v12 => Option.some ((v12.fst.snd.fst, ()), (v12.snd.fst.fst, v12.snd.fst.snd.fst, ()), ())) (fun v13 => Option.none) v11
theorem f_num (x : IN_num.El) : funcX (CTp 1) T_num IN_num OUT_num [] (drT (CTp 1) T_num) lp_num Tryz.f51 c_num x = F_num x.1.2.1 x.2.1 := by kernel_rfl
noncomputable def E_num : Ent := .mkGen 51 [] ⟨1, [], IN_num, OUT_num, fun x => F_num x.1.2.1 x.2.1⟩
theorem e_num : E_num.Ok CT.P := Ent.ofGen (C := (CTp 1)) (steps := []) (osteps := []) (CTp_ok 1) T_num_ok hf_num hb_num lp_num_ok f_num
noncomputable def c_numsg : Code := Tryz.f45.body.getD .skip
theorem hb_numsg : Tryz.f45.body = some c_numsg := by kernel_rfl
theorem hf_numsg : CT.P.funcs[45]? = some Tryz.f45 := by kernel_rfl
noncomputable abbrev IN_numsg : LayD := ⟨1, [(0, .ptr 0)], [.var 25 [.data I, .data I, .data I, .data I, .data tF, .data tF, .data tF, .data tF, .data tF, .data I, .data I, .own I 1], .row 3 I], fun s => [slotR s 0, slotC s 0 11]⟩
noncomputable abbrev OUT_numsg : LayD := ⟨1, [(0, .ownC 1 2 5)], [.var 25 [.data I, .data I, .data I, .data I, .data tF, .data tF, .data tF, .data tF, .data tF, .data I, .data I, .own I 1], .row 3 I, .var 109 [.ptrO 0 1, .ptrO 0 2, .ptrO 0 3, .ptrO 0 9, .ptrO 0 10]], fun s => [0, 1, slotR s 0]⟩
noncomputable def T_numsg : Tb := mkTb tyT mpT []
theorem T_numsg_ok : T_numsg.Ok CT.P := mkTb_ok (trivial)
noncomputable def lp_numsg {β : Type} : LpT β := fun _ _ _ => none
theorem lp_numsg_ok {β : Type} : LpTOk (CTp 2) (lp_numsg (β := β)) (loopsOf c_numsg) := by
  have h : loopsOf c_numsg = [] := by kernel_rfl
  rw [h]
  exact LpTOk.nil
noncomputable def F_numsg (b0 : Ty.El I × Ty.El I × Ty.El I × Ty.El I × Ty.El tF × Ty.El tF × Ty.El tF × Ty.El tF × Ty.El tF × Ty.El I × Ty.El I × Unit × Unit) (b1 : List (Ty.El I)) : Option OUT_numsg.El := Option.some (((), ()), (b0.fst, b0.snd.fst, b0.snd.snd.fst, b0.snd.snd.snd.fst, b0.snd.snd.snd.snd.fst, b0.snd.snd.snd.snd.snd.fst, b0.snd.snd.snd.snd.snd.snd.fst, b0.snd.snd.snd.snd.snd.snd.snd.fst, b0.snd.snd.snd.snd.snd.snd.snd.snd.fst, b0.snd.snd.snd.snd.snd.snd.snd.snd.snd.fst, b0.snd.snd.snd.snd.snd.snd.snd.snd.snd.snd.fst, (), ()), b1, ((), (), (), (), (), ()), ())
theorem f_numsg (x : IN_numsg.El) : funcX (CTp 2) T_numsg IN_numsg OUT_numsg [] (drT (CTp 2) T_numsg) lp_numsg Tryz.f45 c_numsg x = F_numsg x.2.1 x.2.2.1 := by kernel_rfl
noncomputable def E_numsg : Ent := .mkGen 45 [] ⟨2, [.nilCell 0 11 3 I], IN_numsg, OUT_numsg, fun x => F_numsg x.2.1 x.2.2.1⟩
theorem e_numsg : E_numsg.Ok CT.P := Ent.ofGen (C := (CTp 2)) (steps := [.nilCell 0 11 3 I]) (osteps := []) (CTp_ok 2) T_numsg_ok hf_numsg hb_numsg lp_numsg_ok f_numsg
noncomputable def c_realsg : Code := Tryz.f47.body.getD .skip
theorem hb_realsg : Tryz.f47.body = some c_realsg := by kernel_rfl
theorem hf_realsg : CT.P.funcs[47]? = some Tryz.f47 := by kernel_rfl
noncomputable abbrev IN_realsg : LayD := ⟨1, [(0, .ptr 0)], [.var 25 [.data I, .data I, .data I, .data I, .data tF, .data tF, .data tF, .data tF, .data tF, .data I, .data I, .own I 1], .row 3 I], fun s => [slotR s 0, slotC s 0 11]⟩
noncomputable abbrev OUT_realsg : LayD := ⟨1, [(0, .ownC 1 2 5)], [.var 25 [.data I, .data I, .data I, .data I, .data tF, .data tF, .data tF, .data tF, .data tF, .data I, .data I, .own I 1], .row 3 I, .var 113 [.ptrO 0 4, .ptrO 0 5, .ptrO 0 6, .ptrO 0 7, .ptrO 0 8]], fun s => [0, 1, slotR s 0]⟩
noncomputable def T_realsg : Tb := mkTb tyT mpT []
theorem T_realsg_ok : T_realsg.Ok CT.P := mkTb_ok (trivial)
noncomputable def lp_realsg {β : Type} : LpT β := fun _ _ _ => none
theorem lp_realsg_ok {β : Type} : LpTOk (CTp 2) (lp_realsg (β := β)) (loopsOf c_realsg) := by
  have h : loopsOf c_realsg = [] := by kernel_rfl
  rw [h]
  exact LpTOk.nil
noncomputable def F_realsg (b0 : Ty.El I × Ty.El I × Ty.El I × Ty.El I × Ty.El tF × Ty.El tF × Ty.El tF × Ty.El tF × Ty.El tF × Ty.El I × Ty.El I × Unit × Unit) (b1 : List (Ty.El I)) : Option OUT_realsg.El := Option.some (((), ()), (b0.fst, b0.snd.fst, b0.snd.snd.fst, b0.snd.snd.snd.fst, b0.snd.snd.snd.snd.fst, b0.snd.snd.snd.snd.snd.fst, b0.snd.snd.snd.snd.snd.snd.fst, b0.snd.snd.snd.snd.snd.snd.snd.fst, b0.snd.snd.snd.snd.snd.snd.snd.snd.fst, b0.snd.snd.snd.snd.snd.snd.snd.snd.snd.fst, b0.snd.snd.snd.snd.snd.snd.snd.snd.snd.snd.fst, (), ()), b1, ((), (), (), (), (), ()), ())
theorem f_realsg (x : IN_realsg.El) : funcX (CTp 2) T_realsg IN_realsg OUT_realsg [] (drT (CTp 2) T_realsg) lp_realsg Tryz.f47 c_realsg x = F_realsg x.2.1 x.2.2.1 := by kernel_rfl
noncomputable def E_realsg : Ent := .mkGen 47 [] ⟨2, [.nilCell 0 11 3 I], IN_realsg, OUT_realsg, fun x => F_realsg x.2.1 x.2.2.1⟩
theorem e_realsg : E_realsg.Ok CT.P := Ent.ofGen (C := (CTp 2)) (steps := [.nilCell 0 11 3 I]) (osteps := []) (CTp_ok 2) T_realsg_ok hf_realsg hb_realsg lp_realsg_ok f_realsg
noncomputable def c_getb : Code := Tryz.f17.body.getD .skip
theorem hb_getb : Tryz.f17.body = some c_getb := by kernel_rfl
theorem hf_getb : CT.P.funcs[17]? = some Tryz.f17 := by kernel_rfl
noncomputable def T_getb : Tb := mkTb tyT mpT [E_num, E_take, E_numsg, E_realsg, E_read8, E_put]
theorem T_getb_ok : T_getb.Ok CT.P := mkTb_ok (⟨e_num, e_take, e_numsg, e_realsg, e_read8, e_put, trivial⟩)
noncomputable def l_getb_15 : Code := atLoop c_getb 15
noncomputable def l_getb_10 : Code := atLoop c_getb 10
noncomputable def l_getb_5 : Code := atLoop c_getb 5
noncomputable def lpi_getb_5 {β : Type} : LpT β := fun _ _ _ => none
theorem lpi_getb_5_ok {β : Type} : LpTOk CT (lpi_getb_5 (β := β)) (loopsOf l_getb_5) := by
  have h : loopsOf l_getb_5 = [] := by kernel_rfl
  rw [h]
  exact LpTOk.nil
noncomputable def lpi_getb_10 {β : Type} : LpT β := fun _ _ _ => none
theorem lpi_getb_10_ok {β : Type} : LpTOk CT (lpi_getb_10 (β := β)) (loopsOf l_getb_10) := by
  have h : loopsOf l_getb_10 = [] := by kernel_rfl
  rw [h]
  exact LpTOk.nil
noncomputable abbrev LD_getb_15 : LayD := ⟨78, [(0, .data .str), (2, .ptr 0), (4, .ptr 1), (5, .ptr 2), (10, .data I)], [.var 25 [.data tOrder], .var 118 [.data .str, .data .bool], .var 25 [.data I, .data I, .data I, .data I, .data tF, .data tF, .data tF, .data tF, .data tF, .data I, .data I, .own I 3], .row 3 I], fun s => [slotR s 2, slotR s 4, slotR s 5, slotC s 5 11]⟩
noncomputable abbrev LA_getb_15 : LayD := ⟨78, [(0, .data .str), (2, .ptr 0), (4, .ptr 1), (5, .ptr 2)], [.var 25 [.data tOrder], .var 118 [.data .str, .data .bool], .var 25 [.data I, .data I, .data I, .data I, .data tF, .data tF, .data tF, .data tF, .data tF, .data I, .data I, .own I 3], .row 3 I], fun s => [slotR s 2, slotR s 4, slotR s 5, slotC s 5 11]⟩
noncomputable abbrev LB_getb_15 : LayD := ⟨78, [], [], fun _ => []⟩
noncomputable def EX_getb_15 : Exits 0 LA_getb_15.El LB_getb_15.El := ⟨.exit 4, LA_getb_15.lay [.nilCell 5 11 3 I], .ret, LB_getb_15.lay []⟩
noncomputable def lpi_getb_15 {β : Type} : LpT β := fun _ _ _ => none
theorem lpi_getb_15_ok {β : Type} : LpTOk CT (lpi_getb_15 (β := β)) (loopsOf l_getb_15) := by
  have h : loopsOf l_getb_15 = [] := by kernel_rfl
  rw [h]
  exact LpTOk.nil
noncomputable def G_getb_15 (r0 : Ty.El .str) (r10 : Ty.El I) (b0 : Ty.El tOrder × Unit) (b1 : Ty.El .str × Ty.El .bool × Unit) (b2 : Ty.El I × Ty.El I × Ty.El I × Ty.El I × Ty.El tF × Ty.El tF × Ty.El tF × Ty.El tF × Ty.El tF × Ty.El I × Ty.El I × Unit × Unit) (b3 : List (Ty.El I)) : Option (LD_getb_15.El ⊕ (LA_getb_15.El ⊕ LB_getb_15.El)) := bif Decidable.decide (r10 > (0 : Int)) then (F_num (4 : Int) (b1.fst, b1.snd.fst, ())).bind fun v2 => bif ((b3.length + [v2.fst.fst].length) * (8 : Nat)).ble (70368744177664 : Nat) then Option.some (Sum.inl ((r0, (), (), (), Go.IntKind.i64.wrap (r10 - (1 : Int)), ()), (b0.fst, ()), (v2.snd.fst.fst, v2.snd.fst.snd.fst, ()), (b2.fst, b2.snd.fst, b2.snd.snd.fst, b2.snd.snd.snd.fst, b2.snd.snd.snd.snd.fst, b2.snd.snd.snd.snd.snd.fst, b2.snd.snd.snd.snd.snd.snd.fst, b2.snd.snd.snd.snd.snd.snd.snd.fst, b2.snd.snd.snd.snd.snd.snd.snd.snd.fst, b2.snd.snd.snd.snd.snd.snd.snd.snd.snd.fst, b2.snd.snd.snd.snd.snd.snd.snd.snd.snd.snd.fst, (), ()), b3 ++ [v2.fst.fst], ())) else Option.none else Option.some (Sum.inr (Sum.inl ((r0, (), (), (), ()), (b0.fst, ()), (b1.fst, b1.snd.fst, ()), (b2.fst, b2.snd.fst, b2.snd.snd.fst, b2.snd.snd.snd.fst, b2.snd.snd.snd.snd.fst, b2.snd.snd.snd.snd.snd.fst, b2.snd.snd.snd.snd.snd.snd.fst, b2.snd.snd.snd.snd.snd.snd.snd.fst, b2.snd.snd.snd.snd.snd.snd.snd.snd.fst, b2.snd.snd.snd.snd.snd.snd.snd.snd.snd.fst, b2.snd.snd.snd.snd.snd.snd.snd.snd.snd.snd.fst, (), ()), b3, ())))
theorem g_getb_15 (x : LD_getb_15.El) : codeT CT T_getb (drT CT T_getb) lpi_getb_15 l_getb_15 (LD_getb_15.enc x) (bodyK (LD_getb_15.lay [.nilCell 5 11 3 I]) EX_getb_15) = G_getb_15 x.1.1 x.1.2.2.2.2.1 x.2.1 x.2.2.1 x.2.2.2.1 x.2.2.2.2.1 := by kernel_rfl
noncomputable def R_getb_15 : LD_getb_15.El → Option (LA_getb_15.El ⊕ LB_getb_15.El) := roundsT (fun x => G_getb_15 x.1.1 x.1.2.2.2.2.1 x.2.1 x.2.2.1 x.2.2.2.1 x.2.2.2.2.1) fuel
theorem r_getb_15 : ∀ x y, R_getb_15 x = some y → CL CT l_getb_15 (LD_getb_15.enc x) (Sum.elim (fun _ => EX_getb_15.xa) (fun _ => EX_getb_15.xb) y) (Sum.elim EX_getb_15.la.enc EX_getb_15.lb.enc y) :=
  rounds_ok (L := LD_getb_15.lay [.nilCell 5 11 3 I]) (E := EX_getb_15) CT_ok T_getb_ok (drT_ok CT_ok T_getb_ok) lpi_getb_15_ok g_getb_15 rfl rfl (fun v h => by have hh : (.exit 4 : AX) = .pan v := h; cases hh) (fun v h => by have hh : (.ret : AX) = .pan v := h; cases hh) fuel
noncomputable def lp_getb {β : Type} : LpT β := fun k s K => if Nat.beq k 5 then lpUn CT T_getb (drT CT T_getb) (lpi_getb_5) l_getb_5 6 s K else if Nat.beq k 10 then lpUn CT T_getb (drT CT T_getb) (lpi_getb_10) l_getb_10 6 s K else if Nat.beq k 15 then lpOne (LD_getb_15.lay [.nilCell 5 11 3 I]) EX_getb_15 R_getb_15 s K else none
theorem lp_getb_ok {β : Type} : LpTOk CT (lp_getb (β := β)) (loopsOf c_getb) := by
  have h : loopsOf c_getb = [(5, l_getb_5), (10, l_getb_10), (15, l_getb_15)] := by kernel_rfl
  rw [h]
  exact LpTOk.cons (fun s K z h => lpUn_ok CT_ok T_getb_ok (drT_ok CT_ok T_getb_ok) lpi_getb_5_ok h) (LpTOk.cons (fun s K z h => lpUn_ok CT_ok T_getb_ok (drT_ok CT_ok T_getb_ok) lpi_getb_10_ok h) (LpTOk.cons (fun s K z h => lpOne_ok r_getb_15 h) (LpTOk.nil)))
noncomputable def F_getb (a1 : Ty.El .str) : Option (Els [tOrder, .bool]) := (F_num (1 : Int) (a1, Bool.false, ())).bind fun v2 => (F_numsg (v2.fst.fst, (0 : Int), (0 : Int), (0 : Int), (0 : Nat), (0 : Nat), (0 : Nat), (0 : Nat), (0 : Nat), (0 : Int), (0 : Int), (), ()) []).bind fun v6 => (F_num (4 : Int) (v2.snd.fst.fst, v2.snd.fst.snd.fst, ())).bind fun v12 => (F_num (4 : Int) (v12.snd.fst.fst, v12.snd.fst.snd.fst, ())).bind fun v18 => (F_num (4 : Int) (v18.snd.fst.fst, v18.snd.fst.snd.fst, ())).bind fun v24 => (F_num (4 : Int) (v24.snd.fst.fst, v24.snd.fst.snd.fst, ())).bind fun v30 => (F_num (4 : Int) (v30.snd.fst.fst, v30.snd.fst.snd.fst, ())).bind fun v36 => (F_realsg (v6.snd.fst.fst, v12.fst.fst, v18.fst.fst, v24.fst.fst, v6.snd.fst.snd.snd.snd.snd.fst, v6.snd.fst.snd.snd.snd.snd.snd.fst, v6.snd.fst.snd.snd.snd.snd.snd.snd.fst, v6.snd.fst.snd.snd.snd.snd.snd.snd.snd.fst, v6.snd.fst.snd.snd.snd.snd.snd.snd.snd.snd.fst, v30.fst.fst, v36.fst.fst, (), ()) v6.snd.snd.fst).bind fun v62 => (F_take (8 : Int) (v36.snd.fst.fst, v36.snd.fst.snd.fst, ())).bind fun v68 => (F_read8 v68.fst.fst).bind fun v72 => (F_take (8 : Int) (v68.snd.fst.fst, v68.snd.fst.snd.fst, ())).bind fun v78 => (F_read8 v78.fst.fst).bind fun v82 => (F_take (8 : Int) (v78.snd.fst.fst, v78.snd.fst.snd.fst, ())).bind fun v88 => (F_read8 v88.fst.fst).bind fun v92 => (F_take (8 : Int) (v88.snd.fst.fst, v88.snd.fst.snd.fst, ())).bind fun v98 => (F_read8 v98.fst.fst).bind fun v102 => (F_take (8 : Int) (v98.snd.fst.fst, v98.snd.fst.snd.fst, ())).bind fun v108 => (F_read8 v108.fst.fst).bind fun v112 => (F_num (1 : Int) (v108.snd.fst.fst, v108.snd.fst.snd.fst, ())).bind fun v118 => (R_getb_15 ((a1, (), (), (), v118.fst.fst, ()), (((0 : Int), (0 : Int), (0 : Int), (0 : Int), (0 : Nat), (0 : Nat), (0 : Nat), (0 : Nat), (0 : Nat), (0 : Int), (0 : Int), []), ()), (v118.snd.fst.fst, v118.snd.fst.snd.fst, ()), (v62.snd.fst.fst, v62.snd.fst.snd.fst, v62.snd.fst.snd.snd.fst, v62.snd.fst.snd.snd.snd.fst, v72.fst, v82.fst, v92.fst, v102.fst, v112.fst, v62.snd.fst.snd.snd.snd.snd.snd.snd.snd.snd.snd.fst, v62.snd.fst.snd.snd.snd.snd.snd.snd.snd.snd.snd.snd.fst, (), ()), v62.snd.snd.fst, ())).bind fun v139 => Sum.elim (fun v140 => (F_put (v140.snd.snd.snd.fst.fst, v140.snd.snd.snd.fst.snd.fst, v140.snd.snd.snd.fst.snd.snd.fst, v140.snd.snd.snd.fst.snd.snd.snd.fst, v140.snd.snd.snd.fst.snd.snd.snd.snd.fst, v140.snd.snd.snd.fst.snd.snd.snd.snd.snd.fst, v140.snd.snd.snd.fst.snd.snd.snd.snd.snd.snd.fst, v140.snd.snd.snd.fst.snd.snd.snd.snd.snd.snd.snd.fst, v140.snd.snd.snd.fst.snd.snd.snd.snd.snd.snd.snd.snd.fst, v140.snd.snd.snd.fst.snd.snd.snd.snd.snd.snd.snd.snd.snd.fst, v140.snd.snd.snd.fst.snd.snd.snd.snd.snd.snd.snd.snd.snd.snd.fst, v140.snd.snd.snd.snd.fst)).bind fun v142 => bif v140.snd.snd.fst.snd.fst then Option.some (((0 : Int), (0 : Int), (0 : Int), (0 : Int), (0 : Nat), (0 : Nat), (0 : Nat), (0 : Nat), (0 : Nat), (0 : Int), (0 : Int), []), Bool.false, ()) else bif !v142.snd.fst then Option.some (((0 : Int), (0 : Int), (0 : Int), (0 : Int), (0 : Nat), (0 : Nat), (0 : Nat), (0 : Nat), (0 : Nat), (0 : Int), (0 : Int), []), Bool.false, ()) else bif !v142.fst == v140.fst.fst then Option.some (((0 : Int), (0 : Int), (0 : Int), (0 : Int), (0 : Nat), (0 : Nat), (0 : Nat), (0 : Nat), (0 : Nat), (0 : Int), (0 : Int), []), Bool.false, ()) else Option.some ((v140.snd.snd.snd.fst.fst, v140.snd.snd.snd.fst.snd.fst, v140.snd.snd.snd.fst.snd.snd.fst, v140.snd.snd.snd.fst.snd.snd.snd.fst, v140.snd.snd.snd.fst.snd.snd.snd.snd.fst, v140.snd.snd.snd.fst.snd.snd.snd.snd.snd.fst, v140.snd.snd.snd.fst.snd.snd.snd.snd.snd.snd.fst, v140.snd.snd.snd.fst.snd.snd.snd.snd.snd.snd.snd.fst, v140.snd.snd.snd.fst.snd.snd.snd.snd.snd.snd.snd.snd.fst, v140.snd.snd.snd.fst.snd.snd.snd.snd.snd.snd.snd.snd.snd.fst, v140.snd.snd.snd.fst.snd.snd.snd.snd.snd.snd.snd.snd.snd.snd.fst, v140.snd.snd.snd.snd.fst), Bool.true, ())) (fun v143 => Option.none) v139
theorem f_getb (x : Ps [.ty .str]) : funcT CT T_getb [tOrder, .bool] (drT CT T_getb) lp_getb Tryz.f17 c_getb (encPs [.ty .str] x) = F_getb x.1 := by kernel_rfl
noncomputable def E_getb : Ent := .fn 17 [] ⟨[.ty .str], [tOrder, .bool], fun x => F_getb x.1, false⟩
theorem e_getb : E_getb.Ok CT.P := Ent.ofFn CT_ok T_getb_ok hf_getb hb_getb lp_getb_ok f_getb
noncomputable def c_eqi : Code := Tryz.f54.body.getD .skip
theorem hb_eqi : Tryz.f54.body = some c_eqi := by kernel_rfl
theorem hf_eqi : CT.P.funcs[54]? = some Tryz.f54 := by kernel_rfl
noncomputable def T_eqi : Tb := mkTb tyT mpT []
theorem T_eqi_ok : T_eqi.Ok CT.P := mkTb_ok (trivial)
noncomputable def l_eqi_4 : Code := atLoop c_eqi 4
noncomputable abbrev LD_eqi_4 : LayD := ⟨26, [(0, .data (.list I)), (1, .data (.list I)), (12, .data I), (13, .data I)], [], fun _ => []⟩
noncomputable abbrev LA_eqi_4 : LayD := ⟨26, [], [], fun _ => []⟩
noncomputable abbrev LB_eqi_4 : LayD := ⟨26, [(4, .data .bool)], [], fun _ => []⟩
noncomputable def EX_eqi_4 : Exits 0 LA_eqi_4.El LB_eqi_4.El := ⟨.exit 0, LA_eqi_4.lay [], .ret, LB_eqi_4.lay []⟩
noncomputable def lpi_eqi_4 {β : Type} : LpT β := fun _ _ _ => none
theorem lpi_eqi_4_ok {β : Type} : LpTOk CT (lpi_eqi_4 (β := β)) (loopsOf l_eqi_4) := by
  have h : loopsOf l_eqi_4 = [] := by kernel_rfl
  rw [h]
  exact LpTOk.nil
noncomputable def G_eqi_4 (r0 : Ty.El (.list I)) (r1 : Ty.El (.list I)) (r12 : Ty.El I) (r13 : Ty.El I) : Option (LD_eqi_4.El ⊕ (LA_eqi_4.El ⊕ LB_eqi_4.El)) := bif Decidable.decide (r13 < r12) then bif Decidable.decide ((0 : Int) ≤ r13 ∧ r13 < (↑(List.length r0) : Int)) then bif Decidable.decide ((0 : Int) ≤ r13 ∧ r13 < (↑(List.length r1) : Int)) then bif List.getD r0 (Int.toNat r13) (0 : Int) != List.getD r1 (Int.toNat r13) (0 : Int) then Option.some (Sum.inr (Sum.inr ((Bool.false, ()), ()))) else Option.some (Sum.inl ((r0, r1, r12, Go.IntKind.i64.wrap (r13 + (1 : Int)), ()), ())) else Option.none else Option.none else Option.some (Sum.inr (Sum.inl ((), ())))
theorem g_eqi_4 (x : LD_eqi_4.El) : codeT CT T_eqi (drT CT T_eqi) lpi_eqi_4 l_eqi_4 (LD_eqi_4.enc x) (bodyK (LD_eqi_4.lay []) EX_eqi_4) = G_eqi_4 x.1.1 x.1.2.1 x.1.2.2.1 x.1.2.2.2.1 := by kernel_rfl
noncomputable def R_eqi_4 : LD_eqi_4.El → Option (LA_eqi_4.El ⊕ LB_eqi_4.El) := roundsT (fun x => G_eqi_4 x.1.1 x.1.2.1 x.1.2.2.1 x.1.2.2.2.1) fuel
theorem r_eqi_4 : ∀ x y, R_eqi_4 x = some y → CL CT l_eqi_4 (LD_eqi_4.enc x) (Sum.elim (fun _ => EX_eqi_4.xa) (fun _ => EX_eqi_4.xb) y) (Sum.elim EX_eqi_4.la.enc EX_eqi_4.lb.enc y) :=
  rounds_ok (L := LD_eqi_4.lay []) (E := EX_eqi_4) CT_ok T_eqi_ok (drT_ok CT_ok T_eqi_ok) lpi_eqi_4_ok g_eqi_4 rfl rfl (fun v h => by have hh : (.exit 0 : AX) = .pan v := h; cases hh) (fun v h => by have hh : (.ret : AX) = .pan v := h; cases hh) fuel
noncomputable def lp_eqi {β : Type} : LpT β := fun k s K => if Nat.beq k 4 then lpOne (LD_eqi_4.lay []) EX_eqi_4 R_eqi_4 s K else none
theorem lp_eqi_ok {β : Type} : LpTOk CT (lp_eqi (β := β)) (loopsOf c_eqi) := by
  have h : loopsOf c_eqi = [(4, l_eqi_4)] := by kernel_rfl
  rw [h]
  exact LpTOk.cons (fun s K z h => lpOne_ok r_eqi_4 h) (LpTOk.nil)
noncomputable def F_eqi (a1 : Ty.El (.list I)) (a2 : Ty.El (.list I)) : Option (Els [.bool]) := bif (↑(List.length a1) : Int) != (↑(List.length a2) : Int) then Option.some (Bool.false, ()) else (R_eqi_4 ((a1, a2, (↑(List.length a1) : Int), (0 : Int), ()), ())).bind fun v1 => Sum.elim (fun v2 => Option.some (Bool.true, ())) (fun v3 => Option.some (v3.fst.fst, ())) v1
theorem f_eqi (x : Ps [.ty (.list I), .ty (.list I)]) : funcT CT T_eqi [.bool] (drT CT T_eqi) lp_eqi Tryz.f54 c_eqi (encPs [.ty (.list I), .ty (.list I)] x) = F_eqi x.1 x.2.1 := by kernel_rfl
noncomputable def E_eqi : Ent := .fn 54 [] ⟨[.ty (.list I), .ty (.list I)], [.bool], fun x => F_eqi x.1 x.2.1, false⟩
theorem e_eqi : E_eqi.Ok CT.P := Ent.ofFn CT_ok T_eqi_ok hf_eqi hb_eqi lp_eqi_ok f_eqi
noncomputable def c_Same : Code := Tryz.f19.body.getD .skip
theorem hb_Same : Tryz.f19.body = some c_Same := by kernel_rfl
theorem hf_Same : CT.P.funcs[19]? = some Tryz.f19 := by kernel_rfl
noncomputable def T_Same : Tb := mkTb tyT mpT [E_eqi, E_nums, E_reals, E_same]
theorem T_Same_ok : T_Same.Ok CT.P := mkTb_ok (⟨e_eqi, e_nums, e_reals, e_same, trivial⟩)
noncomputable def l_Same_12 : Code := atLoop c_Same 12
noncomputable def l_Same_5 : Code := atLoop c_Same 5
noncomputable def lpi_Same_5 {β : Type} : LpT β := fun _ _ _ => none
theorem lpi_Same_5_ok {β : Type} : LpTOk CT (lpi_Same_5 (β := β)) (loopsOf l_Same_5) := by
  have h : loopsOf l_Same_5 = [] := by kernel_rfl
  rw [h]
  exact LpTOk.nil
noncomputable def lpi_Same_12 {β : Type} : LpT β := fun _ _ _ => none
theorem lpi_Same_12_ok {β : Type} : LpTOk CT (lpi_Same_12 (β := β)) (loopsOf l_Same_12) := by
  have h : loopsOf l_Same_12 = [] := by kernel_rfl
  rw [h]
  exact LpTOk.nil
noncomputable def lp_Same {β : Type} : LpT β := fun k s K => if Nat.beq k 5 then lpUn CT T_Same (drT CT T_Same) (lpi_Same_5) l_Same_5 6 s K else if Nat.beq k 12 then lpUn CT T_Same (drT CT T_Same) (lpi_Same_12) l_Same_12 6 s K else none
theorem lp_Same_ok {β : Type} : LpTOk CT (lp_Same (β := β)) (loopsOf c_Same) := by
  have h : loopsOf c_Same = [(5, l_Same_5), (12, l_Same_12)] := by kernel_rfl
  rw [h]
  exact LpTOk.cons (fun s K z h => lpUn_ok CT_ok T_Same_ok (drT_ok CT_ok T_Same_ok) lpi_Same_5_ok h) (LpTOk.cons (fun s K z h => lpUn_ok CT_ok T_Same_ok (drT_ok CT_ok T_Same_ok) lpi_Same_12_ok h) (LpTOk.nil))
noncomputable def F_Same (a1 : Ty.El tOrder) (a2 : Ty.El tOrder) : Option (Els [.bool]) := bif a1.fst != a2.fst then Option.some (Bool.false, ()) else (F_eqi a1.snd.snd.snd.snd.snd.snd.snd.snd.snd.snd.snd a2.snd.snd.snd.snd.snd.snd.snd.snd.snd.snd.snd).bind fun v2 => bif !v2.fst then Option.some (Bool.false, ()) else (F_nums (a1, ())).bind fun v4 => (F_nums (a2, ())).bind fun v6 => bif v4.snd.fst.fst.snd.fst != v6.snd.fst.fst.snd.fst then Option.some (Bool.false, ()) else bif v4.snd.fst.fst.snd.snd.fst != v6.snd.fst.fst.snd.snd.fst then Option.some (Bool.false, ()) else bif v4.snd.fst.fst.snd.snd.snd.fst != v6.snd.fst.fst.snd.snd.snd.fst then Option.some (Bool.false, ()) else bif v4.snd.fst.fst.snd.snd.snd.snd.snd.snd.snd.snd.snd.fst != v6.snd.fst.fst.snd.snd.snd.snd.snd.snd.snd.snd.snd.fst then Option.some (Bool.false, ()) else bif v4.snd.fst.fst.snd.snd.snd.snd.snd.snd.snd.snd.snd.snd.fst != v6.snd.fst.fst.snd.snd.snd.snd.snd.snd.snd.snd.snd.snd.fst then Option.some (Bool.false, ()) else (F_reals (v4.snd.fst.fst, ())).bind fun v30 => (F_reals (v6.snd.fst.fst, ())).bind fun v34 => (F_same v30.snd.fst.fst.snd.snd.snd.snd.fst v34.snd.fst.fst.snd.snd.snd.snd.fst).bind fun v40 => bif !v40.fst then Option.some (Bool.false, ()) else (F_same v30.snd.fst.fst.snd.snd.snd.snd.snd.fst v34.snd.fst.fst.snd.snd.snd.snd.snd.fst).bind fun v46 => bif !v46.fst then Option.some (Bool.false, ()) else (F_same v30.snd.fst.fst.snd.snd.snd.snd.snd.snd.fst v34.snd.fst.fst.snd.snd.snd.snd.snd.snd.fst).bind fun v52 => bif !v52.fst then Option.some (Bool.false, ()) else (F_same v30.snd.fst.fst.snd.snd.snd.snd.snd.snd.snd.fst v34.snd.fst.fst.snd.snd.snd.snd.snd.snd.snd.fst).bind fun v58 => bif !v58.fst then Option.some (Bool.false, ()) else (F_same v30.snd.fst.fst.snd.snd.snd.snd.snd.snd.snd.snd.fst v34.snd.fst.fst.snd.snd.snd.snd.snd.snd.snd.snd.fst).bind fun v64 => bif !v64.fst then Option.some (Bool.false, ()) else Option.some (Bool.true, ())
theorem f_Same (x : Ps [.ty tOrder, .ty tOrder]) : funcT CT T_Same [.bool] (drT CT T_Same) lp_Same Tryz.f19 c_Same (encPs [.ty tOrder, .ty tOrder] x) = F_Same x.1 x.2.1 := by kernel_rfl
noncomputable def E_Same : Ent := .fn 19 [] ⟨[.ty tOrder, .ty tOrder], [.bool], fun x => F_Same x.1 x.2.1, false⟩
theorem e_Same : E_Same.Ok CT.P := Ent.ofFn CT_ok T_Same_ok hf_Same hb_Same lp_Same_ok f_Same
end Go.DI.S
