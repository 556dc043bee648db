import Derived.Test.YtehnecfmjfpclaaGreatPb
/- Records read back, the statement: told by functions on data. No conditions. -/
set_option linter.unusedVariables false
namespace Go.DI.S
open Go.Proofs
noncomputable def tyS : TypeId → Option Ty
  | 31 => some (.list tEntry)
  | 9 => some .str
  | t => tyT t
end Go.DI.S
set_option linter.unusedVariables false
set_option maxRecDepth 100000
set_option maxHeartbeats 0
namespace Go.DI.S
open Go.Proofs
noncomputable def c_getE : Code := Tryz.f80.body.getD .skip
theorem hb_getE : Tryz.f80.body = some c_getE := by kernel_rfl
theorem hf_getE : CT.P.funcs[80]? = some Tryz.f80 := by kernel_rfl
noncomputable def T_getE : Tb := mkTb tyS mpT [E_131, E_104, E_105, E_putE]
theorem T_getE_ok : T_getE.Ok CT.P := mkTb_ok (⟨e_131, e_104, e_105, e_putE, trivial⟩)
noncomputable def l_getE_4 : Code := atLoop c_getE 4
noncomputable abbrev LD_getE_4 : LayD := ⟨74, [(0, .data .str), (2, .ptr 0), (4, .ptr 1), (5, .ptr 2), (6, .data I)], [.var 56 [.data tEntry], .var 140 [.data .str, .data .bool], .var 56 [.own tDelta 3, .data .bool, .data tVec, .data tVec, .data I, .data I], .row 108 tDelta], fun s => [slotR s 2, slotR s 4, slotR s 5, slotC s 5 0]⟩
noncomputable abbrev LA_getE_4 : LayD := ⟨74, [(0, .data .str), (2, .ptr 0), (4, .ptr 1), (5, .ptr 2)], [.var 56 [.data tEntry], .var 140 [.data .str, .data .bool], .var 56 [.own tDelta 3, .data .bool, .data tVec, .data tVec, .data I, .data I], .row 108 tDelta], fun s => [slotR s 2, slotR s 4, slotR s 5, slotC s 5 0]⟩
noncomputable abbrev LB_getE_4 : LayD := ⟨74, [], [], fun _ => []⟩
noncomputable def EX_getE_4 : Exits 0 LA_getE_4.El LB_getE_4.El := ⟨.exit 0, LA_getE_4.lay [.nilCell 5 0 108 tDelta], .ret, LB_getE_4.lay []⟩
noncomputable def lpi_getE_4 {β : Type} : LpT β := fun _ _ _ => none
theorem lpi_getE_4_ok {β : Type} : LpTOk CT (lpi_getE_4 (β := β)) (loopsOf l_getE_4) := by
  have h : loopsOf l_getE_4 = [] := by kernel_rfl
  rw [h]
  exact LpTOk.nil
noncomputable def G_getE_4 (r0 : Ty.El .str) (r6 : Ty.El I) (b0 : Ty.El tEntry × Unit) (b1 : Ty.El .str × Ty.El .bool × Unit) (b2 : Unit × Ty.El .bool × Ty.El tVec × Ty.El tVec × Ty.El I × Ty.El I × Unit) (b3 : List (Ty.El tDelta)) : Option (LD_getE_4.El ⊕ (LA_getE_4.El ⊕ LB_getE_4.El)) := bif Decidable.decide (r6 > (0 : Int)) then (F_104 (4 : Int) (b1.fst, b1.snd.fst, ())).bind fun v2 => (F_104 (2 : Int) (v2.snd.fst.fst, v2.snd.fst.snd.fst, ())).bind fun v8 => (F_131 v8.fst.fst (v8.snd.fst.fst, v8.snd.fst.snd.fst, ())).bind fun v16 => (F_104 (2 : Int) (v16.snd.fst.fst, v16.snd.fst.snd.fst, ())).bind fun v22 => (F_131 v22.fst.fst (v22.snd.fst.fst, v22.snd.fst.snd.fst, ())).bind fun v30 => bif ((b3.length + [(v2.fst.fst, v16.fst.fst, v30.fst.fst)].length) * (40 : Nat)).ble (70368744177664 : Nat) then Option.some (Sum.inl ((r0, (), (), (), Go.IntKind.i64.wrap (r6 - (1 : Int)), ()), (b0.fst, ()), (v30.snd.fst.fst, v30.snd.fst.snd.fst, ()), ((), b2.snd.fst, b2.snd.snd.fst, b2.snd.snd.snd.fst, b2.snd.snd.snd.snd.fst, b2.snd.snd.snd.snd.snd.fst, ()), b3 ++ [(v2.fst.fst, v16.fst.fst, v30.fst.fst)], ())) else Option.none else Option.some (Sum.inr (Sum.inl ((r0, (), (), (), ()), (b0.fst, ()), (b1.fst, b1.snd.fst, ()), ((), b2.snd.fst, b2.snd.snd.fst, b2.snd.snd.snd.fst, b2.snd.snd.snd.snd.fst, b2.snd.snd.snd.snd.snd.fst, ()), b3, ())))
theorem g_getE_4 (x : LD_getE_4.El) : codeT CT T_getE (drT CT T_getE) lpi_getE_4 l_getE_4 (LD_getE_4.enc x) (bodyK (LD_getE_4.lay [.nilCell 5 0 108 tDelta]) EX_getE_4) = G_getE_4 x.1.1 x.1.2.2.2.2.1 x.2.1 x.2.2.1 x.2.2.2.1 x.2.2.2.2.1 := by kernel_rfl
noncomputable def R_getE_4 : LD_getE_4.El → Option (LA_getE_4.El ⊕ LB_getE_4.El) := roundsT (fun x => G_getE_4 x.1.1 x.1.2.2.2.2.1 x.2.1 x.2.2.1 x.2.2.2.1 x.2.2.2.2.1) fuel
theorem r_getE_4 : ∀ x y, R_getE_4 x = some y → CL CT l_getE_4 (LD_getE_4.enc x) (Sum.elim (fun _ => EX_getE_4.xa) (fun _ => EX_getE_4.xb) y) (Sum.elim EX_getE_4.la.enc EX_getE_4.lb.enc y) :=
  rounds_ok (L := LD_getE_4.lay [.nilCell 5 0 108 tDelta]) (E := EX_getE_4) CT_ok T_getE_ok (drT_ok CT_ok T_getE_ok) lpi_getE_4_ok g_getE_4 rfl rfl (fun v h => by have hh : (.exit 0 : AX) = .pan v := h; cases hh) (fun v h => by have hh : (.ret : AX) = .pan v := h; cases hh) fuel
noncomputable def lp_getE {β : Type} : LpT β := fun k s K => if Nat.beq k 4 then lpOne (LD_getE_4.lay [.nilCell 5 0 108 tDelta]) EX_getE_4 R_getE_4 s K else none
theorem lp_getE_ok {β : Type} : LpTOk CT (lp_getE (β := β)) (loopsOf c_getE) := by
  have h : loopsOf c_getE = [(4, l_getE_4)] := by kernel_rfl
  rw [h]
  exact LpTOk.cons (fun s K z h => lpOne_ok r_getE_4 h) (LpTOk.nil)
noncomputable def F_getE (a1 : Ty.El .str) : Option (Els [tEntry, .bool]) := (F_104 (1 : Int) (a1, Bool.false, ())).bind fun v2 => (R_getE_4 ((a1, (), (), (), v2.fst.fst, ()), (([], Bool.false, ((0 : Int), (0 : Int)), ((0 : Int), (0 : Int)), (0 : Int), (0 : Int)), ()), (v2.snd.fst.fst, v2.snd.fst.snd.fst, ()), ((), Bool.false, ((0 : Int), (0 : Int)), ((0 : Int), (0 : Int)), (0 : Int), (0 : Int), ()), [], ())).bind fun v9 => Sum.elim (fun v10 => (F_104 (1 : Int) (v10.snd.snd.fst.fst, v10.snd.snd.fst.snd.fst, ())).bind fun v12 => bif v12.fst.fst == (1 : Int) then (F_105 (v12.snd.fst.fst, v12.snd.fst.snd.fst, ())).bind fun v20 => (F_105 (v20.snd.fst.fst, v20.snd.fst.snd.fst, ())).bind fun v26 => (F_104 (4 : Int) (v26.snd.fst.fst, v26.snd.fst.snd.fst, ())).bind fun v32 => (F_104 (4 : Int) (v32.snd.fst.fst, v32.snd.fst.snd.fst, ())).bind fun v38 => (F_putE (v10.snd.snd.snd.snd.fst, Bool.true, v20.fst.fst, v26.fst.fst, v32.fst.fst, v38.fst.fst)).bind fun v48 => bif v38.snd.fst.snd.fst then Option.some (([], Bool.false, ((0 : Int), (0 : Int)), ((0 : Int), (0 : Int)), (0 : Int), (0 : Int)), Bool.false, ()) else bif !v48.snd.fst then Option.some (([], Bool.false, ((0 : Int), (0 : Int)), ((0 : Int), (0 : Int)), (0 : Int), (0 : Int)), Bool.false, ()) else bif !v48.fst == v10.fst.fst then Option.some (([], Bool.false, ((0 : Int), (0 : Int)), ((0 : Int), (0 : Int)), (0 : Int), (0 : Int)), Bool.false, ()) else Option.some ((v10.snd.snd.snd.snd.fst, Bool.true, v20.fst.fst, v26.fst.fst, v32.fst.fst, v38.fst.fst), Bool.true, ()) else (F_104 (4 : Int) (v12.snd.fst.fst, v12.snd.fst.snd.fst, ())).bind fun v64 => (F_104 (4 : Int) (v64.snd.fst.fst, v64.snd.fst.snd.fst, ())).bind fun v70 => (F_putE (v10.snd.snd.snd.snd.fst, v10.snd.snd.snd.fst.snd.fst, v10.snd.snd.snd.fst.snd.snd.fst, v10.snd.snd.snd.fst.snd.snd.snd.fst, v64.fst.fst, v70.fst.fst)).bind fun v76 => bif v70.snd.fst.snd.fst then Option.some (([], Bool.false, ((0 : Int), (0 : Int)), ((0 : Int), (0 : Int)), (0 : Int), (0 : Int)), Bool.false, ()) else bif !v76.snd.fst then Option.some (([], Bool.false, ((0 : Int), (0 : Int)), ((0 : Int), (0 : Int)), (0 : Int), (0 : Int)), Bool.false, ()) else bif !v76.fst == v10.fst.fst then Option.some (([], Bool.false, ((0 : Int), (0 : Int)), ((0 : Int), (0 : Int)), (0 : Int), (0 : Int)), Bool.false, ()) else Option.some ((v10.snd.snd.snd.snd.fst, v10.snd.snd.snd.fst.snd.fst, v10.snd.snd.snd.fst.snd.snd.fst, v10.snd.snd.snd.fst.snd.snd.snd.fst, v64.fst.fst, v70.fst.fst), Bool.true, ())) (fun v83 => Option.none) v9
theorem f_getE (x : Ps [.ty .str]) : funcT CT T_getE [tEntry, .bool] (drT CT T_getE) lp_getE Tryz.f80 c_getE (encPs [.ty .str] x) = F_getE x.1 := by kernel_rfl
noncomputable def E_getE : Ent := .fn 80 [] ⟨[.ty .str], [tEntry, .bool], fun x => F_getE x.1, false⟩
theorem e_getE : E_getE.Ok CT.P := Ent.ofFn CT_ok T_getE_ok hf_getE hb_getE lp_getE_ok f_getE
noncomputable def c_ents : Code := Tryz.f33.body.getD .skip
theorem hb_ents : Tryz.f33.body = some c_ents := by kernel_rfl
theorem hf_ents : CT.P.funcs[33]? = some Tryz.f33 := by kernel_rfl
noncomputable def T_ents : Tb := mkTb tyS mpT [E_getE]
theorem T_ents_ok : T_ents.Ok CT.P := mkTb_ok (⟨e_getE, trivial⟩)
noncomputable def l_ents_4 : Code := atLoop c_ents 4
noncomputable abbrev LD_ents_4 : LayD := ⟨38, [(3, .own tEntry 0), (4, .data .str), (9, .data (.list tRec)), (10, .data I), (11, .data I)], [.row 56 tEntry], fun s => [slotR s 3]⟩
noncomputable abbrev LA_ents_4 : LayD := ⟨38, [(3, .own tEntry 0)], [.row 56 tEntry], fun s => [slotR s 3]⟩
noncomputable abbrev LB_ents_4 : LayD := ⟨38, [(2, .data (.list tEntry))], [], fun _ => []⟩
noncomputable def EX_ents_4 : Exits 0 LA_ents_4.El LB_ents_4.El := ⟨.exit 0, LA_ents_4.lay [.nilReg 3 56 tEntry], .ret, LB_ents_4.lay []⟩
noncomputable def lpi_ents_4 {β : Type} : LpT β := fun _ _ _ => none
theorem lpi_ents_4_ok {β : Type} : LpTOk CT (lpi_ents_4 (β := β)) (loopsOf l_ents_4) := by
  have h : loopsOf l_ents_4 = [] := by kernel_rfl
  rw [h]
  exact LpTOk.nil
noncomputable def G_ents_4 (r4 : Ty.El .str) (r9 : Ty.El (.list tRec)) (r10 : Ty.El I) (r11 : Ty.El I) (b0 : List (Ty.El tEntry)) : Option (LD_ents_4.El ⊕ (LA_ents_4.El ⊕ LB_ents_4.El)) := bif Decidable.decide (r11 < r10) then bif Decidable.decide ((0 : Int) ≤ r11 ∧ r11 < (↑(List.length r9) : Int)) then bif (List.getD r9 (Int.toNat r11) Go.DI.S.tRec.dflt).snd == [] then Option.some (Sum.inr (Sum.inr (([], ()), ()))) else bif Decidable.decide ((0 : Int) ≤ (1 : Int) ∧ (1 : Int) ≤ (↑(List.length (List.getD r9 (Int.toNat r11) Go.DI.S.tRec.dflt).snd) : Int)) then bif Decidable.decide (List.length r4 + (List.take (List.length (List.getD r9 (Int.toNat r11) Go.DI.S.tRec.dflt).snd - (1 : Nat)) (List.drop (1 : Nat) (List.getD r9 (Int.toNat r11) Go.DI.S.tRec.dflt).snd)).length ≤ (4611686018427387904 : Nat)) then bif Decidable.decide ((0 : Int) ≤ (0 : Int) ∧ (0 : Int) < (↑(List.length (List.getD r9 (Int.toNat r11) Go.DI.S.tRec.dflt).snd) : Int)) then bif (↑(List.getD (List.getD (((), r4, r9, r10, r11, ()), b0, ()).fst.snd.snd.fst (Int.toNat (((), r4, r9, r10, r11, ()), b0, ()).fst.snd.snd.snd.snd.fst) Go.DI.S.tRec.dflt).snd (Int.toNat (0 : Int)) (0 : UInt8)).toBitVec.toFin.1 : Int) == (1 : Int) then (F_getE (r4 ++ List.take (List.length (List.getD r9 (Int.toNat r11) Go.DI.S.tRec.dflt).snd - (1 : Nat)) (List.drop (1 : Nat) (List.getD r9 (Int.toNat r11) Go.DI.S.tRec.dflt).snd))).bind fun v2 => bif ((b0.length + [v2.fst].length) * (80 : Nat)).ble (70368744177664 : Nat) then Option.some (Sum.inl (((), [], r9, r10, Go.IntKind.i64.wrap (r11 + (1 : Int)), ()), b0 ++ [v2.fst], ())) else Option.none else Option.some (Sum.inl (((), r4 ++ List.take (List.length (List.getD r9 (Int.toNat r11) Go.DI.S.tRec.dflt).snd - (1 : Nat)) (List.drop (1 : Nat) (List.getD r9 (Int.toNat r11) Go.DI.S.tRec.dflt).snd), r9, r10, Go.IntKind.i64.wrap (r11 + (1 : Int)), ()), b0, ())) else Option.none else Option.none else Option.none else Option.none else Option.some (Sum.inr (Sum.inl (((), ()), b0, ())))
theorem g_ents_4 (x : LD_ents_4.El) : codeT CT T_ents (drT CT T_ents) lpi_ents_4 l_ents_4 (LD_ents_4.enc x) (bodyK (LD_ents_4.lay [.nilReg 3 56 tEntry]) EX_ents_4) = G_ents_4 x.1.2.1 x.1.2.2.1 x.1.2.2.2.1 x.1.2.2.2.2.1 x.2.1 := by kernel_rfl
noncomputable def R_ents_4 : LD_ents_4.El → Option (LA_ents_4.El ⊕ LB_ents_4.El) := roundsT (fun x => G_ents_4 x.1.2.1 x.1.2.2.1 x.1.2.2.2.1 x.1.2.2.2.2.1 x.2.1) fuel
theorem r_ents_4 : ∀ x y, R_ents_4 x = some y → CL CT l_ents_4 (LD_ents_4.enc x) (Sum.elim (fun _ => EX_ents_4.xa) (fun _ => EX_ents_4.xb) y) (Sum.elim EX_ents_4.la.enc EX_ents_4.lb.enc y) :=
  rounds_ok (L := LD_ents_4.lay [.nilReg 3 56 tEntry]) (E := EX_ents_4) CT_ok T_ents_ok (drT_ok CT_ok T_ents_ok) lpi_ents_4_ok g_ents_4 rfl rfl (fun v h => by have hh : (.exit 0 : AX) = .pan v := h; cases hh) (fun v h => by have hh : (.ret : AX) = .pan v := h; cases hh) fuel
noncomputable def lp_ents {β : Type} : LpT β := fun k s K => if Nat.beq k 4 then lpOne (LD_ents_4.lay [.nilReg 3 56 tEntry]) EX_ents_4 R_ents_4 s K else none
theorem lp_ents_ok {β : Type} : LpTOk CT (lp_ents (β := β)) (loopsOf c_ents) := by
  have h : loopsOf c_ents = [(4, l_ents_4)] := by kernel_rfl
  rw [h]
  exact LpTOk.cons (fun s K z h => lpOne_ok r_ents_4 h) (LpTOk.nil)
noncomputable def F_ents (a1 : Ty.El (.list tRec)) : Option (Els [.list tEntry]) := (R_ents_4 (((), [], a1, (↑(List.length a1) : Int), (0 : Int), ()), [], ())).bind fun v1 => Sum.elim (fun v2 => Option.some (v2.snd.fst, ())) (fun v3 => Option.some (v3.fst.fst, ())) v1
theorem f_ents (x : Ps [.ty (.list tRec)]) : funcT CT T_ents [.list tEntry] (drT CT T_ents) lp_ents Tryz.f33 c_ents (encPs [.ty (.list tRec)] x) = F_ents x.1 := by kernel_rfl
noncomputable def E_ents : Ent := .fn 33 [] ⟨[.ty (.list tRec)], [.list tEntry], fun x => F_ents x.1, false⟩
theorem e_ents : E_ents.Ok CT.P := Ent.ofFn CT_ok T_ents_ok hf_ents hb_ents lp_ents_ok f_ents
noncomputable def c_val : Code := Tryz.f31.body.getD .skip
theorem hb_val : Tryz.f31.body = some c_val := by kernel_rfl
theorem hf_val : CT.P.funcs[31]? = some Tryz.f31 := by kernel_rfl
noncomputable def T_val : Tb := mkTb tyS mpT []
theorem T_val_ok : T_val.Ok CT.P := mkTb_ok (trivial)
noncomputable def l_val_3 : Code := atLoop c_val 3
noncomputable abbrev LD_val_3 : LayD := ⟨20, [(0, .data .str), (3, .data (.int .u64)), (6, .data I), (7, .data I)], [], fun _ => []⟩
noncomputable abbrev LA_val_3 : LayD := ⟨20, [(3, .data (.int .u64))], [], fun _ => []⟩
noncomputable abbrev LB_val_3 : LayD := ⟨20, [], [], fun _ => []⟩
noncomputable def EX_val_3 : Exits 0 LA_val_3.El LB_val_3.El := ⟨.exit 0, LA_val_3.lay [], .ret, LB_val_3.lay []⟩
noncomputable def lpi_val_3 {β : Type} : LpT β := fun _ _ _ => none
theorem lpi_val_3_ok {β : Type} : LpTOk CT (lpi_val_3 (β := β)) (loopsOf l_val_3) := by
  have h : loopsOf l_val_3 = [] := by kernel_rfl
  rw [h]
  exact LpTOk.nil
noncomputable def G_val_3 (r0 : Ty.El .str) (r3 : Ty.El (.int .u64)) (r6 : Ty.El I) (r7 : Ty.El I) : Option (LD_val_3.El ⊕ (LA_val_3.El ⊕ LB_val_3.El)) := bif Decidable.decide (r7 < r6) then bif Decidable.decide ((0 : Int) ≤ r7 ∧ r7 < (↑(List.length r0) : Int)) then Option.some (Sum.inl ((r0, Go.DI.bOr Go.IntKind.u64 (Go.IntKind.u64.wrap (r3 * (256 : Int))) (Go.IntKind.u64.wrap (↑(List.getD ((r0, r3, r6, r7, ()), ()).fst.fst (Int.toNat ((r0, r3, r6, r7, ()), ()).fst.snd.snd.snd.fst) (0 : UInt8)).toBitVec.toFin.1 : Int)), r6, Go.IntKind.i64.wrap (r7 + (1 : Int)), ()), ())) else Option.none else Option.some (Sum.inr (Sum.inl ((r3, ()), ())))
theorem g_val_3 (x : LD_val_3.El) : codeT CT T_val (drT CT T_val) lpi_val_3 l_val_3 (LD_val_3.enc x) (bodyK (LD_val_3.lay []) EX_val_3) = G_val_3 x.1.1 x.1.2.1 x.1.2.2.1 x.1.2.2.2.1 := by kernel_rfl
noncomputable def R_val_3 : LD_val_3.El → Option (LA_val_3.El ⊕ LB_val_3.El) := roundsT (fun x => G_val_3 x.1.1 x.1.2.1 x.1.2.2.1 x.1.2.2.2.1) fuel
theorem r_val_3 : ∀ x y, R_val_3 x = some y → CL CT l_val_3 (LD_val_3.enc x) (Sum.elim (fun _ => EX_val_3.xa) (fun _ => EX_val_3.xb) y) (Sum.elim EX_val_3.la.enc EX_val_3.lb.enc y) :=
  rounds_ok (L := LD_val_3.lay []) (E := EX_val_3) CT_ok T_val_ok (drT_ok CT_ok T_val_ok) lpi_val_3_ok g_val_3 rfl rfl (fun v h => by have hh : (.exit 0 : AX) = .pan v := h; cases hh) (fun v h => by have hh : (.ret : AX) = .pan v := h; cases hh) fuel
noncomputable def lp_val {β : Type} : LpT β := fun k s K => if Nat.beq k 3 then lpOne (LD_val_3.lay []) EX_val_3 R_val_3 s K else none
theorem lp_val_ok {β : Type} : LpTOk CT (lp_val (β := β)) (loopsOf c_val) := by
  have h : loopsOf c_val = [(3, l_val_3)] := by kernel_rfl
  rw [h]
  exact LpTOk.cons (fun s K z h => lpOne_ok r_val_3 h) (LpTOk.nil)
noncomputable def F_val (a1 : Ty.El .str) : Option (Els [I]) := (R_val_3 ((a1, (0 : Int), (↑(List.length a1) : Int), (0 : Int), ()), ())).bind fun v1 => Sum.elim (fun v2 => Option.some (Go.IntKind.i64.wrap v2.fst.fst, ())) (fun v3 => Option.none) v1
theorem f_val (x : Ps [.ty .str]) : funcT CT T_val [I] (drT CT T_val) lp_val Tryz.f31 c_val (encPs [.ty .str] x) = F_val x.1 := by kernel_rfl
noncomputable def E_val : Ent := .fn 31 [] ⟨[.ty .str], [I], fun x => F_val x.1, false⟩
theorem e_val : E_val.Ok CT.P := Ent.ofFn CT_ok T_val_ok hf_val hb_val lp_val_ok f_val
noncomputable def c_eqR : Code := Tryz.f35.body.getD .skip
theorem hb_eqR : Tryz.f35.body = some c_eqR := by kernel_rfl
theorem hf_eqR : CT.P.funcs[35]? = some Tryz.f35 := by kernel_rfl
noncomputable def T_eqR : Tb := mkTb tyS mpT []
theorem T_eqR_ok : T_eqR.Ok CT.P := mkTb_ok (trivial)
noncomputable def l_eqR_4 : Code := atLoop c_eqR 4
noncomputable abbrev LD_eqR_4 : LayD := ⟨26, [(0, .data (.list tRec)), (1, .data (.list tRec)), (12, .data I), (13, .data I)], [], fun _ => []⟩
noncomputable abbrev LA_eqR_4 : LayD := ⟨26, [], [], fun _ => []⟩
noncomputable abbrev LB_eqR_4 : LayD := ⟨26, [(4, .data .bool)], [], fun _ => []⟩
noncomputable def EX_eqR_4 : Exits 0 LA_eqR_4.El LB_eqR_4.El := ⟨.exit 0, LA_eqR_4.lay [], .ret, LB_eqR_4.lay []⟩
noncomputable def lpi_eqR_4 {β : Type} : LpT β := fun _ _ _ => none
theorem lpi_eqR_4_ok {β : Type} : LpTOk CT (lpi_eqR_4 (β := β)) (loopsOf l_eqR_4) := by
  have h : loopsOf l_eqR_4 = [] := by kernel_rfl
  rw [h]
  exact LpTOk.nil
noncomputable def G_eqR_4 (r0 : Ty.El (.list tRec)) (r1 : Ty.El (.list tRec)) (r12 : Ty.El I) (r13 : Ty.El I) : Option (LD_eqR_4.El ⊕ (LA_eqR_4.El ⊕ LB_eqR_4.El)) := bif Decidable.decide (r13 < r12) then bif Decidable.decide ((0 : Int) ≤ r13 ∧ r13 < (↑(List.length r0) : Int)) then bif Decidable.decide ((0 : Int) ≤ r13 ∧ r13 < (↑(List.length r1) : Int)) then bif !((List.getD r0 (Int.toNat r13) Go.DI.S.tRec.dflt).fst == (List.getD r1 (Int.toNat r13) Go.DI.S.tRec.dflt).fst && ((List.getD r0 (Int.toNat r13) Go.DI.S.tRec.dflt).snd == (List.getD r1 (Int.toNat r13) Go.DI.S.tRec.dflt).snd && Bool.true)) then Option.some (Sum.inr (Sum.inr ((Bool.false, ()), ()))) else Option.some (Sum.inl ((r0, r1, r12, Go.IntKind.i64.wrap (r13 + (1 : Int)), ()), ())) else Option.none else Option.none else Option.some (Sum.inr (Sum.inl ((), ())))
theorem g_eqR_4 (x : LD_eqR_4.El) : codeT CT T_eqR (drT CT T_eqR) lpi_eqR_4 l_eqR_4 (LD_eqR_4.enc x) (bodyK (LD_eqR_4.lay []) EX_eqR_4) = G_eqR_4 x.1.1 x.1.2.1 x.1.2.2.1 x.1.2.2.2.1 := by kernel_rfl
noncomputable def R_eqR_4 : LD_eqR_4.El → Option (LA_eqR_4.El ⊕ LB_eqR_4.El) := roundsT (fun x => G_eqR_4 x.1.1 x.1.2.1 x.1.2.2.1 x.1.2.2.2.1) fuel
theorem r_eqR_4 : ∀ x y, R_eqR_4 x = some y → CL CT l_eqR_4 (LD_eqR_4.enc x) (Sum.elim (fun _ => EX_eqR_4.xa) (fun _ => EX_eqR_4.xb) y) (Sum.elim EX_eqR_4.la.enc EX_eqR_4.lb.enc y) :=
  rounds_ok (L := LD_eqR_4.lay []) (E := EX_eqR_4) CT_ok T_eqR_ok (drT_ok CT_ok T_eqR_ok) lpi_eqR_4_ok g_eqR_4 rfl rfl (fun v h => by have hh : (.exit 0 : AX) = .pan v := h; cases hh) (fun v h => by have hh : (.ret : AX) = .pan v := h; cases hh) fuel
noncomputable def lp_eqR {β : Type} : LpT β := fun k s K => if Nat.beq k 4 then lpOne (LD_eqR_4.lay []) EX_eqR_4 R_eqR_4 s K else none
theorem lp_eqR_ok {β : Type} : LpTOk CT (lp_eqR (β := β)) (loopsOf c_eqR) := by
  have h : loopsOf c_eqR = [(4, l_eqR_4)] := by kernel_rfl
  rw [h]
  exact LpTOk.cons (fun s K z h => lpOne_ok r_eqR_4 h) (LpTOk.nil)
noncomputable def F_eqR (a1 : Ty.El (.list tRec)) (a2 : Ty.El (.list tRec)) : Option (Els [.bool]) := bif (↑(List.length a1) : Int) != (↑(List.length a2) : Int) then Option.some (Bool.false, ()) else (R_eqR_4 ((a1, a2, (↑(List.length a1) : Int), (0 : Int), ()), ())).bind fun v1 => Sum.elim (fun v2 => Option.some (Bool.true, ())) (fun v3 => Option.some (v3.fst.fst, ())) v1
theorem f_eqR (x : Ps [.ty (.list tRec), .ty (.list tRec)]) : funcT CT T_eqR [.bool] (drT CT T_eqR) lp_eqR Tryz.f35 c_eqR (encPs [.ty (.list tRec), .ty (.list tRec)] x) = F_eqR x.1 x.2.1 := by kernel_rfl
noncomputable def E_eqR : Ent := .fn 35 [] ⟨[.ty (.list tRec), .ty (.list tRec)], [.bool], fun x => F_eqR x.1 x.2.1, false⟩
theorem e_eqR : E_eqR.Ok CT.P := Ent.ofFn CT_ok T_eqR_ok hf_eqR hb_eqR lp_eqR_ok f_eqR
noncomputable def c_load : Code := Tryz.f8.body.getD .skip
theorem hb_load : Tryz.f8.body = some c_load := by kernel_rfl
theorem hf_load : CT.P.funcs[8]? = some Tryz.f8 := by kernel_rfl
noncomputable def T_load : Tb := mkTb tyS mpT [E_val, E_63, E_ents, E_107, E_recs, E_eqR]
theorem T_load_ok : T_load.Ok CT.P := mkTb_ok (⟨e_val, e_63, e_ents, e_107, e_recs, e_eqR, trivial⟩)
noncomputable def l_load_6 : Code := atLoop c_load 6
noncomputable abbrev LD_load_6 : LayD := ⟨106, [(0, .data (.list tRec)), (2, .ptr 0), (3, .ptr 1), (5, .data .str), (6, .ptr 2), (7, .data (.list tRec))], [.var 30 [.data tScene], .var 33 [.data tPast], .var 30 [.data tVec, .data I, .own tThing 3], .row 52 tThing], fun s => [slotR s 2, slotR s 3, slotR s 6, slotC s 6 3]⟩
noncomputable abbrev LA_load_6 : LayD := ⟨106, [(0, .data (.list tRec)), (2, .ptr 0), (3, .ptr 1), (5, .data .str), (6, .ptr 2), (7, .data (.list tRec))], [.var 30 [.data tScene], .var 33 [.data tPast], .var 30 [.data tVec, .data I, .data (.list tThing)]], fun s => [slotR s 2, slotR s 3, slotR s 6]⟩
noncomputable abbrev LB_load_6 : LayD := ⟨106, [], [], fun _ => []⟩
noncomputable def EX_load_6 : Exits 0 LA_load_6.El LB_load_6.El := ⟨.exit 0, LA_load_6.lay [.frzCell 6 3 (.list tThing)], .ret, LB_load_6.lay []⟩
noncomputable def lpi_load_6 {β : Type} : LpT β := fun _ _ _ => none
theorem lpi_load_6_ok {β : Type} : LpTOk CT (lpi_load_6 (β := β)) (loopsOf l_load_6) := by
  have h : loopsOf l_load_6 = [] := by kernel_rfl
  rw [h]
  exact LpTOk.nil
noncomputable def G_load_6 (r0 : Ty.El (.list tRec)) (r5 : Ty.El .str) (r7 : Ty.El (.list tRec)) (b0 : Ty.El tScene × Unit) (b1 : Ty.El tPast × Unit) (b2 : Ty.El tVec × Ty.El I × Unit × Unit) (b3 : List (Ty.El tThing)) : Option (LD_load_6.El ⊕ (LA_load_6.El ⊕ LB_load_6.El)) := bif Decidable.decide ((↑(List.length r7) : Int) > (0 : Int)) then bif Decidable.decide ((0 : Int) ≤ (0 : Int) ∧ (0 : Int) < (↑(List.length r7) : Int)) then bif Decidable.decide ((List.getD r7 (0 : Nat) Go.DI.S.tRec.dflt).fst < (2000000 : Int)) then bif Decidable.decide ((0 : Int) ≤ (0 : Int) ∧ (0 : Int) < (↑(List.length r7) : Int)) then (F_63 (List.getD r7 (0 : Nat) Go.DI.S.tRec.dflt).snd).bind fun v2 => bif ((b3.length + [v2.fst].length) * (128 : Nat)).ble (70368744177664 : Nat) then bif Decidable.decide ((0 : Int) ≤ (1 : Int) ∧ (1 : Int) ≤ (↑(List.length r7) : Int)) then Option.some (Sum.inl ((r0, (), (), r5, (), List.take (List.length r7 - (1 : Nat)) (List.drop (1 : Nat) r7), ()), (b0.fst, ()), (b1.fst, ()), (b2.fst, b2.snd.fst, (), ()), b3 ++ [v2.fst], ())) else Option.none else Option.none else Option.none else Option.some (Sum.inr (Sum.inl ((r0, (), (), r5, (), r7, ()), (b0.fst, ()), (b1.fst, ()), (b2.fst, b2.snd.fst, b3, ()), ()))) else Option.none else Option.some (Sum.inr (Sum.inl ((r0, (), (), r5, (), r7, ()), (b0.fst, ()), (b1.fst, ()), (b2.fst, b2.snd.fst, b3, ()), ())))
theorem g_load_6 (x : LD_load_6.El) : codeT CT T_load (drT CT T_load) lpi_load_6 l_load_6 (LD_load_6.enc x) (bodyK (LD_load_6.lay [.nilCell 6 3 52 tThing]) EX_load_6) = G_load_6 x.1.1 x.1.2.2.2.1 x.1.2.2.2.2.2.1 x.2.1 x.2.2.1 x.2.2.2.1 x.2.2.2.2.1 := by kernel_rfl
noncomputable def R_load_6 : LD_load_6.El → Option (LA_load_6.El ⊕ LB_load_6.El) := roundsT (fun x => G_load_6 x.1.1 x.1.2.2.2.1 x.1.2.2.2.2.2.1 x.2.1 x.2.2.1 x.2.2.2.1 x.2.2.2.2.1) fuel
theorem r_load_6 : ∀ x y, R_load_6 x = some y → CL CT l_load_6 (LD_load_6.enc x) (Sum.elim (fun _ => EX_load_6.xa) (fun _ => EX_load_6.xb) y) (Sum.elim EX_load_6.la.enc EX_load_6.lb.enc y) :=
  rounds_ok (L := LD_load_6.lay [.nilCell 6 3 52 tThing]) (E := EX_load_6) CT_ok T_load_ok (drT_ok CT_ok T_load_ok) lpi_load_6_ok g_load_6 rfl rfl (fun v h => by have hh : (.exit 0 : AX) = .pan v := h; cases hh) (fun v h => by have hh : (.ret : AX) = .pan v := h; cases hh) fuel
noncomputable def lp_load {β : Type} : LpT β := fun k s K => if Nat.beq k 6 then lpOne (LD_load_6.lay [.nilCell 6 3 52 tThing]) EX_load_6 R_load_6 s K else none
theorem lp_load_ok {β : Type} : LpTOk CT (lp_load (β := β)) (loopsOf c_load) := by
  have h : loopsOf c_load = [(6, l_load_6)] := by kernel_rfl
  rw [h]
  exact LpTOk.cons (fun s K z h => lpOne_ok r_load_6 h) (LpTOk.nil)
noncomputable def F_load (a1 : Ty.El (.list tRec)) : Option (Els [tScene, tPast, I]) := bif (↑(List.length a1) : Int) == (0 : Int) then Option.some ((((0 : Int), (0 : Int)), (0 : Int), []), ([], []), (5 : Int), ()) else bif Decidable.decide ((0 : Int) ≤ (0 : Int) ∧ (0 : Int) < (↑(List.length a1) : Int)) then bif (↑(List.length (List.getD a1 (0 : Nat) Go.DI.S.tRec.dflt).snd) : Int) != (22 : Int) then Option.some ((((0 : Int), (0 : Int)), (0 : Int), []), ([], []), (5 : Int), ()) else bif Decidable.decide ((0 : Int) ≤ (0 : Int) ∧ (0 : Int) < (↑(List.length a1) : Int)) then bif Decidable.decide ((0 : Int) ≤ (8 : Int) ∧ (8 : Int) ≤ (↑(List.length (List.getD a1 (0 : Nat) Go.DI.S.tRec.dflt).snd) : Int)) then (F_val (List.take (8 : Nat) (List.drop (0 : Nat) (List.getD a1 (0 : Nat) Go.DI.S.tRec.dflt).snd))).bind fun v2 => bif Decidable.decide ((0 : Int) ≤ (16 : Int) ∧ (16 : Int) ≤ (↑(List.length (List.getD a1 (0 : Nat) Go.DI.S.tRec.dflt).snd) : Int) ∧ (0 : Int) ≤ (8 : Int) ∧ (8 : Int) ≤ (16 : Int)) then (F_val (List.take (8 : Nat) (List.drop (8 : Nat) (List.getD a1 (0 : Nat) Go.DI.S.tRec.dflt).snd))).bind fun v4 => bif Decidable.decide ((0 : Int) ≤ (20 : Int) ∧ (20 : Int) ≤ (↑(List.length (List.getD a1 (0 : Nat) Go.DI.S.tRec.dflt).snd) : Int) ∧ (0 : Int) ≤ (16 : Int) ∧ (16 : Int) ≤ (20 : Int)) then (F_val (List.take (4 : Nat) (List.drop (16 : Nat) (List.getD a1 (0 : Nat) Go.DI.S.tRec.dflt).snd))).bind fun v6 => bif Decidable.decide ((0 : Int) ≤ (1 : Int) ∧ (1 : Int) ≤ (↑(List.length a1) : Int)) then (R_load_6 ((a1, (), (), (List.getD a1 (0 : Nat) Go.DI.S.tRec.dflt).snd, (), List.take (List.length a1 - (1 : Nat)) (List.drop (1 : Nat) a1), ()), ((((0 : Int), (0 : Int)), (0 : Int), []), ()), (([], []), ()), ((v2.fst, v4.fst), v6.fst, (), ()), [], ())).bind fun v7 => Sum.elim (fun v8 => (F_ents v8.fst.snd.snd.snd.snd.snd.fst).bind fun v10 => bif Decidable.decide ((0 : Int) ≤ (20 : Int) ∧ (20 : Int) < (↑(List.length v8.fst.snd.snd.snd.fst) : Int)) then bif Decidable.decide (((0 : Int) ≤ if (↑(List.length v10.fst) : Int) < Go.IntKind.i64.wrap (↑(List.getD v8.fst.snd.snd.snd.fst (Int.toNat (20 : Int)) (0 : UInt8)).toBitVec.toFin.1 : Int) then (↑(List.length v10.fst) : Int) else Go.IntKind.i64.wrap (↑(List.getD v8.fst.snd.snd.snd.fst (Int.toNat (20 : Int)) (0 : UInt8)).toBitVec.toFin.1 : Int)) ∧ (if (↑(List.length v10.fst) : Int) < Go.IntKind.i64.wrap (↑(List.getD v8.fst.snd.snd.snd.fst (Int.toNat (20 : Int)) (0 : UInt8)).toBitVec.toFin.1 : Int) then (↑(List.length v10.fst) : Int) else Go.IntKind.i64.wrap (↑(List.getD v8.fst.snd.snd.snd.fst (Int.toNat (20 : Int)) (0 : UInt8)).toBitVec.toFin.1 : Int)) ≤ (↑(List.length v10.fst) : Int)) then (F_107 (List.take ((if (↑(List.length v10.fst) : Int) < Go.IntKind.i64.wrap (↑(List.getD v8.fst.snd.snd.snd.fst (Int.toNat (20 : Int)) (0 : UInt8)).toBitVec.toFin.1 : Int) then (↑(List.length v10.fst) : Int) else Go.IntKind.i64.wrap (↑(List.getD v8.fst.snd.snd.snd.fst (Int.toNat (20 : Int)) (0 : UInt8)).toBitVec.toFin.1 : Int)).toNat - (0 : Nat)) (List.drop (0 : Nat) v10.fst))).bind fun v12 => bif Decidable.decide (((0 : Int) ≤ if (↑(List.length v10.fst) : Int) < Go.IntKind.i64.wrap (↑(List.getD v8.fst.snd.snd.snd.fst (Int.toNat (20 : Int)) (0 : UInt8)).toBitVec.toFin.1 : Int) then (↑(List.length v10.fst) : Int) else Go.IntKind.i64.wrap (↑(List.getD v8.fst.snd.snd.snd.fst (Int.toNat (20 : Int)) (0 : UInt8)).toBitVec.toFin.1 : Int)) ∧ (if (↑(List.length v10.fst) : Int) < Go.IntKind.i64.wrap (↑(List.getD v8.fst.snd.snd.snd.fst (Int.toNat (20 : Int)) (0 : UInt8)).toBitVec.toFin.1 : Int) then (↑(List.length v10.fst) : Int) else Go.IntKind.i64.wrap (↑(List.getD v8.fst.snd.snd.snd.fst (Int.toNat (20 : Int)) (0 : UInt8)).toBitVec.toFin.1 : Int)) ≤ (↑(List.length v10.fst) : Int)) then (F_107 (List.take (List.length v10.fst - (if (↑(List.length v10.fst) : Int) < Go.IntKind.i64.wrap (↑(List.getD v8.fst.snd.snd.snd.fst (Int.toNat (20 : Int)) (0 : UInt8)).toBitVec.toFin.1 : Int) then (↑(List.length v10.fst) : Int) else Go.IntKind.i64.wrap (↑(List.getD v8.fst.snd.snd.snd.fst (Int.toNat (20 : Int)) (0 : UInt8)).toBitVec.toFin.1 : Int)).toNat) (List.drop (if (↑(List.length v10.fst) : Int) < Go.IntKind.i64.wrap (↑(List.getD v8.fst.snd.snd.snd.fst (Int.toNat (20 : Int)) (0 : UInt8)).toBitVec.toFin.1 : Int) then (↑(List.length v10.fst) : Int) else Go.IntKind.i64.wrap (↑(List.getD v8.fst.snd.snd.snd.fst (Int.toNat (20 : Int)) (0 : UInt8)).toBitVec.toFin.1 : Int)).toNat v10.fst))).bind fun v14 => (F_recs (v8.snd.snd.snd.fst.fst, v8.snd.snd.snd.fst.snd.fst, v8.snd.snd.snd.fst.snd.snd.fst) (v12.fst, v14.fst)).bind fun v16 => bif v16.snd.fst != (0 : Int) then Option.some ((((0 : Int), (0 : Int)), (0 : Int), []), ([], []), (5 : Int), ()) else (F_eqR v16.fst v8.fst.fst).bind fun v18 => bif !v18.fst then Option.some ((((0 : Int), (0 : Int)), (0 : Int), []), ([], []), (5 : Int), ()) else Option.some ((v8.snd.snd.snd.fst.fst, v8.snd.snd.snd.fst.snd.fst, v8.snd.snd.snd.fst.snd.snd.fst), (v12.fst, v14.fst), (0 : Int), ()) else Option.none else Option.none else Option.none) (fun v19 => Option.none) v7 else Option.none else Option.none else Option.none else Option.none else Option.none else Option.none
theorem f_load (x : Ps [.ty (.list tRec)]) : funcT CT T_load [tScene, tPast, I] (drT CT T_load) lp_load Tryz.f8 c_load (encPs [.ty (.list tRec)] x) = F_load x.1 := by kernel_rfl
noncomputable def E_load : Ent := .fn 8 [] ⟨[.ty (.list tRec)], [tScene, tPast, I], fun x => F_load x.1, false⟩
theorem e_load : E_load.Ok CT.P := Ent.ofFn CT_ok T_load_ok hf_load hb_load lp_load_ok f_load
noncomputable def c_pieces : Code := Tryz.f4.body.getD .skip
theorem hb_pieces : Tryz.f4.body = some c_pieces := by kernel_rfl
theorem hf_pieces : CT.P.funcs[4]? = some Tryz.f4 := by kernel_rfl
noncomputable def T_pieces : Tb := mkTb tyS mpT [E_30, E_19, E_17, E_216, E_putE, E_31, E_recs, E_load, E_24, E_25, E_209]
theorem T_pieces_ok : T_pieces.Ok CT.P := mkTb_ok (⟨e_30, e_19, e_17, e_216, e_putE, e_31, e_recs, e_load, e_24, e_25, e_209, trivial⟩)
noncomputable def l_pieces_5 : Code := atLoop c_pieces 5
noncomputable abbrev LD_pieces_5 : LayD := ⟨139, [(0, .data I), (3, .ptr 0), (4, .ptr 1), (5, .data I)], [.var 30 [.data tScene], .var 30 [.data tVec, .data I, .own tThing 2], .row 52 tThing], fun s => [slotR s 3, slotR s 4, slotC s 4 3]⟩
noncomputable abbrev LA_pieces_5 : LayD := ⟨139, [(0, .data I), (3, .ptr 0), (4, .ptr 1)], [.var 30 [.data tScene], .var 30 [.data tVec, .data I, .data (.list tThing)]], fun s => [slotR s 3, slotR s 4]⟩
noncomputable abbrev LB_pieces_5 : LayD := ⟨139, [], [], fun _ => []⟩
noncomputable def EX_pieces_5 : Exits 0 LA_pieces_5.El LB_pieces_5.El := ⟨.exit 0, LA_pieces_5.lay [.frzCell 4 3 (.list tThing)], .ret, LB_pieces_5.lay []⟩
noncomputable def lpi_pieces_5 {β : Type} : LpT β := fun _ _ _ => none
theorem lpi_pieces_5_ok {β : Type} : LpTOk CT (lpi_pieces_5 (β := β)) (loopsOf l_pieces_5) := by
  have h : loopsOf l_pieces_5 = [] := by kernel_rfl
  rw [h]
  exact LpTOk.nil
noncomputable def G_pieces_5 (r0 : Ty.El I) (r5 : Ty.El I) (b0 : Ty.El tScene × Unit) (b1 : Ty.El tVec × Ty.El I × Unit × Unit) (b2 : List (Ty.El tThing)) : Option (LD_pieces_5.El ⊕ (LA_pieces_5.El ⊕ LB_pieces_5.El)) := bif Decidable.decide (r5 ≤ r0) then (F_17 r5 (Go.IntKind.i64.wrap (r5 * (4294967296 : Int))) (0 : Int) (4294967296 : Int)).bind fun v2 => bif ((b2.length + [v2.fst].length) * (128 : Nat)).ble (70368744177664 : Nat) then Option.some (Sum.inl ((r0, (), (), Go.IntKind.i64.wrap (r5 + (1 : Int)), ()), (b0.fst, ()), (b1.fst, b1.snd.fst, (), ()), b2 ++ [v2.fst], ())) else Option.none else Option.some (Sum.inr (Sum.inl ((r0, (), (), ()), (b0.fst, ()), (b1.fst, b1.snd.fst, b2, ()), ())))
theorem g_pieces_5 (x : LD_pieces_5.El) : codeT CT T_pieces (drT CT T_pieces) lpi_pieces_5 l_pieces_5 (LD_pieces_5.enc x) (bodyK (LD_pieces_5.lay [.nilCell 4 3 52 tThing]) EX_pieces_5) = G_pieces_5 x.1.1 x.1.2.2.2.1 x.2.1 x.2.2.1 x.2.2.2.1 := by kernel_rfl
noncomputable def R_pieces_5 : LD_pieces_5.El → Option (LA_pieces_5.El ⊕ LB_pieces_5.El) := roundsT (fun x => G_pieces_5 x.1.1 x.1.2.2.2.1 x.2.1 x.2.2.1 x.2.2.2.1) fuel
theorem r_pieces_5 : ∀ x y, R_pieces_5 x = some y → CL CT l_pieces_5 (LD_pieces_5.enc x) (Sum.elim (fun _ => EX_pieces_5.xa) (fun _ => EX_pieces_5.xb) y) (Sum.elim EX_pieces_5.la.enc EX_pieces_5.lb.enc y) :=
  rounds_ok (L := LD_pieces_5.lay [.nilCell 4 3 52 tThing]) (E := EX_pieces_5) CT_ok T_pieces_ok (drT_ok CT_ok T_pieces_ok) lpi_pieces_5_ok g_pieces_5 rfl rfl (fun v h => by have hh : (.exit 0 : AX) = .pan v := h; cases hh) (fun v h => by have hh : (.ret : AX) = .pan v := h; cases hh) fuel
noncomputable def lp_pieces {β : Type} : LpT β := fun k s K => if Nat.beq k 5 then lpOne (LD_pieces_5.lay [.nilCell 4 3 52 tThing]) EX_pieces_5 R_pieces_5 s K else none
theorem lp_pieces_ok {β : Type} : LpTOk CT (lp_pieces (β := β)) (loopsOf c_pieces) := by
  have h : loopsOf c_pieces = [(5, l_pieces_5)] := by kernel_rfl
  rw [h]
  exact LpTOk.cons (fun s K z h => lpOne_ok r_pieces_5 h) (LpTOk.nil)
noncomputable def F_pieces (a1 : Ty.El I) : Option (Els [.bool]) := bif Decidable.decide (a1 < (1 : Int)) then F_30.bind fun v2 => Option.some (v2.fst, ()) else bif Decidable.decide (a1 > (40 : Int)) then F_30.bind fun v4 => Option.some (v4.fst, ()) else F_30.bind fun v6 => bif !v6.fst then F_30.bind fun v8 => Option.some (v8.fst, ()) else F_19.bind fun v10 => (R_pieces_5 ((a1, (), (), (1 : Int), ()), (v10.fst, ()), (((0 : Int), (0 : Int)), (50 : Int), (), ()), [], ())).bind fun v11 => Sum.elim (fun v12 => (F_216 v12.snd.fst.fst (v12.snd.snd.fst.fst, v12.snd.snd.fst.snd.fst, v12.snd.snd.fst.snd.snd.fst)).bind fun v14 => (F_putE v14.fst).bind fun v16 => (F_31 ([], []) v14.fst).bind fun v18 => (F_recs (v12.snd.snd.fst.fst, v12.snd.snd.fst.snd.fst, v12.snd.snd.fst.snd.snd.fst) v18.fst).bind fun v20 => bif !v14.snd.fst then Option.some (Bool.false, ()) else bif !v16.snd.fst then Option.some (Bool.false, ()) else bif !v18.snd.fst then Option.some (Bool.false, ()) else bif v20.snd.fst != (0 : Int) then Option.some (Bool.false, ()) else bif (↑(List.length v20.fst) : Int) != Go.IntKind.i64.wrap (Go.IntKind.i64.wrap ((1 : Int) + v12.fst.fst) + Go.IntKind.i64.wrap ((Go.IntKind.i64.wrap (Go.IntKind.i64.wrap ((↑(List.length v16.fst) : Int) + (900 : Int)) - (2 : Int))).tdiv (899 : Int))) then Option.some (Bool.false, ()) else (F_load v20.fst).bind fun v22 => bif Decidable.decide ((0 : Int) ≤ Go.IntKind.i64.wrap ((↑(List.length v20.fst) : Int) - (1 : Int)) ∧ Go.IntKind.i64.wrap ((↑(List.length v20.fst) : Int) - (1 : Int)) ≤ (↑(List.length v20.fst) : Int)) then (F_load (List.take ((Go.IntKind.i64.wrap ((↑(List.length v20.fst) : Int) - (1 : Int))).toNat - (0 : Nat)) (List.drop (0 : Nat) v20.fst))).bind fun v24 => bif v22.snd.snd.fst == (0 : Int) then (F_25 (v12.snd.snd.fst.fst, v12.snd.snd.fst.snd.fst, v12.snd.snd.fst.snd.snd.fst)).bind fun v26 => (F_24 v22.fst v26.fst).bind fun v28 => bif v28.fst then bif (↑(List.length v22.snd.fst.fst) : Int) == (1 : Int) then bif Decidable.decide ((0 : Int) ≤ (0 : Int) ∧ (0 : Int) < (↑(List.length v22.snd.fst.fst) : Int)) then (F_209 (List.getD v22.snd.fst.fst (0 : Nat) Go.DI.S.tEntry.dflt) v14.fst).bind fun v30 => bif v30.fst then Option.some (v24.snd.snd.fst == (5 : Int), ()) else Option.some (Bool.false, ()) else Option.none else Option.some (Bool.false, ()) else Option.some (Bool.false, ()) else Option.some (Bool.false, ()) else Option.none) (fun v31 => Option.none) v11
theorem f_pieces (x : Ps [.ty I]) : funcT CT T_pieces [.bool] (drT CT T_pieces) lp_pieces Tryz.f4 c_pieces (encPs [.ty I] x) = F_pieces x.1 := by kernel_rfl
noncomputable def E_pieces : Ent := .fn 4 [] ⟨[.ty I], [.bool], fun x => F_pieces x.1, false⟩
theorem e_pieces : E_pieces.Ok CT.P := Ent.ofFn CT_ok T_pieces_ok hf_pieces hb_pieces lp_pieces_ok f_pieces
end Go.DI.S
