import Derived.Test.YtehnecfmjfpclaaGreatUa
/- Things as bytes, and back: told by functions on data; plain. No conditions. -/
set_option linter.unusedVariables false
set_option maxRecDepth 100000
set_option maxHeartbeats 0
namespace Go.DI.S
open Go.Proofs
noncomputable def c_102 : Code := Tryz.f49.body.getD .skip
theorem hb_102 : Tryz.f49.body = some c_102 := by kernel_rfl
theorem hf_102 : CT.P.funcs[49]? = some Tryz.f49 := by kernel_rfl
noncomputable abbrev IN_102 : LayD := ⟨3, [(0, .ptr 0), (1, .data I), (2, .data I)], [.var 113 [.own (.int .u8) 1], .row 5 (.int .u8)], fun s => [slotR s 0, slotC s 0 0]⟩
noncomputable abbrev OUT_102 : LayD := ⟨0, [], [.var 113 [.own (.int .u8) 1], .row 5 (.int .u8)], fun s => [0, slotH s 0 0]⟩
noncomputable def T_102 : Tb := mkTb tyP mpP []
theorem T_102_ok : T_102.Ok CT.P := mkTb_ok (trivial)
noncomputable def l_102_1 : Code := atLoop c_102 1
noncomputable abbrev LD_102_1 : LayD := ⟨26, [(0, .ptr 0), (1, .data I), (2, .data I)], [.var 113 [.own (.int .u8) 1], .row 5 (.int .u8)], fun s => [slotR s 0, slotC s 0 0]⟩
noncomputable abbrev LA_102_1 : LayD := ⟨26, [(0, .ptr 0)], [.var 113 [.own (.int .u8) 1], .row 5 (.int .u8)], fun s => [slotR s 0, slotC s 0 0]⟩
noncomputable abbrev LB_102_1 : LayD := ⟨26, [], [], fun _ => []⟩
noncomputable def EX_102_1 : Exits 1 LA_102_1.El LB_102_1.El := ⟨.exit 0, LA_102_1.lay [], .ret, LB_102_1.lay []⟩
noncomputable def lpi_102_1 {β : Type} : LpT β := fun _ _ _ => none
theorem lpi_102_1_ok {β : Type} : LpTOk (CTp 1) (lpi_102_1 (β := β)) (loopsOf l_102_1) := by
  have h : loopsOf l_102_1 = [] := by kernel_rfl
  rw [h]
  exact LpTOk.nil
noncomputable def G_102_1 (r1 : Ty.El I) (r2 : Ty.El I) (b0 : Unit × Unit) (b1 : List (Ty.El (.int .u8))) : Option (LD_102_1.El ⊕ (LA_102_1.El ⊕ LB_102_1.El)) := bif Decidable.decide (r2 ≥ (0 : Int)) then bif Decidable.decide (Go.IntKind.i64.wrap ((8 : Int) * r2) < (0 : Int)) then Option.none else bif ((b1.length + [Go.IntKind.u8.wrap (Int.fdiv r1 ((2 : Int) ^ Min.min (Go.IntKind.i64.wrap ((8 : Int) * r2)).toNat (64 : Nat)))].length) * (1 : Nat)).ble (70368744177664 : Nat) then Option.some (Sum.inl (((), r1, Go.IntKind.i64.wrap (r2 - (1 : Int)), ()), ((), ()), b1 ++ [Go.IntKind.u8.wrap (Int.fdiv r1 ((2 : Int) ^ Min.min (Go.IntKind.i64.wrap ((8 : Int) * r2)).toNat (64 : Nat)))], ())) else Option.none else Option.some (Sum.inr (Sum.inl (((), ()), ((), ()), b1, ())))
theorem g_102_1 (x : LD_102_1.El) : codeT (CTp 1) T_102 (drT (CTp 1) T_102) lpi_102_1 l_102_1 (LD_102_1.enc x) (bodyK (LD_102_1.lay []) EX_102_1) = G_102_1 x.1.2.1 x.1.2.2.1 x.2.1 x.2.2.1 := by kernel_rfl
noncomputable def R_102_1 : LD_102_1.El → Option (LA_102_1.El ⊕ LB_102_1.El) := roundsT (fun x => G_102_1 x.1.2.1 x.1.2.2.1 x.2.1 x.2.2.1) fuel
theorem r_102_1 : ∀ x y, R_102_1 x = some y → CL (CTp 1) l_102_1 (LD_102_1.enc x) (Sum.elim (fun _ => EX_102_1.xa) (fun _ => EX_102_1.xb) y) (Sum.elim EX_102_1.la.enc EX_102_1.lb.enc y) :=
  rounds_ok (L := LD_102_1.lay []) (E := EX_102_1) (CTp_ok 1) T_102_ok (drT_ok (CTp_ok 1) T_102_ok) lpi_102_1_ok g_102_1 rfl rfl (fun v h => by have hh : (.exit 0 : AX) = .pan v := h; cases hh) (fun v h => by have hh : (.ret : AX) = .pan v := h; cases hh) fuel
noncomputable def lp_102 {β : Type} : LpT β := fun k s K => if Nat.beq k 1 then lpOne (LD_102_1.lay []) EX_102_1 R_102_1 s K else none
theorem lp_102_ok {β : Type} : LpTOk (CTp 1) (lp_102 (β := β)) (loopsOf c_102) := by
  have h : loopsOf c_102 = [(1, l_102_1)] := by kernel_rfl
  rw [h]
  exact LpTOk.cons (fun s K z h => lpOne_ok r_102_1 h) (LpTOk.nil)
noncomputable def F_102 (a1 : Ty.El I) (a2 : Ty.El I) (b0 : Unit × Unit) (b1 : List (Ty.El (.int .u8))) : Option OUT_102.El := (R_102_1 (((), a1, Go.IntKind.i64.wrap (a2 - (1 : Int)), ()), ((), ()), b1, ())).bind fun v1 => Sum.elim (fun v2 => Option.some ((), ((), ()), v2.snd.snd.fst, ())) (fun v3 => Option.none) v1
theorem f_102 (x : IN_102.El) : funcX (CTp 1) T_102 IN_102 OUT_102 [] (drT (CTp 1) T_102) lp_102 Tryz.f49 c_102 x = F_102 x.1.2.1 x.1.2.2.1 x.2.1 x.2.2.1 := by kernel_rfl
noncomputable def E_102 : Ent := .mkGen 49 [] ⟨1, [.nilCell 0 0 5 (.int .u8)], IN_102, OUT_102, fun x => F_102 x.1.2.1 x.1.2.2.1 x.2.1 x.2.2.1⟩
theorem e_102 : E_102.Ok CT.P := Ent.ofGen (C := (CTp 1)) (steps := [.nilCell 0 0 5 (.int .u8)]) (osteps := []) (CTp_ok 1) T_102_ok hf_102 hb_102 lp_102_ok f_102
noncomputable def c_103 : Code := Tryz.f51.body.getD .skip
theorem hb_103 : Tryz.f51.body = some c_103 := by kernel_rfl
theorem hf_103 : CT.P.funcs[51]? = some Tryz.f51 := by kernel_rfl
noncomputable abbrev IN_103 : LayD := ⟨2, [(0, .ptr 0), (1, .data tVec)], [.var 113 [.own (.int .u8) 1], .row 5 (.int .u8)], fun s => [slotR s 0, slotC s 0 0]⟩
noncomputable abbrev OUT_103 : LayD := ⟨0, [], [.var 113 [.own (.int .u8) 1], .row 5 (.int .u8)], fun s => [0, slotH s 0 0]⟩
noncomputable def T_103 : Tb := mkTb tyP mpP [E_102]
theorem T_103_ok : T_103.Ok CT.P := mkTb_ok (⟨e_102, trivial⟩)
noncomputable def lp_103 {β : Type} : LpT β := fun _ _ _ => none
theorem lp_103_ok {β : Type} : LpTOk (CTp 1) (lp_103 (β := β)) (loopsOf c_103) := by
  have h : loopsOf c_103 = [] := by kernel_rfl
  rw [h]
  exact LpTOk.nil
noncomputable def F_103 (a1 : Ty.El tVec) (b0 : Unit × Unit) (b1 : List (Ty.El (.int .u8))) : Option OUT_103.El := (F_102 a1.fst (8 : Int) ((), ()) b1).bind fun v2 => (F_102 a1.snd (8 : Int) ((), ()) v2.snd.snd.fst).bind fun v6 => Option.some ((), ((), ()), v6.snd.snd.fst, ())
theorem f_103 (x : IN_103.El) : funcX (CTp 1) T_103 IN_103 OUT_103 [] (drT (CTp 1) T_103) lp_103 Tryz.f51 c_103 x = F_103 x.1.2.1 x.2.1 x.2.2.1 := by kernel_rfl
noncomputable def E_103 : Ent := .mkGen 51 [] ⟨1, [.nilCell 0 0 5 (.int .u8)], IN_103, OUT_103, fun x => F_103 x.1.2.1 x.2.1 x.2.2.1⟩
theorem e_103 : E_103.Ok CT.P := Ent.ofGen (C := (CTp 1)) (steps := [.nilCell 0 0 5 (.int .u8)]) (osteps := []) (CTp_ok 1) T_103_ok hf_103 hb_103 lp_103_ok f_103
noncomputable def c_61 : Code := Tryz.f55.body.getD .skip
theorem hb_61 : Tryz.f55.body = some c_61 := by kernel_rfl
theorem hf_61 : CT.P.funcs[55]? = some Tryz.f55 := by kernel_rfl
noncomputable def T_61 : Tb := mkTb tyP mpP [E_45, E_102, E_103]
theorem T_61_ok : T_61.Ok CT.P := mkTb_ok (⟨e_45, e_102, e_103, trivial⟩)
noncomputable def l_61_20 : Code := atLoop c_61 20
noncomputable abbrev LD_61_20 : LayD := ⟨89, [(4, .ptr 0), (74, .data (.list I)), (75, .data I), (76, .data I)], [.var 113 [.own (.int .u8) 1], .row 5 (.int .u8)], fun s => [slotR s 4, slotC s 4 0]⟩
noncomputable abbrev LA_61_20 : LayD := ⟨89, [(4, .ptr 0)], [.var 113 [.own (.int .u8) 1], .row 5 (.int .u8)], fun s => [slotR s 4, slotC s 4 0]⟩
noncomputable abbrev LB_61_20 : LayD := ⟨89, [], [], fun _ => []⟩
noncomputable def EX_61_20 : Exits 0 LA_61_20.El LB_61_20.El := ⟨.exit 1, LA_61_20.lay [], .ret, LB_61_20.lay []⟩
noncomputable def lpi_61_20 {β : Type} : LpT β := fun _ _ _ => none
theorem lpi_61_20_ok {β : Type} : LpTOk CT (lpi_61_20 (β := β)) (loopsOf l_61_20) := by
  have h : loopsOf l_61_20 = [] := by kernel_rfl
  rw [h]
  exact LpTOk.nil
noncomputable def G_61_20 (r74 : Ty.El (.list I)) (r75 : Ty.El I) (r76 : Ty.El I) (b0 : Unit × Unit) (b1 : List (Ty.El (.int .u8))) : Option (LD_61_20.El ⊕ (LA_61_20.El ⊕ LB_61_20.El)) := bif Decidable.decide (r76 < r75) then bif Decidable.decide ((0 : Int) ≤ r76 ∧ r76 < (↑(List.length r74) : Int)) then (F_102 (List.getD r74 (Int.toNat r76) (0 : Int)) (4 : Int) ((), ()) b1).bind fun v2 => Option.some (Sum.inl (((), r74, r75, Go.IntKind.i64.wrap (r76 + (1 : Int)), ()), ((), ()), v2.snd.snd.fst, ())) else Option.none else Option.some (Sum.inr (Sum.inl (((), ()), ((), ()), b1, ())))
theorem g_61_20 (x : LD_61_20.El) : codeT CT T_61 (drT CT T_61) lpi_61_20 l_61_20 (LD_61_20.enc x) (bodyK (LD_61_20.lay []) EX_61_20) = G_61_20 x.1.2.1 x.1.2.2.1 x.1.2.2.2.1 x.2.1 x.2.2.1 := by kernel_rfl
noncomputable def R_61_20 : LD_61_20.El → Option (LA_61_20.El ⊕ LB_61_20.El) := roundsT (fun x => G_61_20 x.1.2.1 x.1.2.2.1 x.1.2.2.2.1 x.2.1 x.2.2.1) fuel
theorem r_61_20 : ∀ x y, R_61_20 x = some y → CL CT l_61_20 (LD_61_20.enc x) (Sum.elim (fun _ => EX_61_20.xa) (fun _ => EX_61_20.xb) y) (Sum.elim EX_61_20.la.enc EX_61_20.lb.enc y) :=
  rounds_ok (L := LD_61_20.lay []) (E := EX_61_20) CT_ok T_61_ok (drT_ok CT_ok T_61_ok) lpi_61_20_ok g_61_20 rfl rfl (fun v h => by have hh : (.exit 1 : AX) = .pan v := h; cases hh) (fun v h => by have hh : (.ret : AX) = .pan v := h; cases hh) fuel
noncomputable def lp_61 {β : Type} : LpT β := fun k s K => if Nat.beq k 20 then lpOne (LD_61_20.lay []) EX_61_20 R_61_20 s K else none
theorem lp_61_ok {β : Type} : LpTOk CT (lp_61 (β := β)) (loopsOf c_61) := by
  have h : loopsOf c_61 = [(20, l_61_20)] := by kernel_rfl
  rw [h]
  exact LpTOk.cons (fun s K z h => lpOne_ok r_61_20 h) (LpTOk.nil)
noncomputable def F_61 (a1 : Ty.El tThing) : Option (Els [.str, .bool]) := (F_45 a1).bind fun v2 => bif !v2.fst then Option.some ([], Bool.false, ()) else (F_102 a1.snd.fst (1 : Int) ((), ()) []).bind fun v4 => (F_102 a1.fst (4 : Int) ((), ()) v4.snd.snd.fst).bind fun v8 => bif a1.snd.fst == (1 : Int) then (F_102 a1.snd.snd.fst.fst (1 : Int) ((), ()) v8.snd.snd.fst).bind fun v12 => (F_103 a1.snd.snd.fst.snd.fst ((), ()) v12.snd.snd.fst).bind fun v16 => (F_102 a1.snd.snd.fst.snd.snd.fst (8 : Int) ((), ()) v16.snd.snd.fst).bind fun v20 => (F_103 a1.snd.snd.fst.snd.snd.snd.fst ((), ()) v20.snd.snd.fst).bind fun v24 => (F_103 a1.snd.snd.fst.snd.snd.snd.snd ((), ()) v24.snd.snd.fst).bind fun v28 => Option.some (List.map (fun v29 => UInt8.ofNat (Int.toNat v29)) v28.snd.snd.fst, Bool.true, ()) else bif a1.snd.fst == (2 : Int) then (F_102 a1.snd.snd.snd.fst.fst (4 : Int) ((), ()) v8.snd.snd.fst).bind fun v35 => (F_102 a1.snd.snd.snd.fst.snd.fst (4 : Int) ((), ()) v35.snd.snd.fst).bind fun v39 => (F_102 a1.snd.snd.snd.fst.snd.snd (8 : Int) ((), ()) v39.snd.snd.fst).bind fun v43 => Option.some (List.map (fun v44 => UInt8.ofNat (Int.toNat v44)) v43.snd.snd.fst, Bool.true, ()) else bif a1.snd.fst == (3 : Int) then (F_102 (↑(List.length a1.snd.snd.snd.snd) : Int) (1 : Int) ((), ()) v8.snd.snd.fst).bind fun v50 => (R_61_20 (((), a1.snd.snd.snd.snd, (↑(List.length a1.snd.snd.snd.snd) : Int), (0 : Int), ()), ((), ()), v50.snd.snd.fst, ())).bind fun v53 => Sum.elim (fun v54 => Option.some (List.map (fun v55 => UInt8.ofNat (Int.toNat v55)) v54.snd.snd.fst, Bool.true, ())) (fun v56 => Option.none) v53 else Option.some (List.map (fun v57 => UInt8.ofNat (Int.toNat v57)) v8.snd.snd.fst, Bool.true, ())
theorem f_61 (x : Ps [.ty tThing]) : funcT CT T_61 [.str, .bool] (drT CT T_61) lp_61 Tryz.f55 c_61 (encPs [.ty tThing] x) = F_61 x.1 := by kernel_rfl
noncomputable def E_61 : Ent := .fn 55 [] ⟨[.ty tThing], [.str, .bool], fun x => F_61 x.1, false⟩
theorem e_61 : E_61.Ok CT.P := Ent.ofFn CT_ok T_61_ok hf_61 hb_61 lp_61_ok f_61
end Go.DI.S
set_option linter.unusedVariables false
set_option maxRecDepth 100000
set_option maxHeartbeats 0
namespace Go.DI.S
open Go.Proofs
def byteIn (n : Int) (b : UInt8) : Int := IntKind.u64.wrap ((BitVec.ofInt IntKind.u64.bits (IntKind.u64.wrap (n * 2 ^ min (Int.toNat 8) IntKind.u64.bits)) ||| BitVec.ofInt IntKind.u64.bits (IntKind.u64.wrap (b.toNat : Int))).toNat : Int)
noncomputable def c_131 : Code := Tryz.f130.body.getD .skip
theorem hb_131 : Tryz.f130.body = some c_131 := by kernel_rfl
theorem hf_131 : CT.P.funcs[130]? = some Tryz.f130 := by kernel_rfl
noncomputable abbrev IN_131 : LayD := ⟨2, [(0, .ptr 0), (1, .data I)], [.var 140 [.data .str, .data .bool]], fun s => [slotR s 0]⟩
noncomputable abbrev OUT_131 : LayD := ⟨1, [(0, .data .str)], [.var 140 [.data .str, .data .bool]], fun _ => [0]⟩
noncomputable def T_131 : Tb := mkTb tyP mpP []
theorem T_131_ok : T_131.Ok CT.P := mkTb_ok (trivial)
noncomputable def lp_131 {β : Type} : LpT β := fun _ _ _ => none
theorem lp_131_ok {β : Type} : LpTOk (CTp 1) (lp_131 (β := β)) (loopsOf c_131) := by
  have h : loopsOf c_131 = [] := by kernel_rfl
  rw [h]
  exact LpTOk.nil
noncomputable def F_131 (a1 : Ty.El I) (b0 : Ty.El .str × Ty.El .bool × Unit) : Option OUT_131.El := bif b0.snd.fst then Option.some (([], ()), (b0.fst, Bool.true, ()), ()) else bif Decidable.decide (a1 > (↑(List.length b0.fst) : Int)) then Option.some (([], ()), (b0.fst, Decidable.decide (a1 > (↑(List.length b0.fst) : Int)), ()), ()) else bif Decidable.decide ((0 : Int) ≤ a1 ∧ a1 ≤ (↑(List.length b0.fst) : Int)) then bif Decidable.decide ((0 : Int) ≤ a1 ∧ a1 ≤ (↑(List.length b0.fst) : Int)) then Option.some ((List.take (Int.toNat a1 - (0 : Nat)) (List.drop (0 : Nat) b0.fst), ()), (List.take (List.length b0.fst - Int.toNat a1) (List.drop (Int.toNat a1) b0.fst), Decidable.decide (a1 > (↑(List.length b0.fst) : Int)), ()), ()) else Option.none else Option.none
theorem f_131 (x : IN_131.El) : funcX (CTp 1) T_131 IN_131 OUT_131 [] (drT (CTp 1) T_131) lp_131 Tryz.f130 c_131 x = F_131 x.1.2.1 x.2.1 := by kernel_rfl
noncomputable def E_131 : Ent := .mkGen 130 [] ⟨1, [], IN_131, OUT_131, fun x => F_131 x.1.2.1 x.2.1⟩
theorem e_131 : E_131.Ok CT.P := Ent.ofGen (C := (CTp 1)) (steps := []) (osteps := []) (CTp_ok 1) T_131_ok hf_131 hb_131 lp_131_ok f_131
noncomputable def c_104 : Code := Tryz.f78.body.getD .skip
theorem hb_104 : Tryz.f78.body = some c_104 := by kernel_rfl
theorem hf_104 : CT.P.funcs[78]? = some Tryz.f78 := by kernel_rfl
noncomputable abbrev IN_104 : LayD := ⟨2, [(0, .ptr 0), (1, .data I)], [.var 140 [.data .str, .data .bool]], fun s => [slotR s 0]⟩
noncomputable abbrev OUT_104 : LayD := ⟨1, [(0, .data I)], [.var 140 [.data .str, .data .bool]], fun _ => [0]⟩
noncomputable def T_104 : Tb := mkTb tyP mpP [E_131]
theorem T_104_ok : T_104.Ok CT.P := mkTb_ok (⟨e_131, trivial⟩)
noncomputable def l_104_4 : Code := atLoop c_104 4
noncomputable abbrev LD_104_4 : LayD := ⟨26, [(0, .ptr 0), (5, .data (.int .u64)), (6, .data .str), (12, .data I), (13, .data I)], [.var 140 [.data .str, .data .bool]], fun s => [slotR s 0]⟩
noncomputable abbrev LA_104_4 : LayD := ⟨26, [(0, .ptr 0), (5, .data (.int .u64))], [.var 140 [.data .str, .data .bool]], fun s => [slotR s 0]⟩
noncomputable abbrev LB_104_4 : LayD := ⟨26, [], [], fun _ => []⟩
noncomputable def EX_104_4 : Exits 1 LA_104_4.El LB_104_4.El := ⟨.exit 0, LA_104_4.lay [], .ret, LB_104_4.lay []⟩
noncomputable def lpi_104_4 {β : Type} : LpT β := fun _ _ _ => none
theorem lpi_104_4_ok {β : Type} : LpTOk (CTp 1) (lpi_104_4 (β := β)) (loopsOf l_104_4) := by
  have h : loopsOf l_104_4 = [] := by kernel_rfl
  rw [h]
  exact LpTOk.nil
noncomputable def G_104_4 (r5 : Ty.El (.int .u64)) (r6 : Ty.El .str) (r12 : Ty.El I) (r13 : Ty.El I) (b0 : Ty.El .str × Ty.El .bool × Unit) : Option (LD_104_4.El ⊕ (LA_104_4.El ⊕ LB_104_4.El)) :=
  bif Decidable.decide (r13 < r12) then
    bif Decidable.decide ((0 : Int) ≤ r13 ∧ r13 < (↑(List.length r6) : Int)) then
      Option.some (Sum.inl (((), byteIn r5 (List.getD r6 (Int.toNat r13) (0 : UInt8)), r6, r12, Go.IntKind.i64.wrap (r13 + (1 : Int)), ()), (b0.fst, b0.snd.fst, ()), ()))
    else Option.none
  else Option.some (Sum.inr (Sum.inl (((), r5, ()), (b0.fst, b0.snd.fst, ()), ())))
theorem g_104_4 (x : LD_104_4.El) : codeT (CTp 1) T_104 (drT (CTp 1) T_104) lpi_104_4 l_104_4 (LD_104_4.enc x) (bodyK (LD_104_4.lay []) EX_104_4) = G_104_4 x.1.2.1 x.1.2.2.1 x.1.2.2.2.1 x.1.2.2.2.2.1 x.2.1 := by kernel_rfl
noncomputable def R_104_4 : LD_104_4.El → Option (LA_104_4.El ⊕ LB_104_4.El) := roundsT (fun x => G_104_4 x.1.2.1 x.1.2.2.1 x.1.2.2.2.1 x.1.2.2.2.2.1 x.2.1) fuel
theorem r_104_4 : ∀ x y, R_104_4 x = some y → CL (CTp 1) l_104_4 (LD_104_4.enc x) (Sum.elim (fun _ => EX_104_4.xa) (fun _ => EX_104_4.xb) y) (Sum.elim EX_104_4.la.enc EX_104_4.lb.enc y) :=
  rounds_ok (L := LD_104_4.lay []) (E := EX_104_4) (CTp_ok 1) T_104_ok (drT_ok (CTp_ok 1) T_104_ok) lpi_104_4_ok g_104_4 rfl rfl (fun v h => by have hh : (.exit 0 : AX) = .pan v := h; cases hh) (fun v h => by have hh : (.ret : AX) = .pan v := h; cases hh) fuel
noncomputable def lp_104 {β : Type} : LpT β := fun k s K => if Nat.beq k 4 then lpOne (LD_104_4.lay []) EX_104_4 R_104_4 s K else none
theorem lp_104_ok {β : Type} : LpTOk (CTp 1) (lp_104 (β := β)) (loopsOf c_104) := by
  have h : loopsOf c_104 = [(4, l_104_4)] := by kernel_rfl
  rw [h]
  exact LpTOk.cons (fun s K z h => lpOne_ok r_104_4 h) (LpTOk.nil)
noncomputable def F_104 (a1 : Ty.El I) (b0 : Ty.El .str × Ty.El .bool × Unit) : Option OUT_104.El := (F_131 a1 (b0.fst, b0.snd.fst, ())).bind fun v2 => (R_104_4 (((), (0 : Int), v2.fst.fst, (↑(List.length v2.fst.fst) : Int), (0 : Int), ()), (v2.snd.fst.fst, v2.snd.fst.snd.fst, ()), ())).bind fun v11 => Sum.elim (fun v12 => Option.some ((Go.IntKind.i64.wrap v12.fst.snd.fst, ()), (v12.snd.fst.fst, v12.snd.fst.snd.fst, ()), ())) (fun v13 => Option.none) v11
theorem f_104 (x : IN_104.El) : funcX (CTp 1) T_104 IN_104 OUT_104 [] (drT (CTp 1) T_104) lp_104 Tryz.f78 c_104 x = F_104 x.1.2.1 x.2.1 := by kernel_rfl
noncomputable def E_104 : Ent := .mkGen 78 [] ⟨1, [], IN_104, OUT_104, fun x => F_104 x.1.2.1 x.2.1⟩
theorem e_104 : E_104.Ok CT.P := Ent.ofGen (C := (CTp 1)) (steps := []) (osteps := []) (CTp_ok 1) T_104_ok hf_104 hb_104 lp_104_ok f_104
noncomputable def c_105 : Code := Tryz.f79.body.getD .skip
theorem hb_105 : Tryz.f79.body = some c_105 := by kernel_rfl
theorem hf_105 : CT.P.funcs[79]? = some Tryz.f79 := by kernel_rfl
noncomputable abbrev IN_105 : LayD := ⟨1, [(0, .ptr 0)], [.var 140 [.data .str, .data .bool]], fun s => [slotR s 0]⟩
noncomputable abbrev OUT_105 : LayD := ⟨1, [(0, .data tVec)], [.var 140 [.data .str, .data .bool]], fun _ => [0]⟩
noncomputable def T_105 : Tb := mkTb tyP mpP [E_104]
theorem T_105_ok : T_105.Ok CT.P := mkTb_ok (⟨e_104, trivial⟩)
noncomputable def lp_105 {β : Type} : LpT β := fun _ _ _ => none
theorem lp_105_ok {β : Type} : LpTOk (CTp 1) (lp_105 (β := β)) (loopsOf c_105) := by
  have h : loopsOf c_105 = [] := by kernel_rfl
  rw [h]
  exact LpTOk.nil
noncomputable def F_105 (b0 : Ty.El .str × Ty.El .bool × Unit) : Option OUT_105.El := (F_104 (8 : Int) (b0.fst, b0.snd.fst, ())).bind fun v2 => (F_104 (8 : Int) (v2.snd.fst.fst, v2.snd.fst.snd.fst, ())).bind fun v8 => Option.some (((v2.fst.fst, v8.fst.fst), ()), (v8.snd.fst.fst, v8.snd.fst.snd.fst, ()), ())
theorem f_105 (x : IN_105.El) : funcX (CTp 1) T_105 IN_105 OUT_105 [] (drT (CTp 1) T_105) lp_105 Tryz.f79 c_105 x = F_105 x.2.1 := by kernel_rfl
noncomputable def E_105 : Ent := .mkGen 79 [] ⟨1, [], IN_105, OUT_105, fun x => F_105 x.2.1⟩
theorem e_105 : E_105.Ok CT.P := Ent.ofGen (C := (CTp 1)) (steps := []) (osteps := []) (CTp_ok 1) T_105_ok hf_105 hb_105 lp_105_ok f_105
noncomputable def c_63 : Code := Tryz.f32.body.getD .skip
theorem hb_63 : Tryz.f32.body = some c_63 := by kernel_rfl
theorem hf_63 : CT.P.funcs[32]? = some Tryz.f32 := by kernel_rfl
noncomputable def T_63 : Tb := mkTb tyP mpP [E_61, E_104, E_105]
theorem T_63_ok : T_63.Ok CT.P := mkTb_ok (⟨e_61, e_104, e_105, trivial⟩)
noncomputable def l_63_18 : Code := atLoop c_63 18
noncomputable abbrev LD_63_18 : LayD := ⟨91, [(0, .data .str), (2, .ptr 0), (4, .ptr 1), (5, .ptr 2), (6, .data I)], [.var 52 [.data tThing], .var 140 [.data .str, .data .bool], .var 52 [.data I, .data I, .data tBody, .data tJoint, .own I 3], .row 3 I], fun s => [slotR s 2, slotR s 4, slotR s 5, slotC s 5 13]⟩
noncomputable abbrev LA_63_18 : LayD := ⟨91, [(0, .data .str), (2, .ptr 0), (4, .ptr 1), (5, .ptr 2)], [.var 52 [.data tThing], .var 140 [.data .str, .data .bool], .var 52 [.data I, .data I, .data tBody, .data tJoint, .own I 3], .row 3 I], fun s => [slotR s 2, slotR s 4, slotR s 5, slotC s 5 13]⟩
noncomputable abbrev LB_63_18 : LayD := ⟨91, [], [], fun _ => []⟩
noncomputable def EX_63_18 : Exits 0 LA_63_18.El LB_63_18.El := ⟨.exit 1, LA_63_18.lay [.nilCell 5 13 3 I], .ret, LB_63_18.lay []⟩
noncomputable def lpi_63_18 {β : Type} : LpT β := fun _ _ _ => none
theorem lpi_63_18_ok {β : Type} : LpTOk CT (lpi_63_18 (β := β)) (loopsOf l_63_18) := by
  have h : loopsOf l_63_18 = [] := by kernel_rfl
  rw [h]
  exact LpTOk.nil
noncomputable def G_63_18 (r0 : Ty.El .str) (r6 : Ty.El I) (b0 : Ty.El tThing × Unit) (b1 : Ty.El .str × Ty.El .bool × Unit) (b2 : Ty.El I × Ty.El I × Ty.El tBody × Ty.El tJoint × Unit × Unit) (b3 : List (Ty.El I)) : Option (LD_63_18.El ⊕ (LA_63_18.El ⊕ LB_63_18.El)) := bif Decidable.decide (r6 > (0 : Int)) then (F_104 (4 : Int) (b1.fst, b1.snd.fst, ())).bind fun v2 => bif ((b3.length + [v2.fst.fst].length) * (8 : Nat)).ble (70368744177664 : Nat) then Option.some (Sum.inl ((r0, (), (), (), Go.IntKind.i64.wrap (r6 - (1 : Int)), ()), (b0.fst, ()), (v2.snd.fst.fst, v2.snd.fst.snd.fst, ()), (b2.fst, b2.snd.fst, b2.snd.snd.fst, b2.snd.snd.snd.fst, (), ()), b3 ++ [v2.fst.fst], ())) else Option.none else Option.some (Sum.inr (Sum.inl ((r0, (), (), (), ()), (b0.fst, ()), (b1.fst, b1.snd.fst, ()), (b2.fst, b2.snd.fst, b2.snd.snd.fst, b2.snd.snd.snd.fst, (), ()), b3, ())))
theorem g_63_18 (x : LD_63_18.El) : codeT CT T_63 (drT CT T_63) lpi_63_18 l_63_18 (LD_63_18.enc x) (bodyK (LD_63_18.lay [.nilCell 5 13 3 I]) EX_63_18) = G_63_18 x.1.1 x.1.2.2.2.2.1 x.2.1 x.2.2.1 x.2.2.2.1 x.2.2.2.2.1 := by kernel_rfl
noncomputable def R_63_18 : LD_63_18.El → Option (LA_63_18.El ⊕ LB_63_18.El) := roundsT (fun x => G_63_18 x.1.1 x.1.2.2.2.2.1 x.2.1 x.2.2.1 x.2.2.2.1 x.2.2.2.2.1) fuel
theorem r_63_18 : ∀ x y, R_63_18 x = some y → CL CT l_63_18 (LD_63_18.enc x) (Sum.elim (fun _ => EX_63_18.xa) (fun _ => EX_63_18.xb) y) (Sum.elim EX_63_18.la.enc EX_63_18.lb.enc y) :=
  rounds_ok (L := LD_63_18.lay [.nilCell 5 13 3 I]) (E := EX_63_18) CT_ok T_63_ok (drT_ok CT_ok T_63_ok) lpi_63_18_ok g_63_18 rfl rfl (fun v h => by have hh : (.exit 1 : AX) = .pan v := h; cases hh) (fun v h => by have hh : (.ret : AX) = .pan v := h; cases hh) fuel
noncomputable def lp_63 {β : Type} : LpT β := fun k s K => if Nat.beq k 18 then lpOne (LD_63_18.lay [.nilCell 5 13 3 I]) EX_63_18 R_63_18 s K else none
theorem lp_63_ok {β : Type} : LpTOk CT (lp_63 (β := β)) (loopsOf c_63) := by
  have h : loopsOf c_63 = [(18, l_63_18)] := by kernel_rfl
  rw [h]
  exact LpTOk.cons (fun s K z h => lpOne_ok r_63_18 h) (LpTOk.nil)
noncomputable def F_63 (a1 : Ty.El .str) : Option (Els [tThing, .bool]) := (F_104 (1 : Int) (a1, Bool.false, ())).bind fun v2 => (F_104 (4 : Int) (v2.snd.fst.fst, v2.snd.fst.snd.fst, ())).bind fun v8 => bif v2.fst.fst == (1 : Int) then (F_104 (1 : Int) (v8.snd.fst.fst, v8.snd.fst.snd.fst, ())).bind fun v16 => (F_105 (v16.snd.fst.fst, v16.snd.fst.snd.fst, ())).bind fun v22 => (F_104 (8 : Int) (v22.snd.fst.fst, v22.snd.fst.snd.fst, ())).bind fun v28 => (F_105 (v28.snd.fst.fst, v28.snd.fst.snd.fst, ())).bind fun v34 => (F_105 (v34.snd.fst.fst, v34.snd.fst.snd.fst, ())).bind fun v40 => (F_61 (v8.fst.fst, v2.fst.fst, (v16.fst.fst, v22.fst.fst, v28.fst.fst, v34.fst.fst, v40.fst.fst), ((0 : Int), (0 : Int), (0 : Int)), [])).bind fun v56 => bif v40.snd.fst.snd.fst then Option.some (((0 : Int), (0 : Int), ((0 : Int), ((0 : Int), (0 : Int)), (0 : Int), ((0 : Int), (0 : Int)), (0 : Int), (0 : Int)), ((0 : Int), (0 : Int), (0 : Int)), []), Bool.false, ()) else bif !v56.snd.fst then Option.some (((0 : Int), (0 : Int), ((0 : Int), ((0 : Int), (0 : Int)), (0 : Int), ((0 : Int), (0 : Int)), (0 : Int), (0 : Int)), ((0 : Int), (0 : Int), (0 : Int)), []), Bool.false, ()) else bif !v56.fst == a1 then Option.some (((0 : Int), (0 : Int), ((0 : Int), ((0 : Int), (0 : Int)), (0 : Int), ((0 : Int), (0 : Int)), (0 : Int), (0 : Int)), ((0 : Int), (0 : Int), (0 : Int)), []), Bool.false, ()) else Option.some ((v8.fst.fst, v2.fst.fst, (v16.fst.fst, v22.fst.fst, v28.fst.fst, v34.fst.fst, v40.fst.fst), ((0 : Int), (0 : Int), (0 : Int)), []), Bool.true, ()) else bif v2.fst.fst == (2 : Int) then (F_104 (4 : Int) (v8.snd.fst.fst, v8.snd.fst.snd.fst, ())).bind fun v80 => (F_104 (4 : Int) (v80.snd.fst.fst, v80.snd.fst.snd.fst, ())).bind fun v86 => (F_104 (8 : Int) (v86.snd.fst.fst, v86.snd.fst.snd.fst, ())).bind fun v92 => (F_61 (v8.fst.fst, v2.fst.fst, ((0 : Int), ((0 : Int), (0 : Int)), (0 : Int), ((0 : Int), (0 : Int)), (0 : Int), (0 : Int)), (v80.fst.fst, v86.fst.fst, v92.fst.fst), [])).bind fun v104 => bif v92.snd.fst.snd.fst then Option.some (((0 : Int), (0 : Int), ((0 : Int), ((0 : Int), (0 : Int)), (0 : Int), ((0 : Int), (0 : Int)), (0 : Int), (0 : Int)), ((0 : Int), (0 : Int), (0 : Int)), []), Bool.false, ()) else bif !v104.snd.fst then Option.some (((0 : Int), (0 : Int), ((0 : Int), ((0 : Int), (0 : Int)), (0 : Int), ((0 : Int), (0 : Int)), (0 : Int), (0 : Int)), ((0 : Int), (0 : Int), (0 : Int)), []), Bool.false, ()) else bif !v104.fst == a1 then Option.some (((0 : Int), (0 : Int), ((0 : Int), ((0 : Int), (0 : Int)), (0 : Int), ((0 : Int), (0 : Int)), (0 : Int), (0 : Int)), ((0 : Int), (0 : Int), (0 : Int)), []), Bool.false, ()) else Option.some ((v8.fst.fst, v2.fst.fst, ((0 : Int), ((0 : Int), (0 : Int)), (0 : Int), ((0 : Int), (0 : Int)), (0 : Int), (0 : Int)), (v80.fst.fst, v86.fst.fst, v92.fst.fst), []), Bool.true, ()) else bif v2.fst.fst == (3 : Int) then (F_104 (1 : Int) (v8.snd.fst.fst, v8.snd.fst.snd.fst, ())).bind fun v124 => (R_63_18 ((a1, (), (), (), v124.fst.fst, ()), (((0 : Int), (0 : Int), ((0 : Int), ((0 : Int), (0 : Int)), (0 : Int), ((0 : Int), (0 : Int)), (0 : Int), (0 : Int)), ((0 : Int), (0 : Int), (0 : Int)), []), ()), (v124.snd.fst.fst, v124.snd.fst.snd.fst, ()), (v8.fst.fst, v2.fst.fst, ((0 : Int), ((0 : Int), (0 : Int)), (0 : Int), ((0 : Int), (0 : Int)), (0 : Int), (0 : Int)), ((0 : Int), (0 : Int), (0 : Int)), (), ()), [], ())).bind fun v135 => Sum.elim (fun v136 => (F_61 (v136.snd.snd.snd.fst.fst, v136.snd.snd.snd.fst.snd.fst, v136.snd.snd.snd.fst.snd.snd.fst, v136.snd.snd.snd.fst.snd.snd.snd.fst, v136.snd.snd.snd.snd.fst)).bind fun v138 => bif v136.snd.snd.fst.snd.fst then Option.some (((0 : Int), (0 : Int), ((0 : Int), ((0 : Int), (0 : Int)), (0 : Int), ((0 : Int), (0 : Int)), (0 : Int), (0 : Int)), ((0 : Int), (0 : Int), (0 : Int)), []), Bool.false, ()) else bif !v138.snd.fst then Option.some (((0 : Int), (0 : Int), ((0 : Int), ((0 : Int), (0 : Int)), (0 : Int), ((0 : Int), (0 : Int)), (0 : Int), (0 : Int)), ((0 : Int), (0 : Int), (0 : Int)), []), Bool.false, ()) else bif !v138.fst == v136.fst.fst then Option.some (((0 : Int), (0 : Int), ((0 : Int), ((0 : Int), (0 : Int)), (0 : Int), ((0 : Int), (0 : Int)), (0 : Int), (0 : Int)), ((0 : Int), (0 : Int), (0 : Int)), []), Bool.false, ()) else Option.some ((v136.snd.snd.snd.fst.fst, v136.snd.snd.snd.fst.snd.fst, v136.snd.snd.snd.fst.snd.snd.fst, v136.snd.snd.snd.fst.snd.snd.snd.fst, v136.snd.snd.snd.snd.fst), Bool.true, ())) (fun v139 => Option.none) v135 else (F_61 (v8.fst.fst, v2.fst.fst, ((0 : Int), ((0 : Int), (0 : Int)), (0 : Int), ((0 : Int), (0 : Int)), (0 : Int), (0 : Int)), ((0 : Int), (0 : Int), (0 : Int)), [])).bind fun v145 => bif v8.snd.fst.snd.fst then Option.some (((0 : Int), (0 : Int), ((0 : Int), ((0 : Int), (0 : Int)), (0 : Int), ((0 : Int), (0 : Int)), (0 : Int), (0 : Int)), ((0 : Int), (0 : Int), (0 : Int)), []), Bool.false, ()) else bif !v145.snd.fst then Option.some (((0 : Int), (0 : Int), ((0 : Int), ((0 : Int), (0 : Int)), (0 : Int), ((0 : Int), (0 : Int)), (0 : Int), (0 : Int)), ((0 : Int), (0 : Int), (0 : Int)), []), Bool.false, ()) else bif !v145.fst == a1 then Option.some (((0 : Int), (0 : Int), ((0 : Int), ((0 : Int), (0 : Int)), (0 : Int), ((0 : Int), (0 : Int)), (0 : Int), (0 : Int)), ((0 : Int), (0 : Int), (0 : Int)), []), Bool.false, ()) else Option.some ((v8.fst.fst, v2.fst.fst, ((0 : Int), ((0 : Int), (0 : Int)), (0 : Int), ((0 : Int), (0 : Int)), (0 : Int), (0 : Int)), ((0 : Int), (0 : Int), (0 : Int)), []), Bool.true, ())
theorem f_63 (x : Ps [.ty .str]) : funcT CT T_63 [tThing, .bool] (drT CT T_63) lp_63 Tryz.f32 c_63 (encPs [.ty .str] x) = F_63 x.1 := by kernel_rfl
noncomputable def E_63 : Ent := .fn 32 [] ⟨[.ty .str], [tThing, .bool], fun x => F_63 x.1, false⟩
theorem e_63 : E_63.Ok CT.P := Ent.ofFn CT_ok T_63_ok hf_63 hb_63 lp_63_ok f_63
end Go.DI.S
set_option linter.unusedVariables false
set_option linter.unusedSimpArgs false
set_option maxRecDepth 100000
namespace Go.DI.S
open Go.Proofs
def byteI (v : Int) (n : Nat) : Int := IntKind.u8.wrap (Int.fdiv v ((2 : Int) ^ Min.min (IntKind.i64.wrap ((8 : Int) * (n : Int))).toNat (64 : Nat)))
def numI (v : Int) : Nat → List Int
  | 0 => []
  | n + 1 => byteI v n :: numI v n
theorem numI_len (v : Int) : ∀ n, (numI v n).length = n
  | 0 => rfl
  | n + 1 => by simp [numI, numI_len v n]
def toS (l : List Int) : List UInt8 := l.map fun x => UInt8.ofNat (Int.toNat x)
theorem wrap8 {n : Nat} (h : n ≤ 1000) : IntKind.i64.wrap ((8 : Int) * (n : Int)) = 8 * (n : Int) := wrap64 (by omega) (by omega)
theorem r102 (v : Int) : ∀ (n : Nat) (row : List Int) (f : Nat), n ≤ 1000 → n < f → row.length + n ≤ 1000000000 →
    roundsT (fun x => G_102_1 x.1.2.1 x.1.2.2.1 x.2.1 x.2.2.1) f (((), v, (n : Int) - 1, ()), ((), ()), row, ()) = some (.inl (((), ()), ((), ()), row ++ numI v n, ()))
  | 0, row, f, hn, hf, hr => by
    obtain ⟨f, rfl⟩ : ∃ k, f = k + 1 := ⟨f - 1, by omega⟩
    refine rounds_out ?_ f
    simp only [G_102_1]
    rw [decide_eq_false (by omega : ¬ (((0 : Nat) : Int) - 1 ≥ 0)), cond_false]
    simp [numI]
  | n + 1, row, f, hn, hf, hr => by
    obtain ⟨f, rfl⟩ : ∃ k, f = k + 1 := ⟨f - 1, by omega⟩
    have e : ((n + 1 : Nat) : Int) - 1 = (n : Int) := by omega
    rw [e, rounds_in (x' := (((), v, (n : Int) - 1, ()), ((), ()), row ++ [byteI v n], ())) ?_ f]
    · rw [r102 v n _ f (by omega) (by omega) (by simp; omega)]
      simp [numI]
    · simp only [G_102_1]
      rw [decide_eq_true (by omega : (n : Int) ≥ 0), cond_true, wrap8 (by omega), decide_eq_false (by omega), cond_false, show Nat.ble ((row.length + _) * 1) 70368744177664 = true from Nat.ble_eq_true_of_le (by simp; omega), cond_true,
        wrap64 (x := (n : Int) - 1) (by omega) (by omega)]
      unfold byteI
      rw [wrap8 (by omega)]
theorem v_102 (v : Int) (n : Nat) (row : List Int) (hn : n ≤ 1000) (hr : row.length + n ≤ 1000000000) : F_102 v (n : Int) ((), ()) row = some ((), ((), ()), row ++ numI v n, ()) := by
  unfold F_102 R_102_1
  rw [wrap64 (x := (n : Int) - 1) (by omega) (by omega), r102 v n row fuel hn (fuel_lt (by omega)) hr]
  rfl
def vecI (a : Vec) : List Int := numI a.1 8 ++ numI a.2 8
theorem vecI_len (a : Vec) : (vecI a).length = 16 := by simp [vecI, numI_len]
theorem v_103 (a : Vec) (row : List Int) (hr : row.length + 16 ≤ 1000000000) : F_103 a ((), ()) row = some ((), ((), ()), row ++ vecI a, ()) := by
  unfold F_103
  have h1 := v_102 a.1 8 row (by omega) (by omega)
  have h2 := v_102 a.2 8 (row ++ numI a.1 8) (by omega) (by simp [numI_len]; omega)
  rw [show ((8 : Nat) : Int) = 8 from rfl] at h1 h2
  simp only [h1, Option.bind_some, h2, vecI, List.append_assoc]
def bodyI (b : Body) : List Int := numI b.1 1 ++ (vecI b.2.1 ++ (numI b.2.2.1 8 ++ (vecI b.2.2.2.1 ++ vecI b.2.2.2.2)))
def jointI (j : Joint) : List Int := numI j.1 4 ++ (numI j.2.1 4 ++ numI j.2.2 8)
def insI (l : List Int) : List Int := l.flatMap fun n => numI n 4
theorem insI_len (l : List Int) : (insI l).length = 4 * l.length := by
  induction l with
  | nil => rfl
  | cons a l ih =>
    show (numI a 4 ++ insI l).length = _
    rw [List.length_append, ih, numI_len, List.length_cons]; omega
def putI (t : Thing) : List Int := numI t.2.1 1 ++ (numI t.1 4 ++
  (bif t.2.1 == (1 : Int) then bodyI t.2.2.1 else bif t.2.1 == (2 : Int) then jointI t.2.2.2.1 else bif t.2.1 == (3 : Int) then numI (t.2.2.2.2.length : Int) 1 ++ insI t.2.2.2.2 else []))
theorem q_61_20 (l : List Int) (row : List Int) (hr : row.length + 4 * l.length ≤ 100000000) :
    R_61_20 (((), l, (l.length : Int), (0 : Int), ()), ((), ()), row, ()) = some (.inl (((), ()), ((), ()), row ++ insI l, ())) := by
  have key : ∀ (d m k : Nat) (row : List Int), k + d = l.length → d < m → row.length + 4 * d ≤ 100000000 → roundsT (fun x => G_61_20 x.1.2.1 x.1.2.2.1 x.1.2.2.2.1 x.2.1 x.2.2.1) m (((), l, (l.length : Int), (k : Int), ()), ((), ()), row, ()) = some (.inl (((), ()), ((), ()), row ++ insI (l.drop k), ())) := by
    intro d
    induction d with
    | zero =>
      intro m k row hk hm hr
      obtain ⟨m, rfl⟩ : ∃ j, m = j + 1 := ⟨m - 1, by omega⟩
      have : k = l.length := by omega
      subst this
      rw [rounds_out (y := .inl (((), ()), ((), ()), row, ())) (by simp only [G_61_20, dec_end, cond_false]), List.drop_length]
      simp [insI]
    | succ d ih =>
      intro m k row hk hm hr
      obtain ⟨m, rfl⟩ : ∃ j, m = j + 1 := ⟨m - 1, by omega⟩
      have hlt : k < l.length := by omega
      have ha := List.getElem?_eq_getElem hlt
      rw [rounds_in (x' := (((), l, (l.length : Int), ((k + 1 : Nat) : Int), ()), ((), ()), row ++ numI l[k] 4, ())) ?_ m]
      · rw [ih m (k + 1) _ (by omega) (by omega) (by simp [numI_len]; omega), List.drop_eq_getElem_cons hlt]
        show some (Sum.inl (((), ()), ((), ()), row ++ numI l[k] 4 ++ insI (l.drop (k + 1)), ())) = some (Sum.inl (((), ()), ((), ()), row ++ (numI l[k] 4 ++ insI (l.drop (k + 1))), ()))
        rw [List.append_assoc]
      · have h1 := v_102 l[k] 4 row (by omega) (by omega)
        rw [show ((4 : Nat) : Int) = 4 from rfl] at h1
        simp only [G_61_20, dec_lt hlt, dec_in hlt, cond_true, getD_of ha, h1, Option.bind_some, wrap_up hlt (by omega)]
  have h := key l.length fuel 0 row (by omega) (fuel_lt (by omega)) hr
  rw [List.drop_zero] at h
  exact h
theorem v_61 (t : Thing) (h : t.2.2.2.2.length ≤ 1000000) : F_61 t = some ((bif rt t then (toS (putI t), true, ()) else ([], false, ())) : Els [.str, .bool]) := by
  unfold F_61
  rw [v_45 t (by omega)]
  simp only [Option.bind_some]
  cases rt t with
  | false => rfl
  | true =>
    have h1 := fun v (row : List Int) (hr : row.length ≤ 100000000) => v_102 v 1 row (by omega) (by omega)
    have h4 := fun v (row : List Int) (hr : row.length ≤ 100000000) => v_102 v 4 row (by omega) (by omega)
    have h8 := fun v (row : List Int) (hr : row.length ≤ 100000000) => v_102 v 8 row (by omega) (by omega)
    have hv := fun v (row : List Int) (hr : row.length ≤ 100000000) => v_103 v row (by omega)
    rw [show ((1 : Nat) : Int) = 1 from rfl] at h1
    rw [show ((4 : Nat) : Int) = 4 from rfl] at h4
    rw [show ((8 : Nat) : Int) = 8 from rfl] at h8
    simp only [Bool.not_true, cond_false, cond_true]
    rw [h1 _ _ (by simp)]
    simp only [Option.bind_some]
    rw [h4 _ _ (by simp [numI_len])]
    simp only [Option.bind_some]
    unfold putI
    cases (t.2.1 == (1 : Int)) with
    | true =>
      simp only [cond_true]
      rw [h1 _ _ (by simp [numI_len])]
      simp only [Option.bind_some]
      rw [hv _ _ (by simp [numI_len])]
      simp only [Option.bind_some]
      rw [h8 _ _ (by simp [numI_len, vecI_len])]
      simp only [Option.bind_some]
      rw [hv _ _ (by simp [numI_len, vecI_len])]
      simp only [Option.bind_some]
      rw [hv _ _ (by simp [numI_len, vecI_len])]
      simp only [Option.bind_some, bodyI, List.append_assoc, List.nil_append]
      rfl
    | false =>
      simp only [cond_false]
      cases (t.2.1 == (2 : Int)) with
      | true =>
        simp only [cond_true]
        rw [h4 _ _ (by simp [numI_len])]
        simp only [Option.bind_some]
        rw [h4 _ _ (by simp [numI_len])]
        simp only [Option.bind_some]
        rw [h8 _ _ (by simp [numI_len])]
        simp only [Option.bind_some, jointI, List.append_assoc, List.nil_append]
        rfl
      | false =>
        simp only [cond_false]
        cases (t.2.1 == (3 : Int)) with
        | true =>
          simp only [cond_true]
          rw [h1 _ _ (by simp [numI_len])]
          simp only [Option.bind_some]
          rw [q_61_20 _ _ (by simp [numI_len]; omega)]
          simp only [Option.bind_some, Sum.elim_inl, List.append_assoc, List.nil_append]
          rfl
        | false =>
          simp only [cond_false, List.append_nil, List.nil_append]
          rfl
end Go.DI.S
set_option linter.unusedVariables false
set_option linter.unusedSimpArgs false
set_option maxRecDepth 100000
namespace Go.DI.S
open Go.Proofs
theorem u64w (n : Int) : IntKind.u64.wrap n = n % 18446744073709551616 := by simp [IntKind.wrap, IntKind.bits, IntKind.signed]
theorem u8w (n : Int) : IntKind.u8.wrap n = n % 256 := by simp [IntKind.wrap, IntKind.bits, IntKind.signed]
theorem byteIn_eq (n : Int) (b : UInt8) : byteIn n b = (n * 256 + b.toNat) % 18446744073709551616 := by
  unfold byteIn
  have e1 : (2 : Int) ^ min (Int.toNat 8) IntKind.u64.bits = 256 := by decide
  have e2 : IntKind.u64.bits = 64 := rfl
  rw [e1, e2, u64w, u64w, u64w, BitVec.toNat_or, BitVec.toNat_ofInt, BitVec.toNat_ofInt]
  have hb : b.toNat < 256 := b.toNat_lt
  have e3 : ((2 ^ 64 : Nat) : Int) = 18446744073709551616 := by decide
  rw [e3]
  have e4 : (((b.toNat : Int) % 18446744073709551616) % 18446744073709551616).toNat = b.toNat := by omega
  have e5 : ∃ m : Nat, (((n * 256) % 18446744073709551616) % 18446744073709551616).toNat = 2 ^ 8 * m ∧ (m : Int) = n % 72057594037927936 := ⟨(n % 72057594037927936).toNat, by omega, by omega⟩
  obtain ⟨m, h1, h2⟩ := e5
  rw [e4, h1, ← Nat.two_pow_add_eq_or_of_lt (by omega : b.toNat < 2 ^ 8)]
  omega
theorem emod_step (v m : Int) (hm : 0 < m) : v % (m * 256) = v % m + m * (v / m % 256) := by
  have h1 : v = m * (v / m) + v % m := (Int.mul_ediv_add_emod v m).symm
  have h2 : v / m = 256 * (v / m / 256) + v / m % 256 := (Int.mul_ediv_add_emod (v / m) 256).symm
  have h3 : 0 ≤ v % m := Int.emod_nonneg _ (by omega)
  have h4 : v % m < m := Int.emod_lt_of_pos _ hm
  generalize hr : v % m = r at *
  generalize hq : v / m = q at *
  generalize ha : q / 256 = a at *
  have h5 : 0 ≤ q % 256 := Int.emod_nonneg _ (by omega)
  have h6 : q % 256 < 256 := Int.emod_lt_of_pos _ (by omega)
  generalize hb : q % 256 = b at *
  have h7 : v = (r + m * b) + (m * 256) * a := by
    rw [h1, h2]
    rw [Int.mul_add, Int.mul_assoc, ← Int.mul_assoc m 256 a]
    omega
  have h8 : m * b ≤ m * 255 := Int.mul_le_mul_of_nonneg_left (by omega) (by omega)
  have h9 : 0 ≤ m * b := Int.mul_nonneg (by omega) h5
  rw [h7, Int.add_mul_emod_self_left]
  exact Int.emod_eq_of_lt (by omega) (by omega)
theorem byteI_eq (v : Int) {n : Nat} (hn : n ≤ 7) : byteI v n = v / (256 : Int) ^ n % 256 := by
  unfold byteI
  rw [wrap8 (by omega), u8w]
  have e1 : min (8 * (n : Int)).toNat 64 = 8 * n := by omega
  rw [e1, Int.pow_mul, show (2 : Int) ^ 8 = 256 from rfl, Int.fdiv_eq_ediv_of_nonneg _ (Int.le_of_lt (Int.pow_pos (by decide)))]
theorem val_num (v : Int) : ∀ (n : Nat), n ≤ 8 → ∀ acc : Int, 0 ≤ acc → acc < 18446744073709551616 → (toS (numI v n)).foldl byteIn acc = (acc * (256 : Int) ^ n + v % (256 : Int) ^ n) % 18446744073709551616
  | 0, hn, acc, h1, h2 => by
    simp only [numI, toS, List.map_nil, List.foldl_nil, Int.pow_zero, Int.mul_one, Int.emod_one, Int.add_zero]
    omega
  | n + 1, hn, acc, h1, h2 => by
    have hb0 : 0 ≤ byteI v n := by rw [byteI_eq v (by omega)]; omega
    have hb1 : byteI v n < 256 := by rw [byteI_eq v (by omega)]; omega
    have hbt : ((UInt8.ofNat (byteI v n).toNat).toNat : Int) = byteI v n := by
      rw [UInt8.toNat_ofNat']
      omega
    show (toS (numI v n)).foldl byteIn (byteIn acc (UInt8.ofNat (byteI v n).toNat)) = _
    rw [val_num v n (by omega) _ (by rw [byteIn_eq]; omega) (by rw [byteIn_eq]; omega), byteIn_eq, hbt, Int.pow_succ, emod_step v _ (Int.pow_pos (by decide)), byteI_eq v (by omega)]
    generalize v / (256 : Int) ^ n % 256 = b
    generalize v % (256 : Int) ^ n = r
    generalize (256 : Int) ^ n = m
    rw [Int.add_emod, Int.mul_emod, Int.emod_emod, ← Int.mul_emod, ← Int.add_emod]
    congr 1
    rw [Int.add_mul, Int.mul_comm m 256, ← Int.mul_assoc, Int.mul_comm b m]
    omega
def Fits (v : Int) (n : Nat) : Prop := (n = 8 ∧ -9223372036854775808 ≤ v ∧ v ≤ 9223372036854775807) ∨ (n ≤ 7 ∧ 0 ≤ v ∧ v < (256 : Int) ^ n)
theorem val_of {v : Int} {n : Nat} (h : Fits v n) : IntKind.i64.wrap ((toS (numI v n)).foldl byteIn 0) = v := by
  have hn : n ≤ 8 := by rcases h with ⟨h, _⟩ | ⟨h, _⟩ <;> omega
  rw [val_num v n hn 0 (by omega) (by omega), Int.zero_mul, Int.zero_add]
  rcases h with ⟨rfl, h1, h2⟩ | ⟨h1, h2, h3⟩
  · rw [show (256 : Int) ^ 8 = 18446744073709551616 from rfl, IntKind.wrap_i64]
    omega
  · rw [Int.emod_eq_of_lt h2 h3]
    have h4 : (256 : Int) ^ n ≤ 72057594037927936 := by
      have : n = 0 ∨ n = 1 ∨ n = 2 ∨ n = 3 ∨ n = 4 ∨ n = 5 ∨ n = 6 ∨ n = 7 := by omega
      rcases this with rfl | rfl | rfl | rfl | rfl | rfl | rfl | rfl <;> decide
    rw [Int.emod_eq_of_lt h2 (by omega)]
    exact wrap64 (by omega) (by omega)
theorem toS_len (l : List Int) : (toS l).length = l.length := by simp [toS]
theorem toS_app (l m : List Int) : toS (l ++ m) = toS l ++ toS m := by simp [toS]
theorem r_104 (l : List UInt8) (hl : l.length ≤ 1000000000) (s : List UInt8) (b : Bool) : R_104_4 (((), (0 : Int), l, (l.length : Int), (0 : Int), ()), (s, b, ()), ()) = some (.inl (((), l.foldl byteIn 0, ()), (s, b, ()), ())) := by
  have h := fold_all (G := fun x => G_104_4 x.1.2.1 x.1.2.2.1 x.1.2.2.2.1 x.1.2.2.2.2.1 x.2.1) (m := fuel) l byteIn (fun j a => (((), a, l, (l.length : Int), (j : Int), ()), (s, b, ()), ())) (fun a => .inl (((), a, ()), (s, b, ()), ())) (fun j c a ha => ?_) (fun a => ?_) (fuel_lt hl) 0
  · exact h
  · have hk := len_of ha
    simp only [G_104_4, dec_lt hk, dec_in hk, cond_true, getD_of ha, wrap_up hk (by omega)]
  · simp only [G_104_4, dec_end, cond_false]
theorem v_131 (l r : List UInt8) {n : Nat} (hn : l.length = n) : F_131 (n : Int) (l ++ r, false, ()) = some ((l, ()), (r, false, ()), ()) := by
  subst hn
  unfold F_131
  have h1 : ¬ ((l.length : Int) > ((l ++ r).length : Int)) := by simp; omega
  have h2 : (0 : Int) ≤ (l.length : Int) ∧ (l.length : Int) ≤ ((l ++ r).length : Int) := by simp; omega
  simp only [cond_false, decide_eq_false h1, decide_eq_true h2, cond_true]
  simp only [Int.toNat_natCast, Nat.sub_zero, List.drop_zero, List.take_left, List.drop_left, List.length_append, Nat.add_sub_cancel_left, List.take_length]
theorem v_104 {v : Int} {n : Nat} (h : Fits v n) (r : List UInt8) : F_104 (n : Int) (toS (numI v n) ++ r, false, ()) = some ((v, ()), (r, false, ()), ()) := by
  have hn : n ≤ 8 := by rcases h with ⟨h, _⟩ | ⟨h, _⟩ <;> omega
  have hlen : (toS (numI v n)).length = n := by rw [toS_len, numI_len]
  unfold F_104
  simp only [v_131 _ r hlen, Option.bind_some]
  rw [r_104 _ (by omega)]
  simp only [Option.bind_some, Sum.elim_inl, val_of h]
theorem v_105 (a : Vec) (h1 : Fits a.1 8) (h2 : Fits a.2 8) (r : List UInt8) : F_105 (toS (vecI a) ++ r, false, ()) = some ((a, ()), (r, false, ()), ()) := by
  unfold F_105 vecI
  simp only [toS_app, List.append_assoc]
  have e1 := v_104 h1 (toS (numI a.2 8) ++ r)
  have e2 := v_104 h2 r
  rw [show ((8 : Nat) : Int) = 8 from rfl] at e1 e2
  simp only [e1, Option.bind_some, e2]
end Go.DI.S
set_option linter.unusedVariables false
set_option linter.unusedSimpArgs false
set_option maxRecDepth 100000
namespace Go.DI.S
open Go.Proofs
def noBody : Body := ((0 : Int), ((0 : Int), (0 : Int)), (0 : Int), ((0 : Int), (0 : Int)), (0 : Int), (0 : Int))
def noJoint : Joint := ((0 : Int), (0 : Int), (0 : Int))
theorem v_86 (a : Int) : F_86 a = some ((decide (a ≥ 1) && decide (a ≤ 1000000), ()) : Els [.bool]) := by
  unfold F_86
  cases decide (a ≥ (1 : Int)) <;> rfl
theorem shape_of {b : Body} (h : F_88 b = some ((true, ()) : Els [.bool])) : b.1 = 1 ∨ b.1 = 2 := by
  by_cases h1 : b.1 = 1
  · exact .inl h1
  · by_cases h2 : b.1 = 2
    · exact .inr h2
    · exfalso
      have e : F_125 b.1 = some (([], ()) : Els [.str]) := by
        unfold F_125
        rw [show (b.1 == (1 : Int)) = false from beq_eq_false_iff_ne.2 h1, show (b.1 == (2 : Int)) = false from beq_eq_false_iff_ne.2 h2]
        rfl
      unfold F_88 at h
      rw [e] at h
      simp only [Option.bind_some] at h
      rw [show ((([] : List UInt8)) == []) = true from rfl] at h
      simp at h
theorem and_of {c : Bool} {x : Option (Els [.bool])} (h : (bif c then x else some (false, ())) = some (true, ())) : c = true ∧ x = some (true, ()) := by
  cases c with
  | true => exact ⟨rfl, h⟩
  | false => cases h
theorem not_of {c : Bool} {x : Option (Els [.bool])} (h : (bif !c then some (false, ()) else x) = some (true, ())) : c = true ∧ x = some (true, ()) := by
  cases c with
  | true => exact ⟨rfl, h⟩
  | false => cases h
theorem bool_of {c : Bool} (h : some ((c, ()) : Els [.bool]) = some (true, ())) : c = true := by cases h; rfl
theorem pass_of {x : Option (Els [.bool])} (h : (x.bind fun v => some ((v.1, ()) : Els [.bool])) = some (true, ())) : x = some (true, ()) := by
  cases x with
  | none => cases h
  | some y => obtain ⟨b, u⟩ := y; cases h; rfl
theorem rt_parts {t : Thing} (hl : t.2.2.2.2.length ≤ 1000000000) (h : rt t = true) : (1 ≤ t.1 ∧ t.1 ≤ 1000000) ∧
    ((t.2.1 = 1 ∧ t.2.2.2.1 = noJoint ∧ ins t = [] ∧ (t.2.2.1.1 = 1 ∨ t.2.2.1.1 = 2)) ∨
     (t.2.1 = 2 ∧ t.2.2.1 = noBody ∧ ins t = [] ∧ (1 ≤ t.2.2.2.1.1 ∧ t.2.2.2.1.1 ≤ 1000000) ∧ (1 ≤ t.2.2.2.1.2.1 ∧ t.2.2.2.1.2.1 ≤ 1000000) ∧ t.2.2.2.1.1 ≠ t.2.2.2.1.2.1 ∧ 0 ≤ t.2.2.2.1.2.2 ∧ t.2.2.2.1.2.2 ≤ 4294967296000) ∨
     (t.2.1 = 3 ∧ t.2.2.1 = noBody ∧ t.2.2.2.1 = noJoint ∧ F_89 t = some ((true, ()) : Els [.bool]))) := by
  have hv := v_45 t hl
  rw [h] at hv
  obtain ⟨id, kind, ⟨b1, ⟨b2, b3⟩, b4, ⟨b5, b6⟩, b7, b8⟩, ⟨j1, j2, j3⟩, l⟩ := t
  unfold F_45 at hv
  simp only [v_86, Option.bind_some] at hv
  obtain ⟨k1, hv⟩ := not_of hv
  simp only [Bool.and_eq_true, decide_eq_true_eq] at k1
  refine ⟨k1, ?_⟩
  unfold F_87 at hv
  have hlen : ∀ {l : List Int}, (((l.length : Nat) : Int) == 0) = true → l = [] := by
    intro l h
    have : ((l.length : Nat) : Int) = 0 := by simpa using h
    exact List.eq_nil_of_length_eq_zero (by omega)
  by_cases c1 : kind = 1
  · subst c1
    refine .inl ?_
    simp only [beq_self_eq_true, cond_true] at hv
    cases hj : (j1 == (0 : Int) && (j2 == (0 : Int) && (j3 == (0 : Int) && true))) with
    | false => rw [hj] at hv; cases hv
    | true =>
      rw [hj] at hv
      simp only [cond_true, Option.bind_some] at hv
      obtain ⟨k2, hv⟩ := not_of hv
      have k3 := pass_of hv
      simp only [Bool.and_eq_true, beq_iff_eq, Bool.and_true] at hj
      obtain ⟨rfl, rfl, rfl⟩ := hj
      exact ⟨rfl, rfl, hlen k2, shape_of k3⟩
  · by_cases c2 : kind = 2
    · subst c2
      refine .inr (.inl ?_)
      simp only [show ((2 : Int) == 1) = false from rfl, beq_self_eq_true, cond_true, cond_false] at hv
      cases hj : (b1 == (0 : Int) && (b2 == (0 : Int) && (b3 == (0 : Int) && true) && (b4 == (0 : Int) && (b5 == (0 : Int) && (b6 == (0 : Int) && true) && (b7 == (0 : Int) && (b8 == (0 : Int) && true) && true))))) with
      | false => rw [hj] at hv; cases hv
      | true =>
        rw [hj] at hv
        simp only [cond_true, Option.bind_some] at hv
        obtain ⟨k2, hv⟩ := not_of hv
        obtain ⟨k3, hv⟩ := and_of hv
        obtain ⟨k4, hv⟩ := and_of hv
        obtain ⟨k5, hv⟩ := and_of hv
        obtain ⟨k6, hv⟩ := and_of hv
        have k7 := bool_of hv
        simp only [Bool.and_eq_true, beq_iff_eq, Bool.and_true] at hj
        obtain ⟨rfl, ⟨rfl, rfl⟩, rfl, ⟨rfl, rfl⟩, rfl, rfl⟩ := hj
        simp only [Bool.and_eq_true, decide_eq_true_eq, bne_iff_ne, ne_eq] at k3 k4 k5 k6 k7
        exact ⟨rfl, rfl, hlen k2, k3, k4, k5, k6, k7⟩
    · refine .inr (.inr ?_)
      simp only [show (kind == (1 : Int)) = false from beq_eq_false_iff_ne.2 c1, show (kind == (2 : Int)) = false from beq_eq_false_iff_ne.2 c2, cond_false] at hv
      cases hj : (b1 == (0 : Int) && (b2 == (0 : Int) && (b3 == (0 : Int) && true) && (b4 == (0 : Int) && (b5 == (0 : Int) && (b6 == (0 : Int) && true) && (b7 == (0 : Int) && (b8 == (0 : Int) && true) && true))))) with
      | false => rw [hj] at hv; cases hv
      | true =>
        rw [hj] at hv
        simp only [cond_true, Option.bind_some] at hv
        obtain ⟨k2, hv⟩ := not_of hv
        obtain ⟨k3, hv⟩ := and_of hv
        have k4 := pass_of hv
        simp only [Bool.and_eq_true, beq_iff_eq, Bool.and_true] at hj k2 k3
        obtain ⟨rfl, ⟨rfl, rfl⟩, rfl, ⟨rfl, rfl⟩, rfl, rfl⟩ := hj
        obtain ⟨rfl, rfl, rfl⟩ := k2
        exact ⟨k3, rfl, rfl, k4⟩
theorem mem_89 {t : Thing} (hl : t.2.2.2.2.length ≤ 1000000000) (h : F_89 t = some ((true, ()) : Els [.bool])) : (∀ n ∈ ins t, 1 ≤ n ∧ n ≤ 1000000) ∧ (ins t).length ≤ 8 := by
  have key : ∀ (l : List Int) (k : Nat) (prev : Int) (m : Nat), (ins t).drop k = l → l.length < m → ∀ y, roundsT (fun x => G_89_3 x.1.2.1 x.1.2.2.1 x.1.2.2.2.1 x.1.2.2.2.2.1 x.2.1) m (((), prev, ins t, ((ins t).length : Int), (k : Int), ()), (t, ()), ()) = some y →
      (y = .inl (((), ()), (t, ()), ()) ∧ ∀ n ∈ l, 1 ≤ n ∧ n ≤ 1000000) ∨ y = .inr ((false, ()), ()) := by
    intro l
    induction l with
    | nil =>
      intro k prev m hd hm y hy
      obtain ⟨m, rfl⟩ : ∃ j, m = j + 1 := ⟨m - 1, by simp at hm; omega⟩
      have hk : (ins t).length ≤ k := by simpa using hd
      rw [rounds_out (y := .inl (((), ()), (t, ()), ())) (by simp only [G_89_3]; rw [decide_eq_false (by omega : ¬ ((k : Int) < ((ins t).length : Int)))]; rfl)] at hy
      exact .inl ⟨(Option.some.inj hy).symm, by simp⟩
    | cons a l ih =>
      intro k prev m hd hm y hy
      obtain ⟨m, rfl⟩ : ∃ j, m = j + 1 := ⟨m - 1, by simp at hm; omega⟩
      have hk : k < (ins t).length := by
        rcases Nat.lt_or_ge k (ins t).length with h | h
        · exact h
        · rw [List.drop_eq_nil_of_le h] at hd; cases hd
      have ha : (ins t)[k]? = some a := by rw [← List.head?_drop, hd]; rfl
      have hd' : (ins t).drop (k + 1) = l := by rw [← List.tail_drop, hd]; rfl
      have hG : G_89_3 prev (ins t) ((ins t).length : Int) (k : Int) (t, ()) = (bif decide (a ≤ prev) then some (.inr (.inr ((false, ()), ()))) else bif !(decide (a ≥ 1) && decide (a ≤ 1000000)) then some (.inr (.inr ((false, ()), ()))) else bif a == t.1 then some (.inr (.inr ((false, ()), ()))) else some (.inl (((), a, ins t, ((ins t).length : Int), ((k + 1 : Nat) : Int), ()), (t, ()), ()))) := by
        simp only [G_89_3, dec_lt hk, dec_in hk, cond_true, getD_of ha, wrap_up hk (by have : (ins t).length ≤ 1000000000 := hl; omega), v_86, Option.bind_some]
      have out : ∀ z, G_89_3 prev (ins t) ((ins t).length : Int) (k : Int) (t, ()) = some (.inr z) → y = z := by
        intro z hz
        rw [rounds_out hz] at hy
        exact (Option.some.inj hy).symm
      cases c1 : decide (a ≤ prev) with
      | true => rw [c1] at hG; exact .inr (out _ hG)
      | false =>
        rw [c1] at hG
        cases c2 : (decide (a ≥ 1) && decide (a ≤ 1000000)) with
        | false => rw [c2] at hG; exact .inr (out _ hG)
        | true =>
          rw [c2] at hG
          cases c3 : (a == t.1) with
          | true => rw [c3] at hG; exact .inr (out _ hG)
          | false =>
            rw [c3] at hG
            rw [rounds_in (x' := (((), a, ins t, ((ins t).length : Int), ((k + 1 : Nat) : Int), ()), (t, ()), ())) hG] at hy
            rcases ih (k + 1) a m hd' (by simp at hm; omega) y hy with ⟨h1, h2⟩ | h1
            · refine .inl ⟨h1, fun n hn => ?_⟩
              rcases List.mem_cons.1 hn with rfl | hn
              · simpa using c2
              · exact h2 n hn
            · exact .inr h1
  unfold F_89 R_89_3 at h
  obtain ⟨y, hy, h⟩ := Option.bind_eq_some_iff.1 h
  rcases key (ins t) 0 0 fuel rfl (fuel_lt hl) y hy with ⟨rfl, h2⟩ | rfl
  · refine ⟨h2, ?_⟩
    simp only [Sum.elim_inl] at h
    obtain ⟨k1, h⟩ := and_of h
    have := of_decide_eq_true (bool_of h)
    show (t.2.2.2.2).length ≤ 8
    omega
  · cases h
theorem fits64 {v : Int} (h : I.wf v) : Fits v 8 := by
  have h : (Lit.int IntKind.i64 v).wf = true := h
  simp only [Lit.wf, Bool.and_eq_true, decide_eq_true_eq] at h
  have e1 : IntKind.i64.min = -9223372036854775808 := by decide
  have e2 : IntKind.i64.max = 9223372036854775807 := by decide
  rw [e1, e2] at h
  exact .inl ⟨rfl, h.1, h.2⟩
theorem fits {v : Int} {n : Nat} (hn : n ≤ 7) (h1 : 0 ≤ v) (h2 : v < (256 : Int) ^ n) : Fits v n := .inr ⟨hn, h1, h2⟩
theorem fit1 {v : Int} (h1 : 0 ≤ v) (h2 : v < 256) : Fits v 1 := fits (by decide) h1 (by rw [show (256 : Int) ^ 1 = 256 from rfl]; exact h2)
theorem fit2 {v : Int} (h1 : 0 ≤ v) (h2 : v < 65536) : Fits v 2 := fits (by decide) h1 (by rw [show (256 : Int) ^ 2 = 65536 from rfl]; exact h2)
theorem fit4 {v : Int} (h1 : 0 ≤ v) (h2 : v < 4294967296) : Fits v 4 := fits (by decide) h1 (by rw [show (256 : Int) ^ 4 = 4294967296 from rfl]; exact h2)
theorem r_63 (s : List UInt8) (id kind : Int) (b : Body) (j : Joint) (r : List UInt8) : ∀ (l : List Int), (∀ n ∈ l, 1 ≤ n ∧ n ≤ 1000000) → ∀ (row : List Int) (m : Nat), row.length + l.length ≤ 1000000 → l.length < m →
    roundsT (fun x => G_63_18 x.1.1 x.1.2.2.2.2.1 x.2.1 x.2.2.1 x.2.2.2.1 x.2.2.2.2.1) m ((s, (), (), (), (l.length : Int), ()), (noThing, ()), (toS (insI l) ++ r, false, ()), (id, kind, b, j, (), ()), row, ()) =
      some (.inl ((s, (), (), (), ()), (noThing, ()), (r, false, ()), (id, kind, b, j, (), ()), row ++ l, ()))
  | [], _, row, m, h1, hm => by
    obtain ⟨m, rfl⟩ : ∃ k, m = k + 1 := ⟨m - 1, by simp at hm; omega⟩
    refine rounds_out ?_ m
    simp only [G_63_18]
    rw [decide_eq_false (by simp : ¬ ((([] : List Int).length : Int) > 0)), cond_false, List.append_nil]
    rfl
  | a :: l, hl, row, m, h1, hm => by
    obtain ⟨m, rfl⟩ : ∃ k, m = k + 1 := ⟨m - 1, by simp at hm; omega⟩
    have ha := hl a (by simp)
    have e1 := v_104 (fit4 (by omega : 0 ≤ a) (by omega)) (toS (insI l) ++ r)
    rw [show ((4 : Nat) : Int) = 4 from rfl] at e1
    have e2 : toS (insI (a :: l)) = toS (numI a 4) ++ toS (insI l) := by rw [← toS_app]; rfl
    simp only [List.length_cons] at h1 hm
    rw [rounds_in (x' := ((s, (), (), (), (l.length : Int), ()), (noThing, ()), (toS (insI l) ++ r, false, ()), (id, kind, b, j, (), ()), row ++ [a], ())) ?_ m]
    · rw [r_63 s id kind b j r l (fun n hn => hl n (by simp [hn])) (row ++ [a]) m (by simp; omega) (by omega), List.append_assoc]
      rfl
    · simp only [G_63_18]
      rw [decide_eq_true (by simp : (((a :: l).length : Nat) : Int) > 0), cond_true, e2, List.append_assoc, e1]
      simp only [Option.bind_some]
      rw [show Nat.ble ((row.length + [a].length) * 8) 70368744177664 = true from Nat.ble_eq_true_of_le (by simp; omega), cond_true, wrap64 (x := ((a :: l).length : Int) - 1) (by simp only [List.length_cons]; omega) (by simp only [List.length_cons]; omega)]
      have e3 : ((a :: l).length : Int) - 1 = (l.length : Int) := by simp
      rw [e3]
theorem v_63 (t : Thing) (hw : tThing.wf t) (hl : t.2.2.2.2.length ≤ 1000000) (h : rt t = true) : F_63 (toS (putI t)) = some ((t, true, ()) : Els [tThing, .bool]) := by
  obtain ⟨hid, hp⟩ := rt_parts (by omega) h
  have h61 := v_61 t hl
  rw [h, cond_true] at h61
  have f1 : ∀ (v : Int), Fits v 1 → ∀ r, F_104 1 (toS (numI v 1) ++ r, false, ()) = some ((v, ()), (r, false, ()), ()) := fun v hv r => v_104 hv r
  have f4 : ∀ (v : Int), Fits v 4 → ∀ r, F_104 4 (toS (numI v 4) ++ r, false, ()) = some ((v, ()), (r, false, ()), ()) := fun v hv r => v_104 hv r
  have f8 : ∀ (v : Int), Fits v 8 → ∀ r, F_104 8 (toS (numI v 8) ++ r, false, ()) = some ((v, ()), (r, false, ()), ()) := fun v hv r => v_104 hv r
  generalize hs : toS (putI t) = s at *
  obtain ⟨(id : Int), (kind : Int), b, j, (l : List Int)⟩ := t
  have hid : (1 : Int) ≤ id ∧ id ≤ 1000000 := hid
  have hl : l.length ≤ 1000000 := hl
  obtain ⟨w1, w2, w3, w4, w5⟩ := hw
  have hs0 : s = toS (numI kind 1) ++ (toS (numI id 4) ++ toS (bif kind == (1 : Int) then bodyI b else bif kind == (2 : Int) then jointI j else bif kind == (3 : Int) then numI (l.length : Int) 1 ++ insI l else [])) := by
    rw [← hs, ← toS_app, ← toS_app]; rfl
  have hid4 : Fits id 4 := fit4 (by have := hid.1; omega) (by have := hid.2; omega)
  rcases hp with ⟨rfl, rfl, hi, hsh⟩ | ⟨rfl, rfl, hi, hA, hB, _, _, _⟩ | ⟨rfl, rfl, rfl, h89⟩
  · have hl0 : l = [] := hi
    subst hl0
    obtain ⟨b1, b2, b3, b4, b5⟩ := b
    obtain ⟨x1, x2, x3, x4, x5⟩ := w3
    have hs1 : s = toS (numI 1 1) ++ (toS (numI id 4) ++ (toS (numI b1 1) ++ (toS (vecI b2) ++ (toS (numI b3 8) ++ (toS (vecI b4) ++ (toS (vecI b5) ++ [])))))) := by
      rw [hs0]; simp only [beq_self_eq_true, cond_true, bodyI, toS_app, List.append_nil]
    unfold F_63
    rw [hs1, f1 1 (fit1 (by decide) (by decide))]
    simp only [Option.bind_some]
    rw [f4 id hid4]
    simp only [Option.bind_some, beq_self_eq_true, cond_true]
    rw [f1 b1 (by rcases hsh with h | h <;> (have h : b1 = _ := h; rw [h]; exact fit1 (by decide) (by decide)))]
    simp only [Option.bind_some]
    rw [v_105 b2 (fits64 x2.1) (fits64 x2.2)]
    simp only [Option.bind_some]
    rw [f8 b3 (fits64 x3)]
    simp only [Option.bind_some]
    rw [v_105 b4 (fits64 x4.1) (fits64 x4.2)]
    simp only [Option.bind_some]
    rw [v_105 b5 (fits64 x5.1) (fits64 x5.2)]
    simp only [Option.bind_some]
    rw [← hs1]
    have h61' : F_61 (id, 1, (b1, b2, b3, b4, b5), ((0 : Int), (0 : Int), (0 : Int)), []) = _ := h61
    rw [h61']
    simp only [Option.bind_some, cond_false, Bool.not_true, beq_self_eq_true]
    rfl
  · have hl0 : l = [] := hi
    subst hl0
    obtain ⟨(j1 : Int), (j2 : Int), (j3 : Int)⟩ := j
    obtain ⟨x1, x2, x3⟩ := w4
    have hA : 1 ≤ j1 ∧ j1 ≤ 1000000 := hA
    have hB : 1 ≤ j2 ∧ j2 ≤ 1000000 := hB
    have hs1 : s = toS (numI 2 1) ++ (toS (numI id 4) ++ (toS (numI j1 4) ++ (toS (numI j2 4) ++ (toS (numI j3 8) ++ [])))) := by
      rw [hs0]; simp only [show ((2 : Int) == 1) = false from rfl, beq_self_eq_true, cond_true, cond_false, jointI, toS_app, List.append_nil]
    unfold F_63
    rw [hs1, f1 2 (fit1 (by decide) (by decide))]
    simp only [Option.bind_some]
    rw [f4 id hid4]
    simp only [Option.bind_some, show ((2 : Int) == 1) = false from rfl, beq_self_eq_true, cond_true, cond_false]
    rw [f4 j1 (fit4 (by omega) (by omega))]
    simp only [Option.bind_some]
    rw [f4 j2 (fit4 (by omega) (by omega))]
    simp only [Option.bind_some]
    rw [f8 j3 (fits64 x3)]
    simp only [Option.bind_some]
    rw [← hs1]
    have h61' : F_61 (id, 2, ((0 : Int), ((0 : Int), (0 : Int)), (0 : Int), ((0 : Int), (0 : Int)), (0 : Int), (0 : Int)), (j1, j2, j3), []) = _ := h61
    rw [h61']
    simp only [Option.bind_some, cond_false, Bool.not_true, beq_self_eq_true]
    rfl
  · obtain ⟨hm, hm8⟩ := mem_89 (t := (id, 3, noBody, noJoint, l)) (by show l.length ≤ 1000000000; omega) h89
    have hm : ∀ n ∈ l, 1 ≤ n ∧ n ≤ 1000000 := hm
    have hm8 : l.length ≤ 8 := hm8
    have hs1 : s = toS (numI 3 1) ++ (toS (numI id 4) ++ (toS (numI (l.length : Int) 1) ++ (toS (insI l) ++ []))) := by
      rw [hs0]; simp only [show ((3 : Int) == 1) = false from rfl, show ((3 : Int) == 2) = false from rfl, beq_self_eq_true, cond_true, cond_false, toS_app, List.append_nil]
    unfold F_63
    rw [hs1, f1 3 (fit1 (by decide) (by decide))]
    simp only [Option.bind_some]
    rw [f4 id hid4]
    simp only [Option.bind_some, show ((3 : Int) == 1) = false from rfl, show ((3 : Int) == 2) = false from rfl, beq_self_eq_true, cond_true, cond_false]
    rw [f1 (l.length : Int) (fit1 (by omega) (by omega))]
    simp only [Option.bind_some]
    rw [← hs1]
    have hr := r_63 s id 3 noBody noJoint [] l hm [] fuel (by simp; omega) (fuel_lt (by omega))
    have hr' : R_63_18 ((s, (), (), (), (l.length : Int), ()), (((0 : Int), (0 : Int), ((0 : Int), ((0 : Int), (0 : Int)), (0 : Int), ((0 : Int), (0 : Int)), (0 : Int), (0 : Int)), ((0 : Int), (0 : Int), (0 : Int)), []), ()), (toS (insI l) ++ [], false, ()), (id, 3, ((0 : Int), ((0 : Int), (0 : Int)), (0 : Int), ((0 : Int), (0 : Int)), (0 : Int), (0 : Int)), ((0 : Int), (0 : Int), (0 : Int)), (), ()), [], ()) = _ := hr
    rw [hr']
    simp only [Option.bind_some, Sum.elim_inl]
    have h61' : F_61 (id, 3, noBody, noJoint, [] ++ l) = _ := h61
    rw [h61']
    simp only [Option.bind_some, cond_false, Bool.not_true, beq_self_eq_true]
    rfl
end Go.DI.S
