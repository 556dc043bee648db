import Derived.Test.YtehbnnmokbgiiaaGreatBb
/- The document's own reckoning: told by functions on data. No conditions. -/
/-! The program's functions, told by functions on data. -/
set_option linter.unusedVariables false
set_option maxRecDepth 100000
set_option maxHeartbeats 0
namespace Go.DI.S
open Go.Proofs
/-! ### 157: (*maquette/maquetteref1.Calc).fail -/
noncomputable def c_157 : Code := Tryz.f157.body.getD .skip
theorem hb_157 : Tryz.f157.body = some c_157 := by kernel_rfl
theorem hf_157 : CT.P.funcs[157]? = some Tryz.f157 := by kernel_rfl
noncomputable abbrev IN_157 : LayD := ⟨2, [(0, .ptr 0), (1, .data I)], [.var 45 [.data I]], fun s => [slotR s 0]⟩
noncomputable abbrev OUT_157 : LayD := ⟨1, [(0, .data I)], [.var 45 [.data I]], fun _ => [0]⟩
noncomputable def T_157 : Tb := mkTb tyT mpT []
theorem T_157_ok : T_157.Ok CT.P := mkTb_ok (trivial)
noncomputable def lp_157 {β : Type} : LpT β := fun _ _ _ => none
theorem lp_157_ok {β : Type} : LpTOk (CTp 1) (lp_157 (β := β)) (loopsOf c_157) := by
  have h : loopsOf c_157 = [] := by kernel_rfl
  rw [h]
  exact LpTOk.nil
noncomputable def F_157 (a1 : Ty.El I) (b0 : Ty.El I × Unit) : Option OUT_157.El := bif b0.fst == (0 : Int) then Option.some (((0 : Int), ()), (a1, ()), ()) else Option.some (((0 : Int), ()), (b0.fst, ()), ())
theorem f_157 (x : IN_157.El) : funcX (CTp 1) T_157 IN_157 OUT_157 [] (drT (CTp 1) T_157) lp_157 Tryz.f157 c_157 x = F_157 x.1.2.1 x.2.1 := by kernel_rfl
noncomputable def E_157 : Ent := .mkGen 157 [] ⟨1, [], IN_157, OUT_157, fun x => F_157 x.1.2.1 x.2.1⟩
theorem e_157 : E_157.Ok CT.P := Ent.ofGen (C := (CTp 1)) (steps := []) (osteps := []) (CTp_ok 1) T_157_ok hf_157 hb_157 lp_157_ok f_157
/-! ### 67: (*maquette/maquetteref1.Calc).Add -/
noncomputable def c_67 : Code := Tryz.f67.body.getD .skip
theorem hb_67 : Tryz.f67.body = some c_67 := by kernel_rfl
theorem hf_67 : CT.P.funcs[67]? = some Tryz.f67 := by kernel_rfl
noncomputable abbrev IN_67 : LayD := ⟨3, [(0, .ptr 0), (1, .data I), (2, .data I)], [.var 45 [.data I]], fun s => [slotR s 0]⟩
noncomputable abbrev OUT_67 : LayD := ⟨1, [(0, .data I)], [.var 45 [.data I]], fun _ => [0]⟩
noncomputable def T_67 : Tb := mkTb tyT mpT [E_157]
theorem T_67_ok : T_67.Ok CT.P := mkTb_ok (⟨e_157, trivial⟩)
noncomputable def lp_67 {β : Type} : LpT β := fun _ _ _ => none
theorem lp_67_ok {β : Type} : LpTOk (CTp 1) (lp_67 (β := β)) (loopsOf c_67) := by
  have h : loopsOf c_67 = [] := by kernel_rfl
  rw [h]
  exact LpTOk.nil
noncomputable def F_67 (a1 : Ty.El I) (a2 : Ty.El I) (b0 : Ty.El I × Unit) : Option OUT_67.El := bif b0.fst != (0 : Int) then Option.some (((0 : Int), ()), (b0.fst, ()), ()) else bif Decidable.decide (a2 > (0 : Int)) then bif Decidable.decide (a1 > Go.IntKind.i64.wrap ((9223372036854775807 : Int) - a2)) then (F_157 (3 : Int) (b0.fst, ())).bind fun v2 => Option.some ((v2.fst.fst, ()), (v2.snd.fst.fst, ()), ()) else bif Decidable.decide (a2 < (0 : Int)) then bif Decidable.decide (a1 < Go.IntKind.i64.wrap ((-9223372036854775808 : Int) - a2)) then (F_157 (3 : Int) (b0.fst, ())).bind fun v8 => Option.some ((v8.fst.fst, ()), (v8.snd.fst.fst, ()), ()) else Option.some ((Go.IntKind.i64.wrap (a1 + a2), ()), (b0.fst, ()), ()) else Option.some ((Go.IntKind.i64.wrap (a1 + a2), ()), (b0.fst, ()), ()) else bif Decidable.decide (a2 < (0 : Int)) then bif Decidable.decide (a1 < Go.IntKind.i64.wrap ((-9223372036854775808 : Int) - a2)) then (F_157 (3 : Int) (b0.fst, ())).bind fun v14 => Option.some ((v14.fst.fst, ()), (v14.snd.fst.fst, ()), ()) else Option.some ((Go.IntKind.i64.wrap (a1 + a2), ()), (b0.fst, ()), ()) else Option.some ((Go.IntKind.i64.wrap (a1 + a2), ()), (b0.fst, ()), ())
theorem f_67 (x : IN_67.El) : funcX (CTp 1) T_67 IN_67 OUT_67 [] (drT (CTp 1) T_67) lp_67 Tryz.f67 c_67 x = F_67 x.1.2.1 x.1.2.2.1 x.2.1 := by kernel_rfl
noncomputable def E_67 : Ent := .mkGen 67 [] ⟨1, [], IN_67, OUT_67, fun x => F_67 x.1.2.1 x.1.2.2.1 x.2.1⟩
theorem e_67 : E_67.Ok CT.P := Ent.ofGen (C := (CTp 1)) (steps := []) (osteps := []) (CTp_ok 1) T_67_ok hf_67 hb_67 lp_67_ok f_67
/-! ### 68: (*maquette/maquetteref1.Calc).Sub -/
noncomputable def c_68 : Code := Tryz.f68.body.getD .skip
theorem hb_68 : Tryz.f68.body = some c_68 := by kernel_rfl
theorem hf_68 : CT.P.funcs[68]? = some Tryz.f68 := by kernel_rfl
noncomputable abbrev IN_68 : LayD := ⟨3, [(0, .ptr 0), (1, .data I), (2, .data I)], [.var 45 [.data I]], fun s => [slotR s 0]⟩
noncomputable abbrev OUT_68 : LayD := ⟨1, [(0, .data I)], [.var 45 [.data I]], fun _ => [0]⟩
noncomputable def T_68 : Tb := mkTb tyT mpT [E_157]
theorem T_68_ok : T_68.Ok CT.P := mkTb_ok (⟨e_157, trivial⟩)
noncomputable def lp_68 {β : Type} : LpT β := fun _ _ _ => none
theorem lp_68_ok {β : Type} : LpTOk (CTp 1) (lp_68 (β := β)) (loopsOf c_68) := by
  have h : loopsOf c_68 = [] := by kernel_rfl
  rw [h]
  exact LpTOk.nil
noncomputable def F_68 (a1 : Ty.El I) (a2 : Ty.El I) (b0 : Ty.El I × Unit) : Option OUT_68.El := bif b0.fst != (0 : Int) then Option.some (((0 : Int), ()), (b0.fst, ()), ()) else bif Decidable.decide (a2 < (0 : Int)) then bif Decidable.decide (a1 > Go.IntKind.i64.wrap ((9223372036854775807 : Int) + a2)) then (F_157 (3 : Int) (b0.fst, ())).bind fun v2 => Option.some ((v2.fst.fst, ()), (v2.snd.fst.fst, ()), ()) else bif Decidable.decide (a2 > (0 : Int)) then bif Decidable.decide (a1 < Go.IntKind.i64.wrap ((-9223372036854775808 : Int) + a2)) then (F_157 (3 : Int) (b0.fst, ())).bind fun v8 => Option.some ((v8.fst.fst, ()), (v8.snd.fst.fst, ()), ()) else Option.some ((Go.IntKind.i64.wrap (a1 - a2), ()), (b0.fst, ()), ()) else Option.some ((Go.IntKind.i64.wrap (a1 - a2), ()), (b0.fst, ()), ()) else bif Decidable.decide (a2 > (0 : Int)) then bif Decidable.decide (a1 < Go.IntKind.i64.wrap ((-9223372036854775808 : Int) + a2)) then (F_157 (3 : Int) (b0.fst, ())).bind fun v14 => Option.some ((v14.fst.fst, ()), (v14.snd.fst.fst, ()), ()) else Option.some ((Go.IntKind.i64.wrap (a1 - a2), ()), (b0.fst, ()), ()) else Option.some ((Go.IntKind.i64.wrap (a1 - a2), ()), (b0.fst, ()), ())
theorem f_68 (x : IN_68.El) : funcX (CTp 1) T_68 IN_68 OUT_68 [] (drT (CTp 1) T_68) lp_68 Tryz.f68 c_68 x = F_68 x.1.2.1 x.1.2.2.1 x.2.1 := by kernel_rfl
noncomputable def E_68 : Ent := .mkGen 68 [] ⟨1, [], IN_68, OUT_68, fun x => F_68 x.1.2.1 x.1.2.2.1 x.2.1⟩
theorem e_68 : E_68.Ok CT.P := Ent.ofGen (C := (CTp 1)) (steps := []) (osteps := []) (CTp_ok 1) T_68_ok hf_68 hb_68 lp_68_ok f_68
/-! ### 219: maquette/maquetteref1.abs -/
noncomputable def c_219 : Code := Tryz.f219.body.getD .skip
theorem hb_219 : Tryz.f219.body = some c_219 := by kernel_rfl
theorem hf_219 : CT.P.funcs[219]? = some Tryz.f219 := by kernel_rfl
noncomputable def T_219 : Tb := mkTb tyT mpT []
theorem T_219_ok : T_219.Ok CT.P := mkTb_ok (trivial)
noncomputable def lp_219 {β : Type} : LpT β := fun _ _ _ => none
theorem lp_219_ok {β : Type} : LpTOk CT (lp_219 (β := β)) (loopsOf c_219) := by
  have h : loopsOf c_219 = [] := by kernel_rfl
  rw [h]
  exact LpTOk.nil
noncomputable def F_219 (a1 : Ty.El I) : Option (Els [.int .u64]) := bif Decidable.decide (a1 < (0 : Int)) then Option.some (Go.IntKind.u64.wrap ((0 : Int) - Go.IntKind.u64.wrap a1), ()) else Option.some (Go.IntKind.u64.wrap a1, ())
theorem f_219 (x : Ps [.ty I]) : funcT CT T_219 [.int .u64] (drT CT T_219) lp_219 Tryz.f219 c_219 (encPs [.ty I] x) = F_219 x.1 := by kernel_rfl
noncomputable def E_219 : Ent := .fn 219 [] ⟨[.ty I], [.int .u64], fun x => F_219 x.1, false⟩
theorem e_219 : E_219.Ok CT.P := Ent.ofFn CT_ok T_219_ok hf_219 hb_219 lp_219_ok f_219
noncomputable def E_219h : Ent := .fn 219 [] ⟨[.ty I], [.int .u64], fun x => F_219 x.1, true⟩
/-! ### 221: (*maquette/maquetteref1.Calc).signed -/
noncomputable def c_221 : Code := Tryz.f221.body.getD .skip
theorem hb_221 : Tryz.f221.body = some c_221 := by kernel_rfl
theorem hf_221 : CT.P.funcs[221]? = some Tryz.f221 := by kernel_rfl
noncomputable abbrev IN_221 : LayD := ⟨3, [(0, .ptr 0), (1, .data .bool), (2, .data (.int .u64))], [.var 45 [.data I]], fun s => [slotR s 0]⟩
noncomputable abbrev OUT_221 : LayD := ⟨1, [(0, .data I)], [.var 45 [.data I]], fun _ => [0]⟩
noncomputable def T_221 : Tb := mkTb tyT mpT [E_157]
theorem T_221_ok : T_221.Ok CT.P := mkTb_ok (⟨e_157, trivial⟩)
noncomputable def lp_221 {β : Type} : LpT β := fun _ _ _ => none
theorem lp_221_ok {β : Type} : LpTOk (CTp 1) (lp_221 (β := β)) (loopsOf c_221) := by
  have h : loopsOf c_221 = [] := by kernel_rfl
  rw [h]
  exact LpTOk.nil
noncomputable def F_221 (a1 : Ty.El .bool) (a2 : Ty.El (.int .u64)) (b0 : Ty.El I × Unit) : Option OUT_221.El := bif a1 then bif Decidable.decide (a2 > (9223372036854775808 : Int)) then (F_157 (3 : Int) (b0.fst, ())).bind fun v2 => Option.some ((v2.fst.fst, ()), (v2.snd.fst.fst, ()), ()) else Option.some ((Go.IntKind.i64.wrap (Go.IntKind.u64.wrap ((0 : Int) - a2)), ()), (b0.fst, ()), ()) else bif Decidable.decide (a2 > (9223372036854775807 : Int)) then (F_157 (3 : Int) (b0.fst, ())).bind fun v8 => Option.some ((v8.fst.fst, ()), (v8.snd.fst.fst, ()), ()) else Option.some ((Go.IntKind.i64.wrap a2, ()), (b0.fst, ()), ())
theorem f_221 (x : IN_221.El) : funcX (CTp 1) T_221 IN_221 OUT_221 [] (drT (CTp 1) T_221) lp_221 Tryz.f221 c_221 x = F_221 x.1.2.1 x.1.2.2.1 x.2.1 := by kernel_rfl
noncomputable def E_221 : Ent := .mkGen 221 [] ⟨1, [], IN_221, OUT_221, fun x => F_221 x.1.2.1 x.1.2.2.1 x.2.1⟩
theorem e_221 : E_221.Ok CT.P := Ent.ofGen (C := (CTp 1)) (steps := []) (osteps := []) (CTp_ok 1) T_221_ok hf_221 hb_221 lp_221_ok f_221
/-! ### 222: maquette/maquetteref1.Root -/
noncomputable def c_222 : Code := Tryz.f222.body.getD .skip
theorem hb_222 : Tryz.f222.body = some c_222 := by kernel_rfl
theorem hf_222 : CT.P.funcs[222]? = some Tryz.f222 := by kernel_rfl
noncomputable def T_222 : Tb := mkTb tyT mpT [E_218]
theorem T_222_ok : T_222.Ok CT.P := mkTb_ok (⟨e_218, trivial⟩)
noncomputable def l_222_3 : Code := atLoop c_222 3
noncomputable abbrev LD_222_3 : LayD := ⟨40, [(0, .data (.int .u64)), (1, .data (.int .u64)), (5, .data (.int .u64)), (6, .data I)], [], fun _ => []⟩
noncomputable abbrev LA_222_3 : LayD := ⟨40, [(5, .data (.int .u64))], [], fun _ => []⟩
noncomputable abbrev LB_222_3 : LayD := ⟨40, [], [], fun _ => []⟩
noncomputable def EX_222_3 : Exits 0 LA_222_3.El LB_222_3.El := ⟨.exit 0, LA_222_3.lay [], .ret, LB_222_3.lay []⟩

noncomputable def lpi_222_3 {β : Type} : LpT β := fun _ _ _ => none
theorem lpi_222_3_ok {β : Type} : LpTOk CT (lpi_222_3 (β := β)) (loopsOf l_222_3) := by
  have h : loopsOf l_222_3 = [] := by kernel_rfl
  rw [h]
  exact LpTOk.nil
noncomputable def G_222_3 (r0 : Ty.El (.int .u64)) (r1 : Ty.El (.int .u64)) (r5 : Ty.El (.int .u64)) (r6 : Ty.El I) : Option (LD_222_3.El ⊕ (LA_222_3.El ⊕ LB_222_3.El)) := bif Decidable.decide (r6 ≥ (0 : Int)) then bif Decidable.decide (Go.IntKind.u64.wrap r6 < (0 : Int)) then Option.none else (F_218 (Go.DI.bOr Go.IntKind.u64 r5 (Go.IntKind.u64.wrap ((1 : Int) * (2 : Int) ^ Min.min (Go.IntKind.u64.wrap r6).toNat (64 : Nat)))) (Go.DI.bOr Go.IntKind.u64 r5 (Go.IntKind.u64.wrap ((1 : Int) * (2 : Int) ^ Min.min (Go.IntKind.u64.wrap r6).toNat (64 : Nat))))).bind fun v2 => bif Decidable.decide (v2.fst < r0) then Option.some (Sum.inl ((r0, r1, Go.DI.bOr Go.IntKind.u64 r5 (Go.IntKind.u64.wrap ((1 : Int) * (2 : Int) ^ Min.min (Go.IntKind.u64.wrap r6).toNat (64 : Nat))), Go.IntKind.i64.wrap (r6 - (1 : Int)), ()), ())) else bif v2.fst == r0 then bif Decidable.decide (v2.snd.fst ≤ r1) then Option.some (Sum.inl ((r0, r1, Go.DI.bOr Go.IntKind.u64 r5 (Go.IntKind.u64.wrap ((1 : Int) * (2 : Int) ^ Min.min (Go.IntKind.u64.wrap r6).toNat (64 : Nat))), Go.IntKind.i64.wrap (r6 - (1 : Int)), ()), ())) else Option.some (Sum.inl ((r0, r1, r5, Go.IntKind.i64.wrap (r6 - (1 : Int)), ()), ())) else Option.some (Sum.inl ((r0, r1, r5, Go.IntKind.i64.wrap (r6 - (1 : Int)), ()), ())) else Option.some (Sum.inr (Sum.inl ((r5, ()), ())))
theorem g_222_3 (x : LD_222_3.El) : codeT CT T_222 (drT CT T_222) lpi_222_3 l_222_3 (LD_222_3.enc x) (bodyK (LD_222_3.lay []) EX_222_3) = G_222_3 x.1.1 x.1.2.1 x.1.2.2.1 x.1.2.2.2.1 := by kernel_rfl
noncomputable def R_222_3 : LD_222_3.El → Option (LA_222_3.El ⊕ LB_222_3.El) := roundsT (fun x => G_222_3 x.1.1 x.1.2.1 x.1.2.2.1 x.1.2.2.2.1) fuel
theorem r_222_3 : ∀ x y, R_222_3 x = some y → CL CT l_222_3 (LD_222_3.enc x) (Sum.elim (fun _ => EX_222_3.xa) (fun _ => EX_222_3.xb) y) (Sum.elim EX_222_3.la.enc EX_222_3.lb.enc y) :=
  rounds_ok (L := LD_222_3.lay []) (E := EX_222_3) CT_ok T_222_ok (drT_ok CT_ok T_222_ok) lpi_222_3_ok g_222_3 rfl rfl (fun v h => by have hh : (.exit 0 : AX) = .pan v := h; cases hh) (fun v h => by have hh : (.ret : AX) = .pan v := h; cases hh) fuel
noncomputable def lp_222 {β : Type} : LpT β := fun k s K => if Nat.beq k 3 then lpOne (LD_222_3.lay []) EX_222_3 R_222_3 s K else none
theorem lp_222_ok {β : Type} : LpTOk CT (lp_222 (β := β)) (loopsOf c_222) := by
  have h : loopsOf c_222 = [(3, l_222_3)] := by kernel_rfl
  rw [h]
  exact LpTOk.cons (fun s K z h => lpOne_ok r_222_3 h) (LpTOk.nil)
noncomputable def F_222 (a1 : Ty.El (.int .u64)) (a2 : Ty.El (.int .u64)) : Option (Els [.int .u64]) := (R_222_3 ((a1, a2, (0 : Int), (63 : Int), ()), ())).bind fun v1 => Sum.elim (fun v2 => Option.some (v2.fst.fst, ())) (fun v3 => Option.none) v1
theorem f_222 (x : Ps [.ty (.int .u64), .ty (.int .u64)]) : funcT CT T_222 [.int .u64] (drT CT T_222) lp_222 Tryz.f222 c_222 (encPs [.ty (.int .u64), .ty (.int .u64)] x) = F_222 x.1 x.2.1 := by kernel_rfl
noncomputable def E_222 : Ent := .fn 222 [] ⟨[.ty (.int .u64), .ty (.int .u64)], [.int .u64], fun x => F_222 x.1 x.2.1, false⟩
theorem e_222 : E_222.Ok CT.P := Ent.ofFn CT_ok T_222_ok hf_222 hb_222 lp_222_ok f_222
noncomputable def E_222h : Ent := .fn 222 [] ⟨[.ty (.int .u64), .ty (.int .u64)], [.int .u64], fun x => F_222 x.1 x.2.1, true⟩
/-! ### 155: (*maquette/maquetteref1.Calc).Len -/
noncomputable def c_155 : Code := Tryz.f155.body.getD .skip
theorem hb_155 : Tryz.f155.body = some c_155 := by kernel_rfl
theorem hf_155 : CT.P.funcs[155]? = some Tryz.f155 := by kernel_rfl
noncomputable abbrev IN_155 : LayD := ⟨3, [(0, .ptr 0), (1, .data I), (2, .data I)], [.var 45 [.data I]], fun s => [slotR s 0]⟩
noncomputable abbrev OUT_155 : LayD := ⟨1, [(0, .data I)], [.var 45 [.data I]], fun _ => [0]⟩
noncomputable def T_155 : Tb := mkTb tyT mpT [E_219, E_218, E_220, E_157, E_221, E_222]
theorem T_155_ok : T_155.Ok CT.P := mkTb_ok (⟨e_219, e_218, e_220, e_157, e_221, e_222, trivial⟩)
noncomputable def lp_155 {β : Type} : LpT β := fun _ _ _ => none
theorem lp_155_ok {β : Type} : LpTOk (CTp 1) (lp_155 (β := β)) (loopsOf c_155) := by
  have h : loopsOf c_155 = [] := by kernel_rfl
  rw [h]
  exact LpTOk.nil
noncomputable def F_155 (a1 : Ty.El I) (a2 : Ty.El I) (b0 : Ty.El I × Unit) : Option OUT_155.El := bif b0.fst != (0 : Int) then Option.some (((0 : Int), ()), (b0.fst, ()), ()) else (F_219 a1).bind fun v2 => (F_219 a1).bind fun v4 => (F_218 v2.fst v4.fst).bind fun v6 => (F_219 a2).bind fun v8 => (F_219 a2).bind fun v10 => (F_218 v8.fst v10.fst).bind fun v12 => bif Decidable.decide ((0 : Int) ≤ v6.snd.fst ∧ (0 : Int) ≤ v12.snd.fst ∧ (0 : Int) ≤ (0 : Int) ∧ (0 : Int) ≤ (1 : Int)) then bif Decidable.decide ((0 : Int) ≤ v6.fst ∧ (0 : Int) ≤ v12.fst ∧ (0 : Int) ≤ (v6.snd.fst + v12.snd.fst + (0 : Int)) / (18446744073709551616 : Int) ∧ (v6.snd.fst + v12.snd.fst + (0 : Int)) / (18446744073709551616 : Int) ≤ (1 : Int)) then bif Decidable.decide ((v6.fst + v12.fst + (v6.snd.fst + v12.snd.fst + (0 : Int)) / (18446744073709551616 : Int)) / (18446744073709551616 : Int) > (0 : Int)) then (F_157 (3 : Int) (b0.fst, ())).bind fun v14 => Option.some ((v14.fst.fst, ()), (v14.snd.fst.fst, ()), ()) else (F_222 ((v6.fst + v12.fst + (v6.snd.fst + v12.snd.fst + (0 : Int)) / (18446744073709551616 : Int)) % (18446744073709551616 : Int)) ((v6.snd.fst + v12.snd.fst + (0 : Int)) % (18446744073709551616 : Int))).bind fun v20 => (F_221 Bool.false v20.fst (b0.fst, ())).bind fun v22 => Option.some ((v22.fst.fst, ()), (v22.snd.fst.fst, ()), ()) else Option.none else Option.none
theorem f_155 (x : IN_155.El) : funcX (CTp 1) T_155 IN_155 OUT_155 [] (drT (CTp 1) T_155) lp_155 Tryz.f155 c_155 x = F_155 x.1.2.1 x.1.2.2.1 x.2.1 := by kernel_rfl
noncomputable def E_155 : Ent := .mkGen 155 [] ⟨1, [], IN_155, OUT_155, fun x => F_155 x.1.2.1 x.1.2.2.1 x.2.1⟩
theorem e_155 : E_155.Ok CT.P := Ent.ofGen (C := (CTp 1)) (steps := []) (osteps := []) (CTp_ok 1) T_155_ok hf_155 hb_155 lp_155_ok f_155
/-! ### 223: (*maquette/maquetteref1.Calc).Div -/
noncomputable def c_223 : Code := Tryz.f223.body.getD .skip
theorem hb_223 : Tryz.f223.body = some c_223 := by kernel_rfl
theorem hf_223 : CT.P.funcs[223]? = some Tryz.f223 := by kernel_rfl
noncomputable abbrev IN_223 : LayD := ⟨3, [(0, .ptr 0), (1, .data I), (2, .data I)], [.var 45 [.data I]], fun s => [slotR s 0]⟩
noncomputable abbrev OUT_223 : LayD := ⟨1, [(0, .data I)], [.var 45 [.data I]], fun _ => [0]⟩
noncomputable def T_223 : Tb := mkTb tyT mpT [E_157, E_219, E_280, E_221]
theorem T_223_ok : T_223.Ok CT.P := mkTb_ok (⟨e_157, e_219, e_280, e_221, trivial⟩)
noncomputable def lp_223 {β : Type} : LpT β := fun _ _ _ => none
theorem lp_223_ok {β : Type} : LpTOk (CTp 1) (lp_223 (β := β)) (loopsOf c_223) := by
  have h : loopsOf c_223 = [] := by kernel_rfl
  rw [h]
  exact LpTOk.nil
noncomputable def F_223 (a1 : Ty.El I) (a2 : Ty.El I) (b0 : Ty.El I × Unit) : Option OUT_223.El := bif b0.fst != (0 : Int) then Option.some (((0 : Int), ()), (b0.fst, ()), ()) else bif a2 == (0 : Int) then (F_157 (4 : Int) (b0.fst, ())).bind fun v2 => Option.some ((v2.fst.fst, ()), (v2.snd.fst.fst, ()), ()) else (F_219 a1).bind fun v8 => (F_219 a2).bind fun v10 => bif Decidable.decide (Int.fdiv v8.fst (4294967296 : Int) ≥ v10.fst) then (F_157 (3 : Int) (b0.fst, ())).bind fun v12 => Option.some ((v12.fst.fst, ()), (v12.snd.fst.fst, ()), ()) else (F_219 a2).bind fun v18 => (F_280 (Int.fdiv v8.fst (4294967296 : Int)) (Go.IntKind.u64.wrap (v8.fst * (4294967296 : Int))) v18.fst).bind fun v20 => (F_221 (!Decidable.decide (a1 < (0 : Int)) == Decidable.decide (a2 < (0 : Int))) v20.fst (b0.fst, ())).bind fun v22 => Option.some ((v22.fst.fst, ()), (v22.snd.fst.fst, ()), ())
theorem f_223 (x : IN_223.El) : funcX (CTp 1) T_223 IN_223 OUT_223 [] (drT (CTp 1) T_223) lp_223 Tryz.f223 c_223 x = F_223 x.1.2.1 x.1.2.2.1 x.2.1 := by kernel_rfl
noncomputable def E_223 : Ent := .mkGen 223 [] ⟨1, [], IN_223, OUT_223, fun x => F_223 x.1.2.1 x.1.2.2.1 x.2.1⟩
theorem e_223 : E_223.Ok CT.P := Ent.ofGen (C := (CTp 1)) (steps := []) (osteps := []) (CTp_ok 1) T_223_ok hf_223 hb_223 lp_223_ok f_223
/-! ### 156: (*maquette/maquetteref1.Calc).Over -/
noncomputable def c_156 : Code := Tryz.f156.body.getD .skip
theorem hb_156 : Tryz.f156.body = some c_156 := by kernel_rfl
theorem hf_156 : CT.P.funcs[156]? = some Tryz.f156 := by kernel_rfl
noncomputable abbrev IN_156 : LayD := ⟨3, [(0, .ptr 0), (1, .data tVec), (2, .data I)], [.var 45 [.data I]], fun s => [slotR s 0]⟩
noncomputable abbrev OUT_156 : LayD := ⟨1, [(0, .data tVec)], [.var 45 [.data I]], fun _ => [0]⟩
noncomputable def T_156 : Tb := mkTb tyT mpT [E_223]
theorem T_156_ok : T_156.Ok CT.P := mkTb_ok (⟨e_223, trivial⟩)
noncomputable def lp_156 {β : Type} : LpT β := fun _ _ _ => none
theorem lp_156_ok {β : Type} : LpTOk (CTp 1) (lp_156 (β := β)) (loopsOf c_156) := by
  have h : loopsOf c_156 = [] := by kernel_rfl
  rw [h]
  exact LpTOk.nil
noncomputable def F_156 (a1 : Ty.El tVec) (a2 : Ty.El I) (b0 : Ty.El I × Unit) : Option OUT_156.El := (F_223 a1.fst a2 (b0.fst, ())).bind fun v2 => (F_223 a1.snd a2 (v2.snd.fst.fst, ())).bind fun v6 => Option.some (((v2.fst.fst, v6.fst.fst), ()), (v6.snd.fst.fst, ()), ())
theorem f_156 (x : IN_156.El) : funcX (CTp 1) T_156 IN_156 OUT_156 [] (drT (CTp 1) T_156) lp_156 Tryz.f156 c_156 x = F_156 x.1.2.1 x.1.2.2.1 x.2.1 := by kernel_rfl
noncomputable def E_156 : Ent := .mkGen 156 [] ⟨1, [], IN_156, OUT_156, fun x => F_156 x.1.2.1 x.1.2.2.1 x.2.1⟩
theorem e_156 : E_156.Ok CT.P := Ent.ofGen (C := (CTp 1)) (steps := []) (osteps := []) (CTp_ok 1) T_156_ok hf_156 hb_156 lp_156_ok f_156
/-! ### 66: (*maquette/maquetteref1.Calc).Unit -/
noncomputable def c_66 : Code := Tryz.f66.body.getD .skip
theorem hb_66 : Tryz.f66.body = some c_66 := by kernel_rfl
theorem hf_66 : CT.P.funcs[66]? = some Tryz.f66 := by kernel_rfl
noncomputable abbrev IN_66 : LayD := ⟨2, [(0, .ptr 0), (1, .data tVec)], [.var 45 [.data I]], fun s => [slotR s 0]⟩
noncomputable abbrev OUT_66 : LayD := ⟨2, [(0, .data tVec), (1, .data I)], [.var 45 [.data I]], fun _ => [0]⟩
noncomputable def T_66 : Tb := mkTb tyT mpT [E_155, E_156]
theorem T_66_ok : T_66.Ok CT.P := mkTb_ok (⟨e_155, e_156, trivial⟩)
noncomputable def lp_66 {β : Type} : LpT β := fun _ _ _ => none
theorem lp_66_ok {β : Type} : LpTOk (CTp 1) (lp_66 (β := β)) (loopsOf c_66) := by
  have h : loopsOf c_66 = [] := by kernel_rfl
  rw [h]
  exact LpTOk.nil
noncomputable def F_66 (a1 : Ty.El tVec) (b0 : Ty.El I × Unit) : Option OUT_66.El := (F_155 a1.fst a1.snd (b0.fst, ())).bind fun v2 => bif v2.fst.fst == (0 : Int) then Option.some ((((0 : Int), (0 : Int)), (0 : Int), ()), (v2.snd.fst.fst, ()), ()) else (F_156 a1 v2.fst.fst (v2.snd.fst.fst, ())).bind fun v12 => Option.some ((v12.fst.fst, v2.fst.fst, ()), (v12.snd.fst.fst, ()), ())
theorem f_66 (x : IN_66.El) : funcX (CTp 1) T_66 IN_66 OUT_66 [] (drT (CTp 1) T_66) lp_66 Tryz.f66 c_66 x = F_66 x.1.2.1 x.2.1 := by kernel_rfl
noncomputable def E_66 : Ent := .mkGen 66 [] ⟨1, [], IN_66, OUT_66, fun x => F_66 x.1.2.1 x.2.1⟩
theorem e_66 : E_66.Ok CT.P := Ent.ofGen (C := (CTp 1)) (steps := []) (osteps := []) (CTp_ok 1) T_66_ok hf_66 hb_66 lp_66_ok f_66
/-! ### 65: (*maquette/maquetteref1.Calc).Less -/
noncomputable def c_65 : Code := Tryz.f65.body.getD .skip
theorem hb_65 : Tryz.f65.body = some c_65 := by kernel_rfl
theorem hf_65 : CT.P.funcs[65]? = some Tryz.f65 := by kernel_rfl
noncomputable abbrev IN_65 : LayD := ⟨3, [(0, .ptr 0), (1, .data tVec), (2, .data tVec)], [.var 45 [.data I]], fun s => [slotR s 0]⟩
noncomputable abbrev OUT_65 : LayD := ⟨1, [(0, .data tVec)], [.var 45 [.data I]], fun _ => [0]⟩
noncomputable def T_65 : Tb := mkTb tyT mpT [E_68]
theorem T_65_ok : T_65.Ok CT.P := mkTb_ok (⟨e_68, trivial⟩)
noncomputable def lp_65 {β : Type} : LpT β := fun _ _ _ => none
theorem lp_65_ok {β : Type} : LpTOk (CTp 1) (lp_65 (β := β)) (loopsOf c_65) := by
  have h : loopsOf c_65 = [] := by kernel_rfl
  rw [h]
  exact LpTOk.nil
noncomputable def F_65 (a1 : Ty.El tVec) (a2 : Ty.El tVec) (b0 : Ty.El I × Unit) : Option OUT_65.El := (F_68 a1.fst a2.fst (b0.fst, ())).bind fun v2 => (F_68 a1.snd a2.snd (v2.snd.fst.fst, ())).bind fun v6 => Option.some (((v2.fst.fst, v6.fst.fst), ()), (v6.snd.fst.fst, ()), ())
theorem f_65 (x : IN_65.El) : funcX (CTp 1) T_65 IN_65 OUT_65 [] (drT (CTp 1) T_65) lp_65 Tryz.f65 c_65 x = F_65 x.1.2.1 x.1.2.2.1 x.2.1 := by kernel_rfl
noncomputable def E_65 : Ent := .mkGen 65 [] ⟨1, [], IN_65, OUT_65, fun x => F_65 x.1.2.1 x.1.2.2.1 x.2.1⟩
theorem e_65 : E_65.Ok CT.P := Ent.ofGen (C := (CTp 1)) (steps := []) (osteps := []) (CTp_ok 1) T_65_ok hf_65 hb_65 lp_65_ok f_65
/-! ### 160: (*maquette/maquetteref1.Calc).Plus -/
noncomputable def c_160 : Code := Tryz.f160.body.getD .skip
theorem hb_160 : Tryz.f160.body = some c_160 := by kernel_rfl
theorem hf_160 : CT.P.funcs[160]? = some Tryz.f160 := by kernel_rfl
noncomputable abbrev IN_160 : LayD := ⟨3, [(0, .ptr 0), (1, .data tVec), (2, .data tVec)], [.var 45 [.data I]], fun s => [slotR s 0]⟩
noncomputable abbrev OUT_160 : LayD := ⟨1, [(0, .data tVec)], [.var 45 [.data I]], fun _ => [0]⟩
noncomputable def T_160 : Tb := mkTb tyT mpT [E_67]
theorem T_160_ok : T_160.Ok CT.P := mkTb_ok (⟨e_67, trivial⟩)
noncomputable def lp_160 {β : Type} : LpT β := fun _ _ _ => none
theorem lp_160_ok {β : Type} : LpTOk (CTp 1) (lp_160 (β := β)) (loopsOf c_160) := by
  have h : loopsOf c_160 = [] := by kernel_rfl
  rw [h]
  exact LpTOk.nil
noncomputable def F_160 (a1 : Ty.El tVec) (a2 : Ty.El tVec) (b0 : Ty.El I × Unit) : Option OUT_160.El := (F_67 a1.fst a2.fst (b0.fst, ())).bind fun v2 => (F_67 a1.snd a2.snd (v2.snd.fst.fst, ())).bind fun v6 => Option.some (((v2.fst.fst, v6.fst.fst), ()), (v6.snd.fst.fst, ()), ())
theorem f_160 (x : IN_160.El) : funcX (CTp 1) T_160 IN_160 OUT_160 [] (drT (CTp 1) T_160) lp_160 Tryz.f160 c_160 x = F_160 x.1.2.1 x.1.2.2.1 x.2.1 := by kernel_rfl
noncomputable def E_160 : Ent := .mkGen 160 [] ⟨1, [], IN_160, OUT_160, fun x => F_160 x.1.2.1 x.1.2.2.1 x.2.1⟩
theorem e_160 : E_160.Ok CT.P := Ent.ofGen (C := (CTp 1)) (steps := []) (osteps := []) (CTp_ok 1) T_160_ok hf_160 hb_160 lp_160_ok f_160
/-! ### 158: (*maquette/maquetteref1.Calc).amount -/
noncomputable def c_158 : Code := Tryz.f158.body.getD .skip
theorem hb_158 : Tryz.f158.body = some c_158 := by kernel_rfl
theorem hf_158 : CT.P.funcs[158]? = some Tryz.f158 := by kernel_rfl
noncomputable abbrev IN_158 : LayD := ⟨2, [(0, .ptr 0), (1, .data I)], [.var 45 [.data I]], fun s => [slotR s 0]⟩
noncomputable abbrev OUT_158 : LayD := ⟨1, [(0, .data I)], [.var 45 [.data I]], fun _ => [0]⟩
noncomputable def T_158 : Tb := mkTb tyT mpT [E_68]
theorem T_158_ok : T_158.Ok CT.P := mkTb_ok (⟨e_68, trivial⟩)
noncomputable def lp_158 {β : Type} : LpT β := fun _ _ _ => none
theorem lp_158_ok {β : Type} : LpTOk (CTp 1) (lp_158 (β := β)) (loopsOf c_158) := by
  have h : loopsOf c_158 = [] := by kernel_rfl
  rw [h]
  exact LpTOk.nil
noncomputable def F_158 (a1 : Ty.El I) (b0 : Ty.El I × Unit) : Option OUT_158.El := bif Decidable.decide (a1 < (0 : Int)) then (F_68 (0 : Int) a1 (b0.fst, ())).bind fun v2 => Option.some ((v2.fst.fst, ()), (v2.snd.fst.fst, ()), ()) else Option.some ((a1, ()), (b0.fst, ()), ())
theorem f_158 (x : IN_158.El) : funcX (CTp 1) T_158 IN_158 OUT_158 [] (drT (CTp 1) T_158) lp_158 Tryz.f158 c_158 x = F_158 x.1.2.1 x.2.1 := by kernel_rfl
noncomputable def E_158 : Ent := .mkGen 158 [] ⟨1, [], IN_158, OUT_158, fun x => F_158 x.1.2.1 x.2.1⟩
theorem e_158 : E_158.Ok CT.P := Ent.ofGen (C := (CTp 1)) (steps := []) (osteps := []) (CTp_ok 1) T_158_ok hf_158 hb_158 lp_158_ok f_158
/-! ### 159: maquette/maquetteref1.clamp -/
noncomputable def c_159 : Code := Tryz.f159.body.getD .skip
theorem hb_159 : Tryz.f159.body = some c_159 := by kernel_rfl
theorem hf_159 : CT.P.funcs[159]? = some Tryz.f159 := by kernel_rfl
noncomputable def T_159 : Tb := mkTb tyT mpT []
theorem T_159_ok : T_159.Ok CT.P := mkTb_ok (trivial)
noncomputable def lp_159 {β : Type} : LpT β := fun _ _ _ => none
theorem lp_159_ok {β : Type} : LpTOk CT (lp_159 (β := β)) (loopsOf c_159) := by
  have h : loopsOf c_159 = [] := by kernel_rfl
  rw [h]
  exact LpTOk.nil
noncomputable def F_159 (a1 : Ty.El I) (a2 : Ty.El I) (a3 : Ty.El I) : Option (Els [I]) := bif Decidable.decide (a1 < a2) then Option.some (a2, ()) else bif Decidable.decide (a1 > a3) then Option.some (a3, ()) else Option.some (a1, ())
theorem f_159 (x : Ps [.ty I, .ty I, .ty I]) : funcT CT T_159 [I] (drT CT T_159) lp_159 Tryz.f159 c_159 (encPs [.ty I, .ty I, .ty I] x) = F_159 x.1 x.2.1 x.2.2.1 := by kernel_rfl
noncomputable def E_159 : Ent := .fn 159 [] ⟨[.ty I, .ty I, .ty I], [I], fun x => F_159 x.1 x.2.1 x.2.2.1, false⟩
theorem e_159 : E_159.Ok CT.P := Ent.ofFn CT_ok T_159_ok hf_159 hb_159 lp_159_ok f_159
noncomputable def E_159h : Ent := .fn 159 [] ⟨[.ty I, .ty I, .ty I], [I], fun x => F_159 x.1 x.2.1 x.2.2.1, true⟩
/-! ### 70: maquette/maquetteref1.Clamp -/
noncomputable def c_70 : Code := Tryz.f70.body.getD .skip
theorem hb_70 : Tryz.f70.body = some c_70 := by kernel_rfl
theorem hf_70 : CT.P.funcs[70]? = some Tryz.f70 := by kernel_rfl
noncomputable def T_70 : Tb := mkTb tyT mpT [E_159]
theorem T_70_ok : T_70.Ok CT.P := mkTb_ok (⟨e_159, trivial⟩)
noncomputable def lp_70 {β : Type} : LpT β := fun _ _ _ => none
theorem lp_70_ok {β : Type} : LpTOk CT (lp_70 (β := β)) (loopsOf c_70) := by
  have h : loopsOf c_70 = [] := by kernel_rfl
  rw [h]
  exact LpTOk.nil
noncomputable def F_70 (a1 : Ty.El tVec) (a2 : Ty.El tBox) : Option (Els [tVec]) := (F_159 a1.fst a2.fst.fst a2.snd.fst).bind fun v2 => (F_159 a1.snd a2.fst.snd a2.snd.snd).bind fun v4 => Option.some ((v2.fst, v4.fst), ())
theorem f_70 (x : Ps [.ty tVec, .ty tBox]) : funcT CT T_70 [tVec] (drT CT T_70) lp_70 Tryz.f70 c_70 (encPs [.ty tVec, .ty tBox] x) = F_70 x.1 x.2.1 := by kernel_rfl
noncomputable def E_70 : Ent := .fn 70 [] ⟨[.ty tVec, .ty tBox], [tVec], fun x => F_70 x.1 x.2.1, false⟩
theorem e_70 : E_70.Ok CT.P := Ent.ofFn CT_ok T_70_ok hf_70 hb_70 lp_70_ok f_70
noncomputable def E_70h : Ent := .fn 70 [] ⟨[.ty tVec, .ty tBox], [tVec], fun x => F_70 x.1 x.2.1, true⟩
/-! ### 71: (*maquette/maquetteref1.Calc).Bounds -/
noncomputable def c_71 : Code := Tryz.f71.body.getD .skip
theorem hb_71 : Tryz.f71.body = some c_71 := by kernel_rfl
theorem hf_71 : CT.P.funcs[71]? = some Tryz.f71 := by kernel_rfl
noncomputable abbrev IN_71 : LayD := ⟨2, [(0, .ptr 0), (1, .data tBody)], [.var 45 [.data I]], fun s => [slotR s 0]⟩
noncomputable abbrev OUT_71 : LayD := ⟨1, [(0, .data tBox)], [.var 45 [.data I]], fun _ => [0]⟩
noncomputable def T_71 : Tb := mkTb tyT mpT [E_65, E_160]
theorem T_71_ok : T_71.Ok CT.P := mkTb_ok (⟨e_65, e_160, trivial⟩)
noncomputable def lp_71 {β : Type} : LpT β := fun _ _ _ => none
theorem lp_71_ok {β : Type} : LpTOk (CTp 1) (lp_71 (β := β)) (loopsOf c_71) := by
  have h : loopsOf c_71 = [] := by kernel_rfl
  rw [h]
  exact LpTOk.nil
noncomputable def F_71 (a1 : Ty.El tBody) (b0 : Ty.El I × Unit) : Option OUT_71.El := bif a1.fst == (1 : Int) then (F_65 a1.snd.snd.snd.fst (a1.snd.fst.fst, a1.snd.fst.fst) (b0.fst, ())).bind fun v2 => (F_160 a1.snd.snd.snd.fst (a1.snd.fst.fst, a1.snd.fst.fst) (v2.snd.fst.fst, ())).bind fun v6 => Option.some (((v2.fst.fst, v6.fst.fst), ()), (v6.snd.fst.fst, ()), ()) else (F_65 a1.snd.snd.snd.fst a1.snd.fst (b0.fst, ())).bind fun v14 => (F_160 a1.snd.snd.snd.fst a1.snd.fst (v14.snd.fst.fst, ())).bind fun v18 => Option.some (((v14.fst.fst, v18.fst.fst), ()), (v18.snd.fst.fst, ()), ())
theorem f_71 (x : IN_71.El) : funcX (CTp 1) T_71 IN_71 OUT_71 [] (drT (CTp 1) T_71) lp_71 Tryz.f71 c_71 x = F_71 x.1.2.1 x.2.1 := by kernel_rfl
noncomputable def E_71 : Ent := .mkGen 71 [] ⟨1, [], IN_71, OUT_71, fun x => F_71 x.1.2.1 x.2.1⟩
theorem e_71 : E_71.Ok CT.P := Ent.ofGen (C := (CTp 1)) (steps := []) (osteps := []) (CTp_ok 1) T_71_ok hf_71 hb_71 lp_71_ok f_71
/-! ### 72: (*maquette/maquetteref1.Calc).Flip -/
noncomputable def c_72 : Code := Tryz.f72.body.getD .skip
theorem hb_72 : Tryz.f72.body = some c_72 := by kernel_rfl
theorem hf_72 : CT.P.funcs[72]? = some Tryz.f72 := by kernel_rfl
noncomputable abbrev IN_72 : LayD := ⟨2, [(0, .ptr 0), (1, .data tHit)], [.var 45 [.data I]], fun s => [slotR s 0]⟩
noncomputable abbrev OUT_72 : LayD := ⟨1, [(0, .data tHit)], [.var 45 [.data I]], fun _ => [0]⟩
noncomputable def T_72 : Tb := mkTb tyT mpT [E_68]
theorem T_72_ok : T_72.Ok CT.P := mkTb_ok (⟨e_68, trivial⟩)
noncomputable def lp_72 {β : Type} : LpT β := fun _ _ _ => none
theorem lp_72_ok {β : Type} : LpTOk (CTp 1) (lp_72 (β := β)) (loopsOf c_72) := by
  have h : loopsOf c_72 = [] := by kernel_rfl
  rw [h]
  exact LpTOk.nil
noncomputable def F_72 (a1 : Ty.El tHit) (b0 : Ty.El I × Unit) : Option OUT_72.El := (F_68 (0 : Int) a1.fst.fst (b0.fst, ())).bind fun v2 => (F_68 (0 : Int) a1.fst.snd (v2.snd.fst.fst, ())).bind fun v6 => Option.some ((((v2.fst.fst, v6.fst.fst), a1.snd), ()), (v6.snd.fst.fst, ()), ())
theorem f_72 (x : IN_72.El) : funcX (CTp 1) T_72 IN_72 OUT_72 [] (drT (CTp 1) T_72) lp_72 Tryz.f72 c_72 x = F_72 x.1.2.1 x.2.1 := by kernel_rfl
noncomputable def E_72 : Ent := .mkGen 72 [] ⟨1, [], IN_72, OUT_72, fun x => F_72 x.1.2.1 x.2.1⟩
theorem e_72 : E_72.Ok CT.P := Ent.ofGen (C := (CTp 1)) (steps := []) (osteps := []) (CTp_ok 1) T_72_ok hf_72 hb_72 lp_72_ok f_72
/-! ### 69: (*maquette/maquetteref1.Calc).crates -/
noncomputable def c_69 : Code := Tryz.f69.body.getD .skip
theorem hb_69 : Tryz.f69.body = some c_69 := by kernel_rfl
theorem hf_69 : CT.P.funcs[69]? = some Tryz.f69 := by kernel_rfl
noncomputable abbrev IN_69 : LayD := ⟨3, [(0, .ptr 0), (1, .data tBody), (2, .data tBody)], [.var 45 [.data I]], fun s => [slotR s 0]⟩
noncomputable abbrev OUT_69 : LayD := ⟨2, [(0, .data tHit), (1, .data .bool)], [.var 45 [.data I]], fun _ => [0]⟩
noncomputable def T_69 : Tb := mkTb tyT mpT [E_65, E_67, E_68, E_158]
theorem T_69_ok : T_69.Ok CT.P := mkTb_ok (⟨e_65, e_67, e_68, e_158, trivial⟩)
noncomputable def lp_69 {β : Type} : LpT β := fun _ _ _ => none
theorem lp_69_ok {β : Type} : LpTOk (CTp 1) (lp_69 (β := β)) (loopsOf c_69) := by
  have h : loopsOf c_69 = [] := by kernel_rfl
  rw [h]
  exact LpTOk.nil
noncomputable def F_69 (a1 : Ty.El tBody) (a2 : Ty.El tBody) (b0 : Ty.El I × Unit) : Option OUT_69.El := (F_65 a2.snd.snd.snd.fst a1.snd.snd.snd.fst (b0.fst, ())).bind fun v2 => (F_67 a1.snd.fst.fst a2.snd.fst.fst (v2.snd.fst.fst, ())).bind fun v6 => (F_158 v2.fst.fst.fst (v6.snd.fst.fst, ())).bind fun v12 => (F_68 v6.fst.fst v12.fst.fst (v12.snd.fst.fst, ())).bind fun v20 => bif Decidable.decide (v20.fst.fst ≤ (0 : Int)) then Option.some (((((0 : Int), (0 : Int)), (0 : Int)), Bool.false, ()), (v20.snd.fst.fst, ()), ()) else (F_67 a1.snd.fst.snd a2.snd.fst.snd (v20.snd.fst.fst, ())).bind fun v30 => (F_158 v2.fst.fst.snd (v30.snd.fst.fst, ())).bind fun v36 => (F_68 v30.fst.fst v36.fst.fst (v36.snd.fst.fst, ())).bind fun v44 => bif Decidable.decide (v44.fst.fst ≤ (0 : Int)) then Option.some (((((0 : Int), (0 : Int)), (0 : Int)), Bool.false, ()), (v44.snd.fst.fst, ()), ()) else bif Decidable.decide (v2.fst.fst.fst < (0 : Int)) then bif Decidable.decide (v44.fst.fst < v20.fst.fst) then bif Decidable.decide (v2.fst.fst.snd < (0 : Int)) then Option.some (((((0 : Int), (-4294967296 : Int)), v44.fst.fst), Bool.true, ()), (v44.snd.fst.fst, ()), ()) else Option.some (((((0 : Int), (4294967296 : Int)), v44.fst.fst), Bool.true, ()), (v44.snd.fst.fst, ()), ()) else Option.some (((((-4294967296 : Int), (0 : Int)), v20.fst.fst), Bool.true, ()), (v44.snd.fst.fst, ()), ()) else bif Decidable.decide (v44.fst.fst < v20.fst.fst) then bif Decidable.decide (v2.fst.fst.snd < (0 : Int)) then Option.some (((((0 : Int), (-4294967296 : Int)), v44.fst.fst), Bool.true, ()), (v44.snd.fst.fst, ()), ()) else Option.some (((((0 : Int), (4294967296 : Int)), v44.fst.fst), Bool.true, ()), (v44.snd.fst.fst, ()), ()) else Option.some (((((4294967296 : Int), (0 : Int)), v20.fst.fst), Bool.true, ()), (v44.snd.fst.fst, ()), ())
theorem f_69 (x : IN_69.El) : funcX (CTp 1) T_69 IN_69 OUT_69 [] (drT (CTp 1) T_69) lp_69 Tryz.f69 c_69 x = F_69 x.1.2.1 x.1.2.2.1 x.2.1 := by kernel_rfl
noncomputable def E_69 : Ent := .mkGen 69 [] ⟨1, [], IN_69, OUT_69, fun x => F_69 x.1.2.1 x.1.2.2.1 x.2.1⟩
theorem e_69 : E_69.Ok CT.P := Ent.ofGen (C := (CTp 1)) (steps := []) (osteps := []) (CTp_ok 1) T_69_ok hf_69 hb_69 lp_69_ok f_69
/-! ### 21: (*maquette/maquetteref1.Calc).Hit -/
noncomputable def c_21 : Code := Tryz.f21.body.getD .skip
theorem hb_21 : Tryz.f21.body = some c_21 := by kernel_rfl
theorem hf_21 : CT.P.funcs[21]? = some Tryz.f21 := by kernel_rfl
noncomputable abbrev IN_21 : LayD := ⟨3, [(0, .ptr 0), (1, .data tBody), (2, .data tBody)], [.var 45 [.data I]], fun s => [slotR s 0]⟩
noncomputable abbrev OUT_21 : LayD := ⟨2, [(0, .data tHit), (1, .data .bool)], [.var 45 [.data I]], fun _ => [0]⟩
abbrev FT_21 := (Ty.El tBody) → (Ty.El tBody) → (Ty.El I × Unit) → Option OUT_21.El
noncomputable def E_21x (f : FT_21) : Ent := .mkGen 21 [] ⟨1, [], IN_21, OUT_21, fun x => f x.1.2.1 x.1.2.2.1 x.2.1⟩
noncomputable def T_21 (f : FT_21) : Tb := mkTb tyT mpT [E_65, E_66, E_67, E_68, E_69, E_70, E_71, E_72, (E_21x f)]
theorem T_21_ok {f : FT_21} (hf : (E_21x f).Ok CT.P) : (T_21 f).Ok CT.P := mkTb_ok (⟨e_65, e_66, e_67, e_68, e_69, e_70, e_71, e_72, hf, trivial⟩)
noncomputable def lp_21 (f : FT_21) {β : Type} : LpT β := fun _ _ _ => none
theorem lp_21_ok {f : FT_21} (hf : (E_21x f).Ok CT.P) {β : Type} : LpTOk (CTp 1) (lp_21 f (β := β)) (loopsOf c_21) := by
  have h : loopsOf c_21 = [] := by kernel_rfl
  rw [h]
  exact LpTOk.nil
noncomputable def F_21b (f : FT_21) (a1 : Ty.El tBody) (a2 : Ty.El tBody) (b0 : Ty.El I × Unit) : Option OUT_21.El := bif a1.fst == (1 : Int) then bif a2.fst == (1 : Int) then (F_65 a2.snd.snd.snd.fst a1.snd.snd.snd.fst (b0.fst, ())).bind fun v2 => (F_66 v2.fst.fst (v2.snd.fst.fst, ())).bind fun v8 => (F_67 a1.snd.fst.fst a2.snd.fst.fst (v8.snd.fst.fst, ())).bind fun v12 => (F_68 v12.fst.fst v8.fst.snd.fst (v12.snd.fst.fst, ())).bind fun v20 => bif Decidable.decide (v20.fst.fst ≤ (0 : Int)) then Option.some (((((0 : Int), (0 : Int)), (0 : Int)), Bool.false, ()), (v20.snd.fst.fst, ()), ()) else bif v8.fst.snd.fst == (0 : Int) then Option.some (((((4294967296 : Int), (0 : Int)), v20.fst.fst), Bool.true, ()), (v20.snd.fst.fst, ()), ()) else Option.some (((v8.fst.fst, v20.fst.fst), Bool.true, ()), (v20.snd.fst.fst, ()), ()) else bif a1.fst == (2 : Int) then bif a2.fst == (2 : Int) then (F_69 a1 a2 (b0.fst, ())).bind fun v40 => Option.some ((v40.fst.fst, v40.fst.snd.fst, ()), (v40.snd.fst.fst, ()), ()) else bif a1.fst == (1 : Int) then bif a2.fst == (2 : Int) then (F_71 a2 (b0.fst, ())).bind fun v48 => (F_70 a1.snd.snd.snd.fst v48.fst.fst).bind fun v52 => (F_65 v52.fst a1.snd.snd.snd.fst (v48.snd.fst.fst, ())).bind fun v56 => (F_66 v56.fst.fst (v56.snd.fst.fst, ())).bind fun v62 => bif v62.snd.fst.fst != (0 : Int) then Option.some (((((0 : Int), (0 : Int)), (0 : Int)), Bool.false, ()), (v62.snd.fst.fst, ()), ()) else bif v62.fst.snd.fst == (0 : Int) then (F_69 ((2 : Int), (a1.snd.fst.fst, a1.snd.fst.fst), a1.snd.snd) a2 (v62.snd.fst.fst, ())).bind fun v72 => Option.some ((v72.fst.fst, v72.fst.snd.fst, ()), (v72.snd.fst.fst, ()), ()) else (F_68 a1.snd.fst.fst v62.fst.snd.fst (v62.snd.fst.fst, ())).bind fun v84 => bif Decidable.decide (v84.fst.fst ≤ (0 : Int)) then Option.some (((((0 : Int), (0 : Int)), (0 : Int)), Bool.false, ()), (v84.snd.fst.fst, ()), ()) else Option.some (((v62.fst.fst, v84.fst.fst), Bool.true, ()), (v84.snd.fst.fst, ()), ()) else bif a1.fst == (2 : Int) then bif a2.fst == (1 : Int) then (f a2 a1 (b0.fst, ())).bind fun v98 => bif !v98.fst.snd.fst then Option.some (((((0 : Int), (0 : Int)), (0 : Int)), Bool.false, ()), (v98.snd.fst.fst, ()), ()) else (F_72 v98.fst.fst (v98.snd.fst.fst, ())).bind fun v108 => Option.some ((v108.fst.fst, Bool.true, ()), (v108.snd.fst.fst, ()), ()) else Option.some (((((0 : Int), (0 : Int)), (0 : Int)), Bool.false, ()), (b0.fst, ()), ()) else Option.some (((((0 : Int), (0 : Int)), (0 : Int)), Bool.false, ()), (b0.fst, ()), ()) else bif a1.fst == (2 : Int) then bif a2.fst == (1 : Int) then (f a2 a1 (b0.fst, ())).bind fun v114 => bif !v114.fst.snd.fst then Option.some (((((0 : Int), (0 : Int)), (0 : Int)), Bool.false, ()), (v114.snd.fst.fst, ()), ()) else (F_72 v114.fst.fst (v114.snd.fst.fst, ())).bind fun v124 => Option.some ((v124.fst.fst, Bool.true, ()), (v124.snd.fst.fst, ()), ()) else Option.some (((((0 : Int), (0 : Int)), (0 : Int)), Bool.false, ()), (b0.fst, ()), ()) else Option.some (((((0 : Int), (0 : Int)), (0 : Int)), Bool.false, ()), (b0.fst, ()), ()) else bif a1.fst == (1 : Int) then bif a2.fst == (2 : Int) then (F_71 a2 (b0.fst, ())).bind fun v130 => (F_70 a1.snd.snd.snd.fst v130.fst.fst).bind fun v134 => (F_65 v134.fst a1.snd.snd.snd.fst (v130.snd.fst.fst, ())).bind fun v138 => (F_66 v138.fst.fst (v138.snd.fst.fst, ())).bind fun v144 => bif v144.snd.fst.fst != (0 : Int) then Option.some (((((0 : Int), (0 : Int)), (0 : Int)), Bool.false, ()), (v144.snd.fst.fst, ()), ()) else bif v144.fst.snd.fst == (0 : Int) then (F_69 ((2 : Int), (a1.snd.fst.fst, a1.snd.fst.fst), a1.snd.snd) a2 (v144.snd.fst.fst, ())).bind fun v154 => Option.some ((v154.fst.fst, v154.fst.snd.fst, ()), (v154.snd.fst.fst, ()), ()) else (F_68 a1.snd.fst.fst v144.fst.snd.fst (v144.snd.fst.fst, ())).bind fun v166 => bif Decidable.decide (v166.fst.fst ≤ (0 : Int)) then Option.some (((((0 : Int), (0 : Int)), (0 : Int)), Bool.false, ()), (v166.snd.fst.fst, ()), ()) else Option.some (((v144.fst.fst, v166.fst.fst), Bool.true, ()), (v166.snd.fst.fst, ()), ()) else bif a1.fst == (2 : Int) then bif a2.fst == (1 : Int) then (f a2 a1 (b0.fst, ())).bind fun v180 => bif !v180.fst.snd.fst then Option.some (((((0 : Int), (0 : Int)), (0 : Int)), Bool.false, ()), (v180.snd.fst.fst, ()), ()) else (F_72 v180.fst.fst (v180.snd.fst.fst, ())).bind fun v190 => Option.some ((v190.fst.fst, Bool.true, ()), (v190.snd.fst.fst, ()), ()) else Option.some (((((0 : Int), (0 : Int)), (0 : Int)), Bool.false, ()), (b0.fst, ()), ()) else Option.some (((((0 : Int), (0 : Int)), (0 : Int)), Bool.false, ()), (b0.fst, ()), ()) else bif a1.fst == (2 : Int) then bif a2.fst == (1 : Int) then (f a2 a1 (b0.fst, ())).bind fun v196 => bif !v196.fst.snd.fst then Option.some (((((0 : Int), (0 : Int)), (0 : Int)), Bool.false, ()), (v196.snd.fst.fst, ()), ()) else (F_72 v196.fst.fst (v196.snd.fst.fst, ())).bind fun v206 => Option.some ((v206.fst.fst, Bool.true, ()), (v206.snd.fst.fst, ()), ()) else Option.some (((((0 : Int), (0 : Int)), (0 : Int)), Bool.false, ()), (b0.fst, ()), ()) else Option.some (((((0 : Int), (0 : Int)), (0 : Int)), Bool.false, ()), (b0.fst, ()), ()) else bif a1.fst == (2 : Int) then bif a2.fst == (2 : Int) then (F_69 a1 a2 (b0.fst, ())).bind fun v212 => Option.some ((v212.fst.fst, v212.fst.snd.fst, ()), (v212.snd.fst.fst, ()), ()) else bif a1.fst == (1 : Int) then bif a2.fst == (2 : Int) then (F_71 a2 (b0.fst, ())).bind fun v220 => (F_70 a1.snd.snd.snd.fst v220.fst.fst).bind fun v224 => (F_65 v224.fst a1.snd.snd.snd.fst (v220.snd.fst.fst, ())).bind fun v228 => (F_66 v228.fst.fst (v228.snd.fst.fst, ())).bind fun v234 => bif v234.snd.fst.fst != (0 : Int) then Option.some (((((0 : Int), (0 : Int)), (0 : Int)), Bool.false, ()), (v234.snd.fst.fst, ()), ()) else bif v234.fst.snd.fst == (0 : Int) then (F_69 ((2 : Int), (a1.snd.fst.fst, a1.snd.fst.fst), a1.snd.snd) a2 (v234.snd.fst.fst, ())).bind fun v244 => Option.some ((v244.fst.fst, v244.fst.snd.fst, ()), (v244.snd.fst.fst, ()), ()) else (F_68 a1.snd.fst.fst v234.fst.snd.fst (v234.snd.fst.fst, ())).bind fun v256 => bif Decidable.decide (v256.fst.fst ≤ (0 : Int)) then Option.some (((((0 : Int), (0 : Int)), (0 : Int)), Bool.false, ()), (v256.snd.fst.fst, ()), ()) else Option.some (((v234.fst.fst, v256.fst.fst), Bool.true, ()), (v256.snd.fst.fst, ()), ()) else bif a1.fst == (2 : Int) then bif a2.fst == (1 : Int) then (f a2 a1 (b0.fst, ())).bind fun v270 => bif !v270.fst.snd.fst then Option.some (((((0 : Int), (0 : Int)), (0 : Int)), Bool.false, ()), (v270.snd.fst.fst, ()), ()) else (F_72 v270.fst.fst (v270.snd.fst.fst, ())).bind fun v280 => Option.some ((v280.fst.fst, Bool.true, ()), (v280.snd.fst.fst, ()), ()) else Option.some (((((0 : Int), (0 : Int)), (0 : Int)), Bool.false, ()), (b0.fst, ()), ()) else Option.some (((((0 : Int), (0 : Int)), (0 : Int)), Bool.false, ()), (b0.fst, ()), ()) else bif a1.fst == (2 : Int) then bif a2.fst == (1 : Int) then (f a2 a1 (b0.fst, ())).bind fun v286 => bif !v286.fst.snd.fst then Option.some (((((0 : Int), (0 : Int)), (0 : Int)), Bool.false, ()), (v286.snd.fst.fst, ()), ()) else (F_72 v286.fst.fst (v286.snd.fst.fst, ())).bind fun v296 => Option.some ((v296.fst.fst, Bool.true, ()), (v296.snd.fst.fst, ()), ()) else Option.some (((((0 : Int), (0 : Int)), (0 : Int)), Bool.false, ()), (b0.fst, ()), ()) else Option.some (((((0 : Int), (0 : Int)), (0 : Int)), Bool.false, ()), (b0.fst, ()), ()) else bif a1.fst == (1 : Int) then bif a2.fst == (2 : Int) then (F_71 a2 (b0.fst, ())).bind fun v302 => (F_70 a1.snd.snd.snd.fst v302.fst.fst).bind fun v306 => (F_65 v306.fst a1.snd.snd.snd.fst (v302.snd.fst.fst, ())).bind fun v310 => (F_66 v310.fst.fst (v310.snd.fst.fst, ())).bind fun v316 => bif v316.snd.fst.fst != (0 : Int) then Option.some (((((0 : Int), (0 : Int)), (0 : Int)), Bool.false, ()), (v316.snd.fst.fst, ()), ()) else bif v316.fst.snd.fst == (0 : Int) then (F_69 ((2 : Int), (a1.snd.fst.fst, a1.snd.fst.fst), a1.snd.snd) a2 (v316.snd.fst.fst, ())).bind fun v326 => Option.some ((v326.fst.fst, v326.fst.snd.fst, ()), (v326.snd.fst.fst, ()), ()) else (F_68 a1.snd.fst.fst v316.fst.snd.fst (v316.snd.fst.fst, ())).bind fun v338 => bif Decidable.decide (v338.fst.fst ≤ (0 : Int)) then Option.some (((((0 : Int), (0 : Int)), (0 : Int)), Bool.false, ()), (v338.snd.fst.fst, ()), ()) else Option.some (((v316.fst.fst, v338.fst.fst), Bool.true, ()), (v338.snd.fst.fst, ()), ()) else bif a1.fst == (2 : Int) then bif a2.fst == (1 : Int) then (f a2 a1 (b0.fst, ())).bind fun v352 => bif !v352.fst.snd.fst then Option.some (((((0 : Int), (0 : Int)), (0 : Int)), Bool.false, ()), (v352.snd.fst.fst, ()), ()) else (F_72 v352.fst.fst (v352.snd.fst.fst, ())).bind fun v362 => Option.some ((v362.fst.fst, Bool.true, ()), (v362.snd.fst.fst, ()), ()) else Option.some (((((0 : Int), (0 : Int)), (0 : Int)), Bool.false, ()), (b0.fst, ()), ()) else Option.some (((((0 : Int), (0 : Int)), (0 : Int)), Bool.false, ()), (b0.fst, ()), ()) else bif a1.fst == (2 : Int) then bif a2.fst == (1 : Int) then (f a2 a1 (b0.fst, ())).bind fun v368 => bif !v368.fst.snd.fst then Option.some (((((0 : Int), (0 : Int)), (0 : Int)), Bool.false, ()), (v368.snd.fst.fst, ()), ()) else (F_72 v368.fst.fst (v368.snd.fst.fst, ())).bind fun v378 => Option.some ((v378.fst.fst, Bool.true, ()), (v378.snd.fst.fst, ()), ()) else Option.some (((((0 : Int), (0 : Int)), (0 : Int)), Bool.false, ()), (b0.fst, ()), ()) else Option.some (((((0 : Int), (0 : Int)), (0 : Int)), Bool.false, ()), (b0.fst, ()), ())
theorem f_21 (f : FT_21) (x : IN_21.El) : funcX (CTp 1) (T_21 f) IN_21 OUT_21 [] (drT (CTp 1) (T_21 f)) (lp_21 f) Tryz.f21 c_21 x = F_21b f x.1.2.1 x.1.2.2.1 x.2.1 := by kernel_rfl
noncomputable def F_21n : Nat → FT_21
  | 0, _, _, _ => none
  | n + 1, a1, a2, a3 => F_21b (F_21n n) a1 a2 a3
noncomputable def F_21 : FT_21 := F_21n 3
theorem e_21n : ∀ n, (E_21x (F_21n n)).Ok CT.P
  | 0 => Ent.mkGen_ok (fun x y h => by cases h)
  | n + 1 => Ent.ofGen (C := (CTp 1)) (steps := []) (osteps := []) (CTp_ok 1) (T_21_ok (e_21n n)) hf_21 hb_21 (lp_21_ok (e_21n n)) (f_21 (F_21n n))
noncomputable def E_21 : Ent := E_21x F_21
theorem e_21 : E_21.Ok CT.P := e_21n 3

end Go.DI.S

/-! The program's functions, told by functions on data. -/
set_option linter.unusedVariables false
set_option maxRecDepth 100000
set_option maxHeartbeats 0
namespace Go.DI.S
open Go.Proofs
/-! ### 63: maquette/maquetteref1.size -/
noncomputable def c_63 : Code := Tryz.f63.body.getD .skip
theorem hb_63 : Tryz.f63.body = some c_63 := by kernel_rfl
theorem hf_63 : CT.P.funcs[63]? = some Tryz.f63 := by kernel_rfl
noncomputable def T_63 : Tb := mkTb tyT mpT []
theorem T_63_ok : T_63.Ok CT.P := mkTb_ok (trivial)
noncomputable def lp_63 {β : Type} : LpT β := fun _ _ _ => none
theorem lp_63_ok {β : Type} : LpTOk CT (lp_63 (β := β)) (loopsOf c_63) := by
  have h : loopsOf c_63 = [] := by kernel_rfl
  rw [h]
  exact LpTOk.nil
noncomputable def F_63 (a1 : Ty.El I) : Option (Els [.bool]) := bif Decidable.decide (a1 ≥ (67108864 : Int)) then Option.some (Decidable.decide (a1 ≤ (4294967296000 : Int)), ()) else Option.some (Bool.false, ())
theorem f_63 (x : Ps [.ty I]) : funcT CT T_63 [.bool] (drT CT T_63) lp_63 Tryz.f63 c_63 (encPs [.ty I] x) = F_63 x.1 := by kernel_rfl
noncomputable def E_63 : Ent := .fn 63 [] ⟨[.ty I], [.bool], fun x => F_63 x.1, false⟩
theorem e_63 : E_63.Ok CT.P := Ent.ofFn CT_ok T_63_ok hf_63 hb_63 lp_63_ok f_63
noncomputable def E_63h : Ent := .fn 63 [] ⟨[.ty I], [.bool], fun x => F_63 x.1, true⟩
/-! ### 64: maquette/maquetteref1.within -/
noncomputable def c_64 : Code := Tryz.f64.body.getD .skip
theorem hb_64 : Tryz.f64.body = some c_64 := by kernel_rfl
theorem hf_64 : CT.P.funcs[64]? = some Tryz.f64 := by kernel_rfl
noncomputable def T_64 : Tb := mkTb tyT mpT []
theorem T_64_ok : T_64.Ok CT.P := mkTb_ok (trivial)
noncomputable def lp_64 {β : Type} : LpT β := fun _ _ _ => none
theorem lp_64_ok {β : Type} : LpTOk CT (lp_64 (β := β)) (loopsOf c_64) := by
  have h : loopsOf c_64 = [] := by kernel_rfl
  rw [h]
  exact LpTOk.nil
noncomputable def F_64 (a1 : Ty.El I) (a2 : Ty.El I) : Option (Els [.bool]) := bif Decidable.decide (a1 ≥ Go.IntKind.i64.wrap (Go.IntKind.i64.wrap ((0 : Int) - a2) * (4294967296 : Int))) then Option.some (Decidable.decide (a1 ≤ Go.IntKind.i64.wrap (a2 * (4294967296 : Int))), ()) else Option.some (Bool.false, ())
theorem f_64 (x : Ps [.ty I, .ty I]) : funcT CT T_64 [.bool] (drT CT T_64) lp_64 Tryz.f64 c_64 (encPs [.ty I, .ty I] x) = F_64 x.1 x.2.1 := by kernel_rfl
noncomputable def E_64 : Ent := .fn 64 [] ⟨[.ty I, .ty I], [.bool], fun x => F_64 x.1 x.2.1, false⟩
theorem e_64 : E_64.Ok CT.P := Ent.ofFn CT_ok T_64_ok hf_64 hb_64 lp_64_ok f_64
noncomputable def E_64h : Ent := .fn 64 [] ⟨[.ty I, .ty I], [.bool], fun x => F_64 x.1 x.2.1, true⟩
/-! ### 20: maquette/maquetteref1.Right -/
noncomputable def c_20 : Code := Tryz.f20.body.getD .skip
theorem hb_20 : Tryz.f20.body = some c_20 := by kernel_rfl
theorem hf_20 : CT.P.funcs[20]? = some Tryz.f20 := by kernel_rfl
noncomputable def T_20 : Tb := mkTb tyT mpT [E_63, E_64]
theorem T_20_ok : T_20.Ok CT.P := mkTb_ok (⟨e_63, e_64, trivial⟩)
noncomputable def lp_20 {β : Type} : LpT β := fun _ _ _ => none
theorem lp_20_ok {β : Type} : LpTOk CT (lp_20 (β := β)) (loopsOf c_20) := by
  have h : loopsOf c_20 = [] := by kernel_rfl
  rw [h]
  exact LpTOk.nil
noncomputable def F_20 (a1 : Ty.El tBody) : Option (Els [.bool]) := bif a1.fst != (1 : Int) then bif a1.fst != (2 : Int) then Option.some (Bool.false, ()) else (F_63 a1.snd.fst.fst).bind fun v2 => bif !v2.fst then Option.some (Bool.false, ()) else bif a1.fst == (1 : Int) then bif a1.snd.fst.snd != (0 : Int) then Option.some (Bool.false, ()) else bif a1.fst == (2 : Int) then (F_63 a1.snd.fst.snd).bind fun v4 => bif !v4.fst then Option.some (Bool.false, ()) else bif a1.snd.snd.fst != (0 : Int) then bif Decidable.decide (a1.snd.snd.fst < (67108864 : Int)) then Option.some (Bool.false, ()) else bif Decidable.decide (a1.snd.snd.fst > (42949672960000 : Int)) then Option.some (Bool.false, ()) else (F_64 a1.snd.snd.snd.fst.fst (10000 : Int)).bind fun v6 => bif !v6.fst then Option.some (Bool.false, ()) else (F_64 a1.snd.snd.snd.fst.snd (10000 : Int)).bind fun v8 => bif !v8.fst then Option.some (Bool.false, ()) else (F_64 a1.snd.snd.snd.snd.fst (1000000 : Int)).bind fun v10 => bif v10.fst then (F_64 a1.snd.snd.snd.snd.snd (1000000 : Int)).bind fun v12 => bif v12.fst then bif a1.snd.snd.fst != (0 : Int) then Option.some (Bool.true, ()) else Option.some (a1.snd.snd.snd.snd.fst == (0 : Int) && (a1.snd.snd.snd.snd.snd == (0 : Int) && Bool.true), ()) else Option.some (Bool.false, ()) else Option.some (Bool.false, ()) else (F_64 a1.snd.snd.snd.fst.fst (10000 : Int)).bind fun v14 => bif !v14.fst then Option.some (Bool.false, ()) else (F_64 a1.snd.snd.snd.fst.snd (10000 : Int)).bind fun v16 => bif !v16.fst then Option.some (Bool.false, ()) else (F_64 a1.snd.snd.snd.snd.fst (1000000 : Int)).bind fun v18 => bif v18.fst then (F_64 a1.snd.snd.snd.snd.snd (1000000 : Int)).bind fun v20 => bif v20.fst then bif a1.snd.snd.fst != (0 : Int) then Option.some (Bool.true, ()) else Option.some (a1.snd.snd.snd.snd.fst == (0 : Int) && (a1.snd.snd.snd.snd.snd == (0 : Int) && Bool.true), ()) else Option.some (Bool.false, ()) else Option.some (Bool.false, ()) else bif a1.snd.snd.fst != (0 : Int) then bif Decidable.decide (a1.snd.snd.fst < (67108864 : Int)) then Option.some (Bool.false, ()) else bif Decidable.decide (a1.snd.snd.fst > (42949672960000 : Int)) then Option.some (Bool.false, ()) else (F_64 a1.snd.snd.snd.fst.fst (10000 : Int)).bind fun v22 => bif !v22.fst then Option.some (Bool.false, ()) else (F_64 a1.snd.snd.snd.fst.snd (10000 : Int)).bind fun v24 => bif !v24.fst then Option.some (Bool.false, ()) else (F_64 a1.snd.snd.snd.snd.fst (1000000 : Int)).bind fun v26 => bif v26.fst then (F_64 a1.snd.snd.snd.snd.snd (1000000 : Int)).bind fun v28 => bif v28.fst then bif a1.snd.snd.fst != (0 : Int) then Option.some (Bool.true, ()) else Option.some (a1.snd.snd.snd.snd.fst == (0 : Int) && (a1.snd.snd.snd.snd.snd == (0 : Int) && Bool.true), ()) else Option.some (Bool.false, ()) else Option.some (Bool.false, ()) else (F_64 a1.snd.snd.snd.fst.fst (10000 : Int)).bind fun v30 => bif !v30.fst then Option.some (Bool.false, ()) else (F_64 a1.snd.snd.snd.fst.snd (10000 : Int)).bind fun v32 => bif !v32.fst then Option.some (Bool.false, ()) else (F_64 a1.snd.snd.snd.snd.fst (1000000 : Int)).bind fun v34 => bif v34.fst then (F_64 a1.snd.snd.snd.snd.snd (1000000 : Int)).bind fun v36 => bif v36.fst then bif a1.snd.snd.fst != (0 : Int) then Option.some (Bool.true, ()) else Option.some (a1.snd.snd.snd.snd.fst == (0 : Int) && (a1.snd.snd.snd.snd.snd == (0 : Int) && Bool.true), ()) else Option.some (Bool.false, ()) else Option.some (Bool.false, ()) else bif a1.fst == (2 : Int) then (F_63 a1.snd.fst.snd).bind fun v38 => bif !v38.fst then Option.some (Bool.false, ()) else bif a1.snd.snd.fst != (0 : Int) then bif Decidable.decide (a1.snd.snd.fst < (67108864 : Int)) then Option.some (Bool.false, ()) else bif Decidable.decide (a1.snd.snd.fst > (42949672960000 : Int)) then Option.some (Bool.false, ()) else (F_64 a1.snd.snd.snd.fst.fst (10000 : Int)).bind fun v40 => bif !v40.fst then Option.some (Bool.false, ()) else (F_64 a1.snd.snd.snd.fst.snd (10000 : Int)).bind fun v42 => bif !v42.fst then Option.some (Bool.false, ()) else (F_64 a1.snd.snd.snd.snd.fst (1000000 : Int)).bind fun v44 => bif v44.fst then (F_64 a1.snd.snd.snd.snd.snd (1000000 : Int)).bind fun v46 => bif v46.fst then bif a1.snd.snd.fst != (0 : Int) then Option.some (Bool.true, ()) else Option.some (a1.snd.snd.snd.snd.fst == (0 : Int) && (a1.snd.snd.snd.snd.snd == (0 : Int) && Bool.true), ()) else Option.some (Bool.false, ()) else Option.some (Bool.false, ()) else (F_64 a1.snd.snd.snd.fst.fst (10000 : Int)).bind fun v48 => bif !v48.fst then Option.some (Bool.false, ()) else (F_64 a1.snd.snd.snd.fst.snd (10000 : Int)).bind fun v50 => bif !v50.fst then Option.some (Bool.false, ()) else (F_64 a1.snd.snd.snd.snd.fst (1000000 : Int)).bind fun v52 => bif v52.fst then (F_64 a1.snd.snd.snd.snd.snd (1000000 : Int)).bind fun v54 => bif v54.fst then bif a1.snd.snd.fst != (0 : Int) then Option.some (Bool.true, ()) else Option.some (a1.snd.snd.snd.snd.fst == (0 : Int) && (a1.snd.snd.snd.snd.snd == (0 : Int) && Bool.true), ()) else Option.some (Bool.false, ()) else Option.some (Bool.false, ()) else bif a1.snd.snd.fst != (0 : Int) then bif Decidable.decide (a1.snd.snd.fst < (67108864 : Int)) then Option.some (Bool.false, ()) else bif Decidable.decide (a1.snd.snd.fst > (42949672960000 : Int)) then Option.some (Bool.false, ()) else (F_64 a1.snd.snd.snd.fst.fst (10000 : Int)).bind fun v56 => bif !v56.fst then Option.some (Bool.false, ()) else (F_64 a1.snd.snd.snd.fst.snd (10000 : Int)).bind fun v58 => bif !v58.fst then Option.some (Bool.false, ()) else (F_64 a1.snd.snd.snd.snd.fst (1000000 : Int)).bind fun v60 => bif v60.fst then (F_64 a1.snd.snd.snd.snd.snd (1000000 : Int)).bind fun v62 => bif v62.fst then bif a1.snd.snd.fst != (0 : Int) then Option.some (Bool.true, ()) else Option.some (a1.snd.snd.snd.snd.fst == (0 : Int) && (a1.snd.snd.snd.snd.snd == (0 : Int) && Bool.true), ()) else Option.some (Bool.false, ()) else Option.some (Bool.false, ()) else (F_64 a1.snd.snd.snd.fst.fst (10000 : Int)).bind fun v64 => bif !v64.fst then Option.some (Bool.false, ()) else (F_64 a1.snd.snd.snd.fst.snd (10000 : Int)).bind fun v66 => bif !v66.fst then Option.some (Bool.false, ()) else (F_64 a1.snd.snd.snd.snd.fst (1000000 : Int)).bind fun v68 => bif v68.fst then (F_64 a1.snd.snd.snd.snd.snd (1000000 : Int)).bind fun v70 => bif v70.fst then bif a1.snd.snd.fst != (0 : Int) then Option.some (Bool.true, ()) else Option.some (a1.snd.snd.snd.snd.fst == (0 : Int) && (a1.snd.snd.snd.snd.snd == (0 : Int) && Bool.true), ()) else Option.some (Bool.false, ()) else Option.some (Bool.false, ()) else (F_63 a1.snd.fst.fst).bind fun v72 => bif !v72.fst then Option.some (Bool.false, ()) else bif a1.fst == (1 : Int) then bif a1.snd.fst.snd != (0 : Int) then Option.some (Bool.false, ()) else bif a1.fst == (2 : Int) then (F_63 a1.snd.fst.snd).bind fun v74 => bif !v74.fst then Option.some (Bool.false, ()) else bif a1.snd.snd.fst != (0 : Int) then bif Decidable.decide (a1.snd.snd.fst < (67108864 : Int)) then Option.some (Bool.false, ()) else bif Decidable.decide (a1.snd.snd.fst > (42949672960000 : Int)) then Option.some (Bool.false, ()) else (F_64 a1.snd.snd.snd.fst.fst (10000 : Int)).bind fun v76 => bif !v76.fst then Option.some (Bool.false, ()) else (F_64 a1.snd.snd.snd.fst.snd (10000 : Int)).bind fun v78 => bif !v78.fst then Option.some (Bool.false, ()) else (F_64 a1.snd.snd.snd.snd.fst (1000000 : Int)).bind fun v80 => bif v80.fst then (F_64 a1.snd.snd.snd.snd.snd (1000000 : Int)).bind fun v82 => bif v82.fst then bif a1.snd.snd.fst != (0 : Int) then Option.some (Bool.true, ()) else Option.some (a1.snd.snd.snd.snd.fst == (0 : Int) && (a1.snd.snd.snd.snd.snd == (0 : Int) && Bool.true), ()) else Option.some (Bool.false, ()) else Option.some (Bool.false, ()) else (F_64 a1.snd.snd.snd.fst.fst (10000 : Int)).bind fun v84 => bif !v84.fst then Option.some (Bool.false, ()) else (F_64 a1.snd.snd.snd.fst.snd (10000 : Int)).bind fun v86 => bif !v86.fst then Option.some (Bool.false, ()) else (F_64 a1.snd.snd.snd.snd.fst (1000000 : Int)).bind fun v88 => bif v88.fst then (F_64 a1.snd.snd.snd.snd.snd (1000000 : Int)).bind fun v90 => bif v90.fst then bif a1.snd.snd.fst != (0 : Int) then Option.some (Bool.true, ()) else Option.some (a1.snd.snd.snd.snd.fst == (0 : Int) && (a1.snd.snd.snd.snd.snd == (0 : Int) && Bool.true), ()) else Option.some (Bool.false, ()) else Option.some (Bool.false, ()) else bif a1.snd.snd.fst != (0 : Int) then bif Decidable.decide (a1.snd.snd.fst < (67108864 : Int)) then Option.some (Bool.false, ()) else bif Decidable.decide (a1.snd.snd.fst > (42949672960000 : Int)) then Option.some (Bool.false, ()) else (F_64 a1.snd.snd.snd.fst.fst (10000 : Int)).bind fun v92 => bif !v92.fst then Option.some (Bool.false, ()) else (F_64 a1.snd.snd.snd.fst.snd (10000 : Int)).bind fun v94 => bif !v94.fst then Option.some (Bool.false, ()) else (F_64 a1.snd.snd.snd.snd.fst (1000000 : Int)).bind fun v96 => bif v96.fst then (F_64 a1.snd.snd.snd.snd.snd (1000000 : Int)).bind fun v98 => bif v98.fst then bif a1.snd.snd.fst != (0 : Int) then Option.some (Bool.true, ()) else Option.some (a1.snd.snd.snd.snd.fst == (0 : Int) && (a1.snd.snd.snd.snd.snd == (0 : Int) && Bool.true), ()) else Option.some (Bool.false, ()) else Option.some (Bool.false, ()) else (F_64 a1.snd.snd.snd.fst.fst (10000 : Int)).bind fun v100 => bif !v100.fst then Option.some (Bool.false, ()) else (F_64 a1.snd.snd.snd.fst.snd (10000 : Int)).bind fun v102 => bif !v102.fst then Option.some (Bool.false, ()) else (F_64 a1.snd.snd.snd.snd.fst (1000000 : Int)).bind fun v104 => bif v104.fst then (F_64 a1.snd.snd.snd.snd.snd (1000000 : Int)).bind fun v106 => bif v106.fst then bif a1.snd.snd.fst != (0 : Int) then Option.some (Bool.true, ()) else Option.some (a1.snd.snd.snd.snd.fst == (0 : Int) && (a1.snd.snd.snd.snd.snd == (0 : Int) && Bool.true), ()) else Option.some (Bool.false, ()) else Option.some (Bool.false, ()) else bif a1.fst == (2 : Int) then (F_63 a1.snd.fst.snd).bind fun v108 => bif !v108.fst then Option.some (Bool.false, ()) else bif a1.snd.snd.fst != (0 : Int) then bif Decidable.decide (a1.snd.snd.fst < (67108864 : Int)) then Option.some (Bool.false, ()) else bif Decidable.decide (a1.snd.snd.fst > (42949672960000 : Int)) then Option.some (Bool.false, ()) else (F_64 a1.snd.snd.snd.fst.fst (10000 : Int)).bind fun v110 => bif !v110.fst then Option.some (Bool.false, ()) else (F_64 a1.snd.snd.snd.fst.snd (10000 : Int)).bind fun v112 => bif !v112.fst then Option.some (Bool.false, ()) else (F_64 a1.snd.snd.snd.snd.fst (1000000 : Int)).bind fun v114 => bif v114.fst then (F_64 a1.snd.snd.snd.snd.snd (1000000 : Int)).bind fun v116 => bif v116.fst then bif a1.snd.snd.fst != (0 : Int) then Option.some (Bool.true, ()) else Option.some (a1.snd.snd.snd.snd.fst == (0 : Int) && (a1.snd.snd.snd.snd.snd == (0 : Int) && Bool.true), ()) else Option.some (Bool.false, ()) else Option.some (Bool.false, ()) else (F_64 a1.snd.snd.snd.fst.fst (10000 : Int)).bind fun v118 => bif !v118.fst then Option.some (Bool.false, ()) else (F_64 a1.snd.snd.snd.fst.snd (10000 : Int)).bind fun v120 => bif !v120.fst then Option.some (Bool.false, ()) else (F_64 a1.snd.snd.snd.snd.fst (1000000 : Int)).bind fun v122 => bif v122.fst then (F_64 a1.snd.snd.snd.snd.snd (1000000 : Int)).bind fun v124 => bif v124.fst then bif a1.snd.snd.fst != (0 : Int) then Option.some (Bool.true, ()) else Option.some (a1.snd.snd.snd.snd.fst == (0 : Int) && (a1.snd.snd.snd.snd.snd == (0 : Int) && Bool.true), ()) else Option.some (Bool.false, ()) else Option.some (Bool.false, ()) else bif a1.snd.snd.fst != (0 : Int) then bif Decidable.decide (a1.snd.snd.fst < (67108864 : Int)) then Option.some (Bool.false, ()) else bif Decidable.decide (a1.snd.snd.fst > (42949672960000 : Int)) then Option.some (Bool.false, ()) else (F_64 a1.snd.snd.snd.fst.fst (10000 : Int)).bind fun v126 => bif !v126.fst then Option.some (Bool.false, ()) else (F_64 a1.snd.snd.snd.fst.snd (10000 : Int)).bind fun v128 => bif !v128.fst then Option.some (Bool.false, ()) else (F_64 a1.snd.snd.snd.snd.fst (1000000 : Int)).bind fun v130 => bif v130.fst then (F_64 a1.snd.snd.snd.snd.snd (1000000 : Int)).bind fun v132 => bif v132.fst then bif a1.snd.snd.fst != (0 : Int) then Option.some (Bool.true, ()) else Option.some (a1.snd.snd.snd.snd.fst == (0 : Int) && (a1.snd.snd.snd.snd.snd == (0 : Int) && Bool.true), ()) else Option.some (Bool.false, ()) else Option.some (Bool.false, ()) else (F_64 a1.snd.snd.snd.fst.fst (10000 : Int)).bind fun v134 => bif !v134.fst then Option.some (Bool.false, ()) else (F_64 a1.snd.snd.snd.fst.snd (10000 : Int)).bind fun v136 => bif !v136.fst then Option.some (Bool.false, ()) else (F_64 a1.snd.snd.snd.snd.fst (1000000 : Int)).bind fun v138 => bif v138.fst then (F_64 a1.snd.snd.snd.snd.snd (1000000 : Int)).bind fun v140 => bif v140.fst then bif a1.snd.snd.fst != (0 : Int) then Option.some (Bool.true, ()) else Option.some (a1.snd.snd.snd.snd.fst == (0 : Int) && (a1.snd.snd.snd.snd.snd == (0 : Int) && Bool.true), ()) else Option.some (Bool.false, ()) else Option.some (Bool.false, ())
theorem f_20 (x : Ps [.ty tBody]) : funcT CT T_20 [.bool] (drT CT T_20) lp_20 Tryz.f20 c_20 (encPs [.ty tBody] x) = F_20 x.1 := by kernel_rfl
noncomputable def E_20 : Ent := .fn 20 [] ⟨[.ty tBody], [.bool], fun x => F_20 x.1, false⟩
theorem e_20 : E_20.Ok CT.P := Ent.ofFn CT_ok T_20_ok hf_20 hb_20 lp_20_ok f_20
noncomputable def E_20h : Ent := .fn 20 [] ⟨[.ty tBody], [.bool], fun x => F_20 x.1, true⟩
/-! ### 5: maquette/maquettelaw12.WorldStill -/
noncomputable def c_5 : Code := Tryz.f5.body.getD .skip
theorem hb_5 : Tryz.f5.body = some c_5 := by kernel_rfl
theorem hf_5 : CT.P.funcs[5]? = some Tryz.f5 := by kernel_rfl
noncomputable def T_5 : Tb := mkTb tyT mpT [E_14, E_15, E_20, E_21, E_22]
theorem T_5_ok : T_5.Ok CT.P := mkTb_ok (⟨e_14, e_15, e_20, e_21, e_22, trivial⟩)
noncomputable def l_5_5 : Code := atLoop c_5 5
noncomputable def l_5_11 : Code := atLoop l_5_5 11
noncomputable abbrev LD_5_11 : LayD := ⟨92, [(1, .data I), (5, .own tBody 0), (6, .data I), (7, .data I), (33, .data I), (34, .data I)], [.row 39 tBody], fun s => [slotR s 5]⟩
noncomputable abbrev LA_5_11 : LayD := ⟨92, [(1, .data I), (5, .own tBody 0), (33, .data I), (34, .data I)], [.row 39 tBody], fun s => [slotR s 5]⟩
noncomputable abbrev LB_5_11 : LayD := ⟨92, [(4, .data .bool)], [], fun _ => []⟩
noncomputable def EX_5_11 : Exits 0 LA_5_11.El LB_5_11.El := ⟨.exit 2, LA_5_11.lay [], .ret, LB_5_11.lay []⟩

noncomputable def lpi_5_11 {β : Type} : LpT β := fun _ _ _ => none
theorem lpi_5_11_ok {β : Type} : LpTOk CT (lpi_5_11 (β := β)) (loopsOf l_5_11) := by
  have h : loopsOf l_5_11 = [] := by kernel_rfl
  rw [h]
  exact LpTOk.nil
noncomputable def G_5_11 (r1 : Ty.El I) (r6 : Ty.El I) (r7 : Ty.El I) (r33 : Ty.El I) (r34 : Ty.El I) (b0 : List (Ty.El tBody)) : Option (LD_5_11.El ⊕ (LA_5_11.El ⊕ LB_5_11.El)) := bif Decidable.decide (r7 < r6) then bif Decidable.decide ((0 : Int) ≤ r7 ∧ r7 < (↑b0.length : Int)) then bif Decidable.decide ((0 : Int) ≤ r6 ∧ r6 < (↑b0.length : Int)) then (F_21 (b0.getD (Int.toNat r7) Go.DI.S.tBody.dflt) (b0.getD (Int.toNat r6) Go.DI.S.tBody.dflt) ((0 : Int), ())).bind fun v2 => bif v2.fst.snd.fst then Option.some (Sum.inr (Sum.inr ((Bool.true, ()), ()))) else bif v2.snd.fst.fst != (0 : Int) then Option.some (Sum.inr (Sum.inr ((Bool.true, ()), ()))) else Option.some (Sum.inl ((r1, (), r6, Go.IntKind.i64.wrap (r7 + (1 : Int)), r33, r34, ()), b0, ())) else Option.none else Option.none else Option.some (Sum.inr (Sum.inl ((r1, (), r33, r34, ()), b0, ())))
theorem g_5_11 (x : LD_5_11.El) : codeT CT T_5 (drT CT T_5) lpi_5_11 l_5_11 (LD_5_11.enc x) (bodyK (LD_5_11.lay []) EX_5_11) = G_5_11 x.1.1 x.1.2.2.1 x.1.2.2.2.1 x.1.2.2.2.2.1 x.1.2.2.2.2.2.1 x.2.1 := by kernel_rfl
noncomputable def R_5_11 : LD_5_11.El → Option (LA_5_11.El ⊕ LB_5_11.El) := roundsT (fun x => G_5_11 x.1.1 x.1.2.2.1 x.1.2.2.2.1 x.1.2.2.2.2.1 x.1.2.2.2.2.2.1 x.2.1) fuel
theorem r_5_11 : ∀ x y, R_5_11 x = some y → CL CT l_5_11 (LD_5_11.enc x) (Sum.elim (fun _ => EX_5_11.xa) (fun _ => EX_5_11.xb) y) (Sum.elim EX_5_11.la.enc EX_5_11.lb.enc y) :=
  rounds_ok (L := LD_5_11.lay []) (E := EX_5_11) CT_ok T_5_ok (drT_ok CT_ok T_5_ok) lpi_5_11_ok g_5_11 rfl rfl (fun v h => by have hh : (.exit 2 : AX) = .pan v := h; cases hh) (fun v h => by have hh : (.ret : AX) = .pan v := h; cases hh) fuel
noncomputable abbrev LD_5_5 : LayD := ⟨92, [(1, .data I), (5, .own tBody 0), (33, .data I), (34, .data I)], [.row 39 tBody], fun s => [slotR s 5]⟩
noncomputable abbrev LA_5_5 : LayD := ⟨92, [(1, .data I), (5, .data (.list tBody))], [], fun _ => []⟩
noncomputable abbrev LB_5_5 : LayD := ⟨92, [(4, .data .bool)], [], fun _ => []⟩
noncomputable def EX_5_5 : Exits 0 LA_5_5.El LB_5_5.El := ⟨.exit 0, LA_5_5.lay [.frzReg 5 (.list tBody)], .ret, LB_5_5.lay []⟩

noncomputable def lpi_5_5 {β : Type} : LpT β := fun k s K => if Nat.beq k 11 then lpOne (LD_5_11.lay []) EX_5_11 R_5_11 s K else none
theorem lpi_5_5_ok {β : Type} : LpTOk CT (lpi_5_5 (β := β)) (loopsOf l_5_5) := by
  have h : loopsOf l_5_5 = [(11, l_5_11)] := by kernel_rfl
  rw [h]
  exact LpTOk.cons (fun s K z h => lpOne_ok r_5_11 h) (LpTOk.nil)
noncomputable def G_5_5 (r1 : Ty.El I) (r33 : Ty.El I) (r34 : Ty.El I) (b0 : List (Ty.El tBody)) : Option (LD_5_5.El ⊕ (LA_5_5.El ⊕ LB_5_5.El)) := bif Decidable.decide (r34 < r33) then bif Decidable.decide ((0 : Int) ≤ r34 ∧ r34 < (↑b0.length : Int)) then bif Decidable.decide ((0 : Int) ≤ r34 ∧ r34 < (↑(b0.set (Int.toNat r34) ((b0.getD (Int.toNat r34) Go.DI.S.tBody.dflt).fst, (b0.getD (Int.toNat r34) Go.DI.S.tBody.dflt).snd.fst, (b0.getD (Int.toNat r34) Go.DI.S.tBody.dflt).snd.snd.fst, (b0.getD (Int.toNat r34) Go.DI.S.tBody.dflt).snd.snd.snd.fst, (0 : Int), (0 : Int))).length : Int)) then (F_20 ((b0.set (Int.toNat r34) ((b0.getD (Int.toNat r34) Go.DI.S.tBody.dflt).fst, (b0.getD (Int.toNat r34) Go.DI.S.tBody.dflt).snd.fst, (b0.getD (Int.toNat r34) Go.DI.S.tBody.dflt).snd.snd.fst, (b0.getD (Int.toNat r34) Go.DI.S.tBody.dflt).snd.snd.snd.fst, (0 : Int), (0 : Int))).getD (Int.toNat r34) Go.DI.S.tBody.dflt)).bind fun v2 => bif !v2.fst then Option.some (Sum.inr (Sum.inr ((Bool.true, ()), ()))) else (R_5_11 ((r1, (), r34, (0 : Int), r33, r34, ()), b0.set (Int.toNat r34) ((b0.getD (Int.toNat r34) Go.DI.S.tBody.dflt).fst, (b0.getD (Int.toNat r34) Go.DI.S.tBody.dflt).snd.fst, (b0.getD (Int.toNat r34) Go.DI.S.tBody.dflt).snd.snd.fst, (b0.getD (Int.toNat r34) Go.DI.S.tBody.dflt).snd.snd.snd.fst, (0 : Int), (0 : Int)), ())).bind fun v3 => Sum.elim (fun v4 => Option.some (Sum.inl ((v4.fst.fst, (), v4.fst.snd.snd.fst, Go.IntKind.i64.wrap (v4.fst.snd.snd.snd.fst + (1 : Int)), ()), v4.snd.fst, ()))) (fun v5 => Option.some (Sum.inr (Sum.inr ((v5.fst.fst, ()), ())))) v3 else Option.none else Option.none else Option.some (Sum.inr (Sum.inl ((r1, b0, ()), ())))
theorem g_5_5 (x : LD_5_5.El) : codeT CT T_5 (drT CT T_5) lpi_5_5 l_5_5 (LD_5_5.enc x) (bodyK (LD_5_5.lay [.nilReg 5 39 tBody]) EX_5_5) = G_5_5 x.1.1 x.1.2.2.1 x.1.2.2.2.1 x.2.1 := by kernel_rfl
noncomputable def R_5_5 : LD_5_5.El → Option (LA_5_5.El ⊕ LB_5_5.El) := roundsT (fun x => G_5_5 x.1.1 x.1.2.2.1 x.1.2.2.2.1 x.2.1) fuel
theorem r_5_5 : ∀ x y, R_5_5 x = some y → CL CT l_5_5 (LD_5_5.enc x) (Sum.elim (fun _ => EX_5_5.xa) (fun _ => EX_5_5.xb) y) (Sum.elim EX_5_5.la.enc EX_5_5.lb.enc y) :=
  rounds_ok (L := LD_5_5.lay [.nilReg 5 39 tBody]) (E := EX_5_5) CT_ok T_5_ok (drT_ok CT_ok T_5_ok) lpi_5_5_ok g_5_5 rfl rfl (fun v h => by have hh : (.exit 0 : AX) = .pan v := h; cases hh) (fun v h => by have hh : (.ret : AX) = .pan v := h; cases hh) fuel
noncomputable def lp_5 {β : Type} : LpT β := fun k s K => if Nat.beq k 5 then lpOne (LD_5_5.lay [.nilReg 5 39 tBody]) EX_5_5 R_5_5 s K else none
theorem lp_5_ok {β : Type} : LpTOk CT (lp_5 (β := β)) (loopsOf c_5) := by
  have h : loopsOf c_5 = [(5, l_5_5)] := by kernel_rfl
  rw [h]
  exact LpTOk.cons (fun s K z h => lpOne_ok r_5_5 h) (LpTOk.nil)
noncomputable def F_5 (a1 : Ty.El (.list tBody)) (a2 : Ty.El I) : Option (Els [.bool]) := bif Decidable.decide ((↑(List.length a1) : Int) > (10 : Int)) then F_14.bind fun v2 => Option.some (v2.fst, ()) else bif Decidable.decide (a2 < (0 : Int)) then F_14.bind fun v4 => Option.some (v4.fst, ()) else bif Decidable.decide (a2 > (12 : Int)) then F_14.bind fun v6 => Option.some (v6.fst, ()) else F_14.bind fun v8 => bif !v8.fst then F_14.bind fun v10 => Option.some (v10.fst, ()) else bif (List.length a1 * (64 : Nat)).ble (70368744177664 : Nat) then (R_5_5 ((a2, (), (↑(List.length a1) : Int), (0 : Int), ()), a1, ())).bind fun v11 => Sum.elim (fun v12 => (F_15 (((0 : Int), (0 : Int)), v12.fst.snd.fst, []) v12.fst.fst).bind fun v14 => bif v14.snd.snd.fst == (0 : Int) then bif v14.snd.fst == (0 : Int) then (F_22 v14.fst.snd.fst v12.fst.snd.fst).bind fun v16 => Option.some (v16.fst, ()) else Option.some (Bool.false, ()) else Option.some (Bool.false, ())) (fun v17 => Option.some (v17.fst.fst, ())) v11 else Option.none
theorem f_5 (x : Ps [.ty (.list tBody), .ty I]) : funcT CT T_5 [.bool] (drT CT T_5) lp_5 Tryz.f5 c_5 (encPs [.ty (.list tBody), .ty I] x) = F_5 x.1 x.2.1 := by kernel_rfl
noncomputable def E_5 : Ent := .fn 5 [] ⟨[.ty (.list tBody), .ty I], [.bool], fun x => F_5 x.1 x.2.1, false⟩
theorem e_5 : E_5.Ok CT.P := Ent.ofFn CT_ok T_5_ok hf_5 hb_5 lp_5_ok f_5
noncomputable def E_5h : Ent := .fn 5 [] ⟨[.ty (.list tBody), .ty I], [.bool], fun x => F_5 x.1 x.2.1, true⟩
end Go.DI.S

