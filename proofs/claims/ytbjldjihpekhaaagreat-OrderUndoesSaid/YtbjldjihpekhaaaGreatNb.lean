import Derived.Test.YtbjldjihpekhaaaGreatTa
import Derived.Test.YtbjldjihpekhaaaGreatMd
/- Turning; a command carried out; OrderTurns: told by functions on data. No conditions. -/
set_option linter.unusedVariables false
set_option maxRecDepth 100000
set_option maxHeartbeats 0
namespace Go.DI.S
open Go.Proofs
end Go.DI.S
set_option linter.unusedVariables false
set_option maxRecDepth 100000
set_option maxHeartbeats 0
namespace Go.DI.S
open Go.Proofs
noncomputable def c_len64 : Code := Tryz.f209.body.getD .skip
theorem hb_len64 : Tryz.f209.body = some c_len64 := by kernel_rfl
theorem hf_len64 : CT.P.funcs[209]? = some Tryz.f209 := by kernel_rfl
noncomputable def T_len64 : Tb := mkTb tyT mpT []
theorem T_len64_ok : T_len64.Ok CT.P := mkTb_ok (trivial)
noncomputable def lp_len64 {β : Type} : LpT β := fun _ _ _ => none
theorem lp_len64_ok {β : Type} : LpTOk CT (lp_len64 (β := β)) (loopsOf c_len64) := by
  have h : loopsOf c_len64 = [] := by kernel_rfl
  rw [h]
  exact LpTOk.nil
noncomputable def F_len64 (a1 : Ty.El (.int .u64)) : Option (Els [I]) := funcT CT T_len64 [I] (drT CT T_len64) lp_len64 Tryz.f209 c_len64 (encPs [.ty (.int .u64)] (a1, ()))
theorem f_len64 (x : Ps [.ty (.int .u64)]) : funcT CT T_len64 [I] (drT CT T_len64) lp_len64 Tryz.f209 c_len64 (encPs [.ty (.int .u64)] x) = F_len64 x.1 := rfl
noncomputable def E_len64 : Ent := .fn 209 [] ⟨[.ty (.int .u64)], [I], fun x => F_len64 x.1, false⟩
theorem e_len64 : E_len64.Ok CT.P := Ent.ofFn CT_ok T_len64_ok hf_len64 hb_len64 lp_len64_ok f_len64
noncomputable def c_lz64 : Code := Tryz.f274.body.getD .skip
theorem hb_lz64 : Tryz.f274.body = some c_lz64 := by kernel_rfl
theorem hf_lz64 : CT.P.funcs[274]? = some Tryz.f274 := by kernel_rfl
noncomputable def T_lz64 : Tb := mkTb tyT mpT [E_len64]
theorem T_lz64_ok : T_lz64.Ok CT.P := mkTb_ok (⟨e_len64, trivial⟩)
noncomputable def lp_lz64 {β : Type} : LpT β := fun _ _ _ => none
theorem lp_lz64_ok {β : Type} : LpTOk CT (lp_lz64 (β := β)) (loopsOf c_lz64) := by
  have h : loopsOf c_lz64 = [] := by kernel_rfl
  rw [h]
  exact LpTOk.nil
noncomputable def F_lz64 (a1 : Ty.El (.int .u64)) : Option (Els [I]) := (F_len64 a1).bind fun v2 => Option.some (Go.IntKind.i64.wrap ((64 : Int) - v2.fst), ())
theorem f_lz64 (x : Ps [.ty (.int .u64)]) : funcT CT T_lz64 [I] (drT CT T_lz64) lp_lz64 Tryz.f274 c_lz64 (encPs [.ty (.int .u64)] x) = F_lz64 x.1 := by kernel_rfl
noncomputable def E_lz64 : Ent := .fn 274 [] ⟨[.ty (.int .u64)], [I], fun x => F_lz64 x.1, false⟩
theorem e_lz64 : E_lz64.Ok CT.P := Ent.ofFn CT_ok T_lz64_ok hf_lz64 hb_lz64 lp_lz64_ok f_lz64
noncomputable def c_mul64 : Code := Tryz.f260.body.getD .skip
theorem hb_mul64 : Tryz.f260.body = some c_mul64 := by kernel_rfl
theorem hf_mul64 : CT.P.funcs[260]? = some Tryz.f260 := by kernel_rfl
noncomputable def T_mul64 : Tb := mkTb tyT mpT []
theorem T_mul64_ok : T_mul64.Ok CT.P := mkTb_ok (trivial)
noncomputable def lp_mul64 {β : Type} : LpT β := fun _ _ _ => none
theorem lp_mul64_ok {β : Type} : LpTOk CT (lp_mul64 (β := β)) (loopsOf c_mul64) := by
  have h : loopsOf c_mul64 = [] := by kernel_rfl
  rw [h]
  exact LpTOk.nil
noncomputable def F_mul64 (a1 : Ty.El (.int .u64)) (a2 : Ty.El (.int .u64)) : Option (Els [.int .u64, .int .u64]) := Option.some (Go.IntKind.u64.wrap (Go.IntKind.u64.wrap (Go.IntKind.u64.wrap (Int.fdiv a1 (4294967296 : Int) * Int.fdiv a2 (4294967296 : Int)) + (Go.IntKind.u64.wrap (Go.IntKind.u64.wrap (Int.fdiv a1 (4294967296 : Int) * Go.DI.bAnd Go.IntKind.u64 a2 (4294967295 : Int)) + (Go.IntKind.u64.wrap (Go.DI.bAnd Go.IntKind.u64 a1 (4294967295 : Int) * Go.DI.bAnd Go.IntKind.u64 a2 (4294967295 : Int))).fdiv (4294967296 : Int))).fdiv (4294967296 : Int)) + (Go.IntKind.u64.wrap (Go.DI.bAnd Go.IntKind.u64 (Go.IntKind.u64.wrap (Go.IntKind.u64.wrap (Int.fdiv a1 (4294967296 : Int) * Go.DI.bAnd Go.IntKind.u64 a2 (4294967295 : Int)) + (Go.IntKind.u64.wrap (Go.DI.bAnd Go.IntKind.u64 a1 (4294967295 : Int) * Go.DI.bAnd Go.IntKind.u64 a2 (4294967295 : Int))).fdiv (4294967296 : Int))) (4294967295 : Int) + Go.IntKind.u64.wrap (Go.DI.bAnd Go.IntKind.u64 a1 (4294967295 : Int) * Int.fdiv a2 (4294967296 : Int)))).fdiv (4294967296 : Int)), Go.IntKind.u64.wrap (a1 * a2), ())
theorem f_mul64 (x : Ps [.ty (.int .u64), .ty (.int .u64)]) : funcT CT T_mul64 [.int .u64, .int .u64] (drT CT T_mul64) lp_mul64 Tryz.f260 c_mul64 (encPs [.ty (.int .u64), .ty (.int .u64)] x) = F_mul64 x.1 x.2.1 := by kernel_rfl
noncomputable def E_mul64 : Ent := .fn 260 [] ⟨[.ty (.int .u64), .ty (.int .u64)], [.int .u64, .int .u64], fun x => F_mul64 x.1 x.2.1, false⟩
theorem e_mul64 : E_mul64.Ok CT.P := Ent.ofFn CT_ok T_mul64_ok hf_mul64 hb_mul64 lp_mul64_ok f_mul64
noncomputable def c_div64 : Code := Tryz.f261.body.getD .skip
theorem hb_div64 : Tryz.f261.body = some c_div64 := by kernel_rfl
theorem hf_div64 : CT.P.funcs[261]? = some Tryz.f261 := by kernel_rfl
noncomputable def T_div64 : Tb := mkTb tyT mpT [E_lz64]
theorem T_div64_ok : T_div64.Ok CT.P := mkTb_ok (⟨e_lz64, trivial⟩)
noncomputable def l_div64_24 : Code := atLoop c_div64 24
noncomputable def l_div64_17 : Code := atLoop c_div64 17
noncomputable abbrev LD_div64_17 : LayD := ⟨135, [(2, .data (.int .u64)), (8, .data (.int .u64)), (9, .data (.int .u64)), (10, .data (.int .u64)), (11, .data (.int .u64)), (13, .data (.int .u64)), (14, .data (.int .u64)), (15, .data (.int .u64)), (16, .data (.int .u64))], [], fun _ => []⟩
noncomputable abbrev LA_div64_17 : LayD := ⟨135, [(2, .data (.int .u64)), (8, .data (.int .u64)), (9, .data (.int .u64)), (10, .data (.int .u64)), (11, .data (.int .u64)), (13, .data (.int .u64)), (14, .data (.int .u64)), (15, .data (.int .u64))], [], fun _ => []⟩
noncomputable abbrev LB_div64_17 : LayD := ⟨135, [], [], fun _ => []⟩
noncomputable def EX_div64_17 : Exits 0 LA_div64_17.El LB_div64_17.El := ⟨.exit 0, LA_div64_17.lay [], .ret, LB_div64_17.lay []⟩
noncomputable def lpi_div64_17 {β : Type} : LpT β := fun _ _ _ => none
theorem lpi_div64_17_ok {β : Type} : LpTOk CT (lpi_div64_17 (β := β)) (loopsOf l_div64_17) := by
  have h : loopsOf l_div64_17 = [] := by kernel_rfl
  rw [h]
  exact LpTOk.nil
noncomputable def G_div64_17 (r2 : Ty.El (.int .u64)) (r8 : Ty.El (.int .u64)) (r9 : Ty.El (.int .u64)) (r10 : Ty.El (.int .u64)) (r11 : Ty.El (.int .u64)) (r13 : Ty.El (.int .u64)) (r14 : Ty.El (.int .u64)) (r15 : Ty.El (.int .u64)) (r16 : Ty.El (.int .u64)) : Option (LD_div64_17.El ⊕ (LA_div64_17.El ⊕ LB_div64_17.El)) := bif Decidable.decide (r15 ≥ (4294967296 : Int)) then bif Decidable.decide (Go.IntKind.u64.wrap (r16 + r9) ≥ (4294967296 : Int)) then Option.some (Sum.inr (Sum.inl ((r2, r8, r9, r10, r11, r13, r14, Go.IntKind.u64.wrap (r15 - (1 : Int)), ()), ()))) else Option.some (Sum.inl ((r2, r8, r9, r10, r11, r13, r14, Go.IntKind.u64.wrap (r15 - (1 : Int)), Go.IntKind.u64.wrap (r16 + r9), ()), ())) else bif Decidable.decide (Go.IntKind.u64.wrap (r15 * r10) > Go.IntKind.u64.wrap (Go.IntKind.u64.wrap ((4294967296 : Int) * r16) + r13)) then bif Decidable.decide (Go.IntKind.u64.wrap (r16 + r9) ≥ (4294967296 : Int)) then Option.some (Sum.inr (Sum.inl ((r2, r8, r9, r10, r11, r13, r14, Go.IntKind.u64.wrap (r15 - (1 : Int)), ()), ()))) else Option.some (Sum.inl ((r2, r8, r9, r10, r11, r13, r14, Go.IntKind.u64.wrap (r15 - (1 : Int)), Go.IntKind.u64.wrap (r16 + r9), ()), ())) else Option.some (Sum.inr (Sum.inl ((r2, r8, r9, r10, r11, r13, r14, r15, ()), ())))
theorem g_div64_17 (x : LD_div64_17.El) : codeT CT T_div64 (drT CT T_div64) lpi_div64_17 l_div64_17 (LD_div64_17.enc x) (bodyK (LD_div64_17.lay []) EX_div64_17) = G_div64_17 x.1.1 x.1.2.1 x.1.2.2.1 x.1.2.2.2.1 x.1.2.2.2.2.1 x.1.2.2.2.2.2.1 x.1.2.2.2.2.2.2.1 x.1.2.2.2.2.2.2.2.1 x.1.2.2.2.2.2.2.2.2.1 := by kernel_rfl
noncomputable def R_div64_17 : LD_div64_17.El → Option (LA_div64_17.El ⊕ LB_div64_17.El) := roundsT (fun x => G_div64_17 x.1.1 x.1.2.1 x.1.2.2.1 x.1.2.2.2.1 x.1.2.2.2.2.1 x.1.2.2.2.2.2.1 x.1.2.2.2.2.2.2.1 x.1.2.2.2.2.2.2.2.1 x.1.2.2.2.2.2.2.2.2.1) fuel
theorem r_div64_17 : ∀ x y, R_div64_17 x = some y → CL CT l_div64_17 (LD_div64_17.enc x) (Sum.elim (fun _ => EX_div64_17.xa) (fun _ => EX_div64_17.xb) y) (Sum.elim EX_div64_17.la.enc EX_div64_17.lb.enc y) :=
  rounds_ok (L := LD_div64_17.lay []) (E := EX_div64_17) CT_ok T_div64_ok (drT_ok CT_ok T_div64_ok) lpi_div64_17_ok g_div64_17 rfl rfl (fun v h => by have hh : (.exit 0 : AX) = .pan v := h; cases hh) (fun v h => by have hh : (.ret : AX) = .pan v := h; cases hh) fuel
noncomputable abbrev LD_div64_24 : LayD := ⟨135, [(2, .data (.int .u64)), (8, .data (.int .u64)), (9, .data (.int .u64)), (10, .data (.int .u64)), (14, .data (.int .u64)), (15, .data (.int .u64)), (16, .data (.int .u64)), (17, .data (.int .u64)), (18, .data (.int .u64))], [], fun _ => []⟩
noncomputable abbrev LA_div64_24 : LayD := ⟨135, [(2, .data (.int .u64)), (8, .data (.int .u64)), (14, .data (.int .u64)), (15, .data (.int .u64)), (17, .data (.int .u64)), (18, .data (.int .u64))], [], fun _ => []⟩
noncomputable abbrev LB_div64_24 : LayD := ⟨135, [], [], fun _ => []⟩
noncomputable def EX_div64_24 : Exits 0 LA_div64_24.El LB_div64_24.El := ⟨.exit 2, LA_div64_24.lay [], .ret, LB_div64_24.lay []⟩
noncomputable def lpi_div64_24 {β : Type} : LpT β := fun _ _ _ => none
theorem lpi_div64_24_ok {β : Type} : LpTOk CT (lpi_div64_24 (β := β)) (loopsOf l_div64_24) := by
  have h : loopsOf l_div64_24 = [] := by kernel_rfl
  rw [h]
  exact LpTOk.nil
noncomputable def G_div64_24 (r2 : Ty.El (.int .u64)) (r8 : Ty.El (.int .u64)) (r9 : Ty.El (.int .u64)) (r10 : Ty.El (.int .u64)) (r14 : Ty.El (.int .u64)) (r15 : Ty.El (.int .u64)) (r16 : Ty.El (.int .u64)) (r17 : Ty.El (.int .u64)) (r18 : Ty.El (.int .u64)) : Option (LD_div64_24.El ⊕ (LA_div64_24.El ⊕ LB_div64_24.El)) := bif Decidable.decide (r18 ≥ (4294967296 : Int)) then bif Decidable.decide (Go.IntKind.u64.wrap (r16 + r9) ≥ (4294967296 : Int)) then Option.some (Sum.inr (Sum.inl ((r2, r8, r14, r15, r17, Go.IntKind.u64.wrap (r18 - (1 : Int)), ()), ()))) else Option.some (Sum.inl ((r2, r8, r9, r10, r14, r15, Go.IntKind.u64.wrap (r16 + r9), r17, Go.IntKind.u64.wrap (r18 - (1 : Int)), ()), ())) else bif Decidable.decide (Go.IntKind.u64.wrap (r18 * r10) > Go.IntKind.u64.wrap (Go.IntKind.u64.wrap ((4294967296 : Int) * r16) + r14)) then bif Decidable.decide (Go.IntKind.u64.wrap (r16 + r9) ≥ (4294967296 : Int)) then Option.some (Sum.inr (Sum.inl ((r2, r8, r14, r15, r17, Go.IntKind.u64.wrap (r18 - (1 : Int)), ()), ()))) else Option.some (Sum.inl ((r2, r8, r9, r10, r14, r15, Go.IntKind.u64.wrap (r16 + r9), r17, Go.IntKind.u64.wrap (r18 - (1 : Int)), ()), ())) else Option.some (Sum.inr (Sum.inl ((r2, r8, r14, r15, r17, r18, ()), ())))
theorem g_div64_24 (x : LD_div64_24.El) : codeT CT T_div64 (drT CT T_div64) lpi_div64_24 l_div64_24 (LD_div64_24.enc x) (bodyK (LD_div64_24.lay []) EX_div64_24) = G_div64_24 x.1.1 x.1.2.1 x.1.2.2.1 x.1.2.2.2.1 x.1.2.2.2.2.1 x.1.2.2.2.2.2.1 x.1.2.2.2.2.2.2.1 x.1.2.2.2.2.2.2.2.1 x.1.2.2.2.2.2.2.2.2.1 := by kernel_rfl
noncomputable def R_div64_24 : LD_div64_24.El → Option (LA_div64_24.El ⊕ LB_div64_24.El) := roundsT (fun x => G_div64_24 x.1.1 x.1.2.1 x.1.2.2.1 x.1.2.2.2.1 x.1.2.2.2.2.1 x.1.2.2.2.2.2.1 x.1.2.2.2.2.2.2.1 x.1.2.2.2.2.2.2.2.1 x.1.2.2.2.2.2.2.2.2.1) fuel
theorem r_div64_24 : ∀ x y, R_div64_24 x = some y → CL CT l_div64_24 (LD_div64_24.enc x) (Sum.elim (fun _ => EX_div64_24.xa) (fun _ => EX_div64_24.xb) y) (Sum.elim EX_div64_24.la.enc EX_div64_24.lb.enc y) :=
  rounds_ok (L := LD_div64_24.lay []) (E := EX_div64_24) CT_ok T_div64_ok (drT_ok CT_ok T_div64_ok) lpi_div64_24_ok g_div64_24 rfl rfl (fun v h => by have hh : (.exit 2 : AX) = .pan v := h; cases hh) (fun v h => by have hh : (.ret : AX) = .pan v := h; cases hh) fuel
noncomputable def lp_div64 {β : Type} : LpT β := fun k s K => if Nat.beq k 17 then lpOne (LD_div64_17.lay []) EX_div64_17 R_div64_17 s K else if Nat.beq k 24 then lpOne (LD_div64_24.lay []) EX_div64_24 R_div64_24 s K else none
theorem lp_div64_ok {β : Type} : LpTOk CT (lp_div64 (β := β)) (loopsOf c_div64) := by
  have h : loopsOf c_div64 = [(17, l_div64_17), (24, l_div64_24)] := by kernel_rfl
  rw [h]
  exact LpTOk.cons (fun s K z h => lpOne_ok r_div64_17 h) (LpTOk.cons (fun s K z h => lpOne_ok r_div64_24 h) (LpTOk.nil))
noncomputable def F_div64 (a1 : Ty.El (.int .u64)) (a2 : Ty.El (.int .u64)) (a3 : Ty.El (.int .u64)) : Option (Els [.int .u64, .int .u64]) := bif a3 == (0 : Int) then Option.none else bif Decidable.decide (a3 ≤ a1) then Option.none else bif a1 == (0 : Int) then bif Decidable.decide (a3 = (0 : Int)) then Option.none else bif Decidable.decide (a3 = (0 : Int)) then Option.none else Option.some (Go.IntKind.u64.wrap (Int.tdiv a2 a3), Int.tmod a2 a3, ()) else (F_lz64 a3).bind fun v2 => bif Decidable.decide (Go.IntKind.u64.wrap v2.fst < (0 : Int)) then Option.none else bif Decidable.decide (Go.IntKind.u64.wrap v2.fst < (0 : Int)) then Option.none else bif Decidable.decide (Go.IntKind.u64.wrap ((64 : Int) - Go.IntKind.u64.wrap v2.fst) < (0 : Int)) then Option.none else bif Decidable.decide (Go.IntKind.u64.wrap v2.fst < (0 : Int)) then Option.none else bif Decidable.decide ((Go.IntKind.u64.wrap (a3 * (2 : Int) ^ Min.min (Go.IntKind.u64.wrap v2.fst).toNat (64 : Nat))).fdiv (4294967296 : Int) = (0 : Int)) then Option.none else (R_div64_17 ((Go.IntKind.u64.wrap (a3 * (2 : Int) ^ Min.min (Go.IntKind.u64.wrap v2.fst).toNat (64 : Nat)), Go.IntKind.u64.wrap v2.fst, (Go.IntKind.u64.wrap (a3 * (2 : Int) ^ Min.min (Go.IntKind.u64.wrap v2.fst).toNat (64 : Nat))).fdiv (4294967296 : Int), Go.DI.bAnd Go.IntKind.u64 (Go.IntKind.u64.wrap (a3 * (2 : Int) ^ Min.min (Go.IntKind.u64.wrap v2.fst).toNat (64 : Nat))) (4294967295 : Int), Go.DI.bOr Go.IntKind.u64 (Go.IntKind.u64.wrap (a1 * (2 : Int) ^ Min.min (Go.IntKind.u64.wrap v2.fst).toNat (64 : Nat))) (Int.fdiv a2 ((2 : Int) ^ Min.min (Go.IntKind.u64.wrap ((64 : Int) - Go.IntKind.u64.wrap v2.fst)).toNat (64 : Nat))), (Go.IntKind.u64.wrap (a2 * (2 : Int) ^ Min.min (Go.IntKind.u64.wrap v2.fst).toNat (64 : Nat))).fdiv (4294967296 : Int), Go.DI.bAnd Go.IntKind.u64 (Go.IntKind.u64.wrap (a2 * (2 : Int) ^ Min.min (Go.IntKind.u64.wrap v2.fst).toNat (64 : Nat))) (4294967295 : Int), Go.IntKind.u64.wrap ((Go.DI.bOr Go.IntKind.u64 (Go.IntKind.u64.wrap (a1 * (2 : Int) ^ Min.min (Go.IntKind.u64.wrap v2.fst).toNat (64 : Nat))) (Int.fdiv a2 ((2 : Int) ^ Min.min (Go.IntKind.u64.wrap ((64 : Int) - Go.IntKind.u64.wrap v2.fst)).toNat (64 : Nat)))).tdiv ((Go.IntKind.u64.wrap (a3 * (2 : Int) ^ Min.min (Go.IntKind.u64.wrap v2.fst).toNat (64 : Nat))).fdiv (4294967296 : Int))), Go.IntKind.u64.wrap (Go.DI.bOr Go.IntKind.u64 (Go.IntKind.u64.wrap (a1 * (2 : Int) ^ Min.min (Go.IntKind.u64.wrap v2.fst).toNat (64 : Nat))) (Int.fdiv a2 ((2 : Int) ^ Min.min (Go.IntKind.u64.wrap ((64 : Int) - Go.IntKind.u64.wrap v2.fst)).toNat (64 : Nat))) - Go.IntKind.u64.wrap (Go.IntKind.u64.wrap ((Go.DI.bOr Go.IntKind.u64 (Go.IntKind.u64.wrap (a1 * (2 : Int) ^ Min.min (Go.IntKind.u64.wrap v2.fst).toNat (64 : Nat))) (Int.fdiv a2 ((2 : Int) ^ Min.min (Go.IntKind.u64.wrap ((64 : Int) - Go.IntKind.u64.wrap v2.fst)).toNat (64 : Nat)))).tdiv ((Go.IntKind.u64.wrap (a3 * (2 : Int) ^ Min.min (Go.IntKind.u64.wrap v2.fst).toNat (64 : Nat))).fdiv (4294967296 : Int))) * (Go.IntKind.u64.wrap (a3 * (2 : Int) ^ Min.min (Go.IntKind.u64.wrap v2.fst).toNat (64 : Nat))).fdiv (4294967296 : Int))), ()), ())).bind fun v3 => Sum.elim (fun v4 => bif Decidable.decide (v4.fst.snd.snd.fst = (0 : Int)) then Option.none else (R_div64_24 ((v4.fst.fst, v4.fst.snd.fst, v4.fst.snd.snd.fst, v4.fst.snd.snd.snd.fst, v4.fst.snd.snd.snd.snd.snd.snd.fst, v4.fst.snd.snd.snd.snd.snd.snd.snd.fst, Go.IntKind.u64.wrap (Go.IntKind.u64.wrap (Go.IntKind.u64.wrap (Go.IntKind.u64.wrap (v4.fst.snd.snd.snd.snd.fst * (4294967296 : Int)) + v4.fst.snd.snd.snd.snd.snd.fst) - Go.IntKind.u64.wrap (v4.fst.snd.snd.snd.snd.snd.snd.snd.fst * v4.fst.fst)) - Go.IntKind.u64.wrap (Go.IntKind.u64.wrap ((Go.IntKind.u64.wrap (Go.IntKind.u64.wrap (Go.IntKind.u64.wrap (v4.fst.snd.snd.snd.snd.fst * (4294967296 : Int)) + v4.fst.snd.snd.snd.snd.snd.fst) - Go.IntKind.u64.wrap (v4.fst.snd.snd.snd.snd.snd.snd.snd.fst * v4.fst.fst))).tdiv v4.fst.snd.snd.fst) * v4.fst.snd.snd.fst)), Go.IntKind.u64.wrap (Go.IntKind.u64.wrap (Go.IntKind.u64.wrap (v4.fst.snd.snd.snd.snd.fst * (4294967296 : Int)) + v4.fst.snd.snd.snd.snd.snd.fst) - Go.IntKind.u64.wrap (v4.fst.snd.snd.snd.snd.snd.snd.snd.fst * v4.fst.fst)), Go.IntKind.u64.wrap ((Go.IntKind.u64.wrap (Go.IntKind.u64.wrap (Go.IntKind.u64.wrap (v4.fst.snd.snd.snd.snd.fst * (4294967296 : Int)) + v4.fst.snd.snd.snd.snd.snd.fst) - Go.IntKind.u64.wrap (v4.fst.snd.snd.snd.snd.snd.snd.snd.fst * v4.fst.fst))).tdiv v4.fst.snd.snd.fst), ()), ())).bind fun v5 => Sum.elim (fun v6 => bif Decidable.decide (v6.fst.snd.fst < (0 : Int)) then Option.none else Option.some (Go.IntKind.u64.wrap (Go.IntKind.u64.wrap (v6.fst.snd.snd.snd.fst * (4294967296 : Int)) + v6.fst.snd.snd.snd.snd.snd.fst), (Go.IntKind.u64.wrap (Go.IntKind.u64.wrap (Go.IntKind.u64.wrap (v6.fst.snd.snd.snd.snd.fst * (4294967296 : Int)) + v6.fst.snd.snd.fst) - Go.IntKind.u64.wrap (v6.fst.snd.snd.snd.snd.snd.fst * v6.fst.fst))).fdiv ((2 : Int) ^ Min.min (Int.toNat v6.fst.snd.fst) (64 : Nat)), ())) (fun v7 => Option.none) v5) (fun v8 => Option.none) v3
theorem f_div64 (x : Ps [.ty (.int .u64), .ty (.int .u64), .ty (.int .u64)]) : funcT CT T_div64 [.int .u64, .int .u64] (drT CT T_div64) lp_div64 Tryz.f261 c_div64 (encPs [.ty (.int .u64), .ty (.int .u64), .ty (.int .u64)] x) = F_div64 x.1 x.2.1 x.2.2.1 := by kernel_rfl
noncomputable def E_div64 : Ent := .fn 261 [] ⟨[.ty (.int .u64), .ty (.int .u64), .ty (.int .u64)], [.int .u64, .int .u64], fun x => F_div64 x.1 x.2.1 x.2.2.1, false⟩
theorem e_div64 : E_div64.Ok CT.P := Ent.ofFn CT_ok T_div64_ok hf_div64 hb_div64 lp_div64_ok f_div64
noncomputable def c_parts : Code := Tryz.f262.body.getD .skip
theorem hb_parts : Tryz.f262.body = some c_parts := by kernel_rfl
theorem hf_parts : CT.P.funcs[262]? = some Tryz.f262 := by kernel_rfl
noncomputable def T_parts : Tb := mkTb tyT mpT []
theorem T_parts_ok : T_parts.Ok CT.P := mkTb_ok (trivial)
noncomputable def lp_parts {β : Type} : LpT β := fun _ _ _ => none
theorem lp_parts_ok {β : Type} : LpTOk CT (lp_parts (β := β)) (loopsOf c_parts) := by
  have h : loopsOf c_parts = [] := by kernel_rfl
  rw [h]
  exact LpTOk.nil
noncomputable def F_parts (a1 : Ty.El I) : Option (Els [.bool, .int .u64]) := bif Decidable.decide (a1 < (0 : Int)) then Option.some (Bool.true, Go.IntKind.u64.wrap ((0 : Int) - Go.IntKind.u64.wrap a1), ()) else Option.some (Bool.false, Go.IntKind.u64.wrap a1, ())
theorem f_parts (x : Ps [.ty I]) : funcT CT T_parts [.bool, .int .u64] (drT CT T_parts) lp_parts Tryz.f262 c_parts (encPs [.ty I] x) = F_parts x.1 := by kernel_rfl
noncomputable def E_parts : Ent := .fn 262 [] ⟨[.ty I], [.bool, .int .u64], fun x => F_parts x.1, false⟩
theorem e_parts : E_parts.Ok CT.P := Ent.ofFn CT_ok T_parts_ok hf_parts hb_parts lp_parts_ok f_parts
noncomputable def c_whole : Code := Tryz.f263.body.getD .skip
theorem hb_whole : Tryz.f263.body = some c_whole := by kernel_rfl
theorem hf_whole : CT.P.funcs[263]? = some Tryz.f263 := by kernel_rfl
noncomputable def T_whole : Tb := mkTb tyT mpT []
theorem T_whole_ok : T_whole.Ok CT.P := mkTb_ok (trivial)
noncomputable def lp_whole {β : Type} : LpT β := fun _ _ _ => none
theorem lp_whole_ok {β : Type} : LpTOk CT (lp_whole (β := β)) (loopsOf c_whole) := by
  have h : loopsOf c_whole = [] := by kernel_rfl
  rw [h]
  exact LpTOk.nil
noncomputable def F_whole (a1 : Ty.El .bool) (a2 : Ty.El (.int .u64)) : Option (Els [I, I]) := bif a1 then bif Decidable.decide (a2 ≤ (9223372036854775808 : Int)) then Option.some (Go.IntKind.i64.wrap (Go.IntKind.u64.wrap ((0 : Int) - a2)), (0 : Int), ()) else bif !a1 then bif Decidable.decide (a2 < (9223372036854775808 : Int)) then Option.some (Go.IntKind.i64.wrap a2, (0 : Int), ()) else Option.some ((0 : Int), (3 : Int), ()) else Option.some ((0 : Int), (3 : Int), ()) else bif !a1 then bif Decidable.decide (a2 < (9223372036854775808 : Int)) then Option.some (Go.IntKind.i64.wrap a2, (0 : Int), ()) else Option.some ((0 : Int), (3 : Int), ()) else Option.some ((0 : Int), (3 : Int), ())
theorem f_whole (x : Ps [.ty .bool, .ty (.int .u64)]) : funcT CT T_whole [I, I] (drT CT T_whole) lp_whole Tryz.f263 c_whole (encPs [.ty .bool, .ty (.int .u64)] x) = F_whole x.1 x.2.1 := by kernel_rfl
noncomputable def E_whole : Ent := .fn 263 [] ⟨[.ty .bool, .ty (.int .u64)], [I, I], fun x => F_whole x.1 x.2.1, false⟩
theorem e_whole : E_whole.Ok CT.P := Ent.ofFn CT_ok T_whole_ok hf_whole hb_whole lp_whole_ok f_whole
noncomputable def c_fmul : Code := Tryz.f234.body.getD .skip
theorem hb_fmul : Tryz.f234.body = some c_fmul := by kernel_rfl
theorem hf_fmul : CT.P.funcs[234]? = some Tryz.f234 := by kernel_rfl
noncomputable def T_fmul : Tb := mkTb tyT mpT [E_mul64, E_parts, E_whole]
theorem T_fmul_ok : T_fmul.Ok CT.P := mkTb_ok (⟨e_mul64, e_parts, e_whole, trivial⟩)
noncomputable def lp_fmul {β : Type} : LpT β := fun _ _ _ => none
theorem lp_fmul_ok {β : Type} : LpTOk CT (lp_fmul (β := β)) (loopsOf c_fmul) := by
  have h : loopsOf c_fmul = [] := by kernel_rfl
  rw [h]
  exact LpTOk.nil
noncomputable def F_fmul (a1 : Ty.El I) (a2 : Ty.El I) : Option (Els [I, I]) := (F_parts a1).bind fun v2 => (F_parts a2).bind fun v4 => (F_mul64 v2.snd.fst v4.snd.fst).bind fun v6 => bif Decidable.decide (v6.fst ≥ (4294967296 : Int)) then Option.some ((0 : Int), (3 : Int), ()) else (F_whole (!v2.fst == v4.fst) (Go.DI.bOr Go.IntKind.u64 (Go.IntKind.u64.wrap (v6.fst * (4294967296 : Int))) (Int.fdiv v6.snd.fst (4294967296 : Int)))).bind fun v8 => Option.some (v8.fst, v8.snd.fst, ())
theorem f_fmul (x : Ps [.ty I, .ty I]) : funcT CT T_fmul [I, I] (drT CT T_fmul) lp_fmul Tryz.f234 c_fmul (encPs [.ty I, .ty I] x) = F_fmul x.1 x.2.1 := by kernel_rfl
noncomputable def E_fmul : Ent := .fn 234 [] ⟨[.ty I, .ty I], [I, I], fun x => F_fmul x.1 x.2.1, false⟩
theorem e_fmul : E_fmul.Ok CT.P := Ent.ofFn CT_ok T_fmul_ok hf_fmul hb_fmul lp_fmul_ok f_fmul
noncomputable def c_fsub : Code := Tryz.f235.body.getD .skip
theorem hb_fsub : Tryz.f235.body = some c_fsub := by kernel_rfl
theorem hf_fsub : CT.P.funcs[235]? = some Tryz.f235 := by kernel_rfl
noncomputable def T_fsub : Tb := mkTb tyT mpT []
theorem T_fsub_ok : T_fsub.Ok CT.P := mkTb_ok (trivial)
noncomputable def lp_fsub {β : Type} : LpT β := fun _ _ _ => none
theorem lp_fsub_ok {β : Type} : LpTOk CT (lp_fsub (β := β)) (loopsOf c_fsub) := by
  have h : loopsOf c_fsub = [] := by kernel_rfl
  rw [h]
  exact LpTOk.nil
noncomputable def F_fsub (a1 : Ty.El I) (a2 : Ty.El I) : Option (Els [I, I]) := bif !Decidable.decide (a1 < (0 : Int)) == Decidable.decide (a2 < (0 : Int)) then bif !Decidable.decide (Go.IntKind.i64.wrap (a1 - a2) < (0 : Int)) == Decidable.decide (a1 < (0 : Int)) then Option.some ((0 : Int), (3 : Int), ()) else Option.some (Go.IntKind.i64.wrap (a1 - a2), (0 : Int), ()) else Option.some (Go.IntKind.i64.wrap (a1 - a2), (0 : Int), ())
theorem f_fsub (x : Ps [.ty I, .ty I]) : funcT CT T_fsub [I, I] (drT CT T_fsub) lp_fsub Tryz.f235 c_fsub (encPs [.ty I, .ty I] x) = F_fsub x.1 x.2.1 := by kernel_rfl
noncomputable def E_fsub : Ent := .fn 235 [] ⟨[.ty I, .ty I], [I, I], fun x => F_fsub x.1 x.2.1, false⟩
theorem e_fsub : E_fsub.Ok CT.P := Ent.ofFn CT_ok T_fsub_ok hf_fsub hb_fsub lp_fsub_ok f_fsub
noncomputable def c_norm : Code := Tryz.f259.body.getD .skip
theorem hb_norm : Tryz.f259.body = some c_norm := by kernel_rfl
theorem hf_norm : CT.P.funcs[259]? = some Tryz.f259 := by kernel_rfl
noncomputable def T_norm : Tb := mkTb tyT mpT []
theorem T_norm_ok : T_norm.Ok CT.P := mkTb_ok (trivial)
noncomputable def lp_norm {β : Type} : LpT β := fun _ _ _ => none
theorem lp_norm_ok {β : Type} : LpTOk CT (lp_norm (β := β)) (loopsOf c_norm) := by
  have h : loopsOf c_norm = [] := by kernel_rfl
  rw [h]
  exact LpTOk.nil
noncomputable def F_norm (a1 : Ty.El I) : Option (Els [I]) := Option.some ((Go.IntKind.i64.wrap (Int.tmod a1 (65536 : Int) + (65536 : Int))).tmod (65536 : Int), ())
theorem f_norm (x : Ps [.ty I]) : funcT CT T_norm [I] (drT CT T_norm) lp_norm Tryz.f259 c_norm (encPs [.ty I] x) = F_norm x.1 := by kernel_rfl
noncomputable def E_norm : Ent := .fn 259 [] ⟨[.ty I], [I], fun x => F_norm x.1, false⟩
theorem e_norm : E_norm.Ok CT.P := Ent.ofFn CT_ok T_norm_ok hf_norm hb_norm lp_norm_ok f_norm
noncomputable def c_sin : Code := Tryz.f232.body.getD .skip
theorem hb_sin : Tryz.f232.body = some c_sin := by kernel_rfl
theorem hf_sin : CT.P.funcs[232]? = some Tryz.f232 := by kernel_rfl
abbrev FT_sin := (Ty.El I) → Option (Els [I])
noncomputable def E_sinx (f : FT_sin) : Ent := .fn 232 [] ⟨[.ty I], [I], fun x => f x.1, false⟩
noncomputable def T_sin (f : FT_sin) : Tb := mkTb tyT mpT [E_norm, (E_sinx f), E_mul64, E_div64]
theorem T_sin_ok {f : FT_sin} (hf : (E_sinx f).Ok CT.P) : (T_sin f).Ok CT.P := mkTb_ok (⟨e_norm, hf, e_mul64, e_div64, trivial⟩)
noncomputable def lp_sin (f : FT_sin) {β : Type} : LpT β := fun _ _ _ => none
theorem lp_sin_ok {f : FT_sin} (hf : (E_sinx f).Ok CT.P) {β : Type} : LpTOk CT (lp_sin f (β := β)) (loopsOf c_sin) := by
  have h : loopsOf c_sin = [] := by kernel_rfl
  rw [h]
  exact LpTOk.nil
noncomputable def F_sinb (f : FT_sin) (a1 : Ty.El I) : Option (Els [I]) := (F_norm a1).bind fun v2 => bif Decidable.decide (v2.fst > (32768 : Int)) then (f (Go.IntKind.i64.wrap (v2.fst - (32768 : Int)))).bind fun v4 => Option.some (Go.IntKind.i64.wrap ((0 : Int) - v4.fst), ()) else (F_mul64 (Go.IntKind.u64.wrap ((16 : Int) * Go.IntKind.u64.wrap (Go.IntKind.i64.wrap (v2.fst * Go.IntKind.i64.wrap ((32768 : Int) - v2.fst))))) (4294967296 : Int)).bind fun v6 => (F_div64 v6.fst v6.snd.fst (Go.IntKind.u64.wrap ((5368709120 : Int) - Go.IntKind.u64.wrap ((4 : Int) * Go.IntKind.u64.wrap (Go.IntKind.i64.wrap (v2.fst * Go.IntKind.i64.wrap ((32768 : Int) - v2.fst))))))).bind fun v8 => Option.some (Go.IntKind.i64.wrap v8.fst, ())
theorem f_sin (f : FT_sin) (x : Ps [.ty I]) : funcT CT (T_sin f) [I] (drT CT (T_sin f)) (lp_sin f) Tryz.f232 c_sin (encPs [.ty I] x) = F_sinb f x.1 := by kernel_rfl
noncomputable def F_sinn : Nat → FT_sin
  | 0, _ => none
  | n + 1, a1 => F_sinb (F_sinn n) a1
noncomputable def F_sin : FT_sin := F_sinn 3
theorem e_sinn : ∀ n, (E_sinx (F_sinn n)).Ok CT.P
  | 0 => fun x y h => by cases h
  | n + 1 => Ent.ofFn CT_ok (T_sin_ok (e_sinn n)) hf_sin hb_sin (lp_sin_ok (e_sinn n)) (f_sin (F_sinn n))
noncomputable def E_sin : Ent := E_sinx F_sin
theorem e_sin : E_sin.Ok CT.P := e_sinn 3
noncomputable def c_cos : Code := Tryz.f233.body.getD .skip
theorem hb_cos : Tryz.f233.body = some c_cos := by kernel_rfl
theorem hf_cos : CT.P.funcs[233]? = some Tryz.f233 := by kernel_rfl
noncomputable def T_cos : Tb := mkTb tyT mpT [E_norm, E_sin]
theorem T_cos_ok : T_cos.Ok CT.P := mkTb_ok (⟨e_norm, e_sin, trivial⟩)
noncomputable def lp_cos {β : Type} : LpT β := fun _ _ _ => none
theorem lp_cos_ok {β : Type} : LpTOk CT (lp_cos (β := β)) (loopsOf c_cos) := by
  have h : loopsOf c_cos = [] := by kernel_rfl
  rw [h]
  exact LpTOk.nil
noncomputable def F_cos (a1 : Ty.El I) : Option (Els [I]) := (F_norm a1).bind fun v2 => (F_sin (Go.IntKind.i64.wrap (v2.fst + (16384 : Int)))).bind fun v4 => Option.some (v4.fst, ())
theorem f_cos (x : Ps [.ty I]) : funcT CT T_cos [I] (drT CT T_cos) lp_cos Tryz.f233 c_cos (encPs [.ty I] x) = F_cos x.1 := by kernel_rfl
noncomputable def E_cos : Ent := .fn 233 [] ⟨[.ty I], [I], fun x => F_cos x.1, false⟩
theorem e_cos : E_cos.Ok CT.P := Ent.ofFn CT_ok T_cos_ok hf_cos hb_cos lp_cos_ok f_cos
noncomputable def c_ask : Code := Tryz.f231.body.getD .skip
theorem hb_ask : Tryz.f231.body = some c_ask := by kernel_rfl
theorem hf_ask : CT.P.funcs[231]? = some Tryz.f231 := by kernel_rfl
noncomputable abbrev IN_ask : LayD := ⟨3, [(0, .data I), (1, .data I), (2, .ptr 0)], [.var 56 [.data I]], fun s => [slotR s 2]⟩
noncomputable abbrev OUT_ask : LayD := ⟨1, [(0, .data I)], [.var 56 [.data I]], fun _ => [0]⟩
noncomputable def T_ask : Tb := mkTb tyT mpT []
theorem T_ask_ok : T_ask.Ok CT.P := mkTb_ok (trivial)
noncomputable def lp_ask {β : Type} : LpT β := fun _ _ _ => none
theorem lp_ask_ok {β : Type} : LpTOk (CTp 1) (lp_ask (β := β)) (loopsOf c_ask) := by
  have h : loopsOf c_ask = [] := by kernel_rfl
  rw [h]
  exact LpTOk.nil
noncomputable def F_ask (a0 : Ty.El I) (a1 : Ty.El I) (b0 : Ty.El I × Unit) : Option OUT_ask.El := bif b0.fst == (0 : Int) then Option.some ((a0, ()), (a1, ()), ()) else Option.some ((a0, ()), (b0.fst, ()), ())
theorem f_ask (x : IN_ask.El) : funcX (CTp 1) T_ask IN_ask OUT_ask [] (drT (CTp 1) T_ask) lp_ask Tryz.f231 c_ask x = F_ask x.1.1 x.1.2.1 x.2.1 := by kernel_rfl
noncomputable def E_ask : Ent := .mkGen 231 [] ⟨1, [], IN_ask, OUT_ask, fun x => F_ask x.1.1 x.1.2.1 x.2.1⟩
theorem e_ask : E_ask.Ok CT.P := Ent.ofGen (C := (CTp 1)) (steps := []) (osteps := []) (CTp_ok 1) T_ask_ok hf_ask hb_ask lp_ask_ok f_ask
noncomputable def c_rot : Code := Tryz.f191.body.getD .skip
theorem hb_rot : Tryz.f191.body = some c_rot := by kernel_rfl
theorem hf_rot : CT.P.funcs[191]? = some Tryz.f191 := by kernel_rfl
noncomputable def T_rot : Tb := mkTb tyT mpT [E_sin, E_cos, E_fmul, E_fsub, E_162, E_ask]
theorem T_rot_ok : T_rot.Ok CT.P := mkTb_ok (⟨e_sin, e_cos, e_fmul, e_fsub, e_162, e_ask, trivial⟩)
noncomputable def lp_rot {β : Type} : LpT β := fun _ _ _ => none
theorem lp_rot_ok {β : Type} : LpTOk CT (lp_rot (β := β)) (loopsOf c_rot) := by
  have h : loopsOf c_rot = [] := by kernel_rfl
  rw [h]
  exact LpTOk.nil
noncomputable def F_rot (a1 : Ty.El I) (a2 : Ty.El I) (a3 : Ty.El I) : Option (Els [I, I, I]) := (F_sin a3).bind fun v2 => (F_cos a3).bind fun v4 => (F_fmul a1 v4.fst).bind fun v6 => (F_ask v6.fst v6.snd.fst ((0 : Int), ())).bind fun v8 => (F_fmul a2 v2.fst).bind fun v10 => (F_ask v10.fst v10.snd.fst (v8.snd.fst.fst, ())).bind fun v14 => (F_fsub v8.fst.fst v14.fst.fst).bind fun v20 => (F_ask v20.fst v20.snd.fst (v14.snd.fst.fst, ())).bind fun v24 => (F_fmul a1 v2.fst).bind fun v26 => (F_ask v26.fst v26.snd.fst (v24.snd.fst.fst, ())).bind fun v30 => (F_fmul a2 v4.fst).bind fun v32 => (F_ask v32.fst v32.snd.fst (v30.snd.fst.fst, ())).bind fun v36 => (F_162 v30.fst.fst v36.fst.fst).bind fun v42 => (F_ask v42.fst v42.snd.fst (v36.snd.fst.fst, ())).bind fun v46 => bif v46.snd.fst.fst != (0 : Int) then Option.some ((0 : Int), (0 : Int), v46.snd.fst.fst, ()) else Option.some (v24.fst.fst, v46.fst.fst, (0 : Int), ())
theorem f_rot (x : Ps [.ty I, .ty I, .ty I]) : funcT CT T_rot [I, I, I] (drT CT T_rot) lp_rot Tryz.f191 c_rot (encPs [.ty I, .ty I, .ty I] x) = F_rot x.1 x.2.1 x.2.2.1 := by kernel_rfl
noncomputable def E_rot : Ent := .fn 191 [] ⟨[.ty I, .ty I, .ty I], [I, I, I], fun x => F_rot x.1 x.2.1 x.2.2.1, false⟩
theorem e_rot : E_rot.Ok CT.P := Ent.ofFn CT_ok T_rot_ok hf_rot hb_rot lp_rot_ok f_rot
noncomputable def c_turn : Code := Tryz.f141.body.getD .skip
theorem hb_turn : Tryz.f141.body = some c_turn := by kernel_rfl
theorem hf_turn : CT.P.funcs[141]? = some Tryz.f141 := by kernel_rfl
noncomputable def T_turn : Tb := mkTb tyT mpT [E_rot]
theorem T_turn_ok : T_turn.Ok CT.P := mkTb_ok (⟨e_rot, trivial⟩)
noncomputable def lp_turn {β : Type} : LpT β := fun _ _ _ => none
theorem lp_turn_ok {β : Type} : LpTOk CT (lp_turn (β := β)) (loopsOf c_turn) := by
  have h : loopsOf c_turn = [] := by kernel_rfl
  rw [h]
  exact LpTOk.nil
noncomputable def F_turn (a1 : Ty.El tWorker) (a2 : Ty.El tVec) : Option (Els [tVec] ⊕ Int) := (F_rot a2.fst a2.snd a1.snd.fst.snd.snd.snd.snd.snd.snd.snd.snd.snd.fst).bind fun v2 => bif v2.snd.snd.fst != (0 : Int) then Option.some (Sum.inr (3 : Int)) else Option.some (Sum.inl ((v2.fst, v2.snd.fst), ()))
theorem f_turn (x : Ps [.roa tWorker, .ty tVec]) : funcP CT T_turn 239 [tVec] (drT CT T_turn) lp_turn Tryz.f141 c_turn (encPs [.roa tWorker, .ty tVec] x) = F_turn x.1 x.2.1 := by kernel_rfl
noncomputable def E_turn : Ent := .mkFnP 141 [] ⟨239, [.roa tWorker, .ty tVec], [tVec], fun x => F_turn x.1 x.2.1, false⟩
theorem e_turn : E_turn.Ok CT.P := Ent.ofFnP CT_ok T_turn_ok hf_turn hb_turn lp_turn_ok f_turn
end Go.DI.S
set_option linter.unusedVariables false
set_option maxRecDepth 100000
set_option maxHeartbeats 0
namespace Go.DI.S
open Go.Proofs
end Go.DI.S
set_option linter.unusedVariables false
set_option maxRecDepth 100000
set_option maxHeartbeats 0
namespace Go.DI.S
open Go.Proofs
end Go.DI.S
