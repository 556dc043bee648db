import Derived.Test.YtbjldjihpekhaaaGreatTa
import Derived.Test.YtbjldjihpekhaaaGreatMd
/- Turning; a command carried out; OrderTurns: told by functions on data. No conditions. -/
/-! The program's functions, told by functions on data. -/
set_option linter.unusedVariables false
set_option maxRecDepth 100000
set_option maxHeartbeats 0
namespace Go.DI.S
open Go.Proofs
noncomputable abbrev IN_trym : LayD := ⟨1, [(0, .cloP 179 [0, 1, 2])], [.var 51 [.data tVec, .data I, .own tThing 4], .var 23 [.data (.list I)], .var 199 [.cloB 135 [3]], .var 140 [.data tWorker], .row 68 tThing], fun s => [slotFk s 0 0, slotFk s 0 1, slotFk s 0 2, slotHB s (slotFk s 0 2) 0, slotH s (slotFk s 0 0) 3]⟩
noncomputable abbrev OUT_trym : LayD := ⟨1, [(0, .data I)], [.var 51 [.data tVec, .data I, .own tThing 4], .var 23 [.data (.list I)], .var 199 [.cloB 135 [3]], .var 140 [.data tWorker], .row 68 tThing], fun s => [0, 1, 2, 3, slotH s 0 3]⟩
noncomputable def F_trym (b0 : Ty.El tVec × Ty.El I × Unit × Unit) (b1 : Ty.El (.list I) × Unit) (b2 : Unit × Unit) (b3 : Ty.El tWorker × Unit) (b4 : List (Ty.El tThing)) : Option (OUT_trym.El ⊕ Int) := (F_each1m b0 b1 b2 b3 b4).bind fun y => Sum.elim (fun y => some (.inl ((0, ()), y.2))) (fun e => some (.inr e)) y
noncomputable def E_trym : Ent := .mkTry 178 [179] ⟨4, [], IN_trym, OUT_trym, fun x => F_trym x.2.1 x.2.2.1 x.2.2.2.1 x.2.2.2.2.1 x.2.2.2.2.2.1⟩
theorem ge_each1m : GenPE.Ok CT.P 179 ⟨239, 4, [], IN_each1m, OUT_each1m, fun x => F_each1m x.2.1 x.2.2.1 x.2.2.2.1 x.2.2.2.2.1 x.2.2.2.2.2.1⟩ :=
  funcXP_ok (C := CTp 4) (osteps := []) (CTp_ok 4) T_each1m_ok (drT_ok (CTp_ok 4) T_each1m_ok) hf_each1m hb_each1m lp_each1m_ok f_each1m
theorem e_trym : E_trym.Ok CT.P := Ent.mkTry_ok (by
  refine tryE_84 (is := [0, 1, 2]) (F2 := fun x => F_trym x.2.1 x.2.2.1 x.2.2.2.1 x.2.2.2.2.1 x.2.2.2.2.2.1) (fun x b => rfl) ((), (), (), ()) (fun x y h => ?_) (fun x e h => ?_) ge_each1m
  · have h : F_trym x.2.1 x.2.2.1 x.2.2.2.1 x.2.2.2.2.1 x.2.2.2.2.2.1 = some (.inl y) := h
    unfold F_trym at h
    obtain ⟨z, hz, h⟩ := Option.bind_eq_some_iff.1 h
    cases z with
    | inl z => cases h; exact ⟨hz, rfl⟩
    | inr e => cases h
  · have h : F_trym x.2.1 x.2.2.1 x.2.2.2.1 x.2.2.2.2.1 x.2.2.2.2.2.1 = some (.inr e) := h
    unfold F_trym at h
    obtain ⟨z, hz, h⟩ := Option.bind_eq_some_iff.1 h
    cases z with
    | inl z => cases h
    | inr e => cases h; exact hz)
/-! ### 134: (*maquette/order.worker).each -/
noncomputable def c_eachm : Code := Tryz.f134.body.getD .skip
theorem hb_eachm : Tryz.f134.body = some c_eachm := by kernel_rfl
theorem hf_eachm : CT.P.funcs[134]? = some Tryz.f134 := by kernel_rfl
noncomputable abbrev IN_eachm : LayD := ⟨2, [(0, .ptr 0), (1, .cloB 135 [0])], [.var 140 [.data tWorker]], fun s => [slotR s 0]⟩
noncomputable abbrev OUT_eachm : LayD := ⟨3, [(0, .data tScene), (1, .data I), (2, .data I)], [.var 140 [.data tWorker]], fun _ => [0]⟩
noncomputable def T_eachm : Tb := mkTb tyT mpT [E_43, E_oown, E_trym]
theorem T_eachm_ok : T_eachm.Ok CT.P := mkTb_ok (⟨e_43, e_oown, e_trym, trivial⟩)
noncomputable def lp_eachm {β : Type} : LpT β := fun _ _ _ => none
theorem lp_eachm_ok {β : Type} : LpTOk (CTp 1) (lp_eachm (β := β)) (loopsOf c_eachm) := by
  have h : loopsOf c_eachm = [] := by kernel_rfl
  rw [h]
  exact LpTOk.nil
noncomputable def F_eachm (b0 : Ty.El tWorker × Unit) : Option OUT_eachm.El := (F_43 b0.fst.fst b0.fst.snd.fst.snd.fst).bind fun v2 => bif v2.snd.fst != (0 : Int) then Option.some ((b0.fst.fst, (0 : Int), v2.snd.fst, ()), (b0.fst, ()), ()) else (F_oown b0.fst.fst.snd.snd).bind fun v4 => (F_trym (b0.fst.fst.fst, b0.fst.fst.snd.fst, (), ()) (v2.fst, ()) ((), ()) (b0.fst, ()) v4).bind fun v6 => Sum.elim (fun v8 => Option.some (((v8.snd.fst.fst, v8.snd.fst.snd.fst, v8.snd.snd.snd.snd.snd.fst), (0 : Int), v8.fst.fst, ()), (v8.snd.snd.snd.snd.fst.fst, ()), ())) (fun v19 => Option.none) v6
theorem f_eachm (x : IN_eachm.El) : funcX (CTp 1) T_eachm IN_eachm OUT_eachm [.frzReg 0 tScene] (drT (CTp 1) T_eachm) lp_eachm Tryz.f134 c_eachm x = F_eachm x.2.1 := by kernel_rfl
noncomputable def E_eachm : Ent := .mkGen 134 [135] ⟨1, [], IN_eachm, OUT_eachm, fun x => F_eachm x.2.1⟩
theorem e_eachm : E_eachm.Ok CT.P := Ent.ofGen (C := (CTp 1)) (steps := []) (osteps := [.frzReg 0 tScene]) (CTp_ok 1) T_eachm_ok hf_eachm hb_eachm lp_eachm_ok f_eachm
end Go.DI.S

/-! The program's functions, told by functions on data. -/
set_option linter.unusedVariables false
set_option maxRecDepth 100000
set_option maxHeartbeats 0
namespace Go.DI.S
open Go.Proofs
/-! ### 209: math/bits.Len64 -/
noncomputable def c_len64 : Code := Tryz.f209.body.getD .skip
theorem hb_len64 : Tryz.f209.body = some c_len64 := by kernel_rfl
theorem hf_len64 : CT.P.funcs[209]? = some Tryz.f209 := by kernel_rfl
noncomputable def T_len64 : Tb := mkTb tyT mpT []
theorem T_len64_ok : T_len64.Ok CT.P := mkTb_ok (trivial)
noncomputable def lp_len64 {β : Type} : LpT β := fun _ _ _ => none
theorem lp_len64_ok {β : Type} : LpTOk CT (lp_len64 (β := β)) (loopsOf c_len64) := by
  have h : loopsOf c_len64 = [] := by kernel_rfl
  rw [h]
  exact LpTOk.nil
noncomputable def F_len64 (a1 : Ty.El (.int .u64)) : Option (Els [I]) := funcT CT T_len64 [I] (drT CT T_len64) lp_len64 Tryz.f209 c_len64 (encPs [.ty (.int .u64)] (a1, ()))
theorem f_len64 (x : Ps [.ty (.int .u64)]) : funcT CT T_len64 [I] (drT CT T_len64) lp_len64 Tryz.f209 c_len64 (encPs [.ty (.int .u64)] x) = F_len64 x.1 := rfl
noncomputable def E_len64 : Ent := .fn 209 [] ⟨[.ty (.int .u64)], [I], fun x => F_len64 x.1, false⟩
theorem e_len64 : E_len64.Ok CT.P := Ent.ofFn CT_ok T_len64_ok hf_len64 hb_len64 lp_len64_ok f_len64
/-! ### 274: math/bits.LeadingZeros64 -/
noncomputable def c_lz64 : Code := Tryz.f274.body.getD .skip
theorem hb_lz64 : Tryz.f274.body = some c_lz64 := by kernel_rfl
theorem hf_lz64 : CT.P.funcs[274]? = some Tryz.f274 := by kernel_rfl
noncomputable def T_lz64 : Tb := mkTb tyT mpT [E_len64]
theorem T_lz64_ok : T_lz64.Ok CT.P := mkTb_ok (⟨e_len64, trivial⟩)
noncomputable def lp_lz64 {β : Type} : LpT β := fun _ _ _ => none
theorem lp_lz64_ok {β : Type} : LpTOk CT (lp_lz64 (β := β)) (loopsOf c_lz64) := by
  have h : loopsOf c_lz64 = [] := by kernel_rfl
  rw [h]
  exact LpTOk.nil
noncomputable def F_lz64 (a1 : Ty.El (.int .u64)) : Option (Els [I]) := (F_len64 a1).bind fun v2 => Option.some (Go.IntKind.i64.wrap ((64 : Int) - v2.fst), ())
theorem f_lz64 (x : Ps [.ty (.int .u64)]) : funcT CT T_lz64 [I] (drT CT T_lz64) lp_lz64 Tryz.f274 c_lz64 (encPs [.ty (.int .u64)] x) = F_lz64 x.1 := by kernel_rfl
noncomputable def E_lz64 : Ent := .fn 274 [] ⟨[.ty (.int .u64)], [I], fun x => F_lz64 x.1, false⟩
theorem e_lz64 : E_lz64.Ok CT.P := Ent.ofFn CT_ok T_lz64_ok hf_lz64 hb_lz64 lp_lz64_ok f_lz64
noncomputable def E_lz64h : Ent := .fn 274 [] ⟨[.ty (.int .u64)], [I], fun x => F_lz64 x.1, true⟩
/-! ### 260: math/bits.Mul64 -/
noncomputable def c_mul64 : Code := Tryz.f260.body.getD .skip
theorem hb_mul64 : Tryz.f260.body = some c_mul64 := by kernel_rfl
theorem hf_mul64 : CT.P.funcs[260]? = some Tryz.f260 := by kernel_rfl
noncomputable def T_mul64 : Tb := mkTb tyT mpT []
theorem T_mul64_ok : T_mul64.Ok CT.P := mkTb_ok (trivial)
noncomputable def lp_mul64 {β : Type} : LpT β := fun _ _ _ => none
theorem lp_mul64_ok {β : Type} : LpTOk CT (lp_mul64 (β := β)) (loopsOf c_mul64) := by
  have h : loopsOf c_mul64 = [] := by kernel_rfl
  rw [h]
  exact LpTOk.nil
noncomputable def F_mul64 (a1 : Ty.El (.int .u64)) (a2 : Ty.El (.int .u64)) : Option (Els [.int .u64, .int .u64]) := Option.some (Go.IntKind.u64.wrap (Go.IntKind.u64.wrap (Go.IntKind.u64.wrap (Int.fdiv a1 (4294967296 : Int) * Int.fdiv a2 (4294967296 : Int)) + (Go.IntKind.u64.wrap (Go.IntKind.u64.wrap (Int.fdiv a1 (4294967296 : Int) * Go.DI.bAnd Go.IntKind.u64 a2 (4294967295 : Int)) + (Go.IntKind.u64.wrap (Go.DI.bAnd Go.IntKind.u64 a1 (4294967295 : Int) * Go.DI.bAnd Go.IntKind.u64 a2 (4294967295 : Int))).fdiv (4294967296 : Int))).fdiv (4294967296 : Int)) + (Go.IntKind.u64.wrap (Go.DI.bAnd Go.IntKind.u64 (Go.IntKind.u64.wrap (Go.IntKind.u64.wrap (Int.fdiv a1 (4294967296 : Int) * Go.DI.bAnd Go.IntKind.u64 a2 (4294967295 : Int)) + (Go.IntKind.u64.wrap (Go.DI.bAnd Go.IntKind.u64 a1 (4294967295 : Int) * Go.DI.bAnd Go.IntKind.u64 a2 (4294967295 : Int))).fdiv (4294967296 : Int))) (4294967295 : Int) + Go.IntKind.u64.wrap (Go.DI.bAnd Go.IntKind.u64 a1 (4294967295 : Int) * Int.fdiv a2 (4294967296 : Int)))).fdiv (4294967296 : Int)), Go.IntKind.u64.wrap (a1 * a2), ())
theorem f_mul64 (x : Ps [.ty (.int .u64), .ty (.int .u64)]) : funcT CT T_mul64 [.int .u64, .int .u64] (drT CT T_mul64) lp_mul64 Tryz.f260 c_mul64 (encPs [.ty (.int .u64), .ty (.int .u64)] x) = F_mul64 x.1 x.2.1 := by kernel_rfl
noncomputable def E_mul64 : Ent := .fn 260 [] ⟨[.ty (.int .u64), .ty (.int .u64)], [.int .u64, .int .u64], fun x => F_mul64 x.1 x.2.1, false⟩
theorem e_mul64 : E_mul64.Ok CT.P := Ent.ofFn CT_ok T_mul64_ok hf_mul64 hb_mul64 lp_mul64_ok f_mul64
noncomputable def E_mul64h : Ent := .fn 260 [] ⟨[.ty (.int .u64), .ty (.int .u64)], [.int .u64, .int .u64], fun x => F_mul64 x.1 x.2.1, true⟩
/-! ### 261: math/bits.Div64 -/
noncomputable def c_div64 : Code := Tryz.f261.body.getD .skip
theorem hb_div64 : Tryz.f261.body = some c_div64 := by kernel_rfl
theorem hf_div64 : CT.P.funcs[261]? = some Tryz.f261 := by kernel_rfl
noncomputable def T_div64 : Tb := mkTb tyT mpT [E_lz64]
theorem T_div64_ok : T_div64.Ok CT.P := mkTb_ok (⟨e_lz64, trivial⟩)
noncomputable def l_div64_24 : Code := atLoop c_div64 24
noncomputable def l_div64_17 : Code := atLoop c_div64 17
noncomputable abbrev LD_div64_17 : LayD := ⟨135, [(2, .data (.int .u64)), (8, .data (.int .u64)), (9, .data (.int .u64)), (10, .data (.int .u64)), (11, .data (.int .u64)), (13, .data (.int .u64)), (14, .data (.int .u64)), (15, .data (.int .u64)), (16, .data (.int .u64))], [], fun _ => []⟩
noncomputable abbrev LA_div64_17 : LayD := ⟨135, [(2, .data (.int .u64)), (8, .data (.int .u64)), (9, .data (.int .u64)), (10, .data (.int .u64)), (11, .data (.int .u64)), (13, .data (.int .u64)), (14, .data (.int .u64)), (15, .data (.int .u64))], [], fun _ => []⟩
noncomputable abbrev LB_div64_17 : LayD := ⟨135, [], [], fun _ => []⟩
noncomputable def EX_div64_17 : Exits 0 LA_div64_17.El LB_div64_17.El := ⟨.exit 0, LA_div64_17.lay [], .ret, LB_div64_17.lay []⟩

noncomputable def lpi_div64_17 {β : Type} : LpT β := fun _ _ _ => none
theorem lpi_div64_17_ok {β : Type} : LpTOk CT (lpi_div64_17 (β := β)) (loopsOf l_div64_17) := by
  have h : loopsOf l_div64_17 = [] := by kernel_rfl
  rw [h]
  exact LpTOk.nil
noncomputable def G_div64_17 (r2 : Ty.El (.int .u64)) (r8 : Ty.El (.int .u64)) (r9 : Ty.El (.int .u64)) (r10 : Ty.El (.int .u64)) (r11 : Ty.El (.int .u64)) (r13 : Ty.El (.int .u64)) (r14 : Ty.El (.int .u64)) (r15 : Ty.El (.int .u64)) (r16 : Ty.El (.int .u64)) : Option (LD_div64_17.El ⊕ (LA_div64_17.El ⊕ LB_div64_17.El)) := bif Decidable.decide (r15 ≥ (4294967296 : Int)) then bif Decidable.decide (Go.IntKind.u64.wrap (r16 + r9) ≥ (4294967296 : Int)) then Option.some (Sum.inr (Sum.inl ((r2, r8, r9, r10, r11, r13, r14, Go.IntKind.u64.wrap (r15 - (1 : Int)), ()), ()))) else Option.some (Sum.inl ((r2, r8, r9, r10, r11, r13, r14, Go.IntKind.u64.wrap (r15 - (1 : Int)), Go.IntKind.u64.wrap (r16 + r9), ()), ())) else bif Decidable.decide (Go.IntKind.u64.wrap (r15 * r10) > Go.IntKind.u64.wrap (Go.IntKind.u64.wrap ((4294967296 : Int) * r16) + r13)) then bif Decidable.decide (Go.IntKind.u64.wrap (r16 + r9) ≥ (4294967296 : Int)) then Option.some (Sum.inr (Sum.inl ((r2, r8, r9, r10, r11, r13, r14, Go.IntKind.u64.wrap (r15 - (1 : Int)), ()), ()))) else Option.some (Sum.inl ((r2, r8, r9, r10, r11, r13, r14, Go.IntKind.u64.wrap (r15 - (1 : Int)), Go.IntKind.u64.wrap (r16 + r9), ()), ())) else Option.some (Sum.inr (Sum.inl ((r2, r8, r9, r10, r11, r13, r14, r15, ()), ())))
theorem g_div64_17 (x : LD_div64_17.El) : codeT CT T_div64 (drT CT T_div64) lpi_div64_17 l_div64_17 (LD_div64_17.enc x) (bodyK (LD_div64_17.lay []) EX_div64_17) = G_div64_17 x.1.1 x.1.2.1 x.1.2.2.1 x.1.2.2.2.1 x.1.2.2.2.2.1 x.1.2.2.2.2.2.1 x.1.2.2.2.2.2.2.1 x.1.2.2.2.2.2.2.2.1 x.1.2.2.2.2.2.2.2.2.1 := by kernel_rfl
noncomputable def R_div64_17 : LD_div64_17.El → Option (LA_div64_17.El ⊕ LB_div64_17.El) := roundsT (fun x => G_div64_17 x.1.1 x.1.2.1 x.1.2.2.1 x.1.2.2.2.1 x.1.2.2.2.2.1 x.1.2.2.2.2.2.1 x.1.2.2.2.2.2.2.1 x.1.2.2.2.2.2.2.2.1 x.1.2.2.2.2.2.2.2.2.1) fuel
theorem r_div64_17 : ∀ x y, R_div64_17 x = some y → CL CT l_div64_17 (LD_div64_17.enc x) (Sum.elim (fun _ => EX_div64_17.xa) (fun _ => EX_div64_17.xb) y) (Sum.elim EX_div64_17.la.enc EX_div64_17.lb.enc y) :=
  rounds_ok (L := LD_div64_17.lay []) (E := EX_div64_17) CT_ok T_div64_ok (drT_ok CT_ok T_div64_ok) lpi_div64_17_ok g_div64_17 rfl rfl (fun v h => by have hh : (.exit 0 : AX) = .pan v := h; cases hh) (fun v h => by have hh : (.ret : AX) = .pan v := h; cases hh) fuel
noncomputable abbrev LD_div64_24 : LayD := ⟨135, [(2, .data (.int .u64)), (8, .data (.int .u64)), (9, .data (.int .u64)), (10, .data (.int .u64)), (14, .data (.int .u64)), (15, .data (.int .u64)), (16, .data (.int .u64)), (17, .data (.int .u64)), (18, .data (.int .u64))], [], fun _ => []⟩
noncomputable abbrev LA_div64_24 : LayD := ⟨135, [(2, .data (.int .u64)), (8, .data (.int .u64)), (14, .data (.int .u64)), (15, .data (.int .u64)), (17, .data (.int .u64)), (18, .data (.int .u64))], [], fun _ => []⟩
noncomputable abbrev LB_div64_24 : LayD := ⟨135, [], [], fun _ => []⟩
noncomputable def EX_div64_24 : Exits 0 LA_div64_24.El LB_div64_24.El := ⟨.exit 2, LA_div64_24.lay [], .ret, LB_div64_24.lay []⟩

noncomputable def lpi_div64_24 {β : Type} : LpT β := fun _ _ _ => none
theorem lpi_div64_24_ok {β : Type} : LpTOk CT (lpi_div64_24 (β := β)) (loopsOf l_div64_24) := by
  have h : loopsOf l_div64_24 = [] := by kernel_rfl
  rw [h]
  exact LpTOk.nil
noncomputable def G_div64_24 (r2 : Ty.El (.int .u64)) (r8 : Ty.El (.int .u64)) (r9 : Ty.El (.int .u64)) (r10 : Ty.El (.int .u64)) (r14 : Ty.El (.int .u64)) (r15 : Ty.El (.int .u64)) (r16 : Ty.El (.int .u64)) (r17 : Ty.El (.int .u64)) (r18 : Ty.El (.int .u64)) : Option (LD_div64_24.El ⊕ (LA_div64_24.El ⊕ LB_div64_24.El)) := bif Decidable.decide (r18 ≥ (4294967296 : Int)) then bif Decidable.decide (Go.IntKind.u64.wrap (r16 + r9) ≥ (4294967296 : Int)) then Option.some (Sum.inr (Sum.inl ((r2, r8, r14, r15, r17, Go.IntKind.u64.wrap (r18 - (1 : Int)), ()), ()))) else Option.some (Sum.inl ((r2, r8, r9, r10, r14, r15, Go.IntKind.u64.wrap (r16 + r9), r17, Go.IntKind.u64.wrap (r18 - (1 : Int)), ()), ())) else bif Decidable.decide (Go.IntKind.u64.wrap (r18 * r10) > Go.IntKind.u64.wrap (Go.IntKind.u64.wrap ((4294967296 : Int) * r16) + r14)) then bif Decidable.decide (Go.IntKind.u64.wrap (r16 + r9) ≥ (4294967296 : Int)) then Option.some (Sum.inr (Sum.inl ((r2, r8, r14, r15, r17, Go.IntKind.u64.wrap (r18 - (1 : Int)), ()), ()))) else Option.some (Sum.inl ((r2, r8, r9, r10, r14, r15, Go.IntKind.u64.wrap (r16 + r9), r17, Go.IntKind.u64.wrap (r18 - (1 : Int)), ()), ())) else Option.some (Sum.inr (Sum.inl ((r2, r8, r14, r15, r17, r18, ()), ())))
theorem g_div64_24 (x : LD_div64_24.El) : codeT CT T_div64 (drT CT T_div64) lpi_div64_24 l_div64_24 (LD_div64_24.enc x) (bodyK (LD_div64_24.lay []) EX_div64_24) = G_div64_24 x.1.1 x.1.2.1 x.1.2.2.1 x.1.2.2.2.1 x.1.2.2.2.2.1 x.1.2.2.2.2.2.1 x.1.2.2.2.2.2.2.1 x.1.2.2.2.2.2.2.2.1 x.1.2.2.2.2.2.2.2.2.1 := by kernel_rfl
noncomputable def R_div64_24 : LD_div64_24.El → Option (LA_div64_24.El ⊕ LB_div64_24.El) := roundsT (fun x => G_div64_24 x.1.1 x.1.2.1 x.1.2.2.1 x.1.2.2.2.1 x.1.2.2.2.2.1 x.1.2.2.2.2.2.1 x.1.2.2.2.2.2.2.1 x.1.2.2.2.2.2.2.2.1 x.1.2.2.2.2.2.2.2.2.1) fuel
theorem r_div64_24 : ∀ x y, R_div64_24 x = some y → CL CT l_div64_24 (LD_div64_24.enc x) (Sum.elim (fun _ => EX_div64_24.xa) (fun _ => EX_div64_24.xb) y) (Sum.elim EX_div64_24.la.enc EX_div64_24.lb.enc y) :=
  rounds_ok (L := LD_div64_24.lay []) (E := EX_div64_24) CT_ok T_div64_ok (drT_ok CT_ok T_div64_ok) lpi_div64_24_ok g_div64_24 rfl rfl (fun v h => by have hh : (.exit 2 : AX) = .pan v := h; cases hh) (fun v h => by have hh : (.ret : AX) = .pan v := h; cases hh) fuel
noncomputable def lp_div64 {β : Type} : LpT β := fun k s K => if Nat.beq k 17 then lpOne (LD_div64_17.lay []) EX_div64_17 R_div64_17 s K else if Nat.beq k 24 then lpOne (LD_div64_24.lay []) EX_div64_24 R_div64_24 s K else none
theorem lp_div64_ok {β : Type} : LpTOk CT (lp_div64 (β := β)) (loopsOf c_div64) := by
  have h : loopsOf c_div64 = [(17, l_div64_17), (24, l_div64_24)] := by kernel_rfl
  rw [h]
  exact LpTOk.cons (fun s K z h => lpOne_ok r_div64_17 h) (LpTOk.cons (fun s K z h => lpOne_ok r_div64_24 h) (LpTOk.nil))
noncomputable def F_div64 (a1 : Ty.El (.int .u64)) (a2 : Ty.El (.int .u64)) (a3 : Ty.El (.int .u64)) : Option (Els [.int .u64, .int .u64]) := bif a3 == (0 : Int) then Option.none else bif Decidable.decide (a3 ≤ a1) then Option.none else bif a1 == (0 : Int) then bif Decidable.decide (a3 = (0 : Int)) then Option.none else bif Decidable.decide (a3 = (0 : Int)) then Option.none else Option.some (Go.IntKind.u64.wrap (Int.tdiv a2 a3), Int.tmod a2 a3, ()) else (F_lz64 a3).bind fun v2 => bif Decidable.decide (Go.IntKind.u64.wrap v2.fst < (0 : Int)) then Option.none else bif Decidable.decide (Go.IntKind.u64.wrap v2.fst < (0 : Int)) then Option.none else bif Decidable.decide (Go.IntKind.u64.wrap ((64 : Int) - Go.IntKind.u64.wrap v2.fst) < (0 : Int)) then Option.none else bif Decidable.decide (Go.IntKind.u64.wrap v2.fst < (0 : Int)) then Option.none else bif Decidable.decide ((Go.IntKind.u64.wrap (a3 * (2 : Int) ^ Min.min (Go.IntKind.u64.wrap v2.fst).toNat (64 : Nat))).fdiv (4294967296 : Int) = (0 : Int)) then Option.none else (R_div64_17 ((Go.IntKind.u64.wrap (a3 * (2 : Int) ^ Min.min (Go.IntKind.u64.wrap v2.fst).toNat (64 : Nat)), Go.IntKind.u64.wrap v2.fst, (Go.IntKind.u64.wrap (a3 * (2 : Int) ^ Min.min (Go.IntKind.u64.wrap v2.fst).toNat (64 : Nat))).fdiv (4294967296 : Int), Go.DI.bAnd Go.IntKind.u64 (Go.IntKind.u64.wrap (a3 * (2 : Int) ^ Min.min (Go.IntKind.u64.wrap v2.fst).toNat (64 : Nat))) (4294967295 : Int), Go.DI.bOr Go.IntKind.u64 (Go.IntKind.u64.wrap (a1 * (2 : Int) ^ Min.min (Go.IntKind.u64.wrap v2.fst).toNat (64 : Nat))) (Int.fdiv a2 ((2 : Int) ^ Min.min (Go.IntKind.u64.wrap ((64 : Int) - Go.IntKind.u64.wrap v2.fst)).toNat (64 : Nat))), (Go.IntKind.u64.wrap (a2 * (2 : Int) ^ Min.min (Go.IntKind.u64.wrap v2.fst).toNat (64 : Nat))).fdiv (4294967296 : Int), Go.DI.bAnd Go.IntKind.u64 (Go.IntKind.u64.wrap (a2 * (2 : Int) ^ Min.min (Go.IntKind.u64.wrap v2.fst).toNat (64 : Nat))) (4294967295 : Int), Go.IntKind.u64.wrap ((Go.DI.bOr Go.IntKind.u64 (Go.IntKind.u64.wrap (a1 * (2 : Int) ^ Min.min (Go.IntKind.u64.wrap v2.fst).toNat (64 : Nat))) (Int.fdiv a2 ((2 : Int) ^ Min.min (Go.IntKind.u64.wrap ((64 : Int) - Go.IntKind.u64.wrap v2.fst)).toNat (64 : Nat)))).tdiv ((Go.IntKind.u64.wrap (a3 * (2 : Int) ^ Min.min (Go.IntKind.u64.wrap v2.fst).toNat (64 : Nat))).fdiv (4294967296 : Int))), Go.IntKind.u64.wrap (Go.DI.bOr Go.IntKind.u64 (Go.IntKind.u64.wrap (a1 * (2 : Int) ^ Min.min (Go.IntKind.u64.wrap v2.fst).toNat (64 : Nat))) (Int.fdiv a2 ((2 : Int) ^ Min.min (Go.IntKind.u64.wrap ((64 : Int) - Go.IntKind.u64.wrap v2.fst)).toNat (64 : Nat))) - Go.IntKind.u64.wrap (Go.IntKind.u64.wrap ((Go.DI.bOr Go.IntKind.u64 (Go.IntKind.u64.wrap (a1 * (2 : Int) ^ Min.min (Go.IntKind.u64.wrap v2.fst).toNat (64 : Nat))) (Int.fdiv a2 ((2 : Int) ^ Min.min (Go.IntKind.u64.wrap ((64 : Int) - Go.IntKind.u64.wrap v2.fst)).toNat (64 : Nat)))).tdiv ((Go.IntKind.u64.wrap (a3 * (2 : Int) ^ Min.min (Go.IntKind.u64.wrap v2.fst).toNat (64 : Nat))).fdiv (4294967296 : Int))) * (Go.IntKind.u64.wrap (a3 * (2 : Int) ^ Min.min (Go.IntKind.u64.wrap v2.fst).toNat (64 : Nat))).fdiv (4294967296 : Int))), ()), ())).bind fun v3 => Sum.elim (fun v4 => bif Decidable.decide (v4.fst.snd.snd.fst = (0 : Int)) then Option.none else (R_div64_24 ((v4.fst.fst, v4.fst.snd.fst, v4.fst.snd.snd.fst, v4.fst.snd.snd.snd.fst, v4.fst.snd.snd.snd.snd.snd.snd.fst, v4.fst.snd.snd.snd.snd.snd.snd.snd.fst, Go.IntKind.u64.wrap (Go.IntKind.u64.wrap (Go.IntKind.u64.wrap (Go.IntKind.u64.wrap (v4.fst.snd.snd.snd.snd.fst * (4294967296 : Int)) + v4.fst.snd.snd.snd.snd.snd.fst) - Go.IntKind.u64.wrap (v4.fst.snd.snd.snd.snd.snd.snd.snd.fst * v4.fst.fst)) - Go.IntKind.u64.wrap (Go.IntKind.u64.wrap ((Go.IntKind.u64.wrap (Go.IntKind.u64.wrap (Go.IntKind.u64.wrap (v4.fst.snd.snd.snd.snd.fst * (4294967296 : Int)) + v4.fst.snd.snd.snd.snd.snd.fst) - Go.IntKind.u64.wrap (v4.fst.snd.snd.snd.snd.snd.snd.snd.fst * v4.fst.fst))).tdiv v4.fst.snd.snd.fst) * v4.fst.snd.snd.fst)), Go.IntKind.u64.wrap (Go.IntKind.u64.wrap (Go.IntKind.u64.wrap (v4.fst.snd.snd.snd.snd.fst * (4294967296 : Int)) + v4.fst.snd.snd.snd.snd.snd.fst) - Go.IntKind.u64.wrap (v4.fst.snd.snd.snd.snd.snd.snd.snd.fst * v4.fst.fst)), Go.IntKind.u64.wrap ((Go.IntKind.u64.wrap (Go.IntKind.u64.wrap (Go.IntKind.u64.wrap (v4.fst.snd.snd.snd.snd.fst * (4294967296 : Int)) + v4.fst.snd.snd.snd.snd.snd.fst) - Go.IntKind.u64.wrap (v4.fst.snd.snd.snd.snd.snd.snd.snd.fst * v4.fst.fst))).tdiv v4.fst.snd.snd.fst), ()), ())).bind fun v5 => Sum.elim (fun v6 => bif Decidable.decide (v6.fst.snd.fst < (0 : Int)) then Option.none else Option.some (Go.IntKind.u64.wrap (Go.IntKind.u64.wrap (v6.fst.snd.snd.snd.fst * (4294967296 : Int)) + v6.fst.snd.snd.snd.snd.snd.fst), (Go.IntKind.u64.wrap (Go.IntKind.u64.wrap (Go.IntKind.u64.wrap (v6.fst.snd.snd.snd.snd.fst * (4294967296 : Int)) + v6.fst.snd.snd.fst) - Go.IntKind.u64.wrap (v6.fst.snd.snd.snd.snd.snd.fst * v6.fst.fst))).fdiv ((2 : Int) ^ Min.min (Int.toNat v6.fst.snd.fst) (64 : Nat)), ())) (fun v7 => Option.none) v5) (fun v8 => Option.none) v3
theorem f_div64 (x : Ps [.ty (.int .u64), .ty (.int .u64), .ty (.int .u64)]) : funcT CT T_div64 [.int .u64, .int .u64] (drT CT T_div64) lp_div64 Tryz.f261 c_div64 (encPs [.ty (.int .u64), .ty (.int .u64), .ty (.int .u64)] x) = F_div64 x.1 x.2.1 x.2.2.1 := by kernel_rfl
noncomputable def E_div64 : Ent := .fn 261 [] ⟨[.ty (.int .u64), .ty (.int .u64), .ty (.int .u64)], [.int .u64, .int .u64], fun x => F_div64 x.1 x.2.1 x.2.2.1, false⟩
theorem e_div64 : E_div64.Ok CT.P := Ent.ofFn CT_ok T_div64_ok hf_div64 hb_div64 lp_div64_ok f_div64
noncomputable def E_div64h : Ent := .fn 261 [] ⟨[.ty (.int .u64), .ty (.int .u64), .ty (.int .u64)], [.int .u64, .int .u64], fun x => F_div64 x.1 x.2.1 x.2.2.1, true⟩
/-! ### 262: maquette/fix.parts -/
noncomputable def c_parts : Code := Tryz.f262.body.getD .skip
theorem hb_parts : Tryz.f262.body = some c_parts := by kernel_rfl
theorem hf_parts : CT.P.funcs[262]? = some Tryz.f262 := by kernel_rfl
noncomputable def T_parts : Tb := mkTb tyT mpT []
theorem T_parts_ok : T_parts.Ok CT.P := mkTb_ok (trivial)
noncomputable def lp_parts {β : Type} : LpT β := fun _ _ _ => none
theorem lp_parts_ok {β : Type} : LpTOk CT (lp_parts (β := β)) (loopsOf c_parts) := by
  have h : loopsOf c_parts = [] := by kernel_rfl
  rw [h]
  exact LpTOk.nil
noncomputable def F_parts (a1 : Ty.El I) : Option (Els [.bool, .int .u64]) := bif Decidable.decide (a1 < (0 : Int)) then Option.some (Bool.true, Go.IntKind.u64.wrap ((0 : Int) - Go.IntKind.u64.wrap a1), ()) else Option.some (Bool.false, Go.IntKind.u64.wrap a1, ())
theorem f_parts (x : Ps [.ty I]) : funcT CT T_parts [.bool, .int .u64] (drT CT T_parts) lp_parts Tryz.f262 c_parts (encPs [.ty I] x) = F_parts x.1 := by kernel_rfl
noncomputable def E_parts : Ent := .fn 262 [] ⟨[.ty I], [.bool, .int .u64], fun x => F_parts x.1, false⟩
theorem e_parts : E_parts.Ok CT.P := Ent.ofFn CT_ok T_parts_ok hf_parts hb_parts lp_parts_ok f_parts
noncomputable def E_partsh : Ent := .fn 262 [] ⟨[.ty I], [.bool, .int .u64], fun x => F_parts x.1, true⟩
/-! ### 263: maquette/fix.whole -/
noncomputable def c_whole : Code := Tryz.f263.body.getD .skip
theorem hb_whole : Tryz.f263.body = some c_whole := by kernel_rfl
theorem hf_whole : CT.P.funcs[263]? = some Tryz.f263 := by kernel_rfl
noncomputable def T_whole : Tb := mkTb tyT mpT []
theorem T_whole_ok : T_whole.Ok CT.P := mkTb_ok (trivial)
noncomputable def lp_whole {β : Type} : LpT β := fun _ _ _ => none
theorem lp_whole_ok {β : Type} : LpTOk CT (lp_whole (β := β)) (loopsOf c_whole) := by
  have h : loopsOf c_whole = [] := by kernel_rfl
  rw [h]
  exact LpTOk.nil
noncomputable def F_whole (a1 : Ty.El .bool) (a2 : Ty.El (.int .u64)) : Option (Els [I, I]) := bif a1 then bif Decidable.decide (a2 ≤ (9223372036854775808 : Int)) then Option.some (Go.IntKind.i64.wrap (Go.IntKind.u64.wrap ((0 : Int) - a2)), (0 : Int), ()) else bif !a1 then bif Decidable.decide (a2 < (9223372036854775808 : Int)) then Option.some (Go.IntKind.i64.wrap a2, (0 : Int), ()) else Option.some ((0 : Int), (3 : Int), ()) else Option.some ((0 : Int), (3 : Int), ()) else bif !a1 then bif Decidable.decide (a2 < (9223372036854775808 : Int)) then Option.some (Go.IntKind.i64.wrap a2, (0 : Int), ()) else Option.some ((0 : Int), (3 : Int), ()) else Option.some ((0 : Int), (3 : Int), ())
theorem f_whole (x : Ps [.ty .bool, .ty (.int .u64)]) : funcT CT T_whole [I, I] (drT CT T_whole) lp_whole Tryz.f263 c_whole (encPs [.ty .bool, .ty (.int .u64)] x) = F_whole x.1 x.2.1 := by kernel_rfl
noncomputable def E_whole : Ent := .fn 263 [] ⟨[.ty .bool, .ty (.int .u64)], [I, I], fun x => F_whole x.1 x.2.1, false⟩
theorem e_whole : E_whole.Ok CT.P := Ent.ofFn CT_ok T_whole_ok hf_whole hb_whole lp_whole_ok f_whole
noncomputable def E_wholeh : Ent := .fn 263 [] ⟨[.ty .bool, .ty (.int .u64)], [I, I], fun x => F_whole x.1 x.2.1, true⟩
/-! ### 234: maquette/fix.Mul -/
noncomputable def c_fmul : Code := Tryz.f234.body.getD .skip
theorem hb_fmul : Tryz.f234.body = some c_fmul := by kernel_rfl
theorem hf_fmul : CT.P.funcs[234]? = some Tryz.f234 := by kernel_rfl
noncomputable def T_fmul : Tb := mkTb tyT mpT [E_mul64, E_parts, E_whole]
theorem T_fmul_ok : T_fmul.Ok CT.P := mkTb_ok (⟨e_mul64, e_parts, e_whole, trivial⟩)
noncomputable def lp_fmul {β : Type} : LpT β := fun _ _ _ => none
theorem lp_fmul_ok {β : Type} : LpTOk CT (lp_fmul (β := β)) (loopsOf c_fmul) := by
  have h : loopsOf c_fmul = [] := by kernel_rfl
  rw [h]
  exact LpTOk.nil
noncomputable def F_fmul (a1 : Ty.El I) (a2 : Ty.El I) : Option (Els [I, I]) := (F_parts a1).bind fun v2 => (F_parts a2).bind fun v4 => (F_mul64 v2.snd.fst v4.snd.fst).bind fun v6 => bif Decidable.decide (v6.fst ≥ (4294967296 : Int)) then Option.some ((0 : Int), (3 : Int), ()) else (F_whole (!v2.fst == v4.fst) (Go.DI.bOr Go.IntKind.u64 (Go.IntKind.u64.wrap (v6.fst * (4294967296 : Int))) (Int.fdiv v6.snd.fst (4294967296 : Int)))).bind fun v8 => Option.some (v8.fst, v8.snd.fst, ())
theorem f_fmul (x : Ps [.ty I, .ty I]) : funcT CT T_fmul [I, I] (drT CT T_fmul) lp_fmul Tryz.f234 c_fmul (encPs [.ty I, .ty I] x) = F_fmul x.1 x.2.1 := by kernel_rfl
noncomputable def E_fmul : Ent := .fn 234 [] ⟨[.ty I, .ty I], [I, I], fun x => F_fmul x.1 x.2.1, false⟩
theorem e_fmul : E_fmul.Ok CT.P := Ent.ofFn CT_ok T_fmul_ok hf_fmul hb_fmul lp_fmul_ok f_fmul
noncomputable def E_fmulh : Ent := .fn 234 [] ⟨[.ty I, .ty I], [I, I], fun x => F_fmul x.1 x.2.1, true⟩
/-! ### 235: maquette/fix.Sub -/
noncomputable def c_fsub : Code := Tryz.f235.body.getD .skip
theorem hb_fsub : Tryz.f235.body = some c_fsub := by kernel_rfl
theorem hf_fsub : CT.P.funcs[235]? = some Tryz.f235 := by kernel_rfl
noncomputable def T_fsub : Tb := mkTb tyT mpT []
theorem T_fsub_ok : T_fsub.Ok CT.P := mkTb_ok (trivial)
noncomputable def lp_fsub {β : Type} : LpT β := fun _ _ _ => none
theorem lp_fsub_ok {β : Type} : LpTOk CT (lp_fsub (β := β)) (loopsOf c_fsub) := by
  have h : loopsOf c_fsub = [] := by kernel_rfl
  rw [h]
  exact LpTOk.nil
noncomputable def F_fsub (a1 : Ty.El I) (a2 : Ty.El I) : Option (Els [I, I]) := bif !Decidable.decide (a1 < (0 : Int)) == Decidable.decide (a2 < (0 : Int)) then bif !Decidable.decide (Go.IntKind.i64.wrap (a1 - a2) < (0 : Int)) == Decidable.decide (a1 < (0 : Int)) then Option.some ((0 : Int), (3 : Int), ()) else Option.some (Go.IntKind.i64.wrap (a1 - a2), (0 : Int), ()) else Option.some (Go.IntKind.i64.wrap (a1 - a2), (0 : Int), ())
theorem f_fsub (x : Ps [.ty I, .ty I]) : funcT CT T_fsub [I, I] (drT CT T_fsub) lp_fsub Tryz.f235 c_fsub (encPs [.ty I, .ty I] x) = F_fsub x.1 x.2.1 := by kernel_rfl
noncomputable def E_fsub : Ent := .fn 235 [] ⟨[.ty I, .ty I], [I, I], fun x => F_fsub x.1 x.2.1, false⟩
theorem e_fsub : E_fsub.Ok CT.P := Ent.ofFn CT_ok T_fsub_ok hf_fsub hb_fsub lp_fsub_ok f_fsub
noncomputable def E_fsubh : Ent := .fn 235 [] ⟨[.ty I, .ty I], [I, I], fun x => F_fsub x.1 x.2.1, true⟩
/-! ### 259: maquette/wave.Norm -/
noncomputable def c_norm : Code := Tryz.f259.body.getD .skip
theorem hb_norm : Tryz.f259.body = some c_norm := by kernel_rfl
theorem hf_norm : CT.P.funcs[259]? = some Tryz.f259 := by kernel_rfl
noncomputable def T_norm : Tb := mkTb tyT mpT []
theorem T_norm_ok : T_norm.Ok CT.P := mkTb_ok (trivial)
noncomputable def lp_norm {β : Type} : LpT β := fun _ _ _ => none
theorem lp_norm_ok {β : Type} : LpTOk CT (lp_norm (β := β)) (loopsOf c_norm) := by
  have h : loopsOf c_norm = [] := by kernel_rfl
  rw [h]
  exact LpTOk.nil
noncomputable def F_norm (a1 : Ty.El I) : Option (Els [I]) := Option.some ((Go.IntKind.i64.wrap (Int.tmod a1 (65536 : Int) + (65536 : Int))).tmod (65536 : Int), ())
theorem f_norm (x : Ps [.ty I]) : funcT CT T_norm [I] (drT CT T_norm) lp_norm Tryz.f259 c_norm (encPs [.ty I] x) = F_norm x.1 := by kernel_rfl
noncomputable def E_norm : Ent := .fn 259 [] ⟨[.ty I], [I], fun x => F_norm x.1, false⟩
theorem e_norm : E_norm.Ok CT.P := Ent.ofFn CT_ok T_norm_ok hf_norm hb_norm lp_norm_ok f_norm
noncomputable def E_normh : Ent := .fn 259 [] ⟨[.ty I], [I], fun x => F_norm x.1, true⟩
/-! ### 232: maquette/wave.Sin -/
noncomputable def c_sin : Code := Tryz.f232.body.getD .skip
theorem hb_sin : Tryz.f232.body = some c_sin := by kernel_rfl
theorem hf_sin : CT.P.funcs[232]? = some Tryz.f232 := by kernel_rfl
abbrev FT_sin := (Ty.El I) → Option (Els [I])
noncomputable def E_sinx (f : FT_sin) : Ent := .fn 232 [] ⟨[.ty I], [I], fun x => f x.1, false⟩
noncomputable def T_sin (f : FT_sin) : Tb := mkTb tyT mpT [E_norm, (E_sinx f), E_mul64, E_div64]
theorem T_sin_ok {f : FT_sin} (hf : (E_sinx f).Ok CT.P) : (T_sin f).Ok CT.P := mkTb_ok (⟨e_norm, hf, e_mul64, e_div64, trivial⟩)
noncomputable def lp_sin (f : FT_sin) {β : Type} : LpT β := fun _ _ _ => none
theorem lp_sin_ok {f : FT_sin} (hf : (E_sinx f).Ok CT.P) {β : Type} : LpTOk CT (lp_sin f (β := β)) (loopsOf c_sin) := by
  have h : loopsOf c_sin = [] := by kernel_rfl
  rw [h]
  exact LpTOk.nil
noncomputable def F_sinb (f : FT_sin) (a1 : Ty.El I) : Option (Els [I]) := (F_norm a1).bind fun v2 => bif Decidable.decide (v2.fst > (32768 : Int)) then (f (Go.IntKind.i64.wrap (v2.fst - (32768 : Int)))).bind fun v4 => Option.some (Go.IntKind.i64.wrap ((0 : Int) - v4.fst), ()) else (F_mul64 (Go.IntKind.u64.wrap ((16 : Int) * Go.IntKind.u64.wrap (Go.IntKind.i64.wrap (v2.fst * Go.IntKind.i64.wrap ((32768 : Int) - v2.fst))))) (4294967296 : Int)).bind fun v6 => (F_div64 v6.fst v6.snd.fst (Go.IntKind.u64.wrap ((5368709120 : Int) - Go.IntKind.u64.wrap ((4 : Int) * Go.IntKind.u64.wrap (Go.IntKind.i64.wrap (v2.fst * Go.IntKind.i64.wrap ((32768 : Int) - v2.fst))))))).bind fun v8 => Option.some (Go.IntKind.i64.wrap v8.fst, ())
theorem f_sin (f : FT_sin) (x : Ps [.ty I]) : funcT CT (T_sin f) [I] (drT CT (T_sin f)) (lp_sin f) Tryz.f232 c_sin (encPs [.ty I] x) = F_sinb f x.1 := by kernel_rfl
noncomputable def F_sinn : Nat → FT_sin
  | 0, _ => none
  | n + 1, a1 => F_sinb (F_sinn n) a1
noncomputable def F_sin : FT_sin := F_sinn 3
theorem e_sinn : ∀ n, (E_sinx (F_sinn n)).Ok CT.P
  | 0 => fun x y h => by cases h
  | n + 1 => Ent.ofFn CT_ok (T_sin_ok (e_sinn n)) hf_sin hb_sin (lp_sin_ok (e_sinn n)) (f_sin (F_sinn n))
noncomputable def E_sin : Ent := E_sinx F_sin
theorem e_sin : E_sin.Ok CT.P := e_sinn 3

/-! ### 233: maquette/wave.Cos -/
noncomputable def c_cos : Code := Tryz.f233.body.getD .skip
theorem hb_cos : Tryz.f233.body = some c_cos := by kernel_rfl
theorem hf_cos : CT.P.funcs[233]? = some Tryz.f233 := by kernel_rfl
noncomputable def T_cos : Tb := mkTb tyT mpT [E_norm, E_sin]
theorem T_cos_ok : T_cos.Ok CT.P := mkTb_ok (⟨e_norm, e_sin, trivial⟩)
noncomputable def lp_cos {β : Type} : LpT β := fun _ _ _ => none
theorem lp_cos_ok {β : Type} : LpTOk CT (lp_cos (β := β)) (loopsOf c_cos) := by
  have h : loopsOf c_cos = [] := by kernel_rfl
  rw [h]
  exact LpTOk.nil
noncomputable def F_cos (a1 : Ty.El I) : Option (Els [I]) := (F_norm a1).bind fun v2 => (F_sin (Go.IntKind.i64.wrap (v2.fst + (16384 : Int)))).bind fun v4 => Option.some (v4.fst, ())
theorem f_cos (x : Ps [.ty I]) : funcT CT T_cos [I] (drT CT T_cos) lp_cos Tryz.f233 c_cos (encPs [.ty I] x) = F_cos x.1 := by kernel_rfl
noncomputable def E_cos : Ent := .fn 233 [] ⟨[.ty I], [I], fun x => F_cos x.1, false⟩
theorem e_cos : E_cos.Ok CT.P := Ent.ofFn CT_ok T_cos_ok hf_cos hb_cos lp_cos_ok f_cos
noncomputable def E_cosh : Ent := .fn 233 [] ⟨[.ty I], [I], fun x => F_cos x.1, true⟩
/-! ### 231: maquette/wave.Rotate$1 -/
noncomputable def c_ask : Code := Tryz.f231.body.getD .skip
theorem hb_ask : Tryz.f231.body = some c_ask := by kernel_rfl
theorem hf_ask : CT.P.funcs[231]? = some Tryz.f231 := by kernel_rfl
noncomputable abbrev IN_ask : LayD := ⟨3, [(0, .data I), (1, .data I), (2, .ptr 0)], [.var 56 [.data I]], fun s => [slotR s 2]⟩
noncomputable abbrev OUT_ask : LayD := ⟨1, [(0, .data I)], [.var 56 [.data I]], fun _ => [0]⟩
noncomputable def T_ask : Tb := mkTb tyT mpT []
theorem T_ask_ok : T_ask.Ok CT.P := mkTb_ok (trivial)
noncomputable def lp_ask {β : Type} : LpT β := fun _ _ _ => none
theorem lp_ask_ok {β : Type} : LpTOk (CTp 1) (lp_ask (β := β)) (loopsOf c_ask) := by
  have h : loopsOf c_ask = [] := by kernel_rfl
  rw [h]
  exact LpTOk.nil
noncomputable def F_ask (a0 : Ty.El I) (a1 : Ty.El I) (b0 : Ty.El I × Unit) : Option OUT_ask.El := bif b0.fst == (0 : Int) then Option.some ((a0, ()), (a1, ()), ()) else Option.some ((a0, ()), (b0.fst, ()), ())
theorem f_ask (x : IN_ask.El) : funcX (CTp 1) T_ask IN_ask OUT_ask [] (drT (CTp 1) T_ask) lp_ask Tryz.f231 c_ask x = F_ask x.1.1 x.1.2.1 x.2.1 := by kernel_rfl
noncomputable def E_ask : Ent := .mkGen 231 [] ⟨1, [], IN_ask, OUT_ask, fun x => F_ask x.1.1 x.1.2.1 x.2.1⟩
theorem e_ask : E_ask.Ok CT.P := Ent.ofGen (C := (CTp 1)) (steps := []) (osteps := []) (CTp_ok 1) T_ask_ok hf_ask hb_ask lp_ask_ok f_ask
/-! ### 191: maquette/wave.Rotate -/
noncomputable def c_rot : Code := Tryz.f191.body.getD .skip
theorem hb_rot : Tryz.f191.body = some c_rot := by kernel_rfl
theorem hf_rot : CT.P.funcs[191]? = some Tryz.f191 := by kernel_rfl
noncomputable def T_rot : Tb := mkTb tyT mpT [E_sin, E_cos, E_fmul, E_fsub, E_162, E_ask]
theorem T_rot_ok : T_rot.Ok CT.P := mkTb_ok (⟨e_sin, e_cos, e_fmul, e_fsub, e_162, e_ask, trivial⟩)
noncomputable def lp_rot {β : Type} : LpT β := fun _ _ _ => none
theorem lp_rot_ok {β : Type} : LpTOk CT (lp_rot (β := β)) (loopsOf c_rot) := by
  have h : loopsOf c_rot = [] := by kernel_rfl
  rw [h]
  exact LpTOk.nil
noncomputable def F_rot (a1 : Ty.El I) (a2 : Ty.El I) (a3 : Ty.El I) : Option (Els [I, I, I]) := (F_sin a3).bind fun v2 => (F_cos a3).bind fun v4 => (F_fmul a1 v4.fst).bind fun v6 => (F_ask v6.fst v6.snd.fst ((0 : Int), ())).bind fun v8 => (F_fmul a2 v2.fst).bind fun v10 => (F_ask v10.fst v10.snd.fst (v8.snd.fst.fst, ())).bind fun v14 => (F_fsub v8.fst.fst v14.fst.fst).bind fun v20 => (F_ask v20.fst v20.snd.fst (v14.snd.fst.fst, ())).bind fun v24 => (F_fmul a1 v2.fst).bind fun v26 => (F_ask v26.fst v26.snd.fst (v24.snd.fst.fst, ())).bind fun v30 => (F_fmul a2 v4.fst).bind fun v32 => (F_ask v32.fst v32.snd.fst (v30.snd.fst.fst, ())).bind fun v36 => (F_162 v30.fst.fst v36.fst.fst).bind fun v42 => (F_ask v42.fst v42.snd.fst (v36.snd.fst.fst, ())).bind fun v46 => bif v46.snd.fst.fst != (0 : Int) then Option.some ((0 : Int), (0 : Int), v46.snd.fst.fst, ()) else Option.some (v24.fst.fst, v46.fst.fst, (0 : Int), ())
theorem f_rot (x : Ps [.ty I, .ty I, .ty I]) : funcT CT T_rot [I, I, I] (drT CT T_rot) lp_rot Tryz.f191 c_rot (encPs [.ty I, .ty I, .ty I] x) = F_rot x.1 x.2.1 x.2.2.1 := by kernel_rfl
noncomputable def E_rot : Ent := .fn 191 [] ⟨[.ty I, .ty I, .ty I], [I, I, I], fun x => F_rot x.1 x.2.1 x.2.2.1, false⟩
theorem e_rot : E_rot.Ok CT.P := Ent.ofFn CT_ok T_rot_ok hf_rot hb_rot lp_rot_ok f_rot
noncomputable def E_roth : Ent := .fn 191 [] ⟨[.ty I, .ty I, .ty I], [I, I, I], fun x => F_rot x.1 x.2.1 x.2.2.1, true⟩
/-! ### 141: (*maquette/order.worker).turn -/
noncomputable def c_turn : Code := Tryz.f141.body.getD .skip
theorem hb_turn : Tryz.f141.body = some c_turn := by kernel_rfl
theorem hf_turn : CT.P.funcs[141]? = some Tryz.f141 := by kernel_rfl
noncomputable def T_turn : Tb := mkTb tyT mpT [E_rot]
theorem T_turn_ok : T_turn.Ok CT.P := mkTb_ok (⟨e_rot, trivial⟩)
noncomputable def lp_turn {β : Type} : LpT β := fun _ _ _ => none
theorem lp_turn_ok {β : Type} : LpTOk CT (lp_turn (β := β)) (loopsOf c_turn) := by
  have h : loopsOf c_turn = [] := by kernel_rfl
  rw [h]
  exact LpTOk.nil
noncomputable def F_turn (a1 : Ty.El tWorker) (a2 : Ty.El tVec) : Option (Els [tVec] ⊕ Int) := (F_rot a2.fst a2.snd a1.snd.fst.snd.snd.snd.snd.snd.snd.snd.snd.snd.fst).bind fun v2 => bif v2.snd.snd.fst != (0 : Int) then Option.some (Sum.inr (3 : Int)) else Option.some (Sum.inl ((v2.fst, v2.snd.fst), ()))
theorem f_turn (x : Ps [.roa tWorker, .ty tVec]) : funcP CT T_turn 239 [tVec] (drT CT T_turn) lp_turn Tryz.f141 c_turn (encPs [.roa tWorker, .ty tVec] x) = F_turn x.1 x.2.1 := by kernel_rfl
noncomputable def E_turn : Ent := .mkFnP 141 [] ⟨239, [.roa tWorker, .ty tVec], [tVec], fun x => F_turn x.1 x.2.1, false⟩
theorem e_turn : E_turn.Ok CT.P := Ent.ofFnP CT_ok T_turn_ok hf_turn hb_turn lp_turn_ok f_turn
noncomputable def E_turnh : Ent := .mkFnP 141 [] ⟨239, [.roa tWorker, .ty tVec], [tVec], fun x => F_turn x.1 x.2.1, true⟩
/-! ### 179: (*maquette/order.worker).each$1 -/
noncomputable def c_each1t : Code := Tryz.f179.body.getD .skip
theorem hb_each1t : Tryz.f179.body = some c_each1t := by kernel_rfl
theorem hf_each1t : CT.P.funcs[179]? = some Tryz.f179 := by kernel_rfl
noncomputable abbrev IN_each1t : LayD := ⟨3, [(0, .ptr 0), (1, .ptr 1), (2, .ptr 2)], [.var 51 [.data tVec, .data I, .own tThing 4], .var 23 [.data (.list I)], .var 199 [.cloB 141 [3]], .var 140 [.data tWorker], .row 68 tThing], fun s => [slotR s 0, slotR s 1, slotR s 2, slotHB s (slotR s 2) 0, slotC s 0 3]⟩
noncomputable abbrev OUT_each1t : LayD := ⟨0, [], [.var 51 [.data tVec, .data I, .own tThing 4], .var 23 [.data (.list I)], .var 199 [.cloB 141 [3]], .var 140 [.data tWorker], .row 68 tThing], fun s => [0, 1, 2, 3, slotH s 0 3]⟩
noncomputable def T_each1t : Tb := mkTb tyT mpT [E_59, E_turn, E_88]
theorem T_each1t_ok : T_each1t.Ok CT.P := mkTb_ok (⟨e_59, e_turn, e_88, trivial⟩)
noncomputable def l_each1t_1 : Code := atLoop c_each1t 1
noncomputable abbrev LD_each1t_1 : LayD := ⟨37, [(0, .ptr 0), (1, .ptr 1), (2, .ptr 2), (6, .own tThing 4), (7, .data I), (8, .data I)], [.var 51 [.data tVec, .data I, .own tThing 4], .var 23 [.data (.list I)], .var 199 [.cloB 141 [3]], .var 140 [.data tWorker], .row 68 tThing], fun s => [0, 1, 2, 3, slotH s 0 3]⟩
noncomputable abbrev LA_each1t_1 : LayD := ⟨37, [], [.var 51 [.data tVec, .data I, .own tThing 4], .var 23 [.data (.list I)], .var 199 [.cloB 141 [3]], .var 140 [.data tWorker], .row 68 tThing], fun s => [0, 1, 2, 3, slotH s 0 3]⟩
noncomputable abbrev LB_each1t_1 : LayD := ⟨37, [], [], fun _ => []⟩
noncomputable def EX_each1t_1 : Exits 4 LA_each1t_1.El LB_each1t_1.El := ⟨.exit 0, LA_each1t_1.lay [], .ret, LB_each1t_1.lay []⟩

noncomputable def lpi_each1t_1 {β : Type} : LpT β := fun _ _ _ => none
theorem lpi_each1t_1_ok {β : Type} : LpTOk (CTp 4) (lpi_each1t_1 (β := β)) (loopsOf l_each1t_1) := by
  have h : loopsOf l_each1t_1 = [] := by kernel_rfl
  rw [h]
  exact LpTOk.nil
noncomputable def G_each1t_1 (r7 : Ty.El I) (r8 : Ty.El I) (b0 : Ty.El tVec × Ty.El I × Unit × Unit) (b1 : Ty.El (.list I) × Unit) (b2 : Unit × Unit) (b3 : Ty.El tWorker × Unit) (b4 : List (Ty.El tThing)) : Option (LD_each1t_1.El ⊕ ((LA_each1t_1.El ⊕ LB_each1t_1.El) ⊕ Int)) := bif Decidable.decide (r8 < r7) then bif Decidable.decide ((0 : Int) ≤ r8 ∧ r8 < (↑b4.length : Int)) then (F_59 b1.fst (b4.getD (Int.toNat r8) Go.DI.S.tThing.dflt).fst).bind fun v2 => bif !v2.fst then Option.some (Sum.inl (((), (), (), (), r7, Go.IntKind.i64.wrap (r8 + (1 : Int)), ()), (b0.fst, b0.snd.fst, (), ()), (b1.fst, ()), ((), ()), (b3.fst, ()), b4, ())) else (F_turn b3.fst (b4.getD (Int.toNat r8) Go.DI.S.tThing.dflt).snd.snd.fst.snd.snd.snd.fst).bind fun v4 => Sum.elim (fun v6 => (F_88 ((b4.getD (Int.toNat r8) Go.DI.S.tThing.dflt).snd.snd.fst.fst, (b4.getD (Int.toNat r8) Go.DI.S.tThing.dflt).snd.snd.fst.snd.fst, (b4.getD (Int.toNat r8) Go.DI.S.tThing.dflt).snd.snd.fst.snd.snd.fst, v6.fst, (b4.getD (Int.toNat r8) Go.DI.S.tThing.dflt).snd.snd.fst.snd.snd.snd.snd)).bind fun v8 => bif !v8.fst then Option.some (Sum.inr (Sum.inr (3 : Int))) else bif Decidable.decide ((0 : Int) ≤ r8 ∧ r8 < (↑b4.length : Int)) then Option.some (Sum.inl (((), (), (), (), r7, Go.IntKind.i64.wrap (r8 + (1 : Int)), ()), (b0.fst, b0.snd.fst, (), ()), (b1.fst, ()), ((), ()), (b3.fst, ()), b4.set (Int.toNat r8) ((b4.getD (Int.toNat r8) Go.DI.S.tThing.dflt).fst, (b4.getD (Int.toNat r8) Go.DI.S.tThing.dflt).snd.fst, ((b4.getD (Int.toNat r8) Go.DI.S.tThing.dflt).snd.snd.fst.fst, (b4.getD (Int.toNat r8) Go.DI.S.tThing.dflt).snd.snd.fst.snd.fst, (b4.getD (Int.toNat r8) Go.DI.S.tThing.dflt).snd.snd.fst.snd.snd.fst, v6.fst, (b4.getD (Int.toNat r8) Go.DI.S.tThing.dflt).snd.snd.fst.snd.snd.snd.snd), (b4.getD (Int.toNat r8) Go.DI.S.tThing.dflt).snd.snd.snd), ())) else Option.none) (fun v9 => Option.some (Sum.inr (Sum.inr v9))) v4 else Option.none else Option.some (Sum.inr (Sum.inl (Sum.inl ((), (b0.fst, b0.snd.fst, (), ()), (b1.fst, ()), ((), ()), (b3.fst, ()), b4, ()))))
theorem g_each1t_1 (x : LD_each1t_1.El) : codeT (CTp 4) T_each1t (drT (CTp 4) T_each1t) lpi_each1t_1 l_each1t_1 (LD_each1t_1.enc x) (bodyKP (LD_each1t_1.lay []) EX_each1t_1 239 37) = G_each1t_1 x.1.2.2.2.2.1 x.1.2.2.2.2.2.1 x.2.1 x.2.2.1 x.2.2.2.1 x.2.2.2.2.1 x.2.2.2.2.2.1 := by kernel_rfl
noncomputable def R_each1t_1 : LD_each1t_1.El → Option ((LA_each1t_1.El ⊕ LB_each1t_1.El) ⊕ Int) := roundsT (fun x => G_each1t_1 x.1.2.2.2.2.1 x.1.2.2.2.2.2.1 x.2.1 x.2.2.1 x.2.2.2.1 x.2.2.2.2.1 x.2.2.2.2.2.1) fuel
theorem r_each1t_1 : ∀ x y, R_each1t_1 x = some y → CL (CTp 4) l_each1t_1 (LD_each1t_1.enc x) (Sum.elim (fun ab => Sum.elim (fun _ => EX_each1t_1.xa) (fun _ => EX_each1t_1.xb) ab) (fun e => .pan (faultV 239 e)) y) (Sum.elim (fun ab => Sum.elim EX_each1t_1.la.enc EX_each1t_1.lb.enc ab) (fun _ => panS 4 37) y) :=
  roundsP_ok (L := LD_each1t_1.lay []) (E := EX_each1t_1) (CTp_ok 4) T_each1t_ok (drT_ok (CTp_ok 4) T_each1t_ok) lpi_each1t_1_ok g_each1t_1 rfl rfl (fun v h => by have hh : (.exit 0 : AX) = .pan v := h; cases hh) (fun v h => by have hh : (.ret : AX) = .pan v := h; cases hh) fuel
noncomputable def lp_each1t {β : Type} : LpT β := fun k s K => if Nat.beq k 1 then lpOneP (LD_each1t_1.lay []) EX_each1t_1 239 37 R_each1t_1 s K else none
theorem lp_each1t_ok {β : Type} : LpTOk (CTp 4) (lp_each1t (β := β)) (loopsOf c_each1t) := by
  have h : loopsOf c_each1t = [(1, l_each1t_1)] := by kernel_rfl
  rw [h]
  exact LpTOk.cons (fun s K z h => lpOneP_ok r_each1t_1 h) (LpTOk.nil)
noncomputable def F_each1t (b0 : Ty.El tVec × Ty.El I × Unit × Unit) (b1 : Ty.El (.list I) × Unit) (b2 : Unit × Unit) (b3 : Ty.El tWorker × Unit) (b4 : List (Ty.El tThing)) : Option (OUT_each1t.El ⊕ Int) := (R_each1t_1 (((), (), (), (), (↑b4.length : Int), (0 : Int), ()), (b0.fst, b0.snd.fst, (), ()), (b1.fst, ()), ((), ()), (b3.fst, ()), b4, ())).bind fun v1 => Sum.elim (fun v2 => Sum.elim (fun v3 => Option.some (Sum.inl ((), (v3.snd.fst.fst, v3.snd.fst.snd.fst, (), ()), (v3.snd.snd.fst.fst, ()), ((), ()), (v3.snd.snd.snd.snd.fst.fst, ()), v3.snd.snd.snd.snd.snd.fst, ()))) (fun v4 => Option.none) v2) (fun v5 => Option.some (Sum.inr v5)) v1
theorem f_each1t (x : IN_each1t.El) : funcXP (CTp 4) T_each1t 239 IN_each1t OUT_each1t [] (drT (CTp 4) T_each1t) lp_each1t Tryz.f179 c_each1t x = F_each1t x.2.1 x.2.2.1 x.2.2.2.1 x.2.2.2.2.1 x.2.2.2.2.2.1 := by kernel_rfl
noncomputable def E_each1t : Ent := .mkGenP 179 [] ⟨239, 4, [], IN_each1t, OUT_each1t, fun x => F_each1t x.2.1 x.2.2.1 x.2.2.2.1 x.2.2.2.2.1 x.2.2.2.2.2.1⟩
theorem e_each1t : E_each1t.Ok CT.P := Ent.ofGenP (C := (CTp 4)) (steps := []) (osteps := []) (CTp_ok 4) T_each1t_ok hf_each1t hb_each1t lp_each1t_ok f_each1t
end Go.DI.S

/-! The program's functions, told by functions on data. -/
set_option linter.unusedVariables false
set_option maxRecDepth 100000
set_option maxHeartbeats 0
namespace Go.DI.S
open Go.Proofs
noncomputable abbrev IN_tryt : LayD := ⟨1, [(0, .cloP 179 [0, 1, 2])], [.var 51 [.data tVec, .data I, .own tThing 4], .var 23 [.data (.list I)], .var 199 [.cloB 141 [3]], .var 140 [.data tWorker], .row 68 tThing], fun s => [slotFk s 0 0, slotFk s 0 1, slotFk s 0 2, slotHB s (slotFk s 0 2) 0, slotH s (slotFk s 0 0) 3]⟩
noncomputable abbrev OUT_tryt : LayD := ⟨1, [(0, .data I)], [.var 51 [.data tVec, .data I, .own tThing 4], .var 23 [.data (.list I)], .var 199 [.cloB 141 [3]], .var 140 [.data tWorker], .row 68 tThing], fun s => [0, 1, 2, 3, slotH s 0 3]⟩
noncomputable def F_tryt (b0 : Ty.El tVec × Ty.El I × Unit × Unit) (b1 : Ty.El (.list I) × Unit) (b2 : Unit × Unit) (b3 : Ty.El tWorker × Unit) (b4 : List (Ty.El tThing)) : Option (OUT_tryt.El ⊕ Int) := (F_each1t b0 b1 b2 b3 b4).bind fun y => Sum.elim (fun y => some (.inl ((0, ()), y.2))) (fun e => some (.inr e)) y
noncomputable def E_tryt : Ent := .mkTry 178 [179] ⟨4, [], IN_tryt, OUT_tryt, fun x => F_tryt x.2.1 x.2.2.1 x.2.2.2.1 x.2.2.2.2.1 x.2.2.2.2.2.1⟩
theorem ge_each1t : GenPE.Ok CT.P 179 ⟨239, 4, [], IN_each1t, OUT_each1t, fun x => F_each1t x.2.1 x.2.2.1 x.2.2.2.1 x.2.2.2.2.1 x.2.2.2.2.2.1⟩ :=
  funcXP_ok (C := CTp 4) (osteps := []) (CTp_ok 4) T_each1t_ok (drT_ok (CTp_ok 4) T_each1t_ok) hf_each1t hb_each1t lp_each1t_ok f_each1t
theorem e_tryt : E_tryt.Ok CT.P := Ent.mkTry_ok (by
  refine tryE_84 (is := [0, 1, 2]) (F2 := fun x => F_tryt x.2.1 x.2.2.1 x.2.2.2.1 x.2.2.2.2.1 x.2.2.2.2.2.1) (fun x b => rfl) ((), (), (), ()) (fun x y h => ?_) (fun x e h => ?_) ge_each1t
  · have h : F_tryt x.2.1 x.2.2.1 x.2.2.2.1 x.2.2.2.2.1 x.2.2.2.2.2.1 = some (.inl y) := h
    unfold F_tryt at h
    obtain ⟨z, hz, h⟩ := Option.bind_eq_some_iff.1 h
    cases z with
    | inl z => cases h; exact ⟨hz, rfl⟩
    | inr e => cases h
  · have h : F_tryt x.2.1 x.2.2.1 x.2.2.2.1 x.2.2.2.2.1 x.2.2.2.2.2.1 = some (.inr e) := h
    unfold F_tryt at h
    obtain ⟨z, hz, h⟩ := Option.bind_eq_some_iff.1 h
    cases z with
    | inl z => cases h
    | inr e => cases h; exact hz)
/-! ### 134: (*maquette/order.worker).each -/
noncomputable def c_eacht : Code := Tryz.f134.body.getD .skip
theorem hb_eacht : Tryz.f134.body = some c_eacht := by kernel_rfl
theorem hf_eacht : CT.P.funcs[134]? = some Tryz.f134 := by kernel_rfl
noncomputable abbrev IN_eacht : LayD := ⟨2, [(0, .ptr 0), (1, .cloB 141 [0])], [.var 140 [.data tWorker]], fun s => [slotR s 0]⟩
noncomputable abbrev OUT_eacht : LayD := ⟨3, [(0, .data tScene), (1, .data I), (2, .data I)], [.var 140 [.data tWorker]], fun _ => [0]⟩
noncomputable def T_eacht : Tb := mkTb tyT mpT [E_43, E_oown, E_tryt]
theorem T_eacht_ok : T_eacht.Ok CT.P := mkTb_ok (⟨e_43, e_oown, e_tryt, trivial⟩)
noncomputable def lp_eacht {β : Type} : LpT β := fun _ _ _ => none
theorem lp_eacht_ok {β : Type} : LpTOk (CTp 1) (lp_eacht (β := β)) (loopsOf c_eacht) := by
  have h : loopsOf c_eacht = [] := by kernel_rfl
  rw [h]
  exact LpTOk.nil
noncomputable def F_eacht (b0 : Ty.El tWorker × Unit) : Option OUT_eacht.El := (F_43 b0.fst.fst b0.fst.snd.fst.snd.fst).bind fun v2 => bif v2.snd.fst != (0 : Int) then Option.some ((b0.fst.fst, (0 : Int), v2.snd.fst, ()), (b0.fst, ()), ()) else (F_oown b0.fst.fst.snd.snd).bind fun v4 => (F_tryt (b0.fst.fst.fst, b0.fst.fst.snd.fst, (), ()) (v2.fst, ()) ((), ()) (b0.fst, ()) v4).bind fun v6 => Sum.elim (fun v8 => Option.some (((v8.snd.fst.fst, v8.snd.fst.snd.fst, v8.snd.snd.snd.snd.snd.fst), (0 : Int), v8.fst.fst, ()), (v8.snd.snd.snd.snd.fst.fst, ()), ())) (fun v19 => Option.none) v6
theorem f_eacht (x : IN_eacht.El) : funcX (CTp 1) T_eacht IN_eacht OUT_eacht [.frzReg 0 tScene] (drT (CTp 1) T_eacht) lp_eacht Tryz.f134 c_eacht x = F_eacht x.2.1 := by kernel_rfl
noncomputable def E_eacht : Ent := .mkGen 134 [141] ⟨1, [], IN_eacht, OUT_eacht, fun x => F_eacht x.2.1⟩
theorem e_eacht : E_eacht.Ok CT.P := Ent.ofGen (C := (CTp 1)) (steps := []) (osteps := [.frzReg 0 tScene]) (CTp_ok 1) T_eacht_ok hf_eacht hb_eacht lp_eacht_ok f_eacht
/-! ### 90: (*maquette/order.worker).do -/
noncomputable def c_do2 : Code := Tryz.f90.body.getD .skip
theorem hb_do2 : Tryz.f90.body = some c_do2 := by kernel_rfl
theorem hf_do2 : CT.P.funcs[90]? = some Tryz.f90 := by kernel_rfl
noncomputable abbrev IN_do2 : LayD := ⟨1, [(0, .ptr 0)], [.var 140 [.data tWorker]], fun s => [slotR s 0]⟩
noncomputable abbrev OUT_do2 : LayD := ⟨3, [(0, .data tScene), (1, .data I), (2, .data I)], [.var 140 [.data tWorker]], fun _ => [0]⟩
noncomputable def T_do2 : Tb := mkTb tyT mpT [E_body, E_make, E_41w, E_free, E_eachm, E_eacht]
theorem T_do2_ok : T_do2.Ok CT.P := mkTb_ok (⟨e_body, e_make, e_41w, e_free, e_eachm, e_eacht, trivial⟩)
noncomputable def lp_do2 {β : Type} : LpT β := fun _ _ _ => none
theorem lp_do2_ok {β : Type} : LpTOk (CTp 1) (lp_do2 (β := β)) (loopsOf c_do2) := by
  have h : loopsOf c_do2 = [] := by kernel_rfl
  rw [h]
  exact LpTOk.nil
noncomputable def F_do2 (b0 : Ty.El tWorker × Unit) : Option OUT_do2.El := bif b0.fst.snd.fst.fst == (1 : Int) then (F_body (b0.fst, ())).bind fun v2 => (F_make v2.fst.fst (v2.snd.fst.fst, ())).bind fun v8 => Option.some ((v8.fst.fst, v8.fst.snd.fst, v8.fst.snd.snd.fst, ()), (v8.snd.fst.fst, ()), ()) else bif b0.fst.snd.fst.fst == (2 : Int) then Option.none else bif b0.fst.snd.fst.fst == (3 : Int) then (F_eachm (b0.fst, ())).bind fun v18 => Option.some ((v18.fst.fst, v18.fst.snd.fst, v18.fst.snd.snd.fst, ()), (v18.snd.fst.fst, ()), ()) else bif b0.fst.snd.fst.fst == (4 : Int) then (F_make ((0 : Int), (2 : Int), ((0 : Int), ((0 : Int), (0 : Int)), (0 : Int), ((0 : Int), (0 : Int)), (0 : Int), (0 : Int)), (b0.fst.snd.fst.snd.fst, b0.fst.snd.fst.snd.snd.fst, b0.fst.snd.snd.snd.snd.fst), []) (b0.fst, ())).bind fun v28 => Option.some ((v28.fst.fst, v28.fst.snd.fst, v28.fst.snd.snd.fst, ()), (v28.snd.fst.fst, ()), ()) else bif b0.fst.snd.fst.fst == (5 : Int) then (F_41w b0.fst.fst b0.fst.snd.fst.snd.snd.snd.snd.snd.snd.snd.snd.snd.snd.snd).bind fun v38 => Option.some ((v38.fst, v38.snd.fst, v38.snd.snd.fst, ()), (b0.fst, ()), ()) else bif b0.fst.snd.fst.fst == (6 : Int) then (F_free (b0.fst, ())).bind fun v40 => Option.some ((v40.fst.fst, v40.fst.snd.fst, v40.fst.snd.snd.fst, ()), (v40.snd.fst.fst, ()), ()) else bif b0.fst.snd.fst.fst == (7 : Int) then Option.none else bif b0.fst.snd.fst.fst == (8 : Int) then Option.none else bif b0.fst.snd.fst.fst == (9 : Int) then (F_eacht (b0.fst, ())).bind fun v50 => Option.some ((v50.fst.fst, v50.fst.snd.fst, v50.fst.snd.snd.fst, ()), (v50.snd.fst.fst, ()), ()) else Option.none
theorem f_do2 (x : IN_do2.El) : funcX (CTp 1) T_do2 IN_do2 OUT_do2 [.frzReg 0 tScene] (drT (CTp 1) T_do2) lp_do2 Tryz.f90 c_do2 x = F_do2 x.2.1 := by kernel_rfl
noncomputable def E_do2 : Ent := .mkGen 90 [] ⟨1, [], IN_do2, OUT_do2, fun x => F_do2 x.2.1⟩
theorem e_do2 : E_do2.Ok CT.P := Ent.ofGen (C := (CTp 1)) (steps := []) (osteps := [.frzReg 0 tScene]) (CTp_ok 1) T_do2_ok hf_do2 hb_do2 lp_do2_ok f_do2
/-! ### 25: maquette/order.Do -/
noncomputable def c_Do2 : Code := Tryz.f25.body.getD .skip
theorem hb_Do2 : Tryz.f25.body = some c_Do2 := by kernel_rfl
theorem hf_Do2 : CT.P.funcs[25]? = some Tryz.f25 := by kernel_rfl
noncomputable def T_Do2 : Tb := mkTb tyT mpT [E_20, E_readw, E_do2]
theorem T_Do2_ok : T_Do2.Ok CT.P := mkTb_ok (⟨e_20, e_readw, e_do2, trivial⟩)
noncomputable def lp_Do2 {β : Type} : LpT β := fun _ _ _ => none
theorem lp_Do2_ok {β : Type} : LpTOk CT (lp_Do2 (β := β)) (loopsOf c_Do2) := by
  have h : loopsOf c_Do2 = [] := by kernel_rfl
  rw [h]
  exact LpTOk.nil
noncomputable def F_Do2 (a1 : Ty.El tScene) (a2 : Ty.El tOrder) : Option (Els [tScene, I, I]) := bif Decidable.decide (a2.fst < (1 : Int)) then Option.some (a1, (0 : Int), (9 : Int), ()) else bif Decidable.decide (a2.fst > (10 : Int)) then Option.some (a1, (0 : Int), (9 : Int), ()) else (F_20 a1).bind fun v2 => bif !v2.fst then Option.some (a1, (0 : Int), (9 : Int), ()) else (F_readw ((a1, a2, (0 : Int), (0 : Int), (0 : Int), (0 : Int), (0 : Int)), ())).bind fun v4 => bif v4.fst.fst != (0 : Int) then Option.some (a1, (0 : Int), v4.fst.fst, ()) else (F_do2 (v4.snd.fst.fst, ())).bind fun v12 => bif v12.fst.snd.snd.fst != (0 : Int) then Option.some (a1, (0 : Int), v12.fst.snd.snd.fst, ()) else Option.some (v12.fst.fst, v12.fst.snd.fst, (0 : Int), ())
theorem f_Do2 (x : Ps [.ty tScene, .ty tOrder]) : funcT CT T_Do2 [tScene, I, I] (drT CT T_Do2) lp_Do2 Tryz.f25 c_Do2 (encPs [.ty tScene, .ty tOrder] x) = F_Do2 x.1 x.2.1 := by kernel_rfl
noncomputable def E_Do2 : Ent := .fn 25 [] ⟨[.ty tScene, .ty tOrder], [tScene, I, I], fun x => F_Do2 x.1 x.2.1, false⟩
theorem e_Do2 : E_Do2.Ok CT.P := Ent.ofFn CT_ok T_Do2_ok hf_Do2 hb_Do2 lp_Do2_ok f_Do2
noncomputable def E_Do2h : Ent := .fn 25 [] ⟨[.ty tScene, .ty tOrder], [tScene, I, I], fun x => F_Do2 x.1 x.2.1, true⟩
end Go.DI.S

/-! The program's functions, told by functions on data. -/
set_option linter.unusedVariables false
set_option maxRecDepth 100000
set_option maxHeartbeats 0
namespace Go.DI.S
open Go.Proofs
/-! ### 9: maquette/maquettelaw21.OrderTurns -/
noncomputable def c_turns : Code := Tryz.f9.body.getD .skip
theorem hb_turns : Tryz.f9.body = some c_turns := by kernel_rfl
theorem hf_turns : CT.P.funcs[9]? = some Tryz.f9 := by kernel_rfl
noncomputable def T_turns : Tb := mkTb tyT mpT [E_alive, E_17, E_Do2]
theorem T_turns_ok : T_turns.Ok CT.P := mkTb_ok (⟨e_alive, e_17, e_Do2, trivial⟩)
noncomputable def l_turns_5 : Code := atLoop c_turns 5
noncomputable abbrev LD_turns_5 : LayD := ⟨86, [(0, .data I), (1, .data I), (2, .data I), (7, .ptr 0), (8, .data I)], [.var 51 [.data tScene]], fun s => [slotR s 7]⟩
noncomputable abbrev LA_turns_5 : LayD := ⟨86, [], [], fun _ => []⟩
noncomputable abbrev LB_turns_5 : LayD := ⟨86, [(6, .data .bool)], [], fun _ => []⟩
noncomputable def EX_turns_5 : Exits 0 LA_turns_5.El LB_turns_5.El := ⟨.exit 0, LA_turns_5.lay [.frzCell 7 3 (.list tThing)], .ret, LB_turns_5.lay []⟩

noncomputable def lpi_turns_5 {β : Type} : LpT β := fun _ _ _ => none
theorem lpi_turns_5_ok {β : Type} : LpTOk CT (lpi_turns_5 (β := β)) (loopsOf l_turns_5) := by
  have h : loopsOf l_turns_5 = [] := by kernel_rfl
  rw [h]
  exact LpTOk.nil
noncomputable def G_turns_5 (r0 : Ty.El I) (r1 : Ty.El I) (r2 : Ty.El I) (r8 : Ty.El I) (b0 : Ty.El tScene × Unit) : Option (LD_turns_5.El ⊕ (LA_turns_5.El ⊕ LB_turns_5.El)) := bif Decidable.decide (r8 ≤ r2) then (F_Do2 b0.fst ((9 : Int), (1 : Int), (0 : Int), (0 : Int), (0 : Nat), (0 : Nat), (0 : Nat), (0 : Nat), (0 : Nat), (16384 : Int), (0 : Int), [])).bind fun v2 => bif v2.snd.snd.fst != (0 : Int) then Option.some (Sum.inr (Sum.inr ((Bool.false, ()), ()))) else bif v2.snd.fst != (0 : Int) then Option.some (Sum.inr (Sum.inr ((Bool.false, ()), ()))) else bif (↑(List.length v2.fst.snd.snd) : Int) != (1 : Int) then Option.some (Sum.inr (Sum.inr ((Bool.false, ()), ()))) else bif Decidable.decide ((0 : Int) ≤ (0 : Int) ∧ (0 : Int) < (↑(List.length v2.fst.snd.snd) : Int)) then bif !((List.getD v2.fst.snd.snd (0 : Nat) Go.DI.S.tThing.dflt).snd.snd.fst.snd.snd.snd.fst.fst == Go.IntKind.i64.wrap (Go.IntKind.i64.wrap ((0 : Int) - r1) * (4294967296 : Int)) && ((List.getD v2.fst.snd.snd (0 : Nat) Go.DI.S.tThing.dflt).snd.snd.fst.snd.snd.snd.fst.snd == Go.IntKind.i64.wrap (r0 * (4294967296 : Int)) && Bool.true)) then Option.some (Sum.inr (Sum.inr ((Bool.false, ()), ()))) else Option.some (Sum.inl ((Go.IntKind.i64.wrap ((0 : Int) - r1), r0, r2, (), Go.IntKind.i64.wrap (r8 + (1 : Int)), ()), (v2.fst, ()), ())) else Option.none else Option.some (Sum.inr (Sum.inl ((), ())))
theorem g_turns_5 (x : LD_turns_5.El) : codeT CT T_turns (drT CT T_turns) lpi_turns_5 l_turns_5 (LD_turns_5.enc x) (bodyK (LD_turns_5.lay [.frzCell 7 3 (.list tThing)]) EX_turns_5) = G_turns_5 x.1.1 x.1.2.1 x.1.2.2.1 x.1.2.2.2.2.1 x.2.1 := by kernel_rfl
noncomputable def R_turns_5 : LD_turns_5.El → Option (LA_turns_5.El ⊕ LB_turns_5.El) := roundsT (fun x => G_turns_5 x.1.1 x.1.2.1 x.1.2.2.1 x.1.2.2.2.2.1 x.2.1) fuel
theorem r_turns_5 : ∀ x y, R_turns_5 x = some y → CL CT l_turns_5 (LD_turns_5.enc x) (Sum.elim (fun _ => EX_turns_5.xa) (fun _ => EX_turns_5.xb) y) (Sum.elim EX_turns_5.la.enc EX_turns_5.lb.enc y) :=
  rounds_ok (L := LD_turns_5.lay [.frzCell 7 3 (.list tThing)]) (E := EX_turns_5) CT_ok T_turns_ok (drT_ok CT_ok T_turns_ok) lpi_turns_5_ok g_turns_5 rfl rfl (fun v h => by have hh : (.exit 0 : AX) = .pan v := h; cases hh) (fun v h => by have hh : (.ret : AX) = .pan v := h; cases hh) fuel
noncomputable def lp_turns {β : Type} : LpT β := fun k s K => if Nat.beq k 5 then lpOne (LD_turns_5.lay [.frzCell 7 3 (.list tThing)]) EX_turns_5 R_turns_5 s K else none
theorem lp_turns_ok {β : Type} : LpTOk CT (lp_turns (β := β)) (loopsOf c_turns) := by
  have h : loopsOf c_turns = [(5, l_turns_5)] := by kernel_rfl
  rw [h]
  exact LpTOk.cons (fun s K z h => lpOne_ok r_turns_5 h) (LpTOk.nil)
noncomputable def F_turns (a1 : Ty.El I) (a2 : Ty.El I) (a3 : Ty.El I) : Option (Els [.bool]) := bif Decidable.decide (a1 < (-9000 : Int)) then F_alive.bind fun v2 => Option.some (v2.fst, ()) else bif Decidable.decide (a2 < (-9000 : Int)) then F_alive.bind fun v4 => Option.some (v4.fst, ()) else bif Decidable.decide (a1 > (9000 : Int)) then F_alive.bind fun v6 => Option.some (v6.fst, ()) else bif Decidable.decide (a2 > (9000 : Int)) then F_alive.bind fun v8 => Option.some (v8.fst, ()) else bif Decidable.decide (a3 < (0 : Int)) then F_alive.bind fun v10 => Option.some (v10.fst, ()) else bif Decidable.decide (a3 > (15 : Int)) then F_alive.bind fun v12 => Option.some (v12.fst, ()) else F_alive.bind fun v14 => bif !v14.fst then F_alive.bind fun v16 => Option.some (v16.fst, ()) else (F_17 (1 : Int) (Go.IntKind.i64.wrap (a1 * (4294967296 : Int))) (Go.IntKind.i64.wrap (a2 * (4294967296 : Int))) (4294967296 : Int)).bind fun v18 => (R_turns_5 ((a1, a2, a3, (), (1 : Int), ()), ((((0 : Int), (0 : Int)), (2 : Int), [v18.fst]), ()), ())).bind fun v19 => Sum.elim (fun v20 => Option.some (Bool.true, ())) (fun v21 => Option.some (v21.fst.fst, ())) v19
theorem f_turns (x : Ps [.ty I, .ty I, .ty I]) : funcT CT T_turns [.bool] (drT CT T_turns) lp_turns Tryz.f9 c_turns (encPs [.ty I, .ty I, .ty I] x) = F_turns x.1 x.2.1 x.2.2.1 := by kernel_rfl
noncomputable def E_turns : Ent := .fn 9 [] ⟨[.ty I, .ty I, .ty I], [.bool], fun x => F_turns x.1 x.2.1 x.2.2.1, false⟩
theorem e_turns : E_turns.Ok CT.P := Ent.ofFn CT_ok T_turns_ok hf_turns hb_turns lp_turns_ok f_turns
noncomputable def E_turnsh : Ent := .fn 9 [] ⟨[.ty I, .ty I, .ty I], [.bool], fun x => F_turns x.1 x.2.1 x.2.2.1, true⟩
end Go.DI.S

