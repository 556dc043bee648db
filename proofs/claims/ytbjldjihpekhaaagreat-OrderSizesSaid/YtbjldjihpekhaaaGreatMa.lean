import Derived.Test.YtbjldjihpekhaaaGreatIa
import Derived.Test.YtbjldjihpekhaaaGreatSa
import Derived.Test.YtbjldjihpekhaaaGreatKa
import Derived.Shelf.Spec.SlicesGrow
import Derived.Laws.AppendOwn
/- Floats; slices.Grow at whole numbers. No conditions. -/
set_option linter.unusedVariables false
set_option maxRecDepth 100000
set_option maxHeartbeats 0
namespace Go.DI.S
open Go.Proofs
noncomputable def c_abs : Code := Tryz.f97.body.getD .skip
theorem hb_abs : Tryz.f97.body = some c_abs := by kernel_rfl
theorem hf_abs : CT.P.funcs[97]? = some Tryz.f97 := by kernel_rfl
noncomputable def T_abs : Tb := mkTb tyT mpT [E_fb, E_bf]
theorem T_abs_ok : T_abs.Ok CT.P := mkTb_ok (⟨e_fb, e_bf, trivial⟩)
noncomputable def lp_abs {β : Type} : LpT β := fun _ _ _ => none
theorem lp_abs_ok {β : Type} : LpTOk CT (lp_abs (β := β)) (loopsOf c_abs) := by
  have h : loopsOf c_abs = [] := by kernel_rfl
  rw [h]
  exact LpTOk.nil
noncomputable def F_abs (a1 : Ty.El tF) : Option (Els [tF]) := Option.some ((Go.DI.bAndNot Go.IntKind.u64 (↑a1 : Int) (9223372036854775808 : Int)).toNat, ())
theorem f_abs (x : Ps [.ty tF]) : funcT CT T_abs [tF] (drT CT T_abs) lp_abs Tryz.f97 c_abs (encPs [.ty tF] x) = F_abs x.1 := by kernel_rfl
noncomputable def E_abs : Ent := .fn 97 [] ⟨[.ty tF], [tF], fun x => F_abs x.1, false⟩
theorem e_abs : E_abs.Ok CT.P := Ent.ofFn CT_ok T_abs_ok hf_abs hb_abs lp_abs_ok f_abs
noncomputable def c_isnan : Code := Tryz.f33.body.getD .skip
theorem hb_isnan : Tryz.f33.body = some c_isnan := by kernel_rfl
theorem hf_isnan : CT.P.funcs[33]? = some Tryz.f33 := by kernel_rfl
noncomputable def T_isnan : Tb := mkTb tyT mpT []
theorem T_isnan_ok : T_isnan.Ok CT.P := mkTb_ok (trivial)
noncomputable def lp_isnan {β : Type} : LpT β := fun _ _ _ => none
theorem lp_isnan_ok {β : Type} : LpTOk CT (lp_isnan (β := β)) (loopsOf c_isnan) := by
  have h : loopsOf c_isnan = [] := by kernel_rfl
  rw [h]
  exact LpTOk.nil
noncomputable def F_isnan (a1 : Ty.El tF) : Option (Els [.bool]) := Option.some (Go.DI.fNe Go.FloatKind.f64 a1 a1, ())
theorem f_isnan (x : Ps [.ty tF]) : funcT CT T_isnan [.bool] (drT CT T_isnan) lp_isnan Tryz.f33 c_isnan (encPs [.ty tF] x) = F_isnan x.1 := by kernel_rfl
noncomputable def E_isnan : Ent := .fn 33 [] ⟨[.ty tF], [.bool], fun x => F_isnan x.1, false⟩
theorem e_isnan : E_isnan.Ok CT.P := Ent.ofFn CT_ok T_isnan_ok hf_isnan hb_isnan lp_isnan_ok f_isnan
noncomputable def c_isinf : Code := Tryz.f34.body.getD .skip
theorem hb_isinf : Tryz.f34.body = some c_isinf := by kernel_rfl
theorem hf_isinf : CT.P.funcs[34]? = some Tryz.f34 := by kernel_rfl
noncomputable def T_isinf : Tb := mkTb tyT mpT [E_abs]
theorem T_isinf_ok : T_isinf.Ok CT.P := mkTb_ok (⟨e_abs, trivial⟩)
noncomputable def lp_isinf {β : Type} : LpT β := fun _ _ _ => none
theorem lp_isinf_ok {β : Type} : LpTOk CT (lp_isinf (β := β)) (loopsOf c_isinf) := by
  have h : loopsOf c_isinf = [] := by kernel_rfl
  rw [h]
  exact LpTOk.nil
noncomputable def F_isinf (a1 : Ty.El tF) (a2 : Ty.El I) : Option (Els [.bool]) := bif a2 == (0 : Int) then (F_abs a1).bind fun v2 => Option.some (Go.DI.fGt Go.FloatKind.f64 v2.fst (9218868437227405311 : Nat), ()) else bif Decidable.decide (a2 < (0 : Int)) then Option.some (Go.DI.fGt Go.FloatKind.f64 (Go.DI.fNeg Go.FloatKind.f64 a1) (9218868437227405311 : Nat), ()) else Option.some (Go.DI.fGt Go.FloatKind.f64 a1 (9218868437227405311 : Nat), ())
theorem f_isinf (x : Ps [.ty tF, .ty I]) : funcT CT T_isinf [.bool] (drT CT T_isinf) lp_isinf Tryz.f34 c_isinf (encPs [.ty tF, .ty I] x) = F_isinf x.1 x.2.1 := by kernel_rfl
noncomputable def E_isinf : Ent := .fn 34 [] ⟨[.ty tF, .ty I], [.bool], fun x => F_isinf x.1 x.2.1, false⟩
theorem e_isinf : E_isinf.Ok CT.P := Ent.ofFn CT_ok T_isinf_ok hf_isinf hb_isinf lp_isinf_ok f_isinf
noncomputable def c_signbit : Code := Tryz.f218.body.getD .skip
theorem hb_signbit : Tryz.f218.body = some c_signbit := by kernel_rfl
theorem hf_signbit : CT.P.funcs[218]? = some Tryz.f218 := by kernel_rfl
noncomputable def T_signbit : Tb := mkTb tyT mpT [E_bf]
theorem T_signbit_ok : T_signbit.Ok CT.P := mkTb_ok (⟨e_bf, trivial⟩)
noncomputable def lp_signbit {β : Type} : LpT β := fun _ _ _ => none
theorem lp_signbit_ok {β : Type} : LpTOk CT (lp_signbit (β := β)) (loopsOf c_signbit) := by
  have h : loopsOf c_signbit = [] := by kernel_rfl
  rw [h]
  exact LpTOk.nil
noncomputable def F_signbit (a1 : Ty.El tF) : Option (Els [.bool]) := Option.some (Decidable.decide (Go.IntKind.i64.wrap (↑a1 : Int) < (0 : Int)), ())
theorem f_signbit (x : Ps [.ty tF]) : funcT CT T_signbit [.bool] (drT CT T_signbit) lp_signbit Tryz.f218 c_signbit (encPs [.ty tF] x) = F_signbit x.1 := by kernel_rfl
noncomputable def E_signbit : Ent := .fn 218 [] ⟨[.ty tF], [.bool], fun x => F_signbit x.1, false⟩
theorem e_signbit : E_signbit.Ok CT.P := Ent.ofFn CT_ok T_signbit_ok hf_signbit hb_signbit lp_signbit_ok f_signbit
noncomputable def c_copysign : Code := Tryz.f32.body.getD .skip
theorem hb_copysign : Tryz.f32.body = some c_copysign := by kernel_rfl
theorem hf_copysign : CT.P.funcs[32]? = some Tryz.f32 := by kernel_rfl
noncomputable def T_copysign : Tb := mkTb tyT mpT [E_fb, E_bf]
theorem T_copysign_ok : T_copysign.Ok CT.P := mkTb_ok (⟨e_fb, e_bf, trivial⟩)
noncomputable def lp_copysign {β : Type} : LpT β := fun _ _ _ => none
theorem lp_copysign_ok {β : Type} : LpTOk CT (lp_copysign (β := β)) (loopsOf c_copysign) := by
  have h : loopsOf c_copysign = [] := by kernel_rfl
  rw [h]
  exact LpTOk.nil
noncomputable def F_copysign (a1 : Ty.El tF) (a2 : Ty.El tF) : Option (Els [tF]) := Option.some ((Go.DI.bOr Go.IntKind.u64 (Go.DI.bAndNot Go.IntKind.u64 (↑a1 : Int) (9223372036854775808 : Int)) (Go.DI.bAnd Go.IntKind.u64 (↑a2 : Int) (9223372036854775808 : Int))).toNat, ())
theorem f_copysign (x : Ps [.ty tF, .ty tF]) : funcT CT T_copysign [tF] (drT CT T_copysign) lp_copysign Tryz.f32 c_copysign (encPs [.ty tF, .ty tF] x) = F_copysign x.1 x.2.1 := by kernel_rfl
noncomputable def E_copysign : Ent := .fn 32 [] ⟨[.ty tF, .ty tF], [tF], fun x => F_copysign x.1 x.2.1, false⟩
theorem e_copysign : E_copysign.Ok CT.P := Ent.ofFn CT_ok T_copysign_ok hf_copysign hb_copysign lp_copysign_ok f_copysign
noncomputable def c_nan : Code := Tryz.f29.body.getD .skip
theorem hb_nan : Tryz.f29.body = some c_nan := by kernel_rfl
theorem hf_nan : CT.P.funcs[29]? = some Tryz.f29 := by kernel_rfl
noncomputable def T_nan : Tb := mkTb tyT mpT [E_fb]
theorem T_nan_ok : T_nan.Ok CT.P := mkTb_ok (⟨e_fb, trivial⟩)
noncomputable def lp_nan {β : Type} : LpT β := fun _ _ _ => none
theorem lp_nan_ok {β : Type} : LpTOk CT (lp_nan (β := β)) (loopsOf c_nan) := by
  have h : loopsOf c_nan = [] := by kernel_rfl
  rw [h]
  exact LpTOk.nil
noncomputable def F_nan  : Option (Els [tF]) := Option.some ((9221120237041090561 : Nat), ())
theorem f_nan (x : Ps []) : funcT CT T_nan [tF] (drT CT T_nan) lp_nan Tryz.f29 c_nan (encPs [] x) = F_nan := by kernel_rfl
noncomputable def E_nan : Ent := .fn 29 [] ⟨[], [tF], fun x => F_nan, false⟩
theorem e_nan : E_nan.Ok CT.P := Ent.ofFn CT_ok T_nan_ok hf_nan hb_nan lp_nan_ok f_nan
noncomputable def c_class : Code := Tryz.f170.body.getD .skip
theorem hb_class : Tryz.f170.body = some c_class := by kernel_rfl
theorem hf_class : CT.P.funcs[170]? = some Tryz.f170 := by kernel_rfl
noncomputable def T_class : Tb := mkTb tyT mpT [E_isnan, E_isinf, E_signbit, E_abs]
theorem T_class_ok : T_class.Ok CT.P := mkTb_ok (⟨e_isnan, e_isinf, e_signbit, e_abs, trivial⟩)
noncomputable def lp_class {β : Type} : LpT β := fun _ _ _ => none
theorem lp_class_ok {β : Type} : LpTOk CT (lp_class (β := β)) (loopsOf c_class) := by
  have h : loopsOf c_class = [] := by kernel_rfl
  rw [h]
  exact LpTOk.nil
noncomputable def F_class (a1 : Ty.El tF) : Option (Els [I]) := (F_isnan a1).bind fun v2 => bif v2.fst then Option.some ((1 : Int), ()) else (F_isinf a1 (1 : Int)).bind fun v4 => bif v4.fst then Option.some ((2 : Int), ()) else (F_isinf a1 (-1 : Int)).bind fun v6 => bif v6.fst then Option.some ((3 : Int), ()) else bif Go.DI.fEq Go.FloatKind.f64 a1 (0 : Nat) then (F_signbit a1).bind fun v8 => bif v8.fst then Option.some ((5 : Int), ()) else bif Go.DI.fEq Go.FloatKind.f64 a1 (0 : Nat) then Option.some ((4 : Int), ()) else (F_abs a1).bind fun v10 => bif Go.DI.fLt Go.FloatKind.f64 v10.fst (4503599627370496 : Nat) then Option.some ((6 : Int), ()) else Option.some ((7 : Int), ()) else bif Go.DI.fEq Go.FloatKind.f64 a1 (0 : Nat) then Option.some ((4 : Int), ()) else (F_abs a1).bind fun v12 => bif Go.DI.fLt Go.FloatKind.f64 v12.fst (4503599627370496 : Nat) then Option.some ((6 : Int), ()) else Option.some ((7 : Int), ())
theorem f_class (x : Ps [.ty tF]) : funcT CT T_class [I] (drT CT T_class) lp_class Tryz.f170 c_class (encPs [.ty tF] x) = F_class x.1 := by kernel_rfl
noncomputable def E_class : Ent := .fn 170 [] ⟨[.ty tF], [I], fun x => F_class x.1, false⟩
theorem e_class : E_class.Ok CT.P := Ent.ofFn CT_ok T_class_ok hf_class hb_class lp_class_ok f_class
noncomputable def c_get : Code := Tryz.f130.body.getD .skip
theorem hb_get : Tryz.f130.body = some c_get := by kernel_rfl
theorem hf_get : CT.P.funcs[130]? = some Tryz.f130 := by kernel_rfl
noncomputable def T_get : Tb := mkTb tyT mpT [E_class, E_rd]
theorem T_get_ok : T_get.Ok CT.P := mkTb_ok (⟨e_class, e_rd, trivial⟩)
noncomputable def lp_get {β : Type} : LpT β := fun _ _ _ => none
theorem lp_get_ok {β : Type} : LpTOk CT (lp_get (β := β)) (loopsOf c_get) := by
  have h : loopsOf c_get = [] := by kernel_rfl
  rw [h]
  exact LpTOk.nil
noncomputable def F_get (a1 : Ty.El tF) : Option (Els [I, I]) := (F_class a1).bind fun v2 => bif v2.fst == (1 : Int) then Option.some ((0 : Int), (1 : Int), ()) else bif v2.fst == (2 : Int) then Option.some ((0 : Int), (2 : Int), ()) else bif v2.fst == (3 : Int) then Option.some ((0 : Int), (2 : Int), ()) else bif Go.DI.fOk Go.BinOp.mul Go.FloatKind.f64 a1 (4751297606875873280 : Nat) then bif Go.DI.S.fNum (Go.DI.fVal Go.BinOp.mul Go.FloatKind.f64 a1 (4751297606875873280 : Nat)) then bif Go.DI.fGe Go.FloatKind.f64 (Go.DI.S.fRnd (Go.DI.fVal Go.BinOp.mul Go.FloatKind.f64 a1 (4751297606875873280 : Nat))) (4890909195324358656 : Nat) then Option.some ((0 : Int), (3 : Int), ()) else bif Go.DI.fLt Go.FloatKind.f64 (Go.DI.S.fRnd (Go.DI.fVal Go.BinOp.mul Go.FloatKind.f64 a1 (4751297606875873280 : Nat))) (14114281232179134464 : Nat) then Option.some ((0 : Int), (3 : Int), ()) else bif Go.DI.fIntOk Go.FloatKind.f64 (Go.DI.S.fRnd (Go.DI.fVal Go.BinOp.mul Go.FloatKind.f64 a1 (4751297606875873280 : Nat))) Go.IntKind.i64 then Option.some (Go.DI.fInt Go.FloatKind.f64 (Go.DI.S.fRnd (Go.DI.fVal Go.BinOp.mul Go.FloatKind.f64 a1 (4751297606875873280 : Nat))), (0 : Int), ()) else Option.none else Option.none else Option.none
theorem f_get (x : Ps [.ty tF]) : funcT CT T_get [I, I] (drT CT T_get) lp_get Tryz.f130 c_get (encPs [.ty tF] x) = F_get x.1 := by kernel_rfl
noncomputable def E_get : Ent := .fn 130 [] ⟨[.ty tF], [I, I], fun x => F_get x.1, false⟩
theorem e_get : E_get.Ok CT.P := Ent.ofFn CT_ok T_get_ok hf_get hb_get lp_get_ok f_get
noncomputable def c_bytes : Code := Tryz.f48.body.getD .skip
theorem hb_bytes : Tryz.f48.body = some c_bytes := by kernel_rfl
theorem hf_bytes : CT.P.funcs[48]? = some Tryz.f48 := by kernel_rfl
noncomputable def T_bytes : Tb := mkTb tyT mpT [E_bf]
theorem T_bytes_ok : T_bytes.Ok CT.P := mkTb_ok (⟨e_bf, trivial⟩)
noncomputable def l_bytes_4 : Code := atLoop c_bytes 4
noncomputable abbrev LD_bytes_4 : LayD := ⟨22, [(3, .data (.int .u64)), (4, .own (.int .u8) 0), (5, .data I)], [.row 5 (.int .u8)], fun s => [slotR s 4]⟩
noncomputable abbrev LA_bytes_4 : LayD := ⟨22, [(4, .own (.int .u8) 0)], [.row 5 (.int .u8)], fun s => [slotR s 4]⟩
noncomputable abbrev LB_bytes_4 : LayD := ⟨22, [], [], fun _ => []⟩
noncomputable def EX_bytes_4 : Exits 0 LA_bytes_4.El LB_bytes_4.El := ⟨.exit 0, LA_bytes_4.lay [.nilReg 4 5 (.int .u8)], .ret, LB_bytes_4.lay []⟩
noncomputable def lpi_bytes_4 {β : Type} : LpT β := fun _ _ _ => none
theorem lpi_bytes_4_ok {β : Type} : LpTOk CT (lpi_bytes_4 (β := β)) (loopsOf l_bytes_4) := by
  have h : loopsOf l_bytes_4 = [] := by kernel_rfl
  rw [h]
  exact LpTOk.nil
noncomputable def G_bytes_4 (r3 : Ty.El (.int .u64)) (r5 : Ty.El I) (b0 : List (Ty.El (.int .u8))) : Option (LD_bytes_4.El ⊕ (LA_bytes_4.El ⊕ LB_bytes_4.El)) := bif Decidable.decide (r5 ≥ (0 : Int)) then bif Decidable.decide (Go.IntKind.i64.wrap ((8 : Int) * r5) < (0 : Int)) then Option.none else bif ((b0.length + [Go.IntKind.u8.wrap (Int.fdiv r3 ((2 : Int) ^ Min.min (Go.IntKind.i64.wrap ((8 : Int) * r5)).toNat (64 : Nat)))].length) * (1 : Nat)).ble (70368744177664 : Nat) then Option.some (Sum.inl ((r3, (), Go.IntKind.i64.wrap (r5 - (1 : Int)), ()), b0 ++ [Go.IntKind.u8.wrap (Int.fdiv r3 ((2 : Int) ^ Min.min (Go.IntKind.i64.wrap ((8 : Int) * r5)).toNat (64 : Nat)))], ())) else Option.none else Option.some (Sum.inr (Sum.inl (((), ()), b0, ())))
theorem g_bytes_4 (x : LD_bytes_4.El) : codeT CT T_bytes (drT CT T_bytes) lpi_bytes_4 l_bytes_4 (LD_bytes_4.enc x) (bodyK (LD_bytes_4.lay [.nilReg 4 5 (.int .u8)]) EX_bytes_4) = G_bytes_4 x.1.1 x.1.2.2.1 x.2.1 := by kernel_rfl
noncomputable def R_bytes_4 : LD_bytes_4.El → Option (LA_bytes_4.El ⊕ LB_bytes_4.El) := roundsT (fun x => G_bytes_4 x.1.1 x.1.2.2.1 x.2.1) fuel
theorem r_bytes_4 : ∀ x y, R_bytes_4 x = some y → CL CT l_bytes_4 (LD_bytes_4.enc x) (Sum.elim (fun _ => EX_bytes_4.xa) (fun _ => EX_bytes_4.xb) y) (Sum.elim EX_bytes_4.la.enc EX_bytes_4.lb.enc y) :=
  rounds_ok (L := LD_bytes_4.lay [.nilReg 4 5 (.int .u8)]) (E := EX_bytes_4) CT_ok T_bytes_ok (drT_ok CT_ok T_bytes_ok) lpi_bytes_4_ok g_bytes_4 rfl rfl (fun v h => by have hh : (.exit 0 : AX) = .pan v := h; cases hh) (fun v h => by have hh : (.ret : AX) = .pan v := h; cases hh) fuel
noncomputable def lp_bytes {β : Type} : LpT β := fun k s K => if Nat.beq k 4 then lpOne (LD_bytes_4.lay [.nilReg 4 5 (.int .u8)]) EX_bytes_4 R_bytes_4 s K else none
theorem lp_bytes_ok {β : Type} : LpTOk CT (lp_bytes (β := β)) (loopsOf c_bytes) := by
  have h : loopsOf c_bytes = [(4, l_bytes_4)] := by kernel_rfl
  rw [h]
  exact LpTOk.cons (fun s K z h => lpOne_ok r_bytes_4 h) (LpTOk.nil)
noncomputable def F_bytes (a1 : Ty.El tF) : Option (Els [.str]) := (R_bytes_4 (((↑a1 : Int), (), (7 : Int), ()), [], ())).bind fun v1 => Sum.elim (fun v2 => Option.some (List.map (fun v3 => UInt8.ofNat (Int.toNat v3)) v2.snd.fst, ())) (fun v4 => Option.none) v1
theorem f_bytes (x : Ps [.ty tF]) : funcT CT T_bytes [.str] (drT CT T_bytes) lp_bytes Tryz.f48 c_bytes (encPs [.ty tF] x) = F_bytes x.1 := by kernel_rfl
noncomputable def E_bytes : Ent := .fn 48 [] ⟨[.ty tF], [.str], fun x => F_bytes x.1, false⟩
theorem e_bytes : E_bytes.Ok CT.P := Ent.ofFn CT_ok T_bytes_ok hf_bytes hb_bytes lp_bytes_ok f_bytes
noncomputable def c_read8 : Code := Tryz.f52.body.getD .skip
theorem hb_read8 : Tryz.f52.body = some c_read8 := by kernel_rfl
theorem hf_read8 : CT.P.funcs[52]? = some Tryz.f52 := by kernel_rfl
noncomputable def T_read8 : Tb := mkTb tyT mpT [E_fb]
theorem T_read8_ok : T_read8.Ok CT.P := mkTb_ok (⟨e_fb, trivial⟩)
noncomputable def l_read8_5 : Code := atLoop c_read8 5
noncomputable abbrev LD_read8_5 : LayD := ⟨24, [(0, .data .str), (4, .data (.int .u64)), (10, .data I), (11, .data I)], [], fun _ => []⟩
noncomputable abbrev LA_read8_5 : LayD := ⟨24, [(4, .data (.int .u64))], [], fun _ => []⟩
noncomputable abbrev LB_read8_5 : LayD := ⟨24, [], [], fun _ => []⟩
noncomputable def EX_read8_5 : Exits 0 LA_read8_5.El LB_read8_5.El := ⟨.exit 0, LA_read8_5.lay [], .ret, LB_read8_5.lay []⟩
noncomputable def lpi_read8_5 {β : Type} : LpT β := fun _ _ _ => none
theorem lpi_read8_5_ok {β : Type} : LpTOk CT (lpi_read8_5 (β := β)) (loopsOf l_read8_5) := by
  have h : loopsOf l_read8_5 = [] := by kernel_rfl
  rw [h]
  exact LpTOk.nil
noncomputable def G_read8_5 (r0 : Ty.El .str) (r4 : Ty.El (.int .u64)) (r10 : Ty.El I) (r11 : Ty.El I) : Option (LD_read8_5.El ⊕ (LA_read8_5.El ⊕ LB_read8_5.El)) := bif Decidable.decide (r11 < r10) then bif Decidable.decide ((0 : Int) ≤ r11 ∧ r11 < (↑(List.length r0) : Int)) then Option.some (Sum.inl ((r0, Go.DI.bOr Go.IntKind.u64 (Go.IntKind.u64.wrap (r4 * (256 : Int))) (Go.IntKind.u64.wrap (↑(List.getD ((r0, r4, r10, r11, ()), ()).fst.fst (Int.toNat ((r0, r4, r10, r11, ()), ()).fst.snd.snd.snd.fst) (0 : UInt8)).toBitVec.toFin.1 : Int)), r10, Go.IntKind.i64.wrap (r11 + (1 : Int)), ()), ())) else Option.none else Option.some (Sum.inr (Sum.inl ((r4, ()), ())))
theorem g_read8_5 (x : LD_read8_5.El) : codeT CT T_read8 (drT CT T_read8) lpi_read8_5 l_read8_5 (LD_read8_5.enc x) (bodyK (LD_read8_5.lay []) EX_read8_5) = G_read8_5 x.1.1 x.1.2.1 x.1.2.2.1 x.1.2.2.2.1 := by kernel_rfl
noncomputable def R_read8_5 : LD_read8_5.El → Option (LA_read8_5.El ⊕ LB_read8_5.El) := roundsT (fun x => G_read8_5 x.1.1 x.1.2.1 x.1.2.2.1 x.1.2.2.2.1) fuel
theorem r_read8_5 : ∀ x y, R_read8_5 x = some y → CL CT l_read8_5 (LD_read8_5.enc x) (Sum.elim (fun _ => EX_read8_5.xa) (fun _ => EX_read8_5.xb) y) (Sum.elim EX_read8_5.la.enc EX_read8_5.lb.enc y) :=
  rounds_ok (L := LD_read8_5.lay []) (E := EX_read8_5) CT_ok T_read8_ok (drT_ok CT_ok T_read8_ok) lpi_read8_5_ok g_read8_5 rfl rfl (fun v h => by have hh : (.exit 0 : AX) = .pan v := h; cases hh) (fun v h => by have hh : (.ret : AX) = .pan v := h; cases hh) fuel
noncomputable def lp_read8 {β : Type} : LpT β := fun k s K => if Nat.beq k 5 then lpOne (LD_read8_5.lay []) EX_read8_5 R_read8_5 s K else none
theorem lp_read8_ok {β : Type} : LpTOk CT (lp_read8 (β := β)) (loopsOf c_read8) := by
  have h : loopsOf c_read8 = [(5, l_read8_5)] := by kernel_rfl
  rw [h]
  exact LpTOk.cons (fun s K z h => lpOne_ok r_read8_5 h) (LpTOk.nil)
noncomputable def F_read8 (a1 : Ty.El .str) : Option (Els [tF, .bool]) := bif (↑(List.length a1) : Int) != (8 : Int) then Option.some ((0 : Nat), Bool.false, ()) else (R_read8_5 ((a1, (0 : Int), (↑(List.length a1) : Int), (0 : Int), ()), ())).bind fun v1 => Sum.elim (fun v2 => Option.some (Int.toNat v2.fst.fst, Bool.true, ())) (fun v3 => Option.none) v1
theorem f_read8 (x : Ps [.ty .str]) : funcT CT T_read8 [tF, .bool] (drT CT T_read8) lp_read8 Tryz.f52 c_read8 (encPs [.ty .str] x) = F_read8 x.1 := by kernel_rfl
noncomputable def E_read8 : Ent := .fn 52 [] ⟨[.ty .str], [tF, .bool], fun x => F_read8 x.1, false⟩
theorem e_read8 : E_read8.Ok CT.P := Ent.ofFn CT_ok T_read8_ok hf_read8 hb_read8 lp_read8_ok f_read8
noncomputable def c_same : Code := Tryz.f55.body.getD .skip
theorem hb_same : Tryz.f55.body = some c_same := by kernel_rfl
theorem hf_same : CT.P.funcs[55]? = some Tryz.f55 := by kernel_rfl
noncomputable def T_same : Tb := mkTb tyT mpT [E_bf]
theorem T_same_ok : T_same.Ok CT.P := mkTb_ok (⟨e_bf, trivial⟩)
noncomputable def lp_same {β : Type} : LpT β := fun _ _ _ => none
theorem lp_same_ok {β : Type} : LpTOk CT (lp_same (β := β)) (loopsOf c_same) := by
  have h : loopsOf c_same = [] := by kernel_rfl
  rw [h]
  exact LpTOk.nil
noncomputable def F_same (a1 : Ty.El tF) (a2 : Ty.El tF) : Option (Els [.bool]) := Option.some ((↑a1 : Int) == (↑a2 : Int), ())
theorem f_same (x : Ps [.ty tF, .ty tF]) : funcT CT T_same [.bool] (drT CT T_same) lp_same Tryz.f55 c_same (encPs [.ty tF, .ty tF] x) = F_same x.1 x.2.1 := by kernel_rfl
noncomputable def E_same : Ent := .fn 55 [] ⟨[.ty tF, .ty tF], [.bool], fun x => F_same x.1 x.2.1, false⟩
theorem e_same : E_same.Ok CT.P := Ent.ofFn CT_ok T_same_ok hf_same hb_same lp_same_ok f_same
noncomputable def c_number : Code := Tryz.f46.body.getD .skip
theorem hb_number : Tryz.f46.body = some c_number := by kernel_rfl
theorem hf_number : CT.P.funcs[46]? = some Tryz.f46 := by kernel_rfl
noncomputable def T_number : Tb := mkTb tyT mpT []
theorem T_number_ok : T_number.Ok CT.P := mkTb_ok (trivial)
noncomputable def lp_number {β : Type} : LpT β := fun _ _ _ => none
theorem lp_number_ok {β : Type} : LpTOk CT (lp_number (β := β)) (loopsOf c_number) := by
  have h : loopsOf c_number = [] := by kernel_rfl
  rw [h]
  exact LpTOk.nil
noncomputable def F_number (a1 : Ty.El I) : Option (Els [.str]) := Option.some (List.map (fun v1 => UInt8.ofNat v1.toNat) [Go.IntKind.u8.wrap (Int.fdiv a1 (16777216 : Int)), Go.IntKind.u8.wrap (Int.fdiv a1 (65536 : Int)), Go.IntKind.u8.wrap (Int.fdiv a1 (256 : Int)), Go.IntKind.u8.wrap a1], ())
theorem f_number (x : Ps [.ty I]) : funcT CT T_number [.str] (drT CT T_number) lp_number Tryz.f46 c_number (encPs [.ty I] x) = F_number x.1 := by kernel_rfl
noncomputable def E_number : Ent := .fn 46 [] ⟨[.ty I], [.str], fun x => F_number x.1, false⟩
theorem e_number : E_number.Ok CT.P := Ent.ofFn CT_ok T_number_ok hf_number hb_number lp_number_ok f_number
noncomputable def c_nums : Code := Tryz.f45.body.getD .skip
theorem hb_nums : Tryz.f45.body = some c_nums := by kernel_rfl
theorem hf_nums : CT.P.funcs[45]? = some Tryz.f45 := by kernel_rfl
noncomputable abbrev IN_nums : LayD := ⟨1, [(0, .ptr 0)], [.var 25 [.data tOrder]], fun s => [slotR s 0]⟩
noncomputable abbrev OUT_nums : LayD := ⟨1, [(0, .ownC 1 1 5)], [.var 25 [.data tOrder], .var 109 [.ptrO 0 1, .ptrO 0 2, .ptrO 0 3, .ptrO 0 9, .ptrO 0 10]], fun s => [0, slotR s 0]⟩
noncomputable def T_nums : Tb := mkTb tyT mpT []
theorem T_nums_ok : T_nums.Ok CT.P := mkTb_ok (trivial)
noncomputable def lp_nums {β : Type} : LpT β := fun _ _ _ => none
theorem lp_nums_ok {β : Type} : LpTOk (CTp 1) (lp_nums (β := β)) (loopsOf c_nums) := by
  have h : loopsOf c_nums = [] := by kernel_rfl
  rw [h]
  exact LpTOk.nil
noncomputable def F_nums (b0 : Ty.El tOrder × Unit) : Option OUT_nums.El := Option.some (((), ()), (b0.fst, ()), ((), (), (), (), (), ()), ())
theorem f_nums (x : IN_nums.El) : funcX (CTp 1) T_nums IN_nums OUT_nums [] (drT (CTp 1) T_nums) lp_nums Tryz.f45 c_nums x = F_nums x.2.1 := by kernel_rfl
noncomputable def E_nums : Ent := .mkGen 45 [] ⟨1, [], IN_nums, OUT_nums, fun x => F_nums x.2.1⟩
theorem e_nums : E_nums.Ok CT.P := Ent.ofGen (C := (CTp 1)) (steps := []) (osteps := []) (CTp_ok 1) T_nums_ok hf_nums hb_nums lp_nums_ok f_nums
noncomputable def c_reals : Code := Tryz.f47.body.getD .skip
theorem hb_reals : Tryz.f47.body = some c_reals := by kernel_rfl
theorem hf_reals : CT.P.funcs[47]? = some Tryz.f47 := by kernel_rfl
noncomputable abbrev IN_reals : LayD := ⟨1, [(0, .ptr 0)], [.var 25 [.data tOrder]], fun s => [slotR s 0]⟩
noncomputable abbrev OUT_reals : LayD := ⟨1, [(0, .ownC 1 1 5)], [.var 25 [.data tOrder], .var 113 [.ptrO 0 4, .ptrO 0 5, .ptrO 0 6, .ptrO 0 7, .ptrO 0 8]], fun s => [0, slotR s 0]⟩
noncomputable def T_reals : Tb := mkTb tyT mpT []
theorem T_reals_ok : T_reals.Ok CT.P := mkTb_ok (trivial)
noncomputable def lp_reals {β : Type} : LpT β := fun _ _ _ => none
theorem lp_reals_ok {β : Type} : LpTOk (CTp 1) (lp_reals (β := β)) (loopsOf c_reals) := by
  have h : loopsOf c_reals = [] := by kernel_rfl
  rw [h]
  exact LpTOk.nil
noncomputable def F_reals (b0 : Ty.El tOrder × Unit) : Option OUT_reals.El := Option.some (((), ()), (b0.fst, ()), ((), (), (), (), (), ()), ())
theorem f_reals (x : IN_reals.El) : funcX (CTp 1) T_reals IN_reals OUT_reals [] (drT (CTp 1) T_reals) lp_reals Tryz.f47 c_reals x = F_reals x.2.1 := by kernel_rfl
noncomputable def E_reals : Ent := .mkGen 47 [] ⟨1, [], IN_reals, OUT_reals, fun x => F_reals x.2.1⟩
theorem e_reals : E_reals.Ok CT.P := Ent.ofGen (C := (CTp 1)) (steps := []) (osteps := []) (CTp_ok 1) T_reals_ok hf_reals hb_reals lp_reals_ok f_reals
noncomputable def c_realsw : Code := Tryz.f47.body.getD .skip
theorem hb_realsw : Tryz.f47.body = some c_realsw := by kernel_rfl
theorem hf_realsw : CT.P.funcs[47]? = some Tryz.f47 := by kernel_rfl
noncomputable abbrev IN_realsw : LayD := ⟨1, [(0, .ptrO 0 4)], [.var 140 [.data tWorker]], fun s => [slotR s 0]⟩
noncomputable abbrev OUT_realsw : LayD := ⟨1, [(0, .ownC 1 1 5)], [.var 140 [.data tWorker], .var 113 [.ptrO 0 8, .ptrO 0 9, .ptrO 0 10, .ptrO 0 11, .ptrO 0 12]], fun s => [0, slotR s 0]⟩
noncomputable def T_realsw : Tb := mkTb tyT mpT []
theorem T_realsw_ok : T_realsw.Ok CT.P := mkTb_ok (trivial)
noncomputable def lp_realsw {β : Type} : LpT β := fun _ _ _ => none
theorem lp_realsw_ok {β : Type} : LpTOk (CTp 1) (lp_realsw (β := β)) (loopsOf c_realsw) := by
  have h : loopsOf c_realsw = [] := by kernel_rfl
  rw [h]
  exact LpTOk.nil
noncomputable def F_realsw (b0 : Ty.El tWorker × Unit) : Option OUT_realsw.El := Option.some (((), ()), (b0.fst, ()), ((), (), (), (), (), ()), ())
theorem f_realsw (x : IN_realsw.El) : funcX (CTp 1) T_realsw IN_realsw OUT_realsw [] (drT (CTp 1) T_realsw) lp_realsw Tryz.f47 c_realsw x = F_realsw x.2.1 := by kernel_rfl
noncomputable def E_realsw : Ent := .mkGen 47 [] ⟨1, [], IN_realsw, OUT_realsw, fun x => F_realsw x.2.1⟩
theorem e_realsw : E_realsw.Ok CT.P := Ent.ofGen (C := (CTp 1)) (steps := []) (osteps := []) (CTp_ok 1) T_realsw_ok hf_realsw hb_realsw lp_realsw_ok f_realsw
noncomputable def c_growiz : Code := Tryz.f229.body.getD .skip
theorem hb_growiz : Tryz.f229.body = some c_growiz := by kernel_rfl
theorem hf_growiz : CT.P.funcs[229]? = some Tryz.f229 := by kernel_rfl
noncomputable def T_growiz : Tb := mkTb tyT mpT []
theorem T_growiz_ok : T_growiz.Ok CT.P := mkTb_ok (trivial)
noncomputable def lp_growiz {β : Type} : LpT β := fun _ _ _ => none
theorem lp_growiz_ok {β : Type} : LpTOk CT (lp_growiz (β := β)) (loopsOf c_growiz) := by
  have h : loopsOf c_growiz = [] := by kernel_rfl
  rw [h]
  exact LpTOk.nil
noncomputable def F_growiz (a1 : Unit) (a2 : Ty.El I) : Option (List (Ty.El I)) := bif Decidable.decide (a2 < (0 : Int)) then Option.none else bif Decidable.decide (Go.IntKind.i64.wrap (a2 - (0 : Int)) > (0 : Int)) then Option.none else Option.some []
theorem f_growiz (x : Ps [.nil, .ty I]) : funcO CT T_growiz 3 I (drT CT T_growiz) lp_growiz Tryz.f229 c_growiz (encPs [.nil, .ty I] x) = F_growiz x.1 x.2.1 := by kernel_rfl
noncomputable def E_growiz : Ent := .own 229 [] ⟨[.nil, .ty I], 3, I, fun x => F_growiz x.1 x.2.1⟩
theorem e_growiz : E_growiz.Ok CT.P := Ent.ofOwn CT_ok T_growiz_ok hf_growiz hb_growiz lp_growiz_ok f_growiz
end Go.DI.S
set_option linter.unusedVariables false
set_option linter.unusedSimpArgs false
set_option maxRecDepth 100000
namespace Go.DI.S
open Go.Proofs
theorem row_backI {R : Nat → Prop} {ρ : Nm} {w w' : World} {l v l2 : List Int} {nb cap : Nat} {N : BN} {h0 : AH} (hr : Rel R ρ h0 w)
    (h1 : w'.os = w.os) (h2 : w'.tape = w.tape) (h3 : w'.output = w.output) (h4 : w.heap.size ≤ w'.heap.size) (hkeep : ∀ k, k < w.heap.size → k ≠ nb → w'.heap[k]? = w.heap[k]?)
    (hnb : (Lv ρ h0 nb ∧ ∃ a1 t1, w.heap[nb]? = some (.cells a1 t1 (0, 0))) ∨ w.heap.size ≤ nb) {arr2 : Array Value} (hb2 : w'.heap[nb]? = some (.cells arr2 3 (0, 0))) (hl2 : l2.length * 1 ≤ arr2.size) (hcells : VReps w R ρ (I.flat l2) (arr2.toList.take (l2.length * 1))) (hlc : l2.length ≤ cap) (hcap : cap * 1 ≤ arr2.size) :
    ∃ R' ρ', VRep w' R' ρ' (.orow I 0) (.slice (some ⟨nb, 0, none⟩) l2.length cap) ∧ Rel R' ρ' [some (.row 3 I l2)] w' ∧ FrmW 0 R ρ h0 w R' ρ' [some (.row 3 I l2)] w' := by
  have hnR : ¬ R nb := by
    intro hR
    rcases hnb with ⟨⟨i, blk, M, hi, hn, hg⟩, _⟩ | h
    · exact hr.notLive hR ⟨i, blk, M, hi, hn, hg⟩
    · have := hr.ro nb hR; omega
  have hB : BRep w' R ρ nb ⟨arr2.size, l2.length, false⟩ (.row 3 I l2) := cells_row ⟨arr2, hb2, rfl, by rw [I.flat_len]; exact hl2, by
    rw [I.flat_len]
    exact hcells.mono (fun k hk => hkeep k (hr.ro k hk) (fun e => hnR (e ▸ hk))) (fun _ h => h) (Nm.le_refl _)⟩ rfl
  refine ⟨R, nm0 nb ⟨arr2.size, l2.length, false⟩, .orow (N := ⟨arr2.size, l2.length, false⟩) rfl rfl hlc hcap, rel_nm0 (brep_row hB) (.inl ⟨rfl, hnR⟩) (fun c hc => Nat.lt_of_lt_of_le (hr.ro c hc) h4),
    ⟨h1, h2, h3, h4, fun _ h => h, fun c hc hnl => hkeep c hc (fun e => ?_), fun c hl => ?_, fun _ h => .inl h, fun a ha => ?_, fun i bn hi => absurd hi (Nat.not_lt_zero _)⟩⟩
  · subst e
    rcases hnb with ⟨h, _⟩ | h
    · exact hnl h
    · omega
  · rw [(lv_nm0 hl).1]
    rcases hnb with ⟨h, _⟩ | h
    · exact .inl h
    · exact .inr h
  · by_cases e : a.block = nb
    · rcases hnb with ⟨_, a1, t1, hb1⟩ | h
      · simp [World.frozen?, e, hb1, hb2]
      · omega
    · exact frozen_block (hkeep _ ha e)
def growRenI : Go.Shelf.Ren := ⟨fun | 4 => 229 | n => n, fun | 22 => 23 | 25 => 3 | n => n, fun n => n⟩
theorem laysGrowI : Lays8.n4 Tryz.prog growRenI := {
  mixed := by kernel_rfl,
  f4 := ⟨ "slices.Grow[[]int,int]", by kernel_rfl, Tryz.func229.trans (congrArg some (by kernel_rfl))⟩,
  t0 := Tryz.underlying0, a0 := Tryz.isAgg0, z0 := Tryz.sizeOf0, v0 := Tryz.zeroValue0,
  t3 := Tryz.underlying3, a3 := Tryz.isAgg3, z3 := Tryz.sizeOf3, v3 := Tryz.zeroValue3,
  t4 := Tryz.underlying4, a4 := Tryz.isAgg4, z4 := Tryz.sizeOf4, v4 := Tryz.zeroValue4,
  t9 := Tryz.underlying9, a9 := Tryz.isAgg9, z9 := Tryz.sizeOf9, v9 := Tryz.zeroValue9,
  t20 := Tryz.underlying20, a20 := Tryz.isAgg20, z20 := Tryz.sizeOf20, v20 := Tryz.zeroValue20,
  t22 := Tryz.underlying23, a22 := Tryz.isAgg23, z22 := Tryz.sizeOf23, v22 := Tryz.zeroValue23 }
theorem frm_of {p : Nat} {R R' : Nat → Prop} {ρ ρ' : Nm} {w w' : World} {h' : AH} (hr : Rel R ρ [] w) (f : FrmW p R ρ [] w R' ρ' h' w') : Frm R ρ [] w R' ρ' h' w' :=
  ⟨f.os, f.tape, f.output, f.size, fun i bn h => (by rw [hr.dom i (Nat.zero_le _)] at h; cases h), f.ros, f.keeps, f.lives, f.rolds, Nat.zero_le _, fun x hx => absurd hx (Nat.not_lt_zero _), f.frz⟩
set_option maxHeartbeats 1000000 in
theorem ok_growi (n : Nat) (h0 : 0 < n) (hn : n ≤ 1000000) : AC CT.P 229 [.nils, .int .i64 n] [] (.ret (.orow I 0)) [some (.row 3 I [])] := by
  intro R ρ w vs hr hvs
  obtain ⟨u0, us, hu, k1, k2⟩ := hvs.cons_inv
  obtain ⟨u1, us1, rfl, k3, k4⟩ := k2.cons_inv
  obtain rfl := k4.nil_inv
  have hv : vs = #[u0, u1] := Array.toList_inj.1 (by simpa using hu)
  subst hv
  cases k1
  cases k3
  obtain ⟨i0, z, hi0, hz0, hs0, hb0, hzs⟩ : ∃ i0 z, Tryz.prog.info? 3 = some i0 ∧ i0.zero = some z ∧ i0.size = 1 ∧ i0.bytes = 8 ∧ z.cells.size = 1 := by
    have h : (Tryz.prog.info? 3).bind (fun i => i.zero.map fun z => (i.size, i.bytes, z.cells.size)) = some (1, 8, 1) := by kernel_rfl
    obtain ⟨i0, hi, h⟩ := Option.bind_eq_some_iff.1 h
    obtain ⟨z, hz, h⟩ := Option.map_eq_some_iff.1 h
    simp only [Prod.mk.injEq] at h
    exact ⟨i0, z, hi, hz, h.1, h.2.1, h.2.2⟩
  have hs := Any8.slices_Grow_grow laysGrowI i0 z hi0 hz0 (by omega) none 0 0 n [] w (Nat.le_refl _) (by omega) (by rw [hb0]; omega) (by omega) (by simp) (fun _ => rfl) (fun a h => by cases h)
  refine hs.mono ?_
  rintro e w' ⟨rfl, rfl⟩
  have hge := grownCap_ge w (0 + n) 0 3
  generalize hA : ([] : List Value).toArray ++ Builtin.zeroCells z.cells (0 + n - 0) ++ Builtin.zeroCells z.cells (grownCap w (0 + n) 0 (growRenI.t 25) - (0 + n)) = A
  have hsz : A.size = grownCap w (0 + n) 0 3 * 1 := by
    rw [← hA]
    simp only [Array.size_append, size_zeroCells, hzs, List.size_toArray, List.length_nil]
    show 0 + (0 + n - 0) * 1 + (grownCap w (0 + n) 0 3 - (0 + n)) * 1 = _
    omega
  have hh : (w.drew.alloc (.cells A (growRenI.t 25))).heap = w.heap.push (.cells A 3) := rfl
  obtain ⟨R', ρ', q1, q2, q3⟩ := row_backI (l := []) (v := []) (l2 := []) (h0 := []) (nb := w.heap.size) (cap := grownCap w (0 + n) 0 3)
    (w' := w.drew.alloc (.cells A (growRenI.t 25))) (N := ⟨0, 0, false⟩)
    (arr2 := A) hr rfl rfl rfl (by rw [hh, Array.size_push]; omega) (fun k hk hne => by
      rw [hh, Array.getElem?_push, if_neg (Nat.ne_of_lt hk)]) (.inr (Nat.le_refl _)) (by rw [hh, Array.getElem?_push, if_pos rfl]) (Nat.zero_le _) (by
      show VReps w R ρ [] (A.toList.take 0)
      rw [List.take_zero]
      exact .nil) (Nat.zero_le _) (by rw [hsz]; exact Nat.le_refl _)
  exact ⟨R', ρ', _, ⟨rfl, q1⟩, q2, frm_of hr q3⟩
noncomputable def F_growi (a1 : Unit) (a2 : Ty.El I) : Option (List (Ty.El I)) := bif decide ((0 : Int) < a2) && decide (a2 ≤ (1000000 : Int)) then some [] else F_growiz a1 a2
noncomputable def E_growi : Ent := .own 229 [] ⟨[.nil, .ty I], 3, I, fun x => F_growi x.1 x.2.1⟩
theorem e_growi : E_growi.Ok CT.P := by
  intro x y hxy
  obtain ⟨u, (n : Int), x2⟩ := x
  have hxy : F_growi u n = some y := hxy
  unfold F_growi at hxy
  cases hb : decide ((0 : Int) < n) && decide (n ≤ (1000000 : Int)) with
  | false =>
    rw [hb] at hxy
    exact e_growiz (u, n, x2) y hxy
  | true =>
    rw [hb] at hxy
    have hy : y = [] := (Option.some.inj hxy).symm
    subst hy
    simp only [Bool.and_eq_true, decide_eq_true_eq] at hb
    obtain ⟨m, rfl⟩ := Int.eq_ofNat_of_zero_le (Int.le_of_lt hb.1)
    exact ok_growi m (by omega) (by omega)
end Go.DI.S
