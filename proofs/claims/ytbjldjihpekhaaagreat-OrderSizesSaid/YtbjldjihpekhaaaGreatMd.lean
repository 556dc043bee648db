import Derived.Test.YtbjldjihpekhaaaGreatMc
/- A command carried out; the statement: told by functions on data. No conditions. -/
set_option linter.unusedVariables false
set_option maxRecDepth 100000
set_option maxHeartbeats 0
namespace Go.DI.S
open Go.Proofs
noncomputable def c_do : Code := Tryz.f90.body.getD .skip
theorem hb_do : Tryz.f90.body = some c_do := by kernel_rfl
theorem hf_do : CT.P.funcs[90]? = some Tryz.f90 := by kernel_rfl
noncomputable abbrev IN_do : LayD := ⟨1, [(0, .ptr 0)], [.var 140 [.data tWorker]], fun s => [slotR s 0]⟩
noncomputable abbrev OUT_do : LayD := ⟨3, [(0, .data tScene), (1, .data I), (2, .data I)], [.var 140 [.data tWorker]], fun _ => [0]⟩
noncomputable def T_do : Tb := mkTb tyT mpT [E_body, E_make, E_41w, E_free]
theorem T_do_ok : T_do.Ok CT.P := mkTb_ok (⟨e_body, e_make, e_41w, e_free, trivial⟩)
noncomputable def lp_do {β : Type} : LpT β := fun _ _ _ => none
theorem lp_do_ok {β : Type} : LpTOk (CTp 1) (lp_do (β := β)) (loopsOf c_do) := by
  have h : loopsOf c_do = [] := by kernel_rfl
  rw [h]
  exact LpTOk.nil
noncomputable def F_do (b0 : Ty.El tWorker × Unit) : Option OUT_do.El := bif b0.fst.snd.fst.fst == (1 : Int) then (F_body (b0.fst, ())).bind fun v2 => (F_make v2.fst.fst (v2.snd.fst.fst, ())).bind fun v8 => Option.some ((v8.fst.fst, v8.fst.snd.fst, v8.fst.snd.snd.fst, ()), (v8.snd.fst.fst, ()), ()) else bif b0.fst.snd.fst.fst == (2 : Int) then Option.none else bif b0.fst.snd.fst.fst == (3 : Int) then Option.none else bif b0.fst.snd.fst.fst == (4 : Int) then (F_make ((0 : Int), (2 : Int), ((0 : Int), ((0 : Int), (0 : Int)), (0 : Int), ((0 : Int), (0 : Int)), (0 : Int), (0 : Int)), (b0.fst.snd.fst.snd.fst, b0.fst.snd.fst.snd.snd.fst, b0.fst.snd.snd.snd.snd.fst), []) (b0.fst, ())).bind fun v18 => Option.some ((v18.fst.fst, v18.fst.snd.fst, v18.fst.snd.snd.fst, ()), (v18.snd.fst.fst, ()), ()) else bif b0.fst.snd.fst.fst == (5 : Int) then (F_41w b0.fst.fst b0.fst.snd.fst.snd.snd.snd.snd.snd.snd.snd.snd.snd.snd.snd).bind fun v28 => Option.some ((v28.fst, v28.snd.fst, v28.snd.snd.fst, ()), (b0.fst, ()), ()) else bif b0.fst.snd.fst.fst == (6 : Int) then (F_free (b0.fst, ())).bind fun v30 => Option.some ((v30.fst.fst, v30.fst.snd.fst, v30.fst.snd.snd.fst, ()), (v30.snd.fst.fst, ()), ()) else bif b0.fst.snd.fst.fst == (7 : Int) then Option.none else bif b0.fst.snd.fst.fst == (8 : Int) then Option.none else bif b0.fst.snd.fst.fst == (9 : Int) then Option.none else Option.none
theorem f_do (x : IN_do.El) : funcX (CTp 1) T_do IN_do OUT_do [.frzReg 0 tScene] (drT (CTp 1) T_do) lp_do Tryz.f90 c_do x = F_do x.2.1 := by kernel_rfl
noncomputable def E_do : Ent := .mkGen 90 [] ⟨1, [], IN_do, OUT_do, fun x => F_do x.2.1⟩
theorem e_do : E_do.Ok CT.P := Ent.ofGen (C := (CTp 1)) (steps := []) (osteps := [.frzReg 0 tScene]) (CTp_ok 1) T_do_ok hf_do hb_do lp_do_ok f_do
noncomputable def c_Do : Code := Tryz.f25.body.getD .skip
theorem hb_Do : Tryz.f25.body = some c_Do := by kernel_rfl
theorem hf_Do : CT.P.funcs[25]? = some Tryz.f25 := by kernel_rfl
noncomputable def T_Do : Tb := mkTb tyT mpT [E_20, E_readw, E_do]
theorem T_Do_ok : T_Do.Ok CT.P := mkTb_ok (⟨e_20, e_readw, e_do, trivial⟩)
noncomputable def lp_Do {β : Type} : LpT β := fun _ _ _ => none
theorem lp_Do_ok {β : Type} : LpTOk CT (lp_Do (β := β)) (loopsOf c_Do) := by
  have h : loopsOf c_Do = [] := by kernel_rfl
  rw [h]
  exact LpTOk.nil
noncomputable def F_Do (a1 : Ty.El tScene) (a2 : Ty.El tOrder) : Option (Els [tScene, I, I]) := bif Decidable.decide (a2.fst < (1 : Int)) then Option.some (a1, (0 : Int), (9 : Int), ()) else bif Decidable.decide (a2.fst > (10 : Int)) then Option.some (a1, (0 : Int), (9 : Int), ()) else (F_20 a1).bind fun v2 => bif !v2.fst then Option.some (a1, (0 : Int), (9 : Int), ()) else (F_readw ((a1, a2, (0 : Int), (0 : Int), (0 : Int), (0 : Int), (0 : Int)), ())).bind fun v4 => bif v4.fst.fst != (0 : Int) then Option.some (a1, (0 : Int), v4.fst.fst, ()) else (F_do (v4.snd.fst.fst, ())).bind fun v12 => bif v12.fst.snd.snd.fst != (0 : Int) then Option.some (a1, (0 : Int), v12.fst.snd.snd.fst, ()) else Option.some (v12.fst.fst, v12.fst.snd.fst, (0 : Int), ())
theorem f_Do (x : Ps [.ty tScene, .ty tOrder]) : funcT CT T_Do [tScene, I, I] (drT CT T_Do) lp_Do Tryz.f25 c_Do (encPs [.ty tScene, .ty tOrder] x) = F_Do x.1 x.2.1 := by kernel_rfl
noncomputable def E_Do : Ent := .fn 25 [] ⟨[.ty tScene, .ty tOrder], [tScene, I, I], fun x => F_Do x.1 x.2.1, false⟩
theorem e_Do : E_Do.Ok CT.P := Ent.ofFn CT_ok T_Do_ok hf_Do hb_Do lp_Do_ok f_Do
noncomputable def c_alive : Code := Tryz.f13.body.getD .skip
theorem hb_alive : Tryz.f13.body = some c_alive := by kernel_rfl
theorem hf_alive : CT.P.funcs[13]? = some Tryz.f13 := by kernel_rfl
noncomputable def T_alive : Tb := mkTb tyT mpT [E_nan, E_copysign, E_19, E_Do, E_put, E_getb, E_Same]
theorem T_alive_ok : T_alive.Ok CT.P := mkTb_ok (⟨e_nan, e_copysign, e_19, e_Do, e_put, e_getb, e_Same, trivial⟩)
noncomputable def lp_alive {β : Type} : LpT β := fun _ _ _ => none
theorem lp_alive_ok {β : Type} : LpTOk CT (lp_alive (β := β)) (loopsOf c_alive) := by
  have h : loopsOf c_alive = [] := by kernel_rfl
  rw [h]
  exact LpTOk.nil
noncomputable def F_alive  : Option (Els [.bool]) := F_nan.bind fun v2 => F_19.bind fun v4 => (F_Do v4.fst ((1 : Int), (0 : Int), (0 : Int), (1 : Int), v2.fst, (0 : Nat), (4607182418800017408 : Nat), (0 : Nat), (4611686018427387904 : Nat), (0 : Int), (0 : Int), [])).bind fun v6 => (F_copysign (0 : Nat) (13830554455654793216 : Nat)).bind fun v8 => F_19.bind fun v10 => (F_Do v10.fst ((1 : Int), (0 : Int), (0 : Int), (1 : Int), v8.fst, (0 : Nat), (4607182418800017408 : Nat), (0 : Nat), (4611686018427387904 : Nat), (0 : Int), (0 : Int), [])).bind fun v12 => (F_put ((1 : Int), (0 : Int), (0 : Int), (1 : Int), v8.fst, (0 : Nat), (4607182418800017408 : Nat), (0 : Nat), (4611686018427387904 : Nat), (0 : Int), (0 : Int), [])).bind fun v14 => (F_getb v14.fst).bind fun v16 => bif v6.snd.snd.fst == (1 : Int) then bif v12.snd.snd.fst == (0 : Int) then bif v12.snd.fst == (1 : Int) then bif (↑(List.length v12.fst.snd.snd) : Int) == (1 : Int) then bif Decidable.decide ((0 : Int) ≤ (0 : Int) ∧ (0 : Int) < (↑(List.length v12.fst.snd.snd) : Int)) then bif (List.getD v12.fst.snd.snd (0 : Nat) Go.DI.S.tThing.dflt).snd.snd.fst.snd.snd.fst == (8589934592 : Int) then bif v14.snd.fst then bif v16.snd.fst then (F_Same ((1 : Int), (0 : Int), (0 : Int), (1 : Int), v8.fst, (0 : Nat), (4607182418800017408 : Nat), (0 : Nat), (4611686018427387904 : Nat), (0 : Int), (0 : Int), []) v16.fst).bind fun v18 => Option.some (v18.fst, ()) else Option.some (Bool.false, ()) else Option.some (Bool.false, ()) else Option.some (Bool.false, ()) else Option.none else Option.some (Bool.false, ()) else Option.some (Bool.false, ()) else Option.some (Bool.false, ()) else Option.some (Bool.false, ())
theorem f_alive (x : Ps []) : funcT CT T_alive [.bool] (drT CT T_alive) lp_alive Tryz.f13 c_alive (encPs [] x) = F_alive := by kernel_rfl
noncomputable def E_alive : Ent := .fn 13 [] ⟨[], [.bool], fun x => F_alive, false⟩
theorem e_alive : E_alive.Ok CT.P := Ent.ofFn CT_ok T_alive_ok hf_alive hb_alive lp_alive_ok f_alive
end Go.DI.S
