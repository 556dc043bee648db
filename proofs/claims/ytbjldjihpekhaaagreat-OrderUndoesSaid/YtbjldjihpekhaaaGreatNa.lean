import Derived.Test.YtbjldjihpekhaaaGreatMc
/- Places that are moved: told by functions on data. No conditions. -/
set_option linter.unusedVariables false
set_option maxRecDepth 100000
set_option maxHeartbeats 0
namespace Go.DI.S
open Go.Proofs
noncomputable def c_162 : Code := Tryz.f236.body.getD .skip
theorem hb_162 : Tryz.f236.body = some c_162 := by kernel_rfl
theorem hf_162 : CT.P.funcs[236]? = some Tryz.f236 := by kernel_rfl
noncomputable def T_162 : Tb := mkTb tyT mpT []
theorem T_162_ok : T_162.Ok CT.P := mkTb_ok (trivial)
noncomputable def lp_162 {β : Type} : LpT β := fun _ _ _ => none
theorem lp_162_ok {β : Type} : LpTOk CT (lp_162 (β := β)) (loopsOf c_162) := by
  have h : loopsOf c_162 = [] := by kernel_rfl
  rw [h]
  exact LpTOk.nil
noncomputable def F_162 (a1 : Ty.El I) (a2 : Ty.El I) : Option (Els [I, I]) := bif Decidable.decide (a1 < (0 : Int)) == Decidable.decide (a2 < (0 : Int)) then bif !Decidable.decide (Go.IntKind.i64.wrap (a1 + a2) < (0 : Int)) == Decidable.decide (a1 < (0 : Int)) then Option.some ((0 : Int), (3 : Int), ()) else Option.some (Go.IntKind.i64.wrap (a1 + a2), (0 : Int), ()) else Option.some (Go.IntKind.i64.wrap (a1 + a2), (0 : Int), ())
theorem f_162 (x : Ps [.ty I, .ty I]) : funcT CT T_162 [I, I] (drT CT T_162) lp_162 Tryz.f236 c_162 (encPs [.ty I, .ty I] x) = F_162 x.1 x.2.1 := by kernel_rfl
noncomputable def E_162 : Ent := .fn 236 [] ⟨[.ty I, .ty I], [I, I], fun x => F_162 x.1 x.2.1, false⟩
theorem e_162 : E_162.Ok CT.P := Ent.ofFn CT_ok T_162_ok hf_162 hb_162 lp_162_ok f_162
noncomputable def c_161 : Code := Tryz.f258.body.getD .skip
theorem hb_161 : Tryz.f258.body = some c_161 := by kernel_rfl
theorem hf_161 : CT.P.funcs[258]? = some Tryz.f258 := by kernel_rfl
noncomputable def T_161 : Tb := mkTb tyT mpT []
theorem T_161_ok : T_161.Ok CT.P := mkTb_ok (trivial)
noncomputable def lp_161 {β : Type} : LpT β := fun _ _ _ => none
theorem lp_161_ok {β : Type} : LpTOk CT (lp_161 (β := β)) (loopsOf c_161) := by
  have h : loopsOf c_161 = [] := by kernel_rfl
  rw [h]
  exact LpTOk.nil
noncomputable def F_161 (a1 : Ty.El I) (a2 : Ty.El I) : Option (Els [I] ⊕ Int) := bif a2 != (0 : Int) then Option.some (Sum.inr a2) else Option.some (Sum.inl (a1, ()))
theorem f_161 (x : Ps [.ty I, .ty I]) : funcP CT T_161 239 [I] (drT CT T_161) lp_161 Tryz.f258 c_161 (encPs [.ty I, .ty I] x) = F_161 x.1 x.2.1 := by kernel_rfl
noncomputable def E_161 : Ent := .mkFnP 258 [] ⟨239, [.ty I, .ty I], [I], fun x => F_161 x.1 x.2.1, false⟩
theorem e_161 : E_161.Ok CT.P := Ent.ofFnP CT_ok T_161_ok hf_161 hb_161 lp_161_ok f_161
noncomputable def c_146 : Code := Tryz.f228.body.getD .skip
theorem hb_146 : Tryz.f228.body = some c_146 := by kernel_rfl
theorem hf_146 : CT.P.funcs[228]? = some Tryz.f228 := by kernel_rfl
noncomputable def T_146 : Tb := mkTb tyT mpT [E_161, E_162]
theorem T_146_ok : T_146.Ok CT.P := mkTb_ok (⟨e_161, e_162, trivial⟩)
noncomputable def lp_146 {β : Type} : LpT β := fun _ _ _ => none
theorem lp_146_ok {β : Type} : LpTOk CT (lp_146 (β := β)) (loopsOf c_146) := by
  have h : loopsOf c_146 = [] := by kernel_rfl
  rw [h]
  exact LpTOk.nil
noncomputable def F_146 (a1 : Ty.El I) (a2 : Ty.El I) : Option (Els [I] ⊕ Int) := (F_162 a1 a2).bind fun v2 => (F_161 v2.fst v2.snd.fst).bind fun v4 => Sum.elim (fun v6 => Option.some (Sum.inl (v6.fst, ()))) (fun v7 => Option.some (Sum.inr v7)) v4
theorem f_146 (x : Ps [.ty I, .ty I]) : funcP CT T_146 239 [I] (drT CT T_146) lp_146 Tryz.f228 c_146 (encPs [.ty I, .ty I] x) = F_146 x.1 x.2.1 := by kernel_rfl
noncomputable def E_146 : Ent := .mkFnP 228 [] ⟨239, [.ty I, .ty I], [I], fun x => F_146 x.1 x.2.1, false⟩
theorem e_146 : E_146.Ok CT.P := Ent.ofFnP CT_ok T_146_ok hf_146 hb_146 lp_146_ok f_146
noncomputable def c_124 : Code := Tryz.f181.body.getD .skip
theorem hb_124 : Tryz.f181.body = some c_124 := by kernel_rfl
theorem hf_124 : CT.P.funcs[181]? = some Tryz.f181 := by kernel_rfl
noncomputable def T_124 : Tb := mkTb tyT mpT [E_146]
theorem T_124_ok : T_124.Ok CT.P := mkTb_ok (⟨e_146, trivial⟩)
noncomputable def lp_124 {β : Type} : LpT β := fun _ _ _ => none
theorem lp_124_ok {β : Type} : LpTOk CT (lp_124 (β := β)) (loopsOf c_124) := by
  have h : loopsOf c_124 = [] := by kernel_rfl
  rw [h]
  exact LpTOk.nil
noncomputable def F_124 (a1 : Ty.El tVec) (a2 : Ty.El tVec) : Option (Els [tVec] ⊕ Int) := (F_146 a1.fst a2.fst).bind fun v2 => Sum.elim (fun v4 => (F_146 a1.snd a2.snd).bind fun v6 => Sum.elim (fun v8 => Option.some (Sum.inl ((v4.fst, v8.fst), ()))) (fun v9 => Option.some (Sum.inr v9)) v6) (fun v10 => Option.some (Sum.inr v10)) v2
theorem f_124 (x : Ps [.ty tVec, .ty tVec]) : funcP CT T_124 239 [tVec] (drT CT T_124) lp_124 Tryz.f181 c_124 (encPs [.ty tVec, .ty tVec] x) = F_124 x.1 x.2.1 := by kernel_rfl
noncomputable def E_124 : Ent := .mkFnP 181 [] ⟨239, [.ty tVec, .ty tVec], [tVec], fun x => F_124 x.1 x.2.1, false⟩
theorem e_124 : E_124.Ok CT.P := Ent.ofFnP CT_ok T_124_ok hf_124 hb_124 lp_124_ok f_124
noncomputable def c_move : Code := Tryz.f135.body.getD .skip
theorem hb_move : Tryz.f135.body = some c_move := by kernel_rfl
theorem hf_move : CT.P.funcs[135]? = some Tryz.f135 := by kernel_rfl
noncomputable def T_move : Tb := mkTb tyT mpT [E_by, E_124]
theorem T_move_ok : T_move.Ok CT.P := mkTb_ok (⟨e_by, e_124, trivial⟩)
noncomputable def lp_move {β : Type} : LpT β := fun _ _ _ => none
theorem lp_move_ok {β : Type} : LpTOk CT (lp_move (β := β)) (loopsOf c_move) := by
  have h : loopsOf c_move = [] := by kernel_rfl
  rw [h]
  exact LpTOk.nil
noncomputable def F_move (a1 : Ty.El tWorker) (a2 : Ty.El tVec) : Option (Els [tVec] ⊕ Int) := (F_by a1).bind fun v2 => (F_124 a2 v2.fst).bind fun v4 => Sum.elim (fun v6 => Option.some (Sum.inl (v6.fst, ()))) (fun v7 => Option.some (Sum.inr v7)) v4
theorem f_move (x : Ps [.roa tWorker, .ty tVec]) : funcP CT T_move 239 [tVec] (drT CT T_move) lp_move Tryz.f135 c_move (encPs [.roa tWorker, .ty tVec] x) = F_move x.1 x.2.1 := by kernel_rfl
noncomputable def E_move : Ent := .mkFnP 135 [] ⟨239, [.roa tWorker, .ty tVec], [tVec], fun x => F_move x.1 x.2.1, false⟩
theorem e_move : E_move.Ok CT.P := Ent.ofFnP CT_ok T_move_ok hf_move hb_move lp_move_ok f_move
end Go.DI.S
