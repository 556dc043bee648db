import Derived.Test.YtbjldjihpekhaaaGreatMc
/- Places that are moved: told by functions on data. No conditions. -/
set_option linter.unusedVariables false
set_option maxRecDepth 100000
set_option maxHeartbeats 0
noncomputable section
namespace Go.DI.S
open Go.Proofs
def F_162 (a1:Ty.El I)(a2:Ty.El I):Option (Els [I,I]):=bif decide (a1<(0:Int))==decide (a2<(0:Int)) then bif !decide (IntKind.i64.wrap (a1+a2)<(0:Int))==decide (a1<(0:Int)) then some ((0:Int),(3:Int),()) else some (IntKind.i64.wrap (a1+a2),(0:Int),()) else some (IntKind.i64.wrap (a1+a2),(0:Int),())
def E_162:Ent:=.fn 236 [] ⟨[.ty I,.ty I],[I,I],fun x=>F_162 x.1 x.2.1,false⟩
theorem e_162:E_162.Ok CT.P:=fn0 CT_ok (tb (l:=[]) trivial) Tryz.f236 (by kernel_rfl) (by kernel_rfl) (by kernel_rfl) fun x=>by kernel_rfl
def F_161 (a1:Ty.El I)(a2:Ty.El I):Option (Els [I]⊕Int):=bif a2 != (0:Int) then some (Sum.inr a2) else some (Sum.inl (a1,()))
def E_161:Ent:=.mkFnP 258 [] ⟨239,[.ty I,.ty I],[I],fun x=>F_161 x.1 x.2.1,false⟩
theorem e_161:E_161.Ok CT.P:=fnP0 CT_ok (tb (l:=[]) trivial) Tryz.f258 (by kernel_rfl) (by kernel_rfl) (by kernel_rfl) fun x=>by kernel_rfl
def F_146 (a1:Ty.El I)(a2:Ty.El I):Option (Els [I]⊕Int):=(F_162 a1 a2).bind fun v2=>(F_161 v2.1 v2.2.1).bind fun v4=>Sum.elim (fun v6=>some (Sum.inl (v6.1,()))) (fun v7=>some (Sum.inr v7)) v4
def E_146:Ent:=.mkFnP 228 [] ⟨239,[.ty I,.ty I],[I],fun x=>F_146 x.1 x.2.1,false⟩
theorem e_146:E_146.Ok CT.P:=fnP0 CT_ok (tb (l:=[E_161,E_162]) ⟨e_161,e_162,trivial⟩) Tryz.f228 (by kernel_rfl) (by kernel_rfl) (by kernel_rfl) fun x=>by kernel_rfl
def F_124 (a1:Ty.El tVec)(a2:Ty.El tVec):Option (Els [tVec]⊕Int):=(F_146 a1.1 a2.1).bind fun v2=>Sum.elim (fun v4=>(F_146 a1.2 a2.2).bind fun v6=>Sum.elim (fun v8=>some (Sum.inl ((v4.1,v8.1),()))) (fun v9=>some (Sum.inr v9)) v6) (fun v10=>some (Sum.inr v10)) v2
def E_124:Ent:=.mkFnP 181 [] ⟨239,[.ty tVec,.ty tVec],[tVec],fun x=>F_124 x.1 x.2.1,false⟩
theorem e_124:E_124.Ok CT.P:=fnP0 CT_ok (tb (l:=[E_146]) ⟨e_146,trivial⟩) Tryz.f181 (by kernel_rfl) (by kernel_rfl) (by kernel_rfl) fun x=>by kernel_rfl
def F_move (a1:Ty.El tWorker)(a2:Ty.El tVec):Option (Els [tVec]⊕Int):=(F_by a1).bind fun v2=>(F_124 a2 v2.1).bind fun v4=>Sum.elim (fun v6=>some (Sum.inl (v6.1,()))) (fun v7=>some (Sum.inr v7)) v4
def E_move:Ent:=.mkFnP 135 [] ⟨239,[.roa tWorker,.ty tVec],[tVec],fun x=>F_move x.1 x.2.1,false⟩
theorem e_move:E_move.Ok CT.P:=fnP0 CT_ok (tb (l:=[E_by,E_124]) ⟨e_by,e_124,trivial⟩) Tryz.f135 (by kernel_rfl) (by kernel_rfl) (by kernel_rfl) fun x=>by kernel_rfl
end Go.DI.S
end
