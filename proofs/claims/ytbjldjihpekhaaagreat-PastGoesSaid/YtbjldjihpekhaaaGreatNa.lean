import Derived.Test.YtbjldjihpekhaaaGreatMc
/- Places that are moved: told by functions on data. No conditions. -/
set_option linter.unusedVariables false
set_option maxRecDepth 100000
set_option maxHeartbeats 0
noncomputable section
namespace Go.DI.S
open Go.Proofs
def SS (a1:Ty.El I)(a2:Ty.El I):Option (aS [I,I]):=bif decide (a1<(0:Int))==decide (a2<(0:Int)) then bif !decide (IntKind.i64.wrap (a1+a2)<(0:Int))==decide (a1<(0:Int)) then some ((0:Int),(3:Int),()) else some (IntKind.i64.wrap (a1+a2),(0:Int),()) else some (IntKind.i64.wrap (a1+a2),(0:Int),())
def bB8:aW:=.fn 236 [] ⟨[.ty I,.ty I],[I,I],fun x=>SS x.1 x.2.1,false⟩
theorem a2M:bB8.Ok CT.P:=fn0 aL zN Tryz.f236 (by kernel_rfl) fun x=>by kernel_rfl
def L8 (a1:Ty.El I)(a2:Ty.El I):Option (aS [I]⊕Int):=bif a2 != (0:Int) then some (Sum.inr a2) else some (Sum.inl (a1,()))
def bB9:aW:=.e9 258 [] ⟨239,[.ty I,.ty I],[I],fun x=>L8 x.1 x.2.1,false⟩
theorem aMx:bB9.Ok CT.P:=kO aL zN Tryz.f258 (by kernel_rfl) fun x=>by kernel_rfl
def q9 (a1:Ty.El I)(a2:Ty.El I):Option (aS [I]⊕Int):=(SS a1 a2).bind fun v2=>(L8 v2.1 v2.2.1).bind fun v4=>Sum.elim (fun v6=>some (Sum.inl (v6.1,()))) (fun v7=>some (Sum.inr v7)) v4
def bCa:aW:=.e9 228 [] ⟨239,[.ty I,.ty I],[I],fun x=>q9 x.1 x.2.1,false⟩
theorem SV:bCa.Ok CT.P:=kO aL (JB aMx a2M) Tryz.f228 (by kernel_rfl) fun x=>by kernel_rfl
def rA (a1:Ty.El aU)(a2:Ty.El aU):Option (aS [aU]⊕Int):=(q9 a1.1 a2.1).bind fun v2=>Sum.elim (fun v4=>(q9 a1.2 a2.2).bind fun v6=>Sum.elim (fun v8=>some (Sum.inl ((v4.1,v8.1),()))) (fun v9=>some (Sum.inr v9)) v6) (fun v10=>some (Sum.inr v10)) v2
def aMy:aW:=.e9 181 [] ⟨239,[.ty aU,.ty aU],[aU],fun x=>rA x.1 x.2.1,false⟩
theorem SX:aMy.Ok CT.P:=kO aL (B8 SV) Tryz.f181 (by kernel_rfl) fun x=>by kernel_rfl
def JX (a1:Ty.El aR)(a2:Ty.El aU):Option (aS [aU]⊕Int):=(aPD a1).bind fun v2=>(rA a2 v2.1).bind fun v4=>Sum.elim (fun v6=>some (Sum.inl (v6.1,()))) (fun v7=>some (Sum.inr v7)) v4
def aT9:aW:=.e9 135 [] ⟨239,[.jL aR,.ty aU],[aU],fun x=>JX x.1 x.2.1,false⟩
theorem a5S:aT9.Ok CT.P:=kO aL (JB a5E SX) Tryz.f135 (by kernel_rfl) fun x=>by kernel_rfl
end Go.DI.S
end
