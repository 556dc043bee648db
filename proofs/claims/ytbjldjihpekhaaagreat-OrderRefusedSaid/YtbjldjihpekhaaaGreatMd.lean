import Derived.Test.YtbjldjihpekhaaaGreatMc
/- A command carried out; the statement: told by functions on data. No conditions. -/
set_option linter.unusedVariables false
set_option maxRecDepth 100000
set_option maxHeartbeats 0
noncomputable section
namespace Go.DI.S
open Go.Proofs
abbrev IN_do:LayD:=⟨1,[(0,.ptr 0)],[.var 140 [.data tWorker]],fun s=>[slotR s 0]⟩
abbrev OUT_do:LayD:=⟨3,[(0,.data tScene),(1,.data I),(2,.data I)],[.var 140 [.data tWorker]],fun _=>[0]⟩
def F_do (b0:Ty.El tWorker×Unit):Option OUT_do.El:=bif b0.1.2.1.1==(1:Int) then(F_body (b0.1,())).bind fun v2=>(F_make v2.1.1 (v2.2.1.1,())).bind fun v8=>some ((v8.1.1,v8.1.2.1,v8.1.2.2.1,()),(v8.2.1.1,()),()) else bif b0.1.2.1.1==(2:Int) then none else bif b0.1.2.1.1==(3:Int) then none else bif b0.1.2.1.1==(4:Int) then(F_make ((0:Int),(2:Int),((0:Int),((0:Int),(0:Int)),(0:Int),((0:Int),(0:Int)),(0:Int),(0:Int)),(b0.1.2.1.2.1,b0.1.2.1.2.2.1,b0.1.2.2.2.2.1),[]) (b0.1,())).bind fun v18=>some ((v18.1.1,v18.1.2.1,v18.1.2.2.1,()),(v18.2.1.1,()),()) else bif b0.1.2.1.1==(5:Int) then(F_41w b0.1.1 b0.1.2.1.2.2.2.2.2.2.2.2.2.2.2).bind fun v28=>some ((v28.1,v28.2.1,v28.2.2.1,()),(b0.1,()),()) else bif b0.1.2.1.1==(6:Int) then(F_free (b0.1,())).bind fun v30=>some ((v30.1.1,v30.1.2.1,v30.1.2.2.1,()),(v30.2.1.1,()),()) else bif b0.1.2.1.1==(7:Int) then none else bif b0.1.2.1.1==(8:Int) then none else bif b0.1.2.1.1==(9:Int) then none else none
def E_do:Ent:=.mkGen 90 [] ⟨1,[],IN_do,OUT_do,fun x=>F_do x.2.1⟩
theorem e_do:E_do.Ok CT.P:=gen0 (C:=(CTp 1)) (CTp_ok 1) (tb (l:=[E_body,E_make,E_41w,E_free]) ⟨e_body,e_make,e_41w,e_free,trivial⟩) [.frzReg 0 tScene] Tryz.f90 (by kernel_rfl) (by kernel_rfl) (by kernel_rfl) fun x=>by kernel_rfl
def F_Do (a1:Ty.El tScene)(a2:Ty.El tOrder):Option (Els [tScene,I,I]):=bif decide (a2.1<(1:Int)) then some (a1,(0:Int),(9:Int),()) else bif decide (a2.1>(10:Int)) then some (a1,(0:Int),(9:Int),()) else(F_20 a1).bind fun v2=>bif !v2.1 then some (a1,(0:Int),(9:Int),()) else(F_readw ((a1,a2,(0:Int),(0:Int),(0:Int),(0:Int),(0:Int)),())).bind fun v4=>bif v4.1.1 != (0:Int) then some (a1,(0:Int),v4.1.1,()) else(F_do (v4.2.1.1,())).bind fun v12=>bif v12.1.2.2.1 != (0:Int) then some (a1,(0:Int),v12.1.2.2.1,()) else some (v12.1.1,v12.1.2.1,(0:Int),())
def E_Do:Ent:=.fn 25 [] ⟨[.ty tScene,.ty tOrder],[tScene,I,I],fun x=>F_Do x.1 x.2.1,false⟩
theorem e_Do:E_Do.Ok CT.P:=fn0 CT_ok (tb (l:=[E_20,E_readw,E_do]) ⟨e_20,e_readw,e_do,trivial⟩) Tryz.f25 (by kernel_rfl) (by kernel_rfl) (by kernel_rfl) fun x=>by kernel_rfl
def F_alive  : Option (Els [.bool]):=F_nan.bind fun v2=>F_19.bind fun v4=>(F_Do v4.1 ((1:Int),(0:Int),(0:Int),(1:Int),v2.1,(0:Nat),(4607182418800017408:Nat),(0:Nat),(4611686018427387904:Nat),(0:Int),(0:Int),[])).bind fun v6=>(F_copysign (0:Nat) (13830554455654793216:Nat)).bind fun v8=>F_19.bind fun v10=>(F_Do v10.1 ((1:Int),(0:Int),(0:Int),(1:Int),v8.1,(0:Nat),(4607182418800017408:Nat),(0:Nat),(4611686018427387904:Nat),(0:Int),(0:Int),[])).bind fun v12=>(F_put ((1:Int),(0:Int),(0:Int),(1:Int),v8.1,(0:Nat),(4607182418800017408:Nat),(0:Nat),(4611686018427387904:Nat),(0:Int),(0:Int),[])).bind fun v14=>(F_getb v14.1).bind fun v16=>bif v6.2.2.1==(1:Int) then bif v12.2.2.1==(0:Int) then bif v12.2.1==(1:Int) then bif(↑(List.length v12.1.2.2):Int)==(1:Int) then bif decide ((0:Int)≤(0:Int)∧(0:Int)<(↑(List.length v12.1.2.2):Int)) then bif(List.getD v12.1.2.2 (0:Nat) tThing.dflt).2.2.1.2.2.1==(8589934592:Int) then bif v14.2.1 then bif v16.2.1 then(F_Same ((1:Int),(0:Int),(0:Int),(1:Int),v8.1,(0:Nat),(4607182418800017408:Nat),(0:Nat),(4611686018427387904:Nat),(0:Int),(0:Int),[]) v16.1).bind fun v18=>some (v18.1,()) else some (false,()) else some (false,()) else some (false,()) else none else some (false,()) else some (false,()) else some (false,()) else some (false,())
def E_alive:Ent:=.fn 13 [] ⟨[],[.bool],fun x=>F_alive,false⟩
theorem e_alive:E_alive.Ok CT.P:=fn0 CT_ok (tb (l:=[E_nan,E_copysign,E_19,E_Do,E_put,E_getb,E_Same]) ⟨e_nan,e_copysign,e_19,e_Do,e_put,e_getb,e_Same,trivial⟩) Tryz.f13 (by kernel_rfl) (by kernel_rfl) (by kernel_rfl) fun x=>by kernel_rfl
end Go.DI.S
end
