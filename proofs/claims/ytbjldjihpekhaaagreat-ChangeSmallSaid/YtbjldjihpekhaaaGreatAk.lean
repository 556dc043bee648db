import Derived.Test.YtbjldjihpekhaaaGreatAj
import Derived.Test.YtbjldjihpekhaaaGreatAi
/- The statement: told by functions on data. No conditions. -/
set_option linter.unusedVariables false
set_option maxRecDepth 100000
set_option maxHeartbeats 0
noncomputable section
namespace Go.DI.S
open Go.Proofs
def aDX:Code:=Tryz.f56.body.getD .skip
def HF:Tb:=cC iL iM []
theorem WT:HF.Ok CT.P:=aQ (trivial)
def aAw:Code:=aX aDX 4
abbrev mL:aF:=⟨27,[(0,.data (.list I)),(1,.data (.list I)),(5,.data I)],[],fun _=>[]⟩
abbrev EI:aF:=⟨27,[],[],fun _=>[]⟩
abbrev EJ:aF:=⟨27,[(4,.data .bool)],[],fun _=>[]⟩
def WU:=ex 0 0 EI EJ [] []
def o6 (r0:Ty.El (.list I))(r1:Ty.El (.list I))(r5:Ty.El I):Option (mL.El⊕(EI.El⊕EJ.El)):=bif decide (r5<(↑(List.length r0):Int)) then bif decide ((0:Int)≤r5∧r5<(↑(List.length r0):Int)) then bif decide ((0:Int)≤r5∧r5<(↑(List.length r1):Int)) then bif !List.getD r0 (Int.toNat r5) (0:Int)==List.getD r1 (Int.toNat r5) (0:Int) then some (Sum.inr (Sum.inr ((false,()),()))) else some (Sum.inl ((r0,r1,IntKind.i64.wrap (r5+(1:Int)),()),())) else none else none else some (Sum.inr (Sum.inl ((),())))
theorem aQQ (x:mL.El):aV CT HF (cB CT HF) iI aAw (mL.enc x) (bG (mL.lay []) WU)=o6 x.1.1 x.1.2.1 x.1.2.2.1:=by kernel_rfl
def aAx:mL.El→Option (EI.El⊕EJ.El):=aH (fun x=>o6 x.1.1 x.1.2.1 x.1.2.2.1) fuel
def aHY {β:Type}:dK β:=fun k s K=>if Nat.beq k 4 then bO (mL.lay []) WU aAx s K else none
theorem aHZ {β:Type}:aC CT (aHY (β:=β)) (aJ aDX):=aC.is [(4,aAw)] (by kernel_rfl) (aC.cons (iW aL WT (bC (by kernel_rfl)) aQQ rfl rfl) (aC.nil))
def HL (a1:Ty.El (.list I))(a2:Ty.El (.list I)):Option (aS [.bool]):=bif(↑(List.length a1):Int) != (↑(List.length a2):Int) then some (false,()) else(aAx ((a1,a2,(0:Int),()),())).bind fun v1=>Sum.elim (fun v2=>some (true,())) (fun v3=>some (v3.1.1,())) v1
theorem a1c (x:Ps [.ty (.list I),.ty (.list I)]):dA CT HF [.bool] (cB CT HF) aHY Tryz.f56 aDX (bQ [.ty (.list I),.ty (.list I)] x)=HL x.1 x.2.1:=by kernel_rfl
def a1d:aW:=.fn 56 [] ⟨[.ty (.list I),.ty (.list I)],[.bool],fun x=>HL x.1 x.2.1,false⟩
theorem a1e:a1d.Ok CT.P:=aW.ofFn aL WT (by kernel_rfl) (by kernel_rfl) aHZ a1c
def OO (a1:Ty.El aA)(a2:Ty.El aA):Option (aS [.bool]):=bif a1.1==a2.1 then bif a1.2.1==a2.2.1 then bif a1.2.2.1.1==a2.2.2.1.1&&(a1.2.2.1.2.1.1==a2.2.2.1.2.1.1&&(a1.2.2.1.2.1.2==a2.2.2.1.2.1.2&&true)&&(a1.2.2.1.2.2.1==a2.2.2.1.2.2.1&&(a1.2.2.1.2.2.2.1.1==a2.2.2.1.2.2.2.1.1&&(a1.2.2.1.2.2.2.1.2==a2.2.2.1.2.2.2.1.2&&true)&&(a1.2.2.1.2.2.2.2.1==a2.2.2.1.2.2.2.2.1&&(a1.2.2.1.2.2.2.2.2==a2.2.2.1.2.2.2.2.2&&true)&&true)))) then bif a1.2.2.2.1.1==a2.2.2.2.1.1&&(a1.2.2.2.1.2.1==a2.2.2.2.1.2.1&&(a1.2.2.2.1.2.2==a2.2.2.2.1.2.2&&true)) then(HL a1.2.2.2.2 a2.2.2.2.2).bind fun v2=>some (v2.1,()) else some (false,()) else some (false,()) else some (false,()) else some (false,())
def aN4:aW:=.fn 37 [] ⟨[.ty aA,.ty aA],[.bool],fun x=>OO x.1 x.2.1,false⟩
theorem a1f:aN4.Ok CT.P:=fn0 aL (B8 a1e) Tryz.f37 (by kernel_rfl) fun x=>by kernel_rfl
def aDY:Code:=Tryz.f11.body.getD .skip
def HM:Tb:=cC iL iM [bA4,a4V,a4Z,aBV,aAt,a3D,aWZ,aPe,aN4]
theorem WV:HM.Ok CT.P:=aQ (⟨bGi,a4W,bA7,JF,aQM,bDO,a3y,Q0,a1f,trivial⟩)
def WW:Code:=aX aDY 11
abbrev kL:aF:=⟨142,[(9,.ptr 0),(10,.ptr 1),(13,.ptr 2),(76,.data (.list bD)),(77,.data I),(78,.data I)],[.var 51 [.data aD],.var 51 [.data aD],.var 87 [.data cA]],fun s=>[aG s 9,aG s 10,aG s 13]⟩
abbrev yX:aF:=⟨142,[(9,.ptr 0),(10,.ptr 1),(13,.ptr 2)],[.var 51 [.data aD],.var 51 [.data aD],.var 87 [.data cA]],fun s=>[aG s 9,aG s 10,aG s 13]⟩
abbrev yY:aF:=⟨142,[(8,.data .bool)],[],fun _=>[]⟩
def MR:=ex 0 0 yX yY [] []
def j6 (r76:Ty.El (.list bD))(r77:Ty.El I)(r78:Ty.El I)(b0:Ty.El aD×Unit)(b1:Ty.El aD×Unit)(b2:Ty.El cA×Unit):Option (kL.El⊕(yX.El⊕yY.El)):=bif decide (r78<r77) then bif decide ((0:Int)≤r78∧r78<(↑(List.length r76):Int)) then(rM b0.1 (List.getD r76 (Int.toNat r78) bD.dflt).1).bind fun v2=>(rM b1.1 (List.getD r76 (Int.toNat r78) bD.dflt).1).bind fun v4=>bif !v2.2.1==!(List.getD r76 (Int.toNat r78) bD.dflt).2.1==[] then some (Sum.inr (Sum.inr ((false,()),()))) else bif !v4.2.1==!(List.getD r76 (Int.toNat r78) bD.dflt).2.2==[] then some (Sum.inr (Sum.inr ((false,()),()))) else bif v2.2.1 then bif v4.2.1 then(OO v2.1 v4.1).bind fun v6=>bif v6.1 then some (Sum.inr (Sum.inr ((false,()),()))) else some (Sum.inl (((),(),(),r76,r77,IntKind.i64.wrap (r78+(1:Int)),()),(b0.1,()),(b1.1,()),(b2.1,()),())) else some (Sum.inl (((),(),(),r76,r77,IntKind.i64.wrap (r78+(1:Int)),()),(b0.1,()),(b1.1,()),(b2.1,()),())) else some (Sum.inl (((),(),(),r76,r77,IntKind.i64.wrap (r78+(1:Int)),()),(b0.1,()),(b1.1,()),(b2.1,()),())) else none else some (Sum.inr (Sum.inl (((),(),(),()),(b0.1,()),(b1.1,()),(b2.1,()),())))
theorem aKS (x:kL.El):aV CT HM (cB CT HM) iI WW (kL.enc x) (bG (kL.lay []) MR)=j6 x.1.2.2.2.1 x.1.2.2.2.2.1 x.1.2.2.2.2.2.1 x.2.1 x.2.2.1 x.2.2.2.1:=by kernel_rfl
def qJ:kL.El→Option (yX.El⊕yY.El):=aH (fun x=>j6 x.1.2.2.2.1 x.1.2.2.2.2.1 x.1.2.2.2.2.2.1 x.2.1 x.2.2.1 x.2.2.2.1) fuel
def aH0 {β:Type}:dK β:=fun k s K=>if Nat.beq k 11 then bO (kL.lay []) MR qJ s K else none
theorem aH1 {β:Type}:aC CT (aH0 (β:=β)) (aJ aDY):=aC.is [(11,WW)] (by kernel_rfl) (aC.cons (iW aL WV (bC (by kernel_rfl)) aKS rfl rfl) (aC.nil))
def OP (a1:Ty.El aU)(a2:Ty.El I)(a3:Ty.El (.list aA))(a4:Ty.El kY):Option (aS [.bool]):=(aSS a3).bind fun v2=>bif !v2.1 then fT.bind fun v4=>some (v4.1,()) else bif decide ((↑(List.length a4.2.2.2.2.2.2.2.2.2.2.2):Int)>(20:Int)) then fT.bind fun v6=>some (v6.1,()) else bif decide (a4.2.2.2.2.2.2.2.2.2.2.1>(8:Int)) then bif decide (a4.2.2.2.2.2.2.2.2.2.2.1≤(200:Int)) then fT.bind fun v8=>some (v8.1,()) else(pR (a1,a2,a3)).bind fun v10=>bif !v10.1 then fT.bind fun v12=>some (v12.1,()) else fT.bind fun pX=>bif !pX.1 then fT.bind fun sW=>some (sW.1,()) else(aHX (a1,a2,a3) a4).bind fun fL=>bif fL.2.2.1 != (0:Int) then some (true,()) else(G9 (a1,a2,a3) fL.1).bind fun v20=>bif !v20.2.1 then(aFC (a1,a2,a3)).bind fun v22=>(aFH fL.1 v22.1).bind fun v24=>some (v24.1,()) else(qJ (((),(),(),v20.1.1,(↑(List.length v20.1.1):Int),(0:Int),()),((a1,a2,a3),()),(fL.1,()),(v20.1,()),())).bind fun v25=>Sum.elim (fun v26=>bif v26.2.2.2.1.1.2.2.2.2.1==v26.2.1.1.2.1 then bif v26.2.2.2.1.1.2.2.2.2.2==v26.2.2.1.1.2.1 then some (v26.2.2.2.1.1.2.1==!(v26.2.1.1.1.1==v26.2.2.1.1.1.1&&(v26.2.1.1.1.2==v26.2.2.1.1.1.2&&true)),()) else some (false,()) else some (false,())) (fun v27=>some (v27.1.1,())) v25 else(pR (a1,a2,a3)).bind fun v29=>bif !v29.1 then fT.bind fun v31=>some (v31.1,()) else fT.bind fun v33=>bif !v33.1 then fT.bind fun v35=>some (v35.1,()) else(aHX (a1,a2,a3) a4).bind fun v37=>bif v37.2.2.1 != (0:Int) then some (true,()) else(G9 (a1,a2,a3) v37.1).bind fun v39=>bif !v39.2.1 then(aFC (a1,a2,a3)).bind fun v41=>(aFH v37.1 v41.1).bind fun v43=>some (v43.1,()) else(qJ (((),(),(),v39.1.1,(↑(List.length v39.1.1):Int),(0:Int),()),((a1,a2,a3),()),(v37.1,()),(v39.1,()),())).bind fun v44=>Sum.elim (fun v45=>bif v45.2.2.2.1.1.2.2.2.2.1==v45.2.1.1.2.1 then bif v45.2.2.2.1.1.2.2.2.2.2==v45.2.2.1.1.2.1 then some (v45.2.2.2.1.1.2.1==!(v45.2.1.1.1.1==v45.2.2.1.1.1.1&&(v45.2.1.1.1.2==v45.2.2.1.1.1.2&&true)),()) else some (false,()) else some (false,())) (fun v46=>some (v46.1.1,())) v44
theorem a1g (x:Ps [.ty aU,.ty I,.ty (.list aA),.ty kY]):dA CT HM [.bool] (cB CT HM) aH0 Tryz.f11 aDY (bQ [.ty aU,.ty I,.ty (.list aA),.ty kY] x)=OP x.1 x.2.1 x.2.2.1 x.2.2.2.1:=by kernel_rfl
def a1h:aW:=.fn 11 [] ⟨[.ty aU,.ty I,.ty (.list aA),.ty kY],[.bool],fun x=>OP x.1 x.2.1 x.2.2.1 x.2.2.2.1,false⟩
theorem a1i:a1h.Ok CT.P:=aW.ofFn aL WV (by kernel_rfl) (by kernel_rfl) aH1 a1g
end Go.DI.S
end
