import Derived.Test.YtbjldjihpekhaaaGreatAf
import Derived.Test.YtbjldjihpekhaaaGreatGa
import Derived.Test.YtbjldjihpekhaaaGreatOa
/- Commands: told by functions on data. No conditions. -/
set_option linter.unusedVariables false
set_option maxRecDepth 100000
set_option maxHeartbeats 0
noncomputable section
namespace Go.DI.S
open Go.Proofs
def aNX:Code:=Tryz.f193.body.getD .skip
def WK:Tb:=cC iL iM []
theorem WL:WK.Ok CT.P:=aQ (trivial)
def aHR:Code:=aX aNX 11
def aNY:Code:=aX aNX 4
abbrev u7:aF:=⟨68,[(1,.ptr 0),(2,.ptr 1),(3,.ptr 2),(4,.map 5),(14,.data (.list aA)),(15,.data I),(16,.data I)],[.var 51 [.data aD],.var 186 [.data bS],.var 186 [.data aU,.own aM 3,.own aP 4],.row 64 aM,.row 66 aP,.cE I I],fun s=>[aG s 1,aG s 2,aG s 3,dL s 3 2,dL s 3 3,aG s 4]⟩
abbrev WM:aF:=⟨68,[(1,.ptr 0),(2,.ptr 1),(3,.ptr 2),(4,.map 4)],[.var 51 [.data aD],.var 186 [.data bS],.var 186 [.data aU,.data (.list aM),.own aP 3],.row 66 aP,.cE I I],fun s=>[aG s 1,aG s 2,aG s 3,dL s 3 3,aG s 4]⟩
abbrev WN:aF:=l0 68
def aHS:=ex 0 0 WM WN [.nT 3 2 (.list aM)] []
def BO (fQ:Ty.El (.list aA))(jR:Ty.El I)(l6:Ty.El I)(b0:Ty.El aD×Unit)(b1:Ty.El bS×Unit)(b2:Ty.El aU×Unit×Unit×Unit)(b3:List (Ty.El aM))(b4:List (Ty.El aP))(b5:List (Ty.El I×Ty.El I)):Option (u7.El⊕(WM.El⊕WN.El)):=bif decide (l6<jR) then bif decide ((0:Int)≤l6∧l6<(↑(List.length fQ):Int)) then bif(List.getD fQ (Int.toNat l6) aA.dflt).2.1==(1:Int) then bif((b3.length+[(List.getD fQ (Int.toNat l6) aA.dflt).2.2.1].length)*(64:Nat)).ble (70368744177664:Nat) then some (Sum.inl (((),(),(),(),fQ,jR,IntKind.i64.wrap (l6+(1:Int)),()),(b0.1,()),(b1.1,()),(b2.1,(),(),()),b3++[(List.getD fQ (Int.toNat l6) aA.dflt).2.2.1],b4,lG I I (List.getD fQ (Int.toNat l6) aA.dflt).1 (↑b3.length:Int) b5,())) else none else some (Sum.inl (((),(),(),(),fQ,jR,IntKind.i64.wrap (l6+(1:Int)),()),(b0.1,()),(b1.1,()),(b2.1,(),(),()),b3,b4,b5,())) else none else some (Sum.inr (Sum.inl (((),(),(),(),()),(b0.1,()),(b1.1,()),(b2.1,b3,(),()),b4,b5,())))
theorem a08 (x:u7.El):aV CT WK (cB CT WK) iI aNY (u7.enc x) (bG (u7.lay [.cG 3 2 64 aM,.cG 3 3 66 aP]) aHS)=BO x.1.2.2.2.2.1 x.1.2.2.2.2.2.1 x.1.2.2.2.2.2.2.1 x.2.1 x.2.2.1 x.2.2.2.1 x.2.2.2.2.1 x.2.2.2.2.2.1 x.2.2.2.2.2.2.1:=by kernel_rfl
def aDV:u7.El→Option (WM.El⊕WN.El):=aH (fun x=>BO x.1.2.2.2.2.1 x.1.2.2.2.2.2.1 x.1.2.2.2.2.2.2.1 x.2.1 x.2.2.1 x.2.2.2.1 x.2.2.2.2.1 x.2.2.2.2.2.1 x.2.2.2.2.2.2.1) fuel
abbrev o5:aF:=⟨68,[(2,.ptr 0),(3,.ptr 1),(4,.map 3),(38,.data (.list aA)),(39,.data I),(40,.data I)],[.var 186 [.data bS],.var 186 [.data aU,.data (.list aM),.own aP 2],.row 66 aP,.cE I I],fun s=>[aG s 2,aG s 3,dL s 3 3,aG s 4]⟩
abbrev LD:aF:=⟨68,[(2,.ptr 0),(3,.ptr 1)],[.var 186 [.data bS],.var 186 [.data aU,.data (.list aM),.own aP 2],.row 66 aP],fun s=>[aG s 2,aG s 3,dL s 3 3]⟩
abbrev LF:aF:=l0 68
def aAu:=ex 0 2 LD LF [.cG 3 3 66 aP] []
def u9 (r38:Ty.El (.list aA))(r39:Ty.El I)(r40:Ty.El I)(b0:Ty.El bS×Unit)(b1:Ty.El aU×Ty.El (.list aM)×Unit×Unit)(b2:List (Ty.El aP))(b3:List (Ty.El I×Ty.El I)):Option (o5.El⊕(LD.El⊕LF.El)):=bif decide (r40<r39) then bif decide ((0:Int)≤r40∧r40<(↑(List.length r38):Int)) then bif(List.getD r38 (Int.toNat r40) aA.dflt).2.1==(2:Int) then bif((b2.length+[((fV I I (List.getD r38 (Int.toNat r40) aA.dflt).2.2.2.1.1 b3).getD (0:Int),(fV I I (List.getD r38 (Int.toNat r40) aA.dflt).2.2.2.1.2.1 b3).getD (0:Int),(List.getD r38 (Int.toNat r40) aA.dflt).2.2.2.1.2.2)].length)*(24:Nat)).ble (70368744177664:Nat) then some (Sum.inl (((),(),(),r38,r39,IntKind.i64.wrap (r40+(1:Int)),()),(b0.1,()),(b1.1,b1.2.1,(),()),b2++[((fV I I (List.getD r38 (Int.toNat r40) aA.dflt).2.2.2.1.1 b3).getD (0:Int),(fV I I (List.getD r38 (Int.toNat r40) aA.dflt).2.2.2.1.2.1 b3).getD (0:Int),(List.getD r38 (Int.toNat r40) aA.dflt).2.2.2.1.2.2)],b3,())) else none else some (Sum.inl (((),(),(),r38,r39,IntKind.i64.wrap (r40+(1:Int)),()),(b0.1,()),(b1.1,b1.2.1,(),()),b2,b3,())) else none else some (Sum.inr (Sum.inl (((),(),()),(b0.1,()),(b1.1,b1.2.1,(),()),b2,())))
theorem aW4 (x:o5.El):aV CT WK (cB CT WK) iI aHR (o5.enc x) (bG (o5.lay [.cG 3 3 66 aP]) aAu)=u9 x.1.2.2.2.1 x.1.2.2.2.2.1 x.1.2.2.2.2.2.1 x.2.1 x.2.2.1 x.2.2.2.1 x.2.2.2.2.1:=by kernel_rfl
def WO:o5.El→Option (LD.El⊕LF.El):=aH (fun x=>u9 x.1.2.2.2.1 x.1.2.2.2.2.1 x.1.2.2.2.2.2.1 x.2.1 x.2.2.1 x.2.2.2.1 x.2.2.2.2.1) fuel
def aW5 {β:Type}:dK β:=fun k s K=>if Nat.beq k 4 then bO (u7.lay [.cG 3 2 64 aM,.cG 3 3 66 aP]) aHS aDV s K else if Nat.beq k 11 then bO (o5.lay [.cG 3 3 66 aP]) aAu WO s K else none
theorem aQN {β:Type}:aC CT (aW5 (β:=β)) (aJ aNX):=aC.is [(4,aNY),(11,aHR)] (by kernel_rfl) (aC.cons (iW aL WL (bC (by kernel_rfl)) a08 rfl rfl) (aC.cons (iW aL WL (bC (by kernel_rfl)) aW4 rfl rfl) (aC.nil)))
def WQ (a1:Ty.El aD):Option (aS [bS]):=(aDV (((),(),(),(),a1.2.2,(↑(List.length a1.2.2):Int),(0:Int),()),(a1,()),((((0:Int),(0:Int)),[],[]),()),(a1.1,(),(),()),[],[],[],())).bind fun v1=>Sum.elim (fun v2=>(WO (((),(),(),v2.2.1.1.2.2,(↑(List.length v2.2.1.1.2.2):Int),(0:Int),()),(v2.2.2.1.1,()),(v2.2.2.2.1.1,v2.2.2.2.1.2.1,(),()),v2.2.2.2.2.1,v2.2.2.2.2.2.1,())).bind fun v3=>Sum.elim (fun v4=>some ((v4.2.2.1.1,v4.2.2.1.2.1,v4.2.2.2.1),())) (fun v5=>none) v3) (fun v6=>none) v1
theorem bDI (x:Ps [.ty aD]):dA CT WK [bS] (cB CT WK) aW5 Tryz.f193 aNX (bQ [.ty aD] x)=WQ x.1:=by kernel_rfl
def a3B:aW:=.fn 193 [] ⟨[.ty aD],[bS],fun x=>WQ x.1,false⟩
theorem a3C:a3B.Ok CT.P:=aW.ofFn aL WL (by kernel_rfl) (by kernel_rfl) aQN bDI
def OM (a1:Ty.El aM)(a2:Ty.El aM):Option (aS [.bool]):=bif a1.1==a2.1 then bif a1.2.1.1==a2.2.1.1&&(a1.2.1.2==a2.2.1.2&&true) then bif a1.2.2.1==a2.2.2.1 then(l5 a2).bind fun v2=>some (v2.1,()) else some (false,()) else some (false,()) else some (false,())
def aNZ:aW:=.fn 240 [] ⟨[.ty aM,.ty aM],[.bool],fun x=>OM x.1 x.2.1,false⟩
theorem a09:aNZ.Ok CT.P:=fn0 aL (B8 aO4) Tryz.f240 (by kernel_rfl) fun x=>by kernel_rfl
def aW6:Code:=Tryz.f194.body.getD .skip
def aHT:Tb:=cC iL iM [aBV,a3B,a4H,aNZ]
theorem aHU:aHT.Ok CT.P:=aQ (⟨JF,a3C,bAR,a09,trivial⟩)
def aN0:Code:=aX aW6 6
abbrev vA:aF:=⟨62,[(2,.ptr 0),(3,.ptr 2),(4,.ptr 3),(6,.data I),(28,.own aA 1),(29,.data I),(30,.data I)],[.var 51 [.data aU,.data I,.own aA 1],.row 68 aA,.var 186 [.data bS],.var 51 [.data aD]],fun s=>[aG s 2,dL s 2 3,aG s 3,aG s 4]⟩
abbrev WR:aF:=⟨62,[(2,.ptr 0),(4,.ptr 2)],[.var 51 [.data aU,.data I,.own aA 1],.row 68 aA,.var 51 [.data aD]],fun s=>[aG s 2,dL s 2 3,aG s 4]⟩
abbrev WS:aF:=⟨62,[(4,.ptr 0),(5,.data I)],[.var 51 [.data aD]],fun s=>[aG s 4]⟩
def aHV:=ex 0 0 WR WS [] []
def jU (r6:Ty.El I)(r29:Ty.El I)(r30:Ty.El I)(b0:Ty.El aU×Ty.El I×Unit×Unit)(b1:List (Ty.El aA))(b2:Ty.El bS×Unit)(b3:Ty.El aD×Unit):Option (vA.El⊕(WR.El⊕WS.El)):=bif decide (r30<r29) then bif decide ((0:Int)≤r30∧r30<(↑b1.length:Int)) then bif(b1.getD (Int.toNat r30) aA.dflt).2.1 != (1:Int) then some (Sum.inl (((),(),(),r6,(),r29,IntKind.i64.wrap (r30+(1:Int)),()),(b0.1,b0.2.1,(),()),b1,(b2.1,()),(b3.1,()),())) else bif decide ((0:Int)≤r6∧r6<(↑(List.length b2.1.2.1):Int)) then(OM (b1.getD (Int.toNat r30) aA.dflt).2.2.1 (List.getD b2.1.2.1 (Int.toNat r6) aM.dflt)).bind fun v2=>bif !v2.1 then some (Sum.inr (Sum.inr (((),(9:Int),()),((((0:Int),(0:Int)),(0:Int),[]),()),()))) else bif decide ((0:Int)≤r6∧r6<(↑(List.length b2.1.2.1):Int)) then bif decide ((0:Int)≤r30∧r30<(↑b1.length:Int)) then some (Sum.inl (((),(),(),IntKind.i64.wrap (r6+(1:Int)),(),r29,IntKind.i64.wrap (r30+(1:Int)),()),(b0.1,b0.2.1,(),()),b1.set (Int.toNat r30) ((b1.getD (Int.toNat r30) aA.dflt).1,(b1.getD (Int.toNat r30) aA.dflt).2.1,List.getD b2.1.2.1 (Int.toNat r6) aM.dflt,(b1.getD (Int.toNat r30) aA.dflt).2.2.2),(b2.1,()),(b3.1,()),())) else none else none else none else none else some (Sum.inr (Sum.inl (((),(),()),(b0.1,b0.2.1,(),()),b1,(b3.1,()),())))
theorem a1a (x:vA.El):aV CT aHT (cB CT aHT) iI aN0 (vA.enc x) (bG (vA.lay []) aHV)=jU x.1.2.2.2.1 x.1.2.2.2.2.2.1 x.1.2.2.2.2.2.2.1 x.2.1 x.2.2.1 x.2.2.2.1 x.2.2.2.2.1:=by kernel_rfl
def aN1:vA.El→Option (WR.El⊕WS.El):=aH (fun x=>jU x.1.2.2.2.1 x.1.2.2.2.2.2.1 x.1.2.2.2.2.2.2.1 x.2.1 x.2.2.1 x.2.2.2.1 x.2.2.2.2.1) fuel
def aW7 {β:Type}:dK β:=fun k s K=>if Nat.beq k 6 then bO (vA.lay []) aHV aN1 s K else none
theorem aQP {β:Type}:aC CT (aW7 (β:=β)) (aJ aW6):=aC.is [(6,aN0)] (by kernel_rfl) (aC.cons (iW aL aHU (bC (by kernel_rfl)) a1a rfl rfl) (aC.nil))
def aAv (a1:Ty.El aD)(a2:Ty.El bS):Option (aS [aD,I]):=(pR a1).bind fun v2=>bif !v2.1 then some ((((0:Int),(0:Int)),(0:Int),[]),(9:Int),()) else(WQ a1).bind fun v4=>bif(↑(List.length v4.1.2.1):Int) != (↑(List.length a2.2.1):Int) then some ((((0:Int),(0:Int)),(0:Int),[]),(9:Int),()) else(aPd a1.2.2).bind fun v6=>(aN1 (((),(),(),(0:Int),(),(↑v6.length:Int),(0:Int),()),(a1.1,a1.2.1,(),()),v6,(a2,()),((((0:Int),(0:Int)),(0:Int),[]),()),())).bind fun v8=>Sum.elim (fun v9=>some ((v9.2.1.1,v9.2.1.2.1,v9.2.2.1),(0:Int),())) (fun v10=>some (v10.2.1.1,v10.1.2.1,())) v8
theorem bDJ (x:Ps [.ty aD,.ty bS]):dA CT aHT [aD,I] (cB CT aHT) aW7 Tryz.f194 aW6 (bQ [.ty aD,.ty bS] x)=aAv x.1 x.2.1:=by kernel_rfl
def bDK:aW:=.fn 194 [] ⟨[.ty aD,.ty bS],[aD,I],fun x=>aAv x.1 x.2.1,false⟩
theorem bDL:bDK.Ok CT.P:=aW.ofFn aL aHU (by kernel_rfl) (by kernel_rfl) aQP bDJ
abbrev a1b:aF:=⟨1,[(0,.ptr 0)],[.var 140 [.data aR]],fun s=>[aG s 0]⟩
abbrev aHW:aF:=⟨3,[(0,.data aD),(1,.data I),(2,.data I)],[.var 140 [.data aR]],fun _=>[0]⟩
def aDW (b0:Ty.El aR×Unit):Option aHW.El:=(WQ b0.1.1).bind fun v2=>(G6 v2.1 b0.1.2.1.2.2.2.2.2.2.2.2.2.2.1).bind fun v4=>bif v4.2.2.1 != (0:Int) then some ((b0.1.1,(0:Int),v4.2.2.1,()),(b0.1,()),()) else(aAv b0.1.1 v4.1).bind fun v6=>some ((v6.1,(0:Int),v6.2.1,()),(b0.1,()),())
def a8z:aW:=.dV 142 [] ⟨1,[],a1b,aHW,fun x=>aDW x.2.1⟩
theorem a8A:a8z.Ok CT.P:=BV (C:=(bY 1)) (aY 1) (tb3 a3C bDl bDL) [.jX 0 aD] Tryz.f142 (by kernel_rfl) fun x=>by kernel_rfl
abbrev a8B:aF:=⟨1,[(0,.ptr 0)],[.var 140 [.data aR]],fun s=>[aG s 0]⟩
abbrev aN2:aF:=⟨3,[(0,.data aD),(1,.data I),(2,.data I)],[.var 140 [.data aR]],fun _=>[0]⟩
def aN3 (b0:Ty.El aR×Unit):Option aN2.El:=bif b0.1.2.1.1==(1:Int) then(aJq (b0.1,())).bind fun v2=>(R6 v2.1.1 (v2.2.1.1,())).bind fun v8=>some ((v8.1.1,v8.1.2.1,v8.1.2.2.1,()),(v8.2.1.1,()),()) else bif b0.1.2.1.1==(2:Int) then(aJT b0.1.1 b0.1.2.1.2.1).bind fun fL=>some ((fL.1,(0:Int),fL.2.1,()),(b0.1,()),()) else bif b0.1.2.1.1==(3:Int) then(pZ (b0.1,())).bind fun v20=>some ((v20.1.1,v20.1.2.1,v20.1.2.2.1,()),(v20.2.1.1,()),()) else bif b0.1.2.1.1==(4:Int) then(R6 ((0:Int),(2:Int),((0:Int),((0:Int),(0:Int)),(0:Int),((0:Int),(0:Int)),(0:Int),(0:Int)),(b0.1.2.1.2.1,b0.1.2.1.2.2.1,b0.1.2.2.2.2.1),[]) (b0.1,())).bind fun v30=>some ((v30.1.1,v30.1.2.1,v30.1.2.2.1,()),(v30.2.1.1,()),()) else bif b0.1.2.1.1==(5:Int) then(ZD b0.1.1 b0.1.2.1.2.2.2.2.2.2.2.2.2.2.2).bind fun v40=>some ((v40.1,v40.2.1,v40.2.2.1,()),(b0.1,()),()) else bif b0.1.2.1.1==(6:Int) then(DX (b0.1,())).bind fun v42=>some ((v42.1.1,v42.1.2.1,v42.1.2.2.1,()),(v42.2.1.1,()),()) else bif b0.1.2.1.1==(7:Int) then(aPD b0.1).bind fun v52=>(aJJ b0.1.1 b0.1.2.1.2.1 v52.1).bind fun v54=>some ((v54.1,v54.2.1,v54.2.2.1,()),(b0.1,()),()) else bif b0.1.2.1.1==(8:Int) then(aPD b0.1).bind fun v56=>(pR (v56.1,b0.1.1.2)).bind fun v58=>bif !v58.1 then some (((v56.1,b0.1.1.2),(0:Int),(9:Int),()),(b0.1,()),()) else(vV b0.1.1.2.2).bind fun v60=>some (((v56.1,b0.1.1.2.1,v60),(0:Int),(0:Int),()),(b0.1,()),()) else bif b0.1.2.1.1==(9:Int) then(p8 (b0.1,())).bind fun v62=>some ((v62.1.1,v62.1.2.1,v62.1.2.2.1,()),(v62.2.1.1,()),()) else(aDW (b0.1,())).bind fun v72=>some ((v72.1.1,v72.1.2.1,v72.1.2.2.1,()),(v72.2.1.1,()),())
def bDM:aW:=.dV 90 [] ⟨1,[],a8B,aN2,fun x=>aN3 x.2.1⟩
theorem bDN:bDM.Ok CT.P:=BV (C:=(bY 1)) (aY 1) (bFy a5G a5I bHc bB5 a5R aUM aUP bG6 JF aCs a5E a8A) [.jX 0 aD] Tryz.f90 (by kernel_rfl) fun x=>by kernel_rfl
def aHX (a1:Ty.El aD)(a2:Ty.El kY):Option (aS [aD,I,I]):=bif decide (a2.1<(1:Int)) then some (a1,(0:Int),(9:Int),()) else bif decide (a2.1>(10:Int)) then some (a1,(0:Int),(9:Int),()) else(pR a1).bind fun v2=>bif !v2.1 then some (a1,(0:Int),(9:Int),()) else(F4 ((a1,a2,(0:Int),(0:Int),(0:Int),(0:Int),(0:Int)),())).bind fun v4=>bif v4.1.1 != (0:Int) then some (a1,(0:Int),v4.1.1,()) else(aN3 (v4.2.1.1,())).bind fun v12=>bif v12.1.2.2.1 != (0:Int) then some (a1,(0:Int),v12.1.2.2.1,()) else some (v12.1.1,v12.1.2.1,(0:Int),())
def a3D:aW:=.fn 25 [] ⟨[.ty aD,.ty kY],[aD,I,I],fun x=>aHX x.1 x.2.1,false⟩
theorem bDO:a3D.Ok CT.P:=fn0 aL (tb3 JF aZA bDN) Tryz.f25 (by kernel_rfl) fun x=>by kernel_rfl
end Go.DI.S
end
