import Derived.Test.YtbjldjihpekhaaaGreatNe
/- kin.Drop, told by functions on data. No conditions. -/
set_option linter.unusedVariables false
set_option maxRecDepth 100000
set_option maxHeartbeats 0
noncomputable section
namespace Go.DI.S
open Go.Proofs
abbrev a6g:aF:=⟨2,[(0,.data I),(1,.ptr 0)],[.var 189 [.map 1],.cE I .bool],fun s=>[aG s 1,dL s 1 0]⟩
abbrev aMU:aF:=⟨1,[(0,.data .bool)],[.var 189 [.map 1],.cE I .bool],fun _=>[0,1]⟩
def aUQ (a0:Ty.El I)(b0:Unit×Unit)(b1:List (Ty.El I×Ty.El (.bool))):Option aMU.El:=some ((!(fV I Ty.bool a0 b1).getD false,()),((),()),b1,())
def a2Y:aW:=.dV 223 [] ⟨2,[],a6g,aMU,fun x=>aUQ x.1.1 x.2.1 x.2.2.1⟩
theorem bCv:a2Y.Ok CT.P:=BV (C:=(bY 2)) (aY 2) zN [] Tryz.f223 (by kernel_rfl) fun x=>by kernel_rfl
abbrev bCw:aF:=⟨2,[(0,.data I),(1,.ptr 0)],[.var 189 [.map 1],.cE I .bool],fun s=>[aG s 1,dL s 1 0]⟩
abbrev aUR:aF:=⟨1,[(0,.data .bool)],[.var 189 [.map 1],.cE I .bool],fun _=>[0,1]⟩
def aZT (a0:Ty.El I)(b0:Unit×Unit)(b1:List (Ty.El I×Ty.El (.bool))):Option aUR.El:=some (((fV I Ty.bool a0 b1).getD false,()),((),()),b1,())
def a6h:aW:=.dV 176 [] ⟨2,[],bCw,aUR,fun x=>aZT x.1.1 x.2.1 x.2.2.1⟩
theorem bCx:a6h.Ok CT.P:=BV (C:=(bY 2)) (aY 2) zN [] Tryz.f176 (by kernel_rfl) fun x=>by kernel_rfl
def J8:Code:=Tryz.f224.body.getD .skip
abbrev D8:aF:=⟨2,[(0,.data (.list I)),(1,.eG 223 [0])],[.var 189 [.map 1],.cE I .bool],fun s=>[sH s 1,aLz s 1]⟩
abbrev yN:aF:=⟨1,[(0,.data I)],[.var 189 [.map 1],.cE I .bool],fun _=>[0,1]⟩
def tM:Tb:=cC iL iM [a2Y]
theorem GA:tM.Ok CT.P:=aQ (⟨bCv,trivial⟩)
def MF:Code:=aX J8 2
abbrev jB:aF:=⟨19,[(0,.data (.list I)),(1,.eG 223 [0]),(7,.data I),(8,.data I)],[.var 189 [.map 1],.cE I .bool],fun s=>[0,1]⟩
abbrev wG:aF:=⟨19,[],[.var 189 [.map 1],.cE I .bool],fun s=>[0,1]⟩
abbrev wH:aF:=⟨19,[(4,.data I)],[.var 189 [.map 1],.cE I .bool],fun s=>[0,1]⟩
def GC:=ex 2 0 wG wH [] []
def m9 (r0:Ty.El (.list I))(r7:Ty.El I)(r8:Ty.El I)(b0:Unit×Unit)(b1:List (Ty.El I×Ty.El (.bool))):Option (jB.El⊕(wG.El⊕wH.El)):=bif decide (r8<r7) then bif decide ((0:Int)≤r8∧r8<(↑(List.length r0):Int)) then(aUQ (List.getD r0 (Int.toNat r8) (0:Int)) ((),()) b1).bind fun v2=>bif v2.1.1 then some (Sum.inr (Sum.inr ((r8,()),((),()),v2.2.2.1,()))) else some (Sum.inl ((r0,(),r7,IntKind.i64.wrap (r8+(1:Int)),()),((),()),v2.2.2.1,())) else none else some (Sum.inr (Sum.inl ((),((),()),b1,())))
theorem aGu (x:jB.El):aV (bY 2) tM (cB (bY 2) tM) iI MF (jB.enc x) (bG (jB.lay []) GC)=m9 x.1.1 x.1.2.2.1 x.1.2.2.2.1 x.2.1 x.2.2.1:=by kernel_rfl
def yO:jB.El→Option (wG.El⊕wH.El):=aH (fun x=>m9 x.1.1 x.1.2.2.1 x.1.2.2.2.1 x.2.1 x.2.2.1) fuel
def TI {β:Type}:dK β:=fun k s K=>if Nat.beq k 2 then bO (jB.lay []) GC yO s K else none
theorem XN {β:Type}:aC (bY 2) (TI (β:=β)) (aJ J8):=aC.is [(2,MF)] (by kernel_rfl) (aC.cons (iW (aY 2) GA (bC (by kernel_rfl)) aGu rfl rfl) (aC.nil))
def tN (a0:Ty.El (.list I))(b0:Unit×Unit)(b1:List (Ty.El I×Ty.El (.bool))):Option yN.El:=(yO ((a0,(),(↑(List.length a0):Int),(0:Int),()),((),()),b1,())).bind fun v1=>Sum.elim (fun v2=>some (((-1:Int),()),((),()),v2.2.2.1,())) (fun v3=>some ((v3.1.1,()),((),()),v3.2.2.1,())) v1
theorem aPO (x:D8.El):kE (bY 2) tM D8 yN [] (cB (bY 2) tM) TI Tryz.f224 J8 x=tN x.1.1 x.2.1 x.2.2.1:=by kernel_rfl
def aPP:aW:=.dV 224 [223] ⟨2,[],D8,yN,fun x=>tN x.1.1 x.2.1 x.2.2.1⟩
theorem aPQ:aPP.Ok CT.P:=aW.lI (C:=(bY 2)) (steps:=[]) (cN:=[]) (aY 2) GA (by kernel_rfl) (by kernel_rfl) XN aPO
abbrev aPR:aF:=⟨2,[(0,.data (.list I)),(1,.eG 223 [0])],[.var 189 [.map 1],.cE I .bool],fun s=>[sH s 1,aLz s 1]⟩
abbrev TJ:aF:=⟨1,[(0,.data .bool)],[.var 189 [.map 1],.cE I .bool],fun _=>[0,1]⟩
def GD (a0:Ty.El (.list I))(b0:Unit×Unit)(b1:List (Ty.El I×Ty.El (.bool))):Option TJ.El:=(tN a0 ((),()) b1).bind fun v2=>some ((decide (v2.1.1≥(0:Int)),()),((),()),v2.2.2.1,())
def aUS:aW:=.dV 182 [223] ⟨2,[],aPR,TJ,fun x=>GD x.1.1 x.2.1 x.2.2.1⟩
theorem aUT:aUS.Ok CT.P:=BV (C:=(bY 2)) (aY 2) (B8 aPQ) [] Tryz.f182 (by kernel_rfl) fun x=>by kernel_rfl
abbrev bCy:aF:=⟨2,[(0,.data aA),(1,.map 0)],[.cE I .bool],fun s=>[aG s 1]⟩
abbrev aUU:aF:=⟨1,[(0,.data .bool)],[.cE I .bool],fun _=>[0]⟩
def aZU (a0:Ty.El aA)(b0:List (Ty.El I×Ty.El (.bool))):Option aUU.El:=bif a0.2.1==(2:Int) then bif(fV I Ty.bool a0.2.2.2.1.1 b0).getD false then some ((true,()),b0,()) else some (((fV I Ty.bool a0.2.2.2.1.2.1 b0).getD false,()),b0,()) else bif a0.2.1==(3:Int) then(GD a0.2.2.2.2 ((),()) b0).bind fun v2=>some ((!v2.1.1,()),v2.2.2.1,()) else some ((false,()),b0,())
def bCz:aW:=.dV 174 [] ⟨1,[],bCy,aUU,fun x=>aZU x.1.1 x.2.1⟩
theorem bG7:bCz.Ok CT.P:=BV (C:=(bY 1)) (aY 1) (B8 aUT) [] Tryz.f174 (by kernel_rfl) fun x=>by kernel_rfl
def J9:Code:=Tryz.f224.body.getD .skip
abbrev D9:aF:=⟨2,[(0,.own I 2),(1,.eG 176 [0])],[.var 189 [.map 1],.cE I .bool,.row 3 I],fun s=>[sH s 1,aLz s 1,aG s 0]⟩
abbrev yP:aF:=⟨1,[(0,.data I)],[.var 189 [.map 1],.cE I .bool,.row 3 I],fun _=>[0,1,2]⟩
def tO:Tb:=cC iL iM [a6h]
theorem GF:tO.Ok CT.P:=aQ (⟨bCx,trivial⟩)
def MG:Code:=aX J9 2
abbrev jC:aF:=⟨19,[(0,.own I 2),(1,.eG 176 [0]),(7,.data I),(8,.data I)],[.var 189 [.map 1],.cE I .bool,.row 3 I],fun s=>[0,1,2]⟩
abbrev wI:aF:=⟨19,[],[.var 189 [.map 1],.cE I .bool,.row 3 I],fun s=>[0,1,2]⟩
abbrev wJ:aF:=⟨19,[(4,.data I)],[.var 189 [.map 1],.cE I .bool,.row 3 I],fun s=>[0,1,2]⟩
def GG:=ex 3 0 wI wJ [] []
def nA (r7:Ty.El I)(r8:Ty.El I)(b0:Unit×Unit)(b1:List (Ty.El I×Ty.El (.bool)))(b2:List (Ty.El I)):Option (jC.El⊕(wI.El⊕wJ.El)):=bif decide (r8<r7) then bif decide ((0:Int)≤r8∧r8<(↑b2.length:Int)) then(aZT (b2.getD (Int.toNat r8) (0:Int)) ((),()) b1).bind fun v2=>bif v2.1.1 then some (Sum.inr (Sum.inr ((r8,()),((),()),v2.2.2.1,b2,()))) else some (Sum.inl (((),(),r7,IntKind.i64.wrap (r8+(1:Int)),()),((),()),v2.2.2.1,b2,())) else none else some (Sum.inr (Sum.inl ((),((),()),b1,b2,())))
theorem aGv (x:jC.El):aV (bY 3) tO (cB (bY 3) tO) iI MG (jC.enc x) (bG (jC.lay []) GG)=nA x.1.2.2.1 x.1.2.2.2.1 x.2.1 x.2.2.1 x.2.2.2.1:=by kernel_rfl
def yQ:jC.El→Option (wI.El⊕wJ.El):=aH (fun x=>nA x.1.2.2.1 x.1.2.2.2.1 x.2.1 x.2.2.1 x.2.2.2.1) fuel
def TK {β:Type}:dK β:=fun k s K=>if Nat.beq k 2 then bO (jC.lay []) GG yQ s K else none
theorem XO {β:Type}:aC (bY 3) (TK (β:=β)) (aJ J9):=aC.is [(2,MG)] (by kernel_rfl) (aC.cons (iW (aY 3) GF (bC (by kernel_rfl)) aGv rfl rfl) (aC.nil))
def tP (b0:Unit×Unit)(b1:List (Ty.El I×Ty.El (.bool)))(b2:List (Ty.El I)):Option yP.El:=(yQ (((),(),(↑b2.length:Int),(0:Int),()),((),()),b1,b2,())).bind fun v1=>Sum.elim (fun v2=>some (((-1:Int),()),((),()),v2.2.2.1,v2.2.2.2.1,())) (fun v3=>some ((v3.1.1,()),((),()),v3.2.2.1,v3.2.2.2.1,())) v1
theorem aPS (x:D9.El):kE (bY 3) tO D9 yP [] (cB (bY 3) tO) TK Tryz.f224 J9 x=tP x.2.1 x.2.2.1 x.2.2.2.1:=by kernel_rfl
def ZQ:aW:=.dV 224 [176] ⟨3,[.bU 0 3 I,.dJ 0 3 I],D9,yP,fun x=>tP x.2.1 x.2.2.1 x.2.2.2.1⟩
theorem aPT:ZQ.Ok CT.P:=aW.lI (C:=(bY 3)) (steps:=[.bU 0 3 I,.dJ 0 3 I]) (cN:=[]) (aY 3) GF (by kernel_rfl) (by kernel_rfl) XO aPS
def aUV:Code:=Tryz.f175.body.getD .skip
abbrev aJQ:aF:=⟨2,[(0,.own I 2),(1,.eG 176 [0])],[.var 189 [.map 1],.cE I .bool,.row 3 I],fun s=>[sH s 1,aLz s 1,aG s 0]⟩
abbrev N7:aF:=⟨1,[(0,.data (.list I))],[.var 189 [.map 1],.cE I .bool],fun _=>[0,1]⟩
def aGw:Tb:=cC iL iM [ZQ,a6h]
theorem aGx:aGw.Ok CT.P:=aQ (⟨aPT,bCx,trivial⟩)
def aMV:Code:=aX aUV 5
abbrev tQ:aF:=⟨42,[(0,.own I 2),(1,.eG 176 [0]),(5,.data I),(6,.data I)],[.var 189 [.map 1],.cE I .bool,.row 3 I],fun s=>[0,1,2]⟩
abbrev TL:aF:=⟨42,[(0,.own I 2),(5,.data I)],[.var 189 [.map 1],.cE I .bool,.row 3 I],fun s=>[0,1,2]⟩
abbrev TM:aF:=l0 42
def aGy:=ex 2 0 TL TM [] []
def AR (r5:Ty.El I)(r6:Ty.El I)(b0:Unit×Unit)(b1:List (Ty.El I×Ty.El (.bool)))(b2:List (Ty.El I)):Option (tQ.El⊕(TL.El⊕TM.El)):=bif decide (r6<(↑b2.length:Int)) then bif decide ((0:Int)≤r6∧r6<(↑b2.length:Int)) then(aZT (b2.getD (Int.toNat r6) (0:Int)) ((),()) b1).bind fun v2=>bif !v2.1.1 then bif decide ((0:Int)≤r5∧r5<(↑b2.length:Int)) then some (Sum.inl (((),(),IntKind.i64.wrap (r5+(1:Int)),IntKind.i64.wrap (r6+(1:Int)),()),((),()),v2.2.2.1,b2.set (Int.toNat r5) (b2.getD (Int.toNat r6) (0:Int)),())) else none else some (Sum.inl (((),(),r5,IntKind.i64.wrap (r6+(1:Int)),()),((),()),v2.2.2.1,b2,())) else none else some (Sum.inr (Sum.inl (((),r5,()),((),()),b1,b2,())))
theorem aZV (x:tQ.El):aV (bY 2) aGw (cB (bY 2) aGw) iI aMV (tQ.enc x) (bG (tQ.lay []) aGy)=AR x.1.2.2.1 x.1.2.2.2.1 x.2.1 x.2.2.1 x.2.2.2.1:=by kernel_rfl
def aCI:tQ.El→Option (TL.El⊕TM.El):=aH (fun x=>AR x.1.2.2.1 x.1.2.2.2.1 x.2.1 x.2.2.1 x.2.2.2.1) fuel
def aUW {β:Type}:dK β:=fun k s K=>if Nat.beq k 5 then bO (tQ.lay []) aGy aCI s K else none
theorem aPU {β:Type}:aC (bY 2) (aUW (β:=β)) (aJ aUV):=aC.is [(5,aMV)] (by kernel_rfl) (aC.cons (iW (aY 2) aGx (bC (by kernel_rfl)) aZV rfl rfl) (aC.nil))
def aGz (b0:Unit×Unit)(b1:List (Ty.El I×Ty.El (.bool)))(b2:List (Ty.El I)):Option N7.El:=(tP ((),()) b1 b2).bind fun v2=>bif v2.1.1==(-1:Int) then some ((v2.2.2.2.1,()),((),()),v2.2.2.1,()) else(aCI (((),(),v2.1.1,IntKind.i64.wrap (v2.1.1+(1:Int)),()),((),()),v2.2.2.1,v2.2.2.2.1,())).bind fun v17=>Sum.elim (fun fL=>bif decide ((0:Int)≤fL.1.2.1∧fL.1.2.1≤(↑(List.length fL.2.2.2.1):Int)) then bif(Int.toNat fL.1.2.1).blt (List.length fL.2.2.2.1) then bif true&&((Int.toNat fL.1.2.1*(1:Nat)+(List.length fL.2.2.2.1-Int.toNat fL.1.2.1)).beq (List.length fL.2.2.2.1)&&(Nat.blt (0:Nat) (List.length fL.2.2.2.1)&&true)) then bif decide ((0:Int)≤fL.1.2.1∧fL.1.2.1≤(↑(List.take (Int.toNat fL.1.2.1*(1:Nat)) fL.2.2.2.1++List.replicate (List.length fL.2.2.2.1-Int.toNat fL.1.2.1) (0:Int)).length:Int)) then bif Nat.blt (0:Nat) (List.take (Int.toNat fL.1.2.1*(1:Nat)) fL.2.2.2.1++List.replicate (List.length fL.2.2.2.1-Int.toNat fL.1.2.1) (0:Int)).length then some ((List.take (Int.toNat fL.1.2.1) (List.take (Int.toNat fL.1.2.1*(1:Nat)) fL.2.2.2.1++List.replicate (List.length fL.2.2.2.1-Int.toNat fL.1.2.1) (0:Int)),()),((),()),fL.2.2.1,()) else none else none else none else none else none) (fun v24=>none) v17
theorem bCA (x:aJQ.El):kE (bY 2) aGw aJQ N7 [.jX 0 (.list I)] (cB (bY 2) aGw) aUW Tryz.f175 aUV x=aGz x.2.1 x.2.2.1 x.2.2.2.1:=by kernel_rfl
def a2Z:aW:=.dV 175 [176] ⟨2,[.bU 0 3 I,.dJ 0 3 I],aJQ,N7,fun x=>aGz x.2.1 x.2.2.1 x.2.2.2.1⟩
theorem bCB:a2Z.Ok CT.P:=aW.lI (C:=(bY 2)) (steps:=[.bU 0 3 I,.dJ 0 3 I]) (cN:=[.jX 0 (.list I)]) (aY 2) aGx (by kernel_rfl) (by kernel_rfl) aPU bCA
def aUX:Code:=Tryz.f133.body.getD .skip
def TN:Tb:=cC iL iM [aBV,Y2,a5C,aSM,bCz,a2Z]
theorem GH:TN.Ok CT.P:=aQ (⟨JF,Q0,bB1,aSN,bG7,bCB,trivial⟩)
def aMW:Code:=aX aUX 22
def N8:Code:=aX aUX 13
def aUY:Code:=aX aUX 8
def aMX:Code:=aX N8 15
abbrev tT:aF:=⟨93,[(2,.ptr 0),(4,.ptr 1),(8,.ptr 2),(43,.data I),(44,.data I),(47,.data (.list aA)),(48,.data I),(49,.data I)],[.var 51 [.data aD],.var 51 [.data aD],.var 189 [.map 3],.cE I .bool],fun s=>[aG s 2,aG s 4,aG s 8,dL s 8 0]⟩
abbrev TP:aF:=⟨93,[(2,.ptr 0),(4,.ptr 1),(8,.ptr 2),(43,.data I),(44,.data I)],[.var 51 [.data aD],.var 51 [.data aD],.var 189 [.map 3],.cE I .bool],fun s=>[aG s 2,aG s 4,aG s 8,dL s 8 0]⟩
abbrev TQ:aF:=l0 93
def aGA:=ex 0 4 TP TQ [] []
def GI (r43:Ty.El I)(r44:Ty.El I)(r47:Ty.El (.list aA))(Y3:Ty.El I)(H9:Ty.El I)(b0:Ty.El aD×Unit)(b1:Ty.El aD×Unit)(b2:Unit×Unit)(b3:List (Ty.El I×Ty.El (.bool))):Option (tT.El⊕(TP.El⊕TQ.El)):=bif decide (H9<Y3) then bif decide ((0:Int)≤H9∧H9<(↑(List.length r47):Int)) then bif(fV I Ty.bool (List.getD r47 (Int.toNat H9) aA.dflt).1 b3).getD false then some (Sum.inl (((),(),(),r43,r44,r47,Y3,IntKind.i64.wrap (H9+(1:Int)),()),(b0.1,()),(b1.1,()),((),()),lG I Ty.bool (List.getD r47 (Int.toNat H9) aA.dflt).1 true b3,())) else(aZU (List.getD r47 (Int.toNat H9) aA.dflt) b3).bind fun v2=>some (Sum.inl (((),(),(),r43,r44,r47,Y3,IntKind.i64.wrap (H9+(1:Int)),()),(b0.1,()),(b1.1,()),((),()),lG I Ty.bool (List.getD r47 (Int.toNat H9) aA.dflt).1 v2.1.1 v2.2.1,())) else none else some (Sum.inr (Sum.inl (((),(),(),r43,r44,()),(b0.1,()),(b1.1,()),((),()),b3,())))
theorem aZW (x:tT.El):aV CT TN (cB CT TN) iI aMX (tT.enc x) (bG (tT.lay []) aGA)=GI x.1.2.2.2.1 x.1.2.2.2.2.1 x.1.2.2.2.2.2.1 x.1.2.2.2.2.2.2.1 x.1.2.2.2.2.2.2.2.1 x.2.1 x.2.2.1 x.2.2.2.1 x.2.2.2.2.1:=by kernel_rfl
def aCJ:tT.El→Option (TP.El⊕TQ.El):=aH (fun x=>GI x.1.2.2.2.1 x.1.2.2.2.2.1 x.1.2.2.2.2.2.1 x.1.2.2.2.2.2.2.1 x.1.2.2.2.2.2.2.2.1 x.2.1 x.2.2.1 x.2.2.2.1 x.2.2.2.2.1) fuel
abbrev AU:aF:=⟨93,[(2,.ptr 0),(4,.ptr 1),(8,.ptr 2),(32,.data (.list I)),(33,.data I),(34,.data I)],[.var 51 [.data aD],.var 51 [.data aD],.var 189 [.map 3],.cE I .bool],fun s=>[aG s 2,aG s 4,aG s 8,dL s 8 0]⟩
abbrev aCK:aF:=⟨93,[(2,.ptr 0),(4,.ptr 1),(8,.ptr 2)],[.var 51 [.data aD],.var 51 [.data aD],.var 189 [.map 3],.cE I .bool],fun s=>[aG s 2,aG s 4,aG s 8,dL s 8 0]⟩
abbrev aCL:aF:=l0 93
def aMY:=ex 0 0 aCK aCL [] []
def TR (r32:Ty.El (.list I))(r33:Ty.El I)(r34:Ty.El I)(b0:Ty.El aD×Unit)(b1:Ty.El aD×Unit)(b2:Unit×Unit)(b3:List (Ty.El I×Ty.El (.bool))):Option (AU.El⊕(aCK.El⊕aCL.El)):=bif decide (r34<r33) then bif decide ((0:Int)≤r34∧r34<(↑(List.length r32):Int)) then some (Sum.inl (((),(),(),r32,r33,IntKind.i64.wrap (r34+(1:Int)),()),(b0.1,()),(b1.1,()),((),()),lG I Ty.bool (List.getD r32 (Int.toNat r34) (0:Int)) true b3,())) else none else some (Sum.inr (Sum.inl (((),(),(),()),(b0.1,()),(b1.1,()),((),()),b3,())))
theorem a6i (x:AU.El):aV CT TN (cB CT TN) iI aUY (AU.enc x) (bG (AU.lay []) aMY)=TR x.1.2.2.2.1 x.1.2.2.2.2.1 x.1.2.2.2.2.2.1 x.2.1 x.2.2.1 x.2.2.2.1 x.2.2.2.2.1:=by kernel_rfl
def aJR:AU.El→Option (aCK.El⊕aCL.El):=aH (fun x=>TR x.1.2.2.2.1 x.1.2.2.2.2.1 x.1.2.2.2.2.2.1 x.2.1 x.2.2.1 x.2.2.2.1 x.2.2.2.2.1) fuel
abbrev tU:aF:=⟨93,[(2,.ptr 0),(4,.ptr 1),(8,.ptr 2),(43,.data I),(44,.data I)],[.var 51 [.data aD],.var 51 [.data aD],.var 189 [.map 3],.cE I .bool],fun s=>[aG s 2,aG s 4,aG s 8,dL s 8 0]⟩
abbrev TS:aF:=⟨93,[(2,.ptr 0),(4,.ptr 1),(8,.ptr 2)],[.var 51 [.data aD],.var 51 [.data aD],.var 189 [.map 3],.cE I .bool],fun s=>[aG s 2,aG s 4,aG s 8,dL s 8 0]⟩
abbrev TT:aF:=l0 93
def aGB:=ex 0 2 TS TT [] []
def ZR {β:Type}:dK β:=fun k s K=>if Nat.beq k 15 then bO (tT.lay []) aGA aCJ s K else none
theorem aCM {β:Type}:aC CT (ZR (β:=β)) (aJ N8):=aC.is [(15,aMX)] (by kernel_rfl) (aC.cons (iW aL GH (bC (by kernel_rfl)) aZW rfl rfl) (aC.nil))
def GJ (r43:Ty.El I)(r44:Ty.El I)(b0:Ty.El aD×Unit)(b1:Ty.El aD×Unit)(b2:Unit×Unit)(b3:List (Ty.El I×Ty.El (.bool))):Option (tU.El⊕(TS.El⊕TT.El)):=bif decide (r44<r43) then(aCJ (((),(),(),r43,r44,b0.1.2.2,(↑(List.length b0.1.2.2):Int),(0:Int),()),(b0.1,()),(b1.1,()),((),()),b3,())).bind fun v1=>Sum.elim (fun v2=>some (Sum.inl (((),(),(),v2.1.2.2.2.1,IntKind.i64.wrap (v2.1.2.2.2.2.1+(1:Int)),()),(v2.2.1.1,()),(v2.2.2.1.1,()),((),()),v2.2.2.2.2.1,()))) (fun v3=>some (Sum.inr (Sum.inr ((),())))) v1 else some (Sum.inr (Sum.inl (((),(),(),()),(b0.1,()),(b1.1,()),((),()),b3,())))
theorem aZX (x:tU.El):aV CT TN (cB CT TN) ZR N8 (tU.enc x) (bG (tU.lay []) aGB)=GJ x.1.2.2.2.1 x.1.2.2.2.2.1 x.2.1 x.2.2.1 x.2.2.2.1 x.2.2.2.2.1:=by kernel_rfl
def aCN:tU.El→Option (TS.El⊕TT.El):=aH (fun x=>GJ x.1.2.2.2.1 x.1.2.2.2.2.1 x.2.1 x.2.2.1 x.2.2.2.1 x.2.2.2.2.1) fuel
abbrev tV:aF:=⟨93,[(2,.ptr 0),(4,.ptr 1),(8,.ptr 2),(13,.own aA 4),(68,.data (.list aA)),(69,.data I),(70,.data I)],[.var 51 [.data aD],.var 51 [.data aD],.var 189 [.map 3],.cE I .bool,.row 68 aA],fun s=>[aG s 2,aG s 4,aG s 8,dL s 8 0,aG s 13]⟩
abbrev TU:aF:=⟨93,[(2,.ptr 0),(4,.ptr 1),(13,.own aA 2)],[.var 51 [.data aD],.var 51 [.data aD],.row 68 aA],fun s=>[aG s 2,aG s 4,aG s 13]⟩
abbrev TV:aF:=l0 93
def aGC:=ex 0 6 TU TV [.bU 13 68 aA] []
def GK (r68:Ty.El (.list aA))(r69:Ty.El I)(r70:Ty.El I)(b0:Ty.El aD×Unit)(b1:Ty.El aD×Unit)(b2:Unit×Unit)(b3:List (Ty.El I×Ty.El (.bool)))(b4:List (Ty.El aA)):Option (tV.El⊕(TU.El⊕TV.El)):=bif decide (r70<r69) then bif decide ((0:Int)≤r70∧r70<(↑(List.length r68):Int)) then bif !(fV I Ty.bool (List.getD r68 (Int.toNat r70) aA.dflt).1 b3).getD false then(FL (List.getD r68 (Int.toNat r70) aA.dflt).2.2.2.2).bind fun v2=>(aGz ((),()) b3 v2).bind fun v4=>bif((b4.length+[((List.getD r68 (Int.toNat r70) aA.dflt).1,(List.getD r68 (Int.toNat r70) aA.dflt).2.1,(List.getD r68 (Int.toNat r70) aA.dflt).2.2.1,(List.getD r68 (Int.toNat r70) aA.dflt).2.2.2.1,v4.1.1)].length)*(128:Nat)).ble (70368744177664:Nat) then some (Sum.inl (((),(),(),(),r68,r69,IntKind.i64.wrap (r70+(1:Int)),()),(b0.1,()),(b1.1,()),((),()),v4.2.2.1,b4++[((List.getD r68 (Int.toNat r70) aA.dflt).1,(List.getD r68 (Int.toNat r70) aA.dflt).2.1,(List.getD r68 (Int.toNat r70) aA.dflt).2.2.1,(List.getD r68 (Int.toNat r70) aA.dflt).2.2.2.1,v4.1.1)],())) else none else some (Sum.inl (((),(),(),(),r68,r69,IntKind.i64.wrap (r70+(1:Int)),()),(b0.1,()),(b1.1,()),((),()),b3,b4,())) else none else some (Sum.inr (Sum.inl (((),(),(),()),(b0.1,()),(b1.1,()),b4,())))
theorem aZY (x:tV.El):aV CT TN (cB CT TN) iI aMW (tV.enc x) (bG (tV.lay [.bU 13 68 aA]) aGC)=GK x.1.2.2.2.2.1 x.1.2.2.2.2.2.1 x.1.2.2.2.2.2.2.1 x.2.1 x.2.2.1 x.2.2.2.1 x.2.2.2.2.1 x.2.2.2.2.2.1:=by kernel_rfl
def aCO:tV.El→Option (TU.El⊕TV.El):=aH (fun x=>GK x.1.2.2.2.2.1 x.1.2.2.2.2.2.1 x.1.2.2.2.2.2.2.1 x.2.1 x.2.2.1 x.2.2.2.1 x.2.2.2.2.1 x.2.2.2.2.2.1) fuel
def a23 {β:Type}:dK β:=fun k s K=>if Nat.beq k 8 then bO (AU.lay []) aMY aJR s K else if Nat.beq k 13 then bO (tU.lay []) aGB aCN s K else if Nat.beq k 22 then bO (tV.lay [.bU 13 68 aA]) aGC aCO s K else none
theorem aUZ {β:Type}:aC CT (a23 (β:=β)) (aJ aUX):=aC.is [(8,aUY),(13,N8),(22,aMW)] (by kernel_rfl) (aC.cons (iW aL GH (bC (by kernel_rfl)) a6i rfl rfl) (aC.cons (iW aL GH aCM aZX rfl rfl) (aC.cons (iW aL GH (bC (by kernel_rfl)) aZY rfl rfl) (aC.nil))))
def aJT (a1:Ty.El aD)(a2:Ty.El I):Option (aS [aD,I]):=(pR a1).bind fun v2=>bif !v2.1 then some ((((0:Int),(0:Int)),(0:Int),[]),(9:Int),()) else(rM a1 a2).bind fun v4=>bif !v4.2.1 then some ((((0:Int),(0:Int)),(0:Int),[]),(10:Int),()) else(aTS a1 a2).bind fun v6=>(aJR (((),(),(),v6.1,(↑(List.length v6.1):Int),(0:Int),()),(a1,()),((((0:Int),(0:Int)),(0:Int),[]),()),((),()),[],())).bind fun v7=>Sum.elim (fun v8=>(aCN (((),(),(),(↑(List.length v8.2.1.1.2.2):Int),(0:Int),()),(v8.2.1.1,()),(v8.2.2.1.1,()),((),()),v8.2.2.2.2.1,())).bind fun v9=>Sum.elim (fun v10=>(aCO (((),(),(),(),v10.2.1.1.2.2,(↑(List.length v10.2.1.1.2.2):Int),(0:Int),()),(v10.2.1.1,()),(v10.2.2.1.1,()),((),()),v10.2.2.2.2.1,[],())).bind fun v11=>Sum.elim (fun v12=>some ((v12.2.1.1.1,v12.2.1.1.2.1,v12.2.2.2.1),(0:Int),())) (fun DM=>none) v11) (fun pX=>none) v9) (fun QE=>none) v7
theorem bHa (x:Ps [.ty aD,.ty I]):dA CT TN [aD,I] (cB CT TN) a23 Tryz.f133 aUX (bQ [.ty aD,.ty I] x)=aJT x.1 x.2.1:=by kernel_rfl
def bHb:aW:=.fn 133 [] ⟨[.ty aD,.ty I],[aD,I],fun x=>aJT x.1 x.2.1,false⟩
theorem bHc:bHb.Ok CT.P:=aW.ofFn aL GH (by kernel_rfl) (by kernel_rfl) aUZ bHa
end Go.DI.S
end
