import Derived.Test.YtbjldjihpekhaaaGreatMb
/- Groups; what a command's worker does: told by functions on data. No conditions. -/
set_option linter.unusedVariables false
set_option maxRecDepth 100000
set_option maxHeartbeats 0
noncomputable section
namespace Go.DI.S
open Go.Proofs
def aTK:Code:=Tryz.f227.body.getD .skip
def aFZ:Tb:=cC iL iM []
theorem aF0:aFZ.Ok CT.P:=aQ (trivial)
def aMl:Code:=aX aTK 2
abbrev sZ:aF:=⟨19,[(0,.data (.list I)),(1,.data I),(7,.data I),(8,.data I)],[],fun _=>[]⟩
abbrev RT:aF:=⟨19,[],[],fun _=>[]⟩
abbrev RU:aF:=⟨19,[(4,.data I)],[],fun _=>[]⟩
def aF1:=ex 0 0 RT RU [] []
def F0 (r0:Ty.El (.list I))(r1:Ty.El I)(r7:Ty.El I)(r8:Ty.El I):Option (sZ.El⊕(RT.El⊕RU.El)):=bif decide (r8<r7) then bif decide ((0:Int)≤r8∧r8<(↑(List.length r0):Int)) then bif r1==List.getD r0 (Int.toNat r8) (0:Int) then some (Sum.inr (Sum.inr ((r8,()),()))) else some (Sum.inl ((r0,r1,r7,IntKind.i64.wrap (r8+(1:Int)),()),())) else none else some (Sum.inr (Sum.inl ((),())))
theorem aZo (x:sZ.El):aV CT aFZ (cB CT aFZ) iI aMl (sZ.enc x) (bG (sZ.lay []) aF1)=F0 x.1.1 x.1.2.1 x.1.2.2.1 x.1.2.2.2.1:=by kernel_rfl
def aCj:sZ.El→Option (RT.El⊕RU.El):=aH (fun x=>F0 x.1.1 x.1.2.1 x.1.2.2.1 x.1.2.2.2.1) fuel
def aTL {β:Type}:dK β:=fun k s K=>if Nat.beq k 2 then bO (sZ.lay []) aF1 aCj s K else none
theorem aPA {β:Type}:aC CT (aTL (β:=β)) (aJ aTK):=aC.is [(2,aMl)] (by kernel_rfl) (aC.cons (iW aL aF0 (bC (by kernel_rfl)) aZo rfl rfl) (aC.nil))
def aF2 (a1:Ty.El (.list I))(a2:Ty.El I):Option (aS [I]):=(aCj ((a1,a2,(↑(List.length a1):Int),(0:Int),()),())).bind fun v1=>Sum.elim (fun v2=>some ((-1:Int),())) (fun v3=>some (v3.1.1,())) v1
theorem bBV (x:Ps [.ty (.list I),.ty I]):dA CT aFZ [I] (cB CT aFZ) aTL Tryz.f227 aTK (bQ [.ty (.list I),.ty I] x)=aF2 x.1 x.2.1:=by kernel_rfl
def bBW:aW:=.fn 227 [] ⟨[.ty (.list I),.ty I],[I],fun x=>aF2 x.1 x.2.1,false⟩
theorem bBX:bBW.Ok CT.P:=aW.ofFn aL aF0 (by kernel_rfl) (by kernel_rfl) aPA bBV
def RV (a1:Ty.El (.list I))(a2:Ty.El I):Option (aS [.bool]):=(aF2 a1 a2).bind fun v2=>some (decide (v2.1≥(0:Int)),())
def aTM:aW:=.fn 180 [] ⟨[.ty (.list I),.ty I],[.bool],fun x=>RV x.1 x.2.1,false⟩
theorem aZp:aTM.Ok CT.P:=fn0 aL (B8 bBX) Tryz.f180 (by kernel_rfl) fun x=>by kernel_rfl
def aTN:Code:=Tryz.f222.body.getD .skip
theorem bBY:Tryz.f222.body=some aTN:=by kernel_rfl
theorem bBZ:CT.P.funcs[222]?=some Tryz.f222:=by kernel_rfl
abbrev tC:=(Ty.El aD)→(Ty.El I)→Option (List (Ty.El I))
def ZB (f:tC):aW:=.own 222 [] ⟨[.ty aD,.ty I],3,I,fun x=>f x.1 x.2.1⟩
def aTO (f:tC):Tb:=cC iL iM [aPe,(ZB f)]
theorem aCk {f:tC}(hf:(ZB f).Ok CT.P):(aTO f).Ok CT.P:=aQ (⟨Q0,hf,trivial⟩)
def aCl:Code:=aX aTN 6
abbrev q8:aF:=⟨34,[(2,.ptr 0),(7,.own I 1),(21,.data (.list I)),(22,.data I),(23,.data I)],[.var 51 [.data aD],.row 3 I],fun s=>[aG s 2,aG s 7]⟩
abbrev aCm:aF:=⟨34,[(7,.own I 0)],[.row 3 I],fun s=>[aG s 7]⟩
abbrev aCn:aF:=l0 34
def vU:=ex 0 0 aCm aCn [.dJ 7 3 I] []
def aF3 {β:Type}:dK β:=fun _ _ _=>none
theorem aF4 {β:Type}:aC CT (aF3 (β:=β)) (aJ aCl):=aC.is [] (by kernel_rfl) (aC.nil)
def RW (f:tC)(nY:Ty.El (.list I))(r22:Ty.El I)(W7:Ty.El I)(b0:Ty.El aD×Unit)(b1:List (Ty.El I)):Option (q8.El⊕(aCm.El⊕aCn.El)):=bif decide (W7<r22) then bif decide ((0:Int)≤W7∧W7<(↑(List.length nY):Int)) then(f b0.1 (List.getD nY (Int.toNat W7) (0:Int))).bind fun v2=>bif((b1.length+v2.length)*(8:Nat)).ble (70368744177664:Nat) then some (Sum.inl (((),(),nY,r22,IntKind.i64.wrap (W7+(1:Int)),()),(b0.1,()),b1++v2,())) else none else none else some (Sum.inr (Sum.inl (((),()),b1,())))
theorem a5A (f:tC)(x:q8.El):aV CT (aTO f) (cB CT (aTO f)) aF3 aCl (q8.enc x) (bG (q8.lay [.dJ 7 3 I]) vU)=(RW f) x.1.2.2.1 x.1.2.2.2.1 x.1.2.2.2.2.1 x.2.1 x.2.2.1:=by kernel_rfl
def aCo (f:tC):q8.El→Option (aCm.El⊕aCn.El):=aH (fun x=>(RW f) x.1.2.2.1 x.1.2.2.2.1 x.1.2.2.2.2.1 x.2.1 x.2.2.1) fuel
theorem a5B {f:tC}(hf:(ZB f).Ok CT.P):∀ x y,(aCo f) x=some y→CL CT aCl (q8.enc x) (Sum.elim (fun _=>vU.xa) (fun _=>vU.xb) y) (Sum.elim vU.la.enc vU.lb.enc y):=
 kC (L:=q8.lay [.dJ 7 3 I]) (E:=vU) aL (aCk hf) (eZ aL (aCk hf)) aF4 (a5A f) rfl rfl (fun v h=>by have hh:(.exit 0:AX)=.fN v:=h;cases hh) (fun v h=>by have hh:(.ret:AX)=.fN v:=h;cases hh) fuel
def a2I (f:tC){β:Type}:dK β:=fun k s K=>if Nat.beq k 6 then bO (q8.lay [.dJ 7 3 I]) vU (aCo f) s K else none
theorem aTP {f:tC}(hf:(ZB f).Ok CT.P){β:Type}:aC CT (a2I f (β:=β)) (aJ aTN):=by
 have h:aJ aTN=[(6,aCl)]:=by kernel_rfl
 rw [h];exact aC.cons (fun s K z h=>pH (a5B hf) h) (aC.nil)
def aMm (f:tC)(a1:Ty.El aD)(a2:Ty.El I):Option (List (Ty.El I)):=(rM a1 a2).bind fun v2=>bif !v2.2.1 then some [] else((aCo f) (((),(),v2.1.2.2.2.2,(↑(List.length v2.1.2.2.2.2):Int),(0:Int),()),(a1,()),[a2],())).bind fun v3=>Sum.elim (fun v4=>some v4.2.1) (fun v5=>none) v3
theorem bGM (f:tC)(x:Ps [.ty aD,.ty I]):B7 CT (aTO f) 3 I (cB CT (aTO f)) (a2I f) Tryz.f222 aTN (bQ [.ty aD,.ty I] x)=aMm f x.1 x.2.1:=by kernel_rfl
def RX:Nat→tC
 | 0,_,_=>none
 | n+1,a1,a2=>aMm (RX n) a1 a2
def aTQ:tC:=RX 100
theorem aTR:∀ n,(ZB (RX n)).Ok CT.P
 | 0=>fun x y h=>by cases h
 | n+1=>aW.LY aL (aCk (aTR n)) bBZ bBY (aTP (aTR n)) (bGM (RX n))
def bGN:aW:=ZB aTQ
theorem bB0:bGN.Ok CT.P:=aTR 100
def aTS (a1:Ty.El aD)(a2:Ty.El I):Option (aS [.list I]):=(pR a1).bind fun v2=>bif !v2.1 then some ([],()) else(aTQ a1 a2).bind fun v4=>(xD v4).bind fun v6=>some (v6.2.1,())
def a5C:aW:=.fn 173 [] ⟨[.ty aD,.ty I],[.list I],fun x=>aTS x.1 x.2.1,false⟩
theorem bB1:a5C.Ok CT.P:=fn0 aL (tb3 JF bB0 aSO) Tryz.f173 (by kernel_rfl) fun x=>by kernel_rfl
def a5D:Code:=Tryz.f177.body.getD .skip
def aTT:Tb:=cC iL iM [aBV,Y2,a5C]
theorem aMn:aTT.Ok CT.P:=aQ (⟨JF,Q0,bB1,trivial⟩)
def aMo:Code:=aX a5D 10
abbrev tD:aF:=⟨65,[(2,.ptr 0),(8,.own I 1),(44,.data (.list I)),(45,.data I),(46,.data I)],[.var 51 [.data aD],.row 3 I],fun s=>[aG s 2,aG s 8]⟩
abbrev RY:aF:=⟨65,[(8,.own I 0)],[.row 3 I],fun s=>[aG s 8]⟩
abbrev RZ:aF:=l0 65
def aF5:=ex 0 0 RY RZ [.bU 8 3 I] []
def F1 (r44:Ty.El (.list I))(r45:Ty.El I)(r46:Ty.El I)(b0:Ty.El aD×Unit)(b1:List (Ty.El I)):Option (tD.El⊕(RY.El⊕RZ.El)):=bif decide (r46<r45) then bif decide ((0:Int)≤r46∧r46<(↑(List.length r44):Int)) then(rM b0.1 (List.getD r44 (Int.toNat r46) (0:Int))).bind fun v2=>bif v2.1.2.1==(1:Int) then bif((b1.length+[List.getD r44 (Int.toNat r46) (0:Int)].length)*(8:Nat)).ble (70368744177664:Nat) then some (Sum.inl (((),(),r44,r45,IntKind.i64.wrap (r46+(1:Int)),()),(b0.1,()),b1++[List.getD r44 (Int.toNat r46) (0:Int)],())) else none else some (Sum.inl (((),(),r44,r45,IntKind.i64.wrap (r46+(1:Int)),()),(b0.1,()),b1,())) else none else some (Sum.inr (Sum.inl (((),()),b1,())))
theorem aZq (x:tD.El):aV CT aTT (cB CT aTT) iI aMo (tD.enc x) (bG (tD.lay [.bU 8 3 I]) aF5)=F1 x.1.2.2.1 x.1.2.2.2.1 x.1.2.2.2.2.1 x.2.1 x.2.2.1:=by kernel_rfl
def aCp:tD.El→Option (RY.El⊕RZ.El):=aH (fun x=>F1 x.1.2.2.1 x.1.2.2.2.1 x.1.2.2.2.2.1 x.2.1 x.2.2.1) fuel
def a2J {β:Type}:dK β:=fun k s K=>if Nat.beq k 10 then bO (tD.lay [.bU 8 3 I]) aF5 aCp s K else none
theorem aTU {β:Type}:aC CT (a2J (β:=β)) (aJ a5D):=aC.is [(10,aMo)] (by kernel_rfl) (aC.cons (iW aL aMn (bC (by kernel_rfl)) aZq rfl rfl) (aC.nil))
def aPC (a1:Ty.El aD)(a2:Ty.El I):Option (aS [.list I,I]):=(pR a1).bind fun v2=>bif !v2.1 then some ([],(9:Int),()) else(rM a1 a2).bind fun v4=>bif !v4.2.1 then some ([],(10:Int),()) else bif v4.1.2.1==(2:Int) then some ([if v4.1.2.2.2.1.2.1<v4.1.2.2.2.1.1 then v4.1.2.2.2.1.2.1 else v4.1.2.2.2.1.1,if v4.1.2.2.2.1.2.1>v4.1.2.2.2.1.1 then v4.1.2.2.2.1.2.1 else v4.1.2.2.2.1.1],(0:Int),()) else(aTS a1 a2).bind fun v6=>(aCp (((),(),v6.1,(↑(List.length v6.1):Int),(0:Int),()),(a1,()),[],())).bind fun v7=>Sum.elim (fun v8=>some (v8.2.1,(0:Int),())) (fun v9=>none) v7
theorem bGP (x:Ps [.ty aD,.ty I]):dA CT aTT [.list I,I] (cB CT aTT) a2J Tryz.f177 a5D (bQ [.ty aD,.ty I] x)=aPC x.1 x.2.1:=by kernel_rfl
def bGQ:aW:=.fn 177 [] ⟨[.ty aD,.ty I],[.list I,I],fun x=>aPC x.1 x.2.1,false⟩
theorem bB2:bGQ.Ok CT.P:=aW.ofFn aL aMn (by kernel_rfl) (by kernel_rfl) aTU bGP
def aZr (a1:Ty.El I)(a2:Ty.El aD):Option (aS [.bool]):=bif decide (a1<(1:Int)) then some (true,()) else bif decide (a1>(1000000:Int)) then some (true,()) else some (a1==a2.2.1,())
def bB3:aW:=.fn 183 [] ⟨[.ty I,.jL aD],[.bool],fun x=>aZr x.1 x.2.1,false⟩
theorem bGR:bB3.Ok CT.P:=fn0 aL zN Tryz.f183 (by kernel_rfl) fun x=>by kernel_rfl
def R3:Code:=Tryz.f224.body.getD .skip
def yD:Tb:=cC iL iM [bB3]
theorem L5:yD.Ok CT.P:=aQ (⟨bGR,trivial⟩)
def R4:Code:=aX R3 2
abbrev kH:aF:=⟨19,[(0,.data (.list I)),(1,.vE 183 [aD]),(7,.data I),(8,.data I)],[],fun _=>[]⟩
abbrev yE:aF:=⟨19,[],[],fun _=>[]⟩
abbrev yF:aF:=⟨19,[(4,.data I)],[],fun _=>[]⟩
def L6:=ex 0 0 yE yF [] []
def pV (r0:Ty.El (.list I))(r1:aS [aD])(r7:Ty.El I)(r8:Ty.El I):Option (kH.El⊕(yE.El⊕yF.El)):=bif decide (r8<r7) then bif decide ((0:Int)≤r8∧r8<(↑(List.length r0):Int)) then(aZr (List.getD r0 (Int.toNat r8) (0:Int)) r1.1).bind fun v2=>bif v2.1 then some (Sum.inr (Sum.inr ((r8,()),()))) else some (Sum.inl ((r0,(r1.1,()),r7,IntKind.i64.wrap (r8+(1:Int)),()),())) else none else some (Sum.inr (Sum.inl ((),())))
theorem aJo (x:kH.El):aV CT yD (cB CT yD) iI R4 (kH.enc x) (bG (kH.lay []) L6)=pV x.1.1 x.1.2.1 x.1.2.2.1 x.1.2.2.2.1:=by kernel_rfl
def DV:kH.El→Option (yE.El⊕yF.El):=aH (fun x=>pV x.1.1 x.1.2.1 x.1.2.2.1 x.1.2.2.2.1) fuel
def ZC {β:Type}:dK β:=fun k s K=>if Nat.beq k 2 then bO (kH.lay []) L6 DV s K else none
theorem aCq {β:Type}:aC CT (ZC (β:=β)) (aJ R3):=aC.is [(2,R4)] (by kernel_rfl) (aC.cons (iW aL L5 (bC (by kernel_rfl)) aJo rfl rfl) (aC.nil))
def yG (a1:Ty.El (.list I))(a2:aS [aD]):Option (aS [I]):=(DV ((a1,(a2.1,()),(↑(List.length a1):Int),(0:Int),()),())).bind fun v1=>Sum.elim (fun v2=>some ((-1:Int),())) (fun v3=>some (v3.1.1,())) v1
theorem aTV (x:Ps [.ty (.list I),.vE 183 [aD]]):dA CT yD [I] (cB CT yD) ZC Tryz.f224 R3 (bQ [.ty (.list I),.vE 183 [aD]] x)=yG x.1 x.2.1:=by kernel_rfl
def aTW:aW:=.fn 224 [183] ⟨[.ty (.list I),.vE 183 [aD]],[I],fun x=>yG x.1 x.2.1,false⟩
theorem aTX:aTW.Ok CT.P:=aW.ofFn aL L5 (by kernel_rfl) (by kernel_rfl) aCq aTV
def NX (a1:Ty.El (.list I))(a2:aS [aD]):Option (aS [.bool]):=(yG a1 (a2.1,())).bind fun v2=>some (decide (v2.1≥(0:Int)),())
def aZs:aW:=.fn 182 [183] ⟨[.ty (.list I),.vE 183 [aD]],[.bool],fun x=>NX x.1 x.2.1,false⟩
theorem aZt:aZs.Ok CT.P:=fn0 aL (B8 aTX) Tryz.f182 (by kernel_rfl) fun x=>by kernel_rfl
def ZD (a1:Ty.El aD)(a2:Ty.El (.list I)):Option (aS [aD,I,I]):=(FL a2).bind fun v2=>(xD v2).bind fun v4=>(pR a1).bind fun v6=>bif !v6.1 then some ((((0:Int),(0:Int)),(0:Int),[]),(0:Int),(9:Int),()) else bif decide ((↑(List.length v4.2.1):Int)<(1:Int)) then some ((((0:Int),(0:Int)),(0:Int),[]),(0:Int),(9:Int),()) else bif decide ((↑(List.length v4.2.1):Int)>(8:Int)) then some ((((0:Int),(0:Int)),(0:Int),[]),(0:Int),(9:Int),()) else(FL v4.2.1).bind fun fL=>(aBW fL).bind fun v21=>bif decide ((↑v21.length:Int)<(↑(List.length v4.2.1):Int)) then some ((((0:Int),(0:Int)),(0:Int),[]),(0:Int),(9:Int),()) else(NX v4.2.1 (a1,())).bind fun v33=>bif v33.1 then some ((((0:Int),(0:Int)),(0:Int),[]),(0:Int),(9:Int),()) else bif decide (a1.2.1>(1000000:Int)) then some ((((0:Int),(0:Int)),(0:Int),[]),(0:Int),(12:Int),()) else(nP (a1.1,IntKind.i64.wrap (a1.2.1+(1:Int)),a1.2.2) (a1.2.1,(3:Int),((0:Int),((0:Int),(0:Int)),(0:Int),((0:Int),(0:Int)),(0:Int),(0:Int)),((0:Int),(0:Int),(0:Int)),v4.2.1)).bind fun v37=>bif v37.2.1 != (0:Int) then some ((((0:Int),(0:Int)),(0:Int),[]),(0:Int),v37.2.1,()) else some (v37.1,a1.2.1,(0:Int),())
def bB4:aW:=.fn 136 [] ⟨[.ty aD,.ty (.list I)],[aD,I,I],fun x=>ZD x.1 x.2.1,false⟩
theorem bB5:bB4.Ok CT.P:=fn0 aL (tb6 a2q JF aSN aSO bA2 aZt) Tryz.f136 (by kernel_rfl) fun x=>by kernel_rfl
def aPD (a1:Ty.El aR):Option (aS [aU]):=some ((a1.2.2.1,a1.2.2.2.1),())
def bGS:aW:=.fn 139 [] ⟨[.jL aR],[aU],fun x=>aPD x.1,false⟩
theorem a5E:bGS.Ok CT.P:=fn0 aL zN Tryz.f139 (by kernel_rfl) fun x=>by kernel_rfl
abbrev aZu:aF:=⟨1,[(0,.ptr 0)],[.var 140 [.data aR]],fun s=>[aG s 0]⟩
abbrev R5:aF:=⟨1,[(0,.data aA)],[.var 140 [.data aR]],fun _=>[0]⟩
def aJq (b0:Ty.El aR×Unit):Option R5.El:=(aPD b0.1).bind fun v2=>some ((((0:Int),(1:Int),(b0.1.2.1.2.2.2.1,(b0.1.2.2.2.2.1,b0.1.2.2.2.2.2.1),b0.1.2.2.2.2.2.2,v2.1,(0:Int),(0:Int)),((0:Int),(0:Int),(0:Int)),[]),()),(b0.1,()),())
def a5F:aW:=.dV 132 [] ⟨1,[],aZu,R5,fun x=>aJq x.2.1⟩
theorem a5G:a5F.Ok CT.P:=BV (C:=(bY 1)) (aY 1) (B8 a5E) [] Tryz.f132 (by kernel_rfl) fun x=>by kernel_rfl
abbrev aZv:aF:=⟨2,[(0,.ptr 0),(1,.data aA)],[.var 140 [.data aR]],fun s=>[aG s 0]⟩
abbrev aF6:aF:=⟨3,[(0,.data aD),(1,.data I),(2,.data I)],[.var 140 [.data aR]],fun _=>[0]⟩
def R6 (a1:Ty.El aA)(b0:Ty.El aR×Unit):Option aF6.El:=(BW (if(1000000:Int)<b0.1.1.2.1 then(1000000:Int) else b0.1.1.2.1,a1.2)).bind fun v2=>bif !v2.1 then some ((b0.1.1,(0:Int),(9:Int),()),(b0.1,()),()) else bif decide (b0.1.1.2.1>(1000000:Int)) then some ((b0.1.1,(0:Int),(12:Int),()),(b0.1,()),()) else(nP (b0.1.1.1,IntKind.i64.wrap (b0.1.1.2.1+(1:Int)),b0.1.1.2.2) (if(1000000:Int)<b0.1.1.2.1 then(1000000:Int) else b0.1.1.2.1,a1.2)).bind fun v4=>some ((v4.1,if(1000000:Int)<b0.1.1.2.1 then(1000000:Int) else b0.1.1.2.1,v4.2.1,()),(b0.1,()),())
def a5H:aW:=.dV 131 [] ⟨1,[],aZv,aF6,fun x=>R6 x.1.2.1 x.2.1⟩
theorem a5I:a5H.Ok CT.P:=BV (C:=(bY 1)) (aY 1) (JB aYI a2q) [] Tryz.f131 (by kernel_rfl) fun x=>by kernel_rfl
def aCr:Code:=Tryz.f89.body.getD .skip
abbrev R7:aF:=⟨1,[(0,.ptr 0)],[.var 140 [.data aR]],fun s=>[aG s 0]⟩
abbrev i6:aF:=⟨1,[(0,.data I)],[.var 140 [.data aR]],fun _=>[0]⟩
def F3:Tb:=cC iL iM [aFX,a2H]
theorem DW:F3.Ok CT.P:=aQ (⟨aTF,bBU,trivial⟩)
def JL:Code:=aX aCr 4
def L7 {β:Type}:dK β:=fun _ _ _=>none
theorem R8 {β:Type}:aC (bY 1) (L7 (β:=β)) (aJ JL):=aC.is [] (by kernel_rfl) (aC.nil)
def aF7 {β:Type}:dK β:=fun k s K=>if Nat.beq k 4 then aR4 (bY 1) F3 (cB (bY 1) F3) (L7) JL 7 s K else none
theorem aF8 {β:Type}:aC (bY 1) (aF7 (β:=β)) (aJ aCr):=aC.is [(4,JL)] (by kernel_rfl) (aC.cons (fun s K z h=>aYE (aY 1) DW (eZ (aY 1) DW) R8 h) (aC.nil))
def F4 (b0:Ty.El aR×Unit):Option i6.El:=bif b0.1.2.1.1==(1:Int) then(m4 (b0.1,())).bind fun v2=>(k8 v2.2.1.1.2.1.2.2.2.2.1).bind fun v6=>bif v6.2.1 != (0:Int) then some ((v6.2.1,()),(v2.2.1.1,()),()) else(k8 v2.2.1.1.2.1.2.2.2.2.2.1).bind fun v12=>bif v12.2.1 != (0:Int) then some ((v12.2.1,()),((v2.2.1.1.1,v2.2.1.1.2.1,v6.1,v2.2.1.1.2.2.2),()),()) else(k8 v2.2.1.1.2.1.2.2.2.2.2.2.1).bind fun v22=>bif v22.2.1 != (0:Int) then some ((v22.2.1,()),((v2.2.1.1.1,v2.2.1.1.2.1,v6.1,v12.1,v2.2.1.1.2.2.2.2),()),()) else bif v2.2.1.1.2.1.2.2.2.1==(1:Int) then(k8 v2.2.1.1.2.1.2.2.2.2.2.2.2.2.1).bind fun v34=>bif v34.2.1 != (0:Int) then some ((v34.2.1,()),((v2.2.1.1.1,v2.2.1.1.2.1,v6.1,v12.1,v22.1,v2.2.1.1.2.2.2.2.2),()),()) else some (((0:Int),()),((v2.2.1.1.1,v2.2.1.1.2.1,v6.1,v12.1,v22.1,v2.2.1.1.2.2.2.2.2.1,v34.1),()),()) else(k8 v2.2.1.1.2.1.2.2.2.2.2.2.2.1).bind fun v50=>bif v50.2.1 != (0:Int) then some ((v50.2.1,()),((v2.2.1.1.1,v2.2.1.1.2.1,v6.1,v12.1,v22.1,v2.2.1.1.2.2.2.2.2),()),()) else(k8 v2.2.1.1.2.1.2.2.2.2.2.2.2.2.1).bind fun v60=>bif v60.2.1 != (0:Int) then some ((v60.2.1,()),((v2.2.1.1.1,v2.2.1.1.2.1,v6.1,v12.1,v22.1,v50.1,v2.2.1.1.2.2.2.2.2.2),()),()) else some (((0:Int),()),((v2.2.1.1.1,v2.2.1.1.2.1,v6.1,v12.1,v22.1,v50.1,v60.1),()),()) else bif b0.1.2.1.1==(3:Int) then(m4 (b0.1,())).bind fun v72=>(k8 v72.2.1.1.2.1.2.2.2.2.1).bind fun v76=>bif v76.2.1 != (0:Int) then some ((v76.2.1,()),(v72.2.1.1,()),()) else(k8 v72.2.1.1.2.1.2.2.2.2.2.1).bind fun v82=>bif v82.2.1 != (0:Int) then some ((v82.2.1,()),((v72.2.1.1.1,v72.2.1.1.2.1,v76.1,v72.2.1.1.2.2.2),()),()) else some (((0:Int),()),((v72.2.1.1.1,v72.2.1.1.2.1,v76.1,v82.1,v72.2.1.1.2.2.2.2),()),()) else bif b0.1.2.1.1==(4:Int) then(m4 (b0.1,())).bind fun v96=>(k8 v96.2.1.1.2.1.2.2.2.2.2.2.1).bind fun aTY=>bif aTY.2.1 != (0:Int) then some ((aTY.2.1,()),(v96.2.1.1,()),()) else some (((0:Int),()),((v96.2.1.1.1,v96.2.1.1.2.1,v96.2.1.1.2.2.1,v96.2.1.1.2.2.2.1,aTY.1,v96.2.1.1.2.2.2.2.2),()),()) else bif b0.1.2.1.1==(7:Int) then(m4 (b0.1,())).bind fun JM=>(k8 JM.2.1.1.2.1.2.2.2.2.1).bind fun aPE=>bif aPE.2.1 != (0:Int) then some ((aPE.2.1,()),(JM.2.1.1,()),()) else(k8 JM.2.1.1.2.1.2.2.2.2.2.1).bind fun v124=>bif v124.2.1 != (0:Int) then some ((v124.2.1,()),((JM.2.1.1.1,JM.2.1.1.2.1,aPE.1,JM.2.1.1.2.2.2),()),()) else some (((0:Int),()),((JM.2.1.1.1,JM.2.1.1.2.1,aPE.1,v124.1,JM.2.1.1.2.2.2.2),()),()) else bif b0.1.2.1.1==(8:Int) then(m4 (b0.1,())).bind fun v138=>(k8 v138.2.1.1.2.1.2.2.2.2.1).bind fun aZx=>bif aZx.2.1 != (0:Int) then some ((aZx.2.1,()),(v138.2.1.1,()),()) else(k8 v138.2.1.1.2.1.2.2.2.2.2.1).bind fun v148=>bif v148.2.1 != (0:Int) then some ((v148.2.1,()),((v138.2.1.1.1,v138.2.1.1.2.1,aZx.1,v138.2.1.1.2.2.2),()),()) else some (((0:Int),()),((v138.2.1.1.1,v138.2.1.1.2.1,aZx.1,v148.1,v138.2.1.1.2.2.2.2),()),()) else(m4 (b0.1,())).bind fun v162=>some (((0:Int),()),(v162.2.1.1,()),())
theorem aZy (x:R7.El):kE (bY 1) F3 R7 i6 [] (cB (bY 1) F3) aF7 Tryz.f89 aCr x=F4 x.2.1:=by kernel_rfl
def aZz:aW:=.dV 89 [] ⟨1,[],R7,i6,fun x=>F4 x.2.1⟩
theorem aZA:aZz.Ok CT.P:=aW.lI (C:=(bY 1)) (steps:=[]) (cN:=[]) (aY 1) DW (by kernel_rfl) (by kernel_rfl) aF8 aZy
def aJr:Code:=Tryz.f140.body.getD .skip
def R9:Tb:=cC iL iM [aYQ,aPb]
theorem ZE:R9.Ok CT.P:=aQ (⟨a4E,aPc,trivial⟩)
def aF9:Code:=aX aJr 3
abbrev oJ:aF:=⟨23,[(0,.own aA 0),(7,.own aA 0),(8,.data I),(9,.data I)],[.row 68 aA],fun s=>[aG s 0]⟩
abbrev JN:aF:=⟨23,[(0,.own aA 0)],[.row 68 aA],fun s=>[aG s 0]⟩
abbrev JO:aF:=l0 23
def ZF:=ex 0 0 JN JO [] []
def pW (r8:Ty.El I)(r9:Ty.El I)(b0:List (Ty.El aA)):Option (oJ.El⊕(JN.El⊕JO.El)):=bif decide (r9<r8) then bif decide ((0:Int)≤r9∧r9<(↑b0.length:Int)) then(QX (b0.getD (Int.toNat r9) aA.dflt).2.2.2.2).bind fun v2=>bif decide ((0:Int)≤r9∧r9<(↑b0.length:Int)) then some (Sum.inl (((),(),r8,IntKind.i64.wrap (r9+(1:Int)),()),b0.set (Int.toNat r9) ((b0.getD (Int.toNat r9) aA.dflt).1,(b0.getD (Int.toNat r9) aA.dflt).2.1,(b0.getD (Int.toNat r9) aA.dflt).2.2.1,(b0.getD (Int.toNat r9) aA.dflt).2.2.2.1,v2.1),())) else none else none else some (Sum.inr (Sum.inl (((),()),b0,())))
theorem aTZ (x:oJ.El):aV CT R9 (cB CT R9) iI aF9 (oJ.enc x) (bG (oJ.lay []) ZF)=pW x.1.2.2.1 x.1.2.2.2.1 x.2.1:=by kernel_rfl
def SA:oJ.El→Option (JN.El⊕JO.El):=aH (fun x=>pW x.1.2.2.1 x.1.2.2.2.1 x.2.1) fuel
def aMp {β:Type}:dK β:=fun k s K=>if Nat.beq k 3 then bO (oJ.lay []) ZF SA s K else none
theorem aJs {β:Type}:aC CT (aMp (β:=β)) (aJ aJr):=aC.is [(3,aF9)] (by kernel_rfl) (aC.cons (iW aL ZE (bC (by kernel_rfl)) aTZ rfl rfl) (aC.nil))
def vV (a1:Ty.El (.list aA)):Option (List (Ty.El aA)):=(QY a1).bind fun v2=>(SA (((),(),(↑v2.length:Int),(0:Int),()),v2,())).bind fun v4=>Sum.elim (fun v5=>some v5.2.1) (fun v6=>none) v4
theorem a5K (x:Ps [.ty (.list aA)]):B7 CT R9 68 aA (cB CT R9) aMp Tryz.f140 aJr (bQ [.ty (.list aA)] x)=vV x.1:=by kernel_rfl
def aT0:aW:=.own 140 [] ⟨[.ty (.list aA)],68,aA,fun x=>vV x.1⟩
theorem aCs:aT0.Ok CT.P:=aW.LY aL ZE (by kernel_rfl) (by kernel_rfl) aJs a5K
def aMq:Code:=Tryz.f184.body.getD .skip
def aHY:Tb:=cC iL iM [aMk]
theorem SC:aHY.Ok CT.P:=aQ (⟨aZn,trivial⟩)
def aGa:Code:=aX aMq 11
def aMr:Code:=aX aMq 3
abbrev tE:aF:=⟨36,[(0,.data (.list (.list I))),(3,.data I),(9,.data (.list (.list I))),(10,.data I),(11,.data I)],[],fun _=>[]⟩
abbrev SE:aF:=⟨36,[(0,.data (.list (.list I))),(3,.data I)],[],fun _=>[]⟩
abbrev aH0:aF:=l0 36
def aGb:=ex 0 0 SE aH0 [] []
def aMs (r0:Ty.El (.list (.list I)))(r3:Ty.El I)(r9:Ty.El (.list (.list I)))(eD:Ty.El I)(eM:Ty.El I):Option (tE.El⊕(SE.El⊕aH0.El)):=bif decide (eM<eD) then bif decide ((0:Int)≤eM∧eM<(↑(List.length r9):Int)) then bif decide (IntKind.i64.wrap (r3+(↑(List.length (List.getD r9 (Int.toNat eM) I.list.dflt)):Int))<(0:Int)) then none else some (Sum.inl ((r0,IntKind.i64.wrap (r3+(↑(List.length (List.getD r9 (Int.toNat eM) I.list.dflt)):Int)),r9,eD,IntKind.i64.wrap (eM+(1:Int)),()),())) else none else some (Sum.inr (Sum.inl ((r0,r3,()),())))
theorem aZB (x:tE.El):aV CT aHY (cB CT aHY) iI aMr (tE.enc x) (bG (tE.lay []) aGb)=aMs x.1.1 x.1.2.1 x.1.2.2.1 x.1.2.2.2.1 x.1.2.2.2.2.1:=by kernel_rfl
def NY:tE.El→Option (SE.El⊕aH0.El):=aH (fun x=>aMs x.1.1 x.1.2.1 x.1.2.2.1 x.1.2.2.2.1 x.1.2.2.2.2.1) fuel
abbrev oK:aF:=⟨36,[(6,.own I 0),(25,.data (.list (.list I))),(26,.data I),(27,.data I)],[.row 3 I],fun s=>[aG s 6]⟩
abbrev JP:aF:=⟨36,[(6,.own I 0)],[.row 3 I],fun s=>[aG s 6]⟩
abbrev JQ:aF:=l0 36
def ZG:=ex 0 2 JP JQ [] []
def aGc (IA:Ty.El (.list (.list I)))(r26:Ty.El I)(vW:Ty.El I)(b0:List (Ty.El I)):Option (oK.El⊕(JP.El⊕JQ.El)):=bif decide (vW<r26) then bif decide ((0:Int)≤vW∧vW<(↑(List.length IA):Int)) then bif((b0.length+List.length (List.getD IA (Int.toNat vW) I.list.dflt))*(8:Nat)).ble (70368744177664:Nat) then some (Sum.inl (((),IA,r26,IntKind.i64.wrap (vW+(1:Int)),()),b0++List.getD IA (Int.toNat vW) I.list.dflt,())) else none else none else some (Sum.inr (Sum.inl (((),()),b0,())))
theorem aT1 (x:oK.El):aV CT aHY (cB CT aHY) iI aGa (oK.enc x) (bG (oK.lay []) ZG)=aGc x.1.2.1 x.1.2.2.1 x.1.2.2.2.1 x.2.1:=by kernel_rfl
def F5:oK.El→Option (JP.El⊕JQ.El):=aH (fun x=>aGc x.1.2.1 x.1.2.2.1 x.1.2.2.2.1 x.2.1) fuel
def aT2 {β:Type}:dK β:=fun k s K=>if Nat.beq k 3 then bO (tE.lay []) aGb NY s K else if Nat.beq k 11 then bO (oK.lay []) ZG F5 s K else none
theorem aPF {β:Type}:aC CT (aT2 (β:=β)) (aJ aMq):=aC.is [(3,aMr),(11,aGa)] (by kernel_rfl) (aC.cons (iW aL SC (bC (by kernel_rfl)) aZB rfl rfl) (aC.cons (iW aL SC (bC (by kernel_rfl)) aT1 rfl rfl) (aC.nil)))
def aGd (a1:Ty.El (.list (.list I))):Option (List (Ty.El I)):=(NY ((a1,(0:Int),a1,(↑(List.length a1):Int),(0:Int),()),())).bind fun v1=>Sum.elim (fun v2=>(AJ () v2.1.2.1).bind fun v4=>(F5 (((),v2.1.1,(↑(List.length v2.1.1):Int),(0:Int),()),v4,())).bind fun v5=>Sum.elim (fun v6=>some v6.2.1) (fun v7=>none) v5) (fun v8=>none) v1
theorem bB6 (x:Ps [.ty (.list (.list I))]):B7 CT aHY 3 I (cB CT aHY) aT2 Tryz.f184 aMq (bQ [.ty (.list (.list I))] x)=aGd x.1:=by kernel_rfl
def a2L:aW:=.own 184 [] ⟨[.ty (.list (.list I))],3,I,fun x=>aGd x.1⟩
theorem bB7:a2L.Ok CT.P:=aW.LY aL SC (by kernel_rfl) (by kernel_rfl) aPF bB6
abbrev aT3:aF:=⟨2,[(0,.data I),(1,.ptr 0)],[.var 68 [.data aA]],fun s=>[aG s 1]⟩
abbrev ZH:aF:=⟨1,[(0,.data .bool)],[.var 68 [.data aA]],fun _=>[0]⟩
def aCt (a0:Ty.El I)(b0:Ty.El aA×Unit):Option ZH.El:=some ((a0==b0.1.1,()),(b0.1,()),())
def aCu:aW:=.dV 185 [] ⟨1,[],aT3,ZH,fun x=>aCt x.1.1 x.2.1⟩
theorem aMt:aCu.Ok CT.P:=BV (C:=(bY 1)) (aY 1) zN [] Tryz.f185 (by kernel_rfl) fun x=>by kernel_rfl
def aJt:Code:=Tryz.f224.body.getD .skip
abbrev aCv:aF:=⟨2,[(0,.own I 1),(1,.eG 185 [0])],[.var 68 [.data aA],.row 3 I],fun s=>[sH s 1,aG s 0]⟩
abbrev aJa:aF:=⟨1,[(0,.data I)],[.var 68 [.data aA],.row 3 I],fun _=>[0,1]⟩
def SH:Tb:=cC iL iM [aCu]
theorem ZI:SH.Ok CT.P:=aQ (⟨aMt,trivial⟩)
def aGe:Code:=aX aJt 2
abbrev oL:aF:=⟨19,[(0,.own I 1),(1,.eG 185 [0]),(7,.data I),(8,.data I)],[.var 68 [.data aA],.row 3 I],fun s=>[0,1]⟩
abbrev JR:aF:=⟨19,[],[.var 68 [.data aA],.row 3 I],fun s=>[0,1]⟩
abbrev JS:aF:=⟨19,[(4,.data I)],[.var 68 [.data aA],.row 3 I],fun s=>[0,1]⟩
def ZJ:=ex 2 0 JR JS [] []
def yH (r7:Ty.El I)(r8:Ty.El I)(b0:Ty.El aA×Unit)(b1:List (Ty.El I)):Option (oL.El⊕(JR.El⊕JS.El)):=bif decide (r8<r7) then bif decide ((0:Int)≤r8∧r8<(↑b1.length:Int)) then(aCt (b1.getD (Int.toNat r8) (0:Int)) (b0.1,())).bind fun v2=>bif v2.1.1 then some (Sum.inr (Sum.inr ((r8,()),(v2.2.1.1,()),b1,()))) else some (Sum.inl (((),(),r7,IntKind.i64.wrap (r8+(1:Int)),()),(v2.2.1.1,()),b1,())) else none else some (Sum.inr (Sum.inl ((),(b0.1,()),b1,())))
theorem aT4 (x:oL.El):aV (bY 2) SH (cB (bY 2) SH) iI aGe (oL.enc x) (bG (oL.lay []) ZJ)=yH x.1.2.2.1 x.1.2.2.2.1 x.2.1 x.2.2.1:=by kernel_rfl
def SI:oL.El→Option (JR.El⊕JS.El):=aH (fun x=>yH x.1.2.2.1 x.1.2.2.2.1 x.2.1 x.2.2.1) fuel
def aMu {β:Type}:dK β:=fun k s K=>if Nat.beq k 2 then bO (oL.lay []) ZJ SI s K else none
theorem aJu {β:Type}:aC (bY 2) (aMu (β:=β)) (aJ aJt):=aC.is [(2,aGe)] (by kernel_rfl) (aC.cons (iW (aY 2) ZI (bC (by kernel_rfl)) aT4 rfl rfl) (aC.nil))
def SK (b0:Ty.El aA×Unit)(b1:List (Ty.El I)):Option aJa.El:=(SI (((),(),(↑b1.length:Int),(0:Int),()),(b0.1,()),b1,())).bind fun v1=>Sum.elim (fun v2=>some (((-1:Int),()),(v2.2.1.1,()),v2.2.2.1,())) (fun v3=>some ((v3.1.1,()),(v3.2.1.1,()),v3.2.2.1,())) v1
theorem a5L (x:aCv.El):kE (bY 2) SH aCv aJa [] (cB (bY 2) SH) aMu Tryz.f224 aJt x=SK x.2.1 x.2.2.1:=by kernel_rfl
def aT5:aW:=.dV 224 [185] ⟨2,[.bU 0 3 I,.dJ 0 3 I],aCv,aJa,fun x=>SK x.2.1 x.2.2.1⟩
theorem a5M:aT5.Ok CT.P:=aW.lI (C:=(bY 2)) (steps:=[.bU 0 3 I,.dJ 0 3 I]) (cN:=[]) (aY 2) ZI (by kernel_rfl) (by kernel_rfl) aJu a5L
def aJv:Code:=Tryz.f175.body.getD .skip
abbrev aCw:aF:=⟨2,[(0,.own I 1),(1,.eG 185 [0])],[.var 68 [.data aA],.row 3 I],fun s=>[sH s 1,aG s 0]⟩
abbrev SL:aF:=⟨1,[(0,.own I 1)],[.var 68 [.data aA],.row 3 I],fun s=>[0,aG s 0]⟩
def SM:Tb:=cC iL iM [aT5,aCu]
theorem ZK:SM.Ok CT.P:=aQ (⟨a5M,aMt,trivial⟩)
def aGf:Code:=aX aJv 5
abbrev oM:aF:=⟨42,[(0,.own I 1),(1,.eG 185 [0]),(5,.data I),(6,.data I)],[.var 68 [.data aA],.row 3 I],fun s=>[0,1]⟩
abbrev JT:aF:=⟨42,[(0,.own I 1),(5,.data I)],[.var 68 [.data aA],.row 3 I],fun s=>[0,1]⟩
abbrev JU:aF:=l0 42
def ZL:=ex 1 0 JT JU [] []
def tG (r5:Ty.El I)(r6:Ty.El I)(b0:Ty.El aA×Unit)(b1:List (Ty.El I)):Option (oM.El⊕(JT.El⊕JU.El)):=bif decide (r6<(↑b1.length:Int)) then bif decide ((0:Int)≤r6∧r6<(↑b1.length:Int)) then(aCt (b1.getD (Int.toNat r6) (0:Int)) (b0.1,())).bind fun v2=>bif !v2.1.1 then bif decide ((0:Int)≤r5∧r5<(↑b1.length:Int)) then some (Sum.inl (((),(),IntKind.i64.wrap (r5+(1:Int)),IntKind.i64.wrap (r6+(1:Int)),()),(v2.2.1.1,()),b1.set (Int.toNat r5) (b1.getD (Int.toNat r6) (0:Int)),())) else none else some (Sum.inl (((),(),r5,IntKind.i64.wrap (r6+(1:Int)),()),(v2.2.1.1,()),b1,())) else none else some (Sum.inr (Sum.inl (((),r5,()),(b0.1,()),b1,())))
theorem aT6 (x:oM.El):aV (bY 1) SM (cB (bY 1) SM) iI aGf (oM.enc x) (bG (oM.lay []) ZL)=tG x.1.2.2.1 x.1.2.2.2.1 x.2.1 x.2.2.1:=by kernel_rfl
def SN:oM.El→Option (JT.El⊕JU.El):=aH (fun x=>tG x.1.2.2.1 x.1.2.2.2.1 x.2.1 x.2.2.1) fuel
def aMv {β:Type}:dK β:=fun k s K=>if Nat.beq k 5 then bO (oM.lay []) ZL SN s K else none
theorem aJw {β:Type}:aC (bY 1) (aMv (β:=β)) (aJ aJv):=aC.is [(5,aGf)] (by kernel_rfl) (aC.cons (iW (aY 1) ZK (bC (by kernel_rfl)) aT6 rfl rfl) (aC.nil))
def SP (b0:Ty.El aA×Unit)(b1:List (Ty.El I)):Option SL.El:=(SK (b0.1,()) b1).bind fun v2=>bif v2.1.1==(-1:Int) then some (((),()),(v2.2.1.1,()),v2.2.2.1,()) else(SN (((),(),v2.1.1,IntKind.i64.wrap (v2.1.1+(1:Int)),()),(v2.2.1.1,()),v2.2.2.1,())).bind fun v17=>Sum.elim (fun fL=>bif decide ((0:Int)≤fL.1.2.1∧fL.1.2.1≤(↑(List.length fL.2.2.1):Int)) then bif(Int.toNat fL.1.2.1).blt (List.length fL.2.2.1) then bif true&&((Int.toNat fL.1.2.1*(1:Nat)+(List.length fL.2.2.1-Int.toNat fL.1.2.1)).beq (List.length fL.2.2.1)&&(Nat.blt (0:Nat) (List.length fL.2.2.1)&&true)) then bif decide ((0:Int)≤fL.1.2.1∧fL.1.2.1≤(↑(List.take (Int.toNat fL.1.2.1*(1:Nat)) fL.2.2.1++List.replicate (List.length fL.2.2.1-Int.toNat fL.1.2.1) (0:Int)).length:Int)) then bif Nat.blt (0:Nat) (List.take (Int.toNat fL.1.2.1*(1:Nat)) fL.2.2.1++List.replicate (List.length fL.2.2.1-Int.toNat fL.1.2.1) (0:Int)).length then some (((),()),(fL.2.1.1,()),List.take (Int.toNat fL.1.2.1) (List.take (Int.toNat fL.1.2.1*(1:Nat)) fL.2.2.1++List.replicate (List.length fL.2.2.1-Int.toNat fL.1.2.1) (0:Int)),()) else none else none else none else none else none) (fun rV=>none) v17
theorem a5N (x:aCw.El):kE (bY 1) SM aCw SL [.bU 0 3 I,.dJ 0 3 I] (cB (bY 1) SM) aMv Tryz.f175 aJv x=SP x.2.1 x.2.2.1:=by kernel_rfl
def aT7:aW:=.dV 175 [185] ⟨1,[.bU 0 3 I,.dJ 0 3 I],aCw,SL,fun x=>SP x.2.1 x.2.2.1⟩
theorem a5O:aT7.Ok CT.P:=aW.lI (C:=(bY 1)) (steps:=[.bU 0 3 I,.dJ 0 3 I]) (cN:=[.bU 0 3 I,.dJ 0 3 I]) (aY 1) ZK (by kernel_rfl) (by kernel_rfl) aJw a5N
def aJx:Code:=Tryz.f137.body.getD .skip
abbrev aCx:aF:=⟨1,[(0,.ptr 0)],[.var 140 [.data aR]],fun s=>[aG s 0]⟩
abbrev yI:aF:=⟨3,[(0,.data aD),(1,.data I),(2,.data I)],[.var 140 [.data aR]],fun _=>[0]⟩
def SQ:Tb:=cC iL iM [aPe,aT0,aTM,a2L,aT7,a4S]
theorem ZM:SQ.Ok CT.P:=aQ (⟨Q0,aCs,aZp,bB7,a5O,aSO,trivial⟩)
def aGg:Code:=aX aJx 9
abbrev oN:aF:=⟨92,[(0,.ptr 0),(2,.ptr 1),(5,.ptr 2),(7,.ptr 3),(48,.own aA 5),(49,.data I),(50,.data I)],[.var 140 [.data aR],.var 51 [.data aD],.var 68 [.data aA],.var 51 [.data aU,.data I,.own aA 4],.row 68 aA,.row 68 aA],fun s=>[aG s 0,aG s 2,aG s 5,aG s 7,dL s 7 3,aG s 48]⟩
abbrev JV:aF:=⟨92,[(0,.ptr 0),(2,.ptr 1),(7,.ptr 2)],[.var 140 [.data aR],.var 51 [.data aD],.var 51 [.data aU,.data I,.own aA 3],.row 68 aA],fun s=>[aG s 0,aG s 2,aG s 7,dL s 7 3]⟩
abbrev JW:aF:=⟨92,[(0,.ptr 0),(2,.ptr 1),(3,.data I),(4,.data I)],[.var 140 [.data aR],.var 51 [.data aD]],fun s=>[aG s 0,aG s 2]⟩
def ZN:=ex 1 1 JV JW [.cG 7 3 68 aA] []
def tH (H9:Ty.El I)(JE:Ty.El I)(b0:Ty.El aR×Unit)(b1:Ty.El aD×Unit)(b2:Ty.El aA×Unit)(b3:Ty.El aU×Ty.El I×Unit×Unit)(b4:List (Ty.El aA))(b5:List (Ty.El aA)):Option (oN.El⊕(JV.El⊕JW.El)):=bif decide (JE<H9) then bif decide ((0:Int)≤JE∧JE<(↑b5.length:Int)) then(RV (b5.getD (Int.toNat JE) aA.dflt).2.2.2.2 b2.1.1).bind fun v2=>bif v2.1 then(aGd [(b5.getD (Int.toNat JE) aA.dflt).2.2.2.2,b2.1.2.2.2.2]).bind fun v4=>(SP (b2.1,()) v4).bind fun v6=>(xD v6.2.2.1).bind fun v10=>bif decide ((↑(List.length v10.2.1):Int)>(8:Int)) then some (Sum.inr (Sum.inr (((),(),(0:Int),(12:Int),()),(b0.1,()),(b0.1.1,()),()))) else bif(b5.getD (Int.toNat JE) aA.dflt).1 != v6.2.1.1.1 then bif((b4.length+[((b5.getD (Int.toNat JE) aA.dflt).1,(b5.getD (Int.toNat JE) aA.dflt).2.1,(b5.getD (Int.toNat JE) aA.dflt).2.2.1,(b5.getD (Int.toNat JE) aA.dflt).2.2.2.1,v10.2.1)].length)*(128:Nat)).ble (70368744177664:Nat) then some (Sum.inl (((),(),(),(),(),H9,IntKind.i64.wrap (JE+(1:Int)),()),(b0.1,()),(b1.1,()),(v6.2.1.1,()),(b3.1,b3.2.1,(),()),b4++[((b5.getD (Int.toNat JE) aA.dflt).1,(b5.getD (Int.toNat JE) aA.dflt).2.1,(b5.getD (Int.toNat JE) aA.dflt).2.2.1,(b5.getD (Int.toNat JE) aA.dflt).2.2.2.1,v10.2.1)],b5,())) else none else some (Sum.inl (((),(),(),(),(),H9,IntKind.i64.wrap (JE+(1:Int)),()),(b0.1,()),(b1.1,()),(v6.2.1.1,()),(b3.1,b3.2.1,(),()),b4,b5,())) else bif(b5.getD (Int.toNat JE) aA.dflt).1 != b2.1.1 then bif((b4.length+[b5.getD (Int.toNat JE) aA.dflt].length)*(128:Nat)).ble (70368744177664:Nat) then some (Sum.inl (((),(),(),(),(),H9,IntKind.i64.wrap (JE+(1:Int)),()),(b0.1,()),(b1.1,()),(b2.1,()),(b3.1,b3.2.1,(),()),b4++[b5.getD (Int.toNat JE) aA.dflt],b5,())) else none else some (Sum.inl (((),(),(),(),(),H9,IntKind.i64.wrap (JE+(1:Int)),()),(b0.1,()),(b1.1,()),(b2.1,()),(b3.1,b3.2.1,(),()),b4,b5,())) else none else some (Sum.inr (Sum.inl (((),(),(),()),(b0.1,()),(b1.1,()),(b3.1,b3.2.1,(),()),b4,())))
theorem aT8 (x:oN.El):aV (bY 1) SQ (cB (bY 1) SQ) iI aGg (oN.enc x) (bG (oN.lay [.cG 7 3 68 aA]) ZN)=tH x.1.2.2.2.2.2.1 x.1.2.2.2.2.2.2.1 x.2.1 x.2.2.1 x.2.2.2.1 x.2.2.2.2.1 x.2.2.2.2.2.1 x.2.2.2.2.2.2.1:=by kernel_rfl
def SR:oN.El→Option (JV.El⊕JW.El):=aH (fun x=>tH x.1.2.2.2.2.2.1 x.1.2.2.2.2.2.2.1 x.2.1 x.2.2.1 x.2.2.2.1 x.2.2.2.2.1 x.2.2.2.2.2.1 x.2.2.2.2.2.2.1) fuel
def aMw {β:Type}:dK β:=fun k s K=>if Nat.beq k 9 then bO (oN.lay [.cG 7 3 68 aA]) ZN SR s K else none
theorem aJy {β:Type}:aC (bY 1) (aMw (β:=β)) (aJ aJx):=aC.is [(9,aGg)] (by kernel_rfl) (aC.cons (iW (aY 1) ZM (bC (by kernel_rfl)) aT8 rfl rfl) (aC.nil))
def DX (b0:Ty.El aR×Unit):Option yI.El:=(rM b0.1.1 b0.1.2.1.2.1).bind fun v2=>bif !v2.2.1 then some ((b0.1.1,(0:Int),(10:Int),()),(b0.1,()),()) else bif v2.1.2.1 != (3:Int) then some ((b0.1.1,(0:Int),(9:Int),()),(b0.1,()),()) else(vV b0.1.1.2.2).bind fun v4=>(SR (((),(),(),(),(),(↑v4.length:Int),(0:Int),()),(b0.1,()),((((0:Int),(0:Int)),(0:Int),[]),()),(v2.1,()),(b0.1.1.1,b0.1.1.2.1,(),()),[],v4,())).bind fun v6=>Sum.elim (fun v7=>some (((v7.2.2.2.1.1,v7.2.2.2.1.2.1,v7.2.2.2.2.1),(0:Int),(0:Int),()),(v7.2.1.1,()),())) (fun v8=>some ((v8.2.2.1.1,v8.1.2.2.1,v8.1.2.2.2.1,()),(v8.2.1.1,()),())) v6
theorem a5P (x:aCx.El):kE (bY 1) SQ aCx yI [.jX 0 aD] (cB (bY 1) SQ) aMw Tryz.f137 aJx x=DX x.2.1:=by kernel_rfl
def a5Q:aW:=.dV 137 [] ⟨1,[],aCx,yI,fun x=>DX x.2.1⟩
theorem a5R:a5Q.Ok CT.P:=aW.lI (C:=(bY 1)) (steps:=[]) (cN:=[.jX 0 aD]) (aY 1) ZM (by kernel_rfl) (by kernel_rfl) aJy a5P
end Go.DI.S
end
