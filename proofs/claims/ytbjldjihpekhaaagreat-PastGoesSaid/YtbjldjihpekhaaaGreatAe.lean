import Derived.Test.YtbjldjihpekhaaaGreatAd
/- What a step of a world does: told by functions on data. No conditions. -/
set_option linter.unusedVariables false
set_option maxRecDepth 100000
set_option maxHeartbeats 0
noncomputable section
namespace Go.DI.S
open Go.Proofs
def aWm:Code:=Tryz.f265.body.getD .skip
abbrev aKC:aF:=⟨1,[(0,.comp [.dat aU,.row aM 0,.dat (.list aP)])],[.row 64 aM],fun s=>[aNq s 0 2]⟩
abbrev aDy:aF:=⟨0,[],[.row 64 aM],fun _=>[0]⟩
def aHh:Tb:=cC iL iM [aVw,aKa,aMy]
theorem aHi:aHh.Ok CT.P:=aQ (⟨aJ8,aVy,SX,trivial⟩)
def aNB:Code:=aX aWm 2
abbrev uP:aF:=⟨30,[(1,.ptr 1),(5,.own aM 0),(6,.data I),(7,.data I)],[.row 64 aM,.var 186 [.data aU,.own aM 0,.data (.list aP)]],fun s=>[0,aG s 1]⟩
abbrev VH:aF:=⟨30,[],[.row 64 aM],fun s=>[0]⟩
abbrev VI:aF:=l0 30
def aHj:=ex 1 0 VH VI [] []
def BF (r6:Ty.El I)(r7:Ty.El I)(b0:List (Ty.El aM))(b1:Ty.El aU×Unit×Ty.El (.list aP)×Unit):Option (uP.El⊕((VH.El⊕VI.El)⊕Int)):=bif decide (r7<r6) then bif decide ((0:Int)≤r7∧r7<(↑b0.length:Int)) then bif(b0.getD (Int.toNat r7) aM.dflt).2.2.1 != (0:Int) then(wO b1.1 (b0.getD (Int.toNat r7) aM.dflt).2.2.1).bind fun v2=>Sum.elim (fun v4=>(aC6 v4.1 (64:Int)).bind fun v6=>Sum.elim (fun v8=>(rA (b0.getD (Int.toNat r7) aM.dflt).2.2.2.2 v8.1).bind fun v10=>Sum.elim (fun v12=>bif decide ((0:Int)≤r7∧r7<(↑b0.length:Int)) then some (Sum.inl (((),(),r6,IntKind.i64.wrap (r7+(1:Int)),()),b0.set (Int.toNat r7) ((b0.getD (Int.toNat r7) aM.dflt).1,(b0.getD (Int.toNat r7) aM.dflt).2.1,(b0.getD (Int.toNat r7) aM.dflt).2.2.1,(b0.getD (Int.toNat r7) aM.dflt).2.2.2.1,v12.1),(b1.1,(),b1.2.2.1,()),())) else none) (fun DM=>some (Sum.inr (Sum.inr DM))) v10) (fun pX=>some (Sum.inr (Sum.inr pX))) v6) (fun QE=>some (Sum.inr (Sum.inr QE))) v2 else some (Sum.inl (((),(),r6,IntKind.i64.wrap (r7+(1:Int)),()),b0,(b1.1,(),b1.2.2.1,()),())) else none else some (Sum.inr (Sum.inl (Sum.inl ((),b0,()))))
theorem a0N (x:uP.El):aV (bY 1) aHh (cB (bY 1) aHh) iI aNB (uP.enc x) (nJ (uP.lay []) aHj 239 30)=BF x.1.2.2.1 x.1.2.2.2.1 x.2.1 x.2.2.1:=by kernel_rfl
def aDz:uP.El→Option ((VH.El⊕VI.El)⊕Int):=aH (fun x=>BF x.1.2.2.1 x.1.2.2.2.1 x.2.1 x.2.2.1) fuel
def aWn {β:Type}:dK β:=fun k s K=>if Nat.beq k 2 then pP (uP.lay []) aHj 239 30 aDz s K else none
theorem aQs {β:Type}:aC (bY 1) (aWn (β:=β)) (aJ aWm):=aC.is [(2,aNB)] (by kernel_rfl) (aC.cons (aFi (aY 1) aHi (bC (by kernel_rfl)) a0N rfl rfl) (aC.nil))
def aHk (a0:Ty.El aU×Unit×Ty.El (.list aP)×Unit)(b0:List (Ty.El aM)):Option (aDy.El⊕Int):=(aDz (((),(),(↑b0.length:Int),(0:Int),()),b0,(a0.1,(),a0.2.2.1,()),())).bind fun v1=>Sum.elim (fun v2=>Sum.elim (fun v3=>some (Sum.inl ((),v3.2.1,()))) (fun v4=>none) v2) (fun v5=>some (Sum.inr v5)) v1
theorem bC9 (x:aKC.El):vO (bY 1) aHh 239 aKC aDy [] (cB (bY 1) aHh) aWn Tryz.f265 aWm x=aHk x.1.1 x.2.1:=by kernel_rfl
def a3m:aW:=.DG 265 [] ⟨239,1,[],aKC,aDy,fun x=>aHk x.1.1 x.2.1⟩
theorem bDa:a3m.Ok CT.P:=aW.QB (C:=(bY 1)) (steps:=[]) (cN:=[]) (aY 1) aHi (by kernel_rfl) (by kernel_rfl) aQs bC9
def aWo:Code:=Tryz.f266.body.getD .skip
abbrev aKD:aF:=⟨1,[(0,.comp [.dat aU,.row aM 0,.dat (.list aP)])],[.row 64 aM],fun s=>[aNq s 0 2]⟩
abbrev aDA:aF:=⟨0,[],[.row 64 aM],fun _=>[0]⟩
def VJ:Tb:=cC iL iM [aVN]
theorem VK:VJ.Ok CT.P:=aQ (⟨a7v,trivial⟩)
def OH:Code:=aX aWo 2
def aNC:Code:=aX OH 4
abbrev uQ:aF:=⟨43,[(1,.ptr 1),(4,.data I),(7,.data (.list aP)),(8,.data I),(9,.data I)],[.row 64 aM,.var 186 [.data aU,.own aM 0,.data (.list aP)]],fun s=>[0,aG s 1]⟩
abbrev VL:aF:=⟨43,[(1,.ptr 1),(4,.data I)],[.row 64 aM,.var 186 [.data aU,.own aM 0,.data (.list aP)]],fun s=>[0,aG s 1]⟩
abbrev VM:aF:=l0 43
def aHl:=ex 1 2 VL VM [] []
def BG (r4:Ty.El I)(r7:Ty.El (.list aP))(r8:Ty.El I)(r9:Ty.El I)(b0:List (Ty.El aM))(b1:Ty.El aU×Unit×Ty.El (.list aP)×Unit):Option (uQ.El⊕((VL.El⊕VM.El)⊕Int)):=bif decide (r9<r8) then bif decide ((0:Int)≤r9∧r9<(↑(List.length r7):Int)) then bif decide ((0:Int)≤(List.getD r7 (Int.toNat r9) aP.dflt).1∧(List.getD r7 (Int.toNat r9) aP.dflt).1<(↑b0.length:Int)) then bif decide ((0:Int)≤(List.getD r7 (Int.toNat r9) aP.dflt).2.1∧(List.getD r7 (Int.toNat r9) aP.dflt).2.1<(↑b0.length:Int)) then(aKi (b0.getD (Int.toNat (List.getD r7 (Int.toNat r9) aP.dflt).1) aM.dflt) (b0.getD (Int.toNat (List.getD r7 (Int.toNat r9) aP.dflt).2.1) aM.dflt) (List.getD r7 (Int.toNat r9) aP.dflt).2.2).bind fun v2=>Sum.elim (fun v4=>bif decide ((0:Int)≤(List.getD r7 (Int.toNat r9) aP.dflt).1∧(List.getD r7 (Int.toNat r9) aP.dflt).1<(↑b0.length:Int)) then bif decide ((0:Int)≤(List.getD r7 (Int.toNat r9) aP.dflt).2.1∧(List.getD r7 (Int.toNat r9) aP.dflt).2.1<(↑(b0.set (Int.toNat (List.getD r7 (Int.toNat r9) aP.dflt).1) v4.1).length:Int)) then some (Sum.inl (((),r4,r7,r8,IntKind.i64.wrap (r9+(1:Int)),()),(b0.set (Int.toNat (List.getD r7 (Int.toNat r9) aP.dflt).1) v4.1).set (Int.toNat (List.getD r7 (Int.toNat r9) aP.dflt).2.1) v4.2.1,(b1.1,(),b1.2.2.1,()),())) else none else none) (fun v5=>some (Sum.inr (Sum.inr v5))) v2 else none else none else none else some (Sum.inr (Sum.inl (Sum.inl (((),r4,()),b0,(b1.1,(),b1.2.2.1,()),()))))
theorem a0O (x:uQ.El):aV (bY 1) VJ (cB (bY 1) VJ) iI aNC (uQ.enc x) (nJ (uQ.lay []) aHl 239 43)=BG x.1.2.1 x.1.2.2.1 x.1.2.2.2.1 x.1.2.2.2.2.1 x.2.1 x.2.2.1:=by kernel_rfl
def aDB:uQ.El→Option ((VL.El⊕VM.El)⊕Int):=aH (fun x=>BG x.1.2.1 x.1.2.2.1 x.1.2.2.2.1 x.1.2.2.2.2.1 x.2.1 x.2.2.1) fuel
abbrev uR:aF:=⟨43,[(1,.ptr 1),(4,.data I)],[.row 64 aM,.var 186 [.data aU,.own aM 0,.data (.list aP)]],fun s=>[0,aG s 1]⟩
abbrev VN:aF:=⟨43,[],[.row 64 aM],fun s=>[0]⟩
abbrev VO:aF:=l0 43
def aHm:=ex 1 0 VN VO [] []
def aAh {β:Type}:dK β:=fun k s K=>if Nat.beq k 4 then pP (uQ.lay []) aHl 239 43 aDB s K else none
theorem aDC {β:Type}:aC (bY 1) (aAh (β:=β)) (aJ OH):=aC.is [(4,aNC)] (by kernel_rfl) (aC.cons (aFi (aY 1) VK (bC (by kernel_rfl)) a0O rfl rfl) (aC.nil))
def BH (r4:Ty.El I)(b0:List (Ty.El aM))(b1:Ty.El aU×Unit×Ty.El (.list aP)×Unit):Option (uR.El⊕((VN.El⊕VO.El)⊕Int)):=bif decide (r4<(4:Int)) then(aDB (((),r4,b1.2.2.1,(↑(List.length b1.2.2.1):Int),(0:Int),()),b0,(b1.1,(),b1.2.2.1,()),())).bind fun v1=>Sum.elim (fun v2=>Sum.elim (fun v3=>some (Sum.inl (((),IntKind.i64.wrap (v3.1.2.1+(1:Int)),()),v3.2.1,(v3.2.2.1.1,(),v3.2.2.1.2.2.1,()),()))) (fun v4=>none) v2) (fun v5=>some (Sum.inr (Sum.inr v5))) v1 else some (Sum.inr (Sum.inl (Sum.inl ((),b0,()))))
theorem a0P (x:uR.El):aV (bY 1) VJ (cB (bY 1) VJ) aAh OH (uR.enc x) (nJ (uR.lay []) aHm 239 43)=BH x.1.2.1 x.2.1 x.2.2.1:=by kernel_rfl
def aDD:uR.El→Option ((VN.El⊕VO.El)⊕Int):=aH (fun x=>BH x.1.2.1 x.2.1 x.2.2.1) fuel
def aWp {β:Type}:dK β:=fun k s K=>if Nat.beq k 2 then pP (uR.lay []) aHm 239 43 aDD s K else none
theorem aQt {β:Type}:aC (bY 1) (aWp (β:=β)) (aJ aWo):=aC.is [(2,OH)] (by kernel_rfl) (aC.cons (aFi (aY 1) VK aDC a0P rfl rfl) (aC.nil))
def aHn (a0:Ty.El aU×Unit×Ty.El (.list aP)×Unit)(b0:List (Ty.El aM)):Option (aDA.El⊕Int):=(aDD (((),(0:Int),()),b0,(a0.1,(),a0.2.2.1,()),())).bind fun v1=>Sum.elim (fun v2=>Sum.elim (fun v3=>some (Sum.inl ((),v3.2.1,()))) (fun v4=>none) v2) (fun v5=>some (Sum.inr v5)) v1
theorem bDb (x:aKD.El):vO (bY 1) VJ 239 aKD aDA [] (cB (bY 1) VJ) aWp Tryz.f266 aWo x=aHn x.1.1 x.2.1:=by kernel_rfl
def a3n:aW:=.DG 266 [] ⟨239,1,[],aKD,aDA,fun x=>aHn x.1.1 x.2.1⟩
theorem bDc:a3n.Ok CT.P:=aW.QB (C:=(bY 1)) (steps:=[]) (cN:=[]) (aY 1) VK (by kernel_rfl) (by kernel_rfl) aQt bDb
def aHo:Code:=Tryz.f267.body.getD .skip
theorem a7Z:Tryz.f267.body=some aHo:=by kernel_rfl
theorem a71:CT.P.funcs[267]?=some Tryz.f267:=by kernel_rfl
abbrev aKE:aF:=⟨1,[(0,.comp [.dat aU,.row aM 0,.dat (.list aP)])],[.row 64 aM],fun s=>[aNq s 0 2]⟩
abbrev aDE:aF:=⟨0,[],[.row 64 aM],fun _=>[0]⟩
def tyB:TypeId→Option Ty:=fun t=>bif Nat.beq t 319 then some bX else iL t
def VP:Tb:=cC tyB iM [aVE,aWl,aVJ,aVO]
theorem VQ:VP.Ok CT.P:=aQ (⟨aVF,a7Y,a7r,a7w,trivial⟩)
def aND:Code:=aX aHo 8
def aNE:Code:=aX aHo 3
abbrev uS:aF:=⟨68,[(1,.ptr 1),(2,.own bX 2),(12,.own aM 0),(13,.data I),(14,.data I)],[.row 64 aM,.var 186 [.data aU,.own aM 0,.data (.list aP)],.row 319 bX],fun s=>[0,aG s 1,aG s 2]⟩
abbrev VR:aF:=⟨68,[(1,.ptr 1),(2,.own bX 2)],[.row 64 aM,.var 186 [.data aU,.own aM 0,.data (.list aP)],.row 319 bX],fun s=>[0,aG s 1,aG s 2]⟩
abbrev VS:aF:=l0 68
def aHp:=ex 1 0 VR VS [.bU 2 319 bX] []
def BI (gV:Ty.El I)(fQ:Ty.El I)(b0:List (Ty.El aM))(b1:Ty.El aU×Unit×Ty.El (.list aP)×Unit)(b2:List (Ty.El bX)):Option (uS.El⊕((VR.El⊕VS.El)⊕Int)):=bif decide (fQ<gV) then bif decide ((0:Int)≤fQ∧fQ<(↑b0.length:Int)) then(aC8 (b0.getD (Int.toNat fQ) aM.dflt)).bind fun v2=>Sum.elim (fun v4=>bif((b2.length+[v4.1].length)*(32:Nat)).ble (70368744177664:Nat) then some (Sum.inl (((),(),(),gV,IntKind.i64.wrap (fQ+(1:Int)),()),b0,(b1.1,(),b1.2.2.1,()),b2++[v4.1],())) else none) (fun v5=>some (Sum.inr (Sum.inr v5))) v2 else none else some (Sum.inr (Sum.inl (Sum.inl (((),(),()),b0,(b1.1,(),b1.2.2.1,()),b2,()))))
theorem a0Q (x:uS.El):aV (bY 1) VP (cB (bY 1) VP) iI aNE (uS.enc x) (nJ (uS.lay [.bU 2 319 bX]) aHp 239 68)=BI x.1.2.2.2.1 x.1.2.2.2.2.1 x.2.1 x.2.2.1 x.2.2.2.1:=by kernel_rfl
def aDF:uS.El→Option ((VR.El⊕VS.El)⊕Int):=aH (fun x=>BI x.1.2.2.2.1 x.1.2.2.2.2.1 x.2.1 x.2.2.1 x.2.2.2.1) fuel
abbrev uT:aF:=⟨68,[(1,.ptr 1),(25,.data (.list bF)),(26,.data I),(27,.data I)],[.row 64 aM,.var 186 [.data aU,.own aM 0,.data (.list aP)]],fun s=>[0,aG s 1]⟩
abbrev VT:aF:=⟨68,[],[.row 64 aM],fun s=>[0]⟩
abbrev VU:aF:=l0 68
def aHq:=ex 1 2 VT VU [] []
def BJ (IA:Ty.El (.list bF))(r26:Ty.El I)(vW:Ty.El I)(b0:List (Ty.El aM))(b1:Ty.El aU×Unit×Ty.El (.list aP)×Unit):Option (uT.El⊕((VT.El⊕VU.El)⊕Int)):=bif decide (vW<r26) then bif decide ((0:Int)≤vW∧vW<(↑(List.length IA):Int)) then bif decide ((0:Int)≤(List.getD IA (Int.toNat vW) bF.dflt).1∧(List.getD IA (Int.toNat vW) bF.dflt).1<(↑b0.length:Int)) then bif decide ((0:Int)≤(List.getD IA (Int.toNat vW) bF.dflt).2∧(List.getD IA (Int.toNat vW) bF.dflt).2<(↑b0.length:Int)) then(aKh (b0.getD (Int.toNat (List.getD IA (Int.toNat vW) bF.dflt).1) aM.dflt) (b0.getD (Int.toNat (List.getD IA (Int.toNat vW) bF.dflt).2) aM.dflt)).bind fun v2=>Sum.elim (fun v4=>bif v4.2.1 then(aKj (b0.getD (Int.toNat (List.getD IA (Int.toNat vW) bF.dflt).1) aM.dflt) (b0.getD (Int.toNat (List.getD IA (Int.toNat vW) bF.dflt).2) aM.dflt) v4.1).bind fun v6=>Sum.elim (fun v8=>bif decide ((0:Int)≤(List.getD IA (Int.toNat vW) bF.dflt).1∧(List.getD IA (Int.toNat vW) bF.dflt).1<(↑b0.length:Int)) then bif decide ((0:Int)≤(List.getD IA (Int.toNat vW) bF.dflt).2∧(List.getD IA (Int.toNat vW) bF.dflt).2<(↑(b0.set (Int.toNat (List.getD IA (Int.toNat vW) bF.dflt).1) v8.1).length:Int)) then some (Sum.inl (((),IA,r26,IntKind.i64.wrap (vW+(1:Int)),()),(b0.set (Int.toNat (List.getD IA (Int.toNat vW) bF.dflt).1) v8.1).set (Int.toNat (List.getD IA (Int.toNat vW) bF.dflt).2) v8.2.1,(b1.1,(),b1.2.2.1,()),())) else none else none) (fun v9=>some (Sum.inr (Sum.inr v9))) v6 else some (Sum.inl (((),IA,r26,IntKind.i64.wrap (vW+(1:Int)),()),b0,(b1.1,(),b1.2.2.1,()),()))) (fun v10=>some (Sum.inr (Sum.inr v10))) v2 else none else none else none else some (Sum.inr (Sum.inl (Sum.inl ((),b0,()))))
theorem a0R (x:uT.El):aV (bY 1) VP (cB (bY 1) VP) iI aND (uT.enc x) (nJ (uT.lay []) aHq 239 68)=BJ x.1.2.1 x.1.2.2.1 x.1.2.2.2.1 x.2.1 x.2.2.1:=by kernel_rfl
def aDG:uT.El→Option ((VT.El⊕VU.El)⊕Int):=aH (fun x=>BJ x.1.2.1 x.1.2.2.1 x.1.2.2.2.1 x.2.1 x.2.2.1) fuel
def aWq {β:Type}:dK β:=fun k s K=>if Nat.beq k 3 then pP (uS.lay [.bU 2 319 bX]) aHp 239 68 aDF s K else if Nat.beq k 8 then pP (uT.lay []) aHq 239 68 aDG s K else none
theorem aQu {β:Type}:aC (bY 1) (aWq (β:=β)) (aJ aHo):=aC.is [(3,aNE),(8,aND)] (by kernel_rfl) (aC.cons (aFi (aY 1) VQ (bC (by kernel_rfl)) a0Q rfl rfl) (aC.cons (aFi (aY 1) VQ (bC (by kernel_rfl)) a0R rfl rfl) (aC.nil)))
def aHr (a0:Ty.El aU×Unit×Ty.El (.list aP)×Unit)(b0:List (Ty.El aM)):Option (aDE.El⊕Int):=(aDF (((),(),(),(↑b0.length:Int),(0:Int),()),b0,(a0.1,(),a0.2.2.1,()),[],())).bind fun v1=>Sum.elim (fun v2=>Sum.elim (fun v3=>(yW v3.2.2.2.1).bind fun v5=>(aDG (((),v5.1,(↑(List.length v5.1):Int),(0:Int),()),v3.2.1,(v3.2.2.1.1,(),v3.2.2.1.2.2.1,()),())).bind fun v6=>Sum.elim (fun v7=>Sum.elim (fun v8=>some (Sum.inl ((),v8.2.1,()))) (fun v9=>none) v7) (fun v10=>some (Sum.inr v10)) v6) (fun v11=>none) v2) (fun v12=>some (Sum.inr v12)) v1
theorem bDd (x:aKE.El):vO (bY 1) VP 239 aKE aDE [] (cB (bY 1) VP) aWq Tryz.f267 aHo x=aHr x.1.1 x.2.1:=by kernel_rfl
def a3o:aW:=.DG 267 [] ⟨239,1,[],aKE,aDE,fun x=>aHr x.1.1 x.2.1⟩
theorem bDe:a3o.Ok CT.P:=aW.QB (C:=(bY 1)) (steps:=[]) (cN:=[]) (aY 1) VQ a71 a7Z aQu bDd
def aWr:Code:=Tryz.f268.body.getD .skip
abbrev aKF:aF:=⟨1,[(0,.comp [.dat aU,.row aM 0,.dat (.list aP)])],[.row 64 aM],fun s=>[aNq s 0 2]⟩
abbrev aDH:aF:=⟨0,[],[.row 64 aM],fun _=>[0]⟩
def aHs:Tb:=cC iL iM [aVB,aKa,aMy]
theorem aHt:aHs.Ok CT.P:=aQ (⟨aVC,aVy,SX,trivial⟩)
def aNF:Code:=aX aWr 2
abbrev uU:aF:=⟨27,[(1,.ptr 1),(5,.own aM 0),(6,.data I),(7,.data I)],[.row 64 aM,.var 186 [.data aU,.own aM 0,.data (.list aP)]],fun s=>[0,aG s 1]⟩
abbrev VV:aF:=⟨27,[],[.row 64 aM],fun s=>[0]⟩
abbrev VW:aF:=l0 27
def aHu:=ex 1 0 VV VW [] []
def BK (r6:Ty.El I)(r7:Ty.El I)(b0:List (Ty.El aM))(b1:Ty.El aU×Unit×Ty.El (.list aP)×Unit):Option (uU.El⊕((VV.El⊕VW.El)⊕Int)):=bif decide (r7<r6) then bif decide ((0:Int)≤r7∧r7<(↑b0.length:Int)) then bif(b0.getD (Int.toNat r7) aM.dflt).2.2.1 != (0:Int) then(UG (b0.getD (Int.toNat r7) aM.dflt)).bind fun v2=>Sum.elim (fun v4=>(aC6 v4.1 (64:Int)).bind fun v6=>Sum.elim (fun v8=>(rA (b0.getD (Int.toNat r7) aM.dflt).2.2.2.1 v8.1).bind fun v10=>Sum.elim (fun v12=>bif decide ((0:Int)≤r7∧r7<(↑b0.length:Int)) then some (Sum.inl (((),(),r6,IntKind.i64.wrap (r7+(1:Int)),()),b0.set (Int.toNat r7) ((b0.getD (Int.toNat r7) aM.dflt).1,(b0.getD (Int.toNat r7) aM.dflt).2.1,(b0.getD (Int.toNat r7) aM.dflt).2.2.1,v12.1,(b0.getD (Int.toNat r7) aM.dflt).2.2.2.2),(b1.1,(),b1.2.2.1,()),())) else none) (fun DM=>some (Sum.inr (Sum.inr DM))) v10) (fun pX=>some (Sum.inr (Sum.inr pX))) v6) (fun QE=>some (Sum.inr (Sum.inr QE))) v2 else some (Sum.inl (((),(),r6,IntKind.i64.wrap (r7+(1:Int)),()),b0,(b1.1,(),b1.2.2.1,()),())) else none else some (Sum.inr (Sum.inl (Sum.inl ((),b0,()))))
theorem a0S (x:uU.El):aV (bY 1) aHs (cB (bY 1) aHs) iI aNF (uU.enc x) (nJ (uU.lay []) aHu 239 27)=BK x.1.2.2.1 x.1.2.2.2.1 x.2.1 x.2.2.1:=by kernel_rfl
def aDI:uU.El→Option ((VV.El⊕VW.El)⊕Int):=aH (fun x=>BK x.1.2.2.1 x.1.2.2.2.1 x.2.1 x.2.2.1) fuel
def aWs {β:Type}:dK β:=fun k s K=>if Nat.beq k 2 then pP (uU.lay []) aHu 239 27 aDI s K else none
theorem aQv {β:Type}:aC (bY 1) (aWs (β:=β)) (aJ aWr):=aC.is [(2,aNF)] (by kernel_rfl) (aC.cons (aFi (aY 1) aHt (bC (by kernel_rfl)) a0S rfl rfl) (aC.nil))
def aHv (a0:Ty.El aU×Unit×Ty.El (.list aP)×Unit)(b0:List (Ty.El aM)):Option (aDH.El⊕Int):=(aDI (((),(),(↑b0.length:Int),(0:Int),()),b0,(a0.1,(),a0.2.2.1,()),())).bind fun v1=>Sum.elim (fun v2=>Sum.elim (fun v3=>some (Sum.inl ((),v3.2.1,()))) (fun v4=>none) v2) (fun v5=>some (Sum.inr v5)) v1
theorem bDf (x:aKF.El):vO (bY 1) aHs 239 aKF aDH [] (cB (bY 1) aHs) aWs Tryz.f268 aWr x=aHv x.1.1 x.2.1:=by kernel_rfl
def a3p:aW:=.DG 268 [] ⟨239,1,[],aKF,aDH,fun x=>aHv x.1.1 x.2.1⟩
theorem bDg:a3p.Ok CT.P:=aW.QB (C:=(bY 1)) (steps:=[]) (cN:=[]) (aY 1) aHt (by kernel_rfl) (by kernel_rfl) aQv bDf
end Go.DI.S
end
