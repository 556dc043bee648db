import Derived.Test.YtbjldjihpekhaaaGreatAh
import Derived.Test.YtbjldjihpekhaaaGreatEa
import Derived.Test.YtbjldjihpekhaaaGreatKa
/- Changes: told by functions on data. No conditions. -/
set_option linter.unusedSimpArgs false
set_option linter.unusedVariables false
set_option maxRecDepth 100000
set_option maxHeartbeats 0
noncomputable section
namespace Go.DI.S
open Go.Proofs
def aWH:Code:=Tryz.f152.body.getD .skip
theorem a8h:Tryz.f152.body=some aWH:=by kernel_rfl
theorem a8i:CT.P.funcs[152]?=some Tryz.f152:=by kernel_rfl
def aWI:Tb:=cC tyP mpP [a5t]
theorem aWJ:aWI.Ok CT.P:=aQ (⟨bBO,trivial⟩)
def aWK {β:Type}:dK β:=fun _ _ _=>none
theorem aQD {β:Type}:aC CT (aWK (β:=β)) (aJ aWH):=aC.is [] (by kernel_rfl) (aC.nil)
def aAp (a1:Ty.El bD)(a2:Ty.El .str):Option (aS [.bool]):=(M5 a2).bind fun v2=>bif a2==[] then some (true,()) else bif v2.2.1 then some (v2.1.1==a1.1,()) else some (false,())
theorem bDq (x:Ps [.ty bD,.ty .str]):dA CT aWI [.bool] (cB CT aWI) aWK Tryz.f152 aWH (bQ [.ty bD,.ty .str] x)=aAp x.1 x.2.1:=by kernel_rfl
def a3t:aW:=.fn 152 [] ⟨[.ty bD,.ty .str],[.bool],fun x=>aAp x.1 x.2.1,false⟩
theorem bDr:a3t.Ok CT.P:=aW.ofFn aL aWJ a8i a8h aQD bDq
def a0Z:Code:=Tryz.f104.body.getD .skip
theorem bDs:Tryz.f104.body=some a0Z:=by kernel_rfl
theorem bDt:CT.P.funcs[104]?=some Tryz.f104:=by kernel_rfl
def aWL:Tb:=cC tyP mpP [a4h,aSg,a3t]
theorem aNI:aWL.Ok CT.P:=aQ (⟨a4i,aO5,bDr,trivial⟩)
def aWM:Code:=aX a0Z 3
abbrev BL:aF:=⟨118,[(1,.ptr 0),(3,.data I),(9,.data (.list bD)),(10,.data I),(11,.data I)],[.var 87 [.data cA]],fun s=>[aG s 1]⟩
abbrev aDN:aF:=⟨118,[(1,.ptr 0)],[.var 87 [.data cA]],fun s=>[aG s 1]⟩
abbrev aDO:aF:=⟨118,[(2,.data .bool)],[],fun _=>[]⟩
def aNJ:=ex 0 0 aDN aDO [] []
def EH (r3:Ty.El I)(r9:Ty.El (.list bD))(eD:Ty.El I)(eM:Ty.El I)(b0:Ty.El cA×Unit):Option (BL.El⊕(aDN.El⊕aDO.El)):=bif decide (eM<eD) then bif decide ((0:Int)≤eM∧eM<(↑(List.length r9):Int)) then bif decide ((List.getD r9 (Int.toNat eM) bD.dflt).1≤r3) then some (Sum.inr (Sum.inr ((false,()),()))) else(FF (List.getD r9 (Int.toNat eM) bD.dflt).1).bind fun v2=>bif !v2.1 then some (Sum.inr (Sum.inr ((false,()),()))) else bif(List.getD r9 (Int.toNat eM) bD.dflt).2.1==(List.getD r9 (Int.toNat eM) bD.dflt).2.2 then some (Sum.inr (Sum.inr ((false,()),()))) else(aAp (List.getD r9 (Int.toNat eM) bD.dflt) (List.getD r9 (Int.toNat eM) bD.dflt).2.1).bind fun v4=>bif !v4.1 then some (Sum.inr (Sum.inr ((false,()),()))) else(aAp (List.getD r9 (Int.toNat eM) bD.dflt) (List.getD r9 (Int.toNat eM) bD.dflt).2.2).bind fun v6=>bif !v6.1 then some (Sum.inr (Sum.inr ((false,()),()))) else some (Sum.inl (((),(List.getD r9 (Int.toNat eM) bD.dflt).1,r9,eD,IntKind.i64.wrap (eM+(1:Int)),()),(b0.1,()),())) else none else some (Sum.inr (Sum.inl (((),()),(b0.1,()),())))
theorem a8j (x:BL.El):aV CT aWL (cB CT aWL) iI aWM (BL.enc x) (bG (BL.lay []) aNJ)=EH x.1.2.1 x.1.2.2.1 x.1.2.2.2.1 x.1.2.2.2.2.1 x.2.1:=by kernel_rfl
def aKL:BL.El→Option (aDN.El⊕aDO.El):=aH (fun x=>EH x.1.2.1 x.1.2.2.1 x.1.2.2.2.1 x.1.2.2.2.2.1 x.2.1) fuel
def a3u {β:Type}:dK β:=fun k s K=>if Nat.beq k 3 then bO (BL.lay []) aNJ aKL s K else none
theorem aWN {β:Type}:aC CT (a3u (β:=β)) (aJ a0Z):=aC.is [(3,aWM)] (by kernel_rfl) (aC.cons (iW aL aNI (bC (by kernel_rfl)) a8j rfl rfl) (aC.nil))
def aDP (a1:Ty.El cA):Option (aS [.bool]):=(aKL (((),(0:Int),a1.1,(↑(List.length a1.1):Int),(0:Int),()),(a1,()),())).bind fun v1=>Sum.elim (fun v2=>bif decide ((↑(List.length v2.2.1.1.1):Int)>(40:Int)) then some (false,()) else bif !v2.2.1.1.2.1==!(v2.2.1.1.2.2.1.1==v2.2.1.1.2.2.2.1.1&&(v2.2.1.1.2.2.1.2==v2.2.1.1.2.2.2.1.2&&true)) then some (false,()) else bif !v2.2.1.1.2.1 then bif !(v2.2.1.1.2.2.1.1==(0:Int)&&(v2.2.1.1.2.2.1.2==(0:Int)&&true)) then some (false,()) else bif decide ((if v2.2.1.1.2.2.2.2.2<v2.2.1.1.2.2.2.2.1 then v2.2.1.1.2.2.2.2.2 else v2.2.1.1.2.2.2.2.1)<(1:Int)) then some (false,()) else bif decide ((if v2.2.1.1.2.2.2.2.2>v2.2.1.1.2.2.2.2.1 then v2.2.1.1.2.2.2.2.2 else v2.2.1.1.2.2.2.2.1)>(1000001:Int)) then some (false,()) else(rL (v2.2.1.1.2.2.1,[],[])).bind fun v4=>bif v4.1 then(rL (v2.2.1.1.2.2.2.1,[],[])).bind fun v6=>bif v6.1 then bif decide ((↑(List.length v2.2.1.1.1):Int)>(0:Int)) then some (true,()) else bif v2.2.1.1.2.1 then some (true,()) else some (v2.2.1.1.2.2.2.2.1 != v2.2.1.1.2.2.2.2.2,()) else some (false,()) else some (false,()) else bif decide ((if v2.2.1.1.2.2.2.2.2<v2.2.1.1.2.2.2.2.1 then v2.2.1.1.2.2.2.2.2 else v2.2.1.1.2.2.2.2.1)<(1:Int)) then some (false,()) else bif decide ((if v2.2.1.1.2.2.2.2.2>v2.2.1.1.2.2.2.2.1 then v2.2.1.1.2.2.2.2.2 else v2.2.1.1.2.2.2.2.1)>(1000001:Int)) then some (false,()) else(rL (v2.2.1.1.2.2.1,[],[])).bind fun v8=>bif v8.1 then(rL (v2.2.1.1.2.2.2.1,[],[])).bind fun v10=>bif v10.1 then bif decide ((↑(List.length v2.2.1.1.1):Int)>(0:Int)) then some (true,()) else bif v2.2.1.1.2.1 then some (true,()) else some (v2.2.1.1.2.2.2.2.1 != v2.2.1.1.2.2.2.2.2,()) else some (false,()) else some (false,())) (fun v11=>some (v11.1.1,())) v1
theorem bHT (x:Ps [.ty cA]):dA CT aWL [.bool] (cB CT aWL) a3u Tryz.f104 a0Z (bQ [.ty cA] x)=aDP x.1:=by kernel_rfl
def a8k:aW:=.fn 104 [] ⟨[.ty cA],[.bool],fun x=>aDP x.1,false⟩
theorem bDu:a8k.Ok CT.P:=aW.ofFn aL aNI bDt bDs aWN bHT
def aWO:Code:=Tryz.f103.body.getD .skip
theorem a8l:Tryz.f103.body=some aWO:=by kernel_rfl
theorem a8m:CT.P.funcs[103]?=some Tryz.f103:=by kernel_rfl
def aWP:Tb:=cC tyP mpP [aPe,a5m]
theorem aWQ:aWP.Ok CT.P:=aQ (⟨Q0,bBF,trivial⟩)
def aWR {β:Type}:dK β:=fun _ _ _=>none
theorem aQE {β:Type}:aC CT (aWR (β:=β)) (aJ aWO):=aC.is [] (by kernel_rfl) (aC.nil)
def V2 (a1:Ty.El aD)(a2:Ty.El I):Option (aS [.str]):=(rM a1 a2).bind fun v2=>bif !v2.2.1 then some ([],()) else(FV v2.1).bind fun v4=>some (v4.1,())
theorem bDv (x:Ps [.ty aD,.ty I]):dA CT aWP [.str] (cB CT aWP) aWR Tryz.f103 aWO (bQ [.ty aD,.ty I] x)=V2 x.1 x.2.1:=by kernel_rfl
def aWS:aW:=.fn 103 [] ⟨[.ty aD,.ty I],[.str],fun x=>V2 x.1 x.2.1,false⟩
theorem a3v:aWS.Ok CT.P:=aW.ofFn aL aWQ a8m a8l aQE bDv
def aNK:Code:=Tryz.f147.body.getD .skip
theorem a8n:Tryz.f147.body=some aNK:=by kernel_rfl
theorem a8o:CT.P.funcs[147]?=some Tryz.f147:=by kernel_rfl
def aHE:Tb:=cC tyP mpP [aWG]
theorem aHF:aHE.Ok CT.P:=aQ (⟨a8g,trivial⟩)
def aNL:Code:=aX aNK 3
abbrev uX:aF:=⟨45,[(1,.ptr 0),(2,.ptr 2),(10,.own bD 1),(11,.data I),(12,.data I)],[.var 87 [.own bD 1,.data .bool,.data aU,.data aU,.data I,.data I],.row 91 bD,.var 87 [.data cA]],fun s=>[aG s 1,dL s 1 0,aG s 2]⟩
abbrev V3:aF:=⟨45,[(1,.ptr 0),(2,.ptr 2)],[.var 87 [.own bD 1,.data .bool,.data aU,.data aU,.data I,.data I],.row 91 bD,.var 87 [.data cA]],fun s=>[aG s 1,dL s 1 0,aG s 2]⟩
abbrev V4:aF:=l0 45
def aHG:=ex 0 0 V3 V4 [.cG 1 0 91 bD] []
def aNM (eM:Ty.El I)(lJ:Ty.El I)(b0:Unit×Ty.El .bool×Ty.El aU×Ty.El aU×Ty.El I×Ty.El I×Unit)(b1:List (Ty.El bD))(b2:Ty.El cA×Unit):Option (uX.El⊕(V3.El⊕V4.El)):=bif decide (lJ<eM) then bif decide ((0:Int)≤lJ∧lJ<(↑b1.length:Int)) then bif decide ((0:Int)≤lJ∧lJ<(↑b1.length:Int)) then bif decide ((0:Int)≤lJ∧lJ<(↑(b1.set (Int.toNat lJ) ((b1.getD (Int.toNat lJ) bD.dflt).1,(b1.getD (Int.toNat lJ) bD.dflt).2.2,(b1.getD (Int.toNat lJ) bD.dflt).2.2)).length:Int)) then some (Sum.inl (((),(),(),eM,IntKind.i64.wrap (lJ+(1:Int)),()),((),b0.2.1,b0.2.2.1,b0.2.2.2.1,b0.2.2.2.2.1,b0.2.2.2.2.2.1,()),(b1.set (Int.toNat lJ) ((b1.getD (Int.toNat lJ) bD.dflt).1,(b1.getD (Int.toNat lJ) bD.dflt).2.2,(b1.getD (Int.toNat lJ) bD.dflt).2.2)).set (Int.toNat lJ) (((b1.set (Int.toNat lJ) ((b1.getD (Int.toNat lJ) bD.dflt).1,(b1.getD (Int.toNat lJ) bD.dflt).2.2,(b1.getD (Int.toNat lJ) bD.dflt).2.2)).getD (Int.toNat lJ) bD.dflt).1,((b1.set (Int.toNat lJ) ((b1.getD (Int.toNat lJ) bD.dflt).1,(b1.getD (Int.toNat lJ) bD.dflt).2.2,(b1.getD (Int.toNat lJ) bD.dflt).2.2)).getD (Int.toNat lJ) bD.dflt).2.1,(b1.getD (Int.toNat lJ) bD.dflt).2.1),(b2.1,()),())) else none else none else none else some (Sum.inr (Sum.inl (((),(),()),((),b0.2.1,b0.2.2.1,b0.2.2.2.1,b0.2.2.2.2.1,b0.2.2.2.2.2.1,()),b1,(b2.1,()),())))
theorem a00 (x:uX.El):aV CT aHE (cB CT aHE) iI aNL (uX.enc x) (bG (uX.lay [.cG 1 0 91 bD]) aHG)=aNM x.1.2.2.2.1 x.1.2.2.2.2.1 x.2.1 x.2.2.1 x.2.2.2.1:=by kernel_rfl
def aNN:uX.El→Option (V3.El⊕V4.El):=aH (fun x=>aNM x.1.2.2.2.1 x.1.2.2.2.2.1 x.2.1 x.2.2.1 x.2.2.2.1) fuel
def aWT {β:Type}:dK β:=fun k s K=>if Nat.beq k 3 then bO (uX.lay [.cG 1 0 91 bD]) aHG aNN s K else none
theorem aQF {β:Type}:aC CT (aWT (β:=β)) (aJ aNK):=aC.is [(3,aNL)] (by kernel_rfl) (aC.cons (iW aL aHF (bC (by kernel_rfl)) a00 rfl rfl) (aC.nil))
def aWU (a1:Ty.El cA):Option (aS [cA]):=(aWF a1.1).bind fun v2=>(aNN (((),(),(),(↑v2.length:Int),(0:Int),()),((),a1.2.1,a1.2.2.1,a1.2.2.2.1,a1.2.2.2.2.1,a1.2.2.2.2.2,()),v2,(([],false,((0:Int),(0:Int)),((0:Int),(0:Int)),(0:Int),(0:Int)),()),())).bind fun v4=>Sum.elim (fun v5=>some ((v5.2.2.1,v5.2.1.2.1,v5.2.1.2.2.2.1,v5.2.1.2.2.1,v5.2.1.2.2.2.2.2.1,v5.2.1.2.2.2.2.1),())) (fun v6=>none) v4
theorem bDw (x:Ps [.ty cA]):dA CT aHE [cA] (cB CT aHE) aWT Tryz.f147 aNK (bQ [.ty cA] x)=aWU x.1:=by kernel_rfl
def a3w:aW:=.fn 147 [] ⟨[.ty cA],[cA],fun x=>aWU x.1,false⟩
theorem bDx:a3w.Ok CT.P:=aW.ofFn aL aHF a8o a8n aQF bDw
def aHH:Code:=Tryz.f100.body.getD .skip
theorem a8p:Tryz.f100.body=some aHH:=by kernel_rfl
theorem a8q:CT.P.funcs[100]?=some Tryz.f100:=by kernel_rfl
def V5:Tb:=cC tyP mpP [a3s]
theorem V6:V5.Ok CT.P:=aQ (⟨bDn,trivial⟩)
def aHI:Code:=aX aHH 11
def aNO:Code:=aX aHH 3
abbrev uY:aF:=⟨36,[(0,.data (.list (.list aA))),(3,.data I),(9,.data (.list (.list aA))),(10,.data I),(11,.data I)],[],fun _=>[]⟩
abbrev V7:aF:=⟨36,[(0,.data (.list (.list aA))),(3,.data I)],[],fun _=>[]⟩
abbrev V8:aF:=l0 36
def aHJ:=ex 0 0 V7 V8 [] []
def aNP (r0:Ty.El (.list (.list aA)))(r3:Ty.El I)(r9:Ty.El (.list (.list aA)))(eD:Ty.El I)(eM:Ty.El I):Option (uY.El⊕(V7.El⊕V8.El)):=bif decide (eM<eD) then bif decide ((0:Int)≤eM∧eM<(↑(List.length r9):Int)) then bif decide (IntKind.i64.wrap (r3+(↑(List.length (List.getD r9 (Int.toNat eM) aA.list.dflt)):Int))<(0:Int)) then none else some (Sum.inl ((r0,IntKind.i64.wrap (r3+(↑(List.length (List.getD r9 (Int.toNat eM) aA.list.dflt)):Int)),r9,eD,IntKind.i64.wrap (eM+(1:Int)),()),())) else none else some (Sum.inr (Sum.inl ((r0,r3,()),())))
theorem a01 (x:uY.El):aV CT V5 (cB CT V5) iI aNO (uY.enc x) (bG (uY.lay []) aHJ)=aNP x.1.1 x.1.2.1 x.1.2.2.1 x.1.2.2.2.1 x.1.2.2.2.2.1:=by kernel_rfl
def OK:uY.El→Option (V7.El⊕V8.El):=aH (fun x=>aNP x.1.1 x.1.2.1 x.1.2.2.1 x.1.2.2.2.1 x.1.2.2.2.2.1) fuel
abbrev o3:aF:=⟨36,[(6,.own aA 0),(25,.data (.list (.list aA))),(26,.data I),(27,.data I)],[.row 68 aA],fun s=>[aG s 6]⟩
abbrev K7:aF:=⟨36,[(6,.own aA 0)],[.row 68 aA],fun s=>[aG s 6]⟩
abbrev K8:aF:=l0 36
def aAq:=ex 0 2 K7 K8 [] []
def aHK (IA:Ty.El (.list (.list aA)))(r26:Ty.El I)(vW:Ty.El I)(b0:List (Ty.El aA)):Option (o3.El⊕(K7.El⊕K8.El)):=bif decide (vW<r26) then bif decide ((0:Int)≤vW∧vW<(↑(List.length IA):Int)) then bif((b0.length+List.length (List.getD IA (Int.toNat vW) aA.list.dflt))*(128:Nat)).ble (70368744177664:Nat) then some (Sum.inl (((),IA,r26,IntKind.i64.wrap (vW+(1:Int)),()),b0++List.getD IA (Int.toNat vW) aA.list.dflt,())) else none else none else some (Sum.inr (Sum.inl (((),()),b0,())))
theorem aWV (x:o3.El):aV CT V5 (cB CT V5) iI aHI (o3.enc x) (bG (o3.lay []) aAq)=aHK x.1.2.1 x.1.2.2.1 x.1.2.2.2.1 x.2.1:=by kernel_rfl
def G8:o3.El→Option (K7.El⊕K8.El):=aH (fun x=>aHK x.1.2.1 x.1.2.2.1 x.1.2.2.2.1 x.2.1) fuel
def aWW {β:Type}:dK β:=fun k s K=>if Nat.beq k 3 then bO (uY.lay []) aHJ OK s K else if Nat.beq k 11 then bO (o3.lay []) aAq G8 s K else none
theorem aQG {β:Type}:aC CT (aWW (β:=β)) (aJ aHH):=aC.is [(3,aNO),(11,aHI)] (by kernel_rfl) (aC.cons (iW aL V6 (bC (by kernel_rfl)) a01 rfl rfl) (aC.cons (iW aL V6 (bC (by kernel_rfl)) aWV rfl rfl) (aC.nil)))
def aHL (a1:Ty.El (.list (.list aA))):Option (aS [.list aA]):=(OK ((a1,(0:Int),a1,(↑(List.length a1):Int),(0:Int),()),())).bind fun v1=>Sum.elim (fun v2=>(aAk () v2.1.2.1).bind fun v4=>(G8 (((),v2.1.1,(↑(List.length v2.1.1):Int),(0:Int),()),v4,())).bind fun v5=>Sum.elim (fun v6=>some (v6.2.1,())) (fun v7=>none) v5) (fun v8=>none) v1
theorem bDy (x:Ps [.ty (.list (.list aA))]):dA CT V5 [.list aA] (cB CT V5) aWW Tryz.f100 aHH (bQ [.ty (.list (.list aA))] x)=aHL x.1:=by kernel_rfl
def a3x:aW:=.fn 100 [] ⟨[.ty (.list (.list aA))],[.list aA],fun x=>aHL x.1,false⟩
theorem bDz:a3x.Ok CT.P:=aW.ofFn aL V6 a8q a8p aQG bDy
def aHM:Code:=Tryz.f36.body.getD .skip
theorem a8r:Tryz.f36.body=some aHM:=by kernel_rfl
theorem a8s:CT.P.funcs[36]?=some Tryz.f36:=by kernel_rfl
def V9:Tb:=cC tyP mpP [aBV,a8k,a4S,bA1,aWS,a3x]
theorem WA:V9.Ok CT.P:=aQ (⟨JF,bDu,aSO,bA2,a3v,bDz,trivial⟩)
def aHN:Code:=aX aHM 12
def aNQ:Code:=aX aHM 5
abbrev uZ:aF:=⟨90,[(2,.ptr 0),(3,.ptr 1),(4,.ptr 2),(6,.own I 3),(27,.data (.list aA)),(28,.data I),(29,.data I)],[.var 51 [.data aD],.var 51 [.data aD],.var 87 [.data cA],.row 3 I],fun s=>[aG s 2,aG s 3,aG s 4,aG s 6]⟩
abbrev WB:aF:=⟨90,[(2,.ptr 0),(3,.ptr 1),(4,.ptr 2),(6,.own I 3)],[.var 51 [.data aD],.var 51 [.data aD],.var 87 [.data cA],.row 3 I],fun s=>[aG s 2,aG s 3,aG s 4,aG s 6]⟩
abbrev WC:aF:=l0 90
def aHO:=ex 0 0 WB WC [.bU 6 3 I] []
def wR (vW:Ty.El (.list aA))(r28:Ty.El I)(r29:Ty.El I)(b0:Ty.El aD×Unit)(b1:Ty.El aD×Unit)(b2:Ty.El cA×Unit)(b3:List (Ty.El I)):Option (uZ.El⊕(WB.El⊕WC.El)):=bif decide (r29<r28) then bif decide ((0:Int)≤r29∧r29<(↑(List.length vW):Int)) then bif((b3.length+[(List.getD vW (Int.toNat r29) aA.dflt).1].length)*(8:Nat)).ble (70368744177664:Nat) then some (Sum.inl (((),(),(),(),vW,r28,IntKind.i64.wrap (r29+(1:Int)),()),(b0.1,()),(b1.1,()),(b2.1,()),b3++[(List.getD vW (Int.toNat r29) aA.dflt).1],())) else none else none else some (Sum.inr (Sum.inl (((),(),(),(),()),(b0.1,()),(b1.1,()),(b2.1,()),b3,())))
theorem a02 (x:uZ.El):aV CT V9 (cB CT V9) iI aNQ (uZ.enc x) (bG (uZ.lay [.bU 6 3 I]) aHO)=wR x.1.2.2.2.2.1 x.1.2.2.2.2.2.1 x.1.2.2.2.2.2.2.1 x.2.1 x.2.2.1 x.2.2.2.1 x.2.2.2.2.1:=by kernel_rfl
def aDQ:uZ.El→Option (WB.El⊕WC.El):=aH (fun x=>wR x.1.2.2.2.2.1 x.1.2.2.2.2.2.1 x.1.2.2.2.2.2.2.1 x.2.1 x.2.2.1 x.2.2.2.1 x.2.2.2.2.1) fuel
abbrev o4:aF:=⟨90,[(2,.ptr 0),(3,.ptr 1),(4,.ptr 2),(9,.ptr 3),(47,.data (.list I)),(48,.data I),(49,.data I)],[.var 51 [.data aD],.var 51 [.data aD],.var 87 [.data cA],.var 87 [.own bD 4,.data .bool,.data aU,.data aU,.data I,.data I],.row 91 bD],fun s=>[aG s 2,aG s 3,aG s 4,aG s 9,dL s 9 0]⟩
abbrev K9:aF:=⟨90,[(2,.ptr 0),(3,.ptr 1),(4,.ptr 2),(9,.ptr 3)],[.var 51 [.data aD],.var 51 [.data aD],.var 87 [.data cA],.var 87 [.own bD 4,.data .bool,.data aU,.data aU,.data I,.data I],.row 91 bD],fun s=>[aG s 2,aG s 3,aG s 4,aG s 9,dL s 9 0]⟩
abbrev LA:aF:=l0 90
def aAr:=ex 0 2 K9 LA [.jX 47 (.list I),.cG 9 0 91 bD] []
def qI (r47:Ty.El (.list I))(Y3:Ty.El I)(H9:Ty.El I)(b0:Ty.El aD×Unit)(b1:Ty.El aD×Unit)(b2:Ty.El cA×Unit)(b3:Unit×Ty.El .bool×Ty.El aU×Ty.El aU×Ty.El I×Ty.El I×Unit)(b4:List (Ty.El bD)):Option (o4.El⊕(K9.El⊕LA.El)):=bif decide (H9<Y3) then bif decide ((0:Int)≤H9∧H9<(↑(List.length r47):Int)) then(V2 b0.1 (List.getD r47 (Int.toNat H9) (0:Int))).bind fun v2=>(V2 b1.1 (List.getD r47 (Int.toNat H9) (0:Int))).bind fun v4=>bif !v2.1==v4.1 then bif((b4.length+[(List.getD r47 (Int.toNat H9) (0:Int),v2.1,v4.1)].length)*(40:Nat)).ble (70368744177664:Nat) then some (Sum.inl (((),(),(),(),r47,Y3,IntKind.i64.wrap (H9+(1:Int)),()),(b0.1,()),(b1.1,()),(b2.1,()),((),b3.2.1,b3.2.2.1,b3.2.2.2.1,b3.2.2.2.2.1,b3.2.2.2.2.2.1,()),b4++[(List.getD r47 (Int.toNat H9) (0:Int),v2.1,v4.1)],())) else none else some (Sum.inl (((),(),(),(),r47,Y3,IntKind.i64.wrap (H9+(1:Int)),()),(b0.1,()),(b1.1,()),(b2.1,()),((),b3.2.1,b3.2.2.1,b3.2.2.2.1,b3.2.2.2.2.1,b3.2.2.2.2.2.1,()),b4,())) else none else some (Sum.inr (Sum.inl (((),(),(),(),()),(b0.1,()),(b1.1,()),(b2.1,()),((),b3.2.1,b3.2.2.1,b3.2.2.2.1,b3.2.2.2.2.1,b3.2.2.2.2.2.1,()),b4,())))
theorem aWX (x:o4.El):aV CT V9 (cB CT V9) iI aHN (o4.enc x) (bG (o4.lay [.jX 47 (.list I),.cG 9 0 91 bD]) aAr)=qI x.1.2.2.2.2.1 x.1.2.2.2.2.2.1 x.1.2.2.2.2.2.2.1 x.2.1 x.2.2.1 x.2.2.2.1 x.2.2.2.2.1 x.2.2.2.2.2.1:=by kernel_rfl
def WD:o4.El→Option (K9.El⊕LA.El):=aH (fun x=>qI x.1.2.2.2.2.1 x.1.2.2.2.2.2.1 x.1.2.2.2.2.2.2.1 x.2.1 x.2.2.1 x.2.2.2.1 x.2.2.2.2.1 x.2.2.2.2.2.1) fuel
def aWY {β:Type}:dK β:=fun k s K=>if Nat.beq k 5 then bO (uZ.lay [.bU 6 3 I]) aHO aDQ s K else if Nat.beq k 12 then bO (o4.lay [.jX 47 (.list I),.cG 9 0 91 bD]) aAr WD s K else none
theorem aQH {β:Type}:aC CT (aWY (β:=β)) (aJ aHM):=aC.is [(5,aNQ),(12,aHN)] (by kernel_rfl) (aC.cons (iW aL WA (bC (by kernel_rfl)) a02 rfl rfl) (aC.cons (iW aL WA (bC (by kernel_rfl)) aWX rfl rfl) (aC.nil)))
def G9 (a1:Ty.El aD)(a2:Ty.El aD):Option (aS [cA,.bool]):=(pR a1).bind fun v2=>bif !v2.1 then some (([],false,((0:Int),(0:Int)),((0:Int),(0:Int)),(0:Int),(0:Int)),false,()) else(pR a2).bind fun v4=>bif !v4.1 then some (([],false,((0:Int),(0:Int)),((0:Int),(0:Int)),(0:Int),(0:Int)),false,()) else(aHL [a1.2.2,a2.2.2]).bind fun v6=>(aDQ (((),(),(),(),v6.1,(↑(List.length v6.1):Int),(0:Int),()),(a1,()),(a2,()),(([],false,((0:Int),(0:Int)),((0:Int),(0:Int)),(0:Int),(0:Int)),()),[],())).bind fun v7=>Sum.elim (fun v8=>(xD v8.2.2.2.2.1).bind fun v10=>(aBW v10.2.1).bind fun QE=>(WD (((),(),(),(),QE,(↑QE.length:Int),(0:Int),()),(v8.2.1.1,()),(v8.2.2.1.1,()),(v8.2.2.2.1.1,()),((),false,((0:Int),(0:Int)),((0:Int),(0:Int)),v8.2.1.1.2.1,v8.2.2.1.1.2.1,()),[],())).bind fun fL=>Sum.elim (fun rV=>bif !(rV.2.1.1.1.1==rV.2.2.1.1.1.1&&(rV.2.1.1.1.2==rV.2.2.1.1.1.2&&true)) then(aDP (rV.2.2.2.2.2.1,true,rV.2.1.1.1,rV.2.2.1.1.1,rV.2.2.2.2.1.2.2.2.2.1,rV.2.2.2.2.1.2.2.2.2.2.1)).bind fun v21=>bif !v21.1 then some (([],false,((0:Int),(0:Int)),((0:Int),(0:Int)),(0:Int),(0:Int)),false,()) else some ((rV.2.2.2.2.2.1,true,rV.2.1.1.1,rV.2.2.1.1.1,rV.2.2.2.2.1.2.2.2.2.1,rV.2.2.2.2.1.2.2.2.2.2.1),true,()) else(aDP (rV.2.2.2.2.2.1,rV.2.2.2.2.1.2.1,rV.2.2.2.2.1.2.2.1,rV.2.2.2.2.1.2.2.2.1,rV.2.2.2.2.1.2.2.2.2.1,rV.2.2.2.2.1.2.2.2.2.2.1)).bind fun v23=>bif !v23.1 then some (([],false,((0:Int),(0:Int)),((0:Int),(0:Int)),(0:Int),(0:Int)),false,()) else some ((rV.2.2.2.2.2.1,rV.2.2.2.2.1.2.1,rV.2.2.2.2.1.2.2.1,rV.2.2.2.2.1.2.2.2.1,rV.2.2.2.2.1.2.2.2.2.1,rV.2.2.2.2.1.2.2.2.2.2.1),true,())) (fun v24=>none) fL) (fun v25=>none) v7
theorem bDA (x:Ps [.ty aD,.ty aD]):dA CT V9 [cA,.bool] (cB CT V9) aWY Tryz.f36 aHM (bQ [.ty aD,.ty aD] x)=G9 x.1 x.2.1:=by kernel_rfl
def aWZ:aW:=.fn 36 [] ⟨[.ty aD,.ty aD],[cA,.bool],fun x=>G9 x.1 x.2.1,false⟩
theorem a3y:aWZ.Ok CT.P:=aW.ofFn aL WA a8s a8r aQH bDA
def aQI:Code:=Tryz.f98.body.getD .skip
theorem bDB:Tryz.f98.body=some aQI:=by kernel_rfl
theorem bDC:CT.P.funcs[98]?=some Tryz.f98:=by kernel_rfl
def aDR:Tb:=cC tyP mpP [aBV,aPb,a8k,a5t,aWS,a3r]
theorem OL:aDR.Ok CT.P:=aQ (⟨JF,aPc,bDu,bBO,a3v,bDp,trivial⟩)
def aNR:Code:=aX aQI 25
def aNS:Code:=aX aQI 17
def aW0:Code:=aX aQI 7
abbrev BM:aF:=⟨132,[(2,.ptr 0),(3,.ptr 1),(4,.ptr 2),(6,.map 3),(46,.data (.list bD)),(47,.data I),(48,.data I)],[.var 51 [.data aD],.var 87 [.data cA],.var 51 [.data aD],.cE I .str],fun s=>[aG s 2,aG s 3,aG s 4,aG s 6]⟩
abbrev aDS:aF:=⟨132,[(2,.ptr 0),(3,.ptr 1),(4,.ptr 2),(6,.map 3)],[.var 51 [.data aD],.var 87 [.data cA],.var 51 [.data aD],.cE I .str],fun s=>[aG s 2,aG s 3,aG s 4,aG s 6]⟩
abbrev aDT:aF:=⟨132,[(4,.ptr 0),(5,.data I)],[.var 51 [.data aD]],fun s=>[aG s 4]⟩
def aNT:=ex 0 0 aDS aDT [] []
def aW1 (r46:Ty.El (.list bD))(r47:Ty.El I)(Y3:Ty.El I)(b0:Ty.El aD×Unit)(b1:Ty.El cA×Unit)(b2:Ty.El aD×Unit)(b3:List (Ty.El I×Ty.El (.str))):Option (BM.El⊕(aDS.El⊕aDT.El)):=bif decide (Y3<r47) then bif decide ((0:Int)≤Y3∧Y3<(↑(List.length r46):Int)) then(V2 b0.1 (List.getD r46 (Int.toNat Y3) bD.dflt).1).bind fun v2=>bif !v2.1==(List.getD r46 (Int.toNat Y3) bD.dflt).2.1 then some (Sum.inr (Sum.inr (((),(14:Int),()),((((0:Int),(0:Int)),(0:Int),[]),()),()))) else some (Sum.inl (((),(),(),(),r46,r47,IntKind.i64.wrap (Y3+(1:Int)),()),(b0.1,()),(b1.1,()),(b2.1,()),lG I Ty.str (List.getD r46 (Int.toNat Y3) bD.dflt).1 (List.getD r46 (Int.toNat Y3) bD.dflt).2.2 b3,())) else none else some (Sum.inr (Sum.inl (((),(),(),(),()),(b0.1,()),(b1.1,()),(b2.1,()),b3,())))
theorem a8t (x:BM.El):aV CT aDR (cB CT aDR) iI aW0 (BM.enc x) (bG (BM.lay []) aNT)=aW1 x.1.2.2.2.2.1 x.1.2.2.2.2.2.1 x.1.2.2.2.2.2.2.1 x.2.1 x.2.2.1 x.2.2.2.1 x.2.2.2.2.1:=by kernel_rfl
def aKM:BM.El→Option (aDS.El⊕aDT.El):=aH (fun x=>aW1 x.1.2.2.2.2.1 x.1.2.2.2.2.2.1 x.1.2.2.2.2.2.2.1 x.2.1 x.2.2.1 x.2.2.2.1 x.2.2.2.2.1) fuel
abbrev u5:aF:=⟨132,[(3,.ptr 0),(4,.ptr 1),(6,.map 2),(9,.ptr 3),(77,.data (.list aA)),(78,.data I),(79,.data I)],[.var 87 [.data cA],.var 51 [.data aD],.cE I .str,.var 51 [.data aU,.data I,.own aA 4],.row 68 aA],fun s=>[aG s 3,aG s 4,aG s 6,aG s 9,dL s 9 3]⟩
abbrev WE:aF:=⟨132,[(3,.ptr 0),(4,.ptr 1),(9,.ptr 2)],[.var 87 [.data cA],.var 51 [.data aD],.var 51 [.data aU,.data I,.own aA 3],.row 68 aA],fun s=>[aG s 3,aG s 4,aG s 9,dL s 9 3]⟩
abbrev WG:aF:=l0 132
def aHP:=ex 0 2 WE WG [.cG 9 3 68 aA] []
def aNU (r77:Ty.El (.list aA))(r78:Ty.El I)(r79:Ty.El I)(b0:Ty.El cA×Unit)(b1:Ty.El aD×Unit)(b2:List (Ty.El I×Ty.El (.str)))(b3:Ty.El aU×Ty.El I×Unit×Unit)(b4:List (Ty.El aA)):Option (u5.El⊕(WE.El⊕WG.El)):=bif decide (r79<r78) then bif decide ((0:Int)≤r79∧r79<(↑(List.length r77):Int)) then bif !(fV I Ty.str (List.getD r77 (Int.toNat r79) aA.dflt).1 b2).isSome then(QX (List.getD r77 (Int.toNat r79) aA.dflt).2.2.2.2).bind fun v2=>bif((b4.length+[((List.getD r77 (Int.toNat r79) aA.dflt).1,(List.getD r77 (Int.toNat r79) aA.dflt).2.1,(List.getD r77 (Int.toNat r79) aA.dflt).2.2.1,(List.getD r77 (Int.toNat r79) aA.dflt).2.2.2.1,v2.1)].length)*(128:Nat)).ble (70368744177664:Nat) then some (Sum.inl (((),(),(),(),r77,r78,IntKind.i64.wrap (r79+(1:Int)),()),(b0.1,()),(b1.1,()),b2,(b3.1,b3.2.1,(),()),b4++[((List.getD r77 (Int.toNat r79) aA.dflt).1,(List.getD r77 (Int.toNat r79) aA.dflt).2.1,(List.getD r77 (Int.toNat r79) aA.dflt).2.2.1,(List.getD r77 (Int.toNat r79) aA.dflt).2.2.2.1,v2.1)],())) else none else some (Sum.inl (((),(),(),(),r77,r78,IntKind.i64.wrap (r79+(1:Int)),()),(b0.1,()),(b1.1,()),b2,(b3.1,b3.2.1,(),()),b4,())) else none else some (Sum.inr (Sum.inl (((),(),(),()),(b0.1,()),(b1.1,()),(b3.1,b3.2.1,(),()),b4,())))
theorem a03 (x:u5.El):aV CT aDR (cB CT aDR) iI aNS (u5.enc x) (bG (u5.lay [.cG 9 3 68 aA]) aHP)=aNU x.1.2.2.2.2.1 x.1.2.2.2.2.2.1 x.1.2.2.2.2.2.2.1 x.2.1 x.2.2.1 x.2.2.2.1 x.2.2.2.2.1 x.2.2.2.2.2.1:=by kernel_rfl
def HA:u5.El→Option (WE.El⊕WG.El):=aH (fun x=>aNU x.1.2.2.2.2.1 x.1.2.2.2.2.2.1 x.1.2.2.2.2.2.2.1 x.2.1 x.2.2.1 x.2.2.2.1 x.2.2.2.2.1 x.2.2.2.2.2.1) fuel
abbrev u6:aF:=⟨132,[(4,.ptr 0),(9,.ptr 1),(104,.data (.list bD)),(105,.data I),(106,.data I)],[.var 51 [.data aD],.var 51 [.data aU,.data I,.own aA 2],.row 68 aA],fun s=>[aG s 4,aG s 9,dL s 9 3]⟩
abbrev WH:aF:=⟨132,[(4,.ptr 0),(9,.ptr 1)],[.var 51 [.data aD],.var 51 [.data aU,.data I,.own aA 2],.row 68 aA],fun s=>[aG s 4,aG s 9,dL s 9 3]⟩
abbrev WI:aF:=l0 132
def aHQ:=ex 0 4 WH WI [.cG 9 3 68 aA] []
def aNW (a04:Ty.El (.list bD))(a8u:Ty.El I)(aQJ:Ty.El I)(b0:Ty.El aD×Unit)(b1:Ty.El aU×Ty.El I×Unit×Unit)(b2:List (Ty.El aA)):Option (u6.El⊕(WH.El⊕WI.El)):=bif decide (aQJ<a8u) then bif decide ((0:Int)≤aQJ∧aQJ<(↑(List.length a04):Int)) then(M5 (List.getD a04 (Int.toNat aQJ) bD.dflt).2.2).bind fun v2=>bif v2.2.1 then bif((b2.length+[v2.1].length)*(128:Nat)).ble (70368744177664:Nat) then some (Sum.inl (((),(),a04,a8u,IntKind.i64.wrap (aQJ+(1:Int)),()),(b0.1,()),(b1.1,b1.2.1,(),()),b2++[v2.1],())) else none else some (Sum.inl (((),(),a04,a8u,IntKind.i64.wrap (aQJ+(1:Int)),()),(b0.1,()),(b1.1,b1.2.1,(),()),b2,())) else none else some (Sum.inr (Sum.inl (((),(),()),(b0.1,()),(b1.1,b1.2.1,(),()),b2,())))
theorem a05 (x:u6.El):aV CT aDR (cB CT aDR) iI aNR (u6.enc x) (bG (u6.lay [.cG 9 3 68 aA]) aHQ)=aNW x.1.2.2.1 x.1.2.2.2.1 x.1.2.2.2.2.1 x.2.1 x.2.2.1 x.2.2.2.1:=by kernel_rfl
def HB:u6.El→Option (WH.El⊕WI.El):=aH (fun x=>aNW x.1.2.2.1 x.1.2.2.2.1 x.1.2.2.2.2.1 x.2.1 x.2.2.1 x.2.2.2.1) fuel
def a3z {β:Type}:dK β:=fun k s K=>if Nat.beq k 7 then bO (BM.lay []) aNT aKM s K else if Nat.beq k 17 then bO (u5.lay [.cG 9 3 68 aA]) aHP HA s K else if Nat.beq k 25 then bO (u6.lay [.cG 9 3 68 aA]) aHQ HB s K else none
theorem aW2 {β:Type}:aC CT (a3z (β:=β)) (aJ aQI):=aC.is [(7,aW0),(17,aNS),(25,aNR)] (by kernel_rfl) (aC.cons (iW aL OL (bC (by kernel_rfl)) a8t rfl rfl) (aC.cons (iW aL OL (bC (by kernel_rfl)) a03 rfl rfl) (aC.cons (iW aL OL (bC (by kernel_rfl)) a05 rfl rfl) (aC.nil))))
def a06 (a1:Ty.El aD)(a2:Ty.El cA):Option (aS [aD,I]):=(pR a1).bind fun v2=>bif !v2.1 then some ((((0:Int),(0:Int)),(0:Int),[]),(9:Int),()) else(aDP a2).bind fun v4=>bif !v4.1 then some ((((0:Int),(0:Int)),(0:Int),[]),(9:Int),()) else bif a1.2.1 != a2.2.2.2.2.1 then some ((((0:Int),(0:Int)),(0:Int),[]),(14:Int),()) else bif a2.2.1 then bif !(a1.1.1==a2.2.2.1.1&&(a1.1.2==a2.2.2.1.2&&true)) then some ((((0:Int),(0:Int)),(0:Int),[]),(14:Int),()) else(aKM (((),(),(),(),a2.1,(↑(List.length a2.1):Int),(0:Int),()),(a1,()),(a2,()),((((0:Int),(0:Int)),(0:Int),[]),()),[],())).bind fun v5=>Sum.elim (fun v6=>bif v6.2.2.1.1.2.1 then(HA (((),(),(),(),v6.2.1.1.2.2,(↑(List.length v6.2.1.1.2.2):Int),(0:Int),()),(v6.2.2.1.1,()),(v6.2.2.2.1.1,()),v6.2.2.2.2.1,(v6.2.2.1.1.2.2.2.1,v6.2.2.1.1.2.2.2.2.2,(),()),[],())).bind fun v7=>Sum.elim (fun v8=>(HB (((),(),v8.2.1.1.1,(↑(List.length v8.2.1.1.1):Int),(0:Int),()),(v8.2.2.1.1,()),(v8.2.2.2.1.1,v8.2.2.2.1.2.1,(),()),v8.2.2.2.2.1,())).bind fun v9=>Sum.elim (fun v10=>(MP () v10.2.2.2.1).bind fun v12=>(pR (v10.2.2.1.1,v10.2.2.1.2.1,v12.2.1)).bind fun sW=>bif !sW.1 then some ((((0:Int),(0:Int)),(0:Int),[]),(5:Int),()) else some ((v10.2.2.1.1,v10.2.2.1.2.1,v12.2.1),(0:Int),())) (fun rV=>none) v9) (fun v20=>none) v7 else(HA (((),(),(),(),v6.2.1.1.2.2,(↑(List.length v6.2.1.1.2.2):Int),(0:Int),()),(v6.2.2.1.1,()),(v6.2.2.2.1.1,()),v6.2.2.2.2.1,(v6.2.1.1.1,v6.2.2.1.1.2.2.2.2.2,(),()),[],())).bind fun v21=>Sum.elim (fun v22=>(HB (((),(),v22.2.1.1.1,(↑(List.length v22.2.1.1.1):Int),(0:Int),()),(v22.2.2.1.1,()),(v22.2.2.2.1.1,v22.2.2.2.1.2.1,(),()),v22.2.2.2.2.1,())).bind fun v23=>Sum.elim (fun v24=>(MP () v24.2.2.2.1).bind fun v26=>(pR (v24.2.2.1.1,v24.2.2.1.2.1,v26.2.1)).bind fun v30=>bif !v30.1 then some ((((0:Int),(0:Int)),(0:Int),[]),(5:Int),()) else some ((v24.2.2.1.1,v24.2.2.1.2.1,v26.2.1),(0:Int),())) (fun v33=>none) v23) (fun v34=>none) v21) (fun v35=>some (v35.2.1.1,v35.1.2.1,())) v5 else(aKM (((),(),(),(),a2.1,(↑(List.length a2.1):Int),(0:Int),()),(a1,()),(a2,()),((((0:Int),(0:Int)),(0:Int),[]),()),[],())).bind fun v36=>Sum.elim (fun v37=>bif v37.2.2.1.1.2.1 then(HA (((),(),(),(),v37.2.1.1.2.2,(↑(List.length v37.2.1.1.2.2):Int),(0:Int),()),(v37.2.2.1.1,()),(v37.2.2.2.1.1,()),v37.2.2.2.2.1,(v37.2.2.1.1.2.2.2.1,v37.2.2.1.1.2.2.2.2.2,(),()),[],())).bind fun v38=>Sum.elim (fun v39=>(HB (((),(),v39.2.1.1.1,(↑(List.length v39.2.1.1.1):Int),(0:Int),()),(v39.2.2.1.1,()),(v39.2.2.2.1.1,v39.2.2.2.1.2.1,(),()),v39.2.2.2.2.1,())).bind fun v40=>Sum.elim (fun v41=>(MP () v41.2.2.2.1).bind fun v43=>(pR (v41.2.2.1.1,v41.2.2.1.2.1,v43.2.1)).bind fun v47=>bif !v47.1 then some ((((0:Int),(0:Int)),(0:Int),[]),(5:Int),()) else some ((v41.2.2.1.1,v41.2.2.1.2.1,v43.2.1),(0:Int),())) (fun v50=>none) v40) (fun v51=>none) v38 else(HA (((),(),(),(),v37.2.1.1.2.2,(↑(List.length v37.2.1.1.2.2):Int),(0:Int),()),(v37.2.2.1.1,()),(v37.2.2.2.1.1,()),v37.2.2.2.2.1,(v37.2.1.1.1,v37.2.2.1.1.2.2.2.2.2,(),()),[],())).bind fun v52=>Sum.elim (fun v53=>(HB (((),(),v53.2.1.1.1,(↑(List.length v53.2.1.1.1):Int),(0:Int),()),(v53.2.2.1.1,()),(v53.2.2.2.1.1,v53.2.2.2.1.2.1,(),()),v53.2.2.2.2.1,())).bind fun v54=>Sum.elim (fun v55=>(MP () v55.2.2.2.1).bind fun v57=>(pR (v55.2.2.1.1,v55.2.2.1.2.1,v57.2.1)).bind fun v61=>bif !v61.1 then some ((((0:Int),(0:Int)),(0:Int),[]),(5:Int),()) else some ((v55.2.2.1.1,v55.2.2.1.2.1,v57.2.1),(0:Int),())) (fun v64=>none) v54) (fun v65=>none) v52) (fun v66=>some (v66.2.1.1,v66.1.2.1,())) v36
theorem bHU (x:Ps [.ty aD,.ty cA]):dA CT aDR [aD,I] (cB CT aDR) a3z Tryz.f98 aQI (bQ [.ty aD,.ty cA] x)=a06 x.1 x.2.1:=by kernel_rfl
def a8v:aW:=.fn 98 [] ⟨[.ty aD,.ty cA],[aD,I],fun x=>a06 x.1 x.2.1,false⟩
theorem bDD:a8v.Ok CT.P:=aW.ofFn aL OL bDC bDB aW2 bHU
def a8w:Code:=Tryz.f99.body.getD .skip
theorem bDE:Tryz.f99.body=some a8w:=by kernel_rfl
theorem bDF:CT.P.funcs[99]?=some Tryz.f99:=by kernel_rfl
def a8x:Tb:=cC tyP mpP [a8v,a3w]
theorem a07:a8x.Ok CT.P:=aQ (⟨bDD,bDx,trivial⟩)
def a3A {β:Type}:dK β:=fun _ _ _=>none
theorem aW3 {β:Type}:aC CT (a3A (β:=β)) (aJ a8w):=aC.is [] (by kernel_rfl) (aC.nil)
def a8y (a1:Ty.El aD)(a2:Ty.El cA):Option (aS [aD,I]):=(aWU a2).bind fun v2=>(a06 a1 v2.1).bind fun v4=>some (v4.1,v4.2.1,())
theorem bHV (x:Ps [.ty aD,.ty cA]):dA CT a8x [aD,I] (cB CT a8x) a3A Tryz.f99 a8w (bQ [.ty aD,.ty cA] x)=a8y x.1 x.2.1:=by kernel_rfl
def bDG:aW:=.fn 99 [] ⟨[.ty aD,.ty cA],[aD,I],fun x=>a8y x.1 x.2.1,false⟩
theorem bHW:bDG.Ok CT.P:=aW.ofFn aL a07 bDF bDE aW3 bHV
end Go.DI.S
namespace Go.DI
section
variable {C:dI}{T:Tb}{β:Type}
end
end Go.DI
namespace Go.DI.S
open Go.Proofs
end Go.DI.S
end
