import Derived.Test.YtbjldjihpekhaaaGreatUc
/- Things as bytes: told by functions on data. No conditions. -/
set_option linter.unusedSimpArgs false
set_option linter.unusedVariables false
set_option maxRecDepth 100000
set_option maxHeartbeats 0
noncomputable section
namespace Go.DI.S
open Go.Proofs
def aL6:Code:=Tryz.f156.body.getD .skip
theorem a5i:Tryz.f156.body=some aL6:=by kernel_rfl
theorem a5j:CT.P.funcs[156]?=some Tryz.f156:=by kernel_rfl
abbrev aJi:aF:=⟨3,[(0,.ptr 0),(1,.data I),(2,.data I)],[.var 217 [.own (.int .u8) 1],.row 5 (.int .u8)],fun s=>[aG s 0,dL s 0 0]⟩
abbrev aB8:aF:=⟨0,[],[.var 217 [.own (.int .u8) 1],.row 5 (.int .u8)],fun s=>[0,fO s 0 0]⟩
def aFM:Tb:=cC tyP mpP []
theorem aFN:aFM.Ok CT.P:=aQ (trivial)
def aL7:Code:=aX aL6 1
abbrev sU:aF:=⟨26,[(0,.ptr 0),(1,.data I),(2,.data I)],[.var 217 [.own (.int .u8) 1],.row 5 (.int .u8)],fun s=>[aG s 0,dL s 0 0]⟩
abbrev RH:aF:=⟨26,[(0,.ptr 0)],[.var 217 [.own (.int .u8) 1],.row 5 (.int .u8)],fun s=>[aG s 0,dL s 0 0]⟩
abbrev RI:aF:=l0 26
def aFO:=ex 1 0 RH RI [] []
def FT (r1:Ty.El I)(r2:Ty.El I)(b0:Unit×Unit)(b1:List (Ty.El (.int .u8))):Option (sU.El⊕(RH.El⊕RI.El)):=
 bif decide (r2≥(0:Int)) then
  bif decide (IntKind.i64.wrap ((8:Int)*r2)<(0:Int)) then none
  else
   bif
     ((b1.length+[IntKind.u8.wrap (Int.fdiv r1 ((2:Int)^Min.min (IntKind.i64.wrap ((8:Int)*r2)).toNat (64:Nat)))].length)*(1:Nat)).ble
      (70368744177664:Nat) then
    some
     (Sum.inl
      (((),r1,IntKind.i64.wrap (r2-(1:Int)),()),((),()),
       b1++[IntKind.u8.wrap (Int.fdiv r1 ((2:Int)^Min.min (IntKind.i64.wrap ((8:Int)*r2)).toNat (64:Nat)))],()))
   else none
 else some (Sum.inr (Sum.inl (((),()),((),()),b1,())))
theorem aY9 (x:sU.El):aV (bY 1) aFM (cB (bY 1) aFM) iI aL7 (sU.enc x) (bG (sU.lay []) aFO)=FT x.1.2.1 x.1.2.2.1 x.2.1 x.2.2.1:=by kernel_rfl
def aB9:sU.El→Option (RH.El⊕RI.El):=aH (fun x=>FT x.1.2.1 x.1.2.2.1 x.2.1 x.2.2.1) fuel
def aTg {β:Type}:dK β:=fun k s K=>if Nat.beq k 1 then bO (sU.lay []) aFO aB9 s K else none
theorem aPn {β:Type}:aC (bY 1) (aTg (β:=β)) (aJ aL6):=aC.is [(1,aL7)] (by kernel_rfl) (aC.cons (iW (aY 1) aFN (bC (by kernel_rfl)) aY9 rfl rfl) (aC.nil))
def pU (a1:Ty.El I)(a2:Ty.El I)(b0:Unit×Unit)(b1:List (Ty.El (.int .u8))):Option aB8.El:=
 (aB9 (((),a1,IntKind.i64.wrap (a2-(1:Int)),()),((),()),b1,())).bind fun v1=>
  Sum.elim (fun v2=>some ((),((),()),v2.2.2.1,())) (fun v3=>none) v1
theorem bBA (x:aJi.El):kE (bY 1) aFM aJi aB8 [] (cB (bY 1) aFM) aTg Tryz.f156 aL6 x=pU x.1.2.1 x.1.2.2.1 x.2.1 x.2.2.1:=by kernel_rfl
def aTh:aW:=.dV 156 [] ⟨1,[.cG 0 0 5 (.int .u8)],aJi,aB8,fun x=>pU x.1.2.1 x.1.2.2.1 x.2.1 x.2.2.1⟩
theorem a2x:aTh.Ok CT.P:=aW.lI (C:=(bY 1)) (steps:=[.cG 0 0 5 (.int .u8)]) (cN:=[]) (aY 1) aFN a5j a5i aPn bBA
def aTi:Code:=Tryz.f157.body.getD .skip
theorem a5k:Tryz.f157.body=some aTi:=by kernel_rfl
theorem a5l:CT.P.funcs[157]?=some Tryz.f157:=by kernel_rfl
abbrev aJj:aF:=⟨2,[(0,.ptr 0),(1,.data aU)],[.var 217 [.own (.int .u8) 1],.row 5 (.int .u8)],fun s=>[aG s 0,dL s 0 0]⟩
abbrev aCa:aF:=⟨0,[],[.var 217 [.own (.int .u8) 1],.row 5 (.int .u8)],fun s=>[0,fO s 0 0]⟩
def aTj:Tb:=cC tyP mpP [aTh]
theorem aTk:aTj.Ok CT.P:=aQ (⟨a2x,trivial⟩)
def aTl {β:Type}:dK β:=fun _ _ _=>none
theorem aPo {β:Type}:aC (bY 1) (aTl (β:=β)) (aJ aTi):=aC.is [] (by kernel_rfl) (aC.nil)
def RJ (a1:Ty.El aU)(b0:Unit×Unit)(b1:List (Ty.El (.int .u8))):Option aCa.El:=
 (pU a1.1 (8:Int) ((),()) b1).bind fun v2=>(pU a1.2 (8:Int) ((),()) v2.2.2.1).bind fun v6=>some ((),((),()),v6.2.2.1,())
theorem bBB (x:aJj.El):kE (bY 1) aTj aJj aCa [] (cB (bY 1) aTj) aTl Tryz.f157 aTi x=RJ x.1.2.1 x.2.1 x.2.2.1:=by kernel_rfl
def a2y:aW:=.dV 157 [] ⟨1,[.cG 0 0 5 (.int .u8)],aJj,aCa,fun x=>RJ x.1.2.1 x.2.1 x.2.2.1⟩
theorem bBC:a2y.Ok CT.P:=aW.lI (C:=(bY 1)) (steps:=[.cG 0 0 5 (.int .u8)]) (cN:=[]) (aY 1) aTk a5l a5k aPo bBB
def aZa:Code:=Tryz.f107.body.getD .skip
theorem bBD:Tryz.f107.body=some aZa:=by kernel_rfl
theorem bBE:CT.P.funcs[107]?=some Tryz.f107:=by kernel_rfl
def aTm:Tb:=cC tyP mpP [aYH,aTh,a2y]
theorem aL8:aTm.Ok CT.P:=aQ (⟨aYI,a2x,bBC,trivial⟩)
def aL9:Code:=aX aZa 20
abbrev sV:aF:=⟨89,[(4,.ptr 0),(74,.data (.list I)),(75,.data I),(76,.data I)],[.var 217 [.own (.int .u8) 1],.row 5 (.int .u8)],fun s=>[aG s 4,dL s 4 0]⟩
abbrev RK:aF:=⟨89,[(4,.ptr 0)],[.var 217 [.own (.int .u8) 1],.row 5 (.int .u8)],fun s=>[aG s 4,dL s 4 0]⟩
abbrev RL:aF:=l0 89
def aFP:=ex 0 1 RK RL [] []
def FU (r74:Ty.El (.list I))(r75:Ty.El I)(r76:Ty.El I)(b0:Unit×Unit)(b1:List (Ty.El (.int .u8))):Option (sV.El⊕(RK.El⊕RL.El)):=
 bif decide (r76<r75) then
  bif decide ((0:Int)≤r76∧r76<(↑(List.length r74):Int)) then
   (pU (List.getD r74 (Int.toNat r76) (0:Int)) (4:Int) ((),()) b1).bind fun v2=>
    some (Sum.inl (((),r74,r75,IntKind.i64.wrap (r76+(1:Int)),()),((),()),v2.2.2.1,()))
  else none
 else some (Sum.inr (Sum.inl (((),()),((),()),b1,())))
theorem aZb (x:sV.El):aV CT aTm (cB CT aTm) iI aL9 (sV.enc x) (bG (sV.lay []) aFP)=FU x.1.2.1 x.1.2.2.1 x.1.2.2.2.1 x.2.1 x.2.2.1:=by kernel_rfl
def aCb:sV.El→Option (RK.El⊕RL.El):=aH (fun x=>FU x.1.2.1 x.1.2.2.1 x.1.2.2.2.1 x.2.1 x.2.2.1) fuel
def a2z {β:Type}:dK β:=fun k s K=>if Nat.beq k 20 then bO (sV.lay []) aFP aCb s K else none
theorem aTn {β:Type}:aC CT (a2z (β:=β)) (aJ aZa):=aC.is [(20,aL9)] (by kernel_rfl) (aC.cons (iW aL aL8 (bC (by kernel_rfl)) aZb rfl rfl) (aC.nil))
def FV (a1:Ty.El aA):Option (aS [.str,.bool]):=
 (BW a1).bind fun v2=>
  bif !v2.1 then some ([],false,())
  else
   (pU a1.2.1 (1:Int) ((),()) []).bind fun v4=>
    (pU a1.1 (4:Int) ((),()) v4.2.2.1).bind fun v8=>
     bif a1.2.1==(1:Int) then
      (pU a1.2.2.1.1 (1:Int) ((),()) v8.2.2.1).bind fun v12=>
       (RJ a1.2.2.1.2.1 ((),()) v12.2.2.1).bind fun sW=>
        (pU a1.2.2.1.2.2.1 (8:Int) ((),()) sW.2.2.1).bind fun v20=>
         (RJ a1.2.2.1.2.2.2.1 ((),()) v20.2.2.1).bind fun v24=>
          (RJ a1.2.2.1.2.2.2.2 ((),()) v24.2.2.1).bind fun v28=>
           some (List.map (fun v29=>UInt8.ofNat (Int.toNat v29)) v28.2.2.1,true,())
     else
      bif a1.2.1==(2:Int) then
       (pU a1.2.2.2.1.1 (4:Int) ((),()) v8.2.2.1).bind fun v35=>
        (pU a1.2.2.2.1.2.1 (4:Int) ((),()) v35.2.2.1).bind fun v39=>
         (pU a1.2.2.2.1.2.2 (8:Int) ((),()) v39.2.2.1).bind fun v43=>
          some (List.map (fun v44=>UInt8.ofNat (Int.toNat v44)) v43.2.2.1,true,())
      else
       bif a1.2.1==(3:Int) then
        (pU (↑(List.length a1.2.2.2.2):Int) (1:Int) ((),()) v8.2.2.1).bind fun v50=>
         (aCb (((),a1.2.2.2.2,(↑(List.length a1.2.2.2.2):Int),(0:Int),()),((),()),v50.2.2.1,())).bind fun v53=>
          Sum.elim (fun v54=>some (List.map (fun v55=>UInt8.ofNat (Int.toNat v55)) v54.2.2.1,true,())) (fun v56=>none) v53
       else some (List.map (fun v57=>UInt8.ofNat (Int.toNat v57)) v8.2.2.1,true,())
theorem bGI (x:Ps [.ty aA]):dA CT aTm [.str,.bool] (cB CT aTm) a2z Tryz.f107 aZa (bQ [.ty aA] x)=FV x.1:=by kernel_rfl
def a5m:aW:=.fn 107 [] ⟨[.ty aA],[.str,.bool],fun x=>FV x.1,false⟩
theorem bBF:a5m.Ok CT.P:=aW.ofFn aL aL8 bBE bBD aTn bGI
def nL (n:Int)(b:UInt8):Int:=IntKind.u64.wrap ((BitVec.ofInt IntKind.u64.bits (IntKind.u64.wrap (n*2^min (Int.toNat 8) IntKind.u64.bits)) ||| BitVec.ofInt IntKind.u64.bits (IntKind.u64.wrap (b.toNat:Int))).toNat:Int)
def aTo:Code:=Tryz.f241.body.getD .skip
theorem a5n:Tryz.f241.body=some aTo:=by kernel_rfl
theorem a5o:CT.P.funcs[241]?=some Tryz.f241:=by kernel_rfl
abbrev aJk:aF:=⟨2,[(0,.ptr 0),(1,.data I)],[.var 254 [.data .str,.data .bool]],fun s=>[aG s 0]⟩
abbrev aCc:aF:=⟨1,[(0,.data .str)],[.var 254 [.data .str,.data .bool]],fun _=>[0]⟩
def aTp:Tb:=cC tyP mpP []
theorem aTq:aTp.Ok CT.P:=aQ (trivial)
def aTr {β:Type}:dK β:=fun _ _ _=>none
theorem aPq {β:Type}:aC (bY 1) (aTr (β:=β)) (aJ aTo):=aC.is [] (by kernel_rfl) (aC.nil)
def RM (a1:Ty.El I)(b0:Ty.El .str×Ty.El .bool×Unit):Option aCc.El:=
 bif b0.2.1 then some (([],()),(b0.1,true,()),())
 else
  bif decide (a1>(↑(List.length b0.1):Int)) then some (([],()),(b0.1,decide (a1>(↑(List.length b0.1):Int)),()),())
  else
   bif decide ((0:Int)≤a1∧a1≤(↑(List.length b0.1):Int)) then
    bif decide ((0:Int)≤a1∧a1≤(↑(List.length b0.1):Int)) then
     some
      ((List.take (Int.toNat a1-(0:Nat)) (List.drop (0:Nat) b0.1),()),
       (List.take (List.length b0.1-Int.toNat a1) (List.drop (Int.toNat a1) b0.1),decide (a1>(↑(List.length b0.1):Int)),()),())
    else none
   else none
theorem bBG (x:aJk.El):kE (bY 1) aTp aJk aCc [] (cB (bY 1) aTp) aTr Tryz.f241 aTo x=RM x.1.2.1 x.2.1:=by kernel_rfl
def a2A:aW:=.dV 241 [] ⟨1,[],aJk,aCc,fun x=>RM x.1.2.1 x.2.1⟩
theorem bBH:a2A.Ok CT.P:=aW.lI (C:=(bY 1)) (steps:=[]) (cN:=[]) (aY 1) aTq a5o a5n aPq bBG
def aMb:Code:=Tryz.f195.body.getD .skip
theorem a5p:Tryz.f195.body=some aMb:=by kernel_rfl
theorem a5q:CT.P.funcs[195]?=some Tryz.f195:=by kernel_rfl
abbrev aJl:aF:=⟨2,[(0,.ptr 0),(1,.data I)],[.var 254 [.data .str,.data .bool]],fun s=>[aG s 0]⟩
abbrev aCd:aF:=⟨1,[(0,.data I)],[.var 254 [.data .str,.data .bool]],fun _=>[0]⟩
def aFQ:Tb:=cC tyP mpP [a2A]
theorem aFR:aFQ.Ok CT.P:=aQ (⟨bBH,trivial⟩)
def aMc:Code:=aX aMb 4
abbrev sX:aF:=⟨26,[(0,.ptr 0),(5,.data (.int .u64)),(6,.data .str),(12,.data I),(13,.data I)],[.var 254 [.data .str,.data .bool]],fun s=>[aG s 0]⟩
abbrev RN:aF:=⟨26,[(0,.ptr 0),(5,.data (.int .u64))],[.var 254 [.data .str,.data .bool]],fun s=>[aG s 0]⟩
abbrev RO:aF:=l0 26
def aFS:=ex 1 0 RN RO [] []
def FW (r5:Ty.El (.int .u64))(r6:Ty.El .str)(lJ:Ty.El I)(gV:Ty.El I)(b0:Ty.El .str×Ty.El .bool×Unit):Option (sX.El⊕(RN.El⊕RO.El)):=
 bif decide (gV<lJ) then
  bif decide ((0:Int)≤gV∧gV<(↑(List.length r6):Int)) then
   some (Sum.inl (((),nL r5 (List.getD r6 (Int.toNat gV) (0:UInt8)),r6,lJ,IntKind.i64.wrap (gV+(1:Int)),()),(b0.1,b0.2.1,()),()))
  else none
 else some (Sum.inr (Sum.inl (((),r5,()),(b0.1,b0.2.1,()),())))
theorem aZc (x:sX.El):aV (bY 1) aFQ (cB (bY 1) aFQ) iI aMc (sX.enc x) (bG (sX.lay []) aFS)=FW x.1.2.1 x.1.2.2.1 x.1.2.2.2.1 x.1.2.2.2.2.1 x.2.1:=by kernel_rfl
def aCe:sX.El→Option (RN.El⊕RO.El):=aH (fun x=>FW x.1.2.1 x.1.2.2.1 x.1.2.2.2.1 x.1.2.2.2.2.1 x.2.1) fuel
def aTs {β:Type}:dK β:=fun k s K=>if Nat.beq k 4 then bO (sX.lay []) aFS aCe s K else none
theorem aPr {β:Type}:aC (bY 1) (aTs (β:=β)) (aJ aMb):=aC.is [(4,aMc)] (by kernel_rfl) (aC.cons (iW (aY 1) aFR (bC (by kernel_rfl)) aZc rfl rfl) (aC.nil))
def fJ (a1:Ty.El I)(b0:Ty.El .str×Ty.El .bool×Unit):Option aCd.El:=
 (RM a1 (b0.1,b0.2.1,())).bind fun v2=>
  (aCe (((),(0:Int),v2.1.1,(↑(List.length v2.1.1):Int),(0:Int),()),(v2.2.1.1,v2.2.1.2.1,()),())).bind fun v11=>
   Sum.elim (fun v12=>some ((IntKind.i64.wrap v12.1.2.1,()),(v12.2.1.1,v12.2.1.2.1,()),())) (fun DM=>none) v11
theorem bBI (x:aJl.El):kE (bY 1) aFQ aJl aCd [] (cB (bY 1) aFQ) aTs Tryz.f195 aMb x=fJ x.1.2.1 x.2.1:=by kernel_rfl
def aTt:aW:=.dV 195 [] ⟨1,[],aJl,aCd,fun x=>fJ x.1.2.1 x.2.1⟩
theorem a2B:aTt.Ok CT.P:=aW.lI (C:=(bY 1)) (steps:=[]) (cN:=[]) (aY 1) aFR a5q a5p aPr bBI
def aTu:Code:=Tryz.f196.body.getD .skip
theorem a5r:Tryz.f196.body=some aTu:=by kernel_rfl
theorem a5s:CT.P.funcs[196]?=some Tryz.f196:=by kernel_rfl
abbrev aJm:aF:=⟨1,[(0,.ptr 0)],[.var 254 [.data .str,.data .bool]],fun s=>[aG s 0]⟩
abbrev aCf:aF:=⟨1,[(0,.data aU)],[.var 254 [.data .str,.data .bool]],fun _=>[0]⟩
def aTv:Tb:=cC tyP mpP [aTt]
theorem aTw:aTv.Ok CT.P:=aQ (⟨a2B,trivial⟩)
def aTx {β:Type}:dK β:=fun _ _ _=>none
theorem aPs {β:Type}:aC (bY 1) (aTx (β:=β)) (aJ aTu):=aC.is [] (by kernel_rfl) (aC.nil)
def FX (b0:Ty.El .str×Ty.El .bool×Unit):Option aCf.El:=
 (fJ (8:Int) (b0.1,b0.2.1,())).bind fun v2=>
  (fJ (8:Int) (v2.2.1.1,v2.2.1.2.1,())).bind fun v8=>some (((v2.1.1,v8.1.1),()),(v8.2.1.1,v8.2.1.2.1,()),())
theorem bBJ (x:aJm.El):kE (bY 1) aTv aJm aCf [] (cB (bY 1) aTv) aTx Tryz.f196 aTu x=FX x.2.1:=by kernel_rfl
def a2C:aW:=.dV 196 [] ⟨1,[],aJm,aCf,fun x=>FX x.2.1⟩
theorem bBK:a2C.Ok CT.P:=aW.lI (C:=(bY 1)) (steps:=[]) (cN:=[]) (aY 1) aTw a5s a5r aPs bBJ
def aZd:Code:=Tryz.f144.body.getD .skip
theorem bBL:Tryz.f144.body=some aZd:=by kernel_rfl
theorem bBM:CT.P.funcs[144]?=some Tryz.f144:=by kernel_rfl
def aTy:Tb:=cC tyP mpP [a5m,aTt,a2C]
theorem aMd:aTy.Ok CT.P:=aQ (⟨bBF,a2B,bBK,trivial⟩)
def aMe:Code:=aX aZd 18
abbrev sY:aF:=⟨91,[(0,.data .str),(2,.ptr 0),(4,.ptr 1),(5,.ptr 2),(6,.data I)],[.var 68 [.data aA],.var 254 [.data .str,.data .bool],.var 68 [.data I,.data I,.data aM,.data aP,.own I 3],.row 3 I],fun s=>[aG s 2,aG s 4,aG s 5,dL s 5 13]⟩
abbrev RP:aF:=⟨91,[(0,.data .str),(2,.ptr 0),(4,.ptr 1),(5,.ptr 2)],[.var 68 [.data aA],.var 254 [.data .str,.data .bool],.var 68 [.data I,.data I,.data aM,.data aP,.own I 3],.row 3 I],fun s=>[aG s 2,aG s 4,aG s 5,dL s 5 13]⟩
abbrev RQ:aF:=l0 91
def aFT:=ex 0 1 RP RQ [.cG 5 13 3 I] []
def qZ (r0:Ty.El .str)(r6:Ty.El I)(b0:Ty.El aA×Unit)(b1:Ty.El .str×Ty.El .bool×Unit)(b2:Ty.El I×Ty.El I×Ty.El aM×Ty.El aP×Unit×Unit)(b3:List (Ty.El I)):Option (sY.El⊕(RP.El⊕RQ.El)):=
 bif decide (r6>(0:Int)) then
  (fJ (4:Int) (b1.1,b1.2.1,())).bind fun v2=>
   bif((b3.length+[v2.1.1].length)*(8:Nat)).ble (70368744177664:Nat) then
    some
     (Sum.inl
      ((r0,(),(),(),IntKind.i64.wrap (r6-(1:Int)),()),(b0.1,()),(v2.2.1.1,v2.2.1.2.1,()),
       (b2.1,b2.2.1,b2.2.2.1,b2.2.2.2.1,(),()),b3++[v2.1.1],()))
   else none
 else some (Sum.inr (Sum.inl ((r0,(),(),(),()),(b0.1,()),(b1.1,b1.2.1,()),(b2.1,b2.2.1,b2.2.2.1,b2.2.2.2.1,(),()),b3,())))
theorem aZe (x:sY.El):aV CT aTy (cB CT aTy) iI aMe (sY.enc x) (bG (sY.lay [.cG 5 13 3 I]) aFT)=qZ x.1.1 x.1.2.2.2.2.1 x.2.1 x.2.2.1 x.2.2.2.1 x.2.2.2.2.1:=by kernel_rfl
def NT:sY.El→Option (RP.El⊕RQ.El):=aH (fun x=>qZ x.1.1 x.1.2.2.2.2.1 x.2.1 x.2.2.1 x.2.2.2.1 x.2.2.2.2.1) fuel
def a2D {β:Type}:dK β:=fun k s K=>if Nat.beq k 18 then bO (sY.lay [.cG 5 13 3 I]) aFT NT s K else none
theorem aTz {β:Type}:aC CT (a2D (β:=β)) (aJ aZd):=aC.is [(18,aMe)] (by kernel_rfl) (aC.cons (iW aL aMd (bC (by kernel_rfl)) aZe rfl rfl) (aC.nil))
def M5 (a1:Ty.El .str):Option (aS [aA,.bool]):=
 (fJ (1:Int) (a1,false,())).bind fun v2=>
  (fJ (4:Int) (v2.2.1.1,v2.2.1.2.1,())).bind fun v8=>
   bif v2.1.1==(1:Int) then
    (fJ (1:Int) (v8.2.1.1,v8.2.1.2.1,())).bind fun sW=>
     (FX (sW.2.1.1,sW.2.1.2.1,())).bind fun v22=>
      (fJ (8:Int) (v22.2.1.1,v22.2.1.2.1,())).bind fun v28=>
       (FX (v28.2.1.1,v28.2.1.2.1,())).bind fun v34=>
        (FX (v34.2.1.1,v34.2.1.2.1,())).bind fun v40=>
         (FV (v8.1.1,v2.1.1,(sW.1.1,v22.1.1,v28.1.1,v34.1.1,v40.1.1),((0:Int),(0:Int),(0:Int)),[])).bind fun v56=>
          bif v40.2.1.2.1 then
           some
            (((0:Int),(0:Int),((0:Int),((0:Int),(0:Int)),(0:Int),((0:Int),(0:Int)),(0:Int),(0:Int)),((0:Int),(0:Int),(0:Int)),[]),
             false,())
          else
           bif !v56.2.1 then
            some
             (((0:Int),(0:Int),((0:Int),((0:Int),(0:Int)),(0:Int),((0:Int),(0:Int)),(0:Int),(0:Int)),((0:Int),(0:Int),(0:Int)),
               []),
              false,())
           else
            bif !v56.1==a1 then
             some
              (((0:Int),(0:Int),((0:Int),((0:Int),(0:Int)),(0:Int),((0:Int),(0:Int)),(0:Int),(0:Int)),((0:Int),(0:Int),(0:Int)),
                []),
               false,())
            else
             some
              ((v8.1.1,v2.1.1,(sW.1.1,v22.1.1,v28.1.1,v34.1.1,v40.1.1),((0:Int),(0:Int),(0:Int)),[]),true,())
   else
    bif v2.1.1==(2:Int) then
     (fJ (4:Int) (v8.2.1.1,v8.2.1.2.1,())).bind fun v80=>
      (fJ (4:Int) (v80.2.1.1,v80.2.1.2.1,())).bind fun v86=>
       (fJ (8:Int) (v86.2.1.1,v86.2.1.2.1,())).bind fun v92=>
        (FV
           (v8.1.1,v2.1.1,((0:Int),((0:Int),(0:Int)),(0:Int),((0:Int),(0:Int)),(0:Int),(0:Int)),(v80.1.1,v86.1.1,v92.1.1),
            [])).bind
         fun aPt=>
         bif v92.2.1.2.1 then
          some
           (((0:Int),(0:Int),((0:Int),((0:Int),(0:Int)),(0:Int),((0:Int),(0:Int)),(0:Int),(0:Int)),((0:Int),(0:Int),(0:Int)),[]),
            false,())
         else
          bif !aPt.2.1 then
           some
            (((0:Int),(0:Int),((0:Int),((0:Int),(0:Int)),(0:Int),((0:Int),(0:Int)),(0:Int),(0:Int)),((0:Int),(0:Int),(0:Int)),[]),
             false,())
          else
           bif !aPt.1==a1 then
            some
             (((0:Int),(0:Int),((0:Int),((0:Int),(0:Int)),(0:Int),((0:Int),(0:Int)),(0:Int),(0:Int)),((0:Int),(0:Int),(0:Int)),
               []),
              false,())
           else
            some
             ((v8.1.1,v2.1.1,((0:Int),((0:Int),(0:Int)),(0:Int),((0:Int),(0:Int)),(0:Int),(0:Int)),
               (v80.1.1,v86.1.1,v92.1.1),[]),
              true,())
    else
     bif v2.1.1==(3:Int) then
      (fJ (1:Int) (v8.2.1.1,v8.2.1.2.1,())).bind fun v124=>
       (NT
          ((a1,(),(),(),v124.1.1,()),
           (((0:Int),(0:Int),((0:Int),((0:Int),(0:Int)),(0:Int),((0:Int),(0:Int)),(0:Int),(0:Int)),((0:Int),(0:Int),(0:Int)),[]),
            ()),
           (v124.2.1.1,v124.2.1.2.1,()),
           (v8.1.1,v2.1.1,((0:Int),((0:Int),(0:Int)),(0:Int),((0:Int),(0:Int)),(0:Int),(0:Int)),((0:Int),(0:Int),(0:Int)),(),
            ()),
           [],())).bind
        fun bGJ=>
        Sum.elim
         (fun M6=>
          (FV
             (M6.2.2.2.1.1,M6.2.2.2.1.2.1,M6.2.2.2.1.2.2.1,M6.2.2.2.1.2.2.2.1,
              M6.2.2.2.2.1)).bind
           fun v138=>
           bif M6.2.2.1.2.1 then
            some
             (((0:Int),(0:Int),((0:Int),((0:Int),(0:Int)),(0:Int),((0:Int),(0:Int)),(0:Int),(0:Int)),((0:Int),(0:Int),(0:Int)),
               []),
              false,())
           else
            bif !v138.2.1 then
             some
              (((0:Int),(0:Int),((0:Int),((0:Int),(0:Int)),(0:Int),((0:Int),(0:Int)),(0:Int),(0:Int)),((0:Int),(0:Int),(0:Int)),
                []),
               false,())
            else
             bif !v138.1==M6.1.1 then
              some
               (((0:Int),(0:Int),((0:Int),((0:Int),(0:Int)),(0:Int),((0:Int),(0:Int)),(0:Int),(0:Int)),((0:Int),(0:Int),(0:Int)),
                 []),
                false,())
             else
              some
               ((M6.2.2.2.1.1,M6.2.2.2.1.2.1,M6.2.2.2.1.2.2.1,M6.2.2.2.1.2.2.2.1,
                 M6.2.2.2.2.1),
                true,()))
         (fun v139=>none) bGJ
     else
      (FV (v8.1.1,v2.1.1,((0:Int),((0:Int),(0:Int)),(0:Int),((0:Int),(0:Int)),(0:Int),(0:Int)),((0:Int),(0:Int),(0:Int)),[])).bind
       fun v145=>
       bif v8.2.1.2.1 then
        some
         (((0:Int),(0:Int),((0:Int),((0:Int),(0:Int)),(0:Int),((0:Int),(0:Int)),(0:Int),(0:Int)),((0:Int),(0:Int),(0:Int)),[]),
          false,())
       else
        bif !v145.2.1 then
         some
          (((0:Int),(0:Int),((0:Int),((0:Int),(0:Int)),(0:Int),((0:Int),(0:Int)),(0:Int),(0:Int)),((0:Int),(0:Int),(0:Int)),[]),
           false,())
        else
         bif !v145.1==a1 then
          some
           (((0:Int),(0:Int),((0:Int),((0:Int),(0:Int)),(0:Int),((0:Int),(0:Int)),(0:Int),(0:Int)),((0:Int),(0:Int),(0:Int)),[]),
            false,())
         else
          some
           ((v8.1.1,v2.1.1,((0:Int),((0:Int),(0:Int)),(0:Int),((0:Int),(0:Int)),(0:Int),(0:Int)),((0:Int),(0:Int),(0:Int)),[]),
            true,())
theorem bGK (x:Ps [.ty .str]):dA CT aTy [aA,.bool] (cB CT aTy) a2D Tryz.f144 aZd (bQ [.ty .str] x)=M5 x.1:=by kernel_rfl
def a5t:aW:=.fn 144 [] ⟨[.ty .str],[aA,.bool],fun x=>M5 x.1,false⟩
theorem bBO:a5t.Ok CT.P:=aW.ofFn aL aMd bBM bBL aTz bGK
def aRb:Code:=Tryz.f40.body.getD .skip
theorem bGl:Tryz.f40.body=some aRb:=by kernel_rfl
theorem bGs:CT.P.funcs[40]?=some Tryz.f40:=by kernel_rfl
def aK4:Tb:=cC tyP mpP [aBV,bJi,a5m]
theorem aK5:aK4.Ok CT.P:=aQ (⟨JF,bLm,bBF,trivial⟩)
def aRf:Code:=aX aRb 5
abbrev z6:aF:=⟨50,[(3,.data .str),(30,.data (.list aA)),(31,.data I),(32,.data I)],[],fun _=>[]⟩
abbrev aBY:aF:=⟨50,[(3,.data .str)],[],fun _=>[]⟩
abbrev aBZ:aF:=l0 50
def aK6:=ex 0 0 aBY aBZ [] []
def aAt (r3:Ty.El .str)(r30:Ty.El (.list aA))(r31:Ty.El I)(r32:Ty.El I):Option (z6.El⊕(aBY.El⊕aBZ.El)):=
 bif decide (r32<r31) then
  bif decide ((0:Int)≤r32∧r32<(↑(List.length r30):Int)) then
   (FV (List.getD r30 (Int.toNat r32) aA.dflt)).bind fun v2=>
    (aAS (↑(List.length v2.1):Int) (2:Int)).bind fun v4=>
     bif decide (List.length v4.1+List.length v2.1≤(4611686018427387904:Nat)) then
      bif decide (List.length r3+(v4.1++v2.1).length≤(4611686018427387904:Nat)) then
       some (Sum.inl ((r3++(v4.1++v2.1),r30,r31,IntKind.i64.wrap (r32+(1:Int)),()),()))
      else none
     else none
  else none
 else some (Sum.inr (Sum.inl ((r3,()),())))
theorem a92 (x:z6.El):aV CT aK4 (cB CT aK4) iI aRf (z6.enc x) (bG (z6.lay []) aK6)=aAt x.1.1 x.1.2.1 x.1.2.2.1 x.1.2.2.2.1:=by kernel_rfl
def aHZ:z6.El→Option (aBY.El⊕aBZ.El):=aH (fun x=>aAt x.1.1 x.1.2.1 x.1.2.2.1 x.1.2.2.2.1) fuel
def a1I {β:Type}:dK β:=fun k s K=>if Nat.beq k 5 then bO (z6.lay []) aK6 aHZ s K else none
theorem aXQ {β:Type}:aC CT (a1I (β:=β)) (aJ aRb):=aC.is [(5,aRf)] (by kernel_rfl) (aC.cons (iW aL aK5 (bC (by kernel_rfl)) a92 rfl rfl) (aC.nil))
def OO (a1:Ty.El aD):Option (aS [.str]):=
 (pR a1).bind fun v2=>
  bif !v2.1 then some ([],())
  else
   (aAS a1.1.1 (8:Int)).bind fun v4=>
    (aAS a1.1.2 (8:Int)).bind fun v6=>
     bif decide (List.length v4.1+List.length v6.1≤(4611686018427387904:Nat)) then
      (aAS a1.2.1 (4:Int)).bind fun v8=>
       bif decide ((v4.1++v6.1).length+List.length v8.1≤(4611686018427387904:Nat)) then
        (aAS (↑(List.length a1.2.2):Int) (2:Int)).bind fun v10=>
         bif decide ((v4.1++v6.1++v8.1).length+List.length v10.1≤(4611686018427387904:Nat)) then
          (aHZ ((v4.1++v6.1++v8.1++v10.1,a1.2.2,(↑(List.length a1.2.2):Int),(0:Int),()),())).bind fun v11=>
           Sum.elim (fun v12=>some (v12.1.1,())) (fun DM=>none) v11
         else none
       else none
     else none
theorem bJp (x:Ps [.ty aD]):dA CT aK4 [.str] (cB CT aK4) a1I Tryz.f40 aRb (bQ [.ty aD] x)=OO x.1:=by kernel_rfl
def bEy:aW:=.fn 40 [] ⟨[.ty aD],[.str],fun x=>OO x.1,false⟩
theorem bJq:bEy.Ok CT.P:=aW.ofFn aL aK5 bGs bGl aXQ bJp
def CD (v:Int)(n:Nat):Int:=IntKind.u8.wrap (Int.fdiv v ((2:Int)^Min.min (IntKind.i64.wrap ((8:Int)*(n:Int))).toNat (64:Nat)))
def fG (v:Int):Nat→List Int
 | 0=>[]
 | n+1=>CD v n :: fG v n
theorem eU (v:Int):∀ n,(fG v n).length=n
 | 0=>rfl
 | n+1=>by simp [fG,eU v n]
def j4 (l:List Int):List UInt8:=l.map fun x=>UInt8.ofNat (Int.toNat x)
theorem aTA {n:Nat}(h:n≤1000):IntKind.i64.wrap ((8:Int)*(n:Int))=8*(n:Int):=wrap64 (by omega) (by omega)
theorem bBP (v:Int):∀ (n:Nat) (row:List Int) (f:Nat),n≤1000→n<f→row.length+n≤1000000000 →
  aH (fun x=>FT x.1.2.1 x.1.2.2.1 x.2.1 x.2.2.1) f (((),v,(n:Int)-1,()),((),()),row,())=some (.inl (((),()),((),()),row++fG v n,()))
 | 0,row,f,hn,hf,hr=>by
  obtain⟨f,rfl⟩:∃ k,f=k+1:=⟨f-1,by omega⟩;refine bM ?_ f;simp only [FT];rw [aKP (by omega:¬(((0:Nat):Int)-1≥0)),cond_false];simp [fG]
 | n+1,row,f,hn,hf,hr=>by
  obtain⟨f,rfl⟩:∃ k,f=k+1:=⟨f-1,by omega⟩;have e:((n+1:Nat):Int)-1=(n:Int):=by omega
  rw [e,bT (x':=(((),v,(n:Int)-1,()),((),()),row++[CD v n],())) ?_ f]
  ·rw [bBP v n _ f (by omega) (by omega) (by simp;omega)];simp [fG]
  ·simp only [FT];rw [aKO (by omega:(n:Int)≥0),cond_true,aTA (by omega),aKP (by omega),cond_false,show Nat.ble ((row.length+_)*1) 70368744177664=true from aPp (by simp;omega),cond_true,
    wrap64 (x:=(n:Int)-1) (by omega) (by omega)]
   unfold CD;rw [aTA (by omega)]
theorem Y8 (v:Int)(n:Nat)(row:List Int)(hn:n≤1000)(hr:row.length+n≤1000000000):pU v (n:Int) ((),()) row=some ((),((),()),row++fG v n,()):=by
 unfold pU aB9;rw [wrap64 (x:=(n:Int)-1) (by omega) (by omega),bBP v n row fuel hn (fuel_lt (by omega)) hr];rfl
def M8 (a:fW):List Int:=fG a.1 8++fG a.2 8
theorem RR (a:fW):(M8 a).length=16:=by simp [M8,eU]
theorem bBQ (a:fW)(row:List Int)(hr:row.length+16≤1000000000):RJ a ((),()) row=some ((),((),()),row++M8 a,()):=by
 unfold RJ;have h1:=Y8 a.1 8 row (by omega) (by omega);have h2:=Y8 a.2 8 (row++fG a.1 8) (by omega) (by simp [eU];omega);rw [show((8:Nat):Int)=8 from rfl] at h1 h2;simp only [h1,aEk,h2,M8,aQ4]
def aMf (b:Body):List Int:=fG b.1 1++(M8 b.2.1++(fG b.2.2.1 8++(M8 b.2.2.2.1++M8 b.2.2.2.2)))
def aCh (j:iF):List Int:=fG j.1 4++(fG j.2.1 4++fG j.2.2 8)
def FY (l:List Int):List Int:=l.flatMap fun n=>fG n 4
theorem a1J (l:List Int):(FY l).length=4*l.length:=by
 induction l with
 | nil=>rfl
 | cons a l ih=>
  show(fG a 4++FY l).length=_;rw [aPk,ih,eU,aQO];omega
def qS (t:Thing):List Int:=fG t.2.1 1++(fG t.1 4 ++
 (bif t.2.1==(1:Int) then aMf t.2.2.1 else bif t.2.1==(2:Int) then aCh t.2.2.2.1 else bif t.2.1==(3:Int) then fG (t.2.2.2.2.length:Int) 1++FY t.2.2.2.2 else []))
theorem aZf (l:List Int)(row:List Int)(hr:row.length+4*l.length≤100000000) :
  aCb (((),l,(l.length:Int),(0:Int),()),((),()),row,())=some (.inl (((),()),((),()),row++FY l,())):=by
 have key:∀ (d m k:Nat) (row:List Int),k+d=l.length→d<m→row.length+4*d≤100000000→aH (fun x=>FU x.1.2.1 x.1.2.2.1 x.1.2.2.2.1 x.2.1 x.2.2.1) m (((),l,(l.length:Int),(k:Int),()),((),()),row,())=some (.inl (((),()),((),()),row++FY (l.drop k),())):=by
  intro d
  induction d with
  | zero=>
   intro m k row hk hm hr;obtain⟨m,rfl⟩:∃ j,m=j+1:=⟨m-1,by omega⟩;have:k=l.length:=by omega
   subst this;rw [bM (y:=.inl (((),()),((),()),row,())) (by simp only [FU,bA,cond_false]),List.drop_length];simp [FY]
  | succ d ih=>
   intro m k row hk hm hr;obtain⟨m,rfl⟩:∃ j,m=j+1:=⟨m-1,by omega⟩;have hlt:k<l.length:=by omega
   have ha:=aJS hlt;rw [bT (x':=(((),l,(l.length:Int),((k+1:Nat):Int),()),((),()),row++fG l[k] 4,())) ?_ m]
   ·rw [ih m (k+1) _ (by omega) (by omega) (by simp [eU];omega),aZw hlt];show some (Sum.inl (((),()),((),()),row++fG l[k] 4++FY (l.drop (k+1)),()))=some (Sum.inl (((),()),((),()),row++(fG l[k] 4++FY (l.drop (k+1))),()));rw [aQ4]
   ·have h1:=Y8 l[k] 4 row (by omega) (by omega);rw [show((4:Nat):Int)=4 from rfl] at h1;simp only [FU,dec_lt hlt,bI hlt,cond_true,bB ha,h1,aEk,aN hlt (by omega)]
 have h:=key l.length fuel 0 row (by omega) (fuel_lt (by omega)) hr;rw [List.drop_zero] at h;exact h
theorem a5u (t:Thing)(h:t.2.2.2.2.length≤1000000):FV t=some ((bif rt t then(j4 (qS t),true,()) else([],false,())):aS [.str,.bool]):=by
 unfold FV;rw [XK t (by omega)];simp only [aEk];cases rt t with
 | false=>rfl
 | true=>
  have h1:=fun v (row:List Int) (hr:row.length≤100000000)=>Y8 v 1 row (by omega) (by omega);have h4:=fun v (row:List Int) (hr:row.length≤100000000)=>Y8 v 4 row (by omega) (by omega);have h8:=fun v (row:List Int) (hr:row.length≤100000000)=>Y8 v 8 row (by omega) (by omega);have hv:=fun v (row:List Int) (hr:row.length≤100000000)=>bBQ v row (by omega);rw [show((1:Nat):Int)=1 from rfl] at h1;rw [show((4:Nat):Int)=4 from rfl] at h4;rw [show((8:Nat):Int)=8 from rfl] at h8;simp only [aXM,cond_false,cond_true];rw [h1 _ _ (by simp)];simp only [aEk];rw [h4 _ _ (by simp [eU])];simp only [aEk];unfold qS;cases (t.2.1==(1:Int)) with
  | true=>
   simp only [cond_true];rw [h1 _ _ (by simp [eU])];simp only [aEk];rw [hv _ _ (by simp [eU])];simp only [aEk];rw [h8 _ _ (by simp [eU,RR])];simp only [aEk];rw [hv _ _ (by simp [eU,RR])];simp only [aEk];rw [hv _ _ (by simp [eU,RR])];simp only [aEk,aMf,aQ4,List.nil_append];rfl
  | false=>
   simp only [cond_false];cases (t.2.1==(2:Int)) with
   | true=>
    simp only [cond_true];rw [h4 _ _ (by simp [eU])];simp only [aEk];rw [h4 _ _ (by simp [eU])];simp only [aEk];rw [h8 _ _ (by simp [eU])];simp only [aEk,aCh,aQ4,List.nil_append];rfl
   | false=>
    simp only [cond_false];cases (t.2.1==(3:Int)) with
    | true=>
     simp only [cond_true];rw [h1 _ _ (by simp [eU])];simp only [aEk];rw [aZf _ _ (by simp [eU];omega)];simp only [aEk,aQM,aQ4,List.nil_append];rfl
    | false=>
     simp only [cond_false,a1d,List.nil_append];rfl
theorem a5v (n:Int):IntKind.u64.wrap n=n % 18446744073709551616:=by simp [IntKind.wrap,IntKind.bits,IntKind.signed]
theorem u8w (n:Int):IntKind.u8.wrap n=n % 256:=by simp [IntKind.wrap,IntKind.bits,IntKind.signed]
theorem AB (n:Int)(b:UInt8):nL n b=(n*256+b.toNat) % 18446744073709551616:=by
 unfold nL;have e1:(2:Int)^min (Int.toNat 8) IntKind.u64.bits=256:=by decide
 have e2:IntKind.u64.bits=64:=rfl;rw [e1,e2,a5v,a5v,a5v,BitVec.toNat_or,BitVec.toNat_ofInt,BitVec.toNat_ofInt];have hb:b.toNat<256:=b.toNat_lt;have e3:((2^64:Nat):Int)=18446744073709551616:=by decide
 rw [e3];have e4:(((b.toNat:Int) % 18446744073709551616) % 18446744073709551616).toNat=b.toNat:=by omega
 have e5:∃ m:Nat,(((n*256) % 18446744073709551616) % 18446744073709551616).toNat=2^8*m∧(m:Int)=n % 72057594037927936:=⟨(n % 72057594037927936).toNat,by omega,by omega⟩;obtain⟨m,h1,h2⟩:=e5;rw [e4,h1,← Nat.two_pow_add_eq_or_of_lt (by omega:b.toNat<2^8)];omega
theorem aPu (v m:Int)(hm:0<m):v % (m*256)=v % m+m*(v / m % 256):=by
 have h1:v=m*(v / m)+v % m:=(Int.mul_ediv_add_emod v m).symm;have h2:v / m=256*(v / m / 256)+v / m % 256:=(Int.mul_ediv_add_emod (v / m) 256).symm;have h3:0≤v % m:=Int.emod_nonneg _ (by omega);have h4:v % m<m:=Int.emod_lt_of_pos _ hm;generalize hr:v % m=r at *
 generalize hq:v / m=q at *
 generalize ha:q / 256=a at *
 have h5:0≤q % 256:=Int.emod_nonneg _ (by omega);have h6:q % 256<256:=Int.emod_lt_of_pos _ (by omega);generalize hb:q % 256=b at *
 have h7:v=(r+m*b)+(m*256)*a:=by
  rw [h1,h2];rw [Int.mul_add,Int.mul_assoc,← Int.mul_assoc m 256 a];omega
 have h8:m*b≤m*255:=Int.mul_le_mul_of_nonneg_left (by omega) (by omega);have h9:0≤m*b:=Int.mul_nonneg (by omega) h5;rw [h7,Int.add_mul_emod_self_left];exact Int.emod_eq_of_lt (by omega) (by omega)
theorem RS (v:Int){n:Nat}(hn:n≤7):CD v n=v / (256:Int)^n % 256:=by
 unfold CD;rw [aTA (by omega),u8w];have e1:min (8*(n:Int)).toNat 64=8*n:=by omega
 rw [e1,Int.pow_mul,show(2:Int)^8=256 from rfl,a9r _ (Int.le_of_lt (Int.pow_pos (by decide)))]
theorem aMg (v:Int):∀ (n:Nat),n≤8→∀ acc:Int,0≤acc→acc<18446744073709551616→(j4 (fG v n)).foldl nL acc=(acc*(256:Int)^n+v % (256:Int)^n) % 18446744073709551616
 | 0,hn,acc,h1,h2=>by
  simp only [fG,j4,List.map_nil,List.foldl_nil,Int.pow_zero,Int.mul_one,Int.emod_one,Int.add_zero];omega
 | n+1,hn,acc,h1,h2=>by
  have hb0:0≤CD v n:=by rw [RS v (by omega)];omega
  have hb1:CD v n<256:=by rw [RS v (by omega)];omega
  have hbt:((UInt8.ofNat (CD v n).toNat).toNat:Int)=CD v n:=by
   rw [UInt8.toNat_ofNat'];omega
  show(j4 (fG v n)).foldl nL (nL acc (UInt8.ofNat (CD v n).toNat))=_;rw [aMg v n (by omega) _ (by rw [AB];omega) (by rw [AB];omega),AB,hbt,Int.pow_succ,aPu v _ (Int.pow_pos (by decide)),RS v (by omega)];generalize v / (256:Int)^n % 256=b;generalize v % (256:Int)^n=r;generalize (256:Int)^n=m;rw [Int.add_emod,Int.mul_emod,Int.emod_emod,← Int.mul_emod,← Int.add_emod];congr 1;rw [Int.add_mul,Int.mul_comm m 256,← Int.mul_assoc,Int.mul_comm b m];omega
def Fits (v:Int)(n:Nat):Prop:=(n=8∧-9223372036854775808≤v∧v≤9223372036854775807)∨(n≤7∧0≤v∧v<(256:Int)^n)
theorem a5w {v:Int}{n:Nat}(h:Fits v n):IntKind.i64.wrap ((j4 (fG v n)).foldl nL 0)=v:=by
 have hn:n≤8:=by rcases h with⟨h,_⟩ | ⟨h,_⟩ <;> omega
 rw [aMg v n hn 0 (by omega) (by omega),Int.zero_mul,Int.zero_add];rcases h with⟨rfl,h1,h2⟩ | ⟨h1,h2,h3⟩
 ·rw [show(256:Int)^8=18446744073709551616 from rfl,IntKind.wrap_i64];omega
 ·rw [Int.emod_eq_of_lt h2 h3];have h4:(256:Int)^n≤72057594037927936:=by
   have:n=0∨n=1∨n=2∨n=3∨n=4∨n=5∨n=6∨n=7:=by omega
   rcases this with rfl | rfl | rfl | rfl | rfl | rfl | rfl | rfl <;> decide
  rw [Int.emod_eq_of_lt h2 (by omega)];exact wrap64 (by omega) (by omega)
theorem aMh (l:List Int):(j4 l).length=l.length:=by simp [j4]
theorem q7 (l m:List Int):j4 (l++m)=j4 l++j4 m:=by simp [j4]
theorem a2F (l:List UInt8)(hl:l.length≤1000000000)(s:List UInt8)(b:Bool):aCe (((),(0:Int),l,(l.length:Int),(0:Int),()),(s,b,()),())=some (.inl (((),l.foldl nL 0,()),(s,b,()),())):=by
 have h:=yB (G:=fun x=>FW x.1.2.1 x.1.2.2.1 x.1.2.2.2.1 x.1.2.2.2.2.1 x.2.1) (m:=fuel) l nL (fun j a=>(((),a,l,(l.length:Int),(j:Int),()),(s,b,()),())) (fun a=>.inl (((),a,()),(s,b,()),())) (fun j c a ha=>?_) (fun a=>?_) (fuel_lt hl) 0
 ·exact h
 ·have hk:=dF ha;simp only [FW,dec_lt hk,bI hk,cond_true,bB ha,aN hk (by omega)]
 ·simp only [FW,bA,cond_false]
theorem bBR (l r:List UInt8){n:Nat}(hn:l.length=n):RM (n:Int) (l++r,false,())=some ((l,()),(r,false,()),()):=by
 subst hn;unfold RM;have h1:¬((l.length:Int)>((l++r).length:Int)):=by simp;omega
 have h2:(0:Int)≤(l.length:Int)∧(l.length:Int)≤((l++r).length:Int):=by simp;omega
 simp only [cond_false,aKP h1,aKO h2,cond_true];simp only [Int.toNat_natCast,Nat.sub_zero,List.drop_zero,List.take_left,List.drop_left,aPk,Nat.add_sub_cancel_left,aYZ]
theorem Y9 {v:Int}{n:Nat}(h:Fits v n)(r:List UInt8):fJ (n:Int) (j4 (fG v n)++r,false,())=some ((v,()),(r,false,()),()):=by
 have hn:n≤8:=by rcases h with⟨h,_⟩ | ⟨h,_⟩ <;> omega
 have hlen:(j4 (fG v n)).length=n:=by rw [aMh,eU]
 unfold fJ;simp only [bBR _ r hlen,aEk];rw [a2F _ (by omega)];simp only [aEk,aQM,a5w h]
theorem aTB (a:fW)(h1:Fits a.1 8)(h2:Fits a.2 8)(r:List UInt8):FX (j4 (M8 a)++r,false,())=some ((a,()),(r,false,()),()):=by
 unfold FX M8;simp only [q7,aQ4];have e1:=Y9 h1 (j4 (fG a.2 8)++r);have e2:=Y9 h2 r;rw [show((8:Nat):Int)=8 from rfl] at e1 e2;simp only [e1,aEk,e2]
theorem bEz (v:Int):∀ (n:Nat) (row:List Int) (f:Nat),n≤1000→n<f→row.length+n≤1000000000 →
  aH (fun x=>aBX x.1.1 x.1.2.1 x.2.1) f ((v,(n:Int)-1,(),()),row,())=some (.inl (((),()),row++fG v n,()))
 | 0,row,f,hn,hf,hr=>by
  obtain⟨f,rfl⟩:∃ k,f=k+1:=⟨f-1,by omega⟩;refine bM ?_ f;simp only [aBX];rw [aKP (by omega:¬(((0:Nat):Int)-1≥0)),cond_false];simp [fG]
 | n+1,row,f,hn,hf,hr=>by
  obtain⟨f,rfl⟩:∃ k,f=k+1:=⟨f-1,by omega⟩;have e:((n+1:Nat):Int)-1=(n:Int):=by omega
  rw [e,bT (x':=((v,(n:Int)-1,(),()),row++[CD v n],())) ?_ f]
  ·rw [bEz v n _ f (by omega) (by omega) (by simp;omega)];simp [fG]
  ·simp only [aBX];rw [aKO (by omega:(n:Int)≥0),cond_true,aTA (by omega),aKP (by omega),cond_false,show Nat.ble ((row.length+_)*1) 70368744177664=true from aPp (by simp;omega),cond_true,
    wrap64 (x:=(n:Int)-1) (by omega) (by omega)]
   unfold CD;rw [aTA (by omega)]
theorem bAc (v:Int)(n:Nat)(hn:n≤1000):aAS v (n:Int)=some ((j4 (fG v n),()):aS [.str]):=by
 unfold aAS aQK;rw [wrap64 (x:=(n:Int)-1) (by omega) (by omega),bEz v n [] fuel hn (fuel_lt (by omega)) (by simp;omega)];rfl
def rQ:Body:=((0:Int),((0:Int),(0:Int)),(0:Int),((0:Int),(0:Int)),(0:Int),(0:Int))
def n7:iF:=((0:Int),(0:Int),(0:Int))
theorem a5x (a:Int):FF a=some ((decide (a≥1)&&decide (a≤1000000),()):aS [.bool]):=by
 unfold FF;cases decide (a≥(1:Int)) <;> rfl
theorem aFV {b:Body}(h:l5 b=some ((true,()):aS [.bool])):b.1=1∨b.1=2:=by
 by_cases h1:b.1=1
 ·exact .inl h1
 ·by_cases h2:b.1=2
  ·exact .inr h2
  ·exfalso;have e:YZ b.1=some (([],()):aS [.str]):=by
    unfold YZ;rw [show(b.1==(1:Int))=false from beq_eq_false_iff_ne.2 h1,show(b.1==(2:Int))=false from beq_eq_false_iff_ne.2 h2];rfl
   unfold l5 at h;rw [e] at h;simp only [aEk] at h;rw [show((([]:List UInt8))==[])=true from rfl] at h;simp at h
theorem JK {c:Bool}{x:Option (aS [.bool])}(h:(bif c then x else some (false,()))=some (true,())):c=true∧x=some (true,()):=by
 cases c with
 | true=>exact⟨rfl,h⟩
 | false=>cases h
theorem aCi {c:Bool}{x:Option (aS [.bool])}(h:(bif !c then some (false,()) else x)=some (true,())):c=true∧x=some (true,()):=by
 cases c with
 | true=>exact⟨rfl,h⟩
 | false=>cases h
theorem aMi {c:Bool}(h:some ((c,()):aS [.bool])=some (true,())):c=true:=by cases h;rfl
theorem aMj {x:Option (aS [.bool])}(h:(x.bind fun v=>some ((v.1,()):aS [.bool]))=some (true,())):x=some (true,()):=by
 cases x with
 | none=>cases h
 | some y=>obtain⟨b,u⟩:=y;cases h;rfl
theorem aTC {t:Thing}(hl:t.2.2.2.2.length≤1000000000)(h:rt t=true):(1≤t.1∧t.1≤1000000) ∧
  ((t.2.1=1∧t.2.2.2.1=n7∧ins t=[]∧(t.2.2.1.1=1∨t.2.2.1.1=2)) ∨
   (t.2.1=2∧t.2.2.1=rQ∧ins t=[]∧(1≤t.2.2.2.1.1∧t.2.2.2.1.1≤1000000)∧(1≤t.2.2.2.1.2.1∧t.2.2.2.1.2.1≤1000000)∧t.2.2.2.1.1≠t.2.2.2.1.2.1∧0≤t.2.2.2.1.2.2∧t.2.2.2.1.2.2≤4294967296000) ∨
   (t.2.1=3∧t.2.2.1=rQ∧t.2.2.2.1=n7∧XH t=some ((true,()):aS [.bool]))):=by
 have hv:=XK t hl;rw [h] at hv;obtain⟨id,kind,⟨b1,⟨b2,b3⟩,b4,⟨b5,b6⟩,b7,b8⟩,⟨j1,j2,j3⟩,l⟩:=t;unfold BW at hv;simp only [a5x,aEk] at hv;obtain⟨k1,hv⟩:=aCi hv;simp only [aKS,decide_eq_true_eq] at k1;refine⟨k1,?_⟩;unfold aIV at hv;have hlen:∀ {l:List Int},(((l.length:Nat):Int)==0)=true→l=[]:=by
  intro l h;have:((l.length:Nat):Int)=0:=by simpa using h
  exact a9w (by omega)
 by_cases c1:kind=1
 ·subst c1;refine .inl ?_;simp only [a1M,cond_true] at hv;cases hj:(j1==(0:Int)&&(j2==(0:Int)&&(j3==(0:Int)&&true))) with
  | false=>rw [hj] at hv;cases hv
  | true=>
    rw [hj] at hv;simp only [cond_true,aEk] at hv;obtain⟨k2,hv⟩:=aCi hv;have k3:=aMj hv;simp only [aKS,beq_iff_eq,Bool.and_true] at hj;obtain⟨rfl,rfl,rfl⟩:=hj;exact⟨rfl,rfl,hlen k2,aFV k3⟩
 ·by_cases c2:kind=2
  · subst c2;refine .inr (.inl ?_);simp only [show((2:Int)==1)=false from rfl,a1M,cond_true,cond_false] at hv;cases hj:(b1==(0:Int)&&(b2==(0:Int)&&(b3==(0:Int)&&true)&&(b4==(0:Int)&&(b5==(0:Int)&&(b6==(0:Int)&&true)&&(b7==(0:Int)&&(b8==(0:Int)&&true)&&true))))) with
    | false=>rw [hj] at hv;cases hv
    | true=>
     rw [hj] at hv;simp only [cond_true,aEk] at hv;obtain⟨k2,hv⟩:=aCi hv;obtain⟨k3,hv⟩:=JK hv;obtain⟨k4,hv⟩:=JK hv;obtain⟨k5,hv⟩:=JK hv;obtain⟨k6,hv⟩:=JK hv;have k7:=aMi hv;simp only [aKS,beq_iff_eq,Bool.and_true] at hj;obtain⟨rfl,⟨rfl,rfl⟩,rfl,⟨rfl,rfl⟩,rfl,rfl⟩:=hj;simp only [aKS,decide_eq_true_eq,bne_iff_ne,ne_eq] at k3 k4 k5 k6 k7;exact⟨rfl,rfl,hlen k2,k3,k4,k5,k6,k7⟩
  · refine .inr (.inr ?_);simp only [show(kind==(1:Int))=false from beq_eq_false_iff_ne.2 c1,show(kind==(2:Int))=false from beq_eq_false_iff_ne.2 c2,cond_false] at hv;cases hj:(b1==(0:Int)&&(b2==(0:Int)&&(b3==(0:Int)&&true)&&(b4==(0:Int)&&(b5==(0:Int)&&(b6==(0:Int)&&true)&&(b7==(0:Int)&&(b8==(0:Int)&&true)&&true))))) with
    | false=>rw [hj] at hv;cases hv
    | true=>
     rw [hj] at hv;simp only [cond_true,aEk] at hv;obtain⟨k2,hv⟩:=aCi hv;obtain⟨k3,hv⟩:=JK hv;have k4:=aMj hv;simp only [aKS,beq_iff_eq,Bool.and_true] at hj k2 k3;obtain⟨rfl,⟨rfl,rfl⟩,rfl,⟨rfl,rfl⟩,rfl,rfl⟩:=hj;obtain⟨rfl,rfl,rfl⟩:=k2;exact⟨k3,rfl,rfl,k4⟩
theorem a5y {t:Thing}(hl:t.2.2.2.2.length≤1000000000)(h:XH t=some ((true,()):aS [.bool])):(∀ n∈ins t,1≤n∧n≤1000000)∧(ins t).length≤8:=by
 have key:∀ (l:List Int) (k:Nat) (prev:Int) (m:Nat),(ins t).drop k=l→l.length<m→∀ y,aH (fun x=>jY x.1.2.1 x.1.2.2.1 x.1.2.2.2.1 x.1.2.2.2.2.1 x.2.1) m (((),prev,ins t,((ins t).length:Int),(k:Int),()),(t,()),())=some y →
   (y=.inl (((),()),(t,()),())∧∀ n∈l,1≤n∧n≤1000000)∨y=.inr ((false,()),()):=by
  intro l
  induction l with
  | nil=>
   intro k prev m hd hm y hy;obtain⟨m,rfl⟩:∃ j,m=j+1:=⟨m-1,by simp at hm;omega⟩;have hk:(ins t).length≤k:=by simpa using hd
   rw [bM (y:=.inl (((),()),(t,()),())) (by simp only [jY];rw [aKP (by omega:¬((k:Int)<((ins t).length:Int)))];rfl)] at hy;exact .inl ⟨(Option.some.inj hy).symm,by simp⟩
  | cons a l ih=>
   intro k prev m hd hm y hy;obtain⟨m,rfl⟩:∃ j,m=j+1:=⟨m-1,by simp at hm;omega⟩;have hk:k<(ins t).length:=by
    rcases Nat.lt_or_ge k (ins t).length with h | h
    ·exact h
    ·rw [List.drop_eq_nil_of_le h] at hd;cases hd
   have ha:(ins t)[k]?=some a:=by rw [← List.head?_drop,hd];rfl
   have P7:(ins t).drop (k+1)=l:=by rw [← List.tail_drop,hd];rfl
   have hG:jY prev (ins t) ((ins t).length:Int) (k:Int) (t,())=(bif decide (a≤prev) then some (.inr (.inr ((false,()),()))) else bif !(decide (a≥1)&&decide (a≤1000000)) then some (.inr (.inr ((false,()),()))) else bif a==t.1 then some (.inr (.inr ((false,()),()))) else some (.inl (((),a,ins t,((ins t).length:Int),((k+1:Nat):Int),()),(t,()),()))):=by
    simp only [jY,dec_lt hk,bI hk,cond_true,bB ha,aN hk (by have:(ins t).length≤1000000000:=hl;omega),a5x,aEk]
   have out:∀ z,jY prev (ins t) ((ins t).length:Int) (k:Int) (t,())=some (.inr z)→y=z:=by
    intro z hz;rw [bM hz] at hy;exact(Option.some.inj hy).symm
   cases c1:decide (a≤prev) with
   | true=>rw [c1] at hG;exact .inr (out _ hG)
   | false=>
    rw [c1] at hG;cases c2:(decide (a≥1)&&decide (a≤1000000)) with
    | false=>rw [c2] at hG;exact .inr (out _ hG)
    | true=>
     rw [c2] at hG;cases c3:(a==t.1) with
     | true=>rw [c3] at hG;exact .inr (out _ hG)
     | false=>
      rw [c3] at hG;rw [bT (x':=(((),a,ins t,((ins t).length:Int),((k+1:Nat):Int),()),(t,()),())) hG] at hy;rcases ih (k+1) a m P7 (by simp at hm;omega) y hy with⟨h1,h2⟩ | h1
      ·refine .inl ⟨h1,fun n hn=>?_⟩;rcases aQL.1 hn with rfl | hn
       ·simpa using c2
       ·exact h2 n hn
      ·exact .inr h1
 unfold XH aBq at h;obtain⟨y,hy,h⟩:=aXE.1 h;rcases key (ins t) 0 0 fuel rfl (fuel_lt hl) y hy with⟨rfl,h2⟩ | rfl
 ·refine⟨h2,?_⟩;simp only [aQM] at h;obtain⟨k1,h⟩:=JK h;have:=aXU (aMi h);show(t.2.2.2.2).length≤8;omega
 ·cases h
theorem yC {v:Int}(h:I.wf v):Fits v 8:=by
 have h:(Lit.int IntKind.i64 v).wf=true:=h;simp only [Lit.wf,aKS,decide_eq_true_eq] at h;have e1:IntKind.i64.min=-9223372036854775808:=by decide
 have e2:IntKind.i64.max=9223372036854775807:=by decide
 rw [e1,e2] at h;exact .inl ⟨rfl,h.1,h.2⟩
theorem fits {v:Int}{n:Nat}(hn:n≤7)(h1:0≤v)(h2:v<(256:Int)^n):Fits v n:=.inr ⟨hn,h1,h2⟩
theorem aTD {v:Int}(h1:0≤v)(h2:v<256):Fits v 1:=fits (by decide) h1 (by rw [show(256:Int)^1=256 from rfl];exact h2)
theorem aZg {v:Int}(h1:0≤v)(h2:v<4294967296):Fits v 4:=fits (by decide) h1 (by rw [show(256:Int)^4=4294967296 from rfl];exact h2)
theorem bBS (s:List UInt8)(id kind:Int)(b:Body)(j:iF)(r:List UInt8):∀ (l:List Int),(∀ n∈l,1≤n∧n≤1000000)→∀ (row:List Int) (m:Nat),row.length+l.length≤1000000→l.length<m →
  aH (fun x=>qZ x.1.1 x.1.2.2.2.2.1 x.2.1 x.2.2.1 x.2.2.2.1 x.2.2.2.2.1) m ((s,(),(),(),(l.length:Int),()),(cO,()),(j4 (FY l)++r,false,()),(id,kind,b,j,(),()),row,()) =
   some (.inl ((s,(),(),(),()),(cO,()),(r,false,()),(id,kind,b,j,(),()),row++l,()))
 | [],_,row,m,h1,hm=>by
  obtain⟨m,rfl⟩:∃ k,m=k+1:=⟨m-1,by simp at hm;omega⟩;refine bM ?_ m;simp only [qZ];rw [aKP (by simp:¬((([]:List Int).length:Int)>0)),cond_false,a1d];rfl
 | a :: l,hl,row,m,h1,hm=>by
  obtain⟨m,rfl⟩:∃ k,m=k+1:=⟨m-1,by simp at hm;omega⟩;have ha:=hl a (by simp);have e1:=Y9 (aZg (by omega:0≤a) (by omega)) (j4 (FY l)++r);rw [show((4:Nat):Int)=4 from rfl] at e1;have e2:j4 (FY (a :: l))=j4 (fG a 4)++j4 (FY l):=by rw [← q7];rfl
  simp only [aQO] at h1 hm;rw [bT (x':=((s,(),(),(),(l.length:Int),()),(cO,()),(j4 (FY l)++r,false,()),(id,kind,b,j,(),()),row++[a],())) ?_ m]
  ·rw [bBS s id kind b j r l (fun n hn=>hl n (by simp [hn])) (row++[a]) m (by simp;omega) (by omega),aQ4];rfl
  ·simp only [qZ];rw [aKO (by simp:(((a :: l).length:Nat):Int)>0),cond_true,e2,aQ4,e1];simp only [aEk];rw [show Nat.ble ((row.length+[a].length)*8) 70368744177664=true from aPp (by simp;omega),cond_true,wrap64 (x:=((a :: l).length:Int)-1) (by simp only [aQO];omega) (by simp only [aQO];omega)];have e3:((a :: l).length:Int)-1=(l.length:Int):=by simp
   rw [e3]
theorem bGL (t:Thing)(hw:aA.wf t)(hl:t.2.2.2.2.length≤1000000)(h:rt t=true):M5 (j4 (qS t))=some ((t,true,()):aS [aA,.bool]):=by
 obtain⟨hid,hp⟩:=aTC (by omega) h;have h61:=a5u t hl;rw [h,cond_true] at h61;have f1:∀ (v:Int),Fits v 1→∀ r,fJ 1 (j4 (fG v 1)++r,false,())=some ((v,()),(r,false,()),()):=fun v hv r=>Y9 hv r;have f4:∀ (v:Int),Fits v 4→∀ r,fJ 4 (j4 (fG v 4)++r,false,())=some ((v,()),(r,false,()),()):=fun v hv r=>Y9 hv r;have f8:∀ (v:Int),Fits v 8→∀ r,fJ 8 (j4 (fG v 8)++r,false,())=some ((v,()),(r,false,()),()):=fun v hv r=>Y9 hv r;generalize hs:j4 (qS t)=s at *
 obtain⟨(id:Int),(kind:Int),b,j,(l:List Int)⟩:=t;have hid:(1:Int)≤id∧id≤1000000:=hid;have hl:l.length≤1000000:=hl;obtain⟨w1,w2,w3,w4,w5⟩:=hw;have hs0:s=j4 (fG kind 1)++(j4 (fG id 4)++j4 (bif kind==(1:Int) then aMf b else bif kind==(2:Int) then aCh j else bif kind==(3:Int) then fG (l.length:Int) 1++FY l else [])):=by
  rw [← hs,← q7,← q7];rfl
 have a5z:Fits id 4:=aZg (by have:=hid.1;omega) (by have:=hid.2;omega);rcases hp with⟨rfl,rfl,hi,hsh⟩ | ⟨rfl,rfl,hi,hA,hB,_,_,_⟩ | ⟨rfl,rfl,rfl,h89⟩
 ·have hl0:l=[]:=hi;subst hl0;obtain⟨b1,b2,b3,b4,b5⟩:=b;obtain⟨x1,x2,x3,x4,x5⟩:=w3;have hs1:s=j4 (fG 1 1)++(j4 (fG id 4)++(j4 (fG b1 1)++(j4 (M8 b2)++(j4 (fG b3 8)++(j4 (M8 b4)++(j4 (M8 b5)++[])))))):=by
   rw [hs0];simp only [a1M,cond_true,aMf,q7,a1d]
  unfold M5;rw [hs1,f1 1 (aTD (by decide) (by decide))];simp only [aEk];rw [f4 id a5z];simp only [aEk,a1M,cond_true];rw [f1 b1 (by rcases hsh with h | h <;> (have h:b1=_:=h;rw [h];exact aTD (by decide) (by decide)))];simp only [aEk];rw [aTB b2 (yC x2.1) (yC x2.2)];simp only [aEk];rw [f8 b3 (yC x3)];simp only [aEk];rw [aTB b4 (yC x4.1) (yC x4.2)];simp only [aEk];rw [aTB b5 (yC x5.1) (yC x5.2)];simp only [aEk];rw [← hs1];have aTE:FV (id,1,(b1,b2,b3,b4,b5),((0:Int),(0:Int),(0:Int)),[])=_:=h61;rw [aTE];simp only [aEk,cond_false,aXM,a1M];rfl
 ·have hl0:l=[]:=hi;subst hl0;obtain⟨(j1:Int),(j2:Int),(j3:Int)⟩:=j;obtain⟨x1,x2,x3⟩:=w4;have hA:1≤j1∧j1≤1000000:=hA;have hB:1≤j2∧j2≤1000000:=hB;have hs1:s=j4 (fG 2 1)++(j4 (fG id 4)++(j4 (fG j1 4)++(j4 (fG j2 4)++(j4 (fG j3 8)++[])))):=by
   rw [hs0];simp only [show((2:Int)==1)=false from rfl,a1M,cond_true,cond_false,aCh,q7,a1d]
  unfold M5;rw [hs1,f1 2 (aTD (by decide) (by decide))];simp only [aEk];rw [f4 id a5z];simp only [aEk,show((2:Int)==1)=false from rfl,a1M,cond_true,cond_false];rw [f4 j1 (aZg (by omega) (by omega))];simp only [aEk];rw [f4 j2 (aZg (by omega) (by omega))];simp only [aEk];rw [f8 j3 (yC x3)];simp only [aEk];rw [← hs1];have aTE:FV (id,2,((0:Int),((0:Int),(0:Int)),(0:Int),((0:Int),(0:Int)),(0:Int),(0:Int)),(j1,j2,j3),[])=_:=h61;rw [aTE];simp only [aEk,cond_false,aXM,a1M];rfl
 ·obtain⟨hm,hm8⟩:=a5y (t:=(id,3,rQ,n7,l)) (by show l.length≤1000000000;omega) h89;have hm:∀ n∈l,1≤n∧n≤1000000:=hm;have hm8:l.length≤8:=hm8;have hs1:s=j4 (fG 3 1)++(j4 (fG id 4)++(j4 (fG (l.length:Int) 1)++(j4 (FY l)++[]))):=by
   rw [hs0];simp only [show((3:Int)==1)=false from rfl,show((3:Int)==2)=false from rfl,a1M,cond_true,cond_false,q7,a1d]
  unfold M5;rw [hs1,f1 3 (aTD (by decide) (by decide))];simp only [aEk];rw [f4 id a5z];simp only [aEk,show((3:Int)==1)=false from rfl,show((3:Int)==2)=false from rfl,a1M,cond_true,cond_false];rw [f1 (l.length:Int) (aTD (by omega) (by omega))];simp only [aEk];rw [← hs1];have hr:=bBS s id 3 rQ n7 [] l hm [] fuel (by simp;omega) (fuel_lt (by omega));have hr':NT ((s,(),(),(),(l.length:Int),()),(((0:Int),(0:Int),((0:Int),((0:Int),(0:Int)),(0:Int),((0:Int),(0:Int)),(0:Int),(0:Int)),((0:Int),(0:Int),(0:Int)),[]),()),(j4 (FY l)++[],false,()),(id,3,((0:Int),((0:Int),(0:Int)),(0:Int),((0:Int),(0:Int)),(0:Int),(0:Int)),((0:Int),(0:Int),(0:Int)),(),()),[],())=_:=hr;rw [hr'];simp only [aEk,aQM];have aTE:FV (id,3,rQ,n7,[]++l)=_:=h61;rw [aTE];simp only [aEk,cond_false,aXM,a1M];rfl
end Go.DI.S
end
