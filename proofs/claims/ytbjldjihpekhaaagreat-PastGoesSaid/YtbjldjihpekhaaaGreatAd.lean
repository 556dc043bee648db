import Derived.Test.YtbjldjihpekhaaaGreatAc
/- slices.SortStableFunc at whole numbers; pairs that meet: told by functions on data. No conditions. -/
set_option linter.unusedVariables false
set_option maxRecDepth 100000
set_option maxHeartbeats 0
noncomputable section
namespace Go.DI.S
open Go.Proofs
def aNq (s:AS)(t o:Nat):Nat:=match s.r[t]? with
 | some (.agg cs)=>match cs[o]? with
  | some (.bL _ j)=>j
  | _=>0
 | _=>0
def aVZ:Tb:=cC iL iM []
theorem aNr:aVZ.Ok CT.P:=aQ trivial
def qE:Code:=Tryz.f237.body.getD .skip
theorem a7L:Tryz.f237.body=some qE:=by kernel_rfl
theorem a7M:CT.P.funcs[237]?=some Tryz.f237:=by kernel_rfl
def bCV:oH CT Tryz.f237 qE 169 where
 i0:=(gJ qE).1
 i1:=(kF qE).1
 i2:=(pQ qE).1
 aBf:=(gJ qE).2
 XF:=(kF qE).2
 XG:=(pQ qE).2
 rest:=jZ qE
 code:=by kernel_rfl
 s0:=by kernel_rfl
 s1:=by kernel_rfl
 s2:=by kernel_rfl
 o00:=((gJ qE).2[0]?).getD default
 o10:=((kF qE).2[0]?).getD default
 o11:=((kF qE).2[1]?).getD default
 o20:=((pQ qE).2[0]?).getD default
 h00:=by kernel_rfl
 h10:=by kernel_rfl
 h11:=by kernel_rfl
 h20:=by kernel_rfl
 g00:=⟨by kernel_rfl,by kernel_rfl,by kernel_rfl⟩
 g10:=⟨by kernel_rfl,by kernel_rfl,by kernel_rfl⟩
 g11:=⟨by kernel_rfl,by kernel_rfl,by kernel_rfl⟩
 g20:=⟨by kernel_rfl,by kernel_rfl,by kernel_rfl⟩
 nt:=by kernel_rfl
 res:=by kernel_rfl
def CK (a1:Ty.El (.list aM)):Option (List (Ty.El aM)):=bif Nat.ble (List.length a1*64) 70368744177664 then some a1 else none
theorem bCW (l:List (Ty.El aM)):aV CT aVZ (cB CT aVZ) (fun _ _ _=>none) (jZ qE) ⟨[.nF aM l,.any,.eY,.any,.bool false,.any,.any,.any],[]⟩ (P8 CT 64 aM [.tmp 2])=CK l:=by kernel_rfl
def aV0:aW:=.own 237 [] ⟨[.ty (.list aM)],64,aM,fun x=>CK x.1⟩
theorem a0B:CT.P.underlying 169=some (.slice 64):=by kernel_rfl
theorem a7N:aJ (jZ qE)=[]:=by kernel_rfl
theorem a3h:aV0.Ok CT.P:=by
 intro x y h;have h:CK x.1=some y:=h;exact oI (e:=64) (bt:=64) aL aNr a7M a7L bCV a0B a7N (l:=x.1) (y:=y) ((bCW x.1).trans h) (fun h0=>by
  rw [h0] at h;exact(Option.some.inj h).symm)
def qF:Code:=Tryz.f238.body.getD .skip
theorem a7O:Tryz.f238.body=some qF:=by kernel_rfl
theorem a7P:CT.P.funcs[238]?=some Tryz.f238:=by kernel_rfl
def bCX:oH CT Tryz.f238 qF 184 where
 i0:=(gJ qF).1
 i1:=(kF qF).1
 i2:=(pQ qF).1
 aBf:=(gJ qF).2
 XF:=(kF qF).2
 XG:=(pQ qF).2
 rest:=jZ qF
 code:=by kernel_rfl
 s0:=by kernel_rfl
 s1:=by kernel_rfl
 s2:=by kernel_rfl
 o00:=((gJ qF).2[0]?).getD default
 o10:=((kF qF).2[0]?).getD default
 o11:=((kF qF).2[1]?).getD default
 o20:=((pQ qF).2[0]?).getD default
 h00:=by kernel_rfl
 h10:=by kernel_rfl
 h11:=by kernel_rfl
 h20:=by kernel_rfl
 g00:=⟨by kernel_rfl,by kernel_rfl,by kernel_rfl⟩
 g10:=⟨by kernel_rfl,by kernel_rfl,by kernel_rfl⟩
 g11:=⟨by kernel_rfl,by kernel_rfl,by kernel_rfl⟩
 g20:=⟨by kernel_rfl,by kernel_rfl,by kernel_rfl⟩
 nt:=by kernel_rfl
 res:=by kernel_rfl
def aNs (l:List (Ty.El aP)):Option (List (Ty.El aP)):=bif Nat.ble (l.length*24) 70368744177664 then some l else none
theorem bCY (l:List (Ty.El aP)):aV CT aVZ (cB CT aVZ) (fun _ _ _=>none) (jZ qF) ⟨[.nF aP l,.any,.eY,.any,.bool false,.any,.any,.any],[]⟩ (P8 CT 66 aP [.tmp 2])=aNs l:=by kernel_rfl
def CM (a1:Ty.El (.list aP)):Option (aS [.list aP]):=(aNs a1).map fun l=>(l,())
def aV1:aW:=.fn 238 [] ⟨[.ty (.list aP)],[.list aP],fun x=>CM x.1,false⟩
theorem a0C:CT.P.underlying 184=some (.slice 66):=by kernel_rfl
theorem a7Q:aJ (jZ qF)=[]:=by kernel_rfl
theorem a3i:aV1.Ok CT.P:=by
 intro x y h;have h:CM x.1=some y:=h;unfold CM at h;obtain⟨l,hl,rfl⟩:=aPV.1 h;have h1:=oI (e:=66) (bt:=66) aL aNr a7P a7O bCX a0C a7Q (l:=x.1) (y:=l) ((bCY x.1).trans hl) (fun h0=>by
  rw [h0] at hl;exact(Option.some.inj hl).symm)
 exact h1.YR
def aV2:Code:=Tryz.f339.body.getD .skip
abbrev aKt:aF:=⟨5,[(0,.own I 0),(1,.data I),(2,.data I),(3,.data I),(4,.eG 309 [1])],[.row 3 I,.var 317 [.data (.list bX)]],fun s=>[aG s 0,sH s 4]⟩
abbrev aDl:aF:=⟨0,[],[.row 3 I,.var 317 [.data (.list bX)]],fun _=>[0,1]⟩
def aG3:Tb:=cC iL iM []
theorem aG4:aG3.Ok CT.P:=aQ (trivial)
def aNt:Code:=aX aV2 1
abbrev uD:aF:=⟨38,[(0,.own I 0),(1,.data I),(2,.data I),(3,.data I),(10,.data I)],[.row 3 I,.var 317 [.data (.list bX)]],fun s=>[0,1]⟩
abbrev US:aF:=⟨38,[],[.row 3 I,.var 317 [.data (.list bX)]],fun s=>[0,1]⟩
abbrev UT:aF:=l0 38
def aG5:=ex 2 0 US UT [] []
def A5 (r1:Ty.El I)(r2:Ty.El I)(r3:Ty.El I)(eD:Ty.El I)(b0:List (Ty.El I))(b1:Ty.El (.list bX)×Unit):Option (uD.El⊕(US.El⊕UT.El)):=bif decide (eD<r3) then bif decide ((0:Int)≤IntKind.i64.wrap (r2+eD)∧IntKind.i64.wrap (r2+eD)<(↑b0.length:Int)) then bif decide ((0:Int)≤IntKind.i64.wrap (r1+eD)∧IntKind.i64.wrap (r1+eD)<(↑b0.length:Int)) then bif decide ((0:Int)≤IntKind.i64.wrap (r1+eD)∧IntKind.i64.wrap (r1+eD)<(↑b0.length:Int)) then bif decide ((0:Int)≤IntKind.i64.wrap (r2+eD)∧IntKind.i64.wrap (r2+eD)<(↑(b0.set (IntKind.i64.wrap (r1+eD)).toNat (b0.getD (IntKind.i64.wrap (r2+eD)).toNat (0:Int))).length:Int)) then some (Sum.inl (((),r1,r2,r3,IntKind.i64.wrap (eD+(1:Int)),()),(b0.set (IntKind.i64.wrap (r1+eD)).toNat (b0.getD (IntKind.i64.wrap (r2+eD)).toNat (0:Int))).set (IntKind.i64.wrap (r2+eD)).toNat (b0.getD (IntKind.i64.wrap (r1+eD)).toNat (0:Int)),(b1.1,()),())) else none else none else none else none else some (Sum.inr (Sum.inl ((),b0,(b1.1,()),())))
theorem a0D (x:uD.El):aV (bY 2) aG3 (cB (bY 2) aG3) iI aNt (uD.enc x) (bG (uD.lay []) aG5)=A5 x.1.2.1 x.1.2.2.1 x.1.2.2.2.1 x.1.2.2.2.2.1 x.2.1 x.2.2.1:=by kernel_rfl
def aDm:uD.El→Option (US.El⊕UT.El):=aH (fun x=>A5 x.1.2.1 x.1.2.2.1 x.1.2.2.2.1 x.1.2.2.2.2.1 x.2.1 x.2.2.1) fuel
def aV3 {β:Type}:dK β:=fun k s K=>if Nat.beq k 1 then bO (uD.lay []) aG5 aDm s K else none
theorem aQo {β:Type}:aC (bY 2) (aV3 (β:=β)) (aJ aV2):=aC.is [(1,aNt)] (by kernel_rfl) (aC.cons (iW (aY 2) aG4 (bC (by kernel_rfl)) a0D rfl rfl) (aC.nil))
def MO (a1:Ty.El I)(a2:Ty.El I)(a3:Ty.El I)(b0:List (Ty.El I))(b1:Ty.El (.list bX)×Unit):Option aDl.El:=(aDm (((),a1,a2,a3,(0:Int),()),b0,(b1.1,()),())).bind fun v1=>Sum.elim (fun v2=>some ((),v2.2.1,(v2.2.2.1.1,()),())) (fun v3=>none) v1
theorem bCZ (x:aKt.El):kE (bY 2) aG3 aKt aDl [] (cB (bY 2) aG3) aV3 Tryz.f339 aV2 x=MO x.1.2.1 x.1.2.2.1 x.1.2.2.2.1 x.2.1 x.2.2.1:=by kernel_rfl
def a3j:aW:=.dV 339 [309] ⟨2,[.bU 0 3 I,.dJ 0 3 I],aKt,aDl,fun x=>MO x.1.2.1 x.1.2.2.1 x.1.2.2.2.1 x.2.1 x.2.2.1⟩
theorem bC0:a3j.Ok CT.P:=aW.lI (C:=(bY 2)) (steps:=[.bU 0 3 I,.dJ 0 3 I]) (cN:=[]) (aY 2) aG4 (by kernel_rfl) (by kernel_rfl) aQo bCZ
def aV4:Code:=Tryz.f337.body.getD .skip
abbrev aKu:aF:=⟨5,[(0,.own I 0),(1,.data I),(2,.data I),(3,.data I),(4,.eG 309 [1])],[.row 3 I,.var 317 [.data (.list bX)]],fun s=>[aG s 0,sH s 4]⟩
abbrev aDn:aF:=⟨0,[],[.row 3 I,.var 317 [.data (.list bX)]],fun _=>[0,1]⟩
def aG6:Tb:=cC iL iM [a3j]
theorem aG7:aG6.Ok CT.P:=aQ (⟨bC0,trivial⟩)
def aNu:Code:=aX aV4 2
abbrev uE:aF:=⟨58,[(0,.own I 0),(2,.data I),(4,.eG 309 [1]),(10,.data I),(11,.data I)],[.row 3 I,.var 317 [.data (.list bX)]],fun s=>[0,1]⟩
abbrev UU:aF:=⟨58,[(0,.own I 0),(2,.data I),(4,.eG 309 [1]),(10,.data I)],[.row 3 I,.var 317 [.data (.list bX)]],fun s=>[0,1]⟩
abbrev UW:aF:=l0 58
def aG8:=ex 2 0 UU UW [] []
def A6 (r2:Ty.El I)(eD:Ty.El I)(eM:Ty.El I)(b0:List (Ty.El I))(b1:Ty.El (.list bX)×Unit):Option (uE.El⊕(UU.El⊕UW.El)):=bif eD != eM then bif decide (eD>eM) then(MO (IntKind.i64.wrap (r2-eD)) r2 eM b0 (b1.1,())).bind fun v2=>some (Sum.inl (((),r2,(),IntKind.i64.wrap (eD-eM),eM,()),v2.2.1,(v2.2.2.1.1,()),())) else(MO (IntKind.i64.wrap (r2-eD)) (IntKind.i64.wrap (IntKind.i64.wrap (r2+eM)-eD)) eD b0 (b1.1,())).bind fun v8=>some (Sum.inl (((),r2,(),eD,IntKind.i64.wrap (eM-eD),()),v8.2.1,(v8.2.2.1.1,()),())) else some (Sum.inr (Sum.inl (((),r2,(),eD,()),b0,(b1.1,()),())))
theorem a0E (x:uE.El):aV (bY 2) aG6 (cB (bY 2) aG6) iI aNu (uE.enc x) (bG (uE.lay []) aG8)=A6 x.1.2.1 x.1.2.2.2.1 x.1.2.2.2.2.1 x.2.1 x.2.2.1:=by kernel_rfl
def aDo:uE.El→Option (UU.El⊕UW.El):=aH (fun x=>A6 x.1.2.1 x.1.2.2.2.1 x.1.2.2.2.2.1 x.2.1 x.2.2.1) fuel
def aV5 {β:Type}:dK β:=fun k s K=>if Nat.beq k 2 then bO (uE.lay []) aG8 aDo s K else none
theorem aQp {β:Type}:aC (bY 2) (aV5 (β:=β)) (aJ aV4):=aC.is [(2,aNu)] (by kernel_rfl) (aC.cons (iW (aY 2) aG7 (bC (by kernel_rfl)) a0E rfl rfl) (aC.nil))
def aG9 (a1:Ty.El I)(a2:Ty.El I)(a3:Ty.El I)(b0:List (Ty.El I))(b1:Ty.El (.list bX)×Unit):Option aDn.El:=(aDo (((),a2,(),IntKind.i64.wrap (a2-a1),IntKind.i64.wrap (a3-a2),()),b0,(b1.1,()),())).bind fun v1=>Sum.elim (fun v2=>(MO (IntKind.i64.wrap (v2.1.2.1-v2.1.2.2.2.1)) v2.1.2.1 v2.1.2.2.2.1 v2.2.1 (v2.2.2.1.1,())).bind fun v4=>some ((),v4.2.1,(v4.2.2.1.1,()),())) (fun v9=>none) v1
theorem bC1 (x:aKu.El):kE (bY 2) aG6 aKu aDn [] (cB (bY 2) aG6) aV5 Tryz.f337 aV4 x=aG9 x.1.2.1 x.1.2.2.1 x.1.2.2.2.1 x.2.1 x.2.2.1:=by kernel_rfl
def a3k:aW:=.dV 337 [309] ⟨2,[.bU 0 3 I,.dJ 0 3 I],aKu,aDn,fun x=>aG9 x.1.2.1 x.1.2.2.1 x.1.2.2.2.1 x.2.1 x.2.2.1⟩
theorem bC2:a3k.Ok CT.P:=aW.lI (C:=(bY 2)) (steps:=[.bU 0 3 I,.dJ 0 3 I]) (cN:=[]) (aY 2) aG7 (by kernel_rfl) (by kernel_rfl) aQp bC1
def GX:Code:=Tryz.f332.body.getD .skip
theorem a7R:Tryz.f332.body=some GX:=by kernel_rfl
theorem a7S:CT.P.funcs[332]?=some Tryz.f332:=by kernel_rfl
abbrev aKv:aF:=⟨5,[(0,.own I 0),(1,.data I),(2,.data I),(3,.data I),(4,.eG 309 [1])],[.row 3 I,.var 317 [.data (.list bX)]],fun s=>[aG s 0,sH s 4]⟩
abbrev rH:aF:=⟨0,[],[.row 3 I,.var 317 [.data (.list bX)]],fun _=>[0,1]⟩
abbrev dG:=(Ty.El I)→(Ty.El I)→(Ty.El I)→(List (Ty.El I))→(Ty.El (.list bX)×Unit)→Option rH.El
def rT (f:dG):aW:=.dV 332 [309] ⟨2,[.bU 0 3 I,.dJ 0 3 I],aKv,rH,fun x=>f x.1.2.1 x.1.2.2.1 x.1.2.2.2.1 x.2.1 x.2.2.1⟩
def uF (f:dG):Tb:=cC iL iM [aKn,a3k,(rT f)]
theorem iX {f:dG}(hf:(rT f).Ok CT.P):(uF f).Ok CT.P:=aQ (⟨aVQ,bC2,hf,trivial⟩)
def GY:Code:=aX GX 33
def GZ:Code:=aX GX 21
def G0:Code:=aX GX 15
def OB:Code:=aX GX 9
def OC:Code:=aX GX 3
abbrev nB:aF:=⟨220,[(0,.own I 0),(1,.data I),(4,.eG 309 [1]),(10,.data I),(11,.data I)],[.row 3 I,.var 317 [.data (.list bX)]],fun s=>[0,1]⟩
abbrev UX:aF:=⟨220,[(0,.own I 0),(1,.data I),(10,.data I)],[.row 3 I,.var 317 [.data (.list bX)]],fun s=>[0,1]⟩
abbrev UY:aF:=l0 220
def qG:=ex 2 0 UX UY [] []
def aAa {β:Type}:dK β:=fun _ _ _=>none
theorem aDp {β:Type}:aC (bY 2) (aAa (β:=β)) (aJ OC):=aC.is [] (by kernel_rfl) (aC.nil)
def A7 (f:dG)(r1:Ty.El I)(eD:Ty.El I)(eM:Ty.El I)(b0:List (Ty.El I))(b1:Ty.El (.list bX)×Unit):Option (nB.El⊕(UX.El⊕UY.El)):=bif decide (eD<eM) then bif decide ((0:Int)≤IntKind.i64.wrap ((IntKind.u64.wrap (IntKind.i64.wrap (eD+eM))).fdiv (2:Int))∧IntKind.i64.wrap ((IntKind.u64.wrap (IntKind.i64.wrap (eD+eM))).fdiv (2:Int))<(↑b0.length:Int)) then bif decide ((0:Int)≤r1∧r1<(↑b0.length:Int)) then(ED (b0.getD (IntKind.i64.wrap ((IntKind.u64.wrap (IntKind.i64.wrap (eD+eM))).fdiv (2:Int))).toNat (0:Int)) (b0.getD (Int.toNat r1) (0:Int)) (b1.1,())).bind fun v2=>bif decide (v2.1.1<(0:Int)) then some (Sum.inl (((),r1,(),IntKind.i64.wrap (IntKind.i64.wrap ((IntKind.u64.wrap (IntKind.i64.wrap (eD+eM))).fdiv (2:Int))+(1:Int)),eM,()),b0,(v2.2.1.1,()),())) else some (Sum.inl (((),r1,(),eD,IntKind.i64.wrap ((IntKind.u64.wrap (IntKind.i64.wrap (eD+eM))).fdiv (2:Int)),()),b0,(v2.2.1.1,()),())) else none else none else some (Sum.inr (Sum.inl (((),r1,eD,()),b0,(b1.1,()),())))
theorem a0F (f:dG)(x:nB.El):aV (bY 2) (uF f) (cB (bY 2) (uF f)) aAa OC (nB.enc x) (bG (nB.lay []) qG)=(A7 f) x.1.2.1 x.1.2.2.2.1 x.1.2.2.2.2.1 x.2.1 x.2.2.1:=by kernel_rfl
def OD (f:dG):nB.El→Option (UX.El⊕UY.El):=aH (fun x=>(A7 f) x.1.2.1 x.1.2.2.2.1 x.1.2.2.2.2.1 x.2.1 x.2.2.1) fuel
theorem a0G {f:dG}(hf:(rT f).Ok CT.P):∀ x y,(OD f) x=some y→CL (bY 2) OC (nB.enc x) (Sum.elim (fun _=>qG.xa) (fun _=>qG.xb) y) (Sum.elim qG.la.enc qG.lb.enc y):=
 kC (L:=nB.lay []) (E:=qG) (aY 2) (iX hf) (eZ (aY 2) (iX hf)) aDp (a0F f) rfl rfl (fun v h=>by have hh:(.exit 0:AX)=.fN v:=h;cases hh) (fun v h=>by have hh:(.ret:AX)=.fN v:=h;cases hh) fuel
abbrev nC:aF:=⟨220,[(0,.own I 0),(10,.data I),(13,.data I)],[.row 3 I,.var 317 [.data (.list bX)]],fun s=>[0,1]⟩
abbrev UZ:aF:=⟨220,[],[.row 3 I,.var 317 [.data (.list bX)]],fun s=>[0,1]⟩
abbrev U0:aF:=l0 220
def qH:=ex 2 2 UZ U0 [] []
def aAb {β:Type}:dK β:=fun _ _ _=>none
theorem aDq {β:Type}:aC (bY 2) (aAb (β:=β)) (aJ OB):=aC.is [] (by kernel_rfl) (aC.nil)
def A8 (f:dG)(eD:Ty.El I)(gV:Ty.El I)(b0:List (Ty.El I))(b1:Ty.El (.list bX)×Unit):Option (nC.El⊕(UZ.El⊕U0.El)):=bif decide (gV<IntKind.i64.wrap (eD-(1:Int))) then bif decide ((0:Int)≤IntKind.i64.wrap (gV+(1:Int))∧IntKind.i64.wrap (gV+(1:Int))<(↑b0.length:Int)) then bif decide ((0:Int)≤gV∧gV<(↑b0.length:Int)) then bif decide ((0:Int)≤gV∧gV<(↑b0.length:Int)) then bif decide ((0:Int)≤IntKind.i64.wrap (gV+(1:Int))∧IntKind.i64.wrap (gV+(1:Int))<(↑(b0.set (Int.toNat gV) (b0.getD (IntKind.i64.wrap (gV+(1:Int))).toNat (0:Int))).length:Int)) then some (Sum.inl (((),eD,IntKind.i64.wrap (gV+(1:Int)),()),(b0.set (Int.toNat gV) (b0.getD (IntKind.i64.wrap (gV+(1:Int))).toNat (0:Int))).set (IntKind.i64.wrap (gV+(1:Int))).toNat (b0.getD (Int.toNat gV) (0:Int)),(b1.1,()),())) else none else none else none else none else some (Sum.inr (Sum.inl ((),b0,(b1.1,()),())))
theorem a0H (f:dG)(x:nC.El):aV (bY 2) (uF f) (cB (bY 2) (uF f)) aAb OB (nC.enc x) (bG (nC.lay []) qH)=(A8 f) x.1.2.1 x.1.2.2.1 x.2.1 x.2.2.1:=by kernel_rfl
def OE (f:dG):nC.El→Option (UZ.El⊕U0.El):=aH (fun x=>(A8 f) x.1.2.1 x.1.2.2.1 x.2.1 x.2.2.1) fuel
theorem a0I {f:dG}(hf:(rT f).Ok CT.P):∀ x y,(OE f) x=some y→CL (bY 2) OB (nC.enc x) (Sum.elim (fun _=>qH.xa) (fun _=>qH.xb) y) (Sum.elim qH.la.enc qH.lb.enc y):=
 kC (L:=nC.lay []) (E:=qH) (aY 2) (iX hf) (eZ (aY 2) (iX hf)) aDq (a0H f) rfl rfl (fun v h=>by have hh:(.exit 2:AX)=.fN v:=h;cases hh) (fun v h=>by have hh:(.ret:AX)=.fN v:=h;cases hh) fuel
abbrev kI:aF:=⟨220,[(0,.own I 0),(2,.data I),(4,.eG 309 [1]),(14,.data I),(15,.data I)],[.row 3 I,.var 317 [.data (.list bX)]],fun s=>[0,1]⟩
abbrev KV:aF:=⟨220,[(0,.own I 0),(2,.data I),(14,.data I)],[.row 3 I,.var 317 [.data (.list bX)]],fun s=>[0,1]⟩
abbrev KW:aF:=l0 220
def mH:=ex 2 4 KV KW [] []
def U1 {β:Type}:dK β:=fun _ _ _=>none
theorem XV {β:Type}:aC (bY 2) (U1 (β:=β)) (aJ G0):=aC.is [] (by kernel_rfl) (aC.nil)
def uG (f:dG)(r2:Ty.El I)(fQ:Ty.El I)(jR:Ty.El I)(b0:List (Ty.El I))(b1:Ty.El (.list bX)×Unit):Option (kI.El⊕(KV.El⊕KW.El)):=bif decide (fQ<jR) then bif decide ((0:Int)≤r2∧r2<(↑b0.length:Int)) then bif decide ((0:Int)≤IntKind.i64.wrap ((IntKind.u64.wrap (IntKind.i64.wrap (fQ+jR))).fdiv (2:Int))∧IntKind.i64.wrap ((IntKind.u64.wrap (IntKind.i64.wrap (fQ+jR))).fdiv (2:Int))<(↑b0.length:Int)) then(ED (b0.getD (Int.toNat r2) (0:Int)) (b0.getD (IntKind.i64.wrap ((IntKind.u64.wrap (IntKind.i64.wrap (fQ+jR))).fdiv (2:Int))).toNat (0:Int)) (b1.1,())).bind fun v2=>bif !decide (v2.1.1<(0:Int)) then some (Sum.inl (((),r2,(),IntKind.i64.wrap (IntKind.i64.wrap ((IntKind.u64.wrap (IntKind.i64.wrap (fQ+jR))).fdiv (2:Int))+(1:Int)),jR,()),b0,(v2.2.1.1,()),())) else some (Sum.inl (((),r2,(),fQ,IntKind.i64.wrap ((IntKind.u64.wrap (IntKind.i64.wrap (fQ+jR))).fdiv (2:Int)),()),b0,(v2.2.1.1,()),())) else none else none else some (Sum.inr (Sum.inl (((),r2,fQ,()),b0,(b1.1,()),())))
theorem aV6 (f:dG)(x:kI.El):aV (bY 2) (uF f) (cB (bY 2) (uF f)) U1 G0 (kI.enc x) (bG (kI.lay []) mH)=(uG f) x.1.2.1 x.1.2.2.2.1 x.1.2.2.2.2.1 x.2.1 x.2.2.1:=by kernel_rfl
def G1 (f:dG):kI.El→Option (KV.El⊕KW.El):=aH (fun x=>(uG f) x.1.2.1 x.1.2.2.2.1 x.1.2.2.2.2.1 x.2.1 x.2.2.1) fuel
theorem aV7 {f:dG}(hf:(rT f).Ok CT.P):∀ x y,(G1 f) x=some y→CL (bY 2) G0 (kI.enc x) (Sum.elim (fun _=>mH.xa) (fun _=>mH.xb) y) (Sum.elim mH.la.enc mH.lb.enc y):=
 kC (L:=kI.lay []) (E:=mH) (aY 2) (iX hf) (eZ (aY 2) (iX hf)) XV (aV6 f) rfl rfl (fun v h=>by have hh:(.exit 4:AX)=.fN v:=h;cases hh) (fun v h=>by have hh:(.ret:AX)=.fN v:=h;cases hh) fuel
abbrev kJ:aF:=⟨220,[(0,.own I 0),(14,.data I),(17,.data I)],[.row 3 I,.var 317 [.data (.list bX)]],fun s=>[0,1]⟩
abbrev KX:aF:=⟨220,[],[.row 3 I,.var 317 [.data (.list bX)]],fun s=>[0,1]⟩
abbrev KY:aF:=l0 220
def mI:=ex 2 6 KX KY [] []
def U2 {β:Type}:dK β:=fun _ _ _=>none
theorem XW {β:Type}:aC (bY 2) (U2 (β:=β)) (aJ GZ):=aC.is [] (by kernel_rfl) (aC.nil)
def uH (f:dG)(fQ:Ty.El I)(sI:Ty.El I)(b0:List (Ty.El I))(b1:Ty.El (.list bX)×Unit):Option (kJ.El⊕(KX.El⊕KY.El)):=bif decide (sI>fQ) then bif decide ((0:Int)≤IntKind.i64.wrap (sI-(1:Int))∧IntKind.i64.wrap (sI-(1:Int))<(↑b0.length:Int)) then bif decide ((0:Int)≤sI∧sI<(↑b0.length:Int)) then bif decide ((0:Int)≤sI∧sI<(↑b0.length:Int)) then bif decide ((0:Int)≤IntKind.i64.wrap (sI-(1:Int))∧IntKind.i64.wrap (sI-(1:Int))<(↑(b0.set (Int.toNat sI) (b0.getD (IntKind.i64.wrap (sI-(1:Int))).toNat (0:Int))).length:Int)) then some (Sum.inl (((),fQ,IntKind.i64.wrap (sI-(1:Int)),()),(b0.set (Int.toNat sI) (b0.getD (IntKind.i64.wrap (sI-(1:Int))).toNat (0:Int))).set (IntKind.i64.wrap (sI-(1:Int))).toNat (b0.getD (Int.toNat sI) (0:Int)),(b1.1,()),())) else none else none else none else none else some (Sum.inr (Sum.inl ((),b0,(b1.1,()),())))
theorem aV8 (f:dG)(x:kJ.El):aV (bY 2) (uF f) (cB (bY 2) (uF f)) U2 GZ (kJ.enc x) (bG (kJ.lay []) mI)=(uH f) x.1.2.1 x.1.2.2.1 x.2.1 x.2.2.1:=by kernel_rfl
def G2 (f:dG):kJ.El→Option (KX.El⊕KY.El):=aH (fun x=>(uH f) x.1.2.1 x.1.2.2.1 x.2.1 x.2.2.1) fuel
theorem aV9 {f:dG}(hf:(rT f).Ok CT.P):∀ x y,(G2 f) x=some y→CL (bY 2) GZ (kJ.enc x) (Sum.elim (fun _=>mI.xa) (fun _=>mI.xb) y) (Sum.elim mI.la.enc mI.lb.enc y):=
 kC (L:=kJ.lay []) (E:=mI) (aY 2) (iX hf) (eZ (aY 2) (iX hf)) XW (aV8 f) rfl rfl (fun v h=>by have hh:(.exit 6:AX)=.fN v:=h;cases hh) (fun v h=>by have hh:(.ret:AX)=.fN v:=h;cases hh) fuel
abbrev kK:aF:=⟨220,[(0,.own I 0),(1,.data I),(2,.data I),(3,.data I),(4,.eG 309 [1]),(18,.data I),(19,.data I),(20,.data I),(21,.data I),(22,.data I)],[.row 3 I,.var 317 [.data (.list bX)]],fun s=>[0,1]⟩
abbrev A9:aF:=⟨220,[(0,.own I 0),(1,.data I),(2,.data I),(3,.data I),(4,.eG 309 [1]),(18,.data I),(19,.data I),(20,.data I)],[.row 3 I,.var 317 [.data (.list bX)]],fun s=>[0,1]⟩
abbrev BA:aF:=l0 220
def mJ:=ex 2 8 A9 BA [] []
def U3 {β:Type}:dK β:=fun _ _ _=>none
theorem XX {β:Type}:aC (bY 2) (U3 (β:=β)) (aJ GY):=aC.is [] (by kernel_rfl) (aC.nil)
def uI (f:dG)(r1:Ty.El I)(r2:Ty.El I)(r3:Ty.El I)(Y0:Ty.El I)(M4:Ty.El I)(M7:Ty.El I)(nY:Ty.El I)(r22:Ty.El I)(b0:List (Ty.El I))(b1:Ty.El (.list bX)×Unit):Option (kK.El⊕(A9.El⊕BA.El)):=bif decide (M7<nY) then bif decide ((0:Int)≤IntKind.i64.wrap (r22-IntKind.i64.wrap ((IntKind.u64.wrap (IntKind.i64.wrap (M7+nY))).fdiv (2:Int)))∧IntKind.i64.wrap (r22-IntKind.i64.wrap ((IntKind.u64.wrap (IntKind.i64.wrap (M7+nY))).fdiv (2:Int)))<(↑b0.length:Int)) then bif decide ((0:Int)≤IntKind.i64.wrap ((IntKind.u64.wrap (IntKind.i64.wrap (M7+nY))).fdiv (2:Int))∧IntKind.i64.wrap ((IntKind.u64.wrap (IntKind.i64.wrap (M7+nY))).fdiv (2:Int))<(↑b0.length:Int)) then(ED (b0.getD (IntKind.i64.wrap (r22-IntKind.i64.wrap ((IntKind.u64.wrap (IntKind.i64.wrap (M7+nY))).fdiv (2:Int)))).toNat (0:Int)) (b0.getD (IntKind.i64.wrap ((IntKind.u64.wrap (IntKind.i64.wrap (M7+nY))).fdiv (2:Int))).toNat (0:Int)) (b1.1,())).bind fun v2=>bif !decide (v2.1.1<(0:Int)) then some (Sum.inl (((),r1,r2,r3,(),Y0,M4,IntKind.i64.wrap (IntKind.i64.wrap ((IntKind.u64.wrap (IntKind.i64.wrap (M7+nY))).fdiv (2:Int))+(1:Int)),nY,r22,()),b0,(v2.2.1.1,()),())) else some (Sum.inl (((),r1,r2,r3,(),Y0,M4,M7,IntKind.i64.wrap ((IntKind.u64.wrap (IntKind.i64.wrap (M7+nY))).fdiv (2:Int)),r22,()),b0,(v2.2.1.1,()),())) else none else none else some (Sum.inr (Sum.inl (((),r1,r2,r3,(),Y0,M4,M7,()),b0,(b1.1,()),())))
theorem aWa (f:dG)(x:kK.El):aV (bY 2) (uF f) (cB (bY 2) (uF f)) U3 GY (kK.enc x) (bG (kK.lay []) mJ)=(uI f) x.1.2.1 x.1.2.2.1 x.1.2.2.2.1 x.1.2.2.2.2.2.1 x.1.2.2.2.2.2.2.1 x.1.2.2.2.2.2.2.2.1 x.1.2.2.2.2.2.2.2.2.1 x.1.2.2.2.2.2.2.2.2.2.1 x.2.1 x.2.2.1:=by kernel_rfl
def yV (f:dG):kK.El→Option (A9.El⊕BA.El):=aH (fun x=>(uI f) x.1.2.1 x.1.2.2.1 x.1.2.2.2.1 x.1.2.2.2.2.2.1 x.1.2.2.2.2.2.2.1 x.1.2.2.2.2.2.2.2.1 x.1.2.2.2.2.2.2.2.2.1 x.1.2.2.2.2.2.2.2.2.2.1 x.2.1 x.2.2.1) fuel
theorem aWb {f:dG}(hf:(rT f).Ok CT.P):∀ x y,(yV f) x=some y→CL (bY 2) GY (kK.enc x) (Sum.elim (fun _=>mJ.xa) (fun _=>mJ.xb) y) (Sum.elim mJ.la.enc mJ.lb.enc y):=
 kC (L:=kK.lay []) (E:=mJ) (aY 2) (iX hf) (eZ (aY 2) (iX hf)) XX (aWa f) rfl rfl (fun v h=>by have hh:(.exit 8:AX)=.fN v:=h;cases hh) (fun v h=>by have hh:(.ret:AX)=.fN v:=h;cases hh) fuel
def aWc (f:dG){β:Type}:dK β:=fun k s K=>if Nat.beq k 3 then bO (nB.lay []) qG (OD f) s K else if Nat.beq k 9 then bO (nC.lay []) qH (OE f) s K else if Nat.beq k 15 then bO (kI.lay []) mH (G1 f) s K else if Nat.beq k 21 then bO (kJ.lay []) mI (G2 f) s K else if Nat.beq k 33 then bO (kK.lay []) mJ (yV f) s K else none
theorem aQq {f:dG}(hf:(rT f).Ok CT.P){β:Type}:aC (bY 2) (aWc f (β:=β)) (aJ GX):=by
 have h:aJ GX=[(3,OC),(9,OB),(15,G0),(21,GZ),(33,GY)]:=by kernel_rfl
 rw [h];exact aC.cons (fun s K z h=>pH (a0G hf) h) (aC.cons (fun s K z h=>pH (a0I hf) h) (aC.cons (fun s K z h=>pH (aV7 hf) h) (aC.cons (fun s K z h=>pH (aV9 hf) h) (aC.cons (fun s K z h=>pH (aWb hf) h) (aC.nil)))))
abbrev U4 (a b:Int):Int:=Go.IntKind.i64.wrap ((Go.IntKind.u64.wrap (Go.IntKind.i64.wrap (a+b))).fdiv (2:Int))
def aWd (f:dG)(mid en b:Int)(l:List Int)(bs:Ty.El (.list bX)):Option rH.El:=
 bif Decidable.decide (mid<en) then bif Decidable.decide (en<b) then(f mid en b l (bs,())).bind fun v=>Option.some ((),v.snd.fst,(v.snd.snd.fst.fst,()),()) else Option.some ((),l,(bs,()),()) else Option.some ((),l,(bs,()),())
def aWe (f:dG)(a st mid en b:Int)(l:List Int)(bs:Ty.El (.list bX)):Option rH.El:=
 bif Decidable.decide (a<st) then bif Decidable.decide (st<mid) then(f a st mid l (bs,())).bind fun v=>aWd f mid en b v.snd.fst v.snd.snd.fst.fst else aWd f mid en b l bs else aWd f mid en b l bs
def a7T (f:dG)(a m b mid n st:Int)(l:List Int)(bs:Ty.El (.list bX)):Option rH.El:=
 bif Decidable.decide (st<m) then
  bif Decidable.decide (m<Go.IntKind.i64.wrap (n-st)) then(aG9 st m (Go.IntKind.i64.wrap (n-st)) l (bs,())).bind fun v=>aWe f a st mid (Go.IntKind.i64.wrap (n-st)) b v.snd.fst v.snd.snd.fst.fst
  else aWe f a st mid (Go.IntKind.i64.wrap (n-st)) b l bs
 else aWe f a st mid (Go.IntKind.i64.wrap (n-st)) b l bs
def bC3 (f:dG)(v:A9.El⊕BA.El):Option rH.El:=
 Sum.elim (fun w=>a7T f w.1.2.1 w.1.2.2.1 w.1.2.2.2.1 w.1.2.2.2.2.2.1 w.1.2.2.2.2.2.2.1 w.1.2.2.2.2.2.2.2.1 w.2.1 w.2.2.1.1) (fun _=>Option.none) v
def aDr (f:dG)(a1:Ty.El I)(a2:Ty.El I)(a3:Ty.El I)(b0:List (Ty.El I))(b1:Ty.El (.list bX)×Unit):Option rH.El:=bif IntKind.i64.wrap (a2-a1)==(1:Int) then((OD f) (((),a1,(),a2,a3,()),b0,(b1.1,()),())).bind fun v1=>Sum.elim (fun v2=>((OE f) (((),v2.1.2.2.1,v2.1.2.1,()),v2.2.1,(v2.2.2.1.1,()),())).bind fun v3=>Sum.elim (fun v4=>some ((),v4.2.1,(v4.2.2.1.1,()),())) (fun v5=>none) v3) (fun v6=>none) v1 else bif IntKind.i64.wrap (a3-a2)==(1:Int) then((G1 f) (((),a2,(),a1,a2,()),b0,(b1.1,()),())).bind fun v7=>Sum.elim (fun v8=>((G2 f) (((),v8.1.2.2.1,v8.1.2.1,()),v8.2.1,(v8.2.2.1.1,()),())).bind fun v9=>Sum.elim (fun v10=>some ((),v10.2.1,(v10.2.2.1.1,()),())) (fun v11=>none) v9) (fun v12=>none) v7 else bif decide (a2>U4 a1 a3) then((yV f) (((),a1,a2,a3,(),U4 a1 a3,IntKind.i64.wrap (U4 a1 a3+a2),IntKind.i64.wrap (IntKind.i64.wrap (U4 a1 a3+a2)-a3),U4 a1 a3,IntKind.i64.wrap (IntKind.i64.wrap (U4 a1 a3+a2)-(1:Int)),()),b0,(b1.1,()),())).bind fun v=>bC3 f v else((yV f) (((),a1,a2,a3,(),U4 a1 a3,IntKind.i64.wrap (U4 a1 a3+a2),a1,a2,IntKind.i64.wrap (IntKind.i64.wrap (U4 a1 a3+a2)-(1:Int)),()),b0,(b1.1,()),())).bind fun v=>bC3 f v
theorem bC4 (f:dG)(x:aKv.El):kE (bY 2) (uF f) aKv rH [] (cB (bY 2) (uF f)) (aWc f) Tryz.f332 GX x=aDr f x.1.2.1 x.1.2.2.1 x.1.2.2.2.1 x.2.1 x.2.2.1:=by kernel_rfl
def j5:Nat→dG
 | 0,_,_,_,_,_=>none
 | n+1,a1,a2,a3,a4,a5=>aDr (j5 n) a1 a2 a3 a4 a5
def aHa:dG:=j5 60
theorem aKw:∀ n,(rT (j5 n)).Ok CT.P
 | 0=>aW.mZ (fun x y h=>by cases h)
 | n+1=>aW.lI (C:=(bY 2)) (steps:=[.bU 0 3 I,.dJ 0 3 I]) (cN:=[]) (aY 2) (iX (aKw n)) a7S a7R (aQq (aKw n)) (bC4 (j5 n))
def a3l:aW:=rT aHa
theorem bC5:a3l.Ok CT.P:=aKw 60
def aNv:Code:=Tryz.f317.body.getD .skip
abbrev aKx:aF:=⟨3,[(0,.own I 0),(1,.data I),(2,.eG 309 [1])],[.row 3 I,.var 317 [.data (.list bX)]],fun s=>[aG s 0,sH s 2]⟩
abbrev aDs:aF:=⟨0,[],[.row 3 I,.var 317 [.data (.list bX)]],fun _=>[0,1]⟩
def G3:Tb:=cC iL iM [aVT,a3l]
theorem G4:G3.Ok CT.P:=aQ (⟨a7H,bC5,trivial⟩)
def OG:Code:=aX aNv 7
def aNw:Code:=aX aNv 2
def aNx:Code:=aX OG 9
abbrev uJ:aF:=⟨63,[(0,.own I 0),(1,.data I),(2,.eG 309 [1]),(6,.data I),(7,.data I),(8,.data I)],[.row 3 I,.var 317 [.data (.list bX)]],fun s=>[0,1]⟩
abbrev U5:aF:=⟨63,[(0,.own I 0),(1,.data I),(2,.eG 309 [1]),(6,.data I),(7,.data I)],[.row 3 I,.var 317 [.data (.list bX)]],fun s=>[0,1]⟩
abbrev U6:aF:=l0 63
def aHb:=ex 2 4 U5 U6 [] []
def BB (r1:Ty.El I)(r6:Ty.El I)(r7:Ty.El I)(r8:Ty.El I)(b0:List (Ty.El I))(b1:Ty.El (.list bX)×Unit):Option (uJ.El⊕(U5.El⊕U6.El)):=bif decide (r8≤r1) then(aHa r7 (IntKind.i64.wrap (r7+r6)) r8 b0 (b1.1,())).bind fun v2=>some (Sum.inl (((),r1,(),r6,r8,IntKind.i64.wrap (r8+IntKind.i64.wrap ((2:Int)*r6)),()),v2.2.1,(v2.2.2.1.1,()),())) else some (Sum.inr (Sum.inl (((),r1,(),r6,r7,()),b0,(b1.1,()),())))
theorem a0J (x:uJ.El):aV (bY 2) G3 (cB (bY 2) G3) iI aNx (uJ.enc x) (bG (uJ.lay []) aHb)=BB x.1.2.1 x.1.2.2.2.1 x.1.2.2.2.2.1 x.1.2.2.2.2.2.1 x.2.1 x.2.2.1:=by kernel_rfl
def aDt:uJ.El→Option (U5.El⊕U6.El):=aH (fun x=>BB x.1.2.1 x.1.2.2.2.1 x.1.2.2.2.2.1 x.1.2.2.2.2.2.1 x.2.1 x.2.2.1) fuel
abbrev uK:aF:=⟨63,[(0,.own I 0),(1,.data I),(2,.eG 309 [1]),(6,.data I),(7,.data I),(8,.data I)],[.row 3 I,.var 317 [.data (.list bX)]],fun s=>[0,1]⟩
abbrev U7:aF:=⟨63,[(0,.own I 0),(1,.data I),(2,.eG 309 [1]),(6,.data I),(7,.data I)],[.row 3 I,.var 317 [.data (.list bX)]],fun s=>[0,1]⟩
abbrev U8:aF:=l0 63
def aHc:=ex 2 0 U7 U8 [] []
def BC (r1:Ty.El I)(r6:Ty.El I)(r7:Ty.El I)(r8:Ty.El I)(b0:List (Ty.El I))(b1:Ty.El (.list bX)×Unit):Option (uK.El⊕(U7.El⊕U8.El)):=bif decide (r8≤r1) then(KT r7 r8 b0 (b1.1,())).bind fun v2=>some (Sum.inl (((),r1,(),r6,r8,IntKind.i64.wrap (r8+r6),()),v2.2.1,(v2.2.2.1.1,()),())) else some (Sum.inr (Sum.inl (((),r1,(),r6,r7,()),b0,(b1.1,()),())))
theorem a0K (x:uK.El):aV (bY 2) G3 (cB (bY 2) G3) iI aNw (uK.enc x) (bG (uK.lay []) aHc)=BC x.1.2.1 x.1.2.2.2.1 x.1.2.2.2.2.1 x.1.2.2.2.2.2.1 x.2.1 x.2.2.1:=by kernel_rfl
def aDu:uK.El→Option (U7.El⊕U8.El):=aH (fun x=>BC x.1.2.1 x.1.2.2.2.1 x.1.2.2.2.2.1 x.1.2.2.2.2.2.1 x.2.1 x.2.2.1) fuel
abbrev uL:aF:=⟨63,[(0,.own I 0),(1,.data I),(2,.eG 309 [1]),(6,.data I)],[.row 3 I,.var 317 [.data (.list bX)]],fun s=>[0,1]⟩
abbrev U9:aF:=⟨63,[],[.row 3 I,.var 317 [.data (.list bX)]],fun s=>[0,1]⟩
abbrev VA:aF:=l0 63
def aHd:=ex 2 2 U9 VA [] []
def aAc {β:Type}:dK β:=fun k s K=>if Nat.beq k 9 then bO (uJ.lay []) aHb aDt s K else none
theorem aDv {β:Type}:aC (bY 2) (aAc (β:=β)) (aJ OG):=aC.is [(9,aNx)] (by kernel_rfl) (aC.cons (iW (aY 2) G4 (bC (by kernel_rfl)) a0J rfl rfl) (aC.nil))
def BD (r1:Ty.El I)(r6:Ty.El I)(b0:List (Ty.El I))(b1:Ty.El (.list bX)×Unit):Option (uL.El⊕(U9.El⊕VA.El)):=bif decide (r6<r1) then(aDt (((),r1,(),r6,(0:Int),IntKind.i64.wrap ((2:Int)*r6),()),b0,(b1.1,()),())).bind fun v1=>Sum.elim (fun v2=>bif decide (IntKind.i64.wrap (v2.1.2.2.2.2.1+v2.1.2.2.2.1)<v2.1.2.1) then(aHa v2.1.2.2.2.2.1 (IntKind.i64.wrap (v2.1.2.2.2.2.1+v2.1.2.2.2.1)) v2.1.2.1 v2.2.1 (v2.2.2.1.1,())).bind fun v4=>some (Sum.inl (((),v2.1.2.1,(),IntKind.i64.wrap (v2.1.2.2.2.1*(2:Int)),()),v4.2.1,(v4.2.2.1.1,()),())) else some (Sum.inl (((),v2.1.2.1,(),IntKind.i64.wrap (v2.1.2.2.2.1*(2:Int)),()),v2.2.1,(v2.2.2.1.1,()),()))) (fun v9=>none) v1 else some (Sum.inr (Sum.inl ((),b0,(b1.1,()),())))
theorem a0L (x:uL.El):aV (bY 2) G3 (cB (bY 2) G3) aAc OG (uL.enc x) (bG (uL.lay []) aHd)=BD x.1.2.1 x.1.2.2.2.1 x.2.1 x.2.2.1:=by kernel_rfl
def aDw:uL.El→Option (U9.El⊕VA.El):=aH (fun x=>BD x.1.2.1 x.1.2.2.2.1 x.2.1 x.2.2.1) fuel
def aWf {β:Type}:dK β:=fun k s K=>if Nat.beq k 2 then bO (uK.lay []) aHc aDu s K else if Nat.beq k 7 then bO (uL.lay []) aHd aDw s K else none
theorem aQr {β:Type}:aC (bY 2) (aWf (β:=β)) (aJ aNv):=aC.is [(2,aNw),(7,OG)] (by kernel_rfl) (aC.cons (iW (aY 2) G4 (bC (by kernel_rfl)) a0K rfl rfl) (aC.cons (iW (aY 2) G4 aDv a0L rfl rfl) (aC.nil)))
def aNy (a1:Ty.El I)(b0:List (Ty.El I))(b1:Ty.El (.list bX)×Unit):Option aDs.El:=(aDu (((),a1,(),(20:Int),(0:Int),(20:Int),()),b0,(b1.1,()),())).bind fun v1=>Sum.elim (fun v2=>(KT v2.1.2.2.2.2.1 v2.1.2.1 v2.2.1 (v2.2.2.1.1,())).bind fun v4=>(aDw (((),v2.1.2.1,(),v2.1.2.2.2.1,()),v4.2.1,(v4.2.2.1.1,()),())).bind fun v9=>Sum.elim (fun v10=>some ((),v10.2.1,(v10.2.2.1.1,()),())) (fun v11=>none) v9) (fun v12=>none) v1
theorem bC6 (x:aKx.El):kE (bY 2) G3 aKx aDs [] (cB (bY 2) G3) aWf Tryz.f317 aNv x=aNy x.1.2.1 x.2.1 x.2.2.1:=by kernel_rfl
def bC7:aW:=.dV 317 [309] ⟨2,[.bU 0 3 I,.dJ 0 3 I],aKx,aDs,fun x=>aNy x.1.2.1 x.2.1 x.2.2.1⟩
theorem bC8:bC7.Ok CT.P:=aW.lI (C:=(bY 2)) (steps:=[.bU 0 3 I,.dJ 0 3 I]) (cN:=[]) (aY 2) G4 (by kernel_rfl) (by kernel_rfl) aQr bC6
abbrev a0M:aF:=⟨2,[(0,.own I 0),(1,.eG 309 [1])],[.row 3 I,.var 317 [.data (.list bX)]],fun s=>[aG s 0,sH s 1]⟩
abbrev aHe:aF:=⟨0,[],[.row 3 I,.var 317 [.data (.list bX)]],fun _=>[0,1]⟩
def aDx (b0:List (Ty.El I))(b1:Ty.El (.list bX)×Unit):Option aHe.El:=(aNy (↑b0.length:Int) b0 (b1.1,())).bind fun v2=>some ((),v2.2.1,(v2.2.2.1.1,()),())
def aWg:aW:=.dV 308 [309] ⟨2,[.bU 0 3 I,.dJ 0 3 I],a0M,aHe,fun x=>aDx x.2.1 x.2.2.1⟩
theorem a7U:aWg.Ok CT.P:=BV (C:=(bY 2)) (aY 2) (B8 bC8) [] Tryz.f308 (by kernel_rfl) fun x=>by kernel_rfl
def aKy:Code:=Tryz.f294.body.getD .skip
def VB:Tb:=cC iL iM [aWg]
theorem aAd:VB.Ok CT.P:=aQ (⟨a7U,trivial⟩)
def aHf:Code:=aX aKy 3
abbrev oW:aF:=⟨19,[(1,.ptr 0),(3,.own I 1),(6,.data I),(7,.data I)],[.var 317 [.data (.list bX)],.row 3 I],fun s=>[aG s 1,aG s 3]⟩
abbrev KZ:aF:=⟨19,[(1,.ptr 0),(3,.own I 1)],[.var 317 [.data (.list bX)],.row 3 I],fun s=>[aG s 1,aG s 3]⟩
abbrev K0:aF:=l0 19
def aAe:=ex 0 0 KZ K0 [.bU 3 3 I] []
def uM (r6:Ty.El I)(r7:Ty.El I)(b0:Ty.El (.list bX)×Unit)(b1:List (Ty.El I)):Option (oW.El⊕(KZ.El⊕K0.El)):=bif decide (r7<r6) then bif((b1.length+[r7].length)*(8:Nat)).ble (70368744177664:Nat) then some (Sum.inl (((),(),r6,IntKind.i64.wrap (r7+(1:Int)),()),(b0.1,()),b1++[r7],())) else none else some (Sum.inr (Sum.inl (((),(),()),(b0.1,()),b1,())))
theorem aWh (x:oW.El):aV CT VB (cB CT VB) iI aHf (oW.enc x) (bG (oW.lay [.bU 3 3 I]) aAe)=uM x.1.2.2.1 x.1.2.2.2.1 x.2.1 x.2.2.1:=by kernel_rfl
def VC:oW.El→Option (KZ.El⊕K0.El):=aH (fun x=>uM x.1.2.2.1 x.1.2.2.2.1 x.2.1 x.2.2.1) fuel
def aNz {β:Type}:dK β:=fun k s K=>if Nat.beq k 3 then bO (oW.lay [.bU 3 3 I]) aAe VC s K else none
theorem aKz {β:Type}:aC CT (aNz (β:=β)) (aJ aKy):=aC.is [(3,aHf)] (by kernel_rfl) (aC.cons (iW aL aAd (bC (by kernel_rfl)) aWh rfl rfl) (aC.nil))
def VD (a1:Ty.El (.list bX)):Option (aS [.list I]):=(VC (((),(),(↑(List.length a1):Int),(0:Int),()),(a1,()),[],())).bind fun v1=>Sum.elim (fun v2=>(aDx v2.2.2.1 (v2.2.1.1,())).bind fun v4=>some (v4.2.1,())) (fun v7=>none) v1
theorem a7V (x:Ps [.ty (.list bX)]):dA CT VB [.list I] (cB CT VB) aNz Tryz.f294 aKy (bQ [.ty (.list bX)] x)=VD x.1:=by kernel_rfl
def aWi:aW:=.fn 294 [] ⟨[.ty (.list bX)],[.list I],fun x=>VD x.1,false⟩
theorem a7W:aWi.Ok CT.P:=aW.ofFn aL aAd (by kernel_rfl) (by kernel_rfl) aKz a7V
def aKA:Code:=Tryz.f279.body.getD .skip
def EG:Tb:=cC iL iM [aWi,aVG,aVY]
theorem K1:EG.Ok CT.P:=aQ (⟨a7W,a63,a7K,trivial⟩)
def G5:Code:=aX aKA 4
def aHg:Code:=aX G5 7
abbrev oX:aF:=⟨51,[(0,.data (.list bX)),(3,.own bF 0),(4,.data (.list I)),(6,.data I),(11,.data (.list I)),(12,.data I),(13,.data I),(21,.data (.list I)),(22,.data I),(23,.data I)],[.row 179 bF],fun s=>[aG s 3]⟩
abbrev K2:aF:=⟨51,[(0,.data (.list bX)),(3,.own bF 0),(4,.data (.list I)),(11,.data (.list I)),(12,.data I),(13,.data I)],[.row 179 bF],fun s=>[aG s 3]⟩
abbrev K3:aF:=l0 51
def aAf:=ex 0 2 K2 K3 [.bU 3 179 bF] []
def uN (r0:Ty.El (.list bX))(r4:Ty.El (.list I))(r6:Ty.El I)(eM:Ty.El (.list I))(lJ:Ty.El I)(gV:Ty.El I)(nY:Ty.El (.list I))(r22:Ty.El I)(W7:Ty.El I)(b0:List (Ty.El bF)):Option (oX.El⊕(K2.El⊕K3.El)):=bif decide (W7<r22) then bif decide ((0:Int)≤W7∧W7<(↑(List.length nY):Int)) then bif decide ((0:Int)≤r6∧r6<(↑(List.length r0):Int)) then bif decide ((0:Int)≤List.getD nY (Int.toNat W7) (0:Int)∧List.getD nY (Int.toNat W7) (0:Int)<(↑(List.length r0):Int)) then(aC9 (List.getD r0 (Int.toNat r6) bX.dflt) (List.getD r0 (Int.toNat (List.getD nY (Int.toNat W7) (0:Int))) bX.dflt)).bind fun v2=>bif v2.1 then bif((b0.length+[(if List.getD nY (Int.toNat W7) (0:Int)<r6 then List.getD nY (Int.toNat W7) (0:Int) else r6,if List.getD nY (Int.toNat W7) (0:Int)>r6 then List.getD nY (Int.toNat W7) (0:Int) else r6)].length)*(16:Nat)).ble (70368744177664:Nat) then some (Sum.inl ((r0,(),r4,r6,eM,lJ,gV,nY,r22,IntKind.i64.wrap (W7+(1:Int)),()),b0++[(if List.getD nY (Int.toNat W7) (0:Int)<r6 then List.getD nY (Int.toNat W7) (0:Int) else r6,if List.getD nY (Int.toNat W7) (0:Int)>r6 then List.getD nY (Int.toNat W7) (0:Int) else r6)],())) else none else some (Sum.inl ((r0,(),r4,r6,eM,lJ,gV,nY,r22,IntKind.i64.wrap (W7+(1:Int)),()),b0,())) else none else none else none else some (Sum.inr (Sum.inl ((r0,(),r4,eM,lJ,gV,()),b0,())))
theorem aWj (x:oX.El):aV CT EG (cB CT EG) iI aHg (oX.enc x) (bG (oX.lay [.bU 3 179 bF]) aAf)=uN x.1.1 x.1.2.2.1 x.1.2.2.2.1 x.1.2.2.2.2.1 x.1.2.2.2.2.2.1 x.1.2.2.2.2.2.2.1 x.1.2.2.2.2.2.2.2.1 x.1.2.2.2.2.2.2.2.2.1 x.1.2.2.2.2.2.2.2.2.2.1 x.2.1:=by kernel_rfl
def VE:oX.El→Option (K2.El⊕K3.El):=aH (fun x=>uN x.1.1 x.1.2.2.1 x.1.2.2.2.1 x.1.2.2.2.2.1 x.1.2.2.2.2.2.1 x.1.2.2.2.2.2.2.1 x.1.2.2.2.2.2.2.2.1 x.1.2.2.2.2.2.2.2.2.1 x.1.2.2.2.2.2.2.2.2.2.1 x.2.1) fuel
abbrev oY:aF:=⟨51,[(0,.data (.list bX)),(3,.own bF 0),(4,.data (.list I)),(11,.data (.list I)),(12,.data I),(13,.data I)],[.row 179 bF],fun s=>[aG s 3]⟩
abbrev K4:aF:=⟨51,[(3,.own bF 0)],[.row 179 bF],fun s=>[aG s 3]⟩
abbrev K5:aF:=l0 51
def aAg:=ex 0 0 K4 K5 [.bU 3 179 bF] []
def VF {β:Type}:dK β:=fun k s K=>if Nat.beq k 7 then bO (oX.lay [.bU 3 179 bF]) aAf VE s K else none
theorem XY {β:Type}:aC CT (VF (β:=β)) (aJ G5):=aC.is [(7,aHg)] (by kernel_rfl) (aC.cons (iW aL K1 (bC (by kernel_rfl)) aWj rfl rfl) (aC.nil))
def uO (r0:Ty.El (.list bX))(r4:Ty.El (.list I))(eM:Ty.El (.list I))(lJ:Ty.El I)(gV:Ty.El I)(b0:List (Ty.El bF)):Option (oY.El⊕(K4.El⊕K5.El)):=bif decide (gV<lJ) then bif decide ((0:Int)≤gV∧gV<(↑(List.length eM):Int)) then bif decide ((0:Int)≤IntKind.i64.wrap (gV+(1:Int))∧IntKind.i64.wrap (gV+(1:Int))≤(↑(List.length r4):Int)) then(VE ((r0,(),r4,List.getD eM (Int.toNat gV) (0:Int),eM,lJ,gV,List.take (List.length r4-(IntKind.i64.wrap (gV+(1:Int))).toNat) (List.drop (IntKind.i64.wrap (gV+(1:Int))).toNat r4),(↑(List.take (List.length r4-(IntKind.i64.wrap (gV+(1:Int))).toNat) (List.drop (IntKind.i64.wrap (gV+(1:Int))).toNat r4)).length:Int),(0:Int),()),b0,())).bind fun v1=>Sum.elim (fun v2=>some (Sum.inl ((v2.1.1,(),v2.1.2.2.1,v2.1.2.2.2.1,v2.1.2.2.2.2.1,IntKind.i64.wrap (v2.1.2.2.2.2.2.1+(1:Int)),()),v2.2.1,()))) (fun v3=>some (Sum.inr (Sum.inr ((),())))) v1 else none else none else some (Sum.inr (Sum.inl (((),()),b0,())))
theorem aWk (x:oY.El):aV CT EG (cB CT EG) VF G5 (oY.enc x) (bG (oY.lay [.bU 3 179 bF]) aAg)=uO x.1.1 x.1.2.2.1 x.1.2.2.2.1 x.1.2.2.2.2.1 x.1.2.2.2.2.2.1 x.2.1:=by kernel_rfl
def VG:oY.El→Option (K4.El⊕K5.El):=aH (fun x=>uO x.1.1 x.1.2.2.1 x.1.2.2.2.1 x.1.2.2.2.2.1 x.1.2.2.2.2.2.1 x.2.1) fuel
def aNA {β:Type}:dK β:=fun k s K=>if Nat.beq k 4 then bO (oY.lay [.bU 3 179 bF]) aAg VG s K else none
theorem aKB {β:Type}:aC CT (aNA (β:=β)) (aJ aKA):=aC.is [(4,G5)] (by kernel_rfl) (aC.cons (iW aL K1 XY aWk rfl rfl) (aC.nil))
def yW (a1:Ty.El (.list bX)):Option (aS [.list bF]):=(VD a1).bind fun v2=>(VG ((a1,(),v2.1,v2.1,(↑(List.length v2.1):Int),(0:Int),()),[],())).bind fun v3=>Sum.elim (fun v4=>(EF v4.2.1).bind fun v6=>some (v6.2.1,())) (fun v9=>none) v3
theorem a7X (x:Ps [.ty (.list bX)]):dA CT EG [.list bF] (cB CT EG) aNA Tryz.f279 aKA (bQ [.ty (.list bX)] x)=yW x.1:=by kernel_rfl
def aWl:aW:=.fn 279 [] ⟨[.ty (.list bX)],[.list bF],fun x=>yW x.1,false⟩
theorem a7Y:aWl.Ok CT.P:=aW.ofFn aL K1 (by kernel_rfl) (by kernel_rfl) aKB a7X
end Go.DI.S
end
