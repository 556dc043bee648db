import Derived.Test.YtbjldjihpekhaaaGreatSa
import Derived.Test.YtbjldjihpekhaaaGreatDid
import Derived.Test.YtbjldjihpekhaaaGreatDie
/- The functions of scenes, each told by a function on data; slices.Clone. No conditions. -/
set_option linter.unusedVariables false
set_option maxRecDepth 100000
set_option maxHeartbeats 0
noncomputable section
namespace Go.DI.S
open Go.Proofs
def jZ:Code→Code
 | .seq _ (.seq _ r)=>r
 | c=>c
def gJ:Code→Nat×Array Oper
 | .seq (.region i o _) _=>(i,o)
 | _=>(0,#[])
def kF:Code→Nat×Array Oper
 | .seq _ (.seq (.seq (.region i o _) _) _)=>(i,o)
 | _=>(0,#[])
def pQ:Code→Nat×Array Oper
 | .seq _ (.seq (.seq _ (.cond _ (.seq (.region i o _) _) _)) _)=>(i,o)
 | _=>(0,#[])
def T_0:Tb:=cC iL iM []
theorem aI5:T_0.Ok CT.P:=aQ trivial
def DJ:Code:=Tryz.f94.body.getD .skip
theorem a2c:Tryz.f94.body=some DJ:=by kernel_rfl
theorem a2d:CT.P.funcs[94]?=some Tryz.f94:=by kernel_rfl
def bAM:oH CT Tryz.f94 DJ 23 where
 i0:=(gJ DJ).1
 i1:=(kF DJ).1
 i2:=(pQ DJ).1
 aBf:=(gJ DJ).2
 XF:=(kF DJ).2
 XG:=(pQ DJ).2
 rest:=jZ DJ
 code:=by kernel_rfl
 s0:=by kernel_rfl
 s1:=by kernel_rfl
 s2:=by kernel_rfl
 o00:=((gJ DJ).2[0]?).getD default
 o10:=((kF DJ).2[0]?).getD default
 o11:=((kF DJ).2[1]?).getD default
 o20:=((pQ DJ).2[0]?).getD default
 h00:=by kernel_rfl
 h10:=by kernel_rfl
 h11:=by kernel_rfl
 h20:=by kernel_rfl
 g00:=⟨by kernel_rfl,by kernel_rfl,by kernel_rfl⟩
 g10:=⟨by kernel_rfl,by kernel_rfl,by kernel_rfl⟩
 g11:=⟨by kernel_rfl,by kernel_rfl,by kernel_rfl⟩
 g20:=⟨by kernel_rfl,by kernel_rfl,by kernel_rfl⟩
 nt:=by kernel_rfl
 res:=by kernel_rfl
def aPa (l:List Int):Option (List Int):=bif Nat.ble (l.length*8) 70368744177664 then some l else none
theorem bAN (l:List (Ty.El I)):aV CT T_0 (cB CT T_0) (fun _ _ _=>none) (jZ DJ) ⟨[.nF I l,.any,.eY,.any,.bool false,.any,.any,.any],[]⟩ (P8 CT 3 I [.tmp 2])=aPa l:=by kernel_rfl
def QX (a1:Ty.El (.list I)):Option (aS [.list I]):=(aPa a1).map fun l=>(l,())
def aPb:aW:=.fn 94 [] ⟨[.ty (.list I)],[.list I],fun x=>QX x.1,false⟩
theorem aSx:CT.P.underlying 23=some (.slice 3):=by kernel_rfl
theorem a2e:aJ (jZ DJ)=[]:=by kernel_rfl
theorem aPc:aPb.Ok CT.P:=by
 intro x y h;have h:QX x.1=some y:=h;unfold QX at h;obtain⟨l,hl,rfl⟩:=aPV.1 h;have h1:=oI (e:=3) (bt:=3) aL aI5 a2d a2c bAM aSx a2e (l:=x.1) (y:=l) ((bAN x.1).trans hl) (fun h0=>by
  rw [h0] at hl;exact(Option.some.inj hl).symm)
 exact h1.YR
def DK:Code:=Tryz.f190.body.getD .skip
theorem bAO:Tryz.f190.body=some DK:=by kernel_rfl
theorem bAP:CT.P.funcs[190]?=some Tryz.f190:=by kernel_rfl
def bF7:oH CT Tryz.f190 DK 49 where
 i0:=(gJ DK).1
 i1:=(kF DK).1
 i2:=(pQ DK).1
 aBf:=(gJ DK).2
 XF:=(kF DK).2
 XG:=(pQ DK).2
 rest:=jZ DK
 code:=by kernel_rfl
 s0:=by kernel_rfl
 s1:=by kernel_rfl
 s2:=by kernel_rfl
 o00:=((gJ DK).2[0]?).getD default
 o10:=((kF DK).2[0]?).getD default
 o11:=((kF DK).2[1]?).getD default
 o20:=((pQ DK).2[0]?).getD default
 h00:=by kernel_rfl
 h10:=by kernel_rfl
 h11:=by kernel_rfl
 h20:=by kernel_rfl
 g00:=⟨by kernel_rfl,by kernel_rfl,by kernel_rfl⟩
 g10:=⟨by kernel_rfl,by kernel_rfl,by kernel_rfl⟩
 g11:=⟨by kernel_rfl,by kernel_rfl,by kernel_rfl⟩
 g20:=⟨by kernel_rfl,by kernel_rfl,by kernel_rfl⟩
 nt:=by kernel_rfl
 res:=by kernel_rfl
def QY (a1:Ty.El (.list aA)):Option (List (Ty.El aA)):=bif Nat.ble (List.length a1*128) 70368744177664 then some a1 else none
theorem bF8 (l:List (Ty.El aA)):aV CT T_0 (cB CT T_0) (fun _ _ _=>none) (jZ DK) ⟨[.nF aA l,.any,.eY,.any,.bool false,.any,.any,.any],[]⟩ (P8 CT 68 aA [.tmp 2])=QY l:=by kernel_rfl
def aYQ:aW:=.own 190 [] ⟨[.ty (.list aA)],68,aA,fun x=>QY x.1⟩
theorem a4D:CT.P.underlying 49=some (.slice 68):=by kernel_rfl
theorem bAQ:aJ (jZ DK)=[]:=by kernel_rfl
theorem a4E:aYQ.Ok CT.P:=by
 intro x y h;have h:QY x.1=some y:=h;exact oI (e:=68) (bt:=68) aL aI5 bAP bAO bF7 a4D bAQ (l:=x.1) (y:=y) ((bF8 x.1).trans h) (fun h0=>by
  rw [h0] at h;exact(Option.some.inj h).symm)
def a4F:Code:=Tryz.f219.body.getD .skip
def aSy:Tb:=cC iL iM [aYQ,aPb]
theorem aLS:aSy.Ok CT.P:=aQ (⟨a4E,aPc,trivial⟩)
def aSz:Code:=aX a4F 3
abbrev zX:aF:=⟨23,[(0,.own aA 0),(7,.own aA 0),(8,.data I),(9,.data I)],[.row 68 aA],fun s=>[aG s 0]⟩
abbrev aBN:aF:=⟨23,[(0,.own aA 0)],[.row 68 aA],fun s=>[aG s 0]⟩
abbrev aBO:aF:=l0 23
def aLT:=ex 0 0 aBN aBO [] []
def QZ (r8:Ty.El I)(r9:Ty.El I)(b0:List (Ty.El aA)):Option (zX.El⊕(aBN.El⊕aBO.El)):=bif decide (r9<r8) then bif decide ((0:Int)≤r9∧r9<↑b0.length) then(QX (b0.getD (Int.toNat r9) aA.dflt).2.2.2.2).bind fun v3=>bif decide ((0:Int)≤r9∧r9<↑b0.length) then some (Sum.inl (((),(),r8,IntKind.i64.wrap (r9+(1:Int)),()),b0.set (Int.toNat r9) ((b0.getD (Int.toNat r9) aA.dflt).1,(b0.getD (Int.toNat r9) aA.dflt).2.1,(b0.getD (Int.toNat r9) aA.dflt).2.2.1,(b0.getD (Int.toNat r9) aA.dflt).2.2.2.1,v3.1),())) else none else none else some (Sum.inr (Sum.inl (((),()),b0,())))
theorem a4G (x:zX.El):aV CT aSy (cB CT aSy) iI aSz (zX.enc x) (bG (zX.lay []) aLT)=QZ x.1.2.2.1 x.1.2.2.2.1 x.2.1:=by kernel_rfl
def aI6:zX.El→Option (aBN.El⊕aBO.El):=aH (fun x=>QZ x.1.2.2.1 x.1.2.2.2.1 x.2.1) fuel
def a2f {β:Type}:dK β:=fun k s K=>if Nat.beq k 3 then bO (zX.lay []) aLT aI6 s K else none
theorem aSA {β:Type}:aC CT (a2f (β:=β)) (aJ a4F):=aC.is [(3,aSz)] (by kernel_rfl) (aC.cons (iW aL aLS (bC (by kernel_rfl)) a4G rfl rfl) (aC.nil))
def aPd (a1:Ty.El (.list aA)):Option (List (Ty.El aA)):=(QY a1).bind fun v1=>(aI6 (((),(),↑v1.length,(0:Int),()),v1,())).bind fun v3=>Sum.elim (fun v4=>some v4.2.1) (fun v5=>none) v3
theorem bF9 (x:Ps [.ty (.list aA)]):B7 CT aSy 68 aA (cB CT aSy) a2f Tryz.f219 a4F (bQ [.ty (.list aA)] x)=aPd x.1:=by kernel_rfl
def a4H:aW:=.own 219 [] ⟨[.ty (.list aA)],68,aA,fun x=>aPd x.1⟩
theorem bAR:a4H.Ok CT.P:=aW.LY aL aLS (by kernel_rfl) (by kernel_rfl) aSA bF9
def bAS:Code:=Tryz.f220.body.getD .skip
def a4I:Tb:=cC iL iM []
theorem aYR:a4I.Ok CT.P:=aQ (trivial)
def a2g {β:Type}:dK β:=fun _ _ _=>none
theorem aSB {β:Type}:aC CT (a2g (β:=β)) (aJ bAS):=aC.is [] (by kernel_rfl) (aC.nil)
def aYS (l:List (Ty.El aA))(a1:Ty.El I)(a2:Ty.El (.list aA)):Option (List (Ty.El aA)):=bif decide ((0:Int)≤a1∧a1≤↑l.length) then bif ↑(List.length a2)==(0:Int) then some l else bif a1==↑l.length then bif((l.length+List.length a2)*(128:Nat)).ble (70368744177664:Nat) then some (l++a2) else none else none else none
theorem bGa (l:List (Ty.El aA))(x:Ps [.ty I,.ty (.list aA)]):aRP CT a4I 68 aA 68 aA (cB CT a4I) a2g Tryz.f220 bAS l (bQ [.ty I,.ty (.list aA)] x)=aYS l x.1 x.2.1:=by kernel_rfl
def bGb:aW:=.mov 220 [] ⟨[.ty I,.ty (.list aA)],68,aA,68,aA,fun l x=>aYS l x.1 x.2.1⟩
theorem bGc:bGb.Ok CT.P:=aW.a95 aL aYR (by kernel_rfl) (by kernel_rfl) aSB bGa
def rM (a1:Ty.El aD)(a2:Ty.El I):Option (aS [aA,.bool]):=(aFr a1.2.2 (a2,())).bind fun v1=>bif decide (v1.1<(0:Int)) then some (((0:Int),(0:Int),((0:Int),((0:Int),(0:Int)),(0:Int),((0:Int),(0:Int)),(0:Int),(0:Int)),((0:Int),(0:Int),(0:Int)),[]),false,()) else bif decide ((0:Int)≤v1.1∧v1.1<↑(List.length a1.2.2)) then(QX (List.getD a1.2.2 (Int.toNat v1.1) aA.dflt).2.2.2.2).bind fun v4=>some (((List.getD a1.2.2 (Int.toNat v1.1) aA.dflt).1,(List.getD a1.2.2 (Int.toNat v1.1) aA.dflt).2.1,(List.getD a1.2.2 (Int.toNat v1.1) aA.dflt).2.2.1,(List.getD a1.2.2 (Int.toNat v1.1) aA.dflt).2.2.2.1,v4.1),true,()) else none
def aPe:aW:=.fn 28 [] ⟨[.ty aD,.ty I],[aA,.bool],fun x=>rM x.1 x.2.1,false⟩
theorem Q0:aPe.Ok CT.P:=fn0 aL (JB bAD aPc) Tryz.f28 (by kernel_rfl) fun x=>by kernel_rfl
def Y2:aW:=.fn 28 [] ⟨[.ty aD,.ty I],[aA,.bool],fun x=>rM x.1 x.2.1,true⟩
def a4J:Code:=Tryz.f221.body.getD .skip
def aSC:Tb:=cC iL iM [Y2,aYL]
theorem aLU:aSC.Ok CT.P:=aQ (⟨Q0,a4y,trivial⟩)
def aSD:Code:=aX a4J 2
abbrev zY:aF:=⟨56,[(2,.ptr 0),(3,.ptr 1),(14,.data (.list I)),(15,.data I),(16,.data I)],[.var 51 [.data aD],.var 68 [.data aA]],fun s=>[aG s 2,aG s 3]⟩
abbrev aBP:aF:=⟨56,[(2,.ptr 0),(3,.ptr 1)],[.var 51 [.data aD],.var 68 [.data aA]],fun s=>[aG s 2,aG s 3]⟩
abbrev aBQ:aF:=⟨56,[(4,.data .bool)],[],fun _=>[]⟩
def aLV:=ex 0 0 aBP aBQ [] []
def Q3 (fQ:Ty.El (.list I))(jR:Ty.El I)(l6:Ty.El I)(b0:Ty.El aD×Unit)(b1:Ty.El aA×Unit):Option (zY.El⊕(aBP.El⊕aBQ.El)):=bif decide (l6<jR) then bif decide ((0:Int)≤l6∧l6<↑(List.length fQ)) then(aFn b0.1 (List.getD fQ (Int.toNat l6) (0:Int))).bind fun v3=>bif !v3.2.1 then some (Sum.inr (Sum.inr ((false,()),()))) else some (Sum.inl (((),(),fQ,jR,IntKind.i64.wrap (l6+(1:Int)),()),(b0.1,()),(b1.1,()),())) else none else some (Sum.inr (Sum.inl (((),(),()),(b0.1,()),(b1.1,()),())))
theorem a4K (x:zY.El):aV CT aSC (cB CT aSC) iI aSD (zY.enc x) (bG (zY.lay []) aLV)=Q3 x.1.2.2.1 x.1.2.2.2.1 x.1.2.2.2.2.1 x.2.1 x.2.2.1:=by kernel_rfl
def aSE:zY.El→Option (aBP.El⊕aBQ.El):=aH (fun x=>Q3 x.1.2.2.1 x.1.2.2.2.1 x.1.2.2.2.2.1 x.2.1 x.2.2.1) fuel
def a2h {β:Type}:dK β:=fun k s K=>if Nat.beq k 2 then bO (zY.lay []) aLV aSE s K else none
theorem aSF {β:Type}:aC CT (a2h (β:=β)) (aJ a4J):=aC.is [(2,aSD)] (by kernel_rfl) (aC.cons (iW aL aLU (bC (by kernel_rfl)) a4K rfl rfl) (aC.nil))
def aPf (a1:Ty.El aD)(a2:Ty.El aA):Option (aS [.bool]):=(aSE (((),(),a2.2.2.2.2,↑(List.length a2.2.2.2.2),(0:Int),()),(a1,()),(a2,()),())).bind fun v1=>Sum.elim (fun v2=>bif v2.2.2.1.1.2.1 != (2:Int) then some (true,()) else(rM v2.2.1.1 v2.2.2.1.1.2.2.2.1.1).bind fun v4=>(rM v2.2.1.1 v2.2.2.1.1.2.2.2.1.2.1).bind fun v5=>bif v4.1.2.1==(1:Int) then some (v5.1.2.1==(1:Int),()) else some (false,())) (fun v7=>some (v7.1.1,())) v1
theorem bGd (x:Ps [.ty aD,.ty aA]):dA CT aSC [.bool] (cB CT aSC) a2h Tryz.f221 a4J (bQ [.ty aD,.ty aA] x)=aPf x.1 x.2.1:=by kernel_rfl
def bAT:aW:=.fn 221 [] ⟨[.ty aD,.ty aA],[.bool],fun x=>aPf x.1 x.2.1,false⟩
theorem bGe:bAT.Ok CT.P:=aW.ofFn aL aLU (by kernel_rfl) (by kernel_rfl) aSF bGd
def a4L:Code:=Tryz.f86.body.getD .skip
def aI7:Tb:=cC iL iM [Y2,aYL]
theorem aBR:aI7.Ok CT.P:=aQ (⟨Q0,a4y,trivial⟩)
def aBS:Code:=aX a4L 2
def aLW:Code:=aX aBS 10
abbrev sN:aF:=⟨64,[(1,.ptr 0),(14,.data (.list aA)),(15,.data I),(16,.data I),(48,.data (.list I)),(49,.data I),(50,.data I)],[.var 51 [.data aD]],fun s=>[aG s 1]⟩
abbrev Q4:aF:=⟨64,[(1,.ptr 0),(14,.data (.list aA)),(15,.data I),(16,.data I)],[.var 51 [.data aD]],fun s=>[aG s 1]⟩
abbrev Q5:aF:=⟨64,[(2,.data .bool)],[],fun _=>[]⟩
def aFy:=ex 0 2 Q4 Q5 [] []
def FK (fQ:Ty.El (.list aA))(jR:Ty.El I)(l6:Ty.El I)(Y3:Ty.El (.list I))(H9:Ty.El I)(JE:Ty.El I)(b0:Ty.El aD×Unit):Option (sN.El⊕(Q4.El⊕Q5.El)):=bif decide (JE<H9) then bif decide ((0:Int)≤JE∧JE<↑(List.length Y3)) then(aFn b0.1 (List.getD Y3 (Int.toNat JE) (0:Int))).bind fun v3=>bif !v3.2.1 then some (Sum.inr (Sum.inr ((false,()),()))) else some (Sum.inl (((),fQ,jR,l6,Y3,H9,IntKind.i64.wrap (JE+(1:Int)),()),(b0.1,()),())) else none else some (Sum.inr (Sum.inl (((),fQ,jR,l6,()),(b0.1,()),())))
theorem aYT (x:sN.El):aV CT aI7 (cB CT aI7) iI aLW (sN.enc x) (bG (sN.lay []) aFy)=FK x.1.2.1 x.1.2.2.1 x.1.2.2.2.1 x.1.2.2.2.2.1 x.1.2.2.2.2.2.1 x.1.2.2.2.2.2.2.1 x.2.1:=by kernel_rfl
def NS:sN.El→Option (Q4.El⊕Q5.El):=aH (fun x=>FK x.1.2.1 x.1.2.2.1 x.1.2.2.2.1 x.1.2.2.2.2.1 x.1.2.2.2.2.2.1 x.1.2.2.2.2.2.2.1 x.2.1) fuel
abbrev zZ:aF:=⟨64,[(1,.ptr 0),(14,.data (.list aA)),(15,.data I),(16,.data I)],[.var 51 [.data aD]],fun s=>[aG s 1]⟩
abbrev aBT:aF:=⟨64,[],[],fun _=>[]⟩
abbrev aBU:aF:=⟨64,[(2,.data .bool)],[],fun _=>[]⟩
def aLX:=ex 0 0 aBT aBU [] []
def aFz {β:Type}:dK β:=fun k s K=>if Nat.beq k 10 then bO (sN.lay []) aFy NS s K else none
theorem aFA {β:Type}:aC CT (aFz (β:=β)) (aJ aBS):=aC.is [(10,aLW)] (by kernel_rfl) (aC.cons (iW aL aBR (bC (by kernel_rfl)) aYT rfl rfl) (aC.nil))
def Q6 (fQ:Ty.El (.list aA))(jR:Ty.El I)(l6:Ty.El I)(b0:Ty.El aD×Unit):Option (zZ.El⊕(aBT.El⊕aBU.El)):=bif decide (l6<jR) then bif decide ((0:Int)≤l6∧l6<↑(List.length fQ)) then bif(List.getD fQ (Int.toNat l6) aA.dflt).2.1==(2:Int) then(rM b0.1 (List.getD fQ (Int.toNat l6) aA.dflt).2.2.2.1.1).bind fun v4=>(rM b0.1 (List.getD fQ (Int.toNat l6) aA.dflt).2.2.2.1.2.1).bind fun v5=>bif v4.1.2.1 != (1:Int) then some (Sum.inr (Sum.inr ((false,()),()))) else bif v5.1.2.1 != (1:Int) then some (Sum.inr (Sum.inr ((false,()),()))) else(NS (((),fQ,jR,l6,(List.getD fQ (Int.toNat l6) aA.dflt).2.2.2.2,↑(List.length (List.getD fQ (Int.toNat l6) aA.dflt).2.2.2.2),(0:Int),()),(b0.1,()),())).bind fun v8=>Sum.elim (fun v9=>some (Sum.inl (((),v9.1.2.1,v9.1.2.2.1,IntKind.i64.wrap (v9.1.2.2.2.1+(1:Int)),()),(v9.2.1.1,()),()))) (fun v10=>some (Sum.inr (Sum.inr ((v10.1.1,()),())))) v8 else(NS (((),fQ,jR,l6,(List.getD fQ (Int.toNat l6) aA.dflt).2.2.2.2,↑(List.length (List.getD fQ (Int.toNat l6) aA.dflt).2.2.2.2),(0:Int),()),(b0.1,()),())).bind fun v11=>Sum.elim (fun v12=>some (Sum.inl (((),v12.1.2.1,v12.1.2.2.1,IntKind.i64.wrap (v12.1.2.2.2.1+(1:Int)),()),(v12.2.1.1,()),()))) (fun DM=>some (Sum.inr (Sum.inr ((DM.1.1,()),())))) v11 else none else some (Sum.inr (Sum.inl ((),())))
theorem a4M (x:zZ.El):aV CT aI7 (cB CT aI7) aFz aBS (zZ.enc x) (bG (zZ.lay []) aLX)=Q6 x.1.2.1 x.1.2.2.1 x.1.2.2.2.1 x.2.1:=by kernel_rfl
def aI8:zZ.El→Option (aBT.El⊕aBU.El):=aH (fun x=>Q6 x.1.2.1 x.1.2.2.1 x.1.2.2.2.1 x.2.1) fuel
def a2i {β:Type}:dK β:=fun k s K=>if Nat.beq k 2 then bO (zZ.lay []) aLX aI8 s K else none
theorem aSG {β:Type}:aC CT (a2i (β:=β)) (aJ a4L):=aC.is [(2,aBS)] (by kernel_rfl) (aC.cons (iW aL aBR aFA a4M rfl rfl) (aC.nil))
def XI (a1:Ty.El aD):Option (aS [.bool]):=(aI8 (((),a1.2.2,↑(List.length a1.2.2),(0:Int),()),(a1,()),())).bind fun v1=>Sum.elim (fun v2=>some (true,())) (fun v3=>some (v3.1.1,())) v1
theorem bGf (x:Ps [.ty aD]):dA CT aI7 [.bool] (cB CT aI7) a2i Tryz.f86 a4L (bQ [.ty aD] x)=XI x.1:=by kernel_rfl
def bAU:aW:=.fn 86 [] ⟨[.ty aD],[.bool],fun x=>XI x.1,false⟩
theorem bAV:bAU.Ok CT.P:=aW.ofFn aL aBR (by kernel_rfl) (by kernel_rfl) aSG bGf
def pR (a1:Ty.El aD):Option (aS [.bool]):=(aSk a1).bind fun v1=>bif v1.1 then(XI a1).bind fun v3=>bif v3.1 then(QK a1).bind fun v5=>bif v5.1 then(QW a1).bind fun v7=>some (v7.1,()) else some (false,()) else some (false,()) else some (false,())
def aBV:aW:=.fn 24 [] ⟨[.ty aD],[.bool],fun x=>pR x.1,false⟩
theorem JF:aBV.Ok CT.P:=fn0 aL (tb4 bAv bAV bAK bFT) Tryz.f24 (by kernel_rfl) fun x=>by kernel_rfl
def bGi:Code:=Tryz.f106.body.getD .skip
def a1i:Tb:=cC iL iM []
theorem aQ8:a1i.Ok CT.P:=aQ (trivial)
def a1n:Code:=aX bGi 3
abbrev Q8:aF:=⟨22,[(0,.data I),(1,.data I),(5,.own (.int .u8) 0)],[.row 5 (.int .u8)],fun s=>[aG s 5]⟩
abbrev aFJ:aF:=⟨22,[(5,.own (.int .u8) 0)],[.row 5 (.int .u8)],fun s=>[aG s 5]⟩
abbrev aFU:aF:=l0 22
def aQ9:=ex 0 0 aFJ aFU [.bU 5 5 (.int .u8)] []
def aBX (r0:Ty.El I)(r1:Ty.El I)(b0:List (Ty.El (.int .u8))):Option (Q8.El⊕(aFJ.El⊕aFU.El)):=bif decide (r1≥(0:Int)) then bif decide (IntKind.i64.wrap ((8:Int)*r1)<(0:Int)) then none else bif((b0.length+[IntKind.u8.wrap (Int.fdiv r0 ((2:Int)^Min.min (IntKind.i64.wrap ((8:Int)*r1)).toNat (64:Nat)))].length)*(1:Nat)).ble (70368744177664:Nat) then some (Sum.inl ((r0,IntKind.i64.wrap (r1-(1:Int)),(),()),b0++[IntKind.u8.wrap (Int.fdiv r0 ((2:Int)^Min.min (IntKind.i64.wrap ((8:Int)*r1)).toNat (64:Nat)))],())) else none else some (Sum.inr (Sum.inl (((),()),b0,())))
theorem bGj (x:Q8.El):aV CT a1i (cB CT a1i) iI a1n (Q8.enc x) (bG (Q8.lay [.bU 5 5 (.int .u8)]) aQ9)=aBX x.1.1 x.1.2.1 x.2.1:=by kernel_rfl
def aQK:Q8.El→Option (aFJ.El⊕aFU.El):=aH (fun x=>aBX x.1.1 x.1.2.1 x.2.1) fuel
def bEt {β:Type}:dK β:=fun k s K=>if Nat.beq k 3 then bO (Q8.lay [.bU 5 5 (.int .u8)]) aQ9 aQK s K else none
theorem a1p {β:Type}:aC CT (bEt (β:=β)) (aJ bGi):=aC.is [(3,a1n)] (by kernel_rfl) (aC.cons (iW aL aQ8 (bC (by kernel_rfl)) bGj rfl rfl) (aC.nil))
def aAS (a1:Ty.El I)(a2:Ty.El I):Option (aS [.str]):=(aQK ((a1,IntKind.i64.wrap (a2-(1:Int)),(),()),[],())).bind fun v1=>Sum.elim (fun v2=>some (List.map (fun v3=>UInt8.ofNat (Int.toNat v3)) v2.2.1,())) (fun v4=>none) v1
theorem bLl (x:Ps [.ty I,.ty I]):dA CT a1i [.str] (cB CT a1i) bEt Tryz.f106 bGi (bQ [.ty I,.ty I] x)=aAS x.1 x.2.1:=by kernel_rfl
def bJi:aW:=.fn 106 [] ⟨[.ty I,.ty I],[.str],fun x=>aAS x.1 x.2.1,false⟩
theorem bLm:bJi.Ok CT.P:=aW.ofFn aL aQ8 (by kernel_rfl) (by kernel_rfl) a1p bLl
abbrev tyP:TypeId→Option Ty:=iL
abbrev mpP:TypeId→Option (Ty×Ty):=iM
def T_P:Tb:=cC tyP mpP []
theorem a4N:T_P.Ok CT.P:=aQ trivial
def pS:Code:=Tryz.f198.body.getD .skip
theorem a4O:Tryz.f198.body=some pS:=by kernel_rfl
theorem a4P:CT.P.funcs[198]?=some Tryz.f198:=by kernel_rfl
def bAW:oH CT Tryz.f198 pS 85 where
 i0:=(gJ pS).1
 i1:=(kF pS).1
 i2:=(pQ pS).1
 aBf:=(gJ pS).2
 XF:=(kF pS).2
 XG:=(pQ pS).2
 rest:=jZ pS
 code:=by kernel_rfl
 s0:=by kernel_rfl
 s1:=by kernel_rfl
 s2:=by kernel_rfl
 o00:=((gJ pS).2[0]?).getD default
 o10:=((kF pS).2[0]?).getD default
 o11:=((kF pS).2[1]?).getD default
 o20:=((pQ pS).2[0]?).getD default
 h00:=by kernel_rfl
 h10:=by kernel_rfl
 h11:=by kernel_rfl
 h20:=by kernel_rfl
 g00:=⟨by kernel_rfl,by kernel_rfl,by kernel_rfl⟩
 g10:=⟨by kernel_rfl,by kernel_rfl,by kernel_rfl⟩
 g11:=⟨by kernel_rfl,by kernel_rfl,by kernel_rfl⟩
 g20:=⟨by kernel_rfl,by kernel_rfl,by kernel_rfl⟩
 nt:=by kernel_rfl
 res:=by kernel_rfl
def aSH (l:List (Ty.El bD)):Option (List (Ty.El bD)):=bif Nat.ble (l.length*40) 70368744177664 then some l else none
theorem bAX (l:List (Ty.El bD)):aV CT T_P (cB CT T_P) (fun _ _ _=>none) (jZ pS) ⟨[.nF bD l,.any,.eY,.any,.bool false,.any,.any,.any],[]⟩ (P8 CT 91 bD [.tmp 2])=aSH l:=by kernel_rfl
def aEz (a1:Ty.El (.list bD)):Option (aS [.list bD]):=(aSH a1).map fun l=>(l,())
def bEu:aW:=.fn 198 [] ⟨[.ty (.list bD)],[.list bD],fun x=>aEz x.1,false⟩
theorem a4Q:CT.P.underlying 85=some (.slice 91):=by kernel_rfl
theorem a4R:aJ (jZ pS)=[]:=by kernel_rfl
theorem bJk:bEu.Ok CT.P:=by
 intro x y h;have h:aEz x.1=some y:=h;unfold aEz at h;obtain⟨l,hl,rfl⟩:=aPV.1 h;have h1:=oI (e:=91) (bt:=91) aL a4N a4P a4O bAW a4Q a4R (l:=x.1) (y:=l) ((bAX x.1).trans hl) (fun h0=>by
  rw [h0] at hl;exact(Option.some.inj hl).symm)
 exact h1.YR
def aEG (a1:Ty.El (.list cA)):Option (List (Ty.El cA)):=bif Nat.ble (List.length a1*80) 70368744177664 then some a1 else none
end Go.DI.S
end
