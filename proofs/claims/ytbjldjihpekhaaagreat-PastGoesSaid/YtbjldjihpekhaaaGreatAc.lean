import Derived.Test.YtbjldjihpekhaaaGreatAb
import Derived.Test.YtbjldjihpekhaaaGreatVa
import Derived.Shelf.SlSortCmp.WholeK
import Derived.Shelf.SlSortCmp.NoneTotal
/- slices.SortFunc at pairs. No conditions. -/
set_option linter.unusedSimpArgs false
set_option linter.unusedVariables false
set_option maxRecDepth 100000
set_option maxHeartbeats 0
noncomputable section
namespace Go.DI.S
open Go.Proofs
def aDi (a1:Ty.El I):Option (aS [.bool]):=some (a1 != a1,())
def a7x:aW:=.fn 318 [] ⟨[.ty I],[.bool],fun x=>aDi x.1,false⟩
theorem a7y:a7x.Ok CT.P:=fn0 aL zN Tryz.f318 (by kernel_rfl) fun x=>by kernel_rfl
def aDj (a1:Ty.El I)(a2:Ty.El I):Option (aS [I]):=(aDi a1).bind fun v2=>(aDi a2).bind fun v4=>bif v2.1 then bif v4.1 then some ((0:Int),()) else some ((-1:Int),()) else bif v4.1 then some ((1:Int),()) else bif decide (a1<a2) then some ((-1:Int),()) else bif decide (a1>a2) then some ((1:Int),()) else some ((0:Int),())
def a7z:aW:=.fn 310 [] ⟨[.ty I,.ty I],[I],fun x=>aDj x.1 x.2.1,false⟩
theorem a7A:a7z.Ok CT.P:=fn0 aL (B8 a7y) Tryz.f310 (by kernel_rfl) fun x=>by kernel_rfl
def aKk:Code:=Tryz.f298.body.getD .skip
def UJ:Tb:=cC iL iM []
theorem Z4:UJ.Ok CT.P:=aQ (trivial)
def aGZ:Code:=aX aKk 3
abbrev oT:aF:=⟨18,[(3,.data I),(6,.data (.list I)),(7,.data I),(8,.data I)],[],fun _=>[]⟩
abbrev KM:aF:=⟨18,[(3,.data I)],[],fun _=>[]⟩
abbrev KN:aF:=⟨18,[(2,.data I)],[],fun _=>[]⟩
def Z5:=ex 0 0 KM KN [] []
def yU (r3:Ty.El I)(r6:Ty.El (.list I))(r7:Ty.El I)(r8:Ty.El I):Option (oT.El⊕(KM.El⊕KN.El)):=bif decide (r8<r7) then bif decide ((0:Int)≤r8∧r8<(↑(List.length r6):Int)) then bif List.getD r6 (Int.toNat r8) (0:Int) != r3 then some (Sum.inr (Sum.inr ((List.getD r6 (Int.toNat r8) (0:Int),()),()))) else some (Sum.inl ((r3,r6,r7,IntKind.i64.wrap (r8+(1:Int)),()),())) else none else some (Sum.inr (Sum.inl ((r3,()),())))
theorem aVP (x:oT.El):aV CT UJ (cB CT UJ) iI aGZ (oT.enc x) (bG (oT.lay []) Z5)=yU x.1.1 x.1.2.1 x.1.2.2.1 x.1.2.2.2.1:=by kernel_rfl
def UK:oT.El→Option (KM.El⊕KN.El):=aH (fun x=>yU x.1.1 x.1.2.1 x.1.2.2.1 x.1.2.2.2.1) fuel
def aNm {β:Type}:dK β:=fun k s K=>if Nat.beq k 3 then bO (oT.lay []) Z5 UK s K else none
theorem aKl {β:Type}:aC CT (aNm (β:=β)) (aJ aKk):=aC.is [(3,aGZ)] (by kernel_rfl) (aC.cons (iW aL Z4 (bC (by kernel_rfl)) aVP rfl rfl) (aC.nil))
def UL (a1:Ty.El (.list I)):Option (aS [I]):=(UK (((0:Int),a1,(↑(List.length a1):Int),(0:Int),()),())).bind fun v1=>Sum.elim (fun v2=>some (v2.1.1,())) (fun v3=>some (v3.1.1,())) v1
theorem a7B (x:Ps [.ty (.list I)]):dA CT UJ [I] (cB CT UJ) aNm Tryz.f298 aKk (bQ [.ty (.list I)] x)=UL x.1:=by kernel_rfl
def a7C:aW:=.fn 298 [] ⟨[.ty (.list I)],[I],fun x=>UL x.1,false⟩
theorem a7D:a7C.Ok CT.P:=aW.ofFn aL Z4 (by kernel_rfl) (by kernel_rfl) aKl a7B
def aKm (a1:Ty.El bF)(a2:Ty.El bF):Option (aS [I]):=(aBC a1.1 a2.1).bind fun v2=>(aBC a1.2 a2.2).bind fun v4=>(UL [v2.1,v4.1]).bind fun v6=>some (v6.1,())
def a7E:aW:=.fn 297 [] ⟨[.ty bF,.ty bF],[I],fun x=>aKm x.1 x.2.1,false⟩
theorem a7F:a7E.Ok CT.P:=fn0 aL (JB bAy a7D) Tryz.f297 (by kernel_rfl) fun x=>by kernel_rfl
abbrev a0z:aF:=⟨3,[(0,.data I),(1,.data I),(2,.ptr 0)],[.var 317 [.data (.list bX)]],fun s=>[aG s 2]⟩
abbrev aG0:aF:=⟨1,[(0,.data I)],[.var 317 [.data (.list bX)]],fun _=>[0]⟩
def ED (a0:Ty.El I)(a1:Ty.El I)(b0:Ty.El (.list bX)×Unit):Option aG0.El:=bif decide ((0:Int)≤a0∧a0<(↑(List.length b0.1):Int)) then bif decide ((0:Int)≤a1∧a1<(↑(List.length b0.1):Int)) then(aDj (List.getD b0.1 (Int.toNat a0) bX.dflt).1.1 (List.getD b0.1 (Int.toNat a1) bX.dflt).1.1).bind fun v2=>some ((v2.1,()),(b0.1,()),()) else none else none
def aKn:aW:=.dV 309 [] ⟨1,[],a0z,aG0,fun x=>ED x.1.1 x.1.2.1 x.2.1⟩
theorem aVQ:aKn.Ok CT.P:=BV (C:=(bY 1)) (aY 1) (B8 a7A) [] Tryz.f309 (by kernel_rfl) fun x=>by kernel_rfl
def aKo:Code:=Tryz.f331.body.getD .skip
abbrev aDk:aF:=⟨4,[(0,.own I 0),(1,.data I),(2,.data I),(3,.eG 309 [1])],[.row 3 I,.var 317 [.data (.list bX)]],fun s=>[aG s 0,sH s 3]⟩
abbrev UM:aF:=⟨0,[],[.row 3 I,.var 317 [.data (.list bX)]],fun _=>[0,1]⟩
def EE:Tb:=cC iL iM [aKn]
theorem KO:EE.Ok CT.P:=aQ (⟨aVQ,trivial⟩)
def GV:Code:=aX aKo 1
def aG1:Code:=aX GV 4
abbrev oU:aF:=⟨53,[(0,.own I 0),(1,.data I),(2,.data I),(3,.eG 309 [1]),(8,.data I),(9,.data I)],[.row 3 I,.var 317 [.data (.list bX)]],fun s=>[0,1]⟩
abbrev KP:aF:=⟨53,[(0,.own I 0),(1,.data I),(2,.data I),(3,.eG 309 [1]),(8,.data I)],[.row 3 I,.var 317 [.data (.list bX)]],fun s=>[0,1]⟩
abbrev KQ:aF:=l0 53
def Z6:=ex 2 2 KP KQ [] []
def uB (r1:Ty.El I)(r2:Ty.El I)(r8:Ty.El I)(r9:Ty.El I)(b0:List (Ty.El I))(b1:Ty.El (.list bX)×Unit):Option (oU.El⊕(KP.El⊕KQ.El)):=bif decide (r9>r1) then bif decide ((0:Int)≤r9∧r9<(↑b0.length:Int)) then bif decide ((0:Int)≤IntKind.i64.wrap (r9-(1:Int))∧IntKind.i64.wrap (r9-(1:Int))<(↑b0.length:Int)) then(ED (b0.getD (Int.toNat r9) (0:Int)) (b0.getD (IntKind.i64.wrap (r9-(1:Int))).toNat (0:Int)) (b1.1,())).bind fun v2=>bif decide (v2.1.1<(0:Int)) then bif decide ((0:Int)≤IntKind.i64.wrap (r9-(1:Int))∧IntKind.i64.wrap (r9-(1:Int))<(↑b0.length:Int)) then bif decide ((0:Int)≤r9∧r9<(↑b0.length:Int)) then bif decide ((0:Int)≤r9∧r9<(↑b0.length:Int)) then bif decide ((0:Int)≤IntKind.i64.wrap (r9-(1:Int))∧IntKind.i64.wrap (r9-(1:Int))<(↑(b0.set (Int.toNat r9) (b0.getD (IntKind.i64.wrap (r9-(1:Int))).toNat (0:Int))).length:Int)) then some (Sum.inl (((),r1,r2,(),r8,IntKind.i64.wrap (r9-(1:Int)),()),(b0.set (Int.toNat r9) (b0.getD (IntKind.i64.wrap (r9-(1:Int))).toNat (0:Int))).set (IntKind.i64.wrap (r9-(1:Int))).toNat (b0.getD (Int.toNat r9) (0:Int)),(v2.2.1.1,()),())) else none else none else none else none else some (Sum.inr (Sum.inl (((),r1,r2,(),r8,()),b0,(v2.2.1.1,()),()))) else none else none else some (Sum.inr (Sum.inl (((),r1,r2,(),r8,()),b0,(b1.1,()),())))
theorem aVR (x:oU.El):aV (bY 2) EE (cB (bY 2) EE) iI aG1 (oU.enc x) (bG (oU.lay []) Z6)=uB x.1.2.1 x.1.2.2.1 x.1.2.2.2.2.1 x.1.2.2.2.2.2.1 x.2.1 x.2.2.1:=by kernel_rfl
def UN:oU.El→Option (KP.El⊕KQ.El):=aH (fun x=>uB x.1.2.1 x.1.2.2.1 x.1.2.2.2.2.1 x.1.2.2.2.2.2.1 x.2.1 x.2.2.1) fuel
abbrev oV:aF:=⟨53,[(0,.own I 0),(1,.data I),(2,.data I),(3,.eG 309 [1]),(8,.data I)],[.row 3 I,.var 317 [.data (.list bX)]],fun s=>[0,1]⟩
abbrev KR:aF:=⟨53,[],[.row 3 I,.var 317 [.data (.list bX)]],fun s=>[0,1]⟩
abbrev KS:aF:=l0 53
def Z7:=ex 2 0 KR KS [] []
def UO {β:Type}:dK β:=fun k s K=>if Nat.beq k 4 then bO (oU.lay []) Z6 UN s K else none
theorem XS {β:Type}:aC (bY 2) (UO (β:=β)) (aJ GV):=aC.is [(4,aG1)] (by kernel_rfl) (aC.cons (iW (aY 2) KO (bC (by kernel_rfl)) aVR rfl rfl) (aC.nil))
def uC (r1:Ty.El I)(r2:Ty.El I)(r8:Ty.El I)(b0:List (Ty.El I))(b1:Ty.El (.list bX)×Unit):Option (oV.El⊕(KR.El⊕KS.El)):=bif decide (r8<r2) then(UN (((),r1,r2,(),r8,r8,()),b0,(b1.1,()),())).bind fun v1=>Sum.elim (fun v2=>some (Sum.inl (((),v2.1.2.1,v2.1.2.2.1,(),IntKind.i64.wrap (v2.1.2.2.2.2.1+(1:Int)),()),v2.2.1,(v2.2.2.1.1,()),()))) (fun v3=>none) v1 else some (Sum.inr (Sum.inl ((),b0,(b1.1,()),())))
theorem aVS (x:oV.El):aV (bY 2) EE (cB (bY 2) EE) UO GV (oV.enc x) (bG (oV.lay []) Z7)=uC x.1.2.1 x.1.2.2.1 x.1.2.2.2.2.1 x.2.1 x.2.2.1:=by kernel_rfl
def UP:oV.El→Option (KR.El⊕KS.El):=aH (fun x=>uC x.1.2.1 x.1.2.2.1 x.1.2.2.2.2.1 x.2.1 x.2.2.1) fuel
def aNn {β:Type}:dK β:=fun k s K=>if Nat.beq k 1 then bO (oV.lay []) Z7 UP s K else none
theorem aKp {β:Type}:aC (bY 2) (aNn (β:=β)) (aJ aKo):=aC.is [(1,GV)] (by kernel_rfl) (aC.cons (iW (aY 2) KO XS aVS rfl rfl) (aC.nil))
def KT (a1:Ty.El I)(a2:Ty.El I)(b0:List (Ty.El I))(b1:Ty.El (.list bX)×Unit):Option UM.El:=(UP (((),a1,a2,(),IntKind.i64.wrap (a1+(1:Int)),()),b0,(b1.1,()),())).bind fun v1=>Sum.elim (fun v2=>some ((),v2.2.1,(v2.2.2.1.1,()),())) (fun v3=>none) v1
theorem a7G (x:aDk.El):kE (bY 2) EE aDk UM [] (cB (bY 2) EE) aNn Tryz.f331 aKo x=KT x.1.2.1 x.1.2.2.1 x.2.1 x.2.2.1:=by kernel_rfl
def aVT:aW:=.dV 331 [309] ⟨2,[.bU 0 3 I,.dJ 0 3 I],aDk,UM,fun x=>KT x.1.2.1 x.1.2.2.1 x.2.1 x.2.2.1⟩
theorem a7H:aVT.Ok CT.P:=aW.lI (C:=(bY 2)) (steps:=[.bU 0 3 I,.dJ 0 3 I]) (cN:=[]) (aY 2) KO (by kernel_rfl) (by kernel_rfl) aKp a7G
open Go.Proofs Go.Shelf Go.RowKit Go.Lib Go.Sort
def ci (a b:Int):Int:=if a<b then -1 else if a>b then 1 else 0
def cfP (p q:jJ):Int:=if ci p.1 q.1=0 then ci p.2 q.2 else ci p.1 q.1
theorem orP (a b:Int):UL [a,b]=some (((if a=0 then b else a),()):aS [I]):=by
 have h:=iJ (G:=fun x=>yU x.1.1 x.1.2.1 x.1.2.2.1 x.1.2.2.2.1) (m:=fuel) [a,b] (fun n=>n != 0) (fun k=>(((0:Int),[a,b],((2:Nat):Int),(k:Int),()),())) (fun k=>.inr ((([a,b]:List Int).getD k 0,()),())) (.inl (((0:Int),()),()))
  (fun k x hx=>?_) ?_ (fuel_lt (show 2≤1000000000 by decide))
 ·unfold UL UK;show(aH _ fuel (((0:Int),[a,b],((2:Nat):Int),((0:Nat):Int),()),())).bind _=_;rw [h];by_cases ha:a=0
  ·subst ha;by_cases hb:b=0
   ·subst hb;rfl
   ·have e:[(0:Int),b].findIdx? (fun n=>n != 0)=some 1:=by simp [List.findIdx?_cons,hb]
    rw [e];rfl
  ·have e:[a,b].findIdx? (fun n=>n != 0)=some 0:=by simp [List.findIdx?_cons,ha]
   rw [e,aJn ha];rfl
 ·have hk:k<2:=dF hx;have hd:([a,b]:List Int).getD (Int.toNat (k:Int)) 0=x:=bB hx;have hd2:([a,b]:List Int).getD k 0=x:=hd;have h1:decide ((k:Int)<((2:Nat):Int))=true:=dec_lt hk;have h2:decide ((0:Int)≤(k:Int)∧(k:Int)<((([a,b]:List Int).length:Nat):Int))=true:=bI hk;simp only [yU,h1,h2,cond_true,hd,hd2,aN hk (by omega)];cases (x != 0) <;> rfl
 ·simp only [yU];rfl
theorem bHN (p q:jJ):aKm p q=some ((cfP p q,()):aS [I]):=by
 have h1:aBC p.1 q.1=some ((ci p.1 q.1,()):aS [I]):=a49 p.1 q.1;have h2:aBC p.2 q.2=some ((ci p.2 q.2,()):aS [I]):=a49 p.2 q.2;unfold aKm;exact aB h1 (aB h2 (aB (orP _ _) rfl))
def leP (p q:jJ):Bool:=decide (cfP p q≤0)
def XT (a b c d:Int):Prop:=a<c∨(a=c∧b≤d)
theorem bCT (a b c d:Int):(if ci a c=0 then ci b d else ci a c)≤0↔XT a b c d:=by
 unfold ci XT
 repeat' split
 all_goals omega
theorem a3g (a b c d:Int):(if ci a c=0 then ci b d else ci a c)<0↔¬XT c d a b:=by
 unfold ci XT
 repeat' split
 all_goals omega
theorem aQk {a b c d e f:Int}(h:XT a b c d)(k:XT c d e f):XT a b e f:=by unfold XT at *;omega
theorem aQl {a b c d:Int}(h:¬XT a b c d):XT c d a b:=by unfold XT at *;omega
theorem aG2 {a b c d:Int}(h:XT a b c d)(k:XT c d a b):a=c∧b=d:=by unfold XT at *;omega
theorem aVU (a b:Int):XT a b a b:=by unfold XT;omega
theorem aQm {a b c d e f:Int}(h:¬XT a b c d)(k:¬XT c d e f):¬XT a b e f:=by unfold XT at *;omega
def UQ (p q:jJ):Prop:=XT p.1 p.2 q.1 q.2
theorem aNo {p q:jJ}:leP p q=true↔UQ p q:=by
 unfold leP;rw [decide_eq_true_eq];exact bCT p.1 p.2 q.1 q.2
theorem UQ.trans {a b c:jJ}(h:UQ a b)(k:UQ b c):UQ a c:=aQk h k
theorem UQ.total {a b:jJ}(h:¬UQ a b):UQ b a:=aQl h
theorem UQ.anti {a b:jJ}(h:UQ a b)(k:UQ b a):a=b:=Prod.ext (aG2 h k).1 (aG2 h k).2
def aKq (a:jJ):List jJ→List jJ
 | []=>[a]
 | b :: l=>bif leP a b then a :: b :: l else b :: aKq a l
def jN:List jJ→List jJ
 | []=>[]
 | a :: l=>aKq a (jN l)
theorem KU (a:jJ):∀ l,(aKq a l).Perm (a :: l)
 | []=>.refl _
 | b :: l=>by
  simp only [aKq];cases leP a b with
  | true=>exact .refl _
  | false=>exact((KU a l).cons b).trans (.swap a b l)
theorem wP:∀ l,(jN l).Perm l
 | []=>.refl _
 | a :: l=>(KU a _).trans ((wP l).cons a)
theorem mG (l:List jJ):(jN l).length=l.length:=(wP l).length_eq
theorem MN (a:jJ):∀ l,l.Pairwise UQ→(aKq a l).Pairwise UQ
 | [],_=>by simp [aKq]
 | b :: l,h=>by
  have hb:=List.pairwise_cons.1 h;simp only [aKq];cases hd:leP a b with
  | true=>
   have hab:UQ a b:=aNo.1 hd;refine List.pairwise_cons.2 ⟨fun x hx=>?_,h⟩;rcases aQL.1 hx with rfl | hx
   ·exact hab
   ·exact hab.trans (hb.1 x hx)
  | false=>
   have hab:¬UQ a b:=fun h=>by rw [aNo.2 h] at hd;cases hd
   refine List.pairwise_cons.2 ⟨fun x hx=>?_,MN a l hb.2⟩;rcases aQL.1 ((KU a l).mem_iff.1 hx) with rfl | hx
   ·exact UQ.total hab
   ·exact hb.1 x hx
theorem GW:∀ l,(jN l).Pairwise UQ
 | []=>.nil
 | a :: l=>MN a _ (GW l)
theorem aVV {l m:List jJ}(hp:m.Perm l)(hs:m.Pairwise UQ):m=jN l:=
 List.Perm.eq_of_pairwise (le:=UQ) (fun a b _ _ h k=>UQ.anti h k) hs (GW l) (hp.trans (wP l).symm)
def vP (p:jJ):List Value:=[.int .i64 p.1,.int .i64 p.2]
theorem aVW {w w':World}(h1:w'.os=w.os)(h2:w'.tape=w.tape)(h3:w'.output=w.output)(hs:w.heap.size≤w'.heap.size)(hk:∀ b,b<w.heap.size→w'.heap[b]?=w.heap[b]?)(hd:w.drawn≤w'.drawn):∃ q os',w'=grow (w.drewN q) os':=by
 refine⟨w'.drawn-w.drawn,w'.heap.extract w.heap.size w'.heap.size,?_⟩;have e:w'.heap=w.heap++w'.heap.extract w.heap.size w'.heap.size:=by
  apply Array.ext_getElem?;intro b;rw [Array.getElem?_append]
  split
  ·rename_i hb;exact hk b hb
  ·rename_i hb;rw [Array.getElem?_extract]
   split
   ·congr 1;omega
   ·rename_i h;rw [Array.getElem?_eq_none];omega
 cases w;cases w';simp only at h1 h2 h3 e hd;subst h1 h2 h3;unfold grow World.drewN;simp only [World.mk.injEq,true_and,and_true];exact⟨e,by omega⟩
theorem bCU (x y:jJ)(W:World):Calls Tryz.prog 297 #[.agg (vP x).toArray,.agg (vP y).toArray] W fun e w'=>e=.returned (.int .i64 (cfP x y))∧∃ q os',w'=grow (W.drewN q) os':=by
 have h:=a7F (x,y,()) (cfP x y,()) (bHN x y);have hv:aK W (fun _=>False) gI (bQ [.ty bF,.ty bF] (x,y,())) #[Value.agg (vP x).toArray,.agg (vP y).toArray].toList:=
  .cons (.xH (.cons (.int _ _) (.cons (.int _ _) .nil))) (.cons (.xH (.cons (.int _ _) (.cons (.int _ _) .nil))) .nil)
 refine(h (fun _=>False) gI W _ (.base fun b hb=>hb.elim) hv).mono ?_;rintro e w' ⟨R',ρ',u,⟨rfl,hu⟩,_,f⟩;have hu:aI w' R' ρ' (.int .i64 (cfP x y)) u:=hu;cases hu;exact⟨rfl,aVW f.os f.tape f.output f.size (fun b hb=>f.keeps b hb Lv.none) f.kQ⟩
theorem bHO:SWO (ltOf cfP):=by
 have e':∀ x y,ltOf cfP x y=true↔¬UQ y x:=fun x y=>by
  show decide (cfP x y<0)=true↔_;rw [decide_eq_true_eq];exact a3g x.1 x.2 y.1 y.2
 have e2:∀ x y,ltOf cfP x y=false↔UQ y x:=fun x y=>by
  rw [← Bool.not_eq_true,e',Classical.not_not]
 exact⟨fun x=>(e2 x x).2 (aVU _ _),fun x y z h1 h2=>by rw [e'] at *;exact aQm h2 h1,fun x y z h1 h2=>by rw [e2] at *;exact UQ.trans h2 h1⟩
def aVX:Go.Shelf.Ren:=⟨fun | 6=>296 | 14=>311 | 15=>150 | 20=>319 | 21=>320 | 22=>321 | 23=>322 | 24=>323 | 25=>324 | 26=>325 | 27=>326 | 28=>208 | 29=>209 | 46=>333 | 47=>251 | 48=>252 | 49=>334 | 50=>335 | 57=>338 | n=>n,fun | 0=>0 | 3=>3 | 4=>4 | 5=>5 | 9=>9 | 22=>167 | 24=>179 | 25=>340 | 39=>165 | 45=>258 | 46=>259 | 50=>187 | 53=>265 | 55=>147 | 66=>292 | 70=>109 | 76=>308 | 77=>309 | n=>n,fun n=>n⟩
theorem Z8:SlLaysF0.n6 Tryz.prog aVX:={
 mixed:=by kernel_rfl,
 f6:=⟨ "slices.SortFunc[[]maquette/api.Pair,maquette/api.Pair]",by kernel_rfl,Tryz.func296.trans (aKR some (by kernel_rfl))⟩,
 f14:=⟨ "slices.pdqsortCmpFunc[maquette/api.Pair]",by kernel_rfl,Tryz.func311.trans (aKR some (by kernel_rfl))⟩,
 f15:=Tryz.func150.trans (aKR some (by kernel_rfl)),
 f20:=⟨ "slices.insertionSortCmpFunc[maquette/api.Pair]",by kernel_rfl,Tryz.func319.trans (aKR some (by kernel_rfl))⟩,
 f21:=⟨ "slices.heapSortCmpFunc[maquette/api.Pair]",by kernel_rfl,Tryz.func320.trans (aKR some (by kernel_rfl))⟩,
 f22:=⟨ "slices.breakPatternsCmpFunc[maquette/api.Pair]",by kernel_rfl,Tryz.func321.trans (aKR some (by kernel_rfl))⟩,
 f23:=⟨ "slices.choosePivotCmpFunc[maquette/api.Pair]",by kernel_rfl,Tryz.func322.trans (aKR some (by kernel_rfl))⟩,
 f24:=⟨ "slices.reverseRangeCmpFunc[maquette/api.Pair]",by kernel_rfl,Tryz.func323.trans (aKR some (by kernel_rfl))⟩,
 f25:=⟨ "slices.partialInsertionSortCmpFunc[maquette/api.Pair]",by kernel_rfl,Tryz.func324.trans (aKR some (by kernel_rfl))⟩,
 f26:=⟨ "slices.partitionEqualCmpFunc[maquette/api.Pair]",by kernel_rfl,Tryz.func325.trans (aKR some (by kernel_rfl))⟩,
 f27:=⟨ "slices.partitionCmpFunc[maquette/api.Pair]",by kernel_rfl,Tryz.func326.trans (aKR some (by kernel_rfl))⟩,
 f28:=Tryz.func208.trans (aKR some (by kernel_rfl)),
 f29:=Tryz.func209.trans (aKR some (by kernel_rfl)),
 f46:=⟨ "slices.siftDownCmpFunc[maquette/api.Pair]",by kernel_rfl,Tryz.func333.trans (aKR some (by kernel_rfl))⟩,
 f47:=Tryz.func251.trans (aKR some (by kernel_rfl)),
 f48:=Tryz.func252.trans (aKR some (by kernel_rfl)),
 f49:=⟨ "slices.medianAdjacentCmpFunc[maquette/api.Pair]",by kernel_rfl,Tryz.func334.trans (aKR some (by kernel_rfl))⟩,
 f50:=⟨ "slices.medianCmpFunc[maquette/api.Pair]",by kernel_rfl,Tryz.func335.trans (aKR some (by kernel_rfl))⟩,
 f57:=⟨ "slices.order2CmpFunc[maquette/api.Pair]",by kernel_rfl,Tryz.func338.trans (aKR some (by kernel_rfl))⟩,
 t0:=Tryz.underlying0,a0:=Tryz.isAgg0,z0:=Tryz.sizeOf0,v0:=Tryz.zeroValue0,
 t3:=Tryz.underlying3,a3:=Tryz.isAgg3,z3:=Tryz.sizeOf3,v3:=Tryz.zeroValue3,
 t4:=Tryz.underlying4,a4:=Tryz.isAgg4,z4:=Tryz.sizeOf4,v4:=Tryz.zeroValue4,
 t5:=Tryz.underlying5,a5:=Tryz.isAgg5,z5:=Tryz.sizeOf5,v5:=Tryz.zeroValue5,
 t9:=Tryz.underlying9,a9:=Tryz.isAgg9,z9:=Tryz.sizeOf9,v9:=Tryz.zeroValue9,
 t22:=Tryz.underlying167,a22:=Tryz.isAgg167,z22:=Tryz.sizeOf167,v22:=Tryz.zeroValue167,
 t25:=Tryz.underlying340,a25:=Tryz.isAgg340,z25:=Tryz.sizeOf340,v25:=Tryz.zeroValue340,
 t39:=Tryz.underlying165,a39:=Tryz.isAgg165,z39:=Tryz.sizeOf165,v39:=Tryz.zeroValue165,
 t45:=Tryz.underlying258,a45:=Tryz.isAgg258,z45:=Tryz.sizeOf258,v45:=Tryz.zeroValue258,
 t46:=Tryz.underlying259,a46:=Tryz.isAgg259,z46:=Tryz.sizeOf259,v46:=Tryz.zeroValue259,
 t50:=Tryz.underlying187,a50:=Tryz.isAgg187,z50:=Tryz.sizeOf187,v50:=Tryz.zeroValue187,
 t53:=Tryz.underlying265,a53:=Tryz.isAgg265,z53:=Tryz.sizeOf265,v53:=Tryz.zeroValue265,
 t55:=Tryz.underlying147,a55:=Tryz.isAgg147,z55:=Tryz.sizeOf147,v55:=Tryz.zeroValue147,
 t66:=Tryz.underlying292,a66:=Tryz.isAgg292,z66:=Tryz.sizeOf292,v66:=Tryz.zeroValue292,
 t70:=Tryz.underlying109,a70:=Tryz.isAgg109,z70:=Tryz.sizeOf109,v70:=Tryz.zeroValue109,
 t76:=Tryz.underlying308,a76:=Tryz.isAgg308,z76:=Tryz.sizeOf308,v76:=Tryz.zeroValue308,
 t77:=Tryz.underlying309,a77:=Tryz.isAgg309,z77:=Tryz.sizeOf309,v77:=Tryz.zeroValue309 }
abbrev aNp:aF:=⟨2,[(0,.own bF 0),(1,.vE 297 [])],[.row 179 bF],fun s=>[aG s 0]⟩
abbrev UR:aF:=⟨0,[],[.row 179 bF],fun _=>[0]⟩
def EF (b0:List (Ty.El bF)):Option UR.El:=bif Nat.ble b0.length 1000000000 then some ((),jN b0,()) else none
def aVY:aW:=.dV 296 [297] ⟨1,[.bU 0 179 bF,.dJ 0 179 bF],aNp,UR,fun x=>EF x.2.1⟩
theorem aKr {w:World}{R:Nat→Prop}{ρ:Nm}{l:List jJ}{arr:Array Value}(hv:aK w R ρ (bF.flat l) (arr.toList.take (l.length*2)))(hsz:l.length*2≤arr.size){j o:Nat}(hj:j<l.length)(ho:o<2):arr[j*2+o]?=(vP l[j])[o]?:=by
 have e:(bF.flat l)[j*bF.sz+o]?=(bF.at l j).cells[o]?:=bF.iV l hj ho;have e:(bF.flat l)[j*2+o]?=(bF.at l j).cells[o]?:=e;have ea:bF.at l j=bF.enc l[j]:=by
  unfold Ty.at;rw [aQj,aJS hj];rfl
 rw [ea] at e;have hlt:j*2+o<arr.size:=by omega
 have hu:(arr.toList.take (l.length*2))[j*2+o]?=some arr[j*2+o]:=by
  rw [aXO (by omega),aQ3,aXN hlt]
 rw [aXN hlt]
 match o,ho with
 | 0,_=>
  have e:(bF.flat l)[j*2+0]?=some (.int .i64 l[j].1):=e;have:=hv.2 _ _ _ e hu;generalize arr[j*2+0]=u at this ⊢;cases this;rfl
 | 1,_=>
  have e:(bF.flat l)[j*2+1]?=some (.int .i64 l[j].2):=e;have:=hv.2 _ _ _ e hu;generalize arr[j*2+1]=u at this ⊢;cases this;rfl
theorem Z9 {d:Array jJ}{j o:Nat}(hj:j<d.size)(ho:o<2):(flatK vP 2 d)[j*2+o]?=(vP d[j])[o]?:=by
 have hlt:j*2+o<(flatK vP 2 d).size:=by rw [size_flatK];omega
 have h1:=get_flatK vP 2 d (j*2+o) (by omega);rw [getElem!_pos (flatK vP 2 d) (j*2+o) hlt] at h1;rw [aXN hlt,h1,show(j*2+o) / 2=j by omega,show(j*2+o) % 2=o by omega,getElem!_pos d j hj]
 match o,ho with
 | 0,_=>rfl
 | 1,_=>rfl
theorem a7I {w:World}{R:Nat→Prop}{ρ:Nm}{l:List jJ}{arr:Array Value}{b:Nat}(hv:aK w R ρ (bF.flat l) (arr.toList.take (l.length*2)))(hsz:l.length*2≤arr.size)(hb:w.heap[b]?=some (.cells arr 179 (0,0))):HoldsK vP 2 w b 0 l.toArray:=by
 intro t ht;rw [size_flatK] at ht;have hl:l.toArray.size=l.length:=by simp
 rw [hl] at ht;have hf:=Z9 (d:=l.toArray) (j:=t / 2) (o:=t % 2) (by rw [hl];omega) (by omega);have hc:=aKr hv hsz (j:=t / 2) (o:=t % 2) (by omega) (by omega);rw [show t / 2*2+t % 2=t by omega] at hf hc;have hlt:t<(flatK vP 2 l.toArray).size:=by rw [size_flatK,hl];exact ht
 refine⟨?_,by simp [World.frozen?,hb]⟩;rw [getElem!_pos (flatK vP 2 l.toArray) t hlt,id,← aXN hlt,hf];have e:(l.toArray)[t / 2]'(by rw [hl];omega)=l[t / 2]'(by omega):=by simp
 rw [e,← hc];simp [World.cell?,hb]
theorem XU {d cur:Array Value}(h:d.size≤cur.size){t:Nat}(ht:t<d.size):(putCells (id:Value→Value) 0 d cur)[t]?=d[t]?:=by
 have h2:t<cur.size:=by omega
 rw [aXN ht];simp [putCells,ht,h2]
theorem aKs {l:List jJ}{d:Array jJ}(hp:PermIn 0 l.length l.toArray d)(hs:SortedIn (ltOf cfP) 0 l.length d):d.size=l.length∧jN l=d.toList:=by
 obtain⟨h1,_,h3⟩:=hp;have hl:l.toArray.size=l.length:=by simp
 rw [hl] at h1;have e1:l.toArray.extract 0 l.length=l.toArray:=by rw [Array.extract_eq_self_of_le (by rw [hl];exact aKQ _)]
 have e2:d.extract 0 l.length=d:=by rw [Array.extract_eq_self_of_le (by omega)]
 rw [e1,e2] at h3;refine⟨h1,(aVV (by simpa using h3) ?_).symm⟩;rw [List.pairwise_iff_getElem];intro i j hi hj hij;rw [a1e] at hi hj;have h4:=hs i j (aLj _) hij (by omega);rw [getElem!_pos d i hi,getElem!_pos d j hj] at h4;have h5:¬(cfP d[j] d[i]<0):=of_decide_eq_false h4;rw [Array.getElem_toList,Array.getElem_toList];generalize d[i]=p at h5 ⊢;generalize d[j]=q at h5 ⊢;exact Classical.not_not.1 fun hn=>h5 ((a3g q.1 q.2 p.1 p.2).2 hn)
theorem a0A:(DF.mk 1 [.bU 0 179 bF,.dJ 0 179 bF] aNp UR (fun x=>EF x.2.1)).Ok CT.P 296:=by
 intro x y hxy R ρ w vs hr hvs;have hxy:EF x.2.1=some y:=hxy;unfold EF at hxy;generalize hl:x.2.1=l at hxy;cases hb:Nat.ble l.length 1000000000 with
 | false=>rw [hb] at hxy;cases hxy
 | true=>
 rw [hb] at hxy;have hlen:=a9q hb;have hy:y=((),jN l,()):=(Option.some.inj hxy).symm;subst hy;have hr:Rel R ρ [some (.row 179 bF x.2.1)] w:=hr;have hvs:aK w R ρ [.bL bF 0,.func 297 [] []] vs.toList:=hvs;rw [hl] at hr;obtain⟨u0,us,hu,h1,h2⟩:=hvs.cons_inv;obtain⟨u1,us1,rfl,h3,h4⟩:=h2.cons_inv;obtain rfl:=h4.bE;have hv:vs=#[u0,u1]:=aRl.1 (by simpa using hu);subst hv;have hone:∀ (m:List jJ) (k:Nat) (blk:cQ),([some (cQ.row 179 bF m)]:AH)[k]?=some (some blk)→k=0∧blk=.row 179 bF m:=by
  intro m k blk hk;cases k with
  | zero=>simp at hk;exact⟨rfl,hk.symm⟩
  | succ k=>simp at hk
 show Calls CT.P 296 #[u0,u1] w fun q w'=>∃ R' ρ' u,q=.returned u∧aI w' R' ρ' (.xF []) u∧Rel R' ρ' [some (.row 179 bF (jN l))] w'∧eF 1 R ρ [some (.row 179 bF x.2.1)] w R' ρ' [some (.row 179 bF (jN l))] w';rw [hl];have hfn:u1=.func (.func 297) #[] #[]:=by
  cases h3 with
  | func vf vc e1 e2 _ _=>
   have e1:vf.size=0:=e1;have e2:vc.size=0:=e2;rw [a9C e1,a9C e2]
 subst hfn;cases h1 with
 | @bL _ _ b N cap hn hg hlc hc=>
  obtain⟨b',N',hn',hB,gG⟩:=hr.live 0 _ rfl;rw [hn] at hn';simp only [aJp,aKN] at hn';obtain⟨rfl,rfl⟩:=hn';have q1:N.len=l.length:=hB.1;obtain⟨arr,q3,q4,q5,q6⟩:=iG hB hg;rw [bF.cH] at q5 q6;have hs2:bF.sz=2:=rfl;rw [hs2] at q5 q6 hc;have hsz:l.length*2≤arr.size:=by rw [q4];exact q5
  have hblk:b<w.heap.size:=(aZK.1 q3).1;have hla:l.toArray.size=l.length:=by simp
  have hcmp:CmpLays Tryz.prog 297 #[] vP 2 cfP b 0 l.toArray.size w:=fun m os dk _ x y=>bCU x y _;have eg:∀ args w,(callFunc 297 args).run Tryz.prog w=.ok (.enter 297 args) w:=enters_of Tryz.func297 (by kernel_rfl) rfl;have hs:=AnyQ.slices_SortFunc Z8 2 Tryz.isAgg179 Tryz.sizeOf179 vP (fun _=>rfl) (fun x v hv=>by
   rcases aQL.1 hv with h | hv
   ·subst h;rfl
   ·rcases aQL.1 hv with h | hv
    ·subst h;rfl
    ·cases hv) cfP bHO 297 #[] b 0 cap l.toArray w eg hcmp (a7I q6 hsz q3) hblk (by rw [hla];omega)
  rw [hla] at hs;rw [q1];refine Calls.mono (P:=Tryz.prog) (f:=296) hs ?_;rintro e w' ⟨rfl,d',n,os,hp,hso,rfl⟩;obtain⟨f1,f3⟩:=aKs hp hso;have hfk:(flatK vP 2 d').size=l.length*2:=by rw [size_flatK,f1]
  have hput:sortWorldK vP 2 w b 0 n d' os=grow (putRow id (Sort.ahead w n) b 0 (flatK vP 2 d')) os:=rfl;rw [hput];generalize hrow:flatK vP 2 d'=row at *
  have hheap:(grow (putRow id (Sort.ahead w n) b 0 row) os).heap[b]?=some (.cells (putCells id 0 row arr) 179 (0,0)):=by
   rw [heap_grow_old _ _ (by simpa [putRow,mapBlock,Sort.ahead] using hblk)];simp [putRow,mapBlock,Sort.ahead,Array.getElem?_modify,q3,onCells]
  have aJz:(grow (putRow id (Sort.ahead w n) b 0 row) os).heap.size=w.heap.size+os.size:=by
   rw [size_grow];simp [putRow,mapBlock,Sort.ahead]
  have hkeep:∀ k,k<w.heap.size→k≠b→(grow (putRow id (Sort.ahead w n) b 0 row) os).heap[k]?=w.heap[k]?:=by
   intro k hk hne;rw [heap_grow_old _ _ (by simpa [putRow,mapBlock,Sort.ahead] using hk)];have:b≠k:=fun e=>hne e.symm;simp [putRow,mapBlock,Sort.ahead,Array.getElem?_modify,this]
  have bJ:¬R b:=gG.aEm hg;have hlv:∀ c,Lv ρ [some (.row 179 bF l)] c→c=b:=by
   rintro c ⟨k,blk,M,hk,hn',hg'⟩;obtain⟨rfl,rfl⟩:=hone l k blk hk;rw [hn] at hn';simp only [aJp,aKN] at hn';exact hn'.1.symm
  have aSL:∀ c,Lv ρ [some (.row 179 bF (jN l))] c→Lv ρ [some (.row 179 bF l)] c:=by
   rintro c ⟨k,blk,M,hk,hn',hg'⟩;obtain⟨rfl,rfl⟩:=hone _ k blk hk;exact⟨0,_,M,rfl,hn',hg'⟩
  have hcells:aK (grow (putRow id (Sort.ahead w n) b 0 row) os) R ρ (bF.flat (jN l)) ((putCells id 0 row arr).toList.take (bF.flat (jN l)).length):=by
   rw [bF.cH,mG,hs2];refine⟨by rw [aP6,bF.cH,mG,hs2];simp [putCells];omega,fun k c u hc' hu=>?_⟩;have hk:k<l.length*2:=by
    have:=(aK2.1 hc').1;rw [bF.cH,mG,hs2] at this;exact this
   rw [aXO hk,aQ3,XU (by omega) (by omega)] at hu;have hj:k / 2<l.length:=by omega
   have ho:k % 2<2:=by omega
   have hki:k=k / 2*2+k % 2:=by omega
   have hj':k / 2<d'.size:=by omega
   rw [hki,← hrow,Z9 hj' ho] at hu;have hjs:k / 2<(jN l).length:=by rw [mG];exact hj
   have g1:(bF.flat (jN l))[k / 2*bF.sz+k % 2]?=(bF.at (jN l) (k / 2)).cells[k % 2]?:=bF.iV (jN l) hjs ho;have g3:bF.at (jN l) (k / 2)=bF.enc d'[k / 2]:=by
    unfold Ty.at;congr 1;rw [f3,aQj,aQ3,aXN hj',a0f]
   rw [hki] at hc';have hc':(bF.flat (jN l))[k / 2*bF.sz+k % 2]?=some c:=hc';rw [g1,g3] at hc';generalize d'[k / 2]=p at hc' hu
   match hm:k % 2,ho with
   | 0,_=>
    rw [hm] at hc' hu;have e1:(some (AV.int .i64 p.1):Option AV)=some c:=hc';have e2:some (Value.int .i64 p.1)=some u:=hu;cases e1;cases e2;exact .int _ _
   | 1,_=>
    rw [hm] at hc' hu;have e1:(some (AV.int .i64 p.2):Option AV)=some c:=hc';have e2:some (Value.int .i64 p.2)=some u:=hu;cases e1;cases e2;exact .int _ _
  have hsp:(putCells id 0 row arr).size=N.n:=by simp [putCells,q4]
  refine⟨R,ρ,_,rfl,.mU .nil,⟨fun k blk hk=>?_,fun k k' bk bk' c Nk Nk' hk hk' _ _ _ _=>?_,fun k hk=>hr.dom k hk,fun c hc'=>by rw [aJz];exact a1r (hr.ro c hc') (a9v _ _)⟩,
   ⟨rfl,rfl,rfl,by rw [aJz];exact a9v _ _,fun _ h=>h,fun c hc' hnl=>hkeep c hc' fun e=>hnl (e▸⟨0,_,N,rfl,hn,hg⟩),fun c hl'=>.inl (aSL c hl'),fun _ h=>.inl h,a9v _ _,fun _ _ _ h=>h⟩⟩
  ·obtain⟨rfl,rfl⟩:=hone _ k blk hk;refine⟨b,N,hn,j8 ⟨_,hheap,hsp,by rw [bF.cH,mG,hs2];exact q5,hcells⟩ (by rw [q1,mG]),?_⟩;rcases gG with⟨h5,h6⟩ | ⟨h5,_⟩
   ·exact .inl ⟨h5,h6⟩
   ·rw [hg] at h5;cases h5
  ·rw [(hone _ k _ hk).1,(hone _ k' _ hk').1]
 | @iY _ _ b N hn hg=>
  obtain⟨b',N',hn',hB,gG⟩:=hr.live 0 _ rfl;rw [hn] at hn';simp only [aJp,aKN] at hn';obtain⟨rfl,rfl⟩:=hn';have hl0:l=[]:=by
   rcases gG with⟨h5,_⟩ | ⟨_,t,ty,h5⟩
   ·rw [hg] at h5;cases h5
   ·injection h5 with _ h6 h7
    subst h6;exact eq_of_heq h7
  subst hl0;have hs:=AnyF.slices_SortFunc_none Z8 none 0 (.func (.func 297) #[] #[]) w;refine Calls.mono (P:=Tryz.prog) (f:=296) hs ?_;rintro e w' ⟨rfl,rfl⟩;exact⟨R,ρ,_,rfl,.mU .nil,hr,eF.refl _ _ _ _⟩
theorem a7K:aVY.Ok CT.P:=aW.mZ a0A
end Go.DI.S
end
