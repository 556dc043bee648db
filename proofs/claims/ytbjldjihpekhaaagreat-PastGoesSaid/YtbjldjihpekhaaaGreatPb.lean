import Derived.Test.YtbjldjihpekhaaaGreatZg
import Derived.Test.YtbjldjihpekhaaaGreatPa
/- PastGoes, plain. No conditions. -/
set_option linter.unusedSimpArgs false
set_option linter.unusedVariables false
set_option maxRecDepth 100000
set_option maxHeartbeats 0
noncomputable section
namespace Go.DI.S
open Go.Proofs
theorem take_one {α:Type}{l:List α}{k:Nat}{a:α}(h:l[k]?=some a):l.take (k+1)=l.take k++[a]:=by
 rw [List.take_add_one,h];rfl
def aAs (t:Thing):List UInt8:=j4 (fG ((qS t).length:Int) 2)++j4 (qS t)
def aFH (s:aZ):List UInt8:=j4 (fG s.1.1 8)++j4 (fG s.1.2 8)++j4 (fG s.2.1 4)++j4 (fG (s.2.2.length:Int) 2)
def j6 (s:aZ):List UInt8:=aFH s++s.2.2.flatMap aAs
theorem aOw {t:Thing}(hl:(ins t).length≤20):(qS t).length≤100:=by
 have h20:t.2.2.2.2.length≤20:=hl;unfold qS;rw [aPk,aPk,eU,eU];cases (t.2.1==(1:Int)) <;> cases (t.2.1==(2:Int)) <;> cases (t.2.1==(3:Int)) <;> simp [aMf,aCh,RR,eU,a1J] <;> omega
theorem aQ2 {t:Thing}(hl:(ins t).length≤20):(aAs t).length=2+(qS t).length:=by
 unfold aAs;rw [aPk,aMh,aMh,eU]
theorem aEh:∀ (l:List Thing),(∀ t∈l,(ins t).length≤20)→(l.flatMap aAs).length≤102*l.length
 | [],_=>by simp
 | t :: l,h=>by
  rw [aXJ,aPk,aQ2 (h t (by simp)),aQO];have h1:=aEh l (fun u hu=>h u (by simp [hu]));have h2:=aOw (h t (by simp));omega
theorem aYF (s:aZ):(aFH s).length=22:=by simp [aFH,aMh,eU]
section
variable {s:aZ}
theorem bKl (hs:Small s.2.2)(hr:bK s=true)(h20:∀ t∈s.2.2,(ins t).length≤20):OO s=some ((j6 s,()):aS [.str]):=by
 have hR:=bR hr;have h40:=hR.len;have h:=iJ (G:=fun x=>aAt x.1.1 x.1.2.1 x.1.2.2.1 x.1.2.2.2.1) (m:=fuel) s.2.2 (fun _=>false) (fun k=>((aFH s++(s.2.2.take k).flatMap aAs,s.2.2,(s.2.2.length:Int),(k:Int),()),())) (fun _=>.inr ((),())) (.inl ((j6 s,()),()))
  (fun k t ha=>?_) ?_ (fuel_lt hs.1)
 ·have hnone:s.2.2.findIdx? (fun _=>false)=none:=by rw [a9z];intro _ _;rfl
  rw [hnone] at h;have w8:∀ v:Int,aAS v 8=some ((j4 (fG v 8),()):aS [.str]):=fun v=>bAc v 8 (by omega);have w4:∀ v:Int,aAS v 4=some ((j4 (fG v 4),()):aS [.str]):=fun v=>bAc v 4 (by omega);have w2:∀ v:Int,aAS v 2=some ((j4 (fG v 2),()):aS [.str]):=fun v=>bAc v 2 (by omega);have l8:∀ v:Int,(j4 (fG v 8)).length=8:=fun v=>by rw [aMh,eU]
  have l4:∀ v:Int,(j4 (fG v 4)).length=4:=fun v=>by rw [aMh,eU]
  have l2:∀ v:Int,(j4 (fG v 2)).length=2:=fun v=>by rw [aMh,eU]
  have k1:(j4 (fG s.1.1 8)).length+(j4 (fG s.1.2 8)).length≤4611686018427387904:=by rw [l8,l8];omega
  have k2:(j4 (fG s.1.1 8)++j4 (fG s.1.2 8)).length+(j4 (fG s.2.1 4)).length≤4611686018427387904:=by rw [aPk,l8,l8,l4];omega
  have k3:(j4 (fG s.1.1 8)++j4 (fG s.1.2 8)++j4 (fG s.2.1 4)).length+(j4 (fG (s.2.2.length:Int) 2)).length≤4611686018427387904:=by rw [aPk,aPk,l8,l8,l4,l2];omega
  have e:j4 (fG s.1.1 8)++j4 (fG s.1.2 8)++j4 (fG s.2.1 4)++j4 (fG (s.2.2.length:Int) 2)=aFH s++(s.2.2.take 0).flatMap aAs:=by simp [aFH]
  unfold OO;refine aB (JI s hs) ?_;rw [hr];refine cU rfl (aB (w8 _) (aB (w8 _) (bZ (aKO k1) (aB (w4 _) (bZ (aKO k2) (aB (w2 _) (bZ (aKO k3) ?_)))))));unfold aHZ;show(aH _ fuel ((j4 (fG s.1.1 8)++j4 (fG s.1.2 8)++j4 (fG s.2.1 4)++j4 (fG (s.2.2.length:Int) 2),s.2.2,(s.2.2.length:Int),(0:Int),()),())).bind _=_;rw [e,show(0:Int)=((0:Nat):Int) from rfl];rw [h];rfl
 ·have hk:=dF ha;have ht:=aPl ha;have hrt:=(hR.low t ht).2.2;have hp:=aOw (h20 t ht);have hpl:=aEh (s.2.2.take k) (fun u hu=>h20 u (List.mem_of_mem_take hu));have htk:(s.2.2.take k).length≤40:=by rw [aP6];omega
  have h61:=a5u t (by have:t.2.2.2.2.length≤20:=h20 t ht;omega);rw [hrt,cond_true] at h61;simp only [aAt,dec_lt hk,bI hk,cond_true,bB ha];rw [h61,show(2:Int)=((2:Nat):Int) from rfl];simp only [aEk,aMh,bAc _ 2 (by omega)];have hw:IntKind.i64.wrap ((k:Int)+1)=((k+1:Nat):Int):=aN hk (by have:=hs.1;omega);rw [aKO (by rw [eU];omega:(fG ((qS t).length:Int) 2).length+(qS t).length≤4611686018427387904),cond_true,
   aKO (by rw [aPk,aYF,aPk,aMh,aMh,eU];omega),cond_true,hw,take_one ha,List.flatMap_append]
  simp [aAs]
 ·simp only [aAt,bA,cond_false,aYZ];rfl
end
def Oks (l:List Entry):Prop:=∀ e∈l,RE e
theorem bKm {e:Entry}(h:RE e):aLB e=some ((false,()):aS [.bool]):=by
 unfold aLB;refine aB (bH5 e (by have:=h.len;omega)) ?_;rw [aK1.2 h];rfl
theorem bKn (l:List Entry)(h:Oks l)(hl:l.length≤1000):aL1 l ()=some ((-1,()):aS [I]):=by
 unfold aL1;have:=gM (G:=fun x=>HM x.1.1 x.1.2.1 x.1.2.2.1 x.1.2.2.2.1) (n:=l.length) (inv:=fun k=>((l,(),(l.length:Int),(k:Int),()),())) (y:=.inl ((),())) (fun k hk=>?_) ?_ l.length 0 fuel (by omega) (fuel_lt (by omega))
 ·exact aB this rfl
 ·have ha:=aJS hk;show HM l () (l.length:Int) (k:Int)=_;unfold HM;simp only [dec_lt hk,bI hk,cond_true,bB ha,aN hk (by omega)];exact aB (bKm (h _ (aXB hk))) rfl
 ·show HM l () (l.length:Int) (l.length:Int)=_;unfold HM;simp only [bA,cond_false]
theorem bKo (l:List Entry)(h:Oks l)(hl:l.length≤16):aX1 l=some ((true,()):aS [.bool]):=by
 unfold aX1;refine bZ (aKO (by omega)) ?_;have:aL2 l ()=some ((false,()):aS [.bool]):=by
  unfold aL2;exact aB (bKn l h (by omega)) rfl
 exact aB this rfl
theorem bEn (l m:List Entry)(h:Oks l)(k:Oks m)(hl:l.length≤16)(hm:m.length≤16):aL4 (l,m)=some ((true,()):aS [.bool]):=by
 unfold aL4;exact aB (bKo l h hl) (aB (bKo m k hm) rfl)
theorem bKp (l:List kM)(h:l.length≤1000):aEz l=some ((l,()):aS [.list bD]):=by
 unfold aEz aSH;rw [show Nat.ble (l.length*40) 70368744177664=true from aPp (by omega)];rfl
theorem bE8 (l:List Entry)(h:Oks l)(hl:l.length≤1000):aFC l=some ((l,()):aS [.list cA]):=by
 unfold aFC;have:=gM (G:=fun x=>LB x.1.2.1 x.1.2.2.1 x.1.2.2.2.1 x.2.1) (n:=l.length) (inv:=fun k=>(((),l,(l.length:Int),(k:Int),()),l.take k,())) (y:=.inl (((),()),l,())) (fun k hk=>?_) ?_ l.length 0 fuel (by omega) (fuel_lt (by omega))
 ·exact aB this rfl
 ·have ha:=aJS hk;have hlen:=(h _ (aXB hk)).len;show LB l (l.length:Int) (k:Int) (l.take k)=_;unfold LB;simp only [dec_lt hk,bI hk,cond_true,bB ha,aN hk (by omega)];refine aB (bKp _ (by omega)) (bZ (aPp ?_) ?_)
  ·simp only [aP6,a9D];omega
  ·rw [take_one ha]
 ·show LB l (l.length:Int) (l.length:Int) (l.take l.length)=_;unfold LB;simp only [bA,cond_false,aYZ]
theorem bKq (l:List Entry)(hl:l.length≤1000):aEG l=some l:=by
 unfold aEG;rw [show Nat.ble (l.length*80) 70368744177664=true from aPp (by omega)];rfl
theorem bKr (l:List Entry)(e:Entry)(h:Oks l)(k:RE e)(hl:l.length<16):aX4 l e=some ((l++[e],()):aS [.list cA]):=by
 have hk:Oks (l++[e]):=fun x hx=>by
  rcases aLA.1 hx with hx | hx
  ·exact h x hx
  ·rw [aXF.1 hx];exact k
 have hle:(l++[e]).length=l.length+1:=by simp
 have hz:¬(0:Int)≤IntKind.i64.wrap (((l++[e]).length:Int)-16)-1:=by
  rw [wrap64 (by omega) (by omega)];omega
 unfold aX4;refine aB (bKq l (by omega)) (bZ (aPp ?_) (aB (bE8 _ hk (by omega)) ?_))
 ·simp only [a9D];omega
 ·have hw:(if(0:Int)>IntKind.i64.wrap (((l++[e]).length:Int)-16) then(0:Int) else IntKind.i64.wrap (((l++[e]).length:Int)-16))=0:=by
   rw [wrap64 (by omega) (by omega)]
   split <;> omega
  refine bZ (aKO ?_) ?_
  ·show(0:Int)≤(if(0:Int)>IntKind.i64.wrap (((l++[e]).length:Int)-16) then(0:Int) else IntKind.i64.wrap (((l++[e]).length:Int)-16))∧_;rw [hw];omega
  ·show some ((List.take ((l++[e]).length-(if(0:Int)>IntKind.i64.wrap (((l++[e]).length:Int)-16) then(0:Int) else IntKind.i64.wrap (((l++[e]).length:Int)-16)).toNat) (List.drop (if(0:Int)>IntKind.i64.wrap (((l++[e]).length:Int)-16) then(0:Int) else IntKind.i64.wrap (((l++[e]).length:Int)-16)).toNat (l++[e])),()):aS [.list cA])=_;rw [hw];simp only [Int.toNat_zero,Nat.sub_zero,List.drop_zero,aYZ]
theorem bL1 (l m:List Entry)(e:Entry)(h:Oks l)(k:Oks m)(he:RE e)(hl:l.length<16)(hm:m.length≤16):aN4 (l,m) e=some (((l++[e],[]),true,()):aS [fT,.bool]):=by
 unfold aN4;refine aB (bEn l m h k (by omega) hm) (cU rfl (aB (bH5 e (by have:=he.len;omega)) ?_));rw [aK1.2 he];exact cU rfl (aB (bKr l e h he hl) rfl)
theorem aAF {l:List Entry}(e:Entry)(hl:l.length≤1000):IntKind.i64.wrap (((l++[e]).length:Int)-1)=(l.length:Int):=by
 have:(l++[e]).length=l.length+1:=by simp
 rw [wrap64 (by omega) (by omega)];omega
theorem aEi (l:List Entry)(e d:Entry):List.getD (l++[e]) ((l.length:Int)).toNat d=e:=by
 simp
theorem bKs (l m:List Entry)(e:Entry)(h:Oks l)(k:Oks m)(he:RE e)(hl:l.length<16)(hm:m.length<16):aX7 (l++[e]) m=some ((l,m++[e],()):aS [.list cA,.list cA]):=by
 have hle:(l++[e]).length=l.length+1:=by simp
 unfold aX7;rw [aAF e (by omega)];refine bZ (aKO (by omega)) (aB (x:=(l,())) ?_ (bZ (aKO (by omega)) (aB (x:=(m++[e],())) ?_ rfl)))
 ·have:List.take ((l.length:Int).toNat-0) (List.drop 0 (l++[e]))=l:=by simp
  rw [this];exact bE8 l h (by omega)
 ·rw [aEi];exact bKr m e k he hm
theorem bL2 (l m:List Entry)(e:Entry)(s r:aZ)(h:Oks l)(k:Oks m)(he:RE e)(hl:l.length<16)(hm:m.length<16)(hs:Small s.2.2)(hr:bK s=true)(hb:a8y s e=some ((r,0,()):aS [aD,I])) :
  aQQ (l++[e],m) s=some (((l,m++[e]),r,0,()):aS [fT,aD,I]):=by
 have hle:(l++[e]).length=l.length+1:=by simp
 have hk:Oks (l++[e]):=fun x hx=>by
  rcases aLA.1 hx with hx | hx
  ·exact h x hx
  ·rw [aXF.1 hx];exact he
 unfold aQQ;refine aB (bEn _ m hk k (by omega) (by omega)) (cU rfl (aB (JI s hs) ?_));rw [hr];refine cU rfl (cU (beq_false_of_ne (by show((l++[e]).length:Int)≠0;omega)) ?_);show(bif decide ((0:Int)≤IntKind.i64.wrap (((l++[e]).length:Int)-1)∧IntKind.i64.wrap (((l++[e]).length:Int)-1)<((l++[e]).length:Int)) then(a8y s (List.getD (l++[e]) (IntKind.i64.wrap (((l++[e]).length:Int)-1)).toNat cA.dflt)).bind _ else _)=_;rw [aAF e (by omega),aEi];exact bZ (aKO (by omega)) (aB hb (cU rfl (aB (bKs l m e h k he hl hm) rfl)))
theorem bKt (l m:List Entry)(e:Entry)(s r:aZ)(h:Oks l)(k:Oks m)(he:RE e)(hl:l.length<16)(hm:m.length<16)(hs:Small s.2.2)(hr:bK s=true)(hb:a06 s e=some ((r,0,()):aS [aD,I])) :
  aAK (m,l++[e]) s=some (((m++[e],l),r,0,()):aS [fT,aD,I]):=by
 have hle:(l++[e]).length=l.length+1:=by simp
 have hk:Oks (l++[e]):=fun x hx=>by
  rcases aLA.1 hx with hx | hx
  ·exact h x hx
  ·rw [aXF.1 hx];exact he
 unfold aAK;refine aB (bEn m _ k hk (by omega) (by omega)) (cU rfl (aB (JI s hs) ?_));rw [hr];refine cU rfl (cU (beq_false_of_ne (by show((l++[e]).length:Int)≠0;omega)) ?_);show(bif decide ((0:Int)≤IntKind.i64.wrap (((l++[e]).length:Int)-1)∧IntKind.i64.wrap (((l++[e]).length:Int)-1)<((l++[e]).length:Int)) then(a06 s (List.getD (l++[e]) (IntKind.i64.wrap (((l++[e]).length:Int)-1)).toNat cA.dflt)).bind _ else _)=_;rw [aAF e (by omega),aEi];exact bZ (aKO (by omega)) (aB hb (cU rfl (aB (bKs l m e h k he hl hm) rfl)))
theorem bIB (m:List Entry)(s:aZ)(k:Oks m)(hm:m.length≤16)(hs:Small s.2.2)(hr:bK s=true):aAK (m,[]) s=some (((m,[]),s,13,()):aS [fT,aD,I]):=by
 unfold aAK;refine aB (bEn m _ k (fun x hx=>by cases hx) hm (by simp)) (cU rfl (aB (JI s hs) ?_));rw [hr];exact cU rfl (bZ rfl rfl)
section
variable {a b:aZ}
theorem a9k (ha:Rt a)(hb:Rt b):Ln a b (qN a b):=by
 refine⟨rfl,rfl,fun k=>?_,fun k=>?_,fun d hd=>?_,fun d hd=>?_,fun n hn=>?_⟩
 ·have k:(!MV a.1 b.1)=true:=k;refine⟨?_,?_⟩
  ·show(bif !MV a.1 b.1 then a.1 else _)=a.1;rw [k];rfl
  ·show(bif !MV a.1 b.1 then b.1 else _)=b.1;rw [k];rfl
 ·have k:(!MV a.1 b.1)=false:=k;have:MV a.1 b.1=true:=by simpa using k
  exact wW.1 this
 ·obtain⟨n,_,_,rfl⟩:=aOj.1 (show d∈oF a.2.2 b.2.2 (kN a.2.2 b.2.2) from hd);rfl
 ·obtain⟨n,_,_,rfl⟩:=aOj.1 (show d∈oF a.2.2 b.2.2 (kN a.2.2 b.2.2) from hd);rfl
 ·refine Classical.byContradiction fun h=>?_;have:inD (qN a b).1 n=true:=aOh.2 ⟨mkD a.2.2 b.2.2 n,aOj.2 ⟨n,aQX h,h,rfl⟩,rfl⟩;rw [this] at hn;cases hn
end
def aEj (s:aZ):Prop:=bK s=true∧Small s.2.2
theorem WU {s:aZ}(h:aEj s):OO s=some ((j6 s,()):aS [.str]):=
 bKl h.2 h.1 fun t ht=>aPB (GU (bR h.1) h.2 ht) (by decide)
theorem aOJ {a b:aZ}{e:Entry}(h:Ln a b e)(hE:RE e)(ha:aEj a)(hb:aEj b):a06 a e=some ((b,0,()):aS [aD,I]):=by
 have ho:=h.out (bR ha.1) (bR hb.1) (aAA ha.1 ha.2) (aAA hb.1 hb.2) hE.dl;have f1:=(bLE a e (aAD ha.2 ha.1) (by have:=hE.len;omega)).2.2.2 ha.1 (aK1.2 hE) h.fits
 rwa [ho,hb.1,aJb rfl] at f1
theorem bEo {a b:aZ}{e:Entry}(h:Ln a b e)(hE:RE e)(ha:aEj a)(hb:aEj b):a8y b e=some ((a,0,()):aS [aD,I]):=
 bLI b e (by have:=hE.len;omega) (aOJ h.turn (bA9 hE) hb ha)
structure Q7 (ss:List aZ)(xs:List Entry):Prop where
 len:ss.length=xs.length+1
 ok:∀ s∈ss,aEj s
 re:Oks xs
 ln:∀ k a b e,ss[k]?=some a→ss[k+1]?=some b→xs[k]?=some e→Ln a b e
theorem Q7.more {ss:List aZ}{xs:List Entry}{s r:aZ}{e:Entry}(h:Q7 ss xs)(hs:ss[xs.length]?=some s)(hr:aEj r)(hE:RE e)(hl:Ln s r e):Q7 (ss++[r]) (xs++[e]):=by
 have hlen:=h.len;refine⟨by simp [hlen],fun x hx=>?_,fun x hx=>?_,fun k a b d ha hb hd=>?_⟩
 ·rcases aLA.1 hx with hx | hx
  ·exact h.ok x hx
  ·rw [aXF.1 hx];exact hr
 ·rcases aLA.1 hx with hx | hx
  ·exact h.re x hx
  ·rw [aXF.1 hx];exact hE
 ·by_cases c:k<xs.length
  ·rw [aZ8 (by omega)] at ha hb;rw [aZ8 c] at hd;exact h.ln k a b d ha hb hd
  ·have hk:=(aK2.1 hd).1;have hk':k=xs.length:=by simp at hk;omega
   subst hk';rw [aZ8 (by omega),hs] at ha;rw [a1N (by omega),hlen] at hb;rw [a1N (by omega)] at hd;simp at hb hd;cases ha;subst hb;subst hd;exact hl
theorem Q7.get {ss:List aZ}{xs:List Entry}(h:Q7 ss xs){k:Nat}(hk:k≤xs.length):∃ s,ss[k]?=some s∧aEj s:=by
 have:=h.len;have hlt:k<ss.length:=by omega
 exact⟨ss[k],aJS hlt,h.ok _ (aXB hlt)⟩
abbrev SG (o:List Order)(k:Nat)(s:aZ)(xs:List Entry)(ss:List aZ):kL.El:=(((),(),(),o,(o.length:Int),(k:Int),()),(s,()),((xs,[]),()),ss.map j6,())
def bIC (o:List Order)(x:kL.El):Prop:=∃ (k:Nat) (s:aZ) (xs:List Entry) (ss:List aZ),k≤o.length∧xs.length≤k∧Q7 ss xs∧ss[xs.length]?=some s∧x=SG o k s xs ss
def QG (o:List Order)(y:HF.El⊕HL.El):Prop:=y=.inr ((true,()),())∨∃ (s:aZ) (xs:List Entry) (ss:List aZ),xs.length≤o.length∧Q7 ss xs∧ss[xs.length]?=some s∧y=.inl (((),(),(),()),(s,()),((xs,[]),()),ss.map j6,())
def stepG (o:List Order)(r40 r41:Int)(b0:aZ)(b1:fT.El)(b2:List (List UInt8))(c:Order):Option (kL.El⊕(HF.El⊕HL.El)):=
 (aHX b0 c).bind fun v2=>
  bif v2.2.2.1 != (0:Int) then some (.inl (((),(),(),o,r40,IntKind.i64.wrap (r41+1),()),(b0,()),(b1,()),b2,()))
  else(G9 b0 v2.1).bind fun v4=>
   bif !v4.2.1 then some (.inl (((),(),(),o,r40,IntKind.i64.wrap (r41+1),()),(b0,()),(b1,()),b2,()))
   else(aN4 b1 v4.1).bind fun v6=>bif !v6.2.1 then some (.inr (.inr ((false,()),())))
    else(OO v2.1).bind fun v8=>bif((b2.length+[v8.1].length)*16).ble 70368744177664 then some (.inl (((),(),(),o,r40,IntKind.i64.wrap (r41+1),()),(v2.1,()),(v6.1,()),b2++[v8.1],())) else none
theorem a9l {o:List Order}(ho:o.length≤16){k:Nat}(hk:k<o.length){s:aZ}{xs:List Entry}{ss:List aZ}(hx:xs.length≤k)(hc:Q7 ss xs)(hs:ss[xs.length]?=some s)(c:Order)(hi:c.2.2.2.2.2.2.2.2.2.2.2.length≤1000) :
  ∃ x',stepG o (o.length:Int) (k:Int) s (xs,[]) (ss.map j6) c=some (.inl x')∧∃ s' xs' ss',xs'.length≤k+1∧Q7 ss' xs'∧ss'[xs'.length]?=some s'∧x'=SG o (k+1) s' xs' ss':=by
 have hf:=hc.ok s (aPl hs);obtain⟨r,n,e,hD,bKu⟩:=bD2 s c hf.2 hi;have stay:∃ s' xs' ss',xs'.length≤k+1∧Q7 ss' xs'∧ss'[xs'.length]?=some s'∧SG o (k+1) s xs ss=SG o (k+1) s' xs' ss':=⟨s,xs,ss,by omega,hc,hs,rfl⟩;have hw:=aN hk (by omega);unfold stepG;rw [hw];rcases bKu with⟨he,_,_⟩ | ⟨rfl,_,hg⟩
 ·exact⟨_,aB hD (bZ (qA he) rfl),stay⟩
 ·have hr:aEj r:=⟨hg.right,hg.small⟩;have hv:=bEe s r (aAD hf.2 hf.1) (aAD hr.2 hr.1) hf.1 hr.1;cases hE:y5 (qN s r) with
  | false=>
   rw [hE,aJn (by decide)] at hv;exact⟨_,aB hD (cU rfl (aB hv (bZ rfl rfl))),stay⟩
  | true=>
   rw [hE,aJb rfl] at hv;have hE':=aK1.1 hE;have h31:=bL1 xs [] (qN s r) hc.re (fun x hx=>by cases hx) hE' (by omega) (by simp);have hlen:=hc.len;refine⟨_,aB hD (cU rfl (aB hv (cU rfl (aB h31 (cU rfl (aB (WU hr) (bZ (aPp ?_) rfl))))))),r,xs++[qN s r],ss++[r],by simp;omega,hc.more hs hr hE' (a9k (bR hf.1) (bR hr.1)),?_,?_⟩
   ·simp only [aRD,a9D];omega
   ·rw [a1N (by simp [hlen]),aPk,hlen];simp
   ·unfold SG;rw [List.map_append];rfl
theorem a9m (o:List Order)(ho:o.length≤16)(hw:∀ c∈o,c.2.2.2.2.2.2.2.2.2.2.2.length≤maxLen)(x:kL.El)(h:bIC o x):∃ y,aEe x=some y∧QG o y:=by
 refine bP (bIC o) (fun x=>o.length-x.1.2.2.2.2.2.1.toNat) (QG o) ?_ fuel x h (by unfold fuel;omega);rintro x ⟨k,s,xs,ss,hk,hx,hc,hs,rfl⟩;show(∃ x',OP o (o.length:Int) (k:Int) (s,()) ((xs,[]),()) (ss.map j6)=_∧_)∨∃ y,OP o (o.length:Int) (k:Int) (s,()) ((xs,[]),()) (ss.map j6)=_∧_;unfold OP;by_cases c:k<o.length
 ·have ha:=aJS c;simp only [dec_lt c,bI c,cond_true,bB ha];generalize hce:o[k]=co;by_cases h20:((co.2.2.2.2.2.2.2.2.2.2.2.length:Int)>20)
  ·exact .inr ⟨_,bZ (aKO h20) rfl,.inl rfl⟩
  obtain⟨x',hx',s',xs',ss',h1,h2,h3,rfl⟩:=a9l ho c hx hc hs co (by
   have:¬((co.2.2.2.2.2.2.2.2.2.2.2.length:Int)>20):=h20;omega)
  have hin:bIC o (SG o (k+1) s' xs' ss')∧o.length-(SG o (k+1) s' xs' ss').1.2.2.2.2.2.1.toNat<o.length-(SG o k s xs ss).1.2.2.2.2.2.1.toNat:=by
   refine⟨⟨k+1,s',xs',ss',c,h1,h2,h3,rfl⟩,?_⟩;show o.length-((k+1:Nat):Int).toNat<o.length-(k:Int).toNat;omega
  by_cases h5:co.2.2.2.2.2.2.2.2.2.2.1>5
  ·by_cases bEl:co.2.2.2.2.2.2.2.2.2.2.1≤200
   ·exact .inr ⟨_,cU (aKP h20) (bZ (aKO h5) (bZ (aKO bEl) rfl)),.inl rfl⟩
   ·exact .inl ⟨_,cU (aKP h20) (bZ (aKO h5) (cU (aKP bEl) hx')),hin⟩
  ·exact .inl ⟨_,cU (aKP h20) (cU (aKP h5) hx'),hin⟩
 ·have hk':k=o.length:=by omega
  subst hk';simp only [bA,cond_false];exact .inr ⟨_,rfl,.inr ⟨s,xs,ss,by omega,hc,hs,rfl⟩⟩
def at_ (ss:List aZ)(j:Nat):aZ:=ss.getD j eX
theorem bFb {ss:List aZ}{j:Nat}{s:aZ}(h:ss[j]?=some s):at_ ss j=s:=by
 unfold at_;rw [aQj,h];rfl
section
variable {ss:List aZ}{xs:List Entry}
theorem sO (hc:Q7 ss xs){j:Nat}(hj:j≤xs.length):ss[j]?=some (at_ ss j)∧aEj (at_ ss j):=by
 obtain⟨s,hs,hf⟩:=hc.get hj;rw [bFb hs];exact⟨hs,hf⟩
theorem aOK (hc:Q7 ss xs){j:Nat}(hj:j<xs.length):∃ e,xs[j]?=some e∧RE e∧Ln (at_ ss j) (at_ ss (j+1)) e:=by
 have he:=aJS hj;exact⟨xs[j],he,hc.re _ (aXB hj),hc.ln j _ _ _ (sO hc (by omega)).1 (sO hc (by omega)).1 he⟩
theorem aOO (hc:Q7 ss xs)(j:Nat):Oks (xs.take j):=fun x hx=>hc.re x (List.mem_of_mem_take hx)
theorem aO3 (hc:Q7 ss xs)(j:Nat):Oks (xs.drop j).reverse:=fun x hx=>hc.re x (List.mem_of_mem_drop (List.mem_reverse.1 hx))
theorem aU7 (hc:Q7 ss xs){j:Nat}(hj:j≤xs.length)(d:List UInt8):List.getD (ss.map j6) ((j:Nat):Int).toNat d=j6 (at_ ss j):=by
 rw [Int.toNat_natCast,aQj,aQn,(sO hc hj).1];rfl
theorem aO7 {j:Nat}{e:Entry}(he:xs[j]?=some e):(xs.drop j).reverse=(xs.drop (j+1)).reverse++[e]:=by
 obtain⟨hj,rfl⟩:=aK2.1 he;rw [aZw hj,List.reverse_cons]
abbrev SB (j:Int)(i:Nat):o6.El:=(((),(),ss.map j6,j,()),(at_ ss i,()),((xs.take i,(xs.drop i).reverse),()),())
abbrev SF (j:Int)(i:Nat):qJ.El:=(((),(),ss.map j6,j,()),(at_ ss i,()),((xs.take i,(xs.drop i).reverse),()),())
theorem aAw {i:Nat}(h:i≤xs.length):(xs.take i).length=i:=by rw [aP6];omega
theorem aVf (i:Nat):((xs.drop i).reverse).length=xs.length-i:=by rw [List.length_reverse,a9s]
theorem aYG (hc:Q7 ss xs)(h16:xs.length≤16):aAB (SB (ss:=ss) (xs:=xs) ((xs.length:Int)-1) xs.length)=some (.inl (((),(),ss.map j6,()),(at_ ss 0,()),(([],xs.reverse),()),())):=by
 have hlen:=hc.len;have h:=gM (G:=fun x=>wS x.1.2.2.1 x.1.2.2.2.1 x.2.1 x.2.2.1) (n:=xs.length) (inv:=fun i=>SB (ss:=ss) (xs:=xs) ((xs.length:Int)-i-1) (xs.length-i))
  (y:=.inl (((),(),ss.map j6,()),(at_ ss 0,()),(([],xs.reverse),()),())) (fun i hi=>?_) ?_ xs.length 0 fuel (by omega) (fuel_lt (by omega))
 ·have e:SB (ss:=ss) (xs:=xs) ((xs.length:Int)-((0:Nat):Int)-1) (xs.length-0)=SB (ss:=ss) (xs:=xs) ((xs.length:Int)-1) xs.length:=by simp
  rw [e] at h;exact h
 ·obtain⟨j,hj⟩:∃ j,xs.length-i=j+1:=⟨xs.length-i-1,by omega⟩;have hj':xs.length-(i+1)=j:=by omega
  have hjx:j<xs.length:=by omega
  have e1:(xs.length:Int)-(i:Int)-1=(j:Int):=by omega
  have e2:(xs.length:Int)-((i+1:Nat):Int)-1=(j:Int)-1:=by omega
  obtain⟨e,he,hE,hl⟩:=aOK hc hjx;have hA:=(sO hc (j:=j) (by omega)).2;have hB:=(sO hc (j:=j+1) (by omega)).2;have ht:=take_one he;have hr:=aO7 he;have h32:=bL2 (xs.take j) (xs.drop (j+1)).reverse e (at_ ss (j+1)) (at_ ss j) (aOO hc j) (aO3 hc (j+1)) hE (by rw [aAw (by omega)];omega) (by rw [aVf];omega) hB.2 hB.1 (bEo hl hE hA hB);show wS (ss.map j6) ((xs.length:Int)-(i:Int)-1) (at_ ss (xs.length-i),()) ((xs.take (xs.length-i),(xs.drop (xs.length-i)).reverse),())=some (.inl (SB ((xs.length:Int)-((i+1:Nat):Int)-1) (xs.length-(i+1))));rw [hj,hj',e1,e2,ht];unfold wS;have hw:IntKind.i64.wrap ((j:Int)-1)=(j:Int)-1:=wrap64 (by omega) (by omega);have E5:(j:Int)≥0:=by omega
  have hd2:(0:Int)≤(j:Int)∧(j:Int)<((ss.map j6).length:Int):=by rw [aRD,hlen];omega
  refine bZ (aKO E5) (aB h32 (cU rfl (aB (WU hA) (bZ (aKO hd2) (cU ?_ (cU ?_ ?_))))))
  ·show(!(j6 (at_ ss j)==List.getD (ss.map j6) ((j:Nat):Int).toNat _))=false;rw [aU7 hc (by omega),a1M];rfl
  ·exact KG (by show((xs.take j).length:Int)=_;rw [aAw (by omega)])
  ·show some (Sum.inl (((),(),ss.map j6,IntKind.i64.wrap ((j:Int)-1),()),(at_ ss j,()),((xs.take j,(xs.drop (j+1)).reverse++[e]),()),()))=_;rw [hw,← hr]
 ·show wS (ss.map j6) ((xs.length:Int)-(xs.length:Int)-1) (at_ ss (xs.length-xs.length),()) ((xs.take (xs.length-xs.length),(xs.drop (xs.length-xs.length)).reverse),())=_;rw [Nat.sub_self];unfold wS;have E5:¬((xs.length:Int)-(xs.length:Int)-1≥0):=by omega
  exact cU (aKP E5) rfl
theorem aYW (hc:Q7 ss xs)(h16:xs.length≤16):aAC (SF (ss:=ss) (xs:=xs) 1 0)=some (.inl (((),(),()),(at_ ss xs.length,()),((xs,[]),()),())):=by
 have hlen:=hc.len;have h:=gM (G:=fun x=>yX x.1.2.2.1 x.1.2.2.2.1 x.2.1 x.2.2.1) (n:=xs.length) (inv:=fun i=>SF (ss:=ss) (xs:=xs) ((i+1:Nat):Int) i)
  (y:=.inl (((),(),()),(at_ ss xs.length,()),((xs,[]),()),())) (fun i hi=>?_) ?_ xs.length 0 fuel (by omega) (fuel_lt (by omega))
 ·exact h
 ·obtain⟨e,he,hE,hl⟩:=aOK hc hi;have hA:=(sO hc (j:=i) (by omega)).2;have hB:=(sO hc (j:=i+1) (by omega)).2;have ht:=take_one he;have hr:=aO7 he;have h33:=bKt (xs.drop (i+1)).reverse (xs.take i) e (at_ ss i) (at_ ss (i+1)) (aO3 hc (i+1)) (aOO hc i) hE (by rw [aVf];omega) (by rw [aAw (by omega)];omega) hA.2 hA.1 (aOJ hl hE hA hB);show yX (ss.map j6) ((i+1:Nat):Int) (at_ ss i,()) ((xs.take i,(xs.drop i).reverse),())=some (.inl (SF ((i+1+1:Nat):Int) (i+1)));rw [hr];unfold yX;have hw:IntKind.i64.wrap (((i+1:Nat):Int)+1)=((i+1+1:Nat):Int):=by rw [wrap64 (by omega) (by omega)];omega
  have E5:((i+1:Nat):Int)<((ss.map j6).length:Int):=by rw [aRD,hlen];omega
  have hd2:(0:Int)≤((i+1:Nat):Int)∧((i+1:Nat):Int)<((ss.map j6).length:Int):=⟨by omega,E5⟩;refine bZ (aKO E5) (aB h33 (cU rfl (aB (WU hB) (bZ (aKO hd2) (cU ?_ (cU ?_ ?_))))))
  ·show(!(j6 (at_ ss (i+1))==List.getD (ss.map j6) ((i+1:Nat):Int).toNat _))=false;rw [aU7 hc (by omega),a1M];rfl
  ·refine KG ?_;show((xs.take i++[e]).length:Int)=_;rw [aPk,aAw (by omega)];rfl
  ·show some (Sum.inl (((),(),ss.map j6,IntKind.i64.wrap (((i+1:Nat):Int)+1),()),(at_ ss (i+1),()),((xs.take i++[e],(xs.drop (i+1)).reverse),()),()))=_;rw [hw,← ht]
 ·show yX (ss.map j6) ((xs.length+1:Nat):Int) (at_ ss xs.length,()) ((xs.take xs.length,(xs.drop xs.length).reverse),())=_;unfold yX;rw [aYZ,List.drop_length];have E5:¬(((xs.length+1:Nat):Int)<((ss.map j6).length:Int)):=by rw [aRD,hlen];omega
  exact cU (aKP E5) rfl
end
theorem aVH:aYw=some ((true,()):aS [.bool]):=by kernel_rfl
def aYY:aZ:=(((0:Int),(0:Int)),(1:Int),[])
theorem aPg:aEj aYY:=⟨by kernel_rfl,⟨by decide,fun t ht=>by cases ht⟩⟩
theorem bKv:bAj=some ((aYY,()):aS [aD]):=by kernel_rfl
theorem pastGoes (o:List Order)(hw:(Ty.list kY).wf o):aIW o=some ((true,()):aS [.bool]):=by
 unfold aIW;by_cases h16:((o.length:Int)>16)
 ·exact bZ (aKO h16) (aB aVH rfl)
 have ho:o.length≤16:=by omega
 have hwo:∀ c∈o,c.2.2.2.2.2.2.2.2.2.2.2.length≤maxLen:=fun c hc=>by
  have:=hw.2 c hc;exact this.2.2.2.2.2.2.2.2.2.2.2.1
 refine cU (aKP h16) (aB aVH (cU rfl (aB bKv (aB (WU aPg) ?_))));obtain⟨y,hy,hq⟩:=a9m o ho hwo (SG o 0 aYY [] [aYY]) ⟨0,aYY,[],[aYY],aLj _,aLj _,⟨rfl,(fun s hs=>by rw [aXF.1 hs];exact aPg),(fun e he=>by cases he),fun k a b e _ _ he=>by simp at he⟩,rfl,rfl⟩;refine aB hy ?_;rcases hq with rfl | ⟨s,xs,ss,hx,hc,hs,rfl⟩
 ·rfl
 have a9n:xs.length≤16:=by omega
 have hlen:=hc.len;have hs':=bFb hs;have h21:=aYG hc a9n;have h28:=aYW hc a9n;have hfin:=bIB xs (at_ ss xs.length) hc.re a9n (sO hc (aKQ _)).2.2 (sO hc (aKQ _)).2.1;have hw2:IntKind.i64.wrap (((ss.map j6).length:Int)-2)=(xs.length:Int)-1:=by
  rw [aRD,hlen,wrap64 (by omega) (by omega)];omega
 have e21:SB (ss:=ss) (xs:=xs) ((xs.length:Int)-1) xs.length=(((),(),ss.map j6,IntKind.i64.wrap (((ss.map j6).length:Int)-2),()),(s,()),((xs,[]),()),()):=by
  unfold SB;rw [hw2,hs',aYZ,List.drop_length];rfl
 rw [e21] at h21;refine aB h21 (aB (x:=.inl (((),(),()),(at_ ss xs.length,()),((xs,[]),()),())) ?_ ?_)
 ·have:SF (ss:=ss) (xs:=xs) 1 0=(((),(),ss.map j6,(1:Int),()),(at_ ss 0,()),(([],xs.reverse),()),()):=rfl;rw [this] at h28;exact h28
 ·exact aB hfin rfl
end Go.DI.S
end
