import Derived.Test.YtbjldjihpekhaaaGreatYa
import Derived.Test.YtbjldjihpekhaaaGreatMc
import Derived.Test.YtbjldjihpekhaaaGreatUc
/- A group let go; floats that are read, plain. No conditions. -/
set_option linter.unusedSimpArgs false
set_option linter.unusedVariables false
set_option maxRecDepth 100000
set_option maxHeartbeats 0
noncomputable section
namespace Go.DI.S
open Go.Proofs
def ML (t x:Thing):List Int:=(ins x++ins t).filter fun n=>!(n==aT t)
def fr (t x:Thing):Thing:=if(ins x).contains (aT t) then(x.1,x.2.1,x.2.2.1,x.2.2.2.1,cI (ML t x)) else x
def dR (t:Thing)(l:List Thing):List Thing:=(l.filter fun x=>!(aT x==aT t)).map (fr t)
theorem GS (t x:Thing):aT (fr t x)=aT x:=by unfold fr;split <;> rfl
theorem aNe (t x:Thing):(fr t x).2.1=x.2.1:=by unfold fr;split <;> rfl
theorem aVm (t x:Thing):(fr t x).2.2.2.1=x.2.2.2.1:=by unfold fr;split <;> rfl
theorem aVn {t x:Thing}{n:Int}:n∈ins (fr t x)↔if aT t∈ins x then(n∈ins x∨n∈ins t)∧n≠aT t else n∈ins x:=by
 unfold fr;by_cases h:aT t∈ins x
 ·rw [aJb (a1g.2 h),aJb h];show n∈cI (ML t x)↔_;rw [(gE _).mem_iff];unfold ML;simp [aXV];exact or_and_right.symm
 ·rw [aJn (by rw [a1g];exact h),aJn h]
theorem gS {t u:Thing}{l:List Thing}:u∈dR t l↔∃ x∈l,aT x≠aT t∧fr t x=u:=by
 unfold dR;simp only [aQ5,aXV];constructor
 ·rintro ⟨x,⟨h1,h2⟩,h3⟩;exact⟨x,h1,by simpa using h2,h3⟩
 ·rintro ⟨x,h1,h2,h3⟩;exact⟨x,⟨h1,by simpa using h2⟩,h3⟩
theorem mem_mk {id:Int}:∀ {l:List Int} {a:Int},l.Pairwise (· < ·)→(∀ n∈l,a<n∧KB n∧n≠id)→Mem id a l
 | [],_,_,_=>trivial
 | n :: l,a,hp,h=>by
  obtain⟨h1,h2⟩:=List.pairwise_cons.1 hp;obtain⟨k1,k2,k3⟩:=h n (by simp);exact⟨k1,k2,k3,mem_mk h2 fun m hm=>⟨h1 m hm,(h m (by simp [hm])).2⟩⟩
theorem A4 {id:Int}:∀ {l:List Int} {a:Int},Mem id a l→∀ n∈l,a<n∧KB n∧n≠id
 | [],_,_,n,hn=>by cases hn
 | m :: l,a,⟨h1,h2,h3,h4⟩,n,hn=>by
  rcases aQL.1 hn with rfl | hn
  ·exact⟨h1,h2,h3⟩
  ·obtain⟨k1,k2⟩:=A4 h4 n hn;exact⟨Int.lt_trans h1 k1,k2⟩
theorem KF {id:Int}:∀ {l:List Int} {a:Int},Mem id a l→l.Nodup
 | [],_,_=>List.nodup_nil
 | m :: l,a,⟨h1,h2,h3,h4⟩=>List.nodup_cons.2 ⟨fun h=>Int.lt_irrefl _ (A4 h4 m h).1,KF h4⟩
theorem aP8 {l:List Int}(hn:l.Nodup):(cI l).Pairwise (· < ·):=by
 have h1:=kZ l;have h2:(cI l).Nodup:=(gE l).nodup_iff.2 hn;exact(h1.and h2).imp fun⟨a,b⟩=>by omega
section
variable {s:aZ}{t:Thing}
theorem aP9 (h:EN s.2.2):EN (dR t s.2.2):=by
 rw [GN] at h ⊢;have:(dR t s.2.2).map aT=(s.2.2.filter fun x=>!(aT x==aT t)).map aT:=by
  unfold dR;rw [List.map_map];exact List.map_congr_left fun x _=>GS t x
 rw [this];exact h.sublist (List.Sublist.map aT List.filter_sublist)
theorem tX (h:Rt s)(hs:Small s.2.2){x:Thing}(hx:x∈s.2.2)(hn:ins x≠[]):x.2.1=3∧x.2.2.1=noB∧x.2.2.2.1=noJ∧Mem (aT x) 0 (ins x)∧1≤(ins x).length∧(ins x).length≤8:=by
 obtain⟨_,h1 | h1 | h1⟩:=p9 h hs hx
 ·exact absurd h1.2.2.1 hn
 ·exact absurd h1.2.2.1 hn
 ·exact h1
theorem aGU (h:Rt s)(hs:Small s.2.2){x:Thing}(hx:x∈s.2.2):aT x∉ins x:=fun hm=>by
 have:=tX h hs hx (List.ne_nil_of_mem hm);exact(A4 this.2.2.2.1 _ hm).2.2 rfl
theorem aAN (h:Rt s){x y:Thing}(hx:x∈s.2.2)(hy:y∈s.2.2){n:Int}(h1:n∈ins x)(h2:n∈ins y):aT x=aT y:=by
 rw [← fC h.apart hx h1,← fC h.apart hy h2]
theorem aNf (h:Rt s)(ht:t∈s.2.2){x:Thing}(hx:x∈s.2.2){n:Int}(hn:n∈ins (fr t x)):jS s.2.2 n=aT x∨(jS s.2.2 n=aT t∧jS s.2.2 (aT t)=aT x):=by
 rw [aVn] at hn;by_cases c:aT t∈ins x
 ·rw [aJb c] at hn;rcases hn.1 with h1 | h1
  ·exact .inl (fC h.apart hx h1)
  ·exact .inr ⟨fC h.apart ht h1,fC h.apart hx c⟩
 ·rw [aJn c] at hn;exact .inl (fC h.apart hx hn)
theorem aQa (h:Rt s)(hs:Small s.2.2)(ht:t∈s.2.2){x:Thing}(hx:x∈s.2.2)(hne:aT x≠aT t):(ML t x).Nodup:=by
 have hd:∀ {y:Thing},y∈s.2.2→(ins y).Nodup:=fun {y} hy=>by
  by_cases c:ins y=[]
  ·rw [c];exact List.nodup_nil
  ·exact KF (tX h hs hy c).2.2.2.1
 unfold ML;refine List.Nodup.sublist List.filter_sublist (List.nodup_append.2 ⟨hd hx,hd ht,fun a ha b hb e=>?_⟩);subst e;exact hne (aAN h hx ht ha hb)
theorem aGV (h:Rt s)(hs:Small s.2.2)(ht:t∈s.2.2)(hk:t.2.1=3){x:Thing}(hx:x∈s.2.2)(hne:aT x≠aT t)(hf:aT t∈ins x→(ML t x).length≤8):RtP (fr t x):=by
 have hx0:=p9 h hs hx;by_cases c:aT t∈ins x
 ·have hg:=tX h hs hx (List.ne_nil_of_mem c);have htk:ins t≠[]:=by
   obtain⟨_,h1 | h1 | h1⟩:=p9 h hs ht
   ·rw [hk] at h1;exact absurd h1.1 (by decide)
   ·rw [hk] at h1;exact absurd h1.1 (by decide)
   ·intro e;have:=h1.2.2.2.2.1;rw [e] at this;exact absurd this (by decide)
  have hgt:=tX h hs ht htk;have e:fr t x=(x.1,x.2.1,x.2.2.1,x.2.2.2.1,cI (ML t x)):=by unfold fr;rw [aJb (a1g.2 c)]
  rw [e];refine⟨hx0.1,.inr (.inr ⟨hg.1,hg.2.1,hg.2.2.1,?_,?_,?_⟩)⟩
  ·show Mem (aT x) 0 (cI (ML t x));refine mem_mk (aP8 (aQa h hs ht hx hne)) fun n hn=>?_;rw [(gE _).mem_iff] at hn;unfold ML at hn;rw [aXV,aLA] at hn;rcases hn.1 with h1 | h1
   ·exact A4 hg.2.2.2.1 n h1
   ·obtain⟨k1,k2,_⟩:=A4 hgt.2.2.2.1 n h1;refine⟨k1,k2,fun e=>?_⟩;subst e;have u1:jS s.2.2 (aT x)=aT t:=fC h.apart ht h1;have u2:jS s.2.2 (aT t)=aT x:=fC h.apart hx c;refine h.n5 hs ⟨x,hx,rfl⟩ 2 (by decide) ?_;show jS s.2.2 (jS s.2.2 (aT x))=aT x;rw [u1,u2]
  ·show 1≤(cI (ML t x)).length;obtain⟨n,hn⟩:=List.exists_mem_of_ne_nil _ htk;refine List.length_pos_of_mem (a:=n) ((gE _).mem_iff.2 ?_);unfold ML;rw [aXV,aLA];refine⟨.inr hn,?_⟩;have:n≠aT t:=fun e=>aGU h hs ht (e▸hn);simpa using this
  ·show(cI (ML t x)).length≤8;rw [gN];exact hf c
 ·have e:fr t x=x:=by unfold fr;rw [aJn (by rw [a1g];exact c)]
  rw [e];exact hx0
theorem MM (hs:Small s.2.2)(hl:∀ x∈s.2.2,aT t∈ins x→(ML t x).length≤8):Small (dR t s.2.2):=by
 refine⟨?_,fun u hu=>?_⟩
 ·unfold dR;rw [aRD];exact aPB (aXR _ _) hs.1
 ·obtain⟨x,hx,_,rfl⟩:=gS.1 hu;unfold fr
  split
  ·rename_i c;show(cI (ML t x)).length≤_;rw [gN];have:=hl x hx (a1g.1 c);omega
  ·exact hs.2 x hx
theorem UA {n:Int}(hn:Is s.2.2 n)(hne:n≠aT t):Is (dR t s.2.2) n:=by
 obtain⟨x,hx,e⟩:=hn;exact⟨fr t x,gS.2 ⟨x,hx,by rw [e];exact hne,rfl⟩,by rw [GS];exact e⟩
theorem ZY (h:Rt s)(ht:t∈s.2.2)(n:Int):jS (dR t s.2.2) n=0∨jS (dR t s.2.2) n=jS s.2.2 n∨jS (dR t s.2.2) n=jS s.2.2 (jS s.2.2 n):=by
 by_cases h0:jS (dR t s.2.2) n=0
 ·exact .inl h0
 ·right;obtain⟨u,hu,hm,e⟩:=pT h0;obtain⟨x,hx,_,rfl⟩:=gS.1 hu;rw [← e,GS];rcases aNf h ht hx hm with h1 | ⟨h1,h2⟩
  ·exact .inl h1.symm
  ·exact .inr (by rw [h1,h2])
theorem ZZ (h:Rt s)(hs:Small s.2.2)(ht:t∈s.2.2)(n:Int):∀ k,kG (dR t s.2.2) k n=0∨∃ m,k≤m∧kG (dR t s.2.2) k n=kG s.2.2 m n
 | 0=>.inr ⟨0,aKQ _,rfl⟩
 | k+1=>by
  rw [fA];rcases ZZ h hs ht n k with h1 | ⟨m,h1,h2⟩
  ·rw [h1];left;rcases ZY h ht 0 with h2 | h2 | h2
   ·exact h2
   ·rw [h2];exact h.aJg hs
   ·rw [h2,h.aJg hs];exact h.aJg hs
  ·rw [h2];rcases ZY h ht (kG s.2.2 m n) with h3 | h3 | h3
   ·exact .inl h3
   ·exact .inr ⟨m+1,by omega,by rw [h3,fA]⟩
   ·exact .inr ⟨m+2,by omega,by rw [h3,fA,fA]⟩
theorem aGW (hr:bK s=true)(hs:Small s.2.2)(ht:t∈s.2.2)(hk:t.2.1=3)(hl:∀ x∈s.2.2,aT t∈ins x→(ML t x).length≤8):bK (s.1,s.2.1,dR t s.2.2)=true:=by
 have h:=bR hr;have hsm:Small (dR t s.2.2):=MM hs hl;have a0o:EN (dR t s.2.2):=aP9 h.mS;refine yS (s:=(s.1,s.2.1,dR t s.2.2)) a0o (fun u hu=>?_) ?_ h.next (show m0 s.1=true from wL hr) (fun u hu=>?_) ?_ fun u hu j hj=>?_
 ·obtain⟨x,hx,hne,rfl⟩:=gS.1 hu;obtain⟨h1,h2,_⟩:=h.low x hx;rw [GS];exact⟨h1,h2,(yR (hsm.2 _ hu)).2 (aGV h hs ht hk hx hne (hl x hx))⟩
 ·show(dR t s.2.2).length≤40;unfold dR;rw [aRD];exact aPB (aXR _ _) h.len
 ·obtain⟨x,hx,hne,rfl⟩:=gS.1 hu;obtain⟨e1,e2⟩:=Cp.rE (h.ends x hx);have a3e:∀ {n:Int},dM s.2.2 n=1→dM (dR t s.2.2) n=1:=fun {n} hn=>by
   obtain⟨y,hy,e,k⟩:=vT hn;have hyt:aT y≠aT t:=fun e'=>by
    have:=h.mS.kind hy;rw [e',h.mS.kind ht,hk] at this;rw [k] at this;exact absurd this (by decide)
   have hm:fr t y∈dR t s.2.2:=gS.2 ⟨y,hy,hyt,rfl⟩;have:=a0o.kind hm;rw [GS,e,aNe] at this;rw [this];exact k
  refine Cp.KD (s:=(s.1,s.2.1,dR t s.2.2)) (fun k=>?_) fun n hn=>?_
  ·rw [aNe] at k;rw [aVm];exact⟨a3e (e1 k).1,a3e (e1 k).2⟩
  ·rw [aVn] at hn;refine DT (s:=(s.1,s.2.1,dR t s.2.2)) hsm a0o ?_;show Is (dR t s.2.2) n;by_cases c:aT t∈ins x
   ·rw [aJb c] at hn;rcases hn.1 with h1 | h1
    ·exact UA (h.fS hs hx h1) hn.2
    ·exact UA (h.fS hs ht h1) hn.2
   ·rw [aJn c] at hn;refine UA (h.fS hs hx hn) fun e=>c (e▸hn)
 ·show((dR t s.2.2).flatMap ins).Nodup;have hn:∀ u∈dR t s.2.2,(ins u).Nodup:=fun u hu=>by
   obtain⟨x,hx,hne,rfl⟩:=gS.1 hu;obtain⟨_,h1 | h1 | h1⟩:=aGV h hs ht hk hx hne (hl x hx)
   ·rw [h1.2.2.1];exact List.nodup_nil
   ·rw [h1.2.2.1];exact List.nodup_nil
   ·exact KF h1.2.2.2.1
  have hp:=GN.1 a0o;rw [List.pairwise_map] at hp;refine List.pairwise_flatMap.2 ⟨hn,List.Pairwise.imp_of_mem (fun {a b} ha hb hab n hna m hmb e=>?_) hp⟩;subst e;obtain⟨x,hx,hxt,rfl⟩:=gS.1 ha;obtain⟨y,hy,hyt,rfl⟩:=gS.1 hb;rw [GS,GS] at hab;have hxy:aT x≠aT y:=fun e=>Int.lt_irrefl _ (e▸hab);rcases aNf h ht hx hna with h1 | ⟨h1,h1'⟩
  ·rcases aNf h ht hy hmb with h2 | ⟨h2,h2'⟩
   ·exact hxy (h1.symm.trans h2)
   ·exact hxt (h1.symm.trans h2)
  ·rcases aNf h ht hy hmb with h2 | ⟨h2,h2'⟩
   ·exact hyt (h2.symm.trans h1)
   ·exact hxy (h1'.symm.trans h2')
 ·obtain⟨x,hx,hne,rfl⟩:=gS.1 hu;rw [GS];show kG (dR t s.2.2) (j+1) (aT x)≠aT x;intro e;rcases ZZ h hs ht (aT x) (j+1) with h1 | ⟨m,h1,h2⟩
  ·rw [h1] at e;exact h.pos ⟨x,hx,rfl⟩ e.symm
  ·rw [h2] at e;exact h.n5 hs ⟨x,hx,rfl⟩ m (by omega) e
end
theorem qA {a b:Int}(h:a≠b):(a != b)=true:=by simpa using h
theorem KG {a b:Int}(h:a=b):(a != b)=false:=by simpa using h
theorem a0p {l:List Int}{a:Int}(h:a∉l):l.contains a=false:=by
 have:¬l.contains a=true:=fun h'=>h (a1g.1 h');simpa using this
theorem a0q {n:Nat}(hn:n≤1000000):AJ () (n:Int)=some []:=by
 unfold AJ;by_cases h:n=0
 ·subst h;rfl
 ·rw [aKO (show(0:Int)<(n:Int) by omega),aKO (show(n:Int)≤1000000 by omega)];rfl
theorem bCM (a b:List Int)(ha:a.length≤1000)(hb:b.length≤1000):aGd [a,b]=some (a++b):=by
 have w1:IntKind.i64.wrap ((0:Int)+(a.length:Int))=(a.length:Int):=by rw [wrap64 (by omega) (by omega)];omega
 have w2:IntKind.i64.wrap ((a.length:Int)+(b.length:Int))=((a.length+b.length:Nat):Int):=by rw [wrap64 (by omega) (by omega)];omega
 have n1:decide ((a.length:Int)<0)=false:=aKP (by omega);have n2:decide ((((a.length+b.length:Nat):Int))<0)=false:=aKP (by omega);have e3:NY (([a,b],(0:Int),[a,b],(2:Int),(0:Int),()),())=some (.inl (([a,b],((a.length+b.length:Nat):Int),()),())):=by
  unfold NY;rw [show fuel=18446744073709551613+1+1+1 from rfl,bT (x':=(([a,b],(a.length:Int),[a,b],(2:Int),(1:Int),()),())),bT (x':=(([a,b],((a.length+b.length:Nat):Int),[a,b],(2:Int),(2:Int),()),())),bM (y:=.inl (([a,b],((a.length+b.length:Nat):Int),()),()))]
  ·rfl
  ·show(bif decide (IntKind.i64.wrap ((a.length:Int)+(b.length:Int))<(0:Int)) then _ else some (Sum.inl (([a,b],IntKind.i64.wrap ((a.length:Int)+(b.length:Int)),[a,b],(2:Int),(2:Int),()),())))=_;rw [w2,n2];rfl
  ·show(bif decide (IntKind.i64.wrap ((0:Int)+(a.length:Int))<(0:Int)) then _ else some (Sum.inl (([a,b],IntKind.i64.wrap ((0:Int)+(a.length:Int)),[a,b],(2:Int),(1:Int),()),())))=_;rw [w1,n1];rfl
 have e11:F5 (((),[a,b],(2:Int),(0:Int),()),[],())=some (.inl (((),()),a++b,())):=by
  unfold F5;rw [show fuel=18446744073709551613+1+1+1 from rfl,bT (x':=(((),[a,b],(2:Int),(1:Int),()),a,())),bT (x':=(((),[a,b],(2:Int),(2:Int),()),a++b,())),bM (y:=.inl (((),()),a++b,()))]
  ·rfl
  ·show(bif((a.length+b.length)*8).ble 70368744177664 then some (Sum.inl (((),[a,b],(2:Int),(2:Int),()),a++b,())) else none)=_;rw [aPp (show(a.length+b.length)*8≤70368744177664 by omega)];rfl
  ·show(bif(([]:List Int).length+a.length)*8 |>.ble 70368744177664 then some (Sum.inl (((),[a,b],(2:Int),(1:Int),()),[]++a,())) else none)=_;rw [aPp (show(([]:List Int).length+a.length)*8≤70368744177664 by simp;omega)];rfl
 unfold aGd;exact aB e3 (aB (a0q (by omega)) (aB e11 rfl))
theorem a6x (l:List Int)(t:Thing)(hl:l.length≤1000000000):SK (t,()) l=some ((GQ l (fun n=>n==aT t),()),(t,()),l,()):=by
 have h:=iJ (G:=fun x=>yH x.1.2.2.1 x.1.2.2.2.1 x.2.1 x.2.2.1) (m:=fuel) l (fun n=>n==aT t) (fun k=>(((),(),(l.length:Int),(k:Int),()),(t,()),l,())) (fun k=>.inr (((k:Int),()),(t,()),l,())) (.inl ((),(t,()),l,()))
  (fun k x hx=>?_) ?_ (fuel_lt hl)
 ·unfold SK SI GQ;rw [show(0:Int)=((0:Nat):Int) from rfl,h];cases l.findIdx? (fun n=>n==aT t) <;> rfl
 ·have hk:=dF hx;simp only [yH,dec_lt hk,bI hk,cond_true,bB hx,aN hk (by omega)];show(bif(x==aT t) then _ else _)=_;cases (x==aT t) <;> rfl
 ·simp only [yH,bA,cond_false]
def tY (t:Thing)(n:Int):Bool:=!(n==aT t)
theorem KH (l:List Int)(t:Thing)(hl:l.length≤1000000000):∀ (d f j i:Nat) (r:List Int),j+d=l.length→d<f→r.length=l.length→i<j→r.take i=(l.take j).filter (tY t)→r.drop j=l.drop j →
  ∃ (r':List Int) (i':Nat),aH (fun x=>tG x.1.2.2.1 x.1.2.2.2.1 x.2.1 x.2.2.1) f (((),(),(i:Int),(j:Int),()),(t,()),r,())=some (.inl (((),(i':Int),()),(t,()),r',()))∧r'.length=l.length∧i'<l.length∧r'.take i'=l.filter (tY t)
 | 0,f,j,i,r,hj,hf,hr,hi,h1,h2=>by
  obtain⟨f,rfl⟩:∃ k,f=k+1:=⟨f-1,by omega⟩;have:j=l.length:=by omega
  subst this;refine⟨r,i,bM (by simp only [tG,hr,bA,cond_false]) f,hr,hi,?_⟩;rw [h1,aYZ]
 | d+1,f,j,i,r,hj,hf,hr,hi,h1,h2=>by
  obtain⟨f,rfl⟩:∃ k,f=k+1:=⟨f-1,by omega⟩;have hlt:j<l.length:=by omega
  have hlr:j<r.length:=by omega
  have hir:i<r.length:=by omega
  have e1:r[j]=l[j]:=by
   have:=h2;rw [aZw hlt,aZw hlr] at this;injection this
  have e2:r.drop (j+1)=l.drop (j+1):=by
   have:=h2;rw [aZw hlt,aZw hlr] at this;injection this
  have ht:l.take (j+1)=l.take j++[l[j]]:=aZ7 hlt;cases hk:(l[j]==aT t) with
  | true=>
   obtain⟨r',i',k1,k2,k3,k4⟩:=KH l t hl d f (j+1) i r (by omega) (by omega) hr (by omega) (by
    rw [ht,List.filter_append,h1];have:[l[j]].filter (tY t)=[]:=by simp only [List.filter_cons,List.filter_nil,tY,hk];rfl
    rw [this,a1d]) e2
   refine⟨r',i',?_,k2,k3,k4⟩;rw [bT (x':=(((),(),(i:Int),((j+1:Nat):Int),()),(t,()),r,())) ?_ f]
   ·exact k1
   ·simp only [tG,dec_lt hlr,bI hlr,cond_true,bB (aJS hlr),e1,aN hlt (by omega)];show(bif !(l[j]==aT t) then _ else _)=_;rw [hk];rfl
  | false=>
   obtain⟨r',i',k1,k2,k3,k4⟩:=KH l t hl d f (j+1) (i+1) (r.set i l[j]) (by omega) (by omega) (by rw [aXK];exact hr) (by omega) (by
    have hs:(r.set i l[j]).take (i+1)=r.take i++[l[j]]:=by
     rw [aZ7 (by rw [aXK];exact hir),List.getElem_set_self,List.take_set_of_le (aKQ _)]
    rw [hs,ht,List.filter_append,h1];have:[l[j]].filter (tY t)=[l[j]]:=by simp only [List.filter_cons,List.filter_nil,tY,hk];rfl
    rw [this]) (by rw [List.drop_set_of_lt (by omega),e2])
   refine⟨r',i',?_,k2,k3,k4⟩;rw [bT (x':=(((),(),((i+1:Nat):Int),((j+1:Nat):Int),()),(t,()),r.set i l[j],())) ?_ f]
   ·exact k1
   ·simp only [tG,dec_lt hlr,bI hlr,bI hir,cond_true,bB (aJS hlr),e1,aN hlt (by omega),aN hir (by omega)];show(bif !(l[j]==aT t) then _ else _)=_;rw [hk];rfl
theorem a6y (l:List Int)(t:Thing)(hl:l.length≤1000000000):SP (t,()) l=some (((),()),(t,()),l.filter (tY t),()):=by
 unfold SP;rw [a6x l t hl];simp only [aEk];unfold GQ;cases hx:l.findIdx? (fun n=>n==aT t) with
 | none=>
  rw [a9z] at hx;have:l.filter (tY t)=l:=List.filter_eq_self.2 fun n hn=>by unfold tY;rw [hx n hn];rfl
  rw [this];rfl
 | some k=>
  rw [List.findIdx?_eq_some_iff_getElem] at hx;obtain⟨h1,h2,h3⟩:=hx;have hne:((k:Int)==(-1:Int))=false:=beq_eq_false_iff_ne.2 (by omega);have hd:l.length-(k+1)<fuel:=fuel_lt (by omega);obtain⟨r',i',k1,k2,k3,k4⟩:=KH l t hl (l.length-(k+1)) fuel (k+1) k l (by omega) hd rfl (by omega) (by
   rw [aZ7 h1,List.filter_append];have e1:[l[k]].filter (tY t)=[]:=by simp only [List.filter_cons,List.filter_nil,tY,h2];rfl
   have e2:(l.take k).filter (tY t)=l.take k:=List.filter_eq_self.2 fun n hn=>by
    obtain⟨j,hj,e⟩:=List.getElem_of_mem hn;rw [aP6] at hj;have hj:j<k:=by omega
    rw [List.getElem_take] at e;have:=h3 j hj;unfold tY;rw [← e];simpa using this
   rw [e1,e2,a1d]) rfl
  rw [hne,cond_false,aN h1 (by omega)];have hR:SN (((),(),(k:Int),((k+1:Nat):Int),()),(t,()),l,())=some (.inl (((),(i':Int),()),(t,()),r',())):=k1;rw [hR];simp only [aEk,aQM];have c1:decide ((0:Int)≤(i':Int)∧(i':Int)≤(r'.length:Int))=true:=aKO (by omega);have c2:i'.blt r'.length=true:=by rw [Nat.blt_eq];omega
  have c3:(i'*1+(r'.length-i')).beq r'.length=true:=(by rw [Nat.beq_eq];omega);have c4:Nat.blt 0 r'.length=true:=by rw [Nat.blt_eq];omega
  have e5:(r'.take (i'*1)++List.replicate (r'.length-i') (0:Int)).length=r'.length:=by simp;omega
  have e6:(r'.take (i'*1)++List.replicate (r'.length-i') (0:Int)).take i'=r'.take i':=by
   rw [Nat.mul_one,List.take_append_of_le_length (by rw [aP6];omega),List.take_take,Nat.min_self]
  refine bZ c1 (bZ c2 (bZ ?_ (bZ (aKO ⟨by show(0:Int)≤(i':Int);omega,?_⟩) (bZ ?_ ?_))))
  ·show(true&&((i'*1+(r'.length-i')).beq r'.length&&(Nat.blt 0 r'.length&&true)))=true;rw [c3,c4];rfl
  ·show(i':Int)≤(((r'.take (i'*1)++List.replicate (r'.length-i') (0:Int)).length:Nat):Int);rw [e5];omega
  ·show Nat.blt 0 ((r'.take (i'*1)++List.replicate (r'.length-i') (0:Int)).length)=true;rw [e5];exact c4
  ·show some (((),()),(t,()),(r'.take (i'*1)++List.replicate (r'.length-i') (0:Int)).take i',())=_;rw [e6,k4]
theorem GU {s:aZ}(h:Rt s)(hs:Small s.2.2){x:Thing}(hx:x∈s.2.2):(ins x).length≤8:=by
 by_cases c:ins x=[]
 ·rw [c];exact aLj _
 ·exact(tX h hs hx c).2.2.2.2.2
theorem EB (t:Thing)(l:List Thing)(x:Thing):dR t (l++[x])=(if aT x=aT t then dR t l else dR t l++[fr t x]):=by
 unfold dR;rw [List.filter_append,List.map_append];by_cases h:aT x=aT t
 ·rw [aJb h];have:[x].filter (fun x=>!(aT x==aT t))=[]:=by simp [h]
  rw [this];simp
 ·rw [aJn h];have:[x].filter (fun x=>!(aT x==aT t))=[x]:=by simp [h]
  rw [this];rfl
theorem aQb (t:Thing)(l:List Thing):(dR t l).length≤l.length:=by
 unfold dR;rw [aRD];exact aXR _ _
theorem a6z {w:aR.El}(hs:Small w.1.2.2)(hr:bK w.1=true){t:Thing}(ht:t∈w.1.2.2)(z:aZ)(g:fW)(nx:Int) :
  ∃ y,SR (((),(),(),(),(),(w.1.2.2.length:Int),(0:Int),()),(w,()),(z,()),(t,()),(g,nx,(),()),[],w.1.2.2,())=some y ∧
   ((y=.inl (((),(),(),()),(w,()),(z,()),(g,nx,(),()),dR t w.1.2.2,())∧∀ x∈w.1.2.2,aT t∈ins x→(ML t x).length≤8)∨y=.inr (((),(),(0:Int),(12:Int),()),(w,()),(w.1,()),())):=by
 have h:=bR hr;have h40:=h.len;have:=bP (G:=fun x=>tH x.1.2.2.2.2.2.1 x.1.2.2.2.2.2.2.1 x.2.1 x.2.2.1 x.2.2.2.1 x.2.2.2.2.1 x.2.2.2.2.2.1 x.2.2.2.2.2.2.1)
  (fun x=>∃ k:Nat,k≤w.1.2.2.length∧(∀ x∈w.1.2.2.take k,aT t∈ins x→(ML t x).length≤8)∧x=(((),(),(),(),(),(w.1.2.2.length:Int),(k:Int),()),(w,()),(z,()),(t,()),(g,nx,(),()),dR t (w.1.2.2.take k),w.1.2.2,()))
  (fun x=>w.1.2.2.length-x.1.2.2.2.2.2.2.1.toNat)
  (fun y=>(y=.inl (((),(),(),()),(w,()),(z,()),(g,nx,(),()),dR t w.1.2.2,())∧∀ x∈w.1.2.2,aT t∈ins x→(ML t x).length≤8)∨y=.inr (((),(),(0:Int),(12:Int),()),(w,()),(w.1,()),())) ?_ fuel (((),(),(),(),(),(w.1.2.2.length:Int),(0:Int),()),(w,()),(z,()),(t,()),(g,nx,(),()),[],w.1.2.2,()) ⟨0,aLj _,by simp,rfl⟩ (by
   show w.1.2.2.length-(0:Int).toNat<fuel;unfold fuel;omega)
 ·exact this
 ·rintro x ⟨k,hk,hq,rfl⟩;show(∃ x',tH (w.1.2.2.length:Int) (k:Int) (w,()) (z,()) (t,()) (g,nx,(),()) (dR t (w.1.2.2.take k)) w.1.2.2=_∧_)∨∃ y,tH (w.1.2.2.length:Int) (k:Int) (w,()) (z,()) (t,()) (g,nx,(),()) (dR t (w.1.2.2.take k)) w.1.2.2=_∧_;unfold tH;by_cases hlt:k<w.1.2.2.length
  ·have ha:=aJS hlt;generalize hx:w.1.2.2[k]=x at ha;have hxm:x∈w.1.2.2:=aPl ha;have h8:=GU h hs hxm;have h8t:=GU h hs ht;have htk:w.1.2.2.take (k+1)=w.1.2.2.take k++[x]:=by rw [aZ7 hlt,hx]
   have hfl:(dR t (w.1.2.2.take k)).length≤40:=aPB (aQb _ _) (by rw [aP6];omega);have h59:=aZZ x.2.2.2.2 t.1 (by show(ins x).length≤_;omega);have CJ:∀ j:Int,w.1.2.2.length-(IntKind.i64.wrap ((k:Int)+1)).toNat<w.1.2.2.length-(k:Int).toNat:=fun _=>by
    rw [aN hlt (by omega)];omega
   have hsz:∀ u:Thing,Nat.ble (((dR t (w.1.2.2.take k)).length+[u].length)*128) 70368744177664=true:=fun u=>aPp (by simp only [aQO,List.length_nil];omega);simp only [dec_lt hlt,bI hlt,cond_true,bB ha];by_cases hc:aT t∈ins x
   ·have hcb:(x.2.2.2.2).contains t.1=true:=a1g.2 hc;rw [hcb] at h59;have bCN:=bCM x.2.2.2.2 t.2.2.2.2 (by show(ins x).length≤_;omega) (by show(ins t).length≤_;omega);have bCO:=a6y (x.2.2.2.2++t.2.2.2.2) t (by rw [aPk];show(ins x).length+(ins t).length≤_;omega);have htl:(ML t x).length≤16:=aPB (aXR _ _) (by rw [aPk];omega);have e74:xD (ML t x)=some ((),cI (ML t x),()):=by
     unfold xD;rw [show Nat.ble (ML t x).length 1000000=true from aPp (by omega)];rfl
    have hnt:aT x≠aT t:=fun e=>aGU h hs ht (by
     have:x=t:=by
       obtain⟨i,hi⟩:=List.mem_iff_getElem?.1 hxm;obtain⟨j,hj⟩:=List.mem_iff_getElem?.1 ht;have:=h.mS.one hi hj e;subst this;exact Option.some.inj (hi.symm.trans hj)
     exact this▸hc)
    by_cases h9:(ML t x).length≤8
    ·left;refine⟨_,aB h59 (bZ rfl (aB bCN (aB bCO (aB e74 (cU (aKP (by show ¬(((cI (ML t x)).length:Int)>8);rw [gN];omega)) (bZ (qA (a:=aT x) (b:=aT t) hnt) (bZ (hsz _) rfl))))))),⟨k+1,hlt,fun u hu=>?_,?_⟩,CJ 0⟩
     ·rw [htk,aLA,aXF] at hu;rcases hu with hu | rfl
      ·exact hq u hu
      ·exact fun _=>h9
     ·rw [htk,EB,aJn hnt,aN hlt (by omega)];unfold fr;rw [aJb (a1g.2 hc)]
    ·right;exact⟨_,aB h59 (bZ rfl (aB bCN (aB bCO (aB e74 (bZ (aKO (by show(((cI (ML t x)).length:Int)>8);rw [gN];omega)) rfl))))),.inr rfl⟩
   ·have hcb:(x.2.2.2.2).contains t.1=false:=a0p (l:=ins x) (a:=aT t) hc;rw [hcb] at h59;left;by_cases hnt:aT x=aT t
    ·refine⟨_,aB h59 (cU rfl (cU (KG (a:=aT x) (b:=aT t) hnt) rfl)),⟨k+1,hlt,fun u hu=>?_,?_⟩,CJ 0⟩
     ·rw [htk,aLA,aXF] at hu;rcases hu with hu | rfl
      ·exact hq u hu
      ·exact fun h'=>absurd h' hc
     ·rw [htk,EB,aJb hnt,aN hlt (by omega)]
    ·refine⟨_,aB h59 (cU rfl (bZ (qA (a:=aT x) (b:=aT t) hnt) (bZ (hsz _) rfl))),⟨k+1,hlt,fun u hu=>?_,?_⟩,CJ 0⟩
     ·rw [htk,aLA,aXF] at hu;rcases hu with hu | rfl
      ·exact hq u hu
      ·exact fun h'=>absurd h' hc
     ·rw [htk,EB,aJn hnt,aN hlt (by omega)];unfold fr;rw [aJn (by rw [a1g];exact hc)]
  ·have:k=w.1.2.2.length:=by omega
   subst this;rw [aYZ] at hq ⊢;simp only [bA,cond_false];exact .inr ⟨_,rfl,.inl ⟨rfl,hq⟩⟩
theorem a6A {w:aR.El}(hs:Small w.1.2.2)(hr:bK w.1=true) :
  (∃ e:Int,e≠0∧DX (w,())=some (((w.1,0,e,()),(w,()),()):yI.El)) ∨
  (∃ t∈w.1.2.2,t.2.1=3∧(∀ x∈w.1.2.2,aT t∈ins x→(ML t x).length≤8)∧DX (w,())=some ((((w.1.1,w.1.2.1,dR t w.1.2.2),0,0,()),(w,()),()):yI.El)):=by
 have h:=bR hr;have e23:=yA w.1 w.2.1.2.1 hs.1 hs.2;unfold DX;cases hg:(bW w.1.2.2 w.2.1.2.1).2 with
 | false=>
  rw [hg] at e23;exact .inl ⟨10,by decide,aB e23 (bZ rfl rfl)⟩
 | true=>
  rw [hg] at e23;obtain⟨t,ht,e⟩:=oD hg;have hgt:(bW w.1.2.2 w.2.1.2.1).1=t:=by rw [← e,h.mS.bW ht]
  rw [hgt] at e23;by_cases hk:t.2.1=3
  ·obtain⟨y,hy,hp⟩:=a6z hs hr ht ((((0:Int),(0:Int)),(0:Int),[])) w.1.1 w.1.2.1;have hoo:=aCY w.1.2.2 hs (by have:=h.len;omega);rcases hp with⟨rfl,hq⟩ | rfl
   ·exact .inr ⟨t,ht,hk,hq,aB e23 (cU rfl (cU (by show(t.2.1 != (3:Int))=false;rw [hk];rfl) (aB hoo (aB hy rfl))))⟩
   ·exact .inl ⟨12,by decide,aB e23 (cU rfl (cU (by show(t.2.1 != (3:Int))=false;rw [hk];rfl) (aB hoo (aB hy rfl))))⟩
  ·exact .inl ⟨9,by decide,aB e23 (cU rfl (bZ (by show(t.2.1 != (3:Int))=true;simpa using hk) rfl))⟩
def qB:Ieee.Datum→Bool
 | .nan _ _=>false
 | _=>true
theorem UB (s:Bool)(r:Nat)(h:r≤9218868437227405312):qB (Ieee.double.read (Ieee.double.word s r))=true:=by
 have hw:(Ieee.double.word s r) % 9223372036854775808=r:=by
  unfold Ieee.Format.word;cases s
  ·show r % 9223372036854775808=r;omega
  ·show(9223372036854775808+r) % 9223372036854775808=r;omega
 unfold Ieee.Format.read;show qB (if Ieee.double.word s r % 9223372036854775808<Ieee.double.binade then _ else if Ieee.double.word s r % 9223372036854775808<Ieee.double.infRung then _ else if Ieee.double.word s r % 9223372036854775808=9218868437227405312 then _ else _)=true;rw [hw]
 split
 ·rfl
 ·split
  ·rfl
  ·rename_i h2;have h2:¬r<9218868437227405312:=h2;rw [aJb (by omega)];rfl
theorem Z0 {d:Ieee.Datum}(h:qB d=true):qB (Ieee.double.read (Ieee.double.write d))=true:=by
 cases d with
 | nan s f=>cases h
 | infinity s=>exact UB s _ (aKQ _)
 | number s m e=>
  unfold Ieee.Format.write Ieee.Format.nearest;show qB (Ieee.double.read (if m=0 then _ else _))=true
  split
  ·exact UB s 0 (by decide)
  ·exact UB s _ (Nat.min_le_right _ _)
theorem aC0 {d:Ieee.Datum}(w:Ieee.Toward)(h:qB d=true):qB (d.integral w)=true:=by
 cases d with
 | nan s f=>cases h
 | infinity s=>rfl
 | number s m e=>rfl
theorem aQc {a b:Int}(h:(some (compare a b)==some Ordering.gt||some (compare a b)==some Ordering.eq)=false):a<b:=by
 refine Int.not_le.1 fun hc=>?_;rcases Int.lt_or_eq_of_le hc with h1 | h1
 ·have:compare a b=.gt:=by
   show compareOfLessAndEq a b=_;unfold compareOfLessAndEq;rw [aJn (by omega),aJn (by omega)]
  rw [this] at h;cases h
 ·have:compare a b=.eq:=by
   show compareOfLessAndEq a b=_;unfold compareOfLessAndEq;rw [aJn (by omega),aJb h1.symm]
  rw [this] at h;cases h
theorem aQd {a b:Int}(h:(some (compare a b)==some Ordering.lt)=false):b≤a:=by
 refine Int.not_lt.1 fun hc=>?_;have:compare a b=.lt:=by
  show compareOfLessAndEq a b=_;unfold compareOfLessAndEq;rw [aJb hc]
 rw [this] at h;cases h
theorem aVo (s:Bool)(n drop:Nat):Ieee.Toward.cut .zero s n drop≤n / 2^drop:=by
 unfold Ieee.Toward.cut;show n / (1 <<< min drop (n.log2+2))+(false).toNat≤_;rw [Nat.shiftLeft_eq,Nat.one_mul];show n / 2^(min drop (n.log2+2))+0≤_;by_cases h:drop≤n.log2+2
 ·rw [Nat.min_eq_left h];exact aKQ _
 ·rw [Nat.min_eq_right (by omega)];have:n<2^(n.log2+2):=Nat.lt_trans Nat.lt_log2_self (Nat.pow_lt_pow_right (by decide) (by omega));rw [Nat.div_eq_of_lt this];exact aLj _
theorem aGX (s:Bool)(m:Nat)(i:Int) :
  (m*2^(i-min i 11).toNat<4503599627370496*2^(11-min i 11).toNat→Ieee.Toward.cut .zero s (m <<< i.toNat) (-i).toNat<9223372036854775808) ∧
  (m*2^(i-min i 11).toNat≤4503599627370496*2^(11-min i 11).toNat→Ieee.Toward.cut .zero s (m <<< i.toNat) (-i).toNat≤9223372036854775808):=by
 have hc:=aVo s (m <<< i.toNat) (-i).toNat;rw [Nat.shiftLeft_eq] at hc ⊢;generalize Ieee.Toward.cut .zero s (m*2^i.toNat) (-i).toNat=k at hc ⊢;by_cases h0:0≤i
 ·obtain⟨j,rfl⟩:=Int.eq_ofNat_of_zero_le h0;have e1:(-((j:Nat):Int)).toNat=0:=by omega
  rw [e1,Nat.pow_zero,Nat.div_one,Int.toNat_natCast] at hc;by_cases h11:11≤j
  ·have e2:(((j:Nat):Int)-min (j:Int) 11).toNat=j-11:=by omega
   have e3:(11-min ((j:Nat):Int) 11).toNat=0:=by omega
   rw [e2,e3];have e4:m*2^j=m*2^(j-11)*2048:=by
    rw [Nat.mul_assoc,show 2048=2^11 from rfl,← Nat.pow_add,Nat.sub_add_cancel h11]
   rw [e4] at hc;constructor <;> intro h <;> omega
  ·have e2:(((j:Nat):Int)-min (j:Int) 11).toNat=0:=by omega
   have e3:(11-min ((j:Nat):Int) 11).toNat=11-j:=by omega
   rw [e2,e3,Nat.pow_zero,Nat.mul_one];have e4:4503599627370496*2^(11-j)*2^j=9223372036854775808:=by
    rw [Nat.mul_assoc,← Nat.pow_add,Nat.sub_add_cancel (by omega)]
   have hp:0<2^j:=Nat.pow_pos (by decide);constructor
   ·intro h;have:=Nat.mul_lt_mul_of_pos_right h hp;omega
   ·intro h;have:=a9E (2^j) h;omega
 ·obtain⟨j,rfl⟩:∃ j:Nat,i=-(j:Int):=⟨(-i).toNat,by omega⟩;have e1:(-(-((j:Nat):Int))).toNat=j:=by omega
  have e0:(-((j:Nat):Int)).toNat=0:=by omega
  rw [e1,e0,Nat.pow_zero,Nat.mul_one] at hc;have e2:(-((j:Nat):Int)-min (-(j:Int)) 11).toNat=0:=by omega
  have e3:(11-min (-((j:Nat):Int)) 11).toNat=11+j:=by omega
  rw [e2,e3,Nat.pow_zero,Nat.mul_one,Nat.pow_add,← Nat.mul_assoc];have hp:0<2^j:=Nat.pow_pos (by decide);constructor
  ·intro h;have:=(Nat.div_lt_iff_lt_mul hp).2 h;exact Nat.lt_of_le_of_lt hc this
  ·intro h;have:=Nat.div_le_of_le_mul (Nat.mul_comm _ _▸h);exact aPB hc this
theorem a6B {R:Nat}(hn:qB (Ieee.double.read R)=true)(h1:fGe FloatKind.f64 R 4890909195324358656=false)(h2:fLt FloatKind.f64 R 14114281232179134464=false):CQ FloatKind.f64 R .i64=true:=by
 have r1:Ieee.double.read 4890909195324358656=.number false 4503599627370496 11:=by rfl
 have r2:Ieee.double.read 14114281232179134464=.number true 4503599627370496 11:=by rfl
 have h1:((Ieee.double.read R).order (Ieee.double.read 4890909195324358656)==some .gt||(Ieee.double.read R).order (Ieee.double.read 4890909195324358656)==some .eq)=false:=h1;have h2:((Ieee.double.read R).order (Ieee.double.read 14114281232179134464)==some .lt)=false:=h2;rw [r1] at h1;rw [r2] at h2;show(match (Ieee.double.read R).toInt .zero with | some n=>decide (IntKind.i64.min≤n)&&decide (n≤IntKind.i64.max) | none=>false)=true;cases hd:Ieee.double.read R with
 | nan s f=>rw [hd] at hn;cases hn
 | infinity s=>
  rw [hd] at h1 h2;cases s
  ·cases h1
  ·cases h2
 | number s m i=>
  rw [hd] at h1 h2;have h1:=aQc h1;have h2:=aQd h2;obtain⟨w1,w2⟩:=aGX s m i;show(decide (IntKind.i64.min≤Ieee.signed s (Ieee.Toward.cut .zero s (m <<< i.toNat) (-i).toNat) 0)&&decide (Ieee.signed s (Ieee.Toward.cut .zero s (m <<< i.toNat) (-i).toNat) 0≤IntKind.i64.max))=true;have m1:IntKind.i64.min=-9223372036854775808:=rfl;have m2:IntKind.i64.max=9223372036854775807:=rfl;rw [m1,m2];unfold Ieee.signed at h1 h2 ⊢;simp only [Nat.shiftLeft_eq,Nat.pow_zero,Nat.mul_one] at h1 h2 ⊢;simp only [Nat.shiftLeft_eq] at w1 w2;generalize hA:m*2^(i-min i 11).toNat=A at h1 h2 w1 w2;generalize hB:4503599627370496*2^(11-min i 11).toNat=B at h1 h2 w1 w2;generalize Ieee.Toward.cut .zero s (m*2^i.toNat) (-i).toNat=k at w1 w2 ⊢;cases s
  ·have h1:((A:Nat):Int)<(B:Int):=h1;have:=w1 (by omega);show(decide ((-9223372036854775808:Int)≤((k:Nat):Int))&&decide (((k:Nat):Int)≤9223372036854775807))=true;rw [aKO (by omega),aKO (by omega)];rfl
  ·have h2:-((B:Nat):Int)≤-(A:Int):=h2;have:=w2 (by omega);show(decide ((-9223372036854775808:Int)≤-((k:Nat):Int))&&decide (-((k:Nat):Int)≤9223372036854775807))=true;rw [aKO (by omega),aKO (by omega)];rfl
theorem aQe (a:Nat):lK (AF a):=by
 unfold AF;have hz:∀ {c:Bool},lK (bif c then Option.some (((4:Int),()):aS [I]) else(aFW a).bind fun v10=>bif Go.DI.fLt Go.FloatKind.f64 v10.fst (4503599627370496:Nat) then Option.some ((6:Int),()) else Option.some ((7:Int),())):=fun {c}=>
  bH (aO _) (bV (aO _) fun _=>bH (aO _) (aO _))
 have hi:∀ n:Int,lK (NW a n):=fun n=>bH (bV (aO _) fun _=>aO _) (bH (aO _) (aO _));exact bV (aO _) fun _=>bH (aO _) (bV (hi _) fun _=>bH (aO _) (bV (hi _) fun _=>bH (aO _) (bH (bV (aO _) fun _=>bH (aO _) hz) hz)))
theorem aQf {a:Nat}(h:qB (Ieee.double.read a)=false):AF a=some ((1,()):aS [I]):=by
 have hn:fNe FloatKind.f64 a a=true:=by
  show((Ieee.double.read a).order (Ieee.double.read a) != some .eq)=true;cases hd:Ieee.double.read a with
  | nan s f=>rfl
  | infinity s=>rw [hd] at h;cases h
  | number s m e=>rw [hd] at h;cases h
 have:NU a=some ((true,()):aS [.bool]):=by unfold NU;rw [hn]
 unfold AF;rw [this];rfl
theorem a0r {a:Nat}(h:qB (Ieee.double.read a)=true):∃ d,qB d=true∧fAr .mul FloatKind.f64 a 4751297606875873280=some (Ieee.double.write d):=by
 have r:Ieee.double.read 4751297606875873280=.number false 4503599627370496 (-20):=by rfl
 show ∃ d,qB d=true∧((Ieee.double.read a).product (Ieee.double.read 4751297606875873280)).map Ieee.double.write=some (Ieee.double.write d);rw [r];cases hd:Ieee.double.read a with
 | nan s f=>rw [hd] at h;cases h
 | infinity s=>exact⟨.infinity (s ^^ false),rfl,rfl⟩
 | number s m e=>exact⟨.number (s ^^ false) (m*4503599627370496) (e+-20),rfl,rfl⟩
theorem aVp (a:Nat):lK (k8 a):=by
 cases hn:qB (Ieee.double.read a) with
 | false=>
  unfold k8;rw [aQf hn];exact aO _
 | true=>
  obtain⟨d,hd,hm⟩:=a0r hn;have e1:fOk .mul FloatKind.f64 a 4751297606875873280=true:=by unfold fOk;rw [hm];rfl
  have e2:EQ .mul FloatKind.f64 a 4751297606875873280=Ieee.double.write d:=by unfold EQ;rw [hm];rfl
  have e3:∀ b:Nat,qB (Ieee.double.read b)=true→aR6 b=true:=fun b h=>by
   show(match Ieee.double.read b with | .nan _ _=>false | _=>true)=true;cases hb:Ieee.double.read b with
   | nan s f=>rw [hb] at h;cases h
   | infinity s=>rfl
   | number s m e=>rfl
  have hw:=Z0 hd;have e4:=e3 _ hw;unfold k8;refine bV (aQe a) fun _=>bH (aO _) (bH (aO _) (bH (aO _) ?_));rw [e1,e2,e4];have hr:qB (Ieee.double.read (aFj (Ieee.double.write d)))=true:=Z0 (aC0 .even hw);generalize aFj (Ieee.double.write d)=R at hr;show lK (bif fGe FloatKind.f64 R 4890909195324358656 then _ else _);cases c1:fGe FloatKind.f64 R 4890909195324358656 with
  | true=>exact aO _
  | false=>
   show lK (bif fLt FloatKind.f64 R 14114281232179134464 then _ else _);cases c2:fLt FloatKind.f64 R 14114281232179134464 with
   | true=>exact aO _
   | false=>
    rw [a6B hr c1 c2];exact aO _
def aC1 (w:aR.El)(R:Option i6.El):Prop:=∃ e w',R=some (((e,()),(w',()),()):i6.El)∧w'.1=w.1∧w'.2.1=w.2.1
theorem rd_some {w w':aR.El}{e:Int}(h1:w'.1=w.1)(h2:w'.2.1=w.2.1):aC1 w (some (((e,()),(w',()),()):i6.El)):=⟨e,w',rfl,h1,h2⟩
theorem fD {w:aR.El}{c:Bool}{a b:Option i6.El}(h:aC1 w a)(k:aC1 w b):aC1 w (bif c then a else b):=by cases c <;> assumption
theorem mC {w:aR.El}{n:Nat}{k:aS [I,I]→Option i6.El}(h:∀ x,aC1 w (k x)):aC1 w ((k8 n).bind k):=by
 obtain⟨x,hx⟩:=aVp n;rw [hx];exact h x
theorem tZ {w:aR.El}{k:DU.El→Option i6.El}(h:aC1 w (k (((),()),(w,()),((),(),(),(),(),()),()))):aC1 w ((m4 (w,())).bind k):=h
theorem aQg (w:aR.El):aC1 w (F4 (w,())):=by
 unfold F4;refine fD (tZ ?_) (fD (tZ ?_) (fD (tZ ?_) (fD (tZ ?_) (fD (tZ ?_) (tZ ?_)))))
 ·exact mC fun _=>fD (rd_some rfl rfl) (mC fun _=>fD (rd_some rfl rfl) (mC fun _=>fD (rd_some rfl rfl) (fD (mC fun _=>fD (rd_some rfl rfl) (rd_some rfl rfl)) (mC fun _=>fD (rd_some rfl rfl) (mC fun _=>fD (rd_some rfl rfl) (rd_some rfl rfl))))))
 ·exact mC fun _=>fD (rd_some rfl rfl) (mC fun _=>fD (rd_some rfl rfl) (rd_some rfl rfl))
 ·exact mC fun _=>fD (rd_some rfl rfl) (rd_some rfl rfl)
 ·exact mC fun _=>fD (rd_some rfl rfl) (mC fun _=>fD (rd_some rfl rfl) (rd_some rfl rfl))
 ·exact mC fun _=>fD (rd_some rfl rfl) (mC fun _=>fD (rd_some rfl rfl) (rd_some rfl rfl))
 ·exact rd_some rfl rfl
end Go.DI.S
end
