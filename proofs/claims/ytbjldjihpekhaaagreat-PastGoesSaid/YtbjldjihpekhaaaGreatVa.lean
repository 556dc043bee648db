import Derived.Test.YtbjldjihpekhaaaGreatUc
/- What lies in a thing; a thing more, plain. No conditions. -/
set_option linter.unusedSimpArgs false
set_option linter.unusedVariables false
set_option maxRecDepth 100000
set_option maxHeartbeats 0
namespace Go.DI.S
open Go.Proofs
def sS (l:List Thing):Nat→Int→List Int
 | 0,_=>[]
 | f+1,id=>match idx l id with
  | some k=>id :: (ins ((l[k]?).getD cO)).flatMap (sS l f)
  | none=>[]
section
variable {s:aZ}
theorem aB7 {l:List Thing}{n:Int}(hn:Is l n):∃ (k:Nat) (t:Thing),idx l n=some k∧l[k]?=some t∧aT t=n:=by
 obtain⟨t,ht,e⟩:=hn;cases hx:idx l n with
 | none=>
  unfold idx at hx;rw [a9z] at hx;have:=hx t ht;rw [e] at this;simp at this
 | some k=>
  obtain⟨t,h1,h2⟩:=rN hx;exact⟨k,t,rfl,h1,h2⟩
theorem FR {l:List Thing}{n:Int}(hn:Is l n):∃ t∈l,aT t=n∧∀ f,sS l (f+1) n=n :: (ins t).flatMap (sS l f):=by
 obtain⟨k,t,h1,h2,h3⟩:=aB7 hn;refine⟨t,aPl h2,h3,fun f=>?_⟩;show(match idx l n with | some k=>n :: (ins ((l[k]?).getD cO)).flatMap (sS l f) | none=>[])=_;rw [h1];show n :: (ins ((l[k]?).getD cO)).flatMap (sS l f)=_;rw [h2];rfl
theorem Rt.one (h:Rt s){t u:Thing}(ht:t∈s.2.2)(hu:u∈s.2.2)(e:aT t=aT u):t=u:=by
 obtain⟨i,hi,rfl⟩:=List.mem_iff_getElem.1 ht;obtain⟨j,hj,rfl⟩:=List.mem_iff_getElem.1 hu;rcases a9y i j with h1 | h1 | h1
 ·have:=h.mS i j _ _ h1 (aJS hi) (aJS hj);omega
 ·subst h1;rfl
 ·have:=h.mS j i _ _ h1 (aJS hj) (aJS hi);omega
theorem Rt.below (h:Rt s)(hs:Small s.2.2):∀ (f:Nat) (n:Int),Is s.2.2 n→∀ x∈sS s.2.2 f n,Is s.2.2 x∧∃ e,kG s.2.2 e x=n
 | 0,n,_,x,hx=>by simp [sS] at hx
 | f+1,n,hn,x,hx=>by
  obtain⟨t,ht,e,hf⟩:=FR hn;rw [hf f] at hx;rcases aQL.1 hx with rfl | hx
  ·exact⟨hn,0,rfl⟩
  ·obtain⟨m,hm,hx⟩:=List.mem_flatMap.1 hx;obtain⟨h1,e1,h2⟩:=h.below hs f m (h.fS hs ht hm) x hx;exact⟨h1,e1+1,by rw [fA,h2,fC h.apart ht hm,e]⟩
theorem DQ {α:Type}(f:Int→List α):∀ (l:List Int),l.Nodup→(∀ a∈l,(f a).Nodup)→(∀ a∈l,∀ b∈l,∀ x,x∈f a→x∈f b→a=b)→(l.flatMap f).Nodup
 | [],_,_,_=>.nil
 | a :: l,hn,h1,h2=>by
  rw [aXJ,List.nodup_append];obtain⟨n1,n2⟩:=List.nodup_cons.1 hn;refine⟨h1 a a1F,DQ f l n2 (fun b hb=>h1 b (a0y _ hb)) (fun b hb c hc=>h2 b (a0y _ hb) c (a0y _ hc)),fun x hx y hy e=>?_⟩;subst e;obtain⟨b,hb,LU⟩:=List.mem_flatMap.1 hy;exact n1 (h2 a a1F b (a0y _ hb) x hx LU▸hb)
theorem aPm {l:List Thing}(h:lM l){t:Thing}(ht:t∈l):(ins t).Nodup:=by
 induction l with
 | nil=>simp at ht
 | cons u l ih=>
  have h2:(ins u++l.flatMap ins).Nodup:=h;rw [List.nodup_append] at h2;rcases aQL.1 ht with rfl | ht
  ·exact h2.1
  ·exact ih h2.2.1 ht
theorem Rt.differ (h:Rt s)(hs:Small s.2.2){n a b x:Int}(hn:Is s.2.2 n)(ga:jS s.2.2 a=n)(gb:jS s.2.2 b=n){i j:Nat}(hij:i<j)(ha:kG s.2.2 i x=a)(hb:kG s.2.2 j x=b):False:=by
 obtain⟨d,rfl⟩:∃ d,j=(d+1)+i:=⟨j-i-1,by omega⟩;rw [FQ,ha] at hb;have h1:kG s.2.2 d n=b:=by rw [← ga];exact hb
 have h2:kG s.2.2 (d+1) n=n:=by rw [fA,h1,gb]
 exact h.n5 hs hn (d+1) (by omega) h2
theorem Rt.once (h:Rt s)(hs:Small s.2.2):∀ (f:Nat) (n:Int),Is s.2.2 n→(sS s.2.2 f n).Nodup
 | 0,n,_=>.nil
 | f+1,n,hn=>by
  obtain⟨t,ht,e,hf⟩:=FR hn;rw [hf f,List.nodup_cons];refine⟨fun hx=>?_,DQ _ _ (aPm h.apart ht) (fun a ha=>h.once hs f a (h.fS hs ht ha)) fun a ha b hb x hxa LU=>?_⟩
  ·obtain⟨m,hm,hx⟩:=List.mem_flatMap.1 hx;obtain⟨_,e1,h2⟩:=h.below hs f m (h.fS hs ht hm) n hx;refine h.n5 hs hn (e1+1) (by omega) ?_;rw [fA,h2,fC h.apart ht hm,e]
  ·obtain⟨_,i,hi⟩:=h.below hs f a (h.fS hs ht ha) x hxa;obtain⟨_,j,hj⟩:=h.below hs f b (h.fS hs ht hb) x LU;have ga:=(fC h.apart ht ha).trans e;have gb:=(fC h.apart ht hb).trans e;rcases a9y i j with h1 | h1 | h1
   ·exact(h.differ hs hn ga gb h1 hi hj).elim
   ·subst h1;rw [← hi,← hj]
   ·exact(h.differ hs hn gb ga h1 hj hi).elim
theorem Rt.few (h:Rt s)(hs:Small s.2.2)(f:Nat){n:Int}(hn:Is s.2.2 n):(sS s.2.2 f n).length≤40:=by
 have h1:=AA (sS s.2.2 f n) (s.2.2.map aT) (h.once hs f n hn) fun x hx=>by
  obtain⟨t,ht,e⟩:=(h.below hs f n hn x hx).1;exact aQ5.2 ⟨t,ht,e⟩
 have:=h.len;simp at h1;omega
theorem Rt.lies (h:Rt s)(hs:Small s.2.2){x:Int}(hx:Is s.2.2 x):∀ (k f:Nat),k<f→kG s.2.2 k x≠0→x∈sS s.2.2 f (kG s.2.2 k x)
 | 0,f,hf,_=>by
  obtain⟨f,rfl⟩:∃ j,f=j+1:=⟨f-1,by omega⟩;obtain⟨t,_,_,e⟩:=FR hx;show x∈sS s.2.2 (f+1) x;rw [e];exact a1F
 | k+1,f,hf,h0=>by
  obtain⟨f,rfl⟩:∃ j,f=j+1:=⟨f-1,by omega⟩;rw [fA] at h0 ⊢;obtain⟨u,hu,hm,e⟩:=pT h0;have h1:kG s.2.2 k x≠0:=fun h2=>by
   rw [h2,h.aJg hs] at h0;exact h0 rfl
  obtain⟨t,ht,e2,e3⟩:=FR ⟨u,hu,e⟩;rw [e3 f];have:t=u:=h.one ht hu (e2.trans e.symm);subst this;exact a0y _ (List.mem_flatMap.2 ⟨_,hm,h.lies hs hx k f (by omega) h1⟩)
theorem RG (p:Nat→Prop) [DecidablePred p]:∀ n,p n→∃ k,k≤n∧p k∧∀ j,j<k→¬p j
 | 0,h=>⟨0,aKQ _,h,fun j hj=>by omega⟩
 | n+1,h=>by
  by_cases hc:∃ j,j≤n∧p j
  ·obtain⟨j,hj,hp⟩:=hc;obtain⟨k,hk,h1,h2⟩:=RG p j hp;exact⟨k,by omega,h1,h2⟩
  ·exact⟨n+1,aKQ _,h,fun j hj hp=>hc ⟨j,by omega,hp⟩⟩
end
theorem kT {α:Type}{l:List α}{k:Nat}{a:α}(h:l[k]?=some a):l.set k a=l:=by
 apply List.ext_getElem?;intro j;rw [aXL]
 split
 ·subst_vars;split
  ·exact h.symm
  ·rename_i h2;exact absurd (dF h) h2
 ·rfl
theorem a5f (l:List Thing)(hs:Small l):aPd l=some l:=by
 have h:=iJ (G:=fun x=>QZ x.1.2.2.1 x.1.2.2.2.1 x.2.1) (m:=fuel) l (fun _=>false) (fun k=>(((),(),(l.length:Int),(k:Int),()),l,())) (fun _=>.inr ((),())) (.inl (((),()),l,()))
  (fun k t ha=>?_) ?_ (fuel_lt hs.1)
 ·have hnone:l.findIdx? (fun _=>false)=none:=by rw [a9z];intro _ _;rfl
  rw [hnone] at h;unfold aPd QY aI6;rw [aPp (by have:=hs.1;omega)];rw [show(0:Int)=((0:Nat):Int) from rfl];simp only [cond_true,aEk];rw [h];rfl
 ·have hk:=dF ha;have h1:=hs.1;simp only [QZ,dec_lt hk,bI hk,cond_true,bB ha];rw [aPj _ (hs.2 t (aPl ha))];simp only [aEk,aN hk (by omega:l.length≤4611686018427387904)];have e:((k:Nat):Int).toNat=k:=rfl;rw [e];have e2:l.set k (t.1,t.2.1,t.2.2.1,t.2.2.2.1,t.2.2.2.2)=l:=kT ha;rw [e2];rfl
 ·simp only [QZ,bA,cond_false]
section
variable {s:aZ}
theorem Rt.bW (h:Rt s){t:Thing}(ht:t∈s.2.2):bW s.2.2 (aT t)=(t,true):=by
 obtain⟨k,u,h1,h2,h3⟩:=aB7 (l:=s.2.2) ⟨t,ht,rfl⟩;have:u=t:=h.one (aPl h2) ht h3;subst this;unfold S.bW;rw [h1];simp [h2]
end
theorem aB {α β:Type}{a:Option α}{f:α→Option β}{x:α}{y:Option β}(h:a=some x)(k:f x=y):a.bind f=y:=by subst h;exact k
theorem bZ {α:Type}{c:Bool}{a b y:α}(h:c=true)(k:a=y):(bif c then a else b)=y:=by subst h;exact k
theorem cU {α:Type}{c:Bool}{a b y:α}(h:c=false)(k:b=y):(bif c then a else b)=y:=by subst h;exact k
theorem DS {next:Int}:∀ (l:List Thing) (a:Int),(∀ t∈l,a<aT t∧aT t<next∧rt t=true)→EN l→(eS (gP next) l a).isSome=true
 | [],a,_,_=>rfl
 | t :: l,a,h,ha=>by
  obtain⟨h1,h2,h3⟩:=h t (by simp);have hst:gP next a t=some (aT t):=by
   unfold gP;exact cU (by rw [h3];rfl) (cU (aKP (by omega)) (cU (aKP (by omega)) rfl))
  simp only [eS,hst];refine DS l (aT t) (fun u hu=>?_) (fun i j x y hij hi hj=>ha (i+1) (j+1) x y (by omega) hi hj);obtain⟨j,hj,rfl⟩:=List.mem_iff_getElem.1 hu;exact⟨ha 0 (j+1) t _ (by omega) rfl (aJS hj),(h _ (by simp [hu])).2⟩
theorem EN.one {l:List Thing}(h:EN l){i j:Nat}{t u:Thing}(hi:l[i]?=some t)(hj:l[j]?=some u)(e:aT t=aT u):i=j:=by
 rcases a9y i j with h1 | h1 | h1
 ·have:=h i j _ _ h1 hi hj;omega
 ·exact h1
 ·have:=h j i _ _ h1 hj hi;omega
theorem EN.bW {l:List Thing}(h:EN l){t:Thing}(ht:t∈l):S.bW l (aT t)=(t,true):=by
 obtain⟨k,u,h1,h2,h3⟩:=aB7 (l:=l) ⟨t,ht,rfl⟩;obtain⟨j,hj,rfl⟩:=List.mem_iff_getElem.1 ht;have:k=j:=h.one h2 (aJS hj) h3;subst this;unfold S.bW;rw [h1];simp [aJS hj]
theorem Y7 {l:List Thing}{n:Int}(h:¬Is l n):S.bW l n=(cO,false):=by
 unfold S.bW;cases hx:idx l n with
 | none=>rfl
 | some k=>
  obtain⟨t,h1,h2⟩:=rN hx;exact absurd ⟨t,aPl h1,h2⟩ h
theorem aFL {l:List Thing}{n:Int}{i:Nat}(ha:EN l)(hp:Place l n i)(hn:Is l n):∃ t,l[i]?=some t∧aT t=n:=by
 obtain⟨t,ht,e⟩:=hn;obtain⟨k,hk,rfl⟩:=List.mem_iff_getElem.1 ht;refine⟨l[k],?_,e⟩;obtain⟨p1,p2⟩:=hp;obtain⟨p2,p3⟩:=p2 ha;have hik:i=k:=by
  rcases a9y i k with c | c | c
  ·have hi:i<l.length:=by omega
   have q1:=p3 i _ (aKQ _) (aJS hi);have q2:=ha i k _ _ c (aJS hi) (aJS hk);omega
  ·exact c
  ·have q1:=p2 k _ c (aJS hk);omega
 rw [hik];exact aJS hk
theorem DT {s:aZ}(hs:Small s.2.2)(ha:EN s.2.2){n:Int}(hn:Is s.2.2 n):hasB s n=true:=by
 obtain⟨i,b,h1,h2,h3⟩:=aY2 s n hs.1;unfold hasB;rw [h1];exact h3.2 (aFL ha h2 hn)
theorem vT {l:List Thing}{n:Int}(h:dM l n=1):∃ u∈l,aT u=n∧u.2.1=1:=by
 unfold dM S.bW at h;cases hx:idx l n with
 | none=>rw [hx] at h;cases h
 | some k=>
  rw [hx] at h;obtain⟨t,h1,h2⟩:=rN hx;simp only [h1,a0f] at h;exact⟨t,aPl h1,h2,h⟩
theorem EN.kind {l:List Thing}(ha:EN l){u:Thing}(hu:u∈l):dM l (aT u)=u.2.1:=by
 unfold dM;rw [ha.bW hu]
structure Has (l:List Thing)(t:Thing)(l':List Thing):Prop where
 mS:EN l'
 old:∀ u∈l',u=t∨(u∈l∧aT u≠aT t)
 new:t∈l'
 keep:∀ v∈l,aT v≠aT t→v∈l'
theorem aY5 {l:List Thing}{t:Thing}{i:Nat}(hi:i≤l.length)(k:Nat):(l.take i++[t]++l.drop i)[k]?=if k<i then l[k]? else if k=i then some t else l[k-1]?:=by
 have hl:(l.take i).length=i:=by simp;omega
 by_cases h1:k<i
 ·rw [aJb h1,aQ4,aZ8 (by omega),aXO h1]
 ·rw [aJn h1];by_cases h2:k=i
  ·subst h2;rw [aJb rfl,aQ4,a1N (by omega),hl,Nat.sub_self];rfl
  ·rw [aJn h2,a1N (by simp;omega),a1f];congr 1;simp;omega
theorem aY6 {l:List Thing}{t:Thing}{i:Nat}(ha:EN l)(hp:Place l (aT t) i)(hn:¬Is l (aT t)):Has l t (l.take i++[t]++l.drop i):=by
 have hi:=hp.1;obtain⟨p2,p3⟩:=hp.2 ha;have mem:∀ u,u∈l.take i++[t]++l.drop i↔u=t∨u∈l:=by
  intro u;constructor
  ·intro h;rcases aLA.1 h with h | h
   ·rcases aLA.1 h with h | h
    ·exact .inr (List.mem_of_mem_take h)
    ·exact .inl (by simpa using h)
   ·exact .inr (List.mem_of_mem_drop h)
  ·rintro (rfl | h)
   ·simp
   ·rw [← a9u i l] at h;rcases aLA.1 h with h | h
    ·exact aLA.2 (.inl (aLA.2 (.inl h)))
    ·exact aLA.2 (.inr h)
 have hne:∀ u∈l,aT u≠aT t:=fun u hu e=>hn ⟨u,hu,e⟩;refine⟨fun a b x y hab hx hy=>?_,fun u hu=>?_,(mem t).2 (.inl rfl),fun v hv _=>(mem v).2 (.inr hv)⟩
 ·rw [aY5 hi] at hx hy;by_cases a1:a<i
  ·rw [aJb a1] at hx;by_cases b1:b<i
   ·rw [aJb b1] at hy;exact ha a b x y hab hx hy
   ·rw [aJn b1] at hy;by_cases b2:b=i
    ·rw [aJb b2] at hy;cases hy;exact p2 a x a1 hx
    ·rw [aJn b2] at hy;exact ha a (b-1) x y (by omega) hx hy
  ·rw [aJn a1] at hx;have b1:¬b<i:=by omega
   rw [aJn b1,aJn (by omega)] at hy;by_cases a2:a=i
   ·rw [aJb a2] at hx;cases hx;have h1:=p3 (b-1) y (by omega) hy;have h2:=hne y (aPl hy);omega
   ·rw [aJn a2] at hx;exact ha (a-1) (b-1) x y (by omega) hx hy
 ·rcases (mem u).1 hu with rfl | h
  ·exact .inl rfl
  ·exact .inr ⟨h,hne u h⟩
theorem aY7 {l:List Thing}{t u:Thing}{i:Nat}(ha:EN l)(hi:l[i]?=some u)(e:aT u=aT t):Has l t (l.set i t):=by
 have hil:=dF hi;have get:∀ k,(l.set i t)[k]?=if k=i then some t else l[k]?:=by
  intro k;rw [aXL];by_cases h:i=k
  ·rw [aJb h,aJb h.symm,aJb hil]
  ·rw [aJn h,aJn (fun e=>h e.symm)]
 refine⟨fun a b x y hab hx hy=>?_,fun v hv=>?_,aPl (i:=i) (by rw [get,aJb rfl]),fun v hv hne=>?_⟩
 ·rw [get] at hx hy;by_cases a1:a=i
  ·rw [aJb a1] at hx;cases hx;rw [aJn (by omega)] at hy;subst a1;have:=ha a b u y hab hi hy;omega
  ·rw [aJn a1] at hx;by_cases b1:b=i
   ·rw [aJb b1] at hy;cases hy;subst b1;have:=ha a b x u hab hx hi;omega
   ·rw [aJn b1] at hy;exact ha a b x y hab hx hy
 ·obtain⟨k,hk⟩:=List.mem_iff_getElem?.1 hv;rw [get] at hk;by_cases h:k=i
  ·rw [aJb h] at hk;exact .inl (Option.some.inj hk).symm
  ·rw [aJn h] at hk;refine .inr ⟨aPl hk,fun e2=>h (ha.one hk hi (by omega))⟩
 ·obtain⟨k,hk⟩:=List.mem_iff_getElem?.1 hv;refine aPl (i:=k) ?_;rw [get,aJn,hk];rintro rfl;rw [hi] at hk;cases hk;exact hne e
theorem a5g {t:Thing}(hl:t.2.2.2.2.length≤1000000000)(h:rt t=true):0<aT t:=by
 have hv:=XK t hl;rw [h] at hv;unfold BW FF at hv;by_cases h1:t.1≥(1:Int)
 ·exact Int.lt_of_lt_of_le (by decide:(0:Int)<1) h1
 ·rw [aKP h1] at hv;cases hv
theorem JJ {l l':List Thing}{t:Thing}(hs:∀ u∈l,u.2.2.2.2.length≤1000000000)(ht:t.2.2.2.2.length≤1000000000)(h:Has l t l')(hl:l'.length≤1000000000):Small l':=
 ⟨hl,fun u hu=>by
  rcases h.old u hu with rfl | ⟨h,_⟩
  ·exact ht
  ·exact hs u h⟩
theorem aJh {s:aZ}{t:Thing}{l':List Thing}(hs:Small s.2.2)(hr:bK s=true)(hh:Has s.2.2 t l')(hs':Small l')(hrt:rt t=true)(hid:aT t<s.2.1)(hlen:l'.length≤40)
  (a5h:nZ (s.1,s.2.1,l') t=true) (hap:nK l'=true) (bBw:FN l'=true) (hend:(∃ u∈s.2.2,aT u=aT t∧u.2.1=1)→l'.all (nZ (s.1,s.2.1,l'))=true):bK (s.1,s.2.1,l')=true:=by
 have hR:=bR hr;have htl:t.2.2.2.2.length≤1000000000:=hs'.2 t hh.new;unfold bK at hr ⊢;simp only [aKS] at hr ⊢;refine⟨?_,?_,hap,bBw⟩
 ·have hp:=hr.1;unfold rO at hp ⊢;simp only [aKS] at hp ⊢;refine⟨DS l' 0 (fun u hu=>?_) hh.mS,aKO (by omega),hp.2.2⟩;rcases hh.old u hu with rfl | ⟨h,_⟩
  ·exact⟨a5g htl hrt,hid,hrt⟩
  ·exact hR.low u h
 ·by_cases hb:∃ u∈s.2.2,aT u=aT t∧u.2.1=1
  ·exact hend hb
  ·rw [aQ6];intro u hu;rcases hh.old u hu with rfl | ⟨h,hne⟩
   ·exact a5h
   ·have he:=hR.ends u h;have key:∀ n:Int,dM s.2.2 n=1→dM l' n=1:=by
     intro n hn;obtain⟨v,hv,rfl,hk⟩:=vT hn;have hvt:aT v≠aT t:=fun e=>hb ⟨v,hv,e,hk⟩;rw [hh.mS.kind (hh.keep v hv hvt)];exact hk
    have bGF:∀ n:Int,Is s.2.2 n→Is l' n:=by
     rintro n ⟨v,hv,rfl⟩;by_cases e:aT v=aT t
     ·exact⟨t,hh.new,e.symm⟩
     ·exact⟨v,hh.keep v hv e,rfl⟩
    unfold nZ at he ⊢;simp only [aKS,Bool.or_eq_true,a1K,bne_eq_false_iff_eq] at he ⊢;refine⟨?_,?_⟩
    ·rcases he.1 with h1 | ⟨h1,h2⟩
     ·exact .inl h1
     ·exact .inr ⟨key _ h1,key _ h2⟩
    ·rw [aQ6] at *
     intro n hn;exact DT (s:=(s.1,s.2.1,l')) hs' hh.mS (bGF n (aJf hs (he.2 n hn)))
theorem bGG (s:aZ)(t:Thing)(hs:Small s.2.2)(ht:t.2.2.2.2.length≤1000000000):aPf s t=some ((nZ s t,()):aS [.bool]):=by
 have h:=sP (G:=fun x=>Q3 x.1.2.2.1 x.1.2.2.2.1 x.1.2.2.2.2.1 x.2.1 x.2.2.1) (m:=fuel) t.2.2.2.2 (hasB s) (fun k=>(((),(),t.2.2.2.2,(t.2.2.2.2.length:Int),(k:Int),()),(s,()),(t,()),())) (.inr ((false,()),())) (.inl (((),(),()),(s,()),(t,()),()))
  (fun k n ha=>?_) ?_ (fuel_lt ht)
 ·unfold aPf;cases hall:t.2.2.2.2.all (hasB s) with
  | false=>
   rw [hall] at h;refine aB h ?_;unfold nZ;rw [hall,Bool.and_false];rfl
  | true=>
   rw [hall] at h;refine aB h ?_;unfold nZ;rw [hall,Bool.and_true];show(bif t.2.1 != (2:Int) then some ((true,()):aS [.bool]) else(rM s t.2.2.2.1.1).bind fun v4=>(rM s t.2.2.2.1.2.1).bind fun v5=>bif v4.1.2.1==(1:Int) then some ((v5.1.2.1==(1:Int),()):aS [.bool]) else some (false,()))=_;rw [yA s _ hs.1 hs.2,yA s _ hs.1 hs.2];unfold dM;simp only [aEk,bne];cases (t.2.1==(2:Int)) <;> cases ((bW s.2.2 t.2.2.2.1.1).1.2.1==(1:Int)) <;> cases ((bW s.2.2 t.2.2.2.1.2.1).1.2.1==(1:Int)) <;> rfl
 ·have hk:=dF ha;simp only [Q3,dec_lt hk,bI hk,cond_true,bB ha,aN hk (by omega)];obtain⟨i,hi⟩:=a2v s n hs;rw [hi];cases hasB s n <;> rfl
 ·simp only [Q3,bA,cond_false]
def eX:aZ:=(((0:Int),(0:Int)),(0:Int),[])
end Go.DI.S
