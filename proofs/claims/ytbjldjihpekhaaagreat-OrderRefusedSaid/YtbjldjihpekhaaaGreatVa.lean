import Derived.Test.YtbjldjihpekhaaaGreatUc
/- What lies in a thing; a thing more, plain. No conditions. -/
set_option linter.unusedSimpArgs false
set_option linter.unusedVariables false
set_option maxRecDepth 100000
set_option maxHeartbeats 0
namespace Go.DI.S
open Go.Proofs
def inT (l:List Thing):Nat→Int→List Int
 | 0,_=>[]
 | f+1,id=>match idx l id with
  | some k=>id :: (ins ((l[k]?).getD noThing)).flatMap (inT l f)
  | none=>[]
section
variable {s:Scene}
theorem idx_is {l:List Thing}{n:Int}(hn:Is l n):∃ (k:Nat) (t:Thing),idx l n=some k∧l[k]?=some t∧nid t=n:=by
 obtain⟨t,ht,e⟩:=hn
 cases hx:idx l n with
 | none=>
  unfold idx at hx
  rw [List.findIdx?_eq_none_iff] at hx
  have:=hx t ht
  rw [e] at this
  simp at this
 | some k=>
  obtain⟨t,h1,h2⟩:=idx_lt hx
  exact⟨k,t,rfl,h1,h2⟩
theorem inT_succ {l:List Thing}{n:Int}(hn:Is l n):∃ t∈l,nid t=n∧∀ f,inT l (f+1) n=n :: (ins t).flatMap (inT l f):=by
 obtain⟨k,t,h1,h2,h3⟩:=idx_is hn
 refine⟨t,List.mem_of_getElem? h2,h3,fun f=>?_⟩
 show(match idx l n with | some k=>n :: (ins ((l[k]?).getD noThing)).flatMap (inT l f) | none=>[])=_
 rw [h1]
 show n :: (ins ((l[k]?).getD noThing)).flatMap (inT l f)=_
 rw [h2];rfl
theorem Rt.one (h:Rt s){t u:Thing}(ht:t∈s.2.2)(hu:u∈s.2.2)(e:nid t=nid u):t=u:=by
 obtain⟨i,hi,rfl⟩:=List.mem_iff_getElem.1 ht
 obtain⟨j,hj,rfl⟩:=List.mem_iff_getElem.1 hu
 rcases Nat.lt_trichotomy i j with h1 | h1 | h1
 ·have:=h.asc i j _ _ h1 (List.getElem?_eq_getElem hi) (List.getElem?_eq_getElem hj);omega
 ·subst h1;rfl
 ·have:=h.asc j i _ _ h1 (List.getElem?_eq_getElem hj) (List.getElem?_eq_getElem hi);omega
theorem Rt.below (h:Rt s)(hs:Small s.2.2):∀ (f:Nat) (n:Int),Is s.2.2 n→∀ x∈inT s.2.2 f n,Is s.2.2 x∧∃ e,upn s.2.2 e x=n
 | 0,n,_,x,hx=>by simp [inT] at hx
 | f+1,n,hn,x,hx=>by
  obtain⟨t,ht,e,hf⟩:=inT_succ hn
  rw [hf f] at hx
  rcases List.mem_cons.1 hx with rfl | hx
  ·exact⟨hn,0,rfl⟩
  ·obtain⟨m,hm,hx⟩:=List.mem_flatMap.1 hx
   obtain⟨h1,e1,h2⟩:=h.below hs f m (h.member hs ht hm) x hx
   exact⟨h1,e1+1,by rw [upn_succ,h2,grp_in h.apart ht hm,e]⟩
theorem nodup_flat {α:Type}(f:Int→List α):∀ (l:List Int),l.Nodup→(∀ a∈l,(f a).Nodup)→(∀ a∈l,∀ b∈l,∀ x,x∈f a→x∈f b→a=b)→(l.flatMap f).Nodup
 | [],_,_,_=>.nil
 | a :: l,hn,h1,h2=>by
  rw [List.flatMap_cons,List.nodup_append]
  obtain⟨n1,n2⟩:=List.nodup_cons.1 hn
  refine⟨h1 a List.mem_cons_self,nodup_flat f l n2 (fun b hb=>h1 b (List.mem_cons_of_mem _ hb)) (fun b hb c hc=>h2 b (List.mem_cons_of_mem _ hb) c (List.mem_cons_of_mem _ hc)),fun x hx y hy e=>?_⟩
  subst e
  obtain⟨b,hb,hxb⟩:=List.mem_flatMap.1 hy
  exact n1 (h2 a List.mem_cons_self b (List.mem_cons_of_mem _ hb) x hx hxb▸hb)
theorem ins_nodup {l:List Thing}(h:Apart l){t:Thing}(ht:t∈l):(ins t).Nodup:=by
 induction l with
 | nil=>simp at ht
 | cons u l ih=>
  have h2:(ins u++l.flatMap ins).Nodup:=h
  rw [List.nodup_append] at h2
  rcases List.mem_cons.1 ht with rfl | ht
  ·exact h2.1
  ·exact ih h2.2.1 ht
theorem Rt.differ (h:Rt s)(hs:Small s.2.2){n a b x:Int}(hn:Is s.2.2 n)(ga:grp s.2.2 a=n)(gb:grp s.2.2 b=n){i j:Nat}(hij:i<j)(ha:upn s.2.2 i x=a)(hb:upn s.2.2 j x=b):False:=by
 obtain⟨d,rfl⟩:∃ d,j=(d+1)+i:=⟨j-i-1,by omega⟩
 rw [upn_add,ha] at hb
 have h1:upn s.2.2 d n=b:=by rw [← ga];exact hb
 have h2:upn s.2.2 (d+1) n=n:=by rw [upn_succ,h1,gb]
 exact h.acyclic hs hn (d+1) (by omega) h2
theorem Rt.once (h:Rt s)(hs:Small s.2.2):∀ (f:Nat) (n:Int),Is s.2.2 n→(inT s.2.2 f n).Nodup
 | 0,n,_=>.nil
 | f+1,n,hn=>by
  obtain⟨t,ht,e,hf⟩:=inT_succ hn
  rw [hf f,List.nodup_cons]
  refine⟨fun hx=>?_,nodup_flat _ _ (ins_nodup h.apart ht) (fun a ha=>h.once hs f a (h.member hs ht ha)) fun a ha b hb x hxa hxb=>?_⟩
  ·obtain⟨m,hm,hx⟩:=List.mem_flatMap.1 hx
   obtain⟨_,e1,h2⟩:=h.below hs f m (h.member hs ht hm) n hx
   refine h.acyclic hs hn (e1+1) (by omega) ?_
   rw [upn_succ,h2,grp_in h.apart ht hm,e]
  ·obtain⟨_,i,hi⟩:=h.below hs f a (h.member hs ht ha) x hxa
   obtain⟨_,j,hj⟩:=h.below hs f b (h.member hs ht hb) x hxb
   have ga:=(grp_in h.apart ht ha).trans e
   have gb:=(grp_in h.apart ht hb).trans e
   rcases Nat.lt_trichotomy i j with h1 | h1 | h1
   ·exact(h.differ hs hn ga gb h1 hi hj).elim
   ·subst h1;rw [← hi,← hj]
   ·exact(h.differ hs hn gb ga h1 hj hi).elim
theorem Rt.few (h:Rt s)(hs:Small s.2.2)(f:Nat){n:Int}(hn:Is s.2.2 n):(inT s.2.2 f n).length≤40:=by
 have h1:=nodup_len (inT s.2.2 f n) (s.2.2.map nid) (h.once hs f n hn) fun x hx=>by
  obtain⟨t,ht,e⟩:=(h.below hs f n hn x hx).1
  exact List.mem_map.2 ⟨t,ht,e⟩
 have:=h.len
 simp at h1
 omega
theorem Rt.lies (h:Rt s)(hs:Small s.2.2){x:Int}(hx:Is s.2.2 x):∀ (k f:Nat),k<f→upn s.2.2 k x≠0→x∈inT s.2.2 f (upn s.2.2 k x)
 | 0,f,hf,_=>by
  obtain⟨f,rfl⟩:∃ j,f=j+1:=⟨f-1,by omega⟩
  obtain⟨t,_,_,e⟩:=inT_succ hx
  show x∈inT s.2.2 (f+1) x
  rw [e];exact List.mem_cons_self
 | k+1,f,hf,h0=>by
  obtain⟨f,rfl⟩:∃ j,f=j+1:=⟨f-1,by omega⟩
  rw [upn_succ] at h0 ⊢
  obtain⟨u,hu,hm,e⟩:=grp_of h0
  have h1:upn s.2.2 k x≠0:=fun h2=>by
   rw [h2,h.grp0 hs] at h0;exact h0 rfl
  obtain⟨t,ht,e2,e3⟩:=inT_succ ⟨u,hu,e⟩
  rw [e3 f]
  have:t=u:=h.one ht hu (e2.trans e.symm)
  subst this
  exact List.mem_cons_of_mem _ (List.mem_flatMap.2 ⟨_,hm,h.lies hs hx k f (by omega) h1⟩)
end
theorem set_same {α:Type}{l:List α}{k:Nat}{a:α}(h:l[k]?=some a):l.set k a=l:=by
 apply List.ext_getElem?
 intro j
 rw [List.getElem?_set]
 split
 ·subst_vars;split
  ·exact h.symm
  ·rename_i h2;exact absurd (len_of h) h2
 ·rfl
theorem v_47 (l:List Thing)(hs:Small l):F_47 l=some l:=by
 have h:=find_loop (G:=fun x=>G_47_3 x.1.2.2.1 x.1.2.2.2.1 x.2.1) (m:=fuel) l (fun _=>false) (fun k=>(((),(),(l.length:Int),(k:Int),()),l,())) (fun _=>.inr ((),())) (.inl (((),()),l,()))
  (fun k t ha=>?_) ?_ (fuel_lt hs.1)
 ·have hnone:l.findIdx? (fun _=>false)=none:=by rw [List.findIdx?_eq_none_iff];intro _ _;rfl
  rw [hnone] at h
  unfold F_47 F_90 R_47_3
  rw [Nat.ble_eq_true_of_le (by have:=hs.1;omega)]
  rw [show(0:Int)=((0:Nat):Int) from rfl]
  simp only [cond_true,Option.bind_some]
  rw [h];rfl
 ·have hk:=len_of ha
  have h1:=hs.1
  simp only [G_47_3,dec_lt hk,dec_in hk,cond_true,getD_of ha]
  rw [v_46 _ (hs.2 t (List.mem_of_getElem? ha))]
  simp only [Option.bind_some,wrap_up hk (by omega:l.length≤4611686018427387904)]
  have e:((k:Nat):Int).toNat=k:=rfl
  rw [e]
  have e2:l.set k (t.1,t.2.1,t.2.2.1,t.2.2.2.1,t.2.2.2.2)=l:=set_same ha
  rw [e2]
  rfl
 ·simp only [G_47_3,dec_end,cond_false]
section
variable {s:Scene}
theorem Rt.getB (h:Rt s){t:Thing}(ht:t∈s.2.2):getB s.2.2 (nid t)=(t,true):=by
 obtain⟨k,u,h1,h2,h3⟩:=idx_is (l:=s.2.2) ⟨t,ht,rfl⟩
 have:u=t:=h.one (List.mem_of_getElem? h2) ht h3
 subst this
 unfold S.getB
 rw [h1]
 simp [h2]
end
theorem bind_ofV {α β:Type}{a:Option α}{f:α→Option β}{x:α}{y:Option β}(h:a=some x)(k:f x=y):a.bind f=y:=by subst h;exact k
theorem yesV {α:Type}{c:Bool}{a b y:α}(h:c=true)(k:a=y):(bif c then a else b)=y:=by subst h;exact k
theorem noV {α:Type}{c:Bool}{a b y:α}(h:c=false)(k:b=y):(bif c then a else b)=y:=by subst h;exact k
theorem plain_conv {next:Int}:∀ (l:List Thing) (a:Int),(∀ t∈l,a<nid t∧nid t<next∧rt t=true)→Asc l→(foldO (plainStep next) l a).isSome=true
 | [],a,_,_=>rfl
 | t :: l,a,h,ha=>by
  obtain⟨h1,h2,h3⟩:=h t (by simp)
  have hst:plainStep next a t=some (nid t):=by
   unfold plainStep
   exact noV (by rw [h3];rfl) (noV (decide_eq_false (by omega)) (noV (decide_eq_false (by omega)) rfl))
  simp only [foldO,hst]
  refine plain_conv l (nid t) (fun u hu=>?_) (fun i j x y hij hi hj=>ha (i+1) (j+1) x y (by omega) hi hj)
  obtain⟨j,hj,rfl⟩:=List.mem_iff_getElem.1 hu
  exact⟨ha 0 (j+1) t _ (by omega) rfl (List.getElem?_eq_getElem hj),(h _ (by simp [hu])).2⟩
theorem Asc.one {l:List Thing}(h:Asc l){i j:Nat}{t u:Thing}(hi:l[i]?=some t)(hj:l[j]?=some u)(e:nid t=nid u):i=j:=by
 rcases Nat.lt_trichotomy i j with h1 | h1 | h1
 ·have:=h i j _ _ h1 hi hj;omega
 ·exact h1
 ·have:=h j i _ _ h1 hj hi;omega
theorem Asc.getB {l:List Thing}(h:Asc l){t:Thing}(ht:t∈l):S.getB l (nid t)=(t,true):=by
 obtain⟨k,u,h1,h2,h3⟩:=idx_is (l:=l) ⟨t,ht,rfl⟩
 obtain⟨j,hj,rfl⟩:=List.mem_iff_getElem.1 ht
 have:k=j:=h.one h2 (List.getElem?_eq_getElem hj) h3
 subst this
 unfold S.getB
 rw [h1]
 simp [List.getElem?_eq_getElem hj]
theorem getB_none {l:List Thing}{n:Int}(h:¬Is l n):S.getB l n=(noThing,false):=by
 unfold S.getB
 cases hx:idx l n with
 | none=>rfl
 | some k=>
  obtain⟨t,h1,h2⟩:=idx_lt hx
  exact absurd ⟨t,List.mem_of_getElem? h1,h2⟩ h
theorem place_is {l:List Thing}{n:Int}{i:Nat}(ha:Asc l)(hp:Place l n i)(hn:Is l n):∃ t,l[i]?=some t∧nid t=n:=by
 obtain⟨t,ht,e⟩:=hn
 obtain⟨k,hk,rfl⟩:=List.mem_iff_getElem.1 ht
 refine⟨l[k],?_,e⟩
 obtain⟨p1,p2⟩:=hp
 obtain⟨p2,p3⟩:=p2 ha
 have hik:i=k:=by
  rcases Nat.lt_trichotomy i k with c | c | c
  ·have hi:i<l.length:=by omega
   have q1:=p3 i _ (Nat.le_refl _) (List.getElem?_eq_getElem hi)
   have q2:=ha i k _ _ c (List.getElem?_eq_getElem hi) (List.getElem?_eq_getElem hk)
   omega
  ·exact c
  ·have q1:=p2 k _ c (List.getElem?_eq_getElem hk)
   omega
 rw [hik]
 exact List.getElem?_eq_getElem hk
theorem has_of {s:Scene}(hs:Small s.2.2)(ha:Asc s.2.2){n:Int}(hn:Is s.2.2 n):hasB s n=true:=by
 obtain⟨i,b,h1,h2,h3⟩:=v_48 s n hs.1
 unfold hasB
 rw [h1]
 exact h3.2 (place_is ha h2 hn)
theorem kind_of {l:List Thing}{n:Int}(h:kindB l n=1):∃ u∈l,nid u=n∧u.2.1=1:=by
 unfold kindB S.getB at h
 cases hx:idx l n with
 | none=>rw [hx] at h;cases h
 | some k=>
  rw [hx] at h
  obtain⟨t,h1,h2⟩:=idx_lt hx
  simp only [h1,Option.getD_some] at h
  exact⟨t,List.mem_of_getElem? h1,h2,h⟩
theorem Asc.kind {l:List Thing}(ha:Asc l){u:Thing}(hu:u∈l):kindB l (nid u)=u.2.1:=by
 unfold kindB
 rw [ha.getB hu]
structure Has (l:List Thing)(t:Thing)(l':List Thing):Prop where
 asc:Asc l'
 old:∀ u∈l',u=t∨(u∈l∧nid u≠nid t)
 new:t∈l'
 keep:∀ v∈l,nid v≠nid t→v∈l'
theorem ins_get {l:List Thing}{t:Thing}{i:Nat}(hi:i≤l.length)(k:Nat):(l.take i++[t]++l.drop i)[k]?=if k<i then l[k]? else if k=i then some t else l[k-1]?:=by
 have hl:(l.take i).length=i:=by simp;omega
 by_cases h1:k<i
 ·rw [if_pos h1,List.append_assoc,List.getElem?_append_left (by omega),List.getElem?_take_of_lt h1]
 ·rw [if_neg h1]
  by_cases h2:k=i
  ·subst h2
   rw [if_pos rfl,List.append_assoc,List.getElem?_append_right (by omega),hl,Nat.sub_self]
   rfl
  ·rw [if_neg h2,List.getElem?_append_right (by simp;omega),List.getElem?_drop]
   congr 1
   simp;omega
theorem has_ins {l:List Thing}{t:Thing}{i:Nat}(ha:Asc l)(hp:Place l (nid t) i)(hn:¬Is l (nid t)):Has l t (l.take i++[t]++l.drop i):=by
 have hi:=hp.1
 obtain⟨p2,p3⟩:=hp.2 ha
 have mem:∀ u,u∈l.take i++[t]++l.drop i↔u=t∨u∈l:=by
  intro u
  constructor
  ·intro h
   rcases List.mem_append.1 h with h | h
   ·rcases List.mem_append.1 h with h | h
    ·exact .inr (List.mem_of_mem_take h)
    ·exact .inl (by simpa using h)
   ·exact .inr (List.mem_of_mem_drop h)
  ·rintro (rfl | h)
   ·simp
   ·rw [← List.take_append_drop i l] at h
    rcases List.mem_append.1 h with h | h
    ·exact List.mem_append.2 (.inl (List.mem_append.2 (.inl h)))
    ·exact List.mem_append.2 (.inr h)
 have hne:∀ u∈l,nid u≠nid t:=fun u hu e=>hn ⟨u,hu,e⟩
 refine⟨fun a b x y hab hx hy=>?_,fun u hu=>?_,(mem t).2 (.inl rfl),fun v hv _=>(mem v).2 (.inr hv)⟩
 ·rw [ins_get hi] at hx hy
  by_cases a1:a<i
  ·rw [if_pos a1] at hx
   by_cases b1:b<i
   ·rw [if_pos b1] at hy
    exact ha a b x y hab hx hy
   ·rw [if_neg b1] at hy
    by_cases b2:b=i
    ·rw [if_pos b2] at hy
     cases hy
     exact p2 a x a1 hx
    ·rw [if_neg b2] at hy
     exact ha a (b-1) x y (by omega) hx hy
  ·rw [if_neg a1] at hx
   have b1:¬b<i:=by omega
   rw [if_neg b1,if_neg (by omega)] at hy
   by_cases a2:a=i
   ·rw [if_pos a2] at hx
    cases hx
    have h1:=p3 (b-1) y (by omega) hy
    have h2:=hne y (List.mem_of_getElem? hy)
    omega
   ·rw [if_neg a2] at hx
    exact ha (a-1) (b-1) x y (by omega) hx hy
 ·rcases (mem u).1 hu with rfl | h
  ·exact .inl rfl
  ·exact .inr ⟨h,hne u h⟩
theorem has_set {l:List Thing}{t u:Thing}{i:Nat}(ha:Asc l)(hi:l[i]?=some u)(e:nid u=nid t):Has l t (l.set i t):=by
 have hil:=len_of hi
 have get:∀ k,(l.set i t)[k]?=if k=i then some t else l[k]?:=by
  intro k
  rw [List.getElem?_set]
  by_cases h:i=k
  ·rw [if_pos h,if_pos h.symm,if_pos hil]
  ·rw [if_neg h,if_neg (fun e=>h e.symm)]
 refine⟨fun a b x y hab hx hy=>?_,fun v hv=>?_,List.mem_of_getElem? (i:=i) (by rw [get,if_pos rfl]),fun v hv hne=>?_⟩
 ·rw [get] at hx hy
  by_cases a1:a=i
  ·rw [if_pos a1] at hx
   cases hx
   rw [if_neg (by omega)] at hy
   subst a1
   have:=ha a b u y hab hi hy
   omega
  ·rw [if_neg a1] at hx
   by_cases b1:b=i
   ·rw [if_pos b1] at hy
    cases hy
    subst b1
    have:=ha a b x u hab hx hi
    omega
   ·rw [if_neg b1] at hy
    exact ha a b x y hab hx hy
 ·obtain⟨k,hk⟩:=List.mem_iff_getElem?.1 hv
  rw [get] at hk
  by_cases h:k=i
  ·rw [if_pos h] at hk
   exact .inl (Option.some.inj hk).symm
  ·rw [if_neg h] at hk
   refine .inr ⟨List.mem_of_getElem? hk,fun e2=>h (ha.one hk hi (by omega))⟩
 ·obtain⟨k,hk⟩:=List.mem_iff_getElem?.1 hv
  refine List.mem_of_getElem? (i:=k) ?_
  rw [get,if_neg,hk]
  rintro rfl
  rw [hi] at hk
  cases hk
  exact hne e
theorem rt_pos {t:Thing}(hl:t.2.2.2.2.length≤1000000000)(h:rt t=true):0<nid t:=by
 have hv:=v_45 t hl
 rw [h] at hv
 unfold F_45 F_86 at hv
 by_cases h1:t.1≥(1:Int)
 ·exact Int.lt_of_lt_of_le (by decide:(0:Int)<1) h1
 ·rw [decide_eq_false h1] at hv
  cases hv
theorem small_has {l l':List Thing}{t:Thing}(hs:∀ u∈l,u.2.2.2.2.length≤1000000000)(ht:t.2.2.2.2.length≤1000000000)(h:Has l t l')(hl:l'.length≤1000000000):Small l':=
 ⟨hl,fun u hu=>by
  rcases h.old u hu with rfl | ⟨h,_⟩
  ·exact ht
  ·exact hs u h⟩
theorem with_right {s:Scene}{t:Thing}{l':List Thing}(hs:Small s.2.2)(hr:rightB s=true)(hh:Has s.2.2 t l')(hs':Small l')(hrt:rt t=true)(hid:nid t<s.2.1)(hlen:l'.length≤40)
  (hwhole:endB (s.1,s.2.1,l') t=true) (hap:apartB l'=true) (htree:treeB l'=true) (hend:(∃ u∈s.2.2,nid u=nid t∧u.2.1=1)→l'.all (endB (s.1,s.2.1,l'))=true):rightB (s.1,s.2.1,l')=true:=by
 have hR:=right_of hr
 have htl:t.2.2.2.2.length≤1000000000:=hs'.2 t hh.new
 unfold rightB at hr ⊢
 simp only [Bool.and_eq_true] at hr ⊢
 refine⟨?_,?_,hap,htree⟩
 ·have hp:=hr.1
  unfold plainB at hp ⊢
  simp only [Bool.and_eq_true] at hp ⊢
  refine⟨plain_conv l' 0 (fun u hu=>?_) hh.asc,decide_eq_true (by omega),hp.2.2⟩
  rcases hh.old u hu with rfl | ⟨h,_⟩
  ·exact⟨rt_pos htl hrt,hid,hrt⟩
  ·exact hR.low u h
 ·by_cases hb:∃ u∈s.2.2,nid u=nid t∧u.2.1=1
  ·exact hend hb
  ·rw [List.all_eq_true]
   intro u hu
   rcases hh.old u hu with rfl | ⟨h,hne⟩
   ·exact hwhole
   ·have he:=hR.ends u h
    have key:∀ n:Int,kindB s.2.2 n=1→kindB l' n=1:=by
     intro n hn
     obtain⟨v,hv,rfl,hk⟩:=kind_of hn
     have hvt:nid v≠nid t:=fun e=>hb ⟨v,hv,e,hk⟩
     rw [hh.asc.kind (hh.keep v hv hvt)]
     exact hk
    have hsup:∀ n:Int,Is s.2.2 n→Is l' n:=by
     rintro n ⟨v,hv,rfl⟩
     by_cases e:nid v=nid t
     ·exact⟨t,hh.new,e.symm⟩
     ·exact⟨v,hh.keep v hv e,rfl⟩
    unfold endB at he ⊢
    simp only [Bool.and_eq_true,Bool.or_eq_true,Bool.not_eq_true',bne_eq_false_iff_eq] at he ⊢
    refine⟨?_,?_⟩
    ·rcases he.1 with h1 | ⟨h1,h2⟩
     ·exact .inl h1
     ·exact .inr ⟨key _ h1,key _ h2⟩
    ·rw [List.all_eq_true] at *
     intro n hn
     exact has_of (s:=(s.1,s.2.1,l')) hs' hh.asc (hsup n (has_is hs (he.2 n hn)))
theorem v_50 (s:Scene)(t:Thing)(hs:Small s.2.2)(ht:t.2.2.2.2.length≤1000000000):F_50 s t=some ((endB s t,()):Els [.bool]):=by
 have h:=all_loop (G:=fun x=>G_50_2 x.1.2.2.1 x.1.2.2.2.1 x.1.2.2.2.2.1 x.2.1 x.2.2.1) (m:=fuel) t.2.2.2.2 (hasB s) (fun k=>(((),(),t.2.2.2.2,(t.2.2.2.2.length:Int),(k:Int),()),(s,()),(t,()),())) (.inr ((false,()),())) (.inl (((),(),()),(s,()),(t,()),()))
  (fun k n ha=>?_) ?_ (fuel_lt ht)
 ·unfold F_50
  cases hall:t.2.2.2.2.all (hasB s) with
  | false=>
   rw [hall] at h
   refine bind_ofV h ?_
   unfold endB
   rw [hall,Bool.and_false]
   rfl
  | true=>
   rw [hall] at h
   refine bind_ofV h ?_
   unfold endB
   rw [hall,Bool.and_true]
   show(bif t.2.1 != (2:Int) then some ((true,()):Els [.bool]) else(F_23 s t.2.2.2.1.1).bind fun v4=>(F_23 s t.2.2.2.1.2.1).bind fun v5=>bif v4.1.2.1==(1:Int) then some ((v5.1.2.1==(1:Int),()):Els [.bool]) else some (false,()))=_
   rw [v_23 s _ hs.1 hs.2,v_23 s _ hs.1 hs.2]
   unfold kindB
   simp only [Option.bind_some,bne]
   cases (t.2.1==(2:Int)) <;> cases ((getB s.2.2 t.2.2.2.1.1).1.2.1==(1:Int)) <;> cases ((getB s.2.2 t.2.2.2.1.2.1).1.2.1==(1:Int)) <;> rfl
 ·have hk:=len_of ha
  simp only [G_50_2,dec_lt hk,dec_in hk,cond_true,getD_of ha,wrap_up hk (by omega)]
  obtain⟨i,hi⟩:=v_48b s n hs
  rw [hi]
  cases hasB s n <;> rfl
 ·simp only [G_50_2,dec_end,cond_false]
def noScene:Scene:=(((0:Int),(0:Int)),(0:Int),[])
end Go.DI.S
