import Derived.Test.YtbjldjihpekhaaaGreatYa
import Derived.Test.YtbjldjihpekhaaaGreatMc
import Derived.Test.YtbjldjihpekhaaaGreatUc
/- A group let go; floats that are read, plain. No conditions. -/
set_option linter.unusedSimpArgs false
set_option linter.unusedVariables false
set_option maxRecDepth 100000
set_option maxHeartbeats 0
noncomputable section
namespace Go.DI.S
open Go.Proofs
def tin (t x:Thing):List Int:=(ins x++ins t).filter fun n=>!(n==nid t)
def fr (t x:Thing):Thing:=if(ins x).contains (nid t) then(x.1,x.2.1,x.2.2.1,x.2.2.2.1,sortI (tin t x)) else x
def freed (t:Thing)(l:List Thing):List Thing:=(l.filter fun x=>!(nid x==nid t)).map (fr t)
theorem fr_id (t x:Thing):nid (fr t x)=nid x:=by unfold fr;split <;> rfl
theorem fr_kind (t x:Thing):(fr t x).2.1=x.2.1:=by unfold fr;split <;> rfl
theorem fr_joint (t x:Thing):(fr t x).2.2.2.1=x.2.2.2.1:=by unfold fr;split <;> rfl
theorem fr_ins {t x:Thing}{n:Int}:n∈ins (fr t x)↔if nid t∈ins x then(n∈ins x∨n∈ins t)∧n≠nid t else n∈ins x:=by
 unfold fr
 by_cases h:nid t∈ins x
 ·rw [if_pos (List.contains_iff_mem.2 h),if_pos h]
  show n∈sortI (tin t x)↔_
  rw [(sortI_perm _).mem_iff]
  unfold tin
  simp [List.mem_filter]
  exact or_and_right.symm
 ·rw [if_neg (by rw [List.contains_iff_mem];exact h),if_neg h]
theorem mem_freed {t u:Thing}{l:List Thing}:u∈freed t l↔∃ x∈l,nid x≠nid t∧fr t x=u:=by
 unfold freed
 simp only [List.mem_map,List.mem_filter]
 constructor
 ·rintro ⟨x,⟨h1,h2⟩,h3⟩
  exact⟨x,h1,by simpa using h2,h3⟩
 ·rintro ⟨x,h1,h2,h3⟩
  exact⟨x,⟨h1,by simpa using h2⟩,h3⟩
theorem mem_mk {id:Int}:∀ {l:List Int} {a:Int},l.Pairwise (· < ·)→(∀ n∈l,a<n∧OkId n∧n≠id)→Mem id a l
 | [],_,_,_=>trivial
 | n :: l,a,hp,h=>by
  obtain⟨h1,h2⟩:=List.pairwise_cons.1 hp
  obtain⟨k1,k2,k3⟩:=h n (by simp)
  exact⟨k1,k2,k3,mem_mk h2 fun m hm=>⟨h1 m hm,(h m (by simp [hm])).2⟩⟩
theorem mem_all {id:Int}:∀ {l:List Int} {a:Int},Mem id a l→∀ n∈l,a<n∧OkId n∧n≠id
 | [],_,_,n,hn=>by cases hn
 | m :: l,a,⟨h1,h2,h3,h4⟩,n,hn=>by
  rcases List.mem_cons.1 hn with rfl | hn
  ·exact⟨h1,h2,h3⟩
  ·obtain⟨k1,k2⟩:=mem_all h4 n hn
   exact⟨Int.lt_trans h1 k1,k2⟩
theorem mem_nodup {id:Int}:∀ {l:List Int} {a:Int},Mem id a l→l.Nodup
 | [],_,_=>List.nodup_nil
 | m :: l,a,⟨h1,h2,h3,h4⟩=>List.nodup_cons.2 ⟨fun h=>Int.lt_irrefl _ (mem_all h4 m h).1,mem_nodup h4⟩
theorem sorted_lt {l:List Int}(hn:l.Nodup):(sortI l).Pairwise (· < ·):=by
 have h1:=sortI_sorted l
 have h2:(sortI l).Nodup:=(sortI_perm l).nodup_iff.2 hn
 exact(h1.and h2).imp fun⟨a,b⟩=>by omega
section
variable {s:Scene}{t:Thing}
theorem freed_asc (h:Asc s.2.2):Asc (freed t s.2.2):=by
 rw [asc_iff] at h ⊢
 have:(freed t s.2.2).map nid=(s.2.2.filter fun x=>!(nid x==nid t)).map nid:=by
  unfold freed
  rw [List.map_map]
  exact List.map_congr_left fun x _=>fr_id t x
 rw [this]
 exact h.sublist (List.Sublist.map nid List.filter_sublist)
theorem group_ins (h:Rt s)(hs:Small s.2.2){x:Thing}(hx:x∈s.2.2)(hn:ins x≠[]):x.2.1=3∧x.2.2.1=noB∧x.2.2.2.1=noJ∧Mem (nid x) 0 (ins x)∧1≤(ins x).length∧(ins x).length≤8:=by
 obtain⟨_,h1 | h1 | h1⟩:=thing_rt h hs hx
 ·exact absurd h1.2.2.1 hn
 ·exact absurd h1.2.2.1 hn
 ·exact h1
theorem not_self (h:Rt s)(hs:Small s.2.2){x:Thing}(hx:x∈s.2.2):nid x∉ins x:=fun hm=>by
 have:=group_ins h hs hx (List.ne_nil_of_mem hm)
 exact(mem_all this.2.2.2.1 _ hm).2.2 rfl
theorem one_of (h:Rt s){x y:Thing}(hx:x∈s.2.2)(hy:y∈s.2.2){n:Int}(h1:n∈ins x)(h2:n∈ins y):nid x=nid y:=by
 rw [← grp_in h.apart hx h1,← grp_in h.apart hy h2]
theorem up_in (h:Rt s)(ht:t∈s.2.2){x:Thing}(hx:x∈s.2.2){n:Int}(hn:n∈ins (fr t x)):grp s.2.2 n=nid x∨(grp s.2.2 n=nid t∧grp s.2.2 (nid t)=nid x):=by
 rw [fr_ins] at hn
 by_cases c:nid t∈ins x
 ·rw [if_pos c] at hn
  rcases hn.1 with h1 | h1
  ·exact .inl (grp_in h.apart hx h1)
  ·exact .inr ⟨grp_in h.apart ht h1,grp_in h.apart hx c⟩
 ·rw [if_neg c] at hn
  exact .inl (grp_in h.apart hx hn)
theorem tin_nodup (h:Rt s)(hs:Small s.2.2)(ht:t∈s.2.2){x:Thing}(hx:x∈s.2.2)(hne:nid x≠nid t):(tin t x).Nodup:=by
 have hd:∀ {y:Thing},y∈s.2.2→(ins y).Nodup:=fun {y} hy=>by
  by_cases c:ins y=[]
  ·rw [c];exact List.nodup_nil
  ·exact mem_nodup (group_ins h hs hy c).2.2.2.1
 unfold tin
 refine List.Nodup.sublist List.filter_sublist (List.nodup_append.2 ⟨hd hx,hd ht,fun a ha b hb e=>?_⟩)
 subst e
 exact hne (one_of h hx ht ha hb)
theorem freed_rt (h:Rt s)(hs:Small s.2.2)(ht:t∈s.2.2)(hk:t.2.1=3){x:Thing}(hx:x∈s.2.2)(hne:nid x≠nid t)(hf:nid t∈ins x→(tin t x).length≤8):RtP (fr t x):=by
 have hx0:=thing_rt h hs hx
 by_cases c:nid t∈ins x
 ·have hg:=group_ins h hs hx (List.ne_nil_of_mem c)
  have htk:ins t≠[]:=by
   obtain⟨_,h1 | h1 | h1⟩:=thing_rt h hs ht
   ·rw [hk] at h1;exact absurd h1.1 (by decide)
   ·rw [hk] at h1;exact absurd h1.1 (by decide)
   ·intro e;have:=h1.2.2.2.2.1;rw [e] at this;exact absurd this (by decide)
  have hgt:=group_ins h hs ht htk
  have e:fr t x=(x.1,x.2.1,x.2.2.1,x.2.2.2.1,sortI (tin t x)):=by unfold fr;rw [if_pos (List.contains_iff_mem.2 c)]
  rw [e]
  refine⟨hx0.1,.inr (.inr ⟨hg.1,hg.2.1,hg.2.2.1,?_,?_,?_⟩)⟩
  ·show Mem (nid x) 0 (sortI (tin t x))
   refine mem_mk (sorted_lt (tin_nodup h hs ht hx hne)) fun n hn=>?_
   rw [(sortI_perm _).mem_iff] at hn
   unfold tin at hn
   rw [List.mem_filter,List.mem_append] at hn
   rcases hn.1 with h1 | h1
   ·exact mem_all hg.2.2.2.1 n h1
   ·obtain⟨k1,k2,_⟩:=mem_all hgt.2.2.2.1 n h1
    refine⟨k1,k2,fun e=>?_⟩
    subst e
    have u1:grp s.2.2 (nid x)=nid t:=grp_in h.apart ht h1
    have u2:grp s.2.2 (nid t)=nid x:=grp_in h.apart hx c
    refine h.acyclic hs ⟨x,hx,rfl⟩ 2 (by decide) ?_
    show grp s.2.2 (grp s.2.2 (nid x))=nid x
    rw [u1,u2]
  ·show 1≤(sortI (tin t x)).length
   obtain⟨n,hn⟩:=List.exists_mem_of_ne_nil _ htk
   refine List.length_pos_of_mem (a:=n) ((sortI_perm _).mem_iff.2 ?_)
   unfold tin
   rw [List.mem_filter,List.mem_append]
   refine⟨.inr hn,?_⟩
   have:n≠nid t:=fun e=>not_self h hs ht (e▸hn)
   simpa using this
  ·show(sortI (tin t x)).length≤8
   rw [sortI_len];exact hf c
 ·have e:fr t x=x:=by unfold fr;rw [if_neg (by rw [List.contains_iff_mem];exact c)]
  rw [e];exact hx0
theorem freed_small (hs:Small s.2.2)(hl:∀ x∈s.2.2,nid t∈ins x→(tin t x).length≤8):Small (freed t s.2.2):=by
 refine⟨?_,fun u hu=>?_⟩
 ·unfold freed
  rw [List.length_map]
  exact Nat.le_trans (List.length_filter_le _ _) hs.1
 ·obtain⟨x,hx,_,rfl⟩:=mem_freed.1 hu
  unfold fr
  split
  ·rename_i c
   show(sortI (tin t x)).length≤_
   rw [sortI_len]
   have:=hl x hx (List.contains_iff_mem.1 c)
   omega
  ·exact hs.2 x hx
theorem freed_is {n:Int}(hn:Is s.2.2 n)(hne:n≠nid t):Is (freed t s.2.2) n:=by
 obtain⟨x,hx,e⟩:=hn
 exact⟨fr t x,mem_freed.2 ⟨x,hx,by rw [e];exact hne,rfl⟩,by rw [fr_id];exact e⟩
theorem freed_grp (h:Rt s)(ht:t∈s.2.2)(n:Int):grp (freed t s.2.2) n=0∨grp (freed t s.2.2) n=grp s.2.2 n∨grp (freed t s.2.2) n=grp s.2.2 (grp s.2.2 n):=by
 by_cases h0:grp (freed t s.2.2) n=0
 ·exact .inl h0
 ·right
  obtain⟨u,hu,hm,e⟩:=grp_of h0
  obtain⟨x,hx,_,rfl⟩:=mem_freed.1 hu
  rw [← e,fr_id]
  rcases up_in h ht hx hm with h1 | ⟨h1,h2⟩
  ·exact .inl h1.symm
  ·exact .inr (by rw [h1,h2])
theorem freed_upn (h:Rt s)(hs:Small s.2.2)(ht:t∈s.2.2)(n:Int):∀ k,upn (freed t s.2.2) k n=0∨∃ m,k≤m∧upn (freed t s.2.2) k n=upn s.2.2 m n
 | 0=>.inr ⟨0,Nat.le_refl _,rfl⟩
 | k+1=>by
  rw [upn_succ]
  rcases freed_upn h hs ht n k with h1 | ⟨m,h1,h2⟩
  ·rw [h1]
   left
   rcases freed_grp h ht 0 with h2 | h2 | h2
   ·exact h2
   ·rw [h2];exact h.grp0 hs
   ·rw [h2,h.grp0 hs];exact h.grp0 hs
  ·rw [h2]
   rcases freed_grp h ht (upn s.2.2 m n) with h3 | h3 | h3
   ·exact .inl h3
   ·exact .inr ⟨m+1,by omega,by rw [h3,upn_succ]⟩
   ·exact .inr ⟨m+2,by omega,by rw [h3,upn_succ,upn_succ]⟩
theorem freed_right (hr:rightB s=true)(hs:Small s.2.2)(ht:t∈s.2.2)(hk:t.2.1=3)(hl:∀ x∈s.2.2,nid t∈ins x→(tin t x).length≤8):rightB (s.1,s.2.1,freed t s.2.2)=true:=by
 have h:=right_of hr
 have hsm:Small (freed t s.2.2):=freed_small hs hl
 have hasc:Asc (freed t s.2.2):=freed_asc h.asc
 refine right_mk (s:=(s.1,s.2.1,freed t s.2.2)) hasc (fun u hu=>?_) ?_ h.next (show nearB s.1=true from near_of hr) (fun u hu=>?_) ?_ fun u hu j hj=>?_
 ·obtain⟨x,hx,hne,rfl⟩:=mem_freed.1 hu
  obtain⟨h1,h2,_⟩:=h.low x hx
  rw [fr_id]
  exact⟨h1,h2,(rt_iff (hsm.2 _ hu)).2 (freed_rt h hs ht hk hx hne (hl x hx))⟩
 ·show(freed t s.2.2).length≤40
  unfold freed
  rw [List.length_map]
  exact Nat.le_trans (List.length_filter_le _ _) h.len
 ·obtain⟨x,hx,hne,rfl⟩:=mem_freed.1 hu
  obtain⟨e1,e2⟩:=Cp.end_get (h.ends x hx)
  have hkind:∀ {n:Int},kindB s.2.2 n=1→kindB (freed t s.2.2) n=1:=fun {n} hn=>by
   obtain⟨y,hy,e,k⟩:=kind_of hn
   have hyt:nid y≠nid t:=fun e'=>by
    have:=h.asc.kind hy
    rw [e',h.asc.kind ht,hk] at this
    rw [k] at this
    exact absurd this (by decide)
   have hm:fr t y∈freed t s.2.2:=mem_freed.2 ⟨y,hy,hyt,rfl⟩
   have:=hasc.kind hm
   rw [fr_id,e,fr_kind] at this
   rw [this];exact k
  refine Cp.end_mk (s:=(s.1,s.2.1,freed t s.2.2)) (fun k=>?_) fun n hn=>?_
  ·rw [fr_kind] at k
   rw [fr_joint]
   exact⟨hkind (e1 k).1,hkind (e1 k).2⟩
  ·rw [fr_ins] at hn
   refine has_of (s:=(s.1,s.2.1,freed t s.2.2)) hsm hasc ?_
   show Is (freed t s.2.2) n
   by_cases c:nid t∈ins x
   ·rw [if_pos c] at hn
    rcases hn.1 with h1 | h1
    ·exact freed_is (h.member hs hx h1) hn.2
    ·exact freed_is (h.member hs ht h1) hn.2
   ·rw [if_neg c] at hn
    refine freed_is (h.member hs hx hn) fun e=>c (e▸hn)
 ·show((freed t s.2.2).flatMap ins).Nodup
  have hn:∀ u∈freed t s.2.2,(ins u).Nodup:=fun u hu=>by
   obtain⟨x,hx,hne,rfl⟩:=mem_freed.1 hu
   obtain⟨_,h1 | h1 | h1⟩:=freed_rt h hs ht hk hx hne (hl x hx)
   ·rw [h1.2.2.1];exact List.nodup_nil
   ·rw [h1.2.2.1];exact List.nodup_nil
   ·exact mem_nodup h1.2.2.2.1
  have hp:=asc_iff.1 hasc
  rw [List.pairwise_map] at hp
  refine List.pairwise_flatMap.2 ⟨hn,List.Pairwise.imp_of_mem (fun {a b} ha hb hab n hna m hmb e=>?_) hp⟩
  subst e
  obtain⟨x,hx,hxt,rfl⟩:=mem_freed.1 ha
  obtain⟨y,hy,hyt,rfl⟩:=mem_freed.1 hb
  rw [fr_id,fr_id] at hab
  have hxy:nid x≠nid y:=fun e=>Int.lt_irrefl _ (e▸hab)
  rcases up_in h ht hx hna with h1 | ⟨h1,h1'⟩
  ·rcases up_in h ht hy hmb with h2 | ⟨h2,h2'⟩
   ·exact hxy (h1.symm.trans h2)
   ·exact hxt (h1.symm.trans h2)
  ·rcases up_in h ht hy hmb with h2 | ⟨h2,h2'⟩
   ·exact hyt (h2.symm.trans h1)
   ·exact hxy (h1'.symm.trans h2')
 ·obtain⟨x,hx,hne,rfl⟩:=mem_freed.1 hu
  rw [fr_id]
  show upn (freed t s.2.2) (j+1) (nid x)≠nid x
  intro e
  rcases freed_upn h hs ht (nid x) (j+1) with h1 | ⟨m,h1,h2⟩
  ·rw [h1] at e
   exact h.pos ⟨x,hx,rfl⟩ e.symm
  ·rw [h2] at e
   exact h.acyclic hs ⟨x,hx,rfl⟩ m (by omega) e
end
theorem bne_of {a b:Int}(h:a≠b):(a != b)=true:=by simpa using h
theorem bne_no {a b:Int}(h:a=b):(a != b)=false:=by simpa using h
theorem cont_no {l:List Int}{a:Int}(h:a∉l):l.contains a=false:=by
 have:¬l.contains a=true:=fun h'=>h (List.contains_iff_mem.1 h')
 simpa using this
theorem v_growi {n:Nat}(hn:n≤1000000):F_growi () (n:Int)=some []:=by
 unfold F_growi
 by_cases h:n=0
 ·subst h;rfl
 ·rw [decide_eq_true (show(0:Int)<(n:Int) by omega),decide_eq_true (show(n:Int)≤1000000 by omega)];rfl
theorem v_cat (a b:List Int)(ha:a.length≤1000)(hb:b.length≤1000):F_cat [a,b]=some (a++b):=by
 have w1:IntKind.i64.wrap ((0:Int)+(a.length:Int))=(a.length:Int):=by rw [wrap64 (by omega) (by omega)];omega
 have w2:IntKind.i64.wrap ((a.length:Int)+(b.length:Int))=((a.length+b.length:Nat):Int):=by rw [wrap64 (by omega) (by omega)];omega
 have n1:decide ((a.length:Int)<0)=false:=decide_eq_false (by omega)
 have n2:decide ((((a.length+b.length:Nat):Int))<0)=false:=decide_eq_false (by omega)
 have e3:R_cat_3 (([a,b],(0:Int),[a,b],(2:Int),(0:Int),()),())=some (.inl (([a,b],((a.length+b.length:Nat):Int),()),())):=by
  unfold R_cat_3
  rw [show fuel=18446744073709551613+1+1+1 from rfl,rounds_in (x':=(([a,b],(a.length:Int),[a,b],(2:Int),(1:Int),()),())),rounds_in (x':=(([a,b],((a.length+b.length:Nat):Int),[a,b],(2:Int),(2:Int),()),())),rounds_out (y:=.inl (([a,b],((a.length+b.length:Nat):Int),()),()))]
  ·rfl
  ·show(bif decide (IntKind.i64.wrap ((a.length:Int)+(b.length:Int))<(0:Int)) then _ else some (Sum.inl (([a,b],IntKind.i64.wrap ((a.length:Int)+(b.length:Int)),[a,b],(2:Int),(2:Int),()),())))=_
   rw [w2,n2];rfl
  ·show(bif decide (IntKind.i64.wrap ((0:Int)+(a.length:Int))<(0:Int)) then _ else some (Sum.inl (([a,b],IntKind.i64.wrap ((0:Int)+(a.length:Int)),[a,b],(2:Int),(1:Int),()),())))=_
   rw [w1,n1];rfl
 have e11:R_cat_11 (((),[a,b],(2:Int),(0:Int),()),[],())=some (.inl (((),()),a++b,())):=by
  unfold R_cat_11
  rw [show fuel=18446744073709551613+1+1+1 from rfl,rounds_in (x':=(((),[a,b],(2:Int),(1:Int),()),a,())),rounds_in (x':=(((),[a,b],(2:Int),(2:Int),()),a++b,())),rounds_out (y:=.inl (((),()),a++b,()))]
  ·rfl
  ·show(bif((a.length+b.length)*8).ble 70368744177664 then some (Sum.inl (((),[a,b],(2:Int),(2:Int),()),a++b,())) else none)=_
   rw [Nat.ble_eq_true_of_le (show(a.length+b.length)*8≤70368744177664 by omega)];rfl
  ·show(bif(([]:List Int).length+a.length)*8 |>.ble 70368744177664 then some (Sum.inl (((),[a,b],(2:Int),(1:Int),()),[]++a,())) else none)=_
   rw [Nat.ble_eq_true_of_le (show(([]:List Int).length+a.length)*8≤70368744177664 by simp;omega)];rfl
 unfold F_cat
 exact bind_ofV e3 (bind_ofV (v_growi (by omega)) (bind_ofV e11 rfl))
theorem v_idxf (l:List Int)(t:Thing)(hl:l.length≤1000000000):F_idxf (t,()) l=some ((idxI l (fun n=>n==nid t),()),(t,()),l,()):=by
 have h:=find_loop (G:=fun x=>G_idxf_2 x.1.2.2.1 x.1.2.2.2.1 x.2.1 x.2.2.1) (m:=fuel) l (fun n=>n==nid t) (fun k=>(((),(),(l.length:Int),(k:Int),()),(t,()),l,())) (fun k=>.inr (((k:Int),()),(t,()),l,())) (.inl ((),(t,()),l,()))
  (fun k x hx=>?_) ?_ (fuel_lt hl)
 ·unfold F_idxf R_idxf_2 idxI
  rw [show(0:Int)=((0:Nat):Int) from rfl,h]
  cases l.findIdx? (fun n=>n==nid t) <;> rfl
 ·have hk:=len_of hx
  simp only [G_idxf_2,dec_lt hk,dec_in hk,cond_true,getD_of hx,wrap_up hk (by omega)]
  show(bif(x==nid t) then _ else _)=_
  cases (x==nid t) <;> rfl
 ·simp only [G_idxf_2,dec_end,cond_false]
def keepN (t:Thing)(n:Int):Bool:=!(n==nid t)
theorem loop_delf (l:List Int)(t:Thing)(hl:l.length≤1000000000):∀ (d f j i:Nat) (r:List Int),j+d=l.length→d<f→r.length=l.length→i<j→r.take i=(l.take j).filter (keepN t)→r.drop j=l.drop j →
  ∃ (r':List Int) (i':Nat),roundsT (fun x=>G_delf_5 x.1.2.2.1 x.1.2.2.2.1 x.2.1 x.2.2.1) f (((),(),(i:Int),(j:Int),()),(t,()),r,())=some (.inl (((),(i':Int),()),(t,()),r',()))∧r'.length=l.length∧i'<l.length∧r'.take i'=l.filter (keepN t)
 | 0,f,j,i,r,hj,hf,hr,hi,h1,h2=>by
  obtain⟨f,rfl⟩:∃ k,f=k+1:=⟨f-1,by omega⟩
  have:j=l.length:=by omega
  subst this
  refine⟨r,i,rounds_out (by simp only [G_delf_5,hr,dec_end,cond_false]) f,hr,hi,?_⟩
  rw [h1,List.take_length]
 | d+1,f,j,i,r,hj,hf,hr,hi,h1,h2=>by
  obtain⟨f,rfl⟩:∃ k,f=k+1:=⟨f-1,by omega⟩
  have hlt:j<l.length:=by omega
  have hlr:j<r.length:=by omega
  have hir:i<r.length:=by omega
  have e1:r[j]=l[j]:=by
   have:=h2
   rw [List.drop_eq_getElem_cons hlt,List.drop_eq_getElem_cons hlr] at this
   injection this
  have e2:r.drop (j+1)=l.drop (j+1):=by
   have:=h2
   rw [List.drop_eq_getElem_cons hlt,List.drop_eq_getElem_cons hlr] at this
   injection this
  have ht:l.take (j+1)=l.take j++[l[j]]:=List.take_succ_eq_append_getElem hlt
  cases hk:(l[j]==nid t) with
  | true=>
   obtain⟨r',i',k1,k2,k3,k4⟩:=loop_delf l t hl d f (j+1) i r (by omega) (by omega) hr (by omega) (by
    rw [ht,List.filter_append,h1]
    have:[l[j]].filter (keepN t)=[]:=by simp only [List.filter_cons,List.filter_nil,keepN,hk];rfl
    rw [this,List.append_nil]) e2
   refine⟨r',i',?_,k2,k3,k4⟩
   rw [rounds_in (x':=(((),(),(i:Int),((j+1:Nat):Int),()),(t,()),r,())) ?_ f]
   ·exact k1
   ·simp only [G_delf_5,dec_lt hlr,dec_in hlr,cond_true,getD_of (List.getElem?_eq_getElem hlr),e1,wrap_up hlt (by omega)]
    show(bif !(l[j]==nid t) then _ else _)=_
    rw [hk];rfl
  | false=>
   obtain⟨r',i',k1,k2,k3,k4⟩:=loop_delf l t hl d f (j+1) (i+1) (r.set i l[j]) (by omega) (by omega) (by rw [List.length_set];exact hr) (by omega) (by
    have hs:(r.set i l[j]).take (i+1)=r.take i++[l[j]]:=by
     rw [List.take_succ_eq_append_getElem (by rw [List.length_set];exact hir),List.getElem_set_self,List.take_set_of_le (Nat.le_refl _)]
    rw [hs,ht,List.filter_append,h1]
    have:[l[j]].filter (keepN t)=[l[j]]:=by simp only [List.filter_cons,List.filter_nil,keepN,hk];rfl
    rw [this]) (by rw [List.drop_set_of_lt (by omega),e2])
   refine⟨r',i',?_,k2,k3,k4⟩
   rw [rounds_in (x':=(((),(),((i+1:Nat):Int),((j+1:Nat):Int),()),(t,()),r.set i l[j],())) ?_ f]
   ·exact k1
   ·simp only [G_delf_5,dec_lt hlr,dec_in hlr,dec_in hir,cond_true,getD_of (List.getElem?_eq_getElem hlr),e1,wrap_up hlt (by omega),wrap_up hir (by omega)]
    show(bif !(l[j]==nid t) then _ else _)=_
    rw [hk];rfl
theorem v_delf (l:List Int)(t:Thing)(hl:l.length≤1000000000):F_delf (t,()) l=some (((),()),(t,()),l.filter (keepN t),()):=by
 unfold F_delf
 rw [v_idxf l t hl]
 simp only [Option.bind_some]
 unfold idxI
 cases hx:l.findIdx? (fun n=>n==nid t) with
 | none=>
  rw [List.findIdx?_eq_none_iff] at hx
  have:l.filter (keepN t)=l:=List.filter_eq_self.2 fun n hn=>by unfold keepN;rw [hx n hn];rfl
  rw [this];rfl
 | some k=>
  rw [List.findIdx?_eq_some_iff_getElem] at hx
  obtain⟨h1,h2,h3⟩:=hx
  have hne:((k:Int)==(-1:Int))=false:=beq_eq_false_iff_ne.2 (by omega)
  have hd:l.length-(k+1)<fuel:=fuel_lt (by omega)
  obtain⟨r',i',k1,k2,k3,k4⟩:=loop_delf l t hl (l.length-(k+1)) fuel (k+1) k l (by omega) hd rfl (by omega) (by
   rw [List.take_succ_eq_append_getElem h1,List.filter_append]
   have e1:[l[k]].filter (keepN t)=[]:=by simp only [List.filter_cons,List.filter_nil,keepN,h2];rfl
   have e2:(l.take k).filter (keepN t)=l.take k:=List.filter_eq_self.2 fun n hn=>by
    obtain⟨j,hj,e⟩:=List.getElem_of_mem hn
    rw [List.length_take] at hj
    have hj:j<k:=by omega
    rw [List.getElem_take] at e
    have:=h3 j hj
    unfold keepN
    rw [← e]
    simpa using this
   rw [e1,e2,List.append_nil]) rfl
  rw [hne,cond_false,wrap_up h1 (by omega)]
  have hR:R_delf_5 (((),(),(k:Int),((k+1:Nat):Int),()),(t,()),l,())=some (.inl (((),(i':Int),()),(t,()),r',())):=k1
  rw [hR]
  simp only [Option.bind_some,Sum.elim_inl]
  have c1:decide ((0:Int)≤(i':Int)∧(i':Int)≤(r'.length:Int))=true:=decide_eq_true (by omega)
  have c2:i'.blt r'.length=true:=by rw [Nat.blt_eq];omega
  have c3:(i'*1+(r'.length-i')).beq r'.length=true:=(by rw [Nat.beq_eq];omega)
  have c4:Nat.blt 0 r'.length=true:=by rw [Nat.blt_eq];omega
  have e5:(r'.take (i'*1)++List.replicate (r'.length-i') (0:Int)).length=r'.length:=by simp;omega
  have e6:(r'.take (i'*1)++List.replicate (r'.length-i') (0:Int)).take i'=r'.take i':=by
   rw [Nat.mul_one,List.take_append_of_le_length (by rw [List.length_take];omega),List.take_take,Nat.min_self]
  refine yesV c1 (yesV c2 (yesV ?_ (yesV (decide_eq_true ⟨by show(0:Int)≤(i':Int);omega,?_⟩) (yesV ?_ ?_))))
  ·show(true&&((i'*1+(r'.length-i')).beq r'.length&&(Nat.blt 0 r'.length&&true)))=true
   rw [c3,c4];rfl
  ·show(i':Int)≤(((r'.take (i'*1)++List.replicate (r'.length-i') (0:Int)).length:Nat):Int)
   rw [e5];omega
  ·show Nat.blt 0 ((r'.take (i'*1)++List.replicate (r'.length-i') (0:Int)).length)=true
   rw [e5];exact c4
  ·show some (((),()),(t,()),(r'.take (i'*1)++List.replicate (r'.length-i') (0:Int)).take i',())=_
   rw [e6,k4]
theorem ins_few {s:Scene}(h:Rt s)(hs:Small s.2.2){x:Thing}(hx:x∈s.2.2):(ins x).length≤8:=by
 by_cases c:ins x=[]
 ·rw [c];exact Nat.zero_le _
 ·exact(group_ins h hs hx c).2.2.2.2.2
theorem freed_snoc (t:Thing)(l:List Thing)(x:Thing):freed t (l++[x])=(if nid x=nid t then freed t l else freed t l++[fr t x]):=by
 unfold freed
 rw [List.filter_append,List.map_append]
 by_cases h:nid x=nid t
 ·rw [if_pos h]
  have:[x].filter (fun x=>!(nid x==nid t))=[]:=by simp [h]
  rw [this];simp
 ·rw [if_neg h]
  have:[x].filter (fun x=>!(nid x==nid t))=[x]:=by simp [h]
  rw [this];rfl
theorem freed_len (t:Thing)(l:List Thing):(freed t l).length≤l.length:=by
 unfold freed
 rw [List.length_map]
 exact List.length_filter_le _ _
theorem q_free {w:tWorker.El}(hs:Small w.1.2.2)(hr:rightB w.1=true){t:Thing}(ht:t∈w.1.2.2)(z:Scene)(g:Vec)(nx:Int) :
  ∃ y,R_free_9 (((),(),(),(),(),(w.1.2.2.length:Int),(0:Int),()),(w,()),(z,()),(t,()),(g,nx,(),()),[],w.1.2.2,())=some y ∧
   ((y=.inl (((),(),(),()),(w,()),(z,()),(g,nx,(),()),freed t w.1.2.2,())∧∀ x∈w.1.2.2,nid t∈ins x→(tin t x).length≤8)∨y=.inr (((),(),(0:Int),(12:Int),()),(w,()),(w.1,()),())):=by
 have h:=right_of hr
 have h40:=h.len
 have:=rounds_mu (G:=fun x=>G_free_9 x.1.2.2.2.2.2.1 x.1.2.2.2.2.2.2.1 x.2.1 x.2.2.1 x.2.2.2.1 x.2.2.2.2.1 x.2.2.2.2.2.1 x.2.2.2.2.2.2.1)
  (fun x=>∃ k:Nat,k≤w.1.2.2.length∧(∀ x∈w.1.2.2.take k,nid t∈ins x→(tin t x).length≤8)∧x=(((),(),(),(),(),(w.1.2.2.length:Int),(k:Int),()),(w,()),(z,()),(t,()),(g,nx,(),()),freed t (w.1.2.2.take k),w.1.2.2,()))
  (fun x=>w.1.2.2.length-x.1.2.2.2.2.2.2.1.toNat)
  (fun y=>(y=.inl (((),(),(),()),(w,()),(z,()),(g,nx,(),()),freed t w.1.2.2,())∧∀ x∈w.1.2.2,nid t∈ins x→(tin t x).length≤8)∨y=.inr (((),(),(0:Int),(12:Int),()),(w,()),(w.1,()),())) ?_ fuel (((),(),(),(),(),(w.1.2.2.length:Int),(0:Int),()),(w,()),(z,()),(t,()),(g,nx,(),()),[],w.1.2.2,()) ⟨0,Nat.zero_le _,by simp,rfl⟩ (by
   show w.1.2.2.length-(0:Int).toNat<fuel
   unfold fuel;omega)
 ·exact this
 ·rintro x ⟨k,hk,hq,rfl⟩
  show(∃ x',G_free_9 (w.1.2.2.length:Int) (k:Int) (w,()) (z,()) (t,()) (g,nx,(),()) (freed t (w.1.2.2.take k)) w.1.2.2=_∧_)∨∃ y,G_free_9 (w.1.2.2.length:Int) (k:Int) (w,()) (z,()) (t,()) (g,nx,(),()) (freed t (w.1.2.2.take k)) w.1.2.2=_∧_
  unfold G_free_9
  by_cases hlt:k<w.1.2.2.length
  ·have ha:=List.getElem?_eq_getElem hlt
   generalize hx:w.1.2.2[k]=x at ha
   have hxm:x∈w.1.2.2:=List.mem_of_getElem? ha
   have h8:=ins_few h hs hxm
   have h8t:=ins_few h hs ht
   have htk:w.1.2.2.take (k+1)=w.1.2.2.take k++[x]:=by rw [List.take_succ_eq_append_getElem hlt,hx]
   have hfl:(freed t (w.1.2.2.take k)).length≤40:=Nat.le_trans (freed_len _ _) (by rw [List.length_take];omega)
   have h59:=v_59 x.2.2.2.2 t.1 (by show(ins x).length≤_;omega)
   have hmu:∀ j:Int,w.1.2.2.length-(IntKind.i64.wrap ((k:Int)+1)).toNat<w.1.2.2.length-(k:Int).toNat:=fun _=>by
    rw [wrap_up hlt (by omega)];omega
   have hsz:∀ u:Thing,Nat.ble (((freed t (w.1.2.2.take k)).length+[u].length)*128) 70368744177664=true:=fun u=>Nat.ble_eq_true_of_le (by simp only [List.length_cons,List.length_nil];omega)
   simp only [dec_lt hlt,dec_in hlt,cond_true,getD_of ha]
   by_cases hc:nid t∈ins x
   ·have hcb:(x.2.2.2.2).contains t.1=true:=List.contains_iff_mem.2 hc
    rw [hcb] at h59
    have hcat:=v_cat x.2.2.2.2 t.2.2.2.2 (by show(ins x).length≤_;omega) (by show(ins t).length≤_;omega)
    have hdel:=v_delf (x.2.2.2.2++t.2.2.2.2) t (by rw [List.length_append];show(ins x).length+(ins t).length≤_;omega)
    have htl:(tin t x).length≤16:=Nat.le_trans (List.length_filter_le _ _) (by rw [List.length_append];omega)
    have e74:F_74 (tin t x)=some ((),sortI (tin t x),()):=by
     unfold F_74
     rw [show Nat.ble (tin t x).length 1000000=true from Nat.ble_eq_true_of_le (by omega)]
     rfl
    have hnt:nid x≠nid t:=fun e=>not_self h hs ht (by
     have:x=t:=by
       obtain⟨i,hi⟩:=List.mem_iff_getElem?.1 hxm
       obtain⟨j,hj⟩:=List.mem_iff_getElem?.1 ht
       have:=h.asc.one hi hj e
       subst this
       exact Option.some.inj (hi.symm.trans hj)
     exact this▸hc)
    by_cases h9:(tin t x).length≤8
    ·left
     refine⟨_,bind_ofV h59 (yesV rfl (bind_ofV hcat (bind_ofV hdel (bind_ofV e74 (noV (decide_eq_false (by show ¬(((sortI (tin t x)).length:Int)>8);rw [sortI_len];omega)) (yesV (bne_of (a:=nid x) (b:=nid t) hnt) (yesV (hsz _) rfl))))))),⟨k+1,hlt,fun u hu=>?_,?_⟩,hmu 0⟩
     ·rw [htk,List.mem_append,List.mem_singleton] at hu
      rcases hu with hu | rfl
      ·exact hq u hu
      ·exact fun _=>h9
     ·rw [htk,freed_snoc,if_neg hnt,wrap_up hlt (by omega)]
      unfold fr
      rw [if_pos (List.contains_iff_mem.2 hc)]
    ·right
     exact⟨_,bind_ofV h59 (yesV rfl (bind_ofV hcat (bind_ofV hdel (bind_ofV e74 (yesV (decide_eq_true (by show(((sortI (tin t x)).length:Int)>8);rw [sortI_len];omega)) rfl))))),.inr rfl⟩
   ·have hcb:(x.2.2.2.2).contains t.1=false:=cont_no (l:=ins x) (a:=nid t) hc
    rw [hcb] at h59
    left
    by_cases hnt:nid x=nid t
    ·refine⟨_,bind_ofV h59 (noV rfl (noV (bne_no (a:=nid x) (b:=nid t) hnt) rfl)),⟨k+1,hlt,fun u hu=>?_,?_⟩,hmu 0⟩
     ·rw [htk,List.mem_append,List.mem_singleton] at hu
      rcases hu with hu | rfl
      ·exact hq u hu
      ·exact fun h'=>absurd h' hc
     ·rw [htk,freed_snoc,if_pos hnt,wrap_up hlt (by omega)]
    ·refine⟨_,bind_ofV h59 (noV rfl (yesV (bne_of (a:=nid x) (b:=nid t) hnt) (yesV (hsz _) rfl))),⟨k+1,hlt,fun u hu=>?_,?_⟩,hmu 0⟩
     ·rw [htk,List.mem_append,List.mem_singleton] at hu
      rcases hu with hu | rfl
      ·exact hq u hu
      ·exact fun h'=>absurd h' hc
     ·rw [htk,freed_snoc,if_neg hnt,wrap_up hlt (by omega)]
      unfold fr
      rw [if_neg (by rw [List.contains_iff_mem];exact hc)]
  ·have:k=w.1.2.2.length:=by omega
   subst this
   rw [List.take_length] at hq ⊢
   simp only [dec_end,cond_false]
   exact .inr ⟨_,rfl,.inl ⟨rfl,hq⟩⟩
theorem v_free {w:tWorker.El}(hs:Small w.1.2.2)(hr:rightB w.1=true) :
  (∃ e:Int,e≠0∧F_free (w,())=some (((w.1,0,e,()),(w,()),()):OUT_free.El)) ∨
  (∃ t∈w.1.2.2,t.2.1=3∧(∀ x∈w.1.2.2,nid t∈ins x→(tin t x).length≤8)∧F_free (w,())=some ((((w.1.1,w.1.2.1,freed t w.1.2.2),0,0,()),(w,()),()):OUT_free.El)):=by
 have h:=right_of hr
 have e23:=v_23 w.1 w.2.1.2.1 hs.1 hs.2
 unfold F_free
 cases hg:(getB w.1.2.2 w.2.1.2.1).2 with
 | false=>
  rw [hg] at e23
  exact .inl ⟨10,by decide,bind_ofV e23 (yesV rfl rfl)⟩
 | true=>
  rw [hg] at e23
  obtain⟨t,ht,e⟩:=is_getB hg
  have hgt:(getB w.1.2.2 w.2.1.2.1).1=t:=by rw [← e,h.asc.getB ht]
  rw [hgt] at e23
  by_cases hk:t.2.1=3
  ·obtain⟨y,hy,hp⟩:=q_free hs hr ht ((((0:Int),(0:Int)),(0:Int),[])) w.1.1 w.1.2.1
   have hoo:=v_oown w.1.2.2 hs (by have:=h.len;omega)
   rcases hp with⟨rfl,hq⟩ | rfl
   ·exact .inr ⟨t,ht,hk,hq,bind_ofV e23 (noV rfl (noV (by show(t.2.1 != (3:Int))=false;rw [hk];rfl) (bind_ofV hoo (bind_ofV hy rfl))))⟩
   ·exact .inl ⟨12,by decide,bind_ofV e23 (noV rfl (noV (by show(t.2.1 != (3:Int))=false;rw [hk];rfl) (bind_ofV hoo (bind_ofV hy rfl))))⟩
  ·exact .inl ⟨9,by decide,bind_ofV e23 (noV rfl (yesV (by show(t.2.1 != (3:Int))=true;simpa using hk) rfl))⟩
def isNum:Ieee.Datum→Bool
 | .nan _ _=>false
 | _=>true
theorem num_word (s:Bool)(r:Nat)(h:r≤9218868437227405312):isNum (Ieee.double.read (Ieee.double.word s r))=true:=by
 have hw:(Ieee.double.word s r) % 9223372036854775808=r:=by
  unfold Ieee.Format.word
  cases s
  ·show r % 9223372036854775808=r
   omega
  ·show(9223372036854775808+r) % 9223372036854775808=r
   omega
 unfold Ieee.Format.read
 show isNum (if Ieee.double.word s r % 9223372036854775808<Ieee.double.binade then _ else if Ieee.double.word s r % 9223372036854775808<Ieee.double.infRung then _ else if Ieee.double.word s r % 9223372036854775808=9218868437227405312 then _ else _)=true
 rw [hw]
 split
 ·rfl
 ·split
  ·rfl
  ·rename_i h2
   have h2:¬r<9218868437227405312:=h2
   rw [if_pos (by omega)];rfl
theorem num_write {d:Ieee.Datum}(h:isNum d=true):isNum (Ieee.double.read (Ieee.double.write d))=true:=by
 cases d with
 | nan s f=>cases h
 | infinity s=>exact num_word s _ (Nat.le_refl _)
 | number s m e=>
  unfold Ieee.Format.write Ieee.Format.nearest
  show isNum (Ieee.double.read (if m=0 then _ else _))=true
  split
  ·exact num_word s 0 (by decide)
  ·exact num_word s _ (Nat.min_le_right _ _)
theorem num_integral {d:Ieee.Datum}(w:Ieee.Toward)(h:isNum d=true):isNum (d.integral w)=true:=by
 cases d with
 | nan s f=>cases h
 | infinity s=>rfl
 | number s m e=>rfl
theorem lt_of_cmp {a b:Int}(h:(some (compare a b)==some Ordering.gt||some (compare a b)==some Ordering.eq)=false):a<b:=by
 refine Int.not_le.1 fun hc=>?_
 rcases Int.lt_or_eq_of_le hc with h1 | h1
 ·have:compare a b=.gt:=by
   show compareOfLessAndEq a b=_
   unfold compareOfLessAndEq
   rw [if_neg (by omega),if_neg (by omega)]
  rw [this] at h;cases h
 ·have:compare a b=.eq:=by
   show compareOfLessAndEq a b=_
   unfold compareOfLessAndEq
   rw [if_neg (by omega),if_pos h1.symm]
  rw [this] at h;cases h
theorem ge_of_cmp {a b:Int}(h:(some (compare a b)==some Ordering.lt)=false):b≤a:=by
 refine Int.not_lt.1 fun hc=>?_
 have:compare a b=.lt:=by
  show compareOfLessAndEq a b=_
  unfold compareOfLessAndEq
  rw [if_pos hc]
 rw [this] at h;cases h
theorem cut_zero (s:Bool)(n drop:Nat):Ieee.Toward.cut .zero s n drop≤n / 2^drop:=by
 unfold Ieee.Toward.cut
 show n / (1 <<< min drop (n.log2+2))+(false).toNat≤_
 rw [Nat.shiftLeft_eq,Nat.one_mul]
 show n / 2^(min drop (n.log2+2))+0≤_
 by_cases h:drop≤n.log2+2
 ·rw [Nat.min_eq_left h];exact Nat.le_refl _
 ·rw [Nat.min_eq_right (by omega)]
  have:n<2^(n.log2+2):=Nat.lt_trans Nat.lt_log2_self (Nat.pow_lt_pow_right (by decide) (by omega))
  rw [Nat.div_eq_of_lt this]
  exact Nat.zero_le _
theorem whole_small (s:Bool)(m:Nat)(i:Int) :
  (m*2^(i-min i 11).toNat<4503599627370496*2^(11-min i 11).toNat→Ieee.Toward.cut .zero s (m <<< i.toNat) (-i).toNat<9223372036854775808) ∧
  (m*2^(i-min i 11).toNat≤4503599627370496*2^(11-min i 11).toNat→Ieee.Toward.cut .zero s (m <<< i.toNat) (-i).toNat≤9223372036854775808):=by
 have hc:=cut_zero s (m <<< i.toNat) (-i).toNat
 rw [Nat.shiftLeft_eq] at hc ⊢
 generalize Ieee.Toward.cut .zero s (m*2^i.toNat) (-i).toNat=k at hc ⊢
 by_cases h0:0≤i
 ·obtain⟨j,rfl⟩:=Int.eq_ofNat_of_zero_le h0
  have e1:(-((j:Nat):Int)).toNat=0:=by omega
  rw [e1,Nat.pow_zero,Nat.div_one,Int.toNat_natCast] at hc
  by_cases h11:11≤j
  ·have e2:(((j:Nat):Int)-min (j:Int) 11).toNat=j-11:=by omega
   have e3:(11-min ((j:Nat):Int) 11).toNat=0:=by omega
   rw [e2,e3]
   have e4:m*2^j=m*2^(j-11)*2048:=by
    rw [Nat.mul_assoc,show 2048=2^11 from rfl,← Nat.pow_add,Nat.sub_add_cancel h11]
   rw [e4] at hc
   constructor <;> intro h <;> omega
  ·have e2:(((j:Nat):Int)-min (j:Int) 11).toNat=0:=by omega
   have e3:(11-min ((j:Nat):Int) 11).toNat=11-j:=by omega
   rw [e2,e3,Nat.pow_zero,Nat.mul_one]
   have e4:4503599627370496*2^(11-j)*2^j=9223372036854775808:=by
    rw [Nat.mul_assoc,← Nat.pow_add,Nat.sub_add_cancel (by omega)]
   have hp:0<2^j:=Nat.pow_pos (by decide)
   constructor
   ·intro h
    have:=Nat.mul_lt_mul_of_pos_right h hp
    omega
   ·intro h
    have:=Nat.mul_le_mul_right (2^j) h
    omega
 ·obtain⟨j,rfl⟩:∃ j:Nat,i=-(j:Int):=⟨(-i).toNat,by omega⟩
  have e1:(-(-((j:Nat):Int))).toNat=j:=by omega
  have e0:(-((j:Nat):Int)).toNat=0:=by omega
  rw [e1,e0,Nat.pow_zero,Nat.mul_one] at hc
  have e2:(-((j:Nat):Int)-min (-(j:Int)) 11).toNat=0:=by omega
  have e3:(11-min (-((j:Nat):Int)) 11).toNat=11+j:=by omega
  rw [e2,e3,Nat.pow_zero,Nat.mul_one,Nat.pow_add,← Nat.mul_assoc]
  have hp:0<2^j:=Nat.pow_pos (by decide)
  constructor
  ·intro h
   have:=(Nat.div_lt_iff_lt_mul hp).2 h
   exact Nat.lt_of_le_of_lt hc this
  ·intro h
   have:=Nat.div_le_of_le_mul (Nat.mul_comm _ _▸h)
   exact Nat.le_trans hc this
theorem int_ok {R:Nat}(hn:isNum (Ieee.double.read R)=true)(h1:fGe FloatKind.f64 R 4890909195324358656=false)(h2:fLt FloatKind.f64 R 14114281232179134464=false):fIntOk FloatKind.f64 R .i64=true:=by
 have r1:Ieee.double.read 4890909195324358656=.number false 4503599627370496 11:=by rfl
 have r2:Ieee.double.read 14114281232179134464=.number true 4503599627370496 11:=by rfl
 have h1:((Ieee.double.read R).order (Ieee.double.read 4890909195324358656)==some .gt||(Ieee.double.read R).order (Ieee.double.read 4890909195324358656)==some .eq)=false:=h1
 have h2:((Ieee.double.read R).order (Ieee.double.read 14114281232179134464)==some .lt)=false:=h2
 rw [r1] at h1
 rw [r2] at h2
 show(match (Ieee.double.read R).toInt .zero with | some n=>decide (IntKind.i64.min≤n)&&decide (n≤IntKind.i64.max) | none=>false)=true
 cases hd:Ieee.double.read R with
 | nan s f=>rw [hd] at hn;cases hn
 | infinity s=>
  rw [hd] at h1 h2
  cases s
  ·cases h1
  ·cases h2
 | number s m i=>
  rw [hd] at h1 h2
  have h1:=lt_of_cmp h1
  have h2:=ge_of_cmp h2
  obtain⟨w1,w2⟩:=whole_small s m i
  show(decide (IntKind.i64.min≤Ieee.signed s (Ieee.Toward.cut .zero s (m <<< i.toNat) (-i).toNat) 0)&&decide (Ieee.signed s (Ieee.Toward.cut .zero s (m <<< i.toNat) (-i).toNat) 0≤IntKind.i64.max))=true
  have m1:IntKind.i64.min=-9223372036854775808:=rfl
  have m2:IntKind.i64.max=9223372036854775807:=rfl
  rw [m1,m2]
  unfold Ieee.signed at h1 h2 ⊢
  simp only [Nat.shiftLeft_eq,Nat.pow_zero,Nat.mul_one] at h1 h2 ⊢
  simp only [Nat.shiftLeft_eq] at w1 w2
  generalize hA:m*2^(i-min i 11).toNat=A at h1 h2 w1 w2
  generalize hB:4503599627370496*2^(11-min i 11).toNat=B at h1 h2 w1 w2
  generalize Ieee.Toward.cut .zero s (m*2^i.toNat) (-i).toNat=k at w1 w2 ⊢
  cases s
  ·have h1:((A:Nat):Int)<(B:Int):=h1
   have:=w1 (by omega)
   show(decide ((-9223372036854775808:Int)≤((k:Nat):Int))&&decide (((k:Nat):Int)≤9223372036854775807))=true
   rw [decide_eq_true (by omega),decide_eq_true (by omega)];rfl
  ·have h2:-((B:Nat):Int)≤-(A:Int):=h2
   have:=w2 (by omega)
   show(decide ((-9223372036854775808:Int)≤-((k:Nat):Int))&&decide (-((k:Nat):Int)≤9223372036854775807))=true
   rw [decide_eq_true (by omega),decide_eq_true (by omega)];rfl
theorem tot_class (a:Nat):Tot (F_class a):=by
 unfold F_class
 have hz:∀ {c:Bool},Tot (bif c then Option.some (((4:Int),()):Els [I]) else(F_abs a).bind fun v10=>bif Go.DI.fLt Go.FloatKind.f64 v10.fst (4503599627370496:Nat) then Option.some ((6:Int),()) else Option.some ((7:Int),())):=fun {c}=>
  tot_cond (tot_some _) (tot_bind (tot_some _) fun _=>tot_cond (tot_some _) (tot_some _))
 have hi:∀ n:Int,Tot (F_isinf a n):=fun n=>tot_cond (tot_bind (tot_some _) fun _=>tot_some _) (tot_cond (tot_some _) (tot_some _))
 exact tot_bind (tot_some _) fun _=>tot_cond (tot_some _) (tot_bind (hi _) fun _=>tot_cond (tot_some _) (tot_bind (hi _) fun _=>tot_cond (tot_some _) (tot_cond (tot_bind (tot_some _) fun _=>tot_cond (tot_some _) hz) hz)))
theorem class_nan {a:Nat}(h:isNum (Ieee.double.read a)=false):F_class a=some ((1,()):Els [I]):=by
 have hn:fNe FloatKind.f64 a a=true:=by
  show((Ieee.double.read a).order (Ieee.double.read a) != some .eq)=true
  cases hd:Ieee.double.read a with
  | nan s f=>rfl
  | infinity s=>rw [hd] at h;cases h
  | number s m e=>rw [hd] at h;cases h
 have:F_isnan a=some ((true,()):Els [.bool]):=by unfold F_isnan;rw [hn]
 unfold F_class
 rw [this];rfl
theorem mul_num {a:Nat}(h:isNum (Ieee.double.read a)=true):∃ d,isNum d=true∧fAr .mul FloatKind.f64 a 4751297606875873280=some (Ieee.double.write d):=by
 have r:Ieee.double.read 4751297606875873280=.number false 4503599627370496 (-20):=by rfl
 show ∃ d,isNum d=true∧((Ieee.double.read a).product (Ieee.double.read 4751297606875873280)).map Ieee.double.write=some (Ieee.double.write d)
 rw [r]
 cases hd:Ieee.double.read a with
 | nan s f=>rw [hd] at h;cases h
 | infinity s=>exact⟨.infinity (s ^^ false),rfl,rfl⟩
 | number s m e=>exact⟨.number (s ^^ false) (m*4503599627370496) (e+-20),rfl,rfl⟩
theorem tot_getf (a:Nat):Tot (F_get a):=by
 cases hn:isNum (Ieee.double.read a) with
 | false=>
  unfold F_get
  rw [class_nan hn]
  exact tot_some _
 | true=>
  obtain⟨d,hd,hm⟩:=mul_num hn
  have e1:fOk .mul FloatKind.f64 a 4751297606875873280=true:=by unfold fOk;rw [hm];rfl
  have e2:fVal .mul FloatKind.f64 a 4751297606875873280=Ieee.double.write d:=by unfold fVal;rw [hm];rfl
  have e3:∀ b:Nat,isNum (Ieee.double.read b)=true→fNum b=true:=fun b h=>by
   show(match Ieee.double.read b with | .nan _ _=>false | _=>true)=true
   cases hb:Ieee.double.read b with
   | nan s f=>rw [hb] at h;cases h
   | infinity s=>rfl
   | number s m e=>rfl
  have hw:=num_write hd
  have e4:=e3 _ hw
  unfold F_get
  refine tot_bind (tot_class a) fun _=>tot_cond (tot_some _) (tot_cond (tot_some _) (tot_cond (tot_some _) ?_))
  rw [e1,e2,e4]
  have hr:isNum (Ieee.double.read (fRnd (Ieee.double.write d)))=true:=num_write (num_integral .even hw)
  generalize fRnd (Ieee.double.write d)=R at hr
  show Tot (bif fGe FloatKind.f64 R 4890909195324358656 then _ else _)
  cases c1:fGe FloatKind.f64 R 4890909195324358656 with
  | true=>exact tot_some _
  | false=>
   show Tot (bif fLt FloatKind.f64 R 14114281232179134464 then _ else _)
   cases c2:fLt FloatKind.f64 R 14114281232179134464 with
   | true=>exact tot_some _
   | false=>
    rw [int_ok hr c1 c2]
    exact tot_some _
def RdOf (w:tWorker.El)(R:Option OUT_readw.El):Prop:=∃ e w',R=some (((e,()),(w',()),()):OUT_readw.El)∧w'.1=w.1∧w'.2.1=w.2.1
theorem rd_some {w w':tWorker.El}{e:Int}(h1:w'.1=w.1)(h2:w'.2.1=w.2.1):RdOf w (some (((e,()),(w',()),()):OUT_readw.El)):=⟨e,w',rfl,h1,h2⟩
theorem rd_cond {w:tWorker.El}{c:Bool}{a b:Option OUT_readw.El}(h:RdOf w a)(k:RdOf w b):RdOf w (bif c then a else b):=by cases c <;> assumption
theorem rd_get {w:tWorker.El}{n:Nat}{k:Els [I,I]→Option OUT_readw.El}(h:∀ x,RdOf w (k x)):RdOf w ((F_get n).bind k):=by
 obtain⟨x,hx⟩:=tot_getf n
 rw [hx];exact h x
theorem rd_reals {w:tWorker.El}{k:OUT_realsw.El→Option OUT_readw.El}(h:RdOf w (k (((),()),(w,()),((),(),(),(),(),()),()))):RdOf w ((F_realsw (w,())).bind k):=h
theorem tot_readw (w:tWorker.El):RdOf w (F_readw (w,())):=by
 unfold F_readw
 refine rd_cond (rd_reals ?_) (rd_cond (rd_reals ?_) (rd_cond (rd_reals ?_) (rd_cond (rd_reals ?_) (rd_cond (rd_reals ?_) (rd_reals ?_)))))
 ·exact rd_get fun _=>rd_cond (rd_some rfl rfl) (rd_get fun _=>rd_cond (rd_some rfl rfl) (rd_get fun _=>rd_cond (rd_some rfl rfl) (rd_cond (rd_get fun _=>rd_cond (rd_some rfl rfl) (rd_some rfl rfl)) (rd_get fun _=>rd_cond (rd_some rfl rfl) (rd_get fun _=>rd_cond (rd_some rfl rfl) (rd_some rfl rfl))))))
 ·exact rd_get fun _=>rd_cond (rd_some rfl rfl) (rd_get fun _=>rd_cond (rd_some rfl rfl) (rd_some rfl rfl))
 ·exact rd_get fun _=>rd_cond (rd_some rfl rfl) (rd_some rfl rfl)
 ·exact rd_get fun _=>rd_cond (rd_some rfl rfl) (rd_get fun _=>rd_cond (rd_some rfl rfl) (rd_some rfl rfl))
 ·exact rd_get fun _=>rd_cond (rd_some rfl rfl) (rd_get fun _=>rd_cond (rd_some rfl rfl) (rd_some rfl rfl))
 ·exact rd_some rfl rfl
end Go.DI.S
end
