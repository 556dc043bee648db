import Derived.Test.YtbjldjihpekhaaaGreatXa
/- What is left when a thing goes, plain. No conditions. -/
set_option linter.unusedSimpArgs false
set_option linter.unusedVariables false
set_option maxRecDepth 100000
set_option maxHeartbeats 0
namespace Go.DI.S
open Go.Proofs
def goesF (g:Int→Bool)(t:Thing):Bool:=if t.2.1=2 then g t.2.2.2.1.1||g t.2.2.2.1.2.1 else if t.2.1=3 then(ins t).all g else false
def stepF (g:Int→Bool)(t:Thing):Int→Bool:=fun j=>if j=nid t then g j||goesF g t else g j
def roundF (l:List Thing)(g:Int→Bool):Int→Bool:=l.foldl stepF g
def Clo (l:List Thing)(g:Int→Bool):Prop:=∀ t∈l,goesF g t=true→g (nid t)=true
theorem stepF_mono {g:Int→Bool}{t:Thing}{j:Int}(h:g j=true):stepF g t j=true:=by
 unfold stepF
 split
 ·rw [h];rfl
 ·exact h
theorem fold_mono:∀ (l:List Thing) {g:Int→Bool} {j:Int},g j=true→l.foldl stepF g j=true
 | [],g,j,h=>h
 | t :: l,g,j,h=>fold_mono l (stepF_mono h)
theorem fold_else:∀ (l:List Thing) {g:Int→Bool} {j:Int},(∀ t∈l,nid t≠j)→l.foldl stepF g j=g j
 | [],g,j,h=>rfl
 | t :: l,g,j,h=>by
  show l.foldl stepF (stepF g t) j=g j
  rw [fold_else l fun u hu=>h u (by simp [hu])]
  unfold stepF
  rw [if_neg (fun e=>h t (by simp) e.symm)]
theorem round_fix {l:List Thing}{g:Int→Bool}(h:Clo l g):roundF l g=g:=by
 unfold roundF
 have:∀ (k:List Thing),(∀ t∈k,t∈l)→k.foldl stepF g=g:=by
  intro k
  induction k with
  | nil=>intro _;rfl
  | cons t k ih=>
   intro hk
   have:stepF g t=g:=by
    funext j
    unfold stepF
    split
    ·rename_i e
     cases hg:goesF g t with
     | false=>rw [Bool.or_false]
     | true=>rw [e,h t (hk t (by simp)) hg];rfl
    ·rfl
   show k.foldl stepF (stepF g t)=g
   rw [this]
   exact ih fun u hu=>hk u (by simp [hu])
 exact this l fun t h=>h
theorem round_same {l:List Thing}{g:Int→Bool}(h:∀ t∈l,roundF l g (nid t)=g (nid t)):Clo l g:=by
 have key:∀ (a b:List Thing),a++b=l→a.foldl stepF g=g:=by
  intro a b hab
  funext j
  cases hj:g j with
  | true=>exact fold_mono a hj
  | false=>
   cases hc:a.foldl stepF g j with
   | false=>rfl
   | true=>
    exfalso
    by_cases hin:∃ t∈a,nid t=j
    ·obtain⟨t,ht,e⟩:=hin
     have h1:=h t (by rw [← hab];exact List.mem_append_left _ ht)
     rw [e,hj] at h1
     have h2:roundF l g j=true:=by
      unfold roundF
      rw [← hab,List.foldl_append]
      exact fold_mono b hc
     rw [h1] at h2;cases h2
    ·rw [fold_else a fun t ht e=>hin ⟨t,ht,e⟩,hj] at hc
     cases hc
 intro t ht hg
 obtain⟨a,b,rfl⟩:=List.append_of_mem ht
 have h1:=key a (t :: b) rfl
 have h2:=key (a++[t]) b (by simp)
 rw [List.foldl_append,h1] at h2
 have h3:=congrFun h2 (nid t)
 have h3:stepF g t (nid t)=g (nid t):=h3
 unfold stepF at h3
 rw [if_pos rfl,hg,Bool.or_true] at h3
 exact h3.symm
def iterF (l:List Thing):Nat→(Int→Bool)→Int→Bool
 | 0,g=>g
 | k+1,g=>iterF l k (roundF l g)
theorem iter_mono {l:List Thing}:∀ (k:Nat) {g:Int→Bool} {j:Int},g j=true→iterF l k g j=true
 | 0,g,j,h=>h
 | k+1,g,j,h=>iter_mono k (fold_mono l h)
theorem iter_fix {l:List Thing}:∀ (k:Nat) {g:Int→Bool},Clo l g→iterF l k g=g
 | 0,g,h=>rfl
 | k+1,g,h=>by
  show iterF l k (roundF l g)=g
  rw [round_fix h]
  exact iter_fix k h
theorem count_lt {α:Type}{p q:α→Bool}:∀ (l:List α),(∀ t∈l,p t=true→q t=true)→(∃ t∈l,p t=false∧q t=true)→l.countP p<l.countP q
 | [],_,h=>by obtain⟨t,ht,_⟩:=h;simp at ht
 | a :: l,hm,h=>by
  have le:l.countP p≤l.countP q:=List.countP_mono_left fun x hx=>hm x (by simp [hx])
  rw [List.countP_cons,List.countP_cons]
  obtain⟨t,ht,h1,h2⟩:=h
  rcases List.mem_cons.1 ht with rfl | ht
  ·rw [h1,h2];simp;omega
  ·have:=count_lt l (fun x hx=>hm x (by simp [hx])) ⟨t,ht,h1,h2⟩
   have ha:=hm a (by simp)
   cases hp:p a with
   | false=>cases q a <;> simp <;> omega
   | true=>rw [ha hp];simp;omega
theorem iter_clo {l:List Thing}:∀ (k:Nat) {g:Int→Bool},l.length+1≤k+l.countP (fun t=>g (nid t))→Clo l (iterF l k g)
 | 0,g,h=>by
  have:=List.countP_le_length (p:=fun t=>g (nid t)) (l:=l)
  omega
 | k+1,g,h=>by
  by_cases hc:∀ t∈l,roundF l g (nid t)=g (nid t)
  ·have:=round_same hc
   rw [iter_fix _ this]
   exact this
  ·have:∃ t∈l,g (nid t)=false∧roundF l g (nid t)=true:=by
    have:∃ t,t∈l∧roundF l g (nid t)≠g (nid t):=by
     rcases Classical.em (∃ t,t∈l∧roundF l g (nid t)≠g (nid t)) with h | h
     ·exact h
     ·exact absurd (fun t ht=>Classical.byContradiction fun hn=>h ⟨t,ht,hn⟩) hc
    obtain⟨t,ht,hne⟩:=this
    refine⟨t,ht,?_⟩
    cases hg:g (nid t) with
    | true=>
     have:roundF l g (nid t)=true:=fold_mono l hg
     rw [this,hg] at hne
     exact absurd rfl hne
    | false=>
     rw [hg] at hne
     cases hr:roundF l g (nid t) with
     | false=>exact absurd hr hne
     | true=>exact⟨rfl,rfl⟩
   have:=count_lt (p:=fun t=>g (nid t)) (q:=fun t=>roundF l g (nid t)) l (fun t _ ht=>fold_mono l ht) this
   exact iter_clo k (by omega)
def cut (g:Int→Bool)(t:Thing):Thing:=(t.1,t.2.1,t.2.2.1,t.2.2.2.1,(ins t).filter fun n=>!g n)
def left (g:Int→Bool)(l:List Thing):List Thing:=(l.filter fun t=>!g (nid t)).map (cut g)
theorem mem_left {g:Int→Bool}{l:List Thing}{u:Thing}:u∈left g l↔∃ t∈l,g (nid t)=false∧u=cut g t:=by
 unfold left
 rw [List.mem_map]
 constructor
 ·rintro ⟨t,ht,rfl⟩
  rw [List.mem_filter] at ht
  exact⟨t,ht.1,by simpa using ht.2,rfl⟩
 ·rintro ⟨t,ht,h1,rfl⟩
  exact⟨t,List.mem_filter.2 ⟨ht,by simpa using h1⟩,rfl⟩
theorem asc_iff {l:List Thing}:Asc l↔(l.map nid).Pairwise (· < ·):=by
 rw [List.pairwise_map,List.pairwise_iff_getElem]
 constructor
 ·intro h i j hi hj hij
  exact h i j _ _ hij (List.getElem?_eq_getElem hi) (List.getElem?_eq_getElem hj)
 ·intro h i j a b hij ha hb
  obtain⟨hi,ea⟩:=List.getElem?_eq_some_iff.1 ha
  obtain⟨hj,eb⟩:=List.getElem?_eq_some_iff.1 hb
  have:=h i j hi hj hij
  rw [ea,eb] at this
  exact this
theorem left_nid (g:Int→Bool)(l:List Thing):(left g l).map nid=(l.filter fun t=>!g (nid t)).map nid:=by
 unfold left
 rw [List.map_map]
 rfl
theorem left_asc {g:Int→Bool}{l:List Thing}(h:Asc l):Asc (left g l):=by
 rw [asc_iff] at h ⊢
 rw [left_nid]
 exact h.sublist (List.Sublist.map nid List.filter_sublist)
theorem Mem.weak {id:Int}:∀ {l:List Int} {a a':Int},a'≤a→Mem id a l→Mem id a' l
 | [],a,a',_,_=>trivial
 | n :: l,a,a',h,hm=>⟨by have:=hm.1;omega,hm.2⟩
theorem Mem.filter {id:Int}{p:Int→Bool}:∀ {l:List Int} {a:Int},Mem id a l→Mem id a (l.filter p)
 | [],a,_=>trivial
 | n :: l,a,hm=>by
  obtain⟨h1,h2,h3,h4⟩:=hm
  rw [List.filter_cons]
  split
  ·exact⟨h1,h2,h3,h4.filter⟩
  ·exact(Mem.weak (by omega) h4).filter
theorem left_flat (g:Int→Bool):∀ (l:List Thing),((left g l).flatMap ins).Sublist (l.flatMap ins)
 | []=>List.Sublist.refl _
 | t :: l=>by
  have ih:=left_flat g l
  unfold left at ih ⊢
  rw [List.filter_cons]
  split
  ·rw [List.map_cons,List.flatMap_cons,List.flatMap_cons]
   exact List.Sublist.append List.filter_sublist ih
  ·rw [List.flatMap_cons]
   exact ih.trans (List.sublist_append_right _ _)
section
variable {s:Scene}{g:Int→Bool}
theorem left_rt (h:Rt s)(hs:Small s.2.2)(hc:Clo s.2.2 g){t:Thing}(ht:t∈s.2.2)(hg:g (nid t)=false):RtP (cut g t):=by
 obtain⟨ho,hk⟩:=thing_rt h hs ht
 have hn:goesF g t≠true:=fun e=>by rw [hc t ht e] at hg;cases hg
 refine⟨ho,?_⟩
 rcases hk with⟨k,a,b,c⟩ | ⟨k,a,b,c⟩ | ⟨k,a,b,c,d,e⟩
 ·exact .inl ⟨k,a,by show(ins t).filter _=[];rw [b];rfl,c⟩
 ·exact .inr (.inl ⟨k,a,by show(ins t).filter _=[];rw [b];rfl,c⟩)
 ·refine .inr (.inr ⟨k,a,b,c.filter,?_,?_⟩)
  ·unfold goesF at hn
   rw [if_neg (by rw [k];decide),if_pos k] at hn
   have:∃ n∈ins t,g n=false:=by
    rcases Classical.em (∃ n∈ins t,g n=false) with h | h
    ·exact h
    ·exact absurd (List.all_eq_true.2 fun n hn=>by
      cases hgn:g n with
      | true=>rfl
      | false=>exact absurd ⟨n,hn,hgn⟩ h) hn
   obtain⟨n,hn1,hn2⟩:=this
   show 1≤((ins t).filter fun n=>!g n).length
   have:n∈(ins t).filter fun n=>!g n:=List.mem_filter.2 ⟨hn1,by rw [hn2];rfl⟩
   exact List.length_pos_of_mem this
  ·exact Nat.le_trans (List.length_filter_le _ _) e
theorem left_is {n:Int}(hn:Is s.2.2 n)(hg:g n=false):Is (left g s.2.2) n:=by
 obtain⟨t,ht,e⟩:=hn
 exact⟨cut g t,mem_left.2 ⟨t,ht,by rw [e];exact hg,rfl⟩,e⟩
theorem left_small (hs:Small s.2.2):Small (left g s.2.2):=by
 refine⟨?_,fun u hu=>?_⟩
 ·unfold left
  rw [List.length_map]
  exact Nat.le_trans (List.length_filter_le _ _) hs.1
 ·obtain⟨t,ht,_,rfl⟩:=mem_left.1 hu
  exact Nat.le_trans (List.length_filter_le _ _) (hs.2 t ht)
theorem left_kind (h:Rt s){n:Int}(hk:kindB s.2.2 n=1)(hg:g n=false):kindB (left g s.2.2) n=1:=by
 obtain⟨t,ht,e,k⟩:=kind_of hk
 have hm:cut g t∈left g s.2.2:=mem_left.2 ⟨t,ht,by rw [e];exact hg,rfl⟩
 have:=(left_asc (g:=g) h.asc).kind hm
 rw [show nid (cut g t)=n from e] at this
 rw [this];exact k
theorem left_grp (h:Rt s)(x:Int):grp (left g s.2.2) x=0∨grp (left g s.2.2) x=grp s.2.2 x:=by
 by_cases h0:grp (left g s.2.2) x=0
 ·exact .inl h0
 ·right
  obtain⟨u,hu,hm,e⟩:=grp_of h0
  obtain⟨t,ht,_,rfl⟩:=mem_left.1 hu
  have hm:x∈(ins t).filter fun n=>!g n:=hm
  rw [← e]
  exact(grp_in h.apart ht (List.mem_filter.1 hm).1).symm
theorem left_upn (h:Rt s)(hs:Small s.2.2)(x:Int):∀ k,upn (left g s.2.2) k x=0∨upn (left g s.2.2) k x=upn s.2.2 k x
 | 0=>.inr rfl
 | k+1=>by
  rw [upn_succ,upn_succ]
  rcases left_upn h hs x k with h1 | h1
  ·rw [h1]
   rcases left_grp (g:=g) h 0 with h2 | h2
   ·exact .inl h2
   ·exact .inl (by rw [h2];exact h.grp0 hs)
  ·rw [h1]
   exact left_grp h _
theorem left_right (hr:rightB s=true)(hs:Small s.2.2)(hc:Clo s.2.2 g):rightB (s.1,s.2.1,left g s.2.2)=true:=by
 have h:=right_of hr
 have hl:(left g s.2.2).length≤s.2.2.length:=by
  unfold left
  rw [List.length_map]
  exact List.length_filter_le _ _
 have hsm:Small (left g s.2.2):=left_small hs
 refine right_mk (s:=(s.1,s.2.1,left g s.2.2)) (left_asc h.asc) (fun u hu=>?_) (Nat.le_trans hl h.len) h.next (show nearB s.1=true from near_of hr) (fun u hu=>?_) ?_ fun u hu j hj=>?_
 ·obtain⟨t,ht,hg,rfl⟩:=mem_left.1 hu
  obtain⟨h1,h2,_⟩:=h.low t ht
  exact⟨h1,h2,(rt_iff (hsm.2 _ hu)).2 (left_rt h hs hc ht hg)⟩
 ·obtain⟨t,ht,hg,rfl⟩:=mem_left.1 hu
  obtain⟨e1,e2⟩:=Cp.end_get (h.ends t ht)
  have hn:goesF g t≠true:=fun e=>by rw [hc t ht e] at hg;cases hg
  refine Cp.end_mk (s:=(s.1,s.2.1,left g s.2.2)) (fun k=>?_) fun n hn'=>?_
  ·have k:t.2.1=2:=k
   unfold goesF at hn
   rw [if_pos k] at hn
   have hA:g t.2.2.2.1.1=false:=by
    cases hx:g t.2.2.2.1.1 with
    | false=>rfl
    | true=>exact absurd (by rw [hx];rfl) hn
   have hB:g t.2.2.2.1.2.1=false:=by
    cases hx:g t.2.2.2.1.2.1 with
    | false=>rfl
    | true=>exact absurd (by rw [hx,Bool.or_true]) hn
   exact⟨left_kind h (e1 k).1 hA,left_kind h (e1 k).2 hB⟩
  ·have hn':n∈(ins t).filter fun n=>!g n:=hn'
   obtain⟨m1,m2⟩:=List.mem_filter.1 hn'
   exact has_of (s:=(s.1,s.2.1,left g s.2.2)) hsm (left_asc h.asc) (left_is (h.member hs ht m1) (by simpa using m2))
 ·have ha:=h.apart
  unfold Apart at ha ⊢
  exact ha.sublist (left_flat g s.2.2)
 ·obtain⟨t,ht,hg,rfl⟩:=mem_left.1 hu
  show upn (left g s.2.2) (j+1) (nid t)≠nid t
  intro e
  rcases left_upn (g:=g) h hs (nid t) (j+1) with h1 | h1
  ·rw [h1] at e
   exact h.pos ⟨t,ht,rfl⟩ e.symm
  ·rw [h1] at e
   exact h.acyclic hs ⟨t,ht,rfl⟩ (j+1) (by omega) e
end
theorem got_putB (m:MB)(k j:Int)(v:Bool):gotB (tput (.int .i64) .bool k v m) j=if j=k then v else gotB m j:=by
 unfold gotB
 rw [tget_put .bool k j v m]
 by_cases h:j=k <;> simp [h]
theorem v_119 (a:Int)(m:MB):F_119 a ((),()) m=some ((!gotB m a,()),((),()),m,()):=rfl
theorem v_77 (a:Int)(m:MB):F_77 a ((),()) m=some ((gotB m a,()),((),()),m,()):=rfl
def idxI (l:List Int)(p:Int→Bool):Int:=match l.findIdx? p with | some k=>(k:Int) | none=>-1
theorem idxI_ge (l:List Int)(p:Int→Bool):decide (idxI l p≥0)=l.any p:=by
 unfold idxI
 cases hx:l.findIdx? p with
 | none=>
  rw [List.findIdx?_eq_none_iff] at hx
  rw [decide_eq_false (by decide)]
  symm
  rw [List.any_eq_false]
  intro x hx'
  simpa using hx x hx'
 | some k=>
  rw [List.findIdx?_eq_some_iff_getElem] at hx
  obtain⟨h1,h2,_⟩:=hx
  rw [decide_eq_true (by show(k:Int)≥0;omega)]
  symm
  exact List.any_eq_true.2 ⟨_,List.getElem_mem h1,h2⟩
theorem v_120_119 (l:List Int)(m:MB)(hl:l.length≤1000000000):F_120_119 l ((),()) m=some ((idxI l (fun n=>!gotB m n),()),((),()),m,()):=by
 have h:=find_loop (G:=fun x=>G_120_119_2 x.1.1 x.1.2.2.1 x.1.2.2.2.1 x.2.1 x.2.2.1) (m:=fuel) l (fun n=>!gotB m n) (fun k=>((l,(),(l.length:Int),(k:Int),()),((),()),m,())) (fun k=>.inr (((k:Int),()),((),()),m,())) (.inl ((),((),()),m,()))
  (fun k x hx=>?_) ?_ (fuel_lt hl)
 ·unfold F_120_119 R_120_119_2 idxI
  rw [show(0:Int)=((0:Nat):Int) from rfl,h]
  cases l.findIdx? (fun n=>!gotB m n) <;> rfl
 ·have hk:=len_of hx
  simp only [G_120_119_2,dec_lt hk,dec_in hk,cond_true,getD_of hx,wrap_up hk (by omega),v_119,Option.bind_some]
  cases gotB m x <;> rfl
 ·simp only [G_120_119_2,dec_end,cond_false]
theorem v_79_119 (l:List Int)(m:MB)(hl:l.length≤1000000000):F_79_119 l ((),()) m=some ((l.any (fun n=>!gotB m n),()),((),()),m,()):=by
 unfold F_79_119
 rw [v_120_119 l m hl]
 show some ((decide (idxI l (fun n=>!gotB m n)≥0),()),((),()),m,())=_
 rw [idxI_ge]
theorem v_75 (t:Thing)(m:MB)(hl:t.2.2.2.2.length≤1000000000):F_75 t m=some ((goesF (gotB m) t,()),m,()):=by
 unfold F_75 goesF
 by_cases h2:t.2.1=2
 ·rw [beq_iff_eq.2 h2,cond_true,if_pos h2]
  show(bif gotB m t.2.2.2.1.1 then some ((true,()),m,()) else some ((gotB m t.2.2.2.1.2.1,()),m,()))=_
  cases gotB m t.2.2.2.1.1 <;> rfl
 ·rw [show(t.2.1==(2:Int))=false by simpa using h2,cond_false,if_neg h2]
  by_cases h3:t.2.1=3
  ·rw [beq_iff_eq.2 h3,cond_true,if_pos h3,v_79_119 _ _ hl]
   have:(!(t.2.2.2.2.any fun n=>!gotB m n))=(ins t).all (gotB m):=by
    rw [List.not_any_eq_all_not]
    congr 1
    funext n
    simp
   show some ((!(t.2.2.2.2.any fun n=>!gotB m n),()),m,())=_
   rw [this]
  ·rw [show(t.2.1==(3:Int))=false by simpa using h3,cond_false,if_neg h3]
theorem v_120_77o (l:List Int)(m:MB)(hl:l.length≤1000000000):F_120_77o ((),()) m l=some ((idxI l (gotB m),()),((),()),m,l,()):=by
 have h:=find_loop (G:=fun x=>G_120_77o_2 x.1.2.2.1 x.1.2.2.2.1 x.2.1 x.2.2.1 x.2.2.2.1) (m:=fuel) l (gotB m) (fun k=>(((),(),(l.length:Int),(k:Int),()),((),()),m,l,())) (fun k=>.inr (((k:Int),()),((),()),m,l,())) (.inl ((),((),()),m,l,()))
  (fun k x hx=>?_) ?_ (fuel_lt hl)
 ·unfold F_120_77o R_120_77o_2 idxI
  rw [show(0:Int)=((0:Nat):Int) from rfl,h]
  cases l.findIdx? (gotB m) <;> rfl
 ·have hk:=len_of hx
  simp only [G_120_77o_2,dec_lt hk,dec_in hk,cond_true,getD_of hx,wrap_up hk (by omega),v_77,Option.bind_some]
  cases gotB m x <;> rfl
 ·simp only [G_120_77o_2,dec_end,cond_false]
def keepB (m:MB)(n:Int):Bool:=!gotB m n
theorem loop_76 (l:List Int)(m:MB)(hl:l.length≤1000000000):∀ (d f j i:Nat) (r:List Int),j+d=l.length→d<f→r.length=l.length→i<j→r.take i=(l.take j).filter (keepB m)→r.drop j=l.drop j →
  ∃ (r':List Int) (i':Nat),roundsT (fun x=>G_76o_5 x.1.2.2.1 x.1.2.2.2.1 x.2.1 x.2.2.1 x.2.2.2.1) f (((),(),(i:Int),(j:Int),()),((),()),m,r,())=some (.inl (((),(i':Int),()),((),()),m,r',()))∧r'.length=l.length∧i'<l.length∧r'.take i'=l.filter (keepB m)
 | 0,f,j,i,r,hj,hf,hr,hi,h1,h2=>by
  obtain⟨f,rfl⟩:∃ k,f=k+1:=⟨f-1,by omega⟩
  have:j=l.length:=by omega
  subst this
  refine⟨r,i,rounds_out (by simp only [G_76o_5,hr,dec_end,cond_false]) f,hr,hi,?_⟩
  rw [h1,List.take_length]
 | d+1,f,j,i,r,hj,hf,hr,hi,h1,h2=>by
  obtain⟨f,rfl⟩:∃ k,f=k+1:=⟨f-1,by omega⟩
  have hlt:j<l.length:=by omega
  have hlr:j<r.length:=by omega
  have hir:i<r.length:=by omega
  have e1:r[j]=l[j]:=by
   have:=h2
   rw [List.drop_eq_getElem_cons hlt,List.drop_eq_getElem_cons hlr] at this
   injection this
  have e2:r.drop (j+1)=l.drop (j+1):=by
   have:=h2
   rw [List.drop_eq_getElem_cons hlt,List.drop_eq_getElem_cons hlr] at this
   injection this
  have ht:l.take (j+1)=l.take j++[l[j]]:=List.take_succ_eq_append_getElem hlt
  cases hk:gotB m l[j] with
  | true=>
   obtain⟨r',i',k1,k2,k3,k4⟩:=loop_76 l m hl d f (j+1) i r (by omega) (by omega) hr (by omega) (by
    rw [ht,List.filter_append,h1]
    have:[l[j]].filter (keepB m)=[]:=by simp [keepB,hk]
    rw [this,List.append_nil]) e2
   refine⟨r',i',?_,k2,k3,k4⟩
   rw [rounds_in (x':=(((),(),(i:Int),((j+1:Nat):Int),()),((),()),m,r,())) ?_ f]
   ·exact k1
   ·simp only [G_76o_5,dec_lt hlr,dec_in hlr,cond_true,getD_of (List.getElem?_eq_getElem hlr),e1,v_77,hk,Option.bind_some,Bool.not_true,cond_false,wrap_up hlt (by omega)]
  | false=>
   obtain⟨r',i',k1,k2,k3,k4⟩:=loop_76 l m hl d f (j+1) (i+1) (r.set i l[j]) (by omega) (by omega) (by rw [List.length_set];exact hr) (by omega) (by
    have hs:(r.set i l[j]).take (i+1)=r.take i++[l[j]]:=by
     rw [List.take_succ_eq_append_getElem (by rw [List.length_set];exact hir),List.getElem_set_self,List.take_set_of_le (Nat.le_refl _)]
    rw [hs,ht,List.filter_append,h1]
    have:[l[j]].filter (keepB m)=[l[j]]:=by simp [keepB,hk]
    rw [this]) (by rw [List.drop_set_of_lt (by omega),e2])
   refine⟨r',i',?_,k2,k3,k4⟩
   rw [rounds_in (x':=(((),(),((i+1:Nat):Int),((j+1:Nat):Int),()),((),()),m,r.set i l[j],())) ?_ f]
   ·exact k1
   ·simp only [G_76o_5,dec_lt hlr,dec_in hlr,dec_in hir,cond_true,getD_of (List.getElem?_eq_getElem hlr),e1,v_77,hk,Option.bind_some,Bool.not_false,wrap_up hlt (by omega),wrap_up hir (by omega)]
    rfl
theorem v_76o (l:List Int)(m:MB)(hl:l.length≤1000000000):F_76o ((),()) m l=some ((l.filter (keepB m),()),((),()),m,()):=by
 unfold F_76o
 rw [v_120_77o l m hl]
 simp only [Option.bind_some]
 unfold idxI
 cases hx:l.findIdx? (gotB m) with
 | none=>
  rw [List.findIdx?_eq_none_iff] at hx
  have:l.filter (keepB m)=l:=List.filter_eq_self.2 fun n hn=>by unfold keepB;rw [hx n hn];rfl
  rw [this];rfl
 | some k=>
  rw [List.findIdx?_eq_some_iff_getElem] at hx
  obtain⟨h1,h2,h3⟩:=hx
  have hne:((k:Int)==(-1:Int))=false:=beq_eq_false_iff_ne.2 (by omega)
  have hd:l.length-(k+1)<fuel:=fuel_lt (by omega)
  obtain⟨r',i',k1,k2,k3,k4⟩:=loop_76 l m hl (l.length-(k+1)) fuel (k+1) k l (by omega) hd rfl (by omega) (by
   rw [List.take_succ_eq_append_getElem h1,List.filter_append]
   have e1:[l[k]].filter (keepB m)=[]:=by simp [keepB,h2]
   have e2:(l.take k).filter (keepB m)=l.take k:=List.filter_eq_self.2 fun n hn=>by
    obtain⟨j,hj,e⟩:=List.getElem_of_mem hn
    rw [List.length_take] at hj
    have hj:j<k:=by omega
    rw [List.getElem_take] at e
    have:=h3 j hj
    unfold keepB
    rw [← e]
    simpa using this
   rw [e1,e2,List.append_nil]) rfl
  rw [hne,cond_false,wrap_up h1 (by omega)]
  have hR:R_76o_5 (((),(),(k:Int),((k+1:Nat):Int),()),((),()),m,l,())=some (.inl (((),(i':Int),()),((),()),m,r',())):=k1
  rw [hR]
  simp only [Option.bind_some,Sum.elim_inl]
  have c1:decide ((0:Int)≤(i':Int)∧(i':Int)≤(r'.length:Int))=true:=decide_eq_true (by omega)
  have c2:i'.blt r'.length=true:=by rw [Nat.blt_eq];omega
  have c3:(i'*1+(r'.length-i')).beq r'.length=true:=(by rw [Nat.beq_eq];omega)
  have c4:Nat.blt 0 r'.length=true:=by rw [Nat.blt_eq];omega
  have e5:(r'.take (i'*1)++List.replicate (r'.length-i') (0:Int)).length=r'.length:=by simp;omega
  have e6:(r'.take (i'*1)++List.replicate (r'.length-i') (0:Int)).take i'=r'.take i':=by
   rw [Nat.mul_one,List.take_append_of_le_length (by rw [List.length_take];omega),List.take_take,Nat.min_self]
  refine yesV c1 (yesV c2 (yesV ?_ (yesV (decide_eq_true ⟨by show(0:Int)≤(i':Int);omega,?_⟩) (yesV ?_ ?_))))
  ·show(true&&((i'*1+(r'.length-i')).beq r'.length&&(Nat.blt 0 r'.length&&true)))=true
   rw [c3,c4];rfl
  ·show(i':Int)≤(((r'.take (i'*1)++List.replicate (r'.length-i') (0:Int)).length:Nat):Int)
   rw [e5];omega
  ·show Nat.blt 0 ((r'.take (i'*1)++List.replicate (r'.length-i') (0:Int)).length)=true
   rw [e5];exact c4
  ·show some ((((r'.take (i'*1)++List.replicate (r'.length-i') (0:Int)).take i',()),((),()),m,()):OUT_76o.El)=_
   rw [e6,k4]
def putM (m:MB)(n:Int):MB:=tput (.int .i64) .bool n true m
theorem got_fold:∀ (l:List Int) (m:MB) (n:Int),(n∈l∨gotB m n=true)→gotB (l.foldl putM m) n=true
 | [],m,n,h=>by
  rcases h with h | h
  ·simp at h
  ·exact h
 | a :: l,m,n,h=>by
  refine got_fold l (putM m a) n ?_
  rcases h with h | h
  ·rcases List.mem_cons.1 h with rfl | h
   ·right;unfold putM;rw [got_putB,if_pos rfl]
   ·exact .inl h
  ·right;unfold putM;rw [got_putB,h];split <;> rfl
theorem q_39_8 (s z:Scene)(l:List Int)(hl:l.length≤1000000000)(m:MB) :
  R_39_8 (((),(),(),l,(l.length:Int),(0:Int),()),(s,()),(z,()),((),()),m,())=some (.inl (((),(),(),()),(s,()),(z,()),((),()),l.foldl putM m,())):=by
 have h:=fold_all (G:=fun x=>G_39_8 x.1.2.2.2.1 x.1.2.2.2.2.1 x.1.2.2.2.2.2.1 x.2.1 x.2.2.1 x.2.2.2.1 x.2.2.2.2.1) (m:=fuel) l putM
  (fun j m=>(((),(),(),l,(l.length:Int),(j:Int),()),(s,()),(z,()),((),()),m,())) (fun m=>.inl (((),(),(),()),(s,()),(z,()),((),()),m,())) (fun j a m ha=>?_) (fun m=>?_) (fuel_lt hl) m
 ·exact h
 ·have hk:=len_of ha
  simp only [G_39_8,dec_lt hk,dec_in hk,cond_true,getD_of ha,wrap_up hk (by omega)]
  rfl
 ·simp only [G_39_8,dec_end,cond_false]
def stepM (m:MB)(t:Thing):MB:=bif gotB m (nid t) then tput (.int .i64) .bool (nid t) true m else tput (.int .i64) .bool (nid t) (goesF (gotB m) t) m
theorem stepM_got (m:MB)(t:Thing):gotB (stepM m t)=stepF (gotB m) t:=by
 funext j
 unfold stepM stepF
 cases hg:gotB m (nid t) with
 | true=>
  rw [cond_true,got_putB]
  by_cases h:j=nid t
  ·rw [if_pos h,if_pos h,h,hg];rfl
  ·rw [if_neg h,if_neg h]
 | false=>
  rw [cond_false,got_putB]
  by_cases h:j=nid t
  ·rw [if_pos h,if_pos h,h,hg];rfl
  ·rw [if_neg h,if_neg h]
theorem roundM_got (l:List Thing):∀ (m:MB),gotB (l.foldl stepM m)=roundF l (gotB m):=by
 unfold roundF
 induction l with
 | nil=>intro m;rfl
 | cons t l ih=>
  intro m
  rw [List.foldl_cons,List.foldl_cons,ih,stepM_got]
theorem q_39_15 (s z:Scene)(hs:Small s.2.2)(c k:Int)(m:MB) :
  R_39_15 (((),(),(),c,k,s.2.2,(s.2.2.length:Int),(0:Int),()),(s,()),(z,()),((),()),m,())=some (.inl (((),(),(),c,k,()),(s,()),(z,()),((),()),s.2.2.foldl stepM m,())):=by
 have h:=fold_all (G:=fun x=>G_39_15 x.1.2.2.2.1 x.1.2.2.2.2.1 x.1.2.2.2.2.2.1 x.1.2.2.2.2.2.2.1 x.1.2.2.2.2.2.2.2.1 x.2.1 x.2.2.1 x.2.2.2.1 x.2.2.2.2.1) (m:=fuel) s.2.2 stepM
  (fun j m=>(((),(),(),c,k,s.2.2,(s.2.2.length:Int),(j:Int),()),(s,()),(z,()),((),()),m,())) (fun m=>.inl (((),(),(),c,k,()),(s,()),(z,()),((),()),m,())) (fun j t m ha=>?_) (fun m=>?_) (fuel_lt hs.1) m
 ·exact h
 ·have hk:=len_of ha
  have hi:=hs.2 t (List.mem_of_getElem? ha)
  simp only [G_39_15,dec_lt hk,dec_in hk,cond_true,getD_of ha,v_75 t m hi,Option.bind_some,wrap_up hk (by have:=hs.1;omega)]
  unfold stepM
  show(bif gotB m (nid t) then _ else _)=_
  cases gotB m (nid t) <;> rfl
 ·simp only [G_39_15,dec_end,cond_false]
def itM (l:List Thing)(m:MB):Nat→MB
 | 0=>m
 | k+1=>l.foldl stepM (itM l m k)
theorem iterF_succ (l:List Thing):∀ (k:Nat) (g:Int→Bool),iterF l (k+1) g=roundF l (iterF l k g)
 | 0,g=>rfl
 | k+1,g=>by
  show iterF l (k+1) (roundF l g)=roundF l (iterF l k (roundF l g))
  exact iterF_succ l k _
theorem itM_got (l:List Thing)(m:MB):∀ k,gotB (itM l m k)=iterF l k (gotB m)
 | 0=>rfl
 | k+1=>by
  show gotB (l.foldl stepM (itM l m k))=_
  rw [roundM_got,itM_got l m k,iterF_succ]
theorem q_39_13 (s z:Scene)(hs:Small s.2.2)(m:MB) :
  R_39_13 (((),(),(),(s.2.2.length:Int),(0:Int),()),(s,()),(z,()),((),()),m,())=some (.inl (((),(),(),()),(s,()),(z,()),((),()),itM s.2.2 m s.2.2.length,())):=by
 have h:=rounds_to (G:=fun x=>G_39_13 x.1.2.2.2.1 x.1.2.2.2.2.1 x.2.1 x.2.2.1 x.2.2.2.1 x.2.2.2.2.1) (n:=s.2.2.length)
  (inv:=fun k=>(((),(),(),(s.2.2.length:Int),(k:Int),()),(s,()),(z,()),((),()),itM s.2.2 m k,())) (y:=.inl (((),(),(),()),(s,()),(z,()),((),()),itM s.2.2 m s.2.2.length,())) (fun k hk=>?_) ?_ s.2.2.length 0 fuel (by omega) (fuel_lt hs.1)
 ·exact h
 ·have h1:=q_39_15 s z hs (s.2.2.length:Int) (k:Int) (itM s.2.2 m k)
  simp only [G_39_13,dec_lt hk,cond_true,h1,Option.bind_some,Sum.elim_inl,wrap_up hk (by have:=hs.1;omega)]
  rfl
 ·simp only [G_39_13,dec_end,cond_false]
theorem left_snoc (g:Int→Bool)(l:List Thing)(t:Thing):left g (l++[t])=(if g (nid t) then left g l else left g l++[cut g t]):=by
 unfold left
 rw [List.filter_append,List.map_append]
 cases hg:g (nid t) with
 | true=>simp [hg]
 | false=>simp [hg]
theorem left_len (g:Int→Bool)(l:List Thing):(left g l).length≤l.length:=by
 unfold left
 rw [List.length_map]
 exact List.length_filter_le _ _
theorem q_39_22 (s z:Scene)(hs:Small s.2.2)(m:MB) :
  R_39_22 (((),(),(),(),s.2.2,(s.2.2.length:Int),(0:Int),()),(s,()),(z,()),((),()),m,[],())=some (.inl (((),(),(),()),(s,()),(z,()),left (gotB m) s.2.2,())):=by
 have h:=rounds_to (G:=fun x=>G_39_22 x.1.2.2.2.2.1 x.1.2.2.2.2.2.1 x.1.2.2.2.2.2.2.1 x.2.1 x.2.2.1 x.2.2.2.1 x.2.2.2.2.1 x.2.2.2.2.2.1) (n:=s.2.2.length)
  (inv:=fun k=>(((),(),(),(),s.2.2,(s.2.2.length:Int),(k:Int),()),(s,()),(z,()),((),()),m,left (gotB m) (s.2.2.take k),())) (y:=.inl (((),(),(),()),(s,()),(z,()),left (gotB m) (s.2.2.take s.2.2.length),())) (fun k hk=>?_) ?_ s.2.2.length 0 fuel (by omega) (fuel_lt hs.1)
 ·rw [List.take_length] at h
  exact h
 ·have ha:=List.getElem?_eq_getElem hk
  have hm:=List.getElem_mem hk
  have hi:=hs.2 _ hm
  have hlen:=left_len (gotB m) (s.2.2.take k)
  have hlt:(s.2.2.take k).length=k:=by rw [List.length_take];omega
  have h1:=hs.1
  rw [List.take_succ_eq_append_getElem hk,left_snoc]
  simp only [G_39_22,dec_lt hk,dec_in hk,cond_true,getD_of ha,wrap_up hk (by have:=hs.1;omega),v_46o _ hi,v_76o _ m hi,Option.bind_some]
  show(bif !gotB m (nid s.2.2[k]) then _ else _)=_
  cases hg:gotB m (nid s.2.2[k]) with
  | true=>rfl
  | false=>
   simp only [Bool.not_false,cond_true,Bool.false_eq_true,if_false]
   refine yesV (Nat.ble_eq_true_of_le ?_) rfl
   simp only [List.length_cons,List.length_nil]
   omega
 ·simp only [G_39_22,dec_end,cond_false]
theorem v_39 (s:Scene)(id:Int)(hs:Small s.2.2)(hr:rightB s=true) :
  (¬Is s.2.2 id∧F_39 s id=some ((noScene,10,()):Els [tScene,I])) ∨
  (Is s.2.2 id∧∃ g:Int→Bool,Clo s.2.2 g∧(∀ n∈ina s.2.2 id,g n=true)∧F_39 s id=some (((s.1,s.2.1,left g s.2.2),0,()):Els [tScene,I])):=by
 have hR:=right_of hr
 have e23:=v_23 s id hs.1 hs.2
 have e20:=v_20 s hs
 rw [hr] at e20
 unfold F_39
 by_cases hn:Is s.2.2 id
 ·right
  refine⟨hn,gotB (itM s.2.2 ((ina s.2.2 id).foldl putM []) s.2.2.length),?_,?_,?_⟩
  ·rw [itM_got]
   refine iter_clo _ ?_
   obtain⟨t,ht,e⟩:=hn
   have:0<s.2.2.countP (fun t=>gotB ((ina s.2.2 id).foldl putM []) (nid t)):=by
    rw [List.countP_pos_iff]
    exact⟨t,ht,got_fold _ _ _ (.inl (by rw [e];exact id_ina hR hs ⟨t,ht,e⟩))⟩
   omega
  ·intro n hn'
   rw [itM_got]
   exact iter_mono _ (got_fold _ _ _ (.inl hn'))
  ·have e37:=v_37 hr hs hn
   have hl:(sortI (inT s.2.2 100 id)).length≤1000000000:=by
    rw [sortI_len];have:=hR.few hs 100 hn;omega
   have c1:(!(getB s.2.2 id).2)=false:=by
    obtain⟨t,ht,rfl⟩:=hn
    rw [hR.asc.getB ht];rfl
   have e8:=q_39_8 s noScene (sortI (inT s.2.2 100 id)) hl []
   have e13:=q_39_13 s noScene hs ((ina s.2.2 id).foldl putM [])
   have e22:=q_39_22 s noScene hs (itM s.2.2 ((ina s.2.2 id).foldl putM []) s.2.2.length)
   exact bind_ofV e20 (noV rfl (bind_ofV e23 (noV c1 (bind_ofV e37 (bind_ofV e8 (bind_ofV e13 (bind_ofV e22 rfl)))))))
 ·refine .inl ⟨hn,bind_ofV e20 (noV rfl (bind_ofV e23 (yesV ?_ rfl)))⟩
  rw [getB_none hn];rfl
end Go.DI.S
