import Derived.Test.YtbjldjihpekhaaaGreatXa
/- What is left when a thing goes, plain. No conditions. -/
set_option linter.unusedSimpArgs false
set_option linter.unusedVariables false
set_option maxRecDepth 100000
set_option maxHeartbeats 0
namespace Go.DI.S
open Go.Proofs
def CH (g:Int→Bool)(t:Thing):Bool:=if t.2.1=2 then g t.2.2.2.1.1||g t.2.2.2.1.2.1 else if t.2.1=3 then(ins t).all g else false
def lC (g:Int→Bool)(t:Thing):Int→Bool:=fun j=>if j=aT t then g j||CH g t else g j
def gQ (l:List Thing)(g:Int→Bool):Int→Bool:=l.foldl lC g
def Clo (l:List Thing)(g:Int→Bool):Prop:=∀ t∈l,CH g t=true→g (aT t)=true
theorem aJ0 {g:Int→Bool}{t:Thing}{j:Int}(h:g j=true):lC g t j=true:=by
 unfold lC
 split
 ·rw [h];rfl
 ·exact h
theorem oP:∀ (l:List Thing) {g:Int→Bool} {j:Int},g j=true→l.foldl lC g j=true
 | [],g,j,h=>h
 | t :: l,g,j,h=>oP l (aJ0 h)
theorem ZT:∀ (l:List Thing) {g:Int→Bool} {j:Int},(∀ t∈l,aT t≠j)→l.foldl lC g j=g j
 | [],g,j,h=>rfl
 | t :: l,g,j,h=>by
  show l.foldl lC (lC g t) j=g j;rw [ZT l fun u hu=>h u (by simp [hu])];unfold lC;rw [aJn (fun e=>h t (by simp) e.symm)]
theorem aP0 {l:List Thing}{g:Int→Bool}(h:Clo l g):gQ l g=g:=by
 unfold gQ;have:∀ (k:List Thing),(∀ t∈k,t∈l)→k.foldl lC g=g:=by
  intro k
  induction k with
  | nil=>intro _;rfl
  | cons t k ih=>
   intro hk;have:lC g t=g:=by
    funext j;unfold lC
    split
    ·rename_i e;cases hg:CH g t with
     | false=>rw [Bool.or_false]
     | true=>rw [e,h t (hk t (by simp)) hg];rfl
    ·rfl
   show k.foldl lC (lC g t)=g;rw [this];exact ih fun u hu=>hk u (by simp [hu])
 exact this l fun t h=>h
theorem aJ1 {l:List Thing}{g:Int→Bool}(h:∀ t∈l,gQ l g (aT t)=g (aT t)):Clo l g:=by
 have key:∀ (a b:List Thing),a++b=l→a.foldl lC g=g:=by
  intro a b hab;funext j;cases hj:g j with
  | true=>exact oP a hj
  | false=>
   cases hc:a.foldl lC g j with
   | false=>rfl
   | true=>
    exfalso;by_cases hin:∃ t∈a,aT t=j
    ·obtain⟨t,ht,e⟩:=hin;have h1:=h t (by rw [← hab];exact a1h _ ht);rw [e,hj] at h1;have h2:gQ l g j=true:=by
      unfold gQ;rw [← hab,List.foldl_append];exact oP b hc
     rw [h1] at h2;cases h2
    ·rw [ZT a fun t ht e=>hin ⟨t,ht,e⟩,hj] at hc;cases hc
 intro t ht hg;obtain⟨a,b,rfl⟩:=List.append_of_mem ht;have h1:=key a (t :: b) rfl;have h2:=key (a++[t]) b (by simp);rw [List.foldl_append,h1] at h2;have h3:=congrFun h2 (aT t);have h3:lC g t (aT t)=g (aT t):=h3;unfold lC at h3;rw [aJb rfl,hg,Bool.or_true] at h3;exact h3.symm
def CI (l:List Thing):Nat→(Int→Bool)→Int→Bool
 | 0,g=>g
 | k+1,g=>CI l k (gQ l g)
theorem ZU {l:List Thing}:∀ (k:Nat) {g:Int→Bool} {j:Int},g j=true→CI l k g j=true
 | 0,g,j,h=>h
 | k+1,g,j,h=>ZU k (oP l h)
theorem aGI {l:List Thing}:∀ (k:Nat) {g:Int→Bool},Clo l g→CI l k g=g
 | 0,g,h=>rfl
 | k+1,g,h=>by
  show CI l k (gQ l g)=g;rw [aP0 h];exact aGI k h
theorem aGJ {α:Type}{p q:α→Bool}:∀ (l:List α),(∀ t∈l,p t=true→q t=true)→(∃ t∈l,p t=false∧q t=true)→l.countP p<l.countP q
 | [],_,h=>by obtain⟨t,ht,_⟩:=h;simp at ht
 | a :: l,hm,h=>by
  have le:l.countP p≤l.countP q:=List.countP_mono_left fun x hx=>hm x (by simp [hx]);rw [List.countP_cons,List.countP_cons];obtain⟨t,ht,h1,h2⟩:=h;rcases aQL.1 ht with rfl | ht
  ·rw [h1,h2];simp;omega
  ·have:=aGJ l (fun x hx=>hm x (by simp [hx])) ⟨t,ht,h1,h2⟩;have ha:=hm a (by simp);cases hp:p a with
   | false=>cases q a <;> simp <;> omega
   | true=>rw [ha hp];simp;omega
theorem aGK {l:List Thing}:∀ (k:Nat) {g:Int→Bool},l.length+1≤k+l.countP (fun t=>g (aT t))→Clo l (CI l k g)
 | 0,g,h=>by
  have:=List.countP_le_length (p:=fun t=>g (aT t)) (l:=l);omega
 | k+1,g,h=>by
  by_cases hc:∀ t∈l,gQ l g (aT t)=g (aT t)
  ·have:=aJ1 hc;rw [aGI _ this];exact this
  ·have:∃ t∈l,g (aT t)=false∧gQ l g (aT t)=true:=by
    have:∃ t,t∈l∧gQ l g (aT t)≠g (aT t):=by
     rcases Classical.em (∃ t,t∈l∧gQ l g (aT t)≠g (aT t)) with h | h
     ·exact h
     ·exact absurd (fun t ht=>Classical.byContradiction fun hn=>h ⟨t,ht,hn⟩) hc
    obtain⟨t,ht,hne⟩:=this;refine⟨t,ht,?_⟩;cases hg:g (aT t) with
    | true=>
     have:gQ l g (aT t)=true:=oP l hg;rw [this,hg] at hne;exact absurd rfl hne
    | false=>
     rw [hg] at hne;cases hr:gQ l g (aT t) with
     | false=>exact absurd hr hne
     | true=>exact⟨rfl,rfl⟩
   have:=aGJ (p:=fun t=>g (aT t)) (q:=fun t=>gQ l g (aT t)) l (fun t _ ht=>oP l ht) this;exact aGK k (by omega)
def cut (g:Int→Bool)(t:Thing):Thing:=(t.1,t.2.1,t.2.2.1,t.2.2.2.1,(ins t).filter fun n=>!g n)
def left (g:Int→Bool)(l:List Thing):List Thing:=(l.filter fun t=>!g (aT t)).map (cut g)
theorem mem_left {g:Int→Bool}{l:List Thing}{u:Thing}:u∈left g l↔∃ t∈l,g (aT t)=false∧u=cut g t:=by
 unfold left;rw [aQ5];constructor
 ·rintro ⟨t,ht,rfl⟩;rw [aXV] at ht;exact⟨t,ht.1,by simpa using ht.2,rfl⟩
 ·rintro ⟨t,ht,h1,rfl⟩;exact⟨t,aXV.2 ⟨ht,by simpa using h1⟩,rfl⟩
theorem GN {l:List Thing}:EN l↔(l.map aT).Pairwise (· < ·):=by
 rw [List.pairwise_map,List.pairwise_iff_getElem];constructor
 ·intro h i j hi hj hij;exact h i j _ _ hij (aJS hi) (aJS hj)
 ·intro h i j a b hij ha hb;obtain⟨hi,ea⟩:=aK2.1 ha;obtain⟨hj,eb⟩:=aK2.1 hb;have:=h i j hi hj hij;rw [ea,eb] at this;exact this
theorem aU9 (g:Int→Bool)(l:List Thing):(left g l).map aT=(l.filter fun t=>!g (aT t)).map aT:=by
 unfold left;rw [List.map_map];rfl
theorem T4 {g:Int→Bool}{l:List Thing}(h:EN l):EN (left g l):=by
 rw [GN] at h ⊢;rw [aU9];exact h.sublist (List.Sublist.map aT List.filter_sublist)
theorem Mem.weak {id:Int}:∀ {l:List Int} {a a':Int},a'≤a→Mem id a l→Mem id a' l
 | [],a,a',_,_=>trivial
 | n :: l,a,a',h,hm=>⟨by have:=hm.1;omega,hm.2⟩
theorem Mem.filter {id:Int}{p:Int→Bool}:∀ {l:List Int} {a:Int},Mem id a l→Mem id a (l.filter p)
 | [],a,_=>trivial
 | n :: l,a,hm=>by
  obtain⟨h1,h2,h3,h4⟩:=hm;rw [List.filter_cons]
  split
  ·exact⟨h1,h2,h3,h4.filter⟩
  ·exact(Mem.weak (by omega) h4).filter
theorem ZV (g:Int→Bool):∀ (l:List Thing),((left g l).flatMap ins).Sublist (l.flatMap ins)
 | []=>List.Sublist.refl _
 | t :: l=>by
  have ih:=ZV g l;unfold left at ih ⊢;rw [List.filter_cons]
  split
  ·rw [aXW,aXJ,aXJ];exact List.Sublist.append List.filter_sublist ih
  ·rw [aXJ];exact ih.trans (List.sublist_append_right _ _)
section
variable {s:aZ}{g:Int→Bool}
theorem a0c (h:Rt s)(hs:Small s.2.2)(hc:Clo s.2.2 g){t:Thing}(ht:t∈s.2.2)(hg:g (aT t)=false):RtP (cut g t):=by
 obtain⟨ho,hk⟩:=p9 h hs ht;have hn:CH g t≠true:=fun e=>by rw [hc t ht e] at hg;cases hg
 refine⟨ho,?_⟩;rcases hk with⟨k,a,b,c⟩ | ⟨k,a,b,c⟩ | ⟨k,a,b,c,d,e⟩
 ·exact .inl ⟨k,a,by show(ins t).filter _=[];rw [b];rfl,c⟩
 ·exact .inr (.inl ⟨k,a,by show(ins t).filter _=[];rw [b];rfl,c⟩)
 ·refine .inr (.inr ⟨k,a,b,c.filter,?_,?_⟩)
  ·unfold CH at hn;rw [aJn (by rw [k];decide),aJb k] at hn;have:∃ n∈ins t,g n=false:=by
    rcases Classical.em (∃ n∈ins t,g n=false) with h | h
    ·exact h
    ·exact absurd (aQ6.2 fun n hn=>by
      cases hgn:g n with
      | true=>rfl
      | false=>exact absurd ⟨n,hn,hgn⟩ h) hn
   obtain⟨n,hn1,hn2⟩:=this;show 1≤((ins t).filter fun n=>!g n).length;have:n∈(ins t).filter fun n=>!g n:=aXV.2 ⟨hn1,by rw [hn2];rfl⟩;exact List.length_pos_of_mem this
  ·exact aPB (aXR _ _) e
theorem a0d {n:Int}(hn:Is s.2.2 n)(hg:g n=false):Is (left g s.2.2) n:=by
 obtain⟨t,ht,e⟩:=hn;exact⟨cut g t,mem_left.2 ⟨t,ht,by rw [e];exact hg,rfl⟩,e⟩
theorem T6 (hs:Small s.2.2):Small (left g s.2.2):=by
 refine⟨?_,fun u hu=>?_⟩
 ·unfold left;rw [aRD];exact aPB (aXR _ _) hs.1
 ·obtain⟨t,ht,_,rfl⟩:=mem_left.1 hu;exact aPB (aXR _ _) (hs.2 t ht)
theorem ZW (h:Rt s){n:Int}(hk:dM s.2.2 n=1)(hg:g n=false):dM (left g s.2.2) n=1:=by
 obtain⟨t,ht,e,k⟩:=vT hk;have hm:cut g t∈left g s.2.2:=mem_left.2 ⟨t,ht,by rw [e];exact hg,rfl⟩;have:=(T4 (g:=g) h.mS).kind hm;rw [show aT (cut g t)=n from e] at this;rw [this];exact k
theorem aGL (h:Rt s)(x:Int):jS (left g s.2.2) x=0∨jS (left g s.2.2) x=jS s.2.2 x:=by
 by_cases h0:jS (left g s.2.2) x=0
 ·exact .inl h0
 ·right;obtain⟨u,hu,hm,e⟩:=pT h0;obtain⟨t,ht,_,rfl⟩:=mem_left.1 hu;have hm:x∈(ins t).filter fun n=>!g n:=hm;rw [← e];exact(fC h.apart ht (aXV.1 hm).1).symm
theorem aGM (h:Rt s)(hs:Small s.2.2)(x:Int):∀ k,kG (left g s.2.2) k x=0∨kG (left g s.2.2) k x=kG s.2.2 k x
 | 0=>.inr rfl
 | k+1=>by
  rw [fA,fA];rcases aGM h hs x k with h1 | h1
  ·rw [h1];rcases aGL (g:=g) h 0 with h2 | h2
   ·exact .inl h2
   ·exact .inl (by rw [h2];exact h.aJg hs)
  ·rw [h1];exact aGL h _
theorem aJ2 (hr:bK s=true)(hs:Small s.2.2)(hc:Clo s.2.2 g):bK (s.1,s.2.1,left g s.2.2)=true:=by
 have h:=bR hr;have hl:(left g s.2.2).length≤s.2.2.length:=by
  unfold left;rw [aRD];exact aXR _ _
 have hsm:Small (left g s.2.2):=T6 hs;refine yS (s:=(s.1,s.2.1,left g s.2.2)) (T4 h.mS) (fun u hu=>?_) (aPB hl h.len) h.next (show m0 s.1=true from wL hr) (fun u hu=>?_) ?_ fun u hu j hj=>?_
 ·obtain⟨t,ht,hg,rfl⟩:=mem_left.1 hu;obtain⟨h1,h2,_⟩:=h.low t ht;exact⟨h1,h2,(yR (hsm.2 _ hu)).2 (a0c h hs hc ht hg)⟩
 ·obtain⟨t,ht,hg,rfl⟩:=mem_left.1 hu;obtain⟨e1,e2⟩:=Cp.rE (h.ends t ht);have hn:CH g t≠true:=fun e=>by rw [hc t ht e] at hg;cases hg
  refine Cp.KD (s:=(s.1,s.2.1,left g s.2.2)) (fun k=>?_) fun n hn'=>?_
  ·have k:t.2.1=2:=k;unfold CH at hn;rw [aJb k] at hn;have hA:g t.2.2.2.1.1=false:=by
    cases hx:g t.2.2.2.1.1 with
    | false=>rfl
    | true=>exact absurd (by rw [hx];rfl) hn
   have hB:g t.2.2.2.1.2.1=false:=by
    cases hx:g t.2.2.2.1.2.1 with
    | false=>rfl
    | true=>exact absurd (by rw [hx,Bool.or_true]) hn
   exact⟨ZW h (e1 k).1 hA,ZW h (e1 k).2 hB⟩
  ·have hn':n∈(ins t).filter fun n=>!g n:=hn';obtain⟨m1,m2⟩:=aXV.1 hn';exact DT (s:=(s.1,s.2.1,left g s.2.2)) hsm (T4 h.mS) (a0d (h.fS hs ht m1) (by simpa using m2))
 ·have ha:=h.apart;unfold lM at ha ⊢;exact ha.sublist (ZV g s.2.2)
 ·obtain⟨t,ht,hg,rfl⟩:=mem_left.1 hu;show kG (left g s.2.2) (j+1) (aT t)≠aT t;intro e;rcases aGM (g:=g) h hs (aT t) (j+1) with h1 | h1
  ·rw [h1] at e;exact h.pos ⟨t,ht,rfl⟩ e.symm
  ·rw [h1] at e;exact h.n5 hs ⟨t,ht,rfl⟩ (j+1) (by omega) e
end
theorem GP (m:MB)(k j:Int)(v:Bool):dU (lG (.int .i64) .bool k v m) j=if j=k then v else dU m j:=by
 unfold dU;rw [sR .bool k j v m];by_cases h:j=k <;> simp [h]
theorem bCG (a:Int)(m:MB):aUQ a ((),()) m=some ((!dU m a,()),((),()),m,()):=rfl
theorem a6o (a:Int)(m:MB):aZT a ((),()) m=some ((dU m a,()),((),()),m,()):=rfl
def GQ (l:List Int)(p:Int→Bool):Int:=match l.findIdx? p with | some k=>(k:Int) | none=>-1
theorem aM9 (l:List Int)(p:Int→Bool):decide (GQ l p≥0)=l.any p:=by
 unfold GQ;cases hx:l.findIdx? p with
 | none=>
  rw [a9z] at hx;rw [aKP (by decide)];symm;rw [List.any_eq_false];intro x hx';simpa using hx x hx'
 | some k=>
  rw [List.findIdx?_eq_some_iff_getElem] at hx;obtain⟨h1,h2,_⟩:=hx;rw [aKO (by show(k:Int)≥0;omega)];symm;exact List.any_eq_true.2 ⟨_,aXB h1,h2⟩
theorem aP1 (l:List Int)(m:MB)(hl:l.length≤1000000000):tN l ((),()) m=some ((GQ l (fun n=>!dU m n),()),((),()),m,()):=by
 have h:=iJ (G:=fun x=>m9 x.1.1 x.1.2.2.1 x.1.2.2.2.1 x.2.1 x.2.2.1) (m:=fuel) l (fun n=>!dU m n) (fun k=>((l,(),(l.length:Int),(k:Int),()),((),()),m,())) (fun k=>.inr (((k:Int),()),((),()),m,())) (.inl ((),((),()),m,()))
  (fun k x hx=>?_) ?_ (fuel_lt hl)
 ·unfold tN yO GQ;rw [show(0:Int)=((0:Nat):Int) from rfl,h];cases l.findIdx? (fun n=>!dU m n) <;> rfl
 ·have hk:=dF hx;simp only [m9,dec_lt hk,bI hk,cond_true,bB hx,aN hk (by omega),bCG,aEk];cases dU m x <;> rfl
 ·simp only [m9,bA,cond_false]
theorem aVa (l:List Int)(m:MB)(hl:l.length≤1000000000):GD l ((),()) m=some ((l.any (fun n=>!dU m n),()),((),()),m,()):=by
 unfold GD;rw [aP1 l m hl];show some ((decide (GQ l (fun n=>!dU m n)≥0),()),((),()),m,())=_;rw [aM9]
theorem bHm (t:Thing)(m:MB)(hl:t.2.2.2.2.length≤1000000000):aZU t m=some ((CH (dU m) t,()),m,()):=by
 unfold aZU CH;by_cases h2:t.2.1=2
 ·rw [beq_iff_eq.2 h2,cond_true,aJb h2];show(bif dU m t.2.2.2.1.1 then some ((true,()),m,()) else some ((dU m t.2.2.2.1.2.1,()),m,()))=_;cases dU m t.2.2.2.1.1 <;> rfl
 ·rw [show(t.2.1==(2:Int))=false by simpa using h2,cond_false,aJn h2];by_cases h3:t.2.1=3
  ·rw [beq_iff_eq.2 h3,cond_true,aJb h3,aVa _ _ hl];have:(!(t.2.2.2.2.any fun n=>!dU m n))=(ins t).all (dU m):=by
    rw [List.not_any_eq_all_not];congr 1;funext n;simp
   show some ((!(t.2.2.2.2.any fun n=>!dU m n),()),m,())=_;rw [this]
  ·rw [show(t.2.1==(3:Int))=false by simpa using h3,cond_false,aJn h3]
theorem aP2 (l:List Int)(m:MB)(hl:l.length≤1000000000):tP ((),()) m l=some ((GQ l (dU m),()),((),()),m,l,()):=by
 have h:=iJ (G:=fun x=>nA x.1.2.2.1 x.1.2.2.2.1 x.2.1 x.2.2.1 x.2.2.2.1) (m:=fuel) l (dU m) (fun k=>(((),(),(l.length:Int),(k:Int),()),((),()),m,l,())) (fun k=>.inr (((k:Int),()),((),()),m,l,())) (.inl ((),((),()),m,l,()))
  (fun k x hx=>?_) ?_ (fuel_lt hl)
 ·unfold tP yQ GQ;rw [show(0:Int)=((0:Nat):Int) from rfl,h];cases l.findIdx? (dU m) <;> rfl
 ·have hk:=dF hx;simp only [nA,dec_lt hk,bI hk,cond_true,bB hx,aN hk (by omega),a6o,aEk];cases dU m x <;> rfl
 ·simp only [nA,bA,cond_false]
def tW (m:MB)(n:Int):Bool:=!dU m n
theorem aCV (l:List Int)(m:MB)(hl:l.length≤1000000000):∀ (d f j i:Nat) (r:List Int),j+d=l.length→d<f→r.length=l.length→i<j→r.take i=(l.take j).filter (tW m)→r.drop j=l.drop j →
  ∃ (r':List Int) (i':Nat),aH (fun x=>AR x.1.2.2.1 x.1.2.2.2.1 x.2.1 x.2.2.1 x.2.2.2.1) f (((),(),(i:Int),(j:Int),()),((),()),m,r,())=some (.inl (((),(i':Int),()),((),()),m,r',()))∧r'.length=l.length∧i'<l.length∧r'.take i'=l.filter (tW m)
 | 0,f,j,i,r,hj,hf,hr,hi,h1,h2=>by
  obtain⟨f,rfl⟩:∃ k,f=k+1:=⟨f-1,by omega⟩;have:j=l.length:=by omega
  subst this;refine⟨r,i,bM (by simp only [AR,hr,bA,cond_false]) f,hr,hi,?_⟩;rw [h1,aYZ]
 | d+1,f,j,i,r,hj,hf,hr,hi,h1,h2=>by
  obtain⟨f,rfl⟩:∃ k,f=k+1:=⟨f-1,by omega⟩;have hlt:j<l.length:=by omega
  have hlr:j<r.length:=by omega
  have hir:i<r.length:=by omega
  have e1:r[j]=l[j]:=by
   have:=h2;rw [aZw hlt,aZw hlr] at this;injection this
  have e2:r.drop (j+1)=l.drop (j+1):=by
   have:=h2;rw [aZw hlt,aZw hlr] at this;injection this
  have ht:l.take (j+1)=l.take j++[l[j]]:=aZ7 hlt;cases hk:dU m l[j] with
  | true=>
   obtain⟨r',i',k1,k2,k3,k4⟩:=aCV l m hl d f (j+1) i r (by omega) (by omega) hr (by omega) (by
    rw [ht,List.filter_append,h1];have:[l[j]].filter (tW m)=[]:=by simp [tW,hk]
    rw [this,a1d]) e2
   refine⟨r',i',?_,k2,k3,k4⟩;rw [bT (x':=(((),(),(i:Int),((j+1:Nat):Int),()),((),()),m,r,())) ?_ f]
   ·exact k1
   ·simp only [AR,dec_lt hlr,bI hlr,cond_true,bB (aJS hlr),e1,a6o,hk,aEk,aXM,cond_false,aN hlt (by omega)]
  | false=>
   obtain⟨r',i',k1,k2,k3,k4⟩:=aCV l m hl d f (j+1) (i+1) (r.set i l[j]) (by omega) (by omega) (by rw [aXK];exact hr) (by omega) (by
    have hs:(r.set i l[j]).take (i+1)=r.take i++[l[j]]:=by
     rw [aZ7 (by rw [aXK];exact hir),List.getElem_set_self,List.take_set_of_le (aKQ _)]
    rw [hs,ht,List.filter_append,h1];have:[l[j]].filter (tW m)=[l[j]]:=by simp [tW,hk]
    rw [this]) (by rw [List.drop_set_of_lt (by omega),e2])
   refine⟨r',i',?_,k2,k3,k4⟩;rw [bT (x':=(((),(),((i+1:Nat):Int),((j+1:Nat):Int),()),((),()),m,r.set i l[j],())) ?_ f]
   ·exact k1
   ·simp only [AR,dec_lt hlr,bI hlr,bI hir,cond_true,bB (aJS hlr),e1,a6o,hk,aEk,a9A,aN hlt (by omega),aN hir (by omega)];rfl
theorem bCH (l:List Int)(m:MB)(hl:l.length≤1000000000):aGz ((),()) m l=some ((l.filter (tW m),()),((),()),m,()):=by
 unfold aGz;rw [aP2 l m hl];simp only [aEk];unfold GQ;cases hx:l.findIdx? (dU m) with
 | none=>
  rw [a9z] at hx;have:l.filter (tW m)=l:=List.filter_eq_self.2 fun n hn=>by unfold tW;rw [hx n hn];rfl
  rw [this];rfl
 | some k=>
  rw [List.findIdx?_eq_some_iff_getElem] at hx;obtain⟨h1,h2,h3⟩:=hx;have hne:((k:Int)==(-1:Int))=false:=beq_eq_false_iff_ne.2 (by omega);have hd:l.length-(k+1)<fuel:=fuel_lt (by omega);obtain⟨r',i',k1,k2,k3,k4⟩:=aCV l m hl (l.length-(k+1)) fuel (k+1) k l (by omega) hd rfl (by omega) (by
   rw [aZ7 h1,List.filter_append];have e1:[l[k]].filter (tW m)=[]:=by simp [tW,h2]
   have e2:(l.take k).filter (tW m)=l.take k:=List.filter_eq_self.2 fun n hn=>by
    obtain⟨j,hj,e⟩:=List.getElem_of_mem hn;rw [aP6] at hj;have hj:j<k:=by omega
    rw [List.getElem_take] at e;have:=h3 j hj;unfold tW;rw [← e];simpa using this
   rw [e1,e2,a1d]) rfl
  rw [hne,cond_false,aN h1 (by omega)];have hR:aCI (((),(),(k:Int),((k+1:Nat):Int),()),((),()),m,l,())=some (.inl (((),(i':Int),()),((),()),m,r',())):=k1;rw [hR];simp only [aEk,aQM];have c1:decide ((0:Int)≤(i':Int)∧(i':Int)≤(r'.length:Int))=true:=aKO (by omega);have c2:i'.blt r'.length=true:=by rw [Nat.blt_eq];omega
  have c3:(i'*1+(r'.length-i')).beq r'.length=true:=(by rw [Nat.beq_eq];omega);have c4:Nat.blt 0 r'.length=true:=by rw [Nat.blt_eq];omega
  have e5:(r'.take (i'*1)++List.replicate (r'.length-i') (0:Int)).length=r'.length:=by simp;omega
  have e6:(r'.take (i'*1)++List.replicate (r'.length-i') (0:Int)).take i'=r'.take i':=by
   rw [Nat.mul_one,List.take_append_of_le_length (by rw [aP6];omega),List.take_take,Nat.min_self]
  refine bZ c1 (bZ c2 (bZ ?_ (bZ (aKO ⟨by show(0:Int)≤(i':Int);omega,?_⟩) (bZ ?_ ?_))))
  ·show(true&&((i'*1+(r'.length-i')).beq r'.length&&(Nat.blt 0 r'.length&&true)))=true;rw [c3,c4];rfl
  ·show(i':Int)≤(((r'.take (i'*1)++List.replicate (r'.length-i') (0:Int)).length:Nat):Int);rw [e5];omega
  ·show Nat.blt 0 ((r'.take (i'*1)++List.replicate (r'.length-i') (0:Int)).length)=true;rw [e5];exact c4
  ·show some ((((r'.take (i'*1)++List.replicate (r'.length-i') (0:Int)).take i',()),((),()),m,()):N7.El)=_;rw [e6,k4]
def XR (m:MB)(n:Int):MB:=lG (.int .i64) .bool n true m
theorem T7:∀ (l:List Int) (m:MB) (n:Int),(n∈l∨dU m n=true)→dU (l.foldl XR m) n=true
 | [],m,n,h=>by
  rcases h with h | h
  ·simp at h
  ·exact h
 | a :: l,m,n,h=>by
  refine T7 l (XR m a) n ?_;rcases h with h | h
  ·rcases aQL.1 h with rfl | h
   ·right;unfold XR;rw [GP,aJb rfl]
   ·exact .inl h
  ·right;unfold XR;rw [GP,h];split <;> rfl
theorem a6p (s z:aZ)(l:List Int)(hl:l.length≤1000000000)(m:MB) :
  aJR (((),(),(),l,(l.length:Int),(0:Int),()),(s,()),(z,()),((),()),m,())=some (.inl (((),(),(),()),(s,()),(z,()),((),()),l.foldl XR m,())):=by
 have h:=yB (G:=fun x=>TR x.1.2.2.2.1 x.1.2.2.2.2.1 x.1.2.2.2.2.2.1 x.2.1 x.2.2.1 x.2.2.2.1 x.2.2.2.2.1) (m:=fuel) l XR
  (fun j m=>(((),(),(),l,(l.length:Int),(j:Int),()),(s,()),(z,()),((),()),m,())) (fun m=>.inl (((),(),(),()),(s,()),(z,()),((),()),m,())) (fun j a m ha=>?_) (fun m=>?_) (fuel_lt hl) m
 ·exact h
 ·have hk:=dF ha;simp only [TR,dec_lt hk,bI hk,cond_true,bB ha,aN hk (by omega)];rfl
 ·simp only [TR,bA,cond_false]
def MK (m:MB)(t:Thing):MB:=bif dU m (aT t) then lG (.int .i64) .bool (aT t) true m else lG (.int .i64) .bool (aT t) (CH (dU m) t) m
theorem aP3 (m:MB)(t:Thing):dU (MK m t)=lC (dU m) t:=by
 funext j;unfold MK lC;cases hg:dU m (aT t) with
 | true=>
  rw [cond_true,GP];by_cases h:j=aT t
  ·rw [aJb h,aJb h,h,hg];rfl
  ·rw [aJn h,aJn h]
 | false=>
  rw [cond_false,GP];by_cases h:j=aT t
  ·rw [aJb h,aJb h,h,hg];rfl
  ·rw [aJn h,aJn h]
theorem aJ3 (l:List Thing):∀ (m:MB),dU (l.foldl MK m)=gQ l (dU m):=by
 unfold gQ
 induction l with
 | nil=>intro m;rfl
 | cons t l ih=>
  intro m;rw [List.foldl_cons,List.foldl_cons,ih,aP3]
theorem a0e (s z:aZ)(hs:Small s.2.2)(c k:Int)(m:MB) :
  aCJ (((),(),(),c,k,s.2.2,(s.2.2.length:Int),(0:Int),()),(s,()),(z,()),((),()),m,())=some (.inl (((),(),(),c,k,()),(s,()),(z,()),((),()),s.2.2.foldl MK m,())):=by
 have h:=yB (G:=fun x=>GI x.1.2.2.2.1 x.1.2.2.2.2.1 x.1.2.2.2.2.2.1 x.1.2.2.2.2.2.2.1 x.1.2.2.2.2.2.2.2.1 x.2.1 x.2.2.1 x.2.2.2.1 x.2.2.2.2.1) (m:=fuel) s.2.2 MK
  (fun j m=>(((),(),(),c,k,s.2.2,(s.2.2.length:Int),(j:Int),()),(s,()),(z,()),((),()),m,())) (fun m=>.inl (((),(),(),c,k,()),(s,()),(z,()),((),()),m,())) (fun j t m ha=>?_) (fun m=>?_) (fuel_lt hs.1) m
 ·exact h
 ·have hk:=dF ha;have hi:=hs.2 t (aPl ha);simp only [GI,dec_lt hk,bI hk,cond_true,bB ha,bHm t m hi,aEk,aN hk (by have:=hs.1;omega)];unfold MK;show(bif dU m (aT t) then _ else _)=_;cases dU m (aT t) <;> rfl
 ·simp only [GI,bA,cond_false]
def itM (l:List Thing)(m:MB):Nat→MB
 | 0=>m
 | k+1=>l.foldl MK (itM l m k)
theorem T8 (l:List Thing):∀ (k:Nat) (g:Int→Bool),CI l (k+1) g=gQ l (CI l k g)
 | 0,g=>rfl
 | k+1,g=>by
  show CI l (k+1) (gQ l g)=gQ l (CI l k (gQ l g));exact T8 l k _
theorem aCW (l:List Thing)(m:MB):∀ k,dU (itM l m k)=CI l k (dU m)
 | 0=>rfl
 | k+1=>by
  show dU (l.foldl MK (itM l m k))=_;rw [aJ3,aCW l m k,T8]
theorem a0g (s z:aZ)(hs:Small s.2.2)(m:MB) :
  aCN (((),(),(),(s.2.2.length:Int),(0:Int),()),(s,()),(z,()),((),()),m,())=some (.inl (((),(),(),()),(s,()),(z,()),((),()),itM s.2.2 m s.2.2.length,())):=by
 have h:=gM (G:=fun x=>GJ x.1.2.2.2.1 x.1.2.2.2.2.1 x.2.1 x.2.2.1 x.2.2.2.1 x.2.2.2.2.1) (n:=s.2.2.length)
  (inv:=fun k=>(((),(),(),(s.2.2.length:Int),(k:Int),()),(s,()),(z,()),((),()),itM s.2.2 m k,())) (y:=.inl (((),(),(),()),(s,()),(z,()),((),()),itM s.2.2 m s.2.2.length,())) (fun k hk=>?_) ?_ s.2.2.length 0 fuel (by omega) (fuel_lt hs.1)
 ·exact h
 ·have h1:=a0e s z hs (s.2.2.length:Int) (k:Int) (itM s.2.2 m k);simp only [GJ,dec_lt hk,cond_true,h1,aEk,aQM,aN hk (by have:=hs.1;omega)];rfl
 ·simp only [GJ,bA,cond_false]
theorem aP4 (g:Int→Bool)(l:List Thing)(t:Thing):left g (l++[t])=(if g (aT t) then left g l else left g l++[cut g t]):=by
 unfold left;rw [List.filter_append,List.map_append];cases hg:g (aT t) with
 | true=>simp [hg]
 | false=>simp [hg]
theorem aVb (g:Int→Bool)(l:List Thing):(left g l).length≤l.length:=by
 unfold left;rw [aRD];exact aXR _ _
theorem a0h (s z:aZ)(hs:Small s.2.2)(m:MB) :
  aCO (((),(),(),(),s.2.2,(s.2.2.length:Int),(0:Int),()),(s,()),(z,()),((),()),m,[],())=some (.inl (((),(),(),()),(s,()),(z,()),left (dU m) s.2.2,())):=by
 have h:=gM (G:=fun x=>GK x.1.2.2.2.2.1 x.1.2.2.2.2.2.1 x.1.2.2.2.2.2.2.1 x.2.1 x.2.2.1 x.2.2.2.1 x.2.2.2.2.1 x.2.2.2.2.2.1) (n:=s.2.2.length)
  (inv:=fun k=>(((),(),(),(),s.2.2,(s.2.2.length:Int),(k:Int),()),(s,()),(z,()),((),()),m,left (dU m) (s.2.2.take k),())) (y:=.inl (((),(),(),()),(s,()),(z,()),left (dU m) (s.2.2.take s.2.2.length),())) (fun k hk=>?_) ?_ s.2.2.length 0 fuel (by omega) (fuel_lt hs.1)
 ·rw [aYZ] at h;exact h
 ·have ha:=aJS hk;have hm:=aXB hk;have hi:=hs.2 _ hm;have hlen:=aVb (dU m) (s.2.2.take k);have hlt:(s.2.2.take k).length=k:=by rw [aP6];omega
  have h1:=hs.1;rw [aZ7 hk,aP4];simp only [GK,dec_lt hk,bI hk,cond_true,bB ha,aN hk (by have:=hs.1;omega),ZS _ hi,bCH _ m hi,aEk];show(bif !dU m (aT s.2.2[k]) then _ else _)=_;cases hg:dU m (aT s.2.2[k]) with
  | true=>rfl
  | false=>
   simp only [a9A,cond_true,aZC,if_false];refine bZ (aPp ?_) rfl;simp only [aQO,List.length_nil];omega
 ·simp only [GK,bA,cond_false]
theorem bHn (s:aZ)(id:Int)(hs:Small s.2.2)(hr:bK s=true) :
  (¬Is s.2.2 id∧aJT s id=some ((eX,10,()):aS [aD,I])) ∨
  (Is s.2.2 id∧∃ g:Int→Bool,Clo s.2.2 g∧(∀ n∈oC s.2.2 id,g n=true)∧aJT s id=some (((s.1,s.2.1,left g s.2.2),0,()):aS [aD,I])):=by
 have hR:=bR hr;have e23:=yA s id hs.1 hs.2;have e20:=JI s hs;rw [hr] at e20;unfold aJT;by_cases hn:Is s.2.2 id
 ·right;refine⟨hn,dU (itM s.2.2 ((oC s.2.2 id).foldl XR []) s.2.2.length),?_,?_,?_⟩
  ·rw [aCW];refine aGK _ ?_;obtain⟨t,ht,e⟩:=hn;have:0<s.2.2.countP (fun t=>dU ((oC s.2.2 id).foldl XR []) (aT t)):=by
    rw [List.countP_pos_iff];exact⟨t,ht,T7 _ _ _ (.inl (by rw [e];exact aU5 hR hs ⟨t,ht,e⟩))⟩
   omega
  ·intro n hn';rw [aCW];exact ZU _ (T7 _ _ _ (.inl hn'))
  ·have e37:=bCD hr hs hn;have hl:(cI (sS s.2.2 100 id)).length≤1000000000:=by
    rw [gN];have:=hR.few hs 100 hn;omega
   have c1:(!(bW s.2.2 id).2)=false:=by
    obtain⟨t,ht,rfl⟩:=hn;rw [hR.mS.bW ht];rfl
   have e8:=a6p s eX (cI (sS s.2.2 100 id)) hl [];have e13:=a0g s eX hs ((oC s.2.2 id).foldl XR []);have e22:=a0h s eX hs (itM s.2.2 ((oC s.2.2 id).foldl XR []) s.2.2.length);exact aB e20 (cU rfl (aB e23 (cU c1 (aB e37 (aB e8 (aB e13 (aB e22 rfl)))))))
 ·refine .inl ⟨hn,aB e20 (cU rfl (aB e23 (bZ ?_ rfl)))⟩;rw [Y7 hn];rfl
end Go.DI.S
