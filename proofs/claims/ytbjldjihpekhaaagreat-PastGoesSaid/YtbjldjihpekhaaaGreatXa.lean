import Derived.Test.YtbjldjihpekhaaaGreatJa
/- A copy may be, plain. No conditions. -/
set_option linter.unusedSimpArgs false
set_option linter.unusedVariables false
set_option maxRecDepth 100000
set_option maxHeartbeats 0
noncomputable section
namespace Go.DI.S
open Go.Proofs
def KB (n:Int):Prop:=1≤n∧n≤1000000
def okB (n:Int):Bool:=decide (n≥(1:Int))&&decide (n≤(1000000:Int))
theorem N9 {n:Int}:okB n=true↔KB n:=by
 unfold okB KB;rw [aKS,decide_eq_true_iff,decide_eq_true_iff]
theorem aZ6 (a:Int):FF a=some ((okB a,()):aS [.bool]):=by
 unfold FF okB;cases decide (a≥(1:Int)) <;> rfl
def noB:Body:=((0:Int),((0:Int),(0:Int)),(0:Int),((0:Int),(0:Int)),(0:Int),(0:Int))
def noJ:iF:=((0:Int),(0:Int),(0:Int))
def bz (b:Body):Bool:=b.1==(0:Int)&&(b.2.1.1==(0:Int)&&(b.2.1.2==(0:Int)&&true)&&(b.2.2.1==(0:Int)&&(b.2.2.2.1.1==(0:Int)&&(b.2.2.2.1.2==(0:Int)&&true)&&(b.2.2.2.2.1==(0:Int)&&(b.2.2.2.2.2==(0:Int)&&true)&&true))))
def jz (j:iF):Bool:=j.1==(0:Int)&&(j.2.1==(0:Int)&&(j.2.2==(0:Int)&&true))
theorem aU1 {b:Body}:bz b=true↔b=noB:=by
 obtain⟨b1,⟨b2,b3⟩,b4,⟨b5,b6⟩,b7,b8⟩:=b;unfold bz noB;constructor
 ·intro h;simp only [aKS,beq_iff_eq] at h;obtain⟨h1,⟨h2,h3,_⟩,h4,⟨h5,h6,_⟩,⟨h7,h8,_⟩,_⟩:=h;subst h1;subst h2;subst h3;subst h4;subst h5;subst h6;subst h7;subst h8;rfl
 ·intro h;cases h;rfl
theorem aU2 {j:iF}:jz j=true↔j=noJ:=by
 obtain⟨b1,b2,b3⟩:=j;unfold jz noJ;constructor
 ·intro h;simp only [aKS,beq_iff_eq] at h;obtain⟨h1,h2,h3,_⟩:=h;subst h1;subst h2;subst h3;rfl
 ·intro h;cases h;rfl
def lz (t:Thing):Bool:=((t.2.2.2.2.length:Nat):Int)==(0:Int)
theorem aU3 {t:Thing}:lz t=true↔ins t=[]:=by
 unfold lz ins;rw [beq_iff_eq];constructor
 ·intro h;exact a9w (by omega)
 ·intro h;rw [h];rfl
def aGF (t:Thing):Bool:=bif t.2.1==(1:Int) then jz t.2.2.2.1&&lz t else bif t.2.1==(2:Int) then bz t.2.2.1&&lz t else bz t.2.2.1&&jz t.2.2.2.1
theorem bHk (t:Thing):aIV t=some ((aGF t,()):aS [.bool]):=by
 unfold aIV aGF;cases (t.2.1==(1:Int)) with
 | true=>
  show(bif jz t.2.2.2.1 then some ((lz t,()):aS [.bool]) else some (false,()))=some ((jz t.2.2.2.1&&lz t,()):aS [.bool]);cases jz t.2.2.2.1 <;> rfl
 | false=>
  cases (t.2.1==(2:Int)) with
  | true=>
   show(bif bz t.2.2.1 then some ((lz t,()):aS [.bool]) else some (false,()))=some ((bz t.2.2.1&&lz t,()):aS [.bool]);cases bz t.2.2.1 <;> rfl
  | false=>
   show(bif bz t.2.2.1 then some ((jz t.2.2.2.1,()):aS [.bool]) else some (false,()))=some ((bz t.2.2.1&&jz t.2.2.2.1,()):aS [.bool]);cases bz t.2.2.1 <;> rfl
def Mem (id:Int):Int→List Int→Prop
 | _,[]=>True
 | a,n :: l=>a<n∧KB n∧n≠id∧Mem id n l
def wK (id:Int)(a n:Int):Option Int:=bif decide (n≤a) then none else bif !okB n then none else bif n==id then none else some n
theorem aJW (id a n:Int) [Decidable (a<n∧KB n∧n≠id)]:wK id a n=if a<n∧KB n∧n≠id then some n else none:=by
 unfold wK;by_cases h1:n≤a
 ·rw [aKO h1,cond_true,aJn (by omega)]
 ·rw [aKP h1,cond_false];cases h2:okB n with
  | false=>rw [aJn (fun h=>by rw [N9.2 h.2.1] at h2;cases h2)];rfl
  | true=>
   simp only [aXM,cond_false];by_cases h3:n=id
   ·rw [beq_iff_eq.2 h3,cond_true,aJn (fun h=>h.2.2 h3)]
   ·have:(n==id)=false:=by simpa using h3
    rw [this,cond_false,aJb ⟨by omega,N9.1 h2,h3⟩]
open Classical in
theorem TX {id:Int}:∀ (l:List Int) (a:Int),(eS (wK id) l a).isSome=true↔Mem id a l
 | [],a=>⟨fun _=>trivial,fun _=>rfl⟩
 | n :: l,a=>by
  simp only [eS,Mem,aJW];by_cases h:a<n∧KB n∧n≠id
  ·rw [aJb h];exact⟨fun k=>⟨h.1,h.2.1,h.2.2,(TX l n).1 k⟩,fun k=>(TX l n).2 k.2.2.2⟩
  ·rw [aJn h];exact⟨fun k=>(by cases k),fun k=>absurd ⟨k.1,k.2.1,k.2.2.1⟩ h⟩
def GL (t:Thing):Bool:=(eS (wK (aT t)) (ins t) 0).isSome&&(decide ((((ins t).length:Nat):Int)≥1)&&decide ((((ins t).length:Nat):Int)≤8))
theorem bHl (t:Thing)(hl:t.2.2.2.2.length≤1000000000):XH t=some ((GL t,()):aS [.bool]):=by
 have h:=sQ (G:=fun x=>jY x.1.2.1 x.1.2.2.1 x.1.2.2.2.1 x.1.2.2.2.2.1 x.2.1) (m:=fuel) (ins t) (wK (aT t)) (fun k a=>(((),a,ins t,((ins t).length:Int),(k:Int),()),(t,()),())) (.inr ((false,()),())) (fun a=>.inl (((),()),(t,()),()))
  (fun k a s ha=>?_) (fun a=>?_) (fuel_lt hl) 0
 ·unfold XH aBq GL;have h:aH (fun x=>jY x.1.2.1 x.1.2.2.1 x.1.2.2.2.1 x.1.2.2.2.2.1 x.2.1) fuel (((),(0:Int),t.2.2.2.2,((t.2.2.2.2.length:Nat):Int),(0:Int),()),(t,()),())=_:=h;rw [h];cases eS (wK (aT t)) (ins t) 0 with
  | none=>rfl
  | some a=>
   show(bif decide ((((ins t).length:Nat):Int)≥1) then some ((decide ((((ins t).length:Nat):Int)≤8),()):aS [.bool]) else some (false,()))=some ((decide ((((ins t).length:Nat):Int)≥1)&&decide ((((ins t).length:Nat):Int)≤8),()):aS [.bool]);cases decide ((((ins t).length:Nat):Int)≥1) <;> rfl
 ·have hk:=dF ha;show jY s (ins t) ((ins t).length:Int) (k:Int) (t,())=_;simp only [jY,dec_lt hk,bI hk,cond_true,bB ha,aN hk (by show(ins t).length≤_;unfold ins;omega)];rw [aZ6];unfold wK;cases decide (a≤s) with
  | true=>rfl
  | false=>
   simp only [cond_false,aEk];cases okB a with
   | false=>rfl
   | true=>
    have hb:(a==t.1)=(a==aT t):=rfl;rw [hb];cases (a==aT t) <;> rfl
 ·show jY a (ins t) ((ins t).length:Int) ((ins t).length:Int) (t,())=_;simp only [jY,bA,cond_false]
def aJX (j:iF):Bool:=okB j.1&&(okB j.2.1&&(j.1 != j.2.1&&(decide (j.2.2≥(0:Int))&&decide (j.2.2≤(4294967296000:Int)))))
def rtC (t:Thing):Bool:=okB (aT t)&&(aGF t&&(bif t.2.1==(1:Int) then rb t.2.2.1 else bif t.2.1==(2:Int) then aJX t.2.2.2.1 else bif t.2.1==(3:Int) then GL t else false))
theorem rt_eq (t:Thing)(hl:t.2.2.2.2.length≤1000000000):rt t=rtC t:=by
 have key:BW t=some ((rtC t,()):aS [.bool]):=by
  unfold BW rtC;rw [show FF t.1=some ((okB (aT t),()):aS [.bool]) from aZ6 t.1];simp only [aEk];cases okB (aT t) with
  | false=>rfl
  | true=>
   simp only [aXM,cond_false,Bool.true_and];rw [bHk];simp only [aEk];cases aGF t with
   | false=>rfl
   | true=>
    simp only [aXM,cond_false,Bool.true_and];cases (t.2.1==(1:Int)) with
    | true=>
     simp only [cond_true];rw [show l5 t.2.2.1=some ((rb t.2.2.1,()):aS [.bool]) from aJd (aY1 _)];rfl
    | false=>
     simp only [cond_false];cases (t.2.1==(2:Int)) with
     | true=>
      simp only [cond_true];unfold aJX;rw [aZ6];simp only [aEk];cases okB t.2.2.2.1.1 with
      | false=>rfl
      | true=>
       simp only [cond_true,Bool.true_and];rw [aZ6];simp only [aEk];cases okB t.2.2.2.1.2.1 with
       | false=>rfl
       | true=>
        simp only [cond_true,Bool.true_and];cases (t.2.2.2.1.1 != t.2.2.2.1.2.1) with
        | false=>rfl
        | true=>
         simp only [cond_true,Bool.true_and];cases decide (t.2.2.2.1.2.2≥(0:Int)) <;> rfl
     | false=>
      simp only [cond_false];cases (t.2.1==(3:Int)) with
      | false=>rfl
      | true=>
       simp only [cond_true];rw [bHl t hl];rfl
 have h2:=XK t hl;rw [key] at h2;injection h2 with h2
 exact(aKR Prod.fst h2).symm
def RtP (t:Thing):Prop:=KB (aT t) ∧
 ((t.2.1=1∧t.2.2.2.1=noJ∧ins t=[]∧rb t.2.2.1=true) ∨
  (t.2.1=2∧t.2.2.1=noB∧ins t=[]∧KB t.2.2.2.1.1∧KB t.2.2.2.1.2.1∧t.2.2.2.1.1≠t.2.2.2.1.2.1∧0≤t.2.2.2.1.2.2∧t.2.2.2.1.2.2≤4294967296000) ∨
  (t.2.1=3∧t.2.2.1=noB∧t.2.2.2.1=noJ∧Mem (aT t) 0 (ins t)∧1≤(ins t).length∧(ins t).length≤8))
theorem yR {t:Thing}(hl:t.2.2.2.2.length≤1000000000):rt t=true↔RtP t:=by
 rw [rt_eq t hl];unfold rtC RtP aGF;rw [aKS,N9];refine and_congr_right fun _=>?_;by_cases h1:t.2.1=1
 ·have b1:(t.2.1==(1:Int))=true:=beq_iff_eq.2 h1;rw [b1];simp only [cond_true,aKS,aU2,aU3];constructor
  ·rintro ⟨⟨a,b⟩,c⟩;exact .inl ⟨h1,a,b,c⟩
  ·rintro (⟨_,a,b,c⟩ | ⟨h,_⟩ | ⟨h,_⟩)
   ·exact⟨⟨a,b⟩,c⟩
   ·rw [h1] at h;cases h
   ·rw [h1] at h;cases h
 ·have b1:(t.2.1==(1:Int))=false:=by simpa using h1
  rw [b1];simp only [cond_false];by_cases h2:t.2.1=2
  ·have b2:(t.2.1==(2:Int))=true:=beq_iff_eq.2 h2;rw [b2];unfold aJX;simp only [cond_true,aKS,aU1,aU3,N9,bne_iff_ne,decide_eq_true_iff];constructor
   ·rintro ⟨⟨a,b⟩,c,d,e,f,g⟩;exact .inr (.inl ⟨h2,a,b,c,d,e,f,g⟩)
   ·rintro (⟨h,_⟩ | ⟨_,a,b,c,d,e,f,g⟩ | ⟨h,_⟩)
    ·exact absurd h h1
    ·exact⟨⟨a,b⟩,c,d,e,f,g⟩
    ·rw [h2] at h;cases h
  ·have b2:(t.2.1==(2:Int))=false:=by simpa using h2
   rw [b2];simp only [cond_false];by_cases h3:t.2.1=3
   ·have b3:(t.2.1==(3:Int))=true:=beq_iff_eq.2 h3;rw [b3];unfold GL;simp only [cond_true,aKS,aU1,aU2,TX,decide_eq_true_iff];constructor
    ·rintro ⟨⟨a,b⟩,c,d,e⟩;exact .inr (.inr ⟨h3,a,b,c,by omega,by omega⟩)
    ·rintro (⟨h,_⟩ | ⟨h,_⟩ | ⟨_,a,b,c,d,e⟩)
     ·exact absurd h h1
     ·exact absurd h h2
     ·exact⟨⟨a,b⟩,c,by omega,by omega⟩
   ·have b3:(t.2.1==(3:Int))=false:=by simpa using h3
    rw [b3];simp only [cond_false];constructor
    ·intro h;rw [Bool.and_false] at h;cases h
    ·rintro (⟨h,_⟩ | ⟨h,_⟩ | ⟨h,_⟩)
     ·exact absurd h h1
     ·exact absurd h h2
     ·exact absurd h h3
theorem aM1:∀ (l:List Int) (m:MB),l.Nodup→(∀ n∈l,dU m n=false)→∃ m',eS rP l m=some m'
 | [],m,_,_=>⟨m,rfl⟩
 | n :: l,m,hd,hg=>by
  rw [List.nodup_cons] at hd;have h1:=hg n (by simp);simp only [eS];unfold rP;rw [h1,cond_false];exact aM1 l _ hd.2 (fun j hj=>by
   rw [aB4];have:j≠n:=fun e=>hd.1 (e▸hj);rw [aKP this,hg j (by simp [hj])];rfl)
theorem TY:∀ (l:List Thing) (m:MB),lM l→(∀ n∈l.flatMap ins,dU m n=false)→(eS vS l m).isSome=true
 | [],m,_,_=>rfl
 | t :: l,m,ha,hg=>by
  have ha2:(ins t++l.flatMap ins).Nodup:=ha;rw [List.nodup_append] at ha2;obtain⟨h1,h2,h3⟩:=ha2;obtain⟨m',hm'⟩:=aM1 (ins t) m h1 (fun n hn=>hg n (by simp [hn]));obtain⟨_,_,hk⟩:=aS6 _ _ _ hm';simp only [eS];have:vS m t=some m':=hm';rw [this];refine TY l m' h2 fun n hn=>?_;rw [hk];have:n∉ins t:=fun h=>h3 n h n hn rfl;rw [aKP this,hg n (by simp only [aXJ,aLA];exact .inr hn)];rfl
theorem TZ {l:List Thing}(ha:lM l)(id:Int):∀ (k:Nat) (x:Int),(∀ j,j<k→kG l j x≠id)→B9 (upM l) id k x=false
 | 0,x,_=>rfl
 | k+1,x,h=>by
  simp only [B9,Bool.or_eq_false_iff];refine⟨beq_false_of_ne (h 0 (by omega)),?_⟩;rw [aB5 ha];exact TZ ha id k _ fun j hj=>h (j+1) (by omega)
theorem yS {s:aZ}(mS:EN s.2.2)(low:∀ t∈s.2.2,0<aT t∧aT t<s.2.1∧rt t=true)(len:s.2.2.length≤40)(next:1≤s.2.1∧s.2.1≤1000001)(near:m0 s.1=true)
  (ends:∀ t∈s.2.2,nZ s t=true) (apart:lM s.2.2) (tree:∀ t∈s.2.2,∀ j,j<s.2.2.length→kG s.2.2 j (jS s.2.2 (aT t))≠aT t):bK s=true:=by
 unfold bK rO FN nK;simp only [aKS];refine⟨⟨DS _ _ low mS,aKO (by omega),aKO next.1,aKO next.2,near⟩,aQ6.2 ends,TY _ _ apart (fun n _=>rfl),?_⟩;rw [a1K,List.any_eq_false];intro t ht;unfold jK;rw [aB5 apart,TZ apart _ _ _ (tree t ht)];simp
theorem wL {s:aZ}(h:bK s=true):m0 s.1=true:=by
 unfold bK rO at h;simp only [aKS] at h;exact h.1.2.2.2.2
section
variable {s:aZ}
theorem aU4 (h:Rt s)(hs:Small s.2.2){x:Int}{k:Nat}(h0:kG s.2.2 k x=0){e:Nat}(he:k≤e):kG s.2.2 e x=0:=by
 rw [show e=(e-k)+k by omega,FQ,h0];exact h.aY4 hs _
theorem mT (h:Rt s)(hs:Small s.2.2){id:Int}(hid:Is s.2.2 id){x:Int}:x∈oC s.2.2 id↔Is s.2.2 x∧∃ e,kG s.2.2 e x=id:=by
 unfold oC;rw [(gE _).mem_iff];constructor
 ·exact h.below hs 100 id hid x
 ·rintro ⟨hx,e,he⟩;obtain⟨k,hk,hk0⟩:=h.top hs hx;have h0:id≠0:=h.pos hid;have hek:e<k:=by
   rcases Nat.lt_or_ge e k with h1 | h1
   ·exact h1
   ·exact absurd (he.symm.trans (aU4 h hs hk0 h1)) h0
  have:=h.len;have:=h.lies hs hx e 100 (by omega) (by rw [he];exact h0);rw [he] at this;exact this
theorem aPX (h:Rt s)(hs:Small s.2.2){id:Int}(hid:Is s.2.2 id):(oC s.2.2 id).Nodup:=by
 unfold oC;exact(gE _).nodup_iff.2 (h.once hs 100 id hid)
theorem aU5 (h:Rt s)(hs:Small s.2.2){id:Int}(hid:Is s.2.2 id):id∈oC s.2.2 id:=(mT h hs hid).2 ⟨hid,0,rfl⟩
theorem p9 (h:Rt s)(hs:Small s.2.2){t:Thing}(ht:t∈s.2.2):RtP t:=(yR (hs.2 t ht)).1 (h.low t ht).2.2
theorem aGG (h:Rt s)(hs:Small s.2.2){id:Int}(hid:Is s.2.2 id){t:Thing}(ht:t∈s.2.2)(hn:aT t∈oC s.2.2 id){m:Int}(hm:m∈ins t):m∈oC s.2.2 id:=by
 obtain⟨_,e,he⟩:=(mT h hs hid).1 hn;refine(mT h hs hid).2 ⟨h.fS hs ht hm,e+1,?_⟩;show kG s.2.2 e (jS s.2.2 m)=id;rw [fC h.apart ht hm,he]
theorem a6k (h:Rt s)(hs:Small s.2.2){id:Int}(hid:Is s.2.2 id){n:Int}(hn:n∈oC s.2.2 id)(hne:n≠id):∃ t∈s.2.2,n∈ins t∧aT t=jS s.2.2 n∧jS s.2.2 n∈oC s.2.2 id:=by
 obtain⟨hx,e,he⟩:=(mT h hs hid).1 hn;cases e with
 | zero=>exact absurd he hne
 | succ e=>
  have he:kG s.2.2 e (jS s.2.2 n)=id:=he;have h0:jS s.2.2 n≠0:=fun h0=>by
   rw [h0,h.aY4 hs] at he;exact h.pos hid he.symm
  obtain⟨t,ht,h1,h2⟩:=pT h0;exact⟨t,ht,h1,h2,(mT h hs hid).2 ⟨⟨t,ht,h2⟩,e,he⟩⟩
theorem a6l (h:Rt s)(hs:Small s.2.2){id:Int}(hid:Is s.2.2 id):jS s.2.2 id∉oC s.2.2 id:=fun hg=>by
 obtain⟨_,e,he⟩:=(mT h hs hid).1 hg;exact h.n5 hs hid (e+1) (by omega) he
theorem aPY:∀ {l:List Thing},EN l→(l.map aT).Nodup:=by
 intro l h;rw [List.nodup_iff_pairwise_ne,List.pairwise_map,List.pairwise_iff_getElem];intro i j hi hj hij e;have:=h i j _ _ hij (aJS hi) (aJS hj);omega
theorem aCT {l:List Thing}{a:List Int}{n:Int}:n∈jts l a↔∃ t∈l,aT t=n∧t.2.1=2∧n∉a∧t.2.2.2.1.1∈a∧t.2.2.2.1.2.1∈a:=by
 unfold jts;rw [aQ5];constructor
 ·rintro ⟨t,ht,rfl⟩;rw [aXV] at ht;obtain⟨h1,h2⟩:=ht;unfold jtB at h2;simp only [aKS,beq_iff_eq,a1K,a1g] at h2;obtain⟨a1,a2,a3,a4⟩:=h2;refine⟨t,h1,rfl,a1,fun hm=>?_,a3,a4⟩;have:(a.contains t.1)=true:=a1g.2 hm;rw [this] at a2;cases a2
 ·rintro ⟨t,h1,rfl,a1,a2,a3,a4⟩;refine⟨t,aXV.2 ⟨h1,?_⟩,rfl⟩;unfold jtB;simp only [aKS,beq_iff_eq,a1K,a1g];refine⟨a1,?_,a3,a4⟩;cases hc:a.contains t.1 with
  | false=>rfl
  | true=>exact absurd (a1g.1 hc) a2
theorem AY (h:Rt s)(hs:Small s.2.2){id:Int}(hid:Is s.2.2 id):(jT s.2.2 id).Nodup:=by
 unfold jT;rw [List.nodup_append];refine⟨aPX h hs hid,?_,fun x hx y hy e=>?_⟩
 ·unfold jts;exact List.Nodup.sublist (List.Sublist.map aT List.filter_sublist) (aPY h.mS)
 ·subst e;obtain⟨_,_,_,_,h1,_⟩:=aCT.1 hy;exact h1 hx
theorem aCU (h:Rt s)(hs:Small s.2.2){id:Int}(hid:Is s.2.2 id){n:Int}(hn:n∈jT s.2.2 id):Is s.2.2 n:=by
 unfold jT at hn;rcases aLA.1 hn with hn | hn
 ·exact((mT h hs hid).1 hn).1
 ·obtain⟨t,ht,e,_⟩:=aCT.1 hn;exact⟨t,ht,e⟩
theorem aM2 (h:Rt s)(hs:Small s.2.2){id:Int}{t:Thing}(ht:t∈s.2.2)(hn:aT t∈jT s.2.2 id){m:Int}(hm:m∈ins t):aT t∈oC s.2.2 id:=by
 unfold jT at hn;rcases aLA.1 hn with hn | hn
 ·exact hn
 ·obtain⟨u,hu,e,k,_⟩:=aCT.1 hn;have:=h.one hu ht e;subst this;obtain⟨_,⟨k1,_⟩ | ⟨_,_,k2,_⟩ | ⟨k1,_⟩⟩:=p9 h hs hu
  ·rw [k] at k1;cases k1
  ·rw [k2] at hm;cases hm
  ·rw [k] at k1;cases k1
theorem aM3 (next:Int){ids:List Int}(hd:ids.Nodup):∀ (i:Nat),i≤ids.length→(∀ j n,j<i→ids[j]?=some n→fV (.int .i64) (.int .i64) n (cmK next ids i)=some (next+j))∧(∀ n,n∉ids.take i→fV (.int .i64) (.int .i64) n (cmK next ids i)=none)
 | 0,_=>⟨fun j n h=>by omega,fun n _=>rfl⟩
 | i+1,hi=>by
  obtain⟨h1,h2⟩:=aM3 next hd i (by omega)
  have hg:ids.getD i 0=ids[i]:=by rw [aQj,aJS (by omega)];rfl
  refine⟨fun j n hj hn=>?_,fun n hn=>?_⟩
  ·simp only [cmK,hg];rw [sR];by_cases hji:j=i
   ·subst hji;rw [aJS (by omega)] at hn;injection hn with hn
    rw [aJb hn.symm]
   ·have:n≠ids[i]:=fun e=>by
     have:=(List.getElem?_inj (by omega:j<ids.length) hd).1 (hn.trans ((aKR some e).trans (aJS (by omega)).symm));exact hji this
    rw [aJn this];exact h1 j n (by omega) hn
  ·simp only [cmK,hg];rw [sR];rw [aZ7 (by omega),aLA,aXF] at hn;rw [aJn (fun e=>hn (.inr e))];exact h2 n (fun e=>hn (.inl e))
end
structure Cp (s:aZ)(id:Int)(us:List Thing):Prop where
 rt:Rt s
 sm:Small s.2.2
 is:Is s.2.2 id
 few:s.2.2.length+(jT s.2.2 id).length≤40
 next:w9 s+(jT s.2.2 id).length≤1000001
 len:us.length=(jT s.2.2 id).length
 copy:∃ q,∀ (i:Nat) (n:Int),(jT s.2.2 id)[i]?=some n→∃ u,us[i]?=some u∧cpT (HY s id) q (bW s.2.2 n).1=.inl u
theorem aGH {c:MI}{q:fW}{l:List Thing}:∀ {ns:List Int} {acc out:List Thing},cpL c q l ns acc=.inl out→∃ us,out=acc++us∧us.length=ns.length∧∀ (i:Nat) (n:Int),ns[i]?=some n→∃ u,us[i]?=some u∧cpT c q (bW l n).1=.inl u
 | [],acc,out,h=>by
  injection h with h
  exact⟨[],by simp [h],rfl,fun i n hi=>by simp at hi⟩
 | n :: ns,acc,out,h=>by
  unfold cpL at h;cases hc:cpT c q (bW l n).1 with
  | inr e=>rw [hc] at h;cases h
  | inl u=>
   rw [hc] at h;obtain⟨us,h1,h2,h3⟩:=aGH h;refine⟨u :: us,by rw [h1];simp,by simp [h2],fun i m hi=>?_⟩;cases i with
   | zero=>
    simp only [List.getElem?_cons_zero,aJp] at hi;exact⟨u,rfl,by rw [← hi];exact hc⟩
   | succ i=>exact h3 i m (by simpa using hi)
structure Of (c:MI)(t u:Thing):Prop where
 id:aT u=TW c (aT t)
 kind:u.2.1=t.2.1
 ins:ins u=(S.ins t).map (TW c)
 body:t.2.1=1→u.2.2.2.1=t.2.2.2.1∧rb u.2.2.1=true
 a29:t.2.1=2→u.2.2.1=t.2.2.1∧u.2.2.2.1=(TW c t.2.2.2.1.1,TW c t.2.2.2.1.2.1,t.2.2.2.1.2.2)
 group:t.2.1≠1→t.2.1≠2→u.2.2.1=t.2.2.1∧u.2.2.2.1=t.2.2.2.1
theorem aU6 {c:MI}{q:fW}{t u:Thing}(h:cpT c q t=.inl u):Of c t u:=by
 unfold cpT at h;by_cases h1:t.2.1=1
 ·rw [beq_iff_eq.2 h1,cond_true] at h;cases hm:XQ t.2.2.1.2.2.2.1 q with
  | inr e=>rw [hm] at h;cases h
  | inl p=>
   rw [hm] at h;cases hr:rb (KA t.2.2.1 p) with
   | false=>simp only [hr,cond_false] at h;cases h
   | true=>
    simp only [hr,cond_true] at h;injection h with h
    subst h;exact⟨rfl,rfl,rfl,fun _=>⟨rfl,hr⟩,fun k=>(by rw [h1] at k;cases k),fun k=>absurd h1 k⟩
 ·have b1:(t.2.1==(1:Int))=false:=by simpa using h1
  rw [b1,cond_false] at h;by_cases h2:t.2.1=2
  ·rw [beq_iff_eq.2 h2,cond_true] at h;injection h with h
   subst h;exact⟨rfl,rfl,rfl,fun k=>absurd k h1,fun _=>⟨rfl,rfl⟩,fun _ k=>absurd h2 k⟩
  ·have b2:(t.2.1==(2:Int))=false:=by simpa using h2
   rw [b2,cond_false] at h;injection h with h
   subst h;exact⟨rfl,rfl,rfl,fun k=>absurd k h1,fun k=>absurd k h2,fun _ _=>⟨rfl,rfl⟩⟩
namespace Cp
variable {s:aZ}{id:Int}{us:List Thing}
abbrev fi (s:aZ)(id n:Int):Int:=TW (HY s id) n
theorem aM4 (h:Cp s id us){j:Nat}{n:Int}(hj:(jT s.2.2 id)[j]?=some n):fi s id n=w9 s+j:=by
 have hl:j<(jT s.2.2 id).length:=(aK2.1 hj).1;have:=(aM3 (w9 s) (AY h.rt h.sm h.is) _ (aKQ _)).1 j n hl hj;show(fV (.int .i64) (.int .i64) n (HY s id)).getD n=_;unfold HY;rw [this];rfl
theorem T0 (h:Cp s id us){n:Int}(hn:n∉jT s.2.2 id):fi s id n=n:=by
 have:=(aM3 (w9 s) (AY h.rt h.sm h.is) _ (aKQ _)).2 n (by rw [aYZ];exact hn);show(fV (.int .i64) (.int .i64) n (HY s id)).getD n=_;unfold HY;rw [this];rfl
theorem MH (h:Cp s id us){n:Int}(hn:n∈jT s.2.2 id):∃ j,j<(jT s.2.2 id).length∧(jT s.2.2 id)[j]?=some n∧fi s id n=w9 s+j:=by
 obtain⟨j,hj,e⟩:=List.getElem_of_mem hn;have:(jT s.2.2 id)[j]?=some n:=by rw [aJS hj,e]
 exact⟨j,hj,this,h.aM4 this⟩
theorem low (h:Cp s id us){n:Int}(hn:Is s.2.2 n):0<n∧n<w9 s:=by
 obtain⟨t,ht,e⟩:=hn;obtain⟨h1,h2,_⟩:=h.rt.low t ht;exact⟨by omega,by show n<s.2.1;omega⟩
theorem KC (h:Cp s id us){a b:Int}(ha:Is s.2.2 a)(hb:Is s.2.2 b)(e:fi s id a=fi s id b):a=b:=by
 have la:=h.low ha;have lb:=h.low hb;by_cases h1:a∈jT s.2.2 id <;> by_cases h2:b∈jT s.2.2 id
 ·obtain⟨i,hi,e1,e2⟩:=h.MH h1;obtain⟨j,hj,e3,e4⟩:=h.MH h2;have:i=j:=by omega
  subst this;rw [e1] at e3;injection e3
 ·obtain⟨i,hi,e1,e2⟩:=h.MH h1;have:=h.T0 h2;omega
 ·obtain⟨i,hi,e1,e2⟩:=h.MH h2;have:=h.T0 h1;omega
 ·have e1:=h.T0 h1;have e2:=h.T0 h2;omega
theorem OA {n:Int}(hn:n∈oC s.2.2 id):n∈jT s.2.2 id:=by
 unfold jT;exact a1h _ hn
theorem aZ9 (h:Cp s id us){a b:Int}(ha:a∈oC s.2.2 id)(hb:b∈oC s.2.2 id)(hab:a<b):fi s id a<fi s id b:=by
 obtain⟨i,hi,ei⟩:=List.getElem_of_mem ha;obtain⟨j,hj,ej⟩:=List.getElem_of_mem hb;have gi:(jT s.2.2 id)[i]?=some a:=by unfold jT;rw [aZ8 hi,aJS hi,ei]
 have gj:(jT s.2.2 id)[j]?=some b:=by unfold jT;rw [aZ8 hj,aJS hj,ej]
 rw [h.aM4 gi,h.aM4 gj];have hs:(oC s.2.2 id).Pairwise (fun x y=>x≤y):=by unfold oC;exact kZ _
 rw [List.pairwise_iff_getElem] at hs;rcases a9y i j with h1 | h1 | h1
 ·omega
 ·subst h1;omega
 ·have:=hs j i hj hi h1;omega
theorem copied (h:Cp s id us){t:Thing}(ht:t∈s.2.2)(hn:aT t∈jT s.2.2 id):∃ (j:Nat) (u:Thing),(jT s.2.2 id)[j]?=some (aT t)∧us[j]?=some u∧Of (HY s id) t u:=by
 obtain⟨q,hq⟩:=h.copy;obtain⟨j,hj,e,_⟩:=h.MH hn;obtain⟨u,hu,hc⟩:=hq j _ e;rw [h.rt.mS.bW ht] at hc;exact⟨j,u,e,hu,aU6 hc⟩
theorem GM (h:Cp s id us){j:Nat}{u:Thing}(hu:us[j]?=some u):∃ t∈s.2.2,(jT s.2.2 id)[j]?=some (aT t)∧aT t∈jT s.2.2 id∧Of (HY s id) t u∧aT u=w9 s+j:=by
 have hj:j<us.length:=(aK2.1 hu).1;have hj2:j<(jT s.2.2 id).length:=by rw [← h.len];exact hj
 have e:=aJS hj2;obtain⟨t,ht,en⟩:=aCU h.rt h.sm h.is (aXB hj2);rw [← en] at e;obtain⟨q,hq⟩:=h.copy;obtain⟨u',rW,hc⟩:=hq j _ e;rw [hu] at rW;injection rW with rW
 subst rW;rw [h.rt.mS.bW ht] at hc;have hO:=aU6 hc;exact⟨t,ht,e,by rw [en];exact aXB hj2,hO,by rw [hO.id];exact h.aM4 e⟩
theorem T2 (h:Cp s id us){u:Thing}(hu:u∈us):∃ t∈s.2.2,aT t∈jT s.2.2 id∧Of (HY s id) t u∧w9 s≤aT u∧aT u<w9 s+(jT s.2.2 id).length:=by
 obtain⟨j,hj,e⟩:=List.getElem_of_mem hu;obtain⟨t,ht,h1,h2,h3,h4⟩:=h.GM (j:=j) (u:=u) (by rw [aJS hj,e]);rw [h.len] at hj;exact⟨t,ht,h2,h3,by omega,by omega⟩
theorem mS (h:Cp s id us):EN (s.2.2++us):=by
 intro i j a b hij hi hj;by_cases h1:i<s.2.2.length
 ·rw [aZ8 h1] at hi;by_cases h2:j<s.2.2.length
  ·rw [aZ8 h2] at hj;exact h.rt.mS i j a b hij hi hj
  ·rw [a1N (by omega)] at hj;obtain⟨_,_,_,_,_,e⟩:=h.GM hj;have:=h.low (n:=aT a) ⟨a,aPl hi,rfl⟩;omega
 ·rw [a1N (by omega)] at hi hj;obtain⟨_,_,_,_,_,e1⟩:=h.GM hi;obtain⟨_,_,_,_,_,e2⟩:=h.GM hj;omega
theorem mem_of (h:Cp s id us){t:Thing}(ht:t∈s.2.2)(hn:aT t∈jT s.2.2 id):∃ u∈us,Of (HY s id) t u:=by
 obtain⟨j,u,_,h2,h3⟩:=h.copied ht hn;exact⟨u,aPl h2,h3⟩
theorem aPZ (h:Cp s id us){n:Int}(hn:Is s.2.2 n):KB (fi s id n)∧0<fi s id n:=by
 have hl:=h.low hn;have hx:=h.next;by_cases h1:n∈jT s.2.2 id
 ·obtain⟨j,hj,_,e⟩:=h.MH h1;exact⟨⟨by omega,by omega⟩,by omega⟩
 ·rw [h.T0 h1];exact⟨⟨by omega,by omega⟩,hl.1⟩
theorem mem_map (h:Cp s id us)(g:Int):∀ (l:List Int) (a a':Int),Mem g a l→(∀ x∈l,x∈oC s.2.2 id)→(∀ x∈l,a<x→a'<fi s id x)→Is s.2.2 g→Mem (fi s id g) a' (l.map (TW (HY s id)))
 | [],a,a',_,_,_,_=>trivial
 | n :: l,a,a',hm,hi,hlt,hg=>by
  obtain⟨h1,h2,h3,h4⟩:=hm;have hn:=hi n (by simp);have hIs:=((mT h.rt h.sm h.is).1 hn).1;refine⟨hlt n (by simp) h1,(h.aPZ hIs).1,fun e=>h3 (h.KC hIs hg e),h.mem_map g l n (fi s id n) h4 (fun x hx=>hi x (by simp [hx])) (fun x hx hlx=>h.aZ9 hn (hi x (by simp [hx])) hlx) hg⟩
theorem rE {t:Thing}(h:nZ s t=true):(t.2.1=2→dM s.2.2 t.2.2.2.1.1=1∧dM s.2.2 t.2.2.2.1.2.1=1)∧∀ n∈ins t,hasB s n=true:=by
 unfold nZ at h;rw [aKS] at h;refine⟨fun h2=>?_,aQ6.1 h.2⟩;have h:=h.1;rw [beq_iff_eq.2 h2] at h;simpa using h
theorem KD {t:Thing}(h1:t.2.1=2→dM s.2.2 t.2.2.2.1.1=1∧dM s.2.2 t.2.2.2.1.2.1=1)(h2:∀ n∈ins t,hasB s n=true):nZ s t=true:=by
 unfold nZ;rw [aKS];refine⟨?_,aQ6.2 h2⟩;by_cases h:t.2.1=2
 ·obtain⟨a,b⟩:=h1 h;rw [a,b];simp
 ·have:(t.2.1==(2:Int))=false:=by simpa using h
  rw [this];rfl
theorem rtp (h:Cp s id us){t u:Thing}(ht:t∈s.2.2)(hn:aT t∈jT s.2.2 id)(hO:Of (HY s id) t u):RtP u:=by
 have hIs:Is s.2.2 (aT t):=⟨t,ht,rfl⟩;obtain⟨_,hk⟩:=p9 h.rt h.sm ht;obtain⟨he,_⟩:=rE (h.rt.ends t ht);refine⟨by rw [hO.id];exact(h.aPZ hIs).1,?_⟩;rcases hk with⟨k,a,b,c⟩ | ⟨k,a,b,c,d,e,f,g⟩ | ⟨k,a,b,c,d,e⟩
 ·obtain⟨o1,o2⟩:=hO.body k;exact .inl ⟨by rw [hO.kind];exact k,by rw [o1];exact a,by rw [hO.ins,b];rfl,o2⟩
 ·obtain⟨o1,o2⟩:=hO.a29 k;obtain⟨ka,kb⟩:=he k;obtain⟨x,hx,ex,_⟩:=vT ka;obtain⟨y,hy,ey,_⟩:=vT kb;have ia:Is s.2.2 t.2.2.2.1.1:=⟨x,hx,ex⟩;have ib:Is s.2.2 t.2.2.2.1.2.1:=⟨y,hy,ey⟩;refine .inr (.inl ⟨by rw [hO.kind];exact k,by rw [o1];exact a,by rw [hO.ins,b];rfl,?_⟩);rw [o2];exact⟨(h.aPZ ia).1,(h.aPZ ib).1,fun e'=>e (h.KC ia ib e'),f,g⟩
 ·have h1:t.2.1≠1:=by rw [k];decide
  have h2:t.2.1≠2:=by rw [k];decide
  obtain⟨o1,o2⟩:=hO.group h1 h2;refine .inr (.inr ⟨by rw [hO.kind];exact k,by rw [o1];exact a,by rw [o2];exact b,?_,by rw [hO.ins,aRD];exact d,by rw [hO.ins,aRD];exact e⟩);rw [hO.id,hO.ins];have hin:∀ x∈ins t,x∈oC s.2.2 id:=fun x hx=>aGG h.rt h.sm h.is ht (aM2 h.rt h.sm ht hn hx) hx;exact h.mem_map (aT t) (ins t) 0 0 c hin (fun x hx _=>(h.aPZ ((mT h.rt h.sm h.is).1 (hin x hx)).1).2) hIs
abbrev sc (s:aZ)(id:Int)(us:List Thing):aZ:=(s.1,w9 s+(jT s.2.2 id).length,s.2.2++us)
theorem small (h:Cp s id us):Small (sc s id us).2.2:=by
 have hf:=h.few;refine⟨by show(s.2.2++us).length≤_;rw [aPk,h.len];omega,fun t ht=>?_⟩;rcases aLA.1 ht with ht | ht
 ·exact h.sm.2 t ht
 ·obtain⟨t0,ht0,_,hO,_⟩:=h.T2 ht;have:=h.sm.2 t0 ht0;show(ins t).length≤_;rw [hO.ins,aRD];exact this
theorem aJY (h:Cp s id us){n:Int}(hn:Is s.2.2 n):Is (s.2.2++us) n:=by
 obtain⟨t,ht,e⟩:=hn;exact⟨t,a1h _ ht,e⟩
theorem a3a (h:Cp s id us){n:Int}(hn:Is s.2.2 n):Is (s.2.2++us) (fi s id n):=by
 by_cases h1:n∈jT s.2.2 id
 ·obtain⟨t,ht,e⟩:=hn;obtain⟨u,hu,hO⟩:=h.mem_of ht (by rw [e];exact h1);exact⟨u,a9o _ hu,by rw [hO.id,e]⟩
 ·rw [h.T0 h1];exact h.aJY hn
theorem T3 (h:Cp s id us){n:Int}(hk:dM s.2.2 n=1):dM (s.2.2++us) n=1:=by
 obtain⟨u,hu,e,k⟩:=vT hk;rw [← e,h.mS.kind (a1h _ hu),k]
theorem aM5 (h:Cp s id us){n:Int}(hk:dM s.2.2 n=1):dM (s.2.2++us) (fi s id n)=1:=by
 obtain⟨t,ht,e,k⟩:=vT hk;by_cases h1:n∈jT s.2.2 id
 ·obtain⟨u,hu,hO⟩:=h.mem_of ht (by rw [e];exact h1);rw [← e,show fi s id (aT t)=aT u from hO.id.symm,h.mS.kind (a9o _ hu),hO.kind,k]
 ·rw [h.T0 h1];exact h.T3 hk
end Cp
theorem MJ:∀ {l:List Thing},lM l→∀ {t:Thing},t∈l→(ins t).Nodup
 | [],_,t,ht=>by simp at ht
 | a :: l,h,t,ht=>by
  have h2:(ins a++l.flatMap ins).Nodup:=h;rw [List.nodup_append] at h2;rcases aQL.1 ht with rfl | ht
  ·exact h2.1
  ·exact MJ h2.2.1 ht
namespace Cp
variable {s:aZ}{id:Int}{us:List Thing}
theorem aJZ (h:Cp s id us){u:Thing}(hu:u∈us){x:Int}(hx:x∈ins u):∃ t∈s.2.2,aT t∈oC s.2.2 id∧aT u=fi s id (aT t)∧∃ m∈ins t,m∈oC s.2.2 id∧x=fi s id m:=by
 obtain⟨t,ht,hn,hO,_⟩:=h.T2 hu;rw [hO.ins,aQ5] at hx;obtain⟨m,hm,e⟩:=hx;have ha:=aM2 h.rt h.sm ht hn hm;exact⟨t,ht,ha,hO.id,m,hm,aGG h.rt h.sm h.is ht ha hm,e.symm⟩
theorem a3b (h:Cp s id us){m:Int}(hm:m∈oC s.2.2 id):w9 s≤fi s id m:=by
 obtain⟨j,_,_,e⟩:=h.MH (OA hm);omega
theorem a0a (h:Cp s id us):us.flatMap ins=(jT s.2.2 id).flatMap (fun n=>(ins (bW s.2.2 n).1).map (fi s id)):=by
 have:us.map ins=(jT s.2.2 id).map (fun n=>(ins (bW s.2.2 n).1).map (fi s id)):=by
  refine List.ext_getElem (by rw [aRD,aRD,h.len]) fun i h1 h2=>?_;rw [aRD] at h1 h2;obtain⟨t,ht,e,_,hO,_⟩:=h.GM (aJS h1);rw [List.getElem_map,List.getElem_map,hO.ins];rw [aJS h2] at e;injection e with e
  rw [e,h.rt.mS.bW ht]
 rw [List.flatMap_def,this,← List.flatMap_def]
theorem apart (h:Cp s id us):lM (s.2.2++us):=by
 unfold lM;rw [List.flatMap_append,List.nodup_append];refine⟨h.rt.apart,?_,fun x hx y hy e=>?_⟩
 ·rw [h.a0a];have get:∀ n∈jT s.2.2 id,∃ t∈s.2.2,aT t=n∧(bW s.2.2 n).1=t:=fun n hn=>by
   obtain⟨t,ht,e⟩:=aCU h.rt h.sm h.is hn;exact⟨t,ht,e,by rw [← e,h.rt.mS.bW ht]⟩
  refine DQ _ _ (AY h.rt h.sm h.is) (fun n hn=>?_) fun a ha b hb x hxa LU=>?_
  ·obtain⟨t,ht,e,e2⟩:=get n hn;rw [e2];have hnd:(ins t).Nodup:=MJ h.rt.apart ht;rw [List.nodup_iff_pairwise_ne] at hnd ⊢;rw [List.pairwise_map];refine List.Pairwise.imp_of_mem (fun ha hb hne e=>hne ?_) hnd;exact h.KC (h.rt.fS h.sm ht ha) (h.rt.fS h.sm ht hb) e
  ·obtain⟨t,ht,e,e2⟩:=get a ha;obtain⟨t',ht',e',e2'⟩:=get b hb;rw [e2,aQ5] at hxa;rw [e2',aQ5] at LU;obtain⟨m,hm,em⟩:=hxa;obtain⟨m',hm',em'⟩:=LU;have:m=m':=h.KC (h.rt.fS h.sm ht hm) (h.rt.fS h.sm ht' hm') (em.trans em'.symm);subst this;have g1:=fC h.rt.apart ht hm;have g2:=fC h.rt.apart ht' hm';rw [← e,← e',← g1,g2]
 ·subst e;obtain⟨t,ht,hn⟩:=List.mem_flatMap.1 hx;obtain⟨u,hu,hn'⟩:=List.mem_flatMap.1 hy;have l1:=h.low (h.rt.fS h.sm ht hn);obtain⟨_,_,_,_,m,_,hm,e⟩:=h.aJZ hu hn';have:=h.a3b hm;omega
theorem aM6 (h:Cp s id us){x:Int}(hx:x<w9 s):jS (s.2.2++us) x=jS s.2.2 x:=by
 by_cases h0:jS s.2.2 x=0
 ·rw [h0];by_cases h1:jS (s.2.2++us) x=0
  ·exact h1
  ·exfalso;obtain⟨t,ht,hm,_⟩:=pT h1;rcases aLA.1 ht with ht | ht
   ·have:=fC h.rt.apart ht hm;rw [h0] at this;exact h.rt.pos ⟨t,ht,rfl⟩ this.symm
   ·obtain⟨_,_,_,_,m,_,hm',e⟩:=h.aJZ ht hm;have:=h.a3b hm';omega
 ·obtain⟨t,ht,hm,e⟩:=pT h0;rw [← e];exact fC h.apart (a1h _ ht) hm
theorem aU8 (h:Cp s id us):1≤w9 s:=h.rt.next.1
theorem aM7 (h:Cp s id us){x:Int}(hx:x<w9 s):∀ k,kG (s.2.2++us) k x=kG s.2.2 k x∧kG s.2.2 k x<w9 s
 | 0=>⟨rfl,hx⟩
 | k+1=>by
  obtain⟨h1,h2⟩:=h.aM7 hx k;rw [fA,fA,h1,h.aM6 h2];refine⟨rfl,?_⟩;by_cases h0:jS s.2.2 (kG s.2.2 k x)=0
  ·rw [h0];have:=h.aU8;omega
  ·obtain⟨t,ht,_,e⟩:=pT h0;rw [← e];exact(h.low ⟨t,ht,rfl⟩).2
theorem a0b (h:Cp s id us){n:Int}(hn:n∈jT s.2.2 id):(n∈oC s.2.2 id∧n≠id∧jS s.2.2 n∈oC s.2.2 id∧jS (s.2.2++us) (fi s id n)=fi s id (jS s.2.2 n))∨(¬(n∈oC s.2.2 id∧n≠id)∧jS (s.2.2++us) (fi s id n)=0):=by
 have hIs:=aCU h.rt h.sm h.is hn;by_cases hc:n∈oC s.2.2 id∧n≠id
 ·obtain⟨ha,hne⟩:=hc;obtain⟨t,ht,hm,e,hg⟩:=a6k h.rt h.sm h.is ha hne;refine .inl ⟨ha,hne,hg,?_⟩;obtain⟨u,hu,hO⟩:=h.mem_of ht (by rw [e];exact OA hg);have:fi s id n∈ins u:=by rw [hO.ins];exact List.mem_map_of_mem hm
  rw [fC h.apart (a9o _ hu) this,hO.id,e]
 ·refine .inr ⟨hc,?_⟩;by_cases h1:jS (s.2.2++us) (fi s id n)=0
  ·exact h1
  ·exfalso;obtain⟨t,ht,hm,_⟩:=pT h1;rcases aLA.1 ht with ht | ht
   ·have l1:=h.low (h.rt.fS h.sm ht hm);obtain⟨j,_,_,e⟩:=h.MH hn;omega
   ·obtain⟨t0,ht0,ha,_,m,hm0,hma,e⟩:=h.aJZ ht hm;have:n=m:=h.KC hIs ((mT h.rt h.sm h.is).1 hma).1 e;subst this;refine hc ⟨hma,fun e=>?_⟩;have:=fC h.rt.apart ht0 hm0;rw [e] at this;exact a6l h.rt h.sm h.is (by rw [this];exact ha)
theorem aM8 (h:Cp s id us){n:Int}(hn:n∈jT s.2.2 id):∀ k,(kG s.2.2 k n∈jT s.2.2 id∧kG (s.2.2++us) k (fi s id n)=fi s id (kG s.2.2 k n))∨kG (s.2.2++us) k (fi s id n)=0
 | 0=>.inl ⟨hn,rfl⟩
 | k+1=>by
  rw [fA,fA];rcases h.aM8 hn k with⟨h1,h2⟩ | h2
  ·rw [h2];rcases h.a0b h1 with⟨_,_,h3,h4⟩ | ⟨_,h4⟩
   ·exact .inl ⟨OA h3,h4⟩
   ·exact .inr h4
  ·rw [h2];have:jS (s.2.2++us) 0=jS s.2.2 0:=h.aM6 (by have:=h.aU8;omega);rw [this,h.rt.aJg h.sm];exact .inr rfl
theorem right (h:Cp s id us)(hr:bK s=true):bK (sc s id us)=true:=by
 have hx:=h.next;have hn1:=h.aU8;refine yS (s:=sc s id us) h.mS (fun t ht=>?_) (by show(s.2.2++us).length≤40;rw [aPk,h.len];exact h.few) ⟨by show 1≤w9 s+_;omega,hx⟩ (show m0 s.1=true from wL hr) (fun t ht=>?_) h.apart fun t ht j hj=>?_
 ·rcases aLA.1 ht with ht' | ht'
  ·obtain⟨h1,h2,h3⟩:=h.rt.low t ht';exact⟨h1,by show aT t<w9 s+_;have:aT t<w9 s:=h2;omega,h3⟩
  ·obtain⟨t0,ht0,hn,hO,h1,h2⟩:=h.T2 ht';exact⟨by omega,h2,(yR (h.small.2 t ht)).2 (h.rtp ht0 hn hO)⟩
 ·have hsm:Small (sc s id us).2.2:=h.small;rcases aLA.1 ht with ht' | ht'
  ·obtain⟨e1,e2⟩:=rE (h.rt.ends t ht');exact KD (s:=sc s id us) (fun k=>⟨h.T3 (e1 k).1,h.T3 (e1 k).2⟩) fun n hn=>DT hsm h.mS (h.aJY (h.rt.fS h.sm ht' hn))
  ·obtain⟨t0,ht0,hn,hO,_⟩:=h.T2 ht';obtain⟨e1,e2⟩:=rE (h.rt.ends t0 ht0);refine KD (s:=sc s id us) (fun k=>?_) fun n hn'=>?_
   ·rw [hO.kind] at k;rw [(hO.a29 k).2];exact⟨h.aM5 (e1 k).1,h.aM5 (e1 k).2⟩
   ·rw [hO.ins,aQ5] at hn';obtain⟨m,hm,rfl⟩:=hn';exact DT hsm h.mS (h.a3a (h.rt.fS h.sm ht0 hm))
 ·show kG (s.2.2++us) (j+1) (aT t)≠aT t;rcases aLA.1 ht with ht' | ht'
  ·have hl:=(h.low (n:=aT t) ⟨t,ht',rfl⟩).2;rw [(h.aM7 hl (j+1)).1];exact h.rt.n5 h.sm ⟨t,ht',rfl⟩ (j+1) (by omega)
  ·obtain⟨t0,ht0,hn,hO,h1,_⟩:=h.T2 ht';have e:aT t=fi s id (aT t0):=hO.id;rw [e];intro hc;rcases h.aM8 hn (j+1) with⟨h2,h3⟩ | h3
   ·rw [h3] at hc;exact h.rt.n5 h.sm ⟨t0,ht0,rfl⟩ (j+1) (by omega) (h.KC (aCU h.rt h.sm h.is h2) ⟨t0,ht0,rfl⟩ hc)
   ·rw [h3] at hc;omega
theorem bCF (h:Cp s id us):Is (s.2.2++us) (fi s id id):=h.a3a h.is
end Cp
end Go.DI.S
end
