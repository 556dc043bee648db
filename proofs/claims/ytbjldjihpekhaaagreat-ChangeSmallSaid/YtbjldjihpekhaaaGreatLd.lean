import Derived.Test.YtbjldjihpekhaaaGreatLc
import Derived.Test.YtbjldjihpekhaaaGreatXa
/- Changes, plain. No conditions. -/
set_option linter.unusedSimpArgs false
set_option linter.unusedVariables false
set_option maxRecDepth 100000
set_option maxHeartbeats 0
noncomputable section
namespace Go.DI.S
open Go.Proofs
abbrev MS:=List (Int×Str)
def jI (m:MS)(d:kM):MS:=lG (.int .i64) .str d.1 d.2.2 m
def inD (L:List kM)(n:Int):Bool:=L.any (fun d=>d.1==n)
def MW (l:List Thing)(L:List kM):List Thing:=l.filter fun t=>!inD L (aT t)
def newL (L:List kM):List Thing:=L.filterMap fun d=>rU d.2.2
def a1C (l:List Thing)(L:List kM):List Thing:=lE (MW l L++newL L)
section
variable {s:aZ}{e:Entry}
theorem aXz:∀ {L:List kM} {a:Int},DL a L→∀ d∈L,a<d.1∧1≤d.1∧d.1≤1000000∧d.2.1≠d.2.2∧gF d.1 d.2.1=true∧gF d.1 d.2.2=true
 | [],a,_,d,hd=>by simp at hd
 | x :: L,a,h,d,hd=>by
  rcases List.mem_cons.1 hd with rfl | hd
  ·exact⟨h.1,h.2.1,h.2.2.1,h.2.2.2.1,h.2.2.2.2.1,h.2.2.2.2.2.1⟩
  ·have:=aXz h.2.2.2.2.2.2 d hd;have h1:=h.1;exact⟨Int.lt_trans h1 this.1,this.2⟩
theorem aOg:∀ {L:List kM} {a:Int},DL a L→(L.map (fun d=>d.1)).Pairwise (· < ·)
 | [],a,_=>.nil
 | x :: L,a,h=>by
  rw [List.map_cons,List.pairwise_cons];refine⟨fun n hn=>?_,aOg h.2.2.2.2.2.2⟩;obtain⟨d,hd,rfl⟩:=List.mem_map.1 hn;exact(aXz h.2.2.2.2.2.2 d hd).1
theorem aXA {id:Int}{b:Str}{t:Thing}(h:gF id b=true)(hg:rU b=some t):aT t=id:=by
 unfold gF at h;rw [Bool.or_eq_true] at h;rcases h with h | h
 ·have:b=[]:=by simpa using h
  subst this;rw [aH6] at hg;cases hg
 ·rw [hg] at h;exact beq_iff_eq.1 h
theorem OU:∀ {L:List kM} {a:Int},DL a L→((newL L).map aT).Sublist (L.map (fun d=>d.1))
 | [],a,_=>List.Sublist.refl _
 | d :: L,a,h=>by
  have ih:=OU h.2.2.2.2.2.2;unfold newL at ih ⊢;rw [List.filterMap_cons];cases hg:rU d.2.2 with
  | none=>
   rw [List.map_cons];exact ih.trans (List.sublist_cons_self _ _)
  | some t=>
   rw [List.map_cons,List.map_cons,aXA h.2.2.2.2.2.1 hg];exact ih.cons_cons _
theorem a1D {L:List kM}{t:Thing}:t∈newL L↔∃ d∈L,rU d.2.2=some t:=by
 unfold newL;rw [List.mem_filterMap]
theorem WZ {l:List Thing}{L:List kM}{t:Thing}:t∈MW l L↔t∈l∧inD L (aT t)=false:=by
 unfold MW;rw [List.mem_filter,Bool.not_eq_true']
theorem aOh {L:List kM}{n:Int}:inD L n=true↔∃ d∈L,d.1=n:=by
 unfold inD;rw [List.any_eq_true];exact⟨fun⟨d,h,k⟩=>⟨d,h,beq_iff_eq.1 k⟩,fun⟨d,h,k⟩=>⟨d,h,beq_iff_eq.2 k⟩⟩
theorem aH8 {l:List Int}(h:l.Pairwise (· < ·)):l.Nodup:=by
 rw [List.nodup_iff_pairwise_ne];exact h.imp fun h=>by omega
theorem aD6 {l:List Thing}(h:EN l):(l.map aT).Nodup:=by
 rw [List.nodup_iff_pairwise_ne,List.pairwise_map,List.pairwise_iff_getElem];intro i j hi hj hij e;have:=h i j _ _ hij (List.getElem?_eq_getElem hi) (List.getElem?_eq_getElem hj);omega
theorem aOi {l:List Thing}{L:List kM}(ha:EN l)(hl:∀ t∈l,0<aT t∧aT t≤1000000)(hL:DL 0 L):(∀ n∈(MW l L++newL L).map aT,1≤n∧n≤1000000)∧((MW l L++newL L).map aT).Nodup:=by
 refine⟨fun n hn=>?_,?_⟩
 ·obtain⟨t,ht,rfl⟩:=List.mem_map.1 hn;rcases List.mem_append.1 ht with ht | ht
  ·have:=hl t (WZ.1 ht).1;omega
  ·have:aT t∈L.map (fun d=>d.1):=(OU hL).subset (List.mem_map.2 ⟨t,ht,rfl⟩);obtain⟨d,hd,e⟩:=List.mem_map.1 this;have:=aXz hL d hd;rw [← e];exact⟨this.2.1,this.2.2.1⟩
 ·rw [List.map_append,List.nodup_append];refine⟨(aD6 ha).sublist (List.Sublist.map aT List.filter_sublist),(aH8 (aOg hL)).sublist (OU hL),fun a ha' b hb e=>?_⟩;subst e;obtain⟨t,ht,e⟩:=List.mem_map.1 ha';have h1:=(WZ.1 ht).2;have h2:=(OU hL).subset hb;obtain⟨d,hd,e2⟩:=List.mem_map.1 h2;rw [aOh.2 ⟨d,hd,by rw [e2,e]⟩] at h1;cases h1
structure bH6 (s:aZ)(e:Entry):Prop where
 next:s.2.1=e.2.2.2.2.1
 bKc:e.2.1=true→s.1=e.2.2.1
 all:∀ d∈e.1,cK s.2.2 d.1=d.2.1
def bH7 (s:aZ)(e:Entry):aZ:=(bif e.2.1 then e.2.2.2.1 else s.1,e.2.2.2.2.2,a1C s.2.2 e.1)
structure Lil (l:List Thing):Prop where
 sm:Small l
 ins:∀ t∈l,t.2.2.2.2.length≤1000000
theorem aD7 {s:aZ}(h:Rt s):∀ t∈s.2.2,0<aT t∧aT t≤1000000:=by
 intro t ht;obtain⟨h1,h2,_⟩:=h.low t ht;have h3:=h.next.2;have key:∀ a b:Int,a<b→b≤1000001→a≤1000000:=fun a b h k=>by omega
 exact⟨h1,key _ _ h2 h3⟩
end
def Rdb (l:List Thing):Prop:=∀ t∈l,rU (j4 (qS t))=some t
structure Ln (a b:aZ)(e:Entry):Prop where
 nb:e.2.2.2.2.1=a.2.1
 na:e.2.2.2.2.2=b.2.1
 turned:e.2.1=true→e.2.2.1=a.1∧e.2.2.2.1=b.1
 not:e.2.1=false→a.1=b.1
 before:∀ d∈e.1,d.2.1=cK a.2.2 d.1
 after:∀ d∈e.1,d.2.2=cK b.2.2 d.1
 a3I:∀ n,inD e.1 n=false→cK a.2.2 n=cK b.2.2 n
theorem Ln.fits {a b:aZ}{e:Entry}(h:Ln a b e):bH6 a e:=⟨h.nb.symm,fun k=>(h.turned k).1.symm,fun d hd=>(h.before d hd).symm⟩
section
variable {s:aZ}
theorem HV (h:Rt s){t:Thing}(ht:t∈s.2.2):cK s.2.2 (aT t)=j4 (qS t):=by
 unfold cK;rw [h.mS.bW ht];show(bif rt t then j4 (qS t) else [])=_;rw [(h.low t ht).2.2];rfl
theorem W0 {n:Int}(h:¬Is s.2.2 n):cK s.2.2 n=[]:=by
 unfold cK;rw [Y7 h];rfl
theorem y6 (h:Rt s){n:Int}(hn:cK s.2.2 n≠[]):∃ t∈s.2.2,aT t=n∧cK s.2.2 n=j4 (qS t):=by
 by_cases hi:Is s.2.2 n
 ·obtain⟨t,ht,rfl⟩:=hi;exact⟨t,ht,rfl,HV h ht⟩
 ·exact absurd (W0 hi) hn
end
theorem aK3 {l:List Thing}(h:EN l):l.Pairwise (fun x y=>aT x≤aT y):=by
 rw [List.pairwise_iff_getElem];intro i j hi hj hij;have:=h i j _ _ hij (List.getElem?_eq_getElem hi) (List.getElem?_eq_getElem hj);omega
theorem BQ {l:List Thing}(h:(l.map aT).Nodup):l.Nodup:=by
 rw [List.nodup_iff_pairwise_ne] at h ⊢;rw [List.pairwise_map] at h;exact h.imp fun h k=>h (by rw [k])
theorem Ln.out {a b:aZ}{e:Entry}(h:Ln a b e)(ha:Rt a)(hb:Rt b)(ra:Rdb a.2.2)(rb:Rdb b.2.2)(hL:DL 0 e.1):bH7 a e=b:=by
 have hm:∀ t,t∈MW a.2.2 e.1++newL e.1↔t∈b.2.2:=by
  intro t;rw [List.mem_append,WZ,a1D];constructor
  ·rintro (⟨h1,h2⟩ | ⟨d,hd,hg⟩)
   ·have e1:=h.a3I _ h2;rw [HV ha h1] at e1;obtain⟨u,hu,hn,e2⟩:=y6 hb (n:=aT t) (by rw [← e1];exact HT t);rw [e2] at e1;have g1:=ra t h1;rw [e1,rb u hu] at g1;injection g1 with g1
    rw [← g1];exact hu
   ·have e1:=h.after d hd;obtain⟨u,hu,hn,e2⟩:=y6 hb (n:=d.1) (by
     rw [← e1];intro k;rw [k,aH6] at hg;cases hg)
    rw [e1,e2,rb u hu] at hg;injection hg with hg
    rw [← hg];exact hu
  ·intro ht;have e1:=HV hb ht;cases hi:inD e.1 (aT t) with
   | true=>
    right;obtain⟨d,hd,hn⟩:=aOh.1 hi;refine⟨d,hd,?_⟩;rw [h.after d hd,hn,e1,rb t ht]
   | false=>
    left;have e2:=h.a3I _ hi;rw [e1] at e2;obtain⟨u,hu,hn,e3⟩:=y6 ha (n:=aT t) (by rw [e2];exact HT t);rw [e3] at e2;have g1:=ra u hu;rw [e2,rb t ht] at g1;injection g1 with g1
    subst g1;exact⟨hu,rfl⟩
 have hnd:(MW a.2.2 e.1++newL e.1).Nodup:=BQ (aOi ha.mS (aD7 ha) hL).2;have hp:b.2.2.Perm (MW a.2.2 e.1++newL e.1):=(List.perm_ext_iff_of_nodup (BQ (aD6 hb.mS)) hnd).2 fun t=>(hm t).symm;have ho:a1C a.2.2 e.1=b.2.2:=(aHC (aOi ha.mS (aD7 ha) hL).2 hp (aK3 hb.mS)).symm;obtain⟨bg,bn,bl⟩:=b;show((bif e.2.1 then e.2.2.2.1 else a.1,e.2.2.2.2.2,a1C a.2.2 e.1):aZ)=(bg,bn,bl);have ho:a1C a.2.2 e.1=bl:=ho;have hn:e.2.2.2.2.2=bn:=h.na;have hg:(bif e.2.1 then e.2.2.2.1 else a.1)=bg:=by
  cases ht:e.2.1 with
  | true=>exact(h.turned ht).2
  | false=>exact h.not ht
 rw [ho,hn,hg]
theorem a9b {s:aZ}(h:Rt s)(hw:∀ t∈s.2.2,aA.wf t)(hl:∀ t∈s.2.2,t.2.2.2.2.length≤1000000):Rdb s.2.2:=fun t ht=>aXw t (hw t ht) (hl t ht) (h.low t ht).2.2
theorem aXB {l:List Int}(h:l.Pairwise (fun x y=>x≤y)):(iP l).Pairwise (· < ·):=by
 unfold iP Go.Lib.compact Go.Lib.compactUpTo;rw [List.pairwise_map];have hr:(List.range l.length).Pairwise (· < ·):=List.pairwise_lt_range;rw [List.pairwise_iff_getElem] at h;have hg:∀ j (hj:j<l.length),l.toArray[j]! = l[j]:=fun j hj=>by
  rw [getElem!_pos l.toArray j (by simpa using hj)];rfl
 refine List.Pairwise.imp_of_mem ?_ (hr.sublist List.filter_sublist);intro i j hi hj hij;obtain⟨hi1,_⟩:=List.mem_filter.1 hi;obtain⟨hj1,hj2⟩:=List.mem_filter.1 hj;rw [List.mem_range] at hi1 hj1;unfold Go.Lib.keeps at hj2;have hj3:=of_decide_eq_true hj2;rcases hj3 with h0 | h0
 ·omega
 ·rw [hg j hj1,hg (j-1) (by omega)] at h0;rw [hg i hi1,hg j hj1];have h1:=h (j-1) j (by omega) hj1 (by omega);have h2:l[i]≤l[j-1]:=by
   by_cases e:i=j-1
   ·subst e;exact Int.le_refl _
   ·exact h i (j-1) hi1 (by omega) (by omega)
  have h3:l[j-1]≠l[j]:=fun e=>h0 e.symm;omega
theorem aQW {l:List Int}{n:Int}:n∈iP l↔n∈l:=by
 unfold iP Go.Lib.compact Go.Lib.compactUpTo;have hg:∀ j (hj:j<l.length),l.toArray[j]! = l[j]:=fun j hj=>by
  rw [getElem!_pos l.toArray j (by simpa using hj)];rfl
 rw [List.mem_map];constructor
 ·rintro ⟨j,hj,rfl⟩;have hj1:=List.mem_range.1 (List.mem_filter.1 hj).1;rw [hg j hj1];exact List.getElem_mem hj1
 ·intro hn;obtain⟨i0,hi0,e0⟩:=List.getElem_of_mem hn;obtain⟨k,hk,⟨hk1,hk2⟩,bH8⟩:=RG (fun k=>∃ h:k<l.length,l[k]=n) i0 ⟨hi0,e0⟩;refine⟨k,List.mem_filter.2 ⟨List.mem_range.2 hk1,?_⟩,by rw [hg k hk1,hk2]⟩;unfold Go.Lib.keeps;refine decide_eq_true ?_;by_cases h0:k=0
  ·exact .inl h0
  ·right;rw [hg k hk1,hg (k-1) (by omega),hk2];intro e;exact bH8 (k-1) (by omega) ⟨by omega,e.symm⟩
theorem bEb (n:Nat)(hn:n≤1000000):aAk () (n:Int)=some []:=by
 unfold aAk;by_cases h:0<n
 ·rw [decide_eq_true (by omega:(0:Int)<(n:Int)),decide_eq_true (by omega:(n:Int)≤1000000)];rfl
 ·have:n=0:=by omega
  subst this;unfold aDL;rfl
theorem bEc (l m:List Thing)(hl:l.length≤1000)(hm:m.length≤1000):aHL [l,m]=some ((l++m,()):aS [.list aA]):=by
 obtain⟨k,hk⟩:∃ k,fuel=k+3:=⟨18446744073709551613,rfl⟩;have w1:IntKind.i64.wrap ((0:Int)+(l.length:Int))=(l.length:Int):=by rw [wrap64 (by omega) (by omega)];omega
 have w2:IntKind.i64.wrap ((l.length:Int)+(m.length:Int))=((l.length+m.length:Nat):Int):=by rw [wrap64 (by omega) (by omega)];omega
 have d1:decide ((l.length:Int)<0)=false:=decide_eq_false (by omega);have d2:decide (((l.length+m.length:Nat):Int)<0)=false:=decide_eq_false (by omega);have h3:OK (([l,m],(0:Int),[l,m],(([l,m].length:Nat):Int),(0:Int),()),())=some (.inl (([l,m],((l.length+m.length:Nat):Int),()),())):=by
  unfold OK;rw [hk];rw [bT (x':=(([l,m],(l.length:Int),[l,m],(2:Int),(1:Int),()),())) ?_ (k+2)]
  ·rw [bT (x':=(([l,m],((l.length+m.length:Nat):Int),[l,m],(2:Int),(2:Int),()),())) ?_ (k+1)]
   ·exact bM rfl k
   ·show(bif decide (IntKind.i64.wrap ((l.length:Int)+(m.length:Int))<0) then none else some (Sum.inl (([l,m],IntKind.i64.wrap ((l.length:Int)+(m.length:Int)),[l,m],(2:Int),IntKind.i64.wrap ((1:Int)+1),()),())))=_;rw [w2,show IntKind.i64.wrap ((1:Int)+1)=2 by decide];exact cU d2 rfl
  ·show(bif decide (IntKind.i64.wrap ((0:Int)+(l.length:Int))<0) then none else some (Sum.inl (([l,m],IntKind.i64.wrap ((0:Int)+(l.length:Int)),[l,m],(2:Int),IntKind.i64.wrap ((0:Int)+1),()),())))=_;rw [w1,show IntKind.i64.wrap ((0:Int)+1)=1 by decide];exact cU d1 rfl
 have h11:G8 (((),[l,m],(([l,m].length:Nat):Int),(0:Int),()),[],())=some (.inl (((),()),l++m,())):=by
  unfold G8;rw [hk];rw [bT (x':=(((),[l,m],(2:Int),(1:Int),()),l,())) ?_ (k+2)]
  ·rw [bT (x':=(((),[l,m],(2:Int),(2:Int),()),l++m,())) ?_ (k+1)]
   ·exact bM rfl k
   ·show(bif Nat.ble ((l.length+m.length)*128) 70368744177664 then _ else none)=_;exact bZ (Nat.ble_eq_true_of_le (by omega)) rfl
  ·show(bif Nat.ble ((0+l.length)*128) 70368744177664 then _ else none)=_;exact bZ (Nat.ble_eq_true_of_le (by omega)) rfl
 unfold aHL;exact aB h3 (aB (bEb _ (by omega)) (aB h11 rfl))
theorem a1E (a b:aZ)(z:Entry)(l:List Thing)(hl:l.length≤1000000) :
  aDQ (((),(),(),(),l,((l.length:Nat):Int),(0:Int),()),(a,()),(b,()),(z,()),[],())=some (.inl (((),(),(),(),()),(a,()),(b,()),(z,()),l.map aT,())):=by
 have h:=gM (G:=fun x=>wR x.1.2.2.2.2.1 x.1.2.2.2.2.2.1 x.1.2.2.2.2.2.2.1 x.2.1 x.2.2.1 x.2.2.2.1 x.2.2.2.2.1) (n:=l.length)
  (inv:=fun k=>(((),(),(),(),l,(l.length:Int),(k:Int),()),(a,()),(b,()),(z,()),(l.take k).map aT,())) (y:=.inl (((),(),(),(),()),(a,()),(b,()),(z,()),(l.take l.length).map aT,())) (fun k hk=>?_) ?_ l.length 0 fuel (by omega) (fuel_lt (by omega))
 ·rw [List.take_length] at h;exact h
 ·have ha:=List.getElem?_eq_getElem hk;have hlen:((l.take k).map aT).length≤k:=by rw [List.length_map,List.length_take];omega
  show wR l (l.length:Int) (k:Int) (a,()) (b,()) (z,()) ((l.take k).map aT)=_;rw [List.take_succ_eq_append_getElem hk,List.map_append];simp only [wR,dec_lt hk,bI hk,cond_true,bB ha,aN hk (by omega)];exact bZ (Nat.ble_eq_true_of_le (by simp only [List.length_cons,List.length_nil];omega)) rfl
 ·show wR l (l.length:Int) (l.length:Int) (a,()) (b,()) (z,()) _=_;simp only [wR,bA,cond_false]
def mkD (a b:List Thing)(n:Int):kM:=(n,cK a n,cK b n)
def oF (a b:List Thing)(ids:List Int):List kM:=(ids.filter fun n=>!(cK a n==cK b n)).map (mkD a b)
theorem aXC (a b:List Thing)(ids:List Int)(n:Int):oF a b (ids++[n])=bif !(cK a n==cK b n) then oF a b ids++[mkD a b n] else oF a b ids:=by
 unfold oF;rw [List.filter_append,List.map_append];cases h:(cK a n==cK b n) with
 | true=>simp [h]
 | false=>simp [h]
theorem aD8 (a b:List Thing)(ids:List Int):(oF a b ids).length≤ids.length:=by
 unfold oF;rw [List.length_map];exact List.length_filter_le _ _
theorem aXD (a b:aZ)(z:Entry)(tu:Bool)(f t:fW)(nb na:Int)(l:List Int)(ha:Lil a.2.2)(hb:Lil b.2.2)(hl:l.length≤1000000) :
  WD (((),(),(),(),l,((l.length:Nat):Int),(0:Int),()),(a,()),(b,()),(z,()),((),tu,f,t,nb,na,()),[],())=some (.inl (((),(),(),(),()),(a,()),(b,()),(z,()),((),tu,f,t,nb,na,()),oF a.2.2 b.2.2 l,())):=by
 have h:=gM (G:=fun x=>qI x.1.2.2.2.2.1 x.1.2.2.2.2.2.1 x.1.2.2.2.2.2.2.1 x.2.1 x.2.2.1 x.2.2.2.1 x.2.2.2.2.1 x.2.2.2.2.2.1) (n:=l.length)
  (inv:=fun k=>(((),(),(),(),l,(l.length:Int),(k:Int),()),(a,()),(b,()),(z,()),((),tu,f,t,nb,na,()),oF a.2.2 b.2.2 (l.take k),())) (y:=.inl (((),(),(),(),()),(a,()),(b,()),(z,()),((),tu,f,t,nb,na,()),oF a.2.2 b.2.2 (l.take l.length),())) (fun k hk=>?_) ?_ l.length 0 fuel (by omega) (fuel_lt (by omega))
 ·rw [List.take_length] at h;exact h
 ·have hx:=List.getElem?_eq_getElem hk;have hlen:(oF a.2.2 b.2.2 (l.take k)).length≤k:=Nat.le_trans (aD8 _ _ _) (by rw [List.length_take];omega);show qI l (l.length:Int) (k:Int) (a,()) (b,()) (z,()) ((),tu,f,t,nb,na,()) (oF a.2.2 b.2.2 (l.take k))=_;rw [List.take_succ_eq_append_getElem hk,aXC];simp only [qI,dec_lt hk,bI hk,cond_true,bB hx,aN hk (by omega),a3H a _ ha.sm ha.ins,a3H b _ hb.sm hb.ins,Option.bind_some];cases (cK a.2.2 l[k]==cK b.2.2 l[k]) with
  | true=>rfl
  | false=>
   simp only [Bool.not_false,cond_true];exact bZ (Nat.ble_eq_true_of_le (by simp only [List.length_cons,List.length_nil];omega)) rfl
 ·show qI l (l.length:Int) (l.length:Int) (a,()) (b,()) (z,()) _ _=_;simp only [qI,bA,cond_false]
def kN (a b:List Thing):List Int:=iP (cI ((a++b).map aT))
def qN (a b:aZ):Entry:=(oF a.2.2 b.2.2 (kN a.2.2 b.2.2),!MV a.1 b.1,(bif !MV a.1 b.1 then a.1 else((0:Int),(0:Int))),(bif !MV a.1 b.1 then b.1 else((0:Int),(0:Int))),a.2.1,b.2.1)
def noE:Entry:=([],false,((0:Int),(0:Int)),((0:Int),(0:Int)),(0:Int),(0:Int))
theorem bEe (a b:aZ)(ha:Lil a.2.2)(hb:Lil b.2.2)(hra:bK a=true)(hrb:bK b=true) :
  G9 a b=some ((if y5 (qN a b) then(qN a b,true,()) else(noE,false,())):aS [cA,.bool]):=by
 have e1:=JI a ha.sm;have e2:=JI b hb.sm;rw [hra] at e1;rw [hrb] at e2;have la:=(bR hra).len;have lb:=(bR hrb).len;have e3:=bEc a.2.2 b.2.2 (by omega) (by omega);have hlen:(a.2.2++b.2.2).length≤80:=by rw [List.length_append];omega
 have e4:=a1E a b noE (a.2.2++b.2.2) (by omega);have hml:((a.2.2++b.2.2).map aT).length≤80:=by rw [List.length_map];exact hlen
 have e5:xD ((a.2.2++b.2.2).map aT)=some ((),cI ((a.2.2++b.2.2).map aT),()):=by
  unfold xD;rw [show Nat.ble ((a.2.2++b.2.2).map aT).length 1000000=true from Nat.ble_eq_true_of_le (by omega)];rfl
 have MZ:(cI ((a.2.2++b.2.2).map aT)).length≤80:=by rw [gN];exact hml
 have e6:aBW (cI ((a.2.2++b.2.2).map aT))=some (kN a.2.2 b.2.2):=by
  unfold aBW;rw [show Nat.ble (cI ((a.2.2++b.2.2).map aT)).length 1000000=true from Nat.ble_eq_true_of_le (by omega)];rfl
 have hil:(kN a.2.2 b.2.2).length≤80:=Nat.le_trans (JH _) MZ;have e7:=aXD a b noE false ((0:Int),(0:Int)) ((0:Int),(0:Int)) a.2.1 b.2.1 (kN a.2.2 b.2.2) ha hb (by omega);have hdl:(qN a b).1.length≤80:=Nat.le_trans (aD8 _ _ _) hil;have e8:=bH5 (qN a b) (by omega);unfold G9;refine aB e1 (cU rfl (aB e2 (cU rfl (aB e3 (aB e4 (aB e5 (aB e6 (aB e7 ?_))))))));show(bif !MV a.1 b.1 then(aDP (oF a.2.2 b.2.2 (kN a.2.2 b.2.2),true,a.1,b.1,a.2.1,b.2.1)).bind (fun v21=>bif !v21.1 then some ((noE,false,()):aS [cA,.bool]) else some ((oF a.2.2 b.2.2 (kN a.2.2 b.2.2),true,a.1,b.1,a.2.1,b.2.1),true,()))
  else(aDP (oF a.2.2 b.2.2 (kN a.2.2 b.2.2),false,((0:Int),(0:Int)),((0:Int),(0:Int)),a.2.1,b.2.1)).bind (fun v23=>bif !v23.1 then some (noE,false,()) else some ((oF a.2.2 b.2.2 (kN a.2.2 b.2.2),false,((0:Int),(0:Int)),((0:Int),(0:Int)),a.2.1,b.2.1),true,())))=_
 cases hv:!MV a.1 b.1 with
 | true=>
  have hE:(oF a.2.2 b.2.2 (kN a.2.2 b.2.2),true,a.1,b.1,a.2.1,b.2.1)=qN a b:=by unfold qN;rw [hv];rfl
  rw [hE];refine aB e8 ?_;cases y5 (qN a b) <;> rfl
 | false=>
  have hE:(oF a.2.2 b.2.2 (kN a.2.2 b.2.2),false,((0:Int),(0:Int)),((0:Int),(0:Int)),a.2.1,b.2.1)=qN a b:=by unfold qN;rw [hv];rfl
  rw [hE];refine aB e8 ?_;cases y5 (qN a b) <;> rfl
section
variable {a b:aZ}
theorem aXE (a b:List Thing):(kN a b).Pairwise (· < ·):=aXB (kZ _)
theorem OV {a b:List Thing}{n:Int}:n∈kN a b↔Is a n∨Is b n:=by
 unfold kN;rw [aQW,(gE _).mem_iff,List.mem_map];constructor
 ·rintro ⟨t,ht,e⟩;rcases List.mem_append.1 ht with h | h
  ·exact .inl ⟨t,h,e⟩
  ·exact .inr ⟨t,h,e⟩
 ·rintro (⟨t,h,e⟩ | ⟨t,h,e⟩)
  ·exact⟨t,List.mem_append_left _ h,e⟩
  ·exact⟨t,List.mem_append_right _ h,e⟩
theorem aOj {a b:List Thing}{ids:List Int}{d:kM}:d∈oF a b ids↔∃ n∈ids,cK a n≠cK b n∧d=mkD a b n:=by
 unfold oF;rw [List.mem_map];constructor
 ·rintro ⟨n,hn,rfl⟩;obtain⟨h1,h2⟩:=List.mem_filter.1 hn;refine⟨n,h1,fun e=>?_,rfl⟩;rw [e] at h2;simp at h2
 ·rintro ⟨n,h1,h2,rfl⟩;refine⟨n,List.mem_filter.2 ⟨h1,?_⟩,rfl⟩;rw [beq_false_of_ne h2];rfl
theorem aQX {n:Int}(h:cK a.2.2 n≠cK b.2.2 n):n∈kN a.2.2 b.2.2:=by
 rw [OV];by_cases h1:Is a.2.2 n
 ·exact .inl h1
 ·by_cases h2:Is b.2.2 n
  ·exact .inr h2
  ·exact absurd (by rw [W0 h1,W0 h2]) h
theorem W4 (h:Rt a)(hd:Rdb a.2.2)(n:Int):gF n (cK a.2.2 n)=true:=by
 unfold gF;rw [Bool.or_eq_true];by_cases hn:cK a.2.2 n=[]
 ·left;rw [hn];rfl
 ·right;obtain⟨t,ht,e,e2⟩:=y6 h hn;rw [e2,hd t ht];exact beq_iff_eq.2 e
theorem aXF (ha:Rt a)(hb:Rt b)(da:Rdb a.2.2)(db:Rdb b.2.2):∀ (ids:List Int) (k:Int),ids.Pairwise (· < ·)→(∀ n∈ids,k<n∧1≤n∧n≤1000000)→DL k (oF a.2.2 b.2.2 ids)
 | [],k,_,_=>trivial
 | n :: ids,k,hp,hr=>by
  obtain⟨p1,p2⟩:=List.pairwise_cons.1 hp;have hn:=hr n List.mem_cons_self;have ih:=fun k' (hk:∀ m∈ids,k'<m)=>aXF ha hb da db ids k' p2 (fun m hm=>⟨hk m hm,(hr m (List.mem_cons_of_mem _ hm)).2⟩);unfold oF at ih ⊢;rw [List.filter_cons]
  split
  ·rename_i h;rw [List.map_cons];refine⟨hn.1,hn.2.1,hn.2.2,fun e=>?_,W4 ha da n,W4 hb db n,ih n p1⟩;have e:cK a.2.2 n=cK b.2.2 n:=e;rw [e] at h;simp at h
  ·exact ih k fun m hm=>Int.lt_trans hn.1 (p1 m hm)
theorem a9c (ha:Rt a)(hb:Rt b)(da:Rdb a.2.2)(db:Rdb b.2.2):DL 0 (qN a b).1:=by
 refine aXF ha hb da db _ 0 (aXE _ _) fun n hn=>?_;rcases OV.1 hn with⟨t,ht,rfl⟩ | ⟨t,ht,rfl⟩
 ·have:=aD7 ha t ht;omega
 ·have:=aD7 hb t ht;omega
theorem a9d (hra:bK a=true)(hrb:bK b=true)(da:Rdb a.2.2)(db:Rdb b.2.2):RE (qN a b)∨40<(qN a b).1.length∨((qN a b).1=[]∧a.1=b.1∧a.2.1=b.2.1):=by
 have ha:=bR hra;have hb:=bR hrb;by_cases h1:40<(qN a b).1.length
 ·exact .inr (.inl h1)
 by_cases h2:(qN a b).1=[]∧a.1=b.1∧a.2.1=b.2.1
 ·exact .inr (.inr h2)
 left;have hv:∀ c:Bool,(!MV a.1 b.1)=c→(c=true↔a.1≠b.1):=by
  intro c hc;rw [← hc,Bool.not_eq_true'];constructor
  ·intro h k;rw [wW.2 k] at h;cases h
  ·intro h;cases hv:MV a.1 b.1 with
   | true=>exact absurd (wW.1 hv) h
   | false=>rfl
 refine⟨a9c ha hb da db,by omega,?_,fun k=>?_,ha.next,hb.next,?_,?_,?_⟩
 ·show(!MV a.1 b.1)=true↔(bif !MV a.1 b.1 then a.1 else((0:Int),(0:Int)))≠(bif !MV a.1 b.1 then b.1 else((0:Int),(0:Int)));cases hc:!MV a.1 b.1 with
  | true=>exact⟨fun _=>(hv _ hc).1 rfl,fun _=>rfl⟩
  | false=>exact⟨fun h=>(by cases h),fun h=>absurd rfl h⟩
 ·have k:(!MV a.1 b.1)=false:=k;show(bif !MV a.1 b.1 then a.1 else((0:Int),(0:Int)))=_;rw [k];rfl
 ·show m0 (bif !MV a.1 b.1 then a.1 else((0:Int),(0:Int)))=true;cases !MV a.1 b.1 with
  | true=>exact wL hra
  | false=>exact(by decide:m0 ((0:Int),(0:Int))=true)
 ·show m0 (bif !MV a.1 b.1 then b.1 else((0:Int),(0:Int)))=true;cases !MV a.1 b.1 with
  | true=>exact wL hrb
  | false=>exact(by decide:m0 ((0:Int),(0:Int))=true)
 ·by_cases c1:(qN a b).1=[]
  ·by_cases c2:a.1=b.1
   ·exact .inr (.inr fun k=>h2 ⟨c1,c2,k⟩)
   ·exact .inr (.inl ((hv _ rfl).2 c2))
  ·exact .inl c1
theorem aK4 (ha:Rt a)(hb:Rt b)(h:(qN a b).1=[])(n:Int):cK a.2.2 n=cK b.2.2 n:=by
 refine Classical.byContradiction fun hne=>?_;have hm:mkD a.2.2 b.2.2 n∈(qN a b).1:=aOj.2 ⟨n,aQX hne,hne,rfl⟩;rw [h] at hm;cases hm
theorem aH9 (ha:Rt a)(hb:Rt b)(da:Rdb a.2.2)(db:Rdb b.2.2)(h:∀ n,cK a.2.2 n=cK b.2.2 n):∀ t∈a.2.2,t∈b.2.2:=fun t ht=>by
 have e1:=HV ha ht;have hne:cK b.2.2 (aT t)≠[]:=by rw [← h,e1];exact HT t
 obtain⟨u,hu,_,e2⟩:=y6 hb hne;have e3:j4 (qS t)=j4 (qS u):=by rw [← e1,h,e2]
 have e4:some t=some u:=by rw [← da t ht,← db u hu,e3]
 injection e4 with e5
 rw [e5];exact hu
theorem a1F (ha:Rt a)(hb:Rt b)(da:Rdb a.2.2)(db:Rdb b.2.2)(h:(qN a b).1=[]∧a.1=b.1∧a.2.1=b.2.1):a=b:=by
 have hB:=aK4 ha hb h.1;have n1:=BQ (aD6 ha.mS);have n2:=BQ (aD6 hb.mS);have hp:a.2.2.Perm b.2.2:=(List.perm_ext_iff_of_nodup n1 n2).2 fun t=>⟨aH9 ha hb da db hB t,aH9 hb ha db da (fun n=>(hB n).symm) t⟩;have hl:a.2.2=b.2.2:=by
  refine List.Perm.eq_of_pairwise (le:=fun x y=>aT x≤aT y) (fun x y hx hy h k=>?_) (aK3 ha.mS) (aK3 hb.mS) hp;obtain⟨i,hi⟩:=List.mem_iff_getElem?.1 (hp.mem_iff.1 hx);obtain⟨j,hj⟩:=List.mem_iff_getElem?.1 hy;have:=hb.mS.one hi hj (Int.le_antisymm h k);subst this;exact Option.some.inj (hi.symm.trans hj)
 obtain⟨a1,a2,a3⟩:=a;obtain⟨b1,b2,b3⟩:=b;obtain⟨_,h1,h2⟩:=h;have h1:a1=b1:=h1;have h2:a2=b2:=h2;have hl:a3=b3:=hl;rw [h1,h2,hl]
end
end Go.DI.S
end
