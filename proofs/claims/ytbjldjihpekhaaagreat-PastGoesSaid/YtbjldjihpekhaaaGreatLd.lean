import Derived.Test.YtbjldjihpekhaaaGreatLc
import Derived.Test.YtbjldjihpekhaaaGreatXa
/- Changes, plain. No conditions. -/
set_option linter.unusedSimpArgs false
set_option linter.unusedVariables false
set_option maxRecDepth 100000
set_option maxHeartbeats 0
noncomputable section
namespace Go.DI.S
open Go.Proofs
abbrev MS:=List (Int×Str)
def jI (m:MS)(d:kM):MS:=lG (.int .i64) .str d.1 d.2.2 m
def aR7 (l:List Thing)(m:MS)(d:kM):Option MS:=bif !(cK l d.1==d.2.1) then none else some (jI m d)
theorem a1X (l:List Thing):∀ (L:List kM) (m:MS),eS (aR7 l) L m=bif L.all (fun d=>cK l d.1==d.2.1) then some (L.foldl jI m) else none
 | [],m=>rfl
 | d :: L,m=>by
  simp only [eS,aR7,List.foldl_cons,List.all_cons];generalize (cK l d.1==d.2.1)=c;cases c with
  | false=>rfl
  | true=>exact a1X l L _
theorem aLq:∀ (L:List kM) (m:MS) (n:Int),(fV (.int .i64) .str n (L.foldl jI m)).isSome=(L.any (fun d=>d.1==n)||(fV (.int .i64) .str n m).isSome)
 | [],m,n=>rfl
 | d :: L,m,n=>by
  rw [List.foldl_cons,aLq L,List.any_cons];unfold jI;rw [sR];by_cases h:n=d.1
  ·rw [aJb h,beq_iff_eq.2 h.symm];simp
  ·rw [aJn h,beq_false_of_ne (fun k=>h k.symm)];simp
def inD (L:List kM)(n:Int):Bool:=L.any (fun d=>d.1==n)
def MW (l:List Thing)(L:List kM):List Thing:=l.filter fun t=>!inD L (aT t)
def newL (L:List kM):List Thing:=L.filterMap fun d=>rU d.2.2
def a1C (l:List Thing)(L:List kM):List Thing:=lE (MW l L++newL L)
section
variable {s:aZ}{e:Entry}
theorem a1Y (s:aZ)(e:Entry)(z:aZ)(hs:Small s.2.2)(h2:∀ t∈s.2.2,t.2.2.2.2.length≤1000000)(hl:e.1.length≤1000000) :
  aKM (((),(),(),(),e.1,((e.1.length:Nat):Int),(0:Int),()),(s,()),(e,()),(z,()),[],())=some (if e.1.all (fun d=>cK s.2.2 d.1==d.2.1) then .inl (((),(),(),(),()),(s,()),(e,()),(z,()),e.1.foldl jI [],()) else .inr (((),(14:Int),()),(eX,()),())):=by
 have h:=sQ (G:=fun x=>aW1 x.1.2.2.2.2.1 x.1.2.2.2.2.2.1 x.1.2.2.2.2.2.2.1 x.2.1 x.2.2.1 x.2.2.2.1 x.2.2.2.2.1) (m:=fuel) e.1 (aR7 s.2.2) (fun k m=>(((),(),(),(),e.1,(e.1.length:Int),(k:Int),()),(s,()),(e,()),(z,()),m,())) (.inr (((),(14:Int),()),(eX,()),())) (fun m=>.inl (((),(),(),(),()),(s,()),(e,()),(z,()),m,()))
  (fun k d m hd=>?_) (fun m=>?_) (fuel_lt (by omega)) []
 ·refine Eq.trans h ?_;rw [a1X];congr 1;cases e.1.all (fun d=>cK s.2.2 d.1==d.2.1) <;> rfl
 ·have hk:=dF hd;show aW1 e.1 (e.1.length:Int) (k:Int) (s,()) (e,()) (z,()) m=_;simp only [aW1,dec_lt hk,bI hk,cond_true,bB hd,aN hk (by omega),a3H s _ hs h2,aEk];unfold aR7;cases (cK s.2.2 d.1==d.2.1) <;> rfl
 ·show aW1 e.1 (e.1.length:Int) (e.1.length:Int) (s,()) (e,()) (z,()) m=_;simp only [aW1,bA,cond_false]
theorem aXX (l:List Thing)(L:List kM)(t:Thing):MW (l++[t]) L=if inD L (aT t) then MW l L else MW l L++[t]:=by
 unfold MW;rw [List.filter_append];cases h:inD L (aT t) with
 | true=>simp [h]
 | false=>simp [h]
theorem bBf (l:List Thing)(e:Entry)(z:aZ)(g:fW)(nx:Int)(L:List kM)(hs:Small l)(h2:∀ t∈l,t.2.2.2.2.length≤1000000)(hl:l.length≤1000000) :
  HA (((),(),(),(),l,((l.length:Nat):Int),(0:Int),()),(e,()),(z,()),L.foldl jI [],(g,nx,(),()),[],())=some (.inl (((),(),(),()),(e,()),(z,()),(g,nx,(),()),MW l L,())):=by
 have h:=gM (G:=fun x=>aNU x.1.2.2.2.2.1 x.1.2.2.2.2.2.1 x.1.2.2.2.2.2.2.1 x.2.1 x.2.2.1 x.2.2.2.1 x.2.2.2.2.1 x.2.2.2.2.2.1) (n:=l.length)
  (inv:=fun k=>(((),(),(),(),l,(l.length:Int),(k:Int),()),(e,()),(z,()),L.foldl jI [],(g,nx,(),()),MW (l.take k) L,())) (y:=.inl (((),(),(),()),(e,()),(z,()),(g,nx,(),()),MW (l.take l.length) L,())) (fun k hk=>?_) ?_ l.length 0 fuel (by omega) (fuel_lt hs.1)
 ·rw [aYZ] at h;exact h
 ·have ha:=aJS hk;have hm:=aXB hk;have hin:(fV (.int .i64) .str (aT l[k]) (L.foldl jI [])).isSome=inD L (aT l[k]):=by
   rw [aLq];exact Bool.or_false _
  have hlen:(MW (l.take k) L).length≤k:=aPB (aXR _ _) (by rw [aP6];omega);have h46:QX l[k].2.2.2.2=some ((l[k].2.2.2.2,()):aS [.list I]):=aPj _ (hs.2 _ hm);show aNU l (l.length:Int) (k:Int) (e,()) (z,()) (L.foldl jI []) (g,nx,(),()) (MW (l.take k) L)=_;rw [aZ7 hk,aXX];simp only [aNU,dec_lt hk,bI hk,cond_true,bB ha,aN hk (by omega),h46,aEk];show(bif !(fV (.int .i64) .str (aT l[k]) (L.foldl jI [])).isSome then _ else _)=_;rw [hin];cases inD L (aT l[k]) with
  | true=>rfl
  | false=>
   simp only [a9A,cond_true,aZC,if_false];exact bZ (aPp (by simp only [aQO,List.length_nil];omega)) rfl
 ·show aNU l (l.length:Int) (l.length:Int) (e,()) (z,()) (L.foldl jI []) (g,nx,(),()) _=_;simp only [aNU,bA,cond_false]
theorem a2j (L:List kM)(d:kM):newL (L++[d])=match rU d.2.2 with | some t=>newL L++[t] | none=>newL L:=by
 unfold newL;rw [List.filterMap_append];cases h:rU d.2.2 with
 | some t=>simp [h]
 | none=>simp [h]
theorem aH1 (L:List kM):(newL L).length≤L.length:=List.length_filterMap_le _ _
theorem bBs (z:aZ)(g:fW)(nx:Int)(L:List kM)(row:List Thing)(hl:L.length≤1000000)(hr:row.length≤1000000) :
  HB (((),(),L,((L.length:Nat):Int),(0:Int),()),(z,()),(g,nx,(),()),row,())=some (.inl (((),(),()),(z,()),(g,nx,(),()),row++newL L,())):=by
 have h:=gM (G:=fun x=>aNW x.1.2.2.1 x.1.2.2.2.1 x.1.2.2.2.2.1 x.2.1 x.2.2.1 x.2.2.2.1) (n:=L.length)
  (inv:=fun k=>(((),(),L,(L.length:Int),(k:Int),()),(z,()),(g,nx,(),()),row++newL (L.take k),())) (y:=.inl (((),(),()),(z,()),(g,nx,(),()),row++newL (L.take L.length),())) (fun k hk=>?_) ?_ L.length 0 fuel (by omega) (fuel_lt (by omega))
 ·rw [aYZ] at h;have h0:row++newL (L.take 0)=row:=by simp [newL]
  rw [h0] at h;exact h
 ·have ha:=aJS hk;have hlen:(newL (L.take k)).length≤k:=aPB (aH1 _) (by rw [aP6];omega);show aNW L (L.length:Int) (k:Int) (z,()) (g,nx,(),()) (row++newL (L.take k))=_;rw [aZ7 hk,a2j];simp only [aNW,dec_lt hk,bI hk,cond_true,bB ha,aN hk (by omega)];refine aB (bD3 _) ?_;cases rU L[k].2.2 with
  | none=>rfl
  | some t=>
   simp only [cond_true];refine bZ (aPp (by simp only [aPk,aQO,List.length_nil];omega)) ?_;rw [aQ4]
 ·show aNW L (L.length:Int) (L.length:Int) (z,()) (g,nx,(),()) _=_;simp only [aNW,bA,cond_false]
theorem aXz:∀ {L:List kM} {a:Int},DL a L→∀ d∈L,a<d.1∧1≤d.1∧d.1≤1000000∧d.2.1≠d.2.2∧gF d.1 d.2.1=true∧gF d.1 d.2.2=true
 | [],a,_,d,hd=>by simp at hd
 | x :: L,a,h,d,hd=>by
  rcases aQL.1 hd with rfl | hd
  ·exact⟨h.1,h.2.1,h.2.2.1,h.2.2.2.1,h.2.2.2.2.1,h.2.2.2.2.2.1⟩
  ·have:=aXz h.2.2.2.2.2.2 d hd;have h1:=h.1;exact⟨Int.lt_trans h1 this.1,this.2⟩
theorem aOg:∀ {L:List kM} {a:Int},DL a L→(L.map (fun d=>d.1)).Pairwise (· < ·)
 | [],a,_=>.nil
 | x :: L,a,h=>by
  rw [aXW,List.pairwise_cons];refine⟨fun n hn=>?_,aOg h.2.2.2.2.2.2⟩;obtain⟨d,hd,rfl⟩:=aQ5.1 hn;exact(aXz h.2.2.2.2.2.2 d hd).1
theorem aXA {id:Int}{b:Str}{t:Thing}(h:gF id b=true)(hg:rU b=some t):aT t=id:=by
 unfold gF at h;rw [Bool.or_eq_true] at h;rcases h with h | h
 ·have:b=[]:=by simpa using h
  subst this;rw [aH6] at hg;cases hg
 ·rw [hg] at h;exact beq_iff_eq.1 h
theorem OU:∀ {L:List kM} {a:Int},DL a L→((newL L).map aT).Sublist (L.map (fun d=>d.1))
 | [],a,_=>List.Sublist.refl _
 | d :: L,a,h=>by
  have ih:=OU h.2.2.2.2.2.2;unfold newL at ih ⊢;rw [List.filterMap_cons];cases hg:rU d.2.2 with
  | none=>
   rw [aXW];exact ih.trans (List.sublist_cons_self _ _)
  | some t=>
   rw [aXW,aXW,aXA h.2.2.2.2.2.1 hg];exact ih.cons_cons _
theorem a1D {L:List kM}{t:Thing}:t∈newL L↔∃ d∈L,rU d.2.2=some t:=by
 unfold newL;rw [List.mem_filterMap]
theorem WZ {l:List Thing}{L:List kM}{t:Thing}:t∈MW l L↔t∈l∧inD L (aT t)=false:=by
 unfold MW;rw [aXV,a1K]
theorem aOh {L:List kM}{n:Int}:inD L n=true↔∃ d∈L,d.1=n:=by
 unfold inD;rw [List.any_eq_true];exact⟨fun⟨d,h,k⟩=>⟨d,h,beq_iff_eq.1 k⟩,fun⟨d,h,k⟩=>⟨d,h,beq_iff_eq.2 k⟩⟩
theorem aLu:∀ {l:List Int},(∀ n∈l,1≤n∧n≤1000000)→l.Nodup→aHB l=true
 | [],_,_=>rfl
 | a :: l,h,hd=>by
  obtain⟨d1,d2⟩:=List.nodup_cons.1 hd;have ha:=h a a1F;unfold aHB;rw [aKO ha.1,aKO ha.2,aLu (fun n hn=>h n (a0y _ hn)) d2];have:l.contains a=false:=by
   cases hc:l.contains a with
   | false=>rfl
   | true=>exact absurd (by simpa using hc) d1
  rw [this];rfl
theorem aH8 {l:List Int}(h:l.Pairwise (· < ·)):l.Nodup:=by
 rw [List.nodup_iff_pairwise_ne];exact h.imp fun h=>by omega
theorem aD6 {l:List Thing}(h:EN l):(l.map aT).Nodup:=by
 rw [List.nodup_iff_pairwise_ne,List.pairwise_map,List.pairwise_iff_getElem];intro i j hi hj hij e;have:=h i j _ _ hij (aJS hi) (aJS hj);omega
theorem aOi {l:List Thing}{L:List kM}(ha:EN l)(hl:∀ t∈l,0<aT t∧aT t≤1000000)(hL:DL 0 L):(∀ n∈(MW l L++newL L).map aT,1≤n∧n≤1000000)∧((MW l L++newL L).map aT).Nodup:=by
 refine⟨fun n hn=>?_,?_⟩
 ·obtain⟨t,ht,rfl⟩:=aQ5.1 hn;rcases aLA.1 ht with ht | ht
  ·have:=hl t (WZ.1 ht).1;omega
  ·have:aT t∈L.map (fun d=>d.1):=(OU hL).subset (aQ5.2 ⟨t,ht,rfl⟩);obtain⟨d,hd,e⟩:=aQ5.1 this;have:=aXz hL d hd;rw [← e];exact⟨this.2.1,this.2.2.1⟩
 ·rw [List.map_append,List.nodup_append];refine⟨(aD6 ha).sublist (List.Sublist.map aT List.filter_sublist),(aH8 (aOg hL)).sublist (OU hL),fun a ha' b hb e=>?_⟩;subst e;obtain⟨t,ht,e⟩:=aQ5.1 ha';have h1:=(WZ.1 ht).2;have h2:=(OU hL).subset hb;obtain⟨d,hd,e2⟩:=aQ5.1 h2;rw [aOh.2 ⟨d,hd,by rw [e2,e]⟩] at h1;cases h1
structure bH6 (s:aZ)(e:Entry):Prop where
 next:s.2.1=e.2.2.2.2.1
 bKc:e.2.1=true→s.1=e.2.2.1
 all:∀ d∈e.1,cK s.2.2 d.1=d.2.1
def bH7 (s:aZ)(e:Entry):aZ:=(bif e.2.1 then e.2.2.2.1 else s.1,e.2.2.2.2.2,a1C s.2.2 e.1)
structure Lil (l:List Thing):Prop where
 sm:Small l
 ins:∀ t∈l,t.2.2.2.2.length≤1000000
theorem a2k {l:List Thing}{L:List kM}(h:Lil l)(hl:l.length≤1000000)(hL:L.length≤1000000):Lil (a1C l L):=by
 have hin:∀ t∈a1C l L,t.2.2.2.2.length≤1000000:=by
  intro t ht;rcases aLA.1 ((wQ _).mem_iff.1 ht) with ht | ht
  ·exact h.ins t (WZ.1 ht).1
  ·obtain⟨d,_,hg⟩:=a1D.1 ht;have:=(aQU hg).2.2;omega
 refine⟨⟨?_,fun t ht=>by have:=hin t ht;omega⟩,hin⟩;unfold a1C;rw [oZ,aPk];have h1:(MW l L).length≤l.length:=aXR _ _;have h2:=aH1 L;omega
theorem aD7 {s:aZ}(h:Rt s):∀ t∈s.2.2,0<aT t∧aT t≤1000000:=by
 intro t ht;obtain⟨h1,h2,_⟩:=h.low t ht;have h3:=h.next.2;have key:∀ a b:Int,a<b→b≤1000001→a≤1000000:=fun a b h k=>by omega
 exact⟨h1,key _ _ h2 h3⟩
theorem bLE (s:aZ)(e:Entry)(hs:Lil s.2.2)(he:e.1.length≤1000000) :
  (bK s=false→a06 s e=some ((eX,9,()):aS [aD,I])) ∧
  (bK s=true→y5 e=false→a06 s e=some ((eX,9,()):aS [aD,I])) ∧
  (bK s=true→y5 e=true→¬bH6 s e→a06 s e=some ((eX,14,()):aS [aD,I])) ∧
  (bK s=true→y5 e=true→bH6 s e→a06 s e=some ((if bK (bH7 s e) then(bH7 s e,0,()) else(eX,5,())):aS [aD,I])):=by
 have e20:=JI s hs.sm;have e64:=bH5 e (by omega);refine⟨fun hr=>?_,fun hr hE=>?_,fun hr hE hF=>?_,fun hr hE hF=>?_⟩
 ·rw [hr] at e20;unfold a06;exact aB e20 (bZ rfl rfl)
 ·rw [hr] at e20;rw [hE] at e64;unfold a06;exact aB e20 (cU rfl (aB e64 (bZ rfl rfl)))
 ·rw [hr] at e20;rw [hE] at e64;have e7:=a1Y s e eX hs.sm hs.ins he;unfold a06;refine aB e20 (cU rfl (aB e64 (cU rfl ?_)));by_cases hn:s.2.1=e.2.2.2.2.1
  ·refine cU (by rw [hn];simp) ?_;cases ht:e.2.1 with
   | true=>
    simp only [cond_true];by_cases hg:s.1=e.2.2.1
    ·have hv:MV s.1 e.2.2.1=true:=wW.2 hg;have hall:e.1.all (fun d=>cK s.2.2 d.1==d.2.1)=false:=by
      cases ha:e.1.all (fun d=>cK s.2.2 d.1==d.2.1) with
      | false=>rfl
      | true=>exact absurd ⟨hn,fun _=>hg,fun d hd=>beq_iff_eq.1 (aQ6.1 ha d hd)⟩ hF
     rw [hall] at e7;refine cU (by show(!MV s.1 e.2.2.1)=false;rw [hv];rfl) (aB e7 rfl)
    ·have hv:MV s.1 e.2.2.1=false:=by
      cases h:MV s.1 e.2.2.1 with
      | false=>rfl
      | true=>exact absurd (wW.1 h) hg
     exact bZ (by show(!MV s.1 e.2.2.1)=true;rw [hv];rfl) rfl
   | false=>
    simp only [cond_false];have hall:e.1.all (fun d=>cK s.2.2 d.1==d.2.1)=false:=by
     cases ha:e.1.all (fun d=>cK s.2.2 d.1==d.2.1) with
     | false=>rfl
     | true=>exact absurd ⟨hn,fun k=>(by rw [ht] at k;cases k),fun d hd=>beq_iff_eq.1 (aQ6.1 ha d hd)⟩ hF
    rw [hall] at e7;exact aB e7 rfl
  ·exact bZ (by simpa using hn) rfl
 ·have hR:=bR hr;have hE':=aK1.1 hE;rw [hr] at e20;rw [hE] at e64;have e7:=a1Y s e eX hs.sm hs.ins he;have hall:e.1.all (fun d=>cK s.2.2 d.1==d.2.1)=true:=aQ6.2 fun d hd=>beq_iff_eq.2 (hF.all d hd);rw [hall] at e7;have h40:=hR.len;have bNW:=hE'.len;have aH2:=aOi hR.mS (aD7 hR) hE'.dl;have bLF:MP () (MW s.2.2 e.1++newL e.1)=some ((),a1C s.2.2 e.1,()):=by
   unfold MP;have hk:(MW s.2.2 e.1).length≤s.2.2.length:=aXR _ _;have hn:=aH1 e.1;rw [aLu aH2.1 aH2.2,show Nat.ble (MW s.2.2 e.1++newL e.1).length 1000000=true from aPp (by rw [aPk];omega)];rfl
  have bLG:=a2k (L:=e.1) hs (by omega) (by omega);have tail:∀ g:fW,g=(bif e.2.1 then e.2.2.2.1 else s.1) →
    ((HA (((),(),(),(),s.2.2,((s.2.2.length:Nat):Int),(0:Int),()),(e,()),(eX,()),e.1.foldl jI [],(g,e.2.2.2.2.2,(),()),[],())).bind fun v7=>
     Sum.elim (fun v8=>(HB (((),(),v8.2.1.1.1,((v8.2.1.1.1.length:Nat):Int),(0:Int),()),(v8.2.2.1.1,()),(v8.2.2.2.1.1,v8.2.2.2.1.2.1,(),()),v8.2.2.2.2.1,())).bind fun v9=>
      Sum.elim (fun v10=>(MP () v10.2.2.2.1).bind fun v12=>(pR (v10.2.2.1.1,v10.2.2.1.2.1,v12.2.1)).bind fun sW=>bif !sW.1 then some ((eX,(5:Int),()):aS [aD,I]) else some ((v10.2.2.1.1,v10.2.2.1.2.1,v12.2.1),(0:Int),()))
       (fun rV=>none) v9) (fun v20=>none) v7)=some ((if bK (bH7 s e) then(bH7 s e,0,()) else(eX,5,())):aS [aD,I]):=by
   intro g hg;have e17:=bBf s.2.2 e eX g e.2.2.2.2.2 e.1 hs.sm hs.ins (by omega);have e25:=bBs eX g e.2.2.2.2.2 e.1 (MW s.2.2 e.1) (by omega) (by have:(MW s.2.2 e.1).length≤s.2.2.length:=aXR _ _;omega);have eo:(g,e.2.2.2.2.2,a1C s.2.2 e.1)=bH7 s e:=by rw [hg];rfl
   have bLH:=JI (bH7 s e) bLG.sm;refine aB e17 (aB e25 (aB bLF ?_));show(pR (g,e.2.2.2.2.2,a1C s.2.2 e.1)).bind (fun sW=>bif !sW.1 then some ((eX,(5:Int),()):aS [aD,I]) else some ((g,e.2.2.2.2.2,a1C s.2.2 e.1),(0:Int),()))=_;rw [eo];refine aB bLH ?_;cases bK (bH7 s e) <;> rfl
  unfold a06;refine aB e20 (cU rfl (aB e64 (cU rfl (cU (by rw [hF.next];simp) ?_))));cases ht:e.2.1 with
  | true=>
   simp only [cond_true];have hv:MV s.1 e.2.2.1=true:=wW.2 (hF.bKc ht);refine cU (by show(!MV s.1 e.2.2.1)=false;rw [hv];rfl) (aB e7 (bZ ht ?_));exact tail e.2.2.2.1 (by rw [ht];rfl)
  | false=>
   simp only [cond_false];refine aB e7 (cU ht ?_);exact tail s.1 (by rw [ht];rfl)
end
def Rdb (l:List Thing):Prop:=∀ t∈l,rU (j4 (qS t))=some t
structure Ln (a b:aZ)(e:Entry):Prop where
 nb:e.2.2.2.2.1=a.2.1
 na:e.2.2.2.2.2=b.2.1
 turned:e.2.1=true→e.2.2.1=a.1∧e.2.2.2.1=b.1
 not:e.2.1=false→a.1=b.1
 before:∀ d∈e.1,d.2.1=cK a.2.2 d.1
 after:∀ d∈e.1,d.2.2=cK b.2.2 d.1
 a3I:∀ n,inD e.1 n=false→cK a.2.2 n=cK b.2.2 n
theorem a2l (e:Entry)(n:Int):inD (aFk e).1 n=inD e.1 n:=by
 show(e.1.map mL).any (fun d=>d.1==n)=_;rw [List.any_map];rfl
theorem Ln.turn {a b:aZ}{e:Entry}(h:Ln a b e):Ln b a (aFk e):=by
 refine⟨h.na,h.nb,fun k=>⟨(h.turned k).2,(h.turned k).1⟩,fun k=>(h.not k).symm,fun d hd=>?_,fun d hd=>?_,fun n hn=>?_⟩
 ·obtain⟨x,hx,rfl⟩:=aQ5.1 (show d∈e.1.map mL from hd);exact h.after x hx
 ·obtain⟨x,hx,rfl⟩:=aQ5.1 (show d∈e.1.map mL from hd);exact h.before x hx
 ·rw [a2l] at hn;exact(h.a3I n hn).symm
theorem Ln.fits {a b:aZ}{e:Entry}(h:Ln a b e):bH6 a e:=⟨h.nb.symm,fun k=>(h.turned k).1.symm,fun d hd=>(h.before d hd).symm⟩
section
variable {s:aZ}
theorem HV (h:Rt s){t:Thing}(ht:t∈s.2.2):cK s.2.2 (aT t)=j4 (qS t):=by
 unfold cK;rw [h.mS.bW ht];show(bif rt t then j4 (qS t) else [])=_;rw [(h.low t ht).2.2];rfl
theorem W0 {n:Int}(h:¬Is s.2.2 n):cK s.2.2 n=[]:=by
 unfold cK;rw [Y7 h];rfl
theorem y6 (h:Rt s){n:Int}(hn:cK s.2.2 n≠[]):∃ t∈s.2.2,aT t=n∧cK s.2.2 n=j4 (qS t):=by
 by_cases hi:Is s.2.2 n
 ·obtain⟨t,ht,rfl⟩:=hi;exact⟨t,ht,rfl,HV h ht⟩
 ·exact absurd (W0 hi) hn
end
theorem aK3 {l:List Thing}(h:EN l):l.Pairwise (fun x y=>aT x≤aT y):=by
 rw [List.pairwise_iff_getElem];intro i j hi hj hij;have:=h i j _ _ hij (aJS hi) (aJS hj);omega
theorem BQ {l:List Thing}(h:(l.map aT).Nodup):l.Nodup:=by
 rw [List.nodup_iff_pairwise_ne] at h ⊢;rw [List.pairwise_map] at h;exact h.imp fun h k=>h (by rw [k])
theorem Ln.out {a b:aZ}{e:Entry}(h:Ln a b e)(ha:Rt a)(hb:Rt b)(ra:Rdb a.2.2)(rb:Rdb b.2.2)(hL:DL 0 e.1):bH7 a e=b:=by
 have hm:∀ t,t∈MW a.2.2 e.1++newL e.1↔t∈b.2.2:=by
  intro t;rw [aLA,WZ,a1D];constructor
  ·rintro (⟨h1,h2⟩ | ⟨d,hd,hg⟩)
   ·have e1:=h.a3I _ h2;rw [HV ha h1] at e1;obtain⟨u,hu,hn,e2⟩:=y6 hb (n:=aT t) (by rw [← e1];exact HT t);rw [e2] at e1;have g1:=ra t h1;rw [e1,rb u hu] at g1;injection g1 with g1
    rw [← g1];exact hu
   ·have e1:=h.after d hd;obtain⟨u,hu,hn,e2⟩:=y6 hb (n:=d.1) (by
     rw [← e1];intro k;rw [k,aH6] at hg;cases hg)
    rw [e1,e2,rb u hu] at hg;injection hg with hg
    rw [← hg];exact hu
  ·intro ht;have e1:=HV hb ht;cases hi:inD e.1 (aT t) with
   | true=>
    right;obtain⟨d,hd,hn⟩:=aOh.1 hi;refine⟨d,hd,?_⟩;rw [h.after d hd,hn,e1,rb t ht]
   | false=>
    left;have e2:=h.a3I _ hi;rw [e1] at e2;obtain⟨u,hu,hn,e3⟩:=y6 ha (n:=aT t) (by rw [e2];exact HT t);rw [e3] at e2;have g1:=ra u hu;rw [e2,rb t ht] at g1;injection g1 with g1
    subst g1;exact⟨hu,rfl⟩
 have hnd:(MW a.2.2 e.1++newL e.1).Nodup:=BQ (aOi ha.mS (aD7 ha) hL).2;have hp:b.2.2.Perm (MW a.2.2 e.1++newL e.1):=(List.perm_ext_iff_of_nodup (BQ (aD6 hb.mS)) hnd).2 fun t=>(hm t).symm;have ho:a1C a.2.2 e.1=b.2.2:=(aHC (aOi ha.mS (aD7 ha) hL).2 hp (aK3 hb.mS)).symm;obtain⟨bg,bn,bl⟩:=b;show((bif e.2.1 then e.2.2.2.1 else a.1,e.2.2.2.2.2,a1C a.2.2 e.1):aZ)=(bg,bn,bl);have ho:a1C a.2.2 e.1=bl:=ho;have hn:e.2.2.2.2.2=bn:=h.na;have hg:(bif e.2.1 then e.2.2.2.1 else a.1)=bg:=by
  cases ht:e.2.1 with
  | true=>exact(h.turned ht).2
  | false=>exact h.not ht
 rw [ho,hn,hg]
theorem a9b {s:aZ}(h:Rt s)(hw:∀ t∈s.2.2,aA.wf t)(hl:∀ t∈s.2.2,t.2.2.2.2.length≤1000000):Rdb s.2.2:=fun t ht=>aXw t (hw t ht) (hl t ht) (h.low t ht).2.2
theorem bLI (s:aZ)(e:Entry)(he:e.1.length≤1000000){r:aZ}{n:Int}(h:a06 s (aFk e)=some ((r,n,()):aS [aD,I])):a8y s e=some ((r,n,()):aS [aD,I]):=by
 unfold a8y;exact aB (bJy e he) (aB h rfl)
theorem aQW {l:List Int}{n:Int}:n∈iP l↔n∈l:=by
 unfold iP Go.Lib.compact Go.Lib.compactUpTo;have hg:∀ j (hj:j<l.length),l.toArray[j]! = l[j]:=fun j hj=>by
  rw [getElem!_pos l.toArray j (by simpa using hj)];rfl
 rw [aQ5];constructor
 ·rintro ⟨j,hj,rfl⟩;have hj1:=a9t.1 (aXV.1 hj).1;rw [hg j hj1];exact aXB hj1
 ·intro hn;obtain⟨i0,hi0,e0⟩:=List.getElem_of_mem hn;obtain⟨k,hk,⟨hk1,hk2⟩,bH8⟩:=RG (fun k=>∃ h:k<l.length,l[k]=n) i0 ⟨hi0,e0⟩;refine⟨k,aXV.2 ⟨a9t.2 hk1,?_⟩,by rw [hg k hk1,hk2]⟩;unfold Go.Lib.keeps;refine aKO ?_;by_cases h0:k=0
  ·exact .inl h0
  ·right;rw [hg k hk1,hg (k-1) (by omega),hk2];intro e;exact bH8 (k-1) (by omega) ⟨by omega,e.symm⟩
theorem bEb (n:Nat)(hn:n≤1000000):aAk () (n:Int)=some []:=by
 unfold aAk;by_cases h:0<n
 ·rw [aKO (by omega:(0:Int)<(n:Int)),aKO (by omega:(n:Int)≤1000000)];rfl
 ·have:n=0:=by omega
  subst this;unfold aDL;rfl
theorem bEc (l m:List Thing)(hl:l.length≤1000)(hm:m.length≤1000):aHL [l,m]=some ((l++m,()):aS [.list aA]):=by
 obtain⟨k,hk⟩:∃ k,fuel=k+3:=⟨18446744073709551613,rfl⟩;have w1:IntKind.i64.wrap ((0:Int)+(l.length:Int))=(l.length:Int):=by rw [wrap64 (by omega) (by omega)];omega
 have w2:IntKind.i64.wrap ((l.length:Int)+(m.length:Int))=((l.length+m.length:Nat):Int):=by rw [wrap64 (by omega) (by omega)];omega
 have d1:decide ((l.length:Int)<0)=false:=aKP (by omega);have d2:decide (((l.length+m.length:Nat):Int)<0)=false:=aKP (by omega);have h3:OK (([l,m],(0:Int),[l,m],(([l,m].length:Nat):Int),(0:Int),()),())=some (.inl (([l,m],((l.length+m.length:Nat):Int),()),())):=by
  unfold OK;rw [hk];rw [bT (x':=(([l,m],(l.length:Int),[l,m],(2:Int),(1:Int),()),())) ?_ (k+2)]
  ·rw [bT (x':=(([l,m],((l.length+m.length:Nat):Int),[l,m],(2:Int),(2:Int),()),())) ?_ (k+1)]
   ·exact bM rfl k
   ·show(bif decide (IntKind.i64.wrap ((l.length:Int)+(m.length:Int))<0) then none else some (Sum.inl (([l,m],IntKind.i64.wrap ((l.length:Int)+(m.length:Int)),[l,m],(2:Int),IntKind.i64.wrap ((1:Int)+1),()),())))=_;rw [w2,show IntKind.i64.wrap ((1:Int)+1)=2 by decide];exact cU d2 rfl
  ·show(bif decide (IntKind.i64.wrap ((0:Int)+(l.length:Int))<0) then none else some (Sum.inl (([l,m],IntKind.i64.wrap ((0:Int)+(l.length:Int)),[l,m],(2:Int),IntKind.i64.wrap ((0:Int)+1),()),())))=_;rw [w1,show IntKind.i64.wrap ((0:Int)+1)=1 by decide];exact cU d1 rfl
 have h11:G8 (((),[l,m],(([l,m].length:Nat):Int),(0:Int),()),[],())=some (.inl (((),()),l++m,())):=by
  unfold G8;rw [hk];rw [bT (x':=(((),[l,m],(2:Int),(1:Int),()),l,())) ?_ (k+2)]
  ·rw [bT (x':=(((),[l,m],(2:Int),(2:Int),()),l++m,())) ?_ (k+1)]
   ·exact bM rfl k
   ·show(bif Nat.ble ((l.length+m.length)*128) 70368744177664 then _ else none)=_;exact bZ (aPp (by omega)) rfl
  ·show(bif Nat.ble ((0+l.length)*128) 70368744177664 then _ else none)=_;exact bZ (aPp (by omega)) rfl
 unfold aHL;exact aB h3 (aB (bEb _ (by omega)) (aB h11 rfl))
theorem a1E (a b:aZ)(z:Entry)(l:List Thing)(hl:l.length≤1000000) :
  aDQ (((),(),(),(),l,((l.length:Nat):Int),(0:Int),()),(a,()),(b,()),(z,()),[],())=some (.inl (((),(),(),(),()),(a,()),(b,()),(z,()),l.map aT,())):=by
 have h:=gM (G:=fun x=>wR x.1.2.2.2.2.1 x.1.2.2.2.2.2.1 x.1.2.2.2.2.2.2.1 x.2.1 x.2.2.1 x.2.2.2.1 x.2.2.2.2.1) (n:=l.length)
  (inv:=fun k=>(((),(),(),(),l,(l.length:Int),(k:Int),()),(a,()),(b,()),(z,()),(l.take k).map aT,())) (y:=.inl (((),(),(),(),()),(a,()),(b,()),(z,()),(l.take l.length).map aT,())) (fun k hk=>?_) ?_ l.length 0 fuel (by omega) (fuel_lt (by omega))
 ·rw [aYZ] at h;exact h
 ·have ha:=aJS hk;have hlen:((l.take k).map aT).length≤k:=by rw [aRD,aP6];omega
  show wR l (l.length:Int) (k:Int) (a,()) (b,()) (z,()) ((l.take k).map aT)=_;rw [aZ7 hk,List.map_append];simp only [wR,dec_lt hk,bI hk,cond_true,bB ha,aN hk (by omega)];exact bZ (aPp (by simp only [aQO,List.length_nil];omega)) rfl
 ·show wR l (l.length:Int) (l.length:Int) (a,()) (b,()) (z,()) _=_;simp only [wR,bA,cond_false]
def mkD (a b:List Thing)(n:Int):kM:=(n,cK a n,cK b n)
def oF (a b:List Thing)(ids:List Int):List kM:=(ids.filter fun n=>!(cK a n==cK b n)).map (mkD a b)
theorem aXC (a b:List Thing)(ids:List Int)(n:Int):oF a b (ids++[n])=bif !(cK a n==cK b n) then oF a b ids++[mkD a b n] else oF a b ids:=by
 unfold oF;rw [List.filter_append,List.map_append];cases h:(cK a n==cK b n) with
 | true=>simp [h]
 | false=>simp [h]
theorem aD8 (a b:List Thing)(ids:List Int):(oF a b ids).length≤ids.length:=by
 unfold oF;rw [aRD];exact aXR _ _
theorem aXD (a b:aZ)(z:Entry)(tu:Bool)(f t:fW)(nb na:Int)(l:List Int)(ha:Lil a.2.2)(hb:Lil b.2.2)(hl:l.length≤1000000) :
  WD (((),(),(),(),l,((l.length:Nat):Int),(0:Int),()),(a,()),(b,()),(z,()),((),tu,f,t,nb,na,()),[],())=some (.inl (((),(),(),(),()),(a,()),(b,()),(z,()),((),tu,f,t,nb,na,()),oF a.2.2 b.2.2 l,())):=by
 have h:=gM (G:=fun x=>qI x.1.2.2.2.2.1 x.1.2.2.2.2.2.1 x.1.2.2.2.2.2.2.1 x.2.1 x.2.2.1 x.2.2.2.1 x.2.2.2.2.1 x.2.2.2.2.2.1) (n:=l.length)
  (inv:=fun k=>(((),(),(),(),l,(l.length:Int),(k:Int),()),(a,()),(b,()),(z,()),((),tu,f,t,nb,na,()),oF a.2.2 b.2.2 (l.take k),())) (y:=.inl (((),(),(),(),()),(a,()),(b,()),(z,()),((),tu,f,t,nb,na,()),oF a.2.2 b.2.2 (l.take l.length),())) (fun k hk=>?_) ?_ l.length 0 fuel (by omega) (fuel_lt (by omega))
 ·rw [aYZ] at h;exact h
 ·have hx:=aJS hk;have hlen:(oF a.2.2 b.2.2 (l.take k)).length≤k:=aPB (aD8 _ _ _) (by rw [aP6];omega);show qI l (l.length:Int) (k:Int) (a,()) (b,()) (z,()) ((),tu,f,t,nb,na,()) (oF a.2.2 b.2.2 (l.take k))=_;rw [aZ7 hk,aXC];simp only [qI,dec_lt hk,bI hk,cond_true,bB hx,aN hk (by omega),a3H a _ ha.sm ha.ins,a3H b _ hb.sm hb.ins,aEk];cases (cK a.2.2 l[k]==cK b.2.2 l[k]) with
  | true=>rfl
  | false=>
   simp only [a9A,cond_true];exact bZ (aPp (by simp only [aQO,List.length_nil];omega)) rfl
 ·show qI l (l.length:Int) (l.length:Int) (a,()) (b,()) (z,()) _ _=_;simp only [qI,bA,cond_false]
def kN (a b:List Thing):List Int:=iP (cI ((a++b).map aT))
def qN (a b:aZ):Entry:=(oF a.2.2 b.2.2 (kN a.2.2 b.2.2),!MV a.1 b.1,(bif !MV a.1 b.1 then a.1 else((0:Int),(0:Int))),(bif !MV a.1 b.1 then b.1 else((0:Int),(0:Int))),a.2.1,b.2.1)
def noE:Entry:=([],false,((0:Int),(0:Int)),((0:Int),(0:Int)),(0:Int),(0:Int))
theorem bEe (a b:aZ)(ha:Lil a.2.2)(hb:Lil b.2.2)(hra:bK a=true)(hrb:bK b=true) :
  G9 a b=some ((if y5 (qN a b) then(qN a b,true,()) else(noE,false,())):aS [cA,.bool]):=by
 have e1:=JI a ha.sm;have e2:=JI b hb.sm;rw [hra] at e1;rw [hrb] at e2;have la:=(bR hra).len;have lb:=(bR hrb).len;have e3:=bEc a.2.2 b.2.2 (by omega) (by omega);have hlen:(a.2.2++b.2.2).length≤80:=by rw [aPk];omega
 have e4:=a1E a b noE (a.2.2++b.2.2) (by omega);have hml:((a.2.2++b.2.2).map aT).length≤80:=by rw [aRD];exact hlen
 have e5:xD ((a.2.2++b.2.2).map aT)=some ((),cI ((a.2.2++b.2.2).map aT),()):=by
  unfold xD;rw [show Nat.ble ((a.2.2++b.2.2).map aT).length 1000000=true from aPp (by omega)];rfl
 have MZ:(cI ((a.2.2++b.2.2).map aT)).length≤80:=by rw [gN];exact hml
 have e6:aBW (cI ((a.2.2++b.2.2).map aT))=some (kN a.2.2 b.2.2):=by
  unfold aBW;rw [show Nat.ble (cI ((a.2.2++b.2.2).map aT)).length 1000000=true from aPp (by omega)];rfl
 have hil:(kN a.2.2 b.2.2).length≤80:=aPB (JH _) MZ;have e7:=aXD a b noE false ((0:Int),(0:Int)) ((0:Int),(0:Int)) a.2.1 b.2.1 (kN a.2.2 b.2.2) ha hb (by omega);have hdl:(qN a b).1.length≤80:=aPB (aD8 _ _ _) hil;have e8:=bH5 (qN a b) (by omega);unfold G9;refine aB e1 (cU rfl (aB e2 (cU rfl (aB e3 (aB e4 (aB e5 (aB e6 (aB e7 ?_))))))));show(bif !MV a.1 b.1 then(aDP (oF a.2.2 b.2.2 (kN a.2.2 b.2.2),true,a.1,b.1,a.2.1,b.2.1)).bind (fun v21=>bif !v21.1 then some ((noE,false,()):aS [cA,.bool]) else some ((oF a.2.2 b.2.2 (kN a.2.2 b.2.2),true,a.1,b.1,a.2.1,b.2.1),true,()))
  else(aDP (oF a.2.2 b.2.2 (kN a.2.2 b.2.2),false,((0:Int),(0:Int)),((0:Int),(0:Int)),a.2.1,b.2.1)).bind (fun v23=>bif !v23.1 then some (noE,false,()) else some ((oF a.2.2 b.2.2 (kN a.2.2 b.2.2),false,((0:Int),(0:Int)),((0:Int),(0:Int)),a.2.1,b.2.1),true,())))=_
 cases hv:!MV a.1 b.1 with
 | true=>
  have hE:(oF a.2.2 b.2.2 (kN a.2.2 b.2.2),true,a.1,b.1,a.2.1,b.2.1)=qN a b:=by unfold qN;rw [hv];rfl
  rw [hE];refine aB e8 ?_;cases y5 (qN a b) <;> rfl
 | false=>
  have hE:(oF a.2.2 b.2.2 (kN a.2.2 b.2.2),false,((0:Int),(0:Int)),((0:Int),(0:Int)),a.2.1,b.2.1)=qN a b:=by unfold qN;rw [hv];rfl
  rw [hE];refine aB e8 ?_;cases y5 (qN a b) <;> rfl
section
variable {a b:aZ}
theorem OV {a b:List Thing}{n:Int}:n∈kN a b↔Is a n∨Is b n:=by
 unfold kN;rw [aQW,(gE _).mem_iff,aQ5];constructor
 ·rintro ⟨t,ht,e⟩;rcases aLA.1 ht with h | h
  ·exact .inl ⟨t,h,e⟩
  ·exact .inr ⟨t,h,e⟩
 ·rintro (⟨t,h,e⟩ | ⟨t,h,e⟩)
  ·exact⟨t,a1h _ h,e⟩
  ·exact⟨t,a9o _ h,e⟩
theorem aOj {a b:List Thing}{ids:List Int}{d:kM}:d∈oF a b ids↔∃ n∈ids,cK a n≠cK b n∧d=mkD a b n:=by
 unfold oF;rw [aQ5];constructor
 ·rintro ⟨n,hn,rfl⟩;obtain⟨h1,h2⟩:=aXV.1 hn;refine⟨n,h1,fun e=>?_,rfl⟩;rw [e] at h2;simp at h2
 ·rintro ⟨n,h1,h2,rfl⟩;refine⟨n,aXV.2 ⟨h1,?_⟩,rfl⟩;rw [beq_false_of_ne h2];rfl
theorem aQX {n:Int}(h:cK a.2.2 n≠cK b.2.2 n):n∈kN a.2.2 b.2.2:=by
 rw [OV];by_cases h1:Is a.2.2 n
 ·exact .inl h1
 ·by_cases h2:Is b.2.2 n
  ·exact .inr h2
  ·exact absurd (by rw [W0 h1,W0 h2]) h
end
end Go.DI.S
end
