import Derived.Test.YtbjldjihpekhaaaGreatMd
import Derived.Test.YtbjldjihpekhaaaGreatXb
import Derived.Test.YtbjldjihpekhaaaGreatNe
/- Bodies elsewhere; a copy that goes, plain. No conditions. -/
set_option linter.unusedSimpArgs false
set_option linter.unusedVariables false
set_option maxRecDepth 100000
set_option maxHeartbeats 0
noncomputable section
namespace Go.DI.S
open Go.Proofs
def gOk (n:Int):Bool:=match k8 (FloatKind.f64.nearest n) with
 | some (a,b,())=>decide (a=n*4294967296)&&decide (b=0)
 | none=>false
def a6q (a:Int):Nat→Bool
 | 0=>true
 | k+1=>gOk (a+k)&&a6q a k
def sk (t:Thing):Int×Int×iF×List Int:=(t.1,t.2.1,t.2.2.2.1,t.2.2.2.2)
def gT (l l':List Thing):Prop:=l'.map sk=l.map sk
section
variable {l l':List Thing}
theorem gT.symm (h:gT l l'):gT l' l:=Eq.symm h
theorem gT.len (h:gT l l'):l'.length=l.length:=by
 have:=aKR List.length h;simpa using this
theorem gT.at (h:gT l l'){k:Nat}{t:Thing}(ht:l[k]?=some t):∃ t',l'[k]?=some t'∧sk t'=sk t:=by
 have e:(l'.map sk)[k]?=(l.map sk)[k]?:=aKR (·[k]?) h;rw [aQn,aQn,ht] at e;exact aPV.1 e
theorem gT.mem (h:gT l l'){t:Thing}(ht:t∈l):∃ t'∈l',sk t'=sk t:=by
 obtain⟨k,hk⟩:=List.mem_iff_getElem?.1 ht;obtain⟨t',h1,h2⟩:=h.at hk;exact⟨t',aPl h1,h2⟩
theorem aNa {t t':Thing}(h:sk t'=sk t):aT t'=aT t:=aKR (fun x=>x.1) h
theorem aNb {t t':Thing}(h:sk t'=sk t):t'.2.1=t.2.1:=aKR (fun x=>x.2.1) h
theorem aGO {t t':Thing}(h:sk t'=sk t):t'.2.2.2.1=t.2.2.2.1:=aKR (fun x=>x.2.2.1) h
theorem aJ4 {t t':Thing}(h:sk t'=sk t):ins t'=ins t:=aKR (fun x=>x.2.2.2) h
theorem gT.idx (h:gT l l')(n:Int):S.idx l' n=S.idx l n:=by
 have e:∀ l:List Thing,S.idx l n=(l.map sk).findIdx? (fun x=>x.1==n):=fun l=>by
  unfold S.idx;rw [List.findIdx?_map];rfl
 rw [e,e,h]
theorem gT.jS (h:gT l l')(n:Int):S.jS l' n=S.jS l n:=by
 have e:∀ l:List Thing,S.jS l n=match (l.map sk).find? (fun x=>x.2.2.2.contains n) with | some x=>x.1 | none=>0:=fun l=>by
  unfold S.jS;rw [List.find?_map];show _=match Option.map sk (l.find? (fun t=>(ins t).contains n)) with | some x=>x.1 | none=>0
  cases l.find? (fun t=>(ins t).contains n) <;> rfl
 rw [e,e,h]
theorem gT.kG (h:gT l l'):∀ (k:Nat) (n:Int),S.kG l' k n=S.kG l k n
 | 0,n=>rfl
 | k+1,n=>by
  show S.kG l' k (S.jS l' n)=S.kG l k (S.jS l n);rw [h.jS,h.kG k]
theorem gT.get (h:gT l l')(n:Int):sk (bW l' n).1=sk (bW l n).1∧(bW l' n).2=(bW l n).2:=by
 unfold bW;rw [h.idx];cases hx:S.idx l n with
 | none=>exact⟨rfl,rfl⟩
 | some k=>
  obtain⟨t,ht,_⟩:=rN hx;obtain⟨t',ht',e⟩:=h.at ht;simp only [ht,ht',a0f,e,and_self]
theorem gT.kind (h:gT l l')(n:Int):dM l' n=dM l n:=aNb (h.get n).1
theorem gT.sS (h:gT l l'):∀ (f:Nat) (n:Int),S.sS l' f n=S.sS l f n
 | 0,n=>rfl
 | f+1,n=>by
  have hf:S.sS l' f=S.sS l f:=funext (h.sS f);unfold S.sS;rw [h.idx];cases hx:S.idx l n with
  | none=>rfl
  | some k=>
   obtain⟨t,ht,_⟩:=rN hx;obtain⟨t',ht',e⟩:=h.at ht;simp only [ht,ht',a0f,aJ4 e,hf]
theorem gT.oC (h:gT l l')(n:Int):S.oC l' n=S.oC l n:=by
 unfold S.oC;rw [h.sS]
theorem gT.bHq (h:gT l l'):l'.map aT=l.map aT:=by
 have e:∀ l:List Thing,l.map aT=(l.map sk).map (fun x=>x.1):=fun l=>by rw [List.map_map];rfl
 rw [e,e,h]
theorem gT.is (h:gT l l'){n:Int}(hn:Is l n):Is l' n:=by
 obtain⟨t,ht,rfl⟩:=hn;obtain⟨t',h1,h2⟩:=h.mem ht;exact⟨t',h1,aNa h2⟩
theorem gT.mS (h:gT l l')(ha:EN l):EN l':=GN.2 (by rw [h.bHq];exact GN.1 ha)
theorem gT.apart (h:gT l l')(ha:lM l):lM l':=by
 have e:∀ l:List Thing,l.flatMap ins=(l.map sk).flatMap (fun x=>x.2.2.2):=fun l=>by rw [List.flatMap_map];rfl
 unfold lM at ha ⊢;rw [e,h,← e];exact ha
theorem gT.small (h:gT l l')(hs:Small l):Small l':=by
 refine⟨by rw [h.len];exact hs.1,fun t' ht'=>?_⟩;obtain⟨t,ht,e⟩:=h.symm.mem ht';have:=aJ4 e;unfold ins at this;rw [← this];exact hs.2 t ht
theorem gT.right {s:aZ}(hr:bK s=true)(hs:Small s.2.2)(h:gT s.2.2 l')(hrt:∀ t∈l',rt t=true):bK (s.1,s.2.1,l')=true:=by
 have hR:=bR hr;have hs':=h.small hs;have ha':=h.mS hR.mS;refine yS ha' (fun t' ht'=>?_) (by show l'.length≤40;rw [h.len];exact hR.len) hR.next (wL (s:=s) hr) (fun t' ht'=>?_) (h.apart hR.apart) (fun t' ht' j hj=>?_)
 ·obtain⟨t,ht,e⟩:=h.symm.mem ht';have:=hR.low t ht;exact⟨by rw [← aNa e];exact this.1,by rw [← aNa e];exact this.2.1,hrt t' ht'⟩
 ·obtain⟨t,ht,e⟩:=h.symm.mem ht';obtain⟨h1,h2⟩:=Cp.rE (hR.ends t ht);refine Cp.KD (fun hk=>?_) (fun n hn=>?_)
  ·have:=h1 (by rw [aNb e];exact hk);rw [← aGO e];exact⟨by show dM l' _=1;rw [h.kind];exact this.1,by show dM l' _=1;rw [h.kind];exact this.2⟩
  ·have:=h2 n (by rw [aJ4 e];exact hn);exact DT (s:=(s.1,s.2.1,l')) hs' ha' (h.is (aJf hs this))
 ·obtain⟨t,ht,e⟩:=h.symm.mem ht';have hj:j<s.2.2.length:=by rw [← h.len];exact hj
  show S.kG l' j (S.jS l' (aT t'))≠aT t';rw [h.jS,h.kG,← aNa e];exact hR.aB6 ⟨t,ht,rfl⟩ (j+1) (by omega) (by omega)
end
def jD (l:List Thing)(id:Int):List Int:=if dM l id=2 then [if(bW l id).1.2.2.2.1.2.1<(bW l id).1.2.2.2.1.1 then(bW l id).1.2.2.2.1.2.1 else(bW l id).1.2.2.2.1.1,if(bW l id).1.2.2.2.1.2.1>(bW l id).1.2.2.2.1.1 then(bW l id).1.2.2.2.1.2.1 else(bW l id).1.2.2.2.1.1] else(oC l id).filter (fun n=>dM l n==1)
theorem gT.jD {l l':List Thing}(h:gT l l')(n:Int):S.jD l' n=S.jD l n:=by
 unfold S.jD;have e:(fun m=>dM l' m==1)=(fun m=>dM l m==1):=funext fun m=>by rw [h.kind]
 rw [h.kind,aGO (h.get n).1,h.oC,e]
theorem oD {l:List Thing}{n:Int}(h:(bW l n).2=true):Is l n:=by
 unfold bW at h;cases hx:idx l n with
 | none=>rw [hx] at h;cases h
 | some k=>
  obtain⟨t,ht,e⟩:=rN hx;exact⟨t,aPl ht,e⟩
theorem a0j (s:aZ)(hs:Small s.2.2)(l:List Int)(hl:l.length≤1000000000) :
  aCp (((),(),l,(l.length:Int),(0:Int),()),(s,()),[],())=some (.inl (((),()),l.filter (fun n=>dM s.2.2 n==1),())):=by
 have h:=gM (G:=fun x=>F1 x.1.2.2.1 x.1.2.2.2.1 x.1.2.2.2.2.1 x.2.1 x.2.2.1) (n:=l.length)
  (inv:=fun k=>(((),(),l,(l.length:Int),(k:Int),()),(s,()),(l.take k).filter (fun n=>dM s.2.2 n==1),())) (y:=.inl (((),()),(l.take l.length).filter (fun n=>dM s.2.2 n==1),())) (fun k hk=>?_) ?_ l.length 0 fuel (by omega) (fuel_lt hl)
 ·rw [aYZ] at h;exact h
 ·have ha:=aJS hk;have hf:=aXR (fun n=>dM s.2.2 n==1) (l.take k);have hf:((l.take k).filter (fun n=>dM s.2.2 n==1)).length≤k:=aPB hf (by rw [aP6];omega);rw [aZ7 hk,List.filter_append];simp only [F1,dec_lt hk,bI hk,cond_true,bB ha,aN hk (by omega),yA s _ hs.1 hs.2,aEk];show(bif(dM s.2.2 l[k]==1) then _ else _)=_;cases hc:(dM s.2.2 l[k]==1) with
  | true=>
   have:[l[k]].filter (fun n=>dM s.2.2 n==1)=[l[k]]:=by simp only [List.filter_cons,hc,if_true,List.filter_nil]
   rw [this,cond_true];exact bZ (aPp (aPB (a9E 8 (Nat.add_le_add_right hf 1)) (by omega))) rfl
  | false=>
   have:[l[k]].filter (fun n=>dM s.2.2 n==1)=[]:=by simp only [List.filter_cons,hc,aZC,if_false,List.filter_nil]
   rw [this,a1d,cond_false]
 ·simp only [F1,bA,cond_false]
theorem bCK (s:aZ)(id:Int)(hs:Small s.2.2)(hr:bK s=true):aPC s id=some (if(bW s.2.2 id).2=true then((jD s.2.2 id,0,()):aS [.list I,I]) else([],10,())):=by
 have e23:=yA s id hs.1 hs.2;have e20:=JI s hs;rw [hr] at e20;unfold aPC;refine aB e20 (cU rfl (aB e23 ?_));cases hg:(bW s.2.2 id).2 with
 | false=>simp only [aJn (by decide:¬(false=true))];rfl
 | true=>
  have hn:=oD hg;rw [aJb rfl];refine cU rfl ?_;by_cases hk:dM s.2.2 id=2
  ·have c2:(dM s.2.2 id==(2:Int))=true:=by rw [hk];rfl
   unfold jD;rw [aJb hk];exact bZ c2 rfl
  ·have c2:(dM s.2.2 id==(2:Int))=false:=by simpa using hk
   unfold jD;rw [aJn hk];exact cU c2 (aB (bCD hr hs hn) (aB (a0j s hs (oC s.2.2 id) (by have:=aCS hr hs hn;omega)) rfl))
theorem aGP {s:aZ}(hr:bK s=true)(hs:Small s.2.2){id:Int}(hn:Is s.2.2 id):(jD s.2.2 id).length≤40:=by
 unfold jD
 split
 ·simp
 ·have h1:=aCS hr hs hn;have h2:=aXR (fun n=>dM s.2.2 n==1) (oC s.2.2 id);omega
theorem aP5 {s:aZ}(hr:bK s=true)(hs:Small s.2.2){id n:Int}(hn:Is s.2.2 id)(h:n∈jD s.2.2 id):dM s.2.2 n=1:=by
 have hR:=bR hr;unfold jD at h
 split at h
 ·rename_i hk;obtain⟨t,ht,rfl⟩:=hn;have hg:=hR.mS.bW ht;rw [hg] at h;have hk2:t.2.1=2:=by rw [← hR.mS.kind ht];exact hk
  obtain⟨h1,h2⟩:=(Cp.rE (hR.ends t ht)).1 hk2;simp only [aQL,List.not_mem_nil,or_false] at h;rcases h with rfl | rfl
  ·split
   ·exact h2
   ·exact h1
  ·split
   ·exact h2
   ·exact h1
 ·have:=(aXV.1 h).2;simpa using this
theorem aCY (l:List Thing)(hs:Small l)(hl:l.length≤1000000):vV l=some l:=by
 have h90:QY l=some l:=by
  unfold QY;rw [show Nat.ble (l.length*128) 70368744177664=true from aPp (by omega)];rfl
 have h:=gM (G:=fun x=>pW x.1.2.2.1 x.1.2.2.2.1 x.2.1) (n:=l.length) (inv:=fun n=>(((),(),(l.length:Int),(n:Int),()),l,())) (y:=.inl (((),()),l,())) (fun n hn=>?_) ?_ l.length 0 fuel (by omega) (fuel_lt hs.1)
 ·unfold vV SA;rw [h90];show(aH _ fuel (((),(),(l.length:Int),((0:Nat):Int),()),l,())).bind _=_;rw [h];rfl
 ·have hg:=aJS hn;show pW (l.length:Int) (n:Int) l=_;simp only [pW,dec_lt hn,bI hn,cond_true,bB hg,aPj _ (hs.2 _ (aXB hn)),aEk,aN hn (by omega)];rw [Int.toNat_natCast,show(l[n].1,l[n].2.1,l[n].2.2.1,l[n].2.2.2.1,l[n].2.2.2.2)=l[n] from rfl,List.set_getElem_self]
 ·show pW (l.length:Int) (l.length:Int) l=_;simp only [pW,bA,cond_false]
def eT (f:fW→fW⊕Int)(L:List Int)(t:Thing):Thing⊕Int:=
 if L.contains (aT t) then(match f t.2.2.1.2.2.2.1 with
  | .inl p=>if rb (KA t.2.2.1 p) then .inl (t.1,t.2.1,KA t.2.2.1 p,t.2.2.2.1,t.2.2.2.2) else .inr 3
  | .inr e=>.inr e)
 else .inl t
def eL (f:fW→fW⊕Int)(L:List Int):List Thing→List Thing⊕Int
 | []=>.inl []
 | t :: r=>match eT f L t with
  | .inl u=>(match eL f L r with
   | .inl us=>.inl (u :: us)
   | .inr e=>.inr e)
  | .inr e=>.inr e
theorem bCL {f:fW→fW⊕Int}{L:List Int}{t u:Thing}(h:eT f L t=.inl u):sk u=sk t:=by
 unfold eT at h
 split at h
 ·split at h
  ·split at h
   ·cases h;rfl
   ·cases h
  ·cases h
 ·cases h;rfl
theorem AZ {f:fW→fW⊕Int}{L:List Int}:∀ {l us:List Thing},eL f L l=.inl us→gT l us
 | [],us,h=>by cases h;rfl
 | t :: r,us,h=>by
  unfold eL at h
  split at h
  ·rename_i u hu
   split at h
   ·rename_i vs hv;cases h;have:=AZ hv;unfold gT at this ⊢;rw [aXW,aXW,this,bCL hu]
   ·cases h
  ·cases h
theorem aVd {f:fW→fW⊕Int}{L:List Int}:∀ {l us:List Thing},eL f L l=.inl us→∀ u∈us,∃ t∈l,eT f L t=.inl u
 | [],us,h,u,hu=>by cases h;cases hu
 | t :: r,us,h,u,hu=>by
  unfold eL at h
  split at h
  ·rename_i v hv
   split at h
   ·rename_i vs hvs;cases h;rcases aQL.1 hu with rfl | hu
    ·exact⟨t,a1F,hv⟩
    ·obtain⟨w,hw,e⟩:=aVd hvs u hu;exact⟨w,a0y _ hw,e⟩
   ·cases h
  ·cases h
theorem a6r {f:fW→fW⊕Int}(hf:∀ p e,f p=.inr e→e≠0){L:List Int}{t:Thing}{e:Int}(h:eT f L t=.inr e):e≠0:=by
 unfold eT at h
 split at h
 ·split at h
  ·split at h
   ·cases h
   ·cases h;decide
  ·rename_i hx;cases h;exact hf _ _ hx
 ·cases h
theorem aJ5 {f:fW→fW⊕Int}(hf:∀ p e,f p=.inr e→e≠0){L:List Int}:∀ {l:List Thing} {e:Int},eL f L l=.inr e→e≠0
 | [],e,h=>by cases h
 | t :: r,e,h=>by
  unfold eL at h
  split at h
  ·split at h
   ·cases h
   ·rename_i hx;cases h;exact aJ5 hf hx
  ·rename_i hx;cases h;exact a6r hf hx
theorem aGQ {f:fW→fW⊕Int}{s:aZ}{id:Int}(hr:bK s=true)(hs:Small s.2.2)(hn:Is s.2.2 id){us:List Thing}(h:eL f (jD s.2.2 id) s.2.2=.inl us):bK (s.1,s.2.1,us)=true:=by
 have hR:=bR hr;refine(AZ h).right hr hs fun u hu=>?_;obtain⟨t,ht,e⟩:=aVd h u hu;have hrt:=(hR.low t ht).2.2;have htl:=hs.2 t ht;unfold eT at e
 split at e
 ·rename_i hc
  split at e
  ·rename_i p hp
   split at e
   ·rename_i hb;cases e;refine(yR (t:=(t.1,t.2.1,KA t.2.2.1 p,t.2.2.2.1,t.2.2.2.2)) htl).2 ?_;obtain⟨h1,h2⟩:=(yR htl).1 hrt;refine⟨h1,?_⟩;have hk:t.2.1=1:=by
     rw [← hR.mS.kind ht];exact aP5 hr hs hn (by simpa using hc)
    rcases h2 with⟨k1,k2,k3,k4⟩ | ⟨k1,_⟩ | ⟨k1,_⟩
    ·exact .inl ⟨k1,k2,k3,hb⟩
    ·rw [hk] at k1;exact absurd k1 (by decide)
    ·rw [hk] at k1;exact absurd k1 (by decide)
   ·cases e
  ·cases e
 ·cases e;exact hrt
theorem KE {α:Type}(d:List α)(t:α)(r:List α):(d++t :: r)[d.length]?=some t:=by
 rw [a1N (aKQ _),Nat.sub_self];rfl
theorem EA {α:Type}(d:List α)(t u:α)(r:List α):(d++t :: r).set d.length u=d++u :: r:=by
 rw [List.set_append_right _ _ (aKQ _),Nat.sub_self];rfl
section
variable {f:fW→fW⊕Int}{w:aR.El}(hf:∀ p,JX w p=some (match f p with | .inl q=>.inl ((q,()):aS [aU]) | .inr e=>.inr e)){L:List Int}(hL:L.length≤1000000000)(b0:Ty.El aU×Ty.El I×Unit×Unit)
include hf hL
theorem a0k {row:List Thing}{k N:Nat}{t:Thing}(hk:row[k]?=some t)(hN:row.length=N)(hN2:N≤1000000000):gZ (N:Int) (k:Int) b0 (L,()) ((),()) (w,()) row =
  some (match eT f L t with
   | .inl u=>.inl (((),(),(),(),(N:Int),((k+1:Nat):Int),()),b0,(L,()),((),()),(w,()),row.set k u,())
   | .inr e=>.inr (.inr (e,(),b0,(L,()),((),()),(w,()),row,()))):=by
 have hkN:k<N:=by rw [← hN];exact dF hk
 have hd:row.getD (Int.toNat (k:Int)) aA.dflt=t:=bB hk;have h1:decide ((0:Int)≤(k:Int)∧(k:Int)<((row.length:Nat):Int))=true:=bI (by rw [hN];exact hkN);have hw:IntKind.i64.wrap ((k:Int)+1)=((k+1:Nat):Int):=aN hkN (by omega);have a6s:RV L t.1=some ((L.contains (aT t),()):aS [.bool]):=aZZ _ _ hL;unfold eT;simp only [gZ,dec_lt hkN,cond_true,h1,hd,aEk,hw,a6s];cases hc:L.contains (aT t) with
 | false=>
  simp only [a9A,cond_true,aZC,if_false,kT hk]
 | true=>
  have hmv:=hf t.2.2.1.2.2.2.1;simp only [aXM,cond_false,if_true,hmv,aEk];cases hp:f t.2.2.1.2.2.2.1 with
  | inr e=>rfl
  | inl p=>
   have h88:l5 (t.2.2.1.1,t.2.2.1.2.1,t.2.2.1.2.2.1,p,t.2.2.1.2.2.2.2)=some ((rb (KA t.2.2.1 p),()):aS [.bool]):=aPW _;simp only [aQM,h88,aEk];cases hb:rb (KA t.2.2.1 p) with
   | false=>rfl
   | true=>rfl
theorem aNc {N:Nat}(hN2:N≤1000000000):∀ (rest done:List Thing) (m:Nat),done.length+rest.length=N→rest.length<m →
  (∃ us,eL f L rest=.inl us∧aH (fun x=>gZ x.1.2.2.2.2.1 x.1.2.2.2.2.2.1 x.2.1 x.2.2.1 x.2.2.2.1 x.2.2.2.2.1 x.2.2.2.2.2.1) m (((),(),(),(),(N:Int),(done.length:Int),()),b0,(L,()),((),()),(w,()),done++rest,())=some (.inl (.inl ((),b0,(L,()),((),()),(w,()),done++us,())))) ∨
  ∃ e row,eL f L rest=.inr e∧aH (fun x=>gZ x.1.2.2.2.2.1 x.1.2.2.2.2.2.1 x.2.1 x.2.2.1 x.2.2.2.1 x.2.2.2.2.1 x.2.2.2.2.2.1) m (((),(),(),(),(N:Int),(done.length:Int),()),b0,(L,()),((),()),(w,()),done++rest,())=some (.inr (e,(),b0,(L,()),((),()),(w,()),row,()))
 | _,_,0,_,h=>absurd h (a9x _)
 | [],done,m+1,h,_=>by
  refine .inl ⟨[],rfl,?_⟩;have e:done.length=N:=by simpa using h
  simp only [aH];have:gZ (N:Int) (done.length:Int) b0 (L,()) ((),()) (w,()) (done++[])=some (.inr (.inl (.inl ((),b0,(L,()),((),()),(w,()),done++[],())))):=by
   rw [e];simp only [gZ,bA,cond_false]
  exact aB this rfl
 | t :: rest,done,m+1,h,hm=>by
  have hN:(done++t :: rest).length=N:=by rw [aPk];exact h
  have hstep:=a0k hf hL b0 (KE done t rest) hN hN2;simp only [aH];unfold eL;cases he:eT f L t with
  | inr e=>
   rw [he] at hstep;exact .inr ⟨e,_,rfl,aB hstep rfl⟩
  | inl u=>
   rw [he] at hstep;simp only [EA] at hstep;have hlen:((done++[u]).length:Nat)=done.length+1:=by simp
   have ih:=aNc hN2 rest (done++[u]) m (by rw [hlen];simp at h;omega) (by simp at hm;omega);rw [hlen,aQ4] at ih;rcases ih with⟨us,h1,h2⟩ | ⟨e,row,h1,h2⟩
   ·rw [h1];refine .inl ⟨u :: us,rfl,aB hstep ?_⟩;rw [aQ4] at h2;exact h2
   ·rw [h1];exact .inr ⟨e,row,rfl,aB hstep h2⟩
end
theorem aVe {f:fW→fW⊕Int}{w:aR.El}(hf:∀ p,JX w p=some (match f p with | .inl q=>.inl ((q,()):aS [aU]) | .inr e=>.inr e))(hs:Small w.1.2.2)(hr:bK w.1=true) :
  ((bW w.1.2.2 w.2.1.2.1).2=false∧pZ (w,())=some (((w.1,0,10,()),(w,()),()):pY.El)) ∨
  ((bW w.1.2.2 w.2.1.2.1).2=true∧∃ us,eL f (jD w.1.2.2 w.2.1.2.1) w.1.2.2=.inl us∧pZ (w,())=some ((((w.1.1,w.1.2.1,us),0,0,()),(w,()),()):pY.El)) ∨
  ((bW w.1.2.2 w.2.1.2.1).2=true∧∃ e row,eL f (jD w.1.2.2 w.2.1.2.1) w.1.2.2=.inr e∧pZ (w,())=some ((((w.1.1,w.1.2.1,row),0,e,()),(w,()),()):pY.El)):=by
 have h43:=bCK w.1 w.2.1.2.1 hs hr;unfold pZ;cases hg:(bW w.1.2.2 w.2.1.2.1).2 with
 | false=>
  rw [hg,aJn (by decide)] at h43;exact .inl ⟨rfl,aB h43 rfl⟩
 | true=>
  rw [hg,aJb rfl] at h43;have hL:(jD w.1.2.2 w.2.1.2.1).length≤1000000000:=by have:=aGP hr hs (oD hg);omega
  have ho:=aCY w.1.2.2 hs (by have:=(bR hr).len;omega);rcases aNc hf hL (w.1.1,w.1.2.1,(),()) (N:=w.1.2.2.length) hs.1 w.1.2.2 [] fuel (by simp) (fuel_lt hs.1) with⟨us,h1,h2⟩ | ⟨e,row,h1,h2⟩
  ·refine .inr (.inl ⟨rfl,us,h1,aB h43 (cU rfl (aB ho ?_))⟩);have h3:l9 (w.1.1,w.1.2.1,(),()) (jD w.1.2.2 w.2.1.2.1,()) ((),()) (w,()) w.1.2.2=some (.inl ((),(w.1.1,w.1.2.1,(),()),(jD w.1.2.2 w.2.1.2.1,()),((),()),(w,()),us,())):=by
    unfold l9;exact aB h2 rfl
   have h4:n9 (w.1.1,w.1.2.1,(),()) (jD w.1.2.2 w.2.1.2.1,()) ((),()) (w,()) w.1.2.2=some ((0,()),(w.1.1,w.1.2.1,(),()),(jD w.1.2.2 w.2.1.2.1,()),((),()),(w,()),us,()):=by
    unfold n9;exact aB h3 rfl
   exact aB h4 rfl
  ·refine .inr (.inr ⟨rfl,e,row,h1,aB h43 (cU rfl (aB ho ?_))⟩);have h3:l9 (w.1.1,w.1.2.1,(),()) (jD w.1.2.2 w.2.1.2.1,()) ((),()) (w,()) w.1.2.2=some (.inr (e,(),(w.1.1,w.1.2.1,(),()),(jD w.1.2.2 w.2.1.2.1,()),((),()),(w,()),row,())):=by
    unfold l9;exact aB h2 rfl
   have h4:n9 (w.1.1,w.1.2.1,(),()) (jD w.1.2.2 w.2.1.2.1,()) ((),()) (w,()) w.1.2.2=some ((e,()),(w.1.1,w.1.2.1,(),()),(jD w.1.2.2 w.2.1.2.1,()),((),()),(w,()),row,()):=by
    unfold n9;exact aB h3 rfl
   exact aB h4 rfl
section
variable {f:fW→fW⊕Int}{w:aR.El}(hf:∀ p,J4 w p=some (match f p with | .inl q=>.inl ((q,()):aS [aU]) | .inr e=>.inr e)){L:List Int}(hL:L.length≤1000000000)(b0:Ty.El aU×Ty.El I×Unit×Unit)
include hf hL
theorem a0l {row:List Thing}{k N:Nat}{t:Thing}(hk:row[k]?=some t)(hN:row.length=N)(hN2:N≤1000000000):g8 (N:Int) (k:Int) b0 (L,()) ((),()) (w,()) row =
  some (match eT f L t with
   | .inl u=>.inl (((),(),(),(),(N:Int),((k+1:Nat):Int),()),b0,(L,()),((),()),(w,()),row.set k u,())
   | .inr e=>.inr (.inr (e,(),b0,(L,()),((),()),(w,()),row,()))):=by
 have hkN:k<N:=by rw [← hN];exact dF hk
 have hd:row.getD (Int.toNat (k:Int)) aA.dflt=t:=bB hk;have h1:decide ((0:Int)≤(k:Int)∧(k:Int)<((row.length:Nat):Int))=true:=bI (by rw [hN];exact hkN);have hw:IntKind.i64.wrap ((k:Int)+1)=((k+1:Nat):Int):=aN hkN (by omega);have a6s:RV L t.1=some ((L.contains (aT t),()):aS [.bool]):=aZZ _ _ hL;unfold eT;simp only [g8,dec_lt hkN,cond_true,h1,hd,aEk,hw,a6s];cases hc:L.contains (aT t) with
 | false=>
  simp only [a9A,cond_true,aZC,if_false,kT hk]
 | true=>
  have hmv:=hf t.2.2.1.2.2.2.1;simp only [aXM,cond_false,if_true,hmv,aEk];cases hp:f t.2.2.1.2.2.2.1 with
  | inr e=>rfl
  | inl p=>
   have h88:l5 (t.2.2.1.1,t.2.2.1.2.1,t.2.2.1.2.2.1,p,t.2.2.1.2.2.2.2)=some ((rb (KA t.2.2.1 p),()):aS [.bool]):=aPW _;simp only [aQM,h88,aEk];cases hb:rb (KA t.2.2.1 p) with
   | false=>rfl
   | true=>rfl
theorem aNd {N:Nat}(hN2:N≤1000000000):∀ (rest done:List Thing) (m:Nat),done.length+rest.length=N→rest.length<m →
  (∃ us,eL f L rest=.inl us∧aH (fun x=>g8 x.1.2.2.2.2.1 x.1.2.2.2.2.2.1 x.2.1 x.2.2.1 x.2.2.2.1 x.2.2.2.2.1 x.2.2.2.2.2.1) m (((),(),(),(),(N:Int),(done.length:Int),()),b0,(L,()),((),()),(w,()),done++rest,())=some (.inl (.inl ((),b0,(L,()),((),()),(w,()),done++us,())))) ∨
  ∃ e row,eL f L rest=.inr e∧aH (fun x=>g8 x.1.2.2.2.2.1 x.1.2.2.2.2.2.1 x.2.1 x.2.2.1 x.2.2.2.1 x.2.2.2.2.1 x.2.2.2.2.2.1) m (((),(),(),(),(N:Int),(done.length:Int),()),b0,(L,()),((),()),(w,()),done++rest,())=some (.inr (e,(),b0,(L,()),((),()),(w,()),row,()))
 | _,_,0,_,h=>absurd h (a9x _)
 | [],done,m+1,h,_=>by
  refine .inl ⟨[],rfl,?_⟩;have e:done.length=N:=by simpa using h
  simp only [aH];have:g8 (N:Int) (done.length:Int) b0 (L,()) ((),()) (w,()) (done++[])=some (.inr (.inl (.inl ((),b0,(L,()),((),()),(w,()),done++[],())))):=by
   rw [e];simp only [g8,bA,cond_false]
  exact aB this rfl
 | t :: rest,done,m+1,h,hm=>by
  have hN:(done++t :: rest).length=N:=by rw [aPk];exact h
  have hstep:=a0l hf hL b0 (KE done t rest) hN hN2;simp only [aH];unfold eL;cases he:eT f L t with
  | inr e=>
   rw [he] at hstep;exact .inr ⟨e,_,rfl,aB hstep rfl⟩
  | inl u=>
   rw [he] at hstep;simp only [EA] at hstep;have hlen:((done++[u]).length:Nat)=done.length+1:=by simp
   have ih:=aNd hN2 rest (done++[u]) m (by rw [hlen];simp at h;omega) (by simp at hm;omega);rw [hlen,aQ4] at ih;rcases ih with⟨us,h1,h2⟩ | ⟨e,row,h1,h2⟩
   ·rw [h1];refine .inl ⟨u :: us,rfl,aB hstep ?_⟩;rw [aQ4] at h2;exact h2
   ·rw [h1];exact .inr ⟨e,row,rfl,aB hstep h2⟩
end
theorem aVg {f:fW→fW⊕Int}{w:aR.El}(hf:∀ p,J4 w p=some (match f p with | .inl q=>.inl ((q,()):aS [aU]) | .inr e=>.inr e))(hs:Small w.1.2.2)(hr:bK w.1=true) :
  ((bW w.1.2.2 w.2.1.2.1).2=false∧p8 (w,())=some (((w.1,0,10,()),(w,()),()):p7.El)) ∨
  ((bW w.1.2.2 w.2.1.2.1).2=true∧∃ us,eL f (jD w.1.2.2 w.2.1.2.1) w.1.2.2=.inl us∧p8 (w,())=some ((((w.1.1,w.1.2.1,us),0,0,()),(w,()),()):p7.El)) ∨
  ((bW w.1.2.2 w.2.1.2.1).2=true∧∃ e row,eL f (jD w.1.2.2 w.2.1.2.1) w.1.2.2=.inr e∧p8 (w,())=some ((((w.1.1,w.1.2.1,row),0,e,()),(w,()),()):p7.El)):=by
 have h43:=bCK w.1 w.2.1.2.1 hs hr;unfold p8;cases hg:(bW w.1.2.2 w.2.1.2.1).2 with
 | false=>
  rw [hg,aJn (by decide)] at h43;exact .inl ⟨rfl,aB h43 rfl⟩
 | true=>
  rw [hg,aJb rfl] at h43;have hL:(jD w.1.2.2 w.2.1.2.1).length≤1000000000:=by have:=aGP hr hs (oD hg);omega
  have ho:=aCY w.1.2.2 hs (by have:=(bR hr).len;omega);rcases aNd hf hL (w.1.1,w.1.2.1,(),()) (N:=w.1.2.2.length) hs.1 w.1.2.2 [] fuel (by simp) (fuel_lt hs.1) with⟨us,h1,h2⟩ | ⟨e,row,h1,h2⟩
  ·refine .inr (.inl ⟨rfl,us,h1,aB h43 (cU rfl (aB ho ?_))⟩);have h3:mA (w.1.1,w.1.2.1,(),()) (jD w.1.2.2 w.2.1.2.1,()) ((),()) (w,()) w.1.2.2=some (.inl ((),(w.1.1,w.1.2.1,(),()),(jD w.1.2.2 w.2.1.2.1,()),((),()),(w,()),us,())):=by
    unfold mA;exact aB h2 rfl
   have h4:oB (w.1.1,w.1.2.1,(),()) (jD w.1.2.2 w.2.1.2.1,()) ((),()) (w,()) w.1.2.2=some ((0,()),(w.1.1,w.1.2.1,(),()),(jD w.1.2.2 w.2.1.2.1,()),((),()),(w,()),us,()):=by
    unfold oB;exact aB h3 rfl
   exact aB h4 rfl
  ·refine .inr (.inr ⟨rfl,e,row,h1,aB h43 (cU rfl (aB ho ?_))⟩);have h3:mA (w.1.1,w.1.2.1,(),()) (jD w.1.2.2 w.2.1.2.1,()) ((),()) (w,()) w.1.2.2=some (.inr (e,(),(w.1.1,w.1.2.1,(),()),(jD w.1.2.2 w.2.1.2.1,()),((),()),(w,()),row,())):=by
    unfold mA;exact aB h2 rfl
   have h4:oB (w.1.1,w.1.2.1,(),()) (jD w.1.2.2 w.2.1.2.1,()) ((),()) (w,()) w.1.2.2=some ((e,()),(w.1.1,w.1.2.1,(),()),(jD w.1.2.2 w.2.1.2.1,()),((),()),(w,()),row,()):=by
    unfold oB;exact aB h3 rfl
   exact aB h4 rfl
section
variable {s:aZ}{id:Int}{us:List Thing}
theorem Cp.first (h:Cp s id us):(fV (.int .i64) (.int .i64) id (HY s id)).getD 0=fi s id id:=by
 have hid:id∈jT s.2.2 id:=Cp.OA (aU5 h.rt h.sm h.is);obtain⟨j,hj,e⟩:=List.getElem_of_mem hid;have e':(jT s.2.2 id)[j]?=some id:=by rw [aJS hj,e]
 have:=(aM3 (w9 s) (AY h.rt h.sm h.is) _ (aKQ _)).1 j id hj e';have this:fV (.int .i64) (.int .i64) id (HY s id)=some (w9 s+(j:Int)):=this;show _=(fV (.int .i64) (.int .i64) id (HY s id)).getD id;rw [this];rfl
end
end Go.DI.S
end
