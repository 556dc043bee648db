import Derived.Test.YtbjldjihpekhaaaGreatMd
import Derived.Test.YtbjldjihpekhaaaGreatXb
import Derived.Test.YtbjldjihpekhaaaGreatNe
/- Bodies elsewhere; a copy that goes, plain. No conditions. -/
set_option linter.unusedSimpArgs false
set_option linter.unusedVariables false
set_option maxRecDepth 100000
set_option maxHeartbeats 0
noncomputable section
namespace Go.DI.S
open Go.Proofs
def gOk (n:Int):Bool:=match F_get (FloatKind.f64.nearest n) with
 | some (a,b,())=>decide (a=n*4294967296)&&decide (b=0)
 | none=>false
def gRow (a:Int):Nat→Bool
 | 0=>true
 | k+1=>gOk (a+k)&&gRow a k
def sk (t:Thing):Int×Int×Joint×List Int:=(t.1,t.2.1,t.2.2.2.1,t.2.2.2.2)
def Like (l l':List Thing):Prop:=l'.map sk=l.map sk
section
variable {l l':List Thing}
theorem Like.symm (h:Like l l'):Like l' l:=Eq.symm h
theorem Like.len (h:Like l l'):l'.length=l.length:=by
 have:=congrArg List.length h
 simpa using this
theorem Like.at (h:Like l l'){k:Nat}{t:Thing}(ht:l[k]?=some t):∃ t',l'[k]?=some t'∧sk t'=sk t:=by
 have e:(l'.map sk)[k]?=(l.map sk)[k]?:=congrArg (·[k]?) h
 rw [List.getElem?_map,List.getElem?_map,ht] at e
 exact Option.map_eq_some_iff.1 e
theorem Like.mem (h:Like l l'){t:Thing}(ht:t∈l):∃ t'∈l',sk t'=sk t:=by
 obtain⟨k,hk⟩:=List.mem_iff_getElem?.1 ht
 obtain⟨t',h1,h2⟩:=h.at hk
 exact⟨t',List.mem_of_getElem? h1,h2⟩
theorem sk_id {t t':Thing}(h:sk t'=sk t):nid t'=nid t:=congrArg (fun x=>x.1) h
theorem sk_kind {t t':Thing}(h:sk t'=sk t):t'.2.1=t.2.1:=congrArg (fun x=>x.2.1) h
theorem sk_joint {t t':Thing}(h:sk t'=sk t):t'.2.2.2.1=t.2.2.2.1:=congrArg (fun x=>x.2.2.1) h
theorem sk_ins {t t':Thing}(h:sk t'=sk t):ins t'=ins t:=congrArg (fun x=>x.2.2.2) h
theorem Like.idx (h:Like l l')(n:Int):S.idx l' n=S.idx l n:=by
 have e:∀ l:List Thing,S.idx l n=(l.map sk).findIdx? (fun x=>x.1==n):=fun l=>by
  unfold S.idx
  rw [List.findIdx?_map];rfl
 rw [e,e,h]
theorem Like.grp (h:Like l l')(n:Int):S.grp l' n=S.grp l n:=by
 have e:∀ l:List Thing,S.grp l n=match (l.map sk).find? (fun x=>x.2.2.2.contains n) with | some x=>x.1 | none=>0:=fun l=>by
  unfold S.grp
  rw [List.find?_map]
  show _=match Option.map sk (l.find? (fun t=>(ins t).contains n)) with | some x=>x.1 | none=>0
  cases l.find? (fun t=>(ins t).contains n) <;> rfl
 rw [e,e,h]
theorem Like.upn (h:Like l l'):∀ (k:Nat) (n:Int),S.upn l' k n=S.upn l k n
 | 0,n=>rfl
 | k+1,n=>by
  show S.upn l' k (S.grp l' n)=S.upn l k (S.grp l n)
  rw [h.grp,h.upn k]
theorem Like.get (h:Like l l')(n:Int):sk (getB l' n).1=sk (getB l n).1∧(getB l' n).2=(getB l n).2:=by
 unfold getB
 rw [h.idx]
 cases hx:S.idx l n with
 | none=>exact⟨rfl,rfl⟩
 | some k=>
  obtain⟨t,ht,_⟩:=idx_lt hx
  obtain⟨t',ht',e⟩:=h.at ht
  simp only [ht,ht',Option.getD_some,e,and_self]
theorem Like.kind (h:Like l l')(n:Int):kindB l' n=kindB l n:=sk_kind (h.get n).1
theorem Like.inT (h:Like l l'):∀ (f:Nat) (n:Int),S.inT l' f n=S.inT l f n
 | 0,n=>rfl
 | f+1,n=>by
  have hf:S.inT l' f=S.inT l f:=funext (h.inT f)
  unfold S.inT
  rw [h.idx]
  cases hx:S.idx l n with
  | none=>rfl
  | some k=>
   obtain⟨t,ht,_⟩:=idx_lt hx
   obtain⟨t',ht',e⟩:=h.at ht
   simp only [ht,ht',Option.getD_some,sk_ins e,hf]
theorem Like.ina (h:Like l l')(n:Int):S.ina l' n=S.ina l n:=by
 unfold S.ina
 rw [h.inT]
theorem Like.nids (h:Like l l'):l'.map nid=l.map nid:=by
 have e:∀ l:List Thing,l.map nid=(l.map sk).map (fun x=>x.1):=fun l=>by rw [List.map_map];rfl
 rw [e,e,h]
theorem Like.is (h:Like l l'){n:Int}(hn:Is l n):Is l' n:=by
 obtain⟨t,ht,rfl⟩:=hn
 obtain⟨t',h1,h2⟩:=h.mem ht
 exact⟨t',h1,sk_id h2⟩
theorem Like.asc (h:Like l l')(ha:Asc l):Asc l':=asc_iff.2 (by rw [h.nids];exact asc_iff.1 ha)
theorem Like.apart (h:Like l l')(ha:Apart l):Apart l':=by
 have e:∀ l:List Thing,l.flatMap ins=(l.map sk).flatMap (fun x=>x.2.2.2):=fun l=>by rw [List.flatMap_map];rfl
 unfold Apart at ha ⊢
 rw [e,h,← e]
 exact ha
theorem Like.small (h:Like l l')(hs:Small l):Small l':=by
 refine⟨by rw [h.len];exact hs.1,fun t' ht'=>?_⟩
 obtain⟨t,ht,e⟩:=h.symm.mem ht'
 have:=sk_ins e
 unfold ins at this
 rw [← this]
 exact hs.2 t ht
theorem Like.right {s:Scene}(hr:rightB s=true)(hs:Small s.2.2)(h:Like s.2.2 l')(hrt:∀ t∈l',rt t=true):rightB (s.1,s.2.1,l')=true:=by
 have hR:=right_of hr
 have hs':=h.small hs
 have ha':=h.asc hR.asc
 refine right_mk ha' (fun t' ht'=>?_) (by show l'.length≤40;rw [h.len];exact hR.len) hR.next (near_of (s:=s) hr) (fun t' ht'=>?_) (h.apart hR.apart) (fun t' ht' j hj=>?_)
 ·obtain⟨t,ht,e⟩:=h.symm.mem ht'
  have:=hR.low t ht
  exact⟨by rw [← sk_id e];exact this.1,by rw [← sk_id e];exact this.2.1,hrt t' ht'⟩
 ·obtain⟨t,ht,e⟩:=h.symm.mem ht'
  obtain⟨h1,h2⟩:=Cp.end_get (hR.ends t ht)
  refine Cp.end_mk (fun hk=>?_) (fun n hn=>?_)
  ·have:=h1 (by rw [sk_kind e];exact hk)
   rw [← sk_joint e]
   exact⟨by show kindB l' _=1;rw [h.kind];exact this.1,by show kindB l' _=1;rw [h.kind];exact this.2⟩
  ·have:=h2 n (by rw [sk_ins e];exact hn)
   exact has_of (s:=(s.1,s.2.1,l')) hs' ha' (h.is (has_is hs this))
 ·obtain⟨t,ht,e⟩:=h.symm.mem ht'
  have hj:j<s.2.2.length:=by rw [← h.len];exact hj
  show S.upn l' j (S.grp l' (nid t'))≠nid t'
  rw [h.grp,h.upn,← sk_id e]
  exact hR.nocycle ⟨t,ht,rfl⟩ (j+1) (by omega) (by omega)
end
def bods (l:List Thing)(id:Int):List Int:=if kindB l id=2 then [if(getB l id).1.2.2.2.1.2.1<(getB l id).1.2.2.2.1.1 then(getB l id).1.2.2.2.1.2.1 else(getB l id).1.2.2.2.1.1,if(getB l id).1.2.2.2.1.2.1>(getB l id).1.2.2.2.1.1 then(getB l id).1.2.2.2.1.2.1 else(getB l id).1.2.2.2.1.1] else(ina l id).filter (fun n=>kindB l n==1)
theorem Like.bods {l l':List Thing}(h:Like l l')(n:Int):S.bods l' n=S.bods l n:=by
 unfold S.bods
 have e:(fun m=>kindB l' m==1)=(fun m=>kindB l m==1):=funext fun m=>by rw [h.kind]
 rw [h.kind,sk_joint (h.get n).1,h.ina,e]
theorem is_getB {l:List Thing}{n:Int}(h:(getB l n).2=true):Is l n:=by
 unfold getB at h
 cases hx:idx l n with
 | none=>rw [hx] at h;cases h
 | some k=>
  obtain⟨t,ht,e⟩:=idx_lt hx
  exact⟨t,List.mem_of_getElem? ht,e⟩
theorem q_43_10 (s:Scene)(hs:Small s.2.2)(l:List Int)(hl:l.length≤1000000000) :
  R_43_10 (((),(),l,(l.length:Int),(0:Int),()),(s,()),[],())=some (.inl (((),()),l.filter (fun n=>kindB s.2.2 n==1),())):=by
 have h:=rounds_to (G:=fun x=>G_43_10 x.1.2.2.1 x.1.2.2.2.1 x.1.2.2.2.2.1 x.2.1 x.2.2.1) (n:=l.length)
  (inv:=fun k=>(((),(),l,(l.length:Int),(k:Int),()),(s,()),(l.take k).filter (fun n=>kindB s.2.2 n==1),())) (y:=.inl (((),()),(l.take l.length).filter (fun n=>kindB s.2.2 n==1),())) (fun k hk=>?_) ?_ l.length 0 fuel (by omega) (fuel_lt hl)
 ·rw [List.take_length] at h
  exact h
 ·have ha:=List.getElem?_eq_getElem hk
  have hf:=List.length_filter_le (fun n=>kindB s.2.2 n==1) (l.take k)
  have hf:((l.take k).filter (fun n=>kindB s.2.2 n==1)).length≤k:=Nat.le_trans hf (by rw [List.length_take];omega)
  rw [List.take_succ_eq_append_getElem hk,List.filter_append]
  simp only [G_43_10,dec_lt hk,dec_in hk,cond_true,getD_of ha,wrap_up hk (by omega),v_23 s _ hs.1 hs.2,Option.bind_some]
  show(bif(kindB s.2.2 l[k]==1) then _ else _)=_
  cases hc:(kindB s.2.2 l[k]==1) with
  | true=>
   have:[l[k]].filter (fun n=>kindB s.2.2 n==1)=[l[k]]:=by simp only [List.filter_cons,hc,if_true,List.filter_nil]
   rw [this,cond_true]
   exact yesV (Nat.ble_eq_true_of_le (Nat.le_trans (Nat.mul_le_mul_right 8 (Nat.add_le_add_right hf 1)) (by omega))) rfl
  | false=>
   have:[l[k]].filter (fun n=>kindB s.2.2 n==1)=[]:=by simp only [List.filter_cons,hc,Bool.false_eq_true,if_false,List.filter_nil]
   rw [this,List.append_nil,cond_false]
 ·simp only [G_43_10,dec_end,cond_false]
theorem v_43 (s:Scene)(id:Int)(hs:Small s.2.2)(hr:rightB s=true):F_43 s id=some (if(getB s.2.2 id).2=true then((bods s.2.2 id,0,()):Els [.list I,I]) else([],10,())):=by
 have e23:=v_23 s id hs.1 hs.2
 have e20:=v_20 s hs
 rw [hr] at e20
 unfold F_43
 refine bind_ofV e20 (noV rfl (bind_ofV e23 ?_))
 cases hg:(getB s.2.2 id).2 with
 | false=>simp only [if_neg (by decide:¬(false=true))];rfl
 | true=>
  have hn:=is_getB hg
  rw [if_pos rfl]
  refine noV rfl ?_
  by_cases hk:kindB s.2.2 id=2
  ·have c2:(kindB s.2.2 id==(2:Int))=true:=by rw [hk];rfl
   unfold bods
   rw [if_pos hk]
   exact yesV c2 rfl
  ·have c2:(kindB s.2.2 id==(2:Int))=false:=by simpa using hk
   unfold bods
   rw [if_neg hk]
   exact noV c2 (bind_ofV (v_37 hr hs hn) (bind_ofV (q_43_10 s hs (ina s.2.2 id) (by have:=ina_few hr hs hn;omega)) rfl))
theorem bods_few {s:Scene}(hr:rightB s=true)(hs:Small s.2.2){id:Int}(hn:Is s.2.2 id):(bods s.2.2 id).length≤40:=by
 unfold bods
 split
 ·simp
 ·have h1:=ina_few hr hs hn
  have h2:=List.length_filter_le (fun n=>kindB s.2.2 n==1) (ina s.2.2 id)
  omega
theorem bods_kind {s:Scene}(hr:rightB s=true)(hs:Small s.2.2){id n:Int}(hn:Is s.2.2 id)(h:n∈bods s.2.2 id):kindB s.2.2 n=1:=by
 have hR:=right_of hr
 unfold bods at h
 split at h
 ·rename_i hk
  obtain⟨t,ht,rfl⟩:=hn
  have hg:=hR.asc.getB ht
  rw [hg] at h
  have hk2:t.2.1=2:=by rw [← hR.asc.kind ht];exact hk
  obtain⟨h1,h2⟩:=(Cp.end_get (hR.ends t ht)).1 hk2
  simp only [List.mem_cons,List.not_mem_nil,or_false] at h
  rcases h with rfl | rfl
  ·split
   ·exact h2
   ·exact h1
  ·split
   ·exact h2
   ·exact h1
 ·have:=(List.mem_filter.1 h).2
  simpa using this
theorem v_oown (l:List Thing)(hs:Small l)(hl:l.length≤1000000):F_oown l=some l:=by
 have h90:F_90 l=some l:=by
  unfold F_90
  rw [show Nat.ble (l.length*128) 70368744177664=true from Nat.ble_eq_true_of_le (by omega)]
  rfl
 have h:=rounds_to (G:=fun x=>G_oown_3 x.1.2.2.1 x.1.2.2.2.1 x.2.1) (n:=l.length) (inv:=fun n=>(((),(),(l.length:Int),(n:Int),()),l,())) (y:=.inl (((),()),l,())) (fun n hn=>?_) ?_ l.length 0 fuel (by omega) (fuel_lt hs.1)
 ·unfold F_oown R_oown_3
  rw [h90]
  show(roundsT _ fuel (((),(),(l.length:Int),((0:Nat):Int),()),l,())).bind _=_
  rw [h];rfl
 ·have hg:=List.getElem?_eq_getElem hn
  show G_oown_3 (l.length:Int) (n:Int) l=_
  simp only [G_oown_3,dec_lt hn,dec_in hn,cond_true,getD_of hg,v_46 _ (hs.2 _ (List.getElem_mem hn)),Option.bind_some,wrap_up hn (by omega)]
  rw [Int.toNat_natCast,show(l[n].1,l[n].2.1,l[n].2.2.1,l[n].2.2.2.1,l[n].2.2.2.2)=l[n] from rfl,List.set_getElem_self]
 ·show G_oown_3 (l.length:Int) (l.length:Int) l=_
  simp only [G_oown_3,dec_end,cond_false]
def eT (f:Vec→Vec⊕Int)(L:List Int)(t:Thing):Thing⊕Int:=
 if L.contains (nid t) then(match f t.2.2.1.2.2.2.1 with
  | .inl p=>if rb (movB t.2.2.1 p) then .inl (t.1,t.2.1,movB t.2.2.1 p,t.2.2.2.1,t.2.2.2.2) else .inr 3
  | .inr e=>.inr e)
 else .inl t
def eL (f:Vec→Vec⊕Int)(L:List Int):List Thing→List Thing⊕Int
 | []=>.inl []
 | t :: r=>match eT f L t with
  | .inl u=>(match eL f L r with
   | .inl us=>.inl (u :: us)
   | .inr e=>.inr e)
  | .inr e=>.inr e
theorem eT_sk {f:Vec→Vec⊕Int}{L:List Int}{t u:Thing}(h:eT f L t=.inl u):sk u=sk t:=by
 unfold eT at h
 split at h
 ·split at h
  ·split at h
   ·cases h;rfl
   ·cases h
  ·cases h
 ·cases h;rfl
theorem eL_like {f:Vec→Vec⊕Int}{L:List Int}:∀ {l us:List Thing},eL f L l=.inl us→Like l us
 | [],us,h=>by cases h;rfl
 | t :: r,us,h=>by
  unfold eL at h
  split at h
  ·rename_i u hu
   split at h
   ·rename_i vs hv
    cases h
    have:=eL_like hv
    unfold Like at this ⊢
    rw [List.map_cons,List.map_cons,this,eT_sk hu]
   ·cases h
  ·cases h
theorem eL_mem {f:Vec→Vec⊕Int}{L:List Int}:∀ {l us:List Thing},eL f L l=.inl us→∀ u∈us,∃ t∈l,eT f L t=.inl u
 | [],us,h,u,hu=>by cases h;cases hu
 | t :: r,us,h,u,hu=>by
  unfold eL at h
  split at h
  ·rename_i v hv
   split at h
   ·rename_i vs hvs
    cases h
    rcases List.mem_cons.1 hu with rfl | hu
    ·exact⟨t,List.mem_cons_self,hv⟩
    ·obtain⟨w,hw,e⟩:=eL_mem hvs u hu
     exact⟨w,List.mem_cons_of_mem _ hw,e⟩
   ·cases h
  ·cases h
theorem eT_err {f:Vec→Vec⊕Int}(hf:∀ p e,f p=.inr e→e≠0){L:List Int}{t:Thing}{e:Int}(h:eT f L t=.inr e):e≠0:=by
 unfold eT at h
 split at h
 ·split at h
  ·split at h
   ·cases h
   ·cases h;decide
  ·rename_i hx;cases h;exact hf _ _ hx
 ·cases h
theorem eL_err {f:Vec→Vec⊕Int}(hf:∀ p e,f p=.inr e→e≠0){L:List Int}:∀ {l:List Thing} {e:Int},eL f L l=.inr e→e≠0
 | [],e,h=>by cases h
 | t :: r,e,h=>by
  unfold eL at h
  split at h
  ·split at h
   ·cases h
   ·rename_i hx;cases h;exact eL_err hf hx
  ·rename_i hx;cases h;exact eT_err hf hx
theorem eL_right {f:Vec→Vec⊕Int}{s:Scene}{id:Int}(hr:rightB s=true)(hs:Small s.2.2)(hn:Is s.2.2 id){us:List Thing}(h:eL f (bods s.2.2 id) s.2.2=.inl us):rightB (s.1,s.2.1,us)=true:=by
 have hR:=right_of hr
 refine(eL_like h).right hr hs fun u hu=>?_
 obtain⟨t,ht,e⟩:=eL_mem h u hu
 have hrt:=(hR.low t ht).2.2
 have htl:=hs.2 t ht
 unfold eT at e
 split at e
 ·rename_i hc
  split at e
  ·rename_i p hp
   split at e
   ·rename_i hb
    cases e
    refine(rt_iff (t:=(t.1,t.2.1,movB t.2.2.1 p,t.2.2.2.1,t.2.2.2.2)) htl).2 ?_
    obtain⟨h1,h2⟩:=(rt_iff htl).1 hrt
    refine⟨h1,?_⟩
    have hk:t.2.1=1:=by
     rw [← hR.asc.kind ht]
     exact bods_kind hr hs hn (by simpa using hc)
    rcases h2 with⟨k1,k2,k3,k4⟩ | ⟨k1,_⟩ | ⟨k1,_⟩
    ·exact .inl ⟨k1,k2,k3,hb⟩
    ·rw [hk] at k1;exact absurd k1 (by decide)
    ·rw [hk] at k1;exact absurd k1 (by decide)
   ·cases e
  ·cases e
 ·cases e;exact hrt
theorem append_at {α:Type}(d:List α)(t:α)(r:List α):(d++t :: r)[d.length]?=some t:=by
 rw [List.getElem?_append_right (Nat.le_refl _),Nat.sub_self];rfl
theorem append_set {α:Type}(d:List α)(t u:α)(r:List α):(d++t :: r).set d.length u=d++u :: r:=by
 rw [List.set_append_right _ _ (Nat.le_refl _),Nat.sub_self];rfl
section
variable {f:Vec→Vec⊕Int}{w:tWorker.El}(hf:∀ p,F_move w p=some (match f p with | .inl q=>.inl ((q,()):Els [tVec]) | .inr e=>.inr e)){L:List Int}(hL:L.length≤1000000000)(b0:Ty.El tVec×Ty.El I×Unit×Unit)
include hf hL
theorem step_qm {row:List Thing}{k N:Nat}{t:Thing}(hk:row[k]?=some t)(hN:row.length=N)(hN2:N≤1000000000):G_each1qm_1 (N:Int) (k:Int) b0 (L,()) ((),()) (w,()) row =
  some (match eT f L t with
   | .inl u=>.inl (((),(),(),(),(N:Int),((k+1:Nat):Int),()),b0,(L,()),((),()),(w,()),row.set k u,())
   | .inr e=>.inr (.inr (e,(),b0,(L,()),((),()),(w,()),row,()))):=by
 have hkN:k<N:=by rw [← hN];exact len_of hk
 have hd:row.getD (Int.toNat (k:Int)) tThing.dflt=t:=getD_of hk
 have h1:decide ((0:Int)≤(k:Int)∧(k:Int)<((row.length:Nat):Int))=true:=dec_in (by rw [hN];exact hkN)
 have hw:IntKind.i64.wrap ((k:Int)+1)=((k+1:Nat):Int):=wrap_up hkN (by omega)
 have hc59:F_59 L t.1=some ((L.contains (nid t),()):Els [.bool]):=v_59 _ _ hL
 unfold eT
 simp only [G_each1qm_1,dec_lt hkN,cond_true,h1,hd,Option.bind_some,hw,hc59]
 cases hc:L.contains (nid t) with
 | false=>
  simp only [Bool.not_false,cond_true,Bool.false_eq_true,if_false,set_same hk]
 | true=>
  have hmv:=hf t.2.2.1.2.2.2.1
  simp only [Bool.not_true,cond_false,if_true,hmv,Option.bind_some]
  cases hp:f t.2.2.1.2.2.2.1 with
  | inr e=>rfl
  | inl p=>
   have h88:F_88 (t.2.2.1.1,t.2.2.1.2.1,t.2.2.1.2.2.1,p,t.2.2.1.2.2.2.2)=some ((rb (movB t.2.2.1 p),()):Els [.bool]):=v_88 _
   simp only [Sum.elim_inl,h88,Option.bind_some]
   cases hb:rb (movB t.2.2.1 p) with
   | false=>rfl
   | true=>rfl
theorem loop_qm {N:Nat}(hN2:N≤1000000000):∀ (rest done:List Thing) (m:Nat),done.length+rest.length=N→rest.length<m →
  (∃ us,eL f L rest=.inl us∧roundsT (fun x=>G_each1qm_1 x.1.2.2.2.2.1 x.1.2.2.2.2.2.1 x.2.1 x.2.2.1 x.2.2.2.1 x.2.2.2.2.1 x.2.2.2.2.2.1) m (((),(),(),(),(N:Int),(done.length:Int),()),b0,(L,()),((),()),(w,()),done++rest,())=some (.inl (.inl ((),b0,(L,()),((),()),(w,()),done++us,())))) ∨
  ∃ e row,eL f L rest=.inr e∧roundsT (fun x=>G_each1qm_1 x.1.2.2.2.2.1 x.1.2.2.2.2.2.1 x.2.1 x.2.2.1 x.2.2.2.1 x.2.2.2.2.1 x.2.2.2.2.2.1) m (((),(),(),(),(N:Int),(done.length:Int),()),b0,(L,()),((),()),(w,()),done++rest,())=some (.inr (e,(),b0,(L,()),((),()),(w,()),row,()))
 | _,_,0,_,h=>absurd h (Nat.not_lt_zero _)
 | [],done,m+1,h,_=>by
  refine .inl ⟨[],rfl,?_⟩
  have e:done.length=N:=by simpa using h
  simp only [roundsT]
  have:G_each1qm_1 (N:Int) (done.length:Int) b0 (L,()) ((),()) (w,()) (done++[])=some (.inr (.inl (.inl ((),b0,(L,()),((),()),(w,()),done++[],())))):=by
   rw [e]
   simp only [G_each1qm_1,dec_end,cond_false]
  exact bind_ofV this rfl
 | t :: rest,done,m+1,h,hm=>by
  have hN:(done++t :: rest).length=N:=by rw [List.length_append];exact h
  have hstep:=step_qm hf hL b0 (append_at done t rest) hN hN2
  simp only [roundsT]
  unfold eL
  cases he:eT f L t with
  | inr e=>
   rw [he] at hstep
   exact .inr ⟨e,_,rfl,bind_ofV hstep rfl⟩
  | inl u=>
   rw [he] at hstep
   simp only [append_set] at hstep
   have hlen:((done++[u]).length:Nat)=done.length+1:=by simp
   have ih:=loop_qm hN2 rest (done++[u]) m (by rw [hlen];simp at h;omega) (by simp at hm;omega)
   rw [hlen,List.append_assoc] at ih
   rcases ih with⟨us,h1,h2⟩ | ⟨e,row,h1,h2⟩
   ·rw [h1]
    refine .inl ⟨u :: us,rfl,bind_ofV hstep ?_⟩
    rw [List.append_assoc] at h2
    exact h2
   ·rw [h1]
    exact .inr ⟨e,row,rfl,bind_ofV hstep h2⟩
end
theorem v_eachqm {f:Vec→Vec⊕Int}{w:tWorker.El}(hf:∀ p,F_move w p=some (match f p with | .inl q=>.inl ((q,()):Els [tVec]) | .inr e=>.inr e))(hs:Small w.1.2.2)(hr:rightB w.1=true) :
  ((getB w.1.2.2 w.2.1.2.1).2=false∧F_eachqm (w,())=some (((w.1,0,10,()),(w,()),()):OUT_eachqm.El)) ∨
  ((getB w.1.2.2 w.2.1.2.1).2=true∧∃ us,eL f (bods w.1.2.2 w.2.1.2.1) w.1.2.2=.inl us∧F_eachqm (w,())=some ((((w.1.1,w.1.2.1,us),0,0,()),(w,()),()):OUT_eachqm.El)) ∨
  ((getB w.1.2.2 w.2.1.2.1).2=true∧∃ e row,eL f (bods w.1.2.2 w.2.1.2.1) w.1.2.2=.inr e∧F_eachqm (w,())=some ((((w.1.1,w.1.2.1,row),0,e,()),(w,()),()):OUT_eachqm.El)):=by
 have h43:=v_43 w.1 w.2.1.2.1 hs hr
 unfold F_eachqm
 cases hg:(getB w.1.2.2 w.2.1.2.1).2 with
 | false=>
  rw [hg,if_neg (by decide)] at h43
  exact .inl ⟨rfl,bind_ofV h43 rfl⟩
 | true=>
  rw [hg,if_pos rfl] at h43
  have hL:(bods w.1.2.2 w.2.1.2.1).length≤1000000000:=by have:=bods_few hr hs (is_getB hg);omega
  have ho:=v_oown w.1.2.2 hs (by have:=(right_of hr).len;omega)
  rcases loop_qm hf hL (w.1.1,w.1.2.1,(),()) (N:=w.1.2.2.length) hs.1 w.1.2.2 [] fuel (by simp) (fuel_lt hs.1) with⟨us,h1,h2⟩ | ⟨e,row,h1,h2⟩
  ·refine .inr (.inl ⟨rfl,us,h1,bind_ofV h43 (noV rfl (bind_ofV ho ?_))⟩)
   have h3:F_each1qm (w.1.1,w.1.2.1,(),()) (bods w.1.2.2 w.2.1.2.1,()) ((),()) (w,()) w.1.2.2=some (.inl ((),(w.1.1,w.1.2.1,(),()),(bods w.1.2.2 w.2.1.2.1,()),((),()),(w,()),us,())):=by
    unfold F_each1qm
    exact bind_ofV h2 rfl
   have h4:F_tryqm (w.1.1,w.1.2.1,(),()) (bods w.1.2.2 w.2.1.2.1,()) ((),()) (w,()) w.1.2.2=some ((0,()),(w.1.1,w.1.2.1,(),()),(bods w.1.2.2 w.2.1.2.1,()),((),()),(w,()),us,()):=by
    unfold F_tryqm
    exact bind_ofV h3 rfl
   exact bind_ofV h4 rfl
  ·refine .inr (.inr ⟨rfl,e,row,h1,bind_ofV h43 (noV rfl (bind_ofV ho ?_))⟩)
   have h3:F_each1qm (w.1.1,w.1.2.1,(),()) (bods w.1.2.2 w.2.1.2.1,()) ((),()) (w,()) w.1.2.2=some (.inr (e,(),(w.1.1,w.1.2.1,(),()),(bods w.1.2.2 w.2.1.2.1,()),((),()),(w,()),row,())):=by
    unfold F_each1qm
    exact bind_ofV h2 rfl
   have h4:F_tryqm (w.1.1,w.1.2.1,(),()) (bods w.1.2.2 w.2.1.2.1,()) ((),()) (w,()) w.1.2.2=some ((e,()),(w.1.1,w.1.2.1,(),()),(bods w.1.2.2 w.2.1.2.1,()),((),()),(w,()),row,()):=by
    unfold F_tryqm
    exact bind_ofV h3 rfl
   exact bind_ofV h4 rfl
section
variable {f:Vec→Vec⊕Int}{w:tWorker.El}(hf:∀ p,F_turn w p=some (match f p with | .inl q=>.inl ((q,()):Els [tVec]) | .inr e=>.inr e)){L:List Int}(hL:L.length≤1000000000)(b0:Ty.El tVec×Ty.El I×Unit×Unit)
include hf hL
theorem step_qt {row:List Thing}{k N:Nat}{t:Thing}(hk:row[k]?=some t)(hN:row.length=N)(hN2:N≤1000000000):G_each1qt_1 (N:Int) (k:Int) b0 (L,()) ((),()) (w,()) row =
  some (match eT f L t with
   | .inl u=>.inl (((),(),(),(),(N:Int),((k+1:Nat):Int),()),b0,(L,()),((),()),(w,()),row.set k u,())
   | .inr e=>.inr (.inr (e,(),b0,(L,()),((),()),(w,()),row,()))):=by
 have hkN:k<N:=by rw [← hN];exact len_of hk
 have hd:row.getD (Int.toNat (k:Int)) tThing.dflt=t:=getD_of hk
 have h1:decide ((0:Int)≤(k:Int)∧(k:Int)<((row.length:Nat):Int))=true:=dec_in (by rw [hN];exact hkN)
 have hw:IntKind.i64.wrap ((k:Int)+1)=((k+1:Nat):Int):=wrap_up hkN (by omega)
 have hc59:F_59 L t.1=some ((L.contains (nid t),()):Els [.bool]):=v_59 _ _ hL
 unfold eT
 simp only [G_each1qt_1,dec_lt hkN,cond_true,h1,hd,Option.bind_some,hw,hc59]
 cases hc:L.contains (nid t) with
 | false=>
  simp only [Bool.not_false,cond_true,Bool.false_eq_true,if_false,set_same hk]
 | true=>
  have hmv:=hf t.2.2.1.2.2.2.1
  simp only [Bool.not_true,cond_false,if_true,hmv,Option.bind_some]
  cases hp:f t.2.2.1.2.2.2.1 with
  | inr e=>rfl
  | inl p=>
   have h88:F_88 (t.2.2.1.1,t.2.2.1.2.1,t.2.2.1.2.2.1,p,t.2.2.1.2.2.2.2)=some ((rb (movB t.2.2.1 p),()):Els [.bool]):=v_88 _
   simp only [Sum.elim_inl,h88,Option.bind_some]
   cases hb:rb (movB t.2.2.1 p) with
   | false=>rfl
   | true=>rfl
theorem loop_qt {N:Nat}(hN2:N≤1000000000):∀ (rest done:List Thing) (m:Nat),done.length+rest.length=N→rest.length<m →
  (∃ us,eL f L rest=.inl us∧roundsT (fun x=>G_each1qt_1 x.1.2.2.2.2.1 x.1.2.2.2.2.2.1 x.2.1 x.2.2.1 x.2.2.2.1 x.2.2.2.2.1 x.2.2.2.2.2.1) m (((),(),(),(),(N:Int),(done.length:Int),()),b0,(L,()),((),()),(w,()),done++rest,())=some (.inl (.inl ((),b0,(L,()),((),()),(w,()),done++us,())))) ∨
  ∃ e row,eL f L rest=.inr e∧roundsT (fun x=>G_each1qt_1 x.1.2.2.2.2.1 x.1.2.2.2.2.2.1 x.2.1 x.2.2.1 x.2.2.2.1 x.2.2.2.2.1 x.2.2.2.2.2.1) m (((),(),(),(),(N:Int),(done.length:Int),()),b0,(L,()),((),()),(w,()),done++rest,())=some (.inr (e,(),b0,(L,()),((),()),(w,()),row,()))
 | _,_,0,_,h=>absurd h (Nat.not_lt_zero _)
 | [],done,m+1,h,_=>by
  refine .inl ⟨[],rfl,?_⟩
  have e:done.length=N:=by simpa using h
  simp only [roundsT]
  have:G_each1qt_1 (N:Int) (done.length:Int) b0 (L,()) ((),()) (w,()) (done++[])=some (.inr (.inl (.inl ((),b0,(L,()),((),()),(w,()),done++[],())))):=by
   rw [e]
   simp only [G_each1qt_1,dec_end,cond_false]
  exact bind_ofV this rfl
 | t :: rest,done,m+1,h,hm=>by
  have hN:(done++t :: rest).length=N:=by rw [List.length_append];exact h
  have hstep:=step_qt hf hL b0 (append_at done t rest) hN hN2
  simp only [roundsT]
  unfold eL
  cases he:eT f L t with
  | inr e=>
   rw [he] at hstep
   exact .inr ⟨e,_,rfl,bind_ofV hstep rfl⟩
  | inl u=>
   rw [he] at hstep
   simp only [append_set] at hstep
   have hlen:((done++[u]).length:Nat)=done.length+1:=by simp
   have ih:=loop_qt hN2 rest (done++[u]) m (by rw [hlen];simp at h;omega) (by simp at hm;omega)
   rw [hlen,List.append_assoc] at ih
   rcases ih with⟨us,h1,h2⟩ | ⟨e,row,h1,h2⟩
   ·rw [h1]
    refine .inl ⟨u :: us,rfl,bind_ofV hstep ?_⟩
    rw [List.append_assoc] at h2
    exact h2
   ·rw [h1]
    exact .inr ⟨e,row,rfl,bind_ofV hstep h2⟩
end
theorem v_eachqt {f:Vec→Vec⊕Int}{w:tWorker.El}(hf:∀ p,F_turn w p=some (match f p with | .inl q=>.inl ((q,()):Els [tVec]) | .inr e=>.inr e))(hs:Small w.1.2.2)(hr:rightB w.1=true) :
  ((getB w.1.2.2 w.2.1.2.1).2=false∧F_eachqt (w,())=some (((w.1,0,10,()),(w,()),()):OUT_eachqt.El)) ∨
  ((getB w.1.2.2 w.2.1.2.1).2=true∧∃ us,eL f (bods w.1.2.2 w.2.1.2.1) w.1.2.2=.inl us∧F_eachqt (w,())=some ((((w.1.1,w.1.2.1,us),0,0,()),(w,()),()):OUT_eachqt.El)) ∨
  ((getB w.1.2.2 w.2.1.2.1).2=true∧∃ e row,eL f (bods w.1.2.2 w.2.1.2.1) w.1.2.2=.inr e∧F_eachqt (w,())=some ((((w.1.1,w.1.2.1,row),0,e,()),(w,()),()):OUT_eachqt.El)):=by
 have h43:=v_43 w.1 w.2.1.2.1 hs hr
 unfold F_eachqt
 cases hg:(getB w.1.2.2 w.2.1.2.1).2 with
 | false=>
  rw [hg,if_neg (by decide)] at h43
  exact .inl ⟨rfl,bind_ofV h43 rfl⟩
 | true=>
  rw [hg,if_pos rfl] at h43
  have hL:(bods w.1.2.2 w.2.1.2.1).length≤1000000000:=by have:=bods_few hr hs (is_getB hg);omega
  have ho:=v_oown w.1.2.2 hs (by have:=(right_of hr).len;omega)
  rcases loop_qt hf hL (w.1.1,w.1.2.1,(),()) (N:=w.1.2.2.length) hs.1 w.1.2.2 [] fuel (by simp) (fuel_lt hs.1) with⟨us,h1,h2⟩ | ⟨e,row,h1,h2⟩
  ·refine .inr (.inl ⟨rfl,us,h1,bind_ofV h43 (noV rfl (bind_ofV ho ?_))⟩)
   have h3:F_each1qt (w.1.1,w.1.2.1,(),()) (bods w.1.2.2 w.2.1.2.1,()) ((),()) (w,()) w.1.2.2=some (.inl ((),(w.1.1,w.1.2.1,(),()),(bods w.1.2.2 w.2.1.2.1,()),((),()),(w,()),us,())):=by
    unfold F_each1qt
    exact bind_ofV h2 rfl
   have h4:F_tryqt (w.1.1,w.1.2.1,(),()) (bods w.1.2.2 w.2.1.2.1,()) ((),()) (w,()) w.1.2.2=some ((0,()),(w.1.1,w.1.2.1,(),()),(bods w.1.2.2 w.2.1.2.1,()),((),()),(w,()),us,()):=by
    unfold F_tryqt
    exact bind_ofV h3 rfl
   exact bind_ofV h4 rfl
  ·refine .inr (.inr ⟨rfl,e,row,h1,bind_ofV h43 (noV rfl (bind_ofV ho ?_))⟩)
   have h3:F_each1qt (w.1.1,w.1.2.1,(),()) (bods w.1.2.2 w.2.1.2.1,()) ((),()) (w,()) w.1.2.2=some (.inr (e,(),(w.1.1,w.1.2.1,(),()),(bods w.1.2.2 w.2.1.2.1,()),((),()),(w,()),row,())):=by
    unfold F_each1qt
    exact bind_ofV h2 rfl
   have h4:F_tryqt (w.1.1,w.1.2.1,(),()) (bods w.1.2.2 w.2.1.2.1,()) ((),()) (w,()) w.1.2.2=some ((e,()),(w.1.1,w.1.2.1,(),()),(bods w.1.2.2 w.2.1.2.1,()),((),()),(w,()),row,()):=by
    unfold F_tryqt
    exact bind_ofV h3 rfl
   exact bind_ofV h4 rfl
section
variable {s:Scene}{id:Int}{us:List Thing}
theorem Cp.first (h:Cp s id us):(tget (.int .i64) (.int .i64) id (cpM s id)).getD 0=fi s id id:=by
 have hid:id∈ida s.2.2 id:=Cp.ina_ida (id_ina h.rt h.sm h.is)
 obtain⟨j,hj,e⟩:=List.getElem_of_mem hid
 have e':(ida s.2.2 id)[j]?=some id:=by rw [List.getElem?_eq_getElem hj,e]
 have:=(cm_at (nxt s) (ida_nodup h.rt h.sm h.is) _ (Nat.le_refl _)).1 j id hj e'
 have this:tget (.int .i64) (.int .i64) id (cpM s id)=some (nxt s+(j:Int)):=this
 show _=(tget (.int .i64) (.int .i64) id (cpM s id)).getD id
 rw [this];rfl
end
end Go.DI.S
end
