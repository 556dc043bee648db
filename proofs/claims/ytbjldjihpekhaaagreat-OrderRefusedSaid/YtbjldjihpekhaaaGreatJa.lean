import Derived.Test.YtbjldjihpekhaaaGreatDa
import Derived.Test.YtbjldjihpekhaaaGreatVa
/- kin.Copy, plain. No conditions. -/
set_option linter.unusedSimpArgs false
set_option linter.unusedVariables false
set_option maxRecDepth 100000
set_option maxHeartbeats 0
noncomputable section
namespace Go.DI.S
open Go.Proofs
theorem v_59 (l:List Int)(a:Int)(hl:l.length≤1000000000):F_59 l a=some ((l.contains a,()):Els [.bool]):=by
 have h:=find_loop (G:=fun x=>G_101_2 x.1.1 x.1.2.1 x.1.2.2.1 x.1.2.2.2.1) (m:=fuel) l (fun x=>a==x) (fun k=>((l,a,(l.length:Int),(k:Int),()),())) (fun k=>.inr (((k:Int),()),())) (.inl ((),()))
  (fun k x hx=>?_) ?_ (fuel_lt hl)
 ·have h2:F_101 l a=some (((match l.findIdx? (fun x=>a==x) with | some k=>(k:Int) | none=>-1),()):Els [I]):=by
   unfold F_101 R_101_2
   rw [show(0:Int)=((0:Nat):Int) from rfl,h]
   cases l.findIdx? (fun x=>a==x) <;> rfl
  unfold F_59
  rw [h2]
  cases hx:l.findIdx? (fun x=>a==x) with
  | none=>
   rw [List.findIdx?_eq_none_iff] at hx
   have:l.contains a=false:=by
    rw [Bool.eq_false_iff]
    intro hc
    have hm:a∈l:=by simpa using hc
    have:=hx a hm
    simp at this
   rw [this];rfl
  | some k=>
   rw [List.findIdx?_eq_some_iff_getElem] at hx
   obtain⟨h1,h2,_⟩:=hx
   have:l.contains a=true:=by
    have e:a=l[k]:=by simpa using h2
    have:a∈l:=by rw [e];exact List.getElem_mem h1
    simpa using this
   rw [this]
   show some ((decide ((k:Int)≥0),()):Els [.bool])=_
   rw [decide_eq_true (by omega:(k:Int)≥0)]
 ·have hk:=len_of hx
  simp only [G_101_2,dec_lt hk,dec_in hk,cond_true,getD_of hx,wrap_up hk (by omega)]
  cases (a==x) <;> rfl
 ·simp only [G_101_2,dec_end,cond_false]
section
variable {s:Scene}
theorem v_73n (h:Rt s)(hs:Small s.2.2):∀ (f e:Nat) (n:Int),Is s.2.2 n→(∀ j,j≤e→upn s.2.2 j n≠0)→s.2.2.length+1≤f+e→F_73n f s n=some (inT s.2.2 f n)
 | 0,e,n,hn,hu,hf=>by
  obtain⟨k,hk,h0⟩:=h.top hs hn
  exact(hu k (by omega) h0).elim
 | f+1,e,n,hn,hu,hf=>by
  obtain⟨k0,t,h1,h2,h3⟩:=idx_is hn
  have ht:=List.mem_of_getElem? h2
  have hfew:=h.few hs (f+1) hn
  have hT:inT s.2.2 (f+1) n=n :: (ins t).flatMap (inT s.2.2 f):=by
   show(match idx s.2.2 n with | some k=>n :: (ins ((s.2.2[k]?).getD noThing)).flatMap (inT s.2.2 f) | none=>[])=_
   rw [h1]
   show n :: (ins ((s.2.2[k0]?).getD noThing)).flatMap (inT s.2.2 f)=_
   rw [h2];rfl
  rw [hT] at hfew ⊢
  have key:∀ (d m k:Nat) (row:List Int),k+d=(ins t).length→d<m→row.length+(((ins t).drop k).flatMap (inT s.2.2 f)).length≤1000 →
    roundsT (fun x=>(G_73_6 (F_73n f)) x.1.2.2.1 x.1.2.2.2.1 x.1.2.2.2.2.1 x.2.1 x.2.2.1) m (((),(),ins t,((ins t).length:Int),(k:Int),()),(s,()),row,())=some (.inl (((),()),row++((ins t).drop k).flatMap (inT s.2.2 f),())):=by
   intro d
   induction d with
   | zero=>
    intro m k row hk hm hr
    obtain⟨m,rfl⟩:∃ j,m=j+1:=⟨m-1,by omega⟩
    have:k=(ins t).length:=by omega
    subst this
    rw [rounds_out (y:=.inl (((),()),row,())) (by simp only [G_73_6,dec_end,cond_false]),List.drop_length]
    simp
   | succ d ih=>
    intro m k row hk hm hr
    obtain⟨m,rfl⟩:∃ j,m=j+1:=⟨m-1,by omega⟩
    have hlt:k<(ins t).length:=by omega
    have ha:=List.getElem?_eq_getElem hlt
    have hmem:=List.getElem_mem hlt
    rw [List.drop_eq_getElem_cons hlt,List.flatMap_cons,List.length_append] at hr
    have hc:=v_73n h hs f (e+1) (ins t)[k] (h.member hs ht hmem) (fun j hj=>by
     cases j with
     | zero=>exact h.pos (h.member hs ht hmem)
     | succ j=>
      show upn s.2.2 j (grp s.2.2 (ins t)[k])≠0
      rw [grp_in h.apart ht hmem,h3]
      exact hu j (by omega)) (by omega)
    rw [rounds_in (x':=(((),(),ins t,((ins t).length:Int),((k+1:Nat):Int),()),(s,()),row++inT s.2.2 f (ins t)[k],())) ?_ m]
    ·rw [ih m (k+1) _ (by omega) (by omega) (by rw [List.length_append];omega),List.drop_eq_getElem_cons hlt,List.flatMap_cons,List.append_assoc]
    ·simp only [G_73_6,dec_lt hlt,dec_in hlt,cond_true,getD_of ha,hc,Option.bind_some,wrap_up hlt (by have:=hs.2 t ht;have e:(ins t).length=t.2.2.2.2.length:=rfl;omega)]
     rw [show Nat.ble ((row.length+(inT s.2.2 f (ins t)[k]).length)*8) 70368744177664=true from Nat.ble_eq_true_of_le (by omega)]
     rfl
  have hk:=key (ins t).length fuel 0 [n] (by omega) (fuel_lt (hs.2 t ht)) (by rw [List.drop_zero];simp only [List.length_cons,List.length_nil] at hfew ⊢;omega)
  rw [List.drop_zero] at hk
  show F_73b (F_73n f) s n=_
  unfold F_73b R_73_6
  rw [v_23 s n hs.1 hs.2]
  have hg:getB s.2.2 n=(t,true):=by
   unfold getB
   rw [h1]
   show(((s.2.2[k0]?).getD noThing),true)=_
   rw [h2];rfl
  rw [hg]
  simp only [Option.bind_some,Bool.not_true,cond_false]
  show(roundsT _ fuel (((),(),ins t,((ins t).length:Int),((0:Nat):Int),()),(s,()),[n],())).bind _=_
  rw [hk]
  rfl
theorem v_37 (hr:rightB s=true)(hs:Small s.2.2){n:Int}(hn:Is s.2.2 n):F_37 s n=some ((sortI (inT s.2.2 100 n),()):Els [.list I]):=by
 have h:=right_of hr
 have h1:F_73 s n=some (inT s.2.2 100 n):=v_73n h hs 100 0 n hn (fun j hj=>by
  obtain rfl:j=0:=by omega
  exact h.pos hn) (by have:=h.len;omega)
 have h2:F_74 (inT s.2.2 100 n)=some ((),sortI (inT s.2.2 100 n),()):=by
  unfold F_74
  rw [show Nat.ble (inT s.2.2 100 n).length 1000000=true from Nat.ble_eq_true_of_le (by have:=h.few hs 100 hn;omega)]
  rfl
 unfold F_37
 rw [v_20 s hs,hr]
 simp only [Option.bind_some,Bool.not_true,cond_false,h1,h2]
end
def cof (c:MI)(n:Int):Int:=(tget (.int .i64) (.int .i64) n c).getD n
theorem v_123 (n:Int)(c:MI):F_123 n c=some ((cof c n,()),c,()):=by
 unfold F_123 cof
 cases h:tget (.int .i64) (.int .i64) n c with
 | none=>rfl
 | some v=>rfl
def addF (a b:Int):Int⊕Int:=bif decide (a<0)==decide (b<0) then(bif !(decide (IntKind.i64.wrap (a+b)<0)==decide (a<0)) then .inr 3 else .inl (IntKind.i64.wrap (a+b))) else .inl (IntKind.i64.wrap (a+b))
theorem v_146 (a b:Int):F_146 a b=some (match addF a b with | .inl x=>.inl (x,()) | .inr e=>.inr e):=by
 unfold F_146 F_162 addF
 cases (decide (a<0)==decide (b<0)) with
 | false=>rfl
 | true=>
  simp only [cond_true]
  cases (decide (IntKind.i64.wrap (a+b)<0)==decide (a<0)) <;> rfl
def movV (p q:Vec):Vec⊕Int:=match addF p.1 q.1 with
 | .inl x=>match addF p.2 q.2 with
  | .inl y=>.inl (x,y)
  | .inr e=>.inr e
 | .inr e=>.inr e
theorem v_124 (p q:Vec):F_124 p q=some (match movV p q with | .inl x=>.inl (x,()) | .inr e=>.inr e):=by
 unfold F_124 movV
 rw [v_146]
 cases addF p.1 q.1 with
 | inr e=>rfl
 | inl x=>
  show(F_146 p.2 q.2).bind _=_
  rw [v_146]
  cases addF p.2 q.2 <;> rfl
def rb (b:Body):Bool:=ofB (F_88 b)
theorem v_88 (b:Body):F_88 b=some ((rb b,()):Els [.bool]):=ofB_eq (t_88 b)
theorem addF_err {a b e:Int}(h:addF a b=.inr e):e≠0:=by
 unfold addF at h
 cases h1:(decide (a<0)==decide (b<0)) <;> rw [h1] at h
 ·cases h
 ·cases h2:(decide (IntKind.i64.wrap (a+b)<0)==decide (a<0)) <;> rw [h2] at h
  ·injection h with h;omega
  ·cases h
theorem movV_err {p q:Vec}{e:Int}(h:movV p q=.inr e):e≠0:=by
 unfold movV at h
 cases h1:addF p.1 q.1 with
 | inr e1=>rw [h1] at h;injection h with h;subst h;exact addF_err h1
 | inl x=>
  rw [h1] at h
  cases h2:addF p.2 q.2 with
  | inr e1=>rw [h2] at h;injection h with h;subst h;exact addF_err h2
  | inl y=>rw [h2] at h;cases h
def movB (b:Body)(p:Vec):Body:=(b.1,b.2.1,b.2.2.1,p,b.2.2.2.2)
def cpT (c:MI)(q:Vec)(t:Thing):Thing⊕Int:=
 bif t.2.1==(1:Int) then
  match movV t.2.2.1.2.2.2.1 q with
  | .inl p=>bif rb (movB t.2.2.1 p) then .inl (cof c t.1,t.2.1,movB t.2.2.1 p,t.2.2.2.1,t.2.2.2.2.map (cof c)) else .inr 3
  | .inr e=>.inr e
 else bif t.2.1==(2:Int) then .inl (cof c t.1,t.2.1,t.2.2.1,(cof c t.2.2.2.1.1,cof c t.2.2.2.1.2.1,t.2.2.2.1.2.2),t.2.2.2.2.map (cof c))
 else .inl (cof c t.1,t.2.1,t.2.2.1,t.2.2.2.1,t.2.2.2.2.map (cof c))
theorem cpT_err {c:MI}{q:Vec}{t:Thing}{e:Int}(h:cpT c q t=.inr e):e≠0:=by
 unfold cpT at h
 cases h1:(t.2.1==(1:Int)) <;> rw [h1] at h
 ·cases h2:(t.2.1==(2:Int)) <;> rw [h2] at h <;> cases h
 ·cases h3:movV t.2.2.1.2.2.2.1 q with
  | inr e1=>
   rw [h3] at h
   simp only [cond_true,Sum.inr.injEq] at h
   subst h;exact movV_err h3
  | inl p=>
   rw [h3] at h
   cases h4:rb (movB t.2.2.1 p) <;> simp only [h4,cond_true,cond_false] at h
   ·injection h with h;omega
   ·cases h
theorem v_46o (l:List Int)(h:l.length≤1000000000):F_46o l=some l:=by
 unfold F_46o O_46
 rw [show Nat.ble (l.length*8) 70368744177664=true from Nat.ble_eq_true_of_le (by omega)]
 rfl
theorem set_map {α:Type}(f:α→α)(row:List α){i:Nat}(hi:i<row.length):((row.take i).map f++row.drop i).set i (f row[i])=(row.take (i+1)).map f++row.drop (i+1):=by
 have h1:((row.take i).map f).length=i:=by simp;omega
 rw [List.drop_eq_getElem_cons hi,List.set_append_right _ _ (by omega),h1,Nat.sub_self,List.set_cons_zero,List.take_succ_eq_append_getElem hi,List.map_append,List.append_assoc]
 rfl
theorem get_map {α:Type}(f:α→α)(row:List α)(d:α){i:Nat}(hi:i<row.length):((row.take i).map f++row.drop i).getD i d=row[i]:=by
 have h1:((row.take i).map f).length=i:=by simp;omega
 rw [List.getD_eq_getElem?_getD,List.getElem?_append_right (by omega),h1,Nat.sub_self,List.drop_eq_getElem_cons hi]
 rfl
theorem len_map {α:Type}(f:α→α)(row:List α)(i:Nat):((row.take i).map f++row.drop i).length=row.length:=by
 simp;omega
theorem q_85_11 (c:MI)(i k:Int)(b:Body)(j:Joint)(d:Thing)(row:List Int)(h:row.length≤1000000000) :
  R_85_11 (((),(),(),(),(row.length:Int),(0:Int),()),c,(i,k,b,j,(),()),row,(d,()),())=some (.inl (.inl (((),(),()),c,(i,k,b,j,(),()),row.map (cof c),(d,()),()))):=by
 have h1:=rounds_to (G:=fun x=>G_85_11 x.1.2.2.2.2.1 x.1.2.2.2.2.2.1 x.2.1 x.2.2.1 x.2.2.2.1 x.2.2.2.2.1) (n:=row.length) (inv:=fun n=>(((),(),(),(),(row.length:Int),(n:Int),()),c,(i,k,b,j,(),()),(row.take n).map (cof c)++row.drop n,(d,()),()))
  (y:=.inl (.inl (((),(),()),c,(i,k,b,j,(),()),(row.take row.length).map (cof c)++row.drop row.length,(d,()),()))) (fun n hn=>?_) ?_ row.length 0 fuel (by omega) (fuel_lt h)
 ·have h2:(row.take row.length).map (cof c)++row.drop row.length=row.map (cof c):=by simp
  rw [h2] at h1
  exact h1
 ·have hin:decide ((0:Int)≤(n:Int)∧(n:Int)<((((row.take n).map (cof c)++row.drop n).length:Nat):Int))=true:=by rw [len_map];exact dec_in hn
  show G_85_11 (row.length:Int) (n:Int) c (i,k,b,j,(),()) ((row.take n).map (cof c)++row.drop n) (d,())=_
  simp only [G_85_11,dec_lt hn,cond_true,hin,Int.toNat_natCast,get_map _ _ _ hn,v_123,Option.bind_some,set_map _ _ hn,wrap_up hn (by omega)]
 ·show G_85_11 (row.length:Int) (row.length:Int) c (i,k,b,j,(),()) _ (d,())=_
  simp only [G_85_11,dec_end,cond_false]
theorem v_85 (t:Thing)(q:Vec)(c:MI)(h:t.2.2.2.2.length≤1000000000):F_85 t q c=some (match cpT c q t with | .inl u=>.inl ((u,()),c,()) | .inr e=>.inr e):=by
 unfold F_85 cpT
 rw [v_123]
 simp only [Option.bind_some]
 cases h1:(t.2.1==(1:Int)) with
 | true=>
  simp only [cond_true]
  rw [v_124]
  cases h2:movV t.2.2.1.2.2.2.1 q with
  | inr e=>rfl
  | inl p=>
   simp only [Option.bind_some,Sum.elim_inl]
   have h3:F_88 (t.2.2.1.1,t.2.2.1.2.1,t.2.2.1.2.2.1,p,t.2.2.1.2.2.2.2)=some ((rb (movB t.2.2.1 p),()):Els [.bool]):=v_88 _
   rw [h3]
   simp only [Option.bind_some]
   cases h4:rb (movB t.2.2.1 p) with
   | false=>rfl
   | true=>
    simp only [Bool.not_true,cond_false,cond_true]
    rw [v_46o _ h]
    simp only [Option.bind_some]
    rw [q_85_11 _ _ _ _ _ _ _ h]
    rfl
 | false=>
  simp only [cond_false]
  cases h2:(t.2.1==(2:Int)) with
  | true=>
   simp only [cond_true]
   rw [v_123]
   simp only [Option.bind_some]
   rw [v_123]
   simp only [Option.bind_some]
   rw [v_46o _ h]
   simp only [Option.bind_some]
   rw [q_85_11 _ _ _ _ _ _ _ h]
   rfl
  | false=>
   simp only [cond_false]
   rw [v_46o _ h]
   simp only [Option.bind_some]
   rw [q_85_11 _ _ _ _ _ _ _ h]
   rfl
def cpL (c:MI)(q:Vec)(l:List Thing):List Int→List Thing→List Thing⊕Int
 | [],acc=>.inl acc
 | n :: ns,acc=>match cpT c q (getB l n).1 with
  | .inl u=>cpL c q l ns (acc++[u])
  | .inr e=>.inr e
theorem cpL_err {c:MI}{q:Vec}{l:List Thing}:∀ {ns:List Int} {acc:List Thing} {e:Int},cpL c q l ns acc=.inr e→e≠0
 | [],acc,e,h=>by cases h
 | n :: ns,acc,e,h=>by
  unfold cpL at h
  cases h1:cpT c q (getB l n).1 with
  | inl u=>rw [h1] at h;exact cpL_err h
  | inr e1=>rw [h1] at h;injection h with h;subst h;exact cpT_err h1
theorem getB_small {l:List Thing}(hs:Small l)(n:Int):(getB l n).1.2.2.2.2.length≤1000000000:=by
 unfold getB
 cases hx:idx l n with
 | none=>simp [noThing]
 | some k=>
  obtain⟨t,ht,_⟩:=idx_lt hx
  simp only [ht,Option.getD_some]
  exact hs.2 t (List.mem_of_getElem? ht)
theorem v_84 (ids:List Int)(s:Scene)(q:Vec)(base:List Thing)(c:MI)(hs:Small s.2.2)(hi:ids.length≤1000000)(hb:base.length≤1000000) :
  F_84 (ids,()) (s,()) ((),()) ((),()) (q,()) base c=some (match cpL c q s.2.2 ids base with | .inl out=>.inl ((),(ids,()),(s,()),((),()),((),()),(q,()),out,c,()) | .inr e=>.inr e):=by
 have key:∀ (d m k:Nat) (acc:List Thing),k+d=ids.length→d<m→acc.length≤base.length+k →
   roundsT (fun x=>G_84_1 x.1.2.2.2.2.1 x.1.2.2.2.2.2.1 x.1.2.2.2.2.2.2.1 x.2.1 x.2.2.1 x.2.2.2.1 x.2.2.2.2.1 x.2.2.2.2.2.1 x.2.2.2.2.2.2.1 x.2.2.2.2.2.2.2.1) m (((),(),(),(),ids,(ids.length:Int),(k:Int),()),(ids,()),(s,()),((),()),((),()),(q,()),acc,c,()) =
    some (match cpL c q s.2.2 (ids.drop k) acc with | .inl out=>.inl (.inl ((),(ids,()),(s,()),((),()),((),()),(q,()),out,c,())) | .inr e=>.inr e):=by
  intro d
  induction d with
  | zero=>
   intro m k acc hk hm ha
   obtain⟨m,rfl⟩:∃ j,m=j+1:=⟨m-1,by omega⟩
   have:k=ids.length:=by omega
   subst this
   rw [rounds_out (y:=.inl (.inl ((),(ids,()),(s,()),((),()),((),()),(q,()),acc,c,()))) (by simp only [G_84_1,dec_end,cond_false]),List.drop_length]
   rfl
  | succ d ih=>
   intro m k acc hk hm ha
   obtain⟨m,rfl⟩:∃ j,m=j+1:=⟨m-1,by omega⟩
   have hlt:k<ids.length:=by omega
   have hg:=List.getElem?_eq_getElem hlt
   rw [List.drop_eq_getElem_cons hlt]
   have h85:=v_85 (getB s.2.2 ids[k]).1 q c (getB_small hs _)
   cases hc:cpT c q (getB s.2.2 ids[k]).1 with
   | inr e=>
    rw [hc] at h85
    rw [rounds_out (y:=.inr e) ?_ m]
    ·simp only [cpL,hc]
    ·simp only [G_84_1,dec_lt hlt,dec_in hlt,cond_true,getD_of hg,v_23 s _ hs.1 hs.2,Option.bind_some,h85,Sum.elim_inr]
   | inl u=>
    rw [hc] at h85
    rw [rounds_in (x':=(((),(),(),(),ids,(ids.length:Int),((k+1:Nat):Int),()),(ids,()),(s,()),((),()),((),()),(q,()),acc++[u],c,())) ?_ m]
    ·rw [ih m (k+1) (acc++[u]) (by omega) (by omega) (by simp;omega)]
     simp only [cpL,hc]
    ·simp only [G_84_1,dec_lt hlt,dec_in hlt,cond_true,getD_of hg,v_23 s _ hs.1 hs.2,Option.bind_some,h85,Sum.elim_inl,wrap_up hlt (by omega)]
     rw [show Nat.ble ((acc.length+[u].length)*128) 70368744177664=true from Nat.ble_eq_true_of_le (by simp;omega)]
     rfl
 have h:=key ids.length fuel 0 base (by omega) (fuel_lt (by omega)) (by omega)
 rw [List.drop_zero] at h
 unfold F_84 R_84_1
 show(roundsT _ fuel (((),(),(),(),ids,(ids.length:Int),((0:Nat):Int),()),(ids,()),(s,()),((),()),((),()),(q,()),base,c,())).bind _=_
 rw [h]
 cases cpL c q s.2.2 ids base <;> rfl
theorem v_83 (ids:List Int)(s:Scene)(q:Vec)(base:List Thing)(c:MI)(hs:Small s.2.2)(hi:ids.length≤1000000)(hb:base.length≤1000000) :
  F_83 (ids,()) (s,()) ((),()) ((),()) (q,()) base c=some (match cpL c q s.2.2 ids base with | .inl out=>.inl ((0,()),(ids,()),(s,()),((),()),((),()),(q,()),out,c,()) | .inr e=>.inr e):=by
 unfold F_83
 rw [v_84 ids s q base c hs hi hb]
 cases cpL c q s.2.2 ids base <;> rfl
def jtB (a:List Int)(t:Thing):Bool:=t.2.1==(2:Int)&&(!a.contains t.1&&(a.contains t.2.2.2.1.1&&a.contains t.2.2.2.1.2.1))
def jts (l:List Thing)(a:List Int):List Int:=(l.filter (jtB a)).map nid
theorem v_81 (s:Scene)(a:List Int)(hs:Small s.2.2)(hl:s.2.2.length≤1000000)(ha:a.length≤1000000000):F_81 s a=some (jts s.2.2 a):=by
 have h:=scan_loop (G:=fun x=>G_81_3 x.1.1 x.1.2.2.1 x.1.2.2.2.1 x.1.2.2.2.2.1 x.2.1) (l:=s.2.2) (mk:=fun k (acc:List Int)=>((a,(),s.2.2,(s.2.2.length:Int),(k:Int),()),acc,()))
  (step:=fun acc t=>.inl (if jtB a t then acc++[nid t] else acc)) (fin:=fun acc=>.inl (((),()),acc,())) (fun k acc=>acc.length≤k) (fun k t acc hI ht=>?_) (fun k t acc acc' hI ht hst=>?_) (fun acc _=>?_) s.2.2.length fuel 0 [] (by omega) (fuel_lt hs.1) (by simp)
 ·have hf:∀ (l:List Thing) (acc:List Int),scan (Y:=LA_81_3.El⊕LB_81_3.El) (fun acc t=>.inl (if jtB a t then acc++[nid t] else acc)) (fun acc=>.inl (((),()),acc,())) l acc=.inl (((),()),acc++(l.filter (jtB a)).map nid,()):=by
   intro l
   induction l with
   | nil=>intro acc;simp [scan]
   | cons t l ih=>
    intro acc
    simp only [scan,ih]
    cases hj:jtB a t <;> simp [hj]
  rw [List.drop_zero,hf] at h
  unfold F_81 R_81_3
  show(roundsT _ fuel ((a,(),s.2.2,(s.2.2.length:Int),((0:Nat):Int),()),[],())).bind _=_
  rw [h]
  show some ([]++(s.2.2.filter (jtB a)).map nid)=_
  rw [List.nil_append];rfl
 ·have hk:=len_of ht
  simp only [G_81_3,dec_lt hk,dec_in hk,cond_true,getD_of ht,v_59 a _ ha,Option.bind_some,wrap_up hk (by omega)]
  unfold jtB
  cases h1:(t.2.1==(2:Int)) with
  | false=>rfl
  | true=>
   cases h2:a.contains t.1 with
   | true=>rfl
   | false=>
    cases h3:a.contains t.2.2.2.1.1 with
    | false=>rfl
    | true=>
     cases h4:a.contains t.2.2.2.1.2.1 with
     | false=>rfl
     | true=>
      simp only [Bool.not_false,cond_true]
      rw [show Nat.ble ((acc.length+[t.1].length)*8) 70368744177664=true from Nat.ble_eq_true_of_le (by simp;omega)]
      rfl
 ·injection hst with hst
  subst hst
  show(if jtB a t then acc++[nid t] else acc).length≤k+1
  split
  ·rw [List.length_append];show acc.length+1≤k+1;omega
  ·omega
 ·simp only [G_81_3,dec_end,cond_false]
theorem v_82 (l:List Thing)(hs:Small l)(hl:l.length≤1000000):F_82 l=some l:=by
 have h90:F_90 l=some l:=by
  unfold F_90
  rw [show Nat.ble (l.length*128) 70368744177664=true from Nat.ble_eq_true_of_le (by omega)]
  rfl
 have h:=rounds_to (G:=fun x=>G_82_3 x.1.2.2.1 x.1.2.2.2.1 x.2.1) (n:=l.length) (inv:=fun n=>(((),(),(l.length:Int),(n:Int),()),l,())) (y:=.inl (((),()),l,())) (fun n hn=>?_) ?_ l.length 0 fuel (by omega) (fuel_lt hs.1)
 ·unfold F_82 R_82_3
  rw [h90]
  show(roundsT _ fuel (((),(),(l.length:Int),((0:Nat):Int),()),l,())).bind _=_
  rw [h];rfl
 ·have hg:=List.getElem?_eq_getElem hn
  show G_82_3 (l.length:Int) (n:Int) l=_
  simp only [G_82_3,dec_lt hn,dec_in hn,cond_true,getD_of hg,v_46 _ (hs.2 _ (List.getElem_mem hn)),Option.bind_some,wrap_up hn (by omega)]
  rw [Int.toNat_natCast,show(l[n].1,l[n].2.1,l[n].2.2.1,l[n].2.2.2.1,l[n].2.2.2.2)=l[n] from rfl,List.set_getElem_self]
 ·show G_82_3 (l.length:Int) (l.length:Int) l=_
  simp only [G_82_3,dec_end,cond_false]
def nxt (s:Scene):Int:=s.2.1
def cmK (next:Int)(ids:List Int):Nat→MI
 | 0=>[]
 | i+1=>tput (.int .i64) (.int .i64) (ids.getD i 0) (next+i) (cmK next ids i)
theorem q_42_14 (id:Int)(s:Scene)(q:Vec)(d:Scene)(ids:List Int)(hi:ids.length≤1000000)(h0:0≤nxt s)(h1:nxt s≤1000000000) :
  R_42_14 ((id,(),(),(),(),(),(),(ids.length:Int),(0:Int),()),(s,()),(q,()),(d,()),((),()),ids,((),()),[],())=some (.inl ((id,(),(),(),(),(),()),(s,()),(q,()),(d,()),(ids,()),((),()),cmK (nxt s) ids ids.length,())):=by
 have h:=rounds_to (G:=fun x=>G_42_14 x.1.1 x.1.2.2.2.2.2.2.2.1 x.1.2.2.2.2.2.2.2.2.1 x.2.1 x.2.2.1 x.2.2.2.1 x.2.2.2.2.1 x.2.2.2.2.2.1 x.2.2.2.2.2.2.1 x.2.2.2.2.2.2.2.1) (n:=ids.length)
  (inv:=fun n=>((id,(),(),(),(),(),(),(ids.length:Int),(n:Int),()),(s,()),(q,()),(d,()),((),()),ids,((),()),cmK (nxt s) ids n,())) (y:=.inl ((id,(),(),(),(),(),()),(s,()),(q,()),(d,()),(ids,()),((),()),cmK (nxt s) ids ids.length,())) (fun n hn=>?_) ?_ ids.length 0 fuel (by omega) (fuel_lt (by omega))
 ·exact h
 ·show G_42_14 id (ids.length:Int) (n:Int) (s,()) (q,()) (d,()) ((),()) ids ((),()) (cmK (nxt s) ids n)=_
  simp only [G_42_14,dec_lt hn,dec_in hn,cond_true,wrap_up hn (by omega),Int.toNat_natCast]
  rw [show s.2.1=nxt s from rfl,wrap64 (x:=nxt s+(n:Int)) (by omega) (by omega)]
  rfl
 ·show G_42_14 id (ids.length:Int) (ids.length:Int) (s,()) (q,()) (d,()) ((),()) ids ((),()) _=_
  simp only [G_42_14,dec_end,cond_false]
def ina (l:List Thing)(id:Int):List Int:=sortI (inT l 100 id)
def ida (l:List Thing)(id:Int):List Int:=ina l id++jts l (ina l id)
def cpM (s:Scene)(id:Int):MI:=cmK (nxt s) (ida s.2.2 id) (ida s.2.2 id).length
theorem v_37o {s:Scene}(hr:rightB s=true)(hs:Small s.2.2){n:Int}(hn:Is s.2.2 n):F_37o s n=some (ina s.2.2 n):=by
 have h:=right_of hr
 have h1:F_73 s n=some (inT s.2.2 100 n):=v_73n h hs 100 0 n hn (fun j hj=>by
  obtain rfl:j=0:=by omega
  exact h.pos hn) (by have:=h.len;omega)
 have h2:F_74 (inT s.2.2 100 n)=some ((),sortI (inT s.2.2 100 n),()):=by
  unfold F_74
  rw [show Nat.ble (inT s.2.2 100 n).length 1000000=true from Nat.ble_eq_true_of_le (by have:=h.few hs 100 hn;omega)]
  rfl
 unfold F_37o
 rw [v_20 s hs,hr]
 simp only [Option.bind_some,Bool.not_true,cond_false,h1,h2]
 rfl
theorem ina_few {s:Scene}(hr:rightB s=true)(hs:Small s.2.2){n:Int}(hn:Is s.2.2 n):(ina s.2.2 n).length≤40:=by
 unfold ina
 rw [sortI_len]
 exact(right_of hr).few hs 100 hn
theorem jts_few {l:List Thing}(a:List Int):(jts l a).length≤l.length:=by
 unfold jts
 rw [List.length_map]
 exact List.length_filter_le _ _
theorem next_range {s:Scene}(hr:rightB s=true):1≤nxt s∧nxt s≤1000001:=by
 unfold rightB at hr
 rw [Bool.and_eq_true] at hr
 have h:=hr.1
 unfold plainB at h
 simp only [Bool.and_eq_true,decide_eq_true_eq] at h
 exact⟨h.2.2.1,h.2.2.2.1⟩
theorem v_42 (s:Scene)(id:Int)(q:Vec)(hs:Small s.2.2)(hr:rightB s=true) :
  (∃ e:Int,e≠0∧F_42 s id q=some ((noScene,0,e,()):Els [tScene,I,I])) ∨
  (Is s.2.2 id∧(getB s.2.2 id).1.2.1≠2∧s.2.2.length+(ida s.2.2 id).length≤40∧nxt s+(ida s.2.2 id).length≤1000001 ∧
   ∃ out,cpL (cpM s id) q s.2.2 (ida s.2.2 id) s.2.2=.inl out∧F_42 s id q=some (((s.1,nxt s+(ida s.2.2 id).length,out),(tget (.int .i64) (.int .i64) id (cpM s id)).getD 0,0,()):Els [tScene,I,I])):=by
 have hR:=right_of hr
 have h40:=hR.len
 have hnx:=next_range hr
 have e23:=v_23 s id hs.1 hs.2
 have e20:=v_20 s hs
 rw [hr] at e20
 unfold F_42
 by_cases hb:(getB s.2.2 id).2=false
 ·refine .inl ⟨10,by decide,bind_ofV e23 (bind_ofV e20 (noV rfl (yesV ?_ rfl)))⟩
  show(!(getB s.2.2 id).2)=true
  rw [hb];rfl
 have hb:(getB s.2.2 id).2=true:=by simpa using hb
 have hn:Is s.2.2 id:=by
  unfold getB at hb
  cases hx:idx s.2.2 id with
  | none=>rw [hx] at hb;cases hb
  | some k=>
   obtain⟨t,h1,h2⟩:=idx_lt hx
   exact⟨t,List.mem_of_getElem? h1,h2⟩
 by_cases hk:(getB s.2.2 id).1.2.1=2
 ·refine .inl ⟨9,by decide,bind_ofV e23 (bind_ofV e20 (noV rfl (noV ?_ (yesV ?_ rfl))))⟩
  ·show(!(getB s.2.2 id).2)=false
   rw [hb];rfl
  ·show((getB s.2.2 id).1.2.1==(2:Int))=true
   simpa using hk
 have fa:=ina_few hr hs hn
 have fj:=jts_few (l:=s.2.2) (ina s.2.2 id)
 have e37:=v_37o hr hs hn
 have e81:=v_81 s (ina s.2.2 id) hs (by omega) (by omega)
 have hil:(ida s.2.2 id).length=(ina s.2.2 id).length+(jts s.2.2 (ina s.2.2 id)).length:=by unfold ida;simp
 have c1:(!(getB s.2.2 id).2)=false:=by rw [hb];rfl
 have c2:((getB s.2.2 id).1.2.1==(2:Int))=false:=by simpa using hk
 have c3:((((ina s.2.2 id).length+(jts s.2.2 (ina s.2.2 id)).length)*8).ble 70368744177664)=true:=Nat.ble_eq_true_of_le (by omega)
 by_cases h1:(s.2.2.length:Int)+((ida s.2.2 id).length:Int)>40
 ·refine .inl ⟨12,by decide,bind_ofV e23 (bind_ofV e20 (noV rfl (noV c1 (noV c2 (bind_ofV e37 (bind_ofV e81 (yesV c3 (yesV ?_ rfl))))))))⟩
  show decide (IntKind.i64.wrap ((s.2.2.length:Int)+((ida s.2.2 id).length:Int))>40)=true
  rw [wrap64 (by omega) (by omega)]
  exact decide_eq_true h1
 have c4:decide (IntKind.i64.wrap ((s.2.2.length:Int)+((ida s.2.2 id).length:Int))>40)=false:=by
  rw [wrap64 (by omega) (by omega)]
  exact decide_eq_false h1
 by_cases h2:nxt s+((ida s.2.2 id).length:Int)>1000001
 ·refine .inl ⟨12,by decide,bind_ofV e23 (bind_ofV e20 (noV rfl (noV c1 (noV c2 (bind_ofV e37 (bind_ofV e81 (yesV c3 (noV c4 (yesV ?_ rfl)))))))))⟩
  show decide (IntKind.i64.wrap (nxt s+((ida s.2.2 id).length:Int))>1000001)=true
  rw [wrap64 (by omega) (by omega)]
  exact decide_eq_true h2
 have c5:decide (IntKind.i64.wrap (nxt s+((ida s.2.2 id).length:Int))>1000001)=false:=by
  rw [wrap64 (by omega) (by omega)]
  exact decide_eq_false h2
 have e42:=q_42_14 id s q noScene (ida s.2.2 id) (by omega) (by omega) (by omega)
 have e82:=v_82 s.2.2 hs (by omega)
 have e83:=v_83 (ida s.2.2 id) s q s.2.2 (cpM s id) hs (by omega) (by omega)
 cases hc:cpL (cpM s id) q s.2.2 (ida s.2.2 id) s.2.2 with
 | inr e=>
  rw [hc] at e83
  refine .inl ⟨e,cpL_err hc,bind_ofV e23 (bind_ofV e20 (noV rfl (noV c1 (noV c2 (bind_ofV e37 (bind_ofV e81 (yesV c3 (noV c4 (noV c5 (bind_ofV e42 (bind_ofV e82 (bind_ofV e83 (yesV ?_ rfl)))))))))))))⟩
  simpa using cpL_err hc
 | inl out=>
  rw [hc] at e83
  refine .inr ⟨hn,hk,by omega,by omega,out,rfl,bind_ofV e23 (bind_ofV e20 (noV rfl (noV c1 (noV c2 (bind_ofV e37 (bind_ofV e81 (yesV c3 (noV c4 (noV c5 (bind_ofV e42 (bind_ofV e82 (bind_ofV e83 ?_))))))))))))⟩
  show some (((s.1,IntKind.i64.wrap (nxt s+((ida s.2.2 id).length:Int)),out),_,(0:Int),()):Els [tScene,I,I])=_
  rw [wrap64 (by omega) (by omega)]
end Go.DI.S
end
