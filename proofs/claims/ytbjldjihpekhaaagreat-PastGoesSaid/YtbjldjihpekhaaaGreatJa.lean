import Derived.Test.YtbjldjihpekhaaaGreatDa
import Derived.Test.YtbjldjihpekhaaaGreatVa
/- kin.Copy, plain. No conditions. -/
set_option linter.unusedSimpArgs false
set_option linter.unusedVariables false
set_option maxRecDepth 100000
set_option maxHeartbeats 0
noncomputable section
namespace Go.DI.S
open Go.Proofs
theorem aZZ (l:List Int)(a:Int)(hl:l.length≤1000000000):RV l a=some ((l.contains a,()):aS [.bool]):=by
 have h:=iJ (G:=fun x=>F0 x.1.1 x.1.2.1 x.1.2.2.1 x.1.2.2.2.1) (m:=fuel) l (fun x=>a==x) (fun k=>((l,a,(l.length:Int),(k:Int),()),())) (fun k=>.inr (((k:Int),()),())) (.inl ((),()))
  (fun k x hx=>?_) ?_ (fuel_lt hl)
 ·have h2:aF2 l a=some (((match l.findIdx? (fun x=>a==x) with | some k=>(k:Int) | none=>-1),()):aS [I]):=by
   unfold aF2 aCj;rw [show(0:Int)=((0:Nat):Int) from rfl,h];cases l.findIdx? (fun x=>a==x) <;> rfl
  unfold RV;rw [h2];cases hx:l.findIdx? (fun x=>a==x) with
  | none=>
   rw [a9z] at hx;have:l.contains a=false:=by
    rw [Bool.eq_false_iff];intro hc;have hm:a∈l:=by simpa using hc
    have:=hx a hm;simp at this
   rw [this];rfl
  | some k=>
   rw [List.findIdx?_eq_some_iff_getElem] at hx;obtain⟨h1,h2,_⟩:=hx;have:l.contains a=true:=by
    have e:a=l[k]:=by simpa using h2
    have:a∈l:=by rw [e];exact aXB h1
    simpa using this
   rw [this];show some ((decide ((k:Int)≥0),()):aS [.bool])=_;rw [aKO (by omega:(k:Int)≥0)]
 ·have hk:=dF hx;simp only [F0,dec_lt hk,bI hk,cond_true,bB hx,aN hk (by omega)];cases (a==x) <;> rfl
 ·simp only [F0,bA,cond_false]
section
variable {s:aZ}
theorem aU0 (h:Rt s)(hs:Small s.2.2):∀ (f e:Nat) (n:Int),Is s.2.2 n→(∀ j,j≤e→kG s.2.2 j n≠0)→s.2.2.length+1≤f+e→RX f s n=some (sS s.2.2 f n)
 | 0,e,n,hn,hu,hf=>by
  obtain⟨k,hk,h0⟩:=h.top hs hn;exact(hu k (by omega) h0).elim
 | f+1,e,n,hn,hu,hf=>by
  obtain⟨k0,t,h1,h2,h3⟩:=aB7 hn;have ht:=aPl h2;have bCC:=h.few hs (f+1) hn;have hT:sS s.2.2 (f+1) n=n :: (ins t).flatMap (sS s.2.2 f):=by
   show(match idx s.2.2 n with | some k=>n :: (ins ((s.2.2[k]?).getD cO)).flatMap (sS s.2.2 f) | none=>[])=_;rw [h1];show n :: (ins ((s.2.2[k0]?).getD cO)).flatMap (sS s.2.2 f)=_;rw [h2];rfl
  rw [hT] at bCC ⊢;have key:∀ (d m k:Nat) (row:List Int),k+d=(ins t).length→d<m→row.length+(((ins t).drop k).flatMap (sS s.2.2 f)).length≤1000 →
    aH (fun x=>(RW (RX f)) x.1.2.2.1 x.1.2.2.2.1 x.1.2.2.2.2.1 x.2.1 x.2.2.1) m (((),(),ins t,((ins t).length:Int),(k:Int),()),(s,()),row,())=some (.inl (((),()),row++((ins t).drop k).flatMap (sS s.2.2 f),())):=by
   intro d
   induction d with
   | zero=>
    intro m k row hk hm hr;obtain⟨m,rfl⟩:∃ j,m=j+1:=⟨m-1,by omega⟩;have:k=(ins t).length:=by omega
    subst this;rw [bM (y:=.inl (((),()),row,())) (by simp only [RW,bA,cond_false]),List.drop_length];simp
   | succ d ih=>
    intro m k row hk hm hr;obtain⟨m,rfl⟩:∃ j,m=j+1:=⟨m-1,by omega⟩;have hlt:k<(ins t).length:=by omega
    have ha:=aJS hlt;have hmem:=aXB hlt;rw [aZw hlt,aXJ,aPk] at hr;have hc:=aU0 h hs f (e+1) (ins t)[k] (h.fS hs ht hmem) (fun j hj=>by
     cases j with
     | zero=>exact h.pos (h.fS hs ht hmem)
     | succ j=>
      show kG s.2.2 j (jS s.2.2 (ins t)[k])≠0;rw [fC h.apart ht hmem,h3];exact hu j (by omega)) (by omega)
    rw [bT (x':=(((),(),ins t,((ins t).length:Int),((k+1:Nat):Int),()),(s,()),row++sS s.2.2 f (ins t)[k],())) ?_ m]
    ·rw [ih m (k+1) _ (by omega) (by omega) (by rw [aPk];omega),aZw hlt,aXJ,aQ4]
    ·simp only [RW,dec_lt hlt,bI hlt,cond_true,bB ha,hc,aEk,aN hlt (by have:=hs.2 t ht;have e:(ins t).length=t.2.2.2.2.length:=rfl;omega)];rw [show Nat.ble ((row.length+(sS s.2.2 f (ins t)[k]).length)*8) 70368744177664=true from aPp (by omega)];rfl
  have hk:=key (ins t).length fuel 0 [n] (by omega) (fuel_lt (hs.2 t ht)) (by rw [List.drop_zero];simp only [aQO,List.length_nil] at bCC ⊢;omega);rw [List.drop_zero] at hk;show aMm (RX f) s n=_;unfold aMm aCo;rw [yA s n hs.1 hs.2];have hg:bW s.2.2 n=(t,true):=by
   unfold bW;rw [h1];show(((s.2.2[k0]?).getD cO),true)=_;rw [h2];rfl
  rw [hg];simp only [aEk,aXM,cond_false];show(aH _ fuel (((),(),ins t,((ins t).length:Int),((0:Nat):Int),()),(s,()),[n],())).bind _=_;rw [hk];rfl
theorem bCD (hr:bK s=true)(hs:Small s.2.2){n:Int}(hn:Is s.2.2 n):aTS s n=some ((cI (sS s.2.2 100 n),()):aS [.list I]):=by
 have h:=bR hr;have h1:aTQ s n=some (sS s.2.2 100 n):=aU0 h hs 100 0 n hn (fun j hj=>by
  obtain rfl:j=0:=by omega
  exact h.pos hn) (by have:=h.len;omega)
 have h2:xD (sS s.2.2 100 n)=some ((),cI (sS s.2.2 100 n),()):=by
  unfold xD;rw [show Nat.ble (sS s.2.2 100 n).length 1000000=true from aPp (by have:=h.few hs 100 hn;omega)];rfl
 unfold aTS;rw [JI s hs,hr];simp only [aEk,aXM,cond_false,h1,h2]
end
def TW (c:MI)(n:Int):Int:=(fV (.int .i64) (.int .i64) n c).getD n
theorem aMZ (n:Int)(c:MI):TB n c=some ((TW c n,()),c,()):=by
 unfold TB TW;cases h:fV (.int .i64) (.int .i64) n c with
 | none=>rfl
 | some v=>rfl
def XP (a b:Int):Int⊕Int:=bif decide (a<0)==decide (b<0) then(bif !(decide (IntKind.i64.wrap (a+b)<0)==decide (a<0)) then .inr 3 else .inl (IntKind.i64.wrap (a+b))) else .inl (IntKind.i64.wrap (a+b))
theorem a26 (a b:Int):q9 a b=some (match XP a b with | .inl x=>.inl (x,()) | .inr e=>.inr e):=by
 unfold q9 SS XP;cases (decide (a<0)==decide (b<0)) with
 | false=>rfl
 | true=>
  simp only [cond_true];cases (decide (IntKind.i64.wrap (a+b)<0)==decide (a<0)) <;> rfl
def XQ (p q:fW):fW⊕Int:=match XP p.1 q.1 with
 | .inl x=>match XP p.2 q.2 with
  | .inl y=>.inl (x,y)
  | .inr e=>.inr e
 | .inr e=>.inr e
theorem a27 (p q:fW):rA p q=some (match XQ p q with | .inl x=>.inl (x,()) | .inr e=>.inr e):=by
 unfold rA XQ;rw [a26];cases XP p.1 q.1 with
 | inr e=>rfl
 | inl x=>
  show(q9 p.2 q.2).bind _=_;rw [a26];cases XP p.2 q.2 <;> rfl
def rb (b:Body):Bool:=ofB (l5 b)
theorem aPW (b:Body):l5 b=some ((rb b,()):aS [.bool]):=aJd (aY1 b)
theorem aGD {a b e:Int}(h:XP a b=.inr e):e≠0:=by
 unfold XP at h;cases h1:(decide (a<0)==decide (b<0)) <;> rw [h1] at h
 ·cases h
 ·cases h2:(decide (IntKind.i64.wrap (a+b)<0)==decide (a<0)) <;> rw [h2] at h
  ·injection h with h;omega
  ·cases h
theorem aGE {p q:fW}{e:Int}(h:XQ p q=.inr e):e≠0:=by
 unfold XQ at h;cases h1:XP p.1 q.1 with
 | inr e1=>rw [h1] at h;injection h with h;subst h;exact aGD h1
 | inl x=>
  rw [h1] at h;cases h2:XP p.2 q.2 with
  | inr e1=>rw [h2] at h;injection h with h;subst h;exact aGD h2
  | inl y=>rw [h2] at h;cases h
def KA (b:Body)(p:fW):Body:=(b.1,b.2.1,b.2.2.1,p,b.2.2.2.2)
def cpT (c:MI)(q:fW)(t:Thing):Thing⊕Int:=
 bif t.2.1==(1:Int) then
  match XQ t.2.2.1.2.2.2.1 q with
  | .inl p=>bif rb (KA t.2.2.1 p) then .inl (TW c t.1,t.2.1,KA t.2.2.1 p,t.2.2.2.1,t.2.2.2.2.map (TW c)) else .inr 3
  | .inr e=>.inr e
 else bif t.2.1==(2:Int) then .inl (TW c t.1,t.2.1,t.2.2.1,(TW c t.2.2.2.1.1,TW c t.2.2.2.1.2.1,t.2.2.2.1.2.2),t.2.2.2.2.map (TW c))
 else .inl (TW c t.1,t.2.1,t.2.2.1,t.2.2.2.1,t.2.2.2.2.map (TW c))
theorem aZ0 {c:MI}{q:fW}{t:Thing}{e:Int}(h:cpT c q t=.inr e):e≠0:=by
 unfold cpT at h;cases h1:(t.2.1==(1:Int)) <;> rw [h1] at h
 ·cases h2:(t.2.1==(2:Int)) <;> rw [h2] at h <;> cases h
 ·cases h3:XQ t.2.2.1.2.2.2.1 q with
  | inr e1=>
   rw [h3] at h;simp only [cond_true,Sum.inr.injEq] at h;subst h;exact aGE h3
  | inl p=>
   rw [h3] at h;cases h4:rb (KA t.2.2.1 p) <;> simp only [h4,cond_true,cond_false] at h
   ·injection h with h;omega
   ·cases h
theorem ZS (l:List Int)(h:l.length≤1000000000):FL l=some l:=by
 unfold FL aPa;rw [show Nat.ble (l.length*8) 70368744177664=true from aPp (by omega)];rfl
theorem aZ1 {α:Type}(f:α→α)(row:List α){i:Nat}(hi:i<row.length):((row.take i).map f++row.drop i).set i (f row[i])=(row.take (i+1)).map f++row.drop (i+1):=by
 have h1:((row.take i).map f).length=i:=by simp;omega
 rw [aZw hi,List.set_append_right _ _ (by omega),h1,Nat.sub_self,List.set_cons_zero,aZ7 hi,List.map_append,aQ4];rfl
theorem get_map {α:Type}(f:α→α)(row:List α)(d:α){i:Nat}(hi:i<row.length):((row.take i).map f++row.drop i).getD i d=row[i]:=by
 have h1:((row.take i).map f).length=i:=by simp;omega
 rw [aQj,a1N (by omega),h1,Nat.sub_self,aZw hi];rfl
theorem aZ2 {α:Type}(f:α→α)(row:List α)(i:Nat):((row.take i).map f++row.drop i).length=row.length:=by
 simp;omega
theorem aCP (c:MI)(i k:Int)(b:Body)(j:iF)(d:Thing)(row:List Int)(h:row.length≤1000000000) :
  F9 (((),(),(),(),(row.length:Int),(0:Int),()),c,(i,k,b,j,(),()),row,(d,()),())=some (.inl (.inl (((),(),()),c,(i,k,b,j,(),()),row.map (TW c),(d,()),()))):=by
 have h1:=gM (G:=fun x=>wA x.1.2.2.2.2.1 x.1.2.2.2.2.2.1 x.2.1 x.2.2.1 x.2.2.2.1 x.2.2.2.2.1) (n:=row.length) (inv:=fun n=>(((),(),(),(),(row.length:Int),(n:Int),()),c,(i,k,b,j,(),()),(row.take n).map (TW c)++row.drop n,(d,()),()))
  (y:=.inl (.inl (((),(),()),c,(i,k,b,j,(),()),(row.take row.length).map (TW c)++row.drop row.length,(d,()),()))) (fun n hn=>?_) ?_ row.length 0 fuel (by omega) (fuel_lt h)
 ·have h2:(row.take row.length).map (TW c)++row.drop row.length=row.map (TW c):=by simp
  rw [h2] at h1;exact h1
 ·have hin:decide ((0:Int)≤(n:Int)∧(n:Int)<((((row.take n).map (TW c)++row.drop n).length:Nat):Int))=true:=by rw [aZ2];exact bI hn
  show wA (row.length:Int) (n:Int) c (i,k,b,j,(),()) ((row.take n).map (TW c)++row.drop n) (d,())=_;simp only [wA,dec_lt hn,cond_true,hin,Int.toNat_natCast,get_map _ _ _ hn,aMZ,aEk,aZ1 _ _ hn,aN hn (by omega)]
 ·show wA (row.length:Int) (row.length:Int) c (i,k,b,j,(),()) _ (d,())=_;simp only [wA,bA,cond_false]
theorem bHd (t:Thing)(q:fW)(c:MI)(h:t.2.2.2.2.length≤1000000000):aUB t q c=some (match cpT c q t with | .inl u=>.inl ((u,()),c,()) | .inr e=>.inr e):=by
 unfold aUB cpT;rw [aMZ];simp only [aEk];cases h1:(t.2.1==(1:Int)) with
 | true=>
  simp only [cond_true];rw [a27];cases h2:XQ t.2.2.1.2.2.2.1 q with
  | inr e=>rfl
  | inl p=>
   simp only [aEk,aQM];have h3:l5 (t.2.2.1.1,t.2.2.1.2.1,t.2.2.1.2.2.1,p,t.2.2.1.2.2.2.2)=some ((rb (KA t.2.2.1 p),()):aS [.bool]):=aPW _;rw [h3];simp only [aEk];cases h4:rb (KA t.2.2.1 p) with
   | false=>rfl
   | true=>
    simp only [aXM,cond_false,cond_true];rw [ZS _ h];simp only [aEk];rw [aCP _ _ _ _ _ _ _ h];rfl
 | false=>
  simp only [cond_false];cases h2:(t.2.1==(2:Int)) with
  | true=>
   simp only [cond_true];rw [aMZ];simp only [aEk];rw [aMZ];simp only [aEk];rw [ZS _ h];simp only [aEk];rw [aCP _ _ _ _ _ _ _ h];rfl
  | false=>
   simp only [cond_false];rw [ZS _ h];simp only [aEk];rw [aCP _ _ _ _ _ _ _ h];rfl
def cpL (c:MI)(q:fW)(l:List Thing):List Int→List Thing→List Thing⊕Int
 | [],acc=>.inl acc
 | n :: ns,acc=>match cpT c q (bW l n).1 with
  | .inl u=>cpL c q l ns (acc++[u])
  | .inr e=>.inr e
theorem aCQ {c:MI}{q:fW}{l:List Thing}:∀ {ns:List Int} {acc:List Thing} {e:Int},cpL c q l ns acc=.inr e→e≠0
 | [],acc,e,h=>by cases h
 | n :: ns,acc,e,h=>by
  unfold cpL at h;cases h1:cpT c q (bW l n).1 with
  | inl u=>rw [h1] at h;exact aCQ h
  | inr e1=>rw [h1] at h;injection h with h;subst h;exact aZ0 h1
theorem aJU {l:List Thing}(hs:Small l)(n:Int):(bW l n).1.2.2.2.2.length≤1000000000:=by
 unfold bW;cases hx:idx l n with
 | none=>simp [cO]
 | some k=>
  obtain⟨t,ht,_⟩:=rN hx;simp only [ht,a0f];exact hs.2 t (aPl ht)
theorem bHe (ids:List Int)(s:aZ)(q:fW)(base:List Thing)(c:MI)(hs:Small s.2.2)(hi:ids.length≤1000000)(hb:base.length≤1000000) :
  aUG (ids,()) (s,()) ((),()) ((),()) (q,()) base c=some (match cpL c q s.2.2 ids base with | .inl out=>.inl ((),(ids,()),(s,()),((),()),((),()),(q,()),out,c,()) | .inr e=>.inr e):=by
 have key:∀ (d m k:Nat) (acc:List Thing),k+d=ids.length→d<m→acc.length≤base.length+k →
   aH (fun x=>J5 x.1.2.2.2.2.1 x.1.2.2.2.2.2.1 x.1.2.2.2.2.2.2.1 x.2.1 x.2.2.1 x.2.2.2.1 x.2.2.2.2.1 x.2.2.2.2.2.1 x.2.2.2.2.2.2.1 x.2.2.2.2.2.2.2.1) m (((),(),(),(),ids,(ids.length:Int),(k:Int),()),(ids,()),(s,()),((),()),((),()),(q,()),acc,c,()) =
    some (match cpL c q s.2.2 (ids.drop k) acc with | .inl out=>.inl (.inl ((),(ids,()),(s,()),((),()),((),()),(q,()),out,c,())) | .inr e=>.inr e):=by
  intro d
  induction d with
  | zero=>
   intro m k acc hk hm ha;obtain⟨m,rfl⟩:∃ j,m=j+1:=⟨m-1,by omega⟩;have:k=ids.length:=by omega
   subst this;rw [bM (y:=.inl (.inl ((),(ids,()),(s,()),((),()),((),()),(q,()),acc,c,()))) (by simp only [J5,bA,cond_false]),List.drop_length];rfl
  | succ d ih=>
   intro m k acc hk hm ha;obtain⟨m,rfl⟩:∃ j,m=j+1:=⟨m-1,by omega⟩;have hlt:k<ids.length:=by omega
   have hg:=aJS hlt;rw [aZw hlt];have h85:=bHd (bW s.2.2 ids[k]).1 q c (aJU hs _);cases hc:cpT c q (bW s.2.2 ids[k]).1 with
   | inr e=>
    rw [hc] at h85;rw [bM (y:=.inr e) ?_ m]
    ·simp only [cpL,hc]
    ·simp only [J5,dec_lt hlt,bI hlt,cond_true,bB hg,yA s _ hs.1 hs.2,aEk,h85,Sum.elim_inr]
   | inl u=>
    rw [hc] at h85;rw [bT (x':=(((),(),(),(),ids,(ids.length:Int),((k+1:Nat):Int),()),(ids,()),(s,()),((),()),((),()),(q,()),acc++[u],c,())) ?_ m]
    ·rw [ih m (k+1) (acc++[u]) (by omega) (by omega) (by simp;omega)];simp only [cpL,hc]
    ·simp only [J5,dec_lt hlt,bI hlt,cond_true,bB hg,yA s _ hs.1 hs.2,aEk,h85,aQM,aN hlt (by omega)];rw [show Nat.ble ((acc.length+[u].length)*128) 70368744177664=true from aPp (by simp;omega)];rfl
 have h:=key ids.length fuel 0 base (by omega) (fuel_lt (by omega)) (by omega);rw [List.drop_zero] at h;unfold aUG aJI;show(aH _ fuel (((),(),(),(),ids,(ids.length:Int),((0:Nat):Int),()),(ids,()),(s,()),((),()),((),()),(q,()),base,c,())).bind _=_;rw [h];cases cpL c q s.2.2 ids base <;> rfl
theorem bHf (ids:List Int)(s:aZ)(q:fW)(base:List Thing)(c:MI)(hs:Small s.2.2)(hi:ids.length≤1000000)(hb:base.length≤1000000) :
  aCG (ids,()) (s,()) ((),()) ((),()) (q,()) base c=some (match cpL c q s.2.2 ids base with | .inl out=>.inl ((0,()),(ids,()),(s,()),((),()),((),()),(q,()),out,c,()) | .inr e=>.inr e):=by
 unfold aCG;rw [bHe ids s q base c hs hi hb];cases cpL c q s.2.2 ids base <;> rfl
def jtB (a:List Int)(t:Thing):Bool:=t.2.1==(2:Int)&&(!a.contains t.1&&(a.contains t.2.2.2.1.1&&a.contains t.2.2.2.1.2.1))
def jts (l:List Thing)(a:List Int):List Int:=(l.filter (jtB a)).map aT
theorem bHg (s:aZ)(a:List Int)(hs:Small s.2.2)(hl:s.2.2.length≤1000000)(ha:a.length≤1000000000):aUx s a=some (jts s.2.2 a):=by
 have h:=I8 (G:=fun x=>TA x.1.1 x.1.2.2.1 x.1.2.2.2.1 x.1.2.2.2.2.1 x.2.1) (l:=s.2.2) (mk:=fun k (acc:List Int)=>((a,(),s.2.2,(s.2.2.length:Int),(k:Int),()),acc,()))
  (step:=fun acc t=>.inl (if jtB a t then acc++[aT t] else acc)) (fin:=fun acc=>.inl (((),()),acc,())) (fun k acc=>acc.length≤k) (fun k t acc hI ht=>?_) (fun k t acc acc' hI ht hst=>?_) (fun acc _=>?_) s.2.2.length fuel 0 [] (by omega) (fuel_lt hs.1) (by simp)
 ·have hf:∀ (l:List Thing) (acc:List Int),scan (Y:=N5.El⊕N6.El) (fun acc t=>.inl (if jtB a t then acc++[aT t] else acc)) (fun acc=>.inl (((),()),acc,())) l acc=.inl (((),()),acc++(l.filter (jtB a)).map aT,()):=by
   intro l
   induction l with
   | nil=>intro acc;simp [scan]
   | cons t l ih=>
    intro acc;simp only [scan,ih];cases hj:jtB a t <;> simp [hj]
  rw [List.drop_zero,hf] at h;unfold aUx aJF;show(aH _ fuel ((a,(),s.2.2,(s.2.2.length:Int),((0:Nat):Int),()),[],())).bind _=_;rw [h];show some ([]++(s.2.2.filter (jtB a)).map aT)=_;rw [List.nil_append];rfl
 ·have hk:=dF ht;simp only [TA,dec_lt hk,bI hk,cond_true,bB ht,aZZ a _ ha,aEk,aN hk (by omega)];unfold jtB;cases h1:(t.2.1==(2:Int)) with
  | false=>rfl
  | true=>
   cases h2:a.contains t.1 with
   | true=>rfl
   | false=>
    cases h3:a.contains t.2.2.2.1.1 with
    | false=>rfl
    | true=>
     cases h4:a.contains t.2.2.2.1.2.1 with
     | false=>rfl
     | true=>
      simp only [a9A,cond_true];rw [show Nat.ble ((acc.length+[t.1].length)*8) 70368744177664=true from aPp (by simp;omega)];rfl
 ·injection hst with hst
  subst hst;show(if jtB a t then acc++[aT t] else acc).length≤k+1
  split
  ·rw [aPk];show acc.length+1≤k+1;omega
  ·omega
 ·simp only [TA,bA,cond_false]
theorem bHh (l:List Thing)(hs:Small l)(hl:l.length≤1000000):aUt l=some l:=by
 have h90:QY l=some l:=by
  unfold QY;rw [show Nat.ble (l.length*128) 70368744177664=true from aPp (by omega)];rfl
 have h:=gM (G:=fun x=>D3 x.1.2.2.1 x.1.2.2.2.1 x.2.1) (n:=l.length) (inv:=fun n=>(((),(),(l.length:Int),(n:Int),()),l,())) (y:=.inl (((),()),l,())) (fun n hn=>?_) ?_ l.length 0 fuel (by omega) (fuel_lt hs.1)
 ·unfold aUt aJE;rw [h90];show(aH _ fuel (((),(),(l.length:Int),((0:Nat):Int),()),l,())).bind _=_;rw [h];rfl
 ·have hg:=aJS hn;show D3 (l.length:Int) (n:Int) l=_;simp only [D3,dec_lt hn,bI hn,cond_true,bB hg,aPj _ (hs.2 _ (aXB hn)),aEk,aN hn (by omega)];rw [Int.toNat_natCast,show(l[n].1,l[n].2.1,l[n].2.2.1,l[n].2.2.2.1,l[n].2.2.2.2)=l[n] from rfl,List.set_getElem_self]
 ·show D3 (l.length:Int) (l.length:Int) l=_;simp only [D3,bA,cond_false]
def w9 (s:aZ):Int:=s.2.1
def cmK (next:Int)(ids:List Int):Nat→MI
 | 0=>[]
 | i+1=>lG (.int .i64) (.int .i64) (ids.getD i 0) (next+i) (cmK next ids i)
theorem aZ4 (id:Int)(s:aZ)(q:fW)(d:aZ)(ids:List Int)(hi:ids.length≤1000000)(h0:0≤w9 s)(h1:w9 s≤1000000000) :
  aCH ((id,(),(),(),(),(),(),(ids.length:Int),(0:Int),()),(s,()),(q,()),(d,()),((),()),ids,((),()),[],())=some (.inl ((id,(),(),(),(),(),()),(s,()),(q,()),(d,()),(ids,()),((),()),cmK (w9 s) ids ids.length,())):=by
 have h:=gM (G:=fun x=>wB x.1.1 x.1.2.2.2.2.2.2.2.1 x.1.2.2.2.2.2.2.2.2.1 x.2.1 x.2.2.1 x.2.2.2.1 x.2.2.2.2.1 x.2.2.2.2.2.1 x.2.2.2.2.2.2.1 x.2.2.2.2.2.2.2.1) (n:=ids.length)
  (inv:=fun n=>((id,(),(),(),(),(),(),(ids.length:Int),(n:Int),()),(s,()),(q,()),(d,()),((),()),ids,((),()),cmK (w9 s) ids n,())) (y:=.inl ((id,(),(),(),(),(),()),(s,()),(q,()),(d,()),(ids,()),((),()),cmK (w9 s) ids ids.length,())) (fun n hn=>?_) ?_ ids.length 0 fuel (by omega) (fuel_lt (by omega))
 ·exact h
 ·show wB id (ids.length:Int) (n:Int) (s,()) (q,()) (d,()) ((),()) ids ((),()) (cmK (w9 s) ids n)=_;simp only [wB,dec_lt hn,bI hn,cond_true,aN hn (by omega),Int.toNat_natCast];rw [show s.2.1=w9 s from rfl,wrap64 (x:=w9 s+(n:Int)) (by omega) (by omega)];rfl
 ·show wB id (ids.length:Int) (ids.length:Int) (s,()) (q,()) (d,()) ((),()) ids ((),()) _=_;simp only [wB,bA,cond_false]
def oC (l:List Thing)(id:Int):List Int:=cI (sS l 100 id)
def jT (l:List Thing)(id:Int):List Int:=oC l id++jts l (oC l id)
def HY (s:aZ)(id:Int):MI:=cmK (w9 s) (jT s.2.2 id) (jT s.2.2 id).length
theorem bCE {s:aZ}(hr:bK s=true)(hs:Small s.2.2){n:Int}(hn:Is s.2.2 n):aMK s n=some (oC s.2.2 n):=by
 have h:=bR hr;have h1:aTQ s n=some (sS s.2.2 100 n):=aU0 h hs 100 0 n hn (fun j hj=>by
  obtain rfl:j=0:=by omega
  exact h.pos hn) (by have:=h.len;omega)
 have h2:xD (sS s.2.2 100 n)=some ((),cI (sS s.2.2 100 n),()):=by
  unfold xD;rw [show Nat.ble (sS s.2.2 100 n).length 1000000=true from aPp (by have:=h.few hs 100 hn;omega)];rfl
 unfold aMK;rw [JI s hs,hr];simp only [aEk,aXM,cond_false,h1,h2];rfl
theorem aCS {s:aZ}(hr:bK s=true)(hs:Small s.2.2){n:Int}(hn:Is s.2.2 n):(oC s.2.2 n).length≤40:=by
 unfold oC;rw [gN];exact(bR hr).few hs 100 hn
theorem aZ5 {l:List Thing}(a:List Int):(jts l a).length≤l.length:=by
 unfold jts;rw [aRD];exact aXR _ _
theorem aJV {s:aZ}(hr:bK s=true):1≤w9 s∧w9 s≤1000001:=by
 unfold bK at hr;rw [aKS] at hr;have h:=hr.1;unfold rO at h;simp only [aKS,decide_eq_true_eq] at h;exact⟨h.2.2.1,h.2.2.2.1⟩
theorem bHj (s:aZ)(id:Int)(q:fW)(hs:Small s.2.2)(hr:bK s=true) :
  (∃ e:Int,e≠0∧aJJ s id q=some ((eX,0,e,()):aS [aD,I,I])) ∨
  (Is s.2.2 id∧(bW s.2.2 id).1.2.1≠2∧s.2.2.length+(jT s.2.2 id).length≤40∧w9 s+(jT s.2.2 id).length≤1000001 ∧
   ∃ out,cpL (HY s id) q s.2.2 (jT s.2.2 id) s.2.2=.inl out∧aJJ s id q=some (((s.1,w9 s+(jT s.2.2 id).length,out),(fV (.int .i64) (.int .i64) id (HY s id)).getD 0,0,()):aS [aD,I,I])):=by
 have hR:=bR hr;have h40:=hR.len;have rK:=aJV hr;have e23:=yA s id hs.1 hs.2;have e20:=JI s hs;rw [hr] at e20;unfold aJJ;by_cases hb:(bW s.2.2 id).2=false
 ·refine .inl ⟨10,by decide,aB e23 (aB e20 (cU rfl (bZ ?_ rfl)))⟩;show(!(bW s.2.2 id).2)=true;rw [hb];rfl
 have hb:(bW s.2.2 id).2=true:=by simpa using hb
 have hn:Is s.2.2 id:=by
  unfold bW at hb;cases hx:idx s.2.2 id with
  | none=>rw [hx] at hb;cases hb
  | some k=>
   obtain⟨t,h1,h2⟩:=rN hx;exact⟨t,aPl h1,h2⟩
 by_cases hk:(bW s.2.2 id).1.2.1=2
 ·refine .inl ⟨9,by decide,aB e23 (aB e20 (cU rfl (cU ?_ (bZ ?_ rfl))))⟩
  ·show(!(bW s.2.2 id).2)=false;rw [hb];rfl
  ·show((bW s.2.2 id).1.2.1==(2:Int))=true;simpa using hk
 have fa:=aCS hr hs hn;have fj:=aZ5 (l:=s.2.2) (oC s.2.2 id);have e37:=bCE hr hs hn;have e81:=bHg s (oC s.2.2 id) hs (by omega) (by omega);have hil:(jT s.2.2 id).length=(oC s.2.2 id).length+(jts s.2.2 (oC s.2.2 id)).length:=by unfold jT;simp
 have c1:(!(bW s.2.2 id).2)=false:=by rw [hb];rfl
 have c2:((bW s.2.2 id).1.2.1==(2:Int))=false:=by simpa using hk
 have c3:((((oC s.2.2 id).length+(jts s.2.2 (oC s.2.2 id)).length)*8).ble 70368744177664)=true:=aPp (by omega);by_cases h1:(s.2.2.length:Int)+((jT s.2.2 id).length:Int)>40
 ·refine .inl ⟨12,by decide,aB e23 (aB e20 (cU rfl (cU c1 (cU c2 (aB e37 (aB e81 (bZ c3 (bZ ?_ rfl))))))))⟩;show decide (IntKind.i64.wrap ((s.2.2.length:Int)+((jT s.2.2 id).length:Int))>40)=true;rw [wrap64 (by omega) (by omega)];exact aKO h1
 have c4:decide (IntKind.i64.wrap ((s.2.2.length:Int)+((jT s.2.2 id).length:Int))>40)=false:=by
  rw [wrap64 (by omega) (by omega)];exact aKP h1
 by_cases h2:w9 s+((jT s.2.2 id).length:Int)>1000001
 ·refine .inl ⟨12,by decide,aB e23 (aB e20 (cU rfl (cU c1 (cU c2 (aB e37 (aB e81 (bZ c3 (cU c4 (bZ ?_ rfl)))))))))⟩;show decide (IntKind.i64.wrap (w9 s+((jT s.2.2 id).length:Int))>1000001)=true;rw [wrap64 (by omega) (by omega)];exact aKO h2
 have c5:decide (IntKind.i64.wrap (w9 s+((jT s.2.2 id).length:Int))>1000001)=false:=by
  rw [wrap64 (by omega) (by omega)];exact aKP h2
 have e42:=aZ4 id s q eX (jT s.2.2 id) (by omega) (by omega) (by omega);have e82:=bHh s.2.2 hs (by omega);have e83:=bHf (jT s.2.2 id) s q s.2.2 (HY s id) hs (by omega) (by omega);cases hc:cpL (HY s id) q s.2.2 (jT s.2.2 id) s.2.2 with
 | inr e=>
  rw [hc] at e83;refine .inl ⟨e,aCQ hc,aB e23 (aB e20 (cU rfl (cU c1 (cU c2 (aB e37 (aB e81 (bZ c3 (cU c4 (cU c5 (aB e42 (aB e82 (aB e83 (bZ ?_ rfl)))))))))))))⟩;simpa using aCQ hc
 | inl out=>
  rw [hc] at e83;refine .inr ⟨hn,hk,by omega,by omega,out,rfl,aB e23 (aB e20 (cU rfl (cU c1 (cU c2 (aB e37 (aB e81 (bZ c3 (cU c4 (cU c5 (aB e42 (aB e82 (aB e83 ?_))))))))))))⟩;show some (((s.1,IntKind.i64.wrap (w9 s+((jT s.2.2 id).length:Int)),out),_,(0:Int),()):aS [aD,I,I])=_;rw [wrap64 (by omega) (by omega)]
end Go.DI.S
end
