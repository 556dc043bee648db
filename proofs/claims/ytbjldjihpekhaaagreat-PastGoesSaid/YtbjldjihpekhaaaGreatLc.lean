import Derived.Test.YtbjldjihpekhaaaGreatAi
/- Things as bytes and back, plain. No conditions. -/
set_option linter.unusedSimpArgs false
set_option linter.unusedVariables false
set_option maxRecDepth 100000
set_option maxHeartbeats 0
noncomputable section
namespace Go.DI.S
open Go.Proofs
theorem a87 (n:Nat)(b:List UInt8)(bad:Bool):∃ (l b':List UInt8) (LI:Bool),RM (n:Int) (b,bad,())=some ((l,()),(b',LI,()),())∧l.length≤n:=by
 unfold RM;cases bad with
 | true=>exact⟨[],b,true,rfl,aLj _⟩
 | false=>
  simp only [cond_false];by_cases h:(n:Int)>((b.length:Nat):Int)
  ·rw [aKO h];exact⟨[],b,true,rfl,aLj _⟩
  ·have h2:(0:Int)≤(n:Int)∧(n:Int)≤((b.length:Nat):Int):=by omega
   rw [aKP h,aKO h2];refine⟨_,_,_,rfl,?_⟩;rw [aP6,Int.toNat_natCast];omega
theorem qM (n:Nat)(hn:n≤8)(b:List UInt8)(bad:Bool):∃ (v:Int) (b':List UInt8) (LI:Bool),fJ (n:Int) (b,bad,())=some ((v,()),(b',LI,()),())∧(n=1→0≤v∧v≤255):=by
 obtain⟨l,b',LI,h,hl⟩:=a87 n b bad;unfold fJ;simp only [h,aEk];rw [a2F _ (by omega)];refine⟨_,_,_,rfl,fun h1=>?_⟩;subst h1
 match l,hl with
 | [],_=>
  show 0≤IntKind.i64.wrap 0∧IntKind.i64.wrap 0≤255;decide
 | [c],_=>
  show 0≤IntKind.i64.wrap (nL 0 c)∧IntKind.i64.wrap (nL 0 c)≤255;have h2:nL 0 c=c.toNat:=by
   rw [AB];have:=c.toNat_lt;omega
  have:=c.toNat_lt;rw [h2,wrap64 (by omega) (by omega)];omega
theorem aK0 (b:List UInt8)(bad:Bool):∃ (v:fW) (b':List UInt8) (LI:Bool),FX (b,bad,())=some ((v,()),(b',LI,()),()):=by
 obtain⟨x,b1,d1,h1,_⟩:=qM 8 (by omega) b bad;obtain⟨y,b2,d2,h2,_⟩:=qM 8 (by omega) b1 d1;have h1:fJ 8 (b,bad,())=_:=h1;have h2:fJ 8 (b1,d1,())=_:=h2;unfold FX;simp only [h1,aEk,h2];exact⟨_,_,_,rfl⟩
theorem a3F (s:List UInt8)(id kind:Int)(b:Body)(j:iF):∀ (k m:Nat) (row:List Int) (r:List UInt8) (bad:Bool),k<m→k+row.length≤1000 →
  ∃ (row':List Int) (r':List UInt8) (LI:Bool),aH (fun x=>qZ x.1.1 x.1.2.2.2.2.1 x.2.1 x.2.2.1 x.2.2.2.1 x.2.2.2.2.1) m ((s,(),(),(),(k:Int),()),(cO,()),(r,bad,()),(id,kind,b,j,(),()),row,()) =
   some (.inl ((s,(),(),(),()),(cO,()),(r',LI,()),(id,kind,b,j,(),()),row',()))∧row'.length≤1000
 | 0,m,row,r,bad,hm,hr=>by
  obtain⟨m,rfl⟩:∃ q,m=q+1:=⟨m-1,by omega⟩;exact⟨row,r,bad,bM (by simp only [qZ];rfl) m,by omega⟩
 | k+1,m,row,r,bad,hm,hr=>by
  obtain⟨m,rfl⟩:∃ q,m=q+1:=⟨m-1,by omega⟩;obtain⟨v,r',LI,h,_⟩:=qM 4 (by omega) r bad;have h:fJ 4 (r,bad,())=_:=h;obtain⟨bH3,r2,bH4,h2,h3⟩:=a3F s id kind b j k m (row++[v]) r' LI (by omega) (by simp;omega);refine⟨bH3,r2,bH4,?_,h3⟩;rw [bT (x':=((s,(),(),(),(k:Int),()),(cO,()),(r',LI,()),(id,kind,b,j,(),()),row++[v],())) ?_ m]
  ·exact h2
  ·have hp:decide (((k+1:Nat):Int)>0)=true:=aKO (by omega);have hw:IntKind.i64.wrap (((k+1:Nat):Int)-1)=(k:Int):=by rw [wrap64 (by omega) (by omega)];omega
   simp only [qZ,hp,cond_true,h,aEk,hw];rw [show Nat.ble ((row.length+[v].length)*8) 70368744177664=true from aPp (by simp;omega)];rfl
def a88 (b:List UInt8)(o:Option (aS [aA,.bool])):Prop:=
 (∃ t:Thing,o=some ((t,true,()):aS [aA,.bool])∧rt t=true∧j4 (qS t)=b∧t.2.2.2.2.length≤1000)∨o=some ((cO,false,()):aS [aA,.bool])
theorem aD4 (a:List UInt8)(t:Thing)(bad:Bool)(hl:t.2.2.2.2.length≤1000) :
  a88 a ((FV t).bind fun v=>bif bad then some ((cO,false,()):aS [aA,.bool]) else bif !v.2.1 then some (cO,false,()) else bif !v.1==a then some (cO,false,()) else some (t,true,())):=by
 rw [a5u t (by omega)];cases bad with
 | true=>exact .inr (by cases rt t <;> rfl)
 | false=>
  cases hr:rt t with
  | false=>exact .inr rfl
  | true=>
   simp only [cond_true,aEk,cond_false,aXM];by_cases e:j4 (qS t)=a
   ·left;refine⟨t,?_,hr,e,hl⟩;have:(!(j4 (qS t)==a))=false:=by rw [e];simp
    exact cU this rfl
   ·right;have:(!(j4 (qS t)==a))=true:=by
     have:(j4 (qS t)==a)=false:=beq_false_of_ne e;rw [this];rfl
    exact bZ this rfl
theorem a3G (a:List UInt8):a88 a (M5 a):=by
 unfold M5;obtain⟨k,b1,d1,h1,_⟩:=qM 1 (by omega) a false;have h1:fJ 1 (a,false,())=_:=h1;obtain⟨id,b2,d2,h2,_⟩:=qM 4 (by omega) b1 d1;have h2:fJ 4 (b1,d1,())=_:=h2;simp only [h1,aEk,h2];cases (k==(1:Int)) with
 | true=>
  obtain⟨x1,b3,d3,h3,_⟩:=qM 1 (by omega) b2 d2;have h3:fJ 1 (b2,d2,())=_:=h3;obtain⟨x2,b4,d4,h4⟩:=aK0 b3 d3;obtain⟨x3,b5,d5,h5,_⟩:=qM 8 (by omega) b4 d4;have h5:fJ 8 (b4,d4,())=_:=h5;obtain⟨x4,b6,d6,h6⟩:=aK0 b5 d5;obtain⟨x5,b7,d7,h7⟩:=aK0 b6 d6;simp only [cond_true,h3,aEk,h4,h5,h6,h7];exact aD4 a (id,k,(x1,x2,x3,x4,x5),((0:Int),(0:Int),(0:Int)),[]) d7 (aLj _)
 | false=>
  simp only [cond_false];cases (k==(2:Int)) with
  | true=>
   obtain⟨x1,b3,d3,h3,_⟩:=qM 4 (by omega) b2 d2;have h3:fJ 4 (b2,d2,())=_:=h3;obtain⟨x2,b4,d4,h4,_⟩:=qM 4 (by omega) b3 d3;have h4:fJ 4 (b3,d3,())=_:=h4;obtain⟨x3,b5,d5,h5,_⟩:=qM 8 (by omega) b4 d4;have h5:fJ 8 (b4,d4,())=_:=h5;simp only [cond_true,h3,aEk,h4,h5];exact aD4 a (id,k,rQ,(x1,x2,x3),[]) d5 (aLj _)
  | false=>
   simp only [cond_false];cases (k==(3:Int)) with
   | true=>
    obtain⟨x1,b3,d3,h3,hx⟩:=qM 1 (by omega) b2 d2;have h3:fJ 1 (b2,d2,())=_:=h3;obtain⟨c,rfl⟩:=Int.eq_ofNat_of_zero_le (hx rfl).1;have hc:=(hx rfl).2;obtain⟨row,r',LI,h4,h5⟩:=a3F a id k rQ n7 c fuel [] b3 d3 (fuel_lt (by omega)) (by simp;omega);simp only [cond_true,h3,aEk];have h4:NT ((a,(),(),(),(c:Int),()),(cO,()),(b3,d3,()),(id,k,rQ,n7,(),()),[],())=_:=h4;refine Eq.mpr (aKR (a88 a) (aB h4 rfl)) ?_;exact aD4 a (id,k,rQ,n7,row) LI h5
   | false=>
    simp only [cond_false];exact aD4 a (id,k,rQ,n7,[]) d2 (aLj _)
def rU (b:List UInt8):Option Thing:=match M5 b with
 | some x=>bif x.2.1 then some x.1 else none
 | none=>none
theorem bD3 (b:List UInt8):M5 b=some ((match rU b with | some t=>(t,true,()) | none=>(cO,false,())):aS [aA,.bool]):=by
 rcases a3G b with⟨t,h,_⟩ | h
 ·have:rU b=some t:=by unfold rU;rw [h];rfl
  rw [this,h]
 ·have:rU b=none:=by unfold rU;rw [h];rfl
  rw [this,h]
theorem aQU {b:List UInt8}{t:Thing}(h:rU b=some t):rt t=true∧j4 (qS t)=b∧t.2.2.2.2.length≤1000:=by
 rcases a3G b with⟨u,h1,h2⟩ | h1
 ·have:rU b=some u:=by unfold rU;rw [h1];rfl
  rw [this] at h;injection h with h
  subst h;exact h2
 ·have:rU b=none:=by unfold rU;rw [h1];rfl
  rw [this] at h;cases h
theorem aXw (t:Thing)(hw:aA.wf t)(hl:t.2.2.2.2.length≤1000000)(h:rt t=true):rU (j4 (qS t))=some t:=by
 unfold rU;rw [bGL t hw hl h];rfl
theorem HT (t:Thing):j4 (qS t)≠[]:=by
 unfold qS;rw [q7];intro h;have:=aKR List.length h;rw [aPk,aMh,eU] at this;simp at this
theorem aH6:rU []=none:=by
 cases h:rU [] with
 | none=>rfl
 | some t=>exact absurd (aQU h).2.1 (HT t)
abbrev kM:=bD.El
abbrev Entry:=cA.El
abbrev Str:=List UInt8
abbrev Bl1:=Option (aS [.bool])
theorem aOe {c x:Bool}{X:Bl1}(h:X=some (x,())):(bif c then some ((false,()):aS [.bool]) else X)=some (!c&&x,()):=by cases c <;> simp [h]
theorem bD4 {c x:Bool}{X:Bl1}(h:X=some (x,())):(bif !c then some ((false,()):aS [.bool]) else X)=some (c&&x,()):=by cases c <;> simp [h]
theorem bD5 {c x:Bool}{X:Bl1}(h:X=some (x,())):(bif c then X else some ((false,()):aS [.bool]))=some (c&&x,()):=by cases c <;> simp [h]
theorem a1y {c x:Bool}{X:Bl1}(h:X=some (x,())):(bif c then some ((true,()):aS [.bool]) else X)=some (c||x,()):=by cases c <;> simp [h]
def gF (id:Int)(b:Str):Bool:=(b==[])||(match rU b with | some t=>t.1==id | none=>false)
theorem bD6 (d:kM)(b:Str):aAp d b=some ((gF d.1 b,()):aS [.bool]):=by
 unfold aAp gF;refine aB (bD3 b) ?_;cases rU b with
 | some t=>exact a1y rfl
 | none=>exact a1y rfl
def MU (a:Int)(d:kM):Option Int:=
 bif decide (d.1≤a) then none else bif !(decide (d.1≥1)&&decide (d.1≤1000000)) then none else bif d.2.1==d.2.2 then none else bif !gF d.1 d.2.1 then none else bif !gF d.1 d.2.2 then none else some d.1
def DL:Int→List kM→Prop
 | _,[]=>True
 | a,d :: l=>a<d.1∧1≤d.1∧d.1≤1000000∧d.2.1≠d.2.2∧gF d.1 d.2.1=true∧gF d.1 d.2.2=true∧DL d.1 l
theorem aQV (a:Int)(d:kM):(MU a d=some d.1∧(a<d.1∧1≤d.1∧d.1≤1000000∧d.2.1≠d.2.2∧gF d.1 d.2.1=true∧gF d.1 d.2.2=true)) ∨
  (MU a d=none∧¬(a<d.1∧1≤d.1∧d.1≤1000000∧d.2.1≠d.2.2∧gF d.1 d.2.1=true∧gF d.1 d.2.2=true)):=by
 obtain⟨(n:Int),(p:Str),(q:Str)⟩:=d;unfold MU;show((bif decide (n≤a) then none else bif !(decide (n≥1)&&decide (n≤1000000)) then none else bif p==q then none else bif !gF n p then none else bif !gF n q then none else some n)=some n∧(a<n∧1≤n∧n≤1000000∧p≠q∧gF n p=true∧gF n q=true)) ∨
  ((bif decide (n≤a) then none else bif !(decide (n≥1)&&decide (n≤1000000)) then none else bif p==q then none else bif !gF n p then none else bif !gF n q then none else some n)=none∧¬(a<n∧1≤n∧n≤1000000∧p≠q∧gF n p=true∧gF n q=true))
 by_cases h1:n≤a
 ·right;rw [aKO h1];exact⟨rfl,fun h=>by omega⟩
 rw [aKP h1,cond_false];by_cases h2:n≥1
 ·by_cases h3:n≤1000000
  ·rw [aKO h2,aKO h3];simp only [Bool.and_self,aXM,cond_false];by_cases h4:p=q
   ·right;rw [beq_iff_eq.2 h4];exact⟨rfl,fun h=>h.2.2.2.1 h4⟩
   ·rw [beq_false_of_ne h4,cond_false];cases h5:gF n p with
    | false=>right;exact⟨rfl,fun h=>(by cases h.2.2.2.2.1)⟩
    | true=>
     cases h6:gF n q with
     | false=>right;exact⟨rfl,fun h=>(by cases h.2.2.2.2.2)⟩
     | true=>left;exact⟨rfl,by omega,h2,h3,h4,rfl,rfl⟩
  ·right;rw [aKP h3,Bool.and_false];exact⟨rfl,fun h=>h3 h.2.2.1⟩
 ·right;rw [aKP h2,Bool.false_and];exact⟨rfl,fun h=>h2 h.2.1⟩
theorem aD5:∀ (l:List kM) (a:Int),(eS MU l a).isSome=true↔DL a l
 | [],a=>⟨fun _=>trivial,fun _=>rfl⟩
 | d :: l,a=>by
  rcases aQV a d with⟨h,k⟩ | ⟨h,k⟩
  ·simp only [eS,h,DL];rw [aD5 l d.1];exact⟨fun m=>⟨k.1,k.2.1,k.2.2.1,k.2.2.2.1,k.2.2.2.2.1,k.2.2.2.2.2,m⟩,fun m=>m.2.2.2.2.2.2⟩
  ·simp only [eS,h,DL];exact⟨fun m=>(by cases m),fun m=>absurd ⟨m.1,m.2.1,m.2.2.1,m.2.2.2.1,m.2.2.2.2.1,m.2.2.2.2.2.1⟩ k⟩
def MV (a b:fW):Bool:=a.1==b.1&&(a.2==b.2&&true)
theorem wW {a b:fW}:MV a b=true↔a=b:=by
 obtain⟨a1,a2⟩:=a;obtain⟨b1,b2⟩:=b;unfold MV;simp only [Bool.and_true,aKS,beq_iff_eq,aKN]
structure RE (e:Entry):Prop where
 dl:DL 0 e.1
 len:e.1.length≤40
 turned:e.2.1=true↔e.2.2.1≠e.2.2.2.1
 bD7:e.2.1=false→e.2.2.1=((0:Int),(0:Int))
 nb:1≤e.2.2.2.2.1∧e.2.2.2.2.1≤(1000001:Int)
 na:1≤e.2.2.2.2.2∧e.2.2.2.2.2≤(1000001:Int)
 bD8:m0 e.2.2.1=true
 bD9:m0 e.2.2.2.1=true
 some_:e.1≠[]∨e.2.1=true∨e.2.2.2.2.1≠e.2.2.2.2.2
def a1z (a b:Int):Bool:=decide ((if b<a then b else a)<(1:Int))
def a1A (a b:Int):Bool:=decide ((if b>a then b else a)>(1000001:Int))
theorem aXx {a b:Int}:a1z a b=false↔1≤a∧1≤b:=by
 unfold a1z;rw [decide_eq_false_iff_not]
 split <;> omega
theorem aXy {a b:Int}:a1A a b=false↔a≤1000001∧b≤1000001:=by
 unfold a1A;rw [decide_eq_false_iff_not]
 split <;> omega
def a1B (e:Entry):Bool:=!a1z e.2.2.2.2.1 e.2.2.2.2.2&&(!a1A e.2.2.2.2.1 e.2.2.2.2.2&&(m0 e.2.2.1&&(m0 e.2.2.2.1&&(decide (((e.1.length:Nat):Int)>0)||(e.2.1||e.2.2.2.2.1 != e.2.2.2.2.2)))))
theorem a9a (e:Entry):(bif a1z e.2.2.2.2.1 e.2.2.2.2.2 then some ((false,()):aS [.bool]) else bif a1A e.2.2.2.2.1 e.2.2.2.2.2 then some (false,()) else
  (rL (e.2.2.1,[],[])).bind fun v=>bif v.1 then(rL (e.2.2.2.1,[],[])).bind fun u=>bif u.1 then(bif decide (((e.1.length:Nat):Int)>0) then some (true,()) else bif e.2.1 then some (true,()) else some (e.2.2.2.2.1 != e.2.2.2.2.2,())) else some (false,()) else some (false,()))=some ((a1B e,()):aS [.bool]):=by
 unfold a1B;refine aOe (aOe (aB (a5a _) (bD5 (aB (a5a _) (bD5 (a1y (a1y rfl)))))))
def aOf (e:Entry):Bool:=!decide (((e.1.length:Nat):Int)>40)&&(!!(e.2.1==!MV e.2.2.1 e.2.2.2.1)&&((e.2.1||MV e.2.2.1 ((0:Int),(0:Int)))&&a1B e))
def y5 (e:Entry):Bool:=(eS MU e.1 0).isSome&&aOf e
theorem bH5 (e:Entry)(hl:e.1.length≤1000000000):aDP e=some ((y5 e,()):aS [.bool]):=by
 have h:=sQ (G:=fun x=>EH x.1.2.1 x.1.2.2.1 x.1.2.2.2.1 x.1.2.2.2.2.1 x.2.1) (m:=fuel) e.1 MU (fun k a=>(((),a,e.1,(e.1.length:Int),(k:Int),()),(e,()),())) (.inr ((false,()),())) (fun a=>.inl (((),()),(e,()),()))
  (fun k d a hd=>?_) (fun a=>?_) (fuel_lt hl) 0
 ·unfold aDP y5;have h:aKL (((),(0:Int),e.1,((e.1.length:Nat):Int),(0:Int),()),(e,()),())=_:=h;refine aB h ?_;cases eS MU e.1 0 with
  | none=>rfl
  | some a=>
   show(bif decide (((e.1.length:Nat):Int)>40) then some ((false,()):aS [.bool]) else _)=some ((true&&aOf e,()):aS [.bool]);rw [Bool.true_and];unfold aOf;refine aOe (aOe ?_);have hc:=a9a e;show(bif !e.2.1 then(bif !MV e.2.2.1 ((0:Int),(0:Int)) then some ((false,()):aS [.bool]) else _) else _)=_;cases ht:e.2.1 with
   | false=>
    rw [ht] at hc;simp only [a9A,cond_true,Bool.false_or];exact bD4 hc
   | true=>
    rw [ht] at hc;simp only [aXM,cond_false,Bool.true_or,Bool.true_and];exact hc
 ·have hk:=dF hd;show EH a e.1 (e.1.length:Int) (k:Int) (e,())=_;simp only [EH,dec_lt hk,bI hk,cond_true,bB hd,aN hk (by omega),a5x,bD6,aEk];unfold MU;cases decide (d.1≤a) with
  | true=>rfl
  | false=>
   cases (decide (d.1≥1)&&decide (d.1≤1000000)) with
   | false=>rfl
   | true=>
    simp only [aXM,cond_false];cases (d.2.1==d.2.2) with
    | true=>rfl
    | false=>
     simp only [cond_false];cases gF d.1 d.2.1 with
     | false=>rfl
     | true=>
      cases gF d.1 d.2.2 <;> rfl
 ·show EH a e.1 (e.1.length:Int) (e.1.length:Int) (e,())=_;simp only [EH,bA,cond_false]
theorem aK1 {e:Entry}:y5 e=true↔RE e:=by
 unfold y5 aOf a1B;simp only [aKS,a1K,Bool.not_not,Bool.or_eq_true,decide_eq_false_iff_not,decide_eq_true_iff,wW,aXx,aXy,bne_iff_ne,beq_iff_eq];constructor
 ·rintro ⟨h1,h2,h3,h4,h5,h6,h7,h8,h9⟩;refine⟨(aD5 _ _).1 h1,by omega,?_,fun h=>?_,⟨h5.1,h6.1⟩,⟨h5.2,h6.2⟩,h7,h8,?_⟩
  ·rw [h3];constructor
   ·intro h k;rw [wW.2 k] at h;cases h
   ·intro h;cases hv:MV e.2.2.1 e.2.2.2.1 with
    | true=>exact absurd (wW.1 hv) h
    | false=>rfl
  ·rcases h4 with h4 | h4
   ·rw [h4] at h;cases h
   ·exact h4
  ·rcases h9 with h9 | h9 | h9
   ·left;intro k;rw [k] at h9;simp at h9
   ·exact .inr (.inl h9)
   ·exact .inr (.inr h9)
 ·intro h;refine⟨(aD5 _ _).2 h.dl,by have:=h.len;omega,?_,?_,⟨h.nb.1,h.na.1⟩,⟨h.nb.2,h.na.2⟩,h.bD8,h.bD9,?_⟩
  ·cases hv:MV e.2.2.1 e.2.2.2.1 with
   | true=>
    cases ht:e.2.1 with
    | true=>exact absurd (wW.1 hv) (h.turned.1 ht)
    | false=>rfl
   | false=>
    have:e.2.1=true:=h.turned.2 fun k=>by rw [wW.2 k] at hv;cases hv
    rw [this];rfl
  ·cases ht:e.2.1 with
   | true=>exact .inl rfl
   | false=>exact .inr (h.bD7 ht)
  ·rcases h.some_ with k | k | k
   ·left;have:=List.length_pos_iff.2 k;omega
   ·exact .inr (.inl k)
   ·exact .inr (.inr k)
def mL (d:kM):kM:=(d.1,d.2.2,d.2.1)
def aFk (e:Entry):Entry:=(e.1.map mL,e.2.1,e.2.2.2.1,e.2.2.1,e.2.2.2.2.2,e.2.2.2.2.1)
theorem aRI:∀ {l:List kM} {a:Int},DL a l→DL a (l.map mL)
 | [],a,_=>trivial
 | d :: l,a,h=>⟨h.1,h.2.1,h.2.2.1,fun k=>h.2.2.2.1 k.symm,h.2.2.2.2.2.1,h.2.2.2.2.1,aRI h.2.2.2.2.2.2⟩
theorem bA9 {e:Entry}(h:RE e):RE (aFk e):=by
 refine⟨aRI h.dl,by show(e.1.map mL).length≤40;rw [aRD];exact h.len,?_,fun k=>?_,h.na,h.nb,h.bD9,h.bD8,?_⟩
 ·rw [show(aFk e).2.1=e.2.1 from rfl,h.turned];exact⟨fun k m=>k m.symm,fun k m=>k m.symm⟩
 ·have k:e.2.1=false:=k;have h0:=h.bD7 k;show e.2.2.2.1=_;rw [← h0];have:¬(e.2.2.1≠e.2.2.2.1):=fun m=>by rw [h.turned.2 m] at k;cases k
  exact(Classical.not_not.1 this).symm
 ·rcases h.some_ with k | k | k
  ·left;show e.1.map mL≠[];intro m;exact k (List.map_eq_nil_iff.1 m)
  ·exact .inr (.inl k)
  ·exact .inr (.inr fun m=>k m.symm)
theorem a1T (l:List kM){i:Nat}(hi:i<l.length):((l.take i).map mL++l.drop i).set i (mL l[i])=(l.take (i+1)).map mL++l.drop (i+1):=by
 have h1:((l.take i).map mL).length=i:=by simp;omega
 rw [aZw hi,List.set_append_right _ _ (by omega),h1,Nat.sub_self,List.set_cons_zero,aZ7 hi,List.map_append,aQ4];rfl
theorem a1W (l:List kM)(d:kM){i:Nat}(hi:i<l.length):((l.take i).map mL++l.drop i).getD i d=l[i]:=by
 have h1:((l.take i).map mL).length=i:=by simp;omega
 rw [aQj,a1N (by omega),h1,Nat.sub_self,aZw hi];rfl
theorem aLp (l:List kM)(i:Nat):((l.take i).map mL++l.drop i).length=l.length:=by simp;omega
theorem bJy (e:Entry)(hl:e.1.length≤1000000):aWU e=some ((aFk e,()):aS [cA]):=by
 obtain⟨(l:List kM),(tu:Bool),(f:fW),(t:fW),(nb:Int),(na:Int)⟩:=e;have hl:l.length≤1000000:=hl;have h1:=gM (G:=fun x=>aNM x.1.2.2.2.1 x.1.2.2.2.2.1 x.2.1 x.2.2.1 x.2.2.2.1) (n:=l.length) (inv:=fun n=>(((),(),(),(l.length:Int),(n:Int),()),((),tu,f,t,nb,na,()),(l.take n).map mL++l.drop n,(([],false,((0:Int),(0:Int)),((0:Int),(0:Int)),(0:Int),(0:Int)),()),()))
  (y:=.inl (((),(),()),((),tu,f,t,nb,na,()),(l.take l.length).map mL++l.drop l.length,(([],false,((0:Int),(0:Int)),((0:Int),(0:Int)),(0:Int),(0:Int)),()),())) (fun n hn=>?_) ?_ l.length 0 fuel (by omega) (fuel_lt (by omega))
 ·have h2:(l.take l.length).map mL++l.drop l.length=l.map mL:=by simp
  rw [h2] at h1;unfold aWU;have h0:aWF l=some l:=by
   unfold aWF aSH;rw [show Nat.ble (l.length*40) 70368744177664=true from aPp (by omega)];rfl
  have h1:aNN (((),(),(),(l.length:Int),(0:Int),()),((),tu,f,t,nb,na,()),l,(([],false,((0:Int),(0:Int)),((0:Int),(0:Int)),(0:Int),(0:Int)),()),())=_:=h1;exact aB h0 (aB h1 rfl)
 ·have hin:decide ((0:Int)≤(n:Int)∧(n:Int)<((((l.take n).map mL++l.drop n).length:Nat):Int))=true:=by rw [aLp];exact bI hn
  show aNM (l.length:Int) (n:Int) ((),tu,f,t,nb,na,()) ((l.take n).map mL++l.drop n) _=_;have bLD:∀ X:kM,decide ((0:Int)≤(n:Int)∧(n:Int)<(((((l.take n).map mL++l.drop n).set n X).length:Nat):Int))=true:=by
   intro X;rw [aXK];exact hin
  have hg:∀ (X d:kM),(((l.take n).map mL++l.drop n).set n X).getD n d=X:=by
   intro X d;have:n<((l.take n).map mL++l.drop n).length:=by rw [aLp];exact hn
   rw [aQj,List.getElem?_set_self this];rfl
  have hwu:=aN hn (by omega);unfold aNM;refine bZ (dec_lt hn) (bZ hin (bZ hin (bZ (bLD _) ?_)));simp only [Int.toNat_natCast,a1W l _ hn,hg,List.set_set,hwu];rw [← a1T l hn];rfl
 ·show aNM (l.length:Int) (l.length:Int) _ _ _=_;simp only [aNM,bA,cond_false]
def cK (l:List Thing)(id:Int):Str:=bif(bW l id).2 then(bif rt (bW l id).1 then j4 (qS (bW l id).1) else []) else []
theorem aH7 {l:List Thing}(hs:Small l)(h2:∀ t∈l,t.2.2.2.2.length≤1000000)(id:Int):(bW l id).1.2.2.2.2.length≤1000000:=by
 unfold bW;cases hx:idx l id with
 | none=>exact aLj _
 | some k=>
  obtain⟨t,h1,_⟩:=rN hx;show((l[k]?).getD cO).2.2.2.2.length≤1000000;rw [h1];exact h2 t (aPl h1)
theorem a3H (s:aZ)(id:Int)(hs:Small s.2.2)(h2:∀ t∈s.2.2,t.2.2.2.2.length≤1000000):V2 s id=some ((cK s.2.2 id,()):aS [.str]):=by
 unfold V2 cK;refine aB (yA s id hs.1 hs.2) ?_;have h61:=a5u (bW s.2.2 id).1 (aH7 hs h2 id);show(bif !(bW s.2.2 id).2 then some (([],()):aS [.str]) else(FV (bW s.2.2 id).1).bind fun v4=>some (v4.1,()))=_;cases (bW s.2.2 id).2 with
 | false=>rfl
 | true=>
  simp only [aXM,cond_false,cond_true];refine aB h61 ?_;cases rt (bW s.2.2 id).1 <;> rfl
end Go.DI.S
end
