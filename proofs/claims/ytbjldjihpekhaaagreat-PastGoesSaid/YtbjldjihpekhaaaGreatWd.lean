import Derived.Test.YtbjldjihpekhaaaGreatWc
import Derived.Test.YtbjldjihpekhaaaGreatAf
/- A world runs through, plain. No conditions. -/
set_option linter.unusedSimpArgs false
set_option linter.unusedVariables false
set_option maxRecDepth 100000
set_option maxHeartbeats 0
noncomputable section
namespace Go.DI.S
open Go.Proofs
def Bd (n:Nat)(p:Option ((Unit×List Body×Unit)⊕Int)):Prop:=∃ y,p=some y∧Sum.elim (fun y=>y.2.1.length=n) (fun e=>e=3∨e=4) y
section
variable {n:Nat}
theorem aKZ {α:Type}{m:List α}(hm:m.length=n){k:Nat}(h:k<n):decide ((0:Int)≤(k:Int)∧(k:Int)<((m.length:Nat):Int))=true:=by rw [hm];exact bI h
theorem bDT (hn:n≤1000000)(g:fW)(js:List iF)(l:List Body)(hl:l.length=n):Bd n (aHk (g,(),js,()) l):=by
 have:=bP (G:=fun x=>BF x.1.2.2.1 x.1.2.2.2.1 x.2.1 x.2.2.1)
  (fun x=>∃ (k:Nat) (m:List Body),k≤n∧m.length=n∧x=(((),(),(n:Int),(k:Int),()),m,(g,(),js,()),())) (fun x=>n-x.1.2.2.2.1.toNat)
  (fun y=>(∃ m:List Body,m.length=n∧y=.inl (.inl ((),m,())))∨∃ e,y=.inr e∧(e=3∨e=4)) ?_ fuel (((),(),(n:Int),(0:Int),()),l,(g,(),js,()),()) ⟨0,l,aLj _,hl,rfl⟩ (by
   show n-(0:Int).toNat<fuel;unfold fuel;omega)
 ·obtain⟨y,h,hy⟩:=this;unfold aHk aDz;rw [hl,h];rcases hy with⟨m,hm,rfl⟩ | ⟨e,rfl,he⟩
  ·exact⟨_,rfl,hm⟩
  ·exact⟨_,rfl,he⟩
 ·rintro x ⟨k,m,hk,hm,rfl⟩;show(∃ x',BF (n:Int) (k:Int) m (g,(),js,())=_∧_)∨∃ y,BF (n:Int) (k:Int) m (g,(),js,())=_∧_;unfold BF;by_cases h:k<n
  ·have CJ:n-(IntKind.i64.wrap ((k:Int)+1)).toNat<n-(k:Int).toNat:=by rw [aN h (by omega)];omega
   simp only [dec_lt h,cond_true,aKZ hm h];cases ((m.getD (Int.toNat (k:Int)) aM.dflt).snd.snd.fst != (0:Int)) with
   | false=>exact .inl ⟨_,rfl,⟨k+1,m,h,hm,by rw [aN h (by omega)]⟩,CJ⟩
   | true=>
    simp only [cond_true];obtain⟨y1,e1,h1⟩:=EK g (m.getD (Int.toNat (k:Int)) aM.dflt).snd.snd.fst;rw [e1];cases y1 with
    | inr e=>exact .inr ⟨_,rfl,.inr ⟨e,rfl,h1⟩⟩
    | inl v1=>
     simp only [aEk,aQM];obtain⟨y2,e2,h2⟩:=aW9 v1.1 64;rw [e2];cases y2 with
     | inr e=>exact .inr ⟨_,rfl,.inr ⟨e,rfl,h2⟩⟩
     | inl v2=>
      simp only [aEk,aQM];obtain⟨y3,e3,h3⟩:=MT (m.getD (Int.toNat (k:Int)) aM.dflt).snd.snd.snd.snd v2.1;rw [e3];cases y3 with
      | inr e=>exact .inr ⟨_,rfl,.inr ⟨e,rfl,h3⟩⟩
      | inl v3=>
       simp only [aEk,aQM,cond_true];exact .inl ⟨_,rfl,⟨k+1,_,h,aXK.trans hm,by rw [aN h (by omega)]⟩,CJ⟩
  ·have:k=n:=by omega
   subst this;simp only [bA,cond_false];exact .inr ⟨_,rfl,.inl ⟨m,hm,rfl⟩⟩
theorem bDU (hn:n≤1000000)(g:fW)(js:List iF)(l:List Body)(hl:l.length=n):Bd n (aHv (g,(),js,()) l):=by
 have:=bP (G:=fun x=>BK x.1.2.2.1 x.1.2.2.2.1 x.2.1 x.2.2.1)
  (fun x=>∃ (k:Nat) (m:List Body),k≤n∧m.length=n∧x=(((),(),(n:Int),(k:Int),()),m,(g,(),js,()),())) (fun x=>n-x.1.2.2.2.1.toNat)
  (fun y=>(∃ m:List Body,m.length=n∧y=.inl (.inl ((),m,())))∨∃ e,y=.inr e∧(e=3∨e=4)) ?_ fuel (((),(),(n:Int),(0:Int),()),l,(g,(),js,()),()) ⟨0,l,aLj _,hl,rfl⟩ (by
   show n-(0:Int).toNat<fuel;unfold fuel;omega)
 ·obtain⟨y,h,hy⟩:=this;unfold aHv aDI;rw [hl,h];rcases hy with⟨m,hm,rfl⟩ | ⟨e,rfl,he⟩
  ·exact⟨_,rfl,hm⟩
  ·exact⟨_,rfl,he⟩
 ·rintro x ⟨k,m,hk,hm,rfl⟩;show(∃ x',BK (n:Int) (k:Int) m (g,(),js,())=_∧_)∨∃ y,BK (n:Int) (k:Int) m (g,(),js,())=_∧_;unfold BK;by_cases h:k<n
  ·have CJ:n-(IntKind.i64.wrap ((k:Int)+1)).toNat<n-(k:Int).toNat:=by rw [aN h (by omega)];omega
   simp only [dec_lt h,cond_true,aKZ hm h];cases ((m.getD (Int.toNat (k:Int)) aM.dflt).snd.snd.fst != (0:Int)) with
   | false=>exact .inl ⟨_,rfl,⟨k+1,m,h,hm,by rw [aN h (by omega)]⟩,CJ⟩
   | true=>
    simp only [cond_true];obtain⟨y1,e1,h1⟩:=aKW (m.getD (Int.toNat (k:Int)) aM.dflt);rw [e1];cases y1 with
    | inr e=>exact .inr ⟨_,rfl,.inr ⟨e,rfl,h1⟩⟩
    | inl v1=>
     simp only [aEk,aQM];obtain⟨y2,e2,h2⟩:=aW9 v1.1 64;rw [e2];cases y2 with
     | inr e=>exact .inr ⟨_,rfl,.inr ⟨e,rfl,h2⟩⟩
     | inl v2=>
      simp only [aEk,aQM];obtain⟨y3,e3,h3⟩:=MT (m.getD (Int.toNat (k:Int)) aM.dflt).snd.snd.snd.fst v2.1;rw [e3];cases y3 with
      | inr e=>exact .inr ⟨_,rfl,.inr ⟨e,rfl,h3⟩⟩
      | inl v3=>
       simp only [aEk,aQM,cond_true];exact .inl ⟨_,rfl,⟨k+1,_,h,aXK.trans hm,by rw [aN h (by omega)]⟩,CJ⟩
  ·have:k=n:=by omega
   subst this;simp only [bA,cond_false];exact .inr ⟨_,rfl,.inl ⟨m,hm,rfl⟩⟩
def xA (n:Nat)(j:iF):Prop:=((0:Int)≤j.1∧j.1<(n:Int))∧((0:Int)≤j.2.1∧j.2.1<(n:Int))
theorem a1o (hn:n≤1000000)(g:fW)(js:List iF)(hjs:js.length≤1000000)(hj:∀ j∈js,xA n j)(r4:Int)(l:List Body)(hl:l.length=n) :
  ∃ y,aDB (((),r4,js,(js.length:Int),(0:Int),()),l,(g,(),js,()),())=some y∧((∃ m:List Body,m.length=n∧y=.inl (.inl (((),r4,()),m,(g,(),js,()),())))∨∃ e,y=.inr e∧(e=3∨e=4)):=by
 refine bP (G:=fun x=>BG x.1.2.1 x.1.2.2.1 x.1.2.2.2.1 x.1.2.2.2.2.1 x.2.1 x.2.2.1)
  (fun x=>∃ (k:Nat) (m:List Body),k≤js.length∧m.length=n∧x=(((),r4,js,(js.length:Int),(k:Int),()),m,(g,(),js,()),())) (fun x=>js.length-x.1.2.2.2.2.1.toNat)
  (fun y=>(∃ m:List Body,m.length=n∧y=.inl (.inl (((),r4,()),m,(g,(),js,()),())))∨∃ e,y=.inr e∧(e=3∨e=4)) ?_ fuel (((),r4,js,(js.length:Int),(0:Int),()),l,(g,(),js,()),()) ⟨0,l,aLj _,hl,rfl⟩ (by
   show js.length-(0:Int).toNat<fuel;unfold fuel;omega)
 rintro x ⟨k,m,hk,hm,rfl⟩;show(∃ x',BG r4 js (js.length:Int) (k:Int) m (g,(),js,())=_∧_)∨∃ y,BG r4 js (js.length:Int) (k:Int) m (g,(),js,())=_∧_;unfold BG;by_cases h:k<js.length
 ·have CJ:js.length-(IntKind.i64.wrap ((k:Int)+1)).toNat<js.length-(k:Int).toNat:=by rw [aN h (by omega)];omega
  obtain⟨j,hjd⟩:∃ j,j=List.getD js (Int.toNat (k:Int)) aP.dflt:=⟨_,rfl⟩;have hin:xA n j:=by
   rw [hjd,bB (aJS h)];exact hj _ (aXB h)
  have d1:decide ((0:Int)≤j.1∧j.1<((m.length:Nat):Int))=true:=by rw [hm];exact aKO hin.1
  have d2:decide ((0:Int)≤j.2.1∧j.2.1<((m.length:Nat):Int))=true:=by rw [hm];exact aKO hin.2
  simp only [dec_lt h,cond_true,bI h,← hjd,d1,d2,aXK];obtain⟨y1,e1,h1⟩:=a8N (m.getD (Int.toNat j.1) aM.dflt) (m.getD (Int.toNat j.2.1) aM.dflt) j.2.2;rw [e1];cases y1 with
  | inr e=>exact .inr ⟨_,rfl,.inr ⟨e,rfl,h1⟩⟩
  | inl v1=>exact .inl ⟨_,rfl,⟨k+1,_,h,aXK.trans (aXK.trans hm),by rw [aN h (by omega)]⟩,CJ⟩
 ·have:k=js.length:=by omega
  subst this;simp only [bA,cond_false];exact .inr ⟨_,rfl,.inl ⟨m,hm,rfl⟩⟩
theorem bDV (hn:n≤1000000)(g:fW)(js:List iF)(hjs:js.length≤1000000)(hj:∀ j∈js,xA n j)(l:List Body)(hl:l.length=n):Bd n (aHn (g,(),js,()) l):=by
 have:=bP (G:=fun x=>BH x.1.2.1 x.2.1 x.2.2.1)
  (fun x=>∃ (k:Nat) (m:List Body),k≤4∧m.length=n∧x=(((),(k:Int),()),m,(g,(),js,()),())) (fun x=>4-x.1.2.1.toNat)
  (fun y=>(∃ m:List Body,m.length=n∧y=.inl (.inl ((),m,())))∨∃ e,y=.inr e∧(e=3∨e=4)) ?_ fuel (((),(0:Int),()),l,(g,(),js,()),()) ⟨0,l,aLj _,hl,rfl⟩ (by
   show 4-(0:Int).toNat<fuel;unfold fuel;omega)
 ·obtain⟨y,h,hy⟩:=this;unfold aHn aDD;rw [h];rcases hy with⟨m,hm,rfl⟩ | ⟨e,rfl,he⟩
  ·exact⟨_,rfl,hm⟩
  ·exact⟨_,rfl,he⟩
 ·rintro x ⟨k,m,hk,hm,rfl⟩;show(∃ x',BH (k:Int) m (g,(),js,())=_∧_)∨∃ y,BH (k:Int) m (g,(),js,())=_∧_;unfold BH;by_cases h:k<4
  ·have hd:decide ((k:Int)<4)=true:=aKO (by omega);simp only [hd,cond_true];obtain⟨y,e,hy⟩:=a1o hn g js hjs hj (k:Int) m hm;rw [e];rcases hy with⟨m',hm',rfl⟩ | ⟨e',rfl,he⟩
   ·refine .inl ⟨_,rfl,⟨k+1,m',h,hm',?_⟩,?_⟩
    ·show(((),IntKind.i64.wrap ((k:Int)+1),()),m',(g,(),js,()),())=_;rw [aN h (by omega)]
    ·show 4-(IntKind.i64.wrap ((k:Int)+1)).toNat<4-(k:Int).toNat;rw [aN h (by omega)];omega
   ·exact .inr ⟨_,rfl,.inr ⟨e',rfl,he⟩⟩
  ·have hd:decide ((k:Int)<4)=false:=aKP (by omega);simp only [hd,cond_false];exact .inr ⟨_,rfl,.inl ⟨m,hm,rfl⟩⟩
theorem a1q (hn:n≤1000000)(g:fW)(js:List iF)(l:List Body)(hl:l.length=n) :
  ∃ y,aDF (((),(),(),(n:Int),(0:Int),()),l,(g,(),js,()),[],())=some y∧((∃ bs:List Box,bs.length=n∧y=.inl (.inl (((),(),()),l,(g,(),js,()),bs,())))∨∃ e,y=.inr e∧(e=3∨e=4)):=by
 refine bP (G:=fun x=>BI x.1.2.2.2.1 x.1.2.2.2.2.1 x.2.1 x.2.2.1 x.2.2.2.1)
  (fun x=>∃ (k:Nat) (bs:List Box),k≤n∧bs.length=k∧x=(((),(),(),(n:Int),(k:Int),()),l,(g,(),js,()),bs,())) (fun x=>n-x.1.2.2.2.2.1.toNat)
  (fun y=>(∃ bs:List Box,bs.length=n∧y=.inl (.inl (((),(),()),l,(g,(),js,()),bs,())))∨∃ e,y=.inr e∧(e=3∨e=4)) ?_ fuel (((),(),(),(n:Int),(0:Int),()),l,(g,(),js,()),[],()) ⟨0,[],aLj _,rfl,rfl⟩ (by
   show n-(0:Int).toNat<fuel;unfold fuel;omega)
 rintro x ⟨k,bs,hk,hbs,rfl⟩;show(∃ x',BI (n:Int) (k:Int) l (g,(),js,()) bs=_∧_)∨∃ y,BI (n:Int) (k:Int) l (g,(),js,()) bs=_∧_;unfold BI;by_cases h:k<n
 ·have CJ:n-(IntKind.i64.wrap ((k:Int)+1)).toNat<n-(k:Int).toNat:=by rw [aN h (by omega)];omega
  simp only [dec_lt h,cond_true,aKZ hl h];obtain⟨y1,e1,h1⟩:=aXh (l.getD (Int.toNat (k:Int)) aM.dflt);rw [e1];cases y1 with
  | inr e=>exact .inr ⟨_,rfl,.inr ⟨e,rfl,h1⟩⟩
  | inl v1=>
   have hsz:(((bs.length+[v1.1].length)*32).ble 70368744177664)=true:=aPp (by simp;omega);simp only [aEk,aQM];exact .inl ⟨_,by rw [hsz];rfl,⟨k+1,bs++[v1.1],h,by simp [hbs],by rw [aN h (by omega)]⟩,CJ⟩
 ·have:k=n:=by omega
  subst this;simp only [bA,cond_false];exact .inr ⟨_,rfl,.inl ⟨bs,hbs,rfl⟩⟩
theorem a1s (hn:n≤1000000)(g:fW)(js:List iF)(bs:List Box)(hbs:bs.length=n)(ps:List jJ)(hps:∀ p∈ps,Two bs p)(hpl:ps.length≤1000000)(l:List Body)(hl:l.length=n) :
  ∃ y,aDG (((),ps,(ps.length:Int),(0:Int),()),l,(g,(),js,()),())=some y∧((∃ m:List Body,m.length=n∧y=.inl (.inl ((),m,())))∨∃ e,y=.inr e∧(e=3∨e=4)):=by
 refine bP (G:=fun x=>BJ x.1.2.1 x.1.2.2.1 x.1.2.2.2.1 x.2.1 x.2.2.1)
  (fun x=>∃ (k:Nat) (m:List Body),k≤ps.length∧m.length=n∧x=(((),ps,(ps.length:Int),(k:Int),()),m,(g,(),js,()),())) (fun x=>ps.length-x.1.2.2.2.1.toNat)
  (fun y=>(∃ m:List Body,m.length=n∧y=.inl (.inl ((),m,())))∨∃ e,y=.inr e∧(e=3∨e=4)) ?_ fuel (((),ps,(ps.length:Int),(0:Int),()),l,(g,(),js,()),()) ⟨0,l,aLj _,hl,rfl⟩ (by
   show ps.length-(0:Int).toNat<fuel;unfold fuel;omega)
 rintro x ⟨k,m,hk,hm,rfl⟩;show(∃ x',BJ ps (ps.length:Int) (k:Int) m (g,(),js,())=_∧_)∨∃ y,BJ ps (ps.length:Int) (k:Int) m (g,(),js,())=_∧_;unfold BJ;by_cases h:k<ps.length
 ·have CJ:ps.length-(IntKind.i64.wrap ((k:Int)+1)).toNat<ps.length-(k:Int).toNat:=by rw [aN h (by omega)];omega
  obtain⟨p,hpd⟩:∃ p,p=List.getD ps (Int.toNat (k:Int)) bF.dflt:=⟨_,rfl⟩;have hin:Two bs p:=by
   rw [hpd,bB (aJS h)];exact hps _ (aXB h)
  have d1:decide ((0:Int)≤p.1∧p.1<((m.length:Nat):Int))=true:=by rw [hm,← hbs];exact aKO hin.1
  have d2:decide ((0:Int)≤p.2∧p.2<((m.length:Nat):Int))=true:=by rw [hm,← hbs];exact aKO hin.2
  simp only [dec_lt h,cond_true,bI h,← hpd,d1,d2,aXK];obtain⟨y1,e1,h1⟩:=a8M (m.getD (Int.toNat p.1) aM.dflt) (m.getD (Int.toNat p.2) aM.dflt);rw [e1];cases y1 with
  | inr e=>exact .inr ⟨_,rfl,.inr ⟨e,rfl,h1⟩⟩
  | inl v1=>
   simp only [aEk,aQM];cases v1.2.1 with
   | false=>exact .inl ⟨_,rfl,⟨k+1,m,h,hm,by rw [aN h (by omega)]⟩,CJ⟩
   | true=>
    simp only [cond_true];obtain⟨y2,e2,h2⟩:=a8O (m.getD (Int.toNat p.1) aM.dflt) (m.getD (Int.toNat p.2) aM.dflt) v1.1;rw [e2];cases y2 with
    | inr e=>exact .inr ⟨_,rfl,.inr ⟨e,rfl,h2⟩⟩
    | inl v2=>exact .inl ⟨_,rfl,⟨k+1,_,h,aXK.trans (aXK.trans hm),by rw [aN h (by omega)]⟩,CJ⟩
 ·have:k=ps.length:=by omega
  subst this;simp only [bA,cond_false];exact .inr ⟨_,rfl,.inl ⟨m,hm,rfl⟩⟩
end
theorem bDW {n:Nat}(hn:n≤100)(g:fW)(js:List iF)(l:List Body)(hl:l.length=n)(hp:∀ bs:List Box,bs.length=n→∃ ps,yW bs=some ((ps,()):aS [.list bF])∧(∀ p∈ps,Two bs p)∧ps.length≤1000000):Bd n (aHr (g,(),js,()) l):=by
 unfold aHr;obtain⟨y,e,hy⟩:=a1q (n:=n) (by omega) g js l hl;rw [hl,e];rcases hy with⟨bs,hbs,rfl⟩ | ⟨e',rfl,he⟩
 ·obtain⟨ps,e2,hps,hpl⟩:=hp bs hbs;simp only [aEk,aQM];rw [e2];simp only [aEk];obtain⟨y,e3,hy⟩:=a1s (n:=n) (by omega) g js bs hbs ps hps hpl l hl;rw [e3];rcases hy with⟨m,hm,rfl⟩ | ⟨e',rfl,he⟩
  ·exact⟨_,rfl,hm⟩
  ·exact⟨_,rfl,he⟩
 ·exact⟨_,rfl,he⟩
theorem bDX (g:fW)(js:List iF)(l:List Body)(hl:l.length≤100)(hjs:js.length≤1000000)(hj:∀ j∈js,xA l.length j)(hp:∀ bs:List Box,bs.length=l.length→∃ ps,yW bs=some ((ps,()):aS [.list bF])∧(∀ p∈ps,Two bs p)∧ps.length≤1000000) :
  (∃ m:List Body,m.length=l.length∧aAi (g,(),js,()) l=some (.inl ((),(g,(),js,()),m,())))∨∃ e,aAi (g,(),js,()) l=some (.inr e)∧(e=3∨e=4):=by
 unfold aAi;obtain⟨y1,e1,h1⟩:=bDT (n:=l.length) (by omega) g js l rfl;rw [e1];cases y1 with
 | inr e=>exact .inr ⟨e,rfl,h1⟩
 | inl v1=>
  simp only [aEk,aQM];obtain⟨y2,e2,h2⟩:=bDV (n:=l.length) (by omega) g js hjs hj v1.2.1 h1;rw [e2];cases y2 with
  | inr e=>exact .inr ⟨e,rfl,h2⟩
  | inl v2=>
   simp only [aEk,aQM];obtain⟨y3,e3,h3⟩:=bDW (n:=l.length) hl g js v2.2.1 h2 hp;rw [e3];cases y3 with
   | inr e=>exact .inr ⟨e,rfl,h3⟩
   | inl v3=>
    simp only [aEk,aQM];obtain⟨y4,e4,h4⟩:=bDU (n:=l.length) (by omega) g js v3.2.1 h3;rw [e4];cases y4 with
    | inr e=>exact .inr ⟨e,rfl,h4⟩
    | inl v4=>exact .inl ⟨v4.2.1,h4,rfl⟩
theorem a80 (w:dQ)(l:List Body)(hl:l.length≤1000000):∃ y,QF (((),l,(l.length:Int),(0:Int),()),(w,()),())=some y∧(y=.inl (((),()),(w,()),())∨y=.inr ((false,()),())):=by
 refine bP (G:=fun x=>JC x.1.2.1 x.1.2.2.1 x.1.2.2.2.1 x.2.1)
  (fun x=>∃ k:Nat,k≤l.length∧x=(((),l,(l.length:Int),(k:Int),()),(w,()),())) (fun x=>l.length-x.1.2.2.2.1.toNat)
  (fun y=>y=.inl (((),()),(w,()),())∨y=.inr ((false,()),())) ?_ fuel (((),l,(l.length:Int),(0:Int),()),(w,()),()) ⟨0,aLj _,rfl⟩ (by
   show l.length-(0:Int).toNat<fuel;unfold fuel;omega)
 rintro x ⟨k,hk,rfl⟩;show(∃ x',JC l (l.length:Int) (k:Int) (w,())=_∧_)∨∃ y,JC l (l.length:Int) (k:Int) (w,())=_∧_;unfold JC;by_cases h:k<l.length
 ·have CJ:l.length-(IntKind.i64.wrap ((k:Int)+1)).toNat<l.length-(k:Int).toNat:=by rw [aN h (by omega)];omega
  obtain⟨v,hv⟩:=aY1 (List.getD l (Int.toNat (k:Int)) aM.dflt);simp only [dec_lt h,cond_true,bI h];rw [hv];simp only [aEk];cases v.1 with
  | true=>exact .inl ⟨_,rfl,⟨k+1,h,by rw [aN h (by omega)]⟩,CJ⟩
  | false=>exact .inr ⟨_,rfl,.inr rfl⟩
 ·have:k=l.length:=by omega
  subst this;simp only [bA,cond_false];exact .inr ⟨_,rfl,.inl rfl⟩
theorem a1t (a b n:Int)(c1:¬((if b<a then b else a)<0))(c2:¬((if b>a then b else a)≥n)):(0≤a∧a<n)∧(0≤b∧b<n):=by
 split at c1 <;> split at c2 <;> refine⟨⟨?_,?_⟩,?_,?_⟩ <;> omega
theorem a81 (w:dQ)(js:List iF)(hjs:js.length≤1000000):∃ y,aEp (((),js,(js.length:Int),(0:Int),()),(w,()),())=some y∧((y=.inl (((),()),(w,()),())∧∀ j∈js,xA w.2.1.length j)∨y=.inr ((false,()),())):=by
 refine bP (G:=fun x=>JD x.1.2.1 x.1.2.2.1 x.1.2.2.2.1 x.2.1)
  (fun x=>∃ k:Nat,k≤js.length∧(∀ j∈js.take k,xA w.2.1.length j)∧x=(((),js,(js.length:Int),(k:Int),()),(w,()),())) (fun x=>js.length-x.1.2.2.2.1.toNat)
  (fun y=>(y=.inl (((),()),(w,()),())∧∀ j∈js,xA w.2.1.length j)∨y=.inr ((false,()),())) ?_ fuel (((),js,(js.length:Int),(0:Int),()),(w,()),()) ⟨0,aLj _,fun j hj=>by simp at hj,rfl⟩ (by
   show js.length-(0:Int).toNat<fuel;unfold fuel;omega)
 rintro x ⟨k,hk,hp,rfl⟩;show(∃ x',JD js (js.length:Int) (k:Int) (w,())=_∧_)∨∃ y,JD js (js.length:Int) (k:Int) (w,())=_∧_;unfold JD;by_cases h:k<js.length
 ·have CJ:js.length-(IntKind.i64.wrap ((k:Int)+1)).toNat<js.length-(k:Int).toNat:=by rw [aN h (by omega)];omega
  have hg:=aJS h;obtain⟨j,hjd⟩:∃ j,j=js[k]:=⟨_,rfl⟩;rw [← hjd] at hg;simp only [dec_lt h,cond_true,bI h,bB hg];have no:∃ y,(some (Sum.inr (Sum.inr ((false,()),()))):Option (vQ.El⊕(NN.El⊕NP.El)))=some (.inr y)∧((y=.inl (((),()),(w,()),())∧∀ j∈js,xA w.2.1.length j)∨y=.inr ((false,()),())):=⟨_,rfl,.inr rfl⟩;cases c1:decide ((if j.snd.fst<j.fst then j.snd.fst else j.fst)<(0:Int)) with
  | true=>exact .inr no
  | false=>
   cases c2:decide ((if j.snd.fst>j.fst then j.snd.fst else j.fst)≥((List.length w.snd.fst:Nat):Int)) with
   | true=>exact .inr no
   | false=>
    have hE:xA w.2.1.length j:=by
     have c1:=of_decide_eq_false c1;have c2:=of_decide_eq_false c2;exact a1t j.1 j.2.1 _ c1 c2
    have hnext:∀ x∈js.take (k+1),xA w.2.1.length x:=by
     intro x hx;rw [aZ7 h] at hx;rcases aLA.1 hx with hx | hx
     ·exact hp x hx
     ·rw [aXF.1 hx,← hjd];exact hE
    simp only [cond_false];cases (j.fst==j.snd.fst) with
    | true=>exact .inr no
    | false=>
     simp only [cond_false];cases decide (j.snd.snd<(0:Int)) with
     | true=>exact .inr no
     | false=>
      simp only [cond_false];cases decide (j.snd.snd>(4294967296000:Int)) with
      | true=>exact .inr no
      | false=>exact .inl ⟨_,rfl,⟨k+1,h,hnext,by rw [aN h (by omega)]⟩,CJ⟩
 ·have:k=js.length:=by omega
  subst this;simp only [bA,cond_false];exact .inr ⟨_,rfl,.inl ⟨rfl,by rw [aYZ] at hp;exact hp⟩⟩
def rbW (w:dQ):Bool:=match rL w with
 | some b=>b.1
 | none=>false
theorem a82 (w:dQ)(hl:w.2.1.length≤1000000)(hj:w.2.2.length≤1000000):rL w=some ((rbW w,()):aS [.bool])∧(rbW w=true→∀ j∈w.2.2,xA w.2.1.length j):=by
 have key:∃ b:Bool,rL w=some ((b,()):aS [.bool])∧(b=true→∀ j∈w.2.2,xA w.2.1.length j):=by
  unfold rL;obtain⟨y,e,hy⟩:=a80 w w.2.1 hl;rw [e];rcases hy with rfl | rfl
  ·simp only [aEk,aQM];obtain⟨y,e2,hy⟩:=a81 w w.2.2 hj;rw [e2];rcases hy with⟨rfl,hE⟩ | rfl
   ·simp only [aEk,aQM];obtain⟨v,hv⟩:=a2s w.1.1;rw [hv];simp only [aEk];cases v.1 with
    | false=>exact⟨false,rfl,fun h=>by cases h⟩
    | true=>
     obtain⟨u,hu⟩:=a2s w.1.2;simp only [cond_true];rw [hu];exact⟨u.1,rfl,fun _=>hE⟩
   ·exact⟨false,rfl,fun h=>by cases h⟩
  ·exact⟨false,rfl,fun h=>by cases h⟩
 obtain⟨b,e,h⟩:=key;have hb:rbW w=b:=by unfold rbW;rw [e]
 rw [hb];exact⟨e,h⟩
def jH:dQ:=((0,0),[],[])
theorem aQS (l:List Body)(hl:l.length≤100):∀ bs:List Box,bs.length=l.length→∃ ps,yW bs=some ((ps,()):aS [.list bF])∧(∀ p∈ps,Two bs p)∧ps.length≤1000000:=by
 intro bs hbs;obtain⟨ps,e,h,h2⟩:=a8Z (bs:=bs) (by omega);exact⟨ps,e,h,by omega⟩
theorem bDY (w:dQ)(hl:w.2.1.length≤100)(hj:w.2.2.length≤1000) :
  ∃ (w':dQ) (e:Int),aAj w=some ((w',e,()):aS [bS,I])∧((rbW w=false∧e=9∧w'=jH)∨(rbW w=true∧((e=0∧rbW w'=true∧w'.2.1.length=w.2.1.length∧w'.1=w.1∧w'.2.2=w.2.2)∨((e=3∨e=4)∧w'=jH)))):=by
 obtain⟨e16,hE⟩:=a82 w (by omega) (by omega);unfold aAj;rw [e16];simp only [aEk];cases hr:rbW w with
 | false=>exact⟨_,_,rfl,.inl ⟨rfl,rfl,rfl⟩⟩
 | true=>
  simp only [aXM,cond_false];have e56:CK w.2.1=some w.2.1:=by
   unfold CK;rw [show Nat.ble (List.length w.2.1*64) 70368744177664=true from aPp (by omega)];rfl
  have e57:CM w.2.2=some ((w.2.2,()):aS [.list aP]):=by
   unfold CM aNs;rw [show Nat.ble (List.length w.2.2*24) 70368744177664=true from aPp (by omega)];rfl
  rw [e56];simp only [aEk];rw [e57];simp only [aEk];unfold nD;rcases bDX w.1 w.2.2 w.2.1 hl (by omega) (hE hr) (aQS w.2.1 hl) with⟨m,hm,e⟩ | ⟨e,h73,he⟩
  ·rw [e];simp only [aEk,aQM];have h00:((0:Int)==0)=true:=rfl;rw [h00,cond_true];obtain⟨bH1,_⟩:=a82 (w.1,m,w.2.2) (by show m.length≤1000000;omega) (by show w.2.2.length≤1000000;omega);rw [bH1];simp only [aEk];cases hr':rbW (w.1,m,w.2.2) with
   | false=>exact⟨_,_,rfl,.inr ⟨trivial,.inr ⟨.inl rfl,rfl⟩⟩⟩
   | true=>exact⟨_,_,rfl,.inr ⟨trivial,.inl ⟨rfl,hr',hm,rfl,rfl⟩⟩⟩
  ·rw [h73];simp only [aEk,Sum.elim_inr];rcases he with rfl | rfl
   ·exact⟨_,_,rfl,.inr ⟨trivial,.inr ⟨.inl rfl,rfl⟩⟩⟩
   ·exact⟨_,_,rfl,.inr ⟨trivial,.inr ⟨.inr rfl,rfl⟩⟩⟩
def EO (w:dQ):dQ×Int:=match aAj w with
 | some y=>(y.1,y.2.1)
 | none=>(jH,0)
def CN (w:dQ):Prop:=w.2.1.length≤100∧w.2.2.length≤1000
theorem aXu {w:dQ}(h:CN w):aAj w=some (((EO w).1,(EO w).2,()):aS [bS,I])∧((rbW w=false∧(EO w).2=9∧(EO w).1=jH)∨(rbW w=true∧(((EO w).2=0∧rbW (EO w).1=true∧(EO w).1.2.1.length=w.2.1.length∧(EO w).1.1=w.1∧(EO w).1.2.2=w.2.2)∨(((EO w).2=3∨(EO w).2=4)∧(EO w).1=jH)))):=by
 obtain⟨w',e,hF,hP⟩:=bDY w h.1 h.2;have:EO w=(w',e):=by unfold EO;rw [hF]
 rw [this];exact⟨hF,hP⟩
theorem CN.next {w:dQ}(h:CN w)(h0:(EO w).2=0):CN (EO w).1:=by
 rcases (aXu h).2 with⟨_,h9,_⟩ | ⟨_,⟨_,_,k1,_,k2⟩ | ⟨h3,_⟩⟩
 ·rw [h0] at h9;cases h9
 ·exact⟨by rw [k1];exact h.1,by rw [k2];exact h.2⟩
 ·rw [h0] at h3;rcases h3 with h3 | h3 <;> cases h3
def run:Nat→Nat→dQ→dQ×Int×Int
 | 0,_,w=>(w,0,0)
 | m+1,k,w=>if(EO w).2=0 then run m (k+1) (EO w).1 else(jH,((k+1:Nat):Int),(EO w).2)
theorem aXv {w:dQ}{k:Nat}:∀ (m:Nat),(run m k w).2.2≠0→(run m k w).1=jH:=by
 intro m
 induction m generalizing k w with
 | zero=>intro h;exact absurd rfl h
 | succ m ih=>
  intro h;unfold run at h ⊢
  split at h
  ·rename_i h0;rw [aJb h0];exact ih h
  ·rename_i h0;rw [aJn h0]
theorem aH3 (n:Nat)(hn:n≤1000):∀ (m k f:Nat) (w:dQ),k+m=n→m<f→CN w →
  aH (fun x=>oE x.1.2.2.1 x.1.2.2.2.1 x.2.1 x.2.2.1) f (((),(),(n:Int),(k:Int),()),(w,()),(jH,()),()) =
   some (if(run m k w).2.2=0 then .inl (((),(),()),((run m k w).1,()),(jH,()),()) else .inr (((),(run m k w).2.1,(run m k w).2.2,()),(jH,()),()))
 | 0,k,f,w,hk,hf,hg=>by
  obtain⟨f,rfl⟩:∃ j,f=j+1:=⟨f-1,by omega⟩;have:k=n:=by omega
  subst this;refine bM ?_ f;show oE (k:Int) (k:Int) (w,()) (jH,())=_;unfold oE;rw [bA];rfl
 | m+1,k,f,w,hk,hf,hg=>by
  obtain⟨f,rfl⟩:∃ j,f=j+1:=⟨f-1,by omega⟩;have hlt:k<n:=by omega
  obtain⟨hF,_⟩:=aXu hg;by_cases h0:(EO w).2=0
  ·have e:run (m+1) k w=run m (k+1) (EO w).1:=by
    show(if(EO w).2=0 then _ else _)=_;rw [aJb h0]
   rw [e];have hG:oE (n:Int) (k:Int) (w,()) (jH,())=some (.inl (((),(),(n:Int),((k+1:Nat):Int),()),((EO w).1,()),(jH,()),())):=by
    unfold oE;rw [dec_lt hlt,cond_true,hF];simp only [aEk,h0,aN hlt (by omega)];rfl
   rw [bT (x':=(((),(),(n:Int),((k+1:Nat):Int),()),((EO w).1,()),(jH,()),())) hG];exact aH3 n hn m (k+1) f (EO w).1 (by omega) (by omega) (hg.next h0)
  ·have e:run (m+1) k w=(jH,((k+1:Nat):Int),(EO w).2):=by
    show(if(EO w).2=0 then _ else _)=_;rw [aJn h0]
   rw [e];have h00:((EO w).2 != (0:Int))=true:=by simpa using h0
   have hG:oE (n:Int) (k:Int) (w,()) (jH,())=some (.inr (.inr (((),((k+1:Nat):Int),(EO w).2,()),(jH,()),()))):=by
    unfold oE;rw [dec_lt hlt,cond_true,hF];simp only [aEk,h00,aN hlt (by omega),cond_true];rfl
   rw [bM (y:=.inr (((),((k+1:Nat):Int),(EO w).2,()),(jH,()),())) hG];rw [aJn h0]
theorem e56 (w:dQ)(hg:CN w):CK w.2.1=some w.2.1:=by
 unfold CK;rw [show Nat.ble (List.length w.2.1*64) 70368744177664=true from aPp (by have:=hg.1;omega)];rfl
theorem e57 (w:dQ)(hg:CN w):CM w.2.2=some ((w.2.2,()):aS [.list aP]):=by
 unfold CM aNs;rw [show Nat.ble (List.length w.2.2*24) 70368744177664=true from aPp (by have:=hg.2;omega)];rfl
theorem aH4 (w:dQ)(n:Int)(h:n<0∨n>200):G6 w n=some ((jH,(0:Int),(9:Int),()):aS [bS,I,I]):=by
 unfold G6;by_cases h0:n<0
 ·rw [aKO h0];rfl
 ·rw [aKP h0,cond_false,aKO (show n>200 by omega)];rfl
theorem aOd (w:dQ)(n:Nat)(hn:n≤200)(hg:CN w) :
  (OI (((),(),(n:Int),(0:Int),()),((w.1,w.2.1,w.2.2),()),((((0:Int),(0:Int)),[],[]),()),())).bind (fun pX=>Sum.elim (fun QE=>Option.some ((QE.snd.fst.fst,(0:Int),(0:Int),()):aS [bS,I,I])) (fun sW=>Option.some (sW.snd.fst.fst,sW.fst.snd.fst,sW.fst.snd.snd.fst,())) pX) =
   some (((run n 0 w).1,(run n 0 w).2.1,(run n 0 w).2.2,()):aS [bS,I,I]):=by
 have h:=aH3 n (by omega) n 0 fuel w (by omega) (fuel_lt (by omega)) hg;show(aH _ fuel (((),(),(n:Int),((0:Nat):Int),()),(w,()),(jH,()),())).bind _=_;rw [h];by_cases h0:(run n 0 w).2.2=0
 ·rw [aJb h0];have:(run n 0 w).2.1=0:=by
   clear h;have:∀ (m k:Nat) (w:dQ),(run m k w).2.2=0→(run m k w).2.1=0:=by
    intro m
    induction m with
    | zero=>intro k w _;rfl
    | succ m ih=>
     intro k w h;unfold run at h ⊢
     split at h
     ·rename_i h0;rw [aJb h0];exact ih _ _ h
     ·rename_i h0;exact absurd h h0
   exact this n 0 w h0
  show some (((run n 0 w).1,(0:Int),(0:Int),()):aS [bS,I,I])=_;rw [h0,this]
 ·rw [aJn h0];show some ((jH,(run n 0 w).2.1,(run n 0 w).2.2,()):aS [bS,I,I])=_;rw [aXv n h0]
theorem bDZ (w:dQ)(n:Nat)(hn:n≤200)(hg:CN w):G6 w (n:Int)=some (if n=0∧rbW w=false then((jH,(0:Int),(9:Int),()):aS [bS,I,I]) else((run n 0 w).1,(run n 0 w).2.1,(run n 0 w).2.2,())):=by
 unfold G6;rw [aKP (show ¬(n:Int)<0 by omega),cond_false,aKP (show ¬(n:Int)>200 by omega),cond_false];by_cases h0:n=0
 ·subst h0;obtain⟨e16,_⟩:=a82 w (by have:=hg.1;omega) (by have:=hg.2;omega);have hz:(((0:Nat):Int)==(0:Int))=true:=rfl;rw [hz,cond_true,e16];simp only [aEk];cases hr:rbW w with
  | false=>rw [aJb (by simp)];rfl
  | true=>
   rw [aJn (by simp)];simp only [aXM,cond_false];rw [e56 w hg];simp only [aEk];rw [e57 w hg];exact aOd w 0 hn hg
 ·have hz:(((n:Nat):Int)==(0:Int))=false:=beq_false_of_ne (by omega);rw [hz,cond_false,aJn (by simp [h0]),e56 w hg];simp only [aEk];rw [e57 w hg];exact aOd w n hn hg
end Go.DI.S
end
