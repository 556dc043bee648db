import Derived.Test.YtbjldjihpekhaaaGreatWb
/- Sorting runs through, plain. No conditions. -/
set_option linter.unusedSimpArgs false
set_option linter.unusedVariables false
set_option maxRecDepth 100000
set_option maxHeartbeats 0
namespace Go.DI.S
open Go.Proofs
section
variable {bs:List Box}{n:Nat}
theorem aXq (hn:n≤1000000000)(a i:Nat)(b:Int)(hi:i<n)(l:List Int)(hl:Row (At bs) n l):∃ l',UN (((),(a:Int),b,(),(i:Int),(i:Int),()),l,(bs,()),())=some (.inl (((),(a:Int),b,(),(i:Int),()),l',(bs,()),()))∧Row (At bs) n l':=by
 have:=bP (G:=fun x=>uB x.1.2.1 x.1.2.2.1 x.1.2.2.2.2.1 x.1.2.2.2.2.2.1 x.2.1 x.2.2.1)
  (fun x=>∃ (j:Nat) (m:List Int),j<n∧Row (At bs) n m∧x=(((),(a:Int),b,(),(i:Int),(j:Int),()),m,(bs,()),())) (fun x=>x.1.2.2.2.2.2.1.toNat)
  (fun y=>∃ m,Row (At bs) n m∧y=.inl (((),(a:Int),b,(),(i:Int),()),m,(bs,()),())) ?_ fuel (((),(a:Int),b,(),(i:Int),(i:Int),()),l,(bs,()),()) ⟨i,l,hi,hl,rfl⟩ (by
   show(i:Int).toNat<fuel;have:=fuel_lt hn;omega)
 ·obtain⟨y,h,m,h1,rfl⟩:=this;exact⟨m,h,h1⟩
 ·rintro x ⟨j,m,hj,hm,rfl⟩;show(∃ x',uB (a:Int) b (i:Int) (j:Int) m (bs,())=_∧_)∨∃ y,uB (a:Int) b (i:Int) (j:Int) m (bs,())=_∧_;unfold uB;by_cases h:(j:Int)>(a:Int)
  ·obtain⟨v,hv⟩:=aD0 (m.getD j 0) (m.getD (j-1) 0) bs (hm.get hj) (hm.get (by omega));simp only [aKO h,cond_true,aN9 (j:=j) (by omega) (by omega),hm.in hj,hm.in (i:=j-1) (by omega),Int.toNat_natCast,hv,aEk,aXK];by_cases hc:v<0
   ·simp only [aKO hc,cond_true];refine .inl ⟨_,rfl,⟨j-1,_,by omega,hm.swap hj (by omega),rfl⟩,?_⟩;show((j-1:Nat):Int).toNat<(j:Int).toNat;omega
   ·simp only [aKP hc,cond_false];exact .inr ⟨_,rfl,m,hm,rfl⟩
  ·simp only [aKP h,cond_false];exact .inr ⟨_,rfl,m,hm,rfl⟩
theorem aXr (hn:n≤1000000000)(a b:Nat)(ha:a≤n)(hb:b≤n)(l:List Int)(hl:Row (At bs) n l):∃ l',KT (a:Int) (b:Int) l (bs,())=some ((),l',(bs,()),())∧Row (At bs) n l':=by
 have:=bP (G:=fun x=>uC x.1.2.1 x.1.2.2.1 x.1.2.2.2.2.1 x.2.1 x.2.2.1)
  (fun x=>∃ (i:Nat) (m:List Int),i≤n+1∧Row (At bs) n m∧x=(((),(a:Int),(b:Int),(),(i:Int),()),m,(bs,()),())) (fun x=>n+2-x.1.2.2.2.2.1.toNat)
  (fun y=>∃ m,Row (At bs) n m∧y=.inl ((),m,(bs,()),())) ?_ fuel (((),(a:Int),(b:Int),(),((a+1:Nat):Int),()),l,(bs,()),()) ⟨a+1,l,by omega,hl,rfl⟩ (by
   show n+2-((a+1:Nat):Int).toNat<fuel;have:=fuel_lt hn;unfold fuel;omega)
 ·obtain⟨y,h,m,h1,rfl⟩:=this;refine⟨m,?_,h1⟩;unfold KT UP;rw [show IntKind.i64.wrap ((a:Int)+1)=((a+1:Nat):Int) from aN (n:=n+1) (by omega) (by omega),h];rfl
 ·rintro x ⟨i,m,hi,hm,rfl⟩;show(∃ x',uC (a:Int) (b:Int) (i:Int) m (bs,())=_∧_)∨∃ y,uC (a:Int) (b:Int) (i:Int) m (bs,())=_∧_;unfold uC;by_cases h:i<b
  ·obtain⟨m',h1,h2⟩:=aXq hn a i (b:Int) (by omega) m hm;simp only [dec_lt h,cond_true];rw [h1];refine .inl ⟨_,rfl,⟨i+1,m',by omega,h2,?_⟩,?_⟩
   ·show(((),(a:Int),(b:Int),(),IntKind.i64.wrap ((i:Int)+1),()),m',(bs,()),())=_;rw [aN h (by omega)]
   ·show n+2-(IntKind.i64.wrap ((i:Int)+1)).toNat<n+2-(i:Int).toNat;rw [aN h (by omega)];omega
  ·have h':decide ((i:Int)<(b:Int))=false:=aKP (by omega);simp only [h',cond_false];exact .inr ⟨_,rfl,m,hm,rfl⟩
theorem a8T (hn:n≤1000000000)(l:List Int)(hl:Row (At bs) n l) :
  ∃ (a:Nat) (l':List Int),a≤n∧aDu (((),(n:Int),(),(20:Int),(0:Int),(20:Int),()),l,(bs,()),())=some (.inl (((),(n:Int),(),(20:Int),(a:Int),()),l',(bs,()),()))∧Row (At bs) n l':=by
 have:=bP (G:=fun x=>BC x.1.2.1 x.1.2.2.2.1 x.1.2.2.2.2.1 x.1.2.2.2.2.2.1 x.2.1 x.2.2.1)
  (fun x=>∃ (a:Nat) (m:List Int),a≤n∧Row (At bs) n m∧x=(((),(n:Int),(),(20:Int),(a:Int),((a+20:Nat):Int),()),m,(bs,()),())) (fun x=>n-x.1.2.2.2.2.1.toNat)
  (fun y=>∃ (a:Nat) (m:List Int),a≤n∧Row (At bs) n m∧y=.inl (((),(n:Int),(),(20:Int),(a:Int),()),m,(bs,()),())) ?_ fuel (((),(n:Int),(),(20:Int),(0:Int),(20:Int),()),l,(bs,()),()) ⟨0,l,aLj _,hl,rfl⟩ (by
   show n-(0:Int).toNat<fuel;unfold fuel;omega)
 ·obtain⟨y,h,a,m,h1,h2,rfl⟩:=this;exact⟨a,m,h1,h,h2⟩
 ·rintro x ⟨a,m,ha,hm,rfl⟩;show(∃ x',BC (n:Int) 20 (a:Int) ((a+20:Nat):Int) m (bs,())=_∧_)∨∃ y,BC (n:Int) 20 (a:Int) ((a+20:Nat):Int) m (bs,())=_∧_;unfold BC;by_cases h:a+20≤n
  ·obtain⟨m',e,h2⟩:=aXr (bs:=bs) hn a (a+20) (by omega) h m hm;simp only [aXn h,cond_true];rw [e];refine .inl ⟨_,rfl,⟨a+20,m',h,h2,?_⟩,?_⟩
   ·show(((),(n:Int),(),(20:Int),((a+20:Nat):Int),IntKind.i64.wrap (((a+20:Nat):Int)+((20:Nat):Int)),()),m',(bs,()),())=_;rw [X0 (by omega)]
   ·show n-((a+20:Nat):Int).toNat<n-(a:Int).toNat;omega
  ·simp only [aOa (k:=a+20) (n:=n) (by omega),cond_false];exact .inr ⟨_,rfl,a,m,ha,hm,rfl⟩
theorem aXs (hn:n≤1000000000)(a m b:Nat)(l:List Int)(h1:a<m)(h2:m<b)(h3:b≤n)(hl:Row (At bs) n l):aD1 bs n (aHa (a:Int) (m:Int) (b:Int) l (bs,())):=
 aXp hn 60 a m b l h1 h2 h3 (by have:(2:Nat)^60=1152921504606846976:=rfl;omega) hl
theorem a8U (hn:n≤1000000000)(k:Nat)(hk:1≤k)(hkn:k≤n)(l:List Int)(hl:Row (At bs) n l) :
  ∃ (a:Nat) (l':List Int),a≤n∧aDt (((),(n:Int),(),(k:Int),(0:Int),((2*k:Nat):Int),()),l,(bs,()),())=some (.inl (((),(n:Int),(),(k:Int),(a:Int),()),l',(bs,()),()))∧Row (At bs) n l':=by
 have:=bP (G:=fun x=>BB x.1.2.1 x.1.2.2.2.1 x.1.2.2.2.2.1 x.1.2.2.2.2.2.1 x.2.1 x.2.2.1)
  (fun x=>∃ (a:Nat) (m:List Int),a≤n∧Row (At bs) n m∧x=(((),(n:Int),(),(k:Int),(a:Int),((a+2*k:Nat):Int),()),m,(bs,()),())) (fun x=>n-x.1.2.2.2.2.1.toNat)
  (fun y=>∃ (a:Nat) (m:List Int),a≤n∧Row (At bs) n m∧y=.inl (((),(n:Int),(),(k:Int),(a:Int),()),m,(bs,()),())) ?_ fuel (((),(n:Int),(),(k:Int),(0:Int),((2*k:Nat):Int),()),l,(bs,()),()) ⟨0,l,aLj _,hl,by rw [aZ3];rfl⟩ (by
   show n-(0:Int).toNat<fuel;unfold fuel;omega)
 ·obtain⟨y,h,a,m,h1,h2,rfl⟩:=this;exact⟨a,m,h1,h,h2⟩
 ·rintro x ⟨a,m,ha,hm,rfl⟩;show(∃ x',BB (n:Int) (k:Int) (a:Int) ((a+2*k:Nat):Int) m (bs,())=_∧_)∨∃ y,BB (n:Int) (k:Int) (a:Int) ((a+2*k:Nat):Int) m (bs,())=_∧_;unfold BB;have w2:IntKind.i64.wrap ((2:Int)*(k:Int))=((2*k:Nat):Int):=by rw [wrap64 (by omega) (by omega)];omega
  by_cases h:a+2*k≤n
  ·obtain⟨m',e,h2⟩:=aXs (bs:=bs) hn a (a+k) (a+2*k) m (by omega) (by omega) h hm;simp only [aXn h,cond_true,X0 (a:=a) (b:=k) (by omega),w2,X0 (a:=a+2*k) (b:=2*k) (by omega)];rw [e];refine .inl ⟨_,rfl,⟨a+2*k,m',h,h2,rfl⟩,?_⟩;show n-((a+2*k:Nat):Int).toNat<n-(a:Int).toNat;omega
  ·simp only [aOa (k:=a+2*k) (n:=n) (by omega),cond_false];exact .inr ⟨_,rfl,a,m,ha,hm,rfl⟩
theorem a8V (hn:n≤1000000000)(l:List Int)(hl:Row (At bs) n l) :
  ∃ l',aDw (((),(n:Int),(),(20:Int),()),l,(bs,()),())=some (.inl ((),l',(bs,()),()))∧Row (At bs) n l':=by
 have:=bP (G:=fun x=>BD x.1.2.1 x.1.2.2.2.1 x.2.1 x.2.2.1)
  (fun x=>∃ (k:Nat) (m:List Int),1≤k∧Row (At bs) n m∧k≤2000000000∧x=(((),(n:Int),(),(k:Int),()),m,(bs,()),())) (fun x=>n-x.1.2.2.2.1.toNat)
  (fun y=>∃ m,Row (At bs) n m∧y=.inl ((),m,(bs,()),())) ?_ fuel (((),(n:Int),(),(20:Int),()),l,(bs,()),()) ⟨20,l,by omega,hl,by omega,rfl⟩ (by
   show n-(20:Int).toNat<fuel;unfold fuel;omega)
 ·obtain⟨y,h,m,h1,rfl⟩:=this;exact⟨m,h,h1⟩
 ·rintro x ⟨k,m,hk,hm,hk2,rfl⟩;show(∃ x',BD (n:Int) (k:Int) m (bs,())=_∧_)∨∃ y,BD (n:Int) (k:Int) m (bs,())=_∧_;unfold BD;have w2:IntKind.i64.wrap ((2:Int)*(k:Int))=((2*k:Nat):Int):=by rw [wrap64 (by omega) (by omega)];omega
  have w3:IntKind.i64.wrap ((k:Int)*(2:Int))=((k*2:Nat):Int):=by rw [wrap64 (by omega) (by omega)];omega
  by_cases h:k<n
  ·obtain⟨a,m',ha,e,h2⟩:=a8U (bs:=bs) hn k hk (by omega) m hm;have CJ:n-((k*2:Nat):Int).toNat<n-(k:Int).toNat:=by omega
   rw [dec_lt h,cond_true,w2,e];left;by_cases h3:a+k<n
   ·obtain⟨m2,e2,h4⟩:=aXs (bs:=bs) hn a (a+k) n m' (by omega) h3 (aKQ _) h2;refine⟨(((),(n:Int),(),((k*2:Nat):Int),()),m2,(bs,()),()),aB rfl ?_,⟨k*2,m2,by omega,h4,by omega,rfl⟩,CJ⟩;show(bif decide (IntKind.i64.wrap ((a:Int)+(k:Int))<(n:Int)) then(aHa (a:Int) (IntKind.i64.wrap ((a:Int)+(k:Int))) (n:Int) m' (bs,())).bind _ else _)=_;rw [X0 (a:=a) (b:=k) (by omega),dec_lt h3,cond_true,e2];show some (Sum.inl (((),(n:Int),(),IntKind.i64.wrap ((k:Int)*(2:Int)),()),m2,(bs,()),()))=_;rw [w3]
   ·refine⟨(((),(n:Int),(),((k*2:Nat):Int),()),m',(bs,()),()),aB rfl ?_,⟨k*2,m',by omega,h2,by omega,rfl⟩,CJ⟩;show(bif decide (IntKind.i64.wrap ((a:Int)+(k:Int))<(n:Int)) then _ else some (Sum.inl (((),(n:Int),(),IntKind.i64.wrap ((k:Int)*(2:Int)),()),m',(bs,()),())))=_;rw [X0 (a:=a) (b:=k) (by omega),iD (k:=a+k) (n:=n) (by omega),cond_false,w3]
  ·simp only [iD (k:=k) (n:=n) (by omega),cond_false];exact .inr ⟨_,rfl,m,hm,rfl⟩
theorem bDS (hn:n≤1000000000)(l:List Int)(hl:Row (At bs) n l):aD1 bs n (aNy (n:Int) l (bs,())):=by
 obtain⟨a,l1,ha,e1,h1⟩:=a8T (bs:=bs) hn l hl;obtain⟨l2,e2,h2⟩:=aXr (bs:=bs) hn a n ha (aKQ _) l1 h1;obtain⟨l3,e3,h3⟩:=a8V (bs:=bs) hn l2 h2;exact⟨l3,aB e1 (aB e2 (aB e3 rfl)),h3⟩
theorem a8W (hn:n≤1000000000)(l:List Int)(hl:Row (At bs) n l):∃ l',aDx l (bs,())=some ((),l',(bs,()),())∧Row (At bs) n l':=by
 obtain⟨l',e,h⟩:=bDS hn l hl;refine⟨l',?_,h⟩;unfold aDx;rw [hl.1,e];rfl
theorem a8X (hn:bs.length≤1000):∃ l',VD bs=some ((l',()):aS [.list I])∧Row (At bs) bs.length l':=by
 have:=bP (G:=fun x=>uM x.1.2.2.1 x.1.2.2.2.1 x.2.1 x.2.2.1)
  (fun x=>∃ (k:Nat) (m:List Int),k≤bs.length∧Row (At bs) k m∧x=(((),(),(bs.length:Int),(k:Int),()),(bs,()),m,())) (fun x=>bs.length-x.1.2.2.2.1.toNat)
  (fun y=>∃ m,Row (At bs) bs.length m∧y=.inl (((),(),()),(bs,()),m,())) ?_ fuel (((),(),(bs.length:Int),(0:Int),()),(bs,()),[],()) ⟨0,[],aLj _,⟨rfl,fun x hx=>by simp at hx⟩,rfl⟩ (by
   show bs.length-(0:Int).toNat<fuel;unfold fuel;omega)
 ·obtain⟨y,h,m,h1,rfl⟩:=this;obtain⟨l',e,h2⟩:=a8W (by omega) m h1;refine⟨l',?_,h2⟩;unfold VD VC;rw [h];simp only [aEk,aQM];rw [e];rfl
 ·rintro x ⟨k,m,hk,hm,rfl⟩;show(∃ x',uM (bs.length:Int) (k:Int) (bs,()) m=_∧_)∨∃ y,uM (bs.length:Int) (k:Int) (bs,()) m=_∧_;unfold uM;by_cases h:k<bs.length
  ·have hsz:(((m.length+[(k:Int)].length)*8).ble 70368744177664)=true:=aPp (by rw [hm.1];simp;omega);simp only [dec_lt h,cond_true];refine .inl ⟨_,by rw [hsz];rfl,⟨k+1,m++[(k:Int)],h,⟨by simp [hm.1],fun x hx=>?_⟩,by rw [aN h (by omega)]⟩,?_⟩
   ·rcases aLA.1 hx with hx | hx
    ·exact hm.2 x hx
    ·rw [aXF.1 hx];exact⟨by omega,by omega⟩
   ·show bs.length-(IntKind.i64.wrap ((k:Int)+1)).toNat<bs.length-(k:Int).toNat;rw [aN h (by omega)];omega
  ·have:k=bs.length:=by omega
   subst this;simp only [bA,cond_false];exact .inr ⟨_,rfl,m,hm,rfl⟩
theorem a8Y (a b:Box):lK (aC9 a b):=by
 unfold aC9
 repeat' first | exact aO _ | apply bH
def Two (bs:List Box)(p:jJ):Prop:=At bs p.1∧At bs p.2
theorem aXt (x0:Int)(h0:At bs x0)(r4 eM:List Int)(lJ gV:Int)(us:List Int)(hu:∀ x∈us,At bs x)(hul:us.length≤1000)(acc:List jJ)(hacc:∀ p∈acc,Two bs p)(hal:acc.length≤1000000) :
  ∃ acc',VE ((bs,(),r4,x0,eM,lJ,gV,us,(us.length:Int),(0:Int),()),acc,())=some (.inl ((bs,(),r4,eM,lJ,gV,()),acc',()))∧(∀ p∈acc',Two bs p)∧acc'.length≤acc.length+us.length:=by
 have:=bP (G:=fun x=>uN x.1.1 x.1.2.2.1 x.1.2.2.2.1 x.1.2.2.2.2.1 x.1.2.2.2.2.2.1 x.1.2.2.2.2.2.2.1 x.1.2.2.2.2.2.2.2.1 x.1.2.2.2.2.2.2.2.2.1 x.1.2.2.2.2.2.2.2.2.2.1 x.2.1)
  (fun x=>∃ (k:Nat) (m:List jJ),k≤us.length∧(∀ p∈m,Two bs p)∧m.length≤acc.length+k∧x=((bs,(),r4,x0,eM,lJ,gV,us,(us.length:Int),(k:Int),()),m,())) (fun x=>us.length-x.1.2.2.2.2.2.2.2.2.2.1.toNat)
  (fun y=>∃ m:List jJ,(∀ p∈m,Two bs p)∧m.length≤acc.length+us.length∧y=.inl ((bs,(),r4,eM,lJ,gV,()),m,())) ?_ fuel ((bs,(),r4,x0,eM,lJ,gV,us,(us.length:Int),(0:Int),()),acc,()) ⟨0,acc,aLj _,hacc,aKQ _,rfl⟩ (by
   show us.length-(0:Int).toNat<fuel;unfold fuel;omega)
 ·obtain⟨y,h,m,h1,h2,rfl⟩:=this;exact⟨m,h,h1,h2⟩
 ·rintro x ⟨k,m,hk,hm,hml,rfl⟩;show(∃ x',uN bs r4 x0 eM lJ gV us (us.length:Int) (k:Int) m=_∧_)∨∃ y,uN bs r4 x0 eM lJ gV us (us.length:Int) (k:Int) m=_∧_;unfold uN;by_cases h:k<us.length
  ·have hg:=aJS h;have hx:=hu _ (aXB h);have hd0:decide ((0:Int)≤x0∧x0<(bs.length:Int))=true:=aKO h0;have E5:decide ((0:Int)≤us[k]∧us[k]<(bs.length:Int))=true:=aKO hx;obtain⟨v,hv⟩:=a8Y (List.getD bs (Int.toNat x0) bX.dflt) (List.getD bs (Int.toNat us[k]) bX.dflt);simp only [dec_lt h,bI h,cond_true,bB hg,hd0,E5,hv,aEk,aN h (by omega)];have CJ:us.length-((k+1:Nat):Int).toNat<us.length-(k:Int).toNat:=by omega
   cases v.1 with
   | false=>exact .inl ⟨_,rfl,⟨k+1,m,h,hm,by omega,rfl⟩,CJ⟩
   | true=>
    have hsz:∀ p:jJ,(((m.length+[p].length)*16).ble 70368744177664)=true:=fun p=>aPp (by simp;omega);refine .inl ⟨_,by rw [cond_true,hsz];rfl,⟨k+1,_,h,fun p hp=>?_,?_,rfl⟩,CJ⟩
    ·rcases aLA.1 hp with hp | hp
     ·exact hm p hp
     ·rw [aXF.1 hp];refine⟨?_,?_⟩
      ·show At bs (if us[k]<x0 then us[k] else x0)
       split <;> assumption
      ·show At bs (if us[k]>x0 then us[k] else x0)
       split <;> assumption
    ·rw [aPk];simp only [a9D];omega
  ·have:k=us.length:=by omega
   subst this;simp only [bA,cond_false];exact .inr ⟨_,rfl,m,hm,hml,rfl⟩
theorem a8Z (hn:bs.length≤100):∃ ps,yW bs=some ((ps,()):aS [.list bF])∧(∀ p∈ps,Two bs p)∧ps.length≤10000:=by
 obtain⟨ids,e1,aH2⟩:=a8X (bs:=bs) (by omega);have hl:ids.length=bs.length:=aH2.1;have:=bP (G:=fun x=>uO x.1.1 x.1.2.2.1 x.1.2.2.2.1 x.1.2.2.2.2.1 x.1.2.2.2.2.2.1 x.2.1)
  (fun x=>∃ (k:Nat) (m:List jJ),k≤ids.length∧(∀ p∈m,Two bs p)∧m.length≤k*100∧x=((bs,(),ids,ids,(ids.length:Int),(k:Int),()),m,())) (fun x=>ids.length-x.1.2.2.2.2.2.1.toNat)
  (fun y=>∃ m:List jJ,(∀ p∈m,Two bs p)∧m.length≤10000∧y=.inl (((),()),m,())) ?_ fuel ((bs,(),ids,ids,(ids.length:Int),(0:Int),()),[],()) ⟨0,[],aLj _,fun p hp=>by simp at hp,aLj _,rfl⟩ (by
   show ids.length-(0:Int).toNat<fuel;unfold fuel;omega)
 ·obtain⟨y,h,m,h1,h2,rfl⟩:=this;have e:EF m=some ((),jN m,()):=by
   unfold EF;rw [show Nat.ble m.length 1000000000=true from aPp (by omega)];rfl
  refine⟨jN m,?_,fun p hp=>h1 p ((wP m).mem_iff.1 hp),by rw [mG];exact h2⟩;unfold yW VG;rw [e1];simp only [aEk];rw [h];simp only [aEk,aQM];rw [e];rfl
 ·rintro x ⟨k,m,hk,hm,hml,rfl⟩;show(∃ x',uO bs ids ids (ids.length:Int) (k:Int) m=_∧_)∨∃ y,uO bs ids ids (ids.length:Int) (k:Int) m=_∧_;unfold uO;by_cases h:k<ids.length
  ·have hg:=aJS h;have hx:=aH2.2 _ (aXB h);have hd:decide ((0:Int)≤((k+1:Nat):Int)∧((k+1:Nat):Int)≤(ids.length:Int))=true:=aKO (by omega);simp only [dec_lt h,bI h,cond_true,bB hg,aN h (by omega),hd,Int.toNat_natCast];obtain⟨us,fE⟩:∃ us,us=List.take (ids.length-(k+1)) (List.drop (k+1) ids):=⟨_,rfl⟩;have hul:us.length=ids.length-(k+1):=by rw [fE];simp
   rw [← fE];obtain⟨acc',e,h1,h2⟩:=aXt (bs:=bs) (List.getD ids k 0) (aH2.get (d:=0) (by omega)) ids ids (ids.length:Int) (k:Int) us (fun x hx=>by
    rw [fE] at hx;exact aH2.2 x (List.mem_of_mem_drop (List.mem_of_mem_take hx))) (by omega) m hm (by omega)
   rw [e];refine .inl ⟨_,rfl,⟨k+1,acc',h,h1,by omega,?_⟩,?_⟩
   ·show((bs,(),ids,ids,(ids.length:Int),IntKind.i64.wrap ((k:Int)+1),()),acc',())=_;rw [aN h (by omega)]
   ·show ids.length-(IntKind.i64.wrap ((k:Int)+1)).toNat<ids.length-(k:Int).toNat;rw [aN h (by omega)];omega
  ·have:k=ids.length:=by omega
   subst this;simp only [bA,cond_false];exact .inr ⟨_,rfl,m,hm,by omega,rfl⟩
end
end Go.DI.S
