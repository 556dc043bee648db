import Derived.Test.YtbjldjihpekhaaaGreatZe
import Derived.Test.YtbjldjihpekhaaaGreatWd
import Derived.Test.YtbjldjihpekhaaaGreatAj
/- Commands, plain. No conditions. -/
set_option linter.unusedSimpArgs false
set_option linter.unusedVariables false
set_option maxRecDepth 100000
set_option maxHeartbeats 0
namespace Go.DI.S
open Go.Proofs
def wU (l:List Thing):Nat:=l.countP fun t=>t.2.1==(1:Int)
theorem aH5 (a b:List Thing):wU (a++b)=wU a+wU b:=List.countP_append
theorem aD2 (l:List Thing):wU l≤l.length:=List.countP_le_length
theorem a83 (s z:aZ)(y:dQ)(hl:s.2.2.length≤1000) :
  ∃ (B:List Body) (M:List (Int×Int)),B.length=wU s.2.2∧aDV (((),(),(),(),s.2.2,(s.2.2.length:Int),(0:Int),()),(s,()),(y,()),(s.1,(),(),()),[],[],[],())=some (.inl (((),(),(),(),()),(s,()),(y,()),(s.1,B,(),()),[],M,())):=by
 have:=bP (G:=fun x=>BO x.1.2.2.2.2.1 x.1.2.2.2.2.2.1 x.1.2.2.2.2.2.2.1 x.2.1 x.2.2.1 x.2.2.2.1 x.2.2.2.2.1 x.2.2.2.2.2.1 x.2.2.2.2.2.2.1)
  (fun x=>∃ (k:Nat) (B:List Body) (M:List (Int×Int)),k≤s.2.2.length∧B.length=wU (s.2.2.take k)∧x=(((),(),(),(),s.2.2,(s.2.2.length:Int),(k:Int),()),(s,()),(y,()),(s.1,(),(),()),B,[],M,())) (fun x=>s.2.2.length-x.1.2.2.2.2.2.2.1.toNat)
  (fun r=>∃ (B:List Body) (M:List (Int×Int)),B.length=wU s.2.2∧r=.inl (((),(),(),(),()),(s,()),(y,()),(s.1,B,(),()),[],M,())) ?_ fuel (((),(),(),(),s.2.2,(s.2.2.length:Int),(0:Int),()),(s,()),(y,()),(s.1,(),(),()),[],[],[],()) ⟨0,[],[],aLj _,rfl,rfl⟩ (by
   show s.2.2.length-(0:Int).toNat<fuel;unfold fuel;omega)
 ·obtain⟨r,h,B,M,h1,rfl⟩:=this;exact⟨B,M,h1,h⟩
 ·rintro x ⟨k,B,M,hk,hB,rfl⟩;show(∃ x',BO s.2.2 (s.2.2.length:Int) (k:Int) (s,()) (y,()) (s.1,(),(),()) B [] M=_∧_)∨∃ r,BO s.2.2 (s.2.2.length:Int) (k:Int) (s,()) (y,()) (s.1,(),(),()) B [] M=_∧_;unfold BO;have hBl:B.length≤1000:=by
   rw [hB];exact aPB (aD2 _) (by rw [aP6];omega)
  by_cases h:k<s.2.2.length
  ·have ha:=aJS h;have htk:s.2.2.take (k+1)=s.2.2.take k++[s.2.2[k]]:=aZ7 h;have CJ:s.2.2.length-((k+1:Nat):Int).toNat<s.2.2.length-(k:Int).toNat:=by omega
   simp only [dec_lt h,bI h,cond_true,bB ha,aN h (by omega)];left;by_cases hc:s.2.2[k].2.1=1
   ·refine⟨_,bZ (beq_iff_eq.2 hc) (bZ (aPp (by simp only [aQO,List.length_nil];omega)) rfl),⟨k+1,_,_,h,?_,rfl⟩,CJ⟩;rw [htk,aH5,aPk,hB];have:wU [s.2.2[k]]=1:=by unfold wU;rw [List.countP_singleton,aJb (beq_iff_eq.2 hc)]
    rw [this];rfl
   ·have hcb:(s.2.2[k].2.1==(1:Int))=false:=beq_eq_false_iff_ne.2 hc;refine⟨_,cU hcb rfl,⟨k+1,B,M,h,?_,rfl⟩,CJ⟩;rw [htk,aH5,hB];have:wU [s.2.2[k]]=0:=by unfold wU;rw [List.countP_singleton,aJn (by rw [hcb];decide)]
    rw [this];rfl
  ·have:k=s.2.2.length:=by omega
   subst this;simp only [bA,cond_false];exact .inr ⟨_,rfl,B,M,by rw [hB,aYZ],rfl⟩
theorem a1u (l:List Thing)(y:dQ)(g:fW)(B:List Body)(M:List (Int×Int))(hl:l.length≤1000) :
  ∃ J:List iF,J.length≤l.length∧WO (((),(),(),l,(l.length:Int),(0:Int),()),(y,()),(g,B,(),()),[],M,())=some (.inl (((),(),()),(y,()),(g,B,(),()),J,())):=by
 have:=bP (G:=fun x=>u9 x.1.2.2.2.1 x.1.2.2.2.2.1 x.1.2.2.2.2.2.1 x.2.1 x.2.2.1 x.2.2.2.1 x.2.2.2.2.1)
  (fun x=>∃ (k:Nat) (J:List iF),k≤l.length∧J.length≤k∧x=(((),(),(),l,(l.length:Int),(k:Int),()),(y,()),(g,B,(),()),J,M,())) (fun x=>l.length-x.1.2.2.2.2.2.1.toNat)
  (fun r=>∃ J:List iF,J.length≤l.length∧r=.inl (((),(),()),(y,()),(g,B,(),()),J,())) ?_ fuel (((),(),(),l,(l.length:Int),(0:Int),()),(y,()),(g,B,(),()),[],M,()) ⟨0,[],aLj _,aKQ _,rfl⟩ (by
   show l.length-(0:Int).toNat<fuel;unfold fuel;omega)
 ·obtain⟨r,h,J,h1,rfl⟩:=this;exact⟨J,h1,h⟩
 ·rintro x ⟨k,J,hk,hJ,rfl⟩;show(∃ x',u9 l (l.length:Int) (k:Int) (y,()) (g,B,(),()) J M=_∧_)∨∃ r,u9 l (l.length:Int) (k:Int) (y,()) (g,B,(),()) J M=_∧_;unfold u9;by_cases h:k<l.length
  ·have ha:=aJS h;have CJ:l.length-((k+1:Nat):Int).toNat<l.length-(k:Int).toNat:=by omega
   simp only [dec_lt h,bI h,cond_true,bB ha,aN h (by omega)];left;by_cases hc:l[k].2.1=2
   ·refine⟨_,bZ (beq_iff_eq.2 hc) (bZ (aPp (by simp only [aQO,List.length_nil];omega)) rfl),⟨k+1,_,h,?_,rfl⟩,CJ⟩;rw [aPk];simp only [aQO,List.length_nil];omega
   ·exact⟨_,cU (beq_eq_false_iff_ne.2 hc) rfl,⟨k+1,J,h,by omega,rfl⟩,CJ⟩
  ·have:k=l.length:=by omega
   subst this;simp only [bA,cond_false];exact .inr ⟨_,rfl,J,hJ,rfl⟩
theorem a3E (s:aZ)(hl:s.2.2.length≤1000):∃ W:dQ,WQ s=some ((W,()):aS [bS])∧W.2.1.length=wU s.2.2∧W.2.2.length≤s.2.2.length:=by
 obtain⟨B,M,h1,e1⟩:=a83 s s ((((0:Int),(0:Int)),[],[])) hl;obtain⟨J,h2,e2⟩:=a1u s.2.2 ((((0:Int),(0:Int)),[],[])) s.1 B M hl;refine⟨(s.1,B,J),?_,h1,h2⟩;unfold WQ;exact aB e1 (aB e2 rfl)
theorem a1v (a b:Body):∃ v:Bool,OM a b=some ((v,()):aS [.bool])∧(v=true→rb b=true):=by
 unfold OM;rw [aPW b];cases (a.fst==b.fst) with
 | false=>exact⟨false,rfl,fun h=>by cases h⟩
 | true=>
  simp only [cond_true];cases (a.snd.fst.fst==b.snd.fst.fst&&(a.snd.fst.snd==b.snd.fst.snd&&true)) with
  | false=>exact⟨false,rfl,fun h=>by cases h⟩
  | true=>
   simp only [cond_true];cases (a.snd.snd.fst==b.snd.snd.fst) with
   | false=>exact⟨false,rfl,fun h=>by cases h⟩
   | true=>exact⟨rb b,rfl,id⟩
theorem a1w {t:Thing}(h:rt t=true)(hl:t.2.2.2.2.length≤1000000000)(hk:t.2.1=1){b:Body}(hb:rb b=true):rt (t.1,t.2.1,b,t.2.2.2)=true:=by
 have h1:=(yR hl).1 h;refine(yR (t:=(t.1,t.2.1,b,t.2.2.2)) hl).2 ⟨h1.1,?_⟩;rcases h1.2 with k | k | k
 ·exact .inl ⟨hk,k.2.1,k.2.2.1,hb⟩
 ·rw [hk] at k;exact absurd k.1 (by decide)
 ·rw [hk] at k;exact absurd k.1 (by decide)
theorem WY (x:dQ)(g:fW)(nx:Int)(z:aZ){N:Nat}(hN2:N≤1000000000):∀ (rest done:List Thing) (m j:Nat),done.length+rest.length=N→rest.length<m→j+wU rest=x.2.1.length→x.2.1.length≤1000000→(∀ t∈rest,rt t=true∧t.2.2.2.2.length≤1000000000) →
  (∃ us,aH (fun x=>jU x.1.2.2.2.1 x.1.2.2.2.2.2.1 x.1.2.2.2.2.2.2.1 x.2.1 x.2.2.1 x.2.2.2.1 x.2.2.2.2.1) m (((),(),(),(j:Int),(),(N:Int),(done.length:Int),()),(g,nx,(),()),done++rest,(x,()),(z,()),())=some (.inl (((),(),()),(g,nx,(),()),done++us,(z,()),()))∧gT rest us∧∀ t∈us,rt t=true) ∨
  ∃ s',aH (fun x=>jU x.1.2.2.2.1 x.1.2.2.2.2.2.1 x.1.2.2.2.2.2.2.1 x.2.1 x.2.2.1 x.2.2.2.1 x.2.2.2.2.1) m (((),(),(),(j:Int),(),(N:Int),(done.length:Int),()),(g,nx,(),()),done++rest,(x,()),(z,()),())=some (.inr (((),(9:Int),()),(s',()),()))
 | [],done,m,j,hN,hm,hj,hx,hr=>by
  obtain⟨m,rfl⟩:∃ k,m=k+1:=⟨m-1,by omega⟩;left;have:done.length=N:=by simpa using hN
  subst this;refine⟨[],bM ?_ m,rfl,fun t ht=>by cases ht⟩;show jU (j:Int) (done.length:Int) (done.length:Int) (g,nx,(),()) (done++[]) (x,()) (z,())=_;unfold jU;rw [bA];rfl
 | t :: rest,done,m,j,hN,hm,hj,hx,hr=>by
  obtain⟨m,rfl⟩:∃ k,m=k+1:=⟨m-1,by simp only [aQO] at hm;omega⟩;simp only [aQO] at hN hm;have hlt:done.length<N:=by omega
  have hat:=KE done t rest;have hin:decide ((0:Int)≤(done.length:Int)∧(done.length:Int)<(((done++t :: rest).length:Nat):Int))=true:=bI (by rw [aPk,aQO];omega);have hd:∀ d:Thing,(done++t :: rest).getD (Int.toNat (done.length:Int)) d=t:=fun d=>bB hat;obtain⟨hrt,hll⟩:=hr t a1F;have B6:∀ u∈rest,rt u=true∧u.2.2.2.2.length≤1000000000:=fun u hu=>hr u (a0y _ hu);by_cases hc:t.2.1=1
  ·have a84:wU (t :: rest)=wU rest+1:=by unfold wU;rw [List.countP_cons,aJb (beq_iff_eq.2 hc)]
   rw [a84] at hj;have hjn:j<x.2.1.length:=by omega
   have hjd:decide ((0:Int)≤(j:Int)∧(j:Int)<((x.2.1.length:Nat):Int))=true:=bI hjn;have hjg:=aJS hjn;obtain⟨v,hv,hb⟩:=a1v t.2.2.1 (x.2.1[j]);cases v with
   | false=>
    right;refine⟨(((0:Int),(0:Int)),(0:Int),[]),bM (y:=Sum.inr (((),(9:Int),()),((((0:Int),(0:Int)),(0:Int),[]),()),())) ?_ m⟩;show jU (j:Int) (N:Int) (done.length:Int) (g,nx,(),()) (done++t :: rest) (x,()) (z,())=_;unfold jU;simp only [dec_lt hlt,hin,cond_true,hd];refine cU (KG hc) (bZ hjd ?_);rw [bB hjg];exact aB hv (bZ rfl rfl)
   | true=>
    have bH2:=a1w hrt hll hc (hb rfl);have hstep:jU (j:Int) (N:Int) (done.length:Int) (g,nx,(),()) (done++t :: rest) (x,()) (z,())=some (.inl (((),(),(),((j+1:Nat):Int),(),(N:Int),(((done++[(t.1,t.2.1,x.2.1[j],t.2.2.2)]).length:Nat):Int),()),(g,nx,(),()),(done++[(t.1,t.2.1,x.2.1[j],t.2.2.2)])++rest,(x,()),(z,()),())):=by
     unfold jU;simp only [dec_lt hlt,hin,cond_true,hd];refine cU (KG hc) (bZ hjd ?_);rw [bB hjg];refine aB hv (cU rfl (bZ hjd ?_));rw [Int.toNat_natCast,EA,aN hjn (by omega),aN hlt (by omega),aPk,aQ4];rfl
    rcases WY x g nx z hN2 rest (done++[(t.1,t.2.1,x.2.1[j],t.2.2.2)]) m (j+1) (by rw [aPk];simp only [aQO,List.length_nil];omega) (by omega) (by omega) hx B6 with⟨us,e,hlk,fE⟩ | ⟨s',e⟩
    ·left;refine⟨(t.1,t.2.1,x.2.1[j],t.2.2.2) :: us,?_,?_,fun u hu=>?_⟩
     ·rw [bT hstep,e,aQ4];rfl
     ·show List.map sk _=List.map sk _;rw [aXW,aXW,show us.map sk=rest.map sk from hlk];rfl
     ·rcases aQL.1 hu with rfl | hu
      ·exact bH2
      ·exact fE u hu
    ·exact .inr ⟨s',by rw [bT hstep];exact e⟩
  ·have a84:wU (t :: rest)=wU rest:=by unfold wU;rw [List.countP_cons,aJn (by simpa using hc)];rfl
   rw [a84] at hj;have hstep:jU (j:Int) (N:Int) (done.length:Int) (g,nx,(),()) (done++t :: rest) (x,()) (z,())=some (.inl (((),(),(),(j:Int),(),(N:Int),(((done++[t]).length:Nat):Int),()),(g,nx,(),()),(done++[t])++rest,(x,()),(z,()),())):=by
    unfold jU;simp only [dec_lt hlt,hin,cond_true,hd];refine bZ (qA hc) ?_;rw [aN hlt (by omega),aPk,aQ4];rfl
   rcases WY x g nx z hN2 rest (done++[t]) m j (by rw [aPk];simp only [aQO,List.length_nil];omega) (by omega) hj hx B6 with⟨us,e,hlk,fE⟩ | ⟨s',e⟩
   ·left;refine⟨t :: us,?_,?_,fun u hu=>?_⟩
    ·rw [bT hstep,e,aQ4];rfl
    ·show List.map sk _=List.map sk _;rw [aXW,aXW,show us.map sk=rest.map sk from hlk]
    ·rcases aQL.1 hu with rfl | hu
     ·exact hrt
     ·exact fE u hu
   ·exact .inr ⟨s',by rw [bT hstep];exact e⟩
theorem bD0 (s:aZ)(x:dQ)(hs:Small s.2.2)(hr:bK s=true) :
  ∃ (r:aZ) (e:Int),aAv s x=some ((r,e,()):aS [aD,I])∧(e=0→bK r=true∧Small r.2.2∧r.2.1=s.2.1∧∀ n,Is s.2.2 n→Is r.2.2 n):=by
 have hR:=bR hr;have h40:=hR.len;have e20:=JI s hs;rw [hr] at e20;obtain⟨W,eW,hW,_⟩:=a3E s (by omega);unfold aAv;by_cases hc:W.2.1.length=x.2.1.length
 ·have hne:(((W.2.1.length:Nat):Int) != ((x.2.1.length:Nat):Int))=false:=KG (by rw [hc]);have h47:=a5f s.2.2 hs;have hcl:=aD2 s.2.2;rcases WY x s.1 s.2.1 ((((0:Int),(0:Int)),(0:Int),[])) (N:=s.2.2.length) (by omega) s.2.2 [] fuel 0 (by simp) (fuel_lt (by omega)) (by rw [aZ3,← hW];exact hc) (by omega) (fun t ht=>⟨(hR.low t ht).2.2,hs.2 t ht⟩) with⟨us,e,hlk,fE⟩ | ⟨s',e⟩
  ·refine⟨(s.1,s.2.1,us),0,aB e20 (cU rfl (aB eW (cU hne (aB h47 ?_)))),fun _=>⟨hlk.right hr hs fE,hlk.small hs,rfl,fun n hn=>hlk.is hn⟩⟩;exact aB e rfl
  ·refine⟨s',9,aB e20 (cU rfl (aB eW (cU hne (aB h47 ?_)))),fun h=>absurd h (by decide)⟩;exact aB e rfl
 ·exact⟨_,9,aB e20 (cU rfl (aB eW (bZ (qA (fun h=>hc (Int.ofNat_inj.1 h))) rfl))),fun h=>absurd h (by decide)⟩
theorem a1x (w:dQ)(n:Int)(hg:CN w):lK (G6 w n):=by
 by_cases h0:n<0
 ·exact⟨_,aH4 w n (.inl h0)⟩
 ·by_cases h1:n>200
  ·exact⟨_,aH4 w n (.inr h1)⟩
  ·obtain⟨k,rfl⟩:=Int.eq_ofNat_of_zero_le (Int.not_lt.1 h0);exact⟨_,bDZ w k (by omega) hg⟩
theorem wV {s:aZ}{m:Bool}{c:Bool}{a b:Option fM.El}(h:c=true)(k:kP s m a):kP s m (bif c then a else b):=by subst h;exact k
theorem dH {s:aZ}{m:Bool}{c:Bool}{a b:Option fM.El}(h:c=false)(k:kP s m b):kP s m (bif c then a else b):=by subst h;exact k
theorem aD3 {α:Type}{s:aZ}{m:Bool}{a:Option α}{f:α→Option fM.El}{x:α}(h:a=some x)(k:kP s m (f x)):kP s m (a.bind f):=by subst h;exact k
theorem a85 {k:Int}(h1:1≤k)(h2:k≤10)(c1:¬k=1)(c2:¬k=2)(c3:¬k=3)(c4:¬k=4)(c5:¬k=5)(c6:¬k=6)(c7:¬k=7)(c8:¬k=8)(c9:¬k=9):k=10:=by omega
def xB (k:Int):Bool:=k==1||(k==4||(k==5||k==7))
section
variable {w:aR.El}(hs:Small w.1.2.2)(hr:bK w.1=true)
include hs hr
theorem a86:kP w.1 false (aDW (w,())):=by
 have hR:=bR hr;have h40:=hR.len;have hcl:=aD2 w.1.2.2;obtain⟨W,eW,hW1,hW2⟩:=a3E w.1 (by omega);obtain⟨⟨x,a,e,⟨⟩⟩,h15⟩:=a1x W w.2.1.2.2.2.2.2.2.2.2.2.2.1 ⟨by omega,by omega⟩;unfold aDW;rw [show WQ w.1=_ from eW];show kP w.1 false ((G6 W w.2.1.2.2.2.2.2.2.2.2.2.2.1).bind _);rw [h15];show kP w.1 false (bif e != (0:Int) then some (((w.1,(0:Int),e,()),(w,()),()):fM.El) else(aAv w.1 x).bind fun v6=>some (((v6.fst,(0:Int),v6.snd.fst,()),(w,()),()):fM.El));by_cases he:e=0
 ·rw [KG he];obtain⟨r,e',h,hg⟩:=bD0 w.1 x hs hr;rw [cond_false,h];exact⟨r,0,e',w,rfl,fun h0=>⟨(hg h0).1,(hg h0).2.1,Int.le_of_eq (hg h0).2.2.1.symm,(fun h=>by cases h),(fun _=>rfl),.inl (hg h0).2.2.2⟩⟩
 ·rw [qA he];exact fZ he
theorem bD1 (hk1:1≤w.2.1.1)(hk2:w.2.1.1≤10)(aH2:w.2.1.2.2.2.2.2.2.2.2.2.2.2.length≤1000):kP w.1 (xB w.2.1.1) (aN3 (w,())):=by
 have aQT:∀ {made:Bool} {R:Option fM.El},kP w.1 made R→kP w.1 made (R.bind fun v=>some (((v.1.1,v.1.2.1,v.1.2.2.1,()),(v.2.1.1,()),()):fM.El)):=fun {made R} h=>by
  obtain⟨r,n,e,w',rfl,hg⟩:=h;exact⟨r,n,e,w',rfl,hg⟩
 generalize hk:w.2.1.1=k at hk1 hk2;unfold aN3;have y:∀ j:Int,k=j→(w.2.1.1==j)=true:=fun j h=>by rw [hk,h];simp
 have n:∀ j:Int,k≠j→(w.2.1.1==j)=false:=fun j h=>by rw [hk];simpa using h
 by_cases c1:k=1
 ·have hb:∃ t:Thing,t.2.2.2.2.length≤1000000∧aJq (w,())=some (((t,()),(w,()),()):R5.El):=⟨_,aLj _,rfl⟩;obtain⟨t,ht,eb⟩:=hb;rw [show xB k=true by rw [c1];rfl];exact wV (y 1 c1) (aD3 eb (aQT (aVs hs hr t ht)))
 by_cases c2:k=2
 ·rw [show xB k=false by rw [c2];rfl];exact dH (n 1 c1) (wV (y 2 c2) (a6C hs hr w.2.1.2.1))
 by_cases c3:k=3
 ·rw [show xB k=false by rw [c3];rfl];exact dH (n 1 c1) (dH (n 2 c2) (wV (y 3 c3) (aQT (a6D hs hr))))
 by_cases c4:k=4
 ·rw [show xB k=true by rw [c4];rfl];exact dH (n 1 c1) (dH (n 2 c2) (dH (n 3 c3) (wV (y 4 c4) (aQT (aVs hs hr _ (aLj _))))))
 by_cases c5:k=5
 ·rw [show xB k=true by rw [c5];rfl];exact dH (n 1 c1) (dH (n 2 c2) (dH (n 3 c3) (dH (n 4 c4) (wV (y 5 c5) (a6E hs hr _ aH2)))))
 by_cases c6:k=6
 ·rw [show xB k=false by rw [c6];rfl];exact dH (n 1 c1) (dH (n 2 c2) (dH (n 3 c3) (dH (n 4 c4) (dH (n 5 c5) (wV (y 6 c6) (aQT (a6F hs hr)))))))
 by_cases c7:k=7
 ·rw [show xB k=true by rw [c7];rfl];exact dH (n 1 c1) (dH (n 2 c2) (dH (n 3 c3) (dH (n 4 c4) (dH (n 5 c5) (dH (n 6 c6) (wV (y 7 c7) (aD3 (x:=(((w.2.2.1,w.2.2.2.1),()):aS [aU])) rfl (a6G hs hr w.2.1.2.1 (w.2.2.1,w.2.2.2.1)))))))))
 by_cases c8:k=8
 ·rw [show xB k=false by rw [c8];rfl];exact dH (n 1 c1) (dH (n 2 c2) (dH (n 3 c3) (dH (n 4 c4) (dH (n 5 c5) (dH (n 6 c6) (dH (n 7 c7) (wV (y 8 c8) (aD3 (x:=(((w.2.2.1,w.2.2.2.1),()):aS [aU])) rfl (a6H hs hr (w.2.2.1,w.2.2.2.1))))))))))
 by_cases c9:k=9
 ·rw [show xB k=false by rw [c9];rfl];exact dH (n 1 c1) (dH (n 2 c2) (dH (n 3 c3) (dH (n 4 c4) (dH (n 5 c5) (dH (n 6 c6) (dH (n 7 c7) (dH (n 8 c8) (wV (y 9 c9) (aQT (a6I hs hr))))))))))
 ·have c10:k=10:=a85 hk1 hk2 c1 c2 c3 c4 c5 c6 c7 c8 c9;rw [show xB k=false by rw [c10];rfl];exact dH (n 1 c1) (dH (n 2 c2) (dH (n 3 c3) (dH (n 4 c4) (dH (n 5 c5) (dH (n 6 c6) (dH (n 7 c7) (dH (n 8 c8) (dH (n 9 c9) (aQT (a86 hs hr))))))))))
end
theorem bD2 (s:aZ)(o:Order)(hs:Small s.2.2)(aH2:o.2.2.2.2.2.2.2.2.2.2.2.length≤1000) :
  ∃ (r:aZ) (n e:Int),aHX s o=some ((r,n,e,()):aS [aD,I,I])∧((e≠0∧r=s∧n=0)∨(e=0∧bK s=true∧Good s (xB o.1) r n)):=by
 unfold aHX;by_cases h1:o.1<1
 ·exact⟨s,0,9,bZ (aKO h1) rfl,.inl ⟨by decide,rfl,rfl⟩⟩
 by_cases h2:o.1>10
 ·exact⟨s,0,9,cU (aKP h1) (bZ (aKO h2) rfl),.inl ⟨by decide,rfl,rfl⟩⟩
 have e20:=JI s hs;cases hr:bK s with
 | false=>
  rw [hr] at e20;exact⟨s,0,9,cU (aKP h1) (cU (aKP h2) (aB e20 (bZ rfl rfl))),.inl ⟨by decide,rfl,rfl⟩⟩
 | true=>
  rw [hr] at e20;obtain⟨e,w,hw,hw1,hw2⟩:=aQg (s,o,(0,0,0,0,0));have hw1:w.1=s:=hw1;have hw2:w.2.1=o:=hw2;by_cases he:e=0
  ·subst he;have hg:=bD1 (w:=w) (by rw [hw1];exact hs) (by rw [hw1];exact hr) (by rw [hw2];exact Int.not_lt.1 h1) (by rw [hw2];exact Int.not_lt.1 h2) (by rw [hw2];exact aH2);obtain⟨r,n,e,w',hd,hg⟩:=hg;rw [hw1,hw2] at hg;by_cases he:e=0
   ·subst he;exact⟨r,n,0,cU (aKP h1) (cU (aKP h2) (aB e20 (cU rfl (aB hw (cU rfl (aB hd (cU rfl rfl))))))),.inr ⟨rfl,rfl,hg rfl⟩⟩
   ·exact⟨s,0,e,cU (aKP h1) (cU (aKP h2) (aB e20 (cU rfl (aB hw (cU rfl (aB hd (bZ (qA he) rfl))))))),.inl ⟨he,rfl,rfl⟩⟩
  ·exact⟨s,0,e,cU (aKP h1) (cU (aKP h2) (aB e20 (cU rfl (aB hw (bZ (qA he) rfl))))),.inl ⟨he,rfl,rfl⟩⟩
end Go.DI.S
