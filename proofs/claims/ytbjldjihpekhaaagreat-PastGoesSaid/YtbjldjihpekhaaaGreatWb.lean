import Derived.Test.YtbjldjihpekhaaaGreatWa
import Derived.Test.YtbjldjihpekhaaaGreatAd
/- Merging runs through, plain. No conditions. -/
set_option linter.unusedSimpArgs false
set_option linter.unusedVariables false
set_option maxRecDepth 100000
set_option maxHeartbeats 0
namespace Go.DI.S
open Go.Proofs
def Row {α:Type}(P:α→Prop)(n:Nat)(l:List α):Prop:=l.length=n∧∀ x∈l,P x
theorem get_mem {α:Type}{l:List α}{i:Nat}{d:α}(h:i<l.length):l.getD i d∈l:=by
 rw [aQj,aJS h];exact aXB h
theorem Row.put {α:Type}{P:α→Prop}{n:Nat}{l:List α}(h:Row P n l){i:Nat}{x:α}(hx:P x):Row P n (l.set i x):=by
 refine⟨by rw [aXK];exact h.1,fun y hy=>?_⟩;rcases List.mem_or_eq_of_mem_set hy with hy | rfl
 ·exact h.2 y hy
 ·exact hx
theorem Row.get {α:Type}{P:α→Prop}{n:Nat}{l:List α}(h:Row P n l){i:Nat}{d:α}(hi:i<n):P (l.getD i d):=h.2 _ (get_mem (by rw [h.1];exact hi))
theorem Row.swap {α:Type}{P:α→Prop}{n:Nat}{l:List α}(h:Row P n l){i j:Nat}{d:α}(hi:i<n)(hj:j<n):Row P n ((l.set i (l.getD j d)).set j (l.getD i d)):=(h.put (h.get hj)).put (h.get hi)
theorem aN9 {j:Nat}(h:0<j)(hj:j≤4611686018427387904):IntKind.i64.wrap ((j:Int)-1)=((j-1:Nat):Int):=by
 rw [wrap64 (by omega) (by omega)];omega
theorem Row.in {α:Type}{P:α→Prop}{n:Nat}{l:List α}(h:Row P n l){i:Nat}(hi:i<n):decide ((0:Int)≤(i:Int)∧(i:Int)<((l.length:Nat):Int))=true:=by rw [h.1];exact bI hi
def At (bs:List Box)(x:Int):Prop:=0≤x∧x<(bs.length:Int)
theorem aD0 (a b:Int)(bs:List Box)(ha:At bs a)(hb:At bs b):∃ v:Int,ED a b (bs,())=some ((v,()),(bs,()),()):=by
 unfold ED;have h1:decide ((0:Int)≤a∧a<(bs.length:Int))=true:=aKO ha;have h2:decide ((0:Int)≤b∧b<(bs.length:Int))=true:=aKO hb;obtain⟨v,hv⟩:=a8P (List.getD bs (Int.toNat a) bX.dflt).1.1 (List.getD bs (Int.toNat b) bX.dflt).1.1;refine⟨v.1,?_⟩;simp only [h1,h2,cond_true];rw [hv];rfl
theorem X0 {a b:Nat}(h:a+b≤4611686018427387904):IntKind.i64.wrap ((a:Int)+(b:Int))=((a+b:Nat):Int):=by
 rw [wrap64 (by omega) (by omega)];omega
theorem M9 {a b:Nat}(h:b≤a)(h2:a≤4611686018427387904):IntKind.i64.wrap ((a:Int)-(b:Int))=((a-b:Nat):Int):=by
 rw [wrap64 (by omega) (by omega)];omega
theorem OT {a b:Nat}(h:a+b≤4611686018427387904):U4 (a:Int) (b:Int)=(((a+b) / 2:Nat):Int):=by
 unfold U4;rw [X0 h,BP (by omega) (by omega),a9r _ (by decide)];have:(((a+b:Nat):Int)) / 2=(((a+b) / 2:Nat):Int):=by omega
 rw [this,wrap64 (by omega) (by omega)]
theorem aXn {k n:Nat}(h:k≤n):decide ((k:Int)≤(n:Int))=true:=aKO (by omega)
theorem aOa {k n:Nat}(h:n<k):decide ((k:Int)≤(n:Int))=false:=aKP (by omega)
theorem iD {k n:Nat}(h:n≤k):decide ((k:Int)<(n:Int))=false:=aKP (by omega)
section
variable {bs:List Box}{n:Nat}
def aD1 (bs:List Box)(n:Nat)(r:Option (Unit×List Int×(List Box×Unit)×Unit)):Prop:=∃ l',r=some ((),l',(bs,()),())∧Row (At bs) n l'
theorem aXo (hn:n≤1000000000)(a b m:Nat)(ha:a+m≤n)(hb:b+m≤n)(l:List Int)(hl:Row (At bs) n l):aD1 bs n (MO (a:Int) (b:Int) (m:Int) l (bs,())):=by
 have:=bP (G:=fun x=>A5 x.1.2.1 x.1.2.2.1 x.1.2.2.2.1 x.1.2.2.2.2.1 x.2.1 x.2.2.1)
  (fun x=>∃ (i:Nat) (k:List Int),i≤m∧Row (At bs) n k∧x=(((),(a:Int),(b:Int),(m:Int),(i:Int),()),k,(bs,()),())) (fun x=>m-x.1.2.2.2.2.1.toNat)
  (fun y=>∃ k,Row (At bs) n k∧y=.inl ((),k,(bs,()),())) ?_ fuel (((),(a:Int),(b:Int),(m:Int),(0:Int),()),l,(bs,()),()) ⟨0,l,aLj _,hl,rfl⟩ (by
   show m-(0:Int).toNat<fuel;have:=fuel_lt hn;omega)
 ·obtain⟨y,h,k,h1,rfl⟩:=this;exact⟨k,by unfold MO aDm;rw [h];rfl,h1⟩
 ·rintro x ⟨i,k,hi,hk,rfl⟩;show(∃ x',A5 (a:Int) (b:Int) (m:Int) (i:Int) k (bs,())=_∧_)∨∃ y,A5 (a:Int) (b:Int) (m:Int) (i:Int) k (bs,())=_∧_;unfold A5;by_cases h:i<m
  ·simp only [dec_lt h,cond_true,X0 (a:=a) (b:=i) (by omega),X0 (a:=b) (b:=i) (by omega),hk.in (i:=a+i) (by omega),hk.in (i:=b+i) (by omega),Int.toNat_natCast,aXK,aN h (by omega)];refine .inl ⟨_,rfl,⟨i+1,_,h,hk.swap (by omega) (by omega),rfl⟩,?_⟩;show m-((i+1:Nat):Int).toNat<m-(i:Int).toNat;omega
  ·simp only [iD (k:=i) (n:=m) (by omega),cond_false];exact .inr ⟨_,rfl,k,hk,rfl⟩
theorem bDR (hn:n≤1000000000)(a m b:Nat)(ham:a<m)(hmb:m<b)(hb:b≤n)(l:List Int)(hl:Row (At bs) n l):aD1 bs n (aG9 (a:Int) (m:Int) (b:Int) l (bs,())):=by
 have:=bP (G:=fun x=>A6 x.1.2.1 x.1.2.2.2.1 x.1.2.2.2.2.1 x.2.1 x.2.2.1)
  (fun x=>∃ (i j:Nat) (k:List Int),0<i∧0<j∧i≤m-a∧j≤b-m∧Row (At bs) n k∧x=(((),(m:Int),(),(i:Int),(j:Int),()),k,(bs,()),())) (fun x=>x.1.2.2.2.1.toNat+x.1.2.2.2.2.1.toNat)
  (fun y=>∃ (i:Nat) (k:List Int),i≤m-a∧i≤b-m∧Row (At bs) n k∧y=.inl (((),(m:Int),(),(i:Int),()),k,(bs,()),())) ?_ fuel (((),(m:Int),(),((m-a:Nat):Int),((b-m:Nat):Int),()),l,(bs,()),()) ⟨m-a,b-m,l,by omega,by omega,aKQ _,aKQ _,hl,rfl⟩ (by
   show(((m-a:Nat):Int)).toNat+(((b-m:Nat):Int)).toNat<fuel;unfold fuel;omega)
 ·obtain⟨y,h,i,k,h1,h2,h3,rfl⟩:=this;obtain⟨k',e,h4⟩:=aXo hn (m-i) m i (by omega) (by omega) k h3;refine⟨k',?_,h4⟩;unfold aG9 aDo;rw [M9 (a:=m) (b:=a) (by omega) (by omega),M9 (a:=b) (b:=m) (by omega) (by omega),h];show(MO (IntKind.i64.wrap ((m:Int)-(i:Int))) (m:Int) (i:Int) k (bs,())).bind _=_;rw [M9 (a:=m) (b:=i) (by omega) (by omega),e];rfl
 ·rintro x ⟨i,j,k,hi0,hj0,hi,hj,hk,rfl⟩;show(∃ x',A6 (m:Int) (i:Int) (j:Int) k (bs,())=_∧_)∨∃ y,A6 (m:Int) (i:Int) (j:Int) k (bs,())=_∧_;unfold A6;by_cases hij:i=j
  ·subst hij;have:((i:Int) != (i:Int))=false:=by simp
   rw [this];exact .inr ⟨_,rfl,i,k,hi,hj,hk,rfl⟩
  ·have:((i:Int) != (j:Int))=true:=by simp;omega
   rw [this,cond_true,M9 (a:=m) (b:=i) (by omega) (by omega)];left;by_cases hlt:j<i
   ·obtain⟨k',e,h4⟩:=aXo hn (m-i) m j (by omega) (by omega) k hk;rw [show decide ((i:Int)>(j:Int))=true from aKO (by omega),cond_true,M9 (a:=i) (b:=j) (by omega) (by omega)];rw [e];refine⟨_,rfl,⟨i-j,j,k',by omega,hj0,by omega,hj,h4,rfl⟩,?_⟩;show(((i-j:Nat):Int)).toNat+(j:Int).toNat<(i:Int).toNat+(j:Int).toNat;omega
   ·obtain⟨k',e,h4⟩:=aXo hn (m-i) (m+j-i) i (by omega) (by omega) k hk;rw [show decide ((i:Int)>(j:Int))=false from aKP (by omega),cond_false,X0 (a:=m) (b:=j) (by omega),M9 (a:=m+j) (b:=i) (by omega) (by omega),M9 (a:=j) (b:=i) (by omega) (by omega)];rw [e];refine⟨_,rfl,⟨i,j-i,k',hi0,by omega,hi,by omega,h4,rfl⟩,?_⟩;show(i:Int).toNat+(((j-i:Nat):Int)).toNat<(i:Int).toNat+(j:Int).toNat;omega
end
section
variable {bs:List Box}{n:Nat}{f:dG}
theorem a8Q (hn:n≤1000000000)(a i j:Nat)(ha:a<n)(hij:i≤j)(hj:j≤n)(l:List Int)(hl:Row (At bs) n l) :
  ∃ i':Nat,i≤i'∧i'≤j∧OD f (((),(a:Int),(),(i:Int),(j:Int),()),l,(bs,()),())=some (.inl (((),(a:Int),(i':Int),()),l,(bs,()),())):=by
 have:=bP (G:=fun x=>A7 f x.1.2.1 x.1.2.2.2.1 x.1.2.2.2.2.1 x.2.1 x.2.2.1)
  (fun x=>∃ (s r:Nat),i≤s∧s≤r∧r≤j∧x=(((),(a:Int),(),(s:Int),(r:Int),()),l,(bs,()),())) (fun x=>x.1.2.2.2.2.1.toNat-x.1.2.2.2.1.toNat)
  (fun y=>∃ i':Nat,i≤i'∧i'≤j∧y=.inl (((),(a:Int),(i':Int),()),l,(bs,()),())) ?_ fuel (((),(a:Int),(),(i:Int),(j:Int),()),l,(bs,()),()) ⟨i,j,aKQ _,hij,aKQ _,rfl⟩ (by
   show(j:Int).toNat-(i:Int).toNat<fuel;unfold fuel;omega)
 ·obtain⟨y,h,i',h1,h2,rfl⟩:=this;exact⟨i',h1,h2,h⟩
 ·rintro x ⟨s,r,h1,h2,h3,rfl⟩;show(∃ x',A7 f (a:Int) (s:Int) (r:Int) l (bs,())=_∧_)∨∃ y,A7 f (a:Int) (s:Int) (r:Int) l (bs,())=_∧_;have hm:IntKind.i64.wrap ((IntKind.u64.wrap (IntKind.i64.wrap ((s:Int)+(r:Int)))).fdiv 2)=(((s+r) / 2:Nat):Int):=OT (by omega);unfold A7;by_cases h:s<r
  ·have hc:(s+r) / 2<r:=by omega
   obtain⟨v,hv⟩:=aD0 (l.getD ((s+r) / 2) 0) (l.getD a 0) bs (hl.get (by omega)) (hl.get ha);simp only [dec_lt h,cond_true,hm,hl.in (i:=(s+r) / 2) (by omega),hl.in (i:=a) ha,Int.toNat_natCast,aN hc (by omega)];rw [hv];left;by_cases hv0:v<0
   ·refine⟨_,aB rfl (bZ (aKO hv0) rfl),⟨(s+r) / 2+1,r,by omega,by omega,h3,rfl⟩,?_⟩;show(r:Int).toNat-((((s+r) / 2+1:Nat):Int)).toNat<(r:Int).toNat-(s:Int).toNat;omega
   ·refine⟨_,aB rfl (cU (aKP hv0) rfl),⟨s,(s+r) / 2,h1,by omega,by omega,rfl⟩,?_⟩;show((((s+r) / 2:Nat):Int)).toNat-(s:Int).toNat<(r:Int).toNat-(s:Int).toNat;omega
  ·simp only [iD (k:=s) (n:=r) (by omega),cond_false];exact .inr ⟨_,rfl,s,h1,by omega,rfl⟩
theorem a1l (hn:n≤1000000000)(m i j:Nat)(hm:m<n)(hij:i≤j)(hj:j≤n)(l:List Int)(hl:Row (At bs) n l) :
  ∃ i':Nat,i≤i'∧i'≤j∧G1 f (((),(m:Int),(),(i:Int),(j:Int),()),l,(bs,()),())=some (.inl (((),(m:Int),(i':Int),()),l,(bs,()),())):=by
 have:=bP (G:=fun x=>uG f x.1.2.1 x.1.2.2.2.1 x.1.2.2.2.2.1 x.2.1 x.2.2.1)
  (fun x=>∃ (s r:Nat),i≤s∧s≤r∧r≤j∧x=(((),(m:Int),(),(s:Int),(r:Int),()),l,(bs,()),())) (fun x=>x.1.2.2.2.2.1.toNat-x.1.2.2.2.1.toNat)
  (fun y=>∃ i':Nat,i≤i'∧i'≤j∧y=.inl (((),(m:Int),(i':Int),()),l,(bs,()),())) ?_ fuel (((),(m:Int),(),(i:Int),(j:Int),()),l,(bs,()),()) ⟨i,j,aKQ _,hij,aKQ _,rfl⟩ (by
   show(j:Int).toNat-(i:Int).toNat<fuel;unfold fuel;omega)
 ·obtain⟨y,h,i',h1,h2,rfl⟩:=this;exact⟨i',h1,h2,h⟩
 ·rintro x ⟨s,r,h1,h2,h3,rfl⟩;show(∃ x',uG f (m:Int) (s:Int) (r:Int) l (bs,())=_∧_)∨∃ y,uG f (m:Int) (s:Int) (r:Int) l (bs,())=_∧_;have hmid:IntKind.i64.wrap ((IntKind.u64.wrap (IntKind.i64.wrap ((s:Int)+(r:Int)))).fdiv 2)=(((s+r) / 2:Nat):Int):=OT (by omega);unfold uG;by_cases h:s<r
  ·have hc:(s+r) / 2<r:=by omega
   obtain⟨v,hv⟩:=aD0 (l.getD m 0) (l.getD ((s+r) / 2) 0) bs (hl.get hm) (hl.get (by omega));simp only [dec_lt h,cond_true,hmid,hl.in (i:=(s+r) / 2) (by omega),hl.in (i:=m) hm,Int.toNat_natCast,aN hc (by omega)];rw [hv];left;by_cases hv0:v<0
   ·refine⟨_,aB rfl (cU (by show(!decide (v<0))=false;rw [aKO hv0];rfl) rfl),⟨s,(s+r) / 2,h1,by omega,by omega,rfl⟩,?_⟩;show((((s+r) / 2:Nat):Int)).toNat-(s:Int).toNat<(r:Int).toNat-(s:Int).toNat;omega
   ·refine⟨_,aB rfl (bZ (by show(!decide (v<0))=true;rw [aKP hv0];rfl) rfl),⟨(s+r) / 2+1,r,by omega,by omega,h3,rfl⟩,?_⟩;show(r:Int).toNat-((((s+r) / 2+1:Nat):Int)).toNat<(r:Int).toNat-(s:Int).toNat;omega
  ·simp only [iD (k:=s) (n:=r) (by omega),cond_false];exact .inr ⟨_,rfl,s,h1,by omega,rfl⟩
theorem a8R (hn:n≤1000000000)(i a:Nat)(hi:1≤i)(hin:i≤n)(l:List Int)(hl:Row (At bs) n l) :
  ∃ l',OE f (((),(i:Int),(a:Int),()),l,(bs,()),())=some (.inl ((),l',(bs,()),()))∧Row (At bs) n l':=by
 have:=bP (G:=fun x=>A8 f x.1.2.1 x.1.2.2.1 x.2.1 x.2.2.1)
  (fun x=>∃ (k:Nat) (m:List Int),Row (At bs) n m∧x=(((),(i:Int),(k:Int),()),m,(bs,()),())) (fun x=>i-x.1.2.2.1.toNat)
  (fun y=>∃ m,Row (At bs) n m∧y=.inl ((),m,(bs,()),())) ?_ fuel (((),(i:Int),(a:Int),()),l,(bs,()),()) ⟨a,l,hl,rfl⟩ (by
   show i-(a:Int).toNat<fuel;unfold fuel;omega)
 ·obtain⟨y,h,m,h1,rfl⟩:=this;exact⟨m,h,h1⟩
 ·rintro x ⟨k,m,hm,rfl⟩;show(∃ x',A8 f (i:Int) (k:Int) m (bs,())=_∧_)∨∃ y,A8 f (i:Int) (k:Int) m (bs,())=_∧_;unfold A8;rw [aN9 (j:=i) (by omega) (by omega)];by_cases h:k<i-1
  ·simp only [dec_lt h,cond_true,aN h (by omega),hm.in (i:=k+1) (by omega),hm.in (i:=k) (by omega),Int.toNat_natCast,aXK];refine .inl ⟨_,rfl,⟨k+1,_,hm.swap (by omega) (by omega),rfl⟩,?_⟩;show i-((k+1:Nat):Int).toNat<i-(k:Int).toNat;omega
  ·simp only [iD (k:=k) (n:=i-1) (by omega),cond_false];exact .inr ⟨_,rfl,m,hm,rfl⟩
theorem a1m (hn:n≤1000000000)(i k0:Nat)(hk0:k0<n)(l:List Int)(hl:Row (At bs) n l) :
  ∃ l',G2 f (((),(i:Int),(k0:Int),()),l,(bs,()),())=some (.inl ((),l',(bs,()),()))∧Row (At bs) n l':=by
 have:=bP (G:=fun x=>uH f x.1.2.1 x.1.2.2.1 x.2.1 x.2.2.1)
  (fun x=>∃ (k:Nat) (m:List Int),k<n∧Row (At bs) n m∧x=(((),(i:Int),(k:Int),()),m,(bs,()),())) (fun x=>x.1.2.2.1.toNat)
  (fun y=>∃ m,Row (At bs) n m∧y=.inl ((),m,(bs,()),())) ?_ fuel (((),(i:Int),(k0:Int),()),l,(bs,()),()) ⟨k0,l,hk0,hl,rfl⟩ (by
   show(k0:Int).toNat<fuel;unfold fuel;omega)
 ·obtain⟨y,h,m,h1,rfl⟩:=this;exact⟨m,h,h1⟩
 ·rintro x ⟨k,m,hk,hm,rfl⟩;show(∃ x',uH f (i:Int) (k:Int) m (bs,())=_∧_)∨∃ y,uH f (i:Int) (k:Int) m (bs,())=_∧_;unfold uH;by_cases h:i<k
  ·simp only [show decide ((k:Int)>(i:Int))=true from dec_lt h,cond_true,aN9 (j:=k) (by omega) (by omega),hm.in (i:=k-1) (by omega),hm.in (i:=k) hk,Int.toNat_natCast,aXK];refine .inl ⟨_,rfl,⟨k-1,_,by omega,hm.swap hk (by omega),rfl⟩,?_⟩;show((k-1:Nat):Int).toNat<(k:Int).toNat;omega
  ·simp only [show decide ((k:Int)>(i:Int))=false from iD (by omega),cond_false];exact .inr ⟨_,rfl,m,hm,rfl⟩
theorem aOb (hn:n≤1000000000)(a m b mid N st0 r0 p:Nat)(hsr:st0≤r0)(hr:r0≤n)(hp1:r0≤p+1)(hp2:p<n+st0)(hp3:p≤2000000000)(l:List Int)(hl:Row (At bs) n l) :
  ∃ st:Nat,st0≤st∧st≤r0∧yV f (((),(a:Int),(m:Int),(b:Int),(),(mid:Int),(N:Int),(st0:Int),(r0:Int),(p:Int),()),l,(bs,()),())=some (.inl (((),(a:Int),(m:Int),(b:Int),(),(mid:Int),(N:Int),(st:Int),()),l,(bs,()),())):=by
 have:=bP (G:=fun x=>uI f x.1.2.1 x.1.2.2.1 x.1.2.2.2.1 x.1.2.2.2.2.2.1 x.1.2.2.2.2.2.2.1 x.1.2.2.2.2.2.2.2.1 x.1.2.2.2.2.2.2.2.2.1 x.1.2.2.2.2.2.2.2.2.2.1 x.2.1 x.2.2.1)
  (fun x=>∃ (s r:Nat),st0≤s∧s≤r∧r≤r0∧x=(((),(a:Int),(m:Int),(b:Int),(),(mid:Int),(N:Int),(s:Int),(r:Int),(p:Int),()),l,(bs,()),())) (fun x=>x.1.2.2.2.2.2.2.2.2.1.toNat-x.1.2.2.2.2.2.2.2.1.toNat)
  (fun y=>∃ st:Nat,st0≤st∧st≤r0∧y=.inl (((),(a:Int),(m:Int),(b:Int),(),(mid:Int),(N:Int),(st:Int),()),l,(bs,()),())) ?_ fuel (((),(a:Int),(m:Int),(b:Int),(),(mid:Int),(N:Int),(st0:Int),(r0:Int),(p:Int),()),l,(bs,()),()) ⟨st0,r0,aKQ _,hsr,aKQ _,rfl⟩ (by
   show(r0:Int).toNat-(st0:Int).toNat<fuel;unfold fuel;omega)
 ·obtain⟨y,h,st,h1,h2,rfl⟩:=this;exact⟨st,h1,h2,h⟩
 ·rintro x ⟨s,r,h1,h2,h3,rfl⟩;show(∃ x',uI f (a:Int) (m:Int) (b:Int) (mid:Int) (N:Int) (s:Int) (r:Int) (p:Int) l (bs,())=_∧_)∨∃ y,uI f (a:Int) (m:Int) (b:Int) (mid:Int) (N:Int) (s:Int) (r:Int) (p:Int) l (bs,())=_∧_;have hmid:IntKind.i64.wrap ((IntKind.u64.wrap (IntKind.i64.wrap ((s:Int)+(r:Int)))).fdiv 2)=(((s+r) / 2:Nat):Int):=OT (by omega);unfold uI;by_cases h:s<r
  ·have hc:(s+r) / 2<r:=by omega
   have hpc:IntKind.i64.wrap ((p:Int)-(((s+r) / 2:Nat):Int))=((p-(s+r) / 2:Nat):Int):=M9 (by omega) (by omega);obtain⟨v,hv⟩:=aD0 (l.getD (p-(s+r) / 2) 0) (l.getD ((s+r) / 2) 0) bs (hl.get (by omega)) (hl.get (by omega));simp only [dec_lt h,cond_true,hmid,hpc,hl.in (i:=(s+r) / 2) (by omega),hl.in (i:=p-(s+r) / 2) (by omega),Int.toNat_natCast,aN hc (by omega)];rw [hv];left;by_cases hv0:v<0
   ·refine⟨_,aB rfl (cU (by show(!decide (v<0))=false;rw [aKO hv0];rfl) rfl),⟨s,(s+r) / 2,h1,by omega,by omega,rfl⟩,?_⟩;show((((s+r) / 2:Nat):Int)).toNat-(s:Int).toNat<(r:Int).toNat-(s:Int).toNat;omega
   ·refine⟨_,aB rfl (bZ (by show(!decide (v<0))=true;rw [aKP hv0];rfl) rfl),⟨(s+r) / 2+1,r,by omega,by omega,h3,rfl⟩,?_⟩;show(r:Int).toNat-((((s+r) / 2+1:Nat):Int)).toNat<(r:Int).toNat-(s:Int).toNat;omega
  ·simp only [iD (k:=s) (n:=r) (by omega),cond_false];exact .inr ⟨_,rfl,s,h1,by omega,rfl⟩
end
section
variable {bs:List Box}{n:Nat}
theorem aXp (hn:n≤1000000000):∀ (d a m b:Nat) (l:List Int),a<m→m<b→b≤n→b≤a+2^d→Row (At bs) n l→aD1 bs n (j5 d (a:Int) (m:Int) (b:Int) l (bs,()))
 | 0,a,m,b,l,h1,h2,h3,h4,hl=>by
  rw [Nat.pow_zero] at h4;omega
 | d+1,a,m,b,l,h1,h2,h3,h4,hl=>by
  have hp:2^(d+1)=2^d*2:=Nat.pow_succ _ _;show aD1 bs n (aDr (j5 d) (a:Int) (m:Int) (b:Int) l (bs,()));unfold aDr;rw [M9 (a:=m) (b:=a) (by omega) (by omega),M9 (a:=b) (b:=m) (by omega) (by omega)];by_cases c1:m-a=1
  ·have:((((m-a:Nat):Int))==(1:Int))=true:=by rw [c1];rfl
   rw [this,cond_true];obtain⟨i,i1,i2,e1⟩:=a8Q (f:=j5 d) hn a m b (by omega) (by omega) h3 l hl;obtain⟨l',e2,hl'⟩:=a8R (f:=j5 d) hn i a (by omega) (by omega) l hl;exact⟨l',aB e1 (aB e2 rfl),hl'⟩
  ·have c1':((((m-a:Nat):Int))==(1:Int))=false:=by
    rw [beq_eq_false_iff_ne];omega
   rw [c1',cond_false];by_cases c2:b-m=1
   ·have:((((b-m:Nat):Int))==(1:Int))=true:=by rw [c2];rfl
    rw [this,cond_true];obtain⟨i,i1,i2,e1⟩:=a1l (f:=j5 d) hn m a m (by omega) (by omega) (by omega) l hl;obtain⟨l',e2,hl'⟩:=a1m (f:=j5 d) hn i m (by omega) l hl;exact⟨l',aB e1 (aB e2 rfl),hl'⟩
   ·have c2':((((b-m:Nat):Int))==(1:Int))=false:=by
     rw [beq_eq_false_iff_ne];omega
    rw [c2',cond_false,OT (a:=a) (b:=b) (by omega),X0 (a:=(a+b) / 2) (b:=m) (by omega),aN9 (j:=(a+b) / 2+m) (by omega) (by omega)];generalize hmid:(a+b) / 2=mid;have m1:a<mid:=by omega
    have m2:mid<b:=by omega
    have sC:∀ (en:Nat) (k:List Int),en≤b→Row (At bs) n k→aD1 bs n (aWd (j5 d) (mid:Int) (en:Int) (b:Int) k bs):=fun en k hen hk=>by
     unfold aWd;by_cases k1:mid<en
     ·by_cases k2:en<b
      ·obtain⟨k',e,hk'⟩:=aXp hn d mid en b k k1 k2 h3 (by omega) hk;exact⟨k',bZ (dec_lt k1) (bZ (dec_lt k2) (aB e rfl)),hk'⟩
      ·exact⟨k,bZ (dec_lt k1) (cU (iD (by omega)) rfl),hk⟩
     ·exact⟨k,cU (iD (by omega)) rfl,hk⟩
    have sB:∀ (st en:Nat) (k:List Int),en≤b→Row (At bs) n k→aD1 bs n (aWe (j5 d) (a:Int) (st:Int) (mid:Int) (en:Int) (b:Int) k bs):=fun st en k hen hk=>by
     unfold aWe;by_cases k1:a<st
     ·by_cases k2:st<mid
      ·obtain⟨k',e,hk'⟩:=aXp hn d a st mid k k1 k2 (by omega) (by omega) hk;obtain⟨k2',e2,a8S⟩:=sC en k' hen hk';exact⟨k2',bZ (dec_lt k1) (bZ (dec_lt k2) (aB e e2)),a8S⟩
      ·obtain⟨k',e,hk'⟩:=sC en k hen hk;exact⟨k',bZ (dec_lt k1) (cU (iD (by omega)) e),hk'⟩
     ·obtain⟨k',e,hk'⟩:=sC en k hen hk;exact⟨k',cU (iD (by omega)) e,hk'⟩
    have sA:∀ (st:Nat) (k:List Int),st≤mid+m→mid+m-st≤b→Row (At bs) n k→aD1 bs n (a7T (j5 d) (a:Int) (m:Int) (b:Int) (mid:Int) ((mid+m:Nat):Int) (st:Int) k bs):=fun st k hst hen hk=>by
     unfold a7T;rw [M9 (a:=mid+m) (b:=st) hst (by omega)];by_cases k1:st<m
     ·by_cases k2:m<mid+m-st
      ·obtain⟨k',e,hk'⟩:=bDR hn st m (mid+m-st) k1 k2 (by omega) k hk;obtain⟨k2',e2,a8S⟩:=sB st (mid+m-st) k' hen hk';exact⟨k2',bZ (dec_lt k1) (bZ (dec_lt k2) (aB e e2)),a8S⟩
      ·obtain⟨k',e,hk'⟩:=sB st (mid+m-st) k hen hk;exact⟨k',bZ (dec_lt k1) (cU (iD (by omega)) e),hk'⟩
     ·obtain⟨k',e,hk'⟩:=sB st (mid+m-st) k hen hk;exact⟨k',cU (iD (by omega)) e,hk'⟩
    by_cases c3:mid<m
    ·rw [show decide ((m:Int)>(mid:Int))=true from dec_lt c3,cond_true,M9 (a:=mid+m) (b:=b) (by omega) (by omega)];obtain⟨st,s1,s2,e1⟩:=aOb (f:=j5 d) hn a m b mid (mid+m) (mid+m-b) mid (mid+m-1) (by omega) (by omega) (by omega) (by omega) (by omega) l hl;obtain⟨k',e2,hk'⟩:=sA st l (by omega) (by omega) hl;exact⟨k',aB e1 e2,hk'⟩
    ·rw [show decide ((m:Int)>(mid:Int))=false from iD (by omega),cond_false];obtain⟨st,s1,s2,e1⟩:=aOb (f:=j5 d) hn a m b mid (mid+m) a m (mid+m-1) (by omega) (by omega) (by omega) (by omega) (by omega) l hl;obtain⟨k',e2,hk'⟩:=sA st l (by omega) (by omega) hl;exact⟨k',aB e1 e2,hk'⟩
end
end Go.DI.S
