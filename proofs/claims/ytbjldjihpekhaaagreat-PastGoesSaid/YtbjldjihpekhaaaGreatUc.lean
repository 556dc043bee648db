import Derived.Test.YtbjldjihpekhaaaGreatKa
import Derived.Test.YtbjldjihpekhaaaGreatDie
/- What scene.Right comes to, plain; few things. No conditions. -/
set_option linter.unusedSimpArgs false
set_option linter.unusedVariables false
set_option maxRecDepth 100000
set_option maxHeartbeats 0
noncomputable section
namespace Go.DI.S
open Go.Proofs
abbrev lK {α:Type}(a:Option α):Prop:=∃ y,a=some y
theorem aO {α:Type}(x:α):lK (some x):=⟨x,rfl⟩
theorem bH {α:Type}{c:Bool}{a b:Option α}(h:lK a)(k:lK b):lK (bif c then a else b):=by
 cases c
 ·exact k
 ·exact h
theorem bV {α β:Type}{a:Option α}{f:α→Option β}(h:lK a)(k:∀ x,lK (f x)):lK (a.bind f):=by
 obtain⟨x,rfl⟩:=h;exact k x
def ofB (a:Option (aS [.bool])):Bool:=match a with
 | some b=>b.1
 | none=>false
theorem aJd {a:Option (aS [.bool])}(h:lK a):a=some (ofB a,()):=by
 obtain⟨⟨b,u⟩,rfl⟩:=h;rfl
theorem bB {α:Type}{l:List α}{k:Nat}{a d:α}(h:l[k]?=some a):l.getD (Int.toNat (k:Int)) d=a:=by
 rw [Int.toNat_natCast,aQj,h];rfl
theorem dF {α:Type}{l:List α}{k:Nat}{a:α}(h:l[k]?=some a):k<l.length:=(aK2.1 h).1
theorem dec_lt {k n:Nat}(h:k<n):decide ((k:Int)<(n:Int))=true:=aKO (by omega)
theorem bI {k n:Nat}(h:k<n):decide ((0:Int)≤(k:Int)∧(k:Int)<(n:Int))=true:=aKO (by omega)
theorem bA {n:Nat}:decide ((n:Int)<(n:Int))=false:=aKP (by omega)
theorem aN {k n:Nat}(h:k<n)(hn:n≤4611686018427387904):IntKind.i64.wrap ((k:Int)+1)=((k+1:Nat):Int):=by
 rw [wrap64 (by omega) (by omega)];omega
theorem bBl (a):lK (FF a):=by
 unfold FF
 repeat' first | exact aO _ | refine bH ?_ ?_
theorem bGt (a):lK (aIV a):=by
 unfold aIV
 repeat' first | exact aO _ | refine bH ?_ ?_
theorem bBm (a):lK (YZ a):=by
 unfold YZ
 repeat' first | exact aO _ | refine bH ?_ ?_
theorem a2r (a b c):lK (jG a b c):=by
 unfold jG
 repeat' first | exact aO _ | refine bH ?_ ?_
theorem bBn (a b):lK (dW a b):=by
 unfold dW
 repeat' first | exact aO _ | exact a2r _ _ _ | refine bH ?_ ?_ | refine bV ?_ (fun _=>?_)
theorem aY1 (a):lK (l5 a):=by
 unfold l5
 repeat' first | exact aO _ | exact bBm _ | exact a2r _ _ _ | exact bBn _ _ | refine bH ?_ ?_ | refine bV ?_ (fun _=>?_)
theorem a2s (a):lK (FH a):=by
 unfold FH
 repeat' first | exact aO _ | refine bH ?_ ?_
theorem aS5 {α σ X Y:Type}{G:X→Option (X⊕Y)}(l:List α)(mk:Nat→σ→X)(hs:∀ k a s,l[k]?=some a→∃ r,G (mk k s)=some r∧∀ x,r=.inl x→∃ s',x=mk (k+1) s')(he:∀ s,∃ y,G (mk l.length s)=some (.inr y))(hl:l.length<fuel)(s:σ):lK (aH G fuel (mk 0 s)):=by
 have:=bP (G:=G) (fun x=>∃ k s,k≤l.length∧x=mk k s) (fun x=>0) (fun _=>True)
 suffices h:∀ (d m k:Nat) (s:σ),k+d=l.length→d<m→lK (aH G m (mk k s)) from h l.length fuel 0 s (by omega) hl
 intro d
 induction d with
 | zero=>
  intro m k s hk hm;obtain⟨m,rfl⟩:∃ j,m=j+1:=⟨m-1,by omega⟩;have:k=l.length:=by omega
  subst this;obtain⟨y,hy⟩:=he s;exact⟨y,bM hy m⟩
 | succ d ih=>
  intro m k s hk hm;obtain⟨m,rfl⟩:∃ j,m=j+1:=⟨m-1,by omega⟩;obtain⟨r,hr,hx⟩:=hs k _ s (aJS (by omega));cases r with
  | inl x=>
   obtain⟨s',rfl⟩:=hx x rfl;rw [lK,bT hr];exact ih m (k+1) s' (by omega) (by omega)
  | inr y=>exact⟨y,bM hr m⟩
theorem fuel_lt {n:Nat}(h:n≤1000000000):n<fuel:=by unfold fuel;omega
theorem bGu (t:Thing)(h:t.2.2.2.2.length≤1000000000):lK (XH t):=by
 unfold XH;refine bV ?_ fun y=>?_
 ·refine aS5 (σ:=Int×Thing) t.2.2.2.2 (fun k s=>(((),s.1,t.2.2.2.2,(t.2.2.2.2.length:Int),(k:Int),()),(s.2,()),())) (fun k a s ha=>?_) (fun s=>?_) (fuel_lt h) (0,t)
  ·have hk:=dF ha;simp only [jY,dec_lt hk,bI hk,cond_true,bB ha,aN hk (by omega)];obtain⟨b,hb⟩:=bBl a;rw [hb];simp only [aEk];cases decide (a≤s.1) with
   | true=>exact⟨_,rfl,fun x hx=>by cases hx⟩
   | false=>
    simp only [cond_false];cases (!b.1) with
    | true=>exact⟨_,rfl,fun x hx=>by cases hx⟩
    | false=>
     simp only [cond_false];cases (a==s.2.1) with
     | true=>exact⟨_,rfl,fun x hx=>by cases hx⟩
     | false=>exact⟨_,rfl,fun x hx=>by cases hx;exact⟨(a,s.2),rfl⟩⟩
  ·simp only [jY,bA,cond_false];exact⟨_,rfl⟩
 ·cases y with
  | inl y=>exact bH (aO _) (aO _)
  | inr y=>exact aO _
theorem bGv (t:Thing)(h:t.2.2.2.2.length≤1000000000):lK (BW t):=by
 unfold BW
 repeat' first | exact aO _ | exact bBl _ | exact bGt _ | exact aY1 _ | exact bGu _ h | refine bH ?_ ?_ | refine bV ?_ (fun _=>?_)
theorem iJ {α X Y:Type}{G:X→Option (X⊕Y)}(l:List α)(p:α→Bool)(mk:Nat→X)(hit:Nat→Y)(out:Y)(hs:∀ k a,l[k]?=some a→G (mk k)=some (if p a then .inr (hit k) else .inl (mk (k+1))))
  (he:G (mk l.length)=some (.inr out)) {m:Nat} (hm:l.length<m):aH G m (mk 0)=some (match l.findIdx? p with | some k=>hit k | none=>out):=by
 suffices h:∀ (d m k:Nat),k+d=l.length→d<m→aH G m (mk k)=some (match (l.drop k).findIdx? p with | some j=>hit (k+j) | none=>out) by
  have:=h l.length m 0 (by omega) hm;simpa using this
 intro d
 induction d with
 | zero=>
  intro m k hk hm;obtain⟨m,rfl⟩:∃ j,m=j+1:=⟨m-1,by omega⟩;have:k=l.length:=by omega
  subst this;rw [bM he,List.drop_length];rfl
 | succ d ih=>
  intro m k hk hm;obtain⟨m,rfl⟩:∃ j,m=j+1:=⟨m-1,by omega⟩;have hlt:k<l.length:=by omega
  have h1:=hs k _ (aJS hlt);rw [aZw hlt,List.findIdx?_cons];cases hp:p l[k] with
  | true=>
   rw [hp] at h1;simp only [if_true] at h1 ⊢;rw [bM h1];rfl
  | false=>
   rw [hp] at h1;simp only [aZC,if_false] at h1 ⊢;rw [bT h1,ih m (k+1) (by omega) (by omega)];cases (l.drop (k+1)).findIdx? p with
   | none=>rfl
   | some j=>simp only [Option.map_some];congr 2;omega
def aT (t:Thing):Int:=t.1
theorem a2t (a:Int):aLK a=some ((false,()):aS [.bool]):=by
 have h:(a != a)=false:=by simp
 show some ((a != a,()):aS [.bool])=_;rw [h]
theorem a49 (a b:Int):aBC a b=some (((if a<b then(-1:Int) else if a>b then 1 else 0),()):aS [I]):=by
 unfold aBC;rw [a2t,a2t];simp only [aEk,cond_false];by_cases h1:a<b
 ·simp [h1]
 ·by_cases h2:a>b
  ·simp [h1,h2]
  ·simp [h1,h2]
theorem bBo (t:Thing)(i:Int):aYK t i=some (((if aT t<i then(-1:Int) else if aT t>i then 1 else 0),()):aS [I]):=by
 show(aBC (aT t) i).bind _=_;rw [a49];rfl
def EN (l:List Thing):Prop:=∀ (i j:Nat) (a b:Thing),i<j→l[i]?=some a→l[j]?=some b→aT a<aT b
def Place (l:List Thing)(id:Int)(i:Nat):Prop:=i≤l.length∧(EN l→(∀ (k:Nat) (t:Thing),k<i→l[k]?=some t→aT t<id)∧∀ (k:Nat) (t:Thing),i≤k→l[k]?=some t→id≤aT t)
theorem half {i j:Nat}(h:i+j≤4611686018427387904):IntKind.i64.wrap ((IntKind.u64.wrap (IntKind.i64.wrap ((i:Int)+j))).fdiv 2)=(((i+j) / 2:Nat):Int):=by
 rw [wrap64 (x:=(i:Int)+j) (by omega) (by omega),IntWalk.u64_in _ (by omega)];rw [a9r _ (by omega),wrap64 (by omega) (by omega)];omega
theorem bGw (l:List Thing)(id:Int)(hl:l.length≤1000000000):∃ i:Nat,aI2 ((l,id,(),(l.length:Int),(0:Int),(l.length:Int),()),())=some (.inl ((l,id,(),(l.length:Int),(i:Int),()),()))∧Place l id i:=by
 have:=bP (G:=fun x=>QL x.1.1 x.1.2.1 x.1.2.2.1 x.1.2.2.2.1 x.1.2.2.2.2.1 x.1.2.2.2.2.2.1)
  (fun x=>∃ i j:Nat,i≤j∧j≤l.length∧x=((l,id,(),(l.length:Int),(i:Int),(j:Int),()),())∧(EN l→(∀ (k:Nat) (t:Thing),k<i→l[k]?=some t→aT t<id)∧∀ (k:Nat) (t:Thing),j≤k→l[k]?=some t→id≤aT t))
  (fun x=>(x.1.2.2.2.2.2.1-x.1.2.2.2.2.1).toNat) (fun y=>∃ i:Nat,y=.inl ((l,id,(),(l.length:Int),(i:Int),()),())∧Place l id i) ?_ fuel ((l,id,(),(l.length:Int),(0:Int),(l.length:Int),()),()) ⟨0,l.length,by omega,by omega,rfl,fun _=>⟨fun k t hk=>by omega,fun k t hk ht=>by
   have:=dF ht;omega⟩⟩ (by
    show((l.length:Int)-0).toNat<fuel;have:=fuel_lt hl;omega)
 ·obtain⟨y,h1,i,rfl,h2⟩:=this;exact⟨i,h1,h2⟩
 ·rintro x ⟨i,j,hij,hj,rfl,hp⟩;by_cases h:i<j
  ·have hm:(i+j) / 2<l.length:=by omega
   have ha:=aJS hm;simp only [QL,dec_lt h,cond_true,half (i:=i) (j:=j) (by omega),bI hm,bB ha,bBo,aEk];left;by_cases hc:aT l[(i+j) / 2]<id
   ·refine⟨((l,id,(),(l.length:Int),(((i+j) / 2+1:Nat):Int),(j:Int),()),()),?_,⟨(i+j) / 2+1,j,by omega,hj,rfl,fun hA=>⟨fun k t hk ht=>?_,(hp hA).2⟩⟩,?_⟩
    ·rw [aJb hc,aN hm (by omega)];rfl
    ·rcases Nat.lt_or_ge k ((i+j) / 2) with h3 | h3
     ·have:=hA k _ t _ h3 ht ha;omega
     ·have:k=(i+j) / 2:=by omega
      subst this;rw [ha] at ht;cases ht;exact hc
    ·show((j:Int)-(((i+j) / 2+1:Nat):Int)).toNat<((j:Int)-(i:Int)).toNat;omega
   ·refine⟨((l,id,(),(l.length:Int),(i:Int),(((i+j) / 2:Nat):Int),()),()),?_,⟨i,(i+j) / 2,by omega,by omega,rfl,fun hA=>⟨(hp hA).1,fun k t hk ht=>?_⟩⟩,?_⟩
    ·rw [aJn hc];by_cases h4:aT l[(i+j) / 2]>id
     ·rw [aJb h4];rfl
     ·rw [aJn h4];rfl
    ·rcases Nat.lt_or_ge ((i+j) / 2) k with h3 | h3
     ·have:=hA _ k _ t h3 ha ht;omega
     ·have:k=(i+j) / 2:=by omega
      subst this;rw [ha] at ht;cases ht;omega
    ·show((((i+j) / 2:Nat):Int)-(i:Int)).toNat<((j:Int)-(i:Int)).toNat;omega
  ·have:i=j:=by omega
   subst this;right;simp only [QL,bA,cond_false];exact⟨_,rfl,i,rfl,hj,fun hA=>hp hA⟩
theorem bGx (l:List Thing)(id:Int)(hl:l.length≤1000000000):∃ (i:Nat) (b:Bool),aSq l id ()=some (((i:Int),b,()):aS [I,.bool])∧Place l id i∧(b=true↔∃ t,l[i]?=some t∧aT t=id):=by
 obtain⟨i,h1,h2⟩:=bGw l id hl;unfold aSq;rw [h1];simp only [aEk,aQM];by_cases h:i<l.length
 ·have ha:=aJS h;simp only [dec_lt h,cond_true,bI h,bB ha,bBo,aEk];refine⟨i,_,rfl,h2,?_⟩;rw [ha];by_cases h3:aT l[i]<id
  ·simp [h3];omega
  ·by_cases h4:aT l[i]>id
   ·simp [h3,h4];omega
   ·simp [h3,h4];omega
 ·have hi:i=l.length:=by have:=h2.1;omega
  subst hi;simp only [bA,cond_false];refine⟨_,_,rfl,h2,?_⟩;simp
theorem aY2 (s:aZ)(id:Int)(hl:s.2.2.length≤1000000000):∃ (i:Nat) (b:Bool),aFn s id=some (((i:Int),b,()):aS [I,.bool])∧Place s.2.2 id i∧(b=true↔∃ t,s.2.2[i]?=some t∧aT t=id):=by
 obtain⟨i,b,h1,h2,h3⟩:=bGx s.2.2 id hl;refine⟨i,b,?_,h2,h3⟩;unfold aFn;rw [h1];rfl
theorem aPj (l:List Int)(h:l.length≤1000000000):QX l=some ((l,()):aS [.list I]):=by
 unfold QX aPa;rw [show Nat.ble (l.length*8) 70368744177664=true from aPp (by omega)];rfl
theorem bGy (t:Thing)(id:Int):a4z t id=some ((aT t==id,()):aS [.bool]):=rfl
def idx (l:List Thing)(id:Int):Option Nat:=l.findIdx? (fun t=>aT t==id)
theorem bBp (l:List Thing)(id:Int)(hl:l.length≤1000000000):aFr l (id,())=some (((match idx l id with | some k=>(k:Int) | none=>-1),()):aS [I]):=by
 unfold aFr aBF;have:=iJ (G:=fun x=>FI x.1.1 x.1.2.1 x.1.2.2.1 x.1.2.2.2.1) l (fun t=>aT t==id) (fun k=>((l,(id,()),(l.length:Int),(k:Int),()),())) (fun k=>.inr (((k:Int),()),())) (.inl ((),())) (fun k a ha=>?_) ?_ (fuel_lt hl)
 ·rw [show(0:Int)=((0:Nat):Int) from rfl,this];unfold idx;cases l.findIdx? (fun t=>aT t==id) <;> rfl
 ·have hk:=dF ha;simp only [FI,dec_lt hk,bI hk,cond_true,bB ha,bGy,aEk,aN hk (by omega)];cases (aT a==id) <;> rfl
 ·simp only [FI,bA,cond_false]
def cO:Thing:=((0:Int),(0:Int),((0:Int),((0:Int),(0:Int)),(0:Int),((0:Int),(0:Int)),(0:Int),(0:Int)),((0:Int),(0:Int),(0:Int)),[])
def bW (l:List Thing)(id:Int):Thing×Bool:=match idx l id with
 | some k=>((l[k]?).getD cO,true)
 | none=>(cO,false)
theorem rN {l:List Thing}{id:Int}{k:Nat}(h:idx l id=some k):∃ t,l[k]?=some t∧aT t=id:=by
 unfold idx at h;rw [List.findIdx?_eq_some_iff_getElem] at h;obtain⟨h1,h2,_⟩:=h;exact⟨l[k],aJS h1,by simpa using h2⟩
theorem yA (s:aZ)(id:Int)(hl:s.2.2.length≤1000000000)(hi:∀ t∈s.2.2,t.2.2.2.2.length≤1000000000):rM s id=some (((bW s.2.2 id).1,(bW s.2.2 id).2,()):aS [aA,.bool]):=by
 unfold rM;rw [bBp s.2.2 id hl];simp only [aEk];unfold bW;cases hx:idx s.2.2 id with
 | none=>rfl
 | some k=>
  obtain⟨t,ht,_⟩:=rN hx;have hk:=dF ht;simp only [bI hk,cond_true,bB ht,ht,a0f];rw [show decide ((k:Int)<0)=false from aKP (by omega),cond_false];rw [aPj _ (hi t (aPl ht))];rfl
theorem Y5:fuel=18446744073709551615+1:=rfl
theorem sP {α X Y:Type}{G:X→Option (X⊕Y)}(l:List α)(q:α→Bool)(mk:Nat→X)(no out:Y)(hs:∀ k a,l[k]?=some a→G (mk k)=some (if q a then .inl (mk (k+1)) else .inr no))
  (he:G (mk l.length)=some (.inr out)) {m:Nat} (hm:l.length<m):aH G m (mk 0)=some (if l.all q then out else no):=by
 have h:=iJ (G:=G) l (fun a=>!q a) mk (fun _=>no) out (fun k a ha=>by
  rw [hs k a ha];cases q a <;> rfl) he hm
 rw [h];congr 1;cases hx:l.findIdx? (fun a=>!q a) with
 | none=>
  rw [a9z] at hx;have:l.all q=true:=aQ6.2 fun x hx'=>by simpa using hx x hx'
  rw [aJb this]
 | some k=>
  rw [List.findIdx?_eq_some_iff_getElem] at hx;obtain⟨h1,h2,_⟩:=hx;have:¬l.all q=true:=fun h3=>by
   have:=aQ6.1 h3 _ (aXB h1);rw [this] at h2;cases h2
  rw [aJn this]
def eS {α σ:Type}(step:σ→α→Option σ):List α→σ→Option σ
 | [],s=>some s
 | a :: l,s=>match step s a with
  | some s'=>eS step l s'
  | none=>none
theorem sQ {α σ X Y:Type}{G:X→Option (X⊕Y)}(l:List α)(step:σ→α→Option σ)(mk:Nat→σ→X)(no:Y)(out:σ→Y)
  (hs:∀ k a s,l[k]?=some a→G (mk k s)=some (match step s a with | some s'=>.inl (mk (k+1) s') | none=>.inr no))
  (he:∀ s,G (mk l.length s)=some (.inr (out s))) {m:Nat} (hm:l.length<m) (s:σ):aH G m (mk 0 s)=some (match eS step l s with | some s'=>out s' | none=>no):=by
 have h:=aE8 (G:=G) (l:=l) (mk:=mk) (step:=fun s a=>match step s a with | some s'=>.inl s' | none=>.inr no) (fin:=out) (s:=s) hm (fun k a s ha=>by
  rw [hs k a s ha];cases step s a <;> rfl) he
 rw [h];congr 1;clear h hm he hs
 induction l generalizing s with
 | nil=>rfl
 | cons a l ih=>
  simp only [scan,eS];cases step s a with
  | some s'=>exact ih s'
  | none=>rfl
def m0 (g:fW):Bool:=(decide (g.1≥(-4294967296000:Int))&&decide (g.1≤(4294967296000:Int)))&&(decide (g.2≥(-4294967296000:Int))&&decide (g.2≤(4294967296000:Int)))
theorem a2u (a:Int):FH a=some ((decide (a≥(-4294967296000:Int))&&decide (a≤(4294967296000:Int)),()):aS [.bool]):=by
 unfold FH;cases decide (a≥(-4294967296000:Int)) <;> rfl
theorem a5a (g:fW):rL (g,[],[])=some ((m0 g,()):aS [.bool]):=by
 have h1:QF (((),([]:List Body),((List.length ([]:List Body):Nat):Int),(0:Int),()),(((g,[],[]):dQ),()),())=some (.inl (((),()),(((g,[],[]):dQ),()),())):=by
  unfold QF;rw [Y5];exact bM rfl _
 have h2:aEp (((),([]:List iF),((List.length ([]:List iF):Nat):Int),(0:Int),()),(((g,[],[]):dQ),()),())=some (.inl (((),()),(((g,[],[]):dQ),()),())):=by
  unfold aEp;rw [Y5];exact bM rfl _
 have h3:rL (g,[],[])=(FH g.1).bind fun v5=>bif v5.1 then(FH g.2).bind fun v7=>some (v7.1,()) else some (false,()):=by
  unfold rL;simp only [h1,h2,aEk,aQM]
 rw [h3,a2u,a2u];unfold m0;simp only [aEk];cases (decide (g.1≥(-4294967296000:Int))&&decide (g.1≤(4294967296000:Int))) <;> rfl
def Small (l:List Thing):Prop:=l.length≤1000000000∧∀ t∈l,t.2.2.2.2.length≤1000000000
def rt (t:Thing):Bool:=ofB (BW t)
theorem XK (t:Thing)(h:t.2.2.2.2.length≤1000000000):BW t=some ((rt t,()):aS [.bool]):=aJd (bGv t h)
def gP (next:Int)(a:Int)(t:Thing):Option Int:=bif !rt t then none else bif decide (aT t≤a) then none else bif decide (aT t≥next) then none else some (aT t)
def rO (s:aZ):Bool:=(eS (gP s.2.1) s.2.2 0).isSome&&(decide ((s.2.2.length:Int)≤40)&&(decide (s.2.1≥(1:Int))&&(decide (s.2.1≤(1000001:Int))&&m0 s.1)))
theorem bGz (s:aZ)(hs:Small s.2.2):aSk s=some ((rO s,()):aS [.bool]):=by
 have h:=sQ (G:=fun x=>QH x.1.2.1 x.1.2.2.1 x.1.2.2.2.1 x.1.2.2.2.2.1 x.2.1) (m:=fuel) s.2.2 (gP s.2.1) (fun k a=>(((),a,s.2.2,(s.2.2.length:Int),(k:Int),()),(s,()),())) (.inr ((false,()),())) (fun a=>.inl (((),()),(s,()),()))
  (fun k t a ha=>?_) (fun a=>?_) (fuel_lt hs.1) 0
 ·unfold aSk aIY rO;rw [show(0:Int)=((0:Nat):Int) from rfl] at h ⊢;rw [h];cases eS (gP s.2.1) s.2.2 ((0:Nat):Int) with
  | none=>rfl
  | some a=>
   show(bif decide ((s.2.2.length:Int)≤40) then _ else _)=_;cases decide ((s.2.2.length:Int)≤40) with
   | false=>rfl
   | true=>
    show(bif decide (s.2.1≥(1:Int)) then _ else _)=some ((decide (s.2.1≥(1:Int))&&_,()):aS [.bool]);cases decide (s.2.1≥(1:Int)) with
    | false=>rfl
    | true=>
     show(bif decide (s.2.1≤(1000001:Int)) then _ else _)=some ((decide (s.2.1≤(1000001:Int))&&_,()):aS [.bool]);cases decide (s.2.1≤(1000001:Int)) with
     | false=>rfl
     | true=>
      show(rL (s.1,[],[])).bind _=_;rw [a5a];rfl
 ·have hk:=dF ha;simp only [QH,dec_lt hk,bI hk,cond_true,bB ha,aN hk (by have:=hs.1;omega)];rw [XK t (hs.2 t (aPl ha))];unfold gP;show(bif !rt t then _ else(bif decide (aT t≤a) then _ else(bif decide (aT t≥s.2.1) then _ else _)))=_;cases rt t with
  | false=>rfl
  | true=>
   cases decide (aT t≤a) with
   | true=>rfl
   | false=>cases decide (aT t≥s.2.1) <;> rfl
 ·simp only [QH,bA,cond_false]
def hasB (s:aZ)(n:Int):Bool:=match aFn s n with
 | some x=>x.2.1
 | none=>false
theorem a2v (s:aZ)(n:Int)(hs:Small s.2.2):∃ i,aFn s n=some ((i,hasB s n,()):aS [I,.bool]):=by
 obtain⟨i,b,h1,_,_⟩:=aY2 s n hs.1;refine⟨i,?_⟩;unfold hasB;rw [h1]
theorem aY3 (s:aZ)(hs:Small s.2.2)(L:List Thing)(n k:Int)(l:List Int)(hl:l.length≤1000000000) :
  NS (((),L,n,k,l,(l.length:Int),(0:Int),()),(s,()),())=some (if l.all (hasB s) then .inl (((),L,n,k,()),(s,()),()) else .inr ((false,()),())):=by
 have h:=sP (G:=fun x=>FK x.1.2.1 x.1.2.2.1 x.1.2.2.2.1 x.1.2.2.2.2.1 x.1.2.2.2.2.2.1 x.1.2.2.2.2.2.2.1 x.2.1) (m:=fuel) l (hasB s) (fun j=>(((),L,n,k,l,(l.length:Int),(j:Int),()),(s,()),())) (.inr ((false,()),())) (.inl (((),L,n,k,()),(s,()),()))
  (fun j a ha=>?_) ?_ (fuel_lt hl)
 ·exact h
 ·have hk:=dF ha;simp only [FK,dec_lt hk,bI hk,cond_true,bB ha,aN hk (by omega)];obtain⟨i,hi⟩:=a2v s a hs;rw [hi];show(bif !hasB s a then _ else _)=_;cases hasB s a <;> rfl
 ·simp only [FK,bA,cond_false]
def dM (l:List Thing)(n:Int):Int:=(bW l n).1.2.1
def nZ (s:aZ)(t:Thing):Bool:=(!(t.2.1==(2:Int))||(!(dM s.2.2 t.2.2.2.1.1 != (1:Int))&&!(dM s.2.2 t.2.2.2.1.2.1 != (1:Int))))&&t.2.2.2.2.all (hasB s)
theorem bBq (s:aZ)(hs:Small s.2.2):XI s=some ((s.2.2.all (nZ s),()):aS [.bool]):=by
 have h:=sP (G:=fun x=>Q6 x.1.2.1 x.1.2.2.1 x.1.2.2.2.1 x.2.1) (m:=fuel) s.2.2 (nZ s) (fun k=>(((),s.2.2,(s.2.2.length:Int),(k:Int),()),(s,()),())) (.inr ((false,()),())) (.inl ((),()))
  (fun k t ha=>?_) ?_ (fuel_lt hs.1)
 ·unfold XI aI8;rw [show(0:Int)=((0:Nat):Int) from rfl,h];cases s.2.2.all (nZ s) <;> rfl
 ·have hk:=dF ha;have hi:=hs.2 t (aPl ha);simp only [Q6,dec_lt hk,bI hk,cond_true,bB ha,aY3 s hs _ _ _ _ hi,aEk];rw [yA s _ hs.1 hs.2,yA s _ hs.1 hs.2];have hw:=aN hk (by have:=hs.1;omega:s.2.2.length≤4611686018427387904);unfold nZ dM;cases hall:t.2.2.2.2.all (hasB s);all_goals simp only [aEk,if_true,if_false,aZC,aQM,Sum.elim_inr,hw,Bool.and_true,Bool.and_false]
  all_goals (cases (t.2.1==(2:Int)) <;> cases ((bW s.2.2 t.2.2.2.1.1).1.2.1 != (1:Int)) <;> cases ((bW s.2.2 t.2.2.2.1.2.1).1.2.1 != (1:Int)) <;> rfl)
 ·simp only [Q6,bA,cond_false]
abbrev MB:=List (Int×Bool)
abbrev MI:=List (Int×Int)
def dU (m:MB)(n:Int):Bool:=(fV (.int .i64) .bool n m).getD false
def rP (m:MB)(n:Int):Option MB:=bif dU m n then none else some (lG (.int .i64) .bool n true m)
def vS (m:MB)(t:Thing):Option MB:=eS rP t.2.2.2.2 m
theorem a5b (L:List Thing)(n k:Int)(l:List Int)(hl:l.length≤1000000000)(m:MB) :
  aI0 (((),L,n,k,l,(l.length:Int),(0:Int),()),m,())=some (match eS rP l m with | some m'=>.inl (((),L,n,k,()),m',()) | none=>.inr ((false,()),())):=by
 have h:=sQ (G:=fun x=>QI x.1.2.1 x.1.2.2.1 x.1.2.2.2.1 x.1.2.2.2.2.1 x.1.2.2.2.2.2.1 x.1.2.2.2.2.2.2.1 x.2.1) (m:=fuel) l rP (fun j m=>(((),L,n,k,l,(l.length:Int),(j:Int),()),m,())) (.inr ((false,()),())) (fun m=>.inl (((),L,n,k,()),m,()))
  (fun j a m ha=>?_) (fun m=>?_) (fuel_lt hl) m
 ·refine Eq.trans h ?_;cases eS rP l m <;> rfl
 ·have hk:=dF ha;simp only [QI,dec_lt hk,bI hk,cond_true,bB ha,aN hk (by omega)];unfold rP;show(bif dU m a then _ else _)=_;cases dU m a <;> rfl
 ·simp only [QI,bA,cond_false]
def nK (l:List Thing):Bool:=(eS vS l []).isSome
theorem bBr (s:aZ)(hs:Small s.2.2):QK s=some ((nK s.2.2,()):aS [.bool]):=by
 have h:=sQ (G:=fun x=>QJ x.1.2.1 x.1.2.2.1 x.1.2.2.2.1 x.2.1) (m:=fuel) s.2.2 vS (fun k m=>(((),s.2.2,(s.2.2.length:Int),(k:Int),()),m,())) (.inr ((false,()),())) (fun m=>.inl ((),()))
  (fun k t m ha=>?_) (fun m=>?_) (fuel_lt hs.1) []
 ·unfold QK aI1 nK;rw [show(0:Int)=((0:Nat):Int) from rfl,h];cases eS vS s.2.2 [] <;> rfl
 ·have hk:=dF ha;have hi:=hs.2 t (aPl ha);simp only [QJ,dec_lt hk,bI hk,cond_true,bB ha,a5b _ _ _ _ hi,aEk];unfold vS;cases eS rP t.2.2.2.2 m with
  | none=>rfl
  | some m'=>
   show some (Sum.inl (((),s.2.2,(s.2.2.length:Int),IntKind.i64.wrap ((k:Int)+1),()),m',()))=_;rw [aN hk (by have:=hs.1;omega)]
 ·simp only [QJ,bA,cond_false]
def DN (m:MI)(n:Int):Int:=(fV (.int .i64) (.int .i64) n m).getD 0
def up1 (t:Thing)(m:MI)(n:Int):MI:=lG (.int .i64) (.int .i64) n (aT t) m
def upT (m:MI)(t:Thing):MI:=t.2.2.2.2.foldl (up1 t) m
def upM (l:List Thing):MI:=l.foldl upT []
theorem yB {α σ X Y:Type}{G:X→Option (X⊕Y)}(l:List α)(step:σ→α→σ)(mk:Nat→σ→X)(out:σ→Y)
  (hs:∀ k a s,l[k]?=some a→G (mk k s)=some (.inl (mk (k+1) (step s a)))) (he:∀ s,G (mk l.length s)=some (.inr (out s))) {m:Nat} (hm:l.length<m) (s:σ):aH G m (mk 0 s)=some (out (l.foldl step s)):=by
 have h:=aE8 (G:=G) (l:=l) (mk:=mk) (step:=fun s a=>.inl (step s a)) (fin:=out) (s:=s) hm (fun k a s ha=>hs k a s ha) he;rw [h];congr 1;clear h hm he hs
 induction l generalizing s with
 | nil=>rfl
 | cons a l ih=>exact ih (step s a)
theorem a5c (id:Int)(L:List Thing)(n k:Int)(s:aZ)(t:Thing)(l:List Int)(hl:l.length≤1000000000)(m:MI) :
  aI3 ((id,(),(),(),L,n,k,l,(l.length:Int),(0:Int),()),(s,()),m,(t,()),())=some (.inl ((id,(),(),L,n,k,()),(s,()),l.foldl (up1 t) m,())):=by
 have h:=yB (G:=fun x=>QO x.1.1 x.1.2.2.2.2.1 x.1.2.2.2.2.2.1 x.1.2.2.2.2.2.2.1 x.1.2.2.2.2.2.2.2.1 x.1.2.2.2.2.2.2.2.2.1 x.1.2.2.2.2.2.2.2.2.2.1 x.2.1 x.2.2.1 x.2.2.2.1) (m:=fuel) l (up1 t)
  (fun j m=>((id,(),(),(),L,n,k,l,(l.length:Int),(j:Int),()),(s,()),m,(t,()),())) (fun m=>.inl ((id,(),(),L,n,k,()),(s,()),m,())) (fun j a m ha=>?_) (fun m=>?_) (fuel_lt hl) m
 ·exact h
 ·have hk:=dF ha;simp only [QO,dec_lt hk,bI hk,cond_true,bB ha,aN hk (by omega)];rfl
 ·simp only [QO,bA,cond_false]
theorem a5d (id:Int)(s:aZ)(hs:Small s.2.2):aI4 ((id,(),(),s.2.2,(s.2.2.length:Int),(0:Int),()),(s,()),[],())=some (.inl ((id,(),(),()),(s,()),upM s.2.2,())):=by
 have h:=yB (G:=fun x=>QR x.1.1 x.1.2.2.2.1 x.1.2.2.2.2.1 x.1.2.2.2.2.2.1 x.2.1 x.2.2.1) (m:=fuel) s.2.2 upT
  (fun j m=>((id,(),(),s.2.2,(s.2.2.length:Int),(j:Int),()),(s,()),m,())) (fun m=>.inl ((id,(),(),()),(s,()),m,())) (fun j t m ha=>?_) (fun m=>?_) (fuel_lt hs.1) []
 ·exact h
 ·have hk:=dF ha;have hi:=hs.2 t (aPl ha);simp only [QR,dec_lt hk,bI hk,cond_true,bB ha,a5c _ _ _ _ _ _ _ hi,aEk,aQM,aN hk (by have:=hs.1;omega)];rfl
 ·simp only [QR,bA,cond_false]
def B9 (m:MI)(id:Int):Nat→Int→Bool
 | 0,_=>false
 | k+1,n=>n==id||B9 m id k (DN m n)
theorem aL5 (id:Int)(m:MI):∀ (d j n:Nat) (x:Int) (f:Nat),n≤1000000000→j+d=n→d<f→∃ y,aH (fun x=>zW x.1.1 x.1.2.2.1 x.1.2.2.2.1 x.1.2.2.2.2.1 x.2.1) f ((id,(),x,(n:Int),(j:Int),()),m,())=some y∧y=(if B9 m id d x then .inr ((true,()),()) else .inl ((),()))
 | 0,j,n,x,f,hn,hj,hf=>by
  obtain⟨f,rfl⟩:∃ k,f=k+1:=⟨f-1,by omega⟩;have:j=n:=by omega
  subst this;exact⟨.inl ((),()),bM (by simp only [zW,bA,cond_false]) f,rfl⟩
 | d+1,j,n,x,f,hn,hj,hf=>by
  obtain⟨f,rfl⟩:∃ k,f=k+1:=⟨f-1,by omega⟩;have hlt:j<n:=by omega
  cases hx:(x==id) with
  | true=>
   refine⟨_,bM (y:=.inr ((true,()),())) ?_ f,?_⟩
   ·simp only [zW,dec_lt hlt,cond_true,hx]
   ·simp [B9,hx]
  | false=>
   obtain⟨y,h1,h2⟩:=aL5 id m d (j+1) n (DN m x) f hn (by omega) (by omega);refine⟨y,?_,?_⟩
   ·rw [bT (x':=((id,(),DN m x,(n:Int),((j+1:Nat):Int),()),m,())) ?_ f]
    ·exact h1
    ·simp only [zW,dec_lt hlt,cond_true,hx,cond_false,aN hlt (by omega)];rfl
   ·rw [h2];simp [B9,hx]
def jK (l:List Thing)(id:Int):Bool:=B9 (upM l) id l.length (DN (upM l) id)
theorem bGA (s:aZ)(id:Int)(hs:Small s.2.2):aO8 s id=some ((jK s.2.2 id,()):aS [.bool]):=by
 unfold aO8;rw [a5d id s hs];show(NR ((id,(),DN (upM s.2.2) id,(s.2.2.length:Int),(0:Int),()),upM s.2.2,())).bind _=_;obtain⟨y,h1,h2⟩:=aL5 id (upM s.2.2) s.2.2.length 0 s.2.2.length (DN (upM s.2.2) id) fuel hs.1 (by omega) (fuel_lt hs.1);unfold NR jK;rw [show(0:Int)=((0:Nat):Int) from rfl,h1,h2];cases B9 (upM s.2.2) id s.2.2.length (DN (upM s.2.2) id) <;> rfl
theorem bGB (t:Thing)(s:aZ)(hs:Small s.2.2):a4C t s=some ((jK s.2.2 (aT t),()):aS [.bool]):=by
 show(aO8 s (aT t)).bind _=_;rw [bGA s _ hs];rfl
def FN (l:List Thing):Bool:=!l.any fun t=>jK l (aT t)
theorem bBt (s:aZ)(hs:Small s.2.2):QW s=some ((FN s.2.2,()):aS [.bool]):=by
 have h:=iJ (G:=fun x=>FJ x.1.1 x.1.2.1 x.1.2.2.1 x.1.2.2.2.1) (m:=fuel) s.2.2 (fun t=>jK s.2.2 (aT t)) (fun k=>((s.2.2,(s,()),(s.2.2.length:Int),(k:Int),()),())) (fun k=>.inr (((k:Int),()),())) (.inl ((),()))
  (fun k t ha=>?_) ?_ (fuel_lt hs.1)
 ·have h2:Y1 s.2.2 (s,())=some (((match s.2.2.findIdx? (fun t=>jK s.2.2 (aT t)) with | some k=>(k:Int) | none=>-1),()):aS [I]):=by
   unfold Y1 aBM;rw [show(0:Int)=((0:Nat):Int) from rfl,h];cases s.2.2.findIdx? (fun t=>jK s.2.2 (aT t)) <;> rfl
  show((Y1 s.2.2 (s,())).bind _).bind _=_;rw [h2];unfold FN;cases hx:s.2.2.findIdx? (fun t=>jK s.2.2 (aT t)) with
  | none=>
   rw [a9z] at hx;have:s.2.2.any (fun t=>jK s.2.2 (aT t))=false:=by
    rw [List.any_eq_false];intro x hx';simp [hx x hx']
   rw [this];rfl
  | some k=>
   rw [List.findIdx?_eq_some_iff_getElem] at hx;obtain⟨h1,h2,_⟩:=hx;have:s.2.2.any (fun t=>jK s.2.2 (aT t))=true:=List.any_eq_true.2 ⟨_,aXB h1,h2⟩;rw [this];show some (!decide ((k:Int)≥0),())=_;rw [aKO (by omega:(k:Int)≥0)]
 ·have hk:=dF ha;simp only [FJ,dec_lt hk,bI hk,cond_true,bB ha,aN hk (by have:=hs.1;omega)];rw [bGB t s hs];show(bif jK s.2.2 (aT t) then _ else _)=_;cases jK s.2.2 (aT t) <;> rfl
 ·simp only [FJ,bA,cond_false]
def bK (s:aZ):Bool:=rO s&&(s.2.2.all (nZ s)&&(nK s.2.2&&FN s.2.2))
theorem JI (s:aZ)(hs:Small s.2.2):pR s=some ((bK s,()):aS [.bool]):=by
 unfold pR bK;rw [bGz s hs];show(bif rO s then(XI s).bind _ else _)=_;cases rO s with
 | false=>rfl
 | true=>
  show(XI s).bind _=_;rw [bBq s hs];show(bif s.2.2.all (nZ s) then(QK s).bind _ else _)=_;cases s.2.2.all (nZ s) with
  | false=>rfl
  | true=>
   show(QK s).bind _=_;rw [bBr s hs];show(bif nK s.2.2 then(QW s).bind _ else _)=_;cases nK s.2.2 with
   | false=>rfl
   | true=>
    show(QW s).bind _=_;rw [bBt s hs];rfl
theorem aJe {next a b:Int}{t:Thing}(h:gP next a t=some b):b=aT t∧a<aT t∧aT t<next∧rt t=true:=by
 unfold gP at h;cases hr:rt t with
 | false=>rw [hr] at h;cases h
 | true=>
  rw [hr] at h;simp only [aXM,cond_false] at h;by_cases h1:aT t≤a
  ·rw [aKO h1] at h;cases h
  ·rw [aKP h1] at h;by_cases h2:aT t≥next
   ·rw [aKO h2] at h;cases h
   ·rw [aKP h2] at h;simp only [cond_false,aJp] at h;exact⟨h.symm,by omega,by omega,rfl⟩
theorem Y6 {next:Int}:∀ (l:List Thing) (a:Int),(eS (gP next) l a).isSome=true→(∀ t∈l,a<aT t∧aT t<next∧rt t=true)∧EN l
 | [],a,_=>⟨fun t ht=>by simp at ht,fun i j x y _ hi=>by simp at hi⟩
 | t :: l,a,h=>by
  simp only [eS] at h;cases hs:gP next a t with
  | none=>rw [hs] at h;cases h
  | some b=>
   rw [hs] at h;obtain⟨rfl,h1,h2,h3⟩:=aJe hs;obtain⟨h4,h5⟩:=Y6 l (aT t) h;refine⟨fun u hu=>?_,fun i j x y hij hi hj=>?_⟩
   ·rcases aQL.1 hu with rfl | hu
    ·exact⟨h1,h2,h3⟩
    ·have:=h4 u hu;exact⟨by omega,this.2⟩
   ·cases j with
    | zero=>omega
    | succ j=>
     simp only [a9B] at hj;cases i with
     | zero=>
      simp only [List.getElem?_cons_zero,aJp] at hi;subst hi;exact(h4 y (aPl hj)).1
     | succ i=>
      simp only [a9B] at hi;exact h5 i j x y (by omega) hi hj
theorem FO (a b:Int):(Ty.int .i64).keq a b=decide (a=b):=by
 show(a==b)=_;by_cases h:a=b
 ·subst h;simp
 ·simp [h]
theorem sR (vt:Ty)(k j:Int)(v:vt.El):∀ (m:List (Int×vt.El)),fV (.int .i64) vt j (lG (.int .i64) vt k v m)=if j=k then some v else fV (.int .i64) vt j m
 | []=>by
  show(bif(Ty.int .i64).keq j k then some v else none)=_;rw [FO];by_cases h:j=k <;> simp [h,fV]
 | p :: m=>by
  show fV (.int .i64) vt j (bif(Ty.int .i64).keq k p.1 then(k,v) :: m else p :: lG (.int .i64) vt k v m)=_;rw [FO];by_cases h:k=p.1
  ·rw [aKO h,cond_true];show(bif(Ty.int .i64).keq j k then some v else fV (.int .i64) vt j m)=if j=k then some v else(bif(Ty.int .i64).keq j p.1 then some p.2 else fV (.int .i64) vt j m);rw [FO,FO,← h];by_cases h2:j=k <;> simp [h2]
  ·rw [aKP h,cond_false];show(bif(Ty.int .i64).keq j p.1 then some p.2 else fV (.int .i64) vt j (lG (.int .i64) vt k v m))=if j=k then some v else(bif(Ty.int .i64).keq j p.1 then some p.2 else fV (.int .i64) vt j m);rw [FO,sR vt k j v m];by_cases h2:j=p.1
   ·have:¬j=k:=fun e=>h (e.symm.trans h2);simp [h2];intro h3;exact absurd h3.symm h
   ·simp [h2]
def ins (t:Thing):List Int:=t.2.2.2.2
def lM (l:List Thing):Prop:=(l.flatMap ins).Nodup
theorem aB4 (m:MB)(k j:Int):dU (lG (.int .i64) .bool k true m) j=(decide (j=k)||dU m j):=by
 unfold dU;rw [sR .bool k j true m];by_cases h:j=k <;> simp [h]
theorem aS6:∀ (l:List Int) (m m':MB),eS rP l m=some m'→l.Nodup∧(∀ n∈l,dU m n=false)∧∀ n,dU m' n=(decide (n∈l)||dU m n)
 | [],m,m',h=>by
  simp only [eS,aJp] at h;subst h;simp
 | a :: l,m,m',h=>by
  simp only [eS,rP] at h;cases hg:dU m a with
  | true=>rw [hg] at h;cases h
  | false=>
   rw [hg] at h;simp only [cond_false] at h;obtain⟨h1,h2,h3⟩:=aS6 l _ m' h;have h4:∀ n∈l,n≠a∧dU m n=false:=fun n hn=>by
    have:=h2 n hn;rw [aB4] at this;simp only [Bool.or_eq_false_iff,decide_eq_false_iff_not] at this;exact this
   refine⟨List.nodup_cons.2 ⟨fun ha=>(h4 a ha).1 rfl,h1⟩,fun n hn=>?_,fun n=>?_⟩
   ·rcases aQL.1 hn with rfl | hn
    ·exact hg
    ·exact(h4 n hn).2
   ·rw [h3 n,aB4];by_cases h5:n=a
    ·subst h5;simp
    ·simp [h5]
theorem aFK:∀ (l:List Thing) (m m':MB),eS vS l m=some m'→lM l∧(∀ n∈l.flatMap ins,dU m n=false)∧∀ n,dU m' n=(decide (n∈l.flatMap ins)||dU m n)
 | [],m,m',h=>by
  simp only [eS,aJp] at h;subst h;exact⟨.nil,fun n hn=>by simp at hn,fun n=>by simp⟩
 | t :: l,m,m',h=>by
  simp only [eS] at h;cases hs:vS m t with
  | none=>rw [hs] at h;cases h
  | some m1=>
   rw [hs] at h;obtain⟨a1,a2,a3⟩:=aS6 _ _ _ hs;obtain⟨b1,b2,b3⟩:=aFK l m1 m' h;have key:∀ n∈l.flatMap ins,n∉ins t∧dU m n=false:=fun n hn=>by
    have:=b2 n hn;rw [a3 n] at this;simp only [Bool.or_eq_false_iff,decide_eq_false_iff_not] at this;exact this
   refine⟨?_,fun n hn=>?_,fun n=>?_⟩
   ·show((t :: l).flatMap ins).Nodup;rw [aXJ,List.nodup_append];exact⟨a1,b1,fun x hx y hy e=>(key y hy).1 (e▸hx)⟩
   ·rw [aXJ,aLA] at hn;rcases hn with hn | hn
    ·exact a2 n hn
    ·exact(key n hn).2
   ·rw [b3 n,a3 n];have:(t :: l).flatMap ins=ins t++l.flatMap ins:=rfl;rw [this];by_cases h1:n∈ins t
    ·simp [h1,show n∈t.2.2.2.2 from h1]
    ·by_cases h2:n∈l.flatMap ins
     ·have h2':n∈ins t++l.flatMap ins:=aLA.2 (.inr h2);rw [aKO h2,aKO h2'];simp
     ·have h2':¬n∈ins t++l.flatMap ins:=fun h3=>(aLA.1 h3).elim h1 h2;rw [aKP h2,aKP h2',aKP (show ¬n∈t.2.2.2.2 from h1)];simp
theorem aS7 {l:List Thing}(h:nK l=true):lM l:=by
 unfold nK at h;cases hf:eS vS l [] with
 | none=>rw [hf] at h;cases h
 | some m=>exact(aFK l [] m hf).1
def jS (l:List Thing)(n:Int):Int:=match l.find? (fun t=>(ins t).contains n) with
 | some t=>aT t
 | none=>0
theorem fC {l:List Thing}(ha:lM l){t:Thing}(ht:t∈l){n:Int}(hn:n∈ins t):jS l n=aT t:=by
 unfold jS
 induction l with
 | nil=>simp at ht
 | cons u l ih=>
  have ha2:(ins u++l.flatMap ins).Nodup:=ha;rw [List.nodup_append] at ha2;rw [List.find?_cons];cases hc:(ins u).contains n with
  | true=>
   rcases aQL.1 ht with rfl | ht
   ·rfl
   ·exfalso;have hu:n∈ins u:=by simpa using hc
    exact ha2.2.2 n hu n (List.mem_flatMap.2 ⟨t,ht,hn⟩) rfl
  | false=>
   rcases aQL.1 ht with rfl | ht
   ·have:(ins t).contains n=true:=by simpa using hn
    rw [this] at hc;cases hc
   ·exact ih ha2.2.1 ht
theorem pT {l:List Thing}{n:Int}(h:jS l n≠0):∃ t∈l,n∈ins t∧aT t=jS l n:=by
 unfold jS at h ⊢;cases hf:l.find? (fun t=>(ins t).contains n) with
 | none=>rw [hf] at h;exact absurd rfl h
 | some t=>
  have h1:=List.find?_some hf;exact⟨t,List.mem_of_find?_eq_some hf,by simpa using h1,rfl⟩
theorem a5e (m:MI)(k j v:Int):DN (lG (.int .i64) (.int .i64) k v m) j=if j=k then v else DN m j:=by
 unfold DN;rw [sR (.int .i64) k j v m];by_cases h:j=k <;> simp [h]
theorem aS8 (t:Thing):∀ (l:List Int) (m:MI) (j:Int),DN (l.foldl (up1 t) m) j=if j∈l then aT t else DN m j
 | [],m,j=>by simp
 | a :: l,m,j=>by
  rw [List.foldl_cons,aS8 t l];unfold up1;rw [a5e];by_cases h1:j∈l
  ·simp [h1]
  ·by_cases h2:j=a <;> simp [h1,h2]
theorem aS9:∀ (l:List Thing),lM l→∀ (m:MI) (j:Int),DN (l.foldl upT m) j=if j∈l.flatMap ins then jS l j else DN m j
 | [],_,m,j=>by simp
 | t :: l,ha,m,j=>by
  have ha2:(ins t++l.flatMap ins).Nodup:=ha;rw [List.nodup_append] at ha2;rw [List.foldl_cons,aS9 l ha2.2.1];have e:(t :: l).flatMap ins=ins t++l.flatMap ins:=rfl;rw [e];unfold upT;rw [aS8];by_cases h1:j∈l.flatMap ins
  ·have h2:j∉ins t:=fun h=>ha2.2.2 j h j h1 rfl;obtain⟨u,hu,hju⟩:=List.mem_flatMap.1 h1;rw [aJb h1,aJb (aLA.2 (.inr h1)),fC ha2.2.1 hu hju,fC ha (a0y _ hu) hju]
  ·rw [aJn h1];by_cases h2:j∈ins t
   ·rw [aJb (show j∈t.2.2.2.2 from h2),aJb (aLA.2 (.inl h2)),fC ha a1F h2]
   ·rw [aJn (show ¬j∈t.2.2.2.2 from h2),aJn (fun h=>(aLA.1 h).elim h2 h1)]
theorem aB5 {l:List Thing}(ha:lM l)(j:Int):DN (upM l) j=jS l j:=by
 unfold upM;rw [aS9 l ha [] j];by_cases h:j∈l.flatMap ins
 ·rw [aJb h]
 ·rw [aJn h];have:jS l j=0:=by
   refine Classical.byContradiction fun h2=>?_;obtain⟨t,ht,hj,_⟩:=pT h2;exact h (List.mem_flatMap.2 ⟨t,ht,hj⟩)
  rw [this];rfl
def kG (l:List Thing):Nat→Int→Int
 | 0,x=>x
 | k+1,x=>kG l k (jS l x)
theorem fA (l:List Thing):∀ (k:Nat) (x:Int),kG l (k+1) x=jS l (kG l k x)
 | 0,x=>rfl
 | k+1,x=>fA l k (jS l x)
theorem FQ (l:List Thing)(j:Nat):∀ (k:Nat) (x:Int),kG l (j+k) x=kG l j (kG l k x)
 | 0,x=>rfl
 | k+1,x=>FQ l j k (jS l x)
theorem L4 {l:List Thing}(ha:lM l)(id:Int):∀ (k:Nat) (x:Int),B9 (upM l) id k x=false→∀ j,j<k→kG l j x≠id
 | 0,x,_,j,hj=>by omega
 | k+1,x,h,j,hj=>by
  simp only [B9,Bool.or_eq_false_iff] at h;have h1:x≠id:=by simpa using h.1
  cases j with
  | zero=>exact h1
  | succ j=>
   rw [aB5 ha] at h;exact L4 ha id k _ h.2 j (by omega)
theorem AA {α:Type} [DecidableEq α]:∀ (a b:List α),a.Nodup→(∀ x∈a,x∈b)→a.length≤b.length
 | [],b,_,_=>aLj _
 | x :: a,b,hn,hs=>by
  have hx:=hs x a1F;have h1:=AA a (b.erase x) (List.nodup_cons.1 hn).2 fun y hy=>by
   have hyx:y≠x:=fun e=>(List.nodup_cons.1 hn).1 (e▸hy);exact(List.mem_erase_of_ne hyx).2 (hs y (a0y _ hy))
  have h2:=List.length_erase_of_mem hx;have h3:0<b.length:=List.length_pos_of_mem hx;simp only [aQO];omega
structure Rt (s:aZ):Prop where
 mS:EN s.2.2
 low:∀ t∈s.2.2,0<aT t∧aT t<s.2.1∧rt t=true
 len:s.2.2.length≤40
 next:1≤s.2.1∧s.2.1≤1000001
 ends:∀ t∈s.2.2,nZ s t=true
 apart:lM s.2.2
 tree:∀ t∈s.2.2,jK s.2.2 (aT t)=false
theorem bR {s:aZ}(h:bK s=true):Rt s:=by
 unfold bK at h;simp only [aKS] at h;obtain⟨hp,he,ha,ht⟩:=h;unfold rO at hp;simp only [aKS] at hp;obtain⟨h1,h2,h3,h4,h5⟩:=hp;obtain⟨p1,p2⟩:=Y6 _ _ h1;have h2:=aXU h2;have h3:=aXU h3;have h4:=aXU h4;refine⟨p2,fun t ht'=>p1 t ht',by omega,⟨h3,h4⟩,fun t ht'=>aQ6.1 he t ht',aS7 ha,fun t ht'=>?_⟩;unfold FN at ht;have:s.2.2.any (fun t=>jK s.2.2 (aT t))=false:=by simpa using ht
 rw [List.any_eq_false] at this;simpa using this t ht'
def Is (l:List Thing)(n:Int):Prop:=∃ t∈l,aT t=n
theorem aJf {s:aZ}(hs:Small s.2.2){n:Int}(h:hasB s n=true):Is s.2.2 n:=by
 obtain⟨i,b,h1,_,h3⟩:=aY2 s n hs.1;unfold hasB at h;rw [h1] at h;have hb:b=true:=h;obtain⟨t,ht,e⟩:=h3.1 hb;exact⟨t,aPl ht,e⟩
section
variable {s:aZ}
theorem Rt.fS (h:Rt s)(hs:Small s.2.2){t:Thing}(ht:t∈s.2.2){n:Int}(hn:n∈ins t):Is s.2.2 n:=by
 have h1:=h.ends t ht;unfold nZ at h1;simp only [aKS] at h1;exact aJf hs (aQ6.1 h1.2 n hn)
theorem Rt.pos (h:Rt s){n:Int}(hn:Is s.2.2 n):n≠0:=by
 obtain⟨t,ht,rfl⟩:=hn;have:=h.low t ht;omega
theorem Rt.aJg (h:Rt s)(hs:Small s.2.2):jS s.2.2 0=0:=by
 refine Classical.byContradiction fun h2=>?_;obtain⟨t,ht,hj,_⟩:=pT h2;exact h.pos (h.fS hs ht hj) rfl
theorem Rt.aY4 (h:Rt s)(hs:Small s.2.2):∀ k,kG s.2.2 k 0=0
 | 0=>rfl
 | k+1=>by
  show kG s.2.2 k (jS s.2.2 0)=0;rw [h.aJg hs];exact h.aY4 hs k
theorem aTa {l:List Thing}{n:Int}(hn:Is l n):∀ k,kG l k n≠0→Is l (kG l k n)
 | 0,_=>hn
 | k+1,h=>by
  rw [fA] at h ⊢;obtain⟨t,ht,_,e⟩:=pT h;exact⟨t,ht,e⟩
theorem Rt.aB6 (h:Rt s){n:Int}(hn:Is s.2.2 n)(k:Nat)(h1:1≤k)(h2:k≤s.2.2.length):kG s.2.2 k n≠n:=by
 obtain⟨t,ht,rfl⟩:=hn;have h3:=h.tree t ht;unfold jK at h3;rw [aB5 h.apart] at h3;obtain⟨k,rfl⟩:∃ j,k=j+1:=⟨k-1,by omega⟩;exact L4 h.apart (aT t) s.2.2.length _ h3 k (by omega)
theorem Rt.top (h:Rt s)(hs:Small s.2.2){n:Int}(hn:Is s.2.2 n):∃ k,k≤s.2.2.length∧kG s.2.2 k n=0:=by
 refine Classical.byContradiction fun hc=>?_;have hc:∀ k,k≤s.2.2.length→kG s.2.2 k n≠0:=fun k hk h0=>hc ⟨k,hk,h0⟩;have key:∀ m,m≤s.2.2.length+1→((List.range m).map fun k=>kG s.2.2 k n).Nodup:=by
  intro m
  induction m with
  | zero=>intro _;exact .nil
  | succ m ih=>
   intro hm;rw [List.range_succ,List.map_append,List.nodup_append];refine⟨ih (by omega),by simp,fun x hx y hy e=>?_⟩;simp only [aXW,List.map_nil,aXF] at hy;obtain⟨k,hk,rfl⟩:=aQ5.1 hx;rw [a9t] at hk;rw [hy] at e;have h3:=h.aB6 (aTa hn k (hc k (by omega))) (m-k) (by omega) (by omega);rw [← FQ,show m-k+k=m by omega] at h3;exact h3 e.symm
 have h1:=AA ((List.range (s.2.2.length+1)).map fun k=>kG s.2.2 k n) (s.2.2.map aT) (key _ (aKQ _)) fun x hx=>by
  obtain⟨k,hk,rfl⟩:=aQ5.1 hx;rw [a9t] at hk;obtain⟨t,ht,e⟩:=aTa hn k (hc k (by omega));exact aQ5.2 ⟨t,ht,e⟩
 simp at h1;omega
theorem Rt.n5 (h:Rt s)(hs:Small s.2.2){n:Int}(hn:Is s.2.2 n)(k:Nat)(h1:1≤k):kG s.2.2 k n≠n:=by
 obtain⟨j,hj,h0⟩:=h.top hs hn;rcases Nat.lt_or_ge s.2.2.length k with h2 | h2
 ·have:kG s.2.2 k n=0:=by
   rw [show k=(k-j)+j by omega,FQ,h0,h.aY4 hs]
  rw [this];exact fun e=>h.pos hn e.symm
 ·exact h.aB6 hn k h1 h2
end
end Go.DI.S
end
