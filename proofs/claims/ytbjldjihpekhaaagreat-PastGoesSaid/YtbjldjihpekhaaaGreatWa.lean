import Derived.Test.YtbjldjihpekhaaaGreatAb
import Derived.Test.YtbjldjihpekhaaaGreatUc
import Derived.Laws.Bits64
import Derived.Test.YtbjldjihpekhaaaGreatAc
/- Arithmetic runs through, plain. No conditions. -/
set_option linter.unusedSimpArgs false
set_option linter.unusedVariables false
set_option maxRecDepth 100000
set_option maxHeartbeats 0
namespace Go.DI.S
open Go.Proofs
def Th {α:Type}(p:Option (α⊕Int))(Q:α→Prop):Prop:=∃ y,p=some y∧Sum.elim Q (fun e=>e=3∨e=4) y
theorem Th.ok {α:Type}{a:α}{Q:α→Prop}(h:Q a):Th (some (.inl a)) Q:=⟨_,rfl,h⟩
theorem Th.err {α:Type}{e:Int}{Q:α→Prop}(h:e=3∨e=4):Th (some (.inr e):Option (α⊕Int)) Q:=⟨_,rfl,h⟩
theorem Th.cond {α:Type}{c:Bool}{a b:Option (α⊕Int)}{Q:α→Prop}(h:c=true→Th a Q)(k:c=false→Th b Q):Th (bif c then a else b) Q:=by
 cases c
 ·exact k rfl
 ·exact h rfl
theorem Th.elim {α β:Type}{p:Option (α⊕Int)}{f:α→Option (β⊕Int)}{P:α→Prop}{Q:β→Prop}(h:Th p P)(k:∀ a,P a→Th (f a) Q) :
  Th (p.bind fun v=>Sum.elim f (fun e=>some (.inr e)) v) Q:=by
 obtain⟨y,rfl,hy⟩:=h;cases y with
 | inl a=>exact k a hy
 | inr e=>exact⟨_,rfl,hy⟩
theorem Th.bind {α β:Type}{p:Option α}{f:α→Option (β⊕Int)}{P:α→Prop}{Q:β→Prop}(h:∃ y,p=some y∧P y)(k:∀ a,P a→Th (f a) Q):Th (p.bind f) Q:=by
 obtain⟨y,rfl,hy⟩:=h;exact k y hy
theorem Th.mono {α:Type}{p:Option (α⊕Int)}{P Q:α→Prop}(h:Th p P)(k:∀ a,P a→Q a):Th p Q:=by
 obtain⟨y,rfl,hy⟩:=h;refine⟨y,rfl,?_⟩;cases y with
 | inl a=>exact k a hy
 | inr e=>exact hy
abbrev Any {α:Type}:α→Prop:=fun _=>True
theorem bDP (a b:Int):∃ y,SS a b=some y∧(y.2.1=0∨y.2.1=3∨y.2.1=4):=by
 unfold SS;cases (decide (a<0)==decide (b<0)) with
 | true=>
  cases hc:(!decide (IntKind.i64.wrap (a+b)<0)==decide (a<0)) with
  | true=>exact⟨_,rfl,.inr (.inl rfl)⟩
  | false=>exact⟨_,rfl,.inl rfl⟩
 | false=>exact⟨_,rfl,.inl rfl⟩
theorem a8C (a b:Int):∃ y,JZ a b=some y∧(y.2.1=0∨y.2.1=3∨y.2.1=4):=by
 unfold JZ;cases (!decide (a<0)==decide (b<0)) with
 | true=>
  cases hc:(!decide (IntKind.i64.wrap (a-b)<0)==decide (a<0)) with
  | true=>exact⟨_,rfl,.inr (.inl rfl)⟩
  | false=>exact⟨_,rfl,.inl rfl⟩
 | false=>exact⟨_,rfl,.inl rfl⟩
theorem bDQ {a e:Int}(h:e=0∨e=3∨e=4):Th (L8 a e) Any:=by
 unfold L8;refine .cond (fun hc=>.err ?_) (fun _=>.ok trivial);rcases h with rfl | h
 ·simp at hc
 ·exact h
theorem aDZ {p:Option (aS [I,I])}(h:∃ y,p=some y∧(y.2.1=0∨y.2.1=3∨y.2.1=4)) :
  Th (p.bind fun v2=>(L8 v2.fst v2.snd.fst).bind fun v4=>Sum.elim (fun v6=>some (Sum.inl ((v6.fst,()):aS [I]))) (fun v7=>some (Sum.inr v7)) v4) Any:=
 .bind h fun y hy=>.elim (bDQ hy) fun _ _=>.ok trivial
theorem HQ (a b:Int):Th (q9 a b) Any:=aDZ (bDP a b)
theorem qK (a b:Int):Th (mE a b) Any:=aDZ (a8C a b)
theorem MT (a b:fW):Th (rA a b) Any:=.elim (HQ _ _) fun _ _=>.elim (HQ _ _) fun _ _=>.ok trivial
theorem qL (a b:fW):Th (mF a b) Any:=.elim (qK _ _) fun _ _=>.elim (qK _ _) fun _ _=>.ok trivial
theorem OQ (a:Int):∃ (b:Bool) (u:Int),rB a=some ((b,u,()):aS [.bool,.int .u64])∧0≤u∧u<18446744073709551616:=by
 unfold rB;cases decide (a<0) with
 | true=>exact⟨_,_,rfl,by rw [IntKind.wrap_u64];omega,by rw [IntKind.wrap_u64];omega⟩
 | false=>exact⟨_,_,rfl,by rw [IntKind.wrap_u64];omega,by rw [IntKind.wrap_u64];omega⟩
theorem aN5 (b:Bool)(u:Int):∃ y,AK b u=some y∧(y.2.1=0∨y.2.1=3∨y.2.1=4):=by
 unfold AK;cases b with
 | true=>
  cases decide (u≤9223372036854775808) with
  | true=>exact⟨_,rfl,.inl rfl⟩
  | false=>exact⟨_,rfl,.inr (.inl rfl)⟩
 | false=>
  cases decide (u<9223372036854775808) with
  | true=>exact⟨_,rfl,.inl rfl⟩
  | false=>exact⟨_,rfl,.inr (.inl rfl)⟩
theorem OS (a b:Int):∃ h l:Int,k9 a b=some ((h,l,()):aS [.int .u64,.int .u64])∧(0≤h∧h<18446744073709551616)∧(0≤l∧l<18446744073709551616):=by
 unfold k9;refine⟨_,_,rfl,⟨?_,?_⟩,?_,?_⟩
 ·rw [IntKind.wrap_u64];exact Int.emod_nonneg _ (by decide)
 ·rw [IntKind.wrap_u64];exact Int.emod_lt_of_pos _ (by decide)
 ·rw [IntKind.wrap_u64];exact Int.emod_nonneg _ (by decide)
 ·rw [IntKind.wrap_u64];exact Int.emod_lt_of_pos _ (by decide)
theorem a8D (a b:Int):∃ y,vZ a b=some y∧(y.2.1=0∨y.2.1=3∨y.2.1=4):=by
 unfold vZ;obtain⟨n1,u1,h1,_⟩:=OQ a;obtain⟨n2,u2,h2,_⟩:=OQ b;obtain⟨h,l,h3,_⟩:=OS u1 u2;rw [h1];simp only [aEk];rw [h2];simp only [aEk];rw [h3];simp only [aEk];cases decide (h≥4294967296) with
 | true=>exact⟨_,rfl,.inr (.inl rfl)⟩
 | false=>
  obtain⟨y4,h4,k4⟩:=aN5 (!n1==n2) (bOr IntKind.u64 (IntKind.u64.wrap (h*4294967296)) (Int.fdiv l 4294967296));simp only [cond_false];rw [h4];exact⟨_,rfl,k4⟩
theorem wT (a b:Int):Th (qC a b) Any:=aDZ (a8D a b)
theorem EK (a:fW)(b:Int):Th (wO a b) Any:=.elim (wT _ _) fun _ _=>.elim (wT _ _) fun _ _=>.ok trivial
theorem a8E (a b:fW):Th (aJ9 a b) Any:=.elim (wT _ _) fun _ _=>.elim (wT _ _) fun _ _=>.elim (HQ _ _) fun _ _=>.ok trivial
theorem aW8 (a b:Int):Th (UC a b) Any:=by
 unfold UC;refine .cond (fun _=>.err (.inr rfl)) (fun h0=>?_);have h0:b≠0:=by simpa using h0
 have h1:decide (b=0)=false:=aKP h0;rw [h1];exact .cond (fun _=>.cond (fun _=>.err (.inl rfl)) fun _=>.ok trivial) fun _=>.ok trivial
theorem aW9 (a:fW)(b:Int):Th (aC6 a b) Any:=.elim (aW8 _ _) fun _ _=>.elim (aW8 _ _) fun _ _=>.ok trivial
theorem a1j:∀ x:_root_.Fin 256,((aVv.getD x.1 0).toBitVec.toFin.1)≤8∧x.1<2^((aVv.getD x.1 0).toBitVec.toFin.1)∧(0<x.1→2^((aVv.getD x.1 0).toBitVec.toFin.1)≤2*x.1):=by decide +kernel
def Bits (x:Int)(t:Nat):Prop:=x<2^t∧(0<x→(2:Int)^t≤2*x)
theorem aXa (n:Nat)(x:Int)(hn:n≤1000)(h0:0≤x)(h1:x<256):∃ t:Nat,t≤8∧len8 n x=some ((((n+t:Nat):Int),()):aS [I])∧Bits x t:=by
 obtain⟨k,rfl⟩:=Int.eq_ofNat_of_zero_le h0;have hk:k<256:=by omega
 have hw:IntKind.u8.wrap (k:Int)=(k:Int):=by rw [IntKind.wrap_u8];omega
 obtain⟨t1,t2,t3⟩:=a1j ⟨k,hk⟩;obtain⟨t,ht⟩:∃ t,t=(aVv.getD k 0).toBitVec.toFin.1:=⟨_,rfl⟩;have t1:t≤8:=by rw [ht];exact t1
 refine⟨t,t1,?_,?_,?_⟩
 ·unfold len8;have e1:decide ((0:Int)≤(k:Int)∧(k:Int)<256)=true:=aKO (by omega);rw [hw,e1,cond_true,Int.toNat_natCast,← ht,wrap64 (x:=(t:Int)) (by omega) (by omega),wrap64 (by omega) (by omega)];rfl
 ·rw [ht];have:=Int.ofNat_lt.2 t2;simpa using this
 ·intro h;rw [ht];have:=Int.ofNat_le.2 (t3 (by show 0<k;omega));simpa using this
theorem Bits.up {x y:Int}{c:Nat}{t:Nat}(hy:y=Int.fdiv x (2^c))(h1:(2:Int)^c≤x)(h:Bits y t):Bits x (t+c):=by
 have hp:(0:Int)<2^c:=Int.pow_pos (by decide);rw [a9r _ (by omega)] at hy;have hy1:1≤y:=by
  rw [hy];exact Int.le_ediv_of_mul_le hp (by omega)
 have e1:x=(2:Int)^c*y+x % 2^c:=by rw [hy];exact(Int.mul_ediv_add_emod x _).symm
 have e2:=Int.emod_nonneg x (show(2:Int)^c≠0 by omega);have e3:=Int.emod_lt_of_pos x hp;have e4:(2:Int)^(t+c)=2^c*2^t:=by rw [Int.pow_add,Int.mul_comm]
 obtain⟨b1,b2⟩:=h;have b2:=b2 (by omega);refine⟨?_,fun _=>?_⟩
 ·rw [e4];have:(2:Int)^c*(y+1)≤2^c*2^t:=Int.mul_le_mul_of_nonneg_left (by omega) (by omega);rw [Int.mul_add,Int.mul_one] at this;omega
 ·rw [e4];have:(2:Int)^c*2^t≤2^c*(2*y):=Int.mul_le_mul_of_nonneg_left (by omega) (by omega);have h5:(2:Int)^c*(2*y)=2*(2^c*y):=by rw [← Int.mul_assoc,Int.mul_comm ((2:Int)^c) 2,Int.mul_assoc]
  omega
theorem aN6 (n:Nat)(x:Int)(hn:n≤900)(h0:0≤x)(h1:x<65536):∃ t:Nat,t≤16∧aNk n x=some ((((n+t:Nat):Int),()):aS [I])∧Bits x t:=by
 unfold aNk;by_cases hc:x≥256
 ·rw [aKO hc,cond_true];have e:IntKind.i64.wrap ((n:Int)+8)=((n+8:Nat):Int):=by rw [wrap64 (by omega) (by omega)];omega
  have e2:Int.fdiv x 256=x / 256:=a9r _ (by omega);obtain⟨t,k1,k2,k3⟩:=aXa (n+8) (Int.fdiv x 256) (by omega) (by rw [e2];omega) (by rw [e2];omega);refine⟨t+8,by omega,?_,k3.up (c:=8) rfl (by simpa using hc)⟩;rw [e,k2,show n+8+t=n+(t+8) by omega]
 ·rw [aKP hc,cond_false];obtain⟨t,k1,k2,k3⟩:=aXa n x (by omega) h0 (by omega);exact⟨t,by omega,k2,k3⟩
theorem aN7 (n:Nat)(x:Int)(hn:n≤800)(h0:0≤x)(h1:x<4294967296):∃ t:Nat,t≤32∧Z1 n x=some ((((n+t:Nat):Int),()):aS [I])∧Bits x t:=by
 unfold Z1;by_cases hc:x≥65536
 ·rw [aKO hc,cond_true];have e:IntKind.i64.wrap ((n:Int)+16)=((n+16:Nat):Int):=by rw [wrap64 (by omega) (by omega)];omega
  have e2:Int.fdiv x 65536=x / 65536:=a9r _ (by omega);obtain⟨t,k1,k2,k3⟩:=aN6 (n+16) (Int.fdiv x 65536) (by omega) (by rw [e2];omega) (by rw [e2];omega);refine⟨t+16,by omega,?_,k3.up (c:=16) rfl (by simpa using hc)⟩;rw [e,k2,show n+16+t=n+(t+16) by omega]
 ·rw [aKP hc,cond_false];obtain⟨t,k1,k2,k3⟩:=aN6 n x (by omega) h0 (by omega);exact⟨t,by omega,k2,k3⟩
theorem aXb (a:Int):F8 a=bif Decidable.decide (a≥(4294967296:Int)) then Z1 32 (Int.fdiv a (4294967296:Int)) else Z1 0 a:=by kernel_rfl
theorem a1k (x:Int)(h0:0≤x)(h1:x<18446744073709551616):∃ t:Nat,t≤64∧F8 x=some (((t:Int),()):aS [I])∧Bits x t:=by
 rw [aXb];by_cases hc:x≥4294967296
 ·rw [aKO hc,cond_true];have e2:Int.fdiv x 4294967296=x / 4294967296:=a9r _ (by omega);obtain⟨t,k1,k2,k3⟩:=aN7 32 (Int.fdiv x 4294967296) (by omega) (by rw [e2];omega) (by rw [e2];omega);refine⟨t+32,by omega,?_,k3.up (c:=32) rfl (by simpa using hc)⟩;have k2:Z1 32 (Int.fdiv x 4294967296)=some ((((32+t:Nat):Int),()):aS [I]):=k2;rw [k2,Nat.add_comm 32 t]
 ·rw [aKP hc,cond_false];obtain⟨t,k1,k2,k3⟩:=aN7 0 x (by omega) h0 (by omega);have k2:Z1 0 x=some ((((0+t:Nat):Int),()):aS [I]):=k2;refine⟨t,by omega,?_,k3⟩;rw [k2,aZ3]
theorem mD {α:Type}{c:Bool}{a b:Option α}(h:c=false)(k:lK b):lK (bif c then a else b):=by subst h;exact k
theorem aNj {α:Type}{c:Bool}{a b:Option α}(h:c=true)(k:lK a):lK (bif c then a else b):=by subst h;exact k
theorem rG {α β:Type}{p:Option α}{f:α→Option β}{x:α}(h:p=some x)(k:lK (f x)):lK (p.bind f):=by subst h;exact k
theorem o7 (n:Int):0≤IntKind.u64.wrap n∧IntKind.u64.wrap n<18446744073709551616:=by
 rw [IntKind.wrap_u64];exact⟨Int.emod_nonneg _ (by decide),Int.emod_lt_of_pos _ (by decide)⟩
theorem BP {n:Int}(h0:0≤n)(h1:n<18446744073709551616):IntKind.u64.wrap n=n:=by rw [IntKind.wrap_u64];omega
def LG (r:Int):Nat:=if r<4294967296 then(4294967296-r).toNat else 8589934592
theorem aN8 {r:Int}(h:0≤r):LG r≤8589934592:=by unfold LG;split <;> omega
theorem aAy {r d:Int}(h:0≤r)(hd:0<d)(hd2:d<4294967296)(hc:¬IntKind.u64.wrap (r+d)≥4294967296):LG (IntKind.u64.wrap (r+d))<LG r:=by
 have h1:=o7 (r+d);unfold LG;rw [aJb (by omega)]
 split
 ·rw [BP (n:=r+d) (by omega) (by omega)];omega
 ·omega
theorem aKT (r2 r8 r9 eD eM gV fQ jR l6:Int)(h1:0<r9)(h2:r9<4294967296)(h0:0≤l6):∃ q,DZ ((r2,r8,r9,eD,eM,gV,fQ,jR,l6,()),())=some (.inl ((r2,r8,r9,eD,eM,gV,fQ,q,()),())):=by
 have:=bP (G:=fun x=>l7 x.1.1 x.1.2.1 x.1.2.2.1 x.1.2.2.2.1 x.1.2.2.2.2.1 x.1.2.2.2.2.2.1 x.1.2.2.2.2.2.2.1 x.1.2.2.2.2.2.2.2.1 x.1.2.2.2.2.2.2.2.2.1)
  (fun x=>∃ a b:Int,x=((r2,r8,r9,eD,eM,gV,fQ,a,b,()),())∧0≤b) (fun x=>LG x.1.2.2.2.2.2.2.2.2.1) (fun y=>∃ q:Int,y=.inl ((r2,r8,r9,eD,eM,gV,fQ,q,()),())) ?_ fuel ((r2,r8,r9,eD,eM,gV,fQ,jR,l6,()),()) ⟨jR,l6,rfl,h0⟩ (by
   have:=aN8 h0;show LG l6<fuel;unfold fuel;omega)
 ·obtain⟨y,k1,q,rfl⟩:=this;exact⟨q,k1⟩
 ·rintro x ⟨a,b,rfl,hb⟩;have go:(∃ x',(bif decide (IntKind.u64.wrap (b+r9)≥(4294967296:Int)) then(some (Sum.inr (Sum.inl ((r2,r8,r9,eD,eM,gV,fQ,IntKind.u64.wrap (a-1),()),()))):Option (gX.El⊕(m5.El⊕m6.El)))
    else some (Sum.inl ((r2,r8,r9,eD,eM,gV,fQ,IntKind.u64.wrap (a-1),IntKind.u64.wrap (b+r9),()),())))=some (.inl x')∧(∃ a b:Int,x'=((r2,r8,r9,eD,eM,gV,fQ,a,b,()),())∧0≤b)∧LG x'.1.2.2.2.2.2.2.2.2.1<LG b) ∨
    ∃ y,(bif decide (IntKind.u64.wrap (b+r9)≥(4294967296:Int)) then(some (Sum.inr (Sum.inl ((r2,r8,r9,eD,eM,gV,fQ,IntKind.u64.wrap (a-1),()),()))):Option (gX.El⊕(m5.El⊕m6.El)))
    else some (Sum.inl ((r2,r8,r9,eD,eM,gV,fQ,IntKind.u64.wrap (a-1),IntKind.u64.wrap (b+r9),()),())))=some (.inr y)∧∃ q:Int,y=.inl ((r2,r8,r9,eD,eM,gV,fQ,q,()),()):=by
   by_cases hc:IntKind.u64.wrap (b+r9)≥4294967296
   ·right;rw [aKO hc];exact⟨_,rfl,_,rfl⟩
   ·left;rw [aKP hc];exact⟨_,rfl,⟨_,_,rfl,(o7 _).1⟩,aAy hb h1 h2 hc⟩
  show(∃ x',l7 r2 r8 r9 eD eM gV fQ a b=_∧_)∨∃ y,l7 r2 r8 r9 eD eM gV fQ a b=_∧_;unfold l7;by_cases c1:a≥4294967296
  ·rw [aKO c1];exact go
  ·rw [aKP c1];by_cases c2:IntKind.u64.wrap (a*eD)>IntKind.u64.wrap (IntKind.u64.wrap (4294967296*b)+gV)
   ·simp only [cond_false];rw [aKO c2];exact go
   ·simp only [cond_false];rw [aKP c2];exact .inr ⟨_,rfl,_,rfl⟩
theorem aKU (r2 r8 r9 eD fQ jR l6 sI Y0:Int)(h1:0<r9)(h2:r9<4294967296)(h0:0≤l6):∃ q,D1 ((r2,r8,r9,eD,fQ,jR,l6,sI,Y0,()),())=some (.inl ((r2,r8,fQ,jR,sI,q,()),())):=by
 have:=bP (G:=fun x=>aA0 x.1.1 x.1.2.1 x.1.2.2.1 x.1.2.2.2.1 x.1.2.2.2.2.1 x.1.2.2.2.2.2.1 x.1.2.2.2.2.2.2.1 x.1.2.2.2.2.2.2.2.1 x.1.2.2.2.2.2.2.2.2.1)
  (fun x=>∃ a b:Int,x=((r2,r8,r9,eD,fQ,jR,b,sI,a,()),())∧0≤b) (fun x=>LG x.1.2.2.2.2.2.2.1) (fun y=>∃ q:Int,y=.inl ((r2,r8,fQ,jR,sI,q,()),())) ?_ fuel ((r2,r8,r9,eD,fQ,jR,l6,sI,Y0,()),()) ⟨Y0,l6,rfl,h0⟩ (by
   have:=aN8 h0;show LG l6<fuel;unfold fuel;omega)
 ·obtain⟨y,k1,q,rfl⟩:=this;exact⟨q,k1⟩
 ·rintro x ⟨a,b,rfl,hb⟩;show(∃ x',aA0 r2 r8 r9 eD fQ jR b sI a=_∧_)∨∃ y,aA0 r2 r8 r9 eD fQ jR b sI a=_∧_;have go:(∃ x',(bif decide (IntKind.u64.wrap (b+r9)≥(4294967296:Int)) then(some (Sum.inr (Sum.inl ((r2,r8,fQ,jR,sI,IntKind.u64.wrap (a-1),()),()))):Option (gY.El⊕(m7.El⊕m8.El)))
    else some (Sum.inl ((r2,r8,r9,eD,fQ,jR,IntKind.u64.wrap (b+r9),sI,IntKind.u64.wrap (a-1),()),())))=some (.inl x')∧(∃ a b:Int,x'=((r2,r8,r9,eD,fQ,jR,b,sI,a,()),())∧0≤b)∧LG x'.1.2.2.2.2.2.2.1<LG b) ∨
    ∃ y,(bif decide (IntKind.u64.wrap (b+r9)≥(4294967296:Int)) then(some (Sum.inr (Sum.inl ((r2,r8,fQ,jR,sI,IntKind.u64.wrap (a-1),()),()))):Option (gY.El⊕(m7.El⊕m8.El)))
    else some (Sum.inl ((r2,r8,r9,eD,fQ,jR,IntKind.u64.wrap (b+r9),sI,IntKind.u64.wrap (a-1),()),())))=some (.inr y)∧∃ q:Int,y=.inl ((r2,r8,fQ,jR,sI,q,()),()):=by
   by_cases hc:IntKind.u64.wrap (b+r9)≥4294967296
   ·right;rw [aKO hc];exact⟨_,rfl,_,rfl⟩
   ·left;rw [aKP hc];exact⟨_,rfl,⟨_,_,rfl,(o7 _).1⟩,aAy hb h1 h2 hc⟩
  unfold aA0;by_cases c1:a≥4294967296
  ·rw [aKO c1];exact go
  ·rw [aKP c1];by_cases c2:IntKind.u64.wrap (a*eD)>IntKind.u64.wrap (IntKind.u64.wrap (4294967296*b)+fQ)
   ·simp only [cond_false];rw [aKO c2];exact go
   ·simp only [cond_false];rw [aKP c2];exact .inr ⟨_,rfl,_,rfl⟩
theorem aQR {c:Int}{t:Nat}(ht:t≤64)(h0:0<c)(hb:Bits c t):∃ D:Int,D=(IntKind.u64.wrap (c*(2:Int)^(64-t))).fdiv 4294967296∧0<D∧D<4294967296:=by
 have hp:(0:Int)<2^(64-t):=Int.pow_pos (by decide);have e:(2:Int)^t*2^(64-t)=18446744073709551616:=by
  rw [← Int.pow_add,show t+(64-t)=64 by omega];rfl
 obtain⟨b1,b2⟩:=hb;have b2:=b2 h0;have k1:c*(2:Int)^(64-t)<2^t*2^(64-t):=Int.mul_lt_mul_of_pos_right b1 hp;have k2:(2:Int)^t*2^(64-t)≤(2*c)*2^(64-t):=Int.mul_le_mul_of_nonneg_right b2 (by omega);rw [Int.mul_assoc] at k2;rw [e] at k1 k2;obtain⟨X,hX⟩:∃ X,X=c*(2:Int)^(64-t):=⟨_,rfl⟩;rw [← hX] at k1 k2 ⊢;refine⟨_,rfl,?_⟩;rw [BP (by omega) k1,a9r _ (by omega)];omega
theorem aNh (a b c:Int)(h0:0≤a)(h:a<c)(hc:c<18446744073709551616):lK (vY a b c):=by
 obtain⟨t,ht,hF,hB⟩:=a1k c (by omega) hc;have bHY:aCA c=some (((64-t:Int),()):aS [I]):=by
  unfold aCA;rw [hF];show some ((IntKind.i64.wrap (64-(t:Int)),()):aS [I])=_;rw [wrap64 (by omega) (by omega)]
 have hs:IntKind.u64.wrap (64-(t:Int))=((64-t:Nat):Int):=by rw [BP (by omega) (by omega)];omega
 obtain⟨D,hD,d1,d2⟩:=aQR ht (by omega) hB;have hm:Min.min (64-t) 64=64-t:=by omega
 unfold vY;have n0:¬c=0:=by omega
 have n1:¬c≤a:=by omega
 refine mD (beq_false_of_ne n0) (mD (aKP n1) ?_);by_cases ha:a=0
 ·exact aNj (beq_iff_eq.2 ha) (mD (aKP n0) (mD (aKP n0) (aO _)))
 ·refine mD (beq_false_of_ne ha) (rG bHY ?_);simp only [hs,Int.toNat_natCast,hm,← hD];refine mD (aKP (by omega)) (mD (aKP (by omega)) (mD (aKP (by have:=o7 (64-((64-t:Nat):Int));omega)) (mD (aKP (by omega)) (mD (aKP (by omega)) ?_))));obtain⟨q,hq⟩:=aKT _ _ D _ _ _ _ _ _ d1 d2 (o7 _).1;refine rG hq ?_;refine mD (aKP (by show ¬D=0;omega)) ?_;obtain⟨q2,hq2⟩:=aKU _ _ D _ _ _ _ _ _ d1 d2 (o7 _).1;refine rG hq2 ?_;exact mD (a:=none) (aKP (by show ¬((64-t:Nat):Int)<0;omega)) (aO _)
theorem a8F (a b:Int):∃ y,aC2 a b=some y∧(y.2.1=0∨y.2.1=3∨y.2.1=4):=by
 unfold aC2;obtain⟨n1,u1,h1,k1⟩:=OQ a;obtain⟨n2,u2,h2,k2⟩:=OQ b;rw [h1];simp only [aEk];rw [h2];simp only [aEk];cases hz:(u2==(0:Int)) with
 | true=>exact⟨_,rfl,.inr (.inr rfl)⟩
 | false=>
  simp only [cond_false];by_cases hc:Int.fdiv u1 4294967296≥u2
  ·rw [aKO hc];exact⟨_,rfl,.inr (.inl rfl)⟩
  ·rw [aKP hc];have hf:Int.fdiv u1 4294967296=u1 / 4294967296:=a9r _ (by omega);obtain⟨z,hz⟩:=aNh (Int.fdiv u1 4294967296) (IntKind.u64.wrap (u1*4294967296)) u2 (by rw [hf];omega) (by omega) k2.2;simp only [cond_false];rw [hz];simp only [aEk];obtain⟨y4,h4,k4⟩:=aN5 (!n1==n2) z.1;rw [h4];exact⟨_,rfl,k4⟩
theorem EL (a b:Int):Th (wM a b) Any:=aDZ (a8F a b)
theorem aXc (a:fW)(b:Int):Th (aC5 a b) Any:=.elim (EL _ _) fun _ _=>.elim (EL _ _) fun _ _=>.ok trivial
theorem a8G (a b c:Int):lK (aC7 a b c):=by
 unfold aC7;obtain⟨h,l,e,_⟩:=OS a a;exact rG e (bH (aO _) (bH (aO _) (aO _)))
theorem a8H (a b:Int):lK (UF a b):=by
 have:=bP (G:=fun x=>uA x.1.1 x.1.2.1 x.1.2.2.1 x.1.2.2.2.1) (fun x=>∃ u v:Int,x=((a,b,u,v,()),())) (fun x=>x.1.2.2.2.1.toNat) (fun y=>∃ q:Int,y=.inl ((q,()),())) ?_ fuel ((a,b,(0:Int),(9223372036854775808:Int),()),()) ⟨_,_,rfl⟩ (by
  show(9223372036854775808:Int).toNat<fuel;unfold fuel;omega)
 ·obtain⟨y,k1,q,rfl⟩:=this;unfold UF UE;exact rG k1 (aO _)
 ·rintro x ⟨u,v,rfl⟩;show(∃ x',uA a b u v=_∧_)∨∃ y,uA a b u v=_∧_;unfold uA;by_cases hv:v>0
  ·left;rw [aKO hv,cond_true];obtain⟨z,hz⟩:=a8G (bOr IntKind.u64 u v) a b;rw [hz];have hm:(Int.fdiv v 2).toNat<v.toNat:=by rw [a9r _ (by omega)];omega
   simp only [aEk];cases z.1 with
   | true=>exact⟨_,rfl,⟨_,_,rfl⟩,hm⟩
   | false=>exact⟨_,rfl,⟨_,_,rfl⟩,hm⟩
  ·right;rw [aKP hv];exact⟨_,rfl,_,rfl⟩
theorem aXd (a:Int):lK (KL a):=bH (aO _) (aO _)
theorem aXe {α:Type}{c:Bool}{a b:Option α}{P:α→Prop}(h:c=true)(k:∃ y,a=some y∧P y):∃ y,(bif c then a else b)=some y∧P y:=by subst h;exact k
theorem a8I (a b:Int):∃ y,aDb a b=some y∧(y.2.1=0∨y.2.1=3∨y.2.1=4):=by
 unfold aDb;obtain⟨x1,h1⟩:=aXd a;obtain⟨x2,h2⟩:=aXd b;obtain⟨p1,q1,k1,l1,m1⟩:=OS x1.1 x1.1;obtain⟨p2,q2,k2,l2,m2⟩:=OS x2.1 x2.1;rw [h1];simp only [aEk];rw [k1];simp only [aEk];rw [h2];simp only [aEk];rw [k2];simp only [aEk];have c1:(0:Int)≤q1∧(0:Int)≤q2∧(0:Int)≤(0:Int)∧(0:Int)≤(1:Int):=by omega
 have c2:(0:Int)≤p1∧(0:Int)≤p2∧(0:Int)≤(q1+q2+0) / 18446744073709551616∧(q1+q2+0) / 18446744073709551616≤1:=by omega
 refine aXe (aKO c1) (aXe (aKO c2) ?_);obtain⟨z,hz⟩:=a8H ((p1+p2+(q1+q2+0) / 18446744073709551616) % 18446744073709551616) ((q1+q2+0) % 18446744073709551616);rw [hz];simp only [aEk];cases decide (z.1≥9223372036854775808) with
 | true=>exact⟨_,rfl,.inr (.inl rfl)⟩
 | false=>exact⟨_,rfl,.inl rfl⟩
abbrev Hit:=x8.El
abbrev Box:=bX.El
theorem aKV {α:Type}{p:Option α}(h:lK p):∃ y,p=some y∧Any y:=by
 obtain⟨y,h⟩:=h;exact⟨y,h,trivial⟩
theorem WX (a:fW)(b:Int):∃ y,EC a b=some y∧Any y:=aKV (bH (aO _) (aO _))
theorem aXf (a:Int):∃ y,aDe a=some y∧Any y:=aKV (bH (aO _) (aO _))
theorem aXg (a b c:Int):lK (aDa a b c):=bH (aO _) (bH (aO _) (aO _))
theorem a8J (a:fW)(b:Box):∃ y,aKd a b=some y∧Any y:=aKV (bV (aXg _ _ _) fun _=>bV (aXg _ _ _) fun _=>aO _)
theorem a8K (a:fW):Th (aDc a) Any:=by
 unfold aDc;refine Th.bind (a8I _ _) fun y hy=>Th.cond (fun hc=>.err ?_) fun _=>.ok trivial;rcases hy with h | h
 ·rw [h] at hc;simp at hc
 ·exact h
theorem aKW (a:Body):Th (UG a) Any:=(Th.cond (fun _=>(Th.ok trivial)) (fun _=>(Th.elim (aXc _ _) fun _ _=>(Th.ok trivial))))
theorem LH (a:Body):Th (yT a) Any:=(Th.cond (fun _=>(Th.ok trivial)) (fun _=>(Th.elim (EL _ _) fun _ _=>(Th.ok trivial))))
theorem aXh (a:Body):Th (aC8 a) Any:=(Th.cond (fun _=>(Th.elim (qL _ _) fun _ _=>(Th.elim (MT _ _) fun _ _=>(Th.ok trivial)))) (fun _=>(Th.elim (qL _ _) fun _ _=>(Th.elim (MT _ _) fun _ _=>(Th.ok trivial)))))
theorem aKX (a:fW):Th (UH a) Any:=(Th.elim (a8K _) fun _ _=>(Th.cond (fun _=>(Th.ok trivial)) (fun _=>(Th.elim (aXc _ _) fun _ _=>(Th.ok trivial)))))
theorem aXi (a b c:Int):Th (aDd a b c) Any:=(Th.elim (HQ _ _) fun _ _=>(Th.cond (fun _=>(Th.elim (qK _ _) fun _ _=>(Th.elim (qK _ _) fun _ _=>(Th.ok trivial)))) (fun _=>(Th.elim (qK _ _) fun _ _=>(Th.ok trivial)))))
theorem a8L (a b:Body):Th (aKg a b) Any:=(Th.elim (qL _ _) fun _ _=>(Th.elim (aKX _) fun _ _=>(Th.cond (fun _=>(Th.elim (HQ _ _) fun _ _=>(Th.elim (qK _ _) fun _ _=>(Th.bind (P:=Any) (WX _ _) fun _ _=>(Th.ok trivial))))) (fun _=>(Th.elim (HQ _ _) fun _ _=>(Th.elim (qK _ _) fun _ _=>(Th.bind (P:=Any) (WX _ _) fun _ _=>(Th.ok trivial))))))))
theorem aKY (a b:Body):Th (UI a b) Any:=(Th.elim (qL _ _) fun _ _=>(Th.elim (aXi _ _ _) fun _ _=>(Th.cond (fun _=>(Th.ok trivial)) (fun _=>(Th.elim (aXi _ _ _) fun _ _=>(Th.cond (fun _=>(Th.bind (P:=Any) (aXf _) fun _ _=>(Th.bind (P:=Any) (WX _ _) fun _ _=>(Th.ok trivial)))) (fun _=>(Th.bind (P:=Any) (aXf _) fun _ _=>(Th.bind (P:=Any) (WX _ _) fun _ _=>(Th.ok trivial))))))))))
theorem nM (a b:Body):Th (lD a b) Any:=(Th.elim (aXh _) fun _ _=>(Th.bind (P:=Any) (a8J _ _) fun _ _=>(Th.elim (qL _ _) fun _ _=>(Th.elim (aKX _) fun _ _=>(Th.cond (fun _=>(Th.elim (aKY _ _) fun _ _=>(Th.ok trivial))) (fun _=>(Th.elim (qK _ _) fun _ _=>(Th.bind (P:=Any) (WX _ _) fun _ _=>(Th.ok trivial)))))))))
theorem yZ (a:Hit):Th (rS a) Any:=(Th.elim (qL _ _) fun _ _=>(Th.ok trivial))
theorem a8M (a b:Body):Th (aKh a b) Any:=(Th.cond (fun _=>(Th.cond (fun _=>(Th.elim (a8L _ _) fun _ _=>(Th.ok trivial))) (fun _=>(Th.cond (fun _=>(Th.cond (fun _=>(Th.elim (aKY _ _) fun _ _=>(Th.ok trivial))) (fun _=>(Th.cond (fun _=>(Th.cond (fun _=>(Th.elim (nM _ _) fun _ _=>(Th.ok trivial))) (fun _=>(Th.cond (fun _=>(Th.cond (fun _=>(Th.elim (nM _ _) fun _ _=>(Th.elim (yZ _) fun _ _=>(Th.ok trivial)))) (fun _=>(Th.ok trivial)))) (fun _=>(Th.ok trivial)))))) (fun _=>(Th.cond (fun _=>(Th.cond (fun _=>(Th.elim (nM _ _) fun _ _=>(Th.elim (yZ _) fun _ _=>(Th.ok trivial)))) (fun _=>(Th.ok trivial)))) (fun _=>(Th.ok trivial)))))))) (fun _=>(Th.cond (fun _=>(Th.cond (fun _=>(Th.elim (nM _ _) fun _ _=>(Th.ok trivial))) (fun _=>(Th.cond (fun _=>(Th.cond (fun _=>(Th.elim (nM _ _) fun _ _=>(Th.elim (yZ _) fun _ _=>(Th.ok trivial)))) (fun _=>(Th.ok trivial)))) (fun _=>(Th.ok trivial)))))) (fun _=>(Th.cond (fun _=>(Th.cond (fun _=>(Th.elim (nM _ _) fun _ _=>(Th.elim (yZ _) fun _ _=>(Th.ok trivial)))) (fun _=>(Th.ok trivial)))) (fun _=>(Th.ok trivial)))))))))) (fun _=>(Th.cond (fun _=>(Th.cond (fun _=>(Th.elim (aKY _ _) fun _ _=>(Th.ok trivial))) (fun _=>(Th.cond (fun _=>(Th.cond (fun _=>(Th.elim (nM _ _) fun _ _=>(Th.ok trivial))) (fun _=>(Th.cond (fun _=>(Th.cond (fun _=>(Th.elim (nM _ _) fun _ _=>(Th.elim (yZ _) fun _ _=>(Th.ok trivial)))) (fun _=>(Th.ok trivial)))) (fun _=>(Th.ok trivial)))))) (fun _=>(Th.cond (fun _=>(Th.cond (fun _=>(Th.elim (nM _ _) fun _ _=>(Th.elim (yZ _) fun _ _=>(Th.ok trivial)))) (fun _=>(Th.ok trivial)))) (fun _=>(Th.ok trivial)))))))) (fun _=>(Th.cond (fun _=>(Th.cond (fun _=>(Th.elim (nM _ _) fun _ _=>(Th.ok trivial))) (fun _=>(Th.cond (fun _=>(Th.cond (fun _=>(Th.elim (nM _ _) fun _ _=>(Th.elim (yZ _) fun _ _=>(Th.ok trivial)))) (fun _=>(Th.ok trivial)))) (fun _=>(Th.ok trivial)))))) (fun _=>(Th.cond (fun _=>(Th.cond (fun _=>(Th.elim (nM _ _) fun _ _=>(Th.elim (yZ _) fun _ _=>(Th.ok trivial)))) (fun _=>(Th.ok trivial)))) (fun _=>(Th.ok trivial)))))))))
theorem aXj (a b:Body):Th (aDf a b) Any:=(Th.elim (LH _) fun _ _=>(Th.elim (LH _) fun _ _=>(Th.elim (HQ _ _) fun _ _=>(Th.ok trivial))))
theorem aXk (a b:Body)(c:fW):Th (aDg a b c) Any:=(Th.elim (aKW _) fun _ _=>(Th.elim (aKW _) fun _ _=>(Th.elim (qL _ _) fun _ _=>(Th.elim (a8E _ _) fun _ _=>(Th.ok trivial)))))
theorem aXl (a b:Body)(c:fW):Th (aDh a b c) Any:=(Th.cond (fun _=>(Th.elim (qL _ _) fun _ _=>(Th.cond (fun _=>(Th.elim (MT _ _) fun _ _=>(Th.ok trivial))) (fun _=>(Th.ok trivial))))) (fun _=>(Th.cond (fun _=>(Th.elim (MT _ _) fun _ _=>(Th.ok trivial))) (fun _=>(Th.ok trivial)))))
theorem a8N (a b:Body)(c:Int):Th (aKi a b c) Any:=(Th.elim (qL _ _) fun _ _=>(Th.elim (aKX _) fun _ _=>(Th.cond (fun _=>(Th.ok trivial)) (fun _=>(Th.elim (aXj _ _) fun _ _=>(Th.cond (fun _=>(Th.ok trivial)) (fun _=>(Th.elim (aXk _ _ _) fun _ _=>(Th.elim (qK _ _) fun _ _=>(Th.elim (wT _ _) fun _ _=>(Th.elim (HQ _ _) fun _ _=>(Th.elim (qK _ _) fun _ _=>(Th.elim (EL _ _) fun _ _=>(Th.elim (EK _ _) fun _ _=>(Th.elim (aXl _ _ _) fun _ _=>(Th.ok trivial))))))))))))))))
theorem a8O (a b:Body)(c:Hit):Th (aKj a b c) Any:=(Th.elim (aXj _ _) fun _ _=>(Th.cond (fun _=>(Th.ok trivial)) (fun _=>(Th.elim (aXk _ _ _) fun _ _=>(Th.cond (fun _=>(Th.elim (HQ _ _) fun _ _=>(Th.elim (qK _ _) fun _ _=>(Th.elim (EL _ _) fun _ _=>(Th.elim (EK _ _) fun _ _=>(Th.elim (aXl _ _ _) fun _ _=>(Th.elim (EL _ _) fun _ _=>(Th.elim (LH _) fun _ _=>(Th.elim (wT _ _) fun _ _=>(Th.elim (EK _ _) fun _ _=>(Th.elim (qL _ _) fun _ _=>(Th.elim (LH _) fun _ _=>(Th.elim (wT _ _) fun _ _=>(Th.elim (EK _ _) fun _ _=>(Th.elim (MT _ _) fun _ _=>(Th.ok trivial)))))))))))))))) (fun _=>(Th.elim (EL _ _) fun _ _=>(Th.elim (LH _) fun _ _=>(Th.elim (wT _ _) fun _ _=>(Th.elim (EK _ _) fun _ _=>(Th.elim (qL _ _) fun _ _=>(Th.elim (LH _) fun _ _=>(Th.elim (wT _ _) fun _ _=>(Th.elim (EK _ _) fun _ _=>(Th.elim (MT _ _) fun _ _=>(Th.ok trivial))))))))))))))))
theorem aXm (a:Int):aDi a=some ((false,()):aS [.bool]):=by
 have h:(a != a)=false:=by simp
 show some ((a != a,()):aS [.bool])=_;rw [h]
theorem a8P (a b:Int):lK (aDj a b):=by
 unfold aDj;rw [aXm,aXm];exact bH (aO _) (bH (aO _) (aO _))
end Go.DI.S
