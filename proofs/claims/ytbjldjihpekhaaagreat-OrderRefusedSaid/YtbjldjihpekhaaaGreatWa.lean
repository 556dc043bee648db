import Derived.Test.YtbjldjihpekhaaaGreatAb
import Derived.Test.YtbjldjihpekhaaaGreatUc
import Derived.Laws.Bits64
import Derived.Test.YtbjldjihpekhaaaGreatAc
/- Arithmetic runs through, plain. No conditions. -/
set_option linter.unusedSimpArgs false
set_option linter.unusedVariables false
set_option maxRecDepth 100000
set_option maxHeartbeats 0
namespace Go.DI.S
open Go.Proofs
def Th {α:Type}(p:Option (α⊕Int))(Q:α→Prop):Prop:=∃ y,p=some y∧Sum.elim Q (fun e=>e=3∨e=4) y
theorem Th.ok {α:Type}{a:α}{Q:α→Prop}(h:Q a):Th (some (.inl a)) Q:=⟨_,rfl,h⟩
theorem Th.err {α:Type}{e:Int}{Q:α→Prop}(h:e=3∨e=4):Th (some (.inr e):Option (α⊕Int)) Q:=⟨_,rfl,h⟩
theorem Th.cond {α:Type}{c:Bool}{a b:Option (α⊕Int)}{Q:α→Prop}(h:c=true→Th a Q)(k:c=false→Th b Q):Th (bif c then a else b) Q:=by
 cases c
 ·exact k rfl
 ·exact h rfl
theorem Th.elim {α β:Type}{p:Option (α⊕Int)}{f:α→Option (β⊕Int)}{P:α→Prop}{Q:β→Prop}(h:Th p P)(k:∀ a,P a→Th (f a) Q) :
  Th (p.bind fun v=>Sum.elim f (fun e=>some (.inr e)) v) Q:=by
 obtain⟨y,rfl,hy⟩:=h
 cases y with
 | inl a=>exact k a hy
 | inr e=>exact⟨_,rfl,hy⟩
theorem Th.bind {α β:Type}{p:Option α}{f:α→Option (β⊕Int)}{P:α→Prop}{Q:β→Prop}(h:∃ y,p=some y∧P y)(k:∀ a,P a→Th (f a) Q):Th (p.bind f) Q:=by
 obtain⟨y,rfl,hy⟩:=h
 exact k y hy
theorem Th.mono {α:Type}{p:Option (α⊕Int)}{P Q:α→Prop}(h:Th p P)(k:∀ a,P a→Q a):Th p Q:=by
 obtain⟨y,rfl,hy⟩:=h
 refine⟨y,rfl,?_⟩
 cases y with
 | inl a=>exact k a hy
 | inr e=>exact hy
abbrev Any {α:Type}:α→Prop:=fun _=>True
theorem t_162 (a b:Int):∃ y,F_162 a b=some y∧(y.2.1=0∨y.2.1=3∨y.2.1=4):=by
 unfold F_162
 cases (decide (a<0)==decide (b<0)) with
 | true=>
  cases hc:(!decide (IntKind.i64.wrap (a+b)<0)==decide (a<0)) with
  | true=>exact⟨_,rfl,.inr (.inl rfl)⟩
  | false=>exact⟨_,rfl,.inl rfl⟩
 | false=>exact⟨_,rfl,.inl rfl⟩
theorem t_fsub (a b:Int):∃ y,F_fsub a b=some y∧(y.2.1=0∨y.2.1=3∨y.2.1=4):=by
 unfold F_fsub
 cases (!decide (a<0)==decide (b<0)) with
 | true=>
  cases hc:(!decide (IntKind.i64.wrap (a-b)<0)==decide (a<0)) with
  | true=>exact⟨_,rfl,.inr (.inl rfl)⟩
  | false=>exact⟨_,rfl,.inl rfl⟩
 | false=>exact⟨_,rfl,.inl rfl⟩
theorem t_161 {a e:Int}(h:e=0∨e=3∨e=4):Th (F_161 a e) Any:=by
 unfold F_161
 refine .cond (fun hc=>.err ?_) (fun _=>.ok trivial)
 rcases h with rfl | h
 ·simp at hc
 ·exact h
theorem th_via {p:Option (Els [I,I])}(h:∃ y,p=some y∧(y.2.1=0∨y.2.1=3∨y.2.1=4)) :
  Th (p.bind fun v2=>(F_161 v2.fst v2.snd.fst).bind fun v4=>Sum.elim (fun v6=>some (Sum.inl ((v6.fst,()):Els [I]))) (fun v7=>some (Sum.inr v7)) v4) Any:=
 .bind h fun y hy=>.elim (t_161 hy) fun _ _=>.ok trivial
theorem t_146 (a b:Int):Th (F_146 a b) Any:=th_via (t_162 a b)
theorem t_w230 (a b:Int):Th (F_w230 a b) Any:=th_via (t_fsub a b)
theorem t_124 (a b:Vec):Th (F_124 a b) Any:=.elim (t_146 _ _) fun _ _=>.elim (t_146 _ _) fun _ _=>.ok trivial
theorem t_w227 (a b:Vec):Th (F_w227 a b) Any:=.elim (t_w230 _ _) fun _ _=>.elim (t_w230 _ _) fun _ _=>.ok trivial
theorem t_parts (a:Int):∃ (b:Bool) (u:Int),F_parts a=some ((b,u,()):Els [.bool,.int .u64])∧0≤u∧u<18446744073709551616:=by
 unfold F_parts
 cases decide (a<0) with
 | true=>exact⟨_,_,rfl,by rw [IntKind.wrap_u64];omega,by rw [IntKind.wrap_u64];omega⟩
 | false=>exact⟨_,_,rfl,by rw [IntKind.wrap_u64];omega,by rw [IntKind.wrap_u64];omega⟩
theorem t_whole (b:Bool)(u:Int):∃ y,F_whole b u=some y∧(y.2.1=0∨y.2.1=3∨y.2.1=4):=by
 unfold F_whole
 cases b with
 | true=>
  cases decide (u≤9223372036854775808) with
  | true=>exact⟨_,rfl,.inl rfl⟩
  | false=>exact⟨_,rfl,.inr (.inl rfl)⟩
 | false=>
  cases decide (u<9223372036854775808) with
  | true=>exact⟨_,rfl,.inl rfl⟩
  | false=>exact⟨_,rfl,.inr (.inl rfl)⟩
theorem t_mul64 (a b:Int):∃ h l:Int,F_mul64 a b=some ((h,l,()):Els [.int .u64,.int .u64])∧(0≤h∧h<18446744073709551616)∧(0≤l∧l<18446744073709551616):=by
 unfold F_mul64
 refine⟨_,_,rfl,⟨?_,?_⟩,?_,?_⟩
 ·rw [IntKind.wrap_u64];exact Int.emod_nonneg _ (by decide)
 ·rw [IntKind.wrap_u64];exact Int.emod_lt_of_pos _ (by decide)
 ·rw [IntKind.wrap_u64];exact Int.emod_nonneg _ (by decide)
 ·rw [IntKind.wrap_u64];exact Int.emod_lt_of_pos _ (by decide)
theorem t_fmul (a b:Int):∃ y,F_fmul a b=some y∧(y.2.1=0∨y.2.1=3∨y.2.1=4):=by
 unfold F_fmul
 obtain⟨n1,u1,h1,_⟩:=t_parts a
 obtain⟨n2,u2,h2,_⟩:=t_parts b
 obtain⟨h,l,h3,_⟩:=t_mul64 u1 u2
 rw [h1];simp only [Option.bind_some]
 rw [h2];simp only [Option.bind_some]
 rw [h3];simp only [Option.bind_some]
 cases decide (h≥4294967296) with
 | true=>exact⟨_,rfl,.inr (.inl rfl)⟩
 | false=>
  obtain⟨y4,h4,k4⟩:=t_whole (!n1==n2) (bOr IntKind.u64 (IntKind.u64.wrap (h*4294967296)) (Int.fdiv l 4294967296))
  simp only [cond_false]
  rw [h4]
  exact⟨_,rfl,k4⟩
theorem t_w225 (a b:Int):Th (F_w225 a b) Any:=th_via (t_fmul a b)
theorem t_w162 (a:Vec)(b:Int):Th (F_w162 a b) Any:=.elim (t_w225 _ _) fun _ _=>.elim (t_w225 _ _) fun _ _=>.ok trivial
theorem t_w283 (a b:Vec):Th (F_w283 a b) Any:=.elim (t_w225 _ _) fun _ _=>.elim (t_w225 _ _) fun _ _=>.elim (t_146 _ _) fun _ _=>.ok trivial
theorem t_w224 (a b:Int):Th (F_w224 a b) Any:=by
 unfold F_w224
 refine .cond (fun _=>.err (.inr rfl)) (fun h0=>?_)
 have h0:b≠0:=by simpa using h0
 have h1:decide (b=0)=false:=decide_eq_false h0
 rw [h1]
 exact .cond (fun _=>.cond (fun _=>.err (.inl rfl)) fun _=>.ok trivial) fun _=>.ok trivial
theorem t_w161 (a:Vec)(b:Int):Th (F_w161 a b) Any:=.elim (t_w224 _ _) fun _ _=>.elim (t_w224 _ _) fun _ _=>.ok trivial
theorem tab8_ok:∀ x:_root_.Fin 256,((tab8.getD x.1 0).toBitVec.toFin.1)≤8∧x.1<2^((tab8.getD x.1 0).toBitVec.toFin.1)∧(0<x.1→2^((tab8.getD x.1 0).toBitVec.toFin.1)≤2*x.1):=by decide +kernel
def Bits (x:Int)(t:Nat):Prop:=x<2^t∧(0<x→(2:Int)^t≤2*x)
theorem t_len8 (n:Nat)(x:Int)(hn:n≤1000)(h0:0≤x)(h1:x<256):∃ t:Nat,t≤8∧len8 n x=some ((((n+t:Nat):Int),()):Els [I])∧Bits x t:=by
 obtain⟨k,rfl⟩:=Int.eq_ofNat_of_zero_le h0
 have hk:k<256:=by omega
 have hw:IntKind.u8.wrap (k:Int)=(k:Int):=by rw [IntKind.wrap_u8];omega
 obtain⟨t1,t2,t3⟩:=tab8_ok ⟨k,hk⟩
 obtain⟨t,ht⟩:∃ t,t=(tab8.getD k 0).toBitVec.toFin.1:=⟨_,rfl⟩
 have t1:t≤8:=by rw [ht];exact t1
 refine⟨t,t1,?_,?_,?_⟩
 ·unfold len8
  have e1:decide ((0:Int)≤(k:Int)∧(k:Int)<256)=true:=decide_eq_true (by omega)
  rw [hw,e1,cond_true,Int.toNat_natCast,← ht,wrap64 (x:=(t:Int)) (by omega) (by omega),wrap64 (by omega) (by omega)]
  rfl
 ·rw [ht]
  have:=Int.ofNat_lt.2 t2
  simpa using this
 ·intro h
  rw [ht]
  have:=Int.ofNat_le.2 (t3 (by show 0<k;omega))
  simpa using this
theorem Bits.up {x y:Int}{c:Nat}{t:Nat}(hy:y=Int.fdiv x (2^c))(h1:(2:Int)^c≤x)(h:Bits y t):Bits x (t+c):=by
 have hp:(0:Int)<2^c:=Int.pow_pos (by decide)
 rw [Int.fdiv_eq_ediv_of_nonneg _ (by omega)] at hy
 have hy1:1≤y:=by
  rw [hy]
  exact Int.le_ediv_of_mul_le hp (by omega)
 have e1:x=(2:Int)^c*y+x % 2^c:=by rw [hy];exact(Int.mul_ediv_add_emod x _).symm
 have e2:=Int.emod_nonneg x (show(2:Int)^c≠0 by omega)
 have e3:=Int.emod_lt_of_pos x hp
 have e4:(2:Int)^(t+c)=2^c*2^t:=by rw [Int.pow_add,Int.mul_comm]
 obtain⟨b1,b2⟩:=h
 have b2:=b2 (by omega)
 refine⟨?_,fun _=>?_⟩
 ·rw [e4]
  have:(2:Int)^c*(y+1)≤2^c*2^t:=Int.mul_le_mul_of_nonneg_left (by omega) (by omega)
  rw [Int.mul_add,Int.mul_one] at this
  omega
 ·rw [e4]
  have:(2:Int)^c*2^t≤2^c*(2*y):=Int.mul_le_mul_of_nonneg_left (by omega) (by omega)
  have h5:(2:Int)^c*(2*y)=2*(2^c*y):=by rw [← Int.mul_assoc,Int.mul_comm ((2:Int)^c) 2,Int.mul_assoc]
  omega
theorem t_len16 (n:Nat)(x:Int)(hn:n≤900)(h0:0≤x)(h1:x<65536):∃ t:Nat,t≤16∧len16 n x=some ((((n+t:Nat):Int),()):Els [I])∧Bits x t:=by
 unfold len16
 by_cases hc:x≥256
 ·rw [decide_eq_true hc,cond_true]
  have e:IntKind.i64.wrap ((n:Int)+8)=((n+8:Nat):Int):=by rw [wrap64 (by omega) (by omega)];omega
  have e2:Int.fdiv x 256=x / 256:=Int.fdiv_eq_ediv_of_nonneg _ (by omega)
  obtain⟨t,k1,k2,k3⟩:=t_len8 (n+8) (Int.fdiv x 256) (by omega) (by rw [e2];omega) (by rw [e2];omega)
  refine⟨t+8,by omega,?_,k3.up (c:=8) rfl (by simpa using hc)⟩
  rw [e,k2,show n+8+t=n+(t+8) by omega]
 ·rw [decide_eq_false hc,cond_false]
  obtain⟨t,k1,k2,k3⟩:=t_len8 n x (by omega) h0 (by omega)
  exact⟨t,by omega,k2,k3⟩
theorem t_len32 (n:Nat)(x:Int)(hn:n≤800)(h0:0≤x)(h1:x<4294967296):∃ t:Nat,t≤32∧len32 n x=some ((((n+t:Nat):Int),()):Els [I])∧Bits x t:=by
 unfold len32
 by_cases hc:x≥65536
 ·rw [decide_eq_true hc,cond_true]
  have e:IntKind.i64.wrap ((n:Int)+16)=((n+16:Nat):Int):=by rw [wrap64 (by omega) (by omega)];omega
  have e2:Int.fdiv x 65536=x / 65536:=Int.fdiv_eq_ediv_of_nonneg _ (by omega)
  obtain⟨t,k1,k2,k3⟩:=t_len16 (n+16) (Int.fdiv x 65536) (by omega) (by rw [e2];omega) (by rw [e2];omega)
  refine⟨t+16,by omega,?_,k3.up (c:=16) rfl (by simpa using hc)⟩
  rw [e,k2,show n+16+t=n+(t+16) by omega]
 ·rw [decide_eq_false hc,cond_false]
  obtain⟨t,k1,k2,k3⟩:=t_len16 n x (by omega) h0 (by omega)
  exact⟨t,by omega,k2,k3⟩
theorem eq_len64 (a:Int):F_len64 a=bif Decidable.decide (a≥(4294967296:Int)) then len32 32 (Int.fdiv a (4294967296:Int)) else len32 0 a:=by kernel_rfl
theorem t_len64 (x:Int)(h0:0≤x)(h1:x<18446744073709551616):∃ t:Nat,t≤64∧F_len64 x=some (((t:Int),()):Els [I])∧Bits x t:=by
 rw [eq_len64]
 by_cases hc:x≥4294967296
 ·rw [decide_eq_true hc,cond_true]
  have e2:Int.fdiv x 4294967296=x / 4294967296:=Int.fdiv_eq_ediv_of_nonneg _ (by omega)
  obtain⟨t,k1,k2,k3⟩:=t_len32 32 (Int.fdiv x 4294967296) (by omega) (by rw [e2];omega) (by rw [e2];omega)
  refine⟨t+32,by omega,?_,k3.up (c:=32) rfl (by simpa using hc)⟩
  have k2:len32 32 (Int.fdiv x 4294967296)=some ((((32+t:Nat):Int),()):Els [I]):=k2
  rw [k2,Nat.add_comm 32 t]
 ·rw [decide_eq_false hc,cond_false]
  obtain⟨t,k1,k2,k3⟩:=t_len32 0 x (by omega) h0 (by omega)
  have k2:len32 0 x=some ((((0+t:Nat):Int),()):Els [I]):=k2
  refine⟨t,by omega,?_,k3⟩
  rw [k2,Nat.zero_add]
theorem tot_no {α:Type}{c:Bool}{a b:Option α}(h:c=false)(k:Tot b):Tot (bif c then a else b):=by subst h;exact k
theorem tot_yes {α:Type}{c:Bool}{a b:Option α}(h:c=true)(k:Tot a):Tot (bif c then a else b):=by subst h;exact k
theorem tot_via {α β:Type}{p:Option α}{f:α→Option β}{x:α}(h:p=some x)(k:Tot (f x)):Tot (p.bind f):=by subst h;exact k
theorem u64_range (n:Int):0≤IntKind.u64.wrap n∧IntKind.u64.wrap n<18446744073709551616:=by
 rw [IntKind.wrap_u64]
 exact⟨Int.emod_nonneg _ (by decide),Int.emod_lt_of_pos _ (by decide)⟩
theorem u64_small {n:Int}(h0:0≤n)(h1:n<18446744073709551616):IntKind.u64.wrap n=n:=by rw [IntKind.wrap_u64];omega
def mu32 (r:Int):Nat:=if r<4294967296 then(4294967296-r).toNat else 8589934592
theorem mu32_le {r:Int}(h:0≤r):mu32 r≤8589934592:=by unfold mu32;split <;> omega
theorem mu32_step {r d:Int}(h:0≤r)(hd:0<d)(hd2:d<4294967296)(hc:¬IntKind.u64.wrap (r+d)≥4294967296):mu32 (IntKind.u64.wrap (r+d))<mu32 r:=by
 have h1:=u64_range (r+d)
 unfold mu32
 rw [if_pos (by omega)]
 split
 ·rw [u64_small (n:=r+d) (by omega) (by omega)];omega
 ·omega
theorem q_div64_17 (r2 r8 r9 r10 r11 r13 r14 r15 r16:Int)(h1:0<r9)(h2:r9<4294967296)(h0:0≤r16):∃ q,R_div64_17 ((r2,r8,r9,r10,r11,r13,r14,r15,r16,()),())=some (.inl ((r2,r8,r9,r10,r11,r13,r14,q,()),())):=by
 have:=rounds_mu (G:=fun x=>G_div64_17 x.1.1 x.1.2.1 x.1.2.2.1 x.1.2.2.2.1 x.1.2.2.2.2.1 x.1.2.2.2.2.2.1 x.1.2.2.2.2.2.2.1 x.1.2.2.2.2.2.2.2.1 x.1.2.2.2.2.2.2.2.2.1)
  (fun x=>∃ a b:Int,x=((r2,r8,r9,r10,r11,r13,r14,a,b,()),())∧0≤b) (fun x=>mu32 x.1.2.2.2.2.2.2.2.2.1) (fun y=>∃ q:Int,y=.inl ((r2,r8,r9,r10,r11,r13,r14,q,()),())) ?_ fuel ((r2,r8,r9,r10,r11,r13,r14,r15,r16,()),()) ⟨r15,r16,rfl,h0⟩ (by
   have:=mu32_le h0
   show mu32 r16<fuel
   unfold fuel;omega)
 ·obtain⟨y,k1,q,rfl⟩:=this
  exact⟨q,k1⟩
 ·rintro x ⟨a,b,rfl,hb⟩
  have go:(∃ x',(bif decide (IntKind.u64.wrap (b+r9)≥(4294967296:Int)) then(some (Sum.inr (Sum.inl ((r2,r8,r9,r10,r11,r13,r14,IntKind.u64.wrap (a-1),()),()))):Option (LD_div64_17.El⊕(LA_div64_17.El⊕LB_div64_17.El)))
    else some (Sum.inl ((r2,r8,r9,r10,r11,r13,r14,IntKind.u64.wrap (a-1),IntKind.u64.wrap (b+r9),()),())))=some (.inl x')∧(∃ a b:Int,x'=((r2,r8,r9,r10,r11,r13,r14,a,b,()),())∧0≤b)∧mu32 x'.1.2.2.2.2.2.2.2.2.1<mu32 b) ∨
    ∃ y,(bif decide (IntKind.u64.wrap (b+r9)≥(4294967296:Int)) then(some (Sum.inr (Sum.inl ((r2,r8,r9,r10,r11,r13,r14,IntKind.u64.wrap (a-1),()),()))):Option (LD_div64_17.El⊕(LA_div64_17.El⊕LB_div64_17.El)))
    else some (Sum.inl ((r2,r8,r9,r10,r11,r13,r14,IntKind.u64.wrap (a-1),IntKind.u64.wrap (b+r9),()),())))=some (.inr y)∧∃ q:Int,y=.inl ((r2,r8,r9,r10,r11,r13,r14,q,()),()):=by
   by_cases hc:IntKind.u64.wrap (b+r9)≥4294967296
   ·right
    rw [decide_eq_true hc]
    exact⟨_,rfl,_,rfl⟩
   ·left
    rw [decide_eq_false hc]
    exact⟨_,rfl,⟨_,_,rfl,(u64_range _).1⟩,mu32_step hb h1 h2 hc⟩
  show(∃ x',G_div64_17 r2 r8 r9 r10 r11 r13 r14 a b=_∧_)∨∃ y,G_div64_17 r2 r8 r9 r10 r11 r13 r14 a b=_∧_
  unfold G_div64_17
  by_cases c1:a≥4294967296
  ·rw [decide_eq_true c1]
   exact go
  ·rw [decide_eq_false c1]
   by_cases c2:IntKind.u64.wrap (a*r10)>IntKind.u64.wrap (IntKind.u64.wrap (4294967296*b)+r13)
   ·simp only [cond_false]
    rw [decide_eq_true c2]
    exact go
   ·simp only [cond_false]
    rw [decide_eq_false c2]
    exact .inr ⟨_,rfl,_,rfl⟩
theorem q_div64_24 (r2 r8 r9 r10 r14 r15 r16 r17 r18:Int)(h1:0<r9)(h2:r9<4294967296)(h0:0≤r16):∃ q,R_div64_24 ((r2,r8,r9,r10,r14,r15,r16,r17,r18,()),())=some (.inl ((r2,r8,r14,r15,r17,q,()),())):=by
 have:=rounds_mu (G:=fun x=>G_div64_24 x.1.1 x.1.2.1 x.1.2.2.1 x.1.2.2.2.1 x.1.2.2.2.2.1 x.1.2.2.2.2.2.1 x.1.2.2.2.2.2.2.1 x.1.2.2.2.2.2.2.2.1 x.1.2.2.2.2.2.2.2.2.1)
  (fun x=>∃ a b:Int,x=((r2,r8,r9,r10,r14,r15,b,r17,a,()),())∧0≤b) (fun x=>mu32 x.1.2.2.2.2.2.2.1) (fun y=>∃ q:Int,y=.inl ((r2,r8,r14,r15,r17,q,()),())) ?_ fuel ((r2,r8,r9,r10,r14,r15,r16,r17,r18,()),()) ⟨r18,r16,rfl,h0⟩ (by
   have:=mu32_le h0
   show mu32 r16<fuel
   unfold fuel;omega)
 ·obtain⟨y,k1,q,rfl⟩:=this
  exact⟨q,k1⟩
 ·rintro x ⟨a,b,rfl,hb⟩
  show(∃ x',G_div64_24 r2 r8 r9 r10 r14 r15 b r17 a=_∧_)∨∃ y,G_div64_24 r2 r8 r9 r10 r14 r15 b r17 a=_∧_
  have go:(∃ x',(bif decide (IntKind.u64.wrap (b+r9)≥(4294967296:Int)) then(some (Sum.inr (Sum.inl ((r2,r8,r14,r15,r17,IntKind.u64.wrap (a-1),()),()))):Option (LD_div64_24.El⊕(LA_div64_24.El⊕LB_div64_24.El)))
    else some (Sum.inl ((r2,r8,r9,r10,r14,r15,IntKind.u64.wrap (b+r9),r17,IntKind.u64.wrap (a-1),()),())))=some (.inl x')∧(∃ a b:Int,x'=((r2,r8,r9,r10,r14,r15,b,r17,a,()),())∧0≤b)∧mu32 x'.1.2.2.2.2.2.2.1<mu32 b) ∨
    ∃ y,(bif decide (IntKind.u64.wrap (b+r9)≥(4294967296:Int)) then(some (Sum.inr (Sum.inl ((r2,r8,r14,r15,r17,IntKind.u64.wrap (a-1),()),()))):Option (LD_div64_24.El⊕(LA_div64_24.El⊕LB_div64_24.El)))
    else some (Sum.inl ((r2,r8,r9,r10,r14,r15,IntKind.u64.wrap (b+r9),r17,IntKind.u64.wrap (a-1),()),())))=some (.inr y)∧∃ q:Int,y=.inl ((r2,r8,r14,r15,r17,q,()),()):=by
   by_cases hc:IntKind.u64.wrap (b+r9)≥4294967296
   ·right
    rw [decide_eq_true hc]
    exact⟨_,rfl,_,rfl⟩
   ·left
    rw [decide_eq_false hc]
    exact⟨_,rfl,⟨_,_,rfl,(u64_range _).1⟩,mu32_step hb h1 h2 hc⟩
  unfold G_div64_24
  by_cases c1:a≥4294967296
  ·rw [decide_eq_true c1]
   exact go
  ·rw [decide_eq_false c1]
   by_cases c2:IntKind.u64.wrap (a*r10)>IntKind.u64.wrap (IntKind.u64.wrap (4294967296*b)+r14)
   ·simp only [cond_false]
    rw [decide_eq_true c2]
    exact go
   ·simp only [cond_false]
    rw [decide_eq_false c2]
    exact .inr ⟨_,rfl,_,rfl⟩
theorem shift_top {c:Int}{t:Nat}(ht:t≤64)(h0:0<c)(hb:Bits c t):∃ D:Int,D=(IntKind.u64.wrap (c*(2:Int)^(64-t))).fdiv 4294967296∧0<D∧D<4294967296:=by
 have hp:(0:Int)<2^(64-t):=Int.pow_pos (by decide)
 have e:(2:Int)^t*2^(64-t)=18446744073709551616:=by
  rw [← Int.pow_add,show t+(64-t)=64 by omega];rfl
 obtain⟨b1,b2⟩:=hb
 have b2:=b2 h0
 have k1:c*(2:Int)^(64-t)<2^t*2^(64-t):=Int.mul_lt_mul_of_pos_right b1 hp
 have k2:(2:Int)^t*2^(64-t)≤(2*c)*2^(64-t):=Int.mul_le_mul_of_nonneg_right b2 (by omega)
 rw [Int.mul_assoc] at k2
 rw [e] at k1 k2
 obtain⟨X,hX⟩:∃ X,X=c*(2:Int)^(64-t):=⟨_,rfl⟩
 rw [← hX] at k1 k2 ⊢
 refine⟨_,rfl,?_⟩
 rw [u64_small (by omega) k1,Int.fdiv_eq_ediv_of_nonneg _ (by omega)]
 omega
theorem t_div64 (a b c:Int)(h0:0≤a)(h:a<c)(hc:c<18446744073709551616):Tot (F_div64 a b c):=by
 obtain⟨t,ht,hF,hB⟩:=t_len64 c (by omega) hc
 have h305:F_lz64 c=some (((64-t:Int),()):Els [I]):=by
  unfold F_lz64
  rw [hF]
  show some ((IntKind.i64.wrap (64-(t:Int)),()):Els [I])=_
  rw [wrap64 (by omega) (by omega)]
 have hs:IntKind.u64.wrap (64-(t:Int))=((64-t:Nat):Int):=by rw [u64_small (by omega) (by omega)];omega
 obtain⟨D,hD,d1,d2⟩:=shift_top ht (by omega) hB
 have hm:Min.min (64-t) 64=64-t:=by omega
 unfold F_div64
 have n0:¬c=0:=by omega
 have n1:¬c≤a:=by omega
 refine tot_no (beq_false_of_ne n0) (tot_no (decide_eq_false n1) ?_)
 by_cases ha:a=0
 ·exact tot_yes (beq_iff_eq.2 ha) (tot_no (decide_eq_false n0) (tot_no (decide_eq_false n0) (tot_some _)))
 ·refine tot_no (beq_false_of_ne ha) (tot_via h305 ?_)
  simp only [hs,Int.toNat_natCast,hm,← hD]
  refine tot_no (decide_eq_false (by omega)) (tot_no (decide_eq_false (by omega)) (tot_no (decide_eq_false (by have:=u64_range (64-((64-t:Nat):Int));omega)) (tot_no (decide_eq_false (by omega)) (tot_no (decide_eq_false (by omega)) ?_))))
  obtain⟨q,hq⟩:=q_div64_17 _ _ D _ _ _ _ _ _ d1 d2 (u64_range _).1
  refine tot_via hq ?_
  refine tot_no (decide_eq_false (by show ¬D=0;omega)) ?_
  obtain⟨q2,hq2⟩:=q_div64_24 _ _ D _ _ _ _ _ _ d1 d2 (u64_range _).1
  refine tot_via hq2 ?_
  exact tot_no (a:=none) (decide_eq_false (by show ¬((64-t:Nat):Int)<0;omega)) (tot_some _)
theorem t_w285 (a b:Int):∃ y,F_w285 a b=some y∧(y.2.1=0∨y.2.1=3∨y.2.1=4):=by
 unfold F_w285
 obtain⟨n1,u1,h1,k1⟩:=t_parts a
 obtain⟨n2,u2,h2,k2⟩:=t_parts b
 rw [h1];simp only [Option.bind_some]
 rw [h2];simp only [Option.bind_some]
 cases hz:(u2==(0:Int)) with
 | true=>exact⟨_,rfl,.inr (.inr rfl)⟩
 | false=>
  simp only [cond_false]
  by_cases hc:Int.fdiv u1 4294967296≥u2
  ·rw [decide_eq_true hc];exact⟨_,rfl,.inr (.inl rfl)⟩
  ·rw [decide_eq_false hc]
   have hf:Int.fdiv u1 4294967296=u1 / 4294967296:=Int.fdiv_eq_ediv_of_nonneg _ (by omega)
   obtain⟨z,hz⟩:=t_div64 (Int.fdiv u1 4294967296) (IntKind.u64.wrap (u1*4294967296)) u2 (by rw [hf];omega) (by omega) k2.2
   simp only [cond_false]
   rw [hz];simp only [Option.bind_some]
   obtain⟨y4,h4,k4⟩:=t_whole (!n1==n2) z.1
   rw [h4]
   exact⟨_,rfl,k4⟩
theorem t_w231 (a b:Int):Th (F_w231 a b) Any:=th_via (t_w285 a b)
theorem t_w244 (a:Vec)(b:Int):Th (F_w244 a b) Any:=.elim (t_w231 _ _) fun _ _=>.elim (t_w231 _ _) fun _ _=>.ok trivial
theorem t_w330 (a b c:Int):Tot (F_w330 a b c):=by
 unfold F_w330
 obtain⟨h,l,e,_⟩:=t_mul64 a a
 exact tot_via e (tot_cond (tot_some _) (tot_cond (tot_some _) (tot_some _)))
theorem t_w324 (a b:Int):Tot (F_w324 a b):=by
 have:=rounds_mu (G:=fun x=>G_w324_3 x.1.1 x.1.2.1 x.1.2.2.1 x.1.2.2.2.1) (fun x=>∃ u v:Int,x=((a,b,u,v,()),())) (fun x=>x.1.2.2.2.1.toNat) (fun y=>∃ q:Int,y=.inl ((q,()),())) ?_ fuel ((a,b,(0:Int),(9223372036854775808:Int),()),()) ⟨_,_,rfl⟩ (by
  show(9223372036854775808:Int).toNat<fuel
  unfold fuel;omega)
 ·obtain⟨y,k1,q,rfl⟩:=this
  unfold F_w324 R_w324_3
  exact tot_via k1 (tot_some _)
 ·rintro x ⟨u,v,rfl⟩
  show(∃ x',G_w324_3 a b u v=_∧_)∨∃ y,G_w324_3 a b u v=_∧_
  unfold G_w324_3
  by_cases hv:v>0
  ·left
   rw [decide_eq_true hv,cond_true]
   obtain⟨z,hz⟩:=t_w330 (bOr IntKind.u64 u v) a b
   rw [hz]
   have hm:(Int.fdiv v 2).toNat<v.toNat:=by rw [Int.fdiv_eq_ediv_of_nonneg _ (by omega)];omega
   simp only [Option.bind_some]
   cases z.1 with
   | true=>exact⟨_,rfl,⟨_,_,rfl⟩,hm⟩
   | false=>exact⟨_,rfl,⟨_,_,rfl⟩,hm⟩
  ·right
   rw [decide_eq_false hv]
   exact⟨_,rfl,_,rfl⟩
theorem t_w323 (a:Int):Tot (F_w323 a):=tot_cond (tot_some _) (tot_some _)
theorem ex_yes {α:Type}{c:Bool}{a b:Option α}{P:α→Prop}(h:c=true)(k:∃ y,a=some y∧P y):∃ y,(bif c then a else b)=some y∧P y:=by subst h;exact k
theorem t_w308 (a b:Int):∃ y,F_w308 a b=some y∧(y.2.1=0∨y.2.1=3∨y.2.1=4):=by
 unfold F_w308
 obtain⟨x1,h1⟩:=t_w323 a
 obtain⟨x2,h2⟩:=t_w323 b
 obtain⟨p1,q1,k1,l1,m1⟩:=t_mul64 x1.1 x1.1
 obtain⟨p2,q2,k2,l2,m2⟩:=t_mul64 x2.1 x2.1
 rw [h1];simp only [Option.bind_some]
 rw [k1];simp only [Option.bind_some]
 rw [h2];simp only [Option.bind_some]
 rw [k2];simp only [Option.bind_some]
 have c1:(0:Int)≤q1∧(0:Int)≤q2∧(0:Int)≤(0:Int)∧(0:Int)≤(1:Int):=by omega
 have c2:(0:Int)≤p1∧(0:Int)≤p2∧(0:Int)≤(q1+q2+0) / 18446744073709551616∧(q1+q2+0) / 18446744073709551616≤1:=by omega
 refine ex_yes (decide_eq_true c1) (ex_yes (decide_eq_true c2) ?_)
 obtain⟨z,hz⟩:=t_w324 ((p1+p2+(q1+q2+0) / 18446744073709551616) % 18446744073709551616) ((q1+q2+0) % 18446744073709551616)
 rw [hz];simp only [Option.bind_some]
 cases decide (z.1≥9223372036854775808) with
 | true=>exact⟨_,rfl,.inr (.inl rfl)⟩
 | false=>exact⟨_,rfl,.inl rfl⟩
abbrev Hit:=tHit.El
abbrev Box:=tBox.El
theorem any_of {α:Type}{p:Option α}(h:Tot p):∃ y,p=some y∧Any y:=by
 obtain⟨y,h⟩:=h
 exact⟨y,h,trivial⟩
theorem t_w291 (a:Vec)(b:Int):∃ y,F_w291 a b=some y∧Any y:=any_of (tot_cond (tot_some _) (tot_some _))
theorem t_w293 (a:Int):∃ y,F_w293 a=some y∧Any y:=any_of (tot_cond (tot_some _) (tot_some _))
theorem t_w319 (a b c:Int):Tot (F_w319 a b c):=tot_cond (tot_some _) (tot_cond (tot_some _) (tot_some _))
theorem t_w294 (a:Vec)(b:Box):∃ y,F_w294 a b=some y∧Any y:=any_of (tot_bind (t_w319 _ _ _) fun _=>tot_bind (t_w319 _ _ _) fun _=>tot_some _)
theorem t_w282 (a:Vec):Th (F_w282 a) Any:=by
 unfold F_w282
 refine Th.bind (t_w308 _ _) fun y hy=>Th.cond (fun hc=>.err ?_) fun _=>.ok trivial
 rcases hy with h | h
 ·rw [h] at hc;simp at hc
 ·exact h
theorem t_w168 (a:Body):Th (F_w168 a) Any:=(Th.cond (fun _=>(Th.ok trivial)) (fun _=>(Th.elim (t_w244 _ _) fun _ _=>(Th.ok trivial))))
theorem t_w243 (a:Body):Th (F_w243 a) Any:=(Th.cond (fun _=>(Th.ok trivial)) (fun _=>(Th.elim (t_w231 _ _) fun _ _=>(Th.ok trivial))))
theorem t_w164 (a:Body):Th (F_w164 a) Any:=(Th.cond (fun _=>(Th.elim (t_w227 _ _) fun _ _=>(Th.elim (t_124 _ _) fun _ _=>(Th.ok trivial)))) (fun _=>(Th.elim (t_w227 _ _) fun _ _=>(Th.elim (t_124 _ _) fun _ _=>(Th.ok trivial)))))
theorem t_w226 (a:Vec):Th (F_w226 a) Any:=(Th.elim (t_w282 _) fun _ _=>(Th.cond (fun _=>(Th.ok trivial)) (fun _=>(Th.elim (t_w244 _ _) fun _ _=>(Th.ok trivial)))))
theorem t_w292 (a b c:Int):Th (F_w292 a b c) Any:=(Th.elim (t_146 _ _) fun _ _=>(Th.cond (fun _=>(Th.elim (t_w230 _ _) fun _ _=>(Th.elim (t_w230 _ _) fun _ _=>(Th.ok trivial)))) (fun _=>(Th.elim (t_w230 _ _) fun _ _=>(Th.ok trivial)))))
theorem t_w239 (a b:Body):Th (F_w239 a b) Any:=(Th.elim (t_w227 _ _) fun _ _=>(Th.elim (t_w226 _) fun _ _=>(Th.cond (fun _=>(Th.elim (t_146 _ _) fun _ _=>(Th.elim (t_w230 _ _) fun _ _=>(Th.bind (P:=Any) (t_w291 _ _) fun _ _=>(Th.ok trivial))))) (fun _=>(Th.elim (t_146 _ _) fun _ _=>(Th.elim (t_w230 _ _) fun _ _=>(Th.bind (P:=Any) (t_w291 _ _) fun _ _=>(Th.ok trivial))))))))
theorem t_w240 (a b:Body):Th (F_w240 a b) Any:=(Th.elim (t_w227 _ _) fun _ _=>(Th.elim (t_w292 _ _ _) fun _ _=>(Th.cond (fun _=>(Th.ok trivial)) (fun _=>(Th.elim (t_w292 _ _ _) fun _ _=>(Th.cond (fun _=>(Th.bind (P:=Any) (t_w293 _) fun _ _=>(Th.bind (P:=Any) (t_w291 _ _) fun _ _=>(Th.ok trivial)))) (fun _=>(Th.bind (P:=Any) (t_w293 _) fun _ _=>(Th.bind (P:=Any) (t_w291 _ _) fun _ _=>(Th.ok trivial))))))))))
theorem t_w241 (a b:Body):Th (F_w241 a b) Any:=(Th.elim (t_w164 _) fun _ _=>(Th.bind (P:=Any) (t_w294 _ _) fun _ _=>(Th.elim (t_w227 _ _) fun _ _=>(Th.elim (t_w226 _) fun _ _=>(Th.cond (fun _=>(Th.elim (t_w240 _ _) fun _ _=>(Th.ok trivial))) (fun _=>(Th.elim (t_w230 _ _) fun _ _=>(Th.bind (P:=Any) (t_w291 _ _) fun _ _=>(Th.ok trivial)))))))))
theorem t_w242 (a:Hit):Th (F_w242 a) Any:=(Th.elim (t_w227 _ _) fun _ _=>(Th.ok trivial))
theorem t_w166 (a b:Body):Th (F_w166 a b) Any:=(Th.cond (fun _=>(Th.cond (fun _=>(Th.elim (t_w239 _ _) fun _ _=>(Th.ok trivial))) (fun _=>(Th.cond (fun _=>(Th.cond (fun _=>(Th.elim (t_w240 _ _) fun _ _=>(Th.ok trivial))) (fun _=>(Th.cond (fun _=>(Th.cond (fun _=>(Th.elim (t_w241 _ _) fun _ _=>(Th.ok trivial))) (fun _=>(Th.cond (fun _=>(Th.cond (fun _=>(Th.elim (t_w241 _ _) fun _ _=>(Th.elim (t_w242 _) fun _ _=>(Th.ok trivial)))) (fun _=>(Th.ok trivial)))) (fun _=>(Th.ok trivial)))))) (fun _=>(Th.cond (fun _=>(Th.cond (fun _=>(Th.elim (t_w241 _ _) fun _ _=>(Th.elim (t_w242 _) fun _ _=>(Th.ok trivial)))) (fun _=>(Th.ok trivial)))) (fun _=>(Th.ok trivial)))))))) (fun _=>(Th.cond (fun _=>(Th.cond (fun _=>(Th.elim (t_w241 _ _) fun _ _=>(Th.ok trivial))) (fun _=>(Th.cond (fun _=>(Th.cond (fun _=>(Th.elim (t_w241 _ _) fun _ _=>(Th.elim (t_w242 _) fun _ _=>(Th.ok trivial)))) (fun _=>(Th.ok trivial)))) (fun _=>(Th.ok trivial)))))) (fun _=>(Th.cond (fun _=>(Th.cond (fun _=>(Th.elim (t_w241 _ _) fun _ _=>(Th.elim (t_w242 _) fun _ _=>(Th.ok trivial)))) (fun _=>(Th.ok trivial)))) (fun _=>(Th.ok trivial)))))))))) (fun _=>(Th.cond (fun _=>(Th.cond (fun _=>(Th.elim (t_w240 _ _) fun _ _=>(Th.ok trivial))) (fun _=>(Th.cond (fun _=>(Th.cond (fun _=>(Th.elim (t_w241 _ _) fun _ _=>(Th.ok trivial))) (fun _=>(Th.cond (fun _=>(Th.cond (fun _=>(Th.elim (t_w241 _ _) fun _ _=>(Th.elim (t_w242 _) fun _ _=>(Th.ok trivial)))) (fun _=>(Th.ok trivial)))) (fun _=>(Th.ok trivial)))))) (fun _=>(Th.cond (fun _=>(Th.cond (fun _=>(Th.elim (t_w241 _ _) fun _ _=>(Th.elim (t_w242 _) fun _ _=>(Th.ok trivial)))) (fun _=>(Th.ok trivial)))) (fun _=>(Th.ok trivial)))))))) (fun _=>(Th.cond (fun _=>(Th.cond (fun _=>(Th.elim (t_w241 _ _) fun _ _=>(Th.ok trivial))) (fun _=>(Th.cond (fun _=>(Th.cond (fun _=>(Th.elim (t_w241 _ _) fun _ _=>(Th.elim (t_w242 _) fun _ _=>(Th.ok trivial)))) (fun _=>(Th.ok trivial)))) (fun _=>(Th.ok trivial)))))) (fun _=>(Th.cond (fun _=>(Th.cond (fun _=>(Th.elim (t_w241 _ _) fun _ _=>(Th.elim (t_w242 _) fun _ _=>(Th.ok trivial)))) (fun _=>(Th.ok trivial)))) (fun _=>(Th.ok trivial)))))))))
theorem t_w228 (a b:Body):Th (F_w228 a b) Any:=(Th.elim (t_w243 _) fun _ _=>(Th.elim (t_w243 _) fun _ _=>(Th.elim (t_146 _ _) fun _ _=>(Th.ok trivial))))
theorem t_w229 (a b:Body)(c:Vec):Th (F_w229 a b c) Any:=(Th.elim (t_w168 _) fun _ _=>(Th.elim (t_w168 _) fun _ _=>(Th.elim (t_w227 _ _) fun _ _=>(Th.elim (t_w283 _ _) fun _ _=>(Th.ok trivial)))))
theorem t_w232 (a b:Body)(c:Vec):Th (F_w232 a b c) Any:=(Th.cond (fun _=>(Th.elim (t_w227 _ _) fun _ _=>(Th.cond (fun _=>(Th.elim (t_124 _ _) fun _ _=>(Th.ok trivial))) (fun _=>(Th.ok trivial))))) (fun _=>(Th.cond (fun _=>(Th.elim (t_124 _ _) fun _ _=>(Th.ok trivial))) (fun _=>(Th.ok trivial)))))
theorem t_w163 (a b:Body)(c:Int):Th (F_w163 a b c) Any:=(Th.elim (t_w227 _ _) fun _ _=>(Th.elim (t_w226 _) fun _ _=>(Th.cond (fun _=>(Th.ok trivial)) (fun _=>(Th.elim (t_w228 _ _) fun _ _=>(Th.cond (fun _=>(Th.ok trivial)) (fun _=>(Th.elim (t_w229 _ _ _) fun _ _=>(Th.elim (t_w230 _ _) fun _ _=>(Th.elim (t_w225 _ _) fun _ _=>(Th.elim (t_146 _ _) fun _ _=>(Th.elim (t_w230 _ _) fun _ _=>(Th.elim (t_w231 _ _) fun _ _=>(Th.elim (t_w162 _ _) fun _ _=>(Th.elim (t_w232 _ _ _) fun _ _=>(Th.ok trivial))))))))))))))))
theorem t_w167 (a b:Body)(c:Hit):Th (F_w167 a b c) Any:=(Th.elim (t_w228 _ _) fun _ _=>(Th.cond (fun _=>(Th.ok trivial)) (fun _=>(Th.elim (t_w229 _ _ _) fun _ _=>(Th.cond (fun _=>(Th.elim (t_146 _ _) fun _ _=>(Th.elim (t_w230 _ _) fun _ _=>(Th.elim (t_w231 _ _) fun _ _=>(Th.elim (t_w162 _ _) fun _ _=>(Th.elim (t_w232 _ _ _) fun _ _=>(Th.elim (t_w231 _ _) fun _ _=>(Th.elim (t_w243 _) fun _ _=>(Th.elim (t_w225 _ _) fun _ _=>(Th.elim (t_w162 _ _) fun _ _=>(Th.elim (t_w227 _ _) fun _ _=>(Th.elim (t_w243 _) fun _ _=>(Th.elim (t_w225 _ _) fun _ _=>(Th.elim (t_w162 _ _) fun _ _=>(Th.elim (t_124 _ _) fun _ _=>(Th.ok trivial)))))))))))))))) (fun _=>(Th.elim (t_w231 _ _) fun _ _=>(Th.elim (t_w243 _) fun _ _=>(Th.elim (t_w225 _ _) fun _ _=>(Th.elim (t_w162 _ _) fun _ _=>(Th.elim (t_w227 _ _) fun _ _=>(Th.elim (t_w243 _) fun _ _=>(Th.elim (t_w225 _ _) fun _ _=>(Th.elim (t_w162 _ _) fun _ _=>(Th.elim (t_124 _ _) fun _ _=>(Th.ok trivial))))))))))))))))
theorem t_w310 (a:Int):F_w310 a=some ((false,()):Els [.bool]):=by
 have h:(a != a)=false:=by simp
 show some ((a != a,()):Els [.bool])=_
 rw [h]
theorem t_w288 (a b:Int):Tot (F_w288 a b):=by
 unfold F_w288
 rw [t_w310,t_w310]
 exact tot_cond (tot_some _) (tot_cond (tot_some _) (tot_some _))
end Go.DI.S
