import Derived.Test.YtbjldjihpekhaaaGreatYa
/- Half turns; moves there and back, plain. No conditions. -/
set_option linter.unusedSimpArgs false
set_option linter.unusedVariables false
set_option maxRecDepth 100000
set_option maxHeartbeats 0
namespace Go.DI.S
open Go.Proofs
theorem aJ6 {n:Int}(h0:0≤n)(h1:n<18446744073709551616):IntKind.u64.wrap n=n:=by rw [IntKind.wrap_u64];omega
theorem a6t (b:Int):xC IntKind.u64 0 b=0:=by
 have:BitVec.ofInt 64 0 &&& BitVec.ofInt 64 b=0#64:=by
  rw [show BitVec.ofInt 64 0=0#64 from rfl,BitVec.zero_and]
 show IntKind.u64.wrap ((BitVec.ofInt 64 0 &&& BitVec.ofInt 64 b).toNat:Int)=0;rw [this];rfl
theorem aGR {m:Int}(h0:0≤m)(h1:m<18446744073709551616):(BitVec.ofInt 64 m).toNat=m.toNat:=by
 rw [BitVec.toNat_ofInt];show(m % ((18446744073709551616:Nat):Int)).toNat=m.toNat;omega
theorem aVh (x m:Int)(h0:0≤m)(h1:m<18446744073709551616):0≤xC .u64 x m∧xC .u64 x m≤m:=by
 have e:xC .u64 x m=IntKind.u64.wrap (((BitVec.ofInt 64 x) &&& (BitVec.ofInt 64 m)).toNat:Int):=rfl;have h2:((BitVec.ofInt 64 x) &&& (BitVec.ofInt 64 m)).toNat≤(BitVec.ofInt 64 m).toNat:=by
  rw [BitVec.toNat_and];exact Nat.and_le_right
 rw [aGR h0 h1] at h2;rw [e,aJ6 (by omega) (by omega)];omega
theorem a6u {m:Int}(h0:0≤m)(h1:m<9223372036854775808):k9 m 4294967296=some ((m / 4294967296,IntKind.u64.wrap (m*4294967296),()):aS [.int .u64,.int .u64]):=by
 have hd:Int.fdiv m 4294967296=m / 4294967296:=a9r _ (by omega);obtain⟨b0,b1⟩:=aVh m 4294967295 (by omega) (by omega);have x1:IntKind.u64.wrap (m / 4294967296)=m / 4294967296:=aJ6 (by omega) (by omega);unfold k9;rw [show xC IntKind.u64 4294967296 4294967295=0 from rfl,show Int.fdiv 4294967296 4294967296=1 from rfl,hd];generalize xC IntKind.u64 m 4294967295=x0 at b0 b1 ⊢;have y0:IntKind.u64.wrap x0=x0:=aJ6 b0 (by omega);have y1:Int.fdiv x0 4294967296=0:=by rw [a9r _ (by omega)];omega
 simp only [Int.mul_zero,Int.mul_one,show IntKind.u64.wrap 0=0 from rfl,show Int.fdiv 0 4294967296=0 from rfl,Int.add_zero,Int.zero_add,a6t,x1,y0,y1]
def Far (a:Int):Prop:=-42949672960000≤a∧a≤42949672960000
theorem ZX (a:Int):lK (rB a):=bH (aO _) (aO _)
theorem aP7 (b:Bool)(u:Int):lK (AK b u):=bH (bH (aO _) (bH (bH (aO _) (aO _)) (aO _))) (bH (bH (aO _) (aO _)) (aO _))
theorem GR (a b:Int):lK (vZ a b):=bV (ZX a) fun _=>bV (ZX b) fun _=>bV (aO _) fun _=>bH (aO _) (bV (aP7 _ _) fun _=>aO _)
theorem A0 (a e:Int)(b:Ty.El I×Unit):lK (ME a e b):=bH (aO _) (aO _)
theorem aVi (a b:Int):lK (JZ a b):=bH (bH (aO _) (aO _)) (aO _)
theorem aVj (a b:Int):lK (SS a b):=bH (bH (aO _) (aO _)) (aO _)
theorem a0m {n:Int}(hs:lK (aGm n))(hc:lK (aMF n))(x y:Int):lK (aMH x y n):=
 bV hs fun _=>bV hc fun _=>bV (GR _ _) fun _=>bV (A0 _ _ _) fun _=>bV (GR _ _) fun _=>bV (A0 _ _ _) fun _=>bV (aVi _ _) fun _=>bV (A0 _ _ _) fun _=>bV (GR _ _) fun _=>bV (A0 _ _ _) fun _=>bV (GR _ _) fun _=>bV (A0 _ _ _) fun _=>bV (aVj _ _) fun _=>bV (A0 _ _ _) fun _=>bH (aO _) (aO _)
def Ends (P:Prop)(a:Option (aS [.bool])):Prop:=∀ b,a=some (b,())→b=true→P
theorem oQ {P:Prop}{c:Bool}{a b:Option (aS [.bool])}(h:Ends P a)(k:Ends P b):Ends P (bif c then a else b):=by cases c <;> assumption
theorem mB {P:Prop}:Ends P (some (false,())):=fun b h hb=>by cases h;cases hb
theorem oR {α:Type}{P:Prop}{a:Option α}{f:α→Option (aS [.bool])}(h:∀ v,Ends P (f v)):Ends P (a.bind f):=fun b hb k=>by
 obtain⟨v,_,hv⟩:=aXE.1 hb;exact h v b hv k
theorem aGS {a b c:Int}:jG a b c=some ((decide (b≤a)&&decide (a≤c),()):aS [.bool]):=by
 unfold jG;cases decide (b≤a) <;> rfl
def aCZ (a:Int):Bool:=decide (-42949672960000≤a)&&decide (a≤42949672960000)
theorem aGT {a:Int}(h:aCZ a=true):Far a:=by
 unfold aCZ at h;rw [aKS] at h;exact⟨aXU h.1,aXU h.2⟩
theorem aVk {p:fW}:dW p 42949672960000=some ((aCZ p.1&&aCZ p.2,()):aS [.bool]):=by
 unfold dW;rw [show IntKind.i64.wrap ((0:Int)-42949672960000)=-42949672960000 from by kernel_rfl,aGS,aGS];simp only [aEk];show(bif aCZ p.1 then(some (aCZ p.2,()):Option (aS [.bool])).bind _ else _)=_;cases aCZ p.1 <;> rfl
theorem aVl {p:fW}{f:aS [.bool]→Option (aS [.bool])}:Ends (Far p.1∧Far p.2) ((dW p 42949672960000).bind fun v=>bif v.1 then f v else some (false,())):=by
 intro b hb k;rw [aVk] at hb;simp only [aEk] at hb;cases h1:aCZ p.1 with
 | false=>rw [h1] at hb;cases hb;cases k
 | true=>
  cases h2:aCZ p.2 with
  | false=>rw [h1,h2] at hb;cases hb;cases k
  | true=>exact⟨aGT h1,aGT h2⟩
theorem a6v {b:Body}(h:rb b=true):Far b.2.2.2.1.1∧Far b.2.2.2.1.2:=by
 have h88:=aPW b;rw [h] at h88;have:Ends (Far b.2.2.2.1.1∧Far b.2.2.2.1.2) (l5 b):=by
  unfold l5
  repeat' first
   | exact mB
   | exact aVl
   | refine oQ ?_ ?_
   | refine oR fun _=>?_
 exact this true h88 rfl
def mv (q p:fW):fW⊕Int:=XQ p q
theorem a0n (w:aR.El)(p:fW):JX w p=some (match mv (w.2.2.1,w.2.2.2.1) p with | .inl q=>.inl ((q,()):aS [aU]) | .inr e=>.inr e):=by
 unfold JX;have hb:aPD w=some (((w.2.2.1,w.2.2.2.1),()):aS [aU]):=rfl;rw [hb];simp only [aEk];rw [a27];unfold mv;cases XQ p (w.2.2.1,w.2.2.2.1) <;> rfl
theorem a6w (q p:fW)(e:Int)(h:mv q p=.inr e):e≠0:=aGE h
theorem y0:a6q (-1000) 1001=true:=by kernel_rfl
theorem y1:a6q 1 1000=true:=by kernel_rfl
end Go.DI.S
