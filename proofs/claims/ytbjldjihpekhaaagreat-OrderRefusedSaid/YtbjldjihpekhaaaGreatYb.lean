import Derived.Test.YtbjldjihpekhaaaGreatYa
/- Half turns; moves there and back, plain. No conditions. -/
set_option linter.unusedSimpArgs false
set_option linter.unusedVariables false
set_option maxRecDepth 100000
set_option maxHeartbeats 0
namespace Go.DI.S
open Go.Proofs
theorem u64y {n:Int}(h0:0≤n)(h1:n<18446744073709551616):IntKind.u64.wrap n=n:=by rw [IntKind.wrap_u64];omega
theorem bAndy0 (b:Int):bAnd IntKind.u64 0 b=0:=by
 have:BitVec.ofInt 64 0 &&& BitVec.ofInt 64 b=0#64:=by
  rw [show BitVec.ofInt 64 0=0#64 from rfl,BitVec.zero_and]
 show IntKind.u64.wrap ((BitVec.ofInt 64 0 &&& BitVec.ofInt 64 b).toNat:Int)=0
 rw [this];rfl
theorem ofInt_toNat {m:Int}(h0:0≤m)(h1:m<18446744073709551616):(BitVec.ofInt 64 m).toNat=m.toNat:=by
 rw [BitVec.toNat_ofInt]
 show(m % ((18446744073709551616:Nat):Int)).toNat=m.toNat
 omega
theorem bAndy_le (x m:Int)(h0:0≤m)(h1:m<18446744073709551616):0≤bAnd .u64 x m∧bAnd .u64 x m≤m:=by
 have e:bAnd .u64 x m=IntKind.u64.wrap (((BitVec.ofInt 64 x) &&& (BitVec.ofInt 64 m)).toNat:Int):=rfl
 have h2:((BitVec.ofInt 64 x) &&& (BitVec.ofInt 64 m)).toNat≤(BitVec.ofInt 64 m).toNat:=by
  rw [BitVec.toNat_and];exact Nat.and_le_right
 rw [ofInt_toNat h0 h1] at h2
 rw [e,u64y (by omega) (by omega)]
 omega
theorem mul64y {m:Int}(h0:0≤m)(h1:m<9223372036854775808):F_mul64 m 4294967296=some ((m / 4294967296,IntKind.u64.wrap (m*4294967296),()):Els [.int .u64,.int .u64]):=by
 have hd:Int.fdiv m 4294967296=m / 4294967296:=Int.fdiv_eq_ediv_of_nonneg _ (by omega)
 obtain⟨b0,b1⟩:=bAndy_le m 4294967295 (by omega) (by omega)
 have x1:IntKind.u64.wrap (m / 4294967296)=m / 4294967296:=u64y (by omega) (by omega)
 unfold F_mul64
 rw [show bAnd IntKind.u64 4294967296 4294967295=0 from rfl,show Int.fdiv 4294967296 4294967296=1 from rfl,hd]
 generalize bAnd IntKind.u64 m 4294967295=x0 at b0 b1 ⊢
 have y0:IntKind.u64.wrap x0=x0:=u64y b0 (by omega)
 have y1:Int.fdiv x0 4294967296=0:=by rw [Int.fdiv_eq_ediv_of_nonneg _ (by omega)];omega
 simp only [Int.mul_zero,Int.mul_one,show IntKind.u64.wrap 0=0 from rfl,show Int.fdiv 0 4294967296=0 from rfl,Int.add_zero,Int.zero_add,bAndy0,x1,y0,y1]
theorem tot_parts (a:Int):Tot (F_parts a):=tot_cond (tot_some _) (tot_some _)
theorem tot_whole (b:Bool)(u:Int):Tot (F_whole b u):=tot_cond (tot_cond (tot_some _) (tot_cond (tot_cond (tot_some _) (tot_some _)) (tot_some _))) (tot_cond (tot_cond (tot_some _) (tot_some _)) (tot_some _))
theorem tot_fmul (a b:Int):Tot (F_fmul a b):=tot_bind (tot_parts a) fun _=>tot_bind (tot_parts b) fun _=>tot_bind (tot_some _) fun _=>tot_cond (tot_some _) (tot_bind (tot_whole _ _) fun _=>tot_some _)
theorem tot_ask (a e:Int)(b:Ty.El I×Unit):Tot (F_ask a e b):=tot_cond (tot_some _) (tot_some _)
theorem tot_fsub (a b:Int):Tot (F_fsub a b):=tot_cond (tot_cond (tot_some _) (tot_some _)) (tot_some _)
theorem tot_fadd (a b:Int):Tot (F_162 a b):=tot_cond (tot_cond (tot_some _) (tot_some _)) (tot_some _)
theorem tot_rot {n:Int}(hs:Tot (F_sin n))(hc:Tot (F_cos n))(x y:Int):Tot (F_rot x y n):=
 tot_bind hs fun _=>tot_bind hc fun _=>tot_bind (tot_fmul _ _) fun _=>tot_bind (tot_ask _ _ _) fun _=>tot_bind (tot_fmul _ _) fun _=>tot_bind (tot_ask _ _ _) fun _=>tot_bind (tot_fsub _ _) fun _=>tot_bind (tot_ask _ _ _) fun _=>tot_bind (tot_fmul _ _) fun _=>tot_bind (tot_ask _ _ _) fun _=>tot_bind (tot_fmul _ _) fun _=>tot_bind (tot_ask _ _ _) fun _=>tot_bind (tot_fadd _ _) fun _=>tot_bind (tot_ask _ _ _) fun _=>tot_cond (tot_some _) (tot_some _)
def mv (q p:Vec):Vec⊕Int:=movV p q
theorem move_mv (w:tWorker.El)(p:Vec):F_move w p=some (match mv (w.2.2.1,w.2.2.2.1) p with | .inl q=>.inl ((q,()):Els [tVec]) | .inr e=>.inr e):=by
 unfold F_move
 have hb:F_by w=some (((w.2.2.1,w.2.2.2.1),()):Els [tVec]):=rfl
 rw [hb]
 simp only [Option.bind_some]
 rw [v_124]
 unfold mv
 cases movV p (w.2.2.1,w.2.2.2.1) <;> rfl
theorem mv_err (q p:Vec)(e:Int)(h:mv q p=.inr e):e≠0:=movV_err h
theorem y0:gRow (-1000) 1001=true:=by kernel_rfl
theorem y1:gRow 1 1000=true:=by kernel_rfl
end Go.DI.S
