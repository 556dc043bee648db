import Derived.Test.YtehbnnmokbgiiaaGreatWg
import Derived.KernelRfl
/- A world of one body; WorldFalls, WorldAlone, plain. No conditions. -/
/-! Plain: a world of one body. -/
set_option linter.unusedVariables false
set_option linter.unusedSimpArgs false
set_option maxRecDepth 100000
namespace Go.DI.S
open Go.Proofs
/-! ### a world of one body -/
theorem one_in {b : Body} : decide ((0 : Int) ≤ (0 : Int) ∧ (0 : Int) < ((List.length [b] : Nat) : Int)) = true := rfl
theorem o_74 {g : Vec} {js : List Joint} {b : Body} {a s v : Vec} (hm : b.2.2.1 ≠ 0) (h1 : F_162 g b.2.2.1 = some (.inl ((a, ()) : Els [tVec]))) (h2 : F_161 a 64 = some (.inl ((s, ()) : Els [tVec]))) (h3 : F_62 b.2.2.2.2 s = some (.inl ((v, ()) : Els [tVec]))) :
    F_74 (g, (), js, ()) [b] = some (.inl ((), [(b.1, b.2.1, b.2.2.1, b.2.2.2.1, v)], ())) := by
  have hb : (b.2.2.1 != (0 : Int)) = true := by simpa using hm
  have g1 : G_74_2 1 0 [b] (g, (), js, ()) = some (.inl (((), (), (1 : Int), (1 : Int), ()), [(b.1, b.2.1, b.2.2.1, b.2.2.2.1, v)], (g, (), js, ()), ())) := by
    unfold G_74_2
    have e : (([b] : List Body).getD (Int.toNat 0) tBody.dflt) = b := rfl
    have d1 : decide ((0 : Int) < 1) = true := rfl
    simp only [d1, cond_true, one_in, e, hb]
    rw [h1]; simp only [Option.bind_some, Sum.elim_inl]
    rw [h2]; simp only [Option.bind_some, Sum.elim_inl]
    rw [h3]; rfl
  have g2 : ∀ l : List Body, G_74_2 1 1 l (g, (), js, ()) = some (.inr (.inl (.inl ((), l, ())))) := fun l => rfl
  unfold F_74 R_74_2
  rw [show fuel = 18446744073709551614 + 1 + 1 from rfl, rounds_in (x' := (((), (), (1 : Int), (1 : Int), ()), [(b.1, b.2.1, b.2.2.1, b.2.2.2.1, v)], (g, (), js, ()), ())) g1, rounds_out (y := Sum.inl (Sum.inl ((), [(b.1, b.2.1, b.2.2.1, b.2.2.2.1, v)], ()))) (g2 _)]
  rfl
theorem o_75 (g : Vec) (l : List Body) : F_75 (g, (), [], ()) l = some (.inl ((), l, ())) := by
  have h4 : ∀ r4 : Int, R_75_4 (((), r4, [], (([] : List Joint).length : Int), (0 : Int), ()), l, (g, (), [], ()), ()) = some (.inl (.inl (((), r4, ()), l, (g, (), [], ()), ()))) := fun r4 => by
    unfold R_75_4
    rw [show fuel = 18446744073709551615 + 1 from rfl]
    exact rounds_out (y := Sum.inl (Sum.inl (((), r4, ()), l, (g, (), [], ()), ()))) rfl _
  have := rounds_to (G := fun x => G_75_2 x.1.2.1 x.2.1 x.2.2.1) (inv := fun i => (((), (i : Int), ()), l, (g, (), [], ()), ())) (n := 4) (y := Sum.inl (Sum.inl ((), l, ()))) ?_ ?_ 4 0 fuel (by omega) (by unfold fuel; omega)
  · unfold F_75 R_75_2
    have this : roundsT (fun x => G_75_2 x.1.2.1 x.2.1 x.2.2.1) fuel (((), (0 : Int), ()), l, (g, (), [], ()), ()) = some (.inl (.inl ((), l, ()))) := this
    rw [this]; rfl
  · intro i hi
    show G_75_2 (i : Int) l (g, (), [], ()) = _
    unfold G_75_2
    rw [decide_eq_true (show (i : Int) < 4 by omega), cond_true, h4]
    simp only [Option.bind_some, Sum.elim_inl, wrap_up hi (by omega)]
  · rfl
theorem zero_one (a b : Int) (h1 : 0 ≤ a) (h2 : a < ((1 : Nat) : Int)) (h3 : 0 ≤ b) (h4 : b < ((1 : Nat) : Int)) : a = b := by omega
theorem o_165 (x : Box) : F_165 [x] = some (([], ()) : Els [.list tPair]) := by
  obtain ⟨ps, e, h, _⟩ := k_165 (bs := [x]) (by show 1 ≤ 10; omega)
  cases ps with
  | nil => exact e
  | cons p ps =>
    exfalso
    obtain ⟨⟨⟨h1, h2⟩, h3, h4⟩, h5⟩ := h p (List.mem_cons_self ..)
    exact h5 (zero_one _ _ h1 h2 h3 h4)
theorem o_76 {g : Vec} {js : List Joint} {b : Body} {x : Box} (h : F_164 b = some (.inl ((x, ()) : Els [tBox]))) : F_76 (g, (), js, ()) [b] = some (.inl ((), [b], ())) := by
  have g1 : G_76_3 1 0 [b] (g, (), js, ()) [] = some (.inl (((), (), (), (1 : Int), (1 : Int), ()), [b], (g, (), js, ()), [x], ())) := by
    unfold G_76_3
    have e : (([b] : List Body).getD (Int.toNat 0) tBody.dflt) = b := rfl
    have d1 : decide ((0 : Int) < 1) = true := rfl
    simp only [d1, cond_true, one_in, e]
    rw [h]; rfl
  have g2 : G_76_3 1 1 [b] (g, (), js, ()) [x] = some (.inr (.inl (.inl (((), (), ()), [b], (g, (), js, ()), [x], ())))) := rfl
  have g3 : R_76_8 (((), [], (([] : List Pair).length : Int), (0 : Int), ()), [b], (g, (), js, ()), ()) = some (.inl (.inl ((), [b], ()))) := by
    unfold R_76_8
    rw [show fuel = 18446744073709551615 + 1 from rfl]
    exact rounds_out (y := Sum.inl (Sum.inl ((), [b], ()))) rfl _
  have g4 : R_76_3 (((), (), (), (([b] : List Body).length : Int), (0 : Int), ()), [b], (g, (), js, ()), [], ()) = some (.inl (.inl (((), (), ()), [b], (g, (), js, ()), [x], ()))) := by
    unfold R_76_3
    rw [show fuel = 18446744073709551614 + 1 + 1 from rfl]
    exact (rounds_in (x' := (((), (), (), (1 : Int), (1 : Int), ()), [b], (g, (), js, ()), [x], ())) g1 _).trans (rounds_out (y := Sum.inl (Sum.inl (((), (), ()), [b], (g, (), js, ()), [x], ()))) g2 _)
  unfold F_76
  rw [g4]
  simp only [Option.bind_some, Sum.elim_inl]
  rw [o_165]
  simp only [Option.bind_some]
  rw [g3]; rfl
theorem o_77 {g : Vec} {js : List Joint} {b : Body} {a s v : Vec} (hm : b.2.2.1 ≠ 0) (h1 : F_168 b = some (.inl ((a, ()) : Els [tVec]))) (h2 : F_161 a 64 = some (.inl ((s, ()) : Els [tVec]))) (h3 : F_62 b.2.2.2.1 s = some (.inl ((v, ()) : Els [tVec]))) :
    F_77 (g, (), js, ()) [b] = some (.inl ((), [(b.1, b.2.1, b.2.2.1, v, b.2.2.2.2)], ())) := by
  have hb : (b.2.2.1 != (0 : Int)) = true := by simpa using hm
  have g1 : G_77_2 1 0 [b] (g, (), js, ()) = some (.inl (((), (), (1 : Int), (1 : Int), ()), [(b.1, b.2.1, b.2.2.1, v, b.2.2.2.2)], (g, (), js, ()), ())) := by
    unfold G_77_2
    have e : (([b] : List Body).getD (Int.toNat 0) tBody.dflt) = b := rfl
    have d1 : decide ((0 : Int) < 1) = true := rfl
    simp only [d1, cond_true, one_in, e, hb]
    rw [h1]; simp only [Option.bind_some, Sum.elim_inl]
    rw [h2]; simp only [Option.bind_some, Sum.elim_inl]
    rw [h3]; rfl
  have g2 : ∀ l : List Body, G_77_2 1 1 l (g, (), js, ()) = some (.inr (.inl (.inl ((), l, ())))) := fun l => rfl
  unfold F_77 R_77_2
  rw [show fuel = 18446744073709551614 + 1 + 1 from rfl, rounds_in (x' := (((), (), (1 : Int), (1 : Int), ()), [(b.1, b.2.1, b.2.2.1, v, b.2.2.2.2)], (g, (), js, ()), ())) g1, rounds_out (y := Sum.inl (Sum.inl ((), [(b.1, b.2.1, b.2.2.1, v, b.2.2.2.2)], ()))) (g2 _)]
  rfl
/-- A step of one body. -/
theorem one_step {g : Vec} {b : Body} {a s v a' s' v' : Vec} {x : Box} (hm : b.2.2.1 ≠ 0) (h1 : F_162 g b.2.2.1 = some (.inl ((a, ()) : Els [tVec]))) (h2 : F_161 a 64 = some (.inl ((s, ()) : Els [tVec]))) (h3 : F_62 b.2.2.2.2 s = some (.inl ((v, ()) : Els [tVec])))
    (h4 : F_164 (b.1, b.2.1, b.2.2.1, b.2.2.2.1, v) = some (.inl ((x, ()) : Els [tBox])))
    (h5 : F_168 (b.1, b.2.1, b.2.2.1, b.2.2.2.1, v) = some (.inl ((a', ()) : Els [tVec]))) (h6 : F_161 a' 64 = some (.inl ((s', ()) : Els [tVec]))) (h7 : F_62 b.2.2.2.1 s' = some (.inl ((v', ()) : Els [tVec])))
    (hr : rb (g, [b], []) = true) (hr' : rb (g, [(b.1, b.2.1, b.2.2.1, v', v)], []) = true) :
    stp (g, [b], []) = ((g, [(b.1, b.2.1, b.2.2.1, v', v)], []), 0) := by
  have hg : Good (g, [b], []) := ⟨by show 1 ≤ 10; omega, by show 0 ≤ 1000; omega⟩
  have hF : F_23 (g, [b], []) = some (((g, [(b.1, b.2.1, b.2.2.1, v', v)], []), (0 : Int), ()) : Els [tWorld, I]) := by
    obtain ⟨e16, _⟩ := t_16 (g, [b], []) (by show 1 ≤ 1000000; omega) (by show 0 ≤ 1000000; omega)
    obtain ⟨e16', _⟩ := t_16 (g, [(b.1, b.2.1, b.2.2.1, v', v)], []) (by show 1 ≤ 1000000; omega) (by show 0 ≤ 1000000; omega)
    have h73 : F_73 (g, (), [], ()) [b] = some (.inl ((), (g, (), [], ()), [(b.1, b.2.1, b.2.2.1, v', v)], ())) := by
      unfold F_73
      rw [o_74 hm h1 h2 h3]
      simp only [Option.bind_some, Sum.elim_inl]
      rw [o_75]
      simp only [Option.bind_some, Sum.elim_inl]
      rw [o_76 h4]
      simp only [Option.bind_some, Sum.elim_inl]
      rw [o_77 (b := (b.1, b.2.1, b.2.2.1, b.2.2.2.1, v)) hm h5 h6 h7]
      rfl
    unfold F_23
    rw [e16, hr]
    simp only [Option.bind_some, Bool.not_true, cond_false]
    rw [e56 (g, [b], []) hg]
    simp only [Option.bind_some]
    rw [e57 (g, [b], []) hg]
    simp only [Option.bind_some]
    unfold F_60_73
    rw [h73]
    simp only [Option.bind_some, Sum.elim_inl]
    have h00 : ((0 : Int) == 0) = true := rfl
    rw [h00, cond_true, e16', hr']
    rfl
  unfold stp
  rw [hF]
/-! ### numbers -/
theorem n_62 {a b : Vec} (ha : In2 a) (hb : In2 b) (h1 : In64 (a.1 + b.1)) (h2 : In64 (a.2 + b.2)) : F_62 a b = some (.inl (((a.1 + b.1, a.2 + b.2), ()) : Els [tVec])) := by
  unfold F_62
  rw [n_154 ha.1 hb.1 h1]
  simp only [Option.bind_some, Sum.elim_inl]
  rw [n_154 ha.2 hb.2 h2]; rfl
theorem n_227 {a b : Vec} (ha : In2 a) (hb : In2 b) (h1 : In64 (a.1 - b.1)) (h2 : In64 (a.2 - b.2)) : F_227 a b = some (.inl (((a.1 - b.1, a.2 - b.2), ()) : Els [tVec])) := by
  unfold F_227
  rw [n_230 ha.1 hb.1 h1]
  simp only [Option.bind_some, Sum.elim_inl]
  rw [n_230 ha.2 hb.2 h2]; rfl
theorem n_161 {a : Vec} {p q : Int} (h1 : a.1 = 64 * p) (h2 : a.2 = 64 * q) (hp : In64 p) (hq : In64 q) : F_161 a 64 = some (.inl (((p, q), ()) : Els [tVec])) := by
  have e : ∀ x y : Int, x = 64 * y → In64 y → F_224 x 64 = some (.inl ((y, ()) : Els [I])) := by
    intro x y h k
    unfold F_224
    have d1 : ((64 : Int) == 0) = false := rfl
    have d2 : ((64 : Int) == -1) = false := rfl
    have d3 : decide ((64 : Int) = 0) = false := rfl
    rw [d1, cond_false, d2, cond_false, d3, cond_false, h, Int.mul_tdiv_cancel_left _ (by decide), wrap64 k.1 k.2]
  unfold F_161
  rw [e _ _ h1 hp]
  simp only [Option.bind_some, Sum.elim_inl]
  rw [e _ _ h2 hq]; rfl
theorem n_box {b : Body} {sz : Vec} (hs : (b.1 = 1 ∧ sz = (b.2.1.1, b.2.1.1)) ∨ (b.1 ≠ 1 ∧ sz = b.2.1)) (h1 : Near b.2.2.2.1.1 1000000000000000000 ∧ Near b.2.2.2.1.2 1000000000000000000) (h2 : Near sz.1 1000000000000000000 ∧ Near sz.2 1000000000000000000) : ∃ x, F_164 b = some (.inl ((x, ()) : Els [tBox])) := by
  obtain ⟨⟨a1, a2⟩, a3, a4⟩ := h1
  obtain ⟨⟨b1, b2⟩, b3, b4⟩ := h2
  have e1 : F_227 b.2.2.2.1 sz = _ := n_227 ⟨⟨by omega, by omega⟩, by omega, by omega⟩ ⟨⟨by omega, by omega⟩, by omega, by omega⟩ ⟨by omega, by omega⟩ ⟨by omega, by omega⟩
  have e2 : F_62 b.2.2.2.1 sz = _ := n_62 ⟨⟨by omega, by omega⟩, by omega, by omega⟩ ⟨⟨by omega, by omega⟩, by omega, by omega⟩ ⟨by omega, by omega⟩ ⟨by omega, by omega⟩
  unfold F_164
  rcases hs with ⟨h, rfl⟩ | ⟨h, rfl⟩
  · have d : (b.1 == (1 : Int)) = true := by simpa using h
    rw [d, cond_true, e1]
    simp only [Option.bind_some, Sum.elim_inl]
    rw [e2]
    exact ⟨_, rfl⟩
  · have d : (b.1 == (1 : Int)) = false := by simpa using h
    rw [d, cond_false, e1]
    simp only [Option.bind_some, Sum.elim_inl]
    rw [e2]
    exact ⟨_, rfl⟩
end Go.DI.S

/-! Products and quotients of some numbers, each by the kernel. -/
set_option linter.unusedVariables false
set_option linter.unusedSimpArgs false
set_option maxRecDepth 100000
namespace Go.DI.S
open Go.Proofs
/-- Is that what comes of it? -/
noncomputable def isV (p : Option (Els [I] ⊕ Int)) (v : Int) : Bool := match p with
  | some (.inl y) => y.1 == v
  | _ => false
theorem isV_eq {p : Option (Els [I] ⊕ Int)} {v : Int} (h : isV p v = true) : p = some (.inl ((v, ()) : Els [I])) := by
  unfold isV at h
  split at h
  · rename_i y
    obtain ⟨a, u⟩ := y
    have h : a = v := beq_iff_eq.1 h
    rw [h]
  · cases h
noncomputable def allN (f : Int → Bool) (a : Int) : Nat → Bool
  | 0 => true
  | n + 1 => f a && allN f (a + 1) n
theorem allN_at {f : Int → Bool} : ∀ (n : Nat) (a : Int), allN f a n = true → ∀ x, a ≤ x → x < a + n → f x = true
  | 0, a, _, x, h1, h2 => by omega
  | n + 1, a, h, x, h1, h2 => by
    unfold allN at h
    rw [Bool.and_eq_true] at h
    by_cases hx : x = a
    · rw [hx]; exact h.1
    · exact allN_at n (a + 1) h.2 x (by omega) (by omega)
noncomputable def chkD (t : Int) : Bool := isV (F_231 (t * 67108864) 4294967296) (t * 67108864)
noncomputable def chkM (t : Int) : Bool := isV (F_225 (t * 4294967296) 4294967296) (t * 4294967296)
noncomputable def chkA (t : Int) : Bool := isV (F_231 (2 * t * 4294967296) 8589934592) (t * 4294967296)
theorem tabM : allN chkM (-100) 201 = true := by kernel_rfl
theorem tabA : allN chkA (-100) 201 = true := by kernel_rfl
theorem tabD_0 : allN chkD (-6000) 2001 = true := by kernel_rfl
theorem tabD_1 : allN chkD (-4000) 2001 = true := by kernel_rfl
theorem tabD_2 : allN chkD (-2000) 2001 = true := by kernel_rfl
end Go.DI.S

/-! Quotients of some more numbers, each by the kernel. -/
set_option linter.unusedVariables false
set_option linter.unusedSimpArgs false
set_option maxRecDepth 100000
namespace Go.DI.S
open Go.Proofs
theorem tabD_3 : allN chkD (0) 2001 = true := by kernel_rfl
theorem tabD_4 : allN chkD (2000) 2001 = true := by kernel_rfl
theorem tabD_5 : allN chkD (4000) 2001 = true := by kernel_rfl
theorem tabD (t : Int) (h1 : -6000 ≤ t) (h2 : t ≤ 6000) : F_231 (t * 67108864) 4294967296 = some (.inl ((t * 67108864, ()) : Els [I])) := by
  refine isV_eq ?_
  show chkD t = true
  by_cases c1 : t ≤ -4000
  · exact allN_at 2001 _ tabD_0 t (by omega) (by omega)
  by_cases c2 : t ≤ -2000
  · exact allN_at 2001 _ tabD_1 t (by omega) (by omega)
  by_cases c3 : t ≤ 0
  · exact allN_at 2001 _ tabD_2 t (by omega) (by omega)
  by_cases c4 : t ≤ 2000
  · exact allN_at 2001 _ tabD_3 t (by omega) (by omega)
  by_cases c5 : t ≤ 4000
  · exact allN_at 2001 _ tabD_4 t (by omega) (by omega)
  · exact allN_at 2001 _ tabD_5 t (by omega) (by omega)
theorem valM (t : Int) (h1 : -100 ≤ t) (h2 : t ≤ 100) : F_225 (t * 4294967296) 4294967296 = some (.inl ((t * 4294967296, ()) : Els [I])) :=
  isV_eq (allN_at 201 _ tabM t (by omega) (by omega))
theorem valA (t : Int) (h1 : -100 ≤ t) (h2 : t ≤ 100) : F_231 (2 * t * 4294967296) 8589934592 = some (.inl ((t * 4294967296, ()) : Els [I])) :=
  isV_eq (allN_at 201 _ tabA t (by omega) (by omega))
end Go.DI.S

/-! WorldFalls, WorldAlone. -/
set_option linter.unusedVariables false
set_option linter.unusedSimpArgs false
set_option maxRecDepth 100000
namespace Go.DI.S
open Go.Proofs
/-! ### WorldFalls -/
def ball (q p : Int) : Body := ((1 : Int), ((4294967296 : Int), (0 : Int)), (4294967296 : Int), ((0 : Int), q * 1048576), ((0 : Int), p * 67108864))
def wS (g p q : Int) : World' := (((0 : Int), g * 4294967296), [ball q p], [])
theorem near_151 {a : Vec} {m : Int} (h0 : 0 ≤ m) (hm : m < 4611686018427387904) (h : Near a.1 m ∧ Near a.2 m) : F_151 a m = some ((true, ()) : Els [.bool]) := by
  obtain ⟨v, e, hv⟩ := v_151 a m h0 hm
  rw [e, hv.2 h]
theorem rB_of {b : Body} (h : F_58 b = (F_151 b.2.2.2.1 (42949672960000 : Int)).bind fun v => bif v.fst then (F_151 b.2.2.2.2 (4294967296000000 : Int)).bind fun u => Option.some ((u.fst, ()) : Els [.bool]) else Option.some (Bool.false, ()))
    (h1 : Near b.2.2.2.1.1 42949672960000 ∧ Near b.2.2.2.1.2 42949672960000) (h2 : Near b.2.2.2.2.1 4294967296000000 ∧ Near b.2.2.2.2.2 4294967296000000) : rB b = true := by
  have e : F_58 b = some ((true, ()) : Els [.bool]) := by
    rw [h, near_151 (by omega) (by omega) h1]
    simp only [Option.bind_some, cond_true]
    rw [near_151 (by omega) (by omega) h2]; rfl
  unfold rB
  rw [e]
theorem in0 : In64 0 := ⟨by decide, by decide⟩
theorem in2z {a : Int} (h : In64 a) : In2 ((0 : Int), a) := ⟨in0, h⟩
theorem near0 {m : Int} (h : 0 ≤ m) : Near 0 m := ⟨by omega, h⟩
theorem ball_right {q p : Int} (hq : -1000000 ≤ q ∧ q ≤ 1000000) (hp : -6000 ≤ p ∧ p ≤ 6000) : rB (ball q p) = true := by
  refine rB_of rfl ⟨near0 (by omega), ?_⟩ ⟨near0 (by omega), ?_⟩
  · show Near (q * 1048576) 42949672960000
    exact ⟨by omega, by omega⟩
  · show Near (p * 67108864) 4294967296000000
    exact ⟨by omega, by omega⟩
theorem wS_right {g p q : Int} (hg : -100 ≤ g ∧ g ≤ 100) (hq : -1000000 ≤ q ∧ q ≤ 1000000) (hp : -6000 ≤ p ∧ p ≤ 6000) : rb (wS g p q) = true := by
  refine (rb_iff (wS g p q) (by show 1 ≤ 1000000; omega) (by show 0 ≤ 1000000; omega)).2 ⟨fun b hb => ?_, fun j hj => (by cases hj), near0 (by omega), ?_⟩
  · rw [List.mem_singleton.1 hb]; exact ball_right hq hp
  · show Near (g * 4294967296) 4294967296000
    exact ⟨by omega, by omega⟩
theorem wS_step {g p q : Int} (hg : -100 ≤ g ∧ g ≤ 100) (hq : -1000000 ≤ q ∧ q ≤ 1000000) (hp : -6000 ≤ p ∧ p ≤ 6000) (hp' : -6000 ≤ p + g ∧ p + g ≤ 6000) (hq' : -1000000 ≤ q + (p + g) ∧ q + (p + g) ≤ 1000000) :
    stp (wS g p q) = (wS g (p + g) (q + (p + g)), 0) := by
  have e0 : F_225 0 4294967296 = some (.inl ((0, ()) : Els [I])) := m_0l _
  have hM := valM g hg.1 hg.2
  have hD := tabD (p + g) hp'.1 hp'.2
  have hD0 : F_231 0 4294967296 = some (.inl ((0, ()) : Els [I])) := tabD 0 (by omega) (by omega)
  have h1 : F_162 ((0 : Int), g * 4294967296) 4294967296 = some (.inl ((((0 : Int), g * 4294967296), ()) : Els [tVec])) := by
    unfold F_162
    rw [e0]
    simp only [Option.bind_some, Sum.elim_inl]
    rw [hM]; rfl
  have h2 : F_161 ((0 : Int), g * 4294967296) 64 = some (.inl ((((0 : Int), g * 67108864), ()) : Els [tVec])) :=
    n_161 (p := 0) (q := g * 67108864) rfl (by show g * 4294967296 = 64 * (g * 67108864); omega) ⟨by omega, by omega⟩ ⟨by omega, by omega⟩
  have h3 : F_62 ((0 : Int), p * 67108864) ((0 : Int), g * 67108864) = some (.inl ((((0 : Int), (p + g) * 67108864), ()) : Els [tVec])) := by
    have := n_62 (a := ((0 : Int), p * 67108864)) (b := ((0 : Int), g * 67108864)) (in2z ⟨by omega, by omega⟩) (in2z ⟨by omega, by omega⟩) in0 (show In64 (p * 67108864 + g * 67108864) from ⟨by omega, by omega⟩)
    rw [this, show (p + g) * 67108864 = p * 67108864 + g * 67108864 by omega]; rfl
  obtain ⟨x, h4⟩ := n_box (b := ball q (p + g)) (sz := ((4294967296 : Int), (4294967296 : Int))) (.inl ⟨rfl, rfl⟩) ⟨near0 (by omega), by show Near (q * 1048576) _; exact ⟨by omega, by omega⟩⟩ ⟨⟨by decide, by decide⟩, by decide, by decide⟩
  have h5 : F_168 (ball q (p + g)) = some (.inl ((((0 : Int), (p + g) * 67108864), ()) : Els [tVec])) := by
    have : F_168 (ball q (p + g)) = (F_244 ((0 : Int), (p + g) * 67108864) 4294967296).bind fun v2 => Sum.elim (fun v4 => Option.some (Sum.inl (v4.fst, ()))) (fun v5 => Option.some (Sum.inr v5)) v2 := rfl
    rw [this]
    have : F_244 ((0 : Int), (p + g) * 67108864) 4294967296 = some (.inl ((((0 : Int), (p + g) * 67108864), ()) : Els [tVec])) := by
      unfold F_244
      rw [hD0]
      simp only [Option.bind_some, Sum.elim_inl]
      rw [hD]; rfl
    rw [this]; rfl
  have h6 : F_161 ((0 : Int), (p + g) * 67108864) 64 = some (.inl ((((0 : Int), (p + g) * 1048576), ()) : Els [tVec])) :=
    n_161 (p := 0) (q := (p + g) * 1048576) rfl (by show (p + g) * 67108864 = 64 * ((p + g) * 1048576); omega) ⟨by omega, by omega⟩ ⟨by omega, by omega⟩
  have h7 : F_62 ((0 : Int), q * 1048576) ((0 : Int), (p + g) * 1048576) = some (.inl ((((0 : Int), (q + (p + g)) * 1048576), ()) : Els [tVec])) := by
    have := n_62 (a := ((0 : Int), q * 1048576)) (b := ((0 : Int), (p + g) * 1048576)) (in2z ⟨by omega, by omega⟩) (in2z ⟨by omega, by omega⟩) in0 (show In64 (q * 1048576 + (p + g) * 1048576) from ⟨by omega, by omega⟩)
    rw [this, show (q + (p + g)) * 1048576 = q * 1048576 + (p + g) * 1048576 by omega]; rfl
  exact one_step (b := ball q p) (by show (4294967296 : Int) ≠ 0; decide) h1 h2 h3 h4 h5 h6 h7 (wS_right hg hq hp) (wS_right hg hq' hp')
def triN : Nat → Nat
  | 0 => 0
  | k + 1 => triN k + (k + 1)
theorem triN_le : ∀ k, k ≤ 60 → triN k ≤ 60 * k
  | 0, _ => Nat.le_refl _
  | k + 1, h => by
    have := triN_le k (by omega)
    show triN k + (k + 1) ≤ _
    omega
theorem mul_near {g : Int} {k m : Nat} (hg : -100 ≤ g ∧ g ≤ 100) (hk : k ≤ m) : -(100 * (m : Int)) ≤ g * k ∧ g * k ≤ 100 * (m : Int) := by
  have h1 : g * (k : Int) ≤ 100 * (k : Int) := Int.mul_le_mul_of_nonneg_right hg.2 (by omega)
  have h2 : -100 * (k : Int) ≤ g * (k : Int) := Int.mul_le_mul_of_nonneg_right hg.1 (by omega)
  omega
theorem run_wS {g : Int} (hg : -100 ≤ g ∧ g ≤ 100) : ∀ (m k i : Nat), k + m ≤ 60 → run m i (wS g (g * k) (g * triN k)) = (wS g (g * ((k + m : Nat) : Int)) (g * (triN (k + m) : Int)), 0, 0)
  | 0, k, i, _ => rfl
  | m + 1, k, i, h => by
    have p1 := mul_near (k := k) (m := 60) hg (by omega)
    have p2 := mul_near (k := k + 1) (m := 60) hg (by omega)
    have t1 := triN_le k (by omega)
    have t2 := triN_le (k + 1) (by omega)
    have q1 := mul_near (k := triN k) (m := 3600) hg (by omega)
    have q2 := mul_near (k := triN (k + 1)) (m := 3600) hg (by omega)
    have ep : g * (k : Int) + g = g * ((k + 1 : Nat) : Int) := by rw [Int.natCast_add, Int.mul_add]; simp
    have eq : g * (triN k : Int) + g * ((k + 1 : Nat) : Int) = g * (triN (k + 1) : Int) := by rw [← Int.mul_add]; rfl
    have e := wS_step (g := g) (p := g * (k : Int)) (q := g * (triN k : Int)) hg (by omega) (by omega) (by rw [ep]; omega) (by rw [ep, eq]; omega)
    rw [ep, eq] at e
    rw [run_go (by rw [e]), e]
    show run m (i + 1) (wS g (g * ((k + 1 : Nat) : Int)) (g * (triN (k + 1) : Int))) = _
    rw [run_wS hg m (k + 1) (i + 1) (by omega), show k + 1 + m = k + (m + 1) by omega]
theorem t_6_10 {g : Int} (hg : -100 ≤ g ∧ g ≤ 100) (n : Nat) (hn : n ≤ 60) (w : World') :
    R_6_10 (((n : Int), (), g * 67108864, (0 : Int), (1 : Int), ()), (w, ()), ()) = some (.inl (((n : Int), (), g * 67108864, g * (triN n : Int) * 1048576, ()), (w, ()), ())) := by
  have h : roundsT (fun x => G_6_10 x.1.1 x.1.2.2.1 x.1.2.2.2.1 x.1.2.2.2.2.1 x.2.1) fuel (((n : Int), (), g * 67108864, g * (triN 0 : Int) * 1048576, ((0 + 1 : Nat) : Int), ()), (w, ()), ()) = some (.inl (((n : Int), (), g * 67108864, g * (triN n : Int) * 1048576, ()), (w, ()), ())) := by
    refine rounds_to (G := fun x => G_6_10 x.1.1 x.1.2.2.1 x.1.2.2.2.1 x.1.2.2.2.2.1 x.2.1) (inv := fun i => (((n : Int), (), g * 67108864, g * (triN i : Int) * 1048576, ((i + 1 : Nat) : Int), ()), (w, ()), ())) (n := n) ?_ ?_ n 0 fuel (by omega) (by unfold fuel; omega)
    · intro i hi
      show G_6_10 (n : Int) (g * 67108864) (g * (triN i : Int) * 1048576) ((i + 1 : Nat) : Int) (w, ()) = _
      unfold G_6_10
      rw [decide_eq_true (show ((i + 1 : Nat) : Int) ≤ (n : Int) by omega), cond_true]
      have p := mul_near (k := i + 1) (m := 60) hg (by omega)
      have t1 := triN_le i (by omega)
      have t2 := triN_le (i + 1) (by omega)
      have q1 := mul_near (k := triN i) (m := 3600) hg (by omega)
      have q2 := mul_near (k := triN (i + 1)) (m := 3600) hg (by omega)
      have eq : g * (triN i : Int) + g * ((i + 1 : Nat) : Int) = g * (triN (i + 1) : Int) := by rw [← Int.mul_add]; rfl
      rw [Int.mul_right_comm g 67108864]
      obtain ⟨P, hP⟩ : ∃ P : Int, P = g * ((i + 1 : Nat) : Int) := ⟨_, rfl⟩
      obtain ⟨Q, hQ⟩ : ∃ Q : Int, Q = g * (triN i : Int) := ⟨_, rfl⟩
      obtain ⟨Q', hQ'⟩ : ∃ Q' : Int, Q' = g * (triN (i + 1) : Int) := ⟨_, rfl⟩
      rw [← hP] at p eq ⊢
      rw [← hQ] at q1 eq ⊢
      rw [← hQ'] at q2 eq ⊢
      rw [wrap64 (x := P * 67108864) (by omega) (by omega), show P * 67108864 = 64 * (P * 1048576) by omega, Int.mul_tdiv_cancel_left _ (by decide), wrap64 (x := P * 1048576) (by omega) (by omega), wrap64 (x := Q * 1048576 + P * 1048576) (by omega) (by omega), show Q * 1048576 + P * 1048576 = Q' * 1048576 by omega, wrap64 (x := ((i + 1 : Nat) : Int) + 1) (by omega) (by omega)]
      rfl
    · show G_6_10 (n : Int) (g * 67108864) (g * (triN n : Int) * 1048576) ((n + 1 : Nat) : Int) (w, ()) = _
      unfold G_6_10
      rw [decide_eq_false (show ¬ ((n + 1 : Nat) : Int) ≤ (n : Int) by omega)]
      rfl
  unfold R_6_10
  rw [← h]
  have : g * (triN 0 : Int) * 1048576 = 0 := by show g * 0 * 1048576 = 0; rw [Int.mul_zero, Int.zero_mul]
  rw [this]; rfl
theorem worldFalls (g n : I.El) (h0 : I.wf g) (h1 : I.wf n) : F_6 g n = some ((true, ()) : Els [.bool]) := by
  obtain ⟨g', rfl⟩ : ∃ g' : Int, g' = g := ⟨g, rfl⟩
  obtain ⟨n', rfl⟩ : ∃ n' : Int, n' = n := ⟨n, rfl⟩
  unfold F_6
  by_cases c1 : g' < -100
  · rw [decide_eq_true c1]; exact yes14
  rw [decide_eq_false c1, cond_false]
  by_cases c2 : g' > 100
  · rw [decide_eq_true c2]; exact yes14
  rw [decide_eq_false c2, cond_false]
  by_cases c3 : n' < 0
  · rw [decide_eq_true c3]; exact yes14
  rw [decide_eq_false c3, cond_false]
  by_cases c4 : n' > 60
  · rw [decide_eq_true c4]; exact yes14
  rw [decide_eq_false c4, cond_false, alive14]
  simp only [Option.bind_some, Bool.not_true, cond_false]
  obtain ⟨k, hk⟩ := Int.eq_ofNat_of_zero_le (show 0 ≤ n' by omega)
  subst hk
  have hg : -100 ≤ g' ∧ g' ≤ 100 := ⟨by omega, by omega⟩
  rw [wrap64 (x := g' * 4294967296) (by omega) (by omega)]
  have e0 : (((0 : Int), g' * 4294967296), [((1 : Int), ((4294967296 : Int), (0 : Int)), (4294967296 : Int), ((0 : Int), (0 : Int)), (0 : Int), (0 : Int))], []) = wS g' (g' * ((0 : Nat) : Int)) (g' * (triN 0 : Int)) := by
    have : g' * ((0 : Nat) : Int) = 0 := Int.mul_zero _
    have e2 : g' * (triN 0 : Int) = 0 := Int.mul_zero _
    rw [this, e2]; rfl
  have hgood : Good (wS g' (g' * ((0 : Nat) : Int)) (g' * (triN 0 : Int))) := ⟨by show 1 ≤ 10; omega, by show 0 ≤ 1000; omega⟩
  have hr : rb (wS g' (g' * ((0 : Nat) : Int)) (g' * (triN 0 : Int))) = true := wS_right hg (by show _ ≤ g' * 0 ∧ g' * 0 ≤ _; omega) (by show _ ≤ g' * 0 ∧ g' * 0 ≤ _; omega)
  rw [e0, t_15 _ k (by omega) hgood, if_neg (by rw [hr]; simp), run_wS hg k 0 0 (by omega), Nat.zero_add]
  have e3 : (g' * 4294967296).tdiv 64 = g' * 67108864 := by rw [show g' * 4294967296 = 64 * (g' * 67108864) by omega, Int.mul_tdiv_cancel_left _ (by decide)]
  have a1 : ((0 : Int) != 0) = false := rfl
  have a2 : (((List.length (wS g' (g' * (k : Int)) (g' * (triN k : Int))).2.1 : Nat) : Int) != (1 : Int)) = false := rfl
  simp only [Option.bind_some, a1, cond_false]
  rw [a2, cond_false, e3, wrap64 (x := g' * 67108864) (by omega) (by omega), t_6_10 hg k (by omega)]
  simp only [Option.bind_some, Sum.elim_inl]
  have p := mul_near (k := k) (m := 60) hg (by omega)
  have e4 : IntKind.i64.wrap (g' * 67108864 * (k : Int)) = g' * (k : Int) * 67108864 := by
    rw [Int.mul_right_comm]
    obtain ⟨P, hP⟩ : ∃ P : Int, P = g' * (k : Int) := ⟨_, rfl⟩
    rw [← hP] at p ⊢
    exact wrap64 (by omega) (by omega)
  rw [e4]
  have b1 : (g' * (k : Int) * 67108864 == g' * (k : Int) * 67108864) = true := beq_self_eq_true _
  have b2 : (g' * (triN k : Int) * 1048576 == g' * (triN k : Int) * 1048576) = true := beq_self_eq_true _
  show (bif true then (bif (g' * (k : Int) * 67108864 == g' * (k : Int) * 67108864) then (bif true then (bif (g' * (triN k : Int) * 1048576 == g' * (triN k : Int) * 1048576) then (bif true then some ((((0 : Int) == 0), ()) : Els [.bool]) else none) else some (false, ())) else none) else some (false, ())) else none) = _
  rw [b1, b2]; rfl
end Go.DI.S

/-! WorldAlone. -/
set_option linter.unusedVariables false
set_option linter.unusedSimpArgs false
set_option maxRecDepth 100000
namespace Go.DI.S
open Go.Proofs
def crate (x y p q : Int) : Body := ((2 : Int), ((4294967296 : Int), (4294967296 : Int)), (8589934592 : Int), (p * 67108864, q * 67108864), (2 * x * 4294967296, 2 * y * 4294967296))
def wA (x y p q : Int) : World' := (((0 : Int), (0 : Int)), [crate x y p q], [])
def Sm (x m : Int) : Prop := -m ≤ x ∧ x ≤ m
theorem wA_right {x y p q : Int} (hx : Sm x 100) (hy : Sm y 100) (hp : Sm p 10000) (hq : Sm q 10000) : rb (wA x y p q) = true := by
  obtain ⟨x1, x2⟩ := hx
  obtain ⟨y1, y2⟩ := hy
  obtain ⟨p1, p2⟩ := hp
  obtain ⟨q1, q2⟩ := hq
  refine (rb_iff (wA x y p q) (by show 1 ≤ 1000000; omega) (by show 0 ≤ 1000000; omega)).2 ⟨fun b hb => ?_, fun j hj => (by cases hj), near0 (by omega), near0 (by omega)⟩
  rw [List.mem_singleton.1 hb]
  refine rB_of rfl ⟨?_, ?_⟩ ⟨?_, ?_⟩
  · show Near (p * 67108864) 42949672960000
    exact ⟨by omega, by omega⟩
  · show Near (q * 67108864) 42949672960000
    exact ⟨by omega, by omega⟩
  · show Near (2 * x * 4294967296) 4294967296000000
    exact ⟨by omega, by omega⟩
  · show Near (2 * y * 4294967296) 4294967296000000
    exact ⟨by omega, by omega⟩
theorem wA_step {x y p q : Int} (hx : Sm x 100) (hy : Sm y 100) (hp : Sm p 5000) (hq : Sm q 5000) : stp (wA x y p q) = (wA x y (p + x) (q + y), 0) := by
  have hr := wA_right (p := p) (q := q) hx hy ⟨by obtain ⟨a, b⟩ := hp; omega, by obtain ⟨a, b⟩ := hp; omega⟩ ⟨by obtain ⟨a, b⟩ := hq; omega, by obtain ⟨a, b⟩ := hq; omega⟩
  have hr' := wA_right (p := p + x) (q := q + y) hx hy ⟨by obtain ⟨a, b⟩ := hp; obtain ⟨c, d⟩ := hx; omega, by obtain ⟨a, b⟩ := hp; obtain ⟨c, d⟩ := hx; omega⟩ ⟨by obtain ⟨a, b⟩ := hq; obtain ⟨c, d⟩ := hy; omega, by obtain ⟨a, b⟩ := hq; obtain ⟨c, d⟩ := hy; omega⟩
  have vx := valA x hx.1 hx.2
  have vy := valA y hy.1 hy.2
  obtain ⟨x1, x2⟩ := hx
  obtain ⟨y1, y2⟩ := hy
  obtain ⟨p1, p2⟩ := hp
  obtain ⟨q1, q2⟩ := hq
  have h3 : F_62 (2 * x * 4294967296, 2 * y * 4294967296) ((0 : Int), (0 : Int)) = some (.inl (((2 * x * 4294967296, 2 * y * 4294967296), ()) : Els [tVec])) := by
    have := n_62 (a := (2 * x * 4294967296, 2 * y * 4294967296)) (b := ((0 : Int), (0 : Int))) ⟨⟨by omega, by omega⟩, by omega, by omega⟩ ⟨in0, in0⟩ (show In64 (2 * x * 4294967296 + 0) from ⟨by omega, by omega⟩) (show In64 (2 * y * 4294967296 + 0) from ⟨by omega, by omega⟩)
    rw [this]
    show some (Sum.inl (((2 * x * 4294967296 + 0, 2 * y * 4294967296 + 0), ()) : Els [tVec])) = _
    rw [Int.add_zero, Int.add_zero]
  obtain ⟨bx, h4⟩ := n_box (b := crate x y p q) (sz := ((4294967296 : Int), (4294967296 : Int))) (.inr ⟨by show (2 : Int) ≠ 1; decide, rfl⟩) ⟨by show Near (p * 67108864) _; exact ⟨by omega, by omega⟩, by show Near (q * 67108864) _; exact ⟨by omega, by omega⟩⟩ ⟨⟨by decide, by decide⟩, by decide, by decide⟩
  have h5 : F_168 (crate x y p q) = some (.inl (((x * 4294967296, y * 4294967296), ()) : Els [tVec])) := by
    have : F_168 (crate x y p q) = (F_244 (2 * x * 4294967296, 2 * y * 4294967296) 8589934592).bind fun v2 => Sum.elim (fun v4 => Option.some (Sum.inl (v4.fst, ()))) (fun v5 => Option.some (Sum.inr v5)) v2 := rfl
    rw [this]
    have : F_244 (2 * x * 4294967296, 2 * y * 4294967296) 8589934592 = some (.inl (((x * 4294967296, y * 4294967296), ()) : Els [tVec])) := by
      unfold F_244
      rw [vx]
      simp only [Option.bind_some, Sum.elim_inl]
      rw [vy]; rfl
    rw [this]; rfl
  have h6 : F_161 (x * 4294967296, y * 4294967296) 64 = some (.inl (((x * 67108864, y * 67108864), ()) : Els [tVec])) :=
    n_161 (p := x * 67108864) (q := y * 67108864) (by show x * 4294967296 = 64 * (x * 67108864); omega) (by show y * 4294967296 = 64 * (y * 67108864); omega) ⟨by omega, by omega⟩ ⟨by omega, by omega⟩
  have h7 : F_62 (p * 67108864, q * 67108864) (x * 67108864, y * 67108864) = some (.inl ((((p + x) * 67108864, (q + y) * 67108864), ()) : Els [tVec])) := by
    have := n_62 (a := (p * 67108864, q * 67108864)) (b := (x * 67108864, y * 67108864)) ⟨⟨by omega, by omega⟩, by omega, by omega⟩ ⟨⟨by omega, by omega⟩, by omega, by omega⟩ (show In64 (p * 67108864 + x * 67108864) from ⟨by omega, by omega⟩) (show In64 (q * 67108864 + y * 67108864) from ⟨by omega, by omega⟩)
    rw [this, show (p + x) * 67108864 = p * 67108864 + x * 67108864 by omega, show (q + y) * 67108864 = q * 67108864 + y * 67108864 by omega]
  exact one_step (b := crate x y p q) (by show (8589934592 : Int) ≠ 0; decide) (z_162 _) z_161 h3 h4 h5 h6 h7 hr hr'
theorem sm_mul {x : Int} {k m : Nat} (hx : Sm x 100) (hk : k ≤ m) : Sm (x * k) (100 * (m : Int)) := mul_near hx hk
theorem run_wA {x y : Int} (hx : Sm x 100) (hy : Sm y 100) : ∀ (m k i : Nat), k + m ≤ 50 → run m i (wA x y (x * k) (y * k)) = (wA x y (x * ((k + m : Nat) : Int)) (y * ((k + m : Nat) : Int)), 0, 0)
  | 0, k, i, _ => rfl
  | m + 1, k, i, h => by
    have e := wA_step (p := x * (k : Int)) (q := y * (k : Int)) hx hy (sm_mul (m := 50) hx (by omega)) (sm_mul (m := 50) hy (by omega))
    have ex : x * (k : Int) + x = x * ((k + 1 : Nat) : Int) := by rw [Int.natCast_add, Int.mul_add]; simp
    have ey : y * (k : Int) + y = y * ((k + 1 : Nat) : Int) := by rw [Int.natCast_add, Int.mul_add]; simp
    rw [ex, ey] at e
    rw [run_go (by rw [e]), e]
    show run m (i + 1) (wA x y (x * ((k + 1 : Nat) : Int)) (y * ((k + 1 : Nat) : Int))) = _
    rw [run_wA hx hy m (k + 1) (i + 1) (by omega), show k + 1 + m = k + (m + 1) by omega]
theorem mom_of {x : Int} (hx : Sm x 100) : IntKind.i64.wrap (IntKind.i64.wrap (2 * x) * 4294967296) = 2 * x * 4294967296 := by
  obtain ⟨a, b⟩ := hx
  rw [wrap64 (x := 2 * x) (by omega) (by omega), wrap64 (by omega) (by omega)]
theorem pos_of {x : Int} {k : Nat} (hx : Sm x 100) (hk : k ≤ 50) : IntKind.i64.wrap ((IntKind.i64.wrap (IntKind.i64.wrap (x * k) * 4294967296)).tdiv 64) = x * k * 67108864 := by
  have := sm_mul (k := k) (m := 50) hx hk
  obtain ⟨P, hP⟩ : ∃ P : Int, P = x * k := ⟨_, rfl⟩
  rw [← hP] at this ⊢
  obtain ⟨a, b⟩ := this
  rw [wrap64 (x := P) (by omega) (by omega), wrap64 (x := P * 4294967296) (by omega) (by omega), show P * 4294967296 = 64 * (P * 67108864) by omega, Int.mul_tdiv_cancel_left _ (by decide), wrap64 (by omega) (by omega)]
theorem worldAlone (x y n : I.El) (h0 : I.wf x) (h1 : I.wf y) (h2 : I.wf n) : F_8 x y n = some ((true, ()) : Els [.bool]) := by
  obtain ⟨x', rfl⟩ : ∃ g' : Int, g' = x := ⟨x, rfl⟩
  obtain ⟨y', rfl⟩ : ∃ g' : Int, g' = y := ⟨y, rfl⟩
  obtain ⟨n', rfl⟩ : ∃ n' : Int, n' = n := ⟨n, rfl⟩
  unfold F_8
  by_cases c1 : x' < -100
  · rw [decide_eq_true c1]; exact yes14
  rw [decide_eq_false c1, cond_false]
  by_cases c2 : x' > 100
  · rw [decide_eq_true c2]; exact yes14
  rw [decide_eq_false c2, cond_false]
  by_cases c3 : y' < -100
  · rw [decide_eq_true c3]; exact yes14
  rw [decide_eq_false c3, cond_false]
  by_cases c4 : y' > 100
  · rw [decide_eq_true c4]; exact yes14
  rw [decide_eq_false c4, cond_false]
  by_cases c5 : n' < 0
  · rw [decide_eq_true c5]; exact yes14
  rw [decide_eq_false c5, cond_false]
  by_cases c6 : n' > 50
  · rw [decide_eq_true c6]; exact yes14
  rw [decide_eq_false c6, cond_false, alive14]
  simp only [Option.bind_some, Bool.not_true, cond_false]
  obtain ⟨k, hk⟩ := Int.eq_ofNat_of_zero_le (show 0 ≤ n' by omega)
  subst hk
  have hx : Sm x' 100 := ⟨by omega, by omega⟩
  have hy : Sm y' 100 := ⟨by omega, by omega⟩
  have hk50 : k ≤ 50 := by omega
  rw [mom_of hx, mom_of hy, pos_of hx hk50, pos_of hy hk50]
  have e0 : (((0 : Int), (0 : Int)), [((2 : Int), ((4294967296 : Int), (4294967296 : Int)), (8589934592 : Int), ((0 : Int), (0 : Int)), 2 * x' * 4294967296, 2 * y' * 4294967296)], []) = wA x' y' (x' * ((0 : Nat) : Int)) (y' * ((0 : Nat) : Int)) := by
    have e1 : x' * ((0 : Nat) : Int) = 0 := Int.mul_zero _
    have e2 : y' * ((0 : Nat) : Int) = 0 := Int.mul_zero _
    rw [e1, e2]; rfl
  have hgood : Good (wA x' y' (x' * ((0 : Nat) : Int)) (y' * ((0 : Nat) : Int))) := ⟨by show 1 ≤ 10; omega, by show 0 ≤ 1000; omega⟩
  have hr : rb (wA x' y' (x' * ((0 : Nat) : Int)) (y' * ((0 : Nat) : Int))) = true := wA_right hx hy (sm_mul (m := 100) hx (by omega)) (sm_mul (m := 100) hy (by omega))
  rw [e0, t_15 _ k (by omega) hgood, if_neg (by rw [hr]; simp), run_wA hx hy k 0 0 (by omega), Nat.zero_add]
  have a1 : ((0 : Int) == 0) = true := rfl
  simp only [Option.bind_some, a1, cond_true]
  obtain ⟨P, hP⟩ : ∃ P : Int, P = x' * (k : Int) * 67108864 := ⟨_, rfl⟩
  obtain ⟨Q, hQ⟩ : ∃ P : Int, P = y' * (k : Int) * 67108864 := ⟨_, rfl⟩
  obtain ⟨M, hM⟩ : ∃ P : Int, P = 2 * x' * 4294967296 := ⟨_, rfl⟩
  obtain ⟨N, hN⟩ : ∃ P : Int, P = 2 * y' * 4294967296 := ⟨_, rfl⟩
  have e5 : wA x' y' (x' * (k : Int)) (y' * (k : Int)) = (((0 : Int), (0 : Int)), [((2 : Int), ((4294967296 : Int), (4294967296 : Int)), (8589934592 : Int), (P, Q), (M, N))], []) := by
    rw [hP, hQ, hM, hN]; rfl
  rw [e5, ← hP, ← hQ, ← hM, ← hN]
  show some ((true && ((true && (true && true)) && (true && (((P == P) && ((Q == Q) && true)) && (((M == M) && ((N == N) && true)) && true)))), ()) : Els [.bool]) = _
  simp
end Go.DI.S

