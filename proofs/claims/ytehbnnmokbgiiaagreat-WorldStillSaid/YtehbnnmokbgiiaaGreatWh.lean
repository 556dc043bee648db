import Derived.Test.YtehbnnmokbgiiaaGreatWf
/- A world of one body, plain. No conditions. -/
/-! Plain: a world of one body. -/
set_option linter.unusedVariables false
set_option linter.unusedSimpArgs false
set_option maxRecDepth 100000
namespace Go.DI.S
open Go.Proofs
/-! ### a world of one body -/
theorem one_in {b : Body} : decide ((0 : Int) ≤ (0 : Int) ∧ (0 : Int) < ((List.length [b] : Nat) : Int)) = true := rfl
theorem o_74 {g : Vec} {js : List Joint} {b : Body} {a s v : Vec} (hm : b.2.2.1 ≠ 0) (h1 : F_162 g b.2.2.1 = some (.inl ((a, ()) : Els [tVec]))) (h2 : F_161 a 64 = some (.inl ((s, ()) : Els [tVec]))) (h3 : F_62 b.2.2.2.2 s = some (.inl ((v, ()) : Els [tVec]))) :
    F_74 (g, (), js, ()) [b] = some (.inl ((), [(b.1, b.2.1, b.2.2.1, b.2.2.2.1, v)], ())) := by
  have hb : (b.2.2.1 != (0 : Int)) = true := by simpa using hm
  have g1 : G_74_2 1 0 [b] (g, (), js, ()) = some (.inl (((), (), (1 : Int), (1 : Int), ()), [(b.1, b.2.1, b.2.2.1, b.2.2.2.1, v)], (g, (), js, ()), ())) := by
    unfold G_74_2
    have e : (([b] : List Body).getD (Int.toNat 0) tBody.dflt) = b := rfl
    have d1 : decide ((0 : Int) < 1) = true := rfl
    simp only [d1, cond_true, one_in, e, hb]
    rw [h1]; simp only [Option.bind_some, Sum.elim_inl]
    rw [h2]; simp only [Option.bind_some, Sum.elim_inl]
    rw [h3]; rfl
  have g2 : ∀ l : List Body, G_74_2 1 1 l (g, (), js, ()) = some (.inr (.inl (.inl ((), l, ())))) := fun l => rfl
  unfold F_74 R_74_2
  rw [show fuel = 18446744073709551614 + 1 + 1 from rfl, rounds_in (x' := (((), (), (1 : Int), (1 : Int), ()), [(b.1, b.2.1, b.2.2.1, b.2.2.2.1, v)], (g, (), js, ()), ())) g1, rounds_out (y := Sum.inl (Sum.inl ((), [(b.1, b.2.1, b.2.2.1, b.2.2.2.1, v)], ()))) (g2 _)]
  rfl
theorem o_75 (g : Vec) (l : List Body) : F_75 (g, (), [], ()) l = some (.inl ((), l, ())) := by
  have h4 : ∀ r4 : Int, R_75_4 (((), r4, [], (([] : List Joint).length : Int), (0 : Int), ()), l, (g, (), [], ()), ()) = some (.inl (.inl (((), r4, ()), l, (g, (), [], ()), ()))) := fun r4 => by
    unfold R_75_4
    rw [show fuel = 18446744073709551615 + 1 from rfl]
    exact rounds_out (y := Sum.inl (Sum.inl (((), r4, ()), l, (g, (), [], ()), ()))) rfl _
  have := rounds_to (G := fun x => G_75_2 x.1.2.1 x.2.1 x.2.2.1) (inv := fun i => (((), (i : Int), ()), l, (g, (), [], ()), ())) (n := 4) (y := Sum.inl (Sum.inl ((), l, ()))) ?_ ?_ 4 0 fuel (by omega) (by unfold fuel; omega)
  · unfold F_75 R_75_2
    have this : roundsT (fun x => G_75_2 x.1.2.1 x.2.1 x.2.2.1) fuel (((), (0 : Int), ()), l, (g, (), [], ()), ()) = some (.inl (.inl ((), l, ()))) := this
    rw [this]; rfl
  · intro i hi
    show G_75_2 (i : Int) l (g, (), [], ()) = _
    unfold G_75_2
    rw [decide_eq_true (show (i : Int) < 4 by omega), cond_true, h4]
    simp only [Option.bind_some, Sum.elim_inl, wrap_up hi (by omega)]
  · rfl
theorem zero_one (a b : Int) (h1 : 0 ≤ a) (h2 : a < ((1 : Nat) : Int)) (h3 : 0 ≤ b) (h4 : b < ((1 : Nat) : Int)) : a = b := by omega
theorem o_165 (x : Box) : F_165 [x] = some (([], ()) : Els [.list tPair]) := by
  obtain ⟨ps, e, h, _⟩ := k_165 (bs := [x]) (by show 1 ≤ 10; omega)
  cases ps with
  | nil => exact e
  | cons p ps =>
    exfalso
    obtain ⟨⟨⟨h1, h2⟩, h3, h4⟩, h5⟩ := h p (List.mem_cons_self ..)
    exact Int.ne_of_lt h5 (zero_one _ _ h1 h2 h3 h4)
theorem o_76 {g : Vec} {js : List Joint} {b : Body} {x : Box} (h : F_164 b = some (.inl ((x, ()) : Els [tBox]))) : F_76 (g, (), js, ()) [b] = some (.inl ((), [b], ())) := by
  have g1 : G_76_3 1 0 [b] (g, (), js, ()) [] = some (.inl (((), (), (), (1 : Int), (1 : Int), ()), [b], (g, (), js, ()), [x], ())) := by
    unfold G_76_3
    have e : (([b] : List Body).getD (Int.toNat 0) tBody.dflt) = b := rfl
    have d1 : decide ((0 : Int) < 1) = true := rfl
    simp only [d1, cond_true, one_in, e]
    rw [h]; rfl
  have g2 : G_76_3 1 1 [b] (g, (), js, ()) [x] = some (.inr (.inl (.inl (((), (), ()), [b], (g, (), js, ()), [x], ())))) := rfl
  have g3 : R_76_8 (((), [], (([] : List Pair).length : Int), (0 : Int), ()), [b], (g, (), js, ()), ()) = some (.inl (.inl ((), [b], ()))) := by
    unfold R_76_8
    rw [show fuel = 18446744073709551615 + 1 from rfl]
    exact rounds_out (y := Sum.inl (Sum.inl ((), [b], ()))) rfl _
  have g4 : R_76_3 (((), (), (), (([b] : List Body).length : Int), (0 : Int), ()), [b], (g, (), js, ()), [], ()) = some (.inl (.inl (((), (), ()), [b], (g, (), js, ()), [x], ()))) := by
    unfold R_76_3
    rw [show fuel = 18446744073709551614 + 1 + 1 from rfl]
    exact (rounds_in (x' := (((), (), (), (1 : Int), (1 : Int), ()), [b], (g, (), js, ()), [x], ())) g1 _).trans (rounds_out (y := Sum.inl (Sum.inl (((), (), ()), [b], (g, (), js, ()), [x], ()))) g2 _)
  unfold F_76
  rw [g4]
  simp only [Option.bind_some, Sum.elim_inl]
  rw [o_165]
  simp only [Option.bind_some]
  rw [g3]; rfl
theorem o_77 {g : Vec} {js : List Joint} {b : Body} {a s v : Vec} (hm : b.2.2.1 ≠ 0) (h1 : F_168 b = some (.inl ((a, ()) : Els [tVec]))) (h2 : F_161 a 64 = some (.inl ((s, ()) : Els [tVec]))) (h3 : F_62 b.2.2.2.1 s = some (.inl ((v, ()) : Els [tVec]))) :
    F_77 (g, (), js, ()) [b] = some (.inl ((), [(b.1, b.2.1, b.2.2.1, v, b.2.2.2.2)], ())) := by
  have hb : (b.2.2.1 != (0 : Int)) = true := by simpa using hm
  have g1 : G_77_2 1 0 [b] (g, (), js, ()) = some (.inl (((), (), (1 : Int), (1 : Int), ()), [(b.1, b.2.1, b.2.2.1, v, b.2.2.2.2)], (g, (), js, ()), ())) := by
    unfold G_77_2
    have e : (([b] : List Body).getD (Int.toNat 0) tBody.dflt) = b := rfl
    have d1 : decide ((0 : Int) < 1) = true := rfl
    simp only [d1, cond_true, one_in, e, hb]
    rw [h1]; simp only [Option.bind_some, Sum.elim_inl]
    rw [h2]; simp only [Option.bind_some, Sum.elim_inl]
    rw [h3]; rfl
  have g2 : ∀ l : List Body, G_77_2 1 1 l (g, (), js, ()) = some (.inr (.inl (.inl ((), l, ())))) := fun l => rfl
  unfold F_77 R_77_2
  rw [show fuel = 18446744073709551614 + 1 + 1 from rfl, rounds_in (x' := (((), (), (1 : Int), (1 : Int), ()), [(b.1, b.2.1, b.2.2.1, v, b.2.2.2.2)], (g, (), js, ()), ())) g1, rounds_out (y := Sum.inl (Sum.inl ((), [(b.1, b.2.1, b.2.2.1, v, b.2.2.2.2)], ()))) (g2 _)]
  rfl
/-- A step of one body. -/
theorem one_step {g : Vec} {b : Body} {a s v a' s' v' : Vec} {x : Box} (hm : b.2.2.1 ≠ 0) (h1 : F_162 g b.2.2.1 = some (.inl ((a, ()) : Els [tVec]))) (h2 : F_161 a 64 = some (.inl ((s, ()) : Els [tVec]))) (h3 : F_62 b.2.2.2.2 s = some (.inl ((v, ()) : Els [tVec])))
    (h4 : F_164 (b.1, b.2.1, b.2.2.1, b.2.2.2.1, v) = some (.inl ((x, ()) : Els [tBox])))
    (h5 : F_168 (b.1, b.2.1, b.2.2.1, b.2.2.2.1, v) = some (.inl ((a', ()) : Els [tVec]))) (h6 : F_161 a' 64 = some (.inl ((s', ()) : Els [tVec]))) (h7 : F_62 b.2.2.2.1 s' = some (.inl ((v', ()) : Els [tVec])))
    (hr : rb (g, [b], []) = true) (hr' : rb (g, [(b.1, b.2.1, b.2.2.1, v', v)], []) = true) :
    stp (g, [b], []) = ((g, [(b.1, b.2.1, b.2.2.1, v', v)], []), 0) := by
  have hg : Good (g, [b], []) := ⟨by show 1 ≤ 10; omega, by show 0 ≤ 1000; omega⟩
  have hF : F_23 (g, [b], []) = some (((g, [(b.1, b.2.1, b.2.2.1, v', v)], []), (0 : Int), ()) : Els [tWorld, I]) := by
    obtain ⟨e16, _⟩ := t_16 (g, [b], []) (by show 1 ≤ 1000000; omega) (by show 0 ≤ 1000000; omega)
    obtain ⟨e16', _⟩ := t_16 (g, [(b.1, b.2.1, b.2.2.1, v', v)], []) (by show 1 ≤ 1000000; omega) (by show 0 ≤ 1000000; omega)
    have h73 : F_73 (g, (), [], ()) [b] = some (.inl ((), (g, (), [], ()), [(b.1, b.2.1, b.2.2.1, v', v)], ())) := by
      unfold F_73
      rw [o_74 hm h1 h2 h3]
      simp only [Option.bind_some, Sum.elim_inl]
      rw [o_75]
      simp only [Option.bind_some, Sum.elim_inl]
      rw [o_76 h4]
      simp only [Option.bind_some, Sum.elim_inl]
      rw [o_77 (b := (b.1, b.2.1, b.2.2.1, b.2.2.2.1, v)) hm h5 h6 h7]
      rfl
    unfold F_23
    rw [e16, hr]
    simp only [Option.bind_some, Bool.not_true, cond_false]
    rw [e56 (g, [b], []) hg]
    simp only [Option.bind_some]
    rw [e57 (g, [b], []) hg]
    simp only [Option.bind_some]
    unfold F_60_73
    rw [h73]
    simp only [Option.bind_some, Sum.elim_inl]
    have h00 : ((0 : Int) == 0) = true := rfl
    rw [h00, cond_true, e16', hr']
    rfl
  unfold stp
  rw [hF]
/-! ### numbers -/
theorem n_62 {a b : Vec} (ha : In2 a) (hb : In2 b) (h1 : In64 (a.1 + b.1)) (h2 : In64 (a.2 + b.2)) : F_62 a b = some (.inl (((a.1 + b.1, a.2 + b.2), ()) : Els [tVec])) := by
  unfold F_62
  rw [n_154 ha.1 hb.1 h1]
  simp only [Option.bind_some, Sum.elim_inl]
  rw [n_154 ha.2 hb.2 h2]; rfl
theorem n_227 {a b : Vec} (ha : In2 a) (hb : In2 b) (h1 : In64 (a.1 - b.1)) (h2 : In64 (a.2 - b.2)) : F_227 a b = some (.inl (((a.1 - b.1, a.2 - b.2), ()) : Els [tVec])) := by
  unfold F_227
  rw [n_230 ha.1 hb.1 h1]
  simp only [Option.bind_some, Sum.elim_inl]
  rw [n_230 ha.2 hb.2 h2]; rfl
theorem n_161 {a : Vec} {p q : Int} (h1 : a.1 = 64 * p) (h2 : a.2 = 64 * q) (hp : In64 p) (hq : In64 q) : F_161 a 64 = some (.inl (((p, q), ()) : Els [tVec])) := by
  have e : ∀ x y : Int, x = 64 * y → In64 y → F_224 x 64 = some (.inl ((y, ()) : Els [I])) := by
    intro x y h k
    unfold F_224
    have d1 : ((64 : Int) == 0) = false := rfl
    have d2 : ((64 : Int) == -1) = false := rfl
    have d3 : decide ((64 : Int) = 0) = false := rfl
    rw [d1, cond_false, d2, cond_false, d3, cond_false, h, Int.mul_tdiv_cancel_left _ (by decide), wrap64 k.1 k.2]
  unfold F_161
  rw [e _ _ h1 hp]
  simp only [Option.bind_some, Sum.elim_inl]
  rw [e _ _ h2 hq]; rfl
theorem n_box {b : Body} {sz : Vec} (hs : (b.1 = 1 ∧ sz = (b.2.1.1, b.2.1.1)) ∨ (b.1 ≠ 1 ∧ sz = b.2.1)) (h1 : Near b.2.2.2.1.1 1000000000000000000 ∧ Near b.2.2.2.1.2 1000000000000000000) (h2 : Near sz.1 1000000000000000000 ∧ Near sz.2 1000000000000000000) : ∃ x, F_164 b = some (.inl ((x, ()) : Els [tBox])) := by
  obtain ⟨⟨a1, a2⟩, a3, a4⟩ := h1
  obtain ⟨⟨b1, b2⟩, b3, b4⟩ := h2
  have e1 : F_227 b.2.2.2.1 sz = _ := n_227 ⟨⟨by omega, by omega⟩, by omega, by omega⟩ ⟨⟨by omega, by omega⟩, by omega, by omega⟩ ⟨by omega, by omega⟩ ⟨by omega, by omega⟩
  have e2 : F_62 b.2.2.2.1 sz = _ := n_62 ⟨⟨by omega, by omega⟩, by omega, by omega⟩ ⟨⟨by omega, by omega⟩, by omega, by omega⟩ ⟨by omega, by omega⟩ ⟨by omega, by omega⟩
  unfold F_164
  rcases hs with ⟨h, rfl⟩ | ⟨h, rfl⟩
  · have d : (b.1 == (1 : Int)) = true := by simpa using h
    rw [d, cond_true, e1]
    simp only [Option.bind_some, Sum.elim_inl]
    rw [e2]
    exact ⟨_, rfl⟩
  · have d : (b.1 == (1 : Int)) = false := by simpa using h
    rw [d, cond_false, e1]
    simp only [Option.bind_some, Sum.elim_inl]
    rw [e2]
    exact ⟨_, rfl⟩
theorem near_151 {a : Vec} {m : Int} (h0 : 0 ≤ m) (hm : m < 4611686018427387904) (h : Near a.1 m ∧ Near a.2 m) : F_151 a m = some ((true, ()) : Els [.bool]) := by
  obtain ⟨v, e, hv⟩ := v_151 a m h0 hm
  rw [e, hv.2 h]
theorem rB_of {b : Body} (h : F_58 b = (F_151 b.2.2.2.1 (42949672960000 : Int)).bind fun v => bif v.fst then (F_151 b.2.2.2.2 (4294967296000000 : Int)).bind fun u => Option.some ((u.fst, ()) : Els [.bool]) else Option.some (Bool.false, ()))
    (h1 : Near b.2.2.2.1.1 42949672960000 ∧ Near b.2.2.2.1.2 42949672960000) (h2 : Near b.2.2.2.2.1 4294967296000000 ∧ Near b.2.2.2.2.2 4294967296000000) : rB b = true := by
  have e : F_58 b = some ((true, ()) : Els [.bool]) := by
    rw [h, near_151 (by omega) (by omega) h1]
    simp only [Option.bind_some, cond_true]
    rw [near_151 (by omega) (by omega) h2]; rfl
  unfold rB
  rw [e]
theorem in0 : In64 0 := ⟨by decide, by decide⟩
theorem in2z {a : Int} (h : In64 a) : In2 ((0 : Int), a) := ⟨in0, h⟩
theorem near0 {m : Int} (h : 0 ≤ m) : Near 0 m := ⟨by omega, h⟩
end Go.DI.S

