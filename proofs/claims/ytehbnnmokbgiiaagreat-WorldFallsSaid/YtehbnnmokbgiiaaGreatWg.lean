import Derived.Test.YtehbnnmokbgiiaaGreatWf
/- WorldSame, WorldMomentum, plain. No conditions. -/
/-! WorldSame. -/
set_option linter.unusedVariables false
set_option linter.unusedSimpArgs false
set_option maxRecDepth 100000
namespace Go.DI.S
open Go.Proofs
/-! ### a step, many steps: what stays -/
theorem k_76 (g : Vec) (js : List Joint) (l : List Body) (hn : l.length ≤ 10) : BdR g l (F_76 (g, (), js, ()) l) := by
  unfold F_76
  obtain ⟨y, e, hy⟩ := q_76_3 (n := l.length) (by omega) g js l rfl
  rw [e]
  rcases hy with ⟨bs, hbs, rfl⟩ | ⟨e', rfl, he⟩
  · obtain ⟨ps, e2, hps, hpl⟩ := k_165 (bs := bs) (by omega)
    simp only [Option.bind_some, Sum.elim_inl]
    rw [e2]
    simp only [Option.bind_some]
    obtain ⟨y, e3, hy⟩ := k_76_8 g js bs ps hps (by omega) l (by omega) hbs
    rw [e3]
    rcases hy with ⟨m, hm, rfl⟩ | ⟨e', rfl, he⟩
    · exact ⟨_, rfl, hm⟩
    · exact ⟨_, rfl, he⟩
  · exact ⟨_, rfl, he⟩
theorem k_73 (g : Vec) (js : List Joint) (l : List Body) (hl : l.length ≤ 10) (hjs : js.length ≤ 1000000) (hj : ∀ j ∈ js, Ends2 l.length j) :
    (∃ m : List Body, Rl g l m ∧ F_73 (g, (), js, ()) l = some (.inl ((), (g, (), js, ()), m, ()))) ∨ ∃ e, F_73 (g, (), js, ()) l = some (.inr e) ∧ (e = 3 ∨ e = 4) := by
  unfold F_73
  obtain ⟨y1, e1, h1⟩ := k_74 g js l (by omega)
  rw [e1]
  cases y1 with
  | inr e => exact .inr ⟨e, rfl, h1⟩
  | inl v1 =>
    simp only [Option.bind_some, Sum.elim_inl]
    have h1 : Rl g l v1.2.1 := h1
    have l1 := h1.len
    obtain ⟨y2, e2, h2⟩ := k_75 g js hjs v1.2.1 (by omega) (by rw [l1]; exact hj)
    rw [e2]
    cases y2 with
    | inr e => exact .inr ⟨e, rfl, h2⟩
    | inl v2 =>
      simp only [Option.bind_some, Sum.elim_inl]
      have h2 : Rl g v1.2.1 v2.2.1 := h2
      have l2 := h2.len
      obtain ⟨y3, e3, h3⟩ := k_76 g js v2.2.1 (by omega)
      rw [e3]
      cases y3 with
      | inr e => exact .inr ⟨e, rfl, h3⟩
      | inl v3 =>
        simp only [Option.bind_some, Sum.elim_inl]
        have h3 : Rl g v2.2.1 v3.2.1 := h3
        have l3 := h3.len
        obtain ⟨y4, e4, h4⟩ := k_77 g js v3.2.1 (by omega)
        rw [e4]
        cases y4 with
        | inr e => exact .inr ⟨e, rfl, h4⟩
        | inl v4 =>
          have h4 : Rl g v3.2.1 v4.2.1 := h4
          exact .inl ⟨v4.2.1, ((h1.trans h2).trans h3).trans h4, rfl⟩
theorem stp_rb {w : World'} (hg : Good w) (h0 : (stp w).2 = 0) : rb w = true ∧ rb (stp w).1 = true ∧ (stp w).1.1 = w.1 ∧ (stp w).1.2.2 = w.2.2 := by
  rcases (stp_ok hg).2 with ⟨_, h, _⟩ | ⟨h1, ⟨_, h2, _, h3, h4⟩ | ⟨h, _⟩⟩
  · rw [h0] at h; cases h
  · exact ⟨h1, h2, h3, h4⟩
  · rw [h0] at h; rcases h with h | h <;> cases h
theorem stp_keep {w : World'} (hg : Good w) (h0 : (stp w).2 = 0) : Rl w.1 w.2.1 (stp w).1.2.1 := by
  obtain ⟨r1, r2, r3, r4⟩ := stp_rb hg h0
  have hl : w.2.1.length ≤ 10 := hg.1
  have hj : w.2.2.length ≤ 1000 := hg.2
  obtain ⟨_, hJ, _⟩ := (rb_iff w (by omega) (by omega)).1 r1
  have hF := (stp_ok hg).1
  obtain ⟨e16, _⟩ := t_16 w (by omega) (by omega)
  unfold F_23 at hF
  rw [e16, r1] at hF
  simp only [Option.bind_some, Bool.not_true, cond_false] at hF
  rw [e56 w hg] at hF
  simp only [Option.bind_some] at hF
  rw [e57 w hg] at hF
  simp only [Option.bind_some] at hF
  unfold F_60_73 at hF
  rcases k_73 w.1 w.2.2 w.2.1 hl (by omega) (fun j h => (hJ j h).1) with ⟨m, hm, e⟩ | ⟨e, h73, he⟩
  · rw [e] at hF
    simp only [Option.bind_some, Sum.elim_inl] at hF
    have h00 : ((0 : Int) == 0) = true := rfl
    rw [h00, cond_true] at hF
    have hml := hm.len
    obtain ⟨e16', _⟩ := t_16 (w.1, m, w.2.2) (by show m.length ≤ 1000000; omega) (by show w.2.2.length ≤ 1000000; omega)
    rw [e16'] at hF
    simp only [Option.bind_some] at hF
    cases hr' : rb (w.1, m, w.2.2) with
    | false =>
      rw [hr'] at hF
      have hF : some ((zeroW, (3 : Int), ()) : Els [tWorld, I]) = some ((stp w).1, (stp w).2, ()) := hF
      injection hF with hF
      have : (3 : Int) = (stp w).2 := congrArg (fun x : Els [tWorld, I] => x.2.1) hF
      rw [h0] at this; cases this
    | true =>
      rw [hr'] at hF
      have hF : some (((w.1, m, w.2.2), (0 : Int), ()) : Els [tWorld, I]) = some ((stp w).1, (stp w).2, ()) := hF
      injection hF with hF
      have : (w.1, m, w.2.2) = (stp w).1 := congrArg (fun x : Els [tWorld, I] => x.1) hF
      rw [← this]; exact hm
  · rw [h73] at hF
    simp only [Option.bind_some, Sum.elim_inr] at hF
    exfalso
    have hF2 : some ((zeroW, e, ()) : Els [tWorld, I]) = some ((stp w).1, (stp w).2, ()) := by
      rcases he with rfl | rfl <;> exact hF
    injection hF2 with hF2
    have : e = (stp w).2 := congrArg (fun x : Els [tWorld, I] => x.2.1) hF2
    rw [h0] at this
    rcases he with h | h <;> rw [h] at this <;> cases this
theorem run_keep : ∀ (m k : Nat) (w : World'), Good w → (run m k w).2.2 = 0 → Rl w.1 w.2.1 (run m k w).1.2.1 ∧ (run m k w).1.1 = w.1 ∧ (run m k w).1.2.2 = w.2.2 ∧ (0 < m → rb w = true ∧ rb (run m k w).1 = true)
  | 0, k, w, hg, _ => ⟨.same _ _, rfl, rfl, fun h => by omega⟩
  | m + 1, k, w, hg, h => by
    by_cases h0 : (stp w).2 = 0
    · rw [run_go h0] at h ⊢
      obtain ⟨r1, r2, r3, r4⟩ := stp_rb hg h0
      obtain ⟨k1, k2, k3, k4⟩ := run_keep m (k + 1) (stp w).1 (hg.next h0) h
      refine ⟨(stp_keep hg h0).trans (by rw [← r3]; exact k1), k2.trans r3, k3.trans r4, fun _ => ⟨r1, ?_⟩⟩
      cases m with
      | zero => exact r2
      | succ m => exact (k4 (by omega)).2
    · rw [run_no h0] at h
      exact absurd h h0
/-! ### WorldSame -/
theorem same_body (a b : Body) (h : b = a) : (a.1 == b.1 && ((a.2.1.1 == b.2.1.1 && (a.2.1.2 == b.2.1.2 && true)) && (a.2.2.1 == b.2.2.1 && ((a.2.2.2.1.1 == b.2.2.2.1.1 && (a.2.2.2.1.2 == b.2.2.2.1.2 && true)) && ((a.2.2.2.2.1 == b.2.2.2.2.1 && (a.2.2.2.2.2 == b.2.2.2.2.2 && true)) && true))))) = true := by
  subst h; simp
theorem t_10_11 (l : List Body) (j : List Joint) (g : Vec) (w : World') (hn : l.length ≤ 1000) (hw : w.2.1.length = l.length) (hk : ∀ i, KB (l.getD i tBody.dflt) (w.2.1.getD i tBody.dflt)) (hi : ∀ b ∈ l, In2 b.2.2.2.1) :
    R_10_11 ((l, j, (), (), ((w.2.1.length : Nat) : Int), (0 : Int), ()), (g, ()), (w, ()), ()) = some (.inl ((l, j, (), (), ()), (g, ()), (w, ()), ())) := by
  have := rounds_mu (G := fun x => G_10_11 x.1.1 x.1.2.1 x.1.2.2.2.2.1 x.1.2.2.2.2.2.1 x.2.1 x.2.2.1)
    (fun x => ∃ k : Nat, k ≤ l.length ∧ x = ((l, j, (), (), ((w.2.1.length : Nat) : Int), (k : Int), ()), (g, ()), (w, ()), ())) (fun x => l.length - x.1.2.2.2.2.2.1.toNat)
    (fun y => y = .inl ((l, j, (), (), ()), (g, ()), (w, ()), ())) ?_ fuel ((l, j, (), (), ((w.2.1.length : Nat) : Int), (0 : Int), ()), (g, ()), (w, ()), ()) ⟨0, Nat.zero_le _, rfl⟩ (by
      show l.length - (0 : Int).toNat < fuel
      unfold fuel; omega)
  · obtain ⟨y, h, rfl⟩ := this
    exact h
  · rintro x ⟨k, hk', rfl⟩
    show (∃ x', G_10_11 l j ((w.2.1.length : Nat) : Int) (k : Int) (g, ()) (w, ()) = _ ∧ _) ∨ ∃ y, G_10_11 l j ((w.2.1.length : Nat) : Int) (k : Int) (g, ()) (w, ()) = _ ∧ _
    unfold G_10_11
    rw [hw]
    by_cases h : k < l.length
    · have hmu : l.length - (IntKind.i64.wrap ((k : Int) + 1)).toNat < l.length - (k : Int).toNat := by rw [wrap_up h (by omega)]; omega
      obtain ⟨a, ha⟩ : ∃ a, a = l.getD k tBody.dflt := ⟨_, rfl⟩
      obtain ⟨b, hb⟩ : ∃ b, b = w.2.1.getD k tBody.dflt := ⟨_, rfl⟩
      have hK := hk k
      have hI : In2 a.2.2.2.1 := by rw [ha]; exact hi _ (get_mem h)
      rw [← ha, ← hb] at hK
      obtain ⟨k1, k2, k3, k4⟩ := hK
      have e1 : (a.1 != b.1) = false := by rw [k1]; simp
      have e2 : (!(a.2.1.1 == b.2.1.1 && (a.2.1.2 == b.2.1.2 && true))) = false := by rw [k2]; simp
      have e3 : (a.2.2.1 != b.2.2.1) = false := by rw [k3]; simp
      simp only [dec_lt h, dec_in h, cond_true, hw, Int.toNat_natCast, ← ha, ← hb, e1, e2, e3, cond_false]
      cases h0 : (a.2.2.1 == (0 : Int)) with
      | false => exact .inl ⟨_, rfl, ⟨k + 1, h, by rw [wrap_up h (by omega)]⟩, hmu⟩
      | true =>
        have := same_body a b (k4 (by simpa using h0) hI)
        simp only [cond_true, this, Bool.not_true, cond_false]
        exact .inl ⟨_, rfl, ⟨k + 1, h, by rw [wrap_up h (by omega)]⟩, hmu⟩
    · have : k = l.length := by omega
      subst this
      simp only [dec_end, cond_false]
      exact .inr ⟨_, rfl, rfl⟩
theorem near_in {v : Vec} {m : Int} (hm : m ≤ 4611686018427387904) (h : Near v.1 m ∧ Near v.2 m) : In2 v := by
  obtain ⟨⟨a, b⟩, c, d⟩ := h
  exact ⟨⟨by omega, by omega⟩, by omega, by omega⟩
theorem worldSame (g : Vec) (l : (Ty.list tBody).El) (j : (Ty.list tJoint).El) (n : I.El) (h0 : tVec.wf g) (h1 : (Ty.list tBody).wf l) (h2 : (Ty.list tJoint).wf j) (h3 : I.wf n) : F_10 g l j n = some ((true, ()) : Els [.bool]) := by
  obtain ⟨n', rfl⟩ : ∃ n' : Int, n' = n := ⟨n, rfl⟩
  unfold F_10
  by_cases c1 : ((List.length l : Nat) : Int) > (10 : Int)
  · rw [decide_eq_true c1]; exact yes14
  rw [decide_eq_false c1, cond_false]
  by_cases c2 : ((List.length j : Nat) : Int) > (8 : Int)
  · rw [decide_eq_true c2]; exact yes14
  rw [decide_eq_false c2, cond_false]
  by_cases c3 : n' < 0
  · rw [decide_eq_true c3]; exact yes14
  rw [decide_eq_false c3, cond_false]
  by_cases c4 : n' > 10
  · rw [decide_eq_true c4]; exact yes14
  rw [decide_eq_false c4, cond_false, alive14]
  simp only [Option.bind_some, Bool.not_true, cond_false]
  have hg : Good (g, l, j) := ⟨by show l.length ≤ 10; omega, by show j.length ≤ 1000; omega⟩
  obtain ⟨k, hk⟩ := Int.eq_ofNat_of_zero_le (show 0 ≤ n' by omega)
  subst hk
  rw [t_15 (g, l, j) k (by omega) hg]
  have e18 : ∀ x : World', F_18 x = some ((x, ()) : Els [tWorld]) := fun x => rfl
  by_cases hz : k = 0 ∧ rb (g, l, j) = false
  · rw [if_pos hz]
    simp only [Option.bind_some]
    have a1 : ((0 : Int) != 0) = false := rfl
    have a2 : ((9 : Int) != 9) = false := rfl
    rw [a1, cond_false, a2, cond_false, e18]
    simp only [Option.bind_some]
    rw [t_17 zeroW good_zero]; rfl
  · rw [if_neg hz]
    simp only [Option.bind_some]
    obtain ⟨r, hr⟩ : ∃ r, r = run k 0 (g, l, j) := ⟨_, rfl⟩
    have hgr := run_good k 0 (g, l, j) hg
    have hfail := run_fail (w := (g, l, j)) (k := 0) k
    have hkeep := run_keep k 0 (g, l, j) hg
    rw [← hr] at hgr hfail hkeep ⊢
    have a1 : (r.2.1 != r.2.1) = false := by simp
    have a2 : (r.2.2 != r.2.2) = false := by simp
    rw [a1, cond_false, a2, cond_false, e18]
    simp only [Option.bind_some]
    rw [t_17 r.1 hgr]
    simp only [Option.bind_some, Bool.not_true, cond_false]
    cases he : (r.2.2 != (0 : Int)) with
    | true => rw [hfail (bne_ne he)]; rfl
    | false =>
      obtain ⟨q1, q2, q3, q4⟩ := hkeep (bne_eq he)
      have hrb : rb (g, l, j) = true := by
        by_cases hk0 : k = 0
        · cases hrb : rb (g, l, j) with
          | true => rfl
          | false => exact absurd ⟨hk0, hrb⟩ hz
        · exact (q4 (by omega)).1
      obtain ⟨hB, _⟩ := (rb_iff (g, l, j) (by show l.length ≤ 1000000; omega) (by show j.length ≤ 1000000; omega)).1 hrb
      have q0 : r.1.2.1.length = l.length := q1.len
      simp only [cond_false]
      rw [t_10_11 l j g r.1 (by omega) q0 q1.keep (fun b hb => near_in (by omega) (rB_near (hB b hb)).1)]
      simp only [Option.bind_some, Sum.elim_inl]
      have b1 : (((List.length r.1.2.1 : Nat) : Int) == ((List.length l : Nat) : Int)) = true := by rw [q0]; simp
      have b2 : (((List.length r.1.2.2 : Nat) : Int) == ((List.length j : Nat) : Int)) = true := by rw [q3]; simp
      rw [b1, cond_true, b2, cond_true, q2]
      simp
end Go.DI.S

/-! WorldMomentum. -/
set_option linter.unusedVariables false
set_option linter.unusedSimpArgs false
set_option maxRecDepth 100000
namespace Go.DI.S
open Go.Proofs
/-! ### WorldMomentum -/
theorem om5 (a p q x : Int) (h : p = q + x) : a + p = a + q + x := by omega
theorem near00 : Near 0 (4294967296000000 * ((0 : Nat) : Int)) := ⟨by decide, by decide⟩
theorem sumX_take : ∀ (l : List Body) (k : Nat), k < l.length → sumX (l.take (k + 1)) = sumX (l.take k) + (l.getD k tBody.dflt).2.2.2.2.1
  | [], k, h => by cases h
  | b :: l, 0, h => Int.add_comm _ _
  | b :: l, k + 1, h => by
    have := sumX_take l k (by simpa using h)
    exact om5 _ _ _ _ this
theorem sumY_take : ∀ (l : List Body) (k : Nat), k < l.length → sumY (l.take (k + 1)) = sumY (l.take k) + (l.getD k tBody.dflt).2.2.2.2.2
  | [], k, h => by cases h
  | b :: l, 0, h => Int.add_comm _ _
  | b :: l, k + 1, h => by
    have := sumY_take l k (by simpa using h)
    exact om5 _ _ _ _ this
theorem t_61 (w : World') (hl : w.2.1.length ≤ 100) (hb : ∀ b ∈ w.2.1, Near b.2.2.2.2.1 4294967296000000 ∧ Near b.2.2.2.2.2 4294967296000000) :
    F_61 (w, ()) (((0 : Int), (0 : Int)), ()) = some (.inl ((), (w, ()), ((sumX w.2.1, sumY w.2.1), ()), ())) := by
  obtain ⟨l, hld⟩ : ∃ l, l = w.2.1 := ⟨_, rfl⟩
  rw [← hld] at hl hb
  have := rounds_mu (G := fun x => G_61_1 x.1.2.1 x.1.2.2.1 x.1.2.2.2.1 x.2.1 x.2.2.1)
    (fun x => ∃ k : Nat, k ≤ l.length ∧ Near (sumX (l.take k)) (4294967296000000 * k) ∧ Near (sumY (l.take k)) (4294967296000000 * k) ∧ x = (((), l, (l.length : Int), (k : Int), ()), (w, ()), ((sumX (l.take k), sumY (l.take k)), ()), ())) (fun x => l.length - x.1.2.2.2.1.toNat)
    (fun y => y = .inl (.inl ((), (w, ()), ((sumX l, sumY l), ()), ()))) ?_ fuel (((), l, (l.length : Int), (0 : Int), ()), (w, ()), (((0 : Int), (0 : Int)), ()), ()) ⟨0, Nat.zero_le _, near00, near00, rfl⟩ (by
      show l.length - (0 : Int).toNat < fuel
      unfold fuel; omega)
  · obtain ⟨y, h, rfl⟩ := this
    unfold F_61 R_61_1
    rw [← hld, h]; rfl
  · rintro x ⟨k, hk, hx, hy, rfl⟩
    show (∃ x', G_61_1 l (l.length : Int) (k : Int) (w, ()) ((sumX (l.take k), sumY (l.take k)), ()) = _ ∧ _) ∨ ∃ y, G_61_1 l (l.length : Int) (k : Int) (w, ()) ((sumX (l.take k), sumY (l.take k)), ()) = _ ∧ _
    unfold G_61_1
    by_cases h : k < l.length
    · have hmu : l.length - (IntKind.i64.wrap ((k : Int) + 1)).toNat < l.length - (k : Int).toNat := by rw [wrap_up h (by omega)]; omega
      obtain ⟨b, hbd⟩ : ∃ b, b = l.getD k tBody.dflt := ⟨_, rfl⟩
      have hn := hb b (by rw [hbd]; exact get_mem h)
      have sx := sumX_take l k h
      have sy := sumY_take l k h
      rw [← hbd] at sx sy
      obtain ⟨⟨n1, n2⟩, n3, n4⟩ := hn
      obtain ⟨x1, x2⟩ := hx
      obtain ⟨y1, y2⟩ := hy
      have hc : F_62 (sumX (l.take k), sumY (l.take k)) b.2.2.2.2 = some (.inl ((sumX (l.take (k + 1)), sumY (l.take (k + 1))), ())) := by
        unfold F_62
        rw [n_154 ⟨by omega, by omega⟩ ⟨by omega, by omega⟩ ⟨by omega, by omega⟩]
        simp only [Option.bind_some, Sum.elim_inl]
        rw [n_154 ⟨by omega, by omega⟩ ⟨by omega, by omega⟩ ⟨by omega, by omega⟩, sx, sy]
        rfl
      simp only [dec_lt h, dec_in h, cond_true, Int.toNat_natCast, ← hbd]
      rw [hc]
      refine .inl ⟨_, rfl, ⟨k + 1, h, ?_, ?_, by rw [wrap_up h (by omega)]⟩, hmu⟩
      · rw [sx]; exact ⟨by omega, by omega⟩
      · rw [sy]; exact ⟨by omega, by omega⟩
    · have : k = l.length := by omega
      subst this
      simp only [dec_end, cond_false, List.take_length]
      exact .inr ⟨_, rfl, rfl⟩
theorem t_19 (w : World') (hl : w.2.1.length ≤ 100) (hb : ∀ b ∈ w.2.1, Near b.2.2.2.2.1 4294967296000000 ∧ Near b.2.2.2.2.2 4294967296000000) :
    F_19 w = some (((sumX w.2.1, sumY w.2.1), (0 : Int), ()) : Els [tVec, I]) := by
  unfold F_19 F_60_61
  rw [t_61 w hl hb]; rfl
theorem t_4_4 (l : List Body) (j : List Joint) (n : Int) (hn : l.length ≤ 1000) :
    (R_4_4 ((l, j, n, l, (l.length : Int), (0 : Int), ()), ()) = some (.inl ((l, j, n, ()), ())) ∧ ∀ b ∈ l, b.2.2.1 ≠ 0) ∨ R_4_4 ((l, j, n, l, (l.length : Int), (0 : Int), ()), ()) = some (.inr ((true, ()), ())) := by
  have := rounds_mu (G := fun x => G_4_4 x.1.1 x.1.2.1 x.1.2.2.1 x.1.2.2.2.1 x.1.2.2.2.2.1 x.1.2.2.2.2.2.1)
    (fun x => ∃ k : Nat, k ≤ l.length ∧ (∀ b ∈ l.take k, b.2.2.1 ≠ 0) ∧ x = ((l, j, n, l, (l.length : Int), (k : Int), ()), ())) (fun x => l.length - x.1.2.2.2.2.2.1.toNat)
    (fun y => (y = .inl ((l, j, n, ()), ()) ∧ ∀ b ∈ l, b.2.2.1 ≠ 0) ∨ y = .inr ((true, ()), ())) ?_ fuel ((l, j, n, l, (l.length : Int), (0 : Int), ()), ()) ⟨0, Nat.zero_le _, fun b hb => by simp at hb, rfl⟩ (by
      show l.length - (0 : Int).toNat < fuel
      unfold fuel; omega)
  · obtain ⟨y, h, hy⟩ := this
    rcases hy with ⟨rfl, hm⟩ | rfl
    · exact .inl ⟨h, hm⟩
    · exact .inr h
  · rintro x ⟨k, hk, hp, rfl⟩
    show (∃ x', G_4_4 l j n l (l.length : Int) (k : Int) = _ ∧ _) ∨ ∃ y, G_4_4 l j n l (l.length : Int) (k : Int) = _ ∧ _
    unfold G_4_4
    by_cases h : k < l.length
    · have hmu : l.length - (IntKind.i64.wrap ((k : Int) + 1)).toNat < l.length - (k : Int).toNat := by rw [wrap_up h (by omega)]; omega
      have hg := List.getElem?_eq_getElem h
      simp only [dec_lt h, dec_in h, cond_true, getD_of hg]
      cases h0 : (l[k].2.2.1 == (0 : Int)) with
      | true => exact .inr ⟨_, rfl, .inr rfl⟩
      | false =>
        refine .inl ⟨_, rfl, ⟨k + 1, h, ?_, by rw [wrap_up h (by omega)]⟩, hmu⟩
        intro x hx
        rw [List.take_succ_eq_append_getElem h] at hx
        rcases List.mem_append.1 hx with hx | hx
        · exact hp x hx
        · rw [List.mem_singleton.1 hx]; simpa using h0
    · have : k = l.length := by omega
      subst this
      simp only [dec_end, cond_false]
      exact .inr ⟨_, rfl, .inl ⟨rfl, by rw [List.take_length] at hp; exact hp⟩⟩
theorem worldMomentum (l : (Ty.list tBody).El) (j : (Ty.list tJoint).El) (n : I.El) (h1 : (Ty.list tBody).wf l) (h2 : (Ty.list tJoint).wf j) (h3 : I.wf n) : F_4 l j n = some ((true, ()) : Els [.bool]) := by
  obtain ⟨n', rfl⟩ : ∃ n' : Int, n' = n := ⟨n, rfl⟩
  unfold F_4
  by_cases c1 : ((List.length l : Nat) : Int) > (10 : Int)
  · rw [decide_eq_true c1]; exact yes14
  rw [decide_eq_false c1, cond_false]
  by_cases c2 : ((List.length j : Nat) : Int) > (8 : Int)
  · rw [decide_eq_true c2]; exact yes14
  rw [decide_eq_false c2, cond_false]
  by_cases c3 : n' < 0
  · rw [decide_eq_true c3]; exact yes14
  rw [decide_eq_false c3, cond_false]
  by_cases c4 : n' > 10
  · rw [decide_eq_true c4]; exact yes14
  rw [decide_eq_false c4, cond_false, alive14]
  simp only [Option.bind_some, Bool.not_true, cond_false]
  have hl10 : l.length ≤ 10 := by omega
  rcases t_4_4 l j n' (by omega) with ⟨e, hm⟩ | e
  · rw [e]
    simp only [Option.bind_some, Sum.elim_inl]
    have hg : Good (((0 : Int), (0 : Int)), l, j) := ⟨by show l.length ≤ 10; omega, by show j.length ≤ 1000; omega⟩
    obtain ⟨k, hk⟩ := Int.eq_ofNat_of_zero_le (show 0 ≤ n' by omega)
    subst hk
    rw [t_15 (((0 : Int), (0 : Int)), l, j) k (by omega) hg]
    by_cases hz : k = 0 ∧ rb (((0 : Int), (0 : Int)), l, j) = false
    · rw [if_pos hz]; rfl
    · rw [if_neg hz]
      simp only [Option.bind_some]
      obtain ⟨r, hr⟩ : ∃ r, r = run k 0 (((0 : Int), (0 : Int)), l, j) := ⟨_, rfl⟩
      have hgr := run_good k 0 (((0 : Int), (0 : Int)), l, j) hg
      have hkeep := run_keep k 0 (((0 : Int), (0 : Int)), l, j) hg
      rw [← hr] at hgr hkeep ⊢
      cases he : (r.2.2 != (0 : Int)) with
      | true => rfl
      | false =>
        obtain ⟨q1, q2, q3, q4⟩ := hkeep (bne_eq he)
        have hrb : rb (((0 : Int), (0 : Int)), l, j) = true ∧ rb r.1 = true := by
          by_cases hk0 : k = 0
          · cases hrb : rb (((0 : Int), (0 : Int)), l, j) with
            | true =>
              refine ⟨rfl, ?_⟩
              rw [hr, hk0]; exact hrb
            | false => exact absurd ⟨hk0, hrb⟩ hz
          · exact q4 (by omega)
        obtain ⟨hB, _⟩ := (rb_iff (((0 : Int), (0 : Int)), l, j) (by show l.length ≤ 1000000; omega) (by show j.length ≤ 1000000; omega)).1 hrb.1
        have g1 := hgr.1
        have g2 := hgr.2
        obtain ⟨hB', _⟩ := (rb_iff r.1 (by omega) (by omega)).1 hrb.2
        have m1 := t_19 (((0 : Int), (0 : Int)), l, j) (by show l.length ≤ 100; omega) (fun b hb => (rB_near (hB b hb)).2)
        have m2 := t_19 r.1 (by omega) (fun b hb => (rB_near (hB' b hb)).2)
        obtain ⟨_, s1, s2⟩ := q1.mom rfl (fun b hb => ⟨hm b hb, near_in (by omega) (rB_near (hB b hb)).2⟩)
        simp only [cond_false]
        rw [m1]
        simp only [Option.bind_some]
        rw [m2]
        simp only [Option.bind_some]
        rw [s1, s2]
        simp
  · rw [e]; rfl
end Go.DI.S

