import Derived.Test.YtehbnnmokbgiiaaGreatWc
/- WorldRefused, WorldFails, WorldParts, plain. No conditions. -/
/-! WorldRefused: what is asked is what is so. -/
set_option linter.unusedVariables false
set_option linter.unusedSimpArgs false
set_option maxRecDepth 100000
namespace Go.DI.S
open Go.Proofs
theorem yes14 : (F_14.bind fun v => Option.some (v.1, ())) = some ((true, ()) : Els [.bool]) := by rw [alive14]; rfl
theorem len_gt {α : Type} (l : List α) (k : Nat) : decide (((l.length : Nat) : Int) > (k : Int)) = decide (l.length > k) := by
  by_cases h : l.length > k
  · rw [decide_eq_true h, decide_eq_true (by omega)]
  · rw [decide_eq_false h, decide_eq_false (by omega)]
theorem worldRefused (g : Vec) (l : (Ty.list tBody).El) (j : (Ty.list tJoint).El) (n : I.El) (h0 : tVec.wf g) (h1 : (Ty.list tBody).wf l) (h2 : (Ty.list tJoint).wf j) (h3 : I.wf n) : F_9 g l j n = some ((true, ()) : Els [.bool]) := by
  have hn : ∃ n' : Int, n' = n := ⟨n, rfl⟩
  obtain ⟨n', rfl⟩ := hn
  unfold F_9
  by_cases c1 : ((List.length l : Nat) : Int) > (10 : Int)
  · rw [decide_eq_true c1]; exact yes14
  rw [decide_eq_false c1, cond_false]
  by_cases c2 : ((List.length j : Nat) : Int) > (8 : Int)
  · rw [decide_eq_true c2]; exact yes14
  rw [decide_eq_false c2, cond_false]
  have hg : Good (g, l, j) := ⟨by show l.length ≤ 10; omega, by show j.length ≤ 1000; omega⟩
  have hzero : zeroW.2.1.length = 0 := rfl
  obtain ⟨hF, hS⟩ := stp_ok hg
  obtain ⟨e16, _⟩ := t_16 (g, l, j) (by show l.length ≤ 1000000; omega) (by show j.length ≤ 1000000; omega)
  by_cases ca : n' ≥ 0
  · rw [decide_eq_true ca, cond_true]
    by_cases cb : n' ≤ 200
    · rw [decide_eq_true cb, cond_true]
      by_cases cc : n' > 5
      · rw [decide_eq_true cc]; exact yes14
      · rw [decide_eq_false cc, cond_false, alive14]
        simp only [Option.bind_some, Bool.not_true, cond_false]
        obtain ⟨k, hk⟩ := Int.eq_ofNat_of_zero_le ca
        have hk5 : k ≤ 5 := by omega
        rw [hF]
        simp only [Option.bind_some]
        have h15 := t_15 (g, l, j) k (by omega) hg
        rw [← hk] at h15
        rw [h15]
        simp only [Option.bind_some]
        rw [decide_eq_false (show ¬ n' < 0 by omega), cond_false, decide_eq_false (show ¬ n' > 200 by omega), cond_false, e16]
        simp only [Option.bind_some]
        cases hr : rb (g, l, j) with
        | true =>
          have hrun := run_right k 0 (g, l, j) hg hr
          rw [if_neg (by simp)]
          have hS := hS
          rw [hr] at hS
          rcases hS with ⟨h, _⟩ | ⟨_, hS⟩
          · cases h
          have hr9 : ((run k 0 (g, l, j)).2.2 != (9 : Int)) = true := by
            rcases hrun with ⟨h, _⟩ | ⟨h | h, _⟩ <;> rw [h] <;> rfl
          rcases hS with ⟨h, hb, hl, _⟩ | ⟨h, _⟩
          · obtain ⟨e16', _⟩ := t_16 (stp (g, l, j)).1 (by rw [hl]; show l.length ≤ 1000000; omega) (by have := (hg.next h).2; omega)
            have h9 : ((stp (g, l, j)).2 != (9 : Int)) = true := by rw [h]; rfl
            have h0 : ((stp (g, l, j)).2 != (0 : Int)) = false := by rw [h]; rfl
            simp only [cond_true, h9, hr9, h0, cond_false]
            rw [e16', hb]
            simp only [Option.bind_some, cond_true]
            have hl' : (((List.length (stp (g, l, j)).1.2.1 : Nat) : Int) == ((List.length l : Nat) : Int)) = true := by rw [hl]; simp
            rw [hl']
          · have h9 : ((stp (g, l, j)).2 != (9 : Int)) = true := by rcases h with h | h <;> rw [h] <;> rfl
            have h0 : ((stp (g, l, j)).2 != (0 : Int)) = true := by rcases h with h | h <;> rw [h] <;> rfl
            simp only [cond_true, h9, hr9, h0]
        | false =>
          have hS := hS
          rw [hr] at hS
          rcases hS with ⟨_, h9, hz⟩ | ⟨h, _⟩
          · have e9 : ((stp (g, l, j)).2 == (9 : Int)) = true := by rw [h9]; rfl
            have e0 : (((List.length (stp (g, l, j)).1.2.1 : Nat) : Int) == (0 : Int)) = true := by rw [hz]; rfl
            simp only [cond_false, e9, cond_true, e0]
            by_cases hk0 : k = 0
            · rw [if_pos ⟨hk0, by simp⟩]
              have : n' = 0 := by omega
              subst this
              rfl
            · rw [if_neg (by simp [hk0])]
              obtain ⟨m, rfl⟩ : ∃ m, k = m + 1 := ⟨k - 1, by omega⟩
              have e : run (m + 1) 0 (g, l, j) = (zeroW, ((0 + 1 : Nat) : Int), (stp (g, l, j)).2) := by
                show (if (stp (g, l, j)).2 = 0 then _ else _) = _
                rw [if_neg (by rw [h9]; decide)]
              rw [e, h9]
              have hmin : (if (1 : Int) < n' then (1 : Int) else n') = 1 := by split <;> omega
              show (bif ((9 : Int) == 9) then some ((((0 + 1 : Nat) : Int) == (if (1 : Int) < n' then (1 : Int) else n')), ()) else some (false, ())) = some ((true, ()) : Els [.bool])
              rw [hmin]; rfl
          · cases h
    · rw [decide_eq_false cb, cond_false, alive14]
      simp only [Option.bind_some, Bool.not_true, cond_false]
      rw [hF]
      simp only [Option.bind_some]
      rw [t_15out _ _ (.inr (by omega))]
      simp only [Option.bind_some]
      rw [decide_eq_false (show ¬ n' < 0 by omega), cond_false, decide_eq_true (show n' > 200 by omega)]; rfl
  · rw [decide_eq_false ca, cond_false, alive14]
    simp only [Option.bind_some, Bool.not_true, cond_false]
    rw [hF]
    simp only [Option.bind_some]
    rw [t_15out _ _ (.inl (by omega))]
    simp only [Option.bind_some]
    rw [decide_eq_true (show n' < 0 by omega)]; rfl
end Go.DI.S

/-! WorldFails, WorldParts: what is asked is what is so. -/
set_option linter.unusedVariables false
set_option linter.unusedSimpArgs false
set_option maxRecDepth 100000
namespace Go.DI.S
open Go.Proofs
theorem run_go {w : World'} {m k : Nat} (h : (stp w).2 = 0) : run (m + 1) k w = run m (k + 1) (stp w).1 := by
  show (if (stp w).2 = 0 then _ else _) = _
  rw [if_pos h]
theorem run_no {w : World'} {m k : Nat} (h : (stp w).2 ≠ 0) : run (m + 1) k w = (zeroW, ((k + 1 : Nat) : Int), (stp w).2) := by
  show (if (stp w).2 = 0 then _ else _) = _
  rw [if_neg h]
/-- Where many steps fail. -/
theorem run_where : ∀ (m k : Nat) (w : World'), Good w → (run m k w).2.2 ≠ 0 → ∃ i, i < m ∧ (run m k w).2.1 = ((k + i + 1 : Nat) : Int) ∧ (∀ k', (run i k' w).2.2 = 0 ∧ (run i k' w).2.1 = 0 ∧ Good (run i k' w).1 ∧ (stp (run i k' w).1).2 = (run m k w).2.2)
  | 0, k, w, hg, h => absurd rfl h
  | m + 1, k, w, hg, h => by
    by_cases h0 : (stp w).2 = 0
    · rw [run_go h0] at h ⊢
      obtain ⟨i, h1, h2, h3⟩ := run_where m (k + 1) (stp w).1 (hg.next h0) h
      refine ⟨i + 1, by omega, by rw [h2]; omega, fun k' => ?_⟩
      rw [run_go h0]
      exact h3 (k' + 1)
    · rw [run_no h0]
      exact ⟨0, by omega, rfl, fun k' => ⟨rfl, rfl, hg, rfl⟩⟩
theorem run_zero : ∀ (m k : Nat) (w : World'), (run m k w).2.2 = 0 → (run m k w).2.1 = 0
  | 0, k, w, _ => rfl
  | m + 1, k, w, h => by
    by_cases h0 : (stp w).2 = 0
    · rw [run_go h0] at h ⊢
      exact run_zero m _ _ h
    · rw [run_no h0] at h
      exact absurd h h0
theorem worldFails (g : Vec) (l : (Ty.list tBody).El) (j : (Ty.list tJoint).El) (n : I.El) (h0 : tVec.wf g) (h1 : (Ty.list tBody).wf l) (h2 : (Ty.list tJoint).wf j) (h3 : I.wf n) : F_7 g l j n = some ((true, ()) : Els [.bool]) := by
  obtain ⟨n', rfl⟩ : ∃ n' : Int, n' = n := ⟨n, rfl⟩
  unfold F_7
  by_cases c1 : ((List.length l : Nat) : Int) > (8 : Int)
  · rw [decide_eq_true c1]; exact yes14
  rw [decide_eq_false c1, cond_false]
  by_cases c2 : ((List.length j : Nat) : Int) > (6 : Int)
  · rw [decide_eq_true c2]; exact yes14
  rw [decide_eq_false c2, cond_false]
  by_cases c3 : n' < 1
  · rw [decide_eq_true c3]; exact yes14
  rw [decide_eq_false c3, cond_false]
  by_cases c4 : n' > 10
  · rw [decide_eq_true c4]; exact yes14
  rw [decide_eq_false c4, cond_false, alive14]
  simp only [Option.bind_some, Bool.not_true, cond_false]
  have hg : Good (g, l, j) := ⟨by show l.length ≤ 10; omega, by show j.length ≤ 1000; omega⟩
  obtain ⟨k, hk⟩ := Int.eq_ofNat_of_zero_le (show 0 ≤ n' by omega)
  have h15 := t_15 (g, l, j) k (by omega) hg
  rw [if_neg (by omega), ← hk] at h15
  rw [h15]
  simp only [Option.bind_some]
  cases he : ((run k 0 (g, l, j)).2.2 == (0 : Int)) with
  | true =>
    have : (run k 0 (g, l, j)).2.2 = 0 := by simpa using he
    rw [cond_true, run_zero k 0 _ this]; rfl
  | false =>
    have hne : (run k 0 (g, l, j)).2.2 ≠ 0 := by simpa using he
    obtain ⟨i, hi, hat, hw⟩ := run_where k 0 (g, l, j) hg hne
    obtain ⟨w0, w1, w2, w3⟩ := hw 0
    have hat : (run k 0 (g, l, j)).2.1 = (i : Int) + 1 := by rw [hat]; omega
    rw [cond_false, hat, decide_eq_false (show ¬ (i : Int) + 1 < 1 by omega), cond_false, decide_eq_false (show ¬ (i : Int) + 1 > n' by omega), cond_false]
    have hwr : IntKind.i64.wrap ((i : Int) + 1 - 1) = (i : Int) := by rw [wrap64 (by omega) (by omega)]; omega
    rw [hwr]
    have h15' := t_15 (g, l, j) i (by omega) hg
    rw [h15']
    simp only [Option.bind_some]
    by_cases hi0 : i = 0
    · subst hi0
      have e1 : (((0 : Nat) : Int) + 1 == (1 : Int)) = true := rfl
      rw [e1, cond_true, (stp_ok hg).1]
      simp only [Option.bind_some]
      have : (stp (g, l, j)).2 = (run k 0 (g, l, j)).2.2 := w3
      rw [this]; simp
    · have e1 : ((i : Int) + 1 == (1 : Int)) = false := beq_false_of_ne (by omega)
      rw [e1, cond_false, if_neg (by omega)]
      simp only
      rw [(stp_ok w2).1]
      simp only [Option.bind_some]
      rw [w0, w1, w3]
      simp
/-! ### parts -/
theorem run_add : ∀ (a b k : Nat) (w : World'), (run a k w).2.2 = 0 → run (a + b) k w = run b (k + a) (run a k w).1
  | 0, b, k, w, _ => by rw [Nat.zero_add]; rfl
  | a + 1, b, k, w, h => by
    by_cases h0 : (stp w).2 = 0
    · rw [run_go h0] at h ⊢
      rw [show a + 1 + b = (a + b) + 1 by omega, run_go h0, run_add a b (k + 1) _ h, show k + 1 + a = k + (a + 1) by omega]
    · rw [run_no h0] at h
      exact absurd h h0
theorem run_from : ∀ (m k d : Nat) (w : World'), (run m (k + d) w).1 = (run m k w).1 ∧ (run m (k + d) w).2.2 = (run m k w).2.2 ∧ ((run m k w).2.2 ≠ 0 → (run m (k + d) w).2.1 = (run m k w).2.1 + d)
  | 0, k, d, w => ⟨rfl, rfl, fun h => absurd rfl h⟩
  | m + 1, k, d, w => by
    by_cases h0 : (stp w).2 = 0
    · rw [run_go h0, run_go h0, show k + d + 1 = (k + 1) + d by omega]
      exact run_from m (k + 1) d _
    · rw [run_no h0, run_no h0]
      exact ⟨rfl, rfl, fun _ => by show ((k + d + 1 : Nat) : Int) = ((k + 1 : Nat) : Int) + d; omega⟩
theorem t_22 (l : List Body) (hl : l.length ≤ 1000000) : F_22 l l = some ((true, ()) : Els [.bool]) := by
  have := rounds_mu (G := fun x => G_22_4 x.1.1 x.1.2.1 x.1.2.2.1) (fun x => ∃ k : Nat, k ≤ l.length ∧ x = ((l, l, (k : Int), ()), ())) (fun x => l.length - x.1.2.2.1.toNat)
    (fun y => y = .inl ((), ())) ?_ fuel ((l, l, (0 : Int), ()), ()) ⟨0, Nat.zero_le _, rfl⟩ (by
      show l.length - (0 : Int).toNat < fuel
      unfold fuel; omega)
  · obtain ⟨y, h, rfl⟩ := this
    unfold F_22 R_22_4
    have e : (((List.length l : Nat) : Int) != ((List.length l : Nat) : Int)) = false := by simp
    rw [e, cond_false, h]; rfl
  · rintro x ⟨k, hk, rfl⟩
    show (∃ x', G_22_4 l l (k : Int) = _ ∧ _) ∨ ∃ y, G_22_4 l l (k : Int) = _ ∧ _
    unfold G_22_4
    by_cases h : k < l.length
    · have hmu : l.length - (IntKind.i64.wrap ((k : Int) + 1)).toNat < l.length - (k : Int).toNat := by rw [wrap_up h (by omega)]; omega
      simp only [dec_lt h, dec_in h, cond_true, beq_self_eq_true, Bool.and_self, Bool.not_true, cond_false]
      exact .inl ⟨_, rfl, ⟨k + 1, h, by rw [wrap_up h (by omega)]⟩, hmu⟩
    · have : k = l.length := by omega
      subst this
      simp only [dec_end, cond_false]
      exact .inr ⟨_, rfl, rfl⟩
theorem t_17 (w : World') (hg : Good w) : F_17 w w = some ((true, ()) : Els [.bool]) := by
  have := rounds_mu (G := fun x => G_17_4 x.1.2.2.1 x.1.2.2.2.1 x.2.1 x.2.2.1) (fun x => ∃ k : Nat, k ≤ w.2.2.length ∧ x = (((), (), (w.2.2.length : Int), (k : Int), ()), (w, ()), (w, ()), ())) (fun x => w.2.2.length - x.1.2.2.2.1.toNat)
    (fun y => y = .inl (((), (), ()), (w, ()), (w, ()), ())) ?_ fuel (((), (), (w.2.2.length : Int), (0 : Int), ()), (w, ()), (w, ()), ()) ⟨0, Nat.zero_le _, rfl⟩ (by
      show w.2.2.length - (0 : Int).toNat < fuel
      unfold fuel; have := hg.2; omega)
  · obtain ⟨y, h, rfl⟩ := this
    unfold F_17 R_17_4
    have e : (((List.length w.2.2 : Nat) : Int) != ((List.length w.2.2 : Nat) : Int)) = false := by simp
    simp only [beq_self_eq_true, Bool.and_self, Bool.not_true, cond_false, e]
    rw [h]
    simp only [Option.bind_some, Sum.elim_inl]
    rw [t_22 w.2.1 (by have := hg.1; omega)]; rfl
  · rintro x ⟨k, hk, rfl⟩
    show (∃ x', G_17_4 (w.2.2.length : Int) (k : Int) (w, ()) (w, ()) = _ ∧ _) ∨ ∃ y, G_17_4 (w.2.2.length : Int) (k : Int) (w, ()) (w, ()) = _ ∧ _
    unfold G_17_4
    have hg2 := hg.2
    by_cases h : k < w.2.2.length
    · have hmu : w.2.2.length - (IntKind.i64.wrap ((k : Int) + 1)).toNat < w.2.2.length - (k : Int).toNat := by rw [wrap_up h (by omega)]; omega
      simp only [dec_lt h, dec_in h, cond_true, beq_self_eq_true, Bool.and_self, Bool.not_true, cond_false]
      exact .inl ⟨_, rfl, ⟨k + 1, h, by rw [wrap_up h (by omega)]⟩, hmu⟩
    · have : k = w.2.2.length := by omega
      subst this
      simp only [dec_end, cond_false]
      exact .inr ⟨_, rfl, rfl⟩
theorem good_zero : Good zeroW := ⟨Nat.zero_le _, Nat.zero_le _⟩
theorem run_good : ∀ (m k : Nat) (w : World'), Good w → Good (run m k w).1
  | 0, k, w, hg => hg
  | m + 1, k, w, hg => by
    by_cases h0 : (stp w).2 = 0
    · rw [run_go h0]; exact run_good m (k + 1) _ (hg.next h0)
    · rw [run_no h0]; exact good_zero
theorem worldParts (g : Vec) (l : (Ty.list tBody).El) (j : (Ty.list tJoint).El) (a b : I.El) (h0 : tVec.wf g) (h1 : (Ty.list tBody).wf l) (h2 : (Ty.list tJoint).wf j) (h3 : I.wf a) (h4 : I.wf b) : F_3 g l j a b = some ((true, ()) : Els [.bool]) := by
  obtain ⟨a', rfl⟩ : ∃ n' : Int, n' = a := ⟨a, rfl⟩
  obtain ⟨b', rfl⟩ : ∃ n' : Int, n' = b := ⟨b, rfl⟩
  unfold F_3
  by_cases c1 : ((List.length l : Nat) : Int) > (10 : Int)
  · rw [decide_eq_true c1]; exact yes14
  rw [decide_eq_false c1, cond_false]
  by_cases c2 : ((List.length j : Nat) : Int) > (8 : Int)
  · rw [decide_eq_true c2]; exact yes14
  rw [decide_eq_false c2, cond_false]
  by_cases c3 : a' < 0
  · rw [decide_eq_true c3]; exact yes14
  rw [decide_eq_false c3, cond_false]
  by_cases c4 : b' < 0
  · rw [decide_eq_true c4]; exact yes14
  rw [decide_eq_false c4, cond_false]
  by_cases c5 : a' > 6
  · rw [decide_eq_true c5]; exact yes14
  rw [decide_eq_false c5, cond_false]
  by_cases c6 : b' > 6
  · rw [decide_eq_true c6]; exact yes14
  rw [decide_eq_false c6, cond_false, alive14]
  simp only [Option.bind_some, Bool.not_true, cond_false]
  have hg : Good (g, l, j) := ⟨by show l.length ≤ 10; omega, by show j.length ≤ 1000; omega⟩
  obtain ⟨ka, hka⟩ := Int.eq_ofNat_of_zero_le (show 0 ≤ a' by omega)
  obtain ⟨kb, hkb⟩ := Int.eq_ofNat_of_zero_le (show 0 ≤ b' by omega)
  subst hka
  subst hkb
  obtain ⟨e16, _⟩ := t_16 (g, l, j) (by show l.length ≤ 1000000; omega) (by show j.length ≤ 1000000; omega)
  rw [t_15 (g, l, j) ka (by omega) hg, e16]
  cases hr : rb (g, l, j) with
  | false =>
    have h9 : (stp (g, l, j)).2 = 9 := by
      rcases (stp_ok hg).2 with ⟨_, h, _⟩ | ⟨h, _⟩
      · exact h
      · rw [hr] at h; cases h
    by_cases hk : ka = 0
    · subst hk
      rw [if_pos (by simp)]; rfl
    · rw [if_neg (by simp [hk])]
      obtain ⟨m, rfl⟩ : ∃ m, ka = m + 1 := ⟨ka - 1, by omega⟩
      rw [run_no (by rw [h9]; decide), h9]; rfl
  | true =>
    rw [if_neg (by simp)]
    simp only [Option.bind_some]
    rcases run_right ka 0 (g, l, j) hg hr with ⟨k1, k2, k3, k4⟩ | ⟨k1, k2, k3⟩
    · have e0 : ((run ka 0 (g, l, j)).2.2 != (0 : Int)) = false := by rw [k1]; rfl
      rw [e0, cond_false, t_15 (run ka 0 (g, l, j)).1 kb (by omega) k4]
      rw [if_neg (by rw [k3]; simp)]
      have hw : IntKind.i64.wrap ((ka : Int) + (kb : Int)) = ((ka + kb : Nat) : Int) := by rw [wrap64 (by omega) (by omega)]; omega
      rw [hw, t_15 (g, l, j) (ka + kb) (by omega) hg, if_neg (by rw [hr]; simp)]
      rw [run_add ka kb 0 _ k1, Nat.zero_add]
      obtain ⟨x, hx⟩ : ∃ x, x = (run ka 0 (g, l, j)).1 := ⟨_, rfl⟩
      rw [← hx] at k3 k4 ⊢
      obtain ⟨f1, f2, f3⟩ := run_from kb 0 ka x
      rw [Nat.zero_add] at f1 f2 f3
      simp only [Option.bind_some]
      have e1 : ((run kb 0 x).2.2 != (run kb ka x).2.2) = false := by rw [f2]; simp
      have e17 := t_17 (run kb 0 x).1 (run_good kb 0 x k4)
      rw [e1, cond_false, f1]
      have e18 : F_18 (run kb 0 x).1 = some (((run kb 0 x).1, ()) : Els [tWorld]) := rfl
      cases hf : ((run kb 0 x).2.2 != (0 : Int)) with
      | false =>
        rw [cond_false, e18]
        simp only [Option.bind_some]
        rw [e17]; rfl
      | true =>
        have hne : (run kb 0 x).2.2 ≠ 0 := by simpa using hf
        rcases run_right kb 0 x k4 k3 with ⟨h, _⟩ | ⟨_, h5, h6⟩
        · exact absurd h hne
        have hct : ((run kb ka x).2.1 != IntKind.i64.wrap ((ka : Int) + (run kb 0 x).2.1)) = false := by
          rw [f3 hne, wrap64 (by omega) (by omega), Int.add_comm]; simp
        rw [cond_true, hct, cond_false, e18]
        simp only [Option.bind_some]
        rw [e17]; rfl
    · have e0 : ((run ka 0 (g, l, j)).2.2 != (0 : Int)) = true := by rcases k1 with h | h <;> rw [h] <;> rfl
      rw [e0, cond_true]
      simp only [Bool.not_true, cond_false]
      rw [decide_eq_true (show (run ka 0 (g, l, j)).2.1 ≥ 1 by omega), cond_true, decide_eq_true (show (run ka 0 (g, l, j)).2.1 ≤ (ka : Int) by omega)]
end Go.DI.S

