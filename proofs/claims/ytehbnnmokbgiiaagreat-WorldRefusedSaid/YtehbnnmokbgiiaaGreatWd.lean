import Derived.Test.YtehbnnmokbgiiaaGreatWc
/- WorldRefused, plain. No conditions. -/
/-! WorldRefused: what is asked is what is so. -/
set_option linter.unusedVariables false
set_option linter.unusedSimpArgs false
set_option maxRecDepth 100000
namespace Go.DI.S
open Go.Proofs
theorem yes14 : (F_14.bind fun v => Option.some (v.1, ())) = some ((true, ()) : Els [.bool]) := by rw [alive14]; rfl
theorem len_gt {α : Type} (l : List α) (k : Nat) : decide (((l.length : Nat) : Int) > (k : Int)) = decide (l.length > k) := by
  by_cases h : l.length > k
  · rw [decide_eq_true h, decide_eq_true (by omega)]
  · rw [decide_eq_false h, decide_eq_false (by omega)]
theorem worldRefused (g : Vec) (l : (Ty.list tBody).El) (j : (Ty.list tJoint).El) (n : I.El) (h0 : tVec.wf g) (h1 : (Ty.list tBody).wf l) (h2 : (Ty.list tJoint).wf j) (h3 : I.wf n) : F_9 g l j n = some ((true, ()) : Els [.bool]) := by
  have hn : ∃ n' : Int, n' = n := ⟨n, rfl⟩
  obtain ⟨n', rfl⟩ := hn
  unfold F_9
  by_cases c1 : ((List.length l : Nat) : Int) > (10 : Int)
  · rw [decide_eq_true c1]; exact yes14
  rw [decide_eq_false c1, cond_false]
  by_cases c2 : ((List.length j : Nat) : Int) > (8 : Int)
  · rw [decide_eq_true c2]; exact yes14
  rw [decide_eq_false c2, cond_false]
  have hg : Good (g, l, j) := ⟨by show l.length ≤ 10; omega, by show j.length ≤ 1000; omega⟩
  have hzero : zeroW.2.1.length = 0 := rfl
  obtain ⟨hF, hS⟩ := stp_ok hg
  obtain ⟨e16, _⟩ := t_16 (g, l, j) (by show l.length ≤ 1000000; omega) (by show j.length ≤ 1000000; omega)
  by_cases ca : n' ≥ 0
  · rw [decide_eq_true ca, cond_true]
    by_cases cb : n' ≤ 200
    · rw [decide_eq_true cb, cond_true]
      by_cases cc : n' > 5
      · rw [decide_eq_true cc]; exact yes14
      · rw [decide_eq_false cc, cond_false, alive14]
        simp only [Option.bind_some, Bool.not_true, cond_false]
        obtain ⟨k, hk⟩ := Int.eq_ofNat_of_zero_le ca
        have hk5 : k ≤ 5 := by omega
        rw [hF]
        simp only [Option.bind_some]
        have h15 := t_15 (g, l, j) k (by omega) hg
        rw [← hk] at h15
        rw [h15]
        simp only [Option.bind_some]
        rw [decide_eq_false (show ¬ n' < 0 by omega), cond_false, decide_eq_false (show ¬ n' > 200 by omega), cond_false, e16]
        simp only [Option.bind_some]
        cases hr : rb (g, l, j) with
        | true =>
          have hrun := run_right k 0 (g, l, j) hg hr
          rw [if_neg (by simp)]
          have hS := hS
          rw [hr] at hS
          rcases hS with ⟨h, _⟩ | ⟨_, hS⟩
          · cases h
          have hr9 : ((run k 0 (g, l, j)).2.2 != (9 : Int)) = true := by
            rcases hrun with ⟨h, _⟩ | ⟨h | h, _⟩ <;> rw [h] <;> rfl
          rcases hS with ⟨h, hb, hl, _⟩ | ⟨h, _⟩
          · obtain ⟨e16', _⟩ := t_16 (stp (g, l, j)).1 (by rw [hl]; show l.length ≤ 1000000; omega) (by have := (hg.next h).2; omega)
            have h9 : ((stp (g, l, j)).2 != (9 : Int)) = true := by rw [h]; rfl
            have h0 : ((stp (g, l, j)).2 != (0 : Int)) = false := by rw [h]; rfl
            simp only [cond_true, h9, hr9, h0, cond_false]
            rw [e16', hb]
            simp only [Option.bind_some, cond_true]
            have hl' : (((List.length (stp (g, l, j)).1.2.1 : Nat) : Int) == ((List.length l : Nat) : Int)) = true := by rw [hl]; simp
            rw [hl']
          · have h9 : ((stp (g, l, j)).2 != (9 : Int)) = true := by rcases h with h | h <;> rw [h] <;> rfl
            have h0 : ((stp (g, l, j)).2 != (0 : Int)) = true := by rcases h with h | h <;> rw [h] <;> rfl
            simp only [cond_true, h9, hr9, h0]
        | false =>
          have hS := hS
          rw [hr] at hS
          rcases hS with ⟨_, h9, hz⟩ | ⟨h, _⟩
          · have e9 : ((stp (g, l, j)).2 == (9 : Int)) = true := by rw [h9]; rfl
            have e0 : (((List.length (stp (g, l, j)).1.2.1 : Nat) : Int) == (0 : Int)) = true := by rw [hz]; rfl
            simp only [cond_false, e9, cond_true, e0]
            by_cases hk0 : k = 0
            · rw [if_pos ⟨hk0, by simp⟩]
              have : n' = 0 := by omega
              subst this
              rfl
            · rw [if_neg (by simp [hk0])]
              obtain ⟨m, rfl⟩ : ∃ m, k = m + 1 := ⟨k - 1, by omega⟩
              have e : run (m + 1) 0 (g, l, j) = (zeroW, ((0 + 1 : Nat) : Int), (stp (g, l, j)).2) := by
                show (if (stp (g, l, j)).2 = 0 then _ else _) = _
                rw [if_neg (by rw [h9]; decide)]
              rw [e, h9]
              have hmin : (if (1 : Int) < n' then (1 : Int) else n') = 1 := by split <;> omega
              show (bif ((9 : Int) == 9) then some ((((0 + 1 : Nat) : Int) == (if (1 : Int) < n' then (1 : Int) else n')), ()) else some (false, ())) = some ((true, ()) : Els [.bool])
              rw [hmin]; rfl
          · cases h
    · rw [decide_eq_false cb, cond_false, alive14]
      simp only [Option.bind_some, Bool.not_true, cond_false]
      rw [hF]
      simp only [Option.bind_some]
      rw [t_15out _ _ (.inr (by omega))]
      simp only [Option.bind_some]
      rw [decide_eq_false (show ¬ n' < 0 by omega), cond_false, decide_eq_true (show n' > 200 by omega)]; rfl
  · rw [decide_eq_false ca, cond_false, alive14]
    simp only [Option.bind_some, Bool.not_true, cond_false]
    rw [hF]
    simp only [Option.bind_some]
    rw [t_15out _ _ (.inl (by omega))]
    simp only [Option.bind_some]
    rw [decide_eq_true (show n' < 0 by omega)]; rfl
end Go.DI.S

