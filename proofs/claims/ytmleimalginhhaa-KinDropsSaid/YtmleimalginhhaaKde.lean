import Derived.Test.YtmleimalginhhaaKda
import Derived.Test.YtmleimalginhhaaKdb
import Derived.Test.YtmleimalginhhaaKdc
import Derived.Test.YtmleimalginhhaaKdd
/- KinDrops, plain: at every two numbers it comes to true. No conditions. -/
set_option linter.unusedVariables false
set_option maxRecDepth 100000
namespace Go.DI.S
theorem int_bounds {a : Int} (h : I.wf a) : -9223372036854775808 ≤ a ∧ a ≤ 9223372036854775807 := by
  have h : (Lit.int IntKind.i64 a).wf = true := h
  simp only [Lit.wf, Bool.and_eq_true, decide_eq_true_eq] at h
  have e1 : IntKind.i64.min = -9223372036854775808 := by decide
  have e2 : IntKind.i64.max = 9223372036854775807 := by decide
  rw [e1, e2] at h
  exact h
theorem kinDrops (a0 a1 : Int) (h0 : I.wf a0) (h1 : I.wf a1) : F_12 a0 a1 = some (true, ()) := by
  have hb := int_bounds h1
  by_cases c1 : a0 < 2
  · unfold F_12
    rw [decide_eq_true c1, alive36]; rfl
  · by_cases c2 : a0 > 15
    · unfold F_12
      rw [decide_eq_false c1, decide_eq_true c2, alive36]; rfl
    · obtain ⟨k, hk, k1, k2⟩ := at12_in a0 a1 (by omega) (by omega) hb.1 hb.2
      have hc : a0 = 2 ∨ a0 = 3 ∨ a0 = 4 ∨ a0 = 5 ∨ a0 = 6 ∨ a0 = 7 ∨ a0 = 8 ∨ a0 = 9 ∨ a0 = 10 ∨ a0 = 11 ∨ a0 = 12 ∨ a0 = 13 ∨ a0 = 14 ∨ a0 = 15 := by omega
      rcases hc with h | h | h | h | h | h | h | h | h | h | h | h | h | h <;> subst h
      · rw [e12_2, hk]
        have hk : k = 1 ∨ k = 2 := by omega
        rcases hk with h | h <;> subst h
        · exact v12_2_1
        · exact v12_2_2
      · rw [e12_3, hk]
        have hk : k = 1 ∨ k = 2 ∨ k = 3 := by omega
        rcases hk with h | h | h <;> subst h
        · exact v12_3_1
        · exact v12_3_2
        · exact v12_3_3
      · rw [e12_4, hk]
        have hk : k = 1 ∨ k = 2 ∨ k = 3 ∨ k = 4 := by omega
        rcases hk with h | h | h | h <;> subst h
        · exact v12_4_1
        · exact v12_4_2
        · exact v12_4_3
        · exact v12_4_4
      · rw [e12_5, hk]
        have hk : k = 1 ∨ k = 2 ∨ k = 3 ∨ k = 4 ∨ k = 5 := by omega
        rcases hk with h | h | h | h | h <;> subst h
        · exact v12_5_1
        · exact v12_5_2
        · exact v12_5_3
        · exact v12_5_4
        · exact v12_5_5
      · rw [e12_6, hk]
        have hk : k = 1 ∨ k = 2 ∨ k = 3 ∨ k = 4 ∨ k = 5 ∨ k = 6 := by omega
        rcases hk with h | h | h | h | h | h <;> subst h
        · exact v12_6_1
        · exact v12_6_2
        · exact v12_6_3
        · exact v12_6_4
        · exact v12_6_5
        · exact v12_6_6
      · rw [e12_7, hk]
        have hk : k = 1 ∨ k = 2 ∨ k = 3 ∨ k = 4 ∨ k = 5 ∨ k = 6 ∨ k = 7 := by omega
        rcases hk with h | h | h | h | h | h | h <;> subst h
        · exact v12_7_1
        · exact v12_7_2
        · exact v12_7_3
        · exact v12_7_4
        · exact v12_7_5
        · exact v12_7_6
        · exact v12_7_7
      · rw [e12_8, hk]
        have hk : k = 1 ∨ k = 2 ∨ k = 3 ∨ k = 4 ∨ k = 5 ∨ k = 6 ∨ k = 7 ∨ k = 8 := by omega
        rcases hk with h | h | h | h | h | h | h | h <;> subst h
        · exact v12_8_1
        · exact v12_8_2
        · exact v12_8_3
        · exact v12_8_4
        · exact v12_8_5
        · exact v12_8_6
        · exact v12_8_7
        · exact v12_8_8
      · rw [e12_9, hk]
        have hk : k = 1 ∨ k = 2 ∨ k = 3 ∨ k = 4 ∨ k = 5 ∨ k = 6 ∨ k = 7 ∨ k = 8 ∨ k = 9 := by omega
        rcases hk with h | h | h | h | h | h | h | h | h <;> subst h
        · exact v12_9_1
        · exact v12_9_2
        · exact v12_9_3
        · exact v12_9_4
        · exact v12_9_5
        · exact v12_9_6
        · exact v12_9_7
        · exact v12_9_8
        · exact v12_9_9
      · rw [e12_10, hk]
        have hk : k = 1 ∨ k = 2 ∨ k = 3 ∨ k = 4 ∨ k = 5 ∨ k = 6 ∨ k = 7 ∨ k = 8 ∨ k = 9 ∨ k = 10 := by omega
        rcases hk with h | h | h | h | h | h | h | h | h | h <;> subst h
        · exact v12_10_1
        · exact v12_10_2
        · exact v12_10_3
        · exact v12_10_4
        · exact v12_10_5
        · exact v12_10_6
        · exact v12_10_7
        · exact v12_10_8
        · exact v12_10_9
        · exact v12_10_10
      · rw [e12_11, hk]
        have hk : k = 1 ∨ k = 2 ∨ k = 3 ∨ k = 4 ∨ k = 5 ∨ k = 6 ∨ k = 7 ∨ k = 8 ∨ k = 9 ∨ k = 10 ∨ k = 11 := by omega
        rcases hk with h | h | h | h | h | h | h | h | h | h | h <;> subst h
        · exact v12_11_1
        · exact v12_11_2
        · exact v12_11_3
        · exact v12_11_4
        · exact v12_11_5
        · exact v12_11_6
        · exact v12_11_7
        · exact v12_11_8
        · exact v12_11_9
        · exact v12_11_10
        · exact v12_11_11
      · rw [e12_12, hk]
        have hk : k = 1 ∨ k = 2 ∨ k = 3 ∨ k = 4 ∨ k = 5 ∨ k = 6 ∨ k = 7 ∨ k = 8 ∨ k = 9 ∨ k = 10 ∨ k = 11 ∨ k = 12 := by omega
        rcases hk with h | h | h | h | h | h | h | h | h | h | h | h <;> subst h
        · exact v12_12_1
        · exact v12_12_2
        · exact v12_12_3
        · exact v12_12_4
        · exact v12_12_5
        · exact v12_12_6
        · exact v12_12_7
        · exact v12_12_8
        · exact v12_12_9
        · exact v12_12_10
        · exact v12_12_11
        · exact v12_12_12
      · rw [e12_13, hk]
        have hk : k = 1 ∨ k = 2 ∨ k = 3 ∨ k = 4 ∨ k = 5 ∨ k = 6 ∨ k = 7 ∨ k = 8 ∨ k = 9 ∨ k = 10 ∨ k = 11 ∨ k = 12 ∨ k = 13 := by omega
        rcases hk with h | h | h | h | h | h | h | h | h | h | h | h | h <;> subst h
        · exact v12_13_1
        · exact v12_13_2
        · exact v12_13_3
        · exact v12_13_4
        · exact v12_13_5
        · exact v12_13_6
        · exact v12_13_7
        · exact v12_13_8
        · exact v12_13_9
        · exact v12_13_10
        · exact v12_13_11
        · exact v12_13_12
        · exact v12_13_13
      · rw [e12_14, hk]
        have hk : k = 1 ∨ k = 2 ∨ k = 3 ∨ k = 4 ∨ k = 5 ∨ k = 6 ∨ k = 7 ∨ k = 8 ∨ k = 9 ∨ k = 10 ∨ k = 11 ∨ k = 12 ∨ k = 13 ∨ k = 14 := by omega
        rcases hk with h | h | h | h | h | h | h | h | h | h | h | h | h | h <;> subst h
        · exact v12_14_1
        · exact v12_14_2
        · exact v12_14_3
        · exact v12_14_4
        · exact v12_14_5
        · exact v12_14_6
        · exact v12_14_7
        · exact v12_14_8
        · exact v12_14_9
        · exact v12_14_10
        · exact v12_14_11
        · exact v12_14_12
        · exact v12_14_13
        · exact v12_14_14
      · rw [e12_15, hk]
        have hk : k = 1 ∨ k = 2 ∨ k = 3 ∨ k = 4 ∨ k = 5 ∨ k = 6 ∨ k = 7 ∨ k = 8 ∨ k = 9 ∨ k = 10 ∨ k = 11 ∨ k = 12 ∨ k = 13 ∨ k = 14 ∨ k = 15 := by omega
        rcases hk with h | h | h | h | h | h | h | h | h | h | h | h | h | h | h <;> subst h
        · exact v12_15_1
        · exact v12_15_2
        · exact v12_15_3
        · exact v12_15_4
        · exact v12_15_5
        · exact v12_15_6
        · exact v12_15_7
        · exact v12_15_8
        · exact v12_15_9
        · exact v12_15_10
        · exact v12_15_11
        · exact v12_15_12
        · exact v12_15_13
        · exact v12_15_14
        · exact v12_15_15
end Go.DI.S
