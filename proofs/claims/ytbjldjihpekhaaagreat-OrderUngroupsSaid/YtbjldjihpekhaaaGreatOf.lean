import Derived.Test.YtbjldjihpekhaaaGreatOb
import Derived.Test.YtbjldjihpekhaaaGreatOc
import Derived.Test.YtbjldjihpekhaaaGreatOd
import Derived.Test.YtbjldjihpekhaaaGreatOe
/- OrderUngroups, plain. No conditions. -/
/-! OrderUngroups, plain. -/
set_option linter.unusedVariables false
namespace Go.DI.S
open Go.Proofs
theorem ung_true (n m : Int) : F_ung n m = some (true, ()) := by
  by_cases h : 1 ≤ n ∧ n ≤ 12 ∧ 1 ≤ m ∧ m ≤ 8
  · obtain ⟨h1, h2, h3, h4⟩ := h
    have hn : n = 1 ∨ n = 2 ∨ n = 3 ∨ n = 4 ∨ n = 5 ∨ n = 6 ∨ n = 7 ∨ n = 8 ∨ n = 9 ∨ n = 10 ∨ n = 11 ∨ n = 12 := by omega
    have hm : m = 1 ∨ m = 2 ∨ m = 3 ∨ m = 4 ∨ m = 5 ∨ m = 6 ∨ m = 7 ∨ m = 8 := by omega
    rcases hn with rfl | rfl | rfl | rfl | rfl | rfl | rfl | rfl | rfl | rfl | rfl | rfl
    · rcases hm with rfl | rfl | rfl | rfl | rfl | rfl | rfl | rfl
      · exact u_1_1
      · exact u_1_2
      · exact u_1_3
      · exact u_1_4
      · exact u_1_5
      · exact u_1_6
      · exact u_1_7
      · exact u_1_8
    · rcases hm with rfl | rfl | rfl | rfl | rfl | rfl | rfl | rfl
      · exact u_2_1
      · exact u_2_2
      · exact u_2_3
      · exact u_2_4
      · exact u_2_5
      · exact u_2_6
      · exact u_2_7
      · exact u_2_8
    · rcases hm with rfl | rfl | rfl | rfl | rfl | rfl | rfl | rfl
      · exact u_3_1
      · exact u_3_2
      · exact u_3_3
      · exact u_3_4
      · exact u_3_5
      · exact u_3_6
      · exact u_3_7
      · exact u_3_8
    · rcases hm with rfl | rfl | rfl | rfl | rfl | rfl | rfl | rfl
      · exact u_4_1
      · exact u_4_2
      · exact u_4_3
      · exact u_4_4
      · exact u_4_5
      · exact u_4_6
      · exact u_4_7
      · exact u_4_8
    · rcases hm with rfl | rfl | rfl | rfl | rfl | rfl | rfl | rfl
      · exact u_5_1
      · exact u_5_2
      · exact u_5_3
      · exact u_5_4
      · exact u_5_5
      · exact u_5_6
      · exact u_5_7
      · exact u_5_8
    · rcases hm with rfl | rfl | rfl | rfl | rfl | rfl | rfl | rfl
      · exact u_6_1
      · exact u_6_2
      · exact u_6_3
      · exact u_6_4
      · exact u_6_5
      · exact u_6_6
      · exact u_6_7
      · exact u_6_8
    · rcases hm with rfl | rfl | rfl | rfl | rfl | rfl | rfl | rfl
      · exact u_7_1
      · exact u_7_2
      · exact u_7_3
      · exact u_7_4
      · exact u_7_5
      · exact u_7_6
      · exact u_7_7
      · exact u_7_8
    · rcases hm with rfl | rfl | rfl | rfl | rfl | rfl | rfl | rfl
      · exact u_8_1
      · exact u_8_2
      · exact u_8_3
      · exact u_8_4
      · exact u_8_5
      · exact u_8_6
      · exact u_8_7
      · exact u_8_8
    · rcases hm with rfl | rfl | rfl | rfl | rfl | rfl | rfl | rfl
      · exact u_9_1
      · exact u_9_2
      · exact u_9_3
      · exact u_9_4
      · exact u_9_5
      · exact u_9_6
      · exact u_9_7
      · exact u_9_8
    · rcases hm with rfl | rfl | rfl | rfl | rfl | rfl | rfl | rfl
      · exact u_10_1
      · exact u_10_2
      · exact u_10_3
      · exact u_10_4
      · exact u_10_5
      · exact u_10_6
      · exact u_10_7
      · exact u_10_8
    · rcases hm with rfl | rfl | rfl | rfl | rfl | rfl | rfl | rfl
      · exact u_11_1
      · exact u_11_2
      · exact u_11_3
      · exact u_11_4
      · exact u_11_5
      · exact u_11_6
      · exact u_11_7
      · exact u_11_8
    · rcases hm with rfl | rfl | rfl | rfl | rfl | rfl | rfl | rfl
      · exact u_12_1
      · exact u_12_2
      · exact u_12_3
      · exact u_12_4
      · exact u_12_5
      · exact u_12_6
      · exact u_12_7
      · exact u_12_8
  · unfold F_ung
    rw [alive_true]
    cases hc1 : decide (n < 1) with
    | true => rfl
    | false =>
    cases hc2 : decide (m < 1) with
    | true => rfl
    | false =>
    cases hc3 : decide (n > 12) with
    | true => rfl
    | false =>
    cases hc4 : decide (m > 8) with
    | true => rfl
    | false =>
      exfalso
      have hc1 := of_decide_eq_false hc1
      have hc2 := of_decide_eq_false hc2
      have hc3 := of_decide_eq_false hc3
      have hc4 := of_decide_eq_false hc4
      exact h ⟨by omega, by omega, by omega, by omega⟩
theorem orderUngroups (n m : Int) (hn : Ty.wf I n) (hm : Ty.wf I m) : F_ung n m = some (true, ()) := ung_true n m
end Go.DI.S

