import Derived.Test.YtbjldjihpekhaaaGreatNb
/- Products with One: what is evaluated. No conditions. -/
/-! Products with One, and with nothing: what is evaluated. -/
set_option linter.unusedVariables false
set_option maxRecDepth 1000000
namespace Go.DI.S
open Go.Proofs
noncomputable def mOk (n : Int) : Bool := match F_fmul (n * 4294967296) 4294967296, F_fmul (n * 4294967296) 0 with
  | some (a, b, ()), some (c, d, ()) => decide (a = n * 4294967296) && (decide (b = 0) && (decide (c = 0) && decide (d = 0)))
  | _, _ => false
theorem mOk_eq {n : Int} (h : mOk n = true) : F_fmul (n * 4294967296) 4294967296 = some ((n * 4294967296, 0, ()) : Els [I, I]) ∧ F_fmul (n * 4294967296) 0 = some ((0, 0, ()) : Els [I, I]) := by
  unfold mOk at h
  split at h
  · rename_i a b c d h1 h2
    simp only [Bool.and_eq_true, decide_eq_true_eq] at h
    obtain ⟨rfl, rfl, rfl, rfl⟩ := h
    exact ⟨h1, h2⟩
  · cases h
noncomputable def mRow (a : Int) : Nat → Bool
  | 0 => true
  | k + 1 => mOk (a + k) && mRow a k
theorem mRow_at {a : Int} : ∀ {k : Nat}, mRow a k = true → ∀ n : Int, a ≤ n → n < a + k → mOk n = true
  | 0, _, n, h1, h2 => by omega
  | k + 1, h, n, h1, h2 => by
    simp only [mRow, Bool.and_eq_true] at h
    by_cases e : n = a + k
    · subst e; exact h.1
    · exact mRow_at h.2 n h1 (by omega)
end Go.DI.S

