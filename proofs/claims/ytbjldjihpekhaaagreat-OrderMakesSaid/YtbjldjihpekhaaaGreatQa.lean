import Derived.Test.YtbjldjihpekhaaaGreatMd
/- Whole numbers as floats: what is evaluated. No conditions. -/
/-! A whole number of few thousands as a float is read as so many Ones. -/
set_option linter.unusedVariables false
set_option maxRecDepth 1000000
namespace Go.DI.S
open Go.Proofs
noncomputable def gOk (n : Int) : Bool := match F_get (FloatKind.f64.nearest n) with
  | some (a, b, ()) => decide (a = n * 4294967296) && decide (b = 0)
  | none => false
theorem gOk_eq {n : Int} (h : gOk n = true) : F_get (FloatKind.f64.nearest n) = some ((n * 4294967296, 0, ()) : Els [I, I]) := by
  unfold gOk at h
  split at h
  · rename_i a b ha
    simp only [Bool.and_eq_true, decide_eq_true_eq] at h
    rw [ha, h.1, h.2]
  · cases h
noncomputable def gRow (a : Int) : Nat → Bool
  | 0 => true
  | k + 1 => gOk (a + k) && gRow a k
theorem gRow_at {a : Int} : ∀ {k : Nat}, gRow a k = true → ∀ n : Int, a ≤ n → n < a + k → gOk n = true
  | 0, _, n, h1, h2 => by omega
  | k + 1, h, n, h1, h2 => by
    simp only [gRow, Bool.and_eq_true] at h
    by_cases e : n = a + k
    · subst e; exact h.1
    · exact gRow_at h.2 n h1 (by omega)
end Go.DI.S

