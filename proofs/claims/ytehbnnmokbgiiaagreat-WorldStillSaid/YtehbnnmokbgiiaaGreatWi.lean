import Derived.Test.YtehbnnmokbgiiaaGreatWh
import Derived.Test.YtehbnnmokbgiiaaGreatBc
/- The document's contacts are the program's; WorldStill, plain. No conditions. -/
/-! Plain: the document's reckoning, and the program's: numbers, roots. -/
set_option linter.unusedVariables false
set_option linter.unusedSimpArgs false
set_option maxRecDepth 100000
namespace Go.DI.S
open Go.Proofs
/-- What is reckoned with an error kept is reckoned, if there was none, without. -/
def Sim {α : Type} (e : Int) (p : Option (α × (Int × Unit) × Unit)) (H : Prop) (q : Option (α ⊕ Int)) (Q : α → Prop) : Prop :=
  ∃ y, p = some y ∧ (y.2.1.1 = 0 → e = 0 ∧ (H → q = some (.inl y.1) ∧ Q y.1))
theorem Sim.bind {α β : Type} {e : Int} {p : Option (α × (Int × Unit) × Unit)} {H : Prop} {q : Option (α ⊕ Int)} {Q : α → Prop} {f : α × (Int × Unit) × Unit → Option (β × (Int × Unit) × Unit)} {g : α → Option (β ⊕ Int)} {R : β → Prop}
    (h : Sim e p H q Q) (k : ∀ y, Sim y.2.1.1 (f y) (H ∧ Q y.1) (g y.1) R) : Sim e (p.bind f) H (q.bind fun v => Sum.elim g (fun e => some (.inr e)) v) R := by
  obtain ⟨y, rfl, hy⟩ := h
  obtain ⟨z, hz, hk⟩ := k y
  refine ⟨z, hz, fun h0 => ?_⟩
  obtain ⟨h1, h2⟩ := hk h0
  obtain ⟨h3, h4⟩ := hy h1
  refine ⟨h3, fun hH => ?_⟩
  obtain ⟨rfl, h5⟩ := h4 hH
  exact h2 ⟨hH, h5⟩
theorem Sim.weak {α : Type} {e : Int} {p : Option (α × (Int × Unit) × Unit)} {H H' : Prop} {q : Option (α ⊕ Int)} {Q Q' : α → Prop} (h : Sim e p H q Q) (hH : H' → H) (hQ : ∀ a, H' → Q a → Q' a) : Sim e p H' q Q' := by
  obtain ⟨y, hp, hy⟩ := h
  refine ⟨y, hp, fun h0 => ?_⟩
  obtain ⟨h1, h2⟩ := hy h0
  refine ⟨h1, fun h => ?_⟩
  obtain ⟨h3, h4⟩ := h2 (hH h)
  exact ⟨h3, hQ _ h h4⟩
theorem Sim.ok {α : Type} {e : Int} {a : α} {H : Prop} {Q : α → Prop} (h : H → Q a) : Sim e (some (a, (e, ()), ())) H (some (.inl a)) Q := ⟨_, rfl, fun h0 => ⟨h0, fun hH => ⟨rfl, h hH⟩⟩⟩
theorem Sim.bad {α : Type} {e e' : Int} {a : α} {H : Prop} {q : Option (α ⊕ Int)} {Q : α → Prop} (h : e' ≠ 0) : Sim e (some (a, (e', ()), ())) H q Q := ⟨_, rfl, fun h0 => absurd h0 h⟩
theorem Sim.cond {α : Type} {c : Bool} {e : Int} {a b : Option (α × (Int × Unit) × Unit)} {H : Prop} {a' b' : Option (α ⊕ Int)} {Q : α → Prop} (h : c = true → Sim e a H a' Q) (k : c = false → Sim e b H b' Q) : Sim e (bif c then a else b) H (bif c then a' else b') Q := by
  cases c
  · exact k rfl
  · exact h rfl
theorem Sim.condP {α : Type} {c : Bool} {e : Int} {a b : Option (α × (Int × Unit) × Unit)} {H : Prop} {q : Option (α ⊕ Int)} {Q : α → Prop} (h : c = true → Sim e a H q Q) (k : c = false → Sim e b H q Q) : Sim e (bif c then a else b) H q Q := by
  cases c
  · exact k rfl
  · exact h rfl
theorem Sim.condQ {α : Type} {c : Bool} {e : Int} {p : Option (α × (Int × Unit) × Unit)} {H : Prop} {a' b' : Option (α ⊕ Int)} {Q : α → Prop} (h : c = true → Sim e p H a' Q) (k : c = false → Sim e p H b' Q) : Sim e p H (bif c then a' else b') Q := by
  cases c
  · exact k rfl
  · exact h rfl
theorem Sim.noH {α : Type} {e : Int} {p : Option (α × (Int × Unit) × Unit)} {H : Prop} {q : Option (α ⊕ Int)} {Q : α → Prop} (hH : ¬ H) (h : ∃ y, p = some y ∧ (y.2.1.1 = 0 → e = 0)) : Sim e p H q Q := by
  obtain ⟨y, hy, h0⟩ := h
  exact ⟨y, hy, fun h1 => ⟨h0 h1, fun h2 => absurd h2 hH⟩⟩
theorem Sim.let {α γ : Type} {e : Int} {a : Option γ} {x : γ} {f : γ → Option (α × (Int × Unit) × Unit)} {H : Prop} {q : Option (α ⊕ Int)} {Q : α → Prop} (h : a = some x) (k : Sim e (f x) H q Q) : Sim e (a.bind f) H q Q := by
  subst h; exact k
theorem Sim.letQ {α γ : Type} {e : Int} {a : Option γ} {x : γ} {p : Option (α × (Int × Unit) × Unit)} {f : γ → Option (α ⊕ Int)} {H : Prop} {Q : α → Prop} (h : a = some x) (k : Sim e p H (f x) Q) : Sim e p H (a.bind f) Q := by
  subst h; exact k
theorem x_157 (v e : Int) : F_157 v (e, ()) = some ((((0 : Int), ()), ((if e = 0 then v else e), ()), ()) : (Int × Unit) × (Int × Unit) × Unit) := by
  unfold F_157
  by_cases h : e = 0
  · subst h; rfl
  · have : (e == (0 : Int)) = false := by simpa using h
    rw [if_neg h]
    show (bif e == (0 : Int) then _ else _) = _
    rw [this]; rfl
theorem fail_ne {v e : Int} (hv : v ≠ 0) : (if e = 0 then v else e) ≠ 0 := by split <;> assumption
/-- A failure is kept. -/
theorem Sim.fail {α : Type} {v e : Int} {f : OUT_157.El → Option (α × (Int × Unit) × Unit)} {H : Prop} {q : Option (α ⊕ Int)} {Q : α → Prop} (hv : v ≠ 0) (hf : ∀ y : OUT_157.El, ∃ a, f y = some (a, (y.2.1.1, ()), ())) : Sim e ((F_157 v (e, ())).bind f) H q Q := by
  refine Sim.let (x_157 v e) ?_
  obtain ⟨a, ha⟩ := hf (((0 : Int), ()), ((if e = 0 then v else e), ()), ())
  rw [ha]
  exact .bad (fail_ne hv)
theorem sim_67 (a b e : Int) : Sim e (F_67 a b (e, ())) (In64 a ∧ In64 b) (F_154 a b) (fun y => In64 y.1) := by
  have fl : ∀ (e : Int) (q : Option (Els [I] ⊕ Int)), Sim e ((F_157 (3 : Int) (e, ())).bind fun v2 => Option.some ((v2.fst.fst, ()), (v2.snd.fst.fst, ()), ())) (In64 a ∧ In64 b) q (fun y => In64 y.1) := fun e q => .fail (by decide) fun y => ⟨_, rfl⟩
  unfold F_67
  refine .condP (fun h => .bad (bne_ne h)) fun h => ?_
  by_cases hH : In64 a ∧ In64 b
  · have hs : IntKind.i64.wrap (a + b) = a + b → In64 (a + b) → Sim e (some ((IntKind.i64.wrap (a + b), ()), (e, ()), ())) (In64 a ∧ In64 b) (F_154 a b) (fun y => In64 y.1) := fun h1 h2 => by
      rw [h1, n_154 hH.1 hH.2 h2]
      exact .ok fun _ => h2
    obtain ⟨⟨a1, a2⟩, b1, b2⟩ := hH
    have up : a + b < 9223372036854775808 → -9223372036854775808 ≤ a + b → Sim e (some ((IntKind.i64.wrap (a + b), ()), (e, ()), ())) (In64 a ∧ In64 b) (F_154 a b) (fun y => In64 y.1) := fun h1 h2 => hs (wrap64 h2 h1) ⟨h2, h1⟩
    by_cases c1 : b > 0
    · rw [decide_eq_true c1, cond_true, wrap64 (x := 9223372036854775807 - b) (by omega) (by omega)]
      by_cases c2 : a > 9223372036854775807 - b
      · rw [decide_eq_true c2]; exact fl e _
      · rw [decide_eq_false c2, cond_false, decide_eq_false (show ¬ b < 0 by omega), cond_false]
        exact up (by omega) (by omega)
    · rw [decide_eq_false c1, cond_false]
      by_cases c2 : b < 0
      · rw [decide_eq_true c2, cond_true, wrap64 (x := -9223372036854775808 - b) (by omega) (by omega)]
        by_cases c3 : a < -9223372036854775808 - b
        · rw [decide_eq_true c3]; exact fl e _
        · rw [decide_eq_false c3]; exact up (by omega) (by omega)
      · rw [decide_eq_false c2]; exact up (by omega) (by omega)
  · have hno : Sim e (some ((IntKind.i64.wrap (a + b), ()), (e, ()), ())) (In64 a ∧ In64 b) (F_154 a b) (fun y => In64 y.1) := .noH hH ⟨_, rfl, fun h => h⟩
    exact .condP (fun _ => .condP (fun _ => fl e _) fun _ => .condP (fun _ => .condP (fun _ => fl e _) fun _ => hno) fun _ => hno) fun _ => .condP (fun _ => .condP (fun _ => fl e _) fun _ => hno) fun _ => hno
theorem sim_68 (a b e : Int) : Sim e (F_68 a b (e, ())) (In64 a ∧ In64 b) (F_230 a b) (fun y => In64 y.1) := by
  have fl : ∀ (e : Int) (q : Option (Els [I] ⊕ Int)), Sim e ((F_157 (3 : Int) (e, ())).bind fun v2 => Option.some ((v2.fst.fst, ()), (v2.snd.fst.fst, ()), ())) (In64 a ∧ In64 b) q (fun y => In64 y.1) := fun e q => .fail (by decide) fun y => ⟨_, rfl⟩
  unfold F_68
  refine .condP (fun h => .bad (bne_ne h)) fun h => ?_
  by_cases hH : In64 a ∧ In64 b
  · have hs : IntKind.i64.wrap (a - b) = a - b → In64 (a - b) → Sim e (some ((IntKind.i64.wrap (a - b), ()), (e, ()), ())) (In64 a ∧ In64 b) (F_230 a b) (fun y => In64 y.1) := fun h1 h2 => by
      rw [h1, n_230 hH.1 hH.2 h2]
      exact .ok fun _ => h2
    obtain ⟨⟨a1, a2⟩, b1, b2⟩ := hH
    have up : a - b < 9223372036854775808 → -9223372036854775808 ≤ a - b → Sim e (some ((IntKind.i64.wrap (a - b), ()), (e, ()), ())) (In64 a ∧ In64 b) (F_230 a b) (fun y => In64 y.1) := fun h1 h2 => hs (wrap64 h2 h1) ⟨h2, h1⟩
    by_cases c1 : b < 0
    · rw [decide_eq_true c1, cond_true, wrap64 (x := 9223372036854775807 + b) (by omega) (by omega)]
      by_cases c2 : a > 9223372036854775807 + b
      · rw [decide_eq_true c2]; exact fl e _
      · rw [decide_eq_false c2, cond_false, decide_eq_false (show ¬ b > 0 by omega), cond_false]
        exact up (by omega) (by omega)
    · rw [decide_eq_false c1, cond_false]
      by_cases c2 : b > 0
      · rw [decide_eq_true c2, cond_true, wrap64 (x := -9223372036854775808 + b) (by omega) (by omega)]
        by_cases c3 : a < -9223372036854775808 + b
        · rw [decide_eq_true c3]; exact fl e _
        · rw [decide_eq_false c3]; exact up (by omega) (by omega)
      · rw [decide_eq_false c2]; exact up (by omega) (by omega)
  · have hno : Sim e (some ((IntKind.i64.wrap (a - b), ()), (e, ()), ())) (In64 a ∧ In64 b) (F_230 a b) (fun y => In64 y.1) := .noH hH ⟨_, rfl, fun h => h⟩
    exact .condP (fun _ => .condP (fun _ => fl e _) fun _ => .condP (fun _ => .condP (fun _ => fl e _) fun _ => hno) fun _ => hno) fun _ => .condP (fun _ => .condP (fun _ => fl e _) fun _ => hno) fun _ => hno
/-! ### amounts, signs -/
def uabs (a : Int) : Int := if a < 0 then IntKind.u64.wrap (0 - IntKind.u64.wrap a) else IntKind.u64.wrap a
theorem x_306 (a : Int) : F_306 a = some ((decide (a < 0), uabs a, ()) : Els [.bool, .int .u64]) := by
  unfold F_306 uabs
  by_cases h : a < 0
  · rw [decide_eq_true h, if_pos h]; rfl
  · rw [decide_eq_false h, if_neg h]; rfl
theorem x_219 (a : Int) : F_219 a = some ((uabs a, ()) : Els [.int .u64]) := by
  unfold F_219 uabs
  by_cases h : a < 0
  · rw [decide_eq_true h, if_pos h]; rfl
  · rw [decide_eq_false h, if_neg h]; rfl
theorem x_323 (a : Int) : F_323 a = some ((uabs a, ()) : Els [.int .u64]) := by
  unfold F_323 uabs
  by_cases h : a < 0
  · rw [decide_eq_true h, if_pos h]; rfl
  · rw [decide_eq_false h, if_neg h]; rfl
theorem uabs_in (a : Int) : 0 ≤ uabs a ∧ uabs a < 18446744073709551616 := by unfold uabs; split <;> exact u64_range _
theorem uabs_0 {a : Int} (h : In64 a) : uabs a = 0 ↔ a = 0 := by
  obtain ⟨h1, h2⟩ := h
  unfold uabs
  rw [IntKind.wrap_u64, IntKind.wrap_u64]
  split <;> omega
/-- A number of a sign and an amount. -/
noncomputable def must (p : Option (Els [I, I])) : Option (Els [I] ⊕ Int) := p.bind fun v2 => (F_216 v2.fst v2.snd.fst).bind fun v4 => Sum.elim (fun v6 => Option.some (Sum.inl (v6.fst, ()))) (fun v7 => Option.some (Sum.inr v7)) v4
theorem sim_221 (s : Bool) (m e : Int) (H : Prop) : Sim e (F_221 s m (e, ())) H (must (F_307 s m)) (fun y => In64 y.1) := by
  have fl : ∀ (e : Int) (q : Option (Els [I] ⊕ Int)), Sim e ((F_157 (3 : Int) (e, ())).bind fun v2 => Option.some ((v2.fst.fst, ()), (v2.snd.fst.fst, ()), ())) H q (fun y => In64 y.1) := fun e q => .fail (by decide) fun y => ⟨_, rfl⟩
  unfold F_221 F_307
  cases s with
  | true =>
    simp only [cond_true]
    by_cases h : m > 9223372036854775808
    · rw [decide_eq_true h, cond_true]; exact fl e _
    · rw [decide_eq_false h, decide_eq_true (show m ≤ 9223372036854775808 by omega)]
      exact .ok fun _ => wrap_in _
  | false =>
    simp only [cond_false, Bool.not_false, cond_true]
    by_cases h : m > 9223372036854775807
    · rw [decide_eq_true h, cond_true]; exact fl e _
    · rw [decide_eq_false h, decide_eq_true (show m < 9223372036854775808 by omega)]
      exact .ok fun _ => wrap_in _
theorem sim_223 (a b e : Int) : Sim e (F_223 a b (e, ())) (In64 b) (F_231 a b) (fun y => In64 y.1) := by
  have fl : ∀ (v e : Int) (q : Option (Els [I] ⊕ Int)), v ≠ 0 → Sim e ((F_157 v (e, ())).bind fun v2 => Option.some ((v2.fst.fst, ()), (v2.snd.fst.fst, ()), ())) (In64 b) q (fun y => In64 y.1) := fun v e q hv => .fail hv fun y => ⟨_, rfl⟩
  have hq : F_231 a b = must (F_285 a b) := rfl
  rw [hq]
  unfold F_223
  refine .condP (fun h => .bad (bne_ne h)) fun h => .condP (fun _ => fl 4 e _ (by decide)) fun hb => ?_
  rw [x_219, x_219]
  refine Sim.let rfl (Sim.let rfl ?_)
  have ra := uabs_in a
  have rb := uabs_in b
  refine .condP (fun _ => fl 3 e _ (by decide)) fun hc => ?_
  have hc' : ¬ Int.fdiv (uabs a) 4294967296 ≥ uabs b := of_decide_eq_false hc
  have hf : Int.fdiv (uabs a) 4294967296 = uabs a / 4294967296 := Int.fdiv_eq_ediv_of_nonneg _ (by omega)
  obtain ⟨z, hz⟩ := t_280 (Int.fdiv (uabs a) 4294967296) (IntKind.u64.wrap (uabs a * 4294967296)) (uabs b) (by rw [hf]; omega) (by omega) rb.2
  refine Sim.let rfl (Sim.let hz ?_)
  have hs := sim_221 (!decide (a < 0) == decide (b < 0)) z.1 e (In64 b)
  have e285 : In64 b → must (F_285 a b) = must (F_307 (!decide (a < 0) == decide (b < 0)) z.1) := fun hB => by
    have : F_285 a b = F_307 (!decide (a < 0) == decide (b < 0)) z.1 := by
      unfold F_285
      rw [x_306, x_306]
      simp only [Option.bind_some]
      have h0 : (uabs b == (0 : Int)) = false := by
        have : b ≠ 0 := by simpa using hb
        have h2 : uabs b ≠ 0 := fun h => this ((uabs_0 hB).1 h)
        simpa using h2
      rw [h0, cond_false, hc, cond_false, hz]
      simp only [Option.bind_some]
      obtain ⟨y4, h4, _⟩ := t_307 (!decide (a < 0) == decide (b < 0)) z.1
      rw [h4]; rfl
    rw [this]
  obtain ⟨y, hy, h0⟩ := hs
  refine ⟨y, by rw [hy]; rfl, fun h1 => ?_⟩
  obtain ⟨h2, h3⟩ := h0 h1
  exact ⟨h2, fun hB => by rw [e285 hB]; exact h3 hB⟩
/-! ### roots -/
def bitN : Nat → Int
  | 0 => 0
  | n + 1 => 2 ^ n
theorem bitN_half (n : Nat) : Int.fdiv (bitN (n + 1)) 2 = bitN n := by
  rw [Int.fdiv_eq_ediv_of_nonneg _ (by omega)]
  cases n with
  | zero => rfl
  | succ n =>
    show (2 : Int) ^ (n + 1) / 2 = 2 ^ n
    rw [Int.pow_succ, Int.mul_ediv_cancel _ (by decide)]
theorem root_sync (h l : Int) : ∀ (n f g : Nat) (r : Int), n ≤ 64 → n < f → n < g → ∃ q : Int,
    roundsT (fun x => G_222_3 x.1.1 x.1.2.1 x.1.2.2.1 x.1.2.2.2.1) f ((h, l, r, (n : Int) - 1, ()), ()) = some (.inl ((q, ()), ())) ∧
    roundsT (fun x => G_324_3 x.1.1 x.1.2.1 x.1.2.2.1 x.1.2.2.2.1) g ((h, l, r, bitN n, ()), ()) = some (.inl ((q, ()), ()))
  | 0, f, g, r, _, hf, hg => by
    obtain ⟨f, rfl⟩ : ∃ k, f = k + 1 := ⟨f - 1, by omega⟩
    obtain ⟨g, rfl⟩ : ∃ k, g = k + 1 := ⟨g - 1, by omega⟩
    exact ⟨r, rounds_out (y := Sum.inl ((r, ()), ())) rfl f, rounds_out (y := Sum.inl ((r, ()), ())) rfl g⟩
  | n + 1, f, g, r, hn, hf, hg => by
    obtain ⟨f, rfl⟩ : ∃ k, f = k + 1 := ⟨f - 1, by omega⟩
    obtain ⟨g, rfl⟩ : ∃ k, g = k + 1 := ⟨g - 1, by omega⟩
    have hw : IntKind.u64.wrap (((n + 1 : Nat) : Int) - 1) = (n : Int) := by rw [u64_small (by omega) (by omega)]; omega
    have hw2 : IntKind.i64.wrap ((((n + 1 : Nat) : Int) - 1) - 1) = (n : Int) - 1 := by rw [wrap64 (by omega) (by omega)]; omega
    have hmin : Min.min n 64 = n := by omega
    have hp : (1 : Int) * 2 ^ n = 2 ^ n := Int.one_mul _
    have hpos : (0 : Int) < 2 ^ n := Int.pow_pos (by decide)
    have hlt : (2 : Int) ^ n < 18446744073709551616 := by
      have : (2 : Int) ^ n ≤ 2 ^ 63 := by
        have := Nat.pow_le_pow_right (n := 2) (by decide) (show n ≤ 63 by omega)
        exact_mod_cast this
      omega
    obtain ⟨t, ht⟩ : ∃ t, t = bOr IntKind.u64 r (2 ^ n) := ⟨_, rfl⟩
    obtain ⟨hh, ll, hm, _⟩ := t_218 t t
    have g1 : G_222_3 h l r (((n + 1 : Nat) : Int) - 1) = some (.inl ((h, l, (if hh < h ∨ (hh = h ∧ ll ≤ l) then t else r), (n : Int) - 1, ()), ())) := by
      unfold G_222_3
      rw [decide_eq_true (show ((n + 1 : Nat) : Int) - 1 ≥ 0 by omega), cond_true, hw, decide_eq_false (show ¬ (n : Int) < 0 by omega), cond_false, Int.toNat_natCast, hmin, hp, u64_small (by omega) hlt, ← ht, hm, hw2]
      simp only [Option.bind_some]
      by_cases c1 : hh < h
      · rw [decide_eq_true c1, if_pos (.inl c1)]; rfl
      · rw [decide_eq_false c1, cond_false]
        by_cases c2 : hh = h
        · have : (hh == h) = true := by simpa using c2
          rw [this, cond_true]
          by_cases c3 : ll ≤ l
          · rw [decide_eq_true c3, if_pos (.inr ⟨c2, c3⟩)]; rfl
          · rw [decide_eq_false c3, if_neg (fun h => h.elim c1 fun h => c3 h.2)]; rfl
        · have : (hh == h) = false := by simpa using c2
          rw [this, cond_false, if_neg (fun h => h.elim c1 fun h => c2 h.1)]
    have e330 : F_330 t h l = some ((decide (¬ (hh < h ∨ (hh = h ∧ ll ≤ l))), ()) : Els [.bool]) := by
      unfold F_330
      rw [hm]
      simp only [Option.bind_some]
      by_cases c1 : hh > h
      · rw [decide_eq_true c1, cond_true, decide_eq_true (show ¬ (hh < h ∨ (hh = h ∧ ll ≤ l)) by omega)]
      · rw [decide_eq_false c1, cond_false]
        by_cases c2 : hh = h
        · have : (hh == h) = true := by simpa using c2
          rw [this, cond_true]
          by_cases c3 : ll > l
          · rw [decide_eq_true c3, decide_eq_true (show ¬ (hh < h ∨ (hh = h ∧ ll ≤ l)) by omega)]
          · rw [decide_eq_false c3, decide_eq_false (show ¬ ¬ (hh < h ∨ (hh = h ∧ ll ≤ l)) by omega)]
        · have : (hh == h) = false := by simpa using c2
          rw [this, cond_false, decide_eq_false (show ¬ ¬ (hh < h ∨ (hh = h ∧ ll ≤ l)) by omega)]
    have g2 : G_324_3 h l r (bitN (n + 1)) = some (.inl ((h, l, (if hh < h ∨ (hh = h ∧ ll ≤ l) then t else r), bitN n, ()), ())) := by
      unfold G_324_3
      rw [decide_eq_true (show bitN (n + 1) > 0 from hpos), cond_true]
      show (F_330 (bOr IntKind.u64 r (2 ^ n)) h l).bind _ = _
      rw [← ht, e330]
      simp only [Option.bind_some, bitN_half]
      by_cases c : hh < h ∨ (hh = h ∧ ll ≤ l)
      · rw [decide_eq_false (fun h => h c), if_pos c, ht]; rfl
      · rw [decide_eq_true c, if_neg c]; rfl
    obtain ⟨q, h1, h2⟩ := root_sync h l n f g (if hh < h ∨ (hh = h ∧ ll ≤ l) then t else r) (by omega) (by omega) (by omega)
    exact ⟨q, by rw [rounds_in (x' := ((h, l, (if hh < h ∨ (hh = h ∧ ll ≤ l) then t else r), (n : Int) - 1, ()), ())) g1]; exact h1, by rw [rounds_in (x' := ((h, l, (if hh < h ∨ (hh = h ∧ ll ≤ l) then t else r), bitN n, ()), ())) g2]; exact h2⟩
theorem root_eq (h l : Int) : ∃ q : Int, F_222 h l = some ((q, ()) : Els [.int .u64]) ∧ F_324 h l = some ((q, ()) : Els [.int .u64]) := by
  obtain ⟨q, h1, h2⟩ := root_sync h l 64 fuel fuel 0 (by omega) (by unfold fuel; omega) (by unfold fuel; omega)
  refine ⟨q, ?_, ?_⟩
  · unfold F_222 R_222_3
    have h1 : roundsT (fun x => G_222_3 x.1.1 x.1.2.1 x.1.2.2.1 x.1.2.2.2.1) fuel ((h, l, (0 : Int), (63 : Int), ()), ()) = some (.inl ((q, ()), ())) := h1
    rw [h1]; rfl
  · unfold F_324 R_324_3
    have h2 : roundsT (fun x => G_324_3 x.1.1 x.1.2.1 x.1.2.2.1 x.1.2.2.2.1) fuel ((h, l, (0 : Int), (9223372036854775808 : Int), ()), ()) = some (.inl ((q, ()), ())) := h2
    rw [h2]; rfl
end Go.DI.S

/-! Plain: the document's reckoning, and the program's: places, contacts. -/
set_option linter.unusedVariables false
set_option linter.unusedSimpArgs false
set_option maxRecDepth 100000
namespace Go.DI.S
open Go.Proofs
theorem sim_155 (x y e : Int) (H : Prop) : Sim e (F_155 x y (e, ())) H (F_282 (x, y)) (fun z => In64 z.1) := by
  unfold F_155
  refine .condP (fun h => .bad (bne_ne h)) fun _ => ?_
  have hq : F_282 (x, y) = (F_308 x y).bind fun v2 => bif v2.snd.fst != (0 : Int) then Option.some (Sum.inr v2.snd.fst) else Option.some (Sum.inl (v2.fst, ())) := rfl
  rw [hq]
  unfold F_308
  rw [x_219, x_219, x_323, x_323]
  obtain ⟨p1, q1, k1, l1, m1⟩ := t_218 (uabs x) (uabs x)
  obtain ⟨p2, q2, k2, l2, m2⟩ := t_218 (uabs y) (uabs y)
  simp only [Option.bind_some]
  rw [k1, k2]
  simp only [Option.bind_some]
  have c1 : decide ((0 : Int) ≤ q1 ∧ (0 : Int) ≤ q2 ∧ (0 : Int) ≤ (0 : Int) ∧ (0 : Int) ≤ (1 : Int)) = true := decide_eq_true (by omega)
  have c2 : decide ((0 : Int) ≤ p1 ∧ (0 : Int) ≤ p2 ∧ (0 : Int) ≤ (q1 + q2 + 0) / 18446744073709551616 ∧ (q1 + q2 + 0) / 18446744073709551616 ≤ 1) = true := decide_eq_true (by omega)
  rw [c1, c2]
  simp only [cond_true]
  refine .condP (fun _ => .fail (by decide) fun y => ⟨_, rfl⟩) fun _ => ?_
  obtain ⟨r, h1, h2⟩ := root_eq ((p1 + p2 + (q1 + q2 + 0) / 18446744073709551616) % 18446744073709551616) ((q1 + q2 + 0) % 18446744073709551616)
  rw [h1, h2]
  simp only [Option.bind_some]
  unfold F_221
  simp only [cond_false]
  by_cases h : r > 9223372036854775807
  · rw [decide_eq_true h, cond_true, Option.bind_assoc]; exact .fail (by decide) fun y => ⟨_, rfl⟩
  · rw [decide_eq_false h, cond_false, decide_eq_false (show ¬ r ≥ 9223372036854775808 by omega)]
    exact .ok fun _ => wrap_in _
theorem sim_156 (v : Vec) (k e : Int) : Sim e (F_156 v k (e, ())) (In64 k) (F_244 v k) (fun y => In2 y.1) :=
  Sim.bind (sim_223 _ _ _) fun x => Sim.bind ((sim_223 _ _ _).weak (fun h => h.1) fun _ _ h => h) fun y => .ok fun h => ⟨h.1.2, h.2⟩
theorem sim_65 (a b : Vec) (e : Int) : Sim e (F_65 a b (e, ())) (In2 a ∧ In2 b) (F_227 a b) (fun y => In2 y.1) :=
  Sim.bind ((sim_68 _ _ _).weak (fun h => ⟨h.1.1, h.2.1⟩) fun _ _ h => h) fun x => Sim.bind ((sim_68 _ _ _).weak (fun h => ⟨h.1.1.2, h.1.2.2⟩) fun _ _ h => h) fun y => .ok fun h => ⟨h.1.2, h.2⟩
theorem sim_160 (a b : Vec) (e : Int) : Sim e (F_160 a b (e, ())) (In2 a ∧ In2 b) (F_62 a b) (fun y => In2 y.1) :=
  Sim.bind ((sim_67 _ _ _).weak (fun h => ⟨h.1.1, h.2.1⟩) fun _ _ h => h) fun x => Sim.bind ((sim_67 _ _ _).weak (fun h => ⟨h.1.1.2, h.1.2.2⟩) fun _ _ h => h) fun y => .ok fun h => ⟨h.1.2, h.2⟩
theorem sim_66 (a : Vec) (e : Int) (H : Prop) : Sim e (F_66 a (e, ())) H (F_226 a) (fun y => In2 y.1 ∧ In64 y.2.1 ∧ (y.2.1 = 0 → y.1 = ((0 : Int), (0 : Int)))) := by
  unfold F_66 F_226
  refine Sim.bind (sim_155 a.1 a.2 e H) fun v2 => Sim.cond (fun _ => .ok fun _ => ⟨⟨⟨by decide, by decide⟩, by decide, by decide⟩, ⟨by decide, by decide⟩, fun _ => rfl⟩) fun hc => ?_
  refine Sim.bind ((sim_156 _ _ _).weak (fun h => h.2) fun _ _ h => h) fun v12 => .ok fun h => ⟨h.2, h.1.2, fun h0 => ?_⟩
  have : v2.1.1 = 0 := h0
  rw [this] at hc; cases hc
theorem retup {q : Option (Els [I] ⊕ Int)} : (q.bind fun v => Sum.elim (fun v => some (Sum.inl ((v.fst, ()) : Els [I]))) (fun e => some (Sum.inr e)) v) = q := by
  cases q with
  | none => rfl
  | some v => cases v <;> rfl
noncomputable def amt (d : Int) : Option (Els [I] ⊕ Int) := bif decide (d < 0) then F_230 0 d else some (.inl (d, ()))
theorem q_292 (a b d : Int) : F_292 a b d = (F_154 a b).bind fun v2 => Sum.elim (fun v4 => (amt d).bind fun v6 => Sum.elim (fun v8 => F_230 v4.1 v8.1) (fun e => some (.inr e)) v6) (fun e => some (.inr e)) v2 := by
  unfold F_292 amt
  cases decide (d < 0) with
  | true =>
    simp only [cond_true]
    congr 1; funext v2
    cases v2 with
    | inr e => rfl
    | inl v4 =>
      simp only [Sum.elim_inl]
      congr 1; funext v6
      cases v6 with
      | inr e => rfl
      | inl v8 => exact retup
  | false =>
    simp only [cond_false]
    congr 1; funext v2
    cases v2 with
    | inr e => rfl
    | inl v4 => exact retup
theorem sim_158 (d e : Int) : Sim e (F_158 d (e, ())) (In64 d) (amt d) (fun y => In64 y.1) := by
  unfold F_158 amt
  refine Sim.cond (fun _ => ?_) fun _ => .ok fun h => h
  obtain ⟨y, hy, h⟩ := (sim_68 0 d e).weak (H' := In64 d) (Q' := fun y => In64 y.1) (fun h => ⟨⟨by decide, by decide⟩, h⟩) (fun _ _ h => h)
  exact ⟨y, by rw [hy]; rfl, h⟩
theorem sim_amt {β : Type} {a b d e : Int} {H : Prop} {K : OUT_68.El → Option (β × (Int × Unit) × Unit)} {K' : Els [I] → Option (β ⊕ Int)} {R : β → Prop} (hin : H → In64 a ∧ In64 b ∧ In64 d)
    (k : ∀ y : OUT_68.El, Sim y.2.1.1 (K y) (H ∧ In64 y.1.1) (K' y.1) R) :
    Sim e ((F_67 a b (e, ())).bind fun v6 => (F_158 d (v6.2.1.1, ())).bind fun v12 => (F_68 v6.1.1 v12.1.1 (v12.2.1.1, ())).bind K) H ((F_292 a b d).bind fun v => Sum.elim K' (fun e => some (.inr e)) v) R := by
  have h1 : Sim e ((F_67 a b (e, ())).bind fun v6 => (F_158 d (v6.2.1.1, ())).bind fun v12 => F_68 v6.1.1 v12.1.1 (v12.2.1.1, ())) H (F_292 a b d) (fun y => In64 y.1) := by
    rw [q_292]
    exact Sim.bind ((sim_67 a b e).weak (fun h => ⟨(hin h).1, (hin h).2.1⟩) fun _ _ h => h) fun v6 => Sim.bind ((sim_158 d _).weak (fun h => (hin h.1).2.2) fun _ _ h => h) fun v12 => (sim_68 _ _ _).weak (fun h => ⟨h.1.2, h.2⟩) fun _ _ h => h
  have h2 := Sim.bind h1 k
  simp only [Option.bind_assoc] at h2
  exact h2
theorem sim_71 (b : Body) (e : Int) : Sim e (F_71 b (e, ())) (In2 b.2.2.2.1 ∧ In2 b.2.1) (F_164 b) (fun y => In2 y.1.1 ∧ In2 y.1.2) := by
  unfold F_71 F_164
  refine Sim.cond (fun _ => ?_) fun _ => ?_
  · exact Sim.bind ((sim_65 _ _ _).weak (fun h => ⟨h.1, h.2.1, h.2.1⟩) fun _ _ h => h) fun x => Sim.bind ((sim_160 _ _ _).weak (fun h => ⟨h.1.1, h.1.2.1, h.1.2.1⟩) fun _ _ h => h) fun y => .ok fun h => ⟨h.1.2, h.2⟩
  · exact Sim.bind ((sim_65 _ _ _).weak (fun h => ⟨h.1, h.2⟩) fun _ _ h => h) fun x => Sim.bind ((sim_160 _ _ _).weak (fun h => ⟨h.1.1, h.1.2⟩) fun _ _ h => h) fun y => .ok fun h => ⟨h.1.2, h.2⟩
theorem sim_72 (h : Hit) (e : Int) : Sim e (F_72 h (e, ())) (In2 h.1) (F_242 h) (fun _ => True) := by
  have hq : F_242 h = (F_230 0 h.1.1).bind fun v => Sum.elim (fun x => (F_230 0 h.1.2).bind fun v => Sum.elim (fun y => some (.inl (((x.1, y.1), h.2), ()))) (fun e => some (.inr e)) v) (fun e => some (.inr e)) v := by
    unfold F_242 F_227
    rw [Option.bind_assoc]
    congr 1; funext v
    cases v with
    | inr e => rfl
    | inl x =>
      simp only [Sum.elim_inl]
      rw [Option.bind_assoc]
      congr 1; funext v
      cases v <;> rfl
  rw [hq]
  have h0 : In64 0 := ⟨by decide, by decide⟩
  exact Sim.bind ((sim_68 _ _ _).weak (fun h => ⟨h0, h.1⟩) fun _ _ h => h) fun x => Sim.bind ((sim_68 _ _ _).weak (fun h => ⟨h0, h.1.2⟩) fun _ _ h => h) fun y => .ok fun _ => trivial
theorem x_70 (a : Vec) (b : Box) : ∃ v : Vec, F_70 a b = some ((v, ()) : Els [tVec]) ∧ F_294 a b = some ((v, ()) : Els [tVec]) ∧ (In2 a → In2 b.1 → In2 b.2 → In2 v) := by
  have one : ∀ x l h : Int, ∃ v : Int, F_159 x l h = some ((v, ()) : Els [I]) ∧ F_319 x l h = some ((v, ()) : Els [I]) ∧ (In64 x → In64 l → In64 h → In64 v) := by
    intro x l h
    unfold F_159 F_319
    cases decide (x < l) with
    | true => exact ⟨l, rfl, rfl, fun _ h _ => h⟩
    | false =>
      cases decide (x > h) with
      | true => exact ⟨h, rfl, rfl, fun _ _ h => h⟩
      | false => exact ⟨x, rfl, rfl, fun h _ _ => h⟩
  obtain ⟨u, u1, u2, u3⟩ := one a.1 b.1.1 b.2.1
  obtain ⟨v, v1, v2, v3⟩ := one a.2 b.1.2 b.2.2
  refine ⟨(u, v), ?_, ?_, fun h k l => ⟨u3 h.1 k.1 l.1, v3 h.2 k.2 l.2⟩⟩
  · unfold F_70
    rw [u1]
    simp only [Option.bind_some]
    rw [v1]; rfl
  · unfold F_294
    rw [u2]
    simp only [Option.bind_some]
    rw [v2]; rfl
def InB (b : Body) : Prop := In2 b.2.2.2.1 ∧ In2 b.2.1
abbrev HitOk : Els [tHit, .bool] → Prop := fun y => In2 y.1.1 ∧ (y.2.1 = false → y.1 = (((0 : Int), (0 : Int)), (0 : Int)))
theorem in4 : In64 4294967296 ∧ In64 (-4294967296) ∧ In64 0 := ⟨⟨by decide, by decide⟩, ⟨by decide, by decide⟩, by decide, by decide⟩
theorem x_291 (n : Vec) (d : Int) : F_291 n d = some (if d ≤ 0 then ((((0 : Int), (0 : Int)), (0 : Int)), false, ()) else ((n, d), true, ())) := by
  unfold F_291
  by_cases h : d ≤ 0
  · rw [decide_eq_true h, if_pos h]; rfl
  · rw [decide_eq_false h, if_neg h]; rfl
theorem x_293 (d : Int) : F_293 d = some ((if d < 0 then (-4294967296 : Int) else 4294967296, ()) : Els [I]) := by
  unfold F_293
  by_cases h : d < 0
  · rw [decide_eq_true h, if_pos h]; rfl
  · rw [decide_eq_false h, if_neg h]; rfl
theorem crate1 (x y : Int) (c1 : ¬ x ≤ 0) (hy0 : y ≤ 0) : ¬ x ≤ y := by omega
theorem sim_69 (a b : Body) (e : Int) : Sim e (F_69 a b (e, ())) (InB a ∧ InB b) (F_240 a b) HitOk := by
  unfold F_69 F_240
  refine Sim.bind ((sim_65 _ _ _).weak (fun h => ⟨h.2.1, h.1.1⟩) fun _ _ h => h) fun v2 => ?_
  refine sim_amt (fun h => ⟨h.1.1.2.1, h.1.2.2.1, h.2.1⟩) fun v20 => ?_
  refine Sim.cond (fun _ => .ok fun _ => ⟨⟨in4.2.2, in4.2.2⟩, fun _ => rfl⟩) fun c1 => ?_
  refine sim_amt (fun h => ⟨h.1.1.1.2.2, h.1.1.2.2.2, h.1.2.2⟩) fun v44 => ?_
  have c1 : ¬ v20.1.1 ≤ 0 := of_decide_eq_false c1
  obtain ⟨x, hx⟩ : ∃ x : Int, x = v20.1.1 := ⟨_, rfl⟩
  obtain ⟨y, hy⟩ : ∃ y : Int, y = v44.1.1 := ⟨_, rfl⟩
  obtain ⟨dx, hdx⟩ : ∃ y : Int, y = v2.1.1.1 := ⟨_, rfl⟩
  obtain ⟨dy, hdy⟩ : ∃ y : Int, y = v2.1.1.2 := ⟨_, rfl⟩
  simp only [x_293, x_291, Option.bind_some]
  show Sim v44.2.1.1 (bif decide (v44.1.1 ≤ 0) then _ else _) _ (bif decide (v20.1.1 ≤ v44.1.1) then _ else _) _
  rw [← hx] at c1 ⊢
  rw [← hy, ← hdx, ← hdy]
  by_cases hy0 : y ≤ 0
  · rw [decide_eq_true hy0, cond_true, decide_eq_false (crate1 x y c1 hy0), cond_false, if_pos hy0]
    exact .ok fun _ => ⟨⟨in4.2.2, in4.2.2⟩, fun _ => rfl⟩
  · rw [decide_eq_false hy0, cond_false]
    by_cases hxy : x ≤ y
    · rw [decide_eq_true hxy, cond_true, if_neg (show ¬ x ≤ 0 by omega), decide_eq_false (show ¬ y < x by omega)]
      by_cases hd : dx < 0
      · rw [decide_eq_true hd, cond_true, cond_false, if_pos hd]; exact .ok fun _ => ⟨⟨in4.2.1, in4.2.2⟩, fun h => by cases h⟩
      · rw [decide_eq_false hd, cond_false, cond_false, if_neg hd]; exact .ok fun _ => ⟨⟨in4.1, in4.2.2⟩, fun h => by cases h⟩
    · rw [decide_eq_false hxy, cond_false, if_neg hy0, decide_eq_true (show y < x by omega)]
      have : ∀ c : Bool, (bif c then (bif true then (bif decide (dy < 0) then some (((((0 : Int), (-4294967296 : Int)), y), true, ()), (v44.2.1.1, ()), ()) else some (((((0 : Int), (4294967296 : Int)), y), true, ()), (v44.2.1.1, ()), ())) else some (((((-4294967296 : Int), (0 : Int)), x), true, ()), (v44.2.1.1, ()), ()))
          else (bif true then (bif decide (dy < 0) then some (((((0 : Int), (-4294967296 : Int)), y), true, ()), (v44.2.1.1, ()), ()) else some (((((0 : Int), (4294967296 : Int)), y), true, ()), (v44.2.1.1, ()), ())) else some (((((4294967296 : Int), (0 : Int)), x), true, ()), (v44.2.1.1, ()), ())) : Option (Els [tHit, .bool] × (Int × Unit) × Unit)) =
          some (((((0 : Int), (if dy < 0 then (-4294967296 : Int) else 4294967296)), y), true, ()), (v44.2.1.1, ()), ()) := fun c => by
        by_cases hd : dy < 0
        · rw [decide_eq_true hd, if_pos hd]; cases c <;> rfl
        · rw [decide_eq_false hd, if_neg hd]; cases c <;> rfl
      refine (this (decide (dx < 0))) ▸ Sim.ok fun _ => ⟨⟨in4.2.2, ?_⟩, fun h => by cases h⟩
      show In64 (if dy < 0 then (-4294967296 : Int) else 4294967296)
      split
      · exact in4.2.1
      · exact in4.1
end Go.DI.S

/-! Plain: the document's contacts are the program's. -/
set_option linter.unusedVariables false
set_option linter.unusedSimpArgs false
set_option maxRecDepth 100000
namespace Go.DI.S
open Go.Proofs
theorem beq_y {a b : Int} (h : a = b) : (a == b) = true := by simpa using h
theorem beq_n {a b : Int} (h : a ≠ b) : (a == b) = false := by simpa using h
theorem sim_bb (f : FT_21) (a b : Body) (ha : a.1 = 1) (hb : b.1 = 1) (e : Int) : Sim e (F_21b f a b (e, ())) (InB a ∧ InB b) (F_239 a b) HitOk := by
  unfold F_21b F_239
  rw [beq_y ha, beq_y hb]
  simp only [cond_true]
  refine Sim.bind ((sim_65 _ _ _).weak (fun h => ⟨h.2.1, h.1.1⟩) fun _ _ h => h) fun v2 => Sim.bind (sim_66 _ _ _) fun v8 => ?_
  refine Sim.condQ (fun c => ?_) fun c => ?_
  · refine Sim.bind ((sim_67 _ _ _).weak (fun h => ⟨h.1.1.1.2.1, h.1.1.2.2.1⟩) fun _ _ h => h) fun v12 => Sim.bind ((sim_68 _ _ _).weak (fun h => ⟨h.2, h.1.2.2.1⟩) fun _ _ h => h) fun v20 => ?_
    rw [x_291, c]
    obtain ⟨x, hx⟩ : ∃ x : Int, x = v20.1.1 := ⟨_, rfl⟩
    show Sim v20.2.1.1 (bif decide (v20.1.1 ≤ 0) then _ else _) _ _ _
    rw [← hx]
    by_cases h0 : x ≤ 0
    · rw [decide_eq_true h0, if_pos h0]
      exact .ok fun _ => ⟨⟨in4.2.2, in4.2.2⟩, fun _ => rfl⟩
    · rw [decide_eq_false h0, if_neg h0]
      refine ⟨_, rfl, fun h => ⟨h, fun hH => ⟨?_, ⟨in4.1, in4.2.2⟩, fun h => by cases h⟩⟩⟩
      have hv : v8.1.1 = ((0 : Int), (0 : Int)) := hH.1.1.2.2.2 (by simpa using c)
      rw [hv]; rfl
  · refine Sim.bind ((sim_67 _ _ _).weak (fun h => ⟨h.1.1.1.2.1, h.1.1.2.2.1⟩) fun _ _ h => h) fun v12 => Sim.bind ((sim_68 _ _ _).weak (fun h => ⟨h.2, h.1.2.2.1⟩) fun _ _ h => h) fun v20 => ?_
    rw [x_291, c]
    obtain ⟨x, hx⟩ : ∃ x : Int, x = v20.1.1 := ⟨_, rfl⟩
    show Sim v20.2.1.1 (bif decide (v20.1.1 ≤ 0) then _ else _) _ _ _
    rw [← hx]
    by_cases h0 : x ≤ 0
    · rw [decide_eq_true h0, if_pos h0]
      exact .ok fun _ => ⟨⟨in4.2.2, in4.2.2⟩, fun _ => rfl⟩
    · rw [decide_eq_false h0, if_neg h0]
      exact .ok fun h => ⟨h.1.1.2.1, fun h => by cases h⟩
theorem sim_retup {e : Int} {p : Option (Els [tHit, .bool] × (Int × Unit) × Unit)} {H : Prop} {q : Option (Els [tHit, .bool] ⊕ Int)} {Q : Els [tHit, .bool] → Prop} (h : Sim e p H q Q) :
    Sim e (p.bind fun v => some ((v.1.1, v.1.2.1, ()), (v.2.1.1, ()), ())) H (q.bind fun v => Sum.elim (fun v => some (.inl ((v.1, v.2.1, ()) : Els [tHit, .bool]))) (fun e => some (.inr e)) v) Q :=
  Sim.bind h fun y => .ok fun h => h.2
theorem sim_bc (f : FT_21) (a b : Body) (ha : a.1 = 1) (hb : b.1 = 2) (e : Int) : Sim e (F_21b f a b (e, ())) (InB a ∧ InB b) (F_241 a b) HitOk := by
  unfold F_21b F_241
  rw [beq_y ha, beq_n (show b.1 ≠ 1 by rw [hb]; decide), beq_n (show a.1 ≠ 2 by rw [ha]; decide), beq_y hb]
  simp only [cond_true, cond_false]
  refine Sim.bind ((sim_71 _ _).weak (fun h => h.2) fun _ _ h => h) fun v2 => ?_
  obtain ⟨v, k1, k2, k3⟩ := x_70 a.2.2.2.1 v2.1.1
  refine Sim.let k1 (Sim.letQ k2 ?_)
  refine Sim.bind ((sim_65 _ _ _).weak (fun h => ⟨k3 h.1.1.1 h.2.1 h.2.2, h.1.1.1⟩) fun _ _ h => h) fun v8 => Sim.bind (sim_66 _ _ _) fun v12 => ?_
  refine .condP (fun h => .bad (bne_ne h)) fun _ => Sim.cond (fun c => ?_) fun c => ?_
  · have : F_240 (a.1, (a.2.1.1, a.2.1.1), a.2.2) b = F_240 ((2 : Int), (a.2.1.1, a.2.1.1), a.2.2) b := rfl
    rw [this]
    exact sim_retup ((sim_69 _ _ _).weak (fun h => ⟨⟨h.1.1.1.1.1, h.1.1.1.1.2.1, h.1.1.1.1.2.1⟩, h.1.1.1.2⟩) fun _ _ h => h)
  · refine Sim.bind ((sim_68 _ _ _).weak (fun h => ⟨h.1.1.1.1.2.1, h.2.2.1⟩) fun _ _ h => h) fun v20 => ?_
    rw [x_291]
    obtain ⟨x, hx⟩ : ∃ x : Int, x = v20.1.1 := ⟨_, rfl⟩
    show Sim v20.2.1.1 (bif decide (v20.1.1 ≤ 0) then _ else _) _ _ _
    rw [← hx]
    by_cases h0 : x ≤ 0
    · rw [decide_eq_true h0, if_pos h0]
      exact .ok fun _ => ⟨⟨in4.2.2, in4.2.2⟩, fun _ => rfl⟩
    · rw [decide_eq_false h0, if_neg h0]
      exact .ok fun h => ⟨h.1.2.1, fun h => by cases h⟩
theorem flip0 : F_242 (((0 : Int), (0 : Int)), (0 : Int)) = some (.inl (((((0 : Int), (0 : Int)), (0 : Int)), ()) : Els [tHit])) := rfl
theorem sim_21 (a b : Body) (ha : a.1 = 1 ∨ a.1 = 2) (hb : b.1 = 1 ∨ b.1 = 2) (e : Int) : Sim e (F_21 a b (e, ())) (InB a ∧ InB b) (F_166 a b) (fun _ => True) := by
  show Sim e (F_21b (F_21n 2) a b (e, ())) _ _ _
  rcases ha with ha | ha
  · rcases hb with hb | hb
    · have h := (sim_bb (F_21n 2) a b ha hb e).weak (H' := InB a ∧ InB b) (Q' := fun _ => True) (fun h => h) (fun _ _ _ => trivial)
      unfold F_166
      rw [beq_y ha, beq_y hb]
      simp only [cond_true]
      obtain ⟨y, hy, k⟩ := h
      refine ⟨y, hy, fun h0 => ?_⟩
      obtain ⟨k1, k2⟩ := k h0
      refine ⟨k1, fun hH => ?_⟩
      rw [(k2 hH).1]
      exact ⟨rfl, trivial⟩
    · have h := (sim_bc (F_21n 2) a b ha hb e).weak (H' := InB a ∧ InB b) (Q' := fun _ => True) (fun h => h) (fun _ _ _ => trivial)
      unfold F_166
      rw [beq_y ha, beq_n (show b.1 ≠ 1 by rw [hb]; decide), beq_n (show a.1 ≠ 2 by rw [ha]; decide), beq_y hb]
      simp only [cond_true, cond_false]
      obtain ⟨y, hy, k⟩ := h
      refine ⟨y, hy, fun h0 => ?_⟩
      obtain ⟨k1, k2⟩ := k h0
      refine ⟨k1, fun hH => ?_⟩
      rw [(k2 hH).1]
      exact ⟨rfl, trivial⟩
  · rcases hb with hb | hb
    · unfold F_166 F_21b
      rw [beq_n (show a.1 ≠ 1 by rw [ha]; decide), beq_y ha, beq_n (show b.1 ≠ 2 by rw [hb]; decide), beq_y hb]
      simp only [cond_true, cond_false]
      refine Sim.bind (Q := HitOk) ((sim_bc (F_21n 1) b a hb ha e).weak (fun h => ⟨h.2, h.1⟩) fun _ _ h => h) fun v => ?_
      obtain ⟨⟨h, ok, u⟩, ⟨e', u'⟩, u''⟩ := v
      cases ok with
      | false =>
        refine ⟨_, rfl, fun h0 => ⟨h0, fun hH => ⟨?_, trivial⟩⟩⟩
        have hz : h = (((0 : Int), (0 : Int)), (0 : Int)) := hH.2.2 rfl
        rw [hz, flip0]; rfl
      | true =>
        exact Sim.bind ((sim_72 _ _).weak (fun h => h.2.1) fun _ _ h => h) fun v => .ok fun _ => trivial
    · unfold F_166 F_21b
      rw [beq_n (show a.1 ≠ 1 by rw [ha]; decide), beq_y ha, beq_y hb]
      simp only [cond_true, cond_false]
      exact sim_retup ((sim_69 a b e).weak (fun h => h) fun _ _ _ => trivial)
end Go.DI.S

/-! Plain: bodies that stand still stay. -/
set_option linter.unusedVariables false
set_option linter.unusedSimpArgs false
set_option maxRecDepth 100000
namespace Go.DI.S
open Go.Proofs
/-! ### which bodies there may be, by the document -/
noncomputable def T20 (m px py : Int) : Option (Els [.bool]) :=
  (F_64 px (10000 : Int)).bind fun v6 => bif !v6.fst then Option.some (Bool.false, ()) else (F_64 py (10000 : Int)).bind fun v8 => bif !v8.fst then Option.some (Bool.false, ())
    else (F_64 0 (1000000 : Int)).bind fun v10 => bif v10.fst then (F_64 0 (1000000 : Int)).bind fun v12 => bif v12.fst then bif m != (0 : Int) then Option.some (Bool.true, ()) else Option.some ((0 : Int) == (0 : Int) && ((0 : Int) == (0 : Int) && Bool.true), ()) else Option.some (Bool.false, ()) else Option.some (Bool.false, ())
noncomputable def M20 (m px py : Int) : Option (Els [.bool]) :=
  bif m != (0 : Int) then bif decide (m < (67108864 : Int)) then Option.some (Bool.false, ()) else bif decide (m > (42949672960000 : Int)) then Option.some (Bool.false, ()) else T20 m px py else T20 m px py
theorem f20_1 (sx sy m px py : Int) : F_20 ((1 : Int), (sx, sy), m, (px, py), (0 : Int), (0 : Int)) = (F_63 sx).bind fun v => bif !v.fst then some ((false, ()) : Els [.bool]) else bif sy != (0 : Int) then some (false, ()) else M20 m px py := rfl
theorem f20_2 (sx sy m px py : Int) : F_20 ((2 : Int), (sx, sy), m, (px, py), (0 : Int), (0 : Int)) = (F_63 sx).bind fun v => bif !v.fst then some ((false, ()) : Els [.bool]) else (F_63 sy).bind fun v => bif !v.fst then some (false, ()) else M20 m px py := rfl
noncomputable def T58 (px py : Int) : Option (Els [.bool]) := (F_151 (px, py) (42949672960000 : Int)).bind fun v => bif v.fst then (F_151 ((0 : Int), (0 : Int)) (4294967296000000 : Int)).bind fun u => Option.some ((u.fst, ()) : Els [.bool]) else Option.some (Bool.false, ())
noncomputable def N58 (m px py : Int) : Option (Els [.bool]) := bif m != (0 : Int) then (F_150 m (67108864 : Int) (42949672960000 : Int)).bind fun v => bif !v.fst then some ((false, ()) : Els [.bool]) else T58 px py else T58 px py
theorem f58_1 (sx sy m px py : Int) : F_58 ((1 : Int), (sx, sy), m, (px, py), (0 : Int), (0 : Int)) = (F_150 sx (67108864 : Int) (4294967296000 : Int)).bind fun v => bif !v.fst then some ((false, ()) : Els [.bool]) else bif sy != (0 : Int) then some (false, ()) else bif m == (0 : Int) then N58 m px py else N58 m px py := rfl
theorem f58_2 (sx sy m px py : Int) : F_58 ((2 : Int), (sx, sy), m, (px, py), (0 : Int), (0 : Int)) = (F_150 sx (67108864 : Int) (4294967296000 : Int)).bind fun v => bif !v.fst then some ((false, ()) : Els [.bool]) else (F_150 sy (67108864 : Int) (4294967296000 : Int)).bind fun v => bif !v.fst then some (false, ()) else bif m == (0 : Int) then N58 m px py else N58 m px py := rfl
def Size (x : Int) : Prop := 67108864 ≤ x ∧ x ≤ 4294967296000
/-- A body that may be, and stands still. -/
def RR0 (b : Body) : Prop := ∃ s sx sy m px py : Int, b = (s, (sx, sy), m, (px, py), (0 : Int), (0 : Int)) ∧ ((s = 1 ∧ sy = 0) ∨ (s = 2 ∧ Size sy)) ∧ Size sx ∧ (m = 0 ∨ (67108864 ≤ m ∧ m ≤ 42949672960000)) ∧ Near px 42949672960000 ∧ Near py 42949672960000
theorem v_63 (x : Int) : ∃ v, F_63 x = some ((v, ()) : Els [.bool]) ∧ (v = true ↔ Size x) := v_150 x 67108864 4294967296000
theorem v_64 (x : Int) : ∃ v, F_64 x 10000 = some ((v, ()) : Els [.bool]) ∧ (v = true ↔ Near x 42949672960000) := by
  have e1 : IntKind.i64.wrap (IntKind.i64.wrap ((0 : Int) - 10000) * 4294967296) = -42949672960000 := by rw [wrap64 (x := (0 : Int) - 10000) (by omega) (by omega), wrap64 (by omega) (by omega)]; rfl
  have e2 : IntKind.i64.wrap ((10000 : Int) * 4294967296) = 42949672960000 := by rw [wrap64 (by omega) (by omega)]; rfl
  unfold F_64
  rw [e1, e2]
  exact v_150 x (-42949672960000) 42949672960000
theorem yes_not {p : Option (Els [.bool])} (h : (bif !false then some ((false, ()) : Els [.bool]) else p) = some (true, ())) : False := by cases h
theorem T20_near {m px py : Int} (h : T20 m px py = some ((true, ()) : Els [.bool])) : Near px 42949672960000 ∧ Near py 42949672960000 := by
  unfold T20 at h
  obtain ⟨v1, e1, k1⟩ := v_64 px
  obtain ⟨v2, e2, k2⟩ := v_64 py
  rw [e1] at h
  simp only [Option.bind_some] at h
  cases v1 with
  | false => cases h
  | true =>
    simp only [Bool.not_true, cond_false] at h
    rw [e2] at h
    simp only [Option.bind_some] at h
    cases v2 with
    | false => cases h
    | true => exact ⟨k1.1 rfl, k2.1 rfl⟩
theorem M20_near {m px py : Int} (h : M20 m px py = some ((true, ()) : Els [.bool])) : (m = 0 ∨ (67108864 ≤ m ∧ m ≤ 42949672960000)) ∧ Near px 42949672960000 ∧ Near py 42949672960000 := by
  unfold M20 at h
  by_cases h0 : m = 0
  · subst h0
    exact ⟨.inl rfl, T20_near h⟩
  · have : (m != (0 : Int)) = true := by simpa using h0
    rw [this, cond_true] at h
    by_cases h1 : m < 67108864
    · rw [decide_eq_true h1] at h; cases h
    · rw [decide_eq_false h1, cond_false] at h
      by_cases h2 : m > 42949672960000
      · rw [decide_eq_true h2] at h; cases h
      · rw [decide_eq_false h2, cond_false] at h
        exact ⟨.inr ⟨by omega, by omega⟩, T20_near h⟩
theorem rr0_of {s sx sy m px py : Int} (h : F_20 (s, (sx, sy), m, (px, py), (0 : Int), (0 : Int)) = some ((true, ()) : Els [.bool])) : RR0 (s, (sx, sy), m, (px, py), (0 : Int), (0 : Int)) := by
  obtain ⟨v1, e1, k1⟩ := v_63 sx
  obtain ⟨v2, e2, k2⟩ := v_63 sy
  by_cases h1 : s = 1
  · subst h1
    rw [f20_1, e1] at h
    simp only [Option.bind_some] at h
    cases v1 with
    | false => cases h
    | true =>
      simp only [Bool.not_true, cond_false] at h
      by_cases hy : sy = 0
      · subst hy
        have h := M20_near h
        exact ⟨_, _, _, _, _, _, rfl, .inl ⟨rfl, rfl⟩, k1.1 rfl, h⟩
      · have : (sy != (0 : Int)) = true := by simpa using hy
        rw [this] at h; cases h
  · by_cases h2 : s = 2
    · subst h2
      rw [f20_2, e1] at h
      simp only [Option.bind_some] at h
      cases v1 with
      | false => cases h
      | true =>
        simp only [Bool.not_true, cond_false] at h
        rw [e2] at h
        simp only [Option.bind_some] at h
        cases v2 with
        | false => cases h
        | true =>
          have h := M20_near h
          exact ⟨_, _, _, _, _, _, rfl, .inr ⟨rfl, k2.1 rfl⟩, k1.1 rfl, h⟩
    · exfalso
      have e1 : (s != (1 : Int)) = true := by simpa using h1
      have e2 : (s != (2 : Int)) = true := by simpa using h2
      have : F_20 (s, (sx, sy), m, (px, py), (0 : Int), (0 : Int)) = some ((false, ()) : Els [.bool]) := by
        unfold F_20
        show (bif s != (1 : Int) then (bif s != (2 : Int) then _ else _) else _) = _
        rw [e1, e2]; rfl
      rw [this] at h; cases h
theorem tot_20 (b : Body) : Tot (F_20 b) := by
  have t63 : ∀ x, Tot (F_63 x) := fun x => by obtain ⟨v, e, _⟩ := v_63 x; exact ⟨_, e⟩
  have t64 : ∀ x y, Tot (F_64 x y) := fun x y => tot_cond (tot_some _) (tot_some _)
  unfold F_20
  repeat' first
    | exact tot_some _
    | apply tot_cond
    | (refine tot_bind (t63 _) fun _ => ?_)
    | (refine tot_bind (t64 _ _) fun _ => ?_)
theorem RR0.right {b : Body} (h : RR0 b) : rB b = true := by
  obtain ⟨s, sx, sy, m, px, py, rfl, hs, hx, hm, h1, h2⟩ := h
  have hT : T58 px py = some ((true, ()) : Els [.bool]) := by
    unfold T58
    rw [near_151 (by omega) (by omega) ⟨h1, h2⟩]
    simp only [Option.bind_some, cond_true]
    rw [near_151 (by omega) (by omega) ⟨near0 (by omega), near0 (by omega)⟩]; rfl
  have hN : N58 m px py = some ((true, ()) : Els [.bool]) := by
    unfold N58
    rcases hm with rfl | hm
    · exact hT
    · have : (m != (0 : Int)) = true := by
        have : m ≠ 0 := by omega
        simpa using this
      obtain ⟨v, e, k⟩ := v_150 m 67108864 42949672960000
      rw [this, cond_true, e, k.2 hm]
      exact hT
  have hM : (bif m == (0 : Int) then N58 m px py else N58 m px py) = some ((true, ()) : Els [.bool]) := by cases (m == (0 : Int)) <;> exact hN
  have e : F_58 (s, (sx, sy), m, (px, py), (0 : Int), (0 : Int)) = some ((true, ()) : Els [.bool]) := by
    obtain ⟨v, e, k⟩ := v_150 sx 67108864 4294967296000
    rcases hs with ⟨rfl, rfl⟩ | ⟨rfl, hy⟩
    · rw [f58_1, e, k.2 hx]; exact hM
    · obtain ⟨v2, e2, k2⟩ := v_150 sy 67108864 4294967296000
      rw [f58_2, e, k.2 hx]
      simp only [Option.bind_some, Bool.not_true, cond_false]
      rw [e2, k2.2 hy]; exact hM
  unfold rB
  rw [e]
theorem RR0.shape {b : Body} (h : RR0 b) : b.1 = 1 ∨ b.1 = 2 := by
  obtain ⟨s, sx, sy, m, px, py, rfl, hs, _⟩ := h
  rcases hs with ⟨h, _⟩ | ⟨h, _⟩
  · exact .inl h
  · exact .inr h
theorem RR0.inB {b : Body} (h : RR0 b) : InB b := by
  obtain ⟨s, sx, sy, m, px, py, rfl, hs, ⟨x1, x2⟩, hm, ⟨p1, p2⟩, q1, q2⟩ := h
  refine ⟨⟨⟨by show (_ : Int) ≤ px; omega, by show px < _; omega⟩, by show (_ : Int) ≤ py; omega, by show py < _; omega⟩, ⟨by show (_ : Int) ≤ sx; omega, by show sx < _; omega⟩, ?_⟩
  rcases hs with ⟨_, rfl⟩ | ⟨_, y1, y2⟩
  · exact in0
  · exact ⟨by show (_ : Int) ≤ sy; omega, by show sy < _; omega⟩
theorem RR0.mom {b : Body} (h : RR0 b) : b.2.2.2.2 = ((0 : Int), (0 : Int)) := by
  obtain ⟨s, sx, sy, m, px, py, rfl, _⟩ := h
  rfl
theorem RR0.mass {b : Body} (h : RR0 b) : In64 b.2.2.1 := by
  obtain ⟨s, sx, sy, m, px, py, rfl, hs, hx, hm, _⟩ := h
  show In64 m
  rcases hm with rfl | ⟨h1, h2⟩
  · exact in0
  · exact ⟨by omega, by omega⟩
theorem RR0.box {b : Body} (h : RR0 b) : ∃ x, F_164 b = some (.inl ((x, ()) : Els [tBox])) := by
  obtain ⟨s, sx, sy, m, px, py, rfl, hs, ⟨x1, x2⟩, hm, ⟨p1, p2⟩, q1, q2⟩ := h
  rcases hs with ⟨rfl, rfl⟩ | ⟨rfl, y1, y2⟩
  · exact n_box (b := ((1 : Int), (sx, (0 : Int)), m, (px, py), (0 : Int), (0 : Int))) (sz := (sx, sx)) (.inl ⟨rfl, rfl⟩) ⟨⟨by show (_ : Int) ≤ px; omega, by show px ≤ _; omega⟩, by show (_ : Int) ≤ py; omega, by show py ≤ _; omega⟩ ⟨⟨by show (_ : Int) ≤ sx; omega, by show sx ≤ _; omega⟩, by show (_ : Int) ≤ sx; omega, by show sx ≤ _; omega⟩
  · exact n_box (b := ((2 : Int), (sx, sy), m, (px, py), (0 : Int), (0 : Int))) (sz := (sx, sy)) (.inr ⟨by show (2 : Int) ≠ 1; decide, rfl⟩) ⟨⟨by show (_ : Int) ≤ px; omega, by show px ≤ _; omega⟩, by show (_ : Int) ≤ py; omega, by show py ≤ _; omega⟩ ⟨⟨by show (_ : Int) ≤ sx; omega, by show sx ≤ _; omega⟩, by show (_ : Int) ≤ sy; omega, by show sy ≤ _; omega⟩
end Go.DI.S

/-! WorldStill. -/
set_option linter.unusedVariables false
set_option linter.unusedSimpArgs false
set_option maxRecDepth 100000
namespace Go.DI.S
open Go.Proofs
theorem set_same {l : List Body} {k : Nat} (h : k < l.length) {b : Body} (hb : b = l.getD k tBody.dflt) : l.set k b = l := by
  subst hb
  rw [List.getD_eq_getElem?_getD, List.getElem?_eq_getElem h]
  exact List.set_getElem_self h
theorem div0 {m : Int} (h : In64 m) (h0 : m ≠ 0) : F_231 0 m = some (.inl ((0, ()) : Els [I])) := by
  have hq : F_231 0 m = must (F_285 0 m) := rfl
  rw [hq]
  unfold F_285
  rw [x_306, x_306]
  simp only [Option.bind_some]
  have u0 : uabs 0 = 0 := by unfold uabs; rfl
  have hm := uabs_in m
  have hm0 : uabs m ≠ 0 := fun e => h0 ((uabs_0 h).1 e)
  have e1 : (uabs m == (0 : Int)) = false := by simpa using hm0
  have e2 : Int.fdiv 0 4294967296 = 0 := rfl
  have e3 : IntKind.u64.wrap (0 * 4294967296) = 0 := rfl
  rw [e1, cond_false, u0, e2, decide_eq_false (show ¬ (0 : Int) ≥ uabs m by omega), cond_false, e3]
  have e4 : F_280 0 0 (uabs m) = some ((0, Int.tmod 0 (uabs m), ()) : Els [.int .u64, .int .u64]) := by
    unfold F_280
    rw [e1, cond_false, decide_eq_false (show ¬ uabs m ≤ 0 by omega), cond_false]
    have : ((0 : Int) == 0) = true := rfl
    rw [this, cond_true, decide_eq_false hm0, cond_false, cond_false, Int.zero_tdiv]
    rfl
  rw [e4]
  simp only [Option.bind_some]
  rw [whole0]; rfl
section
variable {m : List Body}
theorem z_74 (js : List Joint) (hn : m.length ≤ 1000) (hm : ∀ b ∈ m, RR0 b) : F_74 (((0 : Int), (0 : Int)), (), js, ()) m = some (.inl ((), m, ())) := by
  have := rounds_mu (G := fun x => G_74_2 x.1.2.2.1 x.1.2.2.2.1 x.2.1 x.2.2.1)
    (fun x => ∃ k : Nat, k ≤ m.length ∧ x = (((), (), (m.length : Int), (k : Int), ()), m, (((0 : Int), (0 : Int)), (), js, ()), ())) (fun x => m.length - x.1.2.2.2.1.toNat)
    (fun y => y = .inl (.inl ((), m, ()))) ?_ fuel (((), (), (m.length : Int), (0 : Int), ()), m, (((0 : Int), (0 : Int)), (), js, ()), ()) ⟨0, Nat.zero_le _, rfl⟩ (by
      show m.length - (0 : Int).toNat < fuel
      unfold fuel; omega)
  · obtain ⟨y, h, rfl⟩ := this
    unfold F_74 R_74_2
    rw [h]; rfl
  · rintro x ⟨k, hk, rfl⟩
    show (∃ x', G_74_2 (m.length : Int) (k : Int) m (((0 : Int), (0 : Int)), (), js, ()) = _ ∧ _) ∨ ∃ y, G_74_2 (m.length : Int) (k : Int) m (((0 : Int), (0 : Int)), (), js, ()) = _ ∧ _
    unfold G_74_2
    by_cases h : k < m.length
    · have hmu : m.length - (IntKind.i64.wrap ((k : Int) + 1)).toNat < m.length - (k : Int).toNat := by rw [wrap_up h (by omega)]; omega
      obtain ⟨b, hb⟩ : ∃ b, b = m.getD k tBody.dflt := ⟨_, rfl⟩
      have hR : RR0 b := hm b (by rw [hb]; exact get_mem h)
      simp only [dec_lt h, cond_true, dec_in h, Int.toNat_natCast, ← hb]
      cases (b.2.2.1 != (0 : Int)) with
      | false => exact .inl ⟨_, rfl, ⟨k + 1, h, by rw [wrap_up h (by omega)]⟩, hmu⟩
      | true =>
        have e3 : F_62 b.2.2.2.2 ((0 : Int), (0 : Int)) = some (.inl ((((0 : Int), (0 : Int)), ()) : Els [tVec])) := by rw [hR.mom]; rfl
        simp only [cond_true]
        rw [z_162]
        simp only [Option.bind_some, Sum.elim_inl]
        rw [z_161]
        simp only [Option.bind_some, Sum.elim_inl]
        rw [e3]
        simp only [Option.bind_some, Sum.elim_inl]
        have hs : m.set k (b.1, b.2.1, b.2.2.1, b.2.2.2.1, ((0 : Int), (0 : Int))) = m := set_same h (by rw [← hb]; rw [← hR.mom])
        rw [hs]
        exact .inl ⟨_, rfl, ⟨k + 1, h, by rw [wrap_up h (by omega)]⟩, hmu⟩
    · have : k = m.length := by omega
      subst this
      simp only [dec_end, cond_false]
      exact .inr ⟨_, rfl, rfl⟩
theorem z_77 (js : List Joint) (hn : m.length ≤ 1000) (hm : ∀ b ∈ m, RR0 b) : F_77 (((0 : Int), (0 : Int)), (), js, ()) m = some (.inl ((), m, ())) := by
  have := rounds_mu (G := fun x => G_77_2 x.1.2.2.1 x.1.2.2.2.1 x.2.1 x.2.2.1)
    (fun x => ∃ k : Nat, k ≤ m.length ∧ x = (((), (), (m.length : Int), (k : Int), ()), m, (((0 : Int), (0 : Int)), (), js, ()), ())) (fun x => m.length - x.1.2.2.2.1.toNat)
    (fun y => y = .inl (.inl ((), m, ()))) ?_ fuel (((), (), (m.length : Int), (0 : Int), ()), m, (((0 : Int), (0 : Int)), (), js, ()), ()) ⟨0, Nat.zero_le _, rfl⟩ (by
      show m.length - (0 : Int).toNat < fuel
      unfold fuel; omega)
  · obtain ⟨y, h, rfl⟩ := this
    unfold F_77 R_77_2
    rw [h]; rfl
  · rintro x ⟨k, hk, rfl⟩
    show (∃ x', G_77_2 (m.length : Int) (k : Int) m (((0 : Int), (0 : Int)), (), js, ()) = _ ∧ _) ∨ ∃ y, G_77_2 (m.length : Int) (k : Int) m (((0 : Int), (0 : Int)), (), js, ()) = _ ∧ _
    unfold G_77_2
    by_cases h : k < m.length
    · have hmu : m.length - (IntKind.i64.wrap ((k : Int) + 1)).toNat < m.length - (k : Int).toNat := by rw [wrap_up h (by omega)]; omega
      obtain ⟨b, hb⟩ : ∃ b, b = m.getD k tBody.dflt := ⟨_, rfl⟩
      have hR : RR0 b := hm b (by rw [hb]; exact get_mem h)
      simp only [dec_lt h, cond_true, dec_in h, Int.toNat_natCast, ← hb]
      cases hz : (b.2.2.1 != (0 : Int)) with
      | false => exact .inl ⟨_, rfl, ⟨k + 1, h, by rw [wrap_up h (by omega)]⟩, hmu⟩
      | true =>
        have h0 : b.2.2.1 ≠ 0 := bne_ne hz
        have e1 : F_168 b = some (.inl ((((0 : Int), (0 : Int)), ()) : Els [tVec])) := by
          unfold F_168
          have : (b.2.2.1 == (0 : Int)) = false := by simpa using h0
          rw [this, cond_false, hR.mom]
          have : F_244 ((0 : Int), (0 : Int)) b.2.2.1 = some (.inl ((((0 : Int), (0 : Int)), ()) : Els [tVec])) := by
            unfold F_244
            rw [div0 hR.mass h0]; rfl
          rw [this]; rfl
        obtain ⟨⟨i1, i2⟩, i3, i4⟩ := hR.inB.1
        have e3 : F_62 b.2.2.2.1 ((0 : Int), (0 : Int)) = some (.inl ((b.2.2.2.1, ()) : Els [tVec])) := by
          have := n_62 (a := b.2.2.2.1) (b := ((0 : Int), (0 : Int))) hR.inB.1 ⟨in0, in0⟩ (by show In64 (b.2.2.2.1.1 + 0); rw [Int.add_zero]; exact hR.inB.1.1) (by show In64 (b.2.2.2.1.2 + 0); rw [Int.add_zero]; exact hR.inB.1.2)
          rw [this]
          show some (Sum.inl (((b.2.2.2.1.1 + 0, b.2.2.2.1.2 + 0), ()) : Els [tVec])) = _
          rw [Int.add_zero, Int.add_zero]
        simp only [cond_true]
        rw [e1]
        simp only [Option.bind_some, Sum.elim_inl]
        rw [z_161]
        simp only [Option.bind_some, Sum.elim_inl]
        rw [e3]
        simp only [Option.bind_some, Sum.elim_inl]
        have hs : m.set k (b.1, b.2.1, b.2.2.1, b.2.2.2.1, b.2.2.2.2) = m := set_same h (by rw [← hb])
        rw [hs]
        exact .inl ⟨_, rfl, ⟨k + 1, h, by rw [wrap_up h (by omega)]⟩, hmu⟩
    · have : k = m.length := by omega
      subst this
      simp only [dec_end, cond_false]
      exact .inr ⟨_, rfl, rfl⟩
/-- No two of so many touch. -/
def NH (n : Nat) (m : List Body) : Prop := ∀ i j, i < j → j < n → ∃ h, F_166 (m.getD i tBody.dflt) (m.getD j tBody.dflt) = some (.inl ((h, false, ()) : Els [tHit, .bool]))
theorem z_76_3 (js : List Joint) (hn : m.length ≤ 1000) (hm : ∀ b ∈ m, RR0 b) :
    ∃ bs : List Box, bs.length = m.length ∧ R_76_3 (((), (), (), (m.length : Int), (0 : Int), ()), m, (((0 : Int), (0 : Int)), (), js, ()), [], ()) = some (.inl (.inl (((), (), ()), m, (((0 : Int), (0 : Int)), (), js, ()), bs, ()))) := by
  have := rounds_mu (G := fun x => G_76_3 x.1.2.2.2.1 x.1.2.2.2.2.1 x.2.1 x.2.2.1 x.2.2.2.1)
    (fun x => ∃ (k : Nat) (bs : List Box), k ≤ m.length ∧ bs.length = k ∧ x = (((), (), (), (m.length : Int), (k : Int), ()), m, (((0 : Int), (0 : Int)), (), js, ()), bs, ())) (fun x => m.length - x.1.2.2.2.2.1.toNat)
    (fun y => ∃ bs : List Box, bs.length = m.length ∧ y = .inl (.inl (((), (), ()), m, (((0 : Int), (0 : Int)), (), js, ()), bs, ()))) ?_ fuel (((), (), (), (m.length : Int), (0 : Int), ()), m, (((0 : Int), (0 : Int)), (), js, ()), [], ()) ⟨0, [], Nat.zero_le _, rfl, rfl⟩ (by
      show m.length - (0 : Int).toNat < fuel
      unfold fuel; omega)
  · obtain ⟨y, h, bs, hbs, rfl⟩ := this
    exact ⟨bs, hbs, h⟩
  rintro x ⟨k, bs, hk, hbs, rfl⟩
  show (∃ x', G_76_3 (m.length : Int) (k : Int) m (((0 : Int), (0 : Int)), (), js, ()) bs = _ ∧ _) ∨ ∃ y, G_76_3 (m.length : Int) (k : Int) m (((0 : Int), (0 : Int)), (), js, ()) bs = _ ∧ _
  unfold G_76_3
  by_cases h : k < m.length
  · have hmu : m.length - (IntKind.i64.wrap ((k : Int) + 1)).toNat < m.length - (k : Int).toNat := by rw [wrap_up h (by omega)]; omega
    obtain ⟨b, hb⟩ : ∃ b, b = m.getD k tBody.dflt := ⟨_, rfl⟩
    have hR : RR0 b := hm b (by rw [hb]; exact get_mem h)
    obtain ⟨x, hx⟩ := hR.box
    simp only [dec_lt h, cond_true, dec_in h, Int.toNat_natCast, ← hb]
    rw [hx]
    have hsz : (((bs.length + [x].length) * 32).ble 70368744177664) = true := Nat.ble_eq_true_of_le (by simp; omega)
    simp only [Option.bind_some, Sum.elim_inl]
    exact .inl ⟨_, by rw [hsz]; rfl, ⟨k + 1, bs ++ [x], h, by simp [hbs], by rw [wrap_up h (by omega)]⟩, hmu⟩
  · have : k = m.length := by omega
    subst this
    simp only [dec_end, cond_false]
    exact .inr ⟨_, rfl, bs, hbs, rfl⟩
theorem nat_lt_of {a b : Int} {n : Nat} (h : (0 ≤ a ∧ a < (n : Int)) ∧ (0 ≤ b ∧ b < (n : Int))) (hab : a < b) : a.toNat < b.toNat ∧ b.toNat < n := by omega
theorem z_76_8 (js : List Joint) (bs : List Box) (ps : List Pair) (hps : ∀ p ∈ ps, Two2 bs p) (hpl : ps.length ≤ 1000000) (hbs : bs.length = m.length) (hN : NH m.length m) :
    R_76_8 (((), ps, (ps.length : Int), (0 : Int), ()), m, (((0 : Int), (0 : Int)), (), js, ()), ()) = some (.inl (.inl ((), m, ()))) := by
  have := rounds_mu (G := fun x => G_76_8 x.1.2.1 x.1.2.2.1 x.1.2.2.2.1 x.2.1 x.2.2.1)
    (fun x => ∃ k : Nat, k ≤ ps.length ∧ x = (((), ps, (ps.length : Int), (k : Int), ()), m, (((0 : Int), (0 : Int)), (), js, ()), ())) (fun x => ps.length - x.1.2.2.2.1.toNat)
    (fun y => y = .inl (.inl ((), m, ()))) ?_ fuel (((), ps, (ps.length : Int), (0 : Int), ()), m, (((0 : Int), (0 : Int)), (), js, ()), ()) ⟨0, Nat.zero_le _, rfl⟩ (by
      show ps.length - (0 : Int).toNat < fuel
      unfold fuel; omega)
  · obtain ⟨y, h, rfl⟩ := this
    exact h
  rintro x ⟨k, hk, rfl⟩
  show (∃ x', G_76_8 ps (ps.length : Int) (k : Int) m (((0 : Int), (0 : Int)), (), js, ()) = _ ∧ _) ∨ ∃ y, G_76_8 ps (ps.length : Int) (k : Int) m (((0 : Int), (0 : Int)), (), js, ()) = _ ∧ _
  unfold G_76_8
  by_cases h : k < ps.length
  · have hmu : ps.length - (IntKind.i64.wrap ((k : Int) + 1)).toNat < ps.length - (k : Int).toNat := by rw [wrap_up h (by omega)]; omega
    obtain ⟨p, hpd⟩ : ∃ p, p = List.getD ps (Int.toNat (k : Int)) tPair.dflt := ⟨_, rfl⟩
    have hin2 : Two2 bs p := by
      rw [hpd, getD_of (List.getElem?_eq_getElem h)]
      exact hps _ (List.getElem_mem h)
    obtain ⟨hin, hne⟩ := hin2
    have d1 : decide ((0 : Int) ≤ p.1 ∧ p.1 < ((m.length : Nat) : Int)) = true := by rw [← hbs]; exact decide_eq_true hin.1
    have d2 : decide ((0 : Int) ≤ p.2 ∧ p.2 < ((m.length : Nat) : Int)) = true := by rw [← hbs]; exact decide_eq_true hin.2
    obtain ⟨u1, u2⟩ := nat_lt_of (a := p.1) (b := p.2) hin hne
    obtain ⟨hh, hno⟩ := hN (Int.toNat p.1) (Int.toNat p.2) u1 (by rw [← hbs]; exact u2)
    simp only [dec_lt h, cond_true, dec_in h, ← hpd, d1, d2]
    rw [hno]
    exact .inl ⟨_, rfl, ⟨k + 1, h, by rw [wrap_up h (by omega)]⟩, hmu⟩
  · have : k = ps.length := by omega
    subst this
    simp only [dec_end, cond_false]
    exact .inr ⟨_, rfl, rfl⟩
theorem z_76 (js : List Joint) (hn : m.length ≤ 10) (hm : ∀ b ∈ m, RR0 b) (hN : NH m.length m) : F_76 (((0 : Int), (0 : Int)), (), js, ()) m = some (.inl ((), m, ())) := by
  obtain ⟨bs, hbs, e⟩ := z_76_3 js (by omega) hm
  obtain ⟨ps, e2, hps, hpl⟩ := k_165 (bs := bs) (by omega)
  unfold F_76
  rw [e]
  simp only [Option.bind_some, Sum.elim_inl]
  rw [e2]
  simp only [Option.bind_some]
  rw [z_76_8 js bs ps hps (by omega) hbs hN]; rfl
def wZ (m : List Body) : World' := (((0 : Int), (0 : Int)), m, [])
theorem wZ_good (hn : m.length ≤ 10) : Good (wZ m) := ⟨hn, by show 0 ≤ 1000; omega⟩
theorem wZ_right (hn : m.length ≤ 10) (hm : ∀ b ∈ m, RR0 b) : rb (wZ m) = true :=
  (rb_iff (wZ m) (by show m.length ≤ 1000000; omega) (by show 0 ≤ 1000000; omega)).2 ⟨fun b hb => (hm b hb).right, fun j hj => (by cases hj), near0 (by omega), near0 (by omega)⟩
theorem wZ_step (hn : m.length ≤ 10) (hm : ∀ b ∈ m, RR0 b) (hN : NH m.length m) : stp (wZ m) = (wZ m, 0) := by
  have hF : F_23 (wZ m) = some ((wZ m, (0 : Int), ()) : Els [tWorld, I]) := by
    obtain ⟨e16, _⟩ := t_16 (wZ m) (by show m.length ≤ 1000000; omega) (by show 0 ≤ 1000000; omega)
    have hr := wZ_right hn hm
    have h73 : F_73 (((0 : Int), (0 : Int)), (), [], ()) m = some (.inl ((), (((0 : Int), (0 : Int)), (), [], ()), m, ())) := by
      unfold F_73
      rw [z_74 [] (by omega) hm]
      simp only [Option.bind_some, Sum.elim_inl]
      rw [o_75]
      simp only [Option.bind_some, Sum.elim_inl]
      rw [z_76 [] hn hm hN]
      simp only [Option.bind_some, Sum.elim_inl]
      rw [z_77 [] (by omega) hm]; rfl
    unfold F_23
    rw [e16, hr]
    simp only [Option.bind_some, Bool.not_true, cond_false]
    rw [e56 (wZ m) (wZ_good hn)]
    simp only [Option.bind_some]
    rw [e57 (wZ m) (wZ_good hn)]
    simp only [Option.bind_some]
    unfold F_60_73
    show ((((F_73 (((0 : Int), (0 : Int)), (), [], ()) m).bind _).bind _) : Option (Els [tWorld, I])) = _
    rw [h73]
    simp only [Option.bind_some, Sum.elim_inl]
    have h00 : ((0 : Int) == 0) = true := rfl
    rw [h00, cond_true]
    have e16' : F_16 (((0 : Int), (0 : Int)), m, []) = some ((true, ()) : Els [.bool]) := by rw [← hr]; exact e16
    rw [e16']; rfl
  unfold stp
  rw [hF]
theorem run_wZ (hn : m.length ≤ 10) (hm : ∀ b ∈ m, RR0 b) (hN : NH m.length m) : ∀ k i : Nat, run k i (wZ m) = (wZ m, 0, 0)
  | 0, i => rfl
  | k + 1, i => by
    have e := wZ_step hn hm hN
    rw [run_go (by rw [e]), e]
    exact run_wZ hn hm hN k (i + 1)
end
/-! ### the law -/
theorem i_5_11 (n' : Int) (i : Nat) (N : Int) (m : List Body) (hi : i < m.length) (hl : m.length ≤ 1000) (hm : ∀ j, j ≤ i → RR0 (m.getD j tBody.dflt)) :
    (R_5_11 ((n', (), (i : Int), (0 : Int), N, (i : Int), ()), m, ()) = some (.inl ((n', (), N, (i : Int), ()), m, ())) ∧ ∀ k, k < i → ∃ h, F_166 (m.getD k tBody.dflt) (m.getD i tBody.dflt) = some (.inl ((h, false, ()) : Els [tHit, .bool]))) ∨
      R_5_11 ((n', (), (i : Int), (0 : Int), N, (i : Int), ()), m, ()) = some (.inr ((true, ()), ())) := by
  have := rounds_mu (G := fun x => G_5_11 x.1.1 x.1.2.2.1 x.1.2.2.2.1 x.1.2.2.2.2.1 x.1.2.2.2.2.2.1 x.2.1)
    (fun x => ∃ k : Nat, k ≤ i ∧ (∀ j, j < k → ∃ h, F_166 (m.getD j tBody.dflt) (m.getD i tBody.dflt) = some (.inl ((h, false, ()) : Els [tHit, .bool]))) ∧ x = ((n', (), (i : Int), (k : Int), N, (i : Int), ()), m, ())) (fun x => i - x.1.2.2.2.1.toNat)
    (fun y => (y = .inl ((n', (), N, (i : Int), ()), m, ()) ∧ ∀ k, k < i → ∃ h, F_166 (m.getD k tBody.dflt) (m.getD i tBody.dflt) = some (.inl ((h, false, ()) : Els [tHit, .bool]))) ∨ y = .inr ((true, ()), ())) ?_ fuel ((n', (), (i : Int), (0 : Int), N, (i : Int), ()), m, ()) ⟨0, Nat.zero_le _, fun j hj => by omega, rfl⟩ (by
      show i - (0 : Int).toNat < fuel
      unfold fuel; omega)
  · obtain ⟨y, h, hy⟩ := this
    rcases hy with ⟨rfl, hk⟩ | rfl
    · exact .inl ⟨h, hk⟩
    · exact .inr h
  · rintro x ⟨k, hk, hp, rfl⟩
    show (∃ x', G_5_11 n' (i : Int) (k : Int) N (i : Int) m = _ ∧ _) ∨ ∃ y, G_5_11 n' (i : Int) (k : Int) N (i : Int) m = _ ∧ _
    unfold G_5_11
    by_cases h : k < i
    · have hmu : i - (IntKind.i64.wrap ((k : Int) + 1)).toNat < i - (k : Int).toNat := by rw [wrap_up h (by omega)]; omega
      obtain ⟨a, ha⟩ : ∃ a, a = m.getD k tBody.dflt := ⟨_, rfl⟩
      obtain ⟨b, hb⟩ : ∃ b, b = m.getD i tBody.dflt := ⟨_, rfl⟩
      have ra : RR0 a := by rw [ha]; exact hm k (by omega)
      have rb' : RR0 b := by rw [hb]; exact hm i (Nat.le_refl _)
      simp only [dec_lt h, cond_true, dec_in (show k < m.length by omega), dec_in hi, Int.toNat_natCast, ← ha, ← hb]
      obtain ⟨y, hy, h0⟩ := sim_21 a b ra.shape rb'.shape 0
      rw [hy]
      obtain ⟨⟨hh, ok, u⟩, ⟨E, u'⟩, u''⟩ := y
      simp only [Option.bind_some]
      cases ok with
      | true => exact .inr ⟨_, rfl, .inr rfl⟩
      | false =>
        simp only [cond_false]
        cases hE : (E != (0 : Int)) with
        | true => exact .inr ⟨_, rfl, .inr rfl⟩
        | false =>
          have hq := ((h0 (bne_eq hE)).2 ⟨ra.inB, rb'.inB⟩).1
          refine .inl ⟨_, rfl, ⟨k + 1, h, fun j hj => ?_, by rw [wrap_up h (by omega)]⟩, hmu⟩
          by_cases hjk : j < k
          · obtain ⟨h', e'⟩ := hp j hjk
            exact ⟨h', by rw [hb]; exact e'⟩
          · have : j = k := by omega
            subst this
            exact ⟨hh, by rw [← ha]; exact hq⟩
    · have : k = i := by omega
      subst this
      simp only [dec_end, cond_false]
      exact .inr ⟨_, rfl, .inl ⟨rfl, hp⟩⟩
theorem i_5_5 (n' : Int) (l : List Body) (hl : l.length ≤ 10) :
    (∃ m : List Body, m.length = l.length ∧ (∀ b ∈ m, RR0 b) ∧ NH m.length m ∧ R_5_5 ((n', (), (l.length : Int), (0 : Int), ()), l, ()) = some (.inl ((n', m, ()), ()))) ∨ R_5_5 ((n', (), (l.length : Int), (0 : Int), ()), l, ()) = some (.inr ((true, ()), ())) := by
  have := rounds_mu (G := fun x => G_5_5 x.1.1 x.1.2.2.1 x.1.2.2.2.1 x.2.1)
    (fun x => ∃ (k : Nat) (m : List Body), k ≤ l.length ∧ m.length = l.length ∧ (∀ j, j < k → RR0 (m.getD j tBody.dflt)) ∧ NH k m ∧ x = ((n', (), (l.length : Int), (k : Int), ()), m, ())) (fun x => l.length - x.1.2.2.2.1.toNat)
    (fun y => (∃ m : List Body, m.length = l.length ∧ (∀ b ∈ m, RR0 b) ∧ NH m.length m ∧ y = .inl ((n', m, ()), ())) ∨ y = .inr ((true, ()), ())) ?_ fuel ((n', (), (l.length : Int), (0 : Int), ()), l, ()) ⟨0, l, Nat.zero_le _, rfl, fun j hj => by omega, fun i j _ hj => by omega, rfl⟩ (by
      show l.length - (0 : Int).toNat < fuel
      unfold fuel; omega)
  · obtain ⟨y, h, hy⟩ := this
    rcases hy with ⟨m, h1, h2, h3, rfl⟩ | rfl
    · exact .inl ⟨m, h1, h2, h3, h⟩
    · exact .inr h
  · rintro x ⟨k, m, hk, hml, hR, hN, rfl⟩
    show (∃ x', G_5_5 n' (l.length : Int) (k : Int) m = _ ∧ _) ∨ ∃ y, G_5_5 n' (l.length : Int) (k : Int) m = _ ∧ _
    unfold G_5_5
    by_cases h : k < l.length
    · have hmu : l.length - (IntKind.i64.wrap ((k : Int) + 1)).toNat < l.length - (k : Int).toNat := by rw [wrap_up h (by omega)]; omega
      obtain ⟨b, hb⟩ : ∃ b, b = m.getD k tBody.dflt := ⟨_, rfl⟩
      obtain ⟨m', hm'⟩ : ∃ m', m' = m.set k (b.1, b.2.1, b.2.2.1, b.2.2.2.1, (0 : Int), (0 : Int)) := ⟨_, rfl⟩
      have hml' : m'.length = l.length := by rw [hm', List.length_set]; exact hml
      have hd : decide ((0 : Int) ≤ (k : Int) ∧ (k : Int) < ((m.length : Nat) : Int)) = true := by rw [hml]; exact dec_in h
      have hd' : decide ((0 : Int) ≤ (k : Int) ∧ (k : Int) < ((m'.length : Nat) : Int)) = true := by rw [hml']; exact dec_in h
      simp only [dec_lt h, cond_true, hd, Int.toNat_natCast, ← hb, ← hm', hd']
      have hat : m'.getD k tBody.dflt = (b.1, b.2.1, b.2.2.1, b.2.2.2.1, (0 : Int), (0 : Int)) := by rw [hm', getD_set, if_pos ⟨rfl, by omega⟩]
      have hne : ∀ j, j ≠ k → m'.getD j tBody.dflt = m.getD j tBody.dflt := fun j hj => by rw [hm', getD_set, if_neg (fun h => hj h.1.symm)]
      obtain ⟨v, hv⟩ := tot_20 (m'.getD k tBody.dflt)
      rw [hv]
      simp only [Option.bind_some]
      obtain ⟨v, u⟩ := v
      cases v with
      | false => exact .inr ⟨_, rfl, .inr rfl⟩
      | true =>
        have hRk : RR0 (m'.getD k tBody.dflt) := by
          rw [hat] at hv ⊢
          obtain ⟨s, ⟨sx, sy⟩, ms, ⟨px, py⟩, mm⟩ := b
          exact rr0_of hv
        have hR' : ∀ j, j ≤ k → RR0 (m'.getD j tBody.dflt) := fun j hj => by
          by_cases hjk : j = k
          · rw [hjk]; exact hRk
          · rw [hne j hjk]; exact hR j (by omega)
        simp only [Bool.not_true, cond_false]
        rcases i_5_11 n' k (l.length : Int) m' (by omega) (by omega) hR' with ⟨e, hno⟩ | e
        · rw [e]
          refine .inl ⟨_, rfl, ⟨k + 1, m', h, hml', fun j hj => hR' j (by omega), fun i j hij hj => ?_, ?_⟩, ?_⟩
          · by_cases hjk : j = k
            · subst hjk; exact hno i hij
            · rw [hne i (by omega), hne j hjk]; exact hN i j hij (by omega)
          · show ((n', (), (l.length : Int), IntKind.i64.wrap ((k : Int) + 1), ()), m', ()) = _
            rw [wrap_up h (by omega)]
          · exact hmu
        · rw [e]; exact .inr ⟨_, rfl, .inr rfl⟩
    · have : k = l.length := by omega
      subst this
      simp only [dec_end, cond_false]
      refine .inr ⟨_, rfl, .inl ⟨m, hml, fun b hb => ?_, by rw [hml]; exact hN, rfl⟩⟩
      obtain ⟨j, hj, e⟩ := List.getElem_of_mem hb
      have := hR j (by omega)
      rw [List.getD_eq_getElem?_getD, List.getElem?_eq_getElem hj] at this
      rw [← e]; exact this
theorem worldStill (l : (Ty.list tBody).El) (n : I.El) (h0 : (Ty.list tBody).wf l) (h1 : I.wf n) : F_5 l n = some ((true, ()) : Els [.bool]) := by
  obtain ⟨n', rfl⟩ : ∃ n' : Int, n' = n := ⟨n, rfl⟩
  unfold F_5
  by_cases c1 : ((List.length l : Nat) : Int) > (10 : Int)
  · rw [decide_eq_true c1]; exact yes14
  rw [decide_eq_false c1, cond_false]
  by_cases c3 : n' < 0
  · rw [decide_eq_true c3]; exact yes14
  rw [decide_eq_false c3, cond_false]
  by_cases c4 : n' > 12
  · rw [decide_eq_true c4]; exact yes14
  rw [decide_eq_false c4, cond_false, alive14]
  simp only [Option.bind_some, Bool.not_true, cond_false]
  have hl : l.length ≤ 10 := by omega
  have hsz : ((l.length * 64).ble 70368744177664) = true := Nat.ble_eq_true_of_le (by omega)
  rw [hsz, cond_true]
  rcases i_5_5 n' l hl with ⟨m, hml, hR, hN, e⟩ | e
  · rw [e]
    simp only [Option.bind_some, Sum.elim_inl]
    obtain ⟨k, hk⟩ := Int.eq_ofNat_of_zero_le (show 0 ≤ n' by omega)
    subst hk
    have hm10 : m.length ≤ 10 := by omega
    have h15 := t_15 (wZ m) k (by omega) (wZ_good hm10)
    rw [if_neg (by rw [wZ_right hm10 hR]; simp), run_wZ hm10 hR hN] at h15
    have h15 : F_15 (((0 : Int), (0 : Int)), m, []) (k : Int) = _ := h15
    rw [h15]
    simp only [Option.bind_some]
    have a1 : ((0 : Int) == 0) = true := rfl
    rw [a1, cond_true, cond_true]
    show (F_22 m m).bind _ = _
    rw [t_22 m (by omega)]; rfl
  · rw [e]; rfl
end Go.DI.S

