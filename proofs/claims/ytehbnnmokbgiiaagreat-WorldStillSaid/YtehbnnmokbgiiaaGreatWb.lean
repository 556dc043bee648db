import Derived.Test.YtehbnnmokbgiiaaGreatWa
/- What runs through, plain: sorting. No conditions. -/
/-! Plain: rows are sorted without end and without fault: what is in them stays what it was. -/
set_option linter.unusedVariables false
set_option linter.unusedSimpArgs false
set_option maxRecDepth 100000
namespace Go.DI.S
open Go.Proofs
/-- So many elements, each of a kind. -/
def Row {α : Type} (P : α → Prop) (n : Nat) (l : List α) : Prop := l.length = n ∧ ∀ x ∈ l, P x
theorem get_mem {α : Type} {l : List α} {i : Nat} {d : α} (h : i < l.length) : l.getD i d ∈ l := by
  rw [List.getD_eq_getElem?_getD, List.getElem?_eq_getElem h]
  exact List.getElem_mem h
theorem Row.put {α : Type} {P : α → Prop} {n : Nat} {l : List α} (h : Row P n l) {i : Nat} {x : α} (hx : P x) : Row P n (l.set i x) := by
  refine ⟨by rw [List.length_set]; exact h.1, fun y hy => ?_⟩
  rcases List.mem_or_eq_of_mem_set hy with hy | rfl
  · exact h.2 y hy
  · exact hx
theorem Row.get {α : Type} {P : α → Prop} {n : Nat} {l : List α} (h : Row P n l) {i : Nat} {d : α} (hi : i < n) : P (l.getD i d) := h.2 _ (get_mem (by rw [h.1]; exact hi))
theorem Row.swap {α : Type} {P : α → Prop} {n : Nat} {l : List α} (h : Row P n l) {i j : Nat} {d : α} (hi : i < n) (hj : j < n) : Row P n ((l.set i (l.getD j d)).set j (l.getD i d)) := (h.put (h.get hj)).put (h.get hi)
theorem down1 {j : Nat} (h : 0 < j) (hj : j ≤ 4611686018427387904) : IntKind.i64.wrap ((j : Int) - 1) = ((j - 1 : Nat) : Int) := by
  rw [wrap64 (by omega) (by omega)]; omega
theorem Row.in {α : Type} {P : α → Prop} {n : Nat} {l : List α} (h : Row P n l) {i : Nat} (hi : i < n) : decide ((0 : Int) ≤ (i : Int) ∧ (i : Int) < ((l.length : Nat) : Int)) = true := by rw [h.1]; exact dec_in hi

/-! ### what is compared -/
theorem t_237 (l : List Int) (hl : l.length ≤ 1000000000) : Tot (F_237 l) := by
  have := rounds_mu (G := fun x => G_237_3 x.1.1 x.1.2.1 x.1.2.2.1 x.1.2.2.2.1) (fun x => ∃ k : Nat, k ≤ l.length ∧ x = (((0 : Int), l, (l.length : Int), (k : Int), ()), ())) (fun x => l.length - x.1.2.2.2.1.toNat) (fun _ => True) ?_ fuel (((0 : Int), l, (l.length : Int), (0 : Int), ()), ()) ⟨0, Nat.zero_le _, rfl⟩ (by
    show l.length - (0 : Int).toNat < fuel
    have := fuel_lt hl; omega)
  · obtain ⟨y, h, _⟩ := this
    unfold F_237 R_237_3
    refine tot_via h ?_
    cases y with
    | inl v => exact tot_some _
    | inr v => exact tot_some _
  · rintro x ⟨k, hk, rfl⟩
    show (∃ x', G_237_3 0 l (l.length : Int) (k : Int) = _ ∧ _) ∨ ∃ y, G_237_3 0 l (l.length : Int) (k : Int) = _ ∧ _
    unfold G_237_3
    by_cases h : k < l.length
    · rw [dec_lt h, cond_true, dec_in h, cond_true]
      cases (List.getD l (Int.toNat (k : Int)) 0 != 0) with
      | true => exact .inr ⟨_, rfl, trivial⟩
      | false =>
        refine .inl ⟨_, rfl, ⟨k + 1, h, ?_⟩, ?_⟩
        · rw [wrap_up h (by omega)]
        · show l.length - (IntKind.i64.wrap ((k : Int) + 1)).toNat < l.length - (k : Int).toNat
          rw [wrap_up h (by omega)]; omega
    · have : k = l.length := by omega
      subst this
      rw [dec_end]
      exact .inr ⟨_, rfl, trivial⟩
theorem t_236 (a b : Pair) : Tot (F_236 a b) := tot_bind (t_238 _ _) fun _ => tot_bind (t_238 _ _) fun _ => tot_bind (t_237 _ (by simp)) fun _ => tot_some _
/-- A place among boxes. -/
def At (bs : List Box) (x : Int) : Prop := 0 ≤ x ∧ x < (bs.length : Int)
theorem t_287 (a b : Int) (bs : List Box) (ha : At bs a) (hb : At bs b) : ∃ v : Int, F_287 a b (bs, ()) = some ((v, ()), (bs, ()), ()) := by
  unfold F_287
  have h1 : decide ((0 : Int) ≤ a ∧ a < (bs.length : Int)) = true := decide_eq_true ha
  have h2 : decide ((0 : Int) ≤ b ∧ b < (bs.length : Int)) = true := decide_eq_true hb
  obtain ⟨v, hv⟩ := t_288 (List.getD bs (Int.toNat a) tBox.dflt).1.1 (List.getD bs (Int.toNat b) tBox.dflt).1.1
  refine ⟨v.1, ?_⟩
  simp only [h1, h2, cond_true]
  rw [hv]; rfl

/-! ### insertion -/
theorem q_311_4 {P : Pair → Prop} {n : Nat} (hn : n ≤ 1000000000) (a i : Nat) (b : Int) (hi : i < n) (l : List Pair) (hl : Row P n l) : ∃ l', R_311_4 (((), (a : Int), b, (), (i : Int), (i : Int), ()), l, ()) = some (.inl (((), (a : Int), b, (), (i : Int), ()), l', ())) ∧ Row P n l' := by
  have := rounds_mu (G := fun x => G_311_4 x.1.2.1 x.1.2.2.1 x.1.2.2.2.2.1 x.1.2.2.2.2.2.1 x.2.1)
    (fun x => ∃ (j : Nat) (m : List Pair), j < n ∧ Row P n m ∧ x = (((), (a : Int), b, (), (i : Int), (j : Int), ()), m, ())) (fun x => x.1.2.2.2.2.2.1.toNat)
    (fun y => ∃ m, Row P n m ∧ y = .inl (((), (a : Int), b, (), (i : Int), ()), m, ())) ?_ fuel (((), (a : Int), b, (), (i : Int), (i : Int), ()), l, ()) ⟨i, l, hi, hl, rfl⟩ (by
      show (i : Int).toNat < fuel
      have := fuel_lt hn; omega)
  · obtain ⟨y, h, m, h1, rfl⟩ := this
    exact ⟨m, h, h1⟩
  · rintro x ⟨j, m, hj, hm, rfl⟩
    show (∃ x', G_311_4 (a : Int) b (i : Int) (j : Int) m = _ ∧ _) ∨ ∃ y, G_311_4 (a : Int) b (i : Int) (j : Int) m = _ ∧ _
    unfold G_311_4
    by_cases h : (j : Int) > (a : Int)
    · obtain ⟨v, hv⟩ := t_236 (m.getD j tPair.dflt) (m.getD (j - 1) tPair.dflt)
      simp only [decide_eq_true h, cond_true, down1 (j := j) (by omega) (by omega), hm.in hj, hm.in (i := j - 1) (by omega), Int.toNat_natCast, hv, Option.bind_some, List.length_set]
      by_cases hc : v.1 < 0
      · simp only [decide_eq_true hc, cond_true]
        refine .inl ⟨_, rfl, ⟨j - 1, _, by omega, hm.swap hj (by omega), rfl⟩, ?_⟩
        show ((j - 1 : Nat) : Int).toNat < (j : Int).toNat
        omega
      · simp only [decide_eq_false hc, cond_false]
        exact .inr ⟨_, rfl, m, hm, rfl⟩
    · simp only [decide_eq_false h, cond_false]
      exact .inr ⟨_, rfl, m, hm, rfl⟩
theorem t_311 {P : Pair → Prop} {n : Nat} (hn : n ≤ 1000000000) (a b : Nat) (ha : a ≤ n) (hb : b ≤ n) (l : List Pair) (hl : Row P n l) : ∃ l', F_311 (a : Int) (b : Int) l = some ((), l', ()) ∧ Row P n l' := by
  have := rounds_mu (G := fun x => G_311_1 x.1.2.1 x.1.2.2.1 x.1.2.2.2.2.1 x.2.1)
    (fun x => ∃ (i : Nat) (m : List Pair), i ≤ n + 1 ∧ Row P n m ∧ x = (((), (a : Int), (b : Int), (), (i : Int), ()), m, ())) (fun x => n + 2 - x.1.2.2.2.2.1.toNat)
    (fun y => ∃ m, Row P n m ∧ y = .inl ((), m, ())) ?_ fuel (((), (a : Int), (b : Int), (), ((a + 1 : Nat) : Int), ()), l, ()) ⟨a + 1, l, by omega, hl, rfl⟩ (by
      show n + 2 - ((a + 1 : Nat) : Int).toNat < fuel
      have := fuel_lt hn; unfold fuel; omega)
  · obtain ⟨y, h, m, h1, rfl⟩ := this
    refine ⟨m, ?_, h1⟩
    unfold F_311 R_311_1
    rw [show IntKind.i64.wrap ((a : Int) + 1) = ((a + 1 : Nat) : Int) from wrap_up (n := n + 1) (by omega) (by omega), h]
    rfl
  · rintro x ⟨i, m, hi, hm, rfl⟩
    show (∃ x', G_311_1 (a : Int) (b : Int) (i : Int) m = _ ∧ _) ∨ ∃ y, G_311_1 (a : Int) (b : Int) (i : Int) m = _ ∧ _
    unfold G_311_1
    by_cases h : i < b
    · obtain ⟨m', h1, h2⟩ := q_311_4 hn a i (b : Int) (by omega) m hm
      simp only [dec_lt h, cond_true]
      rw [h1]
      refine .inl ⟨_, rfl, ⟨i + 1, m', by omega, h2, ?_⟩, ?_⟩
      · show (((), (a : Int), (b : Int), (), IntKind.i64.wrap ((i : Int) + 1), ()), m', ()) = _
        rw [wrap_up h (by omega)]
      · show n + 2 - (IntKind.i64.wrap ((i : Int) + 1)).toNat < n + 2 - (i : Int).toNat
        rw [wrap_up h (by omega)]; omega
    · have h' : decide ((i : Int) < (b : Int)) = false := decide_eq_false (by omega)
      simp only [h', cond_false]
      exact .inr ⟨_, rfl, m, hm, rfl⟩
end Go.DI.S

/-! Plain: quicker sorting runs through. -/
set_option linter.unusedVariables false
set_option linter.unusedSimpArgs false
set_option maxRecDepth 100000
namespace Go.DI.S
open Go.Proofs
theorem Row.at {α : Type} {P : α → Prop} {n : Nat} {l : List α} (h : Row P n l) {x : Int} (h0 : 0 ≤ x) (h1 : x < n) : decide ((0 : Int) ≤ x ∧ x < ((l.length : Nat) : Int)) = true := by
  rw [h.1]; exact decide_eq_true ⟨h0, h1⟩
theorem Row.swapI {α : Type} {P : α → Prop} {n : Nat} {l : List α} (h : Row P n l) {x y : Int} {d : α} (hx : 0 ≤ x ∧ x < n) (hy : 0 ≤ y ∧ y < n) : Row P n ((l.set (Int.toNat x) (l.getD (Int.toNat y) d)).set (Int.toNat y) (l.getD (Int.toNat x) d)) :=
  h.swap (by omega) (by omega)
theorem q_318_3 {P : Pair → Prop} {n : Nat} (hn : n ≤ 1000000000) (r1 i j : Int) (l : List Pair) (hl : Row P n l) (h1 : 0 ≤ r1 ∧ r1 < n) (h2 : 0 ≤ i) (h3 : j < n) : ∃ i' : Int, R_318_3 (((), r1, (), i, j, ()), l, ()) = some (.inl (((), r1, (), i', j, ()), l, ())) ∧ i ≤ i' ∧ (i' ≤ j + 1 ∨ i' = i) := by
  have := rounds_mu (G := fun x => G_318_3 x.1.2.1 x.1.2.2.2.1 x.1.2.2.2.2.1 x.2.1)
    (fun x => ∃ i' : Int, x = (((), r1, (), i', j, ()), l, ()) ∧ i ≤ i' ∧ (i' ≤ j + 1 ∨ i' = i)) (fun x => (j + 1 - x.1.2.2.2.1 : Int).toNat)
    (fun y => ∃ i' : Int, y = .inl (((), r1, (), i', j, ()), l, ()) ∧ i ≤ i' ∧ (i' ≤ j + 1 ∨ i' = i)) ?_ fuel (((), r1, (), i, j, ()), l, ()) ⟨i, rfl, Int.le_refl _, .inr rfl⟩ (by
      show (j + 1 - i : Int).toNat < fuel
      unfold fuel; omega)
  · obtain ⟨y, h, i', rfl, h4⟩ := this
    exact ⟨i', h, h4⟩
  · rintro x ⟨i', rfl, h4, h5⟩
    show (∃ x', G_318_3 r1 i' j l = _ ∧ _) ∨ ∃ y, G_318_3 r1 i' j l = _ ∧ _
    unfold G_318_3
    by_cases h : i' ≤ j
    · obtain ⟨v, hv⟩ := t_236 (l.getD (Int.toNat i') tPair.dflt) (l.getD (Int.toNat r1) tPair.dflt)
      have w : IntKind.i64.wrap (i' + 1) = i' + 1 := wrap64 (by omega) (by omega)
      have stop : ∃ y, (some (Sum.inr (Sum.inl (((), r1, (), i', j, ()), l, ()))) : Option (LD_318_3.El ⊕ (LA_318_3.El ⊕ LB_318_3.El))) = some (.inr y) ∧ ∃ i' : Int, y = .inl (((), r1, (), i', j, ()), l, ()) ∧ i ≤ i' ∧ (i' ≤ j + 1 ∨ i' = i) := ⟨_, rfl, i', rfl, h4, h5⟩
      have go : ∃ x', (some (Sum.inl (((), r1, (), IntKind.i64.wrap (i' + 1), j, ()), l, ())) : Option (LD_318_3.El ⊕ (LA_318_3.El ⊕ LB_318_3.El))) = some (.inl x') ∧ (∃ i' : Int, x' = (((), r1, (), i', j, ()), l, ()) ∧ i ≤ i' ∧ (i' ≤ j + 1 ∨ i' = i)) ∧ (j + 1 - x'.1.2.2.2.1 : Int).toNat < (j + 1 - i' : Int).toNat := by
        refine ⟨_, rfl, ⟨i' + 1, by rw [w], by omega, .inl (by omega)⟩, ?_⟩
        show (j + 1 - IntKind.i64.wrap (i' + 1) : Int).toNat < _
        rw [w]; omega
      simp only [decide_eq_true h, cond_true, hl.at (x := i') (by omega) (by omega), hl.at h1.1 h1.2, hv, Option.bind_some]
      cases decide (v.1 < 0) with
      | true => first | exact .inl go | exact .inr stop
      | false => first | exact .inl go | exact .inr stop
    · simp only [decide_eq_false h, cond_false]
      exact .inr ⟨_, rfl, i', rfl, h4, h5⟩
theorem q_318_13 {P : Pair → Prop} {n : Nat} (hn : n ≤ 1000000000) (r1 i j : Int) (l : List Pair) (hl : Row P n l) (h1 : 0 ≤ r1 ∧ r1 < n) (h2 : 0 ≤ i) (h3 : j < n) : ∃ i' : Int, R_318_13 (((), r1, (), i, j, ()), l, ()) = some (.inl (((), r1, (), i', j, ()), l, ())) ∧ i ≤ i' ∧ (i' ≤ j + 1 ∨ i' = i) := by
  have := rounds_mu (G := fun x => G_318_13 x.1.2.1 x.1.2.2.2.1 x.1.2.2.2.2.1 x.2.1)
    (fun x => ∃ i' : Int, x = (((), r1, (), i', j, ()), l, ()) ∧ i ≤ i' ∧ (i' ≤ j + 1 ∨ i' = i)) (fun x => (j + 1 - x.1.2.2.2.1 : Int).toNat)
    (fun y => ∃ i' : Int, y = .inl (((), r1, (), i', j, ()), l, ()) ∧ i ≤ i' ∧ (i' ≤ j + 1 ∨ i' = i)) ?_ fuel (((), r1, (), i, j, ()), l, ()) ⟨i, rfl, Int.le_refl _, .inr rfl⟩ (by
      show (j + 1 - i : Int).toNat < fuel
      unfold fuel; omega)
  · obtain ⟨y, h, i', rfl, h4⟩ := this
    exact ⟨i', h, h4⟩
  · rintro x ⟨i', rfl, h4, h5⟩
    show (∃ x', G_318_13 r1 i' j l = _ ∧ _) ∨ ∃ y, G_318_13 r1 i' j l = _ ∧ _
    unfold G_318_13
    by_cases h : i' ≤ j
    · obtain ⟨v, hv⟩ := t_236 (l.getD (Int.toNat i') tPair.dflt) (l.getD (Int.toNat r1) tPair.dflt)
      have w : IntKind.i64.wrap (i' + 1) = i' + 1 := wrap64 (by omega) (by omega)
      have stop : ∃ y, (some (Sum.inr (Sum.inl (((), r1, (), i', j, ()), l, ()))) : Option (LD_318_13.El ⊕ (LA_318_13.El ⊕ LB_318_13.El))) = some (.inr y) ∧ ∃ i' : Int, y = .inl (((), r1, (), i', j, ()), l, ()) ∧ i ≤ i' ∧ (i' ≤ j + 1 ∨ i' = i) := ⟨_, rfl, i', rfl, h4, h5⟩
      have go : ∃ x', (some (Sum.inl (((), r1, (), IntKind.i64.wrap (i' + 1), j, ()), l, ())) : Option (LD_318_13.El ⊕ (LA_318_13.El ⊕ LB_318_13.El))) = some (.inl x') ∧ (∃ i' : Int, x' = (((), r1, (), i', j, ()), l, ()) ∧ i ≤ i' ∧ (i' ≤ j + 1 ∨ i' = i)) ∧ (j + 1 - x'.1.2.2.2.1 : Int).toNat < (j + 1 - i' : Int).toNat := by
        refine ⟨_, rfl, ⟨i' + 1, by rw [w], by omega, .inl (by omega)⟩, ?_⟩
        show (j + 1 - IntKind.i64.wrap (i' + 1) : Int).toNat < _
        rw [w]; omega
      simp only [decide_eq_true h, cond_true, hl.at (x := i') (by omega) (by omega), hl.at h1.1 h1.2, hv, Option.bind_some]
      cases decide (v.1 < 0) with
      | true => first | exact .inl go | exact .inr stop
      | false => first | exact .inl go | exact .inr stop
    · simp only [decide_eq_false h, cond_false]
      exact .inr ⟨_, rfl, i', rfl, h4, h5⟩
theorem q_317_3 {P : Pair → Prop} {n : Nat} (hn : n ≤ 1000000000) (r1 i j : Int) (l : List Pair) (hl : Row P n l) (h1 : 0 ≤ r1 ∧ r1 < n) (h2 : 0 ≤ i) (h3 : j < n) : ∃ i' : Int, R_317_3 (((), r1, (), i, j, ()), l, ()) = some (.inl (((), r1, (), i', j, ()), l, ())) ∧ i ≤ i' ∧ (i' ≤ j + 1 ∨ i' = i) := by
  have := rounds_mu (G := fun x => G_317_3 x.1.2.1 x.1.2.2.2.1 x.1.2.2.2.2.1 x.2.1)
    (fun x => ∃ i' : Int, x = (((), r1, (), i', j, ()), l, ()) ∧ i ≤ i' ∧ (i' ≤ j + 1 ∨ i' = i)) (fun x => (j + 1 - x.1.2.2.2.1 : Int).toNat)
    (fun y => ∃ i' : Int, y = .inl (((), r1, (), i', j, ()), l, ()) ∧ i ≤ i' ∧ (i' ≤ j + 1 ∨ i' = i)) ?_ fuel (((), r1, (), i, j, ()), l, ()) ⟨i, rfl, Int.le_refl _, .inr rfl⟩ (by
      show (j + 1 - i : Int).toNat < fuel
      unfold fuel; omega)
  · obtain ⟨y, h, i', rfl, h4⟩ := this
    exact ⟨i', h, h4⟩
  · rintro x ⟨i', rfl, h4, h5⟩
    show (∃ x', G_317_3 r1 i' j l = _ ∧ _) ∨ ∃ y, G_317_3 r1 i' j l = _ ∧ _
    unfold G_317_3
    by_cases h : i' ≤ j
    · obtain ⟨v, hv⟩ := t_236 (l.getD (Int.toNat r1) tPair.dflt) (l.getD (Int.toNat i') tPair.dflt)
      have w : IntKind.i64.wrap (i' + 1) = i' + 1 := wrap64 (by omega) (by omega)
      have stop : ∃ y, (some (Sum.inr (Sum.inl (((), r1, (), i', j, ()), l, ()))) : Option (LD_317_3.El ⊕ (LA_317_3.El ⊕ LB_317_3.El))) = some (.inr y) ∧ ∃ i' : Int, y = .inl (((), r1, (), i', j, ()), l, ()) ∧ i ≤ i' ∧ (i' ≤ j + 1 ∨ i' = i) := ⟨_, rfl, i', rfl, h4, h5⟩
      have go : ∃ x', (some (Sum.inl (((), r1, (), IntKind.i64.wrap (i' + 1), j, ()), l, ())) : Option (LD_317_3.El ⊕ (LA_317_3.El ⊕ LB_317_3.El))) = some (.inl x') ∧ (∃ i' : Int, x' = (((), r1, (), i', j, ()), l, ()) ∧ i ≤ i' ∧ (i' ≤ j + 1 ∨ i' = i)) ∧ (j + 1 - x'.1.2.2.2.1 : Int).toNat < (j + 1 - i' : Int).toNat := by
        refine ⟨_, rfl, ⟨i' + 1, by rw [w], by omega, .inl (by omega)⟩, ?_⟩
        show (j + 1 - IntKind.i64.wrap (i' + 1) : Int).toNat < _
        rw [w]; omega
      simp only [decide_eq_true h, cond_true, hl.at (x := i') (by omega) (by omega), hl.at h1.1 h1.2, hv, Option.bind_some]
      cases decide (v.1 < 0) with
      | true => first | exact .inl go | exact .inr stop
      | false => first | exact .inl go | exact .inr stop
    · simp only [decide_eq_false h, cond_false]
      exact .inr ⟨_, rfl, i', rfl, h4, h5⟩
theorem q_318_5 {P : Pair → Prop} {n : Nat} (hn : n ≤ 1000000000) (r1 i j : Int) (l : List Pair) (hl : Row P n l) (h1 : 0 ≤ r1 ∧ r1 < n) (h2 : 0 ≤ i) (h3 : j < n) : ∃ j' : Int, R_318_5 (((), r1, (), i, j, ()), l, ()) = some (.inl (((), r1, (), i, j', ()), l, ())) ∧ j' ≤ j ∧ (i ≤ j' + 1 ∨ j' = j) := by
  have := rounds_mu (G := fun x => G_318_5 x.1.2.1 x.1.2.2.2.1 x.1.2.2.2.2.1 x.2.1)
    (fun x => ∃ j' : Int, x = (((), r1, (), i, j', ()), l, ()) ∧ j' ≤ j ∧ (i ≤ j' + 1 ∨ j' = j)) (fun x => (x.1.2.2.2.2.1 + 1 - i : Int).toNat)
    (fun y => ∃ j' : Int, y = .inl (((), r1, (), i, j', ()), l, ()) ∧ j' ≤ j ∧ (i ≤ j' + 1 ∨ j' = j)) ?_ fuel (((), r1, (), i, j, ()), l, ()) ⟨j, rfl, Int.le_refl _, .inr rfl⟩ (by
      show (j + 1 - i : Int).toNat < fuel
      unfold fuel; omega)
  · obtain ⟨y, h, j', rfl, h4⟩ := this
    exact ⟨j', h, h4⟩
  · rintro x ⟨j', rfl, h4, h5⟩
    show (∃ x', G_318_5 r1 i j' l = _ ∧ _) ∨ ∃ y, G_318_5 r1 i j' l = _ ∧ _
    unfold G_318_5
    by_cases h : i ≤ j'
    · obtain ⟨v, hv⟩ := t_236 (l.getD (Int.toNat j') tPair.dflt) (l.getD (Int.toNat r1) tPair.dflt)
      have w : IntKind.i64.wrap (j' - 1) = j' - 1 := wrap64 (by omega) (by omega)
      have stop : ∃ y, (some (Sum.inr (Sum.inl (((), r1, (), i, j', ()), l, ()))) : Option (LD_318_5.El ⊕ (LA_318_5.El ⊕ LB_318_5.El))) = some (.inr y) ∧ ∃ j' : Int, y = .inl (((), r1, (), i, j', ()), l, ()) ∧ j' ≤ j ∧ (i ≤ j' + 1 ∨ j' = j) := ⟨_, rfl, j', rfl, h4, h5⟩
      have go : ∃ x', (some (Sum.inl (((), r1, (), i, IntKind.i64.wrap (j' - 1), ()), l, ())) : Option (LD_318_5.El ⊕ (LA_318_5.El ⊕ LB_318_5.El))) = some (.inl x') ∧ (∃ j' : Int, x' = (((), r1, (), i, j', ()), l, ()) ∧ j' ≤ j ∧ (i ≤ j' + 1 ∨ j' = j)) ∧ (x'.1.2.2.2.2.1 + 1 - i : Int).toNat < (j' + 1 - i : Int).toNat := by
        refine ⟨_, rfl, ⟨j' - 1, by rw [w], by omega, .inl (by omega)⟩, ?_⟩
        show (IntKind.i64.wrap (j' - 1) + 1 - i : Int).toNat < _
        rw [w]; omega
      simp only [decide_eq_true h, cond_true, hl.at (x := j') (by omega) (by omega), hl.at h1.1 h1.2, hv, Option.bind_some]
      cases decide (v.1 < 0) with
      | true => first | exact .inl go | exact .inr stop
      | false => first | exact .inl go | exact .inr stop
    · simp only [decide_eq_false h, cond_false]
      exact .inr ⟨_, rfl, j', rfl, h4, h5⟩
theorem q_318_15 {P : Pair → Prop} {n : Nat} (hn : n ≤ 1000000000) (r1 i j : Int) (l : List Pair) (hl : Row P n l) (h1 : 0 ≤ r1 ∧ r1 < n) (h2 : 0 ≤ i) (h3 : j < n) : ∃ j' : Int, R_318_15 (((), r1, (), i, j, ()), l, ()) = some (.inl (((), r1, (), i, j', ()), l, ())) ∧ j' ≤ j ∧ (i ≤ j' + 1 ∨ j' = j) := by
  have := rounds_mu (G := fun x => G_318_15 x.1.2.1 x.1.2.2.2.1 x.1.2.2.2.2.1 x.2.1)
    (fun x => ∃ j' : Int, x = (((), r1, (), i, j', ()), l, ()) ∧ j' ≤ j ∧ (i ≤ j' + 1 ∨ j' = j)) (fun x => (x.1.2.2.2.2.1 + 1 - i : Int).toNat)
    (fun y => ∃ j' : Int, y = .inl (((), r1, (), i, j', ()), l, ()) ∧ j' ≤ j ∧ (i ≤ j' + 1 ∨ j' = j)) ?_ fuel (((), r1, (), i, j, ()), l, ()) ⟨j, rfl, Int.le_refl _, .inr rfl⟩ (by
      show (j + 1 - i : Int).toNat < fuel
      unfold fuel; omega)
  · obtain ⟨y, h, j', rfl, h4⟩ := this
    exact ⟨j', h, h4⟩
  · rintro x ⟨j', rfl, h4, h5⟩
    show (∃ x', G_318_15 r1 i j' l = _ ∧ _) ∨ ∃ y, G_318_15 r1 i j' l = _ ∧ _
    unfold G_318_15
    by_cases h : i ≤ j'
    · obtain ⟨v, hv⟩ := t_236 (l.getD (Int.toNat j') tPair.dflt) (l.getD (Int.toNat r1) tPair.dflt)
      have w : IntKind.i64.wrap (j' - 1) = j' - 1 := wrap64 (by omega) (by omega)
      have stop : ∃ y, (some (Sum.inr (Sum.inl (((), r1, (), i, j', ()), l, ()))) : Option (LD_318_15.El ⊕ (LA_318_15.El ⊕ LB_318_15.El))) = some (.inr y) ∧ ∃ j' : Int, y = .inl (((), r1, (), i, j', ()), l, ()) ∧ j' ≤ j ∧ (i ≤ j' + 1 ∨ j' = j) := ⟨_, rfl, j', rfl, h4, h5⟩
      have go : ∃ x', (some (Sum.inl (((), r1, (), i, IntKind.i64.wrap (j' - 1), ()), l, ())) : Option (LD_318_15.El ⊕ (LA_318_15.El ⊕ LB_318_15.El))) = some (.inl x') ∧ (∃ j' : Int, x' = (((), r1, (), i, j', ()), l, ()) ∧ j' ≤ j ∧ (i ≤ j' + 1 ∨ j' = j)) ∧ (x'.1.2.2.2.2.1 + 1 - i : Int).toNat < (j' + 1 - i : Int).toNat := by
        refine ⟨_, rfl, ⟨j' - 1, by rw [w], by omega, .inl (by omega)⟩, ?_⟩
        show (IntKind.i64.wrap (j' - 1) + 1 - i : Int).toNat < _
        rw [w]; omega
      simp only [decide_eq_true h, cond_true, hl.at (x := j') (by omega) (by omega), hl.at h1.1 h1.2, hv, Option.bind_some]
      cases decide (v.1 < 0) with
      | true => first | exact .inl go | exact .inr stop
      | false => first | exact .inl go | exact .inr stop
    · simp only [decide_eq_false h, cond_false]
      exact .inr ⟨_, rfl, j', rfl, h4, h5⟩
theorem q_317_5 {P : Pair → Prop} {n : Nat} (hn : n ≤ 1000000000) (r1 i j : Int) (l : List Pair) (hl : Row P n l) (h1 : 0 ≤ r1 ∧ r1 < n) (h2 : 0 ≤ i) (h3 : j < n) : ∃ j' : Int, R_317_5 (((), r1, (), i, j, ()), l, ()) = some (.inl (((), r1, (), i, j', ()), l, ())) ∧ j' ≤ j ∧ (i ≤ j' + 1 ∨ j' = j) := by
  have := rounds_mu (G := fun x => G_317_5 x.1.2.1 x.1.2.2.2.1 x.1.2.2.2.2.1 x.2.1)
    (fun x => ∃ j' : Int, x = (((), r1, (), i, j', ()), l, ()) ∧ j' ≤ j ∧ (i ≤ j' + 1 ∨ j' = j)) (fun x => (x.1.2.2.2.2.1 + 1 - i : Int).toNat)
    (fun y => ∃ j' : Int, y = .inl (((), r1, (), i, j', ()), l, ()) ∧ j' ≤ j ∧ (i ≤ j' + 1 ∨ j' = j)) ?_ fuel (((), r1, (), i, j, ()), l, ()) ⟨j, rfl, Int.le_refl _, .inr rfl⟩ (by
      show (j + 1 - i : Int).toNat < fuel
      unfold fuel; omega)
  · obtain ⟨y, h, j', rfl, h4⟩ := this
    exact ⟨j', h, h4⟩
  · rintro x ⟨j', rfl, h4, h5⟩
    show (∃ x', G_317_5 r1 i j' l = _ ∧ _) ∨ ∃ y, G_317_5 r1 i j' l = _ ∧ _
    unfold G_317_5
    by_cases h : i ≤ j'
    · obtain ⟨v, hv⟩ := t_236 (l.getD (Int.toNat r1) tPair.dflt) (l.getD (Int.toNat j') tPair.dflt)
      have w : IntKind.i64.wrap (j' - 1) = j' - 1 := wrap64 (by omega) (by omega)
      have stop : ∃ y, (some (Sum.inr (Sum.inl (((), r1, (), i, j', ()), l, ()))) : Option (LD_317_5.El ⊕ (LA_317_5.El ⊕ LB_317_5.El))) = some (.inr y) ∧ ∃ j' : Int, y = .inl (((), r1, (), i, j', ()), l, ()) ∧ j' ≤ j ∧ (i ≤ j' + 1 ∨ j' = j) := ⟨_, rfl, j', rfl, h4, h5⟩
      have go : ∃ x', (some (Sum.inl (((), r1, (), i, IntKind.i64.wrap (j' - 1), ()), l, ())) : Option (LD_317_5.El ⊕ (LA_317_5.El ⊕ LB_317_5.El))) = some (.inl x') ∧ (∃ j' : Int, x' = (((), r1, (), i, j', ()), l, ()) ∧ j' ≤ j ∧ (i ≤ j' + 1 ∨ j' = j)) ∧ (x'.1.2.2.2.2.1 + 1 - i : Int).toNat < (j' + 1 - i : Int).toNat := by
        refine ⟨_, rfl, ⟨j' - 1, by rw [w], by omega, .inl (by omega)⟩, ?_⟩
        show (IntKind.i64.wrap (j' - 1) + 1 - i : Int).toNat < _
        rw [w]; omega
      simp only [decide_eq_true h, cond_true, hl.at (x := j') (by omega) (by omega), hl.at h1.1 h1.2, hv, Option.bind_some]
      cases decide (v.1 < 0) with
      | true => first | exact .inl go | exact .inr stop
      | false => first | exact .inl go | exact .inr stop
    · simp only [decide_eq_false h, cond_false]
      exact .inr ⟨_, rfl, j', rfl, h4, h5⟩
end Go.DI.S

/-! Plain: parts, heaps, turned rows: they run through. -/
set_option linter.unusedVariables false
set_option linter.unusedSimpArgs false
set_option maxRecDepth 100000
namespace Go.DI.S
open Go.Proofs
section
variable {P : Pair → Prop} {n : Nat}
theorem q_318_1013 (hn : n ≤ 1000000000) (r1 b : Int) (h1 : 0 ≤ r1) (hb : b ≤ n) (i j : Int) (l : List Pair) (hl : Row P n l) (hi : r1 + 1 ≤ i) (hib : i ≤ b) (hj : r1 ≤ j) (hjb : j < b) :
    ∃ (j' : Int) (l' : List Pair), R_318_1013 (((), r1, (), i, j, ()), l, ()) = some (.inl (((), r1, j', ()), l', ())) ∧ Row P n l' ∧ r1 ≤ j' ∧ j' < b := by
  have := rounds_mu (G := fun x => G_318_1013 x.1.2.1 x.1.2.2.2.1 x.1.2.2.2.2.1 x.2.1)
    (fun x => ∃ (i j : Int) (m : List Pair), x = (((), r1, (), i, j, ()), m, ()) ∧ Row P n m ∧ r1 + 1 ≤ i ∧ i ≤ b ∧ r1 ≤ j ∧ j < b) (fun x => (x.1.2.2.2.2.1 + 1 - x.1.2.2.2.1 : Int).toNat)
    (fun y => ∃ (j' : Int) (m : List Pair), y = .inl (((), r1, j', ()), m, ()) ∧ Row P n m ∧ r1 ≤ j' ∧ j' < b) ?_ fuel (((), r1, (), i, j, ()), l, ()) ⟨i, j, l, rfl, hl, hi, hib, hj, hjb⟩ (by
      show (j + 1 - i : Int).toNat < fuel
      unfold fuel; omega)
  · obtain ⟨y, h, j', m, rfl, h4⟩ := this
    exact ⟨j', m, h, h4⟩
  · rintro x ⟨i, j, m, rfl, hm, hi, hib, hj, hjb⟩
    show (∃ x', G_318_1013 r1 i j m = _ ∧ _) ∨ ∃ y, G_318_1013 r1 i j m = _ ∧ _
    unfold G_318_1013
    obtain ⟨i', e1, k1, k2⟩ := q_318_13 hn r1 i j m hm ⟨h1, by omega⟩ (by omega) (by omega)
    rw [e1]
    simp only [Option.bind_some, Sum.elim_inl]
    obtain ⟨j', e2, k3, k4⟩ := q_318_15 hn r1 i' j m hm ⟨h1, by omega⟩ (by omega) (by omega)
    rw [e2]
    simp only [Option.bind_some, Sum.elim_inl]
    by_cases hc : i' > j'
    · simp only [decide_eq_true hc, cond_true]
      exact .inr ⟨_, rfl, j', m, rfl, hm, by omega, by omega⟩
    · have w1 : IntKind.i64.wrap (i' + 1) = i' + 1 := wrap64 (by omega) (by omega)
      have w2 : IntKind.i64.wrap (j' - 1) = j' - 1 := wrap64 (by omega) (by omega)
      simp only [decide_eq_false hc, cond_false, hm.at (x := j') (by omega) (by omega), hm.at (x := i') (by omega) (by omega), List.length_set, cond_true]
      refine .inl ⟨_, rfl, ⟨i' + 1, j' - 1, _, by rw [w1, w2], hm.swapI ⟨by omega, by omega⟩ ⟨by omega, by omega⟩, by omega, by omega, by omega, by omega⟩, ?_⟩
      show (IntKind.i64.wrap (j' - 1) + 1 - IntKind.i64.wrap (i' + 1) : Int).toNat < (j + 1 - i : Int).toNat
      rw [w1, w2]; omega
theorem q_317_1003 (hn : n ≤ 1000000000) (r1 b : Int) (h1 : 0 ≤ r1) (hb : b ≤ n) (i j : Int) (l : List Pair) (hl : Row P n l) (hi : r1 + 1 ≤ i) (hib : i ≤ b) (hj : r1 ≤ j) (hjb : j < b) :
    ∃ (i' : Int) (l' : List Pair), R_317_1003 (((), r1, (), i, j, ()), l, ()) = some (.inl ((i', ()), l', ())) ∧ Row P n l' ∧ r1 < i' ∧ i' ≤ b := by
  have := rounds_mu (G := fun x => G_317_1003 x.1.2.1 x.1.2.2.2.1 x.1.2.2.2.2.1 x.2.1)
    (fun x => ∃ (i j : Int) (m : List Pair), x = (((), r1, (), i, j, ()), m, ()) ∧ Row P n m ∧ r1 + 1 ≤ i ∧ i ≤ b ∧ r1 ≤ j ∧ j < b) (fun x => (x.1.2.2.2.2.1 + 1 - x.1.2.2.2.1 : Int).toNat)
    (fun y => ∃ (i' : Int) (m : List Pair), y = .inl ((i', ()), m, ()) ∧ Row P n m ∧ r1 < i' ∧ i' ≤ b) ?_ fuel (((), r1, (), i, j, ()), l, ()) ⟨i, j, l, rfl, hl, hi, hib, hj, hjb⟩ (by
      show (j + 1 - i : Int).toNat < fuel
      unfold fuel; omega)
  · obtain ⟨y, h, j', m, rfl, h4⟩ := this
    exact ⟨j', m, h, h4⟩
  · rintro x ⟨i, j, m, rfl, hm, hi, hib, hj, hjb⟩
    show (∃ x', G_317_1003 r1 i j m = _ ∧ _) ∨ ∃ y, G_317_1003 r1 i j m = _ ∧ _
    unfold G_317_1003
    obtain ⟨i', e1, k1, k2⟩ := q_317_3 hn r1 i j m hm ⟨h1, by omega⟩ (by omega) (by omega)
    rw [e1]
    simp only [Option.bind_some, Sum.elim_inl]
    obtain ⟨j', e2, k3, k4⟩ := q_317_5 hn r1 i' j m hm ⟨h1, by omega⟩ (by omega) (by omega)
    rw [e2]
    simp only [Option.bind_some, Sum.elim_inl]
    by_cases hc : i' > j'
    · simp only [decide_eq_true hc, cond_true]
      exact .inr ⟨_, rfl, i', m, rfl, hm, by omega, by omega⟩
    · have w1 : IntKind.i64.wrap (i' + 1) = i' + 1 := wrap64 (by omega) (by omega)
      have w2 : IntKind.i64.wrap (j' - 1) = j' - 1 := wrap64 (by omega) (by omega)
      simp only [decide_eq_false hc, cond_false, hm.at (x := j') (by omega) (by omega), hm.at (x := i') (by omega) (by omega), List.length_set, cond_true]
      refine .inl ⟨_, rfl, ⟨i' + 1, j' - 1, _, by rw [w1, w2], hm.swapI ⟨by omega, by omega⟩ ⟨by omega, by omega⟩, by omega, by omega, by omega, by omega⟩, ?_⟩
      show (IntKind.i64.wrap (j' - 1) + 1 - IntKind.i64.wrap (i' + 1) : Int).toNat < (j + 1 - i : Int).toNat
      rw [w1, w2]; omega
theorem t_317 (hn : n ≤ 1000000000) (a b p : Int) (ha : 0 ≤ a) (hp : a ≤ p) (hpb : p < b) (hb : b ≤ n) (l : List Pair) (hl : Row P n l) :
    ∃ (m : Int) (l' : List Pair), F_317 a b p l = some ((m, ()), l', ()) ∧ Row P n l' ∧ a < m ∧ m ≤ b := by
  unfold F_317
  have w1 : IntKind.i64.wrap (a + 1) = a + 1 := wrap64 (by omega) (by omega)
  have w2 : IntKind.i64.wrap (b - 1) = b - 1 := wrap64 (by omega) (by omega)
  have hs : Row P n ((l.set (Int.toNat a) (l.getD (Int.toNat p) tPair.dflt)).set (Int.toNat p) (l.getD (Int.toNat a) tPair.dflt)) := hl.swapI ⟨by omega, by omega⟩ ⟨by omega, by omega⟩
  obtain ⟨m, l', e, k1, k2, k3⟩ := q_317_1003 hn a b ha hb (a + 1) (b - 1) _ hs (by omega) (by omega) (by omega) (by omega)
  refine ⟨m, l', ?_, k1, k2, k3⟩
  simp only [hl.at (x := p) (by omega) (by omega), hl.at (x := a) (by omega) (by omega), cond_true, List.length_set, w1, w2]
  rw [e]; rfl
theorem t_318 (hn : n ≤ 1000000000) (a b p : Int) (ha : 0 ≤ a) (hp : a ≤ p) (hpb : p < b) (hb : b ≤ n) (l : List Pair) (hl : Row P n l) :
    ∃ (m : Int) (f : Bool) (l' : List Pair), F_318 a b p l = some ((m, f, ()), l', ()) ∧ Row P n l' ∧ a ≤ m ∧ m < b := by
  unfold F_318
  have w1 : IntKind.i64.wrap (a + 1) = a + 1 := wrap64 (by omega) (by omega)
  have w2 : IntKind.i64.wrap (b - 1) = b - 1 := wrap64 (by omega) (by omega)
  have hs : Row P n ((l.set (Int.toNat a) (l.getD (Int.toNat p) tPair.dflt)).set (Int.toNat p) (l.getD (Int.toNat a) tPair.dflt)) := hl.swapI ⟨by omega, by omega⟩ ⟨by omega, by omega⟩
  simp only [hl.at (x := p) (by omega) (by omega), hl.at (x := a) (by omega) (by omega), cond_true, List.length_set, w1, w2]
  obtain ⟨l2, hl2⟩ : ∃ l2, l2 = (l.set (Int.toNat a) (l.getD (Int.toNat p) tPair.dflt)).set (Int.toNat p) (l.getD (Int.toNat a) tPair.dflt) := ⟨_, rfl⟩
  rw [← hl2] at hs ⊢
  obtain ⟨i', e1, k1, k2⟩ := q_318_3 hn a (a + 1) (b - 1) l2 hs ⟨ha, by omega⟩ (by omega) (by omega)
  rw [e1]
  simp only [Option.bind_some, Sum.elim_inl]
  obtain ⟨j', e2, k3, k4⟩ := q_318_5 hn a i' (b - 1) l2 hs ⟨ha, by omega⟩ (by omega) (by omega)
  rw [e2]
  simp only [Option.bind_some, Sum.elim_inl]
  by_cases hc : i' > j'
  · simp only [decide_eq_true hc, cond_true, hs.at (x := a) (by omega) (by omega), hs.at (x := j') (by omega) (by omega), List.length_set]
    exact ⟨j', true, _, rfl, hs.swapI ⟨by omega, by omega⟩ ⟨by omega, by omega⟩, by omega, by omega⟩
  · have w3 : IntKind.i64.wrap (i' + 1) = i' + 1 := wrap64 (by omega) (by omega)
    have w4 : IntKind.i64.wrap (j' - 1) = j' - 1 := wrap64 (by omega) (by omega)
    simp only [decide_eq_false hc, cond_false, cond_true, hs.at (x := i') (by omega) (by omega), hs.at (x := j') (by omega) (by omega), List.length_set, w3, w4]
    have hs3 := hs.swapI (d := tPair.dflt) (x := i') (y := j') ⟨by omega, by omega⟩ ⟨by omega, by omega⟩
    obtain ⟨l3, hl3⟩ : ∃ l3, l3 = (l2.set (Int.toNat i') (l2.getD (Int.toNat j') tPair.dflt)).set (Int.toNat j') (l2.getD (Int.toNat i') tPair.dflt) := ⟨_, rfl⟩
    rw [← hl3] at hs3 ⊢
    obtain ⟨m, l', e, k5, k6, k7⟩ := q_318_1013 hn a b ha hb (i' + 1) (j' - 1) l3 hs3 (by omega) (by omega) (by omega) (by omega)
    rw [e]
    simp only [Option.bind_some, Sum.elim_inl, cond_true, k5.at (x := a) (by omega) (by omega), k5.at (x := m) (by omega) (by omega), List.length_set]
    exact ⟨m, false, _, rfl, k5.swapI ⟨by omega, by omega⟩ ⟨by omega, by omega⟩, k6, k7⟩
theorem t_315 (hn : n ≤ 1000000000) (a b : Int) (ha : 0 ≤ a) (hab : a ≤ n) (hb : b ≤ n) (hb0 : 0 ≤ b) (l : List Pair) (hl : Row P n l) : ∃ l', F_315 a b l = some ((), l', ()) ∧ Row P n l' := by
  have w0 : IntKind.i64.wrap (b - 1) = b - 1 := wrap64 (by omega) (by omega)
  have := rounds_mu (G := fun x => G_315_2 x.1.2.1 x.1.2.2.1 x.2.1)
    (fun x => ∃ (i j : Int) (m : List Pair), x = (((), i, j, ()), m, ()) ∧ Row P n m ∧ 0 ≤ i ∧ j < n) (fun x => (x.1.2.2.1 - x.1.2.1 : Int).toNat)
    (fun y => ∃ m, y = .inl ((), m, ()) ∧ Row P n m) ?_ fuel (((), a, b - 1, ()), l, ()) ⟨a, b - 1, l, rfl, hl, ha, by omega⟩ (by
      show (b - 1 - a : Int).toNat < fuel
      unfold fuel; omega)
  · obtain ⟨y, h, m, rfl, h1⟩ := this
    refine ⟨m, ?_, h1⟩
    unfold F_315 R_315_2
    rw [w0, h]; rfl
  · rintro x ⟨i, j, m, rfl, hm, hi, hj⟩
    show (∃ x', G_315_2 i j m = _ ∧ _) ∨ ∃ y, G_315_2 i j m = _ ∧ _
    unfold G_315_2
    by_cases h : i < j
    · have w1 : IntKind.i64.wrap (i + 1) = i + 1 := wrap64 (by omega) (by omega)
      have w2 : IntKind.i64.wrap (j - 1) = j - 1 := wrap64 (by omega) (by omega)
      simp only [decide_eq_true h, cond_true, hm.at (x := j) (by omega) (by omega), hm.at (x := i) (by omega) (by omega), List.length_set]
      refine .inl ⟨_, rfl, ⟨i + 1, j - 1, _, by rw [w1, w2], hm.swapI ⟨by omega, by omega⟩ ⟨by omega, by omega⟩, by omega, by omega⟩, ?_⟩
      show (IntKind.i64.wrap (j - 1) - IntKind.i64.wrap (i + 1) : Int).toNat < (j - i : Int).toNat
      rw [w1, w2]; omega
    · simp only [decide_eq_false h, cond_false]
      exact .inr ⟨_, rfl, m, rfl, hm⟩
end
end Go.DI.S

/-! Plain: heaps, chosen places: they run through. -/
set_option linter.unusedVariables false
set_option linter.unusedSimpArgs false
set_option maxRecDepth 100000
namespace Go.DI.S
open Go.Proofs
section
variable {P : Pair → Prop} {n : Nat}
theorem t_327 (hn : n ≤ 1000000000) (r1 r2 r3 : Int) (h1 : 0 ≤ r1) (h1n : r1 ≤ n) (h3 : 0 ≤ r3) (h23 : r3 + r2 ≤ n) (l : List Pair) (hl : Row P n l) : ∃ l', F_327 r1 r2 r3 l = some ((), l', ()) ∧ Row P n l' := by
  have := rounds_mu (G := fun x => G_327_1 x.1.2.1 x.1.2.2.1 x.1.2.2.2.2.1 x.2.1)
    (fun x => ∃ (r10 : Int) (m : List Pair), x = (((), r2, r3, (), r10, ()), m, ()) ∧ Row P n m ∧ 0 ≤ r10 ∧ r10 ≤ n) (fun x => (r2 - x.1.2.2.2.2.1 : Int).toNat)
    (fun y => ∃ m, Row P n m ∧ (y = .inl ((), m, ()) ∨ y = .inr ((), m, ()))) ?_ fuel (((), r2, r3, (), r1, ()), l, ()) ⟨r1, l, rfl, hl, h1, h1n⟩ (by
      show (r2 - r1 : Int).toNat < fuel
      unfold fuel; omega)
  · obtain ⟨y, h, m, h1, hy⟩ := this
    refine ⟨m, ?_, h1⟩
    unfold F_327 R_327_1
    rw [h]
    rcases hy with rfl | rfl <;> rfl
  · rintro x ⟨r10, m, rfl, hm, hr, hrn⟩
    show (∃ x', G_327_1 r2 r3 r10 m = _ ∧ _) ∨ ∃ y, G_327_1 r2 r3 r10 m = _ ∧ _
    have e1 : IntKind.i64.wrap (IntKind.i64.wrap (2 * r10) + 1) = 2 * r10 + 1 := by rw [wrap64 (x := 2 * r10) (by omega) (by omega), wrap64 (by omega) (by omega)]
    have e2 : IntKind.i64.wrap (2 * r10 + 1 + 1) = 2 * r10 + 2 := by rw [wrap64 (by omega) (by omega)]; omega
    unfold G_327_1
    by_cases c1 : 2 * r10 + 1 ≥ r2
    · simp only [e1, decide_eq_true c1, cond_true]
      exact .inr ⟨_, rfl, m, hm, .inl rfl⟩
    · have e3 : IntKind.i64.wrap (r3 + (2 * r10 + 1)) = r3 + (2 * r10 + 1) := wrap64 (by omega) (by omega)
      have e4 : IntKind.i64.wrap (r3 + (2 * r10 + 1) + 1) = r3 + (2 * r10 + 2) := by rw [wrap64 (by omega) (by omega)]; omega
      have e5 : IntKind.i64.wrap (r3 + (2 * r10 + 2)) = r3 + (2 * r10 + 2) := wrap64 (by omega) (by omega)
      have e6 : IntKind.i64.wrap (r3 + r10) = r3 + r10 := wrap64 (by omega) (by omega)
      simp only [e1, e2, e3, e4, e5, e6, decide_eq_false c1, cond_false, hm.at (x := r3 + r10) (by omega) (by omega), cond_true]
      by_cases c2 : 2 * r10 + 2 < r2
      · obtain ⟨v, hv⟩ := t_236 (m.getD (Int.toNat (r3 + (2 * r10 + 1))) tPair.dflt) (m.getD (Int.toNat (r3 + (2 * r10 + 2))) tPair.dflt)
        simp only [decide_eq_true c2, cond_true, hm.at (x := r3 + (2 * r10 + 1)) (by omega) (by omega), hm.at (x := r3 + (2 * r10 + 2)) (by omega) (by omega), hv, Option.bind_some]
        cases decide (v.1 < 0) with
        | true =>
          simp only [cond_true]
          obtain ⟨v1, hv1⟩ := t_236 (m.getD (Int.toNat (r3 + r10)) tPair.dflt) (m.getD (Int.toNat (r3 + (2 * r10 + 2))) tPair.dflt)
          simp only [hm.at (x := r3 + (2 * r10 + 2)) (by omega) (by omega), hv1, Option.bind_some, List.length_set, cond_true]
          cases decide (v1.1 < 0) with
          | false => exact .inr ⟨_, rfl, m, hm, .inr rfl⟩
          | true =>
            refine .inl ⟨_, rfl, ⟨(2 * r10 + 2), _, rfl, hm.swapI ⟨by omega, by omega⟩ ⟨by omega, by omega⟩, by omega, by omega⟩, ?_⟩
            show (r2 - ((2 * r10 + 2)) : Int).toNat < (r2 - r10 : Int).toNat
            omega
        | false =>
          simp only [cond_false]
          obtain ⟨v2, hv2⟩ := t_236 (m.getD (Int.toNat (r3 + r10)) tPair.dflt) (m.getD (Int.toNat (r3 + (2 * r10 + 1))) tPair.dflt)
          simp only [hm.at (x := r3 + (2 * r10 + 1)) (by omega) (by omega), hv2, Option.bind_some, List.length_set, cond_true]
          cases decide (v2.1 < 0) with
          | false => exact .inr ⟨_, rfl, m, hm, .inr rfl⟩
          | true =>
            refine .inl ⟨_, rfl, ⟨(2 * r10 + 1), _, rfl, hm.swapI ⟨by omega, by omega⟩ ⟨by omega, by omega⟩, by omega, by omega⟩, ?_⟩
            show (r2 - ((2 * r10 + 1)) : Int).toNat < (r2 - r10 : Int).toNat
            omega
      · simp only [decide_eq_false c2, cond_false]
        obtain ⟨v3, hv3⟩ := t_236 (m.getD (Int.toNat (r3 + r10)) tPair.dflt) (m.getD (Int.toNat (r3 + (2 * r10 + 1))) tPair.dflt)
        simp only [hm.at (x := r3 + (2 * r10 + 1)) (by omega) (by omega), hv3, Option.bind_some, List.length_set, cond_true]
        cases decide (v3.1 < 0) with
        | false => exact .inr ⟨_, rfl, m, hm, .inr rfl⟩
        | true =>
          refine .inl ⟨_, rfl, ⟨(2 * r10 + 1), _, rfl, hm.swapI ⟨by omega, by omega⟩ ⟨by omega, by omega⟩, by omega, by omega⟩, ?_⟩
          show (r2 - ((2 * r10 + 1)) : Int).toNat < (r2 - r10 : Int).toNat
          omega
theorem t_312 (hn : n ≤ 1000000000) (a b : Int) (ha : 0 ≤ a) (hab : a ≤ b) (hb : b ≤ n) (l : List Pair) (hl : Row P n l) : ∃ l', F_312 a b l = some ((), l', ()) ∧ Row P n l' := by
  have w1 : IntKind.i64.wrap (b - a) = b - a := wrap64 (by omega) (by omega)
  have w2 : IntKind.i64.wrap (b - a - 1) = b - a - 1 := wrap64 (by omega) (by omega)
  have w3 : IntKind.i64.wrap ((b - a - 1).tdiv 2) = (b - a - 1).tdiv 2 ∧ (b - a - 1).tdiv 2 ≤ n ∧ -1 ≤ (b - a - 1).tdiv 2 := by
    have h5 : (b - a - 1).tdiv 2 ≤ n ∧ -1 ≤ (b - a - 1).tdiv 2 := by
      by_cases h : 0 ≤ b - a - 1
      · rw [Int.tdiv_eq_ediv_of_nonneg h]; omega
      · have : b - a - 1 = -1 := by omega
        rw [this]
        exact ⟨by show (0 : Int) ≤ n; omega, by decide⟩
    exact ⟨wrap64 (by omega) (by omega), h5⟩
  have h1 := rounds_mu (G := fun x => G_312_4 x.1.2.2.1 x.1.2.2.2.1 x.1.2.2.2.2.1 x.1.2.2.2.2.2.1 x.2.1)
    (fun x => ∃ (i : Int) (m : List Pair), x = (((), (), a, (0 : Int), b - a, i, ()), m, ()) ∧ Row P n m ∧ i ≤ n) (fun x => (x.1.2.2.2.2.2.1 + 1 : Int).toNat)
    (fun y => ∃ m, y = .inl (((), (), a, (0 : Int), b - a, ()), m, ()) ∧ Row P n m) ?_ fuel (((), (), a, (0 : Int), b - a, (b - a - 1).tdiv 2, ()), l, ()) ⟨_, l, rfl, hl, w3.2.1⟩ (by
      show ((b - a - 1).tdiv 2 + 1 : Int).toNat < fuel
      unfold fuel; omega)
  · obtain ⟨y, e1, m, rfl, hm⟩ := h1
    have h2 := rounds_mu (G := fun x => G_312_8 x.1.2.2.1 x.1.2.2.2.1 x.1.2.2.2.2.1 x.2.1)
      (fun x => ∃ (i : Int) (m : List Pair), x = (((), (), a, (0 : Int), i, ()), m, ()) ∧ Row P n m ∧ i ≤ b - a - 1) (fun x => (x.1.2.2.2.2.1 + 1 : Int).toNat)
      (fun y => ∃ m, y = .inl ((), m, ()) ∧ Row P n m) ?_ fuel (((), (), a, (0 : Int), b - a - 1, ()), m, ()) ⟨_, m, rfl, hm, Int.le_refl _⟩ (by
        show (b - a - 1 + 1 : Int).toNat < fuel
        unfold fuel; omega)
    · obtain ⟨y, e2, m', rfl, hm'⟩ := h2
      refine ⟨m', ?_, hm'⟩
      unfold F_312 R_312_4 R_312_8
      simp only [w1, w2, w3.1]
      rw [e1]
      simp only [Option.bind_some, Sum.elim_inl, w2]
      rw [e2]; rfl
    · rintro x ⟨i, m, rfl, hm, hi⟩
      show (∃ x', G_312_8 a 0 i m = _ ∧ _) ∨ ∃ y, G_312_8 a 0 i m = _ ∧ _
      unfold G_312_8
      by_cases h : i ≥ 0
      · have w : IntKind.i64.wrap (i - 1) = i - 1 := wrap64 (by omega) (by omega)
        have w5 : IntKind.i64.wrap (a + i) = a + i := wrap64 (by omega) (by omega)
        simp only [decide_eq_true h, cond_true, w5, hm.at (x := a + i) (by omega) (by omega), hm.at (x := a) (by omega) (by omega), List.length_set]
        obtain ⟨m', e, hm'⟩ := t_327 hn 0 i a (Int.le_refl _) (by omega) ha (by omega) _ (hm.swapI (d := tPair.dflt) (x := a) (y := a + i) ⟨by omega, by omega⟩ ⟨by omega, by omega⟩)
        rw [e]
        refine .inl ⟨_, rfl, ⟨i - 1, m', by rw [w], hm', by omega⟩, ?_⟩
        show (IntKind.i64.wrap (i - 1) + 1 : Int).toNat < (i + 1 : Int).toNat
        rw [w]; omega
      · simp only [decide_eq_false h, cond_false]
        exact .inr ⟨_, rfl, m, rfl, hm⟩
  · rintro x ⟨i, m, rfl, hm, hi⟩
    show (∃ x', G_312_4 a 0 (b - a) i m = _ ∧ _) ∨ ∃ y, G_312_4 a 0 (b - a) i m = _ ∧ _
    unfold G_312_4
    by_cases h : i ≥ 0
    · have w : IntKind.i64.wrap (i - 1) = i - 1 := wrap64 (by omega) (by omega)
      simp only [decide_eq_true h, cond_true]
      obtain ⟨m', e, hm'⟩ := t_327 hn i (b - a) a h hi ha (by omega) m hm
      rw [e]
      refine .inl ⟨_, rfl, ⟨i - 1, m', by rw [w], hm', by omega⟩, ?_⟩
      show (IntKind.i64.wrap (i - 1) + 1 : Int).toNat < (i + 1 : Int).toNat
      rw [w]; omega
    · simp only [decide_eq_false h, cond_false]
      exact .inr ⟨_, rfl, m, rfl, hm⟩
theorem t_332 (a b : Int) (k : Int) (ha : 0 ≤ a ∧ a < n) (hb : 0 ≤ b ∧ b < n) (l : List Pair) (hl : Row P n l) : ∃ x y k' : Int, F_332 a b l (k, ()) = some ((x, y, ()), l, (k', ()), ()) ∧ ((x = a ∧ y = b) ∨ (x = b ∧ y = a)) := by
  unfold F_332
  obtain ⟨v, hv⟩ := t_236 (l.getD (Int.toNat b) tPair.dflt) (l.getD (Int.toNat a) tPair.dflt)
  simp only [hl.at hb.1 hb.2, hl.at ha.1 ha.2, cond_true, hv, Option.bind_some]
  cases decide (v.1 < 0) with
  | true => exact ⟨_, _, _, rfl, .inr ⟨rfl, rfl⟩⟩
  | false => exact ⟨_, _, _, rfl, .inl ⟨rfl, rfl⟩⟩
theorem t_329 (a b c : Int) (k : Int) (ha : 0 ≤ a ∧ a < n) (hb : 0 ≤ b ∧ b < n) (hc : 0 ≤ c ∧ c < n) (l : List Pair) (hl : Row P n l) : ∃ x k' : Int, F_329 a b c l (k, ()) = some ((x, ()), l, (k', ()), ()) ∧ (x = a ∨ x = b ∨ x = c) := by
  unfold F_329
  obtain ⟨x1, y1, k1, e1, h1⟩ := t_332 a b k ha hb l hl
  rw [e1]
  simp only [Option.bind_some]
  obtain ⟨x2, y2, k2, e2, h2⟩ := t_332 y1 c k1 (by rcases h1 with ⟨rfl, rfl⟩ | ⟨rfl, rfl⟩ <;> assumption) hc l hl
  rw [e2]
  simp only [Option.bind_some]
  obtain ⟨x3, y3, k3, e3, h3⟩ := t_332 x1 x2 k2 (by rcases h1 with ⟨rfl, rfl⟩ | ⟨rfl, rfl⟩ <;> assumption) (by
    rcases h1 with ⟨rfl, rfl⟩ | ⟨rfl, rfl⟩ <;> rcases h2 with ⟨rfl, rfl⟩ | ⟨rfl, rfl⟩ <;> assumption) l hl
  rw [e3]
  refine ⟨_, _, rfl, ?_⟩
  rcases h1 with ⟨rfl, rfl⟩ | ⟨rfl, rfl⟩ <;> rcases h2 with ⟨rfl, rfl⟩ | ⟨rfl, rfl⟩ <;> rcases h3 with ⟨rfl, rfl⟩ | ⟨rfl, rfl⟩ <;> simp
theorem t_328 (a : Int) (k : Int) (h0 : 1 ≤ a) (ha : a + 1 < n) (hn : n ≤ 1000000000) (l : List Pair) (hl : Row P n l) : ∃ x k' : Int, F_328 a l (k, ()) = some ((x, ()), l, (k', ()), ()) ∧ a - 1 ≤ x ∧ x ≤ a + 1 := by
  unfold F_328
  have w1 : IntKind.i64.wrap (a - 1) = a - 1 := wrap64 (by omega) (by omega)
  have w2 : IntKind.i64.wrap (a + 1) = a + 1 := wrap64 (by omega) (by omega)
  obtain ⟨x, k', e, h⟩ := t_329 (a - 1) a (a + 1) k ⟨by omega, by omega⟩ ⟨by omega, by omega⟩ ⟨by omega, by omega⟩ l hl
  rw [w1, w2, e]
  exact ⟨x, k', rfl, by omega, by omega⟩
theorem t_314 (hn : n ≤ 1000000000) (a b : Int) (ha : 0 ≤ a) (hab : a < b) (hb : b ≤ n) (l : List Pair) (hl : Row P n l) : ∃ (p h : Int), F_314 a b l = some ((p, h, ()), l, ()) ∧ a ≤ p ∧ p < b := by
  unfold F_314
  have w1 : IntKind.i64.wrap (b - a) = b - a := wrap64 (by omega) (by omega)
  have hq : (b - a).tdiv 4 = (b - a) / 4 := Int.tdiv_eq_ediv_of_nonneg (by omega)
  have w2 : IntKind.i64.wrap ((b - a) / 4) = (b - a) / 4 := wrap64 (by omega) (by omega)
  have w3 : ∀ c : Int, 0 ≤ c → c ≤ 3 → IntKind.i64.wrap (a + IntKind.i64.wrap ((b - a) / 4 * c)) = a + (b - a) / 4 * c := by
    intro c h1 h2
    rcases (show c = 0 ∨ c = 1 ∨ c = 2 ∨ c = 3 by omega) with rfl | rfl | rfl | rfl <;>
      · rw [wrap64 (x := (b - a) / 4 * _) (by omega) (by omega), wrap64 (by omega) (by omega)]
  simp only [w1, hq, w2, w3 1 (by omega) (by omega), w3 2 (by omega) (by omega), w3 3 (by omega) (by omega)]
  have fin : ∀ (p k : Int), a ≤ p → p < b → ∃ (p' h : Int), (bif k == (0 : Int) then Option.some ((p, (1 : Int), ()), l, ()) else bif k == (12 : Int) then Option.some ((p, (2 : Int), ()), l, ()) else Option.some ((p, (0 : Int), ()), l, ()) : Option OUT_314.El) = some ((p', h, ()), l, ()) ∧ a ≤ p' ∧ p' < b := by
    intro p k h1 h2
    cases (k == (0 : Int)) with
    | true => exact ⟨_, _, rfl, h1, h2⟩
    | false =>
      cases (k == (12 : Int)) with
      | true => exact ⟨_, _, rfl, h1, h2⟩
      | false => exact ⟨_, _, rfl, h1, h2⟩
  by_cases c1 : b - a ≥ 8
  · simp only [decide_eq_true c1, cond_true]
    by_cases c2 : b - a ≥ 50
    · simp only [decide_eq_true c2, cond_true]
      obtain ⟨x1, k1, e1, h1⟩ := t_328 (a + (b - a) / 4 * 1) 0 (by omega) (by omega) hn l hl
      rw [e1]
      simp only [Option.bind_some]
      obtain ⟨x2, k2, e2, h2⟩ := t_328 (a + (b - a) / 4 * 2) k1 (by omega) (by omega) hn l hl
      rw [e2]
      simp only [Option.bind_some]
      obtain ⟨x3, k3, e3, h3⟩ := t_328 (a + (b - a) / 4 * 3) k2 (by omega) (by omega) hn l hl
      rw [e3]
      simp only [Option.bind_some]
      obtain ⟨x4, k4, e4, h4⟩ := t_329 x1 x2 x3 k3 ⟨by omega, by omega⟩ ⟨by omega, by omega⟩ ⟨by omega, by omega⟩ l hl
      rw [e4]
      exact fin x4 k4 (by omega) (by omega)
    · simp only [decide_eq_false c2, cond_false]
      obtain ⟨x4, k4, e4, h4⟩ := t_329 (a + (b - a) / 4 * 1) (a + (b - a) / 4 * 2) (a + (b - a) / 4 * 3) 0 ⟨by omega, by omega⟩ ⟨by omega, by omega⟩ ⟨by omega, by omega⟩ l hl
      rw [e4]
      exact fin x4 k4 (by omega) (by omega)
  · simp only [decide_eq_false c1, cond_false]
    exact ⟨_, _, rfl, by omega, by omega⟩
end
end Go.DI.S

/-! Plain: the quick sort itself runs through, at fewer than fifty. -/
set_option linter.unusedVariables false
set_option linter.unusedSimpArgs false
set_option maxRecDepth 100000
namespace Go.DI.S
open Go.Proofs
theorem bAnd_le (x m : Int) (h0 : 0 ≤ m) (h1 : m < 18446744073709551616) : 0 ≤ bAnd .u64 x m ∧ bAnd .u64 x m ≤ m := by
  have e : bAnd .u64 x m = IntKind.u64.wrap (((BitVec.ofInt 64 x) &&& (BitVec.ofInt 64 m)).toNat : Int) := rfl
  have h2 : ((BitVec.ofInt 64 x) &&& (BitVec.ofInt 64 m)).toNat ≤ (BitVec.ofInt 64 m).toNat := by
    rw [BitVec.toNat_and]; exact Nat.and_le_right
  have h3 : (BitVec.ofInt 64 m).toNat = m.toNat := by
    rw [BitVec.toNat_ofInt]
    show (m % ((18446744073709551616 : Nat) : Int)).toNat = m.toNat
    omega
  rw [e, u64_small (by omega) (by omega)]
  omega
theorem t_297 (v : Int) : ∃ a b : Int, F_297 (v, ()) = some ((a, ()), (b, ()), ()) := ⟨_, _, rfl⟩
theorem t_296 (x : Int) (h0 : 0 < x) (h1 : x ≤ 1000000000) : ∃ M : Int, F_296 x = some ((M, ()) : Els [.int .u64]) ∧ x < M ∧ M ≤ 2 * x := by
  unfold F_296 F_172
  rw [u64_small (by omega) (by omega)]
  obtain ⟨t, ht, hF, b1, b2⟩ := t_255 x (by omega) (by omega)
  have b2 := b2 h0
  rw [hF]
  have ht0 : decide (((t : Nat) : Int) < 0) = false := decide_eq_false (by omega)
  have hm : Min.min (Int.toNat ((t : Nat) : Int)) 64 = t := by omega
  refine ⟨2 ^ t, ?_, b1, b2⟩
  simp only [Option.bind_some, ht0, cond_false, hm, Int.one_mul]
  rw [u64_small (by omega) (by omega)]
section
variable {P : Pair → Prop} {n : Nat}
theorem t_313 (hn : n ≤ 1000000000) (a b : Int) (ha : 0 ≤ a) (hab : a ≤ b) (hb : b ≤ n) (l : List Pair) (hl : Row P n l) : ∃ l', F_313 a b l = some ((), l', ()) ∧ Row P n l' := by
  unfold F_313
  have w1 : IntKind.i64.wrap (b - a) = b - a := wrap64 (by omega) (by omega)
  rw [w1]
  by_cases c1 : b - a ≥ 8
  · have hq : (b - a).tdiv 4 = (b - a) / 4 := Int.tdiv_eq_ediv_of_nonneg (by omega)
    have w2 : IntKind.i64.wrap ((b - a) / 4) = (b - a) / 4 := wrap64 (by omega) (by omega)
    have w3 : IntKind.i64.wrap ((b - a) / 4 * 2) = (b - a) / 4 * 2 := wrap64 (by omega) (by omega)
    have w4 : IntKind.i64.wrap (a + (b - a) / 4 * 2) = a + (b - a) / 4 * 2 := wrap64 (by omega) (by omega)
    have w5 : IntKind.i64.wrap (a + (b - a) / 4 * 2 - 1) = a + (b - a) / 4 * 2 - 1 := wrap64 (by omega) (by omega)
    have w6 : IntKind.i64.wrap (a + (b - a) / 4 * 2 + 1) = a + (b - a) / 4 * 2 + 1 := wrap64 (by omega) (by omega)
    obtain ⟨M, hM, m1, m2⟩ := t_296 (b - a) (by omega) (by omega)
    rw [decide_eq_true c1, cond_true, hM]
    simp only [Option.bind_some, hq, w2, w3, w4, w5]
    have := rounds_mu (G := fun x => G_313_5 x.1.2.1 x.1.2.2.1 x.1.2.2.2.2.1 x.1.2.2.2.2.2.1 x.2.1 x.2.2.1)
      (fun x => ∃ (i s : Int) (m : List Pair), x = (((), a, b - a, (), M, i, ()), m, (s, ()), ()) ∧ Row P n m ∧ a + (b - a) / 4 * 2 - 1 ≤ i ∧ i ≤ a + (b - a) / 4 * 2 + 2) (fun x => (a + (b - a) / 4 * 2 + 3 - x.1.2.2.2.2.2.1 : Int).toNat)
      (fun y => ∃ m, y = .inl ((), m, ()) ∧ Row P n m) ?_ fuel (((), a, b - a, (), M, a + (b - a) / 4 * 2 - 1, ()), l, (IntKind.u64.wrap (b - a), ()), ()) ⟨_, _, l, rfl, hl, Int.le_refl _, by omega⟩ (by
        show (a + (b - a) / 4 * 2 + 3 - (a + (b - a) / 4 * 2 - 1) : Int).toNat < fuel
        unfold fuel; omega)
    · obtain ⟨y, e, m, rfl, h1⟩ := this
      refine ⟨m, ?_, h1⟩
      unfold R_313_5
      rw [e]; rfl
    · rintro x ⟨i, s, m, rfl, hm, h1, h2⟩
      show (∃ x', G_313_5 a (b - a) M i m (s, ()) = _ ∧ _) ∨ ∃ y, G_313_5 a (b - a) M i m (s, ()) = _ ∧ _
      unfold G_313_5
      simp only [hq, w2, w3, w4, w6]
      by_cases c : i ≤ a + (b - a) / 4 * 2 + 1
      · have wi : IntKind.i64.wrap (i + 1) = i + 1 := wrap64 (by omega) (by omega)
        obtain ⟨u, s', e⟩ := t_297 s
        have wM : IntKind.u64.wrap (M - 1) = M - 1 := u64_small (by omega) (by omega)
        have hA := bAnd_le u (M - 1) (by omega) (by omega)
        obtain ⟨o, ho⟩ : ∃ o, o = bAnd .u64 u (M - 1) := ⟨_, rfl⟩
        rw [← ho] at hA
        have wo : IntKind.i64.wrap o = o := wrap64 (by omega) (by omega)
        rw [decide_eq_true c, cond_true, e]
        simp only [Option.bind_some, wM, ← ho, wo]
        by_cases c2 : o ≥ b - a
        · have w7 : IntKind.i64.wrap (o - (b - a)) = o - (b - a) := wrap64 (by omega) (by omega)
          have w8 : IntKind.i64.wrap (a + (o - (b - a))) = a + (o - (b - a)) := wrap64 (by omega) (by omega)
          simp only [decide_eq_true c2, cond_true, w7, w8, hm.at (x := a + (o - (b - a))) (by omega) (by omega), hm.at (x := i) (by omega) (by omega), List.length_set]
          refine .inl ⟨_, rfl, ⟨i + 1, s', _, by rw [wi], hm.swapI ⟨by omega, by omega⟩ ⟨by omega, by omega⟩, by omega, by omega⟩, ?_⟩
          show (a + (b - a) / 4 * 2 + 3 - IntKind.i64.wrap (i + 1) : Int).toNat < (a + (b - a) / 4 * 2 + 3 - i : Int).toNat
          rw [wi]; omega
        · have w8 : IntKind.i64.wrap (a + o) = a + o := wrap64 (by omega) (by omega)
          simp only [decide_eq_false c2, cond_false, cond_true, w8, hm.at (x := a + o) (by omega) (by omega), hm.at (x := i) (by omega) (by omega), List.length_set]
          refine .inl ⟨_, rfl, ⟨i + 1, s', _, by rw [wi], hm.swapI ⟨by omega, by omega⟩ ⟨by omega, by omega⟩, by omega, by omega⟩, ?_⟩
          show (a + (b - a) / 4 * 2 + 3 - IntKind.i64.wrap (i + 1) : Int).toNat < (a + (b - a) / 4 * 2 + 3 - i : Int).toNat
          rw [wi]; omega
      · rw [decide_eq_false c, cond_false]
        exact .inr ⟨_, rfl, m, rfl, hm⟩
  · rw [decide_eq_false c1, cond_false]
    exact ⟨l, rfl, hl⟩
theorem q_316_5 (hn : n ≤ 1000000000) (r1 r2 r9 r10 : Int) (h1 : 1 ≤ r9) (h2 : r2 ≤ n) (l : List Pair) (hl : Row P n l) : ∃ i : Int, R_316_5 (((), r1, r2, (), r9, r10, ()), l, ()) = some (.inl (((), r1, r2, (), i, r10, ()), l, ())) := by
  have := rounds_mu (G := fun x => G_316_5 x.1.2.1 x.1.2.2.1 x.1.2.2.2.2.1 x.1.2.2.2.2.2.1 x.2.1)
    (fun x => ∃ i : Int, x = (((), r1, r2, (), i, r10, ()), l, ()) ∧ 1 ≤ i) (fun x => (r2 - x.1.2.2.2.2.1 : Int).toNat)
    (fun y => ∃ i : Int, y = .inl (((), r1, r2, (), i, r10, ()), l, ())) ?_ fuel (((), r1, r2, (), r9, r10, ()), l, ()) ⟨r9, rfl, h1⟩ (by
      show (r2 - r9 : Int).toNat < fuel
      unfold fuel; omega)
  · obtain ⟨y, h, i, rfl⟩ := this
    exact ⟨i, h⟩
  · rintro x ⟨i, rfl, hi⟩
    show (∃ x', G_316_5 r1 r2 i r10 l = _ ∧ _) ∨ ∃ y, G_316_5 r1 r2 i r10 l = _ ∧ _
    unfold G_316_5
    by_cases c : i < r2
    · have w1 : IntKind.i64.wrap (i - 1) = i - 1 := wrap64 (by omega) (by omega)
      have w2 : IntKind.i64.wrap (i + 1) = i + 1 := wrap64 (by omega) (by omega)
      obtain ⟨v, hv⟩ := t_236 (l.getD (Int.toNat i) tPair.dflt) (l.getD (Int.toNat (i - 1)) tPair.dflt)
      simp only [decide_eq_true c, cond_true, w1, hl.at (x := i) (by omega) (by omega), hl.at (x := i - 1) (by omega) (by omega), hv, Option.bind_some]
      cases decide (v.1 < 0) with
      | true => exact .inr ⟨_, rfl, i, rfl⟩
      | false =>
        refine .inl ⟨_, rfl, ⟨i + 1, by rw [w2], by omega⟩, ?_⟩
        show (r2 - IntKind.i64.wrap (i + 1) : Int).toNat < (r2 - i : Int).toNat
        rw [w2]; omega
    · simp only [decide_eq_false c, cond_false]
      exact .inr ⟨_, rfl, i, rfl⟩
theorem t_316 (hn : n < 50) (a b : Int) (ha : 0 ≤ a) (hab : a ≤ b) (hb : b ≤ n) (l : List Pair) (hl : Row P n l) : ∃ f : Bool, F_316 a b l = some ((f, ()), l, ()) := by
  unfold F_316 R_316_3
  have w1 : IntKind.i64.wrap (a + 1) = a + 1 := wrap64 (by omega) (by omega)
  have w2 : IntKind.i64.wrap (b - a) = b - a := wrap64 (by omega) (by omega)
  rw [w1]
  obtain ⟨i, e⟩ := q_316_5 (by omega) a b (a + 1) 0 (by omega) hb l hl
  have hG : ∃ f : Bool, G_316_3 a b (a + 1) 0 l = some (.inr (.inr ((f, ()), l, ()))) := by
    unfold G_316_3
    rw [e]
    have c0 : decide ((0 : Int) < 5) = true := rfl
    have c1 : decide (b - a < (50 : Int)) = true := decide_eq_true (by omega)
    simp only [Option.bind_some, Sum.elim_inl, w2, c0, c1, cond_true]
    cases (i == b) with
    | true => exact ⟨true, rfl⟩
    | false => exact ⟨false, rfl⟩
  obtain ⟨f, hG⟩ := hG
  refine ⟨f, ?_⟩
  rw [show fuel = 18446744073709551615 + 1 from rfl, rounds_out (y := .inr ((f, ()), l, ())) hG]
  rfl
theorem t_311I (hn : n ≤ 1000000000) (a b : Int) (ha : 0 ≤ a) (hab : a ≤ n) (hb0 : 0 ≤ b) (hb : b ≤ n) (l : List Pair) (hl : Row P n l) : ∃ l', F_311 a b l = some ((), l', ()) ∧ Row P n l' := by
  obtain ⟨i, rfl⟩ := Int.eq_ofNat_of_zero_le ha
  obtain ⟨j, rfl⟩ := Int.eq_ofNat_of_zero_le hb0
  exact t_311 hn i j (by omega) (by omega) l hl
/-- A round of the quick sort goes on with less, or it ends. -/
def Rnd (P : Pair → Prop) (n : Nat) (K : Int) (M : Nat) (p : Option Y_289) : Prop :=
  (∃ x', p = some (.inl x') ∧ (∃ (a b lim : Int) (f g : Bool) (m : List Pair), x' = (((), a, b, lim, (), f, g, ()), m, ()) ∧ 0 ≤ a ∧ a ≤ b ∧ b ≤ n ∧ b - a ≤ K ∧ Row P n m ∧ (b - a).toNat < M)) ∨
    ∃ y, p = some (.inr y) ∧ ∃ m, y = .inr ((), m, ()) ∧ Row P n m
/-- The function sorts what is shorter. -/
def Sub (P : Pair → Prop) (n : Nat) (K : Int) (f : FT_289) : Prop := ∀ (a b lim : Int) (l : List Pair), 0 ≤ a → a ≤ b → b ≤ n → b - a < K → Row P n l → ∃ l', f a b lim l = some ((), l', ()) ∧ Row P n l'
theorem p4 {f : FT_289} {K : Int} (hf : Sub P n K f) (hn : n < 50) (a b lim p : Int) (ha : 0 ≤ a) (hp : a ≤ p) (hpb : p < b) (hb : b ≤ n) (hK : b - a ≤ K) (l : List Pair) (hl : Row P n l) : Rnd P n K (b - a).toNat (P4_289 f a b lim p l) := by
  unfold P4_289
  obtain ⟨m, g, l', e, h1, h2, h3⟩ := t_318 (by omega) a b p ha hp hpb hb l hl
  rw [e]
  have w1 : IntKind.i64.wrap (m + 1) = m + 1 := wrap64 (by omega) (by omega)
  simp only [Option.bind_some, w1]
  cases decide (IntKind.i64.wrap (m - a) < IntKind.i64.wrap (b - m)) with
  | true =>
    obtain ⟨l2, e2, h5⟩ := hf a m lim l' ha h2 (by omega) (by omega) h1
    simp only [cond_true]
    rw [e2]
    exact .inl ⟨_, rfl, m + 1, b, lim, _, _, l2, rfl, by omega, by omega, hb, by omega, h5, by omega⟩
  | false =>
    obtain ⟨l2, e2, h5⟩ := hf (m + 1) b lim l' (by omega) (by omega) hb (by omega) h1
    simp only [cond_false]
    rw [e2]
    exact .inl ⟨_, rfl, a, m, lim, _, _, l2, rfl, ha, h2, by omega, by omega, h5, by omega⟩
theorem p3 {f : FT_289} {K : Int} (hf : Sub P n K f) (hn : n < 50) (a b lim : Int) (g1 g2 : Bool) (p : Int) (ha : 0 ≤ a) (hp : a ≤ p) (hpb : p < b) (hb : b ≤ n) (hK : b - a ≤ K) (l : List Pair) (hl : Row P n l) : Rnd P n K (b - a).toNat (P3_289 f a b lim g1 g2 p l) := by
  unfold P3_289
  by_cases c : a > 0
  · have w1 : IntKind.i64.wrap (a - 1) = a - 1 := wrap64 (by omega) (by omega)
    obtain ⟨v, hv⟩ := t_236 (l.getD (Int.toNat (a - 1)) tPair.dflt) (l.getD (Int.toNat p) tPair.dflt)
    simp only [decide_eq_true c, cond_true, w1, hl.at (x := a - 1) (by omega) (by omega), hl.at (x := p) (by omega) (by omega), hv, Option.bind_some]
    cases decide (v.1 < 0) with
    | true => exact p4 hf hn a b lim p ha hp hpb hb hK l hl
    | false =>
      obtain ⟨m, l', e, h1, h2, h3⟩ := t_317 (by omega) a b p ha hp hpb hb l hl
      simp only [Bool.not_false, cond_true]
      rw [e]
      exact .inl ⟨_, rfl, m, b, lim, g1, g2, l', rfl, by omega, by omega, hb, by omega, h1, by omega⟩
  · simp only [decide_eq_false c, cond_false]
    exact p4 hf hn a b lim p ha hp hpb hb hK l hl
theorem p2 {f : FT_289} {K : Int} (hf : Sub P n K f) (hn : n < 50) (a b lim : Int) (g1 g2 : Bool) (p h : Int) (ha : 0 ≤ a) (hp : a ≤ p) (hpb : p < b) (hb : b ≤ n) (hK : b - a ≤ K) (l : List Pair) (hl : Row P n l) : Rnd P n K (b - a).toNat (P2_289 f a b lim g1 g2 p h l) := by
  unfold P2_289
  have k := fun l hl => p3 hf hn a b lim g1 g2 p ha hp hpb hb hK l hl
  cases g1 with
  | false => exact k l hl
  | true =>
    cases g2 with
    | false => exact k l hl
    | true =>
      simp only [cond_true]
      cases (h == (1 : Int)) with
      | false => exact k l hl
      | true =>
        obtain ⟨q, e⟩ := t_316 hn a b ha (by omega) hb l hl
        simp only [cond_true]
        rw [e]
        simp only [Option.bind_some]
        cases q with
        | true => exact .inr ⟨_, rfl, l, rfl, hl⟩
        | false => exact k l hl
theorem p1 {f : FT_289} {K : Int} (hf : Sub P n K f) (hn : n < 50) (a b lim : Int) (g1 g2 : Bool) (ha : 0 ≤ a) (hab : a < b) (hb : b ≤ n) (hK : b - a ≤ K) (l : List Pair) (hl : Row P n l) : Rnd P n K (b - a).toNat (P1_289 f a b lim g1 g2 l) := by
  unfold P1_289
  obtain ⟨p, h, e, h1, h2⟩ := t_314 (by omega) a b ha hab hb l hl
  rw [e]
  simp only [Option.bind_some]
  cases (h == (2 : Int)) with
  | false => exact p2 hf hn a b lim g1 g2 p h ha h1 h2 hb hK l hl
  | true =>
    obtain ⟨l', e2, h3⟩ := t_315 (by omega) a b ha (by omega) hb (by omega) l hl
    have w1 : IntKind.i64.wrap (b - 1) = b - 1 := wrap64 (by omega) (by omega)
    have w2 : IntKind.i64.wrap (p - a) = p - a := wrap64 (by omega) (by omega)
    have w3 : IntKind.i64.wrap (b - 1 - (p - a)) = b - 1 - (p - a) := wrap64 (by omega) (by omega)
    simp only [cond_true]
    rw [e2]
    simp only [Option.bind_some, w1, w2, w3]
    exact p2 hf hn a b lim g1 g2 _ 1 ha (by omega) (by omega) hb hK l' h3
theorem t_289b {f : FT_289} {K : Int} (hf : Sub P n K f) (hn : n < 50) (a b lim : Int) (ha : 0 ≤ a) (hab : a ≤ b) (hb : b ≤ n) (hK : b - a ≤ K) (l : List Pair) (hl : Row P n l) : ∃ l', F_289b f a b lim l = some ((), l', ()) ∧ Row P n l' := by
  have := rounds_mu (G := fun x => G_289_2 f x.1.2.1 x.1.2.2.1 x.1.2.2.2.1 x.1.2.2.2.2.2.1 x.1.2.2.2.2.2.2.1 x.2.1)
    (fun x => ∃ (a b lim : Int) (f g : Bool) (m : List Pair), x = (((), a, b, lim, (), f, g, ()), m, ()) ∧ 0 ≤ a ∧ a ≤ b ∧ b ≤ n ∧ b - a ≤ K ∧ Row P n m) (fun x => (x.1.2.2.1 - x.1.2.1 : Int).toNat)
    (fun y => ∃ m, y = .inr ((), m, ()) ∧ Row P n m) ?_ fuel (((), a, b, lim, (), true, true, ()), l, ()) ⟨a, b, lim, true, true, l, rfl, ha, hab, hb, hK, hl⟩ (by
      show (b - a : Int).toNat < fuel
      unfold fuel; omega)
  · obtain ⟨y, e, m, rfl, h1⟩ := this
    refine ⟨m, ?_, h1⟩
    unfold F_289b R_289_2
    rw [e]; rfl
  · rintro x ⟨a, b, lim, g1, g2, m, rfl, ha, hab, hb, hK, hm⟩
    show (∃ x', G_289_2 f a b lim g1 g2 m = _ ∧ _) ∨ ∃ y, G_289_2 f a b lim g1 g2 m = _ ∧ _
    have key : Rnd P n K (b - a).toNat (G_289_2 f a b lim g1 g2 m) := by
      unfold G_289_2
      have w1 : IntKind.i64.wrap (b - a) = b - a := wrap64 (by omega) (by omega)
      rw [w1]
      by_cases c : b - a ≤ 12
      · rw [decide_eq_true c, cond_true]
        obtain ⟨l', e, h1⟩ := t_311I (by omega) a b ha (by omega) (by omega) hb m hm
        rw [e]
        exact .inr ⟨_, rfl, l', rfl, h1⟩
      · rw [decide_eq_false c, cond_false]
        cases (lim == (0 : Int)) with
        | true =>
          obtain ⟨l', e, h1⟩ := t_312 (by omega) a b ha hab hb m hm
          rw [cond_true, e]
          exact .inr ⟨_, rfl, l', rfl, h1⟩
        | false =>
          rw [cond_false]
          cases g1 with
          | true => exact p1 hf hn a b lim true g2 ha (by omega) hb hK m hm
          | false =>
            obtain ⟨l', e, h1⟩ := t_313 (by omega) a b ha hab hb m hm
            simp only [Bool.not_false, cond_true]
            rw [e]
            exact p1 hf hn a b _ false g2 ha (by omega) hb hK l' h1
    rcases key with ⟨x', e, a', b', lim', f', g', m', rfl, k1, k2, k3, k4, k5, k6⟩ | h
    · exact .inl ⟨_, e, ⟨_, _, _, _, _, _, rfl, k1, k2, k3, k4, k5⟩, k6⟩
    · exact .inr h
theorem t_289n (hn : n < 50) : ∀ k : Nat, Sub P n k (F_289n k)
  | 0 => fun a b lim l ha hab hb hk hl => by omega
  | k + 1 => fun a b lim l ha hab hb hk hl => t_289b (t_289n hn k) hn a b lim ha hab hb (by omega) l hl
theorem t_289 (hn : n < 50) (a b lim : Int) (ha : 0 ≤ a) (hab : a ≤ b) (hb : b ≤ n) (l : List Pair) (hl : Row P n l) : ∃ l', F_289 a b lim l = some ((), l', ()) ∧ Row P n l' :=
  t_289n hn 100 a b lim l ha hab hb (by omega) hl
theorem t_235 (hn : n < 50) (l : List Pair) (hl : Row P n l) : ∃ l', F_235 l = some ((), l', ()) ∧ Row P n l' := by
  unfold F_235 F_172
  have h0 : l.length = n := hl.1
  obtain ⟨t, _, e, _⟩ := t_255 (IntKind.u64.wrap (l.length : Int)) (u64_range _).1 (u64_range _).2
  rw [e]
  simp only [Option.bind_some]
  obtain ⟨l', e2, h1⟩ := t_289 hn 0 (l.length : Int) t (Int.le_refl _) (by omega) (by omega) l hl
  rw [e2]
  exact ⟨l', rfl, h1⟩
end
end Go.DI.S

