import Derived.Test.YtehbnnmokbgiiaaGreatWe
/- Pairs are two; what steps keep; which worlds are right, plain. No conditions. -/
/-! Plain: pairs are two; what the parts of a step keep. -/
set_option linter.unusedVariables false
set_option linter.unusedSimpArgs false
set_option maxRecDepth 100000
namespace Go.DI.S
open Go.Proofs
/-! ### pairs: two places each -/
def Two2 (bs : List Box) (p : Pair) : Prop := Two bs p ∧ p.1 < p.2
/-- Places, each once. -/
def Inj (n : Nat) (l : List Int) : Prop := ∀ i j, i < n → j < n → l.getD i 0 = l.getD j 0 → i = j
def RowD (bs : List Box) (n : Nat) (l : List Int) : Prop := Row (At bs) n l ∧ Inj n l
theorem getD_setI (l : List Int) (i j : Nat) (b : Int) : (l.set i b).getD j 0 = if i = j ∧ j < l.length then b else l.getD j 0 := by
  rw [List.getD_eq_getElem?_getD, List.getElem?_set, List.getD_eq_getElem?_getD]
  by_cases h : i = j
  · subst h
    by_cases h2 : i < l.length
    · simp [h2]
    · simp [h2]
  · simp [h]
theorem swap_at (l : List Int) (i j k : Nat) (hi : i < l.length) (hj : j < l.length) : ((l.set i (l.getD j 0)).set j (l.getD i 0)).getD k 0 = l.getD (if k = j then i else if k = i then j else k) 0 := by
  rw [getD_setI, getD_setI, List.length_set]
  by_cases h1 : k = j
  · subst h1
    rw [if_pos ⟨rfl, hj⟩, if_pos rfl]
  · rw [if_neg (fun h => h1 h.1.symm), if_neg h1]
    by_cases h2 : k = i
    · subst h2
      rw [if_pos ⟨rfl, hi⟩, if_pos rfl]
    · rw [if_neg (fun h => h2 h.1.symm), if_neg h2]
theorem RowD.swap {bs : List Box} {n : Nat} {l : List Int} (h : RowD bs n l) {i j : Nat} (hi : i < n) (hj : j < n) : RowD bs n ((l.set i (l.getD j 0)).set j (l.getD i 0)) := by
  obtain ⟨h1, h2⟩ := h
  refine ⟨h1.swap hi hj, fun a b ha hb hab => ?_⟩
  have hl := h1.1
  rw [swap_at l i j a (by omega) (by omega), swap_at l i j b (by omega) (by omega)] at hab
  have := h2 _ _ (by split; exact hi; split <;> assumption) (by split; exact hi; split <;> assumption) hab
  split at this <;> split at this <;> (try split at this) <;> (try split at this) <;> omega
def Up (k : Nat) (m : List Int) : Prop := m.length = k ∧ ∀ i, i < k → m.getD i 0 = (i : Int)
theorem Up.push {k : Nat} {m : List Int} (h : Up k m) : Up (k + 1) (m ++ [(k : Int)]) := by
  obtain ⟨h1, h2⟩ := h
  refine ⟨by simp [h1], fun i hi => ?_⟩
  by_cases h : i < k
  · rw [List.getD_eq_getElem?_getD, List.getElem?_append_left (by omega), ← List.getD_eq_getElem?_getD]
    exact h2 i h
  · have : i = k := by omega
    subst this
    rw [List.getD_eq_getElem?_getD, List.getElem?_append_right (by omega), h1]
    simp
theorem Up.row {bs : List Box} {m : List Int} (h : Up bs.length m) : RowD bs bs.length m := by
  obtain ⟨h1, h2⟩ := h
  refine ⟨⟨h1, fun x hx => ?_⟩, fun i j hi hj e => ?_⟩
  · obtain ⟨i, hi, e⟩ := List.getElem_of_mem hx
    have := h2 i (by omega)
    rw [List.getD_eq_getElem?_getD, List.getElem?_eq_getElem hi] at this
    have this : m[i] = (i : Int) := this
    rw [← e, this]
    show (0 : Int) ≤ (i : Int) ∧ (i : Int) < (bs.length : Int)
    omega
  · rw [h2 i hi, h2 j hj] at e; omega
section
variable {bs : List Box} {n : Nat}
theorem k_325_4 (hn : n ≤ 1000000000) (a i : Nat) (b : Int) (hi : i < n) (l : List Int) (hl : RowD bs n l) : ∃ l', R_325_4 (((), (a : Int), b, (), (i : Int), (i : Int), ()), l, (bs, ()), ()) = some (.inl (((), (a : Int), b, (), (i : Int), ()), l', (bs, ()), ())) ∧ RowD bs n l' := by
  have := rounds_mu (G := fun x => G_325_4 x.1.2.1 x.1.2.2.1 x.1.2.2.2.2.1 x.1.2.2.2.2.2.1 x.2.1 x.2.2.1)
    (fun x => ∃ (j : Nat) (m : List Int), j < n ∧ RowD bs n m ∧ x = (((), (a : Int), b, (), (i : Int), (j : Int), ()), m, (bs, ()), ())) (fun x => x.1.2.2.2.2.2.1.toNat)
    (fun y => ∃ m, RowD bs n m ∧ y = .inl (((), (a : Int), b, (), (i : Int), ()), m, (bs, ()), ())) ?_ fuel (((), (a : Int), b, (), (i : Int), (i : Int), ()), l, (bs, ()), ()) ⟨i, l, hi, hl, rfl⟩ (by
      show (i : Int).toNat < fuel
      have := fuel_lt hn; omega)
  · obtain ⟨y, h, m, h1, rfl⟩ := this
    exact ⟨m, h, h1⟩
  · rintro x ⟨j, m, hj, hm, rfl⟩
    show (∃ x', G_325_4 (a : Int) b (i : Int) (j : Int) m (bs, ()) = _ ∧ _) ∨ ∃ y, G_325_4 (a : Int) b (i : Int) (j : Int) m (bs, ()) = _ ∧ _
    unfold G_325_4
    by_cases h : (j : Int) > (a : Int)
    · obtain ⟨v, hv⟩ := t_287 (m.getD j 0) (m.getD (j - 1) 0) bs (hm.1.get hj) (hm.1.get (by omega))
      simp only [decide_eq_true h, cond_true, down1 (j := j) (by omega) (by omega), hm.1.in hj, hm.1.in (i := j - 1) (by omega), Int.toNat_natCast, hv, Option.bind_some, List.length_set]
      by_cases hc : v < 0
      · simp only [decide_eq_true hc, cond_true]
        refine .inl ⟨_, rfl, ⟨j - 1, _, by omega, hm.swap hj (by omega), rfl⟩, ?_⟩
        show ((j - 1 : Nat) : Int).toNat < (j : Int).toNat
        omega
      · simp only [decide_eq_false hc, cond_false]
        exact .inr ⟨_, rfl, m, hm, rfl⟩
    · simp only [decide_eq_false h, cond_false]
      exact .inr ⟨_, rfl, m, hm, rfl⟩
theorem k_325 (hn : n ≤ 1000000000) (a b : Nat) (ha : a ≤ n) (hb : b ≤ n) (l : List Int) (hl : RowD bs n l) : ∃ l', F_325 (a : Int) (b : Int) l (bs, ()) = some ((), l', (bs, ()), ()) ∧ RowD bs n l' := by
  have := rounds_mu (G := fun x => G_325_1 x.1.2.1 x.1.2.2.1 x.1.2.2.2.2.1 x.2.1 x.2.2.1)
    (fun x => ∃ (i : Nat) (m : List Int), i ≤ n + 1 ∧ RowD bs n m ∧ x = (((), (a : Int), (b : Int), (), (i : Int), ()), m, (bs, ()), ())) (fun x => n + 2 - x.1.2.2.2.2.1.toNat)
    (fun y => ∃ m, RowD bs n m ∧ y = .inl ((), m, (bs, ()), ())) ?_ fuel (((), (a : Int), (b : Int), (), ((a + 1 : Nat) : Int), ()), l, (bs, ()), ()) ⟨a + 1, l, by omega, hl, rfl⟩ (by
      show n + 2 - ((a + 1 : Nat) : Int).toNat < fuel
      have := fuel_lt hn; unfold fuel; omega)
  · obtain ⟨y, h, m, h1, rfl⟩ := this
    refine ⟨m, ?_, h1⟩
    unfold F_325 R_325_1
    rw [show IntKind.i64.wrap ((a : Int) + 1) = ((a + 1 : Nat) : Int) from wrap_up (n := n + 1) (by omega) (by omega), h]
    rfl
  · rintro x ⟨i, m, hi, hm, rfl⟩
    show (∃ x', G_325_1 (a : Int) (b : Int) (i : Int) m (bs, ()) = _ ∧ _) ∨ ∃ y, G_325_1 (a : Int) (b : Int) (i : Int) m (bs, ()) = _ ∧ _
    unfold G_325_1
    by_cases h : i < b
    · obtain ⟨m', h1, h2⟩ := k_325_4 hn a i (b : Int) (by omega) m hm
      simp only [dec_lt h, cond_true]
      rw [h1]
      refine .inl ⟨_, rfl, ⟨i + 1, m', by omega, h2, ?_⟩, ?_⟩
      · show (((), (a : Int), (b : Int), (), IntKind.i64.wrap ((i : Int) + 1), ()), m', (bs, ()), ()) = _
        rw [wrap_up h (by omega)]
      · show n + 2 - (IntKind.i64.wrap ((i : Int) + 1)).toNat < n + 2 - (i : Int).toNat
        rw [wrap_up h (by omega)]; omega
    · have h' : decide ((i : Int) < (b : Int)) = false := decide_eq_false (by omega)
      simp only [h', cond_false]
      exact .inr ⟨_, rfl, m, hm, rfl⟩
theorem k_309 (hn : n ≤ 19) (l : List Int) (hl : RowD bs n l) : ∃ l', F_309 (n : Int) l (bs, ()) = some ((), l', (bs, ()), ()) ∧ RowD bs n l' := by
  have h20 : decide ((20 : Int) ≤ (n : Int)) = false := decide_eq_false (by omega)
  have h21 : decide ((20 : Int) < (n : Int)) = false := decide_eq_false (by omega)
  have g1 : G_309_2 (n : Int) 20 0 20 l (bs, ()) = some (.inr (.inl (((), (n : Int), (), (20 : Int), (0 : Int), ()), l, (bs, ()), ()))) := by
    unfold G_309_2
    rw [h20]; rfl
  obtain ⟨l', e, h1⟩ := k_325 (bs := bs) (n := n) (by omega) 0 n (by omega) (Nat.le_refl _) l hl
  have e : F_325 0 (n : Int) l (bs, ()) = some ((), l', (bs, ()), ()) := e
  have g2 : G_309_7 (n : Int) 20 l' (bs, ()) = some (.inr (.inl ((), l', (bs, ()), ()))) := by
    unfold G_309_7
    rw [h21]; rfl
  refine ⟨l', ?_, h1⟩
  unfold F_309 R_309_2 R_309_7
  rw [show fuel = 18446744073709551615 + 1 from rfl, rounds_out (y := .inl (((), (n : Int), (), (20 : Int), (0 : Int), ()), l, (bs, ()), ())) g1]
  simp only [Option.bind_some, Sum.elim_inl]
  rw [e]
  simp only [Option.bind_some]
  rw [rounds_out (y := .inl ((), l', (bs, ()), ())) g2]
  rfl
theorem k_286 (hn : n ≤ 19) (l : List Int) (hl : RowD bs n l) : ∃ l', F_286 l (bs, ()) = some ((), l', (bs, ()), ()) ∧ RowD bs n l' := by
  obtain ⟨l', e, h⟩ := k_309 hn l hl
  refine ⟨l', ?_, h⟩
  unfold F_286
  rw [hl.1.1, e]; rfl
theorem k_233 (hn : bs.length ≤ 19) : ∃ l', F_233 bs = some ((l', ()) : Els [.list I]) ∧ RowD bs bs.length l' := by
  have := rounds_mu (G := fun x => G_233_3 x.1.2.2.1 x.1.2.2.2.1 x.2.1 x.2.2.1)
    (fun x => ∃ (k : Nat) (m : List Int), k ≤ bs.length ∧ Up k m ∧ x = (((), (), (bs.length : Int), (k : Int), ()), (bs, ()), m, ())) (fun x => bs.length - x.1.2.2.2.1.toNat)
    (fun y => ∃ m, Up bs.length m ∧ y = .inl (((), (), ()), (bs, ()), m, ())) ?_ fuel (((), (), (bs.length : Int), (0 : Int), ()), (bs, ()), [], ()) ⟨0, [], Nat.zero_le _, ⟨rfl, fun i hi => by omega⟩, rfl⟩ (by
      show bs.length - (0 : Int).toNat < fuel
      unfold fuel; omega)
  · obtain ⟨y, h, m, h1, rfl⟩ := this
    obtain ⟨l', e, h2⟩ := k_286 hn m h1.row
    refine ⟨l', ?_, h2⟩
    unfold F_233 R_233_3
    rw [h]
    simp only [Option.bind_some, Sum.elim_inl]
    rw [e]; rfl
  · rintro x ⟨k, m, hk, hm, rfl⟩
    show (∃ x', G_233_3 (bs.length : Int) (k : Int) (bs, ()) m = _ ∧ _) ∨ ∃ y, G_233_3 (bs.length : Int) (k : Int) (bs, ()) m = _ ∧ _
    unfold G_233_3
    by_cases h : k < bs.length
    · have hsz : (((m.length + [(k : Int)].length) * 8).ble 70368744177664) = true := Nat.ble_eq_true_of_le (by rw [hm.1]; simp; omega)
      simp only [dec_lt h, cond_true]
      refine .inl ⟨_, by rw [hsz]; rfl, ⟨k + 1, m ++ [(k : Int)], h, hm.push, by rw [wrap_up h (by omega)]⟩, ?_⟩
      · show bs.length - (IntKind.i64.wrap ((k : Int) + 1)).toNat < bs.length - (k : Int).toNat
        rw [wrap_up h (by omega)]; omega
    · have : k = bs.length := by omega
      subst this
      simp only [dec_end, cond_false]
      exact .inr ⟨_, rfl, m, hm, rfl⟩
theorem k_165_7 (x0 : Int) (h0 : At bs x0) (r4 r11 : List Int) (r12 r13 : Int) (us : List Int) (hu : ∀ x ∈ us, At bs x ∧ x ≠ x0) (hul : us.length ≤ 1000) (acc : List Pair) (hacc : ∀ p ∈ acc, Two2 bs p) (hal : acc.length ≤ 1000) :
    ∃ acc', R_165_7 ((bs, (), r4, x0, r11, r12, r13, us, (us.length : Int), (0 : Int), ()), acc, ()) = some (.inl ((bs, (), r4, r11, r12, r13, ()), acc', ())) ∧ (∀ p ∈ acc', Two2 bs p) ∧ acc'.length ≤ acc.length + us.length := by
  have := rounds_mu (G := fun x => G_165_7 x.1.1 x.1.2.2.1 x.1.2.2.2.1 x.1.2.2.2.2.1 x.1.2.2.2.2.2.1 x.1.2.2.2.2.2.2.1 x.1.2.2.2.2.2.2.2.1 x.1.2.2.2.2.2.2.2.2.1 x.1.2.2.2.2.2.2.2.2.2.1 x.2.1)
    (fun x => ∃ (k : Nat) (m : List Pair), k ≤ us.length ∧ (∀ p ∈ m, Two2 bs p) ∧ m.length ≤ acc.length + k ∧ x = ((bs, (), r4, x0, r11, r12, r13, us, (us.length : Int), (k : Int), ()), m, ())) (fun x => us.length - x.1.2.2.2.2.2.2.2.2.2.1.toNat)
    (fun y => ∃ m : List Pair, (∀ p ∈ m, Two2 bs p) ∧ m.length ≤ acc.length + us.length ∧ y = .inl ((bs, (), r4, r11, r12, r13, ()), m, ())) ?_ fuel ((bs, (), r4, x0, r11, r12, r13, us, (us.length : Int), (0 : Int), ()), acc, ()) ⟨0, acc, Nat.zero_le _, hacc, Nat.le_refl _, rfl⟩ (by
      show us.length - (0 : Int).toNat < fuel
      unfold fuel; omega)
  · obtain ⟨y, h, m, h1, h2, rfl⟩ := this
    exact ⟨m, h, h1, h2⟩
  · rintro x ⟨k, m, hk, hm, hml, rfl⟩
    show (∃ x', G_165_7 bs r4 x0 r11 r12 r13 us (us.length : Int) (k : Int) m = _ ∧ _) ∨ ∃ y, G_165_7 bs r4 x0 r11 r12 r13 us (us.length : Int) (k : Int) m = _ ∧ _
    unfold G_165_7
    by_cases h : k < us.length
    · have hg := List.getElem?_eq_getElem h
      obtain ⟨hx, hxn⟩ := hu _ (List.getElem_mem h)
      have hd0 : decide ((0 : Int) ≤ x0 ∧ x0 < (bs.length : Int)) = true := decide_eq_true h0
      have hd1 : decide ((0 : Int) ≤ us[k] ∧ us[k] < (bs.length : Int)) = true := decide_eq_true hx
      obtain ⟨v, hv⟩ := t_234 (List.getD bs (Int.toNat x0) tBox.dflt) (List.getD bs (Int.toNat us[k]) tBox.dflt)
      simp only [dec_lt h, dec_in h, cond_true, getD_of hg, hd0, hd1, hv, Option.bind_some, wrap_up h (by omega)]
      have hmu : us.length - ((k + 1 : Nat) : Int).toNat < us.length - (k : Int).toNat := by omega
      cases v.1 with
      | false => exact .inl ⟨_, rfl, ⟨k + 1, m, h, hm, by omega, rfl⟩, hmu⟩
      | true =>
        have hsz : ∀ p : Pair, (((m.length + [p].length) * 16).ble 70368744177664) = true := fun p => Nat.ble_eq_true_of_le (by simp; omega)
        refine .inl ⟨_, by rw [cond_true, hsz]; rfl, ⟨k + 1, _, h, fun p hp => ?_, ?_, rfl⟩, hmu⟩
        · rcases List.mem_append.1 hp with hp | hp
          · exact hm p hp
          · rw [List.mem_singleton.1 hp]
            refine ⟨⟨?_, ?_⟩, ?_⟩
            · show At bs (if us[k] < x0 then us[k] else x0)
              split <;> assumption
            · show At bs (if us[k] > x0 then us[k] else x0)
              split <;> assumption
            · show (if us[k] < x0 then us[k] else x0) < (if us[k] > x0 then us[k] else x0)
              split <;> split <;> omega
        · rw [List.length_append]
          simp only [List.length_singleton]
          omega
    · have : k = us.length := by omega
      subst this
      simp only [dec_end, cond_false]
      exact .inr ⟨_, rfl, m, hm, hml, rfl⟩
theorem k_165 (hn : bs.length ≤ 10) : ∃ ps, F_165 bs = some ((ps, ()) : Els [.list tPair]) ∧ (∀ p ∈ ps, Two2 bs p) ∧ ps.length ≤ 45 := by
  obtain ⟨ids, e1, hids⟩ := k_233 (bs := bs) (by omega)
  have h45 := tri_10 ⟨bs.length, by omega⟩
  have hl : ids.length = bs.length := hids.1.1
  have := rounds_mu (G := fun x => G_165_4 x.1.1 x.1.2.2.1 x.1.2.2.2.1 x.1.2.2.2.2.1 x.1.2.2.2.2.2.1 x.2.1)
    (fun x => ∃ (k : Nat) (m : List Pair), k ≤ ids.length ∧ (∀ p ∈ m, Two2 bs p) ∧ m.length + tri (ids.length - k) ≤ 45 ∧ x = ((bs, (), ids, ids, (ids.length : Int), (k : Int), ()), m, ())) (fun x => ids.length - x.1.2.2.2.2.2.1.toNat)
    (fun y => ∃ m : List Pair, (∀ p ∈ m, Two2 bs p) ∧ m.length ≤ 45 ∧ y = .inl (((), ()), m, ())) ?_ fuel ((bs, (), ids, ids, (ids.length : Int), (0 : Int), ()), [], ()) ⟨0, [], Nat.zero_le _, fun p hp => by simp at hp, by rw [hl, Nat.sub_zero]; simpa using h45, rfl⟩ (by
      show ids.length - (0 : Int).toNat < fuel
      unfold fuel; omega)
  · obtain ⟨y, h, m, h1, h2, rfl⟩ := this
    obtain ⟨l', e, h3⟩ := t_235 (P := Two2 bs) (n := m.length) (by omega) m ⟨rfl, h1⟩
    refine ⟨l', ?_, h3.2, by rw [h3.1]; exact h2⟩
    unfold F_165 R_165_4
    rw [e1]
    simp only [Option.bind_some]
    rw [h]
    simp only [Option.bind_some, Sum.elim_inl]
    rw [e]; rfl
  · rintro x ⟨k, m, hk, hm, hml, rfl⟩
    show (∃ x', G_165_4 bs ids ids (ids.length : Int) (k : Int) m = _ ∧ _) ∨ ∃ y, G_165_4 bs ids ids (ids.length : Int) (k : Int) m = _ ∧ _
    unfold G_165_4
    by_cases h : k < ids.length
    · have hg := List.getElem?_eq_getElem h
      have hx := hids.1.2 _ (List.getElem_mem h)
      have hd : decide ((0 : Int) ≤ ((k + 1 : Nat) : Int) ∧ ((k + 1 : Nat) : Int) ≤ (ids.length : Int)) = true := decide_eq_true (by omega)
      simp only [dec_lt h, dec_in h, cond_true, getD_of hg, wrap_up h (by omega), hd, Int.toNat_natCast]
      obtain ⟨us, hus⟩ : ∃ us, us = List.take (ids.length - (k + 1)) (List.drop (k + 1) ids) := ⟨_, rfl⟩
      have hul : us.length = ids.length - (k + 1) := by rw [hus]; simp
      rw [← hus]
      have htri : tri (ids.length - k) = tri (ids.length - (k + 1)) + (ids.length - (k + 1)) := by
        obtain ⟨d, hd⟩ : ∃ d, ids.length - k = d + 1 := ⟨ids.length - k - 1, by omega⟩
        have hd2 : ids.length - (k + 1) = d := by omega
        rw [hd, hd2]; rfl
      obtain ⟨acc', e, h1, h2⟩ := k_165_7 (bs := bs) (List.getD ids k 0) (hids.1.get (d := 0) (by omega)) ids ids (ids.length : Int) (k : Int) us (fun x hx => by
        rw [hus] at hx
        refine ⟨hids.1.2 x (List.mem_of_mem_drop (List.mem_of_mem_take hx)), fun e => ?_⟩
        obtain ⟨i, hi, e2⟩ := List.getElem_of_mem (List.mem_of_mem_take hx)
        rw [List.length_drop] at hi
        rw [List.getElem_drop] at e2
        have e3 : ids.getD (k + 1 + i) 0 = ids.getD k 0 := by
          rw [List.getD_eq_getElem?_getD, List.getElem?_eq_getElem (by omega)]
          show ids[k + 1 + i] = _
          rw [e2, e]
        have := hids.2 _ _ (by omega) (by omega) e3
        omega) (by omega) m hm (by omega)
      rw [e]
      refine .inl ⟨_, rfl, ⟨k + 1, acc', h, h1, by omega, ?_⟩, ?_⟩
      · show ((bs, (), ids, ids, (ids.length : Int), IntKind.i64.wrap ((k : Int) + 1), ()), acc', ()) = _
        rw [wrap_up h (by omega)]
      · show ids.length - (IntKind.i64.wrap ((k : Int) + 1)).toNat < ids.length - (k : Int).toNat
        rw [wrap_up h (by omega)]; omega
    · have : k = ids.length := by omega
      subst this
      simp only [dec_end, cond_false]
      exact .inr ⟨_, rfl, m, hm, by omega, rfl⟩
end
section
theorem two_nat (a b : Int) (n m : Nat) (h : (0 ≤ a ∧ a < (n : Int)) ∧ (0 ≤ b ∧ b < (n : Int))) (e : m = n) (hne : a ≠ b) : a.toNat < m ∧ b.toNat < m ∧ a.toNat ≠ b.toNat := by omega
theorem k_74 (g : Vec) (js : List Joint) (l : List Body) (hn : l.length ≤ 1000000) : BdR g l (F_74 (g, (), js, ()) l) := by
  obtain ⟨n, hl⟩ : ∃ n, n = l.length := ⟨_, rfl⟩
  have := rounds_mu (G := fun x => G_74_2 x.1.2.2.1 x.1.2.2.2.1 x.2.1 x.2.2.1)
    (fun x => ∃ (k : Nat) (m : List Body), k ≤ n ∧ Rl g l m ∧ x = (((), (), (n : Int), (k : Int), ()), m, (g, (), js, ()), ())) (fun x => n - x.1.2.2.2.1.toNat)
    (fun y => (∃ m : List Body, Rl g l m ∧ y = .inl (.inl ((), m, ()))) ∨ ∃ e, y = .inr e ∧ (e = 3 ∨ e = 4)) ?_ fuel (((), (), (n : Int), (0 : Int), ()), l, (g, (), js, ()), ()) ⟨0, l, Nat.zero_le _, .same g l, rfl⟩ (by
      show n - (0 : Int).toNat < fuel
      unfold fuel; omega)
  · obtain ⟨y, h, hy⟩ := this
    unfold F_74 R_74_2
    rw [← hl, h]
    rcases hy with ⟨m, hm, rfl⟩ | ⟨e, rfl, he⟩
    · exact ⟨_, rfl, hm⟩
    · exact ⟨_, rfl, he⟩
  · rintro x ⟨k, m, hk, hm, rfl⟩
    show (∃ x', G_74_2 (n : Int) (k : Int) m (g, (), js, ()) = _ ∧ _) ∨ ∃ y, G_74_2 (n : Int) (k : Int) m (g, (), js, ()) = _ ∧ _
    unfold G_74_2
    have hmn : m.length = n := hm.len.trans hl.symm
    by_cases h : k < n
    · have hmu : n - (IntKind.i64.wrap ((k : Int) + 1)).toNat < n - (k : Int).toNat := by rw [wrap_up h (by omega)]; omega
      simp only [dec_lt h, cond_true, in_len hmn h]
      cases hz : ((m.getD (Int.toNat (k : Int)) tBody.dflt).snd.snd.fst != (0 : Int)) with
      | false => exact .inl ⟨_, rfl, ⟨k + 1, m, h, hm, by rw [wrap_up h (by omega)]⟩, hmu⟩
      | true =>
        simp only [cond_true]
        obtain ⟨y1, e1, h1⟩ := t_162 g (m.getD (Int.toNat (k : Int)) tBody.dflt).snd.snd.fst
        rw [e1]
        cases y1 with
        | inr e => exact .inr ⟨_, rfl, .inr ⟨e, rfl, h1⟩⟩
        | inl v1 =>
          simp only [Option.bind_some, Sum.elim_inl]
          obtain ⟨y2, e2, h2⟩ := t_161 v1.1 64
          rw [e2]
          cases y2 with
          | inr e => exact .inr ⟨_, rfl, .inr ⟨e, rfl, h2⟩⟩
          | inl v2 =>
            simp only [Option.bind_some, Sum.elim_inl]
            obtain ⟨y3, e3, h3⟩ := s_62c (m.getD (Int.toNat (k : Int)) tBody.dflt).snd.snd.snd.snd v2.1
            rw [e3]
            cases y3 with
            | inr e => exact .inr ⟨_, rfl, .inr ⟨e, rfl, h3⟩⟩
            | inl v3 =>
              simp only [Option.bind_some, Sum.elim_inl, cond_true]
              refine .inl ⟨_, rfl, ⟨k + 1, _, h, hm.trans (Rl.set (i := k) (by omega) (.mom (v := v3.1) (bne_ne hz)) fun h0 hv => ?_), by rw [wrap_up h (by omega)]; rfl⟩, hmu⟩
              rw [h0, z_162] at e1
              injection e1 with e1; injection e1 with e1
              rw [← e1, z_161] at e2
              injection e2 with e2; injection e2 with e2
              exact add_same (p := (m.getD k tBody.dflt).2.2.2.2) (z := v2.1) (by rw [← e2]) h3 hv.2
    · have : k = n := by omega
      subst this
      simp only [dec_end, cond_false]
      exact .inr ⟨_, rfl, .inl ⟨m, hm, rfl⟩⟩
theorem k_77 (g : Vec) (js : List Joint) (l : List Body) (hn : l.length ≤ 1000000) : BdR g l (F_77 (g, (), js, ()) l) := by
  obtain ⟨n, hl⟩ : ∃ n, n = l.length := ⟨_, rfl⟩
  have := rounds_mu (G := fun x => G_77_2 x.1.2.2.1 x.1.2.2.2.1 x.2.1 x.2.2.1)
    (fun x => ∃ (k : Nat) (m : List Body), k ≤ n ∧ Rl g l m ∧ x = (((), (), (n : Int), (k : Int), ()), m, (g, (), js, ()), ())) (fun x => n - x.1.2.2.2.1.toNat)
    (fun y => (∃ m : List Body, Rl g l m ∧ y = .inl (.inl ((), m, ()))) ∨ ∃ e, y = .inr e ∧ (e = 3 ∨ e = 4)) ?_ fuel (((), (), (n : Int), (0 : Int), ()), l, (g, (), js, ()), ()) ⟨0, l, Nat.zero_le _, .same g l, rfl⟩ (by
      show n - (0 : Int).toNat < fuel
      unfold fuel; omega)
  · obtain ⟨y, h, hy⟩ := this
    unfold F_77 R_77_2
    rw [← hl, h]
    rcases hy with ⟨m, hm, rfl⟩ | ⟨e, rfl, he⟩
    · exact ⟨_, rfl, hm⟩
    · exact ⟨_, rfl, he⟩
  · rintro x ⟨k, m, hk, hm, rfl⟩
    show (∃ x', G_77_2 (n : Int) (k : Int) m (g, (), js, ()) = _ ∧ _) ∨ ∃ y, G_77_2 (n : Int) (k : Int) m (g, (), js, ()) = _ ∧ _
    unfold G_77_2
    have hmn : m.length = n := hm.len.trans hl.symm
    by_cases h : k < n
    · have hmu : n - (IntKind.i64.wrap ((k : Int) + 1)).toNat < n - (k : Int).toNat := by rw [wrap_up h (by omega)]; omega
      simp only [dec_lt h, cond_true, in_len hmn h]
      cases hz : ((m.getD (Int.toNat (k : Int)) tBody.dflt).snd.snd.fst != (0 : Int)) with
      | false => exact .inl ⟨_, rfl, ⟨k + 1, m, h, hm, by rw [wrap_up h (by omega)]⟩, hmu⟩
      | true =>
        simp only [cond_true]
        obtain ⟨y1, e1, h1⟩ := t_168 (m.getD (Int.toNat (k : Int)) tBody.dflt)
        rw [e1]
        cases y1 with
        | inr e => exact .inr ⟨_, rfl, .inr ⟨e, rfl, h1⟩⟩
        | inl v1 =>
          simp only [Option.bind_some, Sum.elim_inl]
          obtain ⟨y2, e2, h2⟩ := t_161 v1.1 64
          rw [e2]
          cases y2 with
          | inr e => exact .inr ⟨_, rfl, .inr ⟨e, rfl, h2⟩⟩
          | inl v2 =>
            simp only [Option.bind_some, Sum.elim_inl]
            obtain ⟨y3, e3, h3⟩ := t_62 (m.getD (Int.toNat (k : Int)) tBody.dflt).snd.snd.snd.fst v2.1
            rw [e3]
            cases y3 with
            | inr e => exact .inr ⟨_, rfl, .inr ⟨e, rfl, h3⟩⟩
            | inl v3 =>
              simp only [Option.bind_some, Sum.elim_inl, cond_true]
              exact .inl ⟨_, rfl, ⟨k + 1, _, h, hm.trans (Rl.set (i := k) (by omega) (.pos (v := v3.1) (bne_ne hz)) fun _ _ => rfl), by rw [wrap_up h (by omega)]; rfl⟩, hmu⟩
    · have : k = n := by omega
      subst this
      simp only [dec_end, cond_false]
      exact .inr ⟨_, rfl, .inl ⟨m, hm, rfl⟩⟩
/-- A joint's ends are two places among so many bodies. -/
def Ends2 (n : Nat) (j : Joint) : Prop := Ends n j ∧ j.1 ≠ j.2.1
theorem k_75_4 (g : Vec) (js : List Joint) (hjs : js.length ≤ 1000000) (r4 : Int) (l : List Body) (hn : l.length ≤ 1000000) (hj : ∀ j ∈ js, Ends2 l.length j) :
    ∃ y, R_75_4 (((), r4, js, (js.length : Int), (0 : Int), ()), l, (g, (), js, ()), ()) = some y ∧ ((∃ m : List Body, Rl g l m ∧ y = .inl (.inl (((), r4, ()), m, (g, (), js, ()), ()))) ∨ ∃ e, y = .inr e ∧ (e = 3 ∨ e = 4)) := by
  refine rounds_mu (G := fun x => G_75_4 x.1.2.1 x.1.2.2.1 x.1.2.2.2.1 x.1.2.2.2.2.1 x.2.1 x.2.2.1)
    (fun x => ∃ (k : Nat) (m : List Body), k ≤ js.length ∧ Rl g l m ∧ x = (((), r4, js, (js.length : Int), (k : Int), ()), m, (g, (), js, ()), ())) (fun x => js.length - x.1.2.2.2.2.1.toNat)
    (fun y => (∃ m : List Body, Rl g l m ∧ y = .inl (.inl (((), r4, ()), m, (g, (), js, ()), ()))) ∨ ∃ e, y = .inr e ∧ (e = 3 ∨ e = 4)) ?_ fuel (((), r4, js, (js.length : Int), (0 : Int), ()), l, (g, (), js, ()), ()) ⟨0, l, Nat.zero_le _, .same g l, rfl⟩ (by
      show js.length - (0 : Int).toNat < fuel
      unfold fuel; omega)
  rintro x ⟨k, m, hk, hm, rfl⟩
  show (∃ x', G_75_4 r4 js (js.length : Int) (k : Int) m (g, (), js, ()) = _ ∧ _) ∨ ∃ y, G_75_4 r4 js (js.length : Int) (k : Int) m (g, (), js, ()) = _ ∧ _
  unfold G_75_4
  have hmn := hm.len
  by_cases h : k < js.length
  · have hmu : js.length - (IntKind.i64.wrap ((k : Int) + 1)).toNat < js.length - (k : Int).toNat := by rw [wrap_up h (by omega)]; omega
    obtain ⟨j, hjd⟩ : ∃ j, j = List.getD js (Int.toNat (k : Int)) tJoint.dflt := ⟨_, rfl⟩
    have hin2 : Ends2 l.length j := by
      rw [hjd, getD_of (List.getElem?_eq_getElem h)]
      exact hj _ (List.getElem_mem h)
    obtain ⟨hin, hne⟩ := hin2
    have d1 : decide ((0 : Int) ≤ j.1 ∧ j.1 < ((m.length : Nat) : Int)) = true := by rw [hmn]; exact decide_eq_true hin.1
    have d2 : decide ((0 : Int) ≤ j.2.1 ∧ j.2.1 < ((m.length : Nat) : Int)) = true := by rw [hmn]; exact decide_eq_true hin.2
    simp only [dec_lt h, cond_true, dec_in h, ← hjd, d1, d2, List.length_set]
    obtain ⟨y1, e1, h1⟩ := s_163 (m.getD (Int.toNat j.1) tBody.dflt) (m.getD (Int.toNat j.2.1) tBody.dflt) j.2.2
    rw [e1]
    obtain ⟨u1, u2, u3⟩ := two_nat j.1 j.2.1 _ _ hin hmn hne
    cases y1 with
    | inr e => exact .inr ⟨_, rfl, .inr ⟨e, rfl, h1⟩⟩
    | inl v1 => exact .inl ⟨_, rfl, ⟨k + 1, _, h, hm.trans (Rl.set2 (i := Int.toNat j.1) (j := Int.toNat j.2.1) u1 u2 u3 h1), by rw [wrap_up h (by omega)]⟩, hmu⟩
  · have : k = js.length := by omega
    subst this
    simp only [dec_end, cond_false]
    exact .inr ⟨_, rfl, .inl ⟨m, hm, rfl⟩⟩
theorem k_75 (g : Vec) (js : List Joint) (hjs : js.length ≤ 1000000) (l : List Body) (hn : l.length ≤ 1000000) (hj : ∀ j ∈ js, Ends2 l.length j) : BdR g l (F_75 (g, (), js, ()) l) := by
  have := rounds_mu (G := fun x => G_75_2 x.1.2.1 x.2.1 x.2.2.1)
    (fun x => ∃ (k : Nat) (m : List Body), k ≤ 4 ∧ Rl g l m ∧ x = (((), (k : Int), ()), m, (g, (), js, ()), ())) (fun x => 4 - x.1.2.1.toNat)
    (fun y => (∃ m : List Body, Rl g l m ∧ y = .inl (.inl ((), m, ()))) ∨ ∃ e, y = .inr e ∧ (e = 3 ∨ e = 4)) ?_ fuel (((), (0 : Int), ()), l, (g, (), js, ()), ()) ⟨0, l, Nat.zero_le _, .same g l, rfl⟩ (by
      show 4 - (0 : Int).toNat < fuel
      unfold fuel; omega)
  · obtain ⟨y, h, hy⟩ := this
    unfold F_75 R_75_2
    rw [h]
    rcases hy with ⟨m, hm, rfl⟩ | ⟨e, rfl, he⟩
    · exact ⟨_, rfl, hm⟩
    · exact ⟨_, rfl, he⟩
  · rintro x ⟨k, m, hk, hm, rfl⟩
    show (∃ x', G_75_2 (k : Int) m (g, (), js, ()) = _ ∧ _) ∨ ∃ y, G_75_2 (k : Int) m (g, (), js, ()) = _ ∧ _
    unfold G_75_2
    by_cases h : k < 4
    · have hd : decide ((k : Int) < 4) = true := decide_eq_true (by omega)
      simp only [hd, cond_true]
      obtain ⟨y, e, hy⟩ := k_75_4 g js hjs (k : Int) m (by rw [hm.len]; exact hn) (by rw [hm.len]; exact hj)
      rw [e]
      rcases hy with ⟨m', hm', rfl⟩ | ⟨e', rfl, he⟩
      · refine .inl ⟨_, rfl, ⟨k + 1, m', h, hm.trans hm', ?_⟩, ?_⟩
        · show (((), IntKind.i64.wrap ((k : Int) + 1), ()), m', (g, (), js, ()), ()) = _
          rw [wrap_up h (by omega)]
        · show 4 - (IntKind.i64.wrap ((k : Int) + 1)).toNat < 4 - (k : Int).toNat
          rw [wrap_up h (by omega)]; omega
      · exact .inr ⟨_, rfl, .inr ⟨e', rfl, he⟩⟩
    · have hd : decide ((k : Int) < 4) = false := decide_eq_false (by omega)
      simp only [hd, cond_false]
      exact .inr ⟨_, rfl, .inl ⟨m, hm, rfl⟩⟩
theorem k_76_8 (g : Vec) (js : List Joint) (bs : List Box) (ps : List Pair) (hps : ∀ p ∈ ps, Two2 bs p) (hpl : ps.length ≤ 1000000) (l : List Body) (hn : l.length ≤ 1000000) (hbs : bs.length = l.length) :
    ∃ y, R_76_8 (((), ps, (ps.length : Int), (0 : Int), ()), l, (g, (), js, ()), ()) = some y ∧ ((∃ m : List Body, Rl g l m ∧ y = .inl (.inl ((), m, ()))) ∨ ∃ e, y = .inr e ∧ (e = 3 ∨ e = 4)) := by
  refine rounds_mu (G := fun x => G_76_8 x.1.2.1 x.1.2.2.1 x.1.2.2.2.1 x.2.1 x.2.2.1)
    (fun x => ∃ (k : Nat) (m : List Body), k ≤ ps.length ∧ Rl g l m ∧ x = (((), ps, (ps.length : Int), (k : Int), ()), m, (g, (), js, ()), ())) (fun x => ps.length - x.1.2.2.2.1.toNat)
    (fun y => (∃ m : List Body, Rl g l m ∧ y = .inl (.inl ((), m, ()))) ∨ ∃ e, y = .inr e ∧ (e = 3 ∨ e = 4)) ?_ fuel (((), ps, (ps.length : Int), (0 : Int), ()), l, (g, (), js, ()), ()) ⟨0, l, Nat.zero_le _, .same g l, rfl⟩ (by
      show ps.length - (0 : Int).toNat < fuel
      unfold fuel; omega)
  rintro x ⟨k, m, hk, hm, rfl⟩
  show (∃ x', G_76_8 ps (ps.length : Int) (k : Int) m (g, (), js, ()) = _ ∧ _) ∨ ∃ y, G_76_8 ps (ps.length : Int) (k : Int) m (g, (), js, ()) = _ ∧ _
  unfold G_76_8
  have hmn := hm.len
  by_cases h : k < ps.length
  · have hmu : ps.length - (IntKind.i64.wrap ((k : Int) + 1)).toNat < ps.length - (k : Int).toNat := by rw [wrap_up h (by omega)]; omega
    obtain ⟨p, hpd⟩ : ∃ p, p = List.getD ps (Int.toNat (k : Int)) tPair.dflt := ⟨_, rfl⟩
    have hin2 : Two2 bs p := by
      rw [hpd, getD_of (List.getElem?_eq_getElem h)]
      exact hps _ (List.getElem_mem h)
    obtain ⟨hin, hne⟩ := hin2
    have d1 : decide ((0 : Int) ≤ p.1 ∧ p.1 < ((m.length : Nat) : Int)) = true := by rw [hmn, ← hbs]; exact decide_eq_true hin.1
    have d2 : decide ((0 : Int) ≤ p.2 ∧ p.2 < ((m.length : Nat) : Int)) = true := by rw [hmn, ← hbs]; exact decide_eq_true hin.2
    simp only [dec_lt h, cond_true, dec_in h, ← hpd, d1, d2, List.length_set]
    obtain ⟨y1, e1, h1⟩ := t_166 (m.getD (Int.toNat p.1) tBody.dflt) (m.getD (Int.toNat p.2) tBody.dflt)
    rw [e1]
    cases y1 with
    | inr e => exact .inr ⟨_, rfl, .inr ⟨e, rfl, h1⟩⟩
    | inl v1 =>
      simp only [Option.bind_some, Sum.elim_inl]
      cases v1.2.1 with
      | false => exact .inl ⟨_, rfl, ⟨k + 1, m, h, hm, by rw [wrap_up h (by omega)]⟩, hmu⟩
      | true =>
        simp only [cond_true]
        obtain ⟨y2, e2, h2⟩ := s_167 (m.getD (Int.toNat p.1) tBody.dflt) (m.getD (Int.toNat p.2) tBody.dflt) v1.1
        rw [e2]
        obtain ⟨u1, u2, u3⟩ := two_nat p.1 p.2 _ _ hin (hmn.trans hbs.symm) (Int.ne_of_lt hne)
        cases y2 with
        | inr e => exact .inr ⟨_, rfl, .inr ⟨e, rfl, h2⟩⟩
        | inl v2 => exact .inl ⟨_, rfl, ⟨k + 1, _, h, hm.trans (Rl.set2 (i := Int.toNat p.1) (j := Int.toNat p.2) u1 u2 u3 h2), by rw [wrap_up h (by omega)]⟩, hmu⟩
  · have : k = ps.length := by omega
    subst this
    simp only [dec_end, cond_false]
    exact .inr ⟨_, rfl, .inl ⟨m, hm, rfl⟩⟩
end
end Go.DI.S

/-! Plain: which worlds are right. -/
set_option linter.unusedVariables false
set_option linter.unusedSimpArgs false
set_option maxRecDepth 100000
namespace Go.DI.S
open Go.Proofs
/-! ### which worlds are right, exactly -/
noncomputable def rB (b : Body) : Bool := match F_58 b with
  | some v => v.1
  | none => false
theorem e_58' (b : Body) : F_58 b = some ((rB b, ()) : Els [.bool]) := by
  obtain ⟨v, hv⟩ := t_58 b
  have : rB b = v.1 := by unfold rB; rw [hv]
  rw [hv, this]
def JOK (n : Nat) (j : Joint) : Prop := Ends2 n j ∧ 0 ≤ j.2.2 ∧ j.2.2 ≤ 4294967296000
theorem k_16_2 (w : World') (l : List Body) (hl : l.length ≤ 1000000) : ∃ y, R_16_2 (((), l, (l.length : Int), (0 : Int), ()), (w, ()), ()) = some y ∧ ((y = .inl (((), ()), (w, ()), ()) ∧ ∀ b ∈ l, rB b = true) ∨ (y = .inr ((false, ()), ()) ∧ ¬ ∀ b ∈ l, rB b = true)) := by
  refine rounds_mu (G := fun x => G_16_2 x.1.2.1 x.1.2.2.1 x.1.2.2.2.1 x.2.1)
    (fun x => ∃ k : Nat, k ≤ l.length ∧ (∀ b ∈ l.take k, rB b = true) ∧ x = (((), l, (l.length : Int), (k : Int), ()), (w, ()), ())) (fun x => l.length - x.1.2.2.2.1.toNat)
    (fun y => (y = .inl (((), ()), (w, ()), ()) ∧ ∀ b ∈ l, rB b = true) ∨ (y = .inr ((false, ()), ()) ∧ ¬ ∀ b ∈ l, rB b = true)) ?_ fuel (((), l, (l.length : Int), (0 : Int), ()), (w, ()), ()) ⟨0, Nat.zero_le _, fun j hj => by simp at hj, rfl⟩ (by
      show l.length - (0 : Int).toNat < fuel
      unfold fuel; omega)
  rintro x ⟨k, hk, hp, rfl⟩
  show (∃ x', G_16_2 l (l.length : Int) (k : Int) (w, ()) = _ ∧ _) ∨ ∃ y, G_16_2 l (l.length : Int) (k : Int) (w, ()) = _ ∧ _
  unfold G_16_2
  by_cases h : k < l.length
  · have hmu : l.length - (IntKind.i64.wrap ((k : Int) + 1)).toNat < l.length - (k : Int).toNat := by rw [wrap_up h (by omega)]; omega
    have hg := List.getElem?_eq_getElem h
    simp only [dec_lt h, cond_true, dec_in h, getD_of hg]
    rw [e_58']
    simp only [Option.bind_some]
    cases hb : rB l[k] with
    | true =>
      refine .inl ⟨_, rfl, ⟨k + 1, h, ?_, by rw [wrap_up h (by omega)]⟩, hmu⟩
      intro x hx
      rw [List.take_succ_eq_append_getElem h] at hx
      rcases List.mem_append.1 hx with hx | hx
      · exact hp x hx
      · rw [List.mem_singleton.1 hx]; exact hb
    | false =>
      refine .inr ⟨_, rfl, .inr ⟨rfl, fun ha => ?_⟩⟩
      rw [ha _ (List.getElem_mem h)] at hb
      cases hb
  · have : k = l.length := by omega
    subst this
    simp only [dec_end, cond_false]
    exact .inr ⟨_, rfl, .inl ⟨rfl, by rw [List.take_length] at hp; exact hp⟩⟩
theorem not_ends_of {a b n : Int} (h : (0 ≤ a ∧ a < n) ∧ (0 ≤ b ∧ b < n)) : ¬ ((if b < a then b else a) < 0) ∧ ¬ ((if b > a then b else a) ≥ n) := by
  constructor <;> split <;> omega
theorem k_16_8 (w : World') (js : List Joint) (hjs : js.length ≤ 1000000) : ∃ y, R_16_8 (((), js, (js.length : Int), (0 : Int), ()), (w, ()), ()) = some y ∧ ((y = .inl (((), ()), (w, ()), ()) ∧ ∀ j ∈ js, JOK w.2.1.length j) ∨ (y = .inr ((false, ()), ()) ∧ ¬ ∀ j ∈ js, JOK w.2.1.length j)) := by
  refine rounds_mu (G := fun x => G_16_8 x.1.2.1 x.1.2.2.1 x.1.2.2.2.1 x.2.1)
    (fun x => ∃ k : Nat, k ≤ js.length ∧ (∀ j ∈ js.take k, JOK w.2.1.length j) ∧ x = (((), js, (js.length : Int), (k : Int), ()), (w, ()), ())) (fun x => js.length - x.1.2.2.2.1.toNat)
    (fun y => (y = .inl (((), ()), (w, ()), ()) ∧ ∀ j ∈ js, JOK w.2.1.length j) ∨ (y = .inr ((false, ()), ()) ∧ ¬ ∀ j ∈ js, JOK w.2.1.length j)) ?_ fuel (((), js, (js.length : Int), (0 : Int), ()), (w, ()), ()) ⟨0, Nat.zero_le _, fun j hj => by simp at hj, rfl⟩ (by
      show js.length - (0 : Int).toNat < fuel
      unfold fuel; omega)
  rintro x ⟨k, hk, hp, rfl⟩
  show (∃ x', G_16_8 js (js.length : Int) (k : Int) (w, ()) = _ ∧ _) ∨ ∃ y, G_16_8 js (js.length : Int) (k : Int) (w, ()) = _ ∧ _
  unfold G_16_8
  by_cases h : k < js.length
  · have hmu : js.length - (IntKind.i64.wrap ((k : Int) + 1)).toNat < js.length - (k : Int).toNat := by rw [wrap_up h (by omega)]; omega
    have hg := List.getElem?_eq_getElem h
    obtain ⟨j, hjd⟩ : ∃ j, j = js[k] := ⟨_, rfl⟩
    rw [← hjd] at hg
    simp only [dec_lt h, cond_true, dec_in h, getD_of hg]
    have no (hN : ¬ JOK w.2.1.length j) : ∃ y, (some (Sum.inr (Sum.inr ((false, ()), ()))) : Option (LD_16_8.El ⊕ (LA_16_8.El ⊕ LB_16_8.El))) = some (.inr y) ∧ ((y = .inl (((), ()), (w, ()), ()) ∧ ∀ j ∈ js, JOK w.2.1.length j) ∨ (y = .inr ((false, ()), ()) ∧ ¬ ∀ j ∈ js, JOK w.2.1.length j)) := ⟨_, rfl, .inr ⟨rfl, fun ha => hN (by rw [hjd]; exact ha _ (List.getElem_mem h))⟩⟩
    cases c1 : decide ((if j.snd.fst < j.fst then j.snd.fst else j.fst) < (0 : Int)) with
    | true => exact .inr (no fun hN => (not_ends_of hN.1.1).1 (of_decide_eq_true c1))
    | false =>
      cases c2 : decide ((if j.snd.fst > j.fst then j.snd.fst else j.fst) ≥ ((List.length w.snd.fst : Nat) : Int)) with
      | true => exact .inr (no fun hN => (not_ends_of hN.1.1).2 (of_decide_eq_true c2))
      | false =>
        have hE : Ends w.2.1.length j := by
          have c1 := of_decide_eq_false c1
          have c2 := of_decide_eq_false c2
          exact ends_of j.1 j.2.1 _ c1 c2
        simp only [cond_false]
        cases c3 : (j.fst == j.snd.fst) with
        | true => exact .inr (no fun hN => hN.1.2 (by simpa using c3))
        | false =>
          simp only [cond_false]
          cases c4 : decide (j.snd.snd < (0 : Int)) with
          | true => exact .inr (no fun hN => absurd hN.2.1 (Int.not_le.2 (of_decide_eq_true c4)))
          | false =>
            simp only [cond_false]
            cases c5 : decide (j.snd.snd > (4294967296000 : Int)) with
            | true => exact .inr (no fun hN => absurd hN.2.2 (Int.not_le.2 (of_decide_eq_true c5)))
            | false =>
              have hJ : JOK w.2.1.length j := ⟨⟨hE, by simpa using c3⟩, Int.not_lt.1 (of_decide_eq_false c4), Int.not_lt.1 (of_decide_eq_false c5)⟩
              refine .inl ⟨_, rfl, ⟨k + 1, h, ?_, by rw [wrap_up h (by omega)]⟩, hmu⟩
              intro x hx
              rw [List.take_succ_eq_append_getElem h] at hx
              rcases List.mem_append.1 hx with hx | hx
              · exact hp x hx
              · rw [List.mem_singleton.1 hx, ← hjd]; exact hJ
  · have : k = js.length := by omega
    subst this
    simp only [dec_end, cond_false]
    exact .inr ⟨_, rfl, .inl ⟨rfl, by rw [List.take_length] at hp; exact hp⟩⟩
def Near (a m : Int) : Prop := -m ≤ a ∧ a ≤ m
theorem v_59 (a : Int) : ∃ b, F_59 a = some ((b, ()) : Els [.bool]) ∧ (b = true ↔ Near a 4294967296000) := by
  unfold F_59 Near
  by_cases h : a ≥ -4294967296000
  · rw [decide_eq_true h, cond_true]
    exact ⟨_, rfl, ⟨fun h2 => ⟨h, of_decide_eq_true h2⟩, fun h2 => decide_eq_true h2.2⟩⟩
  · rw [decide_eq_false h, cond_false]
    exact ⟨_, rfl, ⟨fun h2 => (by cases h2), fun h2 => absurd h2.1 h⟩⟩
/-- What a right world is. -/
def RW (w : World') : Prop := (∀ b ∈ w.2.1, rB b = true) ∧ (∀ j ∈ w.2.2, JOK w.2.1.length j) ∧ Near w.1.1 4294967296000 ∧ Near w.1.2 4294967296000
theorem rb_iff (w : World') (hl : w.2.1.length ≤ 1000000) (hj : w.2.2.length ≤ 1000000) : rb w = true ↔ RW w := by
  have key : ∃ b : Bool, F_16 w = some ((b, ()) : Els [.bool]) ∧ (b = true ↔ RW w) := by
    unfold F_16 RW
    obtain ⟨y, e, hy⟩ := k_16_2 w w.2.1 hl
    rw [e]
    rcases hy with ⟨rfl, hB⟩ | ⟨rfl, hB⟩
    · simp only [Option.bind_some, Sum.elim_inl]
      obtain ⟨y, e2, hy⟩ := k_16_8 w w.2.2 hj
      rw [e2]
      rcases hy with ⟨rfl, hE⟩ | ⟨rfl, hE⟩
      · simp only [Option.bind_some, Sum.elim_inl]
        obtain ⟨b1, h1, k1⟩ := v_59 w.1.1
        rw [h1]
        simp only [Option.bind_some]
        cases b1 with
        | false => exact ⟨false, rfl, ⟨fun h' => (by cases h'), fun h' => k1.2 h'.2.2.1⟩⟩
        | true =>
          obtain ⟨b2, h2, k2⟩ := v_59 w.1.2
          simp only [cond_true]
          rw [h2]
          exact ⟨b2, rfl, fun h => ⟨hB, hE, k1.1 rfl, k2.1 h⟩, fun h => k2.2 h.2.2.2⟩
      · exact ⟨false, rfl, ⟨fun h' => (by cases h'), fun h' => absurd h'.2.1 hE⟩⟩
    · exact ⟨false, rfl, ⟨fun h' => (by cases h'), fun h' => absurd h'.1 hB⟩⟩
  obtain ⟨b, e, h⟩ := key
  have hb : rb w = b := by unfold rb; rw [e]
  rw [hb]; exact h
/-! ### bodies that may be -/
def Im (p : Option (Els [.bool])) (Q : Prop) : Prop := p = some ((true, ()) : Els [.bool]) → Q
theorem Im.cond {c : Bool} {a b : Option (Els [.bool])} {Q : Prop} (h : Im a Q) (k : Im b Q) : Im (bif c then a else b) Q := by cases c <;> assumption
theorem Im.bind {α : Type} {p : Option α} {f : α → Option (Els [.bool])} {Q : Prop} (k : ∀ x, Im (f x) Q) : Im (p.bind f) Q := by
  intro h
  cases p with
  | none => cases h
  | some x => exact k x h
theorem Im.no {Q : Prop} : Im (some ((false, ()) : Els [.bool])) Q := fun h => by cases h
theorem v_150 (a b c : Int) : ∃ v, F_150 a b c = some ((v, ()) : Els [.bool]) ∧ (v = true ↔ b ≤ a ∧ a ≤ c) := by
  unfold F_150
  by_cases h : a ≥ b
  · rw [decide_eq_true h, cond_true]
    exact ⟨_, rfl, ⟨fun h2 => ⟨h, of_decide_eq_true h2⟩, fun h2 => decide_eq_true h2.2⟩⟩
  · rw [decide_eq_false h, cond_false]
    exact ⟨_, rfl, ⟨fun h2 => (by cases h2), fun h2 => absurd h2.1 h⟩⟩
theorem v_151 (a : Vec) (m : Int) (h0 : 0 ≤ m) (hm : m < 4611686018427387904) : ∃ v, F_151 a m = some ((v, ()) : Els [.bool]) ∧ (v = true ↔ Near a.1 m ∧ Near a.2 m) := by
  unfold F_151
  have e : IntKind.i64.wrap (0 - m) = -m := by rw [wrap64 (by omega) (by omega)]; omega
  rw [e]
  obtain ⟨b1, h1, k1⟩ := v_150 a.1 (-m) m
  rw [h1]
  simp only [Option.bind_some]
  cases b1 with
  | false => exact ⟨_, rfl, ⟨fun h' => (by cases h'), fun h' => k1.2 h'.1⟩⟩
  | true =>
    obtain ⟨b2, h2, k2⟩ := v_150 a.2 (-m) m
    simp only [cond_true]
    rw [h2]
    exact ⟨_, rfl, fun h => ⟨k1.1 rfl, k2.1 h⟩, fun h => k2.2 h.2⟩
def NearB (b : Body) : Prop := (Near b.2.2.2.1.1 42949672960000 ∧ Near b.2.2.2.1.2 42949672960000) ∧ (Near b.2.2.2.2.1 4294967296000000 ∧ Near b.2.2.2.2.2 4294967296000000)
theorem tail_near (a : Body) : Im ((F_151 a.snd.snd.snd.fst (42949672960000 : Int)).bind fun v => bif v.fst then (F_151 a.snd.snd.snd.snd (4294967296000000 : Int)).bind fun u => Option.some ((u.fst, ()) : Els [.bool]) else Option.some (Bool.false, ())) (NearB a) := by
  obtain ⟨b1, h1, k1⟩ := v_151 a.2.2.2.1 42949672960000 (by omega) (by omega)
  obtain ⟨b2, h2, k2⟩ := v_151 a.2.2.2.2 4294967296000000 (by omega) (by omega)
  rw [h1]
  simp only [Option.bind_some]
  cases b1 with
  | false => exact Im.no
  | true =>
    simp only [cond_true]
    rw [h2]
    intro h
    have h : some ((b2, ()) : Els [.bool]) = some (true, ()) := h
    injection h with h
    have h : b2 = true := congrArg Prod.fst h
    exact ⟨k1.1 rfl, k2.1 h⟩
theorem rB_near {b : Body} (h : rB b = true) : NearB b := by
  have key : Im (F_58 b) (NearB b) := (Im.bind fun _ => (Im.cond Im.no (Im.bind fun _ => (Im.cond Im.no (Im.cond (Im.cond Im.no (Im.cond (Im.bind fun _ => (Im.cond Im.no (Im.cond (Im.cond Im.no (Im.cond (Im.bind fun _ => (Im.cond Im.no (tail_near b))) (tail_near b))) (Im.cond (Im.bind fun _ => (Im.cond Im.no (tail_near b))) (tail_near b))))) (Im.cond (Im.cond Im.no (Im.cond (Im.bind fun _ => (Im.cond Im.no (tail_near b))) (tail_near b))) (Im.cond (Im.bind fun _ => (Im.cond Im.no (tail_near b))) (tail_near b))))) (Im.cond (Im.bind fun _ => (Im.cond Im.no (Im.cond (Im.cond Im.no (Im.cond (Im.bind fun _ => (Im.cond Im.no (tail_near b))) (tail_near b))) (Im.cond (Im.bind fun _ => (Im.cond Im.no (tail_near b))) (tail_near b))))) (Im.cond (Im.cond Im.no (Im.cond (Im.bind fun _ => (Im.cond Im.no (tail_near b))) (tail_near b))) (Im.cond (Im.bind fun _ => (Im.cond Im.no (tail_near b))) (tail_near b)))))))))
  exact key (by rw [e_58', h])
end Go.DI.S

