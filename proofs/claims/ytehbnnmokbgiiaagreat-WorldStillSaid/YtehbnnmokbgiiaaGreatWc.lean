import Derived.Test.YtehbnnmokbgiiaaGreatWb
import Derived.KernelRfl
/- What a step, and many, come to, plain. No conditions. -/
/-! Plain: the pairs of boxes that meet. -/
set_option linter.unusedVariables false
set_option linter.unusedSimpArgs false
set_option maxRecDepth 100000
namespace Go.DI.S
open Go.Proofs
section
variable {bs : List Box} {n : Nat}
theorem q_325_4 (hn : n ≤ 1000000000) (a i : Nat) (b : Int) (hi : i < n) (l : List Int) (hl : Row (At bs) n l) : ∃ l', R_325_4 (((), (a : Int), b, (), (i : Int), (i : Int), ()), l, (bs, ()), ()) = some (.inl (((), (a : Int), b, (), (i : Int), ()), l', (bs, ()), ())) ∧ Row (At bs) n l' := by
  have := rounds_mu (G := fun x => G_325_4 x.1.2.1 x.1.2.2.1 x.1.2.2.2.2.1 x.1.2.2.2.2.2.1 x.2.1 x.2.2.1)
    (fun x => ∃ (j : Nat) (m : List Int), j < n ∧ Row (At bs) n m ∧ x = (((), (a : Int), b, (), (i : Int), (j : Int), ()), m, (bs, ()), ())) (fun x => x.1.2.2.2.2.2.1.toNat)
    (fun y => ∃ m, Row (At bs) n m ∧ y = .inl (((), (a : Int), b, (), (i : Int), ()), m, (bs, ()), ())) ?_ fuel (((), (a : Int), b, (), (i : Int), (i : Int), ()), l, (bs, ()), ()) ⟨i, l, hi, hl, rfl⟩ (by
      show (i : Int).toNat < fuel
      have := fuel_lt hn; omega)
  · obtain ⟨y, h, m, h1, rfl⟩ := this
    exact ⟨m, h, h1⟩
  · rintro x ⟨j, m, hj, hm, rfl⟩
    show (∃ x', G_325_4 (a : Int) b (i : Int) (j : Int) m (bs, ()) = _ ∧ _) ∨ ∃ y, G_325_4 (a : Int) b (i : Int) (j : Int) m (bs, ()) = _ ∧ _
    unfold G_325_4
    by_cases h : (j : Int) > (a : Int)
    · obtain ⟨v, hv⟩ := t_287 (m.getD j 0) (m.getD (j - 1) 0) bs (hm.get hj) (hm.get (by omega))
      simp only [decide_eq_true h, cond_true, down1 (j := j) (by omega) (by omega), hm.in hj, hm.in (i := j - 1) (by omega), Int.toNat_natCast, hv, Option.bind_some, List.length_set]
      by_cases hc : v < 0
      · simp only [decide_eq_true hc, cond_true]
        refine .inl ⟨_, rfl, ⟨j - 1, _, by omega, hm.swap hj (by omega), rfl⟩, ?_⟩
        show ((j - 1 : Nat) : Int).toNat < (j : Int).toNat
        omega
      · simp only [decide_eq_false hc, cond_false]
        exact .inr ⟨_, rfl, m, hm, rfl⟩
    · simp only [decide_eq_false h, cond_false]
      exact .inr ⟨_, rfl, m, hm, rfl⟩
theorem t_325 (hn : n ≤ 1000000000) (a b : Nat) (ha : a ≤ n) (hb : b ≤ n) (l : List Int) (hl : Row (At bs) n l) : ∃ l', F_325 (a : Int) (b : Int) l (bs, ()) = some ((), l', (bs, ()), ()) ∧ Row (At bs) n l' := by
  have := rounds_mu (G := fun x => G_325_1 x.1.2.1 x.1.2.2.1 x.1.2.2.2.2.1 x.2.1 x.2.2.1)
    (fun x => ∃ (i : Nat) (m : List Int), i ≤ n + 1 ∧ Row (At bs) n m ∧ x = (((), (a : Int), (b : Int), (), (i : Int), ()), m, (bs, ()), ())) (fun x => n + 2 - x.1.2.2.2.2.1.toNat)
    (fun y => ∃ m, Row (At bs) n m ∧ y = .inl ((), m, (bs, ()), ())) ?_ fuel (((), (a : Int), (b : Int), (), ((a + 1 : Nat) : Int), ()), l, (bs, ()), ()) ⟨a + 1, l, by omega, hl, rfl⟩ (by
      show n + 2 - ((a + 1 : Nat) : Int).toNat < fuel
      have := fuel_lt hn; unfold fuel; omega)
  · obtain ⟨y, h, m, h1, rfl⟩ := this
    refine ⟨m, ?_, h1⟩
    unfold F_325 R_325_1
    rw [show IntKind.i64.wrap ((a : Int) + 1) = ((a + 1 : Nat) : Int) from wrap_up (n := n + 1) (by omega) (by omega), h]
    rfl
  · rintro x ⟨i, m, hi, hm, rfl⟩
    show (∃ x', G_325_1 (a : Int) (b : Int) (i : Int) m (bs, ()) = _ ∧ _) ∨ ∃ y, G_325_1 (a : Int) (b : Int) (i : Int) m (bs, ()) = _ ∧ _
    unfold G_325_1
    by_cases h : i < b
    · obtain ⟨m', h1, h2⟩ := q_325_4 hn a i (b : Int) (by omega) m hm
      simp only [dec_lt h, cond_true]
      rw [h1]
      refine .inl ⟨_, rfl, ⟨i + 1, m', by omega, h2, ?_⟩, ?_⟩
      · show (((), (a : Int), (b : Int), (), IntKind.i64.wrap ((i : Int) + 1), ()), m', (bs, ()), ()) = _
        rw [wrap_up h (by omega)]
      · show n + 2 - (IntKind.i64.wrap ((i : Int) + 1)).toNat < n + 2 - (i : Int).toNat
        rw [wrap_up h (by omega)]; omega
    · have h' : decide ((i : Int) < (b : Int)) = false := decide_eq_false (by omega)
      simp only [h', cond_false]
      exact .inr ⟨_, rfl, m, hm, rfl⟩
theorem t_309 (hn : n ≤ 19) (l : List Int) (hl : Row (At bs) n l) : ∃ l', F_309 (n : Int) l (bs, ()) = some ((), l', (bs, ()), ()) ∧ Row (At bs) n l' := by
  have h20 : decide ((20 : Int) ≤ (n : Int)) = false := decide_eq_false (by omega)
  have h21 : decide ((20 : Int) < (n : Int)) = false := decide_eq_false (by omega)
  have g1 : G_309_2 (n : Int) 20 0 20 l (bs, ()) = some (.inr (.inl (((), (n : Int), (), (20 : Int), (0 : Int), ()), l, (bs, ()), ()))) := by
    unfold G_309_2
    rw [h20]; rfl
  obtain ⟨l', e, h1⟩ := t_325 (bs := bs) (n := n) (by omega) 0 n (by omega) (Nat.le_refl _) l hl
  have e : F_325 0 (n : Int) l (bs, ()) = some ((), l', (bs, ()), ()) := e
  have g2 : G_309_7 (n : Int) 20 l' (bs, ()) = some (.inr (.inl ((), l', (bs, ()), ()))) := by
    unfold G_309_7
    rw [h21]; rfl
  refine ⟨l', ?_, h1⟩
  unfold F_309 R_309_2 R_309_7
  rw [show fuel = 18446744073709551615 + 1 from rfl, rounds_out (y := .inl (((), (n : Int), (), (20 : Int), (0 : Int), ()), l, (bs, ()), ())) g1]
  simp only [Option.bind_some, Sum.elim_inl]
  rw [e]
  simp only [Option.bind_some]
  rw [rounds_out (y := .inl ((), l', (bs, ()), ())) g2]
  rfl
theorem t_286 (hn : n ≤ 19) (l : List Int) (hl : Row (At bs) n l) : ∃ l', F_286 l (bs, ()) = some ((), l', (bs, ()), ()) ∧ Row (At bs) n l' := by
  obtain ⟨l', e, h⟩ := t_309 hn l hl
  refine ⟨l', ?_, h⟩
  unfold F_286
  rw [hl.1, e]; rfl
theorem t_233 (hn : bs.length ≤ 19) : ∃ l', F_233 bs = some ((l', ()) : Els [.list I]) ∧ Row (At bs) bs.length l' := by
  have := rounds_mu (G := fun x => G_233_3 x.1.2.2.1 x.1.2.2.2.1 x.2.1 x.2.2.1)
    (fun x => ∃ (k : Nat) (m : List Int), k ≤ bs.length ∧ Row (At bs) k m ∧ x = (((), (), (bs.length : Int), (k : Int), ()), (bs, ()), m, ())) (fun x => bs.length - x.1.2.2.2.1.toNat)
    (fun y => ∃ m, Row (At bs) bs.length m ∧ y = .inl (((), (), ()), (bs, ()), m, ())) ?_ fuel (((), (), (bs.length : Int), (0 : Int), ()), (bs, ()), [], ()) ⟨0, [], Nat.zero_le _, ⟨rfl, fun x hx => by simp at hx⟩, rfl⟩ (by
      show bs.length - (0 : Int).toNat < fuel
      unfold fuel; omega)
  · obtain ⟨y, h, m, h1, rfl⟩ := this
    obtain ⟨l', e, h2⟩ := t_286 hn m h1
    refine ⟨l', ?_, h2⟩
    unfold F_233 R_233_3
    rw [h]
    simp only [Option.bind_some, Sum.elim_inl]
    rw [e]; rfl
  · rintro x ⟨k, m, hk, hm, rfl⟩
    show (∃ x', G_233_3 (bs.length : Int) (k : Int) (bs, ()) m = _ ∧ _) ∨ ∃ y, G_233_3 (bs.length : Int) (k : Int) (bs, ()) m = _ ∧ _
    unfold G_233_3
    by_cases h : k < bs.length
    · have hsz : (((m.length + [(k : Int)].length) * 8).ble 70368744177664) = true := Nat.ble_eq_true_of_le (by rw [hm.1]; simp; omega)
      simp only [dec_lt h, cond_true]
      refine .inl ⟨_, by rw [hsz]; rfl, ⟨k + 1, m ++ [(k : Int)], h, ⟨by simp [hm.1], fun x hx => ?_⟩, by rw [wrap_up h (by omega)]⟩, ?_⟩
      · rcases List.mem_append.1 hx with hx | hx
        · exact hm.2 x hx
        · rw [List.mem_singleton.1 hx]; exact ⟨by omega, by omega⟩
      · show bs.length - (IntKind.i64.wrap ((k : Int) + 1)).toNat < bs.length - (k : Int).toNat
        rw [wrap_up h (by omega)]; omega
    · have : k = bs.length := by omega
      subst this
      simp only [dec_end, cond_false]
      exact .inr ⟨_, rfl, m, hm, rfl⟩
theorem t_234 (a b : Box) : Tot (F_234 a b) := by
  unfold F_234
  repeat' first | exact tot_some _ | apply tot_cond
/-- Both of a pair are places among boxes. -/
def Two (bs : List Box) (p : Pair) : Prop := At bs p.1 ∧ At bs p.2
theorem q_165_7 (x0 : Int) (h0 : At bs x0) (r4 r11 : List Int) (r12 r13 : Int) (us : List Int) (hu : ∀ x ∈ us, At bs x) (hul : us.length ≤ 1000) (acc : List Pair) (hacc : ∀ p ∈ acc, Two bs p) (hal : acc.length ≤ 1000) :
    ∃ acc', R_165_7 ((bs, (), r4, x0, r11, r12, r13, us, (us.length : Int), (0 : Int), ()), acc, ()) = some (.inl ((bs, (), r4, r11, r12, r13, ()), acc', ())) ∧ (∀ p ∈ acc', Two bs p) ∧ acc'.length ≤ acc.length + us.length := by
  have := rounds_mu (G := fun x => G_165_7 x.1.1 x.1.2.2.1 x.1.2.2.2.1 x.1.2.2.2.2.1 x.1.2.2.2.2.2.1 x.1.2.2.2.2.2.2.1 x.1.2.2.2.2.2.2.2.1 x.1.2.2.2.2.2.2.2.2.1 x.1.2.2.2.2.2.2.2.2.2.1 x.2.1)
    (fun x => ∃ (k : Nat) (m : List Pair), k ≤ us.length ∧ (∀ p ∈ m, Two bs p) ∧ m.length ≤ acc.length + k ∧ x = ((bs, (), r4, x0, r11, r12, r13, us, (us.length : Int), (k : Int), ()), m, ())) (fun x => us.length - x.1.2.2.2.2.2.2.2.2.2.1.toNat)
    (fun y => ∃ m : List Pair, (∀ p ∈ m, Two bs p) ∧ m.length ≤ acc.length + us.length ∧ y = .inl ((bs, (), r4, r11, r12, r13, ()), m, ())) ?_ fuel ((bs, (), r4, x0, r11, r12, r13, us, (us.length : Int), (0 : Int), ()), acc, ()) ⟨0, acc, Nat.zero_le _, hacc, Nat.le_refl _, rfl⟩ (by
      show us.length - (0 : Int).toNat < fuel
      unfold fuel; omega)
  · obtain ⟨y, h, m, h1, h2, rfl⟩ := this
    exact ⟨m, h, h1, h2⟩
  · rintro x ⟨k, m, hk, hm, hml, rfl⟩
    show (∃ x', G_165_7 bs r4 x0 r11 r12 r13 us (us.length : Int) (k : Int) m = _ ∧ _) ∨ ∃ y, G_165_7 bs r4 x0 r11 r12 r13 us (us.length : Int) (k : Int) m = _ ∧ _
    unfold G_165_7
    by_cases h : k < us.length
    · have hg := List.getElem?_eq_getElem h
      have hx := hu _ (List.getElem_mem h)
      have hd0 : decide ((0 : Int) ≤ x0 ∧ x0 < (bs.length : Int)) = true := decide_eq_true h0
      have hd1 : decide ((0 : Int) ≤ us[k] ∧ us[k] < (bs.length : Int)) = true := decide_eq_true hx
      obtain ⟨v, hv⟩ := t_234 (List.getD bs (Int.toNat x0) tBox.dflt) (List.getD bs (Int.toNat us[k]) tBox.dflt)
      simp only [dec_lt h, dec_in h, cond_true, getD_of hg, hd0, hd1, hv, Option.bind_some, wrap_up h (by omega)]
      have hmu : us.length - ((k + 1 : Nat) : Int).toNat < us.length - (k : Int).toNat := by omega
      cases v.1 with
      | false => exact .inl ⟨_, rfl, ⟨k + 1, m, h, hm, by omega, rfl⟩, hmu⟩
      | true =>
        have hsz : ∀ p : Pair, (((m.length + [p].length) * 16).ble 70368744177664) = true := fun p => Nat.ble_eq_true_of_le (by simp; omega)
        refine .inl ⟨_, by rw [cond_true, hsz]; rfl, ⟨k + 1, _, h, fun p hp => ?_, ?_, rfl⟩, hmu⟩
        · rcases List.mem_append.1 hp with hp | hp
          · exact hm p hp
          · rw [List.mem_singleton.1 hp]
            refine ⟨?_, ?_⟩
            · show At bs (if us[k] < x0 then us[k] else x0)
              split <;> assumption
            · show At bs (if us[k] > x0 then us[k] else x0)
              split <;> assumption
        · rw [List.length_append]
          simp only [List.length_singleton]
          omega
    · have : k = us.length := by omega
      subst this
      simp only [dec_end, cond_false]
      exact .inr ⟨_, rfl, m, hm, hml, rfl⟩
def tri : Nat → Nat
  | 0 => 0
  | m + 1 => tri m + m
theorem tri_10 : ∀ k : _root_.Fin 11, tri k.1 ≤ 45 := by decide
theorem t_165 (hn : bs.length ≤ 10) : ∃ ps, F_165 bs = some ((ps, ()) : Els [.list tPair]) ∧ (∀ p ∈ ps, Two bs p) ∧ ps.length ≤ 45 := by
  obtain ⟨ids, e1, hids⟩ := t_233 (bs := bs) (by omega)
  have h45 := tri_10 ⟨bs.length, by omega⟩
  have hl : ids.length = bs.length := hids.1
  have := rounds_mu (G := fun x => G_165_4 x.1.1 x.1.2.2.1 x.1.2.2.2.1 x.1.2.2.2.2.1 x.1.2.2.2.2.2.1 x.2.1)
    (fun x => ∃ (k : Nat) (m : List Pair), k ≤ ids.length ∧ (∀ p ∈ m, Two bs p) ∧ m.length + tri (ids.length - k) ≤ 45 ∧ x = ((bs, (), ids, ids, (ids.length : Int), (k : Int), ()), m, ())) (fun x => ids.length - x.1.2.2.2.2.2.1.toNat)
    (fun y => ∃ m : List Pair, (∀ p ∈ m, Two bs p) ∧ m.length ≤ 45 ∧ y = .inl (((), ()), m, ())) ?_ fuel ((bs, (), ids, ids, (ids.length : Int), (0 : Int), ()), [], ()) ⟨0, [], Nat.zero_le _, fun p hp => by simp at hp, by rw [hl, Nat.sub_zero]; simpa using h45, rfl⟩ (by
      show ids.length - (0 : Int).toNat < fuel
      unfold fuel; omega)
  · obtain ⟨y, h, m, h1, h2, rfl⟩ := this
    obtain ⟨l', e, h3⟩ := t_235 (P := Two bs) (n := m.length) (by omega) m ⟨rfl, h1⟩
    refine ⟨l', ?_, h3.2, by rw [h3.1]; exact h2⟩
    unfold F_165 R_165_4
    rw [e1]
    simp only [Option.bind_some]
    rw [h]
    simp only [Option.bind_some, Sum.elim_inl]
    rw [e]; rfl
  · rintro x ⟨k, m, hk, hm, hml, rfl⟩
    show (∃ x', G_165_4 bs ids ids (ids.length : Int) (k : Int) m = _ ∧ _) ∨ ∃ y, G_165_4 bs ids ids (ids.length : Int) (k : Int) m = _ ∧ _
    unfold G_165_4
    by_cases h : k < ids.length
    · have hg := List.getElem?_eq_getElem h
      have hx := hids.2 _ (List.getElem_mem h)
      have hd : decide ((0 : Int) ≤ ((k + 1 : Nat) : Int) ∧ ((k + 1 : Nat) : Int) ≤ (ids.length : Int)) = true := decide_eq_true (by omega)
      simp only [dec_lt h, dec_in h, cond_true, getD_of hg, wrap_up h (by omega), hd, Int.toNat_natCast]
      obtain ⟨us, hus⟩ : ∃ us, us = List.take (ids.length - (k + 1)) (List.drop (k + 1) ids) := ⟨_, rfl⟩
      have hul : us.length = ids.length - (k + 1) := by rw [hus]; simp
      rw [← hus]
      have htri : tri (ids.length - k) = tri (ids.length - (k + 1)) + (ids.length - (k + 1)) := by
        obtain ⟨d, hd⟩ : ∃ d, ids.length - k = d + 1 := ⟨ids.length - k - 1, by omega⟩
        have hd2 : ids.length - (k + 1) = d := by omega
        rw [hd, hd2]; rfl
      obtain ⟨acc', e, h1, h2⟩ := q_165_7 (bs := bs) (List.getD ids k 0) (hids.get (d := 0) (by omega)) ids ids (ids.length : Int) (k : Int) us (fun x hx => by
        rw [hus] at hx
        exact hids.2 x (List.mem_of_mem_drop (List.mem_of_mem_take hx))) (by omega) m hm (by omega)
      rw [e]
      refine .inl ⟨_, rfl, ⟨k + 1, acc', h, h1, by omega, ?_⟩, ?_⟩
      · show ((bs, (), ids, ids, (ids.length : Int), IntKind.i64.wrap ((k : Int) + 1), ()), acc', ()) = _
        rw [wrap_up h (by omega)]
      · show ids.length - (IntKind.i64.wrap ((k : Int) + 1)).toNat < ids.length - (k : Int).toNat
        rw [wrap_up h (by omega)]; omega
    · have : k = ids.length := by omega
      subst this
      simp only [dec_end, cond_false]
      exact .inr ⟨_, rfl, m, hm, by omega, rfl⟩
end
end Go.DI.S

/-! Plain: a step runs through, or fails as it may. -/
set_option linter.unusedVariables false
set_option linter.unusedSimpArgs false
set_option maxRecDepth 100000
namespace Go.DI.S
open Go.Proofs
/-- What a part of a step comes to: as many bodies, or a fault. -/
def Bd (n : Nat) (p : Option ((Unit × List Body × Unit) ⊕ Int)) : Prop := ∃ y, p = some y ∧ Sum.elim (fun y => y.2.1.length = n) (fun e => e = 3 ∨ e = 4) y
abbrev Comp := Vec × Unit × List Joint × Unit
section
variable {n : Nat}
theorem in_len {α : Type} {m : List α} (hm : m.length = n) {k : Nat} (h : k < n) : decide ((0 : Int) ≤ (k : Int) ∧ (k : Int) < ((m.length : Nat) : Int)) = true := by rw [hm]; exact dec_in h
theorem t_74 (hn : n ≤ 1000000) (g : Vec) (js : List Joint) (l : List Body) (hl : l.length = n) : Bd n (F_74 (g, (), js, ()) l) := by
  have := rounds_mu (G := fun x => G_74_2 x.1.2.2.1 x.1.2.2.2.1 x.2.1 x.2.2.1)
    (fun x => ∃ (k : Nat) (m : List Body), k ≤ n ∧ m.length = n ∧ x = (((), (), (n : Int), (k : Int), ()), m, (g, (), js, ()), ())) (fun x => n - x.1.2.2.2.1.toNat)
    (fun y => (∃ m : List Body, m.length = n ∧ y = .inl (.inl ((), m, ()))) ∨ ∃ e, y = .inr e ∧ (e = 3 ∨ e = 4)) ?_ fuel (((), (), (n : Int), (0 : Int), ()), l, (g, (), js, ()), ()) ⟨0, l, Nat.zero_le _, hl, rfl⟩ (by
      show n - (0 : Int).toNat < fuel
      unfold fuel; omega)
  · obtain ⟨y, h, hy⟩ := this
    unfold F_74 R_74_2
    rw [hl, h]
    rcases hy with ⟨m, hm, rfl⟩ | ⟨e, rfl, he⟩
    · exact ⟨_, rfl, hm⟩
    · exact ⟨_, rfl, he⟩
  · rintro x ⟨k, m, hk, hm, rfl⟩
    show (∃ x', G_74_2 (n : Int) (k : Int) m (g, (), js, ()) = _ ∧ _) ∨ ∃ y, G_74_2 (n : Int) (k : Int) m (g, (), js, ()) = _ ∧ _
    unfold G_74_2
    by_cases h : k < n
    · have hmu : n - (IntKind.i64.wrap ((k : Int) + 1)).toNat < n - (k : Int).toNat := by rw [wrap_up h (by omega)]; omega
      simp only [dec_lt h, cond_true, in_len hm h]
      cases ((m.getD (Int.toNat (k : Int)) tBody.dflt).snd.snd.fst != (0 : Int)) with
      | false => exact .inl ⟨_, rfl, ⟨k + 1, m, h, hm, by rw [wrap_up h (by omega)]⟩, hmu⟩
      | true =>
        simp only [cond_true]
        obtain ⟨y1, e1, h1⟩ := t_162 g (m.getD (Int.toNat (k : Int)) tBody.dflt).snd.snd.fst
        rw [e1]
        cases y1 with
        | inr e => exact .inr ⟨_, rfl, .inr ⟨e, rfl, h1⟩⟩
        | inl v1 =>
          simp only [Option.bind_some, Sum.elim_inl]
          obtain ⟨y2, e2, h2⟩ := t_161 v1.1 64
          rw [e2]
          cases y2 with
          | inr e => exact .inr ⟨_, rfl, .inr ⟨e, rfl, h2⟩⟩
          | inl v2 =>
            simp only [Option.bind_some, Sum.elim_inl]
            obtain ⟨y3, e3, h3⟩ := t_62 (m.getD (Int.toNat (k : Int)) tBody.dflt).snd.snd.snd.snd v2.1
            rw [e3]
            cases y3 with
            | inr e => exact .inr ⟨_, rfl, .inr ⟨e, rfl, h3⟩⟩
            | inl v3 =>
              simp only [Option.bind_some, Sum.elim_inl, cond_true]
              exact .inl ⟨_, rfl, ⟨k + 1, _, h, List.length_set.trans hm, by rw [wrap_up h (by omega)]⟩, hmu⟩
    · have : k = n := by omega
      subst this
      simp only [dec_end, cond_false]
      exact .inr ⟨_, rfl, .inl ⟨m, hm, rfl⟩⟩
theorem t_77 (hn : n ≤ 1000000) (g : Vec) (js : List Joint) (l : List Body) (hl : l.length = n) : Bd n (F_77 (g, (), js, ()) l) := by
  have := rounds_mu (G := fun x => G_77_2 x.1.2.2.1 x.1.2.2.2.1 x.2.1 x.2.2.1)
    (fun x => ∃ (k : Nat) (m : List Body), k ≤ n ∧ m.length = n ∧ x = (((), (), (n : Int), (k : Int), ()), m, (g, (), js, ()), ())) (fun x => n - x.1.2.2.2.1.toNat)
    (fun y => (∃ m : List Body, m.length = n ∧ y = .inl (.inl ((), m, ()))) ∨ ∃ e, y = .inr e ∧ (e = 3 ∨ e = 4)) ?_ fuel (((), (), (n : Int), (0 : Int), ()), l, (g, (), js, ()), ()) ⟨0, l, Nat.zero_le _, hl, rfl⟩ (by
      show n - (0 : Int).toNat < fuel
      unfold fuel; omega)
  · obtain ⟨y, h, hy⟩ := this
    unfold F_77 R_77_2
    rw [hl, h]
    rcases hy with ⟨m, hm, rfl⟩ | ⟨e, rfl, he⟩
    · exact ⟨_, rfl, hm⟩
    · exact ⟨_, rfl, he⟩
  · rintro x ⟨k, m, hk, hm, rfl⟩
    show (∃ x', G_77_2 (n : Int) (k : Int) m (g, (), js, ()) = _ ∧ _) ∨ ∃ y, G_77_2 (n : Int) (k : Int) m (g, (), js, ()) = _ ∧ _
    unfold G_77_2
    by_cases h : k < n
    · have hmu : n - (IntKind.i64.wrap ((k : Int) + 1)).toNat < n - (k : Int).toNat := by rw [wrap_up h (by omega)]; omega
      simp only [dec_lt h, cond_true, in_len hm h]
      cases ((m.getD (Int.toNat (k : Int)) tBody.dflt).snd.snd.fst != (0 : Int)) with
      | false => exact .inl ⟨_, rfl, ⟨k + 1, m, h, hm, by rw [wrap_up h (by omega)]⟩, hmu⟩
      | true =>
        simp only [cond_true]
        obtain ⟨y1, e1, h1⟩ := t_168 (m.getD (Int.toNat (k : Int)) tBody.dflt)
        rw [e1]
        cases y1 with
        | inr e => exact .inr ⟨_, rfl, .inr ⟨e, rfl, h1⟩⟩
        | inl v1 =>
          simp only [Option.bind_some, Sum.elim_inl]
          obtain ⟨y2, e2, h2⟩ := t_161 v1.1 64
          rw [e2]
          cases y2 with
          | inr e => exact .inr ⟨_, rfl, .inr ⟨e, rfl, h2⟩⟩
          | inl v2 =>
            simp only [Option.bind_some, Sum.elim_inl]
            obtain ⟨y3, e3, h3⟩ := t_62 (m.getD (Int.toNat (k : Int)) tBody.dflt).snd.snd.snd.fst v2.1
            rw [e3]
            cases y3 with
            | inr e => exact .inr ⟨_, rfl, .inr ⟨e, rfl, h3⟩⟩
            | inl v3 =>
              simp only [Option.bind_some, Sum.elim_inl, cond_true]
              exact .inl ⟨_, rfl, ⟨k + 1, _, h, List.length_set.trans hm, by rw [wrap_up h (by omega)]⟩, hmu⟩
    · have : k = n := by omega
      subst this
      simp only [dec_end, cond_false]
      exact .inr ⟨_, rfl, .inl ⟨m, hm, rfl⟩⟩
/-- A joint's ends are places among so many bodies. -/
def Ends (n : Nat) (j : Joint) : Prop := ((0 : Int) ≤ j.1 ∧ j.1 < (n : Int)) ∧ ((0 : Int) ≤ j.2.1 ∧ j.2.1 < (n : Int))
theorem q_75_4 (hn : n ≤ 1000000) (g : Vec) (js : List Joint) (hjs : js.length ≤ 1000000) (hj : ∀ j ∈ js, Ends n j) (r4 : Int) (l : List Body) (hl : l.length = n) :
    ∃ y, R_75_4 (((), r4, js, (js.length : Int), (0 : Int), ()), l, (g, (), js, ()), ()) = some y ∧ ((∃ m : List Body, m.length = n ∧ y = .inl (.inl (((), r4, ()), m, (g, (), js, ()), ()))) ∨ ∃ e, y = .inr e ∧ (e = 3 ∨ e = 4)) := by
  refine rounds_mu (G := fun x => G_75_4 x.1.2.1 x.1.2.2.1 x.1.2.2.2.1 x.1.2.2.2.2.1 x.2.1 x.2.2.1)
    (fun x => ∃ (k : Nat) (m : List Body), k ≤ js.length ∧ m.length = n ∧ x = (((), r4, js, (js.length : Int), (k : Int), ()), m, (g, (), js, ()), ())) (fun x => js.length - x.1.2.2.2.2.1.toNat)
    (fun y => (∃ m : List Body, m.length = n ∧ y = .inl (.inl (((), r4, ()), m, (g, (), js, ()), ()))) ∨ ∃ e, y = .inr e ∧ (e = 3 ∨ e = 4)) ?_ fuel (((), r4, js, (js.length : Int), (0 : Int), ()), l, (g, (), js, ()), ()) ⟨0, l, Nat.zero_le _, hl, rfl⟩ (by
      show js.length - (0 : Int).toNat < fuel
      unfold fuel; omega)
  rintro x ⟨k, m, hk, hm, rfl⟩
  show (∃ x', G_75_4 r4 js (js.length : Int) (k : Int) m (g, (), js, ()) = _ ∧ _) ∨ ∃ y, G_75_4 r4 js (js.length : Int) (k : Int) m (g, (), js, ()) = _ ∧ _
  unfold G_75_4
  by_cases h : k < js.length
  · have hmu : js.length - (IntKind.i64.wrap ((k : Int) + 1)).toNat < js.length - (k : Int).toNat := by rw [wrap_up h (by omega)]; omega
    obtain ⟨j, hjd⟩ : ∃ j, j = List.getD js (Int.toNat (k : Int)) tJoint.dflt := ⟨_, rfl⟩
    have hin : Ends n j := by
      rw [hjd, getD_of (List.getElem?_eq_getElem h)]
      exact hj _ (List.getElem_mem h)
    have d1 : decide ((0 : Int) ≤ j.1 ∧ j.1 < ((m.length : Nat) : Int)) = true := by rw [hm]; exact decide_eq_true hin.1
    have d2 : decide ((0 : Int) ≤ j.2.1 ∧ j.2.1 < ((m.length : Nat) : Int)) = true := by rw [hm]; exact decide_eq_true hin.2
    simp only [dec_lt h, cond_true, dec_in h, ← hjd, d1, d2, List.length_set]
    obtain ⟨y1, e1, h1⟩ := t_163 (m.getD (Int.toNat j.1) tBody.dflt) (m.getD (Int.toNat j.2.1) tBody.dflt) j.2.2
    rw [e1]
    cases y1 with
    | inr e => exact .inr ⟨_, rfl, .inr ⟨e, rfl, h1⟩⟩
    | inl v1 => exact .inl ⟨_, rfl, ⟨k + 1, _, h, List.length_set.trans (List.length_set.trans hm), by rw [wrap_up h (by omega)]⟩, hmu⟩
  · have : k = js.length := by omega
    subst this
    simp only [dec_end, cond_false]
    exact .inr ⟨_, rfl, .inl ⟨m, hm, rfl⟩⟩
theorem t_75 (hn : n ≤ 1000000) (g : Vec) (js : List Joint) (hjs : js.length ≤ 1000000) (hj : ∀ j ∈ js, Ends n j) (l : List Body) (hl : l.length = n) : Bd n (F_75 (g, (), js, ()) l) := by
  have := rounds_mu (G := fun x => G_75_2 x.1.2.1 x.2.1 x.2.2.1)
    (fun x => ∃ (k : Nat) (m : List Body), k ≤ 4 ∧ m.length = n ∧ x = (((), (k : Int), ()), m, (g, (), js, ()), ())) (fun x => 4 - x.1.2.1.toNat)
    (fun y => (∃ m : List Body, m.length = n ∧ y = .inl (.inl ((), m, ()))) ∨ ∃ e, y = .inr e ∧ (e = 3 ∨ e = 4)) ?_ fuel (((), (0 : Int), ()), l, (g, (), js, ()), ()) ⟨0, l, Nat.zero_le _, hl, rfl⟩ (by
      show 4 - (0 : Int).toNat < fuel
      unfold fuel; omega)
  · obtain ⟨y, h, hy⟩ := this
    unfold F_75 R_75_2
    rw [h]
    rcases hy with ⟨m, hm, rfl⟩ | ⟨e, rfl, he⟩
    · exact ⟨_, rfl, hm⟩
    · exact ⟨_, rfl, he⟩
  · rintro x ⟨k, m, hk, hm, rfl⟩
    show (∃ x', G_75_2 (k : Int) m (g, (), js, ()) = _ ∧ _) ∨ ∃ y, G_75_2 (k : Int) m (g, (), js, ()) = _ ∧ _
    unfold G_75_2
    by_cases h : k < 4
    · have hd : decide ((k : Int) < 4) = true := decide_eq_true (by omega)
      simp only [hd, cond_true]
      obtain ⟨y, e, hy⟩ := q_75_4 hn g js hjs hj (k : Int) m hm
      rw [e]
      rcases hy with ⟨m', hm', rfl⟩ | ⟨e', rfl, he⟩
      · refine .inl ⟨_, rfl, ⟨k + 1, m', h, hm', ?_⟩, ?_⟩
        · show (((), IntKind.i64.wrap ((k : Int) + 1), ()), m', (g, (), js, ()), ()) = _
          rw [wrap_up h (by omega)]
        · show 4 - (IntKind.i64.wrap ((k : Int) + 1)).toNat < 4 - (k : Int).toNat
          rw [wrap_up h (by omega)]; omega
      · exact .inr ⟨_, rfl, .inr ⟨e', rfl, he⟩⟩
    · have hd : decide ((k : Int) < 4) = false := decide_eq_false (by omega)
      simp only [hd, cond_false]
      exact .inr ⟨_, rfl, .inl ⟨m, hm, rfl⟩⟩
theorem q_76_3 (hn : n ≤ 1000000) (g : Vec) (js : List Joint) (l : List Body) (hl : l.length = n) :
    ∃ y, R_76_3 (((), (), (), (n : Int), (0 : Int), ()), l, (g, (), js, ()), [], ()) = some y ∧ ((∃ bs : List Box, bs.length = n ∧ y = .inl (.inl (((), (), ()), l, (g, (), js, ()), bs, ()))) ∨ ∃ e, y = .inr e ∧ (e = 3 ∨ e = 4)) := by
  refine rounds_mu (G := fun x => G_76_3 x.1.2.2.2.1 x.1.2.2.2.2.1 x.2.1 x.2.2.1 x.2.2.2.1)
    (fun x => ∃ (k : Nat) (bs : List Box), k ≤ n ∧ bs.length = k ∧ x = (((), (), (), (n : Int), (k : Int), ()), l, (g, (), js, ()), bs, ())) (fun x => n - x.1.2.2.2.2.1.toNat)
    (fun y => (∃ bs : List Box, bs.length = n ∧ y = .inl (.inl (((), (), ()), l, (g, (), js, ()), bs, ()))) ∨ ∃ e, y = .inr e ∧ (e = 3 ∨ e = 4)) ?_ fuel (((), (), (), (n : Int), (0 : Int), ()), l, (g, (), js, ()), [], ()) ⟨0, [], Nat.zero_le _, rfl, rfl⟩ (by
      show n - (0 : Int).toNat < fuel
      unfold fuel; omega)
  rintro x ⟨k, bs, hk, hbs, rfl⟩
  show (∃ x', G_76_3 (n : Int) (k : Int) l (g, (), js, ()) bs = _ ∧ _) ∨ ∃ y, G_76_3 (n : Int) (k : Int) l (g, (), js, ()) bs = _ ∧ _
  unfold G_76_3
  by_cases h : k < n
  · have hmu : n - (IntKind.i64.wrap ((k : Int) + 1)).toNat < n - (k : Int).toNat := by rw [wrap_up h (by omega)]; omega
    simp only [dec_lt h, cond_true, in_len hl h]
    obtain ⟨y1, e1, h1⟩ := t_164 (l.getD (Int.toNat (k : Int)) tBody.dflt)
    rw [e1]
    cases y1 with
    | inr e => exact .inr ⟨_, rfl, .inr ⟨e, rfl, h1⟩⟩
    | inl v1 =>
      have hsz : (((bs.length + [v1.1].length) * 32).ble 70368744177664) = true := Nat.ble_eq_true_of_le (by simp; omega)
      simp only [Option.bind_some, Sum.elim_inl]
      exact .inl ⟨_, by rw [hsz]; rfl, ⟨k + 1, bs ++ [v1.1], h, by simp [hbs], by rw [wrap_up h (by omega)]⟩, hmu⟩
  · have : k = n := by omega
    subst this
    simp only [dec_end, cond_false]
    exact .inr ⟨_, rfl, .inl ⟨bs, hbs, rfl⟩⟩
theorem q_76_8 (hn : n ≤ 1000000) (g : Vec) (js : List Joint) (bs : List Box) (hbs : bs.length = n) (ps : List Pair) (hps : ∀ p ∈ ps, Two bs p) (hpl : ps.length ≤ 1000000) (l : List Body) (hl : l.length = n) :
    ∃ y, R_76_8 (((), ps, (ps.length : Int), (0 : Int), ()), l, (g, (), js, ()), ()) = some y ∧ ((∃ m : List Body, m.length = n ∧ y = .inl (.inl ((), m, ()))) ∨ ∃ e, y = .inr e ∧ (e = 3 ∨ e = 4)) := by
  refine rounds_mu (G := fun x => G_76_8 x.1.2.1 x.1.2.2.1 x.1.2.2.2.1 x.2.1 x.2.2.1)
    (fun x => ∃ (k : Nat) (m : List Body), k ≤ ps.length ∧ m.length = n ∧ x = (((), ps, (ps.length : Int), (k : Int), ()), m, (g, (), js, ()), ())) (fun x => ps.length - x.1.2.2.2.1.toNat)
    (fun y => (∃ m : List Body, m.length = n ∧ y = .inl (.inl ((), m, ()))) ∨ ∃ e, y = .inr e ∧ (e = 3 ∨ e = 4)) ?_ fuel (((), ps, (ps.length : Int), (0 : Int), ()), l, (g, (), js, ()), ()) ⟨0, l, Nat.zero_le _, hl, rfl⟩ (by
      show ps.length - (0 : Int).toNat < fuel
      unfold fuel; omega)
  rintro x ⟨k, m, hk, hm, rfl⟩
  show (∃ x', G_76_8 ps (ps.length : Int) (k : Int) m (g, (), js, ()) = _ ∧ _) ∨ ∃ y, G_76_8 ps (ps.length : Int) (k : Int) m (g, (), js, ()) = _ ∧ _
  unfold G_76_8
  by_cases h : k < ps.length
  · have hmu : ps.length - (IntKind.i64.wrap ((k : Int) + 1)).toNat < ps.length - (k : Int).toNat := by rw [wrap_up h (by omega)]; omega
    obtain ⟨p, hpd⟩ : ∃ p, p = List.getD ps (Int.toNat (k : Int)) tPair.dflt := ⟨_, rfl⟩
    have hin : Two bs p := by
      rw [hpd, getD_of (List.getElem?_eq_getElem h)]
      exact hps _ (List.getElem_mem h)
    have d1 : decide ((0 : Int) ≤ p.1 ∧ p.1 < ((m.length : Nat) : Int)) = true := by rw [hm, ← hbs]; exact decide_eq_true hin.1
    have d2 : decide ((0 : Int) ≤ p.2 ∧ p.2 < ((m.length : Nat) : Int)) = true := by rw [hm, ← hbs]; exact decide_eq_true hin.2
    simp only [dec_lt h, cond_true, dec_in h, ← hpd, d1, d2, List.length_set]
    obtain ⟨y1, e1, h1⟩ := t_166 (m.getD (Int.toNat p.1) tBody.dflt) (m.getD (Int.toNat p.2) tBody.dflt)
    rw [e1]
    cases y1 with
    | inr e => exact .inr ⟨_, rfl, .inr ⟨e, rfl, h1⟩⟩
    | inl v1 =>
      simp only [Option.bind_some, Sum.elim_inl]
      cases v1.2.1 with
      | false => exact .inl ⟨_, rfl, ⟨k + 1, m, h, hm, by rw [wrap_up h (by omega)]⟩, hmu⟩
      | true =>
        simp only [cond_true]
        obtain ⟨y2, e2, h2⟩ := t_167 (m.getD (Int.toNat p.1) tBody.dflt) (m.getD (Int.toNat p.2) tBody.dflt) v1.1
        rw [e2]
        cases y2 with
        | inr e => exact .inr ⟨_, rfl, .inr ⟨e, rfl, h2⟩⟩
        | inl v2 => exact .inl ⟨_, rfl, ⟨k + 1, _, h, List.length_set.trans (List.length_set.trans hm), by rw [wrap_up h (by omega)]⟩, hmu⟩
  · have : k = ps.length := by omega
    subst this
    simp only [dec_end, cond_false]
    exact .inr ⟨_, rfl, .inl ⟨m, hm, rfl⟩⟩
end
end Go.DI.S

/-! Plain: which worlds are right; a step; many steps. -/
set_option linter.unusedVariables false
set_option linter.unusedSimpArgs false
set_option maxRecDepth 100000
namespace Go.DI.S
open Go.Proofs
theorem t_76 {n : Nat} (hn : n ≤ 10) (g : Vec) (js : List Joint) (l : List Body) (hl : l.length = n) (hp : ∀ bs : List Box, bs.length = n → ∃ ps, F_165 bs = some ((ps, ()) : Els [.list tPair]) ∧ (∀ p ∈ ps, Two bs p) ∧ ps.length ≤ 1000000) : Bd n (F_76 (g, (), js, ()) l) := by
  unfold F_76
  obtain ⟨y, e, hy⟩ := q_76_3 (n := n) (by omega) g js l hl
  rw [hl, e]
  rcases hy with ⟨bs, hbs, rfl⟩ | ⟨e', rfl, he⟩
  · obtain ⟨ps, e2, hps, hpl⟩ := hp bs hbs
    simp only [Option.bind_some, Sum.elim_inl]
    rw [e2]
    simp only [Option.bind_some]
    obtain ⟨y, e3, hy⟩ := q_76_8 (n := n) (by omega) g js bs hbs ps hps hpl l hl
    rw [e3]
    rcases hy with ⟨m, hm, rfl⟩ | ⟨e', rfl, he⟩
    · exact ⟨_, rfl, hm⟩
    · exact ⟨_, rfl, he⟩
  · exact ⟨_, rfl, he⟩
theorem t_73 (g : Vec) (js : List Joint) (l : List Body) (hl : l.length ≤ 10) (hjs : js.length ≤ 1000000) (hj : ∀ j ∈ js, Ends l.length j) (hp : ∀ bs : List Box, bs.length = l.length → ∃ ps, F_165 bs = some ((ps, ()) : Els [.list tPair]) ∧ (∀ p ∈ ps, Two bs p) ∧ ps.length ≤ 1000000) :
    (∃ m : List Body, m.length = l.length ∧ F_73 (g, (), js, ()) l = some (.inl ((), (g, (), js, ()), m, ()))) ∨ ∃ e, F_73 (g, (), js, ()) l = some (.inr e) ∧ (e = 3 ∨ e = 4) := by
  unfold F_73
  obtain ⟨y1, e1, h1⟩ := t_74 (n := l.length) (by omega) g js l rfl
  rw [e1]
  cases y1 with
  | inr e => exact .inr ⟨e, rfl, h1⟩
  | inl v1 =>
    simp only [Option.bind_some, Sum.elim_inl]
    obtain ⟨y2, e2, h2⟩ := t_75 (n := l.length) (by omega) g js hjs hj v1.2.1 h1
    rw [e2]
    cases y2 with
    | inr e => exact .inr ⟨e, rfl, h2⟩
    | inl v2 =>
      simp only [Option.bind_some, Sum.elim_inl]
      obtain ⟨y3, e3, h3⟩ := t_76 (n := l.length) hl g js v2.2.1 h2 hp
      rw [e3]
      cases y3 with
      | inr e => exact .inr ⟨e, rfl, h3⟩
      | inl v3 =>
        simp only [Option.bind_some, Sum.elim_inl]
        obtain ⟨y4, e4, h4⟩ := t_77 (n := l.length) (by omega) g js v3.2.1 h3
        rw [e4]
        cases y4 with
        | inr e => exact .inr ⟨e, rfl, h4⟩
        | inl v4 => exact .inl ⟨v4.2.1, h4, rfl⟩

/-! ### which worlds are right -/
theorem t_149 (a : Int) : Tot (F_149 a) := tot_cond (tot_some _) (tot_cond (tot_some _) (tot_some _))
theorem t_150 (a b c : Int) : Tot (F_150 a b c) := tot_cond (tot_some _) (tot_some _)
theorem t_151 (a : Vec) (b : Int) : Tot (F_151 a b) := tot_bind (t_150 _ _ _) fun _ => tot_cond (tot_bind (t_150 _ _ _) fun _ => tot_some _) (tot_some _)
theorem t_59 (a : Int) : Tot (F_59 a) := by
  unfold F_59
  repeat' first | exact tot_some _ | apply tot_cond
theorem t_58 (a : Body) : Tot (F_58 a) := (tot_bind (t_149 _) fun _ => (tot_cond (tot_some _) (tot_bind (t_150 _ _ _) fun _ => (tot_cond (tot_some _) (tot_cond (tot_cond (tot_some _) (tot_cond (tot_bind (t_150 _ _ _) fun _ => (tot_cond (tot_some _) (tot_cond (tot_cond (tot_some _) (tot_cond (tot_bind (t_150 _ _ _) fun _ => (tot_cond (tot_some _) (tot_bind (t_151 _ _) fun _ => (tot_cond (tot_bind (t_151 _ _) fun _ => (tot_some _)) (tot_some _))))) (tot_bind (t_151 _ _) fun _ => (tot_cond (tot_bind (t_151 _ _) fun _ => (tot_some _)) (tot_some _))))) (tot_cond (tot_bind (t_150 _ _ _) fun _ => (tot_cond (tot_some _) (tot_bind (t_151 _ _) fun _ => (tot_cond (tot_bind (t_151 _ _) fun _ => (tot_some _)) (tot_some _))))) (tot_bind (t_151 _ _) fun _ => (tot_cond (tot_bind (t_151 _ _) fun _ => (tot_some _)) (tot_some _))))))) (tot_cond (tot_cond (tot_some _) (tot_cond (tot_bind (t_150 _ _ _) fun _ => (tot_cond (tot_some _) (tot_bind (t_151 _ _) fun _ => (tot_cond (tot_bind (t_151 _ _) fun _ => (tot_some _)) (tot_some _))))) (tot_bind (t_151 _ _) fun _ => (tot_cond (tot_bind (t_151 _ _) fun _ => (tot_some _)) (tot_some _))))) (tot_cond (tot_bind (t_150 _ _ _) fun _ => (tot_cond (tot_some _) (tot_bind (t_151 _ _) fun _ => (tot_cond (tot_bind (t_151 _ _) fun _ => (tot_some _)) (tot_some _))))) (tot_bind (t_151 _ _) fun _ => (tot_cond (tot_bind (t_151 _ _) fun _ => (tot_some _)) (tot_some _))))))) (tot_cond (tot_bind (t_150 _ _ _) fun _ => (tot_cond (tot_some _) (tot_cond (tot_cond (tot_some _) (tot_cond (tot_bind (t_150 _ _ _) fun _ => (tot_cond (tot_some _) (tot_bind (t_151 _ _) fun _ => (tot_cond (tot_bind (t_151 _ _) fun _ => (tot_some _)) (tot_some _))))) (tot_bind (t_151 _ _) fun _ => (tot_cond (tot_bind (t_151 _ _) fun _ => (tot_some _)) (tot_some _))))) (tot_cond (tot_bind (t_150 _ _ _) fun _ => (tot_cond (tot_some _) (tot_bind (t_151 _ _) fun _ => (tot_cond (tot_bind (t_151 _ _) fun _ => (tot_some _)) (tot_some _))))) (tot_bind (t_151 _ _) fun _ => (tot_cond (tot_bind (t_151 _ _) fun _ => (tot_some _)) (tot_some _))))))) (tot_cond (tot_cond (tot_some _) (tot_cond (tot_bind (t_150 _ _ _) fun _ => (tot_cond (tot_some _) (tot_bind (t_151 _ _) fun _ => (tot_cond (tot_bind (t_151 _ _) fun _ => (tot_some _)) (tot_some _))))) (tot_bind (t_151 _ _) fun _ => (tot_cond (tot_bind (t_151 _ _) fun _ => (tot_some _)) (tot_some _))))) (tot_cond (tot_bind (t_150 _ _ _) fun _ => (tot_cond (tot_some _) (tot_bind (t_151 _ _) fun _ => (tot_cond (tot_bind (t_151 _ _) fun _ => (tot_some _)) (tot_some _))))) (tot_bind (t_151 _ _) fun _ => (tot_cond (tot_bind (t_151 _ _) fun _ => (tot_some _)) (tot_some _)))))))))))
theorem q_16_2 (w : World') (l : List Body) (hl : l.length ≤ 1000000) : ∃ y, R_16_2 (((), l, (l.length : Int), (0 : Int), ()), (w, ()), ()) = some y ∧ (y = .inl (((), ()), (w, ()), ()) ∨ y = .inr ((false, ()), ())) := by
  refine rounds_mu (G := fun x => G_16_2 x.1.2.1 x.1.2.2.1 x.1.2.2.2.1 x.2.1)
    (fun x => ∃ k : Nat, k ≤ l.length ∧ x = (((), l, (l.length : Int), (k : Int), ()), (w, ()), ())) (fun x => l.length - x.1.2.2.2.1.toNat)
    (fun y => y = .inl (((), ()), (w, ()), ()) ∨ y = .inr ((false, ()), ())) ?_ fuel (((), l, (l.length : Int), (0 : Int), ()), (w, ()), ()) ⟨0, Nat.zero_le _, rfl⟩ (by
      show l.length - (0 : Int).toNat < fuel
      unfold fuel; omega)
  rintro x ⟨k, hk, rfl⟩
  show (∃ x', G_16_2 l (l.length : Int) (k : Int) (w, ()) = _ ∧ _) ∨ ∃ y, G_16_2 l (l.length : Int) (k : Int) (w, ()) = _ ∧ _
  unfold G_16_2
  by_cases h : k < l.length
  · have hmu : l.length - (IntKind.i64.wrap ((k : Int) + 1)).toNat < l.length - (k : Int).toNat := by rw [wrap_up h (by omega)]; omega
    obtain ⟨v, hv⟩ := t_58 (List.getD l (Int.toNat (k : Int)) tBody.dflt)
    simp only [dec_lt h, cond_true, dec_in h]
    rw [hv]
    simp only [Option.bind_some]
    cases v.1 with
    | true => exact .inl ⟨_, rfl, ⟨k + 1, h, by rw [wrap_up h (by omega)]⟩, hmu⟩
    | false => exact .inr ⟨_, rfl, .inr rfl⟩
  · have : k = l.length := by omega
    subst this
    simp only [dec_end, cond_false]
    exact .inr ⟨_, rfl, .inl rfl⟩
theorem ends_of (a b n : Int) (c1 : ¬ ((if b < a then b else a) < 0)) (c2 : ¬ ((if b > a then b else a) ≥ n)) : (0 ≤ a ∧ a < n) ∧ (0 ≤ b ∧ b < n) := by
  split at c1 <;> split at c2 <;> refine ⟨⟨?_, ?_⟩, ?_, ?_⟩ <;> omega
theorem q_16_8 (w : World') (js : List Joint) (hjs : js.length ≤ 1000000) : ∃ y, R_16_8 (((), js, (js.length : Int), (0 : Int), ()), (w, ()), ()) = some y ∧ ((y = .inl (((), ()), (w, ()), ()) ∧ ∀ j ∈ js, Ends w.2.1.length j) ∨ y = .inr ((false, ()), ())) := by
  refine rounds_mu (G := fun x => G_16_8 x.1.2.1 x.1.2.2.1 x.1.2.2.2.1 x.2.1)
    (fun x => ∃ k : Nat, k ≤ js.length ∧ (∀ j ∈ js.take k, Ends w.2.1.length j) ∧ x = (((), js, (js.length : Int), (k : Int), ()), (w, ()), ())) (fun x => js.length - x.1.2.2.2.1.toNat)
    (fun y => (y = .inl (((), ()), (w, ()), ()) ∧ ∀ j ∈ js, Ends w.2.1.length j) ∨ y = .inr ((false, ()), ())) ?_ fuel (((), js, (js.length : Int), (0 : Int), ()), (w, ()), ()) ⟨0, Nat.zero_le _, fun j hj => by simp at hj, rfl⟩ (by
      show js.length - (0 : Int).toNat < fuel
      unfold fuel; omega)
  rintro x ⟨k, hk, hp, rfl⟩
  show (∃ x', G_16_8 js (js.length : Int) (k : Int) (w, ()) = _ ∧ _) ∨ ∃ y, G_16_8 js (js.length : Int) (k : Int) (w, ()) = _ ∧ _
  unfold G_16_8
  by_cases h : k < js.length
  · have hmu : js.length - (IntKind.i64.wrap ((k : Int) + 1)).toNat < js.length - (k : Int).toNat := by rw [wrap_up h (by omega)]; omega
    have hg := List.getElem?_eq_getElem h
    obtain ⟨j, hjd⟩ : ∃ j, j = js[k] := ⟨_, rfl⟩
    rw [← hjd] at hg
    simp only [dec_lt h, cond_true, dec_in h, getD_of hg]
    have no : ∃ y, (some (Sum.inr (Sum.inr ((false, ()), ()))) : Option (LD_16_8.El ⊕ (LA_16_8.El ⊕ LB_16_8.El))) = some (.inr y) ∧ ((y = .inl (((), ()), (w, ()), ()) ∧ ∀ j ∈ js, Ends w.2.1.length j) ∨ y = .inr ((false, ()), ())) := ⟨_, rfl, .inr rfl⟩
    cases c1 : decide ((if j.snd.fst < j.fst then j.snd.fst else j.fst) < (0 : Int)) with
    | true => exact .inr no
    | false =>
      cases c2 : decide ((if j.snd.fst > j.fst then j.snd.fst else j.fst) ≥ ((List.length w.snd.fst : Nat) : Int)) with
      | true => exact .inr no
      | false =>
        have hE : Ends w.2.1.length j := by
          have c1 := of_decide_eq_false c1
          have c2 := of_decide_eq_false c2
          exact ends_of j.1 j.2.1 _ c1 c2
        have hnext : ∀ x ∈ js.take (k + 1), Ends w.2.1.length x := by
          intro x hx
          rw [List.take_succ_eq_append_getElem h] at hx
          rcases List.mem_append.1 hx with hx | hx
          · exact hp x hx
          · rw [List.mem_singleton.1 hx, ← hjd]; exact hE
        simp only [cond_false]
        cases (j.fst == j.snd.fst) with
        | true => exact .inr no
        | false =>
          simp only [cond_false]
          cases decide (j.snd.snd < (0 : Int)) with
          | true => exact .inr no
          | false =>
            simp only [cond_false]
            cases decide (j.snd.snd > (4294967296000 : Int)) with
            | true => exact .inr no
            | false => exact .inl ⟨_, rfl, ⟨k + 1, h, hnext, by rw [wrap_up h (by omega)]⟩, hmu⟩
  · have : k = js.length := by omega
    subst this
    simp only [dec_end, cond_false]
    exact .inr ⟨_, rfl, .inl ⟨rfl, by rw [List.take_length] at hp; exact hp⟩⟩
/-- May there be such a world? -/
noncomputable def rb (w : World') : Bool := match F_16 w with
  | some b => b.1
  | none => false
theorem t_16 (w : World') (hl : w.2.1.length ≤ 1000000) (hj : w.2.2.length ≤ 1000000) : F_16 w = some ((rb w, ()) : Els [.bool]) ∧ (rb w = true → ∀ j ∈ w.2.2, Ends w.2.1.length j) := by
  have key : ∃ b : Bool, F_16 w = some ((b, ()) : Els [.bool]) ∧ (b = true → ∀ j ∈ w.2.2, Ends w.2.1.length j) := by
    unfold F_16
    obtain ⟨y, e, hy⟩ := q_16_2 w w.2.1 hl
    rw [e]
    rcases hy with rfl | rfl
    · simp only [Option.bind_some, Sum.elim_inl]
      obtain ⟨y, e2, hy⟩ := q_16_8 w w.2.2 hj
      rw [e2]
      rcases hy with ⟨rfl, hE⟩ | rfl
      · simp only [Option.bind_some, Sum.elim_inl]
        obtain ⟨v, hv⟩ := t_59 w.1.1
        rw [hv]
        simp only [Option.bind_some]
        cases v.1 with
        | false => exact ⟨false, rfl, fun h => by cases h⟩
        | true =>
          obtain ⟨u, hu⟩ := t_59 w.1.2
          simp only [cond_true]
          rw [hu]
          exact ⟨u.1, rfl, fun _ => hE⟩
      · exact ⟨false, rfl, fun h => by cases h⟩
    · exact ⟨false, rfl, fun h => by cases h⟩
  obtain ⟨b, e, h⟩ := key
  have hb : rb w = b := by unfold rb; rw [e]
  rw [hb]
  exact ⟨e, h⟩
def zeroW : World' := ((0, 0), [], [])
theorem pairs_all (l : List Body) (hl : l.length ≤ 10) : ∀ bs : List Box, bs.length = l.length → ∃ ps, F_165 bs = some ((ps, ()) : Els [.list tPair]) ∧ (∀ p ∈ ps, Two bs p) ∧ ps.length ≤ 1000000 := by
  intro bs hbs
  obtain ⟨ps, e, h, h2⟩ := t_165 (bs := bs) (by omega)
  exact ⟨ps, e, h, by omega⟩
/-- A step: what it comes to. -/
theorem t_23 (w : World') (hl : w.2.1.length ≤ 10) (hj : w.2.2.length ≤ 1000) :
    ∃ (w' : World') (e : Int), F_23 w = some ((w', e, ()) : Els [tWorld, I]) ∧ ((rb w = false ∧ e = 9 ∧ w' = zeroW) ∨ (rb w = true ∧ ((e = 0 ∧ rb w' = true ∧ w'.2.1.length = w.2.1.length ∧ w'.1 = w.1 ∧ w'.2.2 = w.2.2) ∨ ((e = 3 ∨ e = 4) ∧ w' = zeroW)))) := by
  obtain ⟨e16, hE⟩ := t_16 w (by omega) (by omega)
  unfold F_23
  rw [e16]
  simp only [Option.bind_some]
  cases hr : rb w with
  | false => exact ⟨_, _, rfl, .inl ⟨rfl, rfl, rfl⟩⟩
  | true =>
    simp only [Bool.not_true, cond_false]
    have e56 : F_56 w.2.1 = some w.2.1 := by
      unfold F_56
      rw [show Nat.ble (List.length w.2.1 * 64) 70368744177664 = true from Nat.ble_eq_true_of_le (by omega)]; rfl
    have e57 : F_57 w.2.2 = some ((w.2.2, ()) : Els [.list tJoint]) := by
      unfold F_57 O_57
      rw [show Nat.ble (List.length w.2.2 * 24) 70368744177664 = true from Nat.ble_eq_true_of_le (by omega)]; rfl
    rw [e56]
    simp only [Option.bind_some]
    rw [e57]
    simp only [Option.bind_some]
    unfold F_60_73
    rcases t_73 w.1 w.2.2 w.2.1 hl (by omega) (hE hr) (pairs_all w.2.1 hl) with ⟨m, hm, e⟩ | ⟨e, h73, he⟩
    · rw [e]
      simp only [Option.bind_some, Sum.elim_inl]
      have h00 : ((0 : Int) == 0) = true := rfl
      rw [h00, cond_true]
      obtain ⟨e16', _⟩ := t_16 (w.1, m, w.2.2) (by show m.length ≤ 1000000; omega) (by show w.2.2.length ≤ 1000000; omega)
      rw [e16']
      simp only [Option.bind_some]
      cases hr' : rb (w.1, m, w.2.2) with
      | false => exact ⟨_, _, rfl, .inr ⟨trivial, .inr ⟨.inl rfl, rfl⟩⟩⟩
      | true => exact ⟨_, _, rfl, .inr ⟨trivial, .inl ⟨rfl, hr', hm, rfl, rfl⟩⟩⟩
    · rw [h73]
      simp only [Option.bind_some, Sum.elim_inr]
      rcases he with rfl | rfl
      · exact ⟨_, _, rfl, .inr ⟨trivial, .inr ⟨.inl rfl, rfl⟩⟩⟩
      · exact ⟨_, _, rfl, .inr ⟨trivial, .inr ⟨.inr rfl, rfl⟩⟩⟩
end Go.DI.S

/-! The first call's answer. -/
set_option maxRecDepth 100000
namespace Go.DI.S
theorem alive14 : F_14 = some (true, ()) := by kernel_rfl
end Go.DI.S

/-! Plain: many steps; worlds that may not be are refused. -/
set_option linter.unusedVariables false
set_option linter.unusedSimpArgs false
set_option maxRecDepth 100000
namespace Go.DI.S
open Go.Proofs
noncomputable def stp (w : World') : World' × Int := match F_23 w with
  | some y => (y.1, y.2.1)
  | none => (zeroW, 0)
def Good (w : World') : Prop := w.2.1.length ≤ 10 ∧ w.2.2.length ≤ 1000
theorem stp_ok {w : World'} (h : Good w) : F_23 w = some (((stp w).1, (stp w).2, ()) : Els [tWorld, I]) ∧ ((rb w = false ∧ (stp w).2 = 9 ∧ (stp w).1 = zeroW) ∨ (rb w = true ∧ (((stp w).2 = 0 ∧ rb (stp w).1 = true ∧ (stp w).1.2.1.length = w.2.1.length ∧ (stp w).1.1 = w.1 ∧ (stp w).1.2.2 = w.2.2) ∨ (((stp w).2 = 3 ∨ (stp w).2 = 4) ∧ (stp w).1 = zeroW)))) := by
  obtain ⟨w', e, hF, hP⟩ := t_23 w h.1 h.2
  have : stp w = (w', e) := by unfold stp; rw [hF]
  rw [this]
  exact ⟨hF, hP⟩
theorem Good.next {w : World'} (h : Good w) (h0 : (stp w).2 = 0) : Good (stp w).1 := by
  rcases (stp_ok h).2 with ⟨_, h9, _⟩ | ⟨_, ⟨_, _, k1, _, k2⟩ | ⟨h3, _⟩⟩
  · rw [h0] at h9; cases h9
  · exact ⟨by rw [k1]; exact h.1, by rw [k2]; exact h.2⟩
  · rw [h0] at h3; rcases h3 with h3 | h3 <;> cases h3
/-- So many steps, behind so many. -/
noncomputable def run : Nat → Nat → World' → World' × Int × Int
  | 0, _, w => (w, 0, 0)
  | m + 1, k, w => if (stp w).2 = 0 then run m (k + 1) (stp w).1 else (zeroW, ((k + 1 : Nat) : Int), (stp w).2)
theorem run_fail {w : World'} {k : Nat} : ∀ (m : Nat), (run m k w).2.2 ≠ 0 → (run m k w).1 = zeroW := by
  intro m
  induction m generalizing k w with
  | zero => intro h; exact absurd rfl h
  | succ m ih =>
    intro h
    unfold run at h ⊢
    split at h
    · rename_i h0; rw [if_pos h0]; exact ih h
    · rename_i h0; rw [if_neg h0]
theorem run_right : ∀ (m k : Nat) (w : World'), Good w → rb w = true → ((run m k w).2.2 = 0 ∧ (run m k w).2.1 = 0 ∧ rb (run m k w).1 = true ∧ Good (run m k w).1) ∨ (((run m k w).2.2 = 3 ∨ (run m k w).2.2 = 4) ∧ (k : Int) < (run m k w).2.1 ∧ (run m k w).2.1 ≤ ((k + m : Nat) : Int))
  | 0, k, w, hg, hr => .inl ⟨rfl, rfl, hr, hg⟩
  | m + 1, k, w, hg, hr => by
    have hs := (stp_ok hg).2
    by_cases h0 : (stp w).2 = 0
    · have e : run (m + 1) k w = run m (k + 1) (stp w).1 := by
        show (if (stp w).2 = 0 then _ else _) = _
        rw [if_pos h0]
      rw [e]
      have hr' : rb (stp w).1 = true := by
        rcases hs with ⟨h1, _⟩ | ⟨_, ⟨_, h1, _⟩ | ⟨h3, _⟩⟩
        · rw [hr] at h1; cases h1
        · exact h1
        · rw [h0] at h3; rcases h3 with h3 | h3 <;> cases h3
      rcases run_right m (k + 1) (stp w).1 (hg.next h0) hr' with h | ⟨h1, h2, h3⟩
      · exact .inl h
      · exact .inr ⟨h1, by omega, by omega⟩
    · have e : run (m + 1) k w = (zeroW, ((k + 1 : Nat) : Int), (stp w).2) := by
        show (if (stp w).2 = 0 then _ else _) = _
        rw [if_neg h0]
      rw [e]
      right
      rcases hs with ⟨h1, _⟩ | ⟨_, ⟨h1, _⟩ | ⟨h3, _⟩⟩
      · rw [hr] at h1; cases h1
      · exact absurd h1 h0
      · exact ⟨h3, by show (k : Int) < ((k + 1 : Nat) : Int); omega, by show ((k + 1 : Nat) : Int) ≤ _; omega⟩
theorem run_loop (n : Nat) (hn : n ≤ 1000) : ∀ (m k f : Nat) (w : World'), k + m = n → m < f → Good w →
    roundsT (fun x => G_15_5 x.1.2.2.1 x.1.2.2.2.1 x.2.1 x.2.2.1) f (((), (), (n : Int), (k : Int), ()), (w, ()), (zeroW, ()), ()) =
      some (if (run m k w).2.2 = 0 then .inl (((), (), ()), ((run m k w).1, ()), (zeroW, ()), ()) else .inr (((), (run m k w).2.1, (run m k w).2.2, ()), (zeroW, ()), ()))
  | 0, k, f, w, hk, hf, hg => by
    obtain ⟨f, rfl⟩ : ∃ j, f = j + 1 := ⟨f - 1, by omega⟩
    have : k = n := by omega
    subst this
    refine rounds_out ?_ f
    show G_15_5 (k : Int) (k : Int) (w, ()) (zeroW, ()) = _
    unfold G_15_5
    rw [dec_end]; rfl
  | m + 1, k, f, w, hk, hf, hg => by
    obtain ⟨f, rfl⟩ : ∃ j, f = j + 1 := ⟨f - 1, by omega⟩
    have hlt : k < n := by omega
    obtain ⟨hF, _⟩ := stp_ok hg
    by_cases h0 : (stp w).2 = 0
    · have e : run (m + 1) k w = run m (k + 1) (stp w).1 := by
        show (if (stp w).2 = 0 then _ else _) = _
        rw [if_pos h0]
      rw [e]
      have hG : G_15_5 (n : Int) (k : Int) (w, ()) (zeroW, ()) = some (.inl (((), (), (n : Int), ((k + 1 : Nat) : Int), ()), ((stp w).1, ()), (zeroW, ()), ())) := by
        unfold G_15_5
        rw [dec_lt hlt, cond_true, hF]
        simp only [Option.bind_some, h0, wrap_up hlt (by omega)]
        rfl
      rw [rounds_in (x' := (((), (), (n : Int), ((k + 1 : Nat) : Int), ()), ((stp w).1, ()), (zeroW, ()), ())) hG]
      exact run_loop n hn m (k + 1) f (stp w).1 (by omega) (by omega) (hg.next h0)
    · have e : run (m + 1) k w = (zeroW, ((k + 1 : Nat) : Int), (stp w).2) := by
        show (if (stp w).2 = 0 then _ else _) = _
        rw [if_neg h0]
      rw [e]
      have h00 : ((stp w).2 != (0 : Int)) = true := by simpa using h0
      have hG : G_15_5 (n : Int) (k : Int) (w, ()) (zeroW, ()) = some (.inr (.inr (((), ((k + 1 : Nat) : Int), (stp w).2, ()), (zeroW, ()), ()))) := by
        unfold G_15_5
        rw [dec_lt hlt, cond_true, hF]
        simp only [Option.bind_some, h00, wrap_up hlt (by omega), cond_true]
        rfl
      rw [rounds_out (y := .inr (((), ((k + 1 : Nat) : Int), (stp w).2, ()), (zeroW, ()), ())) hG]
      rw [if_neg h0]
theorem e56 (w : World') (hg : Good w) : F_56 w.2.1 = some w.2.1 := by
  unfold F_56
  rw [show Nat.ble (List.length w.2.1 * 64) 70368744177664 = true from Nat.ble_eq_true_of_le (by have := hg.1; omega)]; rfl
theorem e57 (w : World') (hg : Good w) : F_57 w.2.2 = some ((w.2.2, ()) : Els [.list tJoint]) := by
  unfold F_57 O_57
  rw [show Nat.ble (List.length w.2.2 * 24) 70368744177664 = true from Nat.ble_eq_true_of_le (by have := hg.2; omega)]; rfl
theorem t_15out (w : World') (n : Int) (h : n < 0 ∨ n > 200) : F_15 w n = some ((zeroW, (0 : Int), (9 : Int), ()) : Els [tWorld, I, I]) := by
  unfold F_15
  by_cases h0 : n < 0
  · rw [decide_eq_true h0]; rfl
  · rw [decide_eq_false h0, cond_false, decide_eq_true (show n > 200 by omega)]; rfl
theorem run_end (w : World') (n : Nat) (hn : n ≤ 200) (hg : Good w) :
    (R_15_5 (((), (), (n : Int), (0 : Int), ()), ((w.1, w.2.1, w.2.2), ()), ((((0 : Int), (0 : Int)), [], []), ()), ())).bind (fun v14 => Sum.elim (fun v15 => Option.some ((v15.snd.fst.fst, (0 : Int), (0 : Int), ()) : Els [tWorld, I, I])) (fun v16 => Option.some (v16.snd.fst.fst, v16.fst.snd.fst, v16.fst.snd.snd.fst, ())) v14) =
      some (((run n 0 w).1, (run n 0 w).2.1, (run n 0 w).2.2, ()) : Els [tWorld, I, I]) := by
  have h := run_loop n (by omega) n 0 fuel w (by omega) (fuel_lt (by omega)) hg
  show (roundsT _ fuel (((), (), (n : Int), ((0 : Nat) : Int), ()), (w, ()), (zeroW, ()), ())).bind _ = _
  rw [h]
  by_cases h0 : (run n 0 w).2.2 = 0
  · rw [if_pos h0]
    have : (run n 0 w).2.1 = 0 := by
      clear h
      have : ∀ (m k : Nat) (w : World'), (run m k w).2.2 = 0 → (run m k w).2.1 = 0 := by
        intro m
        induction m with
        | zero => intro k w _; rfl
        | succ m ih =>
          intro k w h
          unfold run at h ⊢
          split at h
          · rename_i h0; rw [if_pos h0]; exact ih _ _ h
          · rename_i h0; exact absurd h h0
      exact this n 0 w h0
    show some (((run n 0 w).1, (0 : Int), (0 : Int), ()) : Els [tWorld, I, I]) = _
    rw [h0, this]
  · rw [if_neg h0]
    show some ((zeroW, (run n 0 w).2.1, (run n 0 w).2.2, ()) : Els [tWorld, I, I]) = _
    rw [run_fail n h0]
theorem t_15 (w : World') (n : Nat) (hn : n ≤ 200) (hg : Good w) : F_15 w (n : Int) = some (if n = 0 ∧ rb w = false then ((zeroW, (0 : Int), (9 : Int), ()) : Els [tWorld, I, I]) else ((run n 0 w).1, (run n 0 w).2.1, (run n 0 w).2.2, ())) := by
  unfold F_15
  rw [decide_eq_false (show ¬ (n : Int) < 0 by omega), cond_false, decide_eq_false (show ¬ (n : Int) > 200 by omega), cond_false]
  by_cases h0 : n = 0
  · subst h0
    obtain ⟨e16, _⟩ := t_16 w (by have := hg.1; omega) (by have := hg.2; omega)
    have hz : (((0 : Nat) : Int) == (0 : Int)) = true := rfl
    rw [hz, cond_true, e16]
    simp only [Option.bind_some]
    cases hr : rb w with
    | false => rw [if_pos (by simp)]; rfl
    | true =>
      rw [if_neg (by simp)]
      simp only [Bool.not_true, cond_false]
      rw [e56 w hg]
      simp only [Option.bind_some]
      rw [e57 w hg]
      exact run_end w 0 hn hg
  · have hz : (((n : Nat) : Int) == (0 : Int)) = false := beq_false_of_ne (by omega)
    rw [hz, cond_false, if_neg (by simp [h0]), e56 w hg]
    simp only [Option.bind_some]
    rw [e57 w hg]
    exact run_end w n hn hg
end Go.DI.S

