import Derived.Test.YtehnecfmjfpclaaGreatIa
import Derived.Test.YtehnecfmjfpclaaGreatDie
/- What scene.Right comes to, plain. No conditions. -/
set_option linter.unusedVariables false
set_option maxRecDepth 100000
namespace Go.DI.S
open Go.Proofs
abbrev Tot {α : Type} (a : Option α) : Prop := ∃ y, a = some y
theorem tot_some {α : Type} (x : α) : Tot (some x) := ⟨x, rfl⟩
theorem tot_cond {α : Type} {c : Bool} {a b : Option α} (h : Tot a) (k : Tot b) : Tot (bif c then a else b) := by
  cases c
  · exact k
  · exact h
theorem tot_bind {α β : Type} {a : Option α} {f : α → Option β} (h : Tot a) (k : ∀ x, Tot (f x)) : Tot (a.bind f) := by
  obtain ⟨x, rfl⟩ := h
  exact k x
def ofB (a : Option (Els [.bool])) : Bool := match a with
  | some b => b.1
  | none => false
theorem ofB_eq {a : Option (Els [.bool])} (h : Tot a) : a = some (ofB a, ()) := by
  obtain ⟨⟨b, u⟩, rfl⟩ := h
  rfl
theorem getD_of {α : Type} {l : List α} {k : Nat} {a d : α} (h : l[k]? = some a) : l.getD (Int.toNat (k : Int)) d = a := by
  rw [Int.toNat_natCast, List.getD_eq_getElem?_getD, h]; rfl
theorem len_of {α : Type} {l : List α} {k : Nat} {a : α} (h : l[k]? = some a) : k < l.length := (List.getElem?_eq_some_iff.1 h).1
theorem dec_lt {k n : Nat} (h : k < n) : decide ((k : Int) < (n : Int)) = true := decide_eq_true (by omega)
theorem dec_in {k n : Nat} (h : k < n) : decide ((0 : Int) ≤ (k : Int) ∧ (k : Int) < (n : Int)) = true := decide_eq_true (by omega)
theorem dec_end {n : Nat} : decide ((n : Int) < (n : Int)) = false := decide_eq_false (by omega)
theorem wrap_up {k n : Nat} (h : k < n) (hn : n ≤ 4611686018427387904) : IntKind.i64.wrap ((k : Int) + 1) = ((k + 1 : Nat) : Int) := by
  rw [wrap64 (by omega) (by omega)]; omega
theorem t_86 (a) : Tot (F_86 a) := by
  unfold F_86
  repeat' first | exact tot_some _ | refine tot_cond ?_ ?_
theorem t_87 (a) : Tot (F_87 a) := by
  unfold F_87
  repeat' first | exact tot_some _ | refine tot_cond ?_ ?_
theorem t_125 (a) : Tot (F_125 a) := by
  unfold F_125
  repeat' first | exact tot_some _ | refine tot_cond ?_ ?_
theorem t_126 (a b c) : Tot (F_126 a b c) := by
  unfold F_126
  repeat' first | exact tot_some _ | refine tot_cond ?_ ?_
theorem t_127 (a b) : Tot (F_127 a b) := by
  unfold F_127
  repeat' first | exact tot_some _ | exact t_126 _ _ _ | refine tot_cond ?_ ?_ | refine tot_bind ?_ (fun _ => ?_)
theorem t_88 (a) : Tot (F_88 a) := by
  unfold F_88
  repeat' first | exact tot_some _ | exact t_125 _ | exact t_126 _ _ _ | exact t_127 _ _ | refine tot_cond ?_ ?_ | refine tot_bind ?_ (fun _ => ?_)
theorem tot_list {α σ X Y : Type} {G : X → Option (X ⊕ Y)} (l : List α) (mk : Nat → σ → X) (hs : ∀ k a s, l[k]? = some a → ∃ r, G (mk k s) = some r ∧ ∀ x, r = .inl x → ∃ s', x = mk (k + 1) s') (he : ∀ s, ∃ y, G (mk l.length s) = some (.inr y)) (hl : l.length < fuel) (s : σ) : Tot (roundsT G fuel (mk 0 s)) := by
  have := rounds_mu (G := G) (fun x => ∃ k s, k ≤ l.length ∧ x = mk k s) (fun x => 0) (fun _ => True)
  suffices h : ∀ (d m k : Nat) (s : σ), k + d = l.length → d < m → Tot (roundsT G m (mk k s)) from h l.length fuel 0 s (by omega) hl
  intro d
  induction d with
  | zero =>
    intro m k s hk hm
    obtain ⟨m, rfl⟩ : ∃ j, m = j + 1 := ⟨m - 1, by omega⟩
    have : k = l.length := by omega
    subst this
    obtain ⟨y, hy⟩ := he s
    exact ⟨y, rounds_out hy m⟩
  | succ d ih =>
    intro m k s hk hm
    obtain ⟨m, rfl⟩ : ∃ j, m = j + 1 := ⟨m - 1, by omega⟩
    obtain ⟨r, hr, hx⟩ := hs k _ s (List.getElem?_eq_getElem (by omega))
    cases r with
    | inl x =>
      obtain ⟨s', rfl⟩ := hx x rfl
      rw [Tot, rounds_in hr]
      exact ih m (k + 1) s' (by omega) (by omega)
    | inr y => exact ⟨y, rounds_out hr m⟩
theorem fuel_lt {n : Nat} (h : n ≤ 1000000000) : n < fuel := by unfold fuel; omega
theorem t_89 (t : Thing) (h : t.2.2.2.2.length ≤ 1000000000) : Tot (F_89 t) := by
  unfold F_89
  refine tot_bind ?_ fun y => ?_
  · refine tot_list (σ := Int × Thing) t.2.2.2.2 (fun k s => (((), s.1, t.2.2.2.2, (t.2.2.2.2.length : Int), (k : Int), ()), (s.2, ()), ())) (fun k a s ha => ?_) (fun s => ?_) (fuel_lt h) (0, t)
    · have hk := len_of ha
      simp only [G_89_3, dec_lt hk, dec_in hk, cond_true, getD_of ha, wrap_up hk (by omega)]
      obtain ⟨b, hb⟩ := t_86 a
      rw [hb]
      simp only [Option.bind_some]
      cases decide (a ≤ s.1) with
      | true => exact ⟨_, rfl, fun x hx => by cases hx⟩
      | false =>
        simp only [cond_false]
        cases (!b.1) with
        | true => exact ⟨_, rfl, fun x hx => by cases hx⟩
        | false =>
          simp only [cond_false]
          cases (a == s.2.1) with
          | true => exact ⟨_, rfl, fun x hx => by cases hx⟩
          | false => exact ⟨_, rfl, fun x hx => by cases hx; exact ⟨(a, s.2), rfl⟩⟩
    · simp only [G_89_3, dec_end, cond_false]
      exact ⟨_, rfl⟩
  · cases y with
    | inl y => exact tot_cond (tot_some _) (tot_some _)
    | inr y => exact tot_some _
theorem t_45 (t : Thing) (h : t.2.2.2.2.length ≤ 1000000000) : Tot (F_45 t) := by
  unfold F_45
  repeat' first | exact tot_some _ | exact t_86 _ | exact t_87 _ | exact t_88 _ | exact t_89 _ h | refine tot_cond ?_ ?_ | refine tot_bind ?_ (fun _ => ?_)
end Go.DI.S
set_option linter.unusedVariables false
set_option maxRecDepth 100000
namespace Go.DI.S
open Go.Proofs
theorem find_loop {α X Y : Type} {G : X → Option (X ⊕ Y)} (l : List α) (p : α → Bool) (mk : Nat → X) (hit : Nat → Y) (out : Y) (hs : ∀ k a, l[k]? = some a → G (mk k) = some (if p a then .inr (hit k) else .inl (mk (k + 1))))
    (he : G (mk l.length) = some (.inr out)) {m : Nat} (hm : l.length < m) : roundsT G m (mk 0) = some (match l.findIdx? p with | some k => hit k | none => out) := by
  suffices h : ∀ (d m k : Nat), k + d = l.length → d < m → roundsT G m (mk k) = some (match (l.drop k).findIdx? p with | some j => hit (k + j) | none => out) by
    have := h l.length m 0 (by omega) hm
    simpa using this
  intro d
  induction d with
  | zero =>
    intro m k hk hm
    obtain ⟨m, rfl⟩ : ∃ j, m = j + 1 := ⟨m - 1, by omega⟩
    have : k = l.length := by omega
    subst this
    rw [rounds_out he, List.drop_length]
    rfl
  | succ d ih =>
    intro m k hk hm
    obtain ⟨m, rfl⟩ : ∃ j, m = j + 1 := ⟨m - 1, by omega⟩
    have hlt : k < l.length := by omega
    have h1 := hs k _ (List.getElem?_eq_getElem hlt)
    rw [List.drop_eq_getElem_cons hlt, List.findIdx?_cons]
    cases hp : p l[k] with
    | true =>
      rw [hp] at h1
      simp only [if_true] at h1 ⊢
      rw [rounds_out h1]; rfl
    | false =>
      rw [hp] at h1
      simp only [Bool.false_eq_true, if_false] at h1 ⊢
      rw [rounds_in h1, ih m (k + 1) (by omega) (by omega)]
      cases (l.drop (k + 1)).findIdx? p with
      | none => rfl
      | some j => simp only [Option.map_some]; congr 2; omega
def nid (t : Thing) : Int := t.1
theorem v_128 (a : Int) : F_128 a = some ((false, ()) : Els [.bool]) := by
  have h : (a != a) = false := by simp
  show some ((a != a, ()) : Els [.bool]) = _
  rw [h]
theorem v_93 (a b : Int) : F_93 a b = some (((if a < b then (-1 : Int) else if a > b then 1 else 0), ()) : Els [I]) := by
  unfold F_93
  rw [v_128, v_128]
  simp only [Option.bind_some, cond_false]
  by_cases h1 : a < b
  · simp [h1]
  · by_cases h2 : a > b
    · simp [h1, h2]
    · simp [h1, h2]
theorem v_92 (t : Thing) (i : Int) : F_92 t i = some (((if nid t < i then (-1 : Int) else if nid t > i then 1 else 0), ()) : Els [I]) := by
  show (F_93 (nid t) i).bind _ = _
  rw [v_93]; rfl
def Asc (l : List Thing) : Prop := ∀ (i j : Nat) (a b : Thing), i < j → l[i]? = some a → l[j]? = some b → nid a < nid b
def Place (l : List Thing) (id : Int) (i : Nat) : Prop := i ≤ l.length ∧ (Asc l → (∀ (k : Nat) (t : Thing), k < i → l[k]? = some t → nid t < id) ∧ ∀ (k : Nat) (t : Thing), i ≤ k → l[k]? = some t → id ≤ nid t)
theorem half {i j : Nat} (h : i + j ≤ 4611686018427387904) : IntKind.i64.wrap ((IntKind.u64.wrap (IntKind.i64.wrap ((i : Int) + j))).fdiv 2) = (((i + j) / 2 : Nat) : Int) := by
  rw [wrap64 (x := (i : Int) + j) (by omega) (by omega), IntWalk.u64_in _ (by omega)]
  rw [Int.fdiv_eq_ediv_of_nonneg _ (by omega), wrap64 (by omega) (by omega)]
  omega
theorem r_91 (l : List Thing) (id : Int) (hl : l.length ≤ 1000000000) : ∃ i : Nat, R_91_3 ((l, id, (), (l.length : Int), (0 : Int), (l.length : Int), ()), ()) = some (.inl ((l, id, (), (l.length : Int), (i : Int), ()), ())) ∧ Place l id i := by
  have := rounds_mu (G := fun x => G_91_3 x.1.1 x.1.2.1 x.1.2.2.1 x.1.2.2.2.1 x.1.2.2.2.2.1 x.1.2.2.2.2.2.1)
    (fun x => ∃ i j : Nat, i ≤ j ∧ j ≤ l.length ∧ x = ((l, id, (), (l.length : Int), (i : Int), (j : Int), ()), ()) ∧ (Asc l → (∀ (k : Nat) (t : Thing), k < i → l[k]? = some t → nid t < id) ∧ ∀ (k : Nat) (t : Thing), j ≤ k → l[k]? = some t → id ≤ nid t))
    (fun x => (x.1.2.2.2.2.2.1 - x.1.2.2.2.2.1).toNat) (fun y => ∃ i : Nat, y = .inl ((l, id, (), (l.length : Int), (i : Int), ()), ()) ∧ Place l id i) ?_ fuel ((l, id, (), (l.length : Int), (0 : Int), (l.length : Int), ()), ()) ⟨0, l.length, by omega, by omega, rfl, fun _ => ⟨fun k t hk => by omega, fun k t hk ht => by
      have := len_of ht; omega⟩⟩ (by
        show ((l.length : Int) - 0).toNat < fuel
        have := fuel_lt hl; omega)
  · obtain ⟨y, h1, i, rfl, h2⟩ := this
    exact ⟨i, h1, h2⟩
  · rintro x ⟨i, j, hij, hj, rfl, hp⟩
    by_cases h : i < j
    · have hm : (i + j) / 2 < l.length := by omega
      have ha := List.getElem?_eq_getElem hm
      simp only [G_91_3, dec_lt h, cond_true, half (i := i) (j := j) (by omega), dec_in hm, getD_of ha, v_92, Option.bind_some]
      left
      by_cases hc : nid l[(i + j) / 2] < id
      · refine ⟨((l, id, (), (l.length : Int), (((i + j) / 2 + 1 : Nat) : Int), (j : Int), ()), ()), ?_, ⟨(i + j) / 2 + 1, j, by omega, hj, rfl, fun hA => ⟨fun k t hk ht => ?_, (hp hA).2⟩⟩, ?_⟩
        · rw [if_pos hc, wrap_up hm (by omega)]
          rfl
        · rcases Nat.lt_or_ge k ((i + j) / 2) with h3 | h3
          · have := hA k _ t _ h3 ht ha; omega
          · have : k = (i + j) / 2 := by omega
            subst this
            rw [ha] at ht; cases ht; exact hc
        · show ((j : Int) - (((i + j) / 2 + 1 : Nat) : Int)).toNat < ((j : Int) - (i : Int)).toNat
          omega
      · refine ⟨((l, id, (), (l.length : Int), (i : Int), (((i + j) / 2 : Nat) : Int), ()), ()), ?_, ⟨i, (i + j) / 2, by omega, by omega, rfl, fun hA => ⟨(hp hA).1, fun k t hk ht => ?_⟩⟩, ?_⟩
        · rw [if_neg hc]
          by_cases h4 : nid l[(i + j) / 2] > id
          · rw [if_pos h4]; rfl
          · rw [if_neg h4]; rfl
        · rcases Nat.lt_or_ge ((i + j) / 2) k with h3 | h3
          · have := hA _ k _ t h3 ha ht; omega
          · have : k = (i + j) / 2 := by omega
            subst this
            rw [ha] at ht; cases ht; omega
        · show ((((i + j) / 2 : Nat) : Int) - (i : Int)).toNat < ((j : Int) - (i : Int)).toNat
          omega
    · have : i = j := by omega
      subst this
      right
      simp only [G_91_3, dec_end, cond_false]
      exact ⟨_, rfl, i, rfl, hj, fun hA => hp hA⟩
theorem v_91 (l : List Thing) (id : Int) (hl : l.length ≤ 1000000000) : ∃ (i : Nat) (b : Bool), F_91 l id () = some (((i : Int), b, ()) : Els [I, .bool]) ∧ Place l id i ∧ (b = true ↔ ∃ t, l[i]? = some t ∧ nid t = id) := by
  obtain ⟨i, h1, h2⟩ := r_91 l id hl
  unfold F_91
  rw [h1]
  simp only [Option.bind_some, Sum.elim_inl]
  by_cases h : i < l.length
  · have ha := List.getElem?_eq_getElem h
    simp only [dec_lt h, cond_true, dec_in h, getD_of ha, v_92, Option.bind_some]
    refine ⟨i, _, rfl, h2, ?_⟩
    rw [ha]
    by_cases h3 : nid l[i] < id
    · simp [h3]; omega
    · by_cases h4 : nid l[i] > id
      · simp [h3, h4]; omega
      · simp [h3, h4]; omega
  · have hi : i = l.length := by have := h2.1; omega
    subst hi
    simp only [dec_end, cond_false]
    refine ⟨_, _, rfl, h2, ?_⟩
    simp
theorem v_48 (s : Scene) (id : Int) (hl : s.2.2.length ≤ 1000000000) : ∃ (i : Nat) (b : Bool), F_48 s id = some (((i : Int), b, ()) : Els [I, .bool]) ∧ Place s.2.2 id i ∧ (b = true ↔ ∃ t, s.2.2[i]? = some t ∧ nid t = id) := by
  obtain ⟨i, b, h1, h2, h3⟩ := v_91 s.2.2 id hl
  refine ⟨i, b, ?_, h2, h3⟩
  unfold F_48
  rw [h1]; rfl
theorem v_46 (l : List Int) (h : l.length ≤ 1000000000) : F_46 l = some ((l, ()) : Els [.list I]) := by
  unfold F_46 O_46
  rw [show Nat.ble (l.length * 8) 70368744177664 = true from Nat.ble_eq_true_of_le (by omega)]
  rfl
theorem v_56 (t : Thing) (id : Int) : F_56 t id = some ((nid t == id, ()) : Els [.bool]) := rfl
def idx (l : List Thing) (id : Int) : Option Nat := l.findIdx? (fun t => nid t == id)
theorem v_55a (l : List Thing) (id : Int) (hl : l.length ≤ 1000000000) : F_55a l (id, ()) = some (((match idx l id with | some k => (k : Int) | none => -1), ()) : Els [I]) := by
  unfold F_55a R_55a_2
  have := find_loop (G := fun x => G_55a_2 x.1.1 x.1.2.1 x.1.2.2.1 x.1.2.2.2.1) l (fun t => nid t == id) (fun k => ((l, (id, ()), (l.length : Int), (k : Int), ()), ())) (fun k => .inr (((k : Int), ()), ())) (.inl ((), ())) (fun k a ha => ?_) ?_ (fuel_lt hl)
  · rw [show (0 : Int) = ((0 : Nat) : Int) from rfl, this]
    unfold idx
    cases l.findIdx? (fun t => nid t == id) <;> rfl
  · have hk := len_of ha
    simp only [G_55a_2, dec_lt hk, dec_in hk, cond_true, getD_of ha, v_56, Option.bind_some, wrap_up hk (by omega)]
    cases (nid a == id) <;> rfl
  · simp only [G_55a_2, dec_end, cond_false]
def noThing : Thing := ((0 : Int), (0 : Int), ((0 : Int), ((0 : Int), (0 : Int)), (0 : Int), ((0 : Int), (0 : Int)), (0 : Int), (0 : Int)), ((0 : Int), (0 : Int), (0 : Int)), [])
def getB (l : List Thing) (id : Int) : Thing × Bool := match idx l id with
  | some k => ((l[k]?).getD noThing, true)
  | none => (noThing, false)
theorem idx_lt {l : List Thing} {id : Int} {k : Nat} (h : idx l id = some k) : ∃ t, l[k]? = some t ∧ nid t = id := by
  unfold idx at h
  rw [List.findIdx?_eq_some_iff_getElem] at h
  obtain ⟨h1, h2, _⟩ := h
  exact ⟨l[k], List.getElem?_eq_getElem h1, by simpa using h2⟩
theorem v_23 (s : Scene) (id : Int) (hl : s.2.2.length ≤ 1000000000) (hi : ∀ t ∈ s.2.2, t.2.2.2.2.length ≤ 1000000000) : F_23 s id = some (((getB s.2.2 id).1, (getB s.2.2 id).2, ()) : Els [tThing, .bool]) := by
  unfold F_23
  rw [v_55a s.2.2 id hl]
  simp only [Option.bind_some]
  unfold getB
  cases hx : idx s.2.2 id with
  | none => rfl
  | some k =>
    obtain ⟨t, ht, _⟩ := idx_lt hx
    have hk := len_of ht
    simp only [dec_in hk, cond_true, getD_of ht, ht, Option.getD_some]
    rw [show decide ((k : Int) < 0) = false from decide_eq_false (by omega), cond_false]
    rw [v_46 _ (hi t (List.mem_of_getElem? ht))]
    rfl
end Go.DI.S
set_option linter.unusedVariables false
set_option linter.unusedSimpArgs false
set_option maxRecDepth 100000
namespace Go.DI.S
open Go.Proofs
theorem fuel_succ : fuel = 18446744073709551615 + 1 := rfl
theorem all_loop {α X Y : Type} {G : X → Option (X ⊕ Y)} (l : List α) (q : α → Bool) (mk : Nat → X) (no out : Y) (hs : ∀ k a, l[k]? = some a → G (mk k) = some (if q a then .inl (mk (k + 1)) else .inr no))
    (he : G (mk l.length) = some (.inr out)) {m : Nat} (hm : l.length < m) : roundsT G m (mk 0) = some (if l.all q then out else no) := by
  have h := find_loop (G := G) l (fun a => !q a) mk (fun _ => no) out (fun k a ha => by
    rw [hs k a ha]
    cases q a <;> rfl) he hm
  rw [h]
  congr 1
  cases hx : l.findIdx? (fun a => !q a) with
  | none =>
    rw [List.findIdx?_eq_none_iff] at hx
    have : l.all q = true := List.all_eq_true.2 fun x hx' => by simpa using hx x hx'
    rw [if_pos this]
  | some k =>
    rw [List.findIdx?_eq_some_iff_getElem] at hx
    obtain ⟨h1, h2, _⟩ := hx
    have : ¬ l.all q = true := fun h3 => by
      have := List.all_eq_true.1 h3 _ (List.getElem_mem h1)
      rw [this] at h2; cases h2
    rw [if_neg this]
def foldO {α σ : Type} (step : σ → α → Option σ) : List α → σ → Option σ
  | [], s => some s
  | a :: l, s => match step s a with
    | some s' => foldO step l s'
    | none => none
theorem fold_loop {α σ X Y : Type} {G : X → Option (X ⊕ Y)} (l : List α) (step : σ → α → Option σ) (mk : Nat → σ → X) (no : Y) (out : σ → Y)
    (hs : ∀ k a s, l[k]? = some a → G (mk k s) = some (match step s a with | some s' => .inl (mk (k + 1) s') | none => .inr no))
    (he : ∀ s, G (mk l.length s) = some (.inr (out s))) {m : Nat} (hm : l.length < m) (s : σ) : roundsT G m (mk 0 s) = some (match foldO step l s with | some s' => out s' | none => no) := by
  have h := scan_all (G := G) (l := l) (mk := mk) (step := fun s a => match step s a with | some s' => .inl s' | none => .inr no) (fin := out) (s := s) hm (fun k a s ha => by
    rw [hs k a s ha]
    cases step s a <;> rfl) he
  rw [h]
  congr 1
  clear h hm he hs
  induction l generalizing s with
  | nil => rfl
  | cons a l ih =>
    simp only [scan, foldO]
    cases step s a with
    | some s' => exact ih s'
    | none => rfl
def nearB (g : Vec) : Bool := (decide (g.1 ≥ (-4294967296000 : Int)) && decide (g.1 ≤ (4294967296000 : Int))) && (decide (g.2 ≥ (-4294967296000 : Int)) && decide (g.2 ≤ (4294967296000 : Int)))
theorem v_130 (a : Int) : F_130 a = some ((decide (a ≥ (-4294967296000 : Int)) && decide (a ≤ (4294967296000 : Int)), ()) : Els [.bool]) := by
  unfold F_130
  cases decide (a ≥ (-4294967296000 : Int)) <;> rfl
theorem v_99 (g : Vec) : F_99 (g, [], []) = some ((nearB g, ()) : Els [.bool]) := by
  have h1 : R_99_2 (((), ([] : List Body), ((List.length ([] : List Body) : Nat) : Int), (0 : Int), ()), (((g, [], []) : World'), ()), ()) = some (.inl (((), ()), (((g, [], []) : World'), ()), ())) := by
    unfold R_99_2
    rw [fuel_succ]
    exact rounds_out rfl _
  have h2 : R_99_8 (((), ([] : List Joint), ((List.length ([] : List Joint) : Nat) : Int), (0 : Int), ()), (((g, [], []) : World'), ()), ()) = some (.inl (((), ()), (((g, [], []) : World'), ()), ())) := by
    unfold R_99_8
    rw [fuel_succ]
    exact rounds_out rfl _
  have h3 : F_99 (g, [], []) = (F_130 g.1).bind fun v5 => bif v5.1 then (F_130 g.2).bind fun v7 => some (v7.1, ()) else some (false, ()) := by
    unfold F_99
    simp only [h1, h2, Option.bind_some, Sum.elim_inl]
  rw [h3, v_130, v_130]
  unfold nearB
  simp only [Option.bind_some]
  cases (decide (g.1 ≥ (-4294967296000 : Int)) && decide (g.1 ≤ (4294967296000 : Int))) <;> rfl
def Small (l : List Thing) : Prop := l.length ≤ 1000000000 ∧ ∀ t ∈ l, t.2.2.2.2.length ≤ 1000000000
noncomputable def rt (t : Thing) : Bool := ofB (F_45 t)
theorem v_45 (t : Thing) (h : t.2.2.2.2.length ≤ 1000000000) : F_45 t = some ((rt t, ()) : Els [.bool]) := ofB_eq (t_45 t h)
noncomputable def plainStep (next : Int) (a : Int) (t : Thing) : Option Int := bif !rt t then none else bif decide (nid t ≤ a) then none else bif decide (nid t ≥ next) then none else some (nid t)
noncomputable def plainB (s : Scene) : Bool := (foldO (plainStep s.2.1) s.2.2 0).isSome && (decide ((s.2.2.length : Int) ≤ 40) && (decide (s.2.1 ≥ (1 : Int)) && (decide (s.2.1 ≤ (1000001 : Int)) && nearB s.1)))
theorem v_54 (s : Scene) (hs : Small s.2.2) : F_54 s = some ((plainB s, ()) : Els [.bool]) := by
  have h := fold_loop (G := fun x => G_54_3 x.1.2.1 x.1.2.2.1 x.1.2.2.2.1 x.1.2.2.2.2.1 x.2.1) (m := fuel) s.2.2 (plainStep s.2.1) (fun k a => (((), a, s.2.2, (s.2.2.length : Int), (k : Int), ()), (s, ()), ())) (.inr ((false, ()), ())) (fun a => .inl (((), ()), (s, ()), ()))
    (fun k t a ha => ?_) (fun a => ?_) (fuel_lt hs.1) 0
  · unfold F_54 R_54_3 plainB
    rw [show (0 : Int) = ((0 : Nat) : Int) from rfl] at h ⊢
    rw [h]
    cases foldO (plainStep s.2.1) s.2.2 ((0 : Nat) : Int) with
    | none => rfl
    | some a =>
      show (bif decide ((s.2.2.length : Int) ≤ 40) then _ else _) = _
      cases decide ((s.2.2.length : Int) ≤ 40) with
      | false => rfl
      | true =>
        show (bif decide (s.2.1 ≥ (1 : Int)) then _ else _) = some ((decide (s.2.1 ≥ (1 : Int)) && _, ()) : Els [.bool])
        cases decide (s.2.1 ≥ (1 : Int)) with
        | false => rfl
        | true =>
          show (bif decide (s.2.1 ≤ (1000001 : Int)) then _ else _) = some ((decide (s.2.1 ≤ (1000001 : Int)) && _, ()) : Els [.bool])
          cases decide (s.2.1 ≤ (1000001 : Int)) with
          | false => rfl
          | true =>
            show (F_99 (s.1, [], [])).bind _ = _
            rw [v_99]; rfl
  · have hk := len_of ha
    simp only [G_54_3, dec_lt hk, dec_in hk, cond_true, getD_of ha, wrap_up hk (by have := hs.1; omega)]
    rw [v_45 t (hs.2 t (List.mem_of_getElem? ha))]
    unfold plainStep
    show (bif !rt t then _ else (bif decide (nid t ≤ a) then _ else (bif decide (nid t ≥ s.2.1) then _ else _))) = _
    cases rt t with
    | false => rfl
    | true =>
      cases decide (nid t ≤ a) with
      | true => rfl
      | false => cases decide (nid t ≥ s.2.1) <;> rfl
  · simp only [G_54_3, dec_end, cond_false]
noncomputable def hasB (s : Scene) (n : Int) : Bool := match F_48 s n with
  | some x => x.2.1
  | none => false
theorem v_48b (s : Scene) (n : Int) (hs : Small s.2.2) : ∃ i, F_48 s n = some ((i, hasB s n, ()) : Els [I, .bool]) := by
  obtain ⟨i, b, h1, _, _⟩ := v_48 s n hs.1
  refine ⟨i, ?_⟩
  unfold hasB
  rw [h1]
theorem q_52_10 (s : Scene) (hs : Small s.2.2) (L : List Thing) (n k : Int) (l : List Int) (hl : l.length ≤ 1000000000) :
    R_52_10 (((), L, n, k, l, (l.length : Int), (0 : Int), ()), (s, ()), ()) = some (if l.all (hasB s) then .inl (((), L, n, k, ()), (s, ()), ()) else .inr ((false, ()), ())) := by
  have h := all_loop (G := fun x => G_52_10 x.1.2.1 x.1.2.2.1 x.1.2.2.2.1 x.1.2.2.2.2.1 x.1.2.2.2.2.2.1 x.1.2.2.2.2.2.2.1 x.2.1) (m := fuel) l (hasB s) (fun j => (((), L, n, k, l, (l.length : Int), (j : Int), ()), (s, ()), ())) (.inr ((false, ()), ())) (.inl (((), L, n, k, ()), (s, ()), ()))
    (fun j a ha => ?_) ?_ (fuel_lt hl)
  · exact h
  · have hk := len_of ha
    simp only [G_52_10, dec_lt hk, dec_in hk, cond_true, getD_of ha, wrap_up hk (by omega)]
    obtain ⟨i, hi⟩ := v_48b s a hs
    rw [hi]
    show (bif !hasB s a then _ else _) = _
    cases hasB s a <;> rfl
  · simp only [G_52_10, dec_end, cond_false]
def kindB (l : List Thing) (n : Int) : Int := (getB l n).1.2.1
noncomputable def endB (s : Scene) (t : Thing) : Bool := (!(t.2.1 == (2 : Int)) || (!(kindB s.2.2 t.2.2.2.1.1 != (1 : Int)) && !(kindB s.2.2 t.2.2.2.1.2.1 != (1 : Int)))) && t.2.2.2.2.all (hasB s)
theorem v_52 (s : Scene) (hs : Small s.2.2) : F_52 s = some ((s.2.2.all (endB s), ()) : Els [.bool]) := by
  have h := all_loop (G := fun x => G_52_2 x.1.2.1 x.1.2.2.1 x.1.2.2.2.1 x.2.1) (m := fuel) s.2.2 (endB s) (fun k => (((), s.2.2, (s.2.2.length : Int), (k : Int), ()), (s, ()), ())) (.inr ((false, ()), ())) (.inl ((), ()))
    (fun k t ha => ?_) ?_ (fuel_lt hs.1)
  · unfold F_52 R_52_2
    rw [show (0 : Int) = ((0 : Nat) : Int) from rfl, h]
    cases s.2.2.all (endB s) <;> rfl
  · have hk := len_of ha
    have hi := hs.2 t (List.mem_of_getElem? ha)
    simp only [G_52_2, dec_lt hk, dec_in hk, cond_true, getD_of ha, q_52_10 s hs _ _ _ _ hi, Option.bind_some]
    rw [v_23 s _ hs.1 hs.2, v_23 s _ hs.1 hs.2]
    have hw := wrap_up hk (by have := hs.1; omega : s.2.2.length ≤ 4611686018427387904)
    unfold endB kindB
    cases hall : t.2.2.2.2.all (hasB s)
    all_goals simp only [Option.bind_some, if_true, if_false, Bool.false_eq_true, Sum.elim_inl, Sum.elim_inr, hw, Bool.and_true, Bool.and_false]
    all_goals (cases (t.2.1 == (2 : Int)) <;> cases ((getB s.2.2 t.2.2.2.1.1).1.2.1 != (1 : Int)) <;> cases ((getB s.2.2 t.2.2.2.1.2.1).1.2.1 != (1 : Int)) <;> rfl)
  · simp only [G_52_2, dec_end, cond_false]
abbrev MB := List (Int × Bool)
abbrev MI := List (Int × Int)
def gotB (m : MB) (n : Int) : Bool := (tget (.int .i64) .bool n m).getD false
def apStep (m : MB) (n : Int) : Option MB := bif gotB m n then none else some (tput (.int .i64) .bool n true m)
def apart1 (m : MB) (t : Thing) : Option MB := foldO apStep t.2.2.2.2 m
theorem q_51_6 (L : List Thing) (n k : Int) (l : List Int) (hl : l.length ≤ 1000000000) (m : MB) :
    R_51_6 (((), L, n, k, l, (l.length : Int), (0 : Int), ()), m, ()) = some (match foldO apStep l m with | some m' => .inl (((), L, n, k, ()), m', ()) | none => .inr ((false, ()), ())) := by
  have h := fold_loop (G := fun x => G_51_6 x.1.2.1 x.1.2.2.1 x.1.2.2.2.1 x.1.2.2.2.2.1 x.1.2.2.2.2.2.1 x.1.2.2.2.2.2.2.1 x.2.1) (m := fuel) l apStep (fun j m => (((), L, n, k, l, (l.length : Int), (j : Int), ()), m, ())) (.inr ((false, ()), ())) (fun m => .inl (((), L, n, k, ()), m, ()))
    (fun j a m ha => ?_) (fun m => ?_) (fuel_lt hl) m
  · refine Eq.trans h ?_
    cases foldO apStep l m <;> rfl
  · have hk := len_of ha
    simp only [G_51_6, dec_lt hk, dec_in hk, cond_true, getD_of ha, wrap_up hk (by omega)]
    unfold apStep
    show (bif gotB m a then _ else _) = _
    cases gotB m a <;> rfl
  · simp only [G_51_6, dec_end, cond_false]
def apartB (l : List Thing) : Bool := (foldO apart1 l []).isSome
theorem v_51 (s : Scene) (hs : Small s.2.2) : F_51 s = some ((apartB s.2.2, ()) : Els [.bool]) := by
  have h := fold_loop (G := fun x => G_51_3 x.1.2.1 x.1.2.2.1 x.1.2.2.2.1 x.2.1) (m := fuel) s.2.2 apart1 (fun k m => (((), s.2.2, (s.2.2.length : Int), (k : Int), ()), m, ())) (.inr ((false, ()), ())) (fun m => .inl ((), ()))
    (fun k t m ha => ?_) (fun m => ?_) (fuel_lt hs.1) []
  · unfold F_51 R_51_3 apartB
    rw [show (0 : Int) = ((0 : Nat) : Int) from rfl, h]
    cases foldO apart1 s.2.2 [] <;> rfl
  · have hk := len_of ha
    have hi := hs.2 t (List.mem_of_getElem? ha)
    simp only [G_51_3, dec_lt hk, dec_in hk, cond_true, getD_of ha, q_51_6 _ _ _ _ hi, Option.bind_some]
    unfold apart1
    cases foldO apStep t.2.2.2.2 m with
    | none => rfl
    | some m' =>
      show some (Sum.inl (((), s.2.2, (s.2.2.length : Int), IntKind.i64.wrap ((k : Int) + 1), ()), m', ())) = _
      rw [wrap_up hk (by have := hs.1; omega)]
  · simp only [G_51_3, dec_end, cond_false]
def upOf (m : MI) (n : Int) : Int := (tget (.int .i64) (.int .i64) n m).getD 0
def up1 (t : Thing) (m : MI) (n : Int) : MI := tput (.int .i64) (.int .i64) n (nid t) m
def upT (m : MI) (t : Thing) : MI := t.2.2.2.2.foldl (up1 t) m
def upM (l : List Thing) : MI := l.foldl upT []
theorem fold_all {α σ X Y : Type} {G : X → Option (X ⊕ Y)} (l : List α) (step : σ → α → σ) (mk : Nat → σ → X) (out : σ → Y)
    (hs : ∀ k a s, l[k]? = some a → G (mk k s) = some (.inl (mk (k + 1) (step s a)))) (he : ∀ s, G (mk l.length s) = some (.inr (out s))) {m : Nat} (hm : l.length < m) (s : σ) : roundsT G m (mk 0 s) = some (out (l.foldl step s)) := by
  have h := scan_all (G := G) (l := l) (mk := mk) (step := fun s a => .inl (step s a)) (fin := out) (s := s) hm (fun k a s ha => hs k a s ha) he
  rw [h]
  congr 1
  clear h hm he hs
  induction l generalizing s with
  | nil => rfl
  | cons a l ih => exact ih (step s a)
theorem q_98_6 (id : Int) (L : List Thing) (n k : Int) (s : Scene) (t : Thing) (l : List Int) (hl : l.length ≤ 1000000000) (m : MI) :
    R_98_6 ((id, (), (), (), L, n, k, l, (l.length : Int), (0 : Int), ()), (s, ()), m, (t, ()), ()) = some (.inl ((id, (), (), L, n, k, ()), (s, ()), l.foldl (up1 t) m, ())) := by
  have h := fold_all (G := fun x => G_98_6 x.1.1 x.1.2.2.2.2.1 x.1.2.2.2.2.2.1 x.1.2.2.2.2.2.2.1 x.1.2.2.2.2.2.2.2.1 x.1.2.2.2.2.2.2.2.2.1 x.1.2.2.2.2.2.2.2.2.2.1 x.2.1 x.2.2.1 x.2.2.2.1) (m := fuel) l (up1 t)
    (fun j m => ((id, (), (), (), L, n, k, l, (l.length : Int), (j : Int), ()), (s, ()), m, (t, ()), ())) (fun m => .inl ((id, (), (), L, n, k, ()), (s, ()), m, ())) (fun j a m ha => ?_) (fun m => ?_) (fuel_lt hl) m
  · exact h
  · have hk := len_of ha
    simp only [G_98_6, dec_lt hk, dec_in hk, cond_true, getD_of ha, wrap_up hk (by omega)]
    rfl
  · simp only [G_98_6, dec_end, cond_false]
theorem q_98_3 (id : Int) (s : Scene) (hs : Small s.2.2) : R_98_3 ((id, (), (), s.2.2, (s.2.2.length : Int), (0 : Int), ()), (s, ()), [], ()) = some (.inl ((id, (), (), ()), (s, ()), upM s.2.2, ())) := by
  have h := fold_all (G := fun x => G_98_3 x.1.1 x.1.2.2.2.1 x.1.2.2.2.2.1 x.1.2.2.2.2.2.1 x.2.1 x.2.2.1) (m := fuel) s.2.2 upT
    (fun j m => ((id, (), (), s.2.2, (s.2.2.length : Int), (j : Int), ()), (s, ()), m, ())) (fun m => .inl ((id, (), (), ()), (s, ()), m, ())) (fun j t m ha => ?_) (fun m => ?_) (fuel_lt hs.1) []
  · exact h
  · have hk := len_of ha
    have hi := hs.2 t (List.mem_of_getElem? ha)
    simp only [G_98_3, dec_lt hk, dec_in hk, cond_true, getD_of ha, q_98_6 _ _ _ _ _ _ _ hi, Option.bind_some, Sum.elim_inl, wrap_up hk (by have := hs.1; omega)]
    rfl
  · simp only [G_98_3, dec_end, cond_false]
def climb (m : MI) (id : Int) : Nat → Int → Bool
  | 0, _ => false
  | k + 1, n => n == id || climb m id k (upOf m n)
theorem q_98_13 (id : Int) (m : MI) : ∀ (d j n : Nat) (x : Int) (f : Nat), n ≤ 1000000000 → j + d = n → d < f → ∃ y, roundsT (fun x => G_98_13 x.1.1 x.1.2.2.1 x.1.2.2.2.1 x.1.2.2.2.2.1 x.2.1) f ((id, (), x, (n : Int), (j : Int), ()), m, ()) = some y ∧ y = (if climb m id d x then .inr ((true, ()), ()) else .inl ((), ()))
  | 0, j, n, x, f, hn, hj, hf => by
    obtain ⟨f, rfl⟩ : ∃ k, f = k + 1 := ⟨f - 1, by omega⟩
    have : j = n := by omega
    subst this
    exact ⟨.inl ((), ()), rounds_out (by simp only [G_98_13, dec_end, cond_false]) f, rfl⟩
  | d + 1, j, n, x, f, hn, hj, hf => by
    obtain ⟨f, rfl⟩ : ∃ k, f = k + 1 := ⟨f - 1, by omega⟩
    have hlt : j < n := by omega
    cases hx : (x == id) with
    | true =>
      refine ⟨_, rounds_out (y := .inr ((true, ()), ())) ?_ f, ?_⟩
      · simp only [G_98_13, dec_lt hlt, cond_true, hx]
      · simp [climb, hx]
    | false =>
      obtain ⟨y, h1, h2⟩ := q_98_13 id m d (j + 1) n (upOf m x) f hn (by omega) (by omega)
      refine ⟨y, ?_, ?_⟩
      · rw [rounds_in (x' := ((id, (), upOf m x, (n : Int), ((j + 1 : Nat) : Int), ()), m, ())) ?_ f]
        · exact h1
        · simp only [G_98_13, dec_lt hlt, cond_true, hx, cond_false, wrap_up hlt (by omega)]
          rfl
      · rw [h2]
        simp [climb, hx]
def holdsB (l : List Thing) (id : Int) : Bool := climb (upM l) id l.length (upOf (upM l) id)
theorem v_98 (s : Scene) (id : Int) (hs : Small s.2.2) : F_98 s id = some ((holdsB s.2.2 id, ()) : Els [.bool]) := by
  unfold F_98
  rw [q_98_3 id s hs]
  show (R_98_13 ((id, (), upOf (upM s.2.2) id, (s.2.2.length : Int), (0 : Int), ()), upM s.2.2, ())).bind _ = _
  obtain ⟨y, h1, h2⟩ := q_98_13 id (upM s.2.2) s.2.2.length 0 s.2.2.length (upOf (upM s.2.2) id) fuel hs.1 (by omega) (fuel_lt hs.1)
  unfold R_98_13 holdsB
  rw [show (0 : Int) = ((0 : Nat) : Int) from rfl, h1, h2]
  cases climb (upM s.2.2) id s.2.2.length (upOf (upM s.2.2) id) <;> rfl
theorem v_97 (t : Thing) (s : Scene) (hs : Small s.2.2) : F_97 t s = some ((holdsB s.2.2 (nid t), ()) : Els [.bool]) := by
  show (F_98 s (nid t)).bind _ = _
  rw [v_98 s _ hs]; rfl
def treeB (l : List Thing) : Bool := !l.any fun t => holdsB l (nid t)
theorem v_53 (s : Scene) (hs : Small s.2.2) : F_53 s = some ((treeB s.2.2, ()) : Els [.bool]) := by
  have h := find_loop (G := fun x => G_55b_2 x.1.1 x.1.2.1 x.1.2.2.1 x.1.2.2.2.1) (m := fuel) s.2.2 (fun t => holdsB s.2.2 (nid t)) (fun k => ((s.2.2, (s, ()), (s.2.2.length : Int), (k : Int), ()), ())) (fun k => .inr (((k : Int), ()), ())) (.inl ((), ()))
    (fun k t ha => ?_) ?_ (fuel_lt hs.1)
  · have h2 : F_55b s.2.2 (s, ()) = some (((match s.2.2.findIdx? (fun t => holdsB s.2.2 (nid t)) with | some k => (k : Int) | none => -1), ()) : Els [I]) := by
      unfold F_55b R_55b_2
      rw [show (0 : Int) = ((0 : Nat) : Int) from rfl, h]
      cases s.2.2.findIdx? (fun t => holdsB s.2.2 (nid t)) <;> rfl
    show ((F_55b s.2.2 (s, ())).bind _).bind _ = _
    rw [h2]
    unfold treeB
    cases hx : s.2.2.findIdx? (fun t => holdsB s.2.2 (nid t)) with
    | none =>
      rw [List.findIdx?_eq_none_iff] at hx
      have : s.2.2.any (fun t => holdsB s.2.2 (nid t)) = false := by
        rw [List.any_eq_false]
        intro x hx'
        simp [hx x hx']
      rw [this]; rfl
    | some k =>
      rw [List.findIdx?_eq_some_iff_getElem] at hx
      obtain ⟨h1, h2, _⟩ := hx
      have : s.2.2.any (fun t => holdsB s.2.2 (nid t)) = true := List.any_eq_true.2 ⟨_, List.getElem_mem h1, h2⟩
      rw [this]
      show some (!decide ((k : Int) ≥ 0), ()) = _
      rw [decide_eq_true (by omega : (k : Int) ≥ 0)]
  · have hk := len_of ha
    simp only [G_55b_2, dec_lt hk, dec_in hk, cond_true, getD_of ha, wrap_up hk (by have := hs.1; omega)]
    rw [v_97 t s hs]
    show (bif holdsB s.2.2 (nid t) then _ else _) = _
    cases holdsB s.2.2 (nid t) <;> rfl
  · simp only [G_55b_2, dec_end, cond_false]
noncomputable def rightB (s : Scene) : Bool := plainB s && (s.2.2.all (endB s) && (apartB s.2.2 && treeB s.2.2))
theorem v_20 (s : Scene) (hs : Small s.2.2) : F_20 s = some ((rightB s, ()) : Els [.bool]) := by
  unfold F_20 rightB
  rw [v_54 s hs]
  show (bif plainB s then (F_52 s).bind _ else _) = _
  cases plainB s with
  | false => rfl
  | true =>
    show (F_52 s).bind _ = _
    rw [v_52 s hs]
    show (bif s.2.2.all (endB s) then (F_51 s).bind _ else _) = _
    cases s.2.2.all (endB s) with
    | false => rfl
    | true =>
      show (F_51 s).bind _ = _
      rw [v_51 s hs]
      show (bif apartB s.2.2 then (F_53 s).bind _ else _) = _
      cases apartB s.2.2 with
      | false => rfl
      | true =>
        show (F_53 s).bind _ = _
        rw [v_53 s hs]; rfl
end Go.DI.S
set_option linter.unusedVariables false
set_option linter.unusedSimpArgs false
set_option maxRecDepth 100000
namespace Go.DI.S
open Go.Proofs
theorem plain_step {next a b : Int} {t : Thing} (h : plainStep next a t = some b) : b = nid t ∧ a < nid t ∧ nid t < next ∧ rt t = true := by
  unfold plainStep at h
  cases hr : rt t with
  | false => rw [hr] at h; cases h
  | true =>
    rw [hr] at h
    simp only [Bool.not_true, cond_false] at h
    by_cases h1 : nid t ≤ a
    · rw [decide_eq_true h1] at h; cases h
    · rw [decide_eq_false h1] at h
      by_cases h2 : nid t ≥ next
      · rw [decide_eq_true h2] at h; cases h
      · rw [decide_eq_false h2] at h
        simp only [cond_false, Option.some.injEq] at h
        exact ⟨h.symm, by omega, by omega, rfl⟩
theorem plain_all {next : Int} : ∀ (l : List Thing) (a : Int), (foldO (plainStep next) l a).isSome = true → (∀ t ∈ l, a < nid t ∧ nid t < next ∧ rt t = true) ∧ Asc l
  | [], a, _ => ⟨fun t ht => by simp at ht, fun i j x y _ hi => by simp at hi⟩
  | t :: l, a, h => by
    simp only [foldO] at h
    cases hs : plainStep next a t with
    | none => rw [hs] at h; cases h
    | some b =>
      rw [hs] at h
      obtain ⟨rfl, h1, h2, h3⟩ := plain_step hs
      obtain ⟨h4, h5⟩ := plain_all l (nid t) h
      refine ⟨fun u hu => ?_, fun i j x y hij hi hj => ?_⟩
      · rcases List.mem_cons.1 hu with rfl | hu
        · exact ⟨h1, h2, h3⟩
        · have := h4 u hu
          exact ⟨by omega, this.2⟩
      · cases j with
        | zero => omega
        | succ j =>
          simp only [List.getElem?_cons_succ] at hj
          cases i with
          | zero =>
            simp only [List.getElem?_cons_zero, Option.some.injEq] at hi
            subst hi
            exact (h4 y (List.mem_of_getElem? hj)).1
          | succ i =>
            simp only [List.getElem?_cons_succ] at hi
            exact h5 i j x y (by omega) hi hj
theorem keq_int (a b : Int) : (Ty.int .i64).keq a b = decide (a = b) := by
  show (a == b) = _
  by_cases h : a = b
  · subst h; simp
  · simp [h]
theorem tget_put (vt : Ty) (k j : Int) (v : vt.El) : ∀ (m : List (Int × vt.El)), tget (.int .i64) vt j (tput (.int .i64) vt k v m) = if j = k then some v else tget (.int .i64) vt j m
  | [] => by
    show (bif (Ty.int .i64).keq j k then some v else none) = _
    rw [keq_int]
    by_cases h : j = k <;> simp [h, tget]
  | p :: m => by
    show tget (.int .i64) vt j (bif (Ty.int .i64).keq k p.1 then (k, v) :: m else p :: tput (.int .i64) vt k v m) = _
    rw [keq_int]
    by_cases h : k = p.1
    · rw [decide_eq_true h, cond_true]
      show (bif (Ty.int .i64).keq j k then some v else tget (.int .i64) vt j m) = if j = k then some v else (bif (Ty.int .i64).keq j p.1 then some p.2 else tget (.int .i64) vt j m)
      rw [keq_int, keq_int, ← h]
      by_cases h2 : j = k <;> simp [h2]
    · rw [decide_eq_false h, cond_false]
      show (bif (Ty.int .i64).keq j p.1 then some p.2 else tget (.int .i64) vt j (tput (.int .i64) vt k v m)) = if j = k then some v else (bif (Ty.int .i64).keq j p.1 then some p.2 else tget (.int .i64) vt j m)
      rw [keq_int, tget_put vt k j v m]
      by_cases h2 : j = p.1
      · have : ¬ j = k := fun e => h (e.symm.trans h2)
        simp [h2]
        intro h3; exact absurd h3.symm h
      · simp [h2]
def ins (t : Thing) : List Int := t.2.2.2.2
def Apart (l : List Thing) : Prop := (l.flatMap ins).Nodup
theorem got_put (m : MB) (k j : Int) : gotB (tput (.int .i64) .bool k true m) j = (decide (j = k) || gotB m j) := by
  unfold gotB
  rw [tget_put .bool k j true m]
  by_cases h : j = k <;> simp [h]
theorem ap_ok : ∀ (l : List Int) (m m' : MB), foldO apStep l m = some m' → l.Nodup ∧ (∀ n ∈ l, gotB m n = false) ∧ ∀ n, gotB m' n = (decide (n ∈ l) || gotB m n)
  | [], m, m', h => by
    simp only [foldO, Option.some.injEq] at h
    subst h
    simp
  | a :: l, m, m', h => by
    simp only [foldO, apStep] at h
    cases hg : gotB m a with
    | true => rw [hg] at h; cases h
    | false =>
      rw [hg] at h
      simp only [cond_false] at h
      obtain ⟨h1, h2, h3⟩ := ap_ok l _ m' h
      have h4 : ∀ n ∈ l, n ≠ a ∧ gotB m n = false := fun n hn => by
        have := h2 n hn
        rw [got_put] at this
        simp only [Bool.or_eq_false_iff, decide_eq_false_iff_not] at this
        exact this
      refine ⟨List.nodup_cons.2 ⟨fun ha => (h4 a ha).1 rfl, h1⟩, fun n hn => ?_, fun n => ?_⟩
      · rcases List.mem_cons.1 hn with rfl | hn
        · exact hg
        · exact (h4 n hn).2
      · rw [h3 n, got_put]
        by_cases h5 : n = a
        · subst h5; simp
        · simp [h5]
theorem apart_ok : ∀ (l : List Thing) (m m' : MB), foldO apart1 l m = some m' → Apart l ∧ (∀ n ∈ l.flatMap ins, gotB m n = false) ∧ ∀ n, gotB m' n = (decide (n ∈ l.flatMap ins) || gotB m n)
  | [], m, m', h => by
    simp only [foldO, Option.some.injEq] at h
    subst h
    exact ⟨.nil, fun n hn => by simp at hn, fun n => by simp⟩
  | t :: l, m, m', h => by
    simp only [foldO] at h
    cases hs : apart1 m t with
    | none => rw [hs] at h; cases h
    | some m1 =>
      rw [hs] at h
      obtain ⟨a1, a2, a3⟩ := ap_ok _ _ _ hs
      obtain ⟨b1, b2, b3⟩ := apart_ok l m1 m' h
      have key : ∀ n ∈ l.flatMap ins, n ∉ ins t ∧ gotB m n = false := fun n hn => by
        have := b2 n hn
        rw [a3 n] at this
        simp only [Bool.or_eq_false_iff, decide_eq_false_iff_not] at this
        exact this
      refine ⟨?_, fun n hn => ?_, fun n => ?_⟩
      · show ((t :: l).flatMap ins).Nodup
        rw [List.flatMap_cons, List.nodup_append]
        exact ⟨a1, b1, fun x hx y hy e => (key y hy).1 (e ▸ hx)⟩
      · rw [List.flatMap_cons, List.mem_append] at hn
        rcases hn with hn | hn
        · exact a2 n hn
        · exact (key n hn).2
      · rw [b3 n, a3 n]
        have : (t :: l).flatMap ins = ins t ++ l.flatMap ins := rfl
        rw [this]
        by_cases h1 : n ∈ ins t
        · simp [h1, show n ∈ t.2.2.2.2 from h1]
        · by_cases h2 : n ∈ l.flatMap ins
          · have h2' : n ∈ ins t ++ l.flatMap ins := List.mem_append.2 (.inr h2)
            rw [decide_eq_true h2, decide_eq_true h2']; simp
          · have h2' : ¬ n ∈ ins t ++ l.flatMap ins := fun h3 => (List.mem_append.1 h3).elim h1 h2
            rw [decide_eq_false h2, decide_eq_false h2', decide_eq_false (show ¬ n ∈ t.2.2.2.2 from h1)]
            simp
theorem apart_of {l : List Thing} (h : apartB l = true) : Apart l := by
  unfold apartB at h
  cases hf : foldO apart1 l [] with
  | none => rw [hf] at h; cases h
  | some m => exact (apart_ok l [] m hf).1
structure Rt (s : Scene) : Prop where
  asc : Asc s.2.2
  low : ∀ t ∈ s.2.2, 0 < nid t ∧ nid t < s.2.1 ∧ rt t = true
  len : s.2.2.length ≤ 40
  next : 1 ≤ s.2.1 ∧ s.2.1 ≤ 1000001
  ends : ∀ t ∈ s.2.2, endB s t = true
  apart : Apart s.2.2
  tree : ∀ t ∈ s.2.2, holdsB s.2.2 (nid t) = false
theorem right_of {s : Scene} (h : rightB s = true) : Rt s := by
  unfold rightB at h
  simp only [Bool.and_eq_true] at h
  obtain ⟨hp, he, ha, ht⟩ := h
  unfold plainB at hp
  simp only [Bool.and_eq_true] at hp
  obtain ⟨h1, h2, h3, h4, h5⟩ := hp
  obtain ⟨p1, p2⟩ := plain_all _ _ h1
  have h2 := of_decide_eq_true h2
  have h3 := of_decide_eq_true h3
  have h4 := of_decide_eq_true h4
  refine ⟨p2, fun t ht' => p1 t ht', by omega, ⟨h3, h4⟩, fun t ht' => List.all_eq_true.1 he t ht', apart_of ha, fun t ht' => ?_⟩
  unfold treeB at ht
  have : s.2.2.any (fun t => holdsB s.2.2 (nid t)) = false := by simpa using ht
  rw [List.any_eq_false] at this
  simpa using this t ht'
def Is (l : List Thing) (n : Int) : Prop := ∃ t ∈ l, nid t = n
section
variable {s : Scene}
theorem Rt.pos (h : Rt s) {n : Int} (hn : Is s.2.2 n) : n ≠ 0 := by
  obtain ⟨t, ht, rfl⟩ := hn
  have := h.low t ht
  omega
end
end Go.DI.S
set_option linter.unusedVariables false
set_option linter.unusedSimpArgs false
set_option maxRecDepth 100000
namespace Go.DI.S
open Go.Proofs
theorem v_100 (t : Thing) (h : t.2.2.2.2.length ≤ 1000000000) : F_100 t t = some ((true, ()) : Els [.bool]) := by
  have h := all_loop (G := fun x => G_100_4 x.1.2.2.1 x.2.1 x.2.2.1) (m := fuel) t.2.2.2.2 (fun _ => true) (fun k => (((), (), (k : Int), ()), (t, ()), (t, ()), ())) (.inr ((false, ()), ())) (.inl ((), ()))
    (fun k a ha => ?_) ?_ (fuel_lt h)
  · have h2 : R_100_4 (((), (), (0 : Int), ()), (t, ()), (t, ()), ()) = some (.inl ((), ())) := by
      refine Eq.trans h ?_
      rw [if_pos (List.all_eq_true.2 fun _ _ => rfl)]
    unfold F_100
    simp only [bne_self_eq_false, beq_self_eq_true, Bool.and_true, Bool.not_true, cond_false, h2, Option.bind_some, Sum.elim_inl]
  · have hk := len_of ha
    simp only [G_100_4, dec_lt hk, dec_in hk, cond_true, bne_self_eq_false, cond_false, wrap_up hk (by omega), if_true]
  · simp only [G_100_4, dec_end, cond_false]
theorem v_57 (s : Scene) (hs : Small s.2.2) : F_57 s s = some ((true, ()) : Els [.bool]) := by
  have h := all_loop (G := fun x => G_57_4 x.1.2.2.1 x.2.1 x.2.2.1) (m := fuel) s.2.2 (fun _ => true) (fun k => (((), (), (k : Int), ()), (s, ()), (s, ()), ())) (.inr ((false, ()), ())) (.inl ((), ()))
    (fun k a ha => ?_) ?_ (fuel_lt hs.1)
  · have h2 : R_57_4 (((), (), (0 : Int), ()), (s, ()), (s, ()), ()) = some (.inl ((), ())) := by
      refine Eq.trans h ?_
      rw [if_pos (List.all_eq_true.2 fun _ _ => rfl)]
    unfold F_57
    simp only [bne_self_eq_false, beq_self_eq_true, Bool.and_true, Bool.not_true, cond_false, h2, Option.bind_some, Sum.elim_inl]
  · have hk := len_of ha
    simp only [G_57_4, dec_lt hk, dec_in hk, cond_true, getD_of ha]
    rw [v_100 a (hs.2 a (List.mem_of_getElem? ha))]
    simp only [Option.bind_some, Bool.not_true, cond_false, wrap_up hk (by have := hs.1; omega), if_true]
  · simp only [G_57_4, dec_end, cond_false]
theorem v_25 (s : Scene) : F_25 s = some ((s, ()) : Els [tScene]) := rfl
theorem v_24 (s : Scene) (hs : Small s.2.2) : F_24 s s = some ((true, ()) : Els [.bool]) := by
  unfold F_24
  simp only [v_25, Option.bind_some, v_57 s hs]
end Go.DI.S
