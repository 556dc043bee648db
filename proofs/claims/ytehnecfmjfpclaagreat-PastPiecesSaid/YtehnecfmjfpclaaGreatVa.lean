import Derived.Test.YtehnecfmjfpclaaGreatEa
/- A thing more, plain. No conditions. -/
set_option linter.unusedVariables false
set_option linter.unusedSimpArgs false
set_option maxRecDepth 100000
namespace Go.DI.S
open Go.Proofs
section
variable {s : Scene}
theorem idx_is {l : List Thing} {n : Int} (hn : Is l n) : ∃ (k : Nat) (t : Thing), idx l n = some k ∧ l[k]? = some t ∧ nid t = n := by
  obtain ⟨t, ht, e⟩ := hn
  cases hx : idx l n with
  | none =>
    unfold idx at hx
    rw [List.findIdx?_eq_none_iff] at hx
    have := hx t ht
    rw [e] at this
    simp at this
  | some k =>
    obtain ⟨t, h1, h2⟩ := idx_lt hx
    exact ⟨k, t, rfl, h1, h2⟩
theorem Rt.one (h : Rt s) {t u : Thing} (ht : t ∈ s.2.2) (hu : u ∈ s.2.2) (e : nid t = nid u) : t = u := by
  obtain ⟨i, hi, rfl⟩ := List.mem_iff_getElem.1 ht
  obtain ⟨j, hj, rfl⟩ := List.mem_iff_getElem.1 hu
  rcases Nat.lt_trichotomy i j with h1 | h1 | h1
  · have := h.asc i j _ _ h1 (List.getElem?_eq_getElem hi) (List.getElem?_eq_getElem hj); omega
  · subst h1; rfl
  · have := h.asc j i _ _ h1 (List.getElem?_eq_getElem hj) (List.getElem?_eq_getElem hi); omega
theorem first_zero (p : Nat → Prop) [DecidablePred p] : ∀ n, p n → ∃ k, k ≤ n ∧ p k ∧ ∀ j, j < k → ¬ p j
  | 0, h => ⟨0, Nat.le_refl _, h, fun j hj => by omega⟩
  | n + 1, h => by
    by_cases hc : ∃ j, j ≤ n ∧ p j
    · obtain ⟨j, hj, hp⟩ := hc
      obtain ⟨k, hk, h1, h2⟩ := first_zero p j hp
      exact ⟨k, by omega, h1, h2⟩
    · exact ⟨n + 1, Nat.le_refl _, h, fun j hj hp => hc ⟨j, by omega, hp⟩⟩
end
end Go.DI.S
set_option linter.unusedVariables false
set_option linter.unusedSimpArgs false
set_option maxRecDepth 100000
namespace Go.DI.S
open Go.Proofs
theorem set_same {α : Type} {l : List α} {k : Nat} {a : α} (h : l[k]? = some a) : l.set k a = l := by
  apply List.ext_getElem?
  intro j
  rw [List.getElem?_set]
  split
  · subst_vars; split
    · exact h.symm
    · rename_i h2; exact absurd (len_of h) h2
  · rfl
section
variable {s : Scene}
theorem Rt.getB (h : Rt s) {t : Thing} (ht : t ∈ s.2.2) : getB s.2.2 (nid t) = (t, true) := by
  obtain ⟨k, u, h1, h2, h3⟩ := idx_is (l := s.2.2) ⟨t, ht, rfl⟩
  have : u = t := h.one (List.mem_of_getElem? h2) ht h3
  subst this
  unfold S.getB
  rw [h1]
  simp [h2]
end
end Go.DI.S
set_option linter.unusedVariables false
set_option maxRecDepth 100000
set_option maxHeartbeats 0
namespace Go.DI.S
open Go.Proofs
end Go.DI.S
set_option linter.unusedVariables false
set_option linter.unusedSimpArgs false
set_option maxRecDepth 100000
namespace Go.DI.S
open Go.Proofs
theorem bind_ofV {α β : Type} {a : Option α} {f : α → Option β} {x : α} {y : Option β} (h : a = some x) (k : f x = y) : a.bind f = y := by subst h; exact k
theorem yesV {α : Type} {c : Bool} {a b y : α} (h : c = true) (k : a = y) : (bif c then a else b) = y := by subst h; exact k
theorem noV {α : Type} {c : Bool} {a b y : α} (h : c = false) (k : b = y) : (bif c then a else b) = y := by subst h; exact k
theorem Asc.one {l : List Thing} (h : Asc l) {i j : Nat} {t u : Thing} (hi : l[i]? = some t) (hj : l[j]? = some u) (e : nid t = nid u) : i = j := by
  rcases Nat.lt_trichotomy i j with h1 | h1 | h1
  · have := h i j _ _ h1 hi hj; omega
  · exact h1
  · have := h j i _ _ h1 hj hi; omega
theorem Asc.getB {l : List Thing} (h : Asc l) {t : Thing} (ht : t ∈ l) : S.getB l (nid t) = (t, true) := by
  obtain ⟨k, u, h1, h2, h3⟩ := idx_is (l := l) ⟨t, ht, rfl⟩
  obtain ⟨j, hj, rfl⟩ := List.mem_iff_getElem.1 ht
  have : k = j := h.one h2 (List.getElem?_eq_getElem hj) h3
  subst this
  unfold S.getB
  rw [h1]
  simp [List.getElem?_eq_getElem hj]
theorem getB_none {l : List Thing} {n : Int} (h : ¬ Is l n) : S.getB l n = (noThing, false) := by
  unfold S.getB
  cases hx : idx l n with
  | none => rfl
  | some k =>
    obtain ⟨t, h1, h2⟩ := idx_lt hx
    exact absurd ⟨t, List.mem_of_getElem? h1, h2⟩ h
theorem Asc.kind {l : List Thing} (ha : Asc l) {u : Thing} (hu : u ∈ l) : kindB l (nid u) = u.2.1 := by
  unfold kindB
  rw [ha.getB hu]
end Go.DI.S
set_option linter.unusedVariables false
set_option linter.unusedSimpArgs false
set_option maxRecDepth 100000
namespace Go.DI.S
open Go.Proofs
theorem frm_of {p : Nat} {R R' : Nat → Prop} {ρ ρ' : Nm} {w w' : World} {h' : AH} (hr : Rel R ρ [] w) (f : FrmW p R ρ [] w R' ρ' h' w') : Frm R ρ [] w R' ρ' h' w' :=
  ⟨f.os, f.tape, f.output, f.size, fun i bn h => (by rw [hr.dom i (Nat.zero_le _)] at h; cases h), f.ros, f.keeps, f.lives, f.rolds, Nat.zero_le _, fun x hx => absurd hx (Nat.not_lt_zero _), f.frz⟩
theorem bne_of {a b : Int} (h : a ≠ b) : (a != b) = true := by simpa using h
theorem bne_no {a b : Int} (h : a = b) : (a != b) = false := by simpa using h
noncomputable def rb (b : Body) : Bool := ofB (F_88 b)
theorem v_88 (b : Body) : F_88 b = some ((rb b, ()) : Els [.bool]) := ofB_eq (t_88 b)
end Go.DI.S
