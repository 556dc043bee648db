import Derived.Test.YtbjldjihpekhaaaGreatUc
/- What lies in a thing; a thing more, plain. No conditions. -/
set_option linter.unusedVariables false
set_option linter.unusedSimpArgs false
set_option maxRecDepth 100000
namespace Go.DI.S
open Go.Proofs
def inT (l : List Thing) : Nat → Int → List Int
  | 0, _ => []
  | f + 1, id => match idx l id with
    | some k => id :: (ins ((l[k]?).getD noThing)).flatMap (inT l f)
    | none => []
section
variable {s : Scene}
theorem idx_is {l : List Thing} {n : Int} (hn : Is l n) : ∃ (k : Nat) (t : Thing), idx l n = some k ∧ l[k]? = some t ∧ nid t = n := by
  obtain ⟨t, ht, e⟩ := hn
  cases hx : idx l n with
  | none =>
    unfold idx at hx
    rw [List.findIdx?_eq_none_iff] at hx
    have := hx t ht
    rw [e] at this
    simp at this
  | some k =>
    obtain ⟨t, h1, h2⟩ := idx_lt hx
    exact ⟨k, t, rfl, h1, h2⟩
theorem inT_succ {l : List Thing} {n : Int} (hn : Is l n) : ∃ t ∈ l, nid t = n ∧ ∀ f, inT l (f + 1) n = n :: (ins t).flatMap (inT l f) := by
  obtain ⟨k, t, h1, h2, h3⟩ := idx_is hn
  refine ⟨t, List.mem_of_getElem? h2, h3, fun f => ?_⟩
  show (match idx l n with | some k => n :: (ins ((l[k]?).getD noThing)).flatMap (inT l f) | none => []) = _
  rw [h1]
  show n :: (ins ((l[k]?).getD noThing)).flatMap (inT l f) = _
  rw [h2]; rfl
theorem Rt.one (h : Rt s) {t u : Thing} (ht : t ∈ s.2.2) (hu : u ∈ s.2.2) (e : nid t = nid u) : t = u := by
  obtain ⟨i, hi, rfl⟩ := List.mem_iff_getElem.1 ht
  obtain ⟨j, hj, rfl⟩ := List.mem_iff_getElem.1 hu
  rcases Nat.lt_trichotomy i j with h1 | h1 | h1
  · have := h.asc i j _ _ h1 (List.getElem?_eq_getElem hi) (List.getElem?_eq_getElem hj); omega
  · subst h1; rfl
  · have := h.asc j i _ _ h1 (List.getElem?_eq_getElem hj) (List.getElem?_eq_getElem hi); omega
theorem Rt.below (h : Rt s) (hs : Small s.2.2) : ∀ (f : Nat) (n : Int), Is s.2.2 n → ∀ x ∈ inT s.2.2 f n, Is s.2.2 x ∧ ∃ e, upn s.2.2 e x = n
  | 0, n, _, x, hx => by simp [inT] at hx
  | f + 1, n, hn, x, hx => by
    obtain ⟨t, ht, e, hf⟩ := inT_succ hn
    rw [hf f] at hx
    rcases List.mem_cons.1 hx with rfl | hx
    · exact ⟨hn, 0, rfl⟩
    · obtain ⟨m, hm, hx⟩ := List.mem_flatMap.1 hx
      obtain ⟨h1, e1, h2⟩ := h.below hs f m (h.member hs ht hm) x hx
      exact ⟨h1, e1 + 1, by rw [upn_succ, h2, grp_in h.apart ht hm, e]⟩
theorem nodup_flat {α : Type} (f : Int → List α) : ∀ (l : List Int), l.Nodup → (∀ a ∈ l, (f a).Nodup) → (∀ a ∈ l, ∀ b ∈ l, ∀ x, x ∈ f a → x ∈ f b → a = b) → (l.flatMap f).Nodup
  | [], _, _, _ => .nil
  | a :: l, hn, h1, h2 => by
    rw [List.flatMap_cons, List.nodup_append]
    obtain ⟨n1, n2⟩ := List.nodup_cons.1 hn
    refine ⟨h1 a List.mem_cons_self, nodup_flat f l n2 (fun b hb => h1 b (List.mem_cons_of_mem _ hb)) (fun b hb c hc => h2 b (List.mem_cons_of_mem _ hb) c (List.mem_cons_of_mem _ hc)), fun x hx y hy e => ?_⟩
    subst e
    obtain ⟨b, hb, hxb⟩ := List.mem_flatMap.1 hy
    exact n1 (h2 a List.mem_cons_self b (List.mem_cons_of_mem _ hb) x hx hxb ▸ hb)
theorem ins_nodup {l : List Thing} (h : Apart l) {t : Thing} (ht : t ∈ l) : (ins t).Nodup := by
  induction l with
  | nil => simp at ht
  | cons u l ih =>
    have h2 : (ins u ++ l.flatMap ins).Nodup := h
    rw [List.nodup_append] at h2
    rcases List.mem_cons.1 ht with rfl | ht
    · exact h2.1
    · exact ih h2.2.1 ht
theorem Rt.differ (h : Rt s) (hs : Small s.2.2) {n a b x : Int} (hn : Is s.2.2 n) (ga : grp s.2.2 a = n) (gb : grp s.2.2 b = n) {i j : Nat} (hij : i < j) (ha : upn s.2.2 i x = a) (hb : upn s.2.2 j x = b) : False := by
  obtain ⟨d, rfl⟩ : ∃ d, j = (d + 1) + i := ⟨j - i - 1, by omega⟩
  rw [upn_add, ha] at hb
  have h1 : upn s.2.2 d n = b := by rw [← ga]; exact hb
  have h2 : upn s.2.2 (d + 1) n = n := by rw [upn_succ, h1, gb]
  exact h.acyclic hs hn (d + 1) (by omega) h2
theorem Rt.once (h : Rt s) (hs : Small s.2.2) : ∀ (f : Nat) (n : Int), Is s.2.2 n → (inT s.2.2 f n).Nodup
  | 0, n, _ => .nil
  | f + 1, n, hn => by
    obtain ⟨t, ht, e, hf⟩ := inT_succ hn
    rw [hf f, List.nodup_cons]
    refine ⟨fun hx => ?_, nodup_flat _ _ (ins_nodup h.apart ht) (fun a ha => h.once hs f a (h.member hs ht ha)) fun a ha b hb x hxa hxb => ?_⟩
    · obtain ⟨m, hm, hx⟩ := List.mem_flatMap.1 hx
      obtain ⟨_, e1, h2⟩ := h.below hs f m (h.member hs ht hm) n hx
      refine h.acyclic hs hn (e1 + 1) (by omega) ?_
      rw [upn_succ, h2, grp_in h.apart ht hm, e]
    · obtain ⟨_, i, hi⟩ := h.below hs f a (h.member hs ht ha) x hxa
      obtain ⟨_, j, hj⟩ := h.below hs f b (h.member hs ht hb) x hxb
      have ga := (grp_in h.apart ht ha).trans e
      have gb := (grp_in h.apart ht hb).trans e
      rcases Nat.lt_trichotomy i j with h1 | h1 | h1
      · exact (h.differ hs hn ga gb h1 hi hj).elim
      · subst h1; rw [← hi, ← hj]
      · exact (h.differ hs hn gb ga h1 hj hi).elim
theorem Rt.few (h : Rt s) (hs : Small s.2.2) (f : Nat) {n : Int} (hn : Is s.2.2 n) : (inT s.2.2 f n).length ≤ 40 := by
  have h1 := nodup_len (inT s.2.2 f n) (s.2.2.map nid) (h.once hs f n hn) fun x hx => by
    obtain ⟨t, ht, e⟩ := (h.below hs f n hn x hx).1
    exact List.mem_map.2 ⟨t, ht, e⟩
  have := h.len
  simp at h1
  omega
theorem Rt.lies (h : Rt s) (hs : Small s.2.2) {x : Int} (hx : Is s.2.2 x) : ∀ (k f : Nat), k < f → upn s.2.2 k x ≠ 0 → x ∈ inT s.2.2 f (upn s.2.2 k x)
  | 0, f, hf, _ => by
    obtain ⟨f, rfl⟩ : ∃ j, f = j + 1 := ⟨f - 1, by omega⟩
    obtain ⟨t, _, _, e⟩ := inT_succ hx
    show x ∈ inT s.2.2 (f + 1) x
    rw [e]; exact List.mem_cons_self
  | k + 1, f, hf, h0 => by
    obtain ⟨f, rfl⟩ : ∃ j, f = j + 1 := ⟨f - 1, by omega⟩
    rw [upn_succ] at h0 ⊢
    obtain ⟨u, hu, hm, e⟩ := grp_of h0
    have h1 : upn s.2.2 k x ≠ 0 := fun h2 => by
      rw [h2, h.grp0 hs] at h0; exact h0 rfl
    obtain ⟨t, ht, e2, e3⟩ := inT_succ ⟨u, hu, e⟩
    rw [e3 f]
    have : t = u := h.one ht hu (e2.trans e.symm)
    subst this
    exact List.mem_cons_of_mem _ (List.mem_flatMap.2 ⟨_, hm, h.lies hs hx k f (by omega) h1⟩)
end
end Go.DI.S
set_option linter.unusedVariables false
set_option linter.unusedSimpArgs false
set_option maxRecDepth 100000
namespace Go.DI.S
open Go.Proofs
theorem set_same {α : Type} {l : List α} {k : Nat} {a : α} (h : l[k]? = some a) : l.set k a = l := by
  apply List.ext_getElem?
  intro j
  rw [List.getElem?_set]
  split
  · subst_vars; split
    · exact h.symm
    · rename_i h2; exact absurd (len_of h) h2
  · rfl
section
variable {s : Scene}
theorem Rt.getB (h : Rt s) {t : Thing} (ht : t ∈ s.2.2) : getB s.2.2 (nid t) = (t, true) := by
  obtain ⟨k, u, h1, h2, h3⟩ := idx_is (l := s.2.2) ⟨t, ht, rfl⟩
  have : u = t := h.one (List.mem_of_getElem? h2) ht h3
  subst this
  unfold S.getB
  rw [h1]
  simp [h2]
end
end Go.DI.S
set_option linter.unusedVariables false
set_option maxRecDepth 100000
set_option maxHeartbeats 0
namespace Go.DI.S
open Go.Proofs
end Go.DI.S
set_option linter.unusedVariables false
set_option linter.unusedSimpArgs false
set_option maxRecDepth 100000
namespace Go.DI.S
open Go.Proofs
theorem bind_ofV {α β : Type} {a : Option α} {f : α → Option β} {x : α} {y : Option β} (h : a = some x) (k : f x = y) : a.bind f = y := by subst h; exact k
theorem yesV {α : Type} {c : Bool} {a b y : α} (h : c = true) (k : a = y) : (bif c then a else b) = y := by subst h; exact k
theorem noV {α : Type} {c : Bool} {a b y : α} (h : c = false) (k : b = y) : (bif c then a else b) = y := by subst h; exact k
theorem plain_conv {next : Int} : ∀ (l : List Thing) (a : Int), (∀ t ∈ l, a < nid t ∧ nid t < next ∧ rt t = true) → Asc l → (foldO (plainStep next) l a).isSome = true
  | [], a, _, _ => rfl
  | t :: l, a, h, ha => by
    obtain ⟨h1, h2, h3⟩ := h t (by simp)
    have hst : plainStep next a t = some (nid t) := by
      unfold plainStep
      exact noV (by rw [h3]; rfl) (noV (decide_eq_false (by omega)) (noV (decide_eq_false (by omega)) rfl))
    simp only [foldO, hst]
    refine plain_conv l (nid t) (fun u hu => ?_) (fun i j x y hij hi hj => ha (i + 1) (j + 1) x y (by omega) hi hj)
    obtain ⟨j, hj, rfl⟩ := List.mem_iff_getElem.1 hu
    exact ⟨ha 0 (j + 1) t _ (by omega) rfl (List.getElem?_eq_getElem hj), (h _ (by simp [hu])).2⟩
theorem Asc.one {l : List Thing} (h : Asc l) {i j : Nat} {t u : Thing} (hi : l[i]? = some t) (hj : l[j]? = some u) (e : nid t = nid u) : i = j := by
  rcases Nat.lt_trichotomy i j with h1 | h1 | h1
  · have := h i j _ _ h1 hi hj; omega
  · exact h1
  · have := h j i _ _ h1 hj hi; omega
theorem Asc.getB {l : List Thing} (h : Asc l) {t : Thing} (ht : t ∈ l) : S.getB l (nid t) = (t, true) := by
  obtain ⟨k, u, h1, h2, h3⟩ := idx_is (l := l) ⟨t, ht, rfl⟩
  obtain ⟨j, hj, rfl⟩ := List.mem_iff_getElem.1 ht
  have : k = j := h.one h2 (List.getElem?_eq_getElem hj) h3
  subst this
  unfold S.getB
  rw [h1]
  simp [List.getElem?_eq_getElem hj]
theorem place_is {l : List Thing} {n : Int} {i : Nat} (ha : Asc l) (hp : Place l n i) (hn : Is l n) : ∃ t, l[i]? = some t ∧ nid t = n := by
  obtain ⟨t, ht, e⟩ := hn
  obtain ⟨k, hk, rfl⟩ := List.mem_iff_getElem.1 ht
  refine ⟨l[k], ?_, e⟩
  obtain ⟨p1, p2⟩ := hp
  obtain ⟨p2, p3⟩ := p2 ha
  have hik : i = k := by
    rcases Nat.lt_trichotomy i k with c | c | c
    · have hi : i < l.length := by omega
      have q1 := p3 i _ (Nat.le_refl _) (List.getElem?_eq_getElem hi)
      have q2 := ha i k _ _ c (List.getElem?_eq_getElem hi) (List.getElem?_eq_getElem hk)
      omega
    · exact c
    · have q1 := p2 k _ c (List.getElem?_eq_getElem hk)
      omega
  rw [hik]
  exact List.getElem?_eq_getElem hk
theorem has_of {s : Scene} (hs : Small s.2.2) (ha : Asc s.2.2) {n : Int} (hn : Is s.2.2 n) : hasB s n = true := by
  obtain ⟨i, b, h1, h2, h3⟩ := v_48 s n hs.1
  unfold hasB
  rw [h1]
  exact h3.2 (place_is ha h2 hn)
theorem kind_of {l : List Thing} {n : Int} (h : kindB l n = 1) : ∃ u ∈ l, nid u = n ∧ u.2.1 = 1 := by
  unfold kindB S.getB at h
  cases hx : idx l n with
  | none => rw [hx] at h; cases h
  | some k =>
    rw [hx] at h
    obtain ⟨t, h1, h2⟩ := idx_lt hx
    simp only [h1, Option.getD_some] at h
    exact ⟨t, List.mem_of_getElem? h1, h2, h⟩
theorem Asc.kind {l : List Thing} (ha : Asc l) {u : Thing} (hu : u ∈ l) : kindB l (nid u) = u.2.1 := by
  unfold kindB
  rw [ha.getB hu]
def noScene : Scene := (((0 : Int), (0 : Int)), (0 : Int), [])
end Go.DI.S
