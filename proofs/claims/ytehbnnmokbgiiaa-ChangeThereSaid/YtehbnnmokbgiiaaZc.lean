import Derived.Test.YtehbnnmokbgiiaaBd
import Derived.Test.YtehbnnmokbgiiaaZb
/- ChangeThere, plain. No conditions. -/
/-! What Between comes to. -/
set_option linter.unusedVariables false
set_option linter.unusedSimpArgs false
set_option maxRecDepth 100000
namespace Go.DI.S
open Go.Proofs
/-! ### a sorted row without what stands twice -/
theorem compI_lt {l : List Int} (h : l.Pairwise (fun x y => x ≤ y)) : (compI l).Pairwise (· < ·) := by
  unfold compI Go.Lib.compact Go.Lib.compactUpTo
  rw [List.pairwise_map]
  have hr : (List.range l.length).Pairwise (· < ·) := List.pairwise_lt_range
  rw [List.pairwise_iff_getElem] at h
  have hg : ∀ j (hj : j < l.length), l.toArray[j]! = l[j] := fun j hj => by
    rw [getElem!_pos l.toArray j (by simpa using hj)]; rfl
  refine List.Pairwise.imp_of_mem ?_ (hr.sublist List.filter_sublist)
  intro i j hi hj hij
  obtain ⟨hi1, _⟩ := List.mem_filter.1 hi
  obtain ⟨hj1, hj2⟩ := List.mem_filter.1 hj
  rw [List.mem_range] at hi1 hj1
  unfold Go.Lib.keeps at hj2
  have hj3 := of_decide_eq_true hj2
  rcases hj3 with h0 | h0
  · omega
  · rw [hg j hj1, hg (j - 1) (by omega)] at h0
    rw [hg i hi1, hg j hj1]
    have h1 := h (j - 1) j (by omega) hj1 (by omega)
    have h2 : l[i] ≤ l[j - 1] := by
      by_cases e : i = j - 1
      · subst e; exact Int.le_refl _
      · exact h i (j - 1) hi1 (by omega) (by omega)
    have h3 : l[j - 1] ≠ l[j] := fun e => h0 e.symm
    omega
theorem compI_mem {l : List Int} {n : Int} : n ∈ compI l ↔ n ∈ l := by
  unfold compI Go.Lib.compact Go.Lib.compactUpTo
  have hg : ∀ j (hj : j < l.length), l.toArray[j]! = l[j] := fun j hj => by
    rw [getElem!_pos l.toArray j (by simpa using hj)]; rfl
  rw [List.mem_map]
  constructor
  · rintro ⟨j, hj, rfl⟩
    have hj1 := List.mem_range.1 (List.mem_filter.1 hj).1
    rw [hg j hj1]
    exact List.getElem_mem hj1
  · intro hn
    obtain ⟨i0, hi0, e0⟩ := List.getElem_of_mem hn
    obtain ⟨k, hk, ⟨hk1, hk2⟩, hlow⟩ := first_zero (fun k => ∃ h : k < l.length, l[k] = n) i0 ⟨hi0, e0⟩
    refine ⟨k, List.mem_filter.2 ⟨List.mem_range.2 hk1, ?_⟩, by rw [hg k hk1, hk2]⟩
    unfold Go.Lib.keeps
    refine decide_eq_true ?_
    by_cases h0 : k = 0
    · exact .inl h0
    · right
      rw [hg k hk1, hg (k - 1) (by omega), hk2]
      intro e
      exact hlow (k - 1) (by omega) ⟨by omega, e.symm⟩
/-! ### Concat -/
theorem v_253 (n : Nat) (hn : n ≤ 1000000) : F_253 () (n : Int) = some [] := by
  unfold F_253
  by_cases h : 0 < n
  · rw [decide_eq_true (by omega : (0 : Int) < (n : Int)), decide_eq_true (by omega : (n : Int) ≤ 1000000)]; rfl
  · have : n = 0 := by omega
    subst this
    unfold F_253z
    rfl
theorem v_235 (l m : List Thing) (hl : l.length ≤ 1000) (hm : m.length ≤ 1000) : F_235 [l, m] = some ((l ++ m, ()) : Els [.list tThing]) := by
  obtain ⟨k, hk⟩ : ∃ k, fuel = k + 3 := ⟨18446744073709551613, rfl⟩
  have w1 : IntKind.i64.wrap ((0 : Int) + (l.length : Int)) = (l.length : Int) := by rw [wrap64 (by omega) (by omega)]; omega
  have w2 : IntKind.i64.wrap ((l.length : Int) + (m.length : Int)) = ((l.length + m.length : Nat) : Int) := by rw [wrap64 (by omega) (by omega)]; omega
  have d1 : decide ((l.length : Int) < 0) = false := decide_eq_false (by omega)
  have d2 : decide (((l.length + m.length : Nat) : Int) < 0) = false := decide_eq_false (by omega)
  have h3 : R_235_3 (([l, m], (0 : Int), [l, m], (([l, m].length : Nat) : Int), (0 : Int), ()), ()) = some (.inl (([l, m], ((l.length + m.length : Nat) : Int), ()), ())) := by
    unfold R_235_3
    rw [hk]
    rw [rounds_in (x' := (([l, m], (l.length : Int), [l, m], (2 : Int), (1 : Int), ()), ())) ?_ (k + 2)]
    · rw [rounds_in (x' := (([l, m], ((l.length + m.length : Nat) : Int), [l, m], (2 : Int), (2 : Int), ()), ())) ?_ (k + 1)]
      · exact rounds_out rfl k
      · show (bif decide (IntKind.i64.wrap ((l.length : Int) + (m.length : Int)) < 0) then none else some (Sum.inl (([l, m], IntKind.i64.wrap ((l.length : Int) + (m.length : Int)), [l, m], (2 : Int), IntKind.i64.wrap ((1 : Int) + 1), ()), ()))) = _
        rw [w2, show IntKind.i64.wrap ((1 : Int) + 1) = 2 by decide]
        exact noV d2 rfl
    · show (bif decide (IntKind.i64.wrap ((0 : Int) + (l.length : Int)) < 0) then none else some (Sum.inl (([l, m], IntKind.i64.wrap ((0 : Int) + (l.length : Int)), [l, m], (2 : Int), IntKind.i64.wrap ((0 : Int) + 1), ()), ()))) = _
      rw [w1, show IntKind.i64.wrap ((0 : Int) + 1) = 1 by decide]
      exact noV d1 rfl
  have h11 : R_235_11 (((), [l, m], (([l, m].length : Nat) : Int), (0 : Int), ()), [], ()) = some (.inl (((), ()), l ++ m, ())) := by
    unfold R_235_11
    rw [hk]
    rw [rounds_in (x' := (((), [l, m], (2 : Int), (1 : Int), ()), l, ())) ?_ (k + 2)]
    · rw [rounds_in (x' := (((), [l, m], (2 : Int), (2 : Int), ()), l ++ m, ())) ?_ (k + 1)]
      · exact rounds_out rfl k
      · show (bif Nat.ble ((l.length + m.length) * 128) 70368744177664 then _ else none) = _
        exact yesV (Nat.ble_eq_true_of_le (by omega)) rfl
    · show (bif Nat.ble ((0 + l.length) * 128) 70368744177664 then _ else none) = _
      exact yesV (Nat.ble_eq_true_of_le (by omega)) rfl
  unfold F_235
  exact bind_ofV h3 (bind_ofV (v_253 _ (by omega)) (bind_ofV h11 rfl))
/-! ### Between -/
theorem q_216_5 (a b : Scene) (z : Entry) (l : List Thing) (hl : l.length ≤ 1000000) :
    R_216_5 (((), (), (), (), l, ((l.length : Nat) : Int), (0 : Int), ()), (a, ()), (b, ()), (z, ()), [], ()) = some (.inl (((), (), (), (), ()), (a, ()), (b, ()), (z, ()), l.map nid, ())) := by
  have h := rounds_to (G := fun x => G_216_5 x.1.2.2.2.2.1 x.1.2.2.2.2.2.1 x.1.2.2.2.2.2.2.1 x.2.1 x.2.2.1 x.2.2.2.1 x.2.2.2.2.1) (n := l.length)
    (inv := fun k => (((), (), (), (), l, (l.length : Int), (k : Int), ()), (a, ()), (b, ()), (z, ()), (l.take k).map nid, ())) (y := .inl (((), (), (), (), ()), (a, ()), (b, ()), (z, ()), (l.take l.length).map nid, ())) (fun k hk => ?_) ?_ l.length 0 fuel (by omega) (fuel_lt (by omega))
  · rw [List.take_length] at h
    exact h
  · have ha := List.getElem?_eq_getElem hk
    have hlen : ((l.take k).map nid).length ≤ k := by rw [List.length_map, List.length_take]; omega
    show G_216_5 l (l.length : Int) (k : Int) (a, ()) (b, ()) (z, ()) ((l.take k).map nid) = _
    rw [List.take_succ_eq_append_getElem hk, List.map_append]
    simp only [G_216_5, dec_lt hk, dec_in hk, cond_true, getD_of ha, wrap_up hk (by omega)]
    exact yesV (Nat.ble_eq_true_of_le (by simp only [List.length_cons, List.length_nil]; omega)) rfl
  · show G_216_5 l (l.length : Int) (l.length : Int) (a, ()) (b, ()) (z, ()) _ = _
    simp only [G_216_5, dec_end, cond_false]
noncomputable def mkD (a b : List Thing) (n : Int) : Delta := (n, bytesO a n, bytesO b n)
noncomputable def difL (a b : List Thing) (ids : List Int) : List Delta := (ids.filter fun n => !(bytesO a n == bytesO b n)).map (mkD a b)
theorem dif_snoc (a b : List Thing) (ids : List Int) (n : Int) : difL a b (ids ++ [n]) = bif !(bytesO a n == bytesO b n) then difL a b ids ++ [mkD a b n] else difL a b ids := by
  unfold difL
  rw [List.filter_append, List.map_append]
  cases h : (bytesO a n == bytesO b n) with
  | true => simp [h]
  | false => simp [h]
theorem dif_len (a b : List Thing) (ids : List Int) : (difL a b ids).length ≤ ids.length := by
  unfold difL
  rw [List.length_map]
  exact List.length_filter_le _ _
theorem q_216_12 (a b : Scene) (z : Entry) (tu : Bool) (f t : Vec) (nb na : Int) (l : List Int) (ha : Lil a.2.2) (hb : Lil b.2.2) (hl : l.length ≤ 1000000) :
    R_216_12 (((), (), (), (), l, ((l.length : Nat) : Int), (0 : Int), ()), (a, ()), (b, ()), (z, ()), ((), tu, f, t, nb, na, ()), [], ()) = some (.inl (((), (), (), (), ()), (a, ()), (b, ()), (z, ()), ((), tu, f, t, nb, na, ()), difL a.2.2 b.2.2 l, ())) := by
  have h := rounds_to (G := fun x => G_216_12 x.1.2.2.2.2.1 x.1.2.2.2.2.2.1 x.1.2.2.2.2.2.2.1 x.2.1 x.2.2.1 x.2.2.2.1 x.2.2.2.2.1 x.2.2.2.2.2.1) (n := l.length)
    (inv := fun k => (((), (), (), (), l, (l.length : Int), (k : Int), ()), (a, ()), (b, ()), (z, ()), ((), tu, f, t, nb, na, ()), difL a.2.2 b.2.2 (l.take k), ())) (y := .inl (((), (), (), (), ()), (a, ()), (b, ()), (z, ()), ((), tu, f, t, nb, na, ()), difL a.2.2 b.2.2 (l.take l.length), ())) (fun k hk => ?_) ?_ l.length 0 fuel (by omega) (fuel_lt (by omega))
  · rw [List.take_length] at h
    exact h
  · have hx := List.getElem?_eq_getElem hk
    have hlen : (difL a.2.2 b.2.2 (l.take k)).length ≤ k := Nat.le_trans (dif_len _ _ _) (by rw [List.length_take]; omega)
    show G_216_12 l (l.length : Int) (k : Int) (a, ()) (b, ()) (z, ()) ((), tu, f, t, nb, na, ()) (difL a.2.2 b.2.2 (l.take k)) = _
    rw [List.take_succ_eq_append_getElem hk, dif_snoc]
    simp only [G_216_12, dec_lt hk, dec_in hk, cond_true, getD_of hx, wrap_up hk (by omega), v_110 a _ ha.sm ha.ins, v_110 b _ hb.sm hb.ins, Option.bind_some]
    cases (bytesO a.2.2 l[k] == bytesO b.2.2 l[k]) with
    | true => rfl
    | false =>
      simp only [Bool.not_false, cond_true]
      exact yesV (Nat.ble_eq_true_of_le (by simp only [List.length_cons, List.length_nil]; omega)) rfl
  · show G_216_12 l (l.length : Int) (l.length : Int) (a, ()) (b, ()) (z, ()) _ _ = _
    simp only [G_216_12, dec_end, cond_false]
def idsOf (a b : List Thing) : List Int := compI (sortI ((a ++ b).map nid))
noncomputable def betE (a b : Scene) : Entry := (difL a.2.2 b.2.2 (idsOf a.2.2 b.2.2), !eqV a.1 b.1, (bif !eqV a.1 b.1 then a.1 else ((0 : Int), (0 : Int))), (bif !eqV a.1 b.1 then b.1 else ((0 : Int), (0 : Int))), a.2.1, b.2.1)
def noE : Entry := ([], false, ((0 : Int), (0 : Int)), ((0 : Int), (0 : Int)), (0 : Int), (0 : Int))
theorem v_216 (a b : Scene) (ha : Lil a.2.2) (hb : Lil b.2.2) (hra : rightB a = true) (hrb : rightB b = true) :
    F_216 a b = some ((if rightE (betE a b) then (betE a b, true, ()) else (noE, false, ())) : Els [tEntry, .bool]) := by
  have e1 := v_20 a ha.sm
  have e2 := v_20 b hb.sm
  rw [hra] at e1
  rw [hrb] at e2
  have la := (right_of hra).len
  have lb := (right_of hrb).len
  have e3 := v_235 a.2.2 b.2.2 (by omega) (by omega)
  have hlen : (a.2.2 ++ b.2.2).length ≤ 80 := by rw [List.length_append]; omega
  have e4 := q_216_5 a b noE (a.2.2 ++ b.2.2) (by omega)
  have hml : ((a.2.2 ++ b.2.2).map nid).length ≤ 80 := by rw [List.length_map]; exact hlen
  have e5 : F_74 ((a.2.2 ++ b.2.2).map nid) = some ((), sortI ((a.2.2 ++ b.2.2).map nid), ()) := by
    unfold F_74
    rw [show Nat.ble ((a.2.2 ++ b.2.2).map nid).length 1000000 = true from Nat.ble_eq_true_of_le (by omega)]; rfl
  have hsl : (sortI ((a.2.2 ++ b.2.2).map nid)).length ≤ 80 := by rw [sortI_len]; exact hml
  have e6 : F_78 (sortI ((a.2.2 ++ b.2.2).map nid)) = some (idsOf a.2.2 b.2.2) := by
    unfold F_78
    rw [show Nat.ble (sortI ((a.2.2 ++ b.2.2).map nid)).length 1000000 = true from Nat.ble_eq_true_of_le (by omega)]; rfl
  have hil : (idsOf a.2.2 b.2.2).length ≤ 80 := Nat.le_trans (compI_len _) hsl
  have e7 := q_216_12 a b noE false ((0 : Int), (0 : Int)) ((0 : Int), (0 : Int)) a.2.1 b.2.1 (idsOf a.2.2 b.2.2) ha hb (by omega)
  have hdl : (betE a b).1.length ≤ 80 := Nat.le_trans (dif_len _ _ _) hil
  have e8 := v_64 (betE a b) (by omega)
  unfold F_216
  refine bind_ofV e1 (noV rfl (bind_ofV e2 (noV rfl (bind_ofV e3 (bind_ofV e4 (bind_ofV e5 (bind_ofV e6 (bind_ofV e7 ?_))))))))
  show (bif !eqV a.1 b.1 then (F_64 (difL a.2.2 b.2.2 (idsOf a.2.2 b.2.2), true, a.1, b.1, a.2.1, b.2.1)).bind (fun v21 => bif !v21.1 then some ((noE, false, ()) : Els [tEntry, .bool]) else some ((difL a.2.2 b.2.2 (idsOf a.2.2 b.2.2), true, a.1, b.1, a.2.1, b.2.1), true, ()))
    else (F_64 (difL a.2.2 b.2.2 (idsOf a.2.2 b.2.2), false, ((0 : Int), (0 : Int)), ((0 : Int), (0 : Int)), a.2.1, b.2.1)).bind (fun v23 => bif !v23.1 then some (noE, false, ()) else some ((difL a.2.2 b.2.2 (idsOf a.2.2 b.2.2), false, ((0 : Int), (0 : Int)), ((0 : Int), (0 : Int)), a.2.1, b.2.1), true, ()))) = _
  cases hv : !eqV a.1 b.1 with
  | true =>
    have hE : (difL a.2.2 b.2.2 (idsOf a.2.2 b.2.2), true, a.1, b.1, a.2.1, b.2.1) = betE a b := by unfold betE; rw [hv]; rfl
    rw [hE]
    refine bind_ofV e8 ?_
    cases rightE (betE a b) <;> rfl
  | false =>
    have hE : (difL a.2.2 b.2.2 (idsOf a.2.2 b.2.2), false, ((0 : Int), (0 : Int)), ((0 : Int), (0 : Int)), a.2.1, b.2.1) = betE a b := by unfold betE; rw [hv]; rfl
    rw [hE]
    refine bind_ofV e8 ?_
    cases rightE (betE a b) <;> rfl
end Go.DI.S

/-! ChangeThere, plain. -/
set_option linter.unusedVariables false
set_option linter.unusedSimpArgs false
set_option maxRecDepth 100000
namespace Go.DI.S
open Go.Proofs
theorem near_of {s : Scene} (h : rightB s = true) : nearB s.1 = true := by
  unfold rightB plainB at h
  simp only [Bool.and_eq_true] at h
  exact h.1.2.2.2.2
section
variable {a b : Scene}
theorem ids_lt (a b : List Thing) : (idsOf a b).Pairwise (· < ·) := compI_lt (sortI_sorted _)
theorem ids_mem {a b : List Thing} {n : Int} : n ∈ idsOf a b ↔ Is a n ∨ Is b n := by
  unfold idsOf
  rw [compI_mem, (sortI_perm _).mem_iff, List.mem_map]
  constructor
  · rintro ⟨t, ht, e⟩
    rcases List.mem_append.1 ht with h | h
    · exact .inl ⟨t, h, e⟩
    · exact .inr ⟨t, h, e⟩
  · rintro (⟨t, h, e⟩ | ⟨t, h, e⟩)
    · exact ⟨t, List.mem_append_left _ h, e⟩
    · exact ⟨t, List.mem_append_right _ h, e⟩
theorem ids_len (a b : List Thing) : (idsOf a b).length ≤ a.length + b.length := by
  refine Nat.le_trans (compI_len _) ?_
  rw [sortI_len, List.length_map, List.length_append]
  exact Nat.le_refl _
theorem mem_dif {a b : List Thing} {ids : List Int} {d : Delta} : d ∈ difL a b ids ↔ ∃ n ∈ ids, bytesO a n ≠ bytesO b n ∧ d = mkD a b n := by
  unfold difL
  rw [List.mem_map]
  constructor
  · rintro ⟨n, hn, rfl⟩
    obtain ⟨h1, h2⟩ := List.mem_filter.1 hn
    refine ⟨n, h1, fun e => ?_, rfl⟩
    rw [e] at h2
    simp at h2
  · rintro ⟨n, h1, h2, rfl⟩
    refine ⟨n, List.mem_filter.2 ⟨h1, ?_⟩, rfl⟩
    rw [beq_false_of_ne h2]; rfl
/-- Where a scene's thing differs, its number is one of the two's. -/
theorem bytes_ids {n : Int} (h : bytesO a.2.2 n ≠ bytesO b.2.2 n) : n ∈ idsOf a.2.2 b.2.2 := by
  rw [ids_mem]
  by_cases h1 : Is a.2.2 n
  · exact .inl h1
  · by_cases h2 : Is b.2.2 n
    · exact .inr h2
    · exact absurd (by rw [bytes_no h1, bytes_no h2]) h
theorem side_bytes (h : Rt a) (hd : Rdb a.2.2) (n : Int) : sideB n (bytesO a.2.2 n) = true := by
  unfold sideB
  rw [Bool.or_eq_true]
  by_cases hn : bytesO a.2.2 n = []
  · left; rw [hn]; rfl
  · right
    obtain ⟨t, ht, e, e2⟩ := bytes_is h hn
    rw [e2, hd t ht]
    exact beq_iff_eq.2 e
theorem dl_dif (ha : Rt a) (hb : Rt b) (da : Rdb a.2.2) (db : Rdb b.2.2) : ∀ (ids : List Int) (k : Int), ids.Pairwise (· < ·) → (∀ n ∈ ids, k < n ∧ 1 ≤ n ∧ n ≤ 1000000) → DL k (difL a.2.2 b.2.2 ids)
  | [], k, _, _ => trivial
  | n :: ids, k, hp, hr => by
    obtain ⟨p1, p2⟩ := List.pairwise_cons.1 hp
    have hn := hr n List.mem_cons_self
    have ih := fun k' (hk : ∀ m ∈ ids, k' < m) => dl_dif ha hb da db ids k' p2 (fun m hm => ⟨hk m hm, (hr m (List.mem_cons_of_mem _ hm)).2⟩)
    unfold difL at ih ⊢
    rw [List.filter_cons]
    split
    · rename_i h
      rw [List.map_cons]
      refine ⟨hn.1, hn.2.1, hn.2.2, fun e => ?_, side_bytes ha da n, side_bytes hb db n, ih n p1⟩
      have e : bytesO a.2.2 n = bytesO b.2.2 n := e
      rw [e] at h
      simp at h
    · exact ih k fun m hm => Int.lt_trans hn.1 (p1 m hm)
theorem link_bet (ha : Rt a) (hb : Rt b) : Ln a b (betE a b) := by
  refine ⟨rfl, rfl, fun k => ?_, fun k => ?_, fun d hd => ?_, fun d hd => ?_, fun n hn => ?_⟩
  · have k : (!eqV a.1 b.1) = true := k
    refine ⟨?_, ?_⟩
    · show (bif !eqV a.1 b.1 then a.1 else _) = a.1
      rw [k]; rfl
    · show (bif !eqV a.1 b.1 then b.1 else _) = b.1
      rw [k]; rfl
  · have k : (!eqV a.1 b.1) = false := k
    have : eqV a.1 b.1 = true := by simpa using k
    exact eqV_iff.1 this
  · obtain ⟨n, _, _, rfl⟩ := mem_dif.1 (show d ∈ difL a.2.2 b.2.2 (idsOf a.2.2 b.2.2) from hd)
    rfl
  · obtain ⟨n, _, _, rfl⟩ := mem_dif.1 (show d ∈ difL a.2.2 b.2.2 (idsOf a.2.2 b.2.2) from hd)
    rfl
  · refine Classical.byContradiction fun h => ?_
    have : inD (betE a b).1 n = true := inD_iff.2 ⟨mkD a.2.2 b.2.2 n, mem_dif.2 ⟨n, bytes_ids h, h, rfl⟩, rfl⟩
    rw [this] at hn; cases hn
theorem dl_bet (ha : Rt a) (hb : Rt b) (da : Rdb a.2.2) (db : Rdb b.2.2) : DL 0 (betE a b).1 := by
  refine dl_dif ha hb da db _ 0 (ids_lt _ _) fun n hn => ?_
  rcases ids_mem.1 hn with ⟨t, ht, rfl⟩ | ⟨t, ht, rfl⟩
  · have := ids_of ha t ht
    omega
  · have := ids_of hb t ht
    omega
/-- When there is no step between two scenes: they are the same, or too much is another. -/
theorem re_bet (hra : rightB a = true) (hrb : rightB b = true) (da : Rdb a.2.2) (db : Rdb b.2.2) : RE (betE a b) ∨ 40 < (betE a b).1.length ∨ ((betE a b).1 = [] ∧ a.1 = b.1 ∧ a.2.1 = b.2.1) := by
  have ha := right_of hra
  have hb := right_of hrb
  by_cases h1 : 40 < (betE a b).1.length
  · exact .inr (.inl h1)
  by_cases h2 : (betE a b).1 = [] ∧ a.1 = b.1 ∧ a.2.1 = b.2.1
  · exact .inr (.inr h2)
  left
  have hv : ∀ c : Bool, (!eqV a.1 b.1) = c → (c = true ↔ a.1 ≠ b.1) := by
    intro c hc
    rw [← hc, Bool.not_eq_true']
    constructor
    · intro h k
      rw [eqV_iff.2 k] at h; cases h
    · intro h
      cases hv : eqV a.1 b.1 with
      | true => exact absurd (eqV_iff.1 hv) h
      | false => rfl
  refine ⟨dl_bet ha hb da db, by omega, ?_, fun k => ?_, ha.next, hb.next, ?_, ?_, ?_⟩
  · show (!eqV a.1 b.1) = true ↔ (bif !eqV a.1 b.1 then a.1 else ((0 : Int), (0 : Int))) ≠ (bif !eqV a.1 b.1 then b.1 else ((0 : Int), (0 : Int)))
    cases hc : !eqV a.1 b.1 with
    | true => exact ⟨fun _ => (hv _ hc).1 rfl, fun _ => rfl⟩
    | false => exact ⟨fun h => (by cases h), fun h => absurd rfl h⟩
  · have k : (!eqV a.1 b.1) = false := k
    show (bif !eqV a.1 b.1 then a.1 else ((0 : Int), (0 : Int))) = _
    rw [k]; rfl
  · show nearB (bif !eqV a.1 b.1 then a.1 else ((0 : Int), (0 : Int))) = true
    cases !eqV a.1 b.1 with
    | true => exact near_of hra
    | false => exact (by decide : nearB ((0 : Int), (0 : Int)) = true)
  · show nearB (bif !eqV a.1 b.1 then b.1 else ((0 : Int), (0 : Int))) = true
    cases !eqV a.1 b.1 with
    | true => exact near_of hrb
    | false => exact (by decide : nearB ((0 : Int), (0 : Int)) = true)
  · by_cases c1 : (betE a b).1 = []
    · by_cases c2 : a.1 = b.1
      · exact .inr (.inr fun k => h2 ⟨c1, c2, k⟩)
      · exact .inr (.inl ((hv _ rfl).2 c2))
    · exact .inl c1
theorem not_fits {e : Entry} (h : Ln a b e) (hE : RE e) : ¬ FitS b e := by
  intro hF
  have h0 : e.1 = [] := by
    cases hl : e.1 with
    | nil => rfl
    | cons d l =>
      have hm : d ∈ e.1 := by rw [hl]; exact List.mem_cons_self
      have h1 := hF.all d hm
      have h2 := h.after d hm
      exact absurd (h1.symm.trans h2.symm) (DL_lt hE.dl d hm).2.2.2.1
  rcases hE.some_ with k | k | k
  · exact k h0
  · exact hE.turned.1 k ((hF.grav k).symm.trans (h.turned k).2.symm)
  · have h1 := hF.next
    have h2 := h.na
    exact k (h1.symm.trans h2.symm)
theorem same_of (ha : Rt a) (hb : Rt b) (da : Rdb a.2.2) (db : Rdb b.2.2) (h : (betE a b).1 = [] ∧ a.1 = b.1 ∧ a.2.1 = b.2.1) : a = b := by
  have hl : Ln a b ([], false, ((0 : Int), (0 : Int)), ((0 : Int), (0 : Int)), a.2.1, b.2.1) := by
    have := link_bet ha hb
    refine ⟨rfl, rfl, fun k => (by cases k), fun _ => h.2.1, fun d hd => (by cases hd), fun d hd => (by cases hd), fun n _ => ?_⟩
    exact this.else_ n (by rw [h.1]; rfl)
  have ho := hl.out ha hb da db trivial
  have hs : outL a.2.2 [] = a.2.2 := by
    have hk : keptL a.2.2 [] = a.2.2 := List.filter_eq_self.2 fun t _ => rfl
    unfold outL
    rw [hk, show newL [] = [] from rfl, List.append_nil]
    exact (sortT_of (asc_nd ha.asc) (List.Perm.refl _) (asc_le ha.asc)).symm
  rw [← ho]
  show a = (a.1, b.2.1, outL a.2.2 [])
  rw [hs, ← h.2.2]
end
theorem changeThere (g h : Vec) (nx af : I.El) (l m : (Ty.list tThing).El) (h0 : tVec.wf g) (h1 : tVec.wf h) (h2 : I.wf nx) (h3 : I.wf af) (h4 : (Ty.list tThing).wf l) (h5 : (Ty.list tThing).wf m) : F_204 g h nx af l m = some ((true, ()) : Els [.bool]) := by
  have hal : (F_207.bind fun v => some ((v.1, ()) : Els [.bool])) = some (true, ()) := bind_ofV alive22 rfl
  unfold F_204
  refine bind_ofV (v_22 l h4.1) ?_
  cases hf : fewB l with
  | false => exact yesV rfl hal
  | true =>
  refine noV rfl (bind_ofV (v_22 m h5.1) ?_)
  cases hf2 : fewB m with
  | false => exact yesV rfl hal
  | true =>
  have ll : Lil l := lil_of hf
  have lm : Lil m := lil_of hf2
  have e1 := v_20 (g, nx, l) ll.sm
  have e2 := v_20 (h, af, m) lm.sm
  refine noV rfl (bind_ofV e1 ?_)
  cases hra : rightB (g, nx, l) with
  | false => exact yesV rfl hal
  | true =>
  refine noV rfl (bind_ofV e2 ?_)
  cases hrb : rightB (h, af, m) with
  | false => exact yesV rfl hal
  | true =>
  refine noV rfl (bind_ofV alive22 (noV rfl ?_))
  have ra := right_of hra
  have rb := right_of hrb
  have da : Rdb l := rdb_of ra (fun t ht => h4.2 t ht) ll.ins
  have db : Rdb m := rdb_of rb (fun t ht => h5.2 t ht) lm.ins
  have la : l.length ≤ 40 := ra.len
  have lb : m.length ≤ 40 := rb.len
  have d1 := v_28b (s := (g, nx, l)) ll.sm hra (fun t ht => (few_small hf).2 t ht)
  have d2 := v_28b (s := (h, af, m)) lm.sm hrb (fun t ht => (few_small hf2).2 t ht)
  have hB := v_216 (g, nx, l) (h, af, m) ll lm hra hrb
  cases hE : rightE (betE (g, nx, l) (h, af, m)) with
  | false =>
    rw [hE] at hB
    refine bind_ofV hB (yesV rfl (bind_ofV d1 (bind_ofV d2 ?_)))
    rcases re_bet hra hrb da db with k | k | k
    · rw [rightE_iff.2 k] at hE; cases hE
    · have k1 : (betE (g, nx, l) (h, af, m)).1.length ≤ l.length + m.length := Nat.le_trans (dif_len _ _ _) (ids_len l m)
      have hw : IntKind.i64.wrap (((l.length : Nat) : Int) + ((m.length : Nat) : Int)) = (l.length : Int) + (m.length : Int) := wrap64 (by omega) (by omega)
      have hd : decide (IntKind.i64.wrap (((l.length : Nat) : Int) + ((m.length : Nat) : Int)) > 40) = true := by
        rw [hw]; exact decide_eq_true (by omega)
      show (bif dumpS (g, nx, l) == dumpS (h, af, m) then some ((true, ()) : Els [.bool]) else some (decide (IntKind.i64.wrap (((l.length : Nat) : Int) + ((m.length : Nat) : Int)) > 40), ())) = _
      rw [hd]
      cases (dumpS (g, nx, l) == dumpS (h, af, m)) <;> rfl
    · have he := same_of ra rb da db k
      refine yesV ?_ rfl
      show (dumpS (g, nx, l) == dumpS (h, af, m)) = true
      rw [he]; simp
  | true =>
    rw [hE] at hB
    have hE' := rightE_iff.1 hE
    have hl := link_bet ra rb
    have hlen : (betE (g, nx, l) (h, af, m)).1.length ≤ 1000000 := by have := hE'.len; omega
    have htl : (turnE (betE (g, nx, l) (h, af, m))).1.length ≤ 1000000 := by
      show ((betE (g, nx, l) (h, af, m)).1.map swapD).length ≤ 1000000
      rw [List.length_map]; exact hlen
    have ho := hl.out ra rb da db hE'.dl
    have ho2 := hl.turn.out rb ra db da (RE_turn hE').dl
    have hT : rightE (turnE (betE (g, nx, l) (h, af, m))) = true := by rw [rightE_turn]; exact hE
    have f1 := (v_68 (g, nx, l) (betE (g, nx, l) (h, af, m)) ll hlen).2.2.2 hra hE hl.fits
    rw [ho, hrb, if_pos rfl] at f1
    have f2 := (v_68 (h, af, m) (turnE (betE (g, nx, l) (h, af, m))) lm htl).2.2.2 hrb hT hl.turn.fits
    rw [ho2, hra, if_pos rfl] at f2
    have f3 := (v_68 (g, nx, l) (turnE (betE (g, nx, l) (h, af, m))) ll htl).2.2.1 hra hT (not_fits hl.turn (RE_turn hE'))
    have f4 := (v_68 (h, af, m) (betE (g, nx, l) (h, af, m)) lm hlen).2.2.1 hrb hE (not_fits hl hE')
    have g2 := v_66 (h, af, m) _ hlen f2
    have g3 := v_66 (g, nx, l) _ hlen f3
    have v5 := v_64 (betE (g, nx, l) (h, af, m)) (by omega)
    rw [hE] at v5
    exact bind_ofV hB (noV rfl (bind_ofV f1 (bind_ofV g2 (bind_ofV g3 (bind_ofV f4 (bind_ofV v5 (yesV rfl (yesV rfl (bind_ofV d2 (bind_ofV d2 (yesV (beq_self_eq_true _) (yesV rfl (bind_ofV d1 (bind_ofV d1 (yesV (beq_self_eq_true _) (yesV rfl rfl))))))))))))))))
end Go.DI.S

