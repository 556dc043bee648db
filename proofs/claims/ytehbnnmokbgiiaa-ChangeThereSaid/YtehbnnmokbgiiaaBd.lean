import Derived.Test.YtehbnnmokbgiiaaZa
/- The bytes of a scene. No conditions. -/
/-! A scene's bytes: written, and read; SceneBytes, plain. -/
set_option linter.unusedVariables false
set_option linter.unusedSimpArgs false
set_option maxRecDepth 100000
namespace Go.DI.S
open Go.Proofs

theorem take_one {α : Type} {l : List α} {k : Nat} {a : α} (h : l[k]? = some a) : l.take (k + 1) = l.take k ++ [a] := by
  rw [List.take_add_one, h]; rfl
theorem bind_of {α β : Type} {a : Option α} {f : α → Option β} {x : α} {y : Option β} (h : a = some x) (k : f x = y) : a.bind f = y := by subst h; exact k
theorem bif_yes {α : Type} {c : Bool} {a b y : α} (h : c = true) (k : a = y) : (bif c then a else b) = y := by subst h; exact k
theorem bif_no {α : Type} {c : Bool} {a b y : α} (h : c = false) (k : b = y) : (bif c then a else b) = y := by subst h; exact k
def pieceS (t : Thing) : List UInt8 := toS (numI ((putI t).length : Int) 2) ++ toS (putI t)
def headS (s : Scene) : List UInt8 := toS (numI s.1.1 8) ++ toS (numI s.1.2 8) ++ toS (numI s.2.1 4) ++ toS (numI (s.2.2.length : Int) 2)
def dumpS (s : Scene) : List UInt8 := headS s ++ s.2.2.flatMap pieceS
theorem putI_len {t : Thing} (hl : (ins t).length ≤ 20) : (putI t).length ≤ 100 := by
  have h20 : t.2.2.2.2.length ≤ 20 := hl
  unfold putI
  rw [List.length_append, List.length_append, numI_len, numI_len]
  cases (t.2.1 == (1 : Int)) <;> cases (t.2.1 == (2 : Int)) <;> cases (t.2.1 == (3 : Int)) <;> simp [bodyI, jointI, vecI_len, numI_len, insI_len] <;> omega
theorem pieceS_len {t : Thing} (hl : (ins t).length ≤ 20) : (pieceS t).length = 2 + (putI t).length := by
  unfold pieceS
  rw [List.length_append, toS_len, toS_len, numI_len]
theorem pieces_len : ∀ (l : List Thing), (∀ t ∈ l, (ins t).length ≤ 20) → (l.flatMap pieceS).length ≤ 102 * l.length
  | [], _ => by simp
  | t :: l, h => by
    rw [List.flatMap_cons, List.length_append, pieceS_len (h t (by simp)), List.length_cons]
    have h1 := pieces_len l (fun u hu => h u (by simp [hu]))
    have h2 := putI_len (h t (by simp))
    omega
theorem headS_len (s : Scene) : (headS s).length = 22 := by simp [headS, toS_len, numI_len]
section
variable {s : Scene}
/-- What a scene's bytes are. -/
theorem v_28b (hs : Small s.2.2) (hr : rightB s = true) (h20 : ∀ t ∈ s.2.2, (ins t).length ≤ 20) : F_28b s = some ((dumpS s, ()) : Els [.str]) := by
  have hR := right_of hr
  have h40 := hR.len
  have h := find_loop (G := fun x => G_28b_5 x.1.1 x.1.2.1 x.1.2.2.1 x.1.2.2.2.1) (m := fuel) s.2.2 (fun _ => false) (fun k => ((headS s ++ (s.2.2.take k).flatMap pieceS, s.2.2, (s.2.2.length : Int), (k : Int), ()), ())) (fun _ => .inr ((), ())) (.inl ((dumpS s, ()), ()))
    (fun k t ha => ?_) ?_ (fuel_lt hs.1)
  · have hnone : s.2.2.findIdx? (fun _ => false) = none := by rw [List.findIdx?_eq_none_iff]; intro _ _; rfl
    rw [hnone] at h
    have w8 : ∀ v : Int, F_60 v 8 = some ((toS (numI v 8), ()) : Els [.str]) := fun v => v_60 v 8 (by omega)
    have w4 : ∀ v : Int, F_60 v 4 = some ((toS (numI v 4), ()) : Els [.str]) := fun v => v_60 v 4 (by omega)
    have w2 : ∀ v : Int, F_60 v 2 = some ((toS (numI v 2), ()) : Els [.str]) := fun v => v_60 v 2 (by omega)
    have l8 : ∀ v : Int, (toS (numI v 8)).length = 8 := fun v => by rw [toS_len, numI_len]
    have l4 : ∀ v : Int, (toS (numI v 4)).length = 4 := fun v => by rw [toS_len, numI_len]
    have l2 : ∀ v : Int, (toS (numI v 2)).length = 2 := fun v => by rw [toS_len, numI_len]
    have k1 : (toS (numI s.1.1 8)).length + (toS (numI s.1.2 8)).length ≤ 4611686018427387904 := by rw [l8, l8]; omega
    have k2 : (toS (numI s.1.1 8) ++ toS (numI s.1.2 8)).length + (toS (numI s.2.1 4)).length ≤ 4611686018427387904 := by rw [List.length_append, l8, l8, l4]; omega
    have k3 : (toS (numI s.1.1 8) ++ toS (numI s.1.2 8) ++ toS (numI s.2.1 4)).length + (toS (numI (s.2.2.length : Int) 2)).length ≤ 4611686018427387904 := by rw [List.length_append, List.length_append, l8, l8, l4, l2]; omega
    have e : toS (numI s.1.1 8) ++ toS (numI s.1.2 8) ++ toS (numI s.2.1 4) ++ toS (numI (s.2.2.length : Int) 2) = headS s ++ (s.2.2.take 0).flatMap pieceS := by simp [headS]
    unfold F_28b
    refine bind_of (v_20 s hs) ?_
    rw [hr]
    refine bif_no rfl (bind_of (w8 _) (bind_of (w8 _) (bif_yes (decide_eq_true k1) (bind_of (w4 _) (bif_yes (decide_eq_true k2) (bind_of (w2 _) (bif_yes (decide_eq_true k3) ?_)))))))
    unfold R_28b_5
    show (roundsT _ fuel ((toS (numI s.1.1 8) ++ toS (numI s.1.2 8) ++ toS (numI s.2.1 4) ++ toS (numI (s.2.2.length : Int) 2), s.2.2, (s.2.2.length : Int), (0 : Int), ()), ())).bind _ = _
    rw [e, show (0 : Int) = ((0 : Nat) : Int) from rfl]
    rw [h]
    rfl
  · have hk := len_of ha
    have ht := List.mem_of_getElem? ha
    have hrt := (hR.low t ht).2.2
    have hp := putI_len (h20 t ht)
    have hpl := pieces_len (s.2.2.take k) (fun u hu => h20 u (List.mem_of_mem_take hu))
    have htk : (s.2.2.take k).length ≤ 40 := by rw [List.length_take]; omega
    have h61 := v_61 t (by have : t.2.2.2.2.length ≤ 20 := h20 t ht; omega)
    rw [hrt, cond_true] at h61
    simp only [G_28b_5, dec_lt hk, dec_in hk, cond_true, getD_of ha]
    rw [h61, show (2 : Int) = ((2 : Nat) : Int) from rfl]
    simp only [Option.bind_some, toS_len, v_60 _ 2 (by omega)]
    have hw : IntKind.i64.wrap ((k : Int) + 1) = ((k + 1 : Nat) : Int) := wrap_up hk (by have := hs.1; omega)
    rw [decide_eq_true (by rw [numI_len]; omega : (numI ((putI t).length : Int) 2).length + (putI t).length ≤ 4611686018427387904), cond_true,
      decide_eq_true (by rw [List.length_append, headS_len, List.length_append, toS_len, toS_len, numI_len]; omega), cond_true, hw, take_one ha, List.flatMap_append]
    simp [pieceS]
  · simp only [G_28b_5, dec_end, cond_false, List.take_length]
    rfl

theorem bif_is {α : Type} {c : Bool} {a b y : α} (h : c = true) (k : a = y) : (bif c then a else b) = y := bif_yes h k
/-- The pieces are read one by one. -/
theorem r_29 (a1 : List UInt8) (z : Scene) (g : Vec) (next : Int) (fin : List Thing → List UInt8) : ∀ (l : List Thing), (∀ t ∈ l, tThing.wf t ∧ rt t = true ∧ (ins t).length ≤ 20) → ∀ (acc : List Thing) (m : Nat), acc.length + l.length ≤ 1000 → l.length < m →
    roundsT (fun x => G_29_7 x.1.1 x.1.2.2.2.1 x.2.1 x.2.2.1 x.2.2.2.1) m ((a1, (), (), l.flatMap pieceS, ()), (z, ()), (g, next, (), ()), acc, ()) = some (.inl ((a1, (), (), ()), (z, ()), (g, next, (), ()), acc ++ l, ()))
  | [], _, acc, m, h1, hm => by
    obtain ⟨m, rfl⟩ : ∃ k, m = k + 1 := ⟨m - 1, by simp at hm; omega⟩
    refine rounds_out ?_ m
    unfold G_29_7
    refine bif_no (decide_eq_false (by simp)) ?_
    rw [List.append_nil]
  | t :: l, hl, acc, m, h1, hm => by
    obtain ⟨m, rfl⟩ : ∃ k, m = k + 1 := ⟨m - 1, by simp at hm; omega⟩
    obtain ⟨hw, hrt, h20⟩ := hl t (by simp)
    simp only [List.length_cons] at h1 hm
    have hp := putI_len h20
    have hlen2 : (toS (numI ((putI t).length : Int) 2)).length = 2 := by rw [toS_len, numI_len]
    have hcat : (t :: l).flatMap pieceS = toS (numI ((putI t).length : Int) 2) ++ (toS (putI t) ++ l.flatMap pieceS) := by rw [List.flatMap_cons, pieceS, List.append_assoc]
    have hlen : ((t :: l).flatMap pieceS).length = 2 + ((putI t).length + (l.flatMap pieceS).length) := by rw [hcat, List.length_append, List.length_append, hlen2, toS_len]
    have hfit : Fits ((putI t).length : Int) 2 := fit2 (by omega) (by omega)
    have h62 : F_62 (List.take 2 (List.drop 0 ((t :: l).flatMap pieceS))) = some ((((putI t).length : Int), ()) : Els [I]) := by
      rw [List.drop_zero, hcat, List.take_left' hlen2, v_62 _ (by omega), val_of hfit]
    have hw1 : IntKind.i64.wrap ((2 : Int) + ((putI t).length : Int)) = ((2 + (putI t).length : Nat) : Int) := by
      rw [show (2 : Int) + ((putI t).length : Int) = ((2 + (putI t).length : Nat) : Int) by omega]
      exact wrap64 (by omega) (by omega)
    have h63 : F_63 (List.take ((IntKind.i64.wrap ((2 : Int) + ((putI t).length : Int))).toNat - 2) (List.drop 2 ((t :: l).flatMap pieceS))) = some ((t, true, ()) : Els [tThing, .bool]) := by
      rw [hw1, hcat, List.drop_left' hlen2]
      have : ((2 + (putI t).length : Nat) : Int).toNat - 2 = (toS (putI t)).length := by rw [toS_len]; omega
      rw [this, List.take_left]
      exact v_63 t hw (by have : t.2.2.2.2.length ≤ 20 := h20; omega) hrt
    have hnext : List.take (((t :: l).flatMap pieceS).length - (IntKind.i64.wrap ((2 : Int) + ((putI t).length : Int))).toNat) (List.drop (IntKind.i64.wrap ((2 : Int) + ((putI t).length : Int))).toNat ((t :: l).flatMap pieceS)) = l.flatMap pieceS := by
      rw [hw1, hlen, hcat, ← List.append_assoc]
      have e1 : ((2 + (putI t).length : Nat) : Int).toNat = (toS (numI ((putI t).length : Int) 2) ++ toS (putI t)).length := by rw [List.length_append, hlen2, toS_len]; omega
      have e2 : 2 + ((putI t).length + (l.flatMap pieceS).length) - ((2 + (putI t).length : Nat) : Int).toNat = (l.flatMap pieceS).length := by omega
      rw [e2, e1, List.drop_left, List.take_length]
    rw [rounds_in (x' := ((a1, (), (), l.flatMap pieceS, ()), (z, ()), (g, next, (), ()), acc ++ [t], ())) ?_ m]
    · rw [r_29 a1 z g next fin l (fun u hu => hl u (by simp [hu])) (acc ++ [t]) m (by simp; omega) (by omega), List.append_assoc]
      rfl
    · unfold G_29_7
      have c1 : (((t :: l).flatMap pieceS).length : Int) ≥ 2 := by rw [hlen]; omega
      have c2 : (0 : Int) ≤ 2 ∧ (2 : Int) ≤ (((t :: l).flatMap pieceS).length : Int) := by rw [hlen]; omega
      have c3 : ¬ (IntKind.i64.wrap ((2 : Int) + ((putI t).length : Int)) > (((t :: l).flatMap pieceS).length : Int)) := by rw [hw1, hlen]; omega
      have c4 : (0 : Int) ≤ IntKind.i64.wrap ((2 : Int) + ((putI t).length : Int)) ∧ IntKind.i64.wrap ((2 : Int) + ((putI t).length : Int)) ≤ (((t :: l).flatMap pieceS).length : Int) ∧ (0 : Int) ≤ 2 ∧ (2 : Int) ≤ IntKind.i64.wrap ((2 : Int) + ((putI t).length : Int)) := by rw [hw1, hlen]; omega
      have c5 : (0 : Int) ≤ IntKind.i64.wrap ((2 : Int) + ((putI t).length : Int)) ∧ IntKind.i64.wrap ((2 : Int) + ((putI t).length : Int)) ≤ (((t :: l).flatMap pieceS).length : Int) := ⟨c4.1, c4.2.1⟩
      refine bif_yes (decide_eq_true c1) (bif_yes (decide_eq_true c2) (bind_of h62 (bif_no (decide_eq_false c3) (bif_yes (decide_eq_true c4) (bind_of h63 (bif_no rfl (bif_yes (Nat.ble_eq_true_of_le (by simp; omega)) (bif_yes (decide_eq_true c5) ?_))))))))
      rw [← hnext]
/-- A right scene's bytes are read as the scene. -/
theorem v_29 (hs : Small s.2.2) (hr : rightB s = true) (hg : tVec.wf s.1) (hw : ∀ t ∈ s.2.2, tThing.wf t) (h20 : ∀ t ∈ s.2.2, (ins t).length ≤ 20) : F_29 (dumpS s) = some ((s, true, ()) : Els [tScene, .bool]) := by
  have hR := right_of hr
  have h40 := hR.len
  have hn := hR.next
  have hpl := pieces_len s.2.2 h20
  have hlen : (dumpS s).length = 22 + (s.2.2.flatMap pieceS).length := by rw [dumpS, List.length_append, headS_len]
  have l8 : ∀ v : Int, (toS (numI v 8)).length = 8 := fun v => by rw [toS_len, numI_len]
  have l4 : ∀ v : Int, (toS (numI v 4)).length = 4 := fun v => by rw [toS_len, numI_len]
  have l2 : ∀ v : Int, (toS (numI v 2)).length = 2 := fun v => by rw [toS_len, numI_len]
  have hcat : dumpS s = toS (numI s.1.1 8) ++ (toS (numI s.1.2 8) ++ (toS (numI s.2.1 4) ++ (toS (numI (s.2.2.length : Int) 2) ++ s.2.2.flatMap pieceS))) := by simp [dumpS, headS]
  have e1 : F_62 (List.take 8 (List.drop 0 (dumpS s))) = some ((s.1.1, ()) : Els [I]) := by
    rw [List.drop_zero, hcat, List.take_left' (l8 _), v_62 _ (by rw [l8]; omega), val_of (fits64 hg.1)]
  have d8 : List.drop 8 (dumpS s) = toS (numI s.1.2 8) ++ (toS (numI s.2.1 4) ++ (toS (numI (s.2.2.length : Int) 2) ++ s.2.2.flatMap pieceS)) := by rw [hcat, List.drop_left' (l8 _)]
  have d16 : List.drop 16 (dumpS s) = toS (numI s.2.1 4) ++ (toS (numI (s.2.2.length : Int) 2) ++ s.2.2.flatMap pieceS) := by rw [show (16 : Nat) = 8 + 8 from rfl, ← List.drop_drop, d8, List.drop_left' (l8 _)]
  have d22 : List.drop 22 (dumpS s) = s.2.2.flatMap pieceS := by rw [show (22 : Nat) = 16 + (4 + 2) from rfl, ← List.drop_drop, d16, ← List.drop_drop, List.drop_left' (l4 _), List.drop_left' (l2 _)]
  have e2 : F_62 (List.take 8 (List.drop 8 (dumpS s))) = some ((s.1.2, ()) : Els [I]) := by
    rw [d8, List.take_left' (l8 _), v_62 _ (by rw [l8]; omega), val_of (fits64 hg.2)]
  have e3 : F_62 (List.take 4 (List.drop 16 (dumpS s))) = some ((s.2.1, ()) : Els [I]) := by
    rw [d16, List.take_left' (l4 _), v_62 _ (by rw [l4]; omega), val_of (fit4 (Int.le_trans (by decide : (0 : Int) ≤ 1) hn.1) (Int.lt_of_le_of_lt hn.2 (by decide : (1000001 : Int) < 4294967296)))]
  have hloop : R_29_7 ((dumpS s, (), (), List.take ((dumpS s).length - 22) (List.drop 22 (dumpS s)), ()), ((((0 : Int), (0 : Int)), (0 : Int), []), ()), ((s.1.1, s.1.2), s.2.1, (), ()), [], ()) = some (.inl ((dumpS s, (), (), ()), ((((0 : Int), (0 : Int)), (0 : Int), []), ()), ((s.1.1, s.1.2), s.2.1, (), ()), s.2.2, ())) := by
    rw [d22, hlen, Nat.add_sub_cancel_left, List.take_length]
    exact r_29 (dumpS s) _ _ _ (fun _ => []) s.2.2 (fun t ht => ⟨hw t ht, (hR.low t ht).2.2, h20 t ht⟩) [] fuel (by simp; omega) (fuel_lt hs.1)
  unfold F_29
  refine bif_no (decide_eq_false (by rw [hlen]; omega)) (bif_yes (decide_eq_true (by rw [hlen]; omega)) (bind_of e1 (bif_yes (decide_eq_true (by rw [hlen]; omega)) (bind_of e2 (bif_yes (decide_eq_true (by rw [hlen]; omega)) (bind_of e3 (bif_yes (decide_eq_true (by rw [hlen]; omega)) (bind_of hloop ?_))))))))
  show (F_28b s).bind _ = _
  exact bind_of (v_28b hs hr h20) (bif_no (by simp) rfl)
end
/-! ### alike, or not -/
theorem v_100ne {t u : Thing} (ht : t.2.2.2.2.length ≤ 1000000000) (hne : t ≠ u) : F_100 t u = some ((false, ()) : Els [.bool]) := by
  obtain ⟨(id : Int), (kind : Int), ⟨(b1 : Int), ⟨(b2 : Int), (b3 : Int)⟩, (b4 : Int), ⟨(b5 : Int), (b6 : Int)⟩, (b7 : Int), (b8 : Int)⟩, ⟨(j1 : Int), (j2 : Int), (j3 : Int)⟩, (l : List Int)⟩ := t
  obtain ⟨(id' : Int), (kind' : Int), ⟨(c1 : Int), ⟨(c2 : Int), (c3 : Int)⟩, (c4 : Int), ⟨(c5 : Int), (c6 : Int)⟩, (c7 : Int), (c8 : Int)⟩, ⟨(k1 : Int), (k2 : Int), (k3 : Int)⟩, (m : List Int)⟩ := u
  have hl : l.length ≤ 1000000000 := ht
  unfold F_100
  cases q1 : (id != id') with
  | true => rfl
  | false =>
  refine bif_no rfl ?_
  cases q2 : (kind != kind') with
  | true => rfl
  | false =>
  refine bif_no rfl ?_
  cases q3 : (b1 == c1 && ((b2 == c2 && (b3 == c3 && true)) && (b4 == c4 && ((b5 == c5 && (b6 == c6 && true)) && ((b7 == c7 && (b8 == c8 && true)) && true))))) with
  | false => rfl
  | true =>
  refine bif_no rfl ?_
  cases q4 : (j1 == k1 && (j2 == k2 && (j3 == k3 && true))) with
  | false => rfl
  | true =>
  refine bif_no rfl ?_
  cases q5 : ((l.length : Int) != (m.length : Int)) with
  | true => rfl
  | false =>
  refine bif_no rfl ?_
  have hlen : l.length = m.length := by
    have : ((l.length : Int)) = (m.length : Int) := by simpa using q5
    omega
  have hll : l ≠ m := by
    rintro rfl
    apply hne
    simp only [Bool.and_eq_true, beq_iff_eq, Bool.and_true] at q3 q4
    have r1 : id = id' := by simpa using q1
    have r2 : kind = kind' := by simpa using q2
    obtain ⟨rfl, ⟨rfl, rfl⟩, rfl, ⟨rfl, rfl⟩, rfl, rfl⟩ := q3
    obtain ⟨rfl, rfl, rfl⟩ := q4
    subst r1; subst r2; rfl
  generalize hT : (id, kind, (b1, (b2, b3), b4, (b5, b6), b7, b8), (j1, j2, j3), l) = T
  generalize hU : (id', kind', (c1, (c2, c3), c4, (c5, c6), c7, c8), (k1, k2, k3), m) = U
  have h := all_loop (G := fun x => G_100_4 x.1.2.2.1 x.2.1 x.2.2.1) (m := fuel) (l.zip m) (fun p => p.1 == p.2) (fun k => (((), (), (k : Int), ()), ((T : Thing), ()), ((U : Thing), ()), ())) (.inr ((false, ()), ())) (.inl ((), ()))
    (fun k p ha => ?_) ?_ (fuel_lt (by rw [List.length_zip]; omega))
  · have hno : ((l.zip m).all fun p => p.1 == p.2) = false := by
      rw [Bool.eq_false_iff]
      intro hall
      apply hll
      apply List.ext_getElem hlen
      intro i h1 h2
      have := List.all_eq_true.1 hall (l[i], m[i]) (by
        rw [List.mem_iff_getElem]
        exact ⟨i, by rw [List.length_zip]; omega, by simp⟩)
      simpa using this
    rw [hno] at h
    exact bind_of h rfl
  · rw [List.getElem?_zip_eq_some] at ha
    obtain ⟨h1, h2⟩ := ha
    have k1 := len_of h1
    have k2 := len_of h2
    subst hT; subst hU
    show (bif decide ((k : Int) < (l.length : Int)) then _ else _) = _
    refine bif_yes (dec_lt k1) (bif_yes (dec_in k1) (bif_yes (dec_in k2) ?_))
    rw [getD_of h1, getD_of h2, wrap_up k1 (by omega)]
    cases hx : (p.1 == p.2) <;> simp [bne, hx]
  · subst hT; subst hU
    show (bif decide (((l.zip m).length : Int) < (l.length : Int)) then _ else _) = _
    rw [decide_eq_false (by rw [List.length_zip]; omega)]
    rfl
theorem v_57ne {s r : Scene} (hs : Small s.2.2) (hne : s ≠ r) : F_57 s r = some ((false, ()) : Els [.bool]) := by
  obtain ⟨⟨(g1 : Int), (g2 : Int)⟩, (next : Int), (l : List Thing)⟩ := s
  obtain ⟨⟨(h1 : Int), (h2 : Int)⟩, (next' : Int), (m : List Thing)⟩ := r
  have hl : l.length ≤ 1000000000 := hs.1
  unfold F_57
  cases q1 : (g1 == h1 && (g2 == h2 && true)) with
  | false => rfl
  | true =>
  refine bif_no rfl ?_
  cases q2 : (next != next') with
  | true => rfl
  | false =>
  refine bif_no rfl ?_
  cases q5 : ((l.length : Int) != (m.length : Int)) with
  | true => rfl
  | false =>
  refine bif_no rfl ?_
  have hlen : l.length = m.length := by
    have : ((l.length : Int)) = (m.length : Int) := by simpa using q5
    omega
  have hll : l ≠ m := by
    rintro rfl
    apply hne
    simp only [Bool.and_eq_true, beq_iff_eq, Bool.and_true] at q1
    have r2 : next = next' := by simpa using q2
    obtain ⟨rfl, rfl⟩ := q1
    subst r2; rfl
  classical
  have h := all_loop (G := fun x => G_57_4 x.1.2.2.1 x.2.1 x.2.2.1) (m := fuel) (l.zip m) (fun p => decide (p.1 = p.2)) (fun k => (((), (), (k : Int), ()), ((((g1, g2), next, l) : Scene), ()), ((((h1, h2), next', m) : Scene), ()), ())) (.inr ((false, ()), ())) (.inl ((), ()))
    (fun k p ha => ?_) ?_ (fuel_lt (by rw [List.length_zip]; omega))
  · have hno : ((l.zip m).all fun p => decide (p.1 = p.2)) = false := by
      rw [Bool.eq_false_iff]
      intro hall
      apply hll
      apply List.ext_getElem hlen
      intro i h1 h2
      have := List.all_eq_true.1 hall (l[i], m[i]) (by
        rw [List.mem_iff_getElem]
        exact ⟨i, by rw [List.length_zip]; omega, by simp⟩)
      simpa using this
    rw [hno] at h
    exact bind_of h rfl
  · rw [List.getElem?_zip_eq_some] at ha
    obtain ⟨e1, e2⟩ := ha
    have k1 := len_of e1
    have k2 := len_of e2
    show (bif decide ((k : Int) < (l.length : Int)) then _ else _) = _
    refine bif_yes (dec_lt k1) (bif_yes (dec_in k1) (bif_yes (dec_in k2) ?_))
    show (F_100 (l.getD (Int.toNat (k : Int)) tThing.dflt) (m.getD (Int.toNat (k : Int)) tThing.dflt)).bind _ = _
    rw [getD_of e1, getD_of e2, wrap_up k1 (by omega)]
    have hx20 := hs.2 p.1 (List.mem_of_getElem? e1)
    by_cases hx : p.1 = p.2
    · rw [← hx]
      refine bind_of (v_100 p.1 hx20) ?_
      simp
    · refine bind_of (v_100ne hx20 hx) ?_
      simp [hx]
  · show (bif decide (((l.zip m).length : Int) < (l.length : Int)) then _ else _) = _
    rw [decide_eq_false (by rw [List.length_zip]; omega)]
    rfl
/-! ### SceneBytes -/
end Go.DI.S

