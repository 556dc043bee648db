import Derived.Test.YtbjldjihpekhaaaGreatLa
import Derived.Test.YtbjldjihpekhaaaGreatQg
/- OrderSizes, plain. No conditions. -/
set_option linter.unusedVariables false
set_option linter.unusedSimpArgs false
set_option maxRecDepth 100000
namespace Go.DI.S
open Go.Proofs
def Good {α : Type} (P : α → Prop) (o : Option α) : Prop := ∃ x, o = some x ∧ P x
theorem good_some {α : Type} {P : α → Prop} {x : α} (h : P x) : Good P (some x) := ⟨x, rfl, h⟩
theorem good_if {α : Type} {P : α → Prop} {c : Bool} {a b : Option α} (h1 : c = true → Good P a) (h2 : c = false → Good P b) : Good P (bif c then a else b) := by
  cases c
  · exact h2 rfl
  · exact h1 rfl
theorem good_bind {α β : Type} {Q : α → Prop} {P : β → Prop} {a : Option α} {f : α → Option β} (h : Good Q a) (k : ∀ x, Q x → Good P (f x)) : Good P (a.bind f) := by
  obtain ⟨x, rfl, hx⟩ := h
  exact k x hx
theorem number_good (a : Int) : Good (fun r : Els [.str] => r.1.length = 4) (F_number a) := ⟨_, rfl, rfl⟩
def InvB (x : LD_bytes_4.El) : Prop := ∃ (r3 r5 : Int) (l : List Int), x = ((r3, (), r5, ()), l, ()) ∧ -1 ≤ r5 ∧ r5 ≤ 7 ∧ (l.length : Int) = 7 - r5
def muB (x : LD_bytes_4.El) : Nat := Int.toNat ((x.1.2.2.1 : Int) + 1)
theorem bytes_good (a : Ty.El tF) : Good (fun r : Els [.str] => r.1.length = 8) (F_bytes a) := by
  have h : ∃ y, R_bytes_4 ((((a : Nat) : Int), (), (7 : Int), ()), [], ()) = some y ∧ ∃ l : List Int, y = .inl (((), ()), l, ()) ∧ l.length = 8 := by
    unfold R_bytes_4
    refine rounds_mu InvB muB _ ?_ fuel _ ⟨_, 7, [], rfl, by omega, by omega, rfl⟩ (by show Int.toNat ((7 : Int) + 1) < fuel; unfold fuel; omega)
    rintro x ⟨r3, r5, l, rfl, h1, h2, h3⟩
    show (∃ x', G_bytes_4 r3 r5 l = some (.inl x') ∧ _) ∨ ∃ y, G_bytes_4 r3 r5 l = some (.inr y) ∧ _
    unfold G_bytes_4
    by_cases c : r5 ≥ 0
    · left
      have w : IntKind.i64.wrap ((8 : Int) * r5) = 8 * r5 := Go.DI.wrap64 (by omega) (by omega)
      have w1 : IntKind.i64.wrap (r5 - (1 : Int)) = r5 - 1 := Go.DI.wrap64 (by omega) (by omega)
      rw [w, w1]
      refine ⟨_, yesQ (decide_eq_true c) (noQ (decide_eq_false (by omega)) (yesQ (Nat.ble_eq_true_of_le ?_) rfl)), ⟨r3, r5 - 1, _, rfl, by omega, by omega, ?_⟩, ?_⟩
      · simp only [List.length_cons, List.length_nil]; omega
      · simp only [List.length_append, List.length_cons, List.length_nil]; omega
      · show Int.toNat (r5 - 1 + 1) < Int.toNat (r5 + 1); omega
    · right
      exact ⟨_, noQ (decide_eq_false c) rfl, l, rfl, by omega⟩
  obtain ⟨y, hy, l, rfl, hl⟩ := h
  unfold F_bytes
  rw [hy]
  exact ⟨_, rfl, by show (List.map _ l).length = 8; rw [List.length_map]; exact hl⟩
end Go.DI.S
set_option linter.unusedVariables false
set_option linter.unusedSimpArgs false
set_option maxRecDepth 100000
namespace Go.DI.S
open Go.Proofs
abbrev idsO (o : Ty.El tOrder) : List Int := o.2.2.2.2.2.2.2.2.2.2.2
def byO (n : Int) : UInt8 := UInt8.ofNat (IntKind.u8.wrap n).toNat
def PutP (o : Ty.El tOrder) (r : Els [.str, .bool]) : Prop := (r.2.1 = false ∧ r.1 = []) ∨
  (r.2.1 = true ∧ 1 ≤ (o.1 : Int) ∧ (o.1 : Int) ≤ 15 ∧ (idsO o).length ≤ 8 ∧ ∃ p q, r.1 = byO o.1 :: (p ++ byO ((idsO o).length : Int) :: q) ∧ p.length = 60 ∧ q.length = 4 * (idsO o).length)
def InvP (r4 : List UInt8) (l : List Int) (c0 : UInt8) (o : Ty.El tOrder) (x : LD_put_13.El) : Prop := ∃ (t : List UInt8) (k : Int), x = (((), r4, c0 :: t, l, (l.length : Int), k, ()), (o, ()), ()) ∧ 0 ≤ k ∧ k ≤ l.length ∧ (t.length : Int) = 4 * k
def muP (x : LD_put_13.El) : Nat := Int.toNat ((x.1.2.2.2.2.1 : Int) - x.1.2.2.2.2.2.1)
theorem loop_good (r4 : List UInt8) (l : List Int) (c0 : UInt8) (o : Ty.El tOrder) (hl : l.length ≤ 8) :
    Good (fun y : LA_put_13.El ⊕ LB_put_13.El => y = .inr (([], false, ()), ()) ∨ ∃ t : List UInt8, y = .inl (((), r4, c0 :: t, ()), (o, ()), ()) ∧ t.length = 4 * l.length)
      (R_put_13 (((), r4, [c0], l, (l.length : Int), (0 : Int), ()), (o, ()), ())) := by
  unfold R_put_13
  refine rounds_mu (InvP r4 l c0 o) muP _ ?_ fuel _ ⟨[], 0, rfl, by omega, by omega, rfl⟩ (by show Int.toNat ((l.length : Int) - 0) < fuel; unfold fuel; omega)
  rintro x ⟨t, k, rfl, h1, h2, h3⟩
  show (∃ x', G_put_13 r4 (c0 :: t) l (l.length : Int) k (o, ()) = some (.inl x') ∧ _) ∨ ∃ y, G_put_13 r4 (c0 :: t) l (l.length : Int) k (o, ()) = some (.inr y) ∧ _
  unfold G_put_13
  by_cases c : k < (l.length : Int)
  · by_cases c1 : List.getD l (Int.toNat k) (0 : Int) < (0 : Int)
    · exact .inr ⟨_, yesQ (decide_eq_true c) (yesQ (decide_eq_true ⟨h1, c⟩) (yesQ (decide_eq_true c1) rfl)), .inl rfl⟩
    by_cases c2 : List.getD l (Int.toNat k) (0 : Int) > (1000000 : Int)
    · exact .inr ⟨_, yesQ (decide_eq_true c) (yesQ (decide_eq_true ⟨h1, c⟩) (noQ (decide_eq_false c1) (yesQ (decide_eq_true c2) rfl))), .inl rfl⟩
    left
    have w1 : IntKind.i64.wrap (k + (1 : Int)) = k + 1 := Go.DI.wrap64 (by omega) (by omega)
    obtain ⟨v, hv, hv4⟩ := number_good (List.getD l (Int.toNat k) (0 : Int))
    rw [w1, hv]
    refine ⟨_, yesQ (decide_eq_true c) (yesQ (decide_eq_true ⟨h1, c⟩) (noQ (decide_eq_false c1) (noQ (decide_eq_false c2) (yesQ (decide_eq_true ?_) rfl)))), ⟨t ++ v.1, k + 1, rfl, by omega, by omega, ?_⟩, ?_⟩
    · simp only [List.length_cons]; omega
    · simp only [List.length_append]; omega
    · show Int.toNat ((l.length : Int) - (k + 1)) < Int.toNat ((l.length : Int) - k); omega
  · right
    exact ⟨_, noQ (decide_eq_false c) rfl, .inr ⟨t, rfl, by omega⟩⟩
theorem put_good (o : Ty.El tOrder) : Good (PutP o) (F_put o) := by
  unfold F_put
  refine good_if (fun _ => good_some (.inl ⟨rfl, rfl⟩)) fun k1 => ?_
  refine good_if (fun _ => good_some (.inl ⟨rfl, rfl⟩)) fun k2 => ?_
  refine good_if (fun _ => good_some (.inl ⟨rfl, rfl⟩)) fun k3 => ?_
  have k1 : (1 : Int) ≤ o.1 := Int.not_lt.1 (of_decide_eq_false k1)
  have k2 : (o.1 : Int) ≤ 15 := Int.not_lt.1 (of_decide_eq_false k2)
  have k3 : ¬ ((idsO o).length : Int) > 8 := of_decide_eq_false k3
  refine good_bind (Q := fun v => v = (((), ()), (o, ()), ((), (), (), (), (), ()), ())) ⟨_, rfl, rfl⟩ ?_
  rintro v2 rfl
  refine good_if (fun _ => good_some (.inl ⟨rfl, rfl⟩)) fun _ => good_if (fun _ => good_some (.inl ⟨rfl, rfl⟩)) fun _ => good_bind (number_good _) fun n0 hn0 => ?_
  refine good_if (fun _ => ?_) (fun c => absurd (of_decide_eq_false c) (by simp only [List.length_append, List.length_map, List.length_cons, List.length_nil]; omega))
  refine good_if (fun _ => good_some (.inl ⟨rfl, rfl⟩)) fun _ => good_if (fun _ => good_some (.inl ⟨rfl, rfl⟩)) fun _ => good_bind (number_good _) fun n1 hn1 => ?_
  refine good_if (fun _ => ?_) (fun c => absurd (of_decide_eq_false c) (by simp only [List.length_append, List.length_map, List.length_cons, List.length_nil]; omega))
  refine good_if (fun _ => good_some (.inl ⟨rfl, rfl⟩)) fun _ => good_if (fun _ => good_some (.inl ⟨rfl, rfl⟩)) fun _ => good_bind (number_good _) fun n2 hn2 => ?_
  refine good_if (fun _ => ?_) (fun c => absurd (of_decide_eq_false c) (by simp only [List.length_append, List.length_map, List.length_cons, List.length_nil]; omega))
  refine good_if (fun _ => good_some (.inl ⟨rfl, rfl⟩)) fun _ => good_if (fun _ => good_some (.inl ⟨rfl, rfl⟩)) fun _ => good_bind (number_good _) fun n3 hn3 => ?_
  refine good_if (fun _ => ?_) (fun c => absurd (of_decide_eq_false c) (by simp only [List.length_append, List.length_map, List.length_cons, List.length_nil]; omega))
  refine good_if (fun _ => good_some (.inl ⟨rfl, rfl⟩)) fun _ => good_if (fun _ => good_some (.inl ⟨rfl, rfl⟩)) fun _ => good_bind (number_good _) fun n4 hn4 => ?_
  refine good_if (fun _ => ?_) (fun c => absurd (of_decide_eq_false c) (by simp only [List.length_append, List.length_map, List.length_cons, List.length_nil]; omega))
  refine good_bind (loop_good _ (idsO o) _ o (by omega)) fun y hy => ?_
  rcases hy with rfl | ⟨t, rfl, ht⟩
  · exact good_some (.inl ⟨rfl, rfl⟩)
  rw [Sum.elim_inl]
  refine good_bind (Q := fun v => v = (((), ()), (o, ()), ((), (), (), (), (), ()), ())) ⟨_, rfl, rfl⟩ ?_
  rintro v3 rfl
  refine good_bind (bytes_good _) fun b0 hb0 => ?_
  refine good_if (fun _ => ?_) (fun c => absurd (of_decide_eq_false c) (by simp only [List.length_append, List.length_map, List.length_cons, List.length_nil]; omega))
  refine good_bind (bytes_good _) fun b1 hb1 => ?_
  refine good_if (fun _ => ?_) (fun c => absurd (of_decide_eq_false c) (by simp only [List.length_append, List.length_map, List.length_cons, List.length_nil]; omega))
  refine good_bind (bytes_good _) fun b2 hb2 => ?_
  refine good_if (fun _ => ?_) (fun c => absurd (of_decide_eq_false c) (by simp only [List.length_append, List.length_map, List.length_cons, List.length_nil]; omega))
  refine good_bind (bytes_good _) fun b3 hb3 => ?_
  refine good_if (fun _ => ?_) (fun c => absurd (of_decide_eq_false c) (by simp only [List.length_append, List.length_map, List.length_cons, List.length_nil]; omega))
  refine good_bind (bytes_good _) fun b4 hb4 => ?_
  refine good_if (fun _ => ?_) (fun c => absurd (of_decide_eq_false c) (by simp only [List.length_append, List.length_map, List.length_cons, List.length_nil]; omega))
  refine good_if (fun _ => ?_) (fun c => absurd (of_decide_eq_false c) (by simp only [List.length_append, List.length_map, List.length_cons, List.length_nil]; omega))
  refine good_some (.inr ⟨rfl, k1, k2, by omega, n0.1 ++ n1.1 ++ n2.1 ++ n3.1 ++ n4.1 ++ b0.1 ++ b1.1 ++ b2.1 ++ b3.1 ++ b4.1, t, ?_, ?_, ht⟩)
  · simp only [byO, List.map_cons, List.map_nil, List.append_assoc, List.cons_append, List.nil_append]
  · simp only [List.length_append]; omega
end Go.DI.S
set_option linter.unusedVariables false
set_option linter.unusedSimpArgs false
set_option maxRecDepth 100000
namespace Go.DI.S
open Go.Proofs
theorem or_byte_all : (List.range 256).all (fun n => decide (0 ≤ Go.DI.bOr Go.IntKind.i64 (Go.IntKind.i64.wrap ((0 : Int) * (256 : Int))) (Go.IntKind.i64.wrap (n : Int)) ∧ Go.DI.bOr Go.IntKind.i64 (Go.IntKind.i64.wrap ((0 : Int) * (256 : Int))) (Go.IntKind.i64.wrap (n : Int)) ≤ 255)) = true := by kernel_rfl
theorem or_byte (c : UInt8) : (0 : Int) ≤ Go.DI.bOr Go.IntKind.i64 (Go.IntKind.i64.wrap ((0 : Int) * (256 : Int))) (Go.IntKind.i64.wrap ((c.toBitVec.toFin.1 : Nat) : Int)) ∧ Go.DI.bOr Go.IntKind.i64 (Go.IntKind.i64.wrap ((0 : Int) * (256 : Int))) (Go.IntKind.i64.wrap ((c.toBitVec.toFin.1 : Nat) : Int)) ≤ (255 : Int) :=
  of_decide_eq_true (List.all_eq_true.1 or_byte_all _ (List.mem_range.2 c.toBitVec.toFin.2))
theorem take_good (a : Int) (b : Ty.El .str × Ty.El .bool × Unit) (ha : 0 ≤ a) : Good (fun r : OUT_take.El => ((r.1.1 : List UInt8).length : Int) ≤ a) (F_take a b) := by
  unfold F_take
  refine good_if (fun _ => good_some ha) fun _ => good_if (fun _ => good_some ha) fun c => ?_
  have c := of_decide_eq_false c
  have hd : (0 : Int) ≤ a ∧ a ≤ ((List.length b.1 : Nat) : Int) := ⟨ha, Int.not_lt.1 c⟩
  rw [decide_eq_true hd]
  refine good_some ?_
  show ((List.take (Int.toNat a - 0) (List.drop 0 b.1)).length : Int) ≤ a
  rw [List.length_take]; omega
def InvR (l : List UInt8) (x : LD_read8_5.El) : Prop := ∃ (r4 k : Int), x = ((l, r4, (l.length : Int), k, ()), ()) ∧ 0 ≤ k ∧ k ≤ l.length
def muR (x : LD_read8_5.El) : Nat := Int.toNat ((x.1.2.2.1 : Int) - x.1.2.2.2.1)
theorem read8_good (l : List UInt8) : Good (fun _ : Els [tF, .bool] => True) (F_read8 l) := by
  unfold F_read8
  refine good_if (fun _ => good_some trivial) fun c => ?_
  have hl : ((l.length : Nat) : Int) = 8 := by simpa using c
  have h : ∃ y, R_read8_5 ((l, (0 : Int), (l.length : Int), (0 : Int), ()), ()) = some y ∧ ∃ r4 : Int, y = .inl ((r4, ()), ()) := by
    unfold R_read8_5
    refine rounds_mu (InvR l) muR _ ?_ fuel _ ⟨0, 0, rfl, by omega, by omega⟩ (by show Int.toNat ((l.length : Int) - 0) < fuel; unfold fuel; omega)
    rintro x ⟨r4, k, rfl, h1, h2⟩
    show (∃ x', G_read8_5 l r4 (l.length : Int) k = some (.inl x') ∧ _) ∨ ∃ y, G_read8_5 l r4 (l.length : Int) k = some (.inr y) ∧ _
    unfold G_read8_5
    by_cases c : k < (l.length : Int)
    · left
      have w1 : IntKind.i64.wrap (k + (1 : Int)) = k + 1 := Go.DI.wrap64 (by omega) (by omega)
      rw [w1]
      refine ⟨_, yesQ (decide_eq_true c) (yesQ (decide_eq_true ⟨h1, c⟩) rfl), ⟨_, k + 1, rfl, by omega, by omega⟩, ?_⟩
      show Int.toNat ((l.length : Int) - (k + 1)) < Int.toNat ((l.length : Int) - k); omega
    · exact .inr ⟨_, noQ (decide_eq_false c) rfl, r4, rfl⟩
  obtain ⟨y, hy, r4, rfl⟩ := h
  rw [hy]
  exact ⟨_, rfl, trivial⟩
def InvN (l : List UInt8) (b : Ty.El .str × Ty.El .bool × Unit) (x : LD_num_4.El) : Prop := ∃ (r5 k : Int), x = (((), r5, l, (l.length : Int), k, ()), b, ()) ∧ 0 ≤ k ∧ k ≤ l.length ∧ (l.length ≤ 1 → (k = 0 ∧ r5 = 0) ∨ (k = 1 ∧ 0 ≤ r5 ∧ r5 ≤ 255))
def muN (x : LD_num_4.El) : Nat := Int.toNat ((x.1.2.2.2.1 : Int) - x.1.2.2.2.2.1)
theorem num_good (a : Int) (b : Ty.El .str × Ty.El .bool × Unit) (h0 : 0 ≤ a) (h8 : a ≤ 8) : Good (fun r : OUT_num.El => a = 1 → (0 : Int) ≤ r.1.1 ∧ (r.1.1 : Int) ≤ 255) (F_num a b) := by
  unfold F_num
  refine good_bind (take_good a _ h0) fun v hv => ?_
  have hl : ((v.1.1 : List UInt8).length : Int) ≤ a := hv
  have h : ∃ y, R_num_4 (((), (0 : Int), (v.1.1 : List UInt8), ((v.1.1 : List UInt8).length : Int), (0 : Int), ()), (v.2.1.1, v.2.1.2.1, ()), ()) = some y ∧ ∃ r5 : Int, y = .inl (((), r5, ()), (v.2.1.1, v.2.1.2.1, ()), ()) ∧ ((v.1.1 : List UInt8).length ≤ 1 → 0 ≤ r5 ∧ r5 ≤ 255) := by
    generalize (v.1.1 : List UInt8) = l at hl
    unfold R_num_4
    refine rounds_mu (InvN l (v.2.1.1, v.2.1.2.1, ())) muN _ ?_ fuel _ ⟨0, 0, rfl, by omega, by omega, fun _ => .inl ⟨rfl, rfl⟩⟩ (by show Int.toNat ((l.length : Int) - 0) < fuel; unfold fuel; omega)
    rintro x ⟨r5, k, rfl, h1, h2, h3⟩
    show (∃ x', G_num_4 r5 l (l.length : Int) k (v.2.1.1, v.2.1.2.1, ()) = some (.inl x') ∧ _) ∨ ∃ y, G_num_4 r5 l (l.length : Int) k (v.2.1.1, v.2.1.2.1, ()) = some (.inr y) ∧ _
    unfold G_num_4
    by_cases c : k < (l.length : Int)
    · left
      have w1 : IntKind.i64.wrap (k + (1 : Int)) = k + 1 := Go.DI.wrap64 (by omega) (by omega)
      rw [w1]
      refine ⟨_, yesQ (decide_eq_true c) (yesQ (decide_eq_true ⟨h1, c⟩) rfl), ⟨_, k + 1, rfl, by omega, by omega, fun hk => ?_⟩, ?_⟩
      · rcases h3 hk with ⟨rfl, rfl⟩ | ⟨rfl, _⟩
        · exact .inr ⟨rfl, or_byte _⟩
        · omega
      · show Int.toNat ((l.length : Int) - (k + 1)) < Int.toNat ((l.length : Int) - k); omega
    · refine .inr ⟨_, noQ (decide_eq_false c) rfl, r5, rfl, fun hk => ?_⟩
      rcases h3 hk with ⟨_, rfl⟩ | ⟨_, h4⟩
      · omega
      · exact h4
  obtain ⟨y, hy, r5, rfl, h5⟩ := h
  rw [hy]
  exact ⟨_, rfl, fun ha => h5 (by omega)⟩
end Go.DI.S
set_option linter.unusedVariables false
set_option linter.unusedSimpArgs false
set_option maxRecDepth 100000
namespace Go.DI.S
open Go.Proofs
def Shp (s : List UInt8) (n : Nat) : Prop := ∃ k p q, s = k :: (p ++ byO (n : Int) :: q) ∧ p.length = 60 ∧ q.length = 4 * n
def InvG (s : List UInt8) (x : LD_getb_15.El) : Prop := ∃ (r10 : Int) (b3 : List Int), ∃ b0 b1 b2, x = ((s, (), (), (), r10, ()), b0, b1, b2, b3, ()) ∧ 0 ≤ r10 ∧ r10 ≤ 255 ∧ ((b3.length : Nat) : Int) + r10 ≤ 255
def muG (x : LD_getb_15.El) : Nat := Int.toNat (x.1.2.2.2.2.1 : Int)
theorem loopG (s : List UInt8) (x : LD_getb_15.El) (hx : InvG s x) : Good (fun y : LA_getb_15.El ⊕ LB_getb_15.El => ∃ z, y = .inl z ∧ z.1.1 = s) (R_getb_15 x) := by
  have hf : muG x < fuel := by
    obtain ⟨r, b3, b0, b1, b2, rfl, h1, h2, h3⟩ := hx
    show Int.toNat r < fuel
    unfold fuel; omega
  unfold R_getb_15
  refine rounds_mu (InvG s) muG _ ?_ fuel _ hx hf
  rintro x ⟨r10, b3, b0, b1, b2, rfl, h1, h2, h3⟩
  show (∃ x', G_getb_15 s r10 b0 b1 b2 b3 = some (.inl x') ∧ _) ∨ ∃ y, G_getb_15 s r10 b0 b1 b2 b3 = some (.inr y) ∧ _
  unfold G_getb_15
  by_cases c : r10 > 0
  · left
    have w1 : IntKind.i64.wrap (r10 - (1 : Int)) = r10 - 1 := Go.DI.wrap64 (by omega) (by omega)
    obtain ⟨v, hv, _⟩ := num_good 4 (b1.fst, b1.snd.fst, ()) (by omega) (by omega)
    rw [w1, hv]
    refine ⟨_, yesQ (decide_eq_true c) (yesQ (Nat.ble_eq_true_of_le ?_) rfl), ⟨r10 - 1, b3 ++ [v.fst.fst], _, _, _, rfl, by omega, by omega, ?_⟩, ?_⟩
    · show (b3.length + 1) * 8 ≤ 70368744177664
      omega
    · rw [List.length_append]
      show (((b3.length + 1 : Nat)) : Int) + (r10 - 1) ≤ 255
      omega
    · show Int.toNat (r10 - 1) < Int.toNat r10
      omega
  · right
    exact ⟨_, noQ (decide_eq_false c) rfl, _, rfl, rfl⟩
theorem getb_good (s : List UInt8) : Good (fun r : Els [tOrder, .bool] => r.2.1 = true → ∃ n, n ≤ 8 ∧ Shp s n) (F_getb s) := by
  unfold F_getb
  refine good_bind (num_good 1 _ (by omega) (by omega)) fun v2 _ => ?_
  refine good_bind (Q := fun v : OUT_numsg.El => (v.2.2.1 : List Int) = []) ⟨_, rfl, rfl⟩ fun v6 h6 => ?_
  refine good_bind (num_good 4 _ (by omega) (by omega)) fun n0 _ => ?_
  refine good_bind (num_good 4 _ (by omega) (by omega)) fun n1 _ => ?_
  refine good_bind (num_good 4 _ (by omega) (by omega)) fun n2 _ => ?_
  refine good_bind (num_good 4 _ (by omega) (by omega)) fun n3 _ => ?_
  refine good_bind (num_good 4 _ (by omega) (by omega)) fun n4 _ => ?_
  refine good_bind (Q := fun v : OUT_realsg.El => ((v.2.2.1 : List Int) = (v6.2.2.1 : List Int))) ⟨_, rfl, rfl⟩ fun v62 h62 => ?_
  refine good_bind (take_good 8 _ (by omega)) fun t0 _ => good_bind (read8_good _) fun f0 _ => ?_
  refine good_bind (take_good 8 _ (by omega)) fun t1 _ => good_bind (read8_good _) fun f1 _ => ?_
  refine good_bind (take_good 8 _ (by omega)) fun t2 _ => good_bind (read8_good _) fun f2 _ => ?_
  refine good_bind (take_good 8 _ (by omega)) fun t3 _ => good_bind (read8_good _) fun f3 _ => ?_
  refine good_bind (take_good 8 _ (by omega)) fun t4 _ => good_bind (read8_good _) fun f4 _ => ?_
  refine good_bind (num_good 1 _ (by omega) (by omega)) fun m hm => ?_
  obtain ⟨m1, m2⟩ := hm rfl
  have hb : (v62.2.2.1 : List Int) = [] := h62.trans h6
  refine good_bind (loopG s _ ⟨m.1.1, v62.2.2.1, _, _, _, rfl, m1, m2, ?_⟩) fun y hy => ?_
  · rw [hb]
    show (0 : Int) + _ ≤ 255
    rw [Int.zero_add]
    exact m2
  obtain ⟨z, rfl, hz⟩ := hy
  rw [Sum.elim_inl]
  refine good_bind (put_good _) fun w hw => ?_
  refine good_if (fun _ => good_some fun h => by cases h) fun _ => good_if (fun _ => good_some fun h => by cases h) fun c1 => good_if (fun _ => good_some fun h => by cases h) fun c2 => good_some fun _ => ?_
  rcases hw with ⟨h, _⟩ | ⟨_, _, _, h8, p, q, he, hp, hq⟩
  · rw [h] at c1; cases c1
  · have e : w.1 = s := by rw [← hz]; simpa using c2
    exact ⟨_, h8, _, p, q, e ▸ he, hp, hq⟩
end Go.DI.S
set_option linter.unusedVariables false
set_option linter.unusedSimpArgs false
set_option maxRecDepth 100000
namespace Go.DI.S
open Go.Proofs
theorem aliveL : F_alive = some (true, ()) := by kernel_rfl
theorem byO_all : (List.range 9).all (fun a => (List.range 9).all (fun b => !(byO (a : Int) == byO (b : Int)) || a == b)) = true := by kernel_rfl
theorem byO_inj {a b : Nat} (ha : a ≤ 8) (hb : b ≤ 8) (h : byO (a : Int) = byO (b : Int)) : a = b := by
  have h1 := List.all_eq_true.1 (List.all_eq_true.1 byO_all a (List.mem_range.2 (by omega))) b (List.mem_range.2 (by omega))
  rw [h] at h1
  simpa using h1
theorem byO_kind_all : (List.range 16).all (fun a => IntKind.i64.wrap (((byO (a : Int)).toBitVec.toFin.1 : Nat) : Int) == (a : Int)) = true := by kernel_rfl
theorem byO_kind {k : Int} (h1 : 1 ≤ k) (h2 : k ≤ 15) : IntKind.i64.wrap (((byO k).toBitVec.toFin.1 : Nat) : Int) = k := by
  have h := List.all_eq_true.1 byO_kind_all k.toNat (List.mem_range.2 (by omega))
  have e : ((k.toNat : Nat) : Int) = k := by omega
  rw [e] at h
  exact eq_of_beq h
theorem shp_len {s : List UInt8} {n : Nat} (h : Shp s n) : s.length = 62 + 4 * n ∧ s[61]? = some (byO (n : Int)) := by
  obtain ⟨k, p, q, rfl, hp, hq⟩ := h
  refine ⟨by simp only [List.length_cons, List.length_append]; omega, ?_⟩
  show (p ++ byO (n : Int) :: q)[60]? = _
  rw [List.getElem?_append_right (by omega), hp]
  rfl
theorem getb_cut {s : List UInt8} {n i : Nat} (hn : n ≤ 8) (h : Shp s n) (hi : i < s.length) : ∃ r : Els [tOrder, .bool], F_getb (s.take i) = some r ∧ r.2.1 = false := by
  obtain ⟨r, hr, hg⟩ := getb_good (s.take i)
  refine ⟨r, hr, ?_⟩
  cases hb : r.2.1
  · rfl
  · obtain ⟨m, hm, hs⟩ := hg hb
    obtain ⟨a1, a2⟩ := shp_len h
    obtain ⟨b1, b2⟩ := shp_len hs
    rw [List.length_take] at b1
    rw [List.getElem?_take_of_lt (by omega), a2] at b2
    have := byO_inj hn hm (Option.some.inj b2)
    omega
theorem getb_long {s t : List UInt8} {n : Nat} (hn : n ≤ 8) (h : Shp s n) (ht : t ≠ []) : ∃ r : Els [tOrder, .bool], F_getb (s ++ t) = some r ∧ r.2.1 = false := by
  obtain ⟨r, hr, hg⟩ := getb_good (s ++ t)
  refine ⟨r, hr, ?_⟩
  cases hb : r.2.1
  · rfl
  · obtain ⟨m, hm, hs⟩ := hg hb
    obtain ⟨a1, a2⟩ := shp_len h
    obtain ⟨b1, b2⟩ := shp_len hs
    rw [List.length_append] at b1
    rw [List.getElem?_append_left (by omega), a2] at b2
    have := byO_inj hn hm (Option.some.inj b2)
    have : t.length = 0 := by omega
    exact absurd (List.length_eq_zero_iff.1 this) ht
theorem ixL {n : Int} (a : Int) (h1 : 1 ≤ n) (h2 : n ≤ 1000) : 0 ≤ (IntKind.i64.wrap (Int.tmod a n + n)).tmod n ∧ (IntKind.i64.wrap (Int.tmod a n + n)).tmod n < n := by
  have h3 := Int.tmod_lt_of_pos a (b := n) (by omega)
  have h4 : -n < Int.tmod a n := Int.lt_tmod_of_pos a (by omega)
  have w : IntKind.i64.wrap (Int.tmod a n + n) = Int.tmod a n + n := Go.DI.wrap64 (by omega) (by omega)
  rw [w]
  exact ⟨Int.tmod_nonneg _ (by omega), Int.tmod_lt_of_pos _ (by omega)⟩
theorem sizes_true (o : Ty.El tOrder) (k : Int) (more : List UInt8) : F_sizes o k more = some ((true, ()) : Els [.bool]) := by
  unfold F_sizes
  by_cases g1 : ((List.length (idsO o) : Nat) : Int) > (20 : Int)
  · exact yesQ (decide_eq_true g1) (bnd aliveL rfl)
  refine noQ (decide_eq_false g1) ?_
  cases g2 : (more == [])
  case true => exact yesQ rfl (bnd aliveL rfl)
  refine noQ rfl ?_
  have hm : more ≠ [] := by rintro rfl; cases g2
  by_cases g3 : ((List.length more : Nat) : Int) > (40 : Int)
  · exact yesQ (decide_eq_true g3) (bnd aliveL rfl)
  refine noQ (decide_eq_false g3) (bnd aliveL (noQ rfl ?_))
  obtain ⟨⟨b, ok, _⟩, hr, hp⟩ := put_good o
  refine bnd hr ?_
  rcases hp with ⟨h1, h2⟩ | ⟨h1, k1, k2, h8, p, q, he, hpl, hql⟩
  · have h1 : ok = false := h1
    have h2 : b = [] := h2
    subst h1 h2
    rfl
  have h1 : ok = true := h1
  have he2 : b = byO o.1 :: (p ++ byO ((idsO o).length : Int) :: q) := he
  subst h1
  have hs : Shp b (idsO o).length := ⟨_, p, q, he2, hpl, hql⟩
  obtain ⟨hl, _⟩ := shp_len hs
  have w1 : IntKind.i64.wrap ((4 : Int) * ((List.length (idsO o) : Nat) : Int)) = (4 : Int) * ((List.length (idsO o) : Nat) : Int) := Go.DI.wrap64 (by omega) (by omega)
  have w2 : IntKind.i64.wrap ((62 : Int) + (4 : Int) * ((List.length (idsO o) : Nat) : Int)) = (62 : Int) + (4 : Int) * ((List.length (idsO o) : Nat) : Int) := Go.DI.wrap64 (by omega) (by omega)
  obtain ⟨i1, i2⟩ := ixL k (n := ((List.length b : Nat) : Int)) (by omega) (by omega)
  have hb0 : List.getD b (Int.toNat (0 : Int)) (0 : UInt8) = byO o.1 := by rw [he2]; rfl
  dsimp only
  refine noQ rfl (noQ ?_ (yesQ (decide_eq_true ⟨by omega, by omega⟩) (noQ ?_ (noQ (decide_eq_false (by omega)) (noQ (decide_eq_false (by omega)) (yesQ (decide_eq_true ⟨i1, by omega⟩) ?_))))))
  · rw [w1, w2]
    have e : ((List.length b : Nat) : Int) = (62 : Int) + (4 : Int) * ((List.length (idsO o) : Nat) : Int) := by omega
    rw [bne_eq_false_iff_eq]
    exact e
  · rw [hb0, byO_kind k1 k2, bne_eq_false_iff_eq]
  generalize hi : (IntKind.i64.wrap (Int.tmod k ((List.length b : Nat) : Int) + ((List.length b : Nat) : Int))).tmod ((List.length b : Nat) : Int) = i at i1 i2
  obtain ⟨r1, hr1, hf1⟩ := getb_cut (i := i.toNat) h8 hs (by omega)
  obtain ⟨r2, hr2, hf2⟩ := getb_long h8 hs hm
  refine bnd (x := r1) ?_ (yesQ (decide_eq_true ?_) (bnd hr2 ?_))
  · exact hr1
  · show List.length b + List.length more ≤ 4611686018427387904
    omega
  · rw [hf1, hf2]; rfl
theorem orderSizes (o : Ty.El tOrder) (k : Int) (more : Ty.El .str) (h1 : Ty.wf tOrder o) (h2 : Ty.wf I k) (h3 : Ty.wf .str more) : F_sizes o k more = some ((true, ()) : Els [.bool]) := sizes_true o k more
end Go.DI.S
