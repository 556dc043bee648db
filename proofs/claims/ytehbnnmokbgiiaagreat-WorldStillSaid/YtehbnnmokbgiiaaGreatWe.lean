import Derived.Test.YtehbnnmokbgiiaaGreatWd
/- Sums; two bodies; rows, plain. No conditions. -/
/-! Plain: what sums come to. -/
set_option linter.unusedVariables false
set_option linter.unusedSimpArgs false
set_option maxRecDepth 100000
namespace Go.DI.S
open Go.Proofs
def In64 (a : Int) : Prop := -9223372036854775808 ≤ a ∧ a < 9223372036854775808
theorem wrap_eq (n : Int) : IntKind.i64.wrap n = if n % 18446744073709551616 ≥ 9223372036854775808 then n % 18446744073709551616 - 18446744073709551616 else n % 18446744073709551616 := by
  simp [IntKind.wrap, IntKind.bits, IntKind.signed]
theorem wrap_hi {x : Int} (h1 : 9223372036854775808 ≤ x) (h2 : x < 18446744073709551616) : IntKind.i64.wrap x = x - 18446744073709551616 := by
  rw [wrap_eq]; split <;> omega
theorem wrap_lo {x : Int} (h1 : x < -9223372036854775808) (h2 : -18446744073709551616 ≤ x) : IntKind.i64.wrap x = x + 18446744073709551616 := by
  rw [wrap_eq]; split <;> omega
theorem f_yes {c : Bool} {α : Type} {a b r : α} (h : c = true) (k : a = r) : (bif c then a else b) = r := by subst h; exact k
theorem f_no {c : Bool} {α : Type} {a b r : α} (h : c = false) (k : b = r) : (bif c then a else b) = r := by subst h; exact k
theorem d_217 {a b : Int} (ha : In64 a) (hb : In64 b) : F_217 a b = some (if -9223372036854775808 ≤ a + b ∧ a + b < 9223372036854775808 then ((a + b, (0 : Int), ()) : Els [I, I]) else ((0 : Int), (3 : Int), ())) := by
  obtain ⟨a1, a2⟩ := ha
  obtain ⟨b1, b2⟩ := hb
  unfold F_217
  by_cases hr : -9223372036854775808 ≤ a + b ∧ a + b < 9223372036854775808
  · rw [if_pos hr, wrap64 hr.1 hr.2]
    by_cases h1 : a < 0 <;> by_cases h2 : b < 0 <;> by_cases h3 : a + b < 0 <;> first | omega | simp [h1, h2, h3]
  · rw [if_neg hr]
    by_cases h1 : a < 0
    · have h2 : b < 0 := by omega
      have h3 : ¬ a + b + 18446744073709551616 < 0 := by omega
      rw [wrap_lo (by omega) (by omega)]
      simp [h1, h2, h3]
    · have h2 : ¬ b < 0 := by omega
      have h3 : a + b - 18446744073709551616 < 0 := by omega
      rw [wrap_hi (by omega) (by omega)]
      simp [h1, h2, h3]
theorem d_284 {a b : Int} (ha : In64 a) (hb : In64 b) : F_284 a b = some (if -9223372036854775808 ≤ a - b ∧ a - b < 9223372036854775808 then ((a - b, (0 : Int), ()) : Els [I, I]) else ((0 : Int), (3 : Int), ())) := by
  obtain ⟨a1, a2⟩ := ha
  obtain ⟨b1, b2⟩ := hb
  unfold F_284
  by_cases hr : -9223372036854775808 ≤ a - b ∧ a - b < 9223372036854775808
  · rw [if_pos hr, wrap64 hr.1 hr.2]
    by_cases h1 : a < 0 <;> by_cases h2 : b < 0 <;> by_cases h3 : a - b < 0 <;> first | omega | simp [h1, h2, h3]
  · rw [if_neg hr]
    by_cases h1 : a < 0
    · have h2 : ¬ b < 0 := by omega
      have h3 : ¬ a - b + 18446744073709551616 < 0 := by omega
      rw [wrap_lo (by omega) (by omega)]
      simp [h1, h2, h3]
    · have h2 : b < 0 := by omega
      have h3 : a - b - 18446744073709551616 < 0 := by omega
      rw [wrap_hi (by omega) (by omega)]
      simp [h1, h2, h3]
theorem n_154 {a b : Int} (ha : In64 a) (hb : In64 b) (h : In64 (a + b)) : F_154 a b = some (.inl ((a + b, ()) : Els [I])) := by
  unfold F_154
  rw [d_217 ha hb, if_pos (show -9223372036854775808 ≤ a + b ∧ a + b < 9223372036854775808 from h)]; rfl
theorem n_230 {a b : Int} (ha : In64 a) (hb : In64 b) (h : In64 (a - b)) : F_230 a b = some (.inl ((a - b, ()) : Els [I])) := by
  unfold F_230
  rw [d_284 ha hb, if_pos (show -9223372036854775808 ≤ a - b ∧ a - b < 9223372036854775808 from h)]; rfl
theorem v_154 {a b : Int} {y : Els [I]} (ha : In64 a) (hb : In64 b) (h : F_154 a b = some (.inl y)) : y.1 = a + b ∧ In64 (a + b) := by
  unfold F_154 at h
  rw [d_217 ha hb] at h
  by_cases hr : -9223372036854775808 ≤ a + b ∧ a + b < 9223372036854775808
  · rw [if_pos hr] at h
    have h : some (Sum.inl ((a + b, ()) : Els [I])) = some (Sum.inl y : Els [I] ⊕ Int) := h
    injection h with h; injection h with h
    rw [← h]; exact ⟨rfl, hr⟩
  · rw [if_neg hr] at h
    have h : some (Sum.inr 3 : Els [I] ⊕ Int) = some (Sum.inl y : Els [I] ⊕ Int) := h
    cases h
theorem v_230 {a b : Int} {y : Els [I]} (ha : In64 a) (hb : In64 b) (h : F_230 a b = some (.inl y)) : y.1 = a - b ∧ In64 (a - b) := by
  unfold F_230 at h
  rw [d_284 ha hb] at h
  by_cases hr : -9223372036854775808 ≤ a - b ∧ a - b < 9223372036854775808
  · rw [if_pos hr] at h
    have h : some (Sum.inl ((a - b, ()) : Els [I])) = some (Sum.inl y : Els [I] ⊕ Int) := h
    injection h with h; injection h with h
    rw [← h]; exact ⟨rfl, hr⟩
  · rw [if_neg hr] at h
    have h : some (Sum.inr 3 : Els [I] ⊕ Int) = some (Sum.inl y : Els [I] ⊕ Int) := h
    cases h
theorem bAnd0 (b : Int) : bAnd IntKind.u64 0 b = 0 := by
  have : BitVec.ofInt 64 0 &&& BitVec.ofInt 64 b = 0#64 := by
    rw [show BitVec.ofInt 64 0 = 0#64 from rfl, BitVec.zero_and]
  show IntKind.u64.wrap ((BitVec.ofInt 64 0 &&& BitVec.ofInt 64 b).toNat : Int) = 0
  rw [this]; rfl
theorem mul_0l (b : Int) : F_218 0 b = some ((0, 0, ()) : Els [.int .u64, .int .u64]) := by
  unfold F_218
  have e : Int.fdiv 0 4294967296 = 0 := rfl
  simp only [bAnd0, e, Int.zero_mul, Int.zero_add, show IntKind.u64.wrap 0 = 0 from rfl]
theorem mul_0r (b : Int) : F_218 b 0 = some ((0, 0, ()) : Els [.int .u64, .int .u64]) := by
  unfold F_218
  have e : Int.fdiv 0 4294967296 = 0 := rfl
  simp only [bAnd0, e, Int.mul_zero, Int.zero_add, Int.add_zero, show IntKind.u64.wrap 0 = 0 from rfl]
theorem whole0 (s : Bool) : F_307 s 0 = some ((0, 0, ()) : Els [I, I]) := by cases s <;> rfl
theorem m_0l (b : Int) : F_225 0 b = some (.inl ((0, ()) : Els [I])) := by
  unfold F_225 F_281
  obtain ⟨n, u, h, _⟩ := t_306 b
  rw [h, show F_306 0 = some ((false, 0, ()) : Els [.bool, .int .u64]) from rfl]
  simp only [Option.bind_some]
  rw [mul_0l]
  simp only [Option.bind_some]
  have e : bOr IntKind.u64 (IntKind.u64.wrap (0 * 4294967296)) (Int.fdiv 0 4294967296) = 0 := rfl
  rw [e, whole0]; rfl
theorem m_0r (b : Int) : F_225 b 0 = some (.inl ((0, ()) : Els [I])) := by
  unfold F_225 F_281
  obtain ⟨n, u, h, _⟩ := t_306 b
  rw [h, show F_306 0 = some ((false, 0, ()) : Els [.bool, .int .u64]) from rfl]
  simp only [Option.bind_some]
  rw [mul_0r]
  simp only [Option.bind_some]
  have e : bOr IntKind.u64 (IntKind.u64.wrap (0 * 4294967296)) (Int.fdiv 0 4294967296) = 0 := rfl
  rw [e, whole0]; rfl

/-! ### what sums come to, in both directions -/
def In2 (v : Vec) : Prop := In64 v.1 ∧ In64 v.2
theorem wrap_in (n : Int) : In64 (IntKind.i64.wrap n) := by
  unfold In64; rw [wrap_eq]; split <;> omega
theorem s_154 {a b : Int} (ha : In64 a) (hb : In64 b) : Th (F_154 a b) fun y => y.1 = a + b ∧ In64 y.1 := by
  obtain ⟨y, e, h⟩ := t_154 a b
  refine ⟨y, e, ?_⟩
  cases y with
  | inr e => exact h
  | inl y => obtain ⟨h1, h2⟩ := v_154 ha hb e; exact ⟨h1, by rw [h1]; exact h2⟩
theorem s_230 {a b : Int} (ha : In64 a) (hb : In64 b) : Th (F_230 a b) fun y => y.1 = a - b ∧ In64 y.1 := by
  obtain ⟨y, e, h⟩ := t_230 a b
  refine ⟨y, e, ?_⟩
  cases y with
  | inr e => exact h
  | inl y => obtain ⟨h1, h2⟩ := v_230 ha hb e; exact ⟨h1, by rw [h1]; exact h2⟩
theorem s_62 {a b : Vec} (ha : In2 a) (hb : In2 b) : Th (F_62 a b) fun y => y.1 = (a.1 + b.1, a.2 + b.2) ∧ In2 y.1 :=
  .elim (s_154 ha.1 hb.1) fun x hx => .elim (s_154 ha.2 hb.2) fun y hy => .ok ⟨by show (x.1, y.1) = _; rw [hx.1, hy.1], hx.2, hy.2⟩
theorem s_227 {a b : Vec} (ha : In2 a) (hb : In2 b) : Th (F_227 a b) fun y => y.1 = (a.1 - b.1, a.2 - b.2) ∧ In2 y.1 :=
  .elim (s_230 ha.1 hb.1) fun x hx => .elim (s_230 ha.2 hb.2) fun y hy => .ok ⟨by show (x.1, y.1) = _; rw [hx.1, hy.1], hx.2, hy.2⟩
theorem r_307 (b : Bool) (u : Int) : ∃ y, F_307 b u = some y ∧ (y.2.1 = 0 ∨ y.2.1 = 3 ∨ y.2.1 = 4) ∧ In64 y.1 := by
  have h0 : In64 0 := ⟨by omega, by omega⟩
  unfold F_307
  cases b with
  | true =>
    cases decide (u ≤ 9223372036854775808) with
    | true => exact ⟨_, rfl, .inl rfl, wrap_in _⟩
    | false => exact ⟨_, rfl, .inr (.inl rfl), h0⟩
  | false =>
    cases decide (u < 9223372036854775808) with
    | true => exact ⟨_, rfl, .inl rfl, wrap_in _⟩
    | false => exact ⟨_, rfl, .inr (.inl rfl), h0⟩
theorem r_281 (a b : Int) : ∃ y, F_281 a b = some y ∧ (y.2.1 = 0 ∨ y.2.1 = 3 ∨ y.2.1 = 4) ∧ In64 y.1 := by
  unfold F_281
  obtain ⟨n1, u1, h1, _⟩ := t_306 a
  obtain ⟨n2, u2, h2, _⟩ := t_306 b
  obtain ⟨h, l, h3, _⟩ := t_218 u1 u2
  rw [h1]; simp only [Option.bind_some]
  rw [h2]; simp only [Option.bind_some]
  rw [h3]; simp only [Option.bind_some]
  cases decide (h ≥ 4294967296) with
  | true => exact ⟨_, rfl, .inr (.inl rfl), by show In64 0; exact ⟨by omega, by omega⟩⟩
  | false =>
    obtain ⟨y4, h4, k4⟩ := r_307 (!n1 == n2) (bOr IntKind.u64 (IntKind.u64.wrap (h * 4294967296)) (Int.fdiv l 4294967296))
    simp only [cond_false]
    rw [h4]
    exact ⟨_, rfl, k4⟩
theorem th_in {p : Option (Els [I, I])} (h : ∃ y, p = some y ∧ (y.2.1 = 0 ∨ y.2.1 = 3 ∨ y.2.1 = 4) ∧ In64 y.1) :
    Th (p.bind fun v2 => (F_216 v2.fst v2.snd.fst).bind fun v4 => Sum.elim (fun v6 => some (Sum.inl ((v6.fst, ()) : Els [I]))) (fun v7 => some (Sum.inr v7)) v4) fun y => In64 y.1 := by
  obtain ⟨y, rfl, hy, hi⟩ := h
  have : Th (F_216 y.1 y.2.1) fun z => In64 z.1 := by
    unfold F_216
    refine .cond (fun hc => .err ?_) (fun _ => .ok hi)
    rcases hy with h | h
    · rw [h] at hc; simp at hc
    · exact h
  exact .elim this fun z hz => .ok hz
theorem r_225 (a b : Int) : Th (F_225 a b) fun y => In64 y.1 := th_in (r_281 a b)
theorem r_162 (a : Vec) (b : Int) : Th (F_162 a b) fun y => In2 y.1 := .elim (r_225 _ _) fun _ h => .elim (r_225 _ _) fun _ k => .ok ⟨h, k⟩
theorem z_162 (b : Int) : F_162 ((0 : Int), (0 : Int)) b = some (.inl ((((0 : Int), (0 : Int)), ()) : Els [tVec])) := by
  unfold F_162
  rw [m_0l]; rfl
theorem z_162r (a : Vec) : F_162 a 0 = some (.inl ((((0 : Int), (0 : Int)), ()) : Els [tVec])) := by
  unfold F_162
  rw [m_0r]
  simp only [Option.bind_some, Sum.elim_inl]
  rw [m_0r]; rfl
theorem z_161 : F_161 ((0 : Int), (0 : Int)) 64 = some (.inl ((((0 : Int), (0 : Int)), ()) : Els [tVec])) := rfl
theorem r_224 (a b : Int) : Th (F_224 a b) fun y => In64 y.1 := by
  unfold F_224
  refine .cond (fun _ => .err (.inr rfl)) (fun h0 => ?_)
  have h0 : b ≠ 0 := by simpa using h0
  have h1 : decide (b = 0) = false := decide_eq_false h0
  rw [h1]
  exact .cond (fun _ => .cond (fun _ => .err (.inl rfl)) fun _ => .ok (wrap_in _)) fun _ => .ok (wrap_in _)
theorem r_161 (a : Vec) (b : Int) : Th (F_161 a b) fun y => In2 y.1 := .elim (r_224 _ _) fun _ h => .elim (r_224 _ _) fun _ k => .ok ⟨h, k⟩
end Go.DI.S

/-! Plain: what two bodies do to one another; rows. -/
set_option linter.unusedVariables false
set_option linter.unusedSimpArgs false
set_option maxRecDepth 100000
namespace Go.DI.S
open Go.Proofs
/-! ### two bodies -/
theorem s_62c (a b : Vec) : Th (F_62 a b) fun y => In2 a → In2 b → y.1 = (a.1 + b.1, a.2 + b.2) ∧ In2 y.1 := by
  by_cases h : In2 a ∧ In2 b
  · exact (s_62 h.1 h.2).mono fun y hy _ _ => hy
  · exact (t_62 a b).mono fun y _ h1 h2 => absurd ⟨h1, h2⟩ h
theorem s_227c (a b : Vec) : Th (F_227 a b) fun y => In2 a → In2 b → y.1 = (a.1 - b.1, a.2 - b.2) ∧ In2 y.1 := by
  by_cases h : In2 a ∧ In2 b
  · exact (s_227 h.1 h.2).mono fun y hy _ _ => hy
  · exact (t_227 a b).mono fun y _ h1 h2 => absurd ⟨h1, h2⟩ h
theorem s_225 (a b : Int) : Th (F_225 a b) fun y => In64 y.1 ∧ (b = 0 → y.1 = 0) := by
  by_cases h : b = 0
  · subst h
    rw [m_0r]
    exact .ok ⟨⟨by decide, by decide⟩, fun _ => rfl⟩
  · exact (r_225 a b).mono fun y hy => ⟨hy, fun h' => absurd h' h⟩
theorem s_162 (a : Vec) (b : Int) : Th (F_162 a b) fun y => In2 y.1 ∧ (b = 0 → y.1 = ((0 : Int), (0 : Int))) :=
  .elim (s_225 _ _) fun x hx => .elim (s_225 _ _) fun y hy => .ok ⟨⟨hx.1, hy.1⟩, fun h => by show (x.1, y.1) = _; rw [hx.2 h, hy.2 h]⟩
theorem s_243 (a : Body) : Th (F_243 a) fun y => a.2.2.1 = 0 → y.1 = 0 := by
  unfold F_243
  refine .cond (fun _ => .ok fun _ => rfl) fun h => .elim (t_231 _ _) fun y _ => .ok fun h0 => ?_
  have h0 : a.snd.snd.fst = 0 := h0
  rw [h0] at h; cases h
/-- What becomes of a body. -/
def KB (b b' : Body) : Prop := b'.1 = b.1 ∧ b'.2.1 = b.2.1 ∧ b'.2.2.1 = b.2.2.1 ∧ (b.2.2.1 = 0 → In2 b.2.2.2.1 → b' = b)
theorem KB.same (b : Body) : KB b b := ⟨rfl, rfl, rfl, fun _ _ => rfl⟩
theorem KB.trans {a b c : Body} (h : KB a b) (k : KB b c) : KB a c := by
  obtain ⟨h1, h2, h3, h4⟩ := h
  obtain ⟨k1, k2, k3, k4⟩ := k
  refine ⟨k1.trans h1, k2.trans h2, k3.trans h3, fun m i => ?_⟩
  have := h4 m i
  subst this
  exact k4 m i
/-- What becomes of two. -/
def PB (a b a' b' : Body) : Prop := KB a a' ∧ KB b b' ∧ (a.2.2.1 ≠ 0 → b.2.2.1 ≠ 0 → In2 a.2.2.2.2 → In2 b.2.2.2.2 → In2 a'.2.2.2.2 ∧ In2 b'.2.2.2.2 ∧ a'.2.2.2.2.1 + b'.2.2.2.2.1 = a.2.2.2.2.1 + b.2.2.2.2.1 ∧ a'.2.2.2.2.2 + b'.2.2.2.2.2 = a.2.2.2.2.2 + b.2.2.2.2.2)
theorem PB.same (a b : Body) : PB a b a b := ⟨.same a, .same b, fun _ _ h k => ⟨h, k, rfl, rfl⟩⟩
theorem KB.mom {a : Body} {v : Vec} (h : a.2.2.1 ≠ 0) : KB a (a.1, a.2.1, a.2.2.1, a.2.2.2.1, v) := ⟨rfl, rfl, rfl, fun h0 _ => absurd h0 h⟩
theorem KB.pos {a : Body} {v : Vec} (h : a.2.2.1 ≠ 0) : KB a (a.1, a.2.1, a.2.2.1, v, a.2.2.2.2) := ⟨rfl, rfl, rfl, fun h0 _ => absurd h0 h⟩
theorem om1 (a j b : Int) : a - j + (b + j) = a + b := by omega
theorem om4 (s p q x y : Int) (h : x + y = p + q) : s - p + x - q + y = s := by omega
theorem om2 (x s y : Int) : x + s = y + s - y + x := by omega
theorem om3 (a p q d x : Int) (h : p = q - d + x) : a + p = a + q - d + x := by omega
theorem bne_ne {a : Int} (h : (a != 0) = true) : a ≠ 0 := by simpa using h
theorem bne_eq {a : Int} (h : (a != 0) = false) : a = 0 := by simpa using h
theorem s_232 (a b : Body) (j : Vec) (hj : In2 j) : Th (F_232 a b j) fun y => PB a b y.1 y.2.1 := by
  unfold F_232
  refine .cond (fun ha => .elim (s_227c _ _) fun x hx => .cond (fun hb => .elim (s_62c _ _) fun y hy => .ok ?_) fun hb => .ok ?_) fun ha => .cond (fun hb => .elim (s_62c _ _) fun y hy => .ok ?_) fun hb => .ok ?_
  · refine ⟨.mom (bne_ne ha), .mom (bne_ne hb), fun _ _ h k => ?_⟩
    obtain ⟨x1, x2⟩ := hx h hj
    obtain ⟨y1, y2⟩ := hy k hj
    refine ⟨x2, y2, ?_, ?_⟩
    · show x.1.1 + y.1.1 = _
      rw [x1, y1]; exact om1 _ _ _
    · show x.1.2 + y.1.2 = _
      rw [x1, y1]; exact om1 _ _ _
  · exact ⟨.mom (bne_ne ha), .same b, fun _ h => absurd (bne_eq hb) h⟩
  · exact ⟨.same a, .mom (bne_ne hb), fun h => absurd (bne_eq ha) h⟩
  · exact ⟨.same a, .same b, fun h => absurd (bne_eq ha) h⟩
theorem s_163 (a b : Body) (c : Int) : Th (F_163 a b c) fun y => PB a b y.1 y.2.1 :=
  (Th.elim (t_227 _ _) fun _ _ => (Th.elim (t_226 _) fun _ _ => (Th.cond (fun _ => (Th.ok (PB.same a b))) (fun _ => (Th.elim (t_228 _ _) fun _ _ => (Th.cond (fun _ => (Th.ok (PB.same a b))) (fun _ => (Th.elim (t_229 _ _ _) fun _ _ => (Th.elim (t_230 _ _) fun _ _ => (Th.elim (t_225 _ _) fun _ _ => (Th.elim (t_154 _ _) fun _ _ => (Th.elim (t_230 _ _) fun _ _ => (Th.elim (t_231 _ _) fun _ _ => (Th.elim (r_162 _ _) fun _ hj => (Th.elim (s_232 a b _ hj) fun _ h => (Th.ok h))))))))))))))))
theorem PB.move {a b x y : Body} (h : PB a b x y) {p q : Vec} (hp : x.2.2.1 = 0 → In2 x.2.2.2.1 → p = x.2.2.2.1) (hq : y.2.2.1 = 0 → In2 y.2.2.2.1 → q = y.2.2.2.1) : PB a b (x.1, x.2.1, x.2.2.1, p, x.2.2.2.2) (y.1, y.2.1, y.2.2.1, q, y.2.2.2.2) := by
  obtain ⟨h1, h2, h3⟩ := h
  refine ⟨h1.trans ⟨rfl, rfl, rfl, fun m i => ?_⟩, h2.trans ⟨rfl, rfl, rfl, fun m i => ?_⟩, h3⟩
  · rw [hp m i]
  · rw [hq m i]
theorem sub_same {p v z : Vec} (hz : z = ((0 : Int), (0 : Int))) (h : In2 p → In2 z → v = (p.1 - z.1, p.2 - z.2) ∧ In2 v) (hp : In2 p) : v = p := by
  subst hz
  obtain ⟨h, _⟩ := h hp ⟨⟨by decide, by decide⟩, by decide, by decide⟩
  rw [h]
  show (p.1 - 0, p.2 - 0) = p
  rw [Int.sub_zero, Int.sub_zero]
theorem add_same {p v z : Vec} (hz : z = ((0 : Int), (0 : Int))) (h : In2 p → In2 z → v = (p.1 + z.1, p.2 + z.2) ∧ In2 v) (hp : In2 p) : v = p := by
  subst hz
  obtain ⟨h, _⟩ := h hp ⟨⟨by decide, by decide⟩, by decide, by decide⟩
  rw [h]
  show (p.1 + 0, p.2 + 0) = p
  rw [Int.add_zero, Int.add_zero]
theorem s_167 (a b : Body) (c : Hit) : Th (F_167 a b c) fun y => PB a b y.1 y.2.1 :=
  (Th.elim (t_228 _ _) fun _ _ => (Th.cond (fun _ => (Th.ok (PB.same a b))) (fun _ => (Th.elim (t_229 _ _ _) fun _ _ => (Th.cond (fun _ => (Th.elim (t_154 _ _) fun _ _ => (Th.elim (t_230 _ _) fun _ _ => (Th.elim (t_231 _ _) fun _ _ => (Th.elim (r_162 _ _) fun _ hj => (Th.elim (s_232 a b _ hj) fun v28 h28 => (Th.elim (t_231 _ _) fun _ _ => (Th.elim (s_243 v28.1) fun _ l1 => (Th.elim (s_225 _ _) fun _ m1 => (Th.elim (s_162 _ _) fun _ n1 => (Th.elim (s_227c _ _) fun _ p1 => (Th.elim (s_243 v28.2.1) fun _ l2 => (Th.elim (s_225 _ _) fun _ m2 => (Th.elim (s_162 _ _) fun _ n2 => (Th.elim (s_62c _ _) fun _ p2 => (Th.ok (h28.move (fun m i => sub_same (n1.2 (m1.2 (l1 m))) p1 i) (fun m i => add_same (n2.2 (m2.2 (l2 m))) p2 i))))))))))))))))))
    (fun _ => (Th.elim (t_231 _ _) fun _ _ => (Th.elim (s_243 a) fun _ l1 => (Th.elim (s_225 _ _) fun _ m1 => (Th.elim (s_162 _ _) fun _ n1 => (Th.elim (s_227c _ _) fun _ p1 => (Th.elim (s_243 b) fun _ l2 => (Th.elim (s_225 _ _) fun _ m2 => (Th.elim (s_162 _ _) fun _ n2 => (Th.elim (s_62c _ _) fun _ p2 => (Th.ok ((PB.same a b).move (fun m i => sub_same (n1.2 (m1.2 (l1 m))) p1 i) (fun m i => add_same (n2.2 (m2.2 (l2 m))) p2 i))))))))))))))))))
/-! ### rows of bodies -/
def sumX : List Body → Int
  | [] => 0
  | b :: l => b.2.2.2.2.1 + sumX l
def sumY : List Body → Int
  | [] => 0
  | b :: l => b.2.2.2.2.2 + sumY l
theorem sumX_set : ∀ (l : List Body) (i : Nat) (b : Body), i < l.length → sumX (l.set i b) = sumX l - (l.getD i tBody.dflt).2.2.2.2.1 + b.2.2.2.2.1
  | [], i, b, h => by cases h
  | a :: l, 0, b, h => by exact om2 _ _ _
  | a :: l, i + 1, b, h => by
    have := sumX_set l i b (by simpa using h)
    exact om3 _ _ _ _ _ this
theorem sumY_set : ∀ (l : List Body) (i : Nat) (b : Body), i < l.length → sumY (l.set i b) = sumY l - (l.getD i tBody.dflt).2.2.2.2.2 + b.2.2.2.2.2
  | [], i, b, h => by cases h
  | a :: l, 0, b, h => by exact om2 _ _ _
  | a :: l, i + 1, b, h => by
    have := sumY_set l i b (by simpa using h)
    exact om3 _ _ _ _ _ this
/-- A body that moves as numbers do. -/
def Mv (b : Body) : Prop := b.2.2.1 ≠ 0 ∧ In2 b.2.2.2.2
structure Rl (g : Vec) (l m : List Body) : Prop where
  len : m.length = l.length
  keep : ∀ i, KB (l.getD i tBody.dflt) (m.getD i tBody.dflt)
  mom : g = ((0 : Int), (0 : Int)) → (∀ b ∈ l, Mv b) → (∀ b ∈ m, Mv b) ∧ sumX m = sumX l ∧ sumY m = sumY l
theorem Rl.same (g : Vec) (l : List Body) : Rl g l l := ⟨rfl, fun _ => .same _, fun _ h => ⟨h, rfl, rfl⟩⟩
theorem Rl.trans {g : Vec} {a b c : List Body} (h : Rl g a b) (k : Rl g b c) : Rl g a c :=
  ⟨k.len.trans h.len, fun i => (h.keep i).trans (k.keep i), fun h0 ha => by
    obtain ⟨h1, h2, h3⟩ := h.mom h0 ha
    obtain ⟨k1, k2, k3⟩ := k.mom h0 h1
    exact ⟨k1, k2.trans h2, k3.trans h3⟩⟩
theorem getD_set (l : List Body) (i j : Nat) (b : Body) : (l.set i b).getD j tBody.dflt = if i = j ∧ j < l.length then b else l.getD j tBody.dflt := by
  rw [List.getD_eq_getElem?_getD, List.getElem?_set, List.getD_eq_getElem?_getD]
  by_cases h : i = j
  · subst h
    by_cases h2 : i < l.length
    · simp [h2]
    · simp [h2]
  · simp [h]
theorem Rl.set {g : Vec} {l : List Body} {i : Nat} (hi : i < l.length) {b : Body} (hk : KB (l.getD i tBody.dflt) b) (hm : g = ((0 : Int), (0 : Int)) → Mv (l.getD i tBody.dflt) → b.2.2.2.2 = (l.getD i tBody.dflt).2.2.2.2) : Rl g l (l.set i b) := by
  refine ⟨List.length_set, fun j => ?_, fun h0 ha => ?_⟩
  · rw [getD_set]
    split
    · rename_i h; rw [← h.1]; exact hk
    · exact .same _
  · have hb := ha _ (get_mem (d := tBody.dflt) hi)
    have hm := hm h0 hb
    refine ⟨fun x hx => ?_, ?_, ?_⟩
    · rcases List.mem_or_eq_of_mem_set hx with hx | rfl
      · exact ha x hx
      · exact ⟨by rw [hk.2.2.1]; exact hb.1, by rw [hm]; exact hb.2⟩
    · rw [sumX_set l i b hi, hm]; omega
    · rw [sumY_set l i b hi, hm]; omega
theorem Rl.set2 {g : Vec} {l : List Body} {i j : Nat} (hi : i < l.length) (hj : j < l.length) (hij : i ≠ j) {a b : Body} (h : PB (l.getD i tBody.dflt) (l.getD j tBody.dflt) a b) : Rl g l ((l.set i a).set j b) := by
  obtain ⟨h1, h2, h3⟩ := h
  have hj' : j < (l.set i a).length := by rw [List.length_set]; exact hj
  refine ⟨by rw [List.length_set, List.length_set], fun k => ?_, fun h0 ha => ?_⟩
  · rw [getD_set]
    split
    · rename_i h; rw [← h.1]; exact h2
    · rw [getD_set]
      split
      · rename_i h; rw [← h.1]; exact h1
      · exact .same _
  · have m1 := ha _ (get_mem (d := tBody.dflt) hi)
    have m2 := ha _ (get_mem (d := tBody.dflt) hj)
    obtain ⟨k1, k2, k3, k4⟩ := h3 m1.1 m2.1 m1.2 m2.2
    refine ⟨fun x hx => ?_, ?_, ?_⟩
    · rcases List.mem_or_eq_of_mem_set hx with hx | rfl
      · rcases List.mem_or_eq_of_mem_set hx with hx | rfl
        · exact ha x hx
        · exact ⟨by rw [h1.2.2.1]; exact m1.1, k1⟩
      · exact ⟨by rw [h2.2.2.1]; exact m2.1, k2⟩
    · rw [sumX_set _ j b hj', sumX_set l i a hi, getD_set, if_neg (by omega)]; exact om4 _ _ _ _ _ k3
    · rw [sumY_set _ j b hj', sumY_set l i a hi, getD_set, if_neg (by omega)]; exact om4 _ _ _ _ _ k4
/-- What a part of a step comes to: bodies of which it is told what became of them, or a fault. -/
def BdR (g : Vec) (l : List Body) (p : Option ((Unit × List Body × Unit) ⊕ Int)) : Prop := ∃ y, p = some y ∧ Sum.elim (fun y => Rl g l y.2.1) (fun e => e = 3 ∨ e = 4) y
end Go.DI.S

