import Derived.Test.YtbjldjihpekhaaaGreatYa
/- Half turns; moves there and back, plain. No conditions. -/
set_option linter.unusedVariables false
set_option linter.unusedSimpArgs false
set_option maxRecDepth 100000
namespace Go.DI.S
open Go.Proofs
theorem u64y {n : Int} (h0 : 0 ≤ n) (h1 : n < 18446744073709551616) : IntKind.u64.wrap n = n := by rw [IntKind.wrap_u64]; omega
theorem bAndy0 (b : Int) : bAnd IntKind.u64 0 b = 0 := by
  have : BitVec.ofInt 64 0 &&& BitVec.ofInt 64 b = 0#64 := by
    rw [show BitVec.ofInt 64 0 = 0#64 from rfl, BitVec.zero_and]
  show IntKind.u64.wrap ((BitVec.ofInt 64 0 &&& BitVec.ofInt 64 b).toNat : Int) = 0
  rw [this]; rfl
theorem ofInt_toNat {m : Int} (h0 : 0 ≤ m) (h1 : m < 18446744073709551616) : (BitVec.ofInt 64 m).toNat = m.toNat := by
  rw [BitVec.toNat_ofInt]
  show (m % ((18446744073709551616 : Nat) : Int)).toNat = m.toNat
  omega
theorem bAndy_le (x m : Int) (h0 : 0 ≤ m) (h1 : m < 18446744073709551616) : 0 ≤ bAnd .u64 x m ∧ bAnd .u64 x m ≤ m := by
  have e : bAnd .u64 x m = IntKind.u64.wrap (((BitVec.ofInt 64 x) &&& (BitVec.ofInt 64 m)).toNat : Int) := rfl
  have h2 : ((BitVec.ofInt 64 x) &&& (BitVec.ofInt 64 m)).toNat ≤ (BitVec.ofInt 64 m).toNat := by
    rw [BitVec.toNat_and]; exact Nat.and_le_right
  rw [ofInt_toNat h0 h1] at h2
  rw [e, u64y (by omega) (by omega)]
  omega
theorem bOry {h l : Int} (h0 : 0 ≤ h) (h1 : h < 2147483648) (l0 : 0 ≤ l) (l1 : l < 4294967296) : bOr .u64 (IntKind.u64.wrap (h * 4294967296)) l = h * 4294967296 + l := by
  rw [u64y (by omega) (by omega)]
  have e : bOr .u64 (h * 4294967296) l = IntKind.u64.wrap (((BitVec.ofInt 64 (h * 4294967296)) ||| (BitVec.ofInt 64 l)).toNat : Int) := rfl
  have h2 : ((BitVec.ofInt 64 (h * 4294967296)) ||| (BitVec.ofInt 64 l)).toNat = 2 ^ 32 * h.toNat + l.toNat := by
    rw [BitVec.toNat_or, ofInt_toNat (by omega) (by omega), ofInt_toNat (by omega) (by omega)]
    have h3 : (h * 4294967296).toNat = 2 ^ 32 * h.toNat := by omega
    rw [h3, Nat.two_pow_add_eq_or_of_lt (by omega)]
  rw [e, h2, u64y (by omega) (by omega)]
  omega
theorem mul64y {m : Int} (h0 : 0 ≤ m) (h1 : m < 9223372036854775808) : F_mul64 m 4294967296 = some ((m / 4294967296, IntKind.u64.wrap (m * 4294967296), ()) : Els [.int .u64, .int .u64]) := by
  have hd : Int.fdiv m 4294967296 = m / 4294967296 := Int.fdiv_eq_ediv_of_nonneg _ (by omega)
  obtain ⟨b0, b1⟩ := bAndy_le m 4294967295 (by omega) (by omega)
  have x1 : IntKind.u64.wrap (m / 4294967296) = m / 4294967296 := u64y (by omega) (by omega)
  unfold F_mul64
  rw [show bAnd IntKind.u64 4294967296 4294967295 = 0 from rfl, show Int.fdiv 4294967296 4294967296 = 1 from rfl, hd]
  generalize bAnd IntKind.u64 m 4294967295 = x0 at b0 b1 ⊢
  have y0 : IntKind.u64.wrap x0 = x0 := u64y b0 (by omega)
  have y1 : Int.fdiv x0 4294967296 = 0 := by rw [Int.fdiv_eq_ediv_of_nonneg _ (by omega)]; omega
  simp only [Int.mul_zero, Int.mul_one, show IntKind.u64.wrap 0 = 0 from rfl, show Int.fdiv 0 4294967296 = 0 from rfl, Int.add_zero, Int.zero_add, bAndy0, x1, y0, y1]
def Far (a : Int) : Prop := -42949672960000 ≤ a ∧ a ≤ 42949672960000
theorem parts_y {a : Int} (h : Far a) : F_parts a = some ((decide (a < 0), (if a < 0 then -a else a), ()) : Els [.bool, .int .u64]) := by
  obtain ⟨h1, h2⟩ := h
  unfold F_parts
  by_cases ha : a < 0
  · rw [decide_eq_true ha, if_pos ha]
    have : IntKind.u64.wrap ((0 : Int) - IntKind.u64.wrap a) = -a := by rw [IntKind.wrap_u64, IntKind.wrap_u64]; omega
    rw [this]; rfl
  · rw [decide_eq_false ha, if_neg ha, u64y (n := a) (by omega) (by omega)]; rfl
theorem mul_turn {a : Int} (h : Far a) : F_fmul a (-4294967296) = some ((-a, 0, ()) : Els [I, I]) := by
  have h' := h
  obtain ⟨h1, h2⟩ := h
  have hp : F_parts (-4294967296) = some ((true, 4294967296, ()) : Els [.bool, .int .u64]) := by kernel_rfl
  unfold F_fmul
  rw [parts_y h', hp]
  simp only [Option.bind_some]
  rw [mul64y (m := if a < 0 then -a else a) (by split <;> omega) (by split <;> omega)]
  simp only [Option.bind_some]
  generalize hm : (if a < 0 then -a else a) = m
  have hm0 : 0 ≤ m := by rw [← hm]; split <;> omega
  have hm1 : m ≤ 42949672960000 := by rw [← hm]; split <;> omega
  have hc : decide (m / 4294967296 ≥ 4294967296) = false := decide_eq_false (by omega)
  have hl : Int.fdiv (IntKind.u64.wrap (m * 4294967296)) 4294967296 = m % 4294967296 := by
    rw [Int.fdiv_eq_ediv_of_nonneg _ (by omega), IntKind.wrap_u64]; omega
  rw [hc, hl, bOry (by omega) (by omega) (by omega) (by omega)]
  have he : m / 4294967296 * 4294967296 + m % 4294967296 = m := by omega
  rw [he]
  unfold F_whole
  by_cases ha : a < 0
  · rw [if_pos ha] at hm
    rw [decide_eq_true ha]
    have hw : IntKind.i64.wrap m = m := wrap64 (by omega) (by omega)
    show ((bif decide (m < 9223372036854775808) then some (IntKind.i64.wrap m, (0 : Int), ()) else some ((0 : Int), (3 : Int), ())) : Option (Els [I, I])).bind _ = _
    rw [decide_eq_true (by omega), hw, ← hm]; rfl
  · rw [if_neg ha] at hm
    rw [decide_eq_false ha]
    have hw : IntKind.i64.wrap (IntKind.u64.wrap ((0 : Int) - m)) = -m := by
      have : IntKind.i64.wrap (IntKind.u64.wrap ((0 : Int) - m)) = IntKind.i64.wrap (-m) := by
        simp only [IntKind.wrap, IntKind.bits, IntKind.signed]
        simp
      rw [this, wrap64 (by omega) (by omega)]
    show ((bif decide (m ≤ 9223372036854775808) then some (IntKind.i64.wrap (IntKind.u64.wrap ((0 : Int) - m)), (0 : Int), ()) else _) : Option (Els [I, I])).bind _ = _
    rw [decide_eq_true (by omega), hw, hm]; rfl
theorem mul_none (a : Int) (h : Far a) : F_fmul a 0 = some ((0, 0, ()) : Els [I, I]) := by
  have h' := h
  obtain ⟨h1, h2⟩ := h
  have hp : F_parts 0 = some ((false, 0, ()) : Els [.bool, .int .u64]) := by kernel_rfl
  have hm : ∀ m : Int, F_mul64 m 0 = some ((0, 0, ()) : Els [.int .u64, .int .u64]) := fun m => by
    unfold F_mul64
    simp only [bAndy0, show Int.fdiv 0 4294967296 = 0 from rfl, Int.mul_zero, Int.zero_add, Int.add_zero, show IntKind.u64.wrap 0 = 0 from rfl]
  unfold F_fmul
  rw [parts_y h', hp]
  simp only [Option.bind_some]
  rw [hm]
  simp only [Option.bind_some]
  have e : bOr IntKind.u64 (IntKind.u64.wrap (0 * 4294967296)) (Int.fdiv 0 4294967296) = 0 := rfl
  rw [e]
  have hw : ∀ b : Bool, F_whole b 0 = some ((0, 0, ()) : Els [I, I]) := fun b => by cases b <;> rfl
  rw [hw]; rfl
theorem ask_y (v : Int) : F_ask v 0 (0, ()) = some (((v, ()), (0, ()), ()) : OUT_ask.El) := rfl
theorem sin_half : F_sin 32768 = some ((0, ()) : Els [I]) := by kernel_rfl
theorem cos_half : F_cos 32768 = some ((-4294967296, ()) : Els [I]) := by kernel_rfl
theorem sub_y {a : Int} (h : Far a) : F_fsub a 0 = some ((a, 0, ()) : Els [I, I]) := by
  obtain ⟨h1, h2⟩ := h
  unfold F_fsub
  have hw : IntKind.i64.wrap (a - 0) = a := by rw [Int.sub_zero]; exact wrap64 (by omega) (by omega)
  rw [hw]
  by_cases ha : a < 0
  · rw [decide_eq_true ha]; rfl
  · rw [decide_eq_false ha]; rfl
theorem add_y {a : Int} (h : Far a) : F_162 0 a = some ((a, 0, ()) : Els [I, I]) := by
  obtain ⟨h1, h2⟩ := h
  unfold F_162
  have hw : IntKind.i64.wrap (0 + a) = a := by rw [Int.zero_add]; exact wrap64 (by omega) (by omega)
  rw [hw]
  by_cases ha : a < 0
  · rw [decide_eq_true ha]; rfl
  · rw [decide_eq_false ha]; rfl
theorem far_neg {a : Int} (h : Far a) : Far (-a) := ⟨by have := h.2; omega, by have := h.1; omega⟩
theorem rot_half {x y : Int} (hx : Far x) (hy : Far y) : F_rot x y 32768 = some ((-x, -y, 0, ()) : Els [I, I, I]) := by
  unfold F_rot
  rw [sin_half, cos_half]
  simp only [Option.bind_some]
  rw [mul_turn hx]
  simp only [Option.bind_some]
  rw [ask_y]
  simp only [Option.bind_some]
  rw [mul_none y hy]
  simp only [Option.bind_some]
  rw [ask_y]
  simp only [Option.bind_some]
  rw [sub_y (far_neg hx)]
  simp only [Option.bind_some]
  rw [ask_y]
  simp only [Option.bind_some]
  rw [mul_none x hx]
  simp only [Option.bind_some]
  rw [ask_y]
  simp only [Option.bind_some]
  rw [mul_turn hy]
  simp only [Option.bind_some]
  rw [ask_y]
  simp only [Option.bind_some]
  rw [add_y (far_neg hy)]
  simp only [Option.bind_some]
  rw [ask_y]
  rfl
noncomputable def half2 (p : Vec) : Vec ⊕ Int := match F_rot p.1 p.2 32768 with
  | some r => if r.2.2.1 = 0 then .inl (r.1, r.2.1) else .inr 3
  | none => .inr 3
theorem half2_far {p : Vec} (hx : Far p.1) (hy : Far p.2) : half2 p = .inl (-p.1, -p.2) := by
  unfold half2
  rw [rot_half hx hy]; rfl
theorem half2_err (p : Vec) (e : Int) (h : half2 p = .inr e) : e ≠ 0 := by
  unfold half2 at h
  split at h
  · split at h
    · cases h
    · cases h; decide
  · cases h; decide
theorem tot_parts (a : Int) : Tot (F_parts a) := tot_cond (tot_some _) (tot_some _)
theorem tot_whole (b : Bool) (u : Int) : Tot (F_whole b u) := tot_cond (tot_cond (tot_some _) (tot_cond (tot_cond (tot_some _) (tot_some _)) (tot_some _))) (tot_cond (tot_cond (tot_some _) (tot_some _)) (tot_some _))
theorem tot_fmul (a b : Int) : Tot (F_fmul a b) := tot_bind (tot_parts a) fun _ => tot_bind (tot_parts b) fun _ => tot_bind (tot_some _) fun _ => tot_cond (tot_some _) (tot_bind (tot_whole _ _) fun _ => tot_some _)
theorem tot_ask (a e : Int) (b : Ty.El I × Unit) : Tot (F_ask a e b) := tot_cond (tot_some _) (tot_some _)
theorem tot_fsub (a b : Int) : Tot (F_fsub a b) := tot_cond (tot_cond (tot_some _) (tot_some _)) (tot_some _)
theorem tot_fadd (a b : Int) : Tot (F_162 a b) := tot_cond (tot_cond (tot_some _) (tot_some _)) (tot_some _)
theorem tot_rot {n : Int} (hs : Tot (F_sin n)) (hc : Tot (F_cos n)) (x y : Int) : Tot (F_rot x y n) :=
  tot_bind hs fun _ => tot_bind hc fun _ => tot_bind (tot_fmul _ _) fun _ => tot_bind (tot_ask _ _ _) fun _ => tot_bind (tot_fmul _ _) fun _ => tot_bind (tot_ask _ _ _) fun _ => tot_bind (tot_fsub _ _) fun _ => tot_bind (tot_ask _ _ _) fun _ => tot_bind (tot_fmul _ _) fun _ => tot_bind (tot_ask _ _ _) fun _ => tot_bind (tot_fmul _ _) fun _ => tot_bind (tot_ask _ _ _) fun _ => tot_bind (tot_fadd _ _) fun _ => tot_bind (tot_ask _ _ _) fun _ => tot_cond (tot_some _) (tot_some _)
theorem turn_half (w : tWorker.El) (h : w.2.1.2.2.2.2.2.2.2.2.2.1 = 32768) (p : Vec) : F_turn w p = some (match half2 p with | .inl q => .inl ((q, ()) : Els [tVec]) | .inr e => .inr e) := by
  obtain ⟨r, hr⟩ := tot_rot ⟨_, sin_half⟩ ⟨_, cos_half⟩ p.1 p.2
  unfold F_turn half2
  rw [h, hr]
  simp only [Option.bind_some]
  by_cases h0 : r.2.2.1 = 0
  · rw [if_pos h0]
    exact noV (by rw [h0]; rfl) rfl
  · rw [if_neg h0]
    exact yesV (by simpa using h0) rfl
theorem half_back {L : List Int} : ∀ {l us : List Thing}, (∀ t ∈ l, L.contains (nid t) = true → rb t.2.2.1 = true ∧ Far t.2.2.1.2.2.2.1.1 ∧ Far t.2.2.1.2.2.2.1.2) → eL half2 L l = .inl us → eL half2 L us = .inl l
  | [], us, _, h => by cases h; rfl
  | t :: r, us, hb, h => by
    unfold eL at h
    split at h
    · rename_i u hu
      split at h
      · rename_i vs hv
        cases h
        have ih := half_back (fun t ht => hb t (List.mem_cons_of_mem _ ht)) hv
        unfold eL
        have : eT half2 L u = .inl t := by
          unfold eT at hu ⊢
          split at hu
          · rename_i hc
            obtain ⟨b1, b2, b3⟩ := hb t List.mem_cons_self hc
            rw [half2_far b2 b3] at hu
            simp only at hu
            split at hu
            · cases hu
              have hc' : L.contains (nid (t.1, t.2.1, movB t.2.2.1 (-t.2.2.1.2.2.2.1.1, -t.2.2.1.2.2.2.1.2), t.2.2.2.1, t.2.2.2.2)) = true := hc
              rw [if_pos hc']
              have hh : half2 (-t.2.2.1.2.2.2.1.1, -t.2.2.1.2.2.2.1.2) = .inl t.2.2.1.2.2.2.1 := by
                rw [half2_far (far_neg b2) (far_neg b3)]
                show Sum.inl (- -t.2.2.1.2.2.2.1.1, - -t.2.2.1.2.2.2.1.2) = _
                rw [Int.neg_neg, Int.neg_neg]
              show (match half2 (-t.2.2.1.2.2.2.1.1, -t.2.2.1.2.2.2.1.2) with | .inl p => _ | .inr e => _) = _
              rw [hh]
              show (if rb t.2.2.1 = true then _ else _) = _
              rw [if_pos b1]
              rfl
            · cases hu
          · rename_i hc
            cases hu
            rw [if_neg hc]
        rw [this, ih]
      · cases h
    · cases h
end Go.DI.S
set_option linter.unusedVariables false
set_option linter.unusedSimpArgs false
set_option maxRecDepth 100000
namespace Go.DI.S
open Go.Proofs
def Ends (P : Prop) (a : Option (Els [.bool])) : Prop := ∀ b, a = some (b, ()) → b = true → P
theorem ends_cond {P : Prop} {c : Bool} {a b : Option (Els [.bool])} (h : Ends P a) (k : Ends P b) : Ends P (bif c then a else b) := by cases c <;> assumption
theorem ends_false {P : Prop} : Ends P (some (false, ())) := fun b h hb => by cases h; cases hb
theorem ends_bind {α : Type} {P : Prop} {a : Option α} {f : α → Option (Els [.bool])} (h : ∀ v, Ends P (f v)) : Ends P (a.bind f) := fun b hb k => by
  obtain ⟨v, _, hv⟩ := Option.bind_eq_some_iff.1 hb
  exact h v b hv k
theorem in_of {a b c : Int} : F_126 a b c = some ((decide (b ≤ a) && decide (a ≤ c), ()) : Els [.bool]) := by
  unfold F_126
  cases decide (b ≤ a) <;> rfl
def farB (a : Int) : Bool := decide (-42949672960000 ≤ a) && decide (a ≤ 42949672960000)
theorem farB_far {a : Int} (h : farB a = true) : Far a := by
  unfold farB at h
  rw [Bool.and_eq_true] at h
  exact ⟨of_decide_eq_true h.1, of_decide_eq_true h.2⟩
theorem near_of' {p : Vec} : F_127 p 42949672960000 = some ((farB p.1 && farB p.2, ()) : Els [.bool]) := by
  unfold F_127
  rw [show IntKind.i64.wrap ((0 : Int) - 42949672960000) = -42949672960000 from by kernel_rfl, in_of, in_of]
  simp only [Option.bind_some]
  show (bif farB p.1 then (some (farB p.2, ()) : Option (Els [.bool])).bind _ else _) = _
  cases farB p.1 <;> rfl
theorem ends_pos {p : Vec} {f : Els [.bool] → Option (Els [.bool])} : Ends (Far p.1 ∧ Far p.2) ((F_127 p 42949672960000).bind fun v => bif v.1 then f v else some (false, ())) := by
  intro b hb k
  rw [near_of'] at hb
  simp only [Option.bind_some] at hb
  cases h1 : farB p.1 with
  | false => rw [h1] at hb; cases hb; cases k
  | true =>
    cases h2 : farB p.2 with
    | false => rw [h1, h2] at hb; cases hb; cases k
    | true => exact ⟨farB_far h1, farB_far h2⟩
theorem rb_far {b : Body} (h : rb b = true) : Far b.2.2.2.1.1 ∧ Far b.2.2.2.1.2 := by
  have h88 := v_88 b
  rw [h] at h88
  have : Ends (Far b.2.2.2.1.1 ∧ Far b.2.2.2.1.2) (F_88 b) := by
    unfold F_88
    repeat' first
      | exact ends_false
      | exact ends_pos
      | refine ends_cond ?_ ?_
      | refine ends_bind fun _ => ?_
  exact this true h88 rfl
theorem bods_rb {s : Scene} (hr : rightB s = true) (hs : Small s.2.2) {id : Int} (hn : Is s.2.2 id) {t : Thing} (ht : t ∈ s.2.2) (hc : (bods s.2.2 id).contains (nid t) = true) : rb t.2.2.1 = true ∧ Far t.2.2.1.2.2.2.1.1 ∧ Far t.2.2.1.2.2.2.1.2 := by
  have hR := right_of hr
  have hk : t.2.1 = 1 := by
    rw [← hR.asc.kind ht]
    exact bods_kind hr hs hn (by simpa using hc)
  have hb : rb t.2.2.1 = true := by
    rcases (thing_rt hR hs ht).2 with ⟨_, _, _, k⟩ | ⟨k, _⟩ | ⟨k, _⟩
    · exact k
    · rw [hk] at k; exact absurd k (by decide)
    · rw [hk] at k; exact absurd k (by decide)
  exact ⟨hb, rb_far hb⟩
def mv (q p : Vec) : Vec ⊕ Int := movV p q
theorem addY {a b : Int} (h1 : -4000000000000000000 ≤ a) (h2 : a ≤ 4000000000000000000) (h3 : -4000000000000000000 ≤ b) (h4 : b ≤ 4000000000000000000) : addF a b = .inl (a + b) := by
  unfold addF
  have hw : IntKind.i64.wrap (a + b) = a + b := wrap64 (by omega) (by omega)
  rw [hw]
  by_cases ha : a < 0
  · by_cases hb : b < 0
    · rw [decide_eq_true ha, decide_eq_true hb, decide_eq_true (show a + b < 0 by omega)]; rfl
    · rw [decide_eq_true ha, decide_eq_false hb]; rfl
  · by_cases hb : b < 0
    · rw [decide_eq_false ha, decide_eq_true hb]; rfl
    · rw [decide_eq_false ha, decide_eq_false hb, decide_eq_false (show ¬ a + b < 0 by omega)]; rfl
theorem mv_far {p q : Vec} (h1 : Far p.1) (h2 : Far p.2) (k1 : Far q.1) (k2 : Far q.2) : mv q p = .inl (p.1 + q.1, p.2 + q.2) := by
  unfold mv movV
  obtain ⟨a1, a2⟩ := h1
  obtain ⟨b1, b2⟩ := h2
  obtain ⟨c1, c2⟩ := k1
  obtain ⟨d1, d2⟩ := k2
  rw [addY (by omega) (by omega) (by omega) (by omega), addY (by omega) (by omega) (by omega) (by omega)]
theorem mv_back {q : Vec} (k1 : Far q.1) (k2 : Far q.2) {L : List Int} : ∀ {l us : List Thing}, (∀ t ∈ l, L.contains (nid t) = true → rb t.2.2.1 = true ∧ Far t.2.2.1.2.2.2.1.1 ∧ Far t.2.2.1.2.2.2.1.2) → eL (mv q) L l = .inl us → eL (mv (-q.1, -q.2)) L us = .inl l
  | [], us, _, h => by cases h; rfl
  | t :: r, us, hb, h => by
    unfold eL at h
    split at h
    · rename_i u hu
      split at h
      · rename_i vs hv
        cases h
        have ih := mv_back k1 k2 (fun t ht => hb t (List.mem_cons_of_mem _ ht)) hv
        unfold eL
        have : eT (mv (-q.1, -q.2)) L u = .inl t := by
          unfold eT at hu ⊢
          split at hu
          · rename_i hc
            obtain ⟨b1, b2, b3⟩ := hb t List.mem_cons_self hc
            rw [mv_far b2 b3 k1 k2] at hu
            simp only at hu
            split at hu
            · rename_i hrb
              cases hu
              obtain ⟨c2, c3⟩ := rb_far hrb
              have hc' : L.contains (nid (t.1, t.2.1, movB t.2.2.1 (t.2.2.1.2.2.2.1.1 + q.1, t.2.2.1.2.2.2.1.2 + q.2), t.2.2.2.1, t.2.2.2.2)) = true := hc
              rw [if_pos hc']
              have hh : mv (-q.1, -q.2) (t.2.2.1.2.2.2.1.1 + q.1, t.2.2.1.2.2.2.1.2 + q.2) = .inl t.2.2.1.2.2.2.1 := by
                rw [mv_far (p := (t.2.2.1.2.2.2.1.1 + q.1, t.2.2.1.2.2.2.1.2 + q.2)) (q := (-q.1, -q.2)) c2 c3 (far_neg k1) (far_neg k2)]
                show Sum.inl (t.2.2.1.2.2.2.1.1 + q.1 + -q.1, t.2.2.1.2.2.2.1.2 + q.2 + -q.2) = _
                rw [Int.add_neg_cancel_right, Int.add_neg_cancel_right]
              show (match mv (-q.1, -q.2) (t.2.2.1.2.2.2.1.1 + q.1, t.2.2.1.2.2.2.1.2 + q.2) with | .inl p => _ | .inr e => _) = _
              rw [hh]
              show (if rb t.2.2.1 = true then _ else _) = _
              rw [if_pos b1]
              rfl
            · cases hu
          · rename_i hc
            cases hu
            rw [if_neg hc]
        rw [this, ih]
      · cases h
    · cases h
theorem move_mv (w : tWorker.El) (p : Vec) : F_move w p = some (match mv (w.2.2.1, w.2.2.2.1) p with | .inl q => .inl ((q, ()) : Els [tVec]) | .inr e => .inr e) := by
  unfold F_move
  have hb : F_by w = some (((w.2.2.1, w.2.2.2.1), ()) : Els [tVec]) := rfl
  rw [hb]
  simp only [Option.bind_some]
  rw [v_124]
  unfold mv
  cases movV p (w.2.2.1, w.2.2.2.1) <;> rfl
theorem mv_err (q p : Vec) (e : Int) (h : mv q p = .inr e) : e ≠ 0 := movV_err h
theorem y0 : gRow (-1000) 1001 = true := by kernel_rfl
theorem y1 : gRow 1 1000 = true := by kernel_rfl
theorem getY (n : Int) (h1 : -1000 ≤ n) (h2 : n ≤ 1000) : F_get (FloatKind.f64.nearest n) = some ((n * 4294967296, 0, ()) : Els [I, I]) := by
  by_cases h : n < 1
  · exact gOk_eq (gRow_at y0 n h1 (by omega))
  · exact gOk_eq (gRow_at y1 n (by omega) (by omega))
end Go.DI.S
