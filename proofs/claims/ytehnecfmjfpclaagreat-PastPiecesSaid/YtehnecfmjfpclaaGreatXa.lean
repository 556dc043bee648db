import Derived.Test.YtehnecfmjfpclaaGreatVa
/- Which things may be, plain. No conditions. -/
set_option linter.unusedVariables false
set_option linter.unusedSimpArgs false
set_option maxRecDepth 100000
namespace Go.DI.S
open Go.Proofs
def OkId (n : Int) : Prop := 1 ≤ n ∧ n ≤ 1000000
def okB (n : Int) : Bool := decide (n ≥ (1 : Int)) && decide (n ≤ (1000000 : Int))
theorem okB_iff {n : Int} : okB n = true ↔ OkId n := by
  unfold okB OkId
  rw [Bool.and_eq_true, decide_eq_true_iff, decide_eq_true_iff]
theorem x_86 (a : Int) : F_86 a = some ((okB a, ()) : Els [.bool]) := by
  unfold F_86 okB
  cases decide (a ≥ (1 : Int)) <;> rfl
def noB : Body := ((0 : Int), ((0 : Int), (0 : Int)), (0 : Int), ((0 : Int), (0 : Int)), (0 : Int), (0 : Int))
def noJ : Joint := ((0 : Int), (0 : Int), (0 : Int))
def bz (b : Body) : Bool := b.1 == (0 : Int) && (b.2.1.1 == (0 : Int) && (b.2.1.2 == (0 : Int) && true) && (b.2.2.1 == (0 : Int) && (b.2.2.2.1.1 == (0 : Int) && (b.2.2.2.1.2 == (0 : Int) && true) && (b.2.2.2.2.1 == (0 : Int) && (b.2.2.2.2.2 == (0 : Int) && true) && true))))
def jz (j : Joint) : Bool := j.1 == (0 : Int) && (j.2.1 == (0 : Int) && (j.2.2 == (0 : Int) && true))
theorem bz_iff {b : Body} : bz b = true ↔ b = noB := by
  obtain ⟨b1, ⟨b2, b3⟩, b4, ⟨b5, b6⟩, b7, b8⟩ := b
  unfold bz noB
  constructor
  · intro h
    simp only [Bool.and_eq_true, beq_iff_eq] at h
    obtain ⟨h1, ⟨h2, h3, _⟩, h4, ⟨h5, h6, _⟩, ⟨h7, h8, _⟩, _⟩ := h
    subst h1; subst h2; subst h3; subst h4; subst h5; subst h6; subst h7; subst h8; rfl
  · intro h
    cases h; rfl
theorem jz_iff {j : Joint} : jz j = true ↔ j = noJ := by
  obtain ⟨b1, b2, b3⟩ := j
  unfold jz noJ
  constructor
  · intro h
    simp only [Bool.and_eq_true, beq_iff_eq] at h
    obtain ⟨h1, h2, h3, _⟩ := h
    subst h1; subst h2; subst h3; rfl
  · intro h
    cases h; rfl
def lz (t : Thing) : Bool := ((t.2.2.2.2.length : Nat) : Int) == (0 : Int)
theorem lz_iff {t : Thing} : lz t = true ↔ ins t = [] := by
  unfold lz ins
  rw [beq_iff_eq]
  constructor
  · intro h
    exact List.eq_nil_of_length_eq_zero (by omega)
  · intro h
    rw [h]; rfl
def onlyB (t : Thing) : Bool := bif t.2.1 == (1 : Int) then jz t.2.2.2.1 && lz t else bif t.2.1 == (2 : Int) then bz t.2.2.1 && lz t else bz t.2.2.1 && jz t.2.2.2.1
theorem x_87 (t : Thing) : F_87 t = some ((onlyB t, ()) : Els [.bool]) := by
  unfold F_87 onlyB
  cases (t.2.1 == (1 : Int)) with
  | true =>
    show (bif jz t.2.2.2.1 then some ((lz t, ()) : Els [.bool]) else some (false, ())) = some ((jz t.2.2.2.1 && lz t, ()) : Els [.bool])
    cases jz t.2.2.2.1 <;> rfl
  | false =>
    cases (t.2.1 == (2 : Int)) with
    | true =>
      show (bif bz t.2.2.1 then some ((lz t, ()) : Els [.bool]) else some (false, ())) = some ((bz t.2.2.1 && lz t, ()) : Els [.bool])
      cases bz t.2.2.1 <;> rfl
    | false =>
      show (bif bz t.2.2.1 then some ((jz t.2.2.2.1, ()) : Els [.bool]) else some (false, ())) = some ((bz t.2.2.1 && jz t.2.2.2.1, ()) : Els [.bool])
      cases bz t.2.2.1 <;> rfl
def Mem (id : Int) : Int → List Int → Prop
  | _, [] => True
  | a, n :: l => a < n ∧ OkId n ∧ n ≠ id ∧ Mem id n l
def memStep (id : Int) (a n : Int) : Option Int := bif decide (n ≤ a) then none else bif !okB n then none else bif n == id then none else some n
theorem memStep_eq (id a n : Int) [Decidable (a < n ∧ OkId n ∧ n ≠ id)] : memStep id a n = if a < n ∧ OkId n ∧ n ≠ id then some n else none := by
  unfold memStep
  by_cases h1 : n ≤ a
  · rw [decide_eq_true h1, cond_true, if_neg (by omega)]
  · rw [decide_eq_false h1, cond_false]
    cases h2 : okB n with
    | false => rw [if_neg (fun h => by rw [okB_iff.2 h.2.1] at h2; cases h2)]; rfl
    | true =>
      simp only [Bool.not_true, cond_false]
      by_cases h3 : n = id
      · rw [beq_iff_eq.2 h3, cond_true, if_neg (fun h => h.2.2 h3)]
      · have : (n == id) = false := by simpa using h3
        rw [this, cond_false, if_pos ⟨by omega, okB_iff.1 h2, h3⟩]
open Classical in
theorem mem_fold {id : Int} : ∀ (l : List Int) (a : Int), (foldO (memStep id) l a).isSome = true ↔ Mem id a l
  | [], a => ⟨fun _ => trivial, fun _ => rfl⟩
  | n :: l, a => by
    simp only [foldO, Mem, memStep_eq]
    by_cases h : a < n ∧ OkId n ∧ n ≠ id
    · rw [if_pos h]
      exact ⟨fun k => ⟨h.1, h.2.1, h.2.2, (mem_fold l n).1 k⟩, fun k => (mem_fold l n).2 k.2.2.2⟩
    · rw [if_neg h]
      exact ⟨fun k => (by cases k), fun k => absurd ⟨k.1, k.2.1, k.2.2.1⟩ h⟩
def membersB (t : Thing) : Bool := (foldO (memStep (nid t)) (ins t) 0).isSome && (decide ((((ins t).length : Nat) : Int) ≥ 1) && decide ((((ins t).length : Nat) : Int) ≤ 8))
theorem x_89 (t : Thing) (hl : t.2.2.2.2.length ≤ 1000000000) : F_89 t = some ((membersB t, ()) : Els [.bool]) := by
  have h := fold_loop (G := fun x => G_89_3 x.1.2.1 x.1.2.2.1 x.1.2.2.2.1 x.1.2.2.2.2.1 x.2.1) (m := fuel) (ins t) (memStep (nid t)) (fun k a => (((), a, ins t, ((ins t).length : Int), (k : Int), ()), (t, ()), ())) (.inr ((false, ()), ())) (fun a => .inl (((), ()), (t, ()), ()))
    (fun k a s ha => ?_) (fun a => ?_) (fuel_lt hl) 0
  · unfold F_89 R_89_3 membersB
    have h : roundsT (fun x => G_89_3 x.1.2.1 x.1.2.2.1 x.1.2.2.2.1 x.1.2.2.2.2.1 x.2.1) fuel (((), (0 : Int), t.2.2.2.2, ((t.2.2.2.2.length : Nat) : Int), (0 : Int), ()), (t, ()), ()) = _ := h
    rw [h]
    cases foldO (memStep (nid t)) (ins t) 0 with
    | none => rfl
    | some a =>
      show (bif decide ((((ins t).length : Nat) : Int) ≥ 1) then some ((decide ((((ins t).length : Nat) : Int) ≤ 8), ()) : Els [.bool]) else some (false, ())) = some ((decide ((((ins t).length : Nat) : Int) ≥ 1) && decide ((((ins t).length : Nat) : Int) ≤ 8), ()) : Els [.bool])
      cases decide ((((ins t).length : Nat) : Int) ≥ 1) <;> rfl
  · have hk := len_of ha
    show G_89_3 s (ins t) ((ins t).length : Int) (k : Int) (t, ()) = _
    simp only [G_89_3, dec_lt hk, dec_in hk, cond_true, getD_of ha, wrap_up hk (by show (ins t).length ≤ _; unfold ins; omega)]
    rw [x_86]
    unfold memStep
    cases decide (a ≤ s) with
    | true => rfl
    | false =>
      simp only [cond_false, Option.bind_some]
      cases okB a with
      | false => rfl
      | true =>
        have hb : (a == t.1) = (a == nid t) := rfl
        rw [hb]
        cases (a == nid t) <;> rfl
  · show G_89_3 a (ins t) ((ins t).length : Int) ((ins t).length : Int) (t, ()) = _
    simp only [G_89_3, dec_end, cond_false]
def jointB (j : Joint) : Bool := okB j.1 && (okB j.2.1 && (j.1 != j.2.1 && (decide (j.2.2 ≥ (0 : Int)) && decide (j.2.2 ≤ (4294967296000 : Int)))))
noncomputable def rtC (t : Thing) : Bool := okB (nid t) && (onlyB t && (bif t.2.1 == (1 : Int) then rb t.2.2.1 else bif t.2.1 == (2 : Int) then jointB t.2.2.2.1 else bif t.2.1 == (3 : Int) then membersB t else false))
theorem rt_eq (t : Thing) (hl : t.2.2.2.2.length ≤ 1000000000) : rt t = rtC t := by
  have key : F_45 t = some ((rtC t, ()) : Els [.bool]) := by
    unfold F_45 rtC
    rw [show F_86 t.1 = some ((okB (nid t), ()) : Els [.bool]) from x_86 t.1]
    simp only [Option.bind_some]
    cases okB (nid t) with
    | false => rfl
    | true =>
      simp only [Bool.not_true, cond_false, Bool.true_and]
      rw [x_87]
      simp only [Option.bind_some]
      cases onlyB t with
      | false => rfl
      | true =>
        simp only [Bool.not_true, cond_false, Bool.true_and]
        cases (t.2.1 == (1 : Int)) with
        | true =>
          simp only [cond_true]
          rw [show F_88 t.2.2.1 = some ((rb t.2.2.1, ()) : Els [.bool]) from ofB_eq (t_88 _)]
          rfl
        | false =>
          simp only [cond_false]
          cases (t.2.1 == (2 : Int)) with
          | true =>
            simp only [cond_true]
            unfold jointB
            rw [x_86]
            simp only [Option.bind_some]
            cases okB t.2.2.2.1.1 with
            | false => rfl
            | true =>
              simp only [cond_true, Bool.true_and]
              rw [x_86]
              simp only [Option.bind_some]
              cases okB t.2.2.2.1.2.1 with
              | false => rfl
              | true =>
                simp only [cond_true, Bool.true_and]
                cases (t.2.2.2.1.1 != t.2.2.2.1.2.1) with
                | false => rfl
                | true =>
                  simp only [cond_true, Bool.true_and]
                  cases decide (t.2.2.2.1.2.2 ≥ (0 : Int)) <;> rfl
          | false =>
            simp only [cond_false]
            cases (t.2.1 == (3 : Int)) with
            | false => rfl
            | true =>
              simp only [cond_true]
              rw [x_89 t hl]; rfl
  have h2 := v_45 t hl
  rw [key] at h2
  injection h2 with h2
  exact (congrArg Prod.fst h2).symm
def RtP (t : Thing) : Prop := OkId (nid t) ∧
  ((t.2.1 = 1 ∧ t.2.2.2.1 = noJ ∧ ins t = [] ∧ rb t.2.2.1 = true) ∨
   (t.2.1 = 2 ∧ t.2.2.1 = noB ∧ ins t = [] ∧ OkId t.2.2.2.1.1 ∧ OkId t.2.2.2.1.2.1 ∧ t.2.2.2.1.1 ≠ t.2.2.2.1.2.1 ∧ 0 ≤ t.2.2.2.1.2.2 ∧ t.2.2.2.1.2.2 ≤ 4294967296000) ∨
   (t.2.1 = 3 ∧ t.2.2.1 = noB ∧ t.2.2.2.1 = noJ ∧ Mem (nid t) 0 (ins t) ∧ 1 ≤ (ins t).length ∧ (ins t).length ≤ 8))
theorem rt_iff {t : Thing} (hl : t.2.2.2.2.length ≤ 1000000000) : rt t = true ↔ RtP t := by
  rw [rt_eq t hl]
  unfold rtC RtP onlyB
  rw [Bool.and_eq_true, okB_iff]
  refine and_congr_right fun _ => ?_
  by_cases h1 : t.2.1 = 1
  · have b1 : (t.2.1 == (1 : Int)) = true := beq_iff_eq.2 h1
    rw [b1]
    simp only [cond_true, Bool.and_eq_true, jz_iff, lz_iff]
    constructor
    · rintro ⟨⟨a, b⟩, c⟩
      exact .inl ⟨h1, a, b, c⟩
    · rintro (⟨_, a, b, c⟩ | ⟨h, _⟩ | ⟨h, _⟩)
      · exact ⟨⟨a, b⟩, c⟩
      · rw [h1] at h; cases h
      · rw [h1] at h; cases h
  · have b1 : (t.2.1 == (1 : Int)) = false := by simpa using h1
    rw [b1]
    simp only [cond_false]
    by_cases h2 : t.2.1 = 2
    · have b2 : (t.2.1 == (2 : Int)) = true := beq_iff_eq.2 h2
      rw [b2]
      unfold jointB
      simp only [cond_true, Bool.and_eq_true, bz_iff, lz_iff, okB_iff, bne_iff_ne, decide_eq_true_iff]
      constructor
      · rintro ⟨⟨a, b⟩, c, d, e, f, g⟩
        exact .inr (.inl ⟨h2, a, b, c, d, e, f, g⟩)
      · rintro (⟨h, _⟩ | ⟨_, a, b, c, d, e, f, g⟩ | ⟨h, _⟩)
        · exact absurd h h1
        · exact ⟨⟨a, b⟩, c, d, e, f, g⟩
        · rw [h2] at h; cases h
    · have b2 : (t.2.1 == (2 : Int)) = false := by simpa using h2
      rw [b2]
      simp only [cond_false]
      by_cases h3 : t.2.1 = 3
      · have b3 : (t.2.1 == (3 : Int)) = true := beq_iff_eq.2 h3
        rw [b3]
        unfold membersB
        simp only [cond_true, Bool.and_eq_true, bz_iff, jz_iff, mem_fold, decide_eq_true_iff]
        constructor
        · rintro ⟨⟨a, b⟩, c, d, e⟩
          exact .inr (.inr ⟨h3, a, b, c, by omega, by omega⟩)
        · rintro (⟨h, _⟩ | ⟨h, _⟩ | ⟨_, a, b, c, d, e⟩)
          · exact absurd h h1
          · exact absurd h h2
          · exact ⟨⟨a, b⟩, c, by omega, by omega⟩
      · have b3 : (t.2.1 == (3 : Int)) = false := by simpa using h3
        rw [b3]
        simp only [cond_false]
        constructor
        · intro h; rw [Bool.and_false] at h; cases h
        · rintro (⟨h, _⟩ | ⟨h, _⟩ | ⟨h, _⟩)
          · exact absurd h h1
          · exact absurd h h2
          · exact absurd h h3
theorem near_of {s : Scene} (h : rightB s = true) : nearB s.1 = true := by
  unfold rightB plainB at h
  simp only [Bool.and_eq_true] at h
  exact h.1.2.2.2.2
end Go.DI.S
set_option linter.unusedVariables false
set_option linter.unusedSimpArgs false
set_option maxRecDepth 100000
namespace Go.DI.S
open Go.Proofs
theorem mem_all {id : Int} : ∀ {l : List Int} {a : Int}, Mem id a l → ∀ n ∈ l, a < n ∧ OkId n ∧ n ≠ id
  | [], _, _, n, hn => by cases hn
  | m :: l, a, ⟨h1, h2, h3, h4⟩, n, hn => by
    rcases List.mem_cons.1 hn with rfl | hn
    · exact ⟨h1, h2, h3⟩
    · obtain ⟨k1, k2⟩ := mem_all h4 n hn
      exact ⟨Int.lt_trans h1 k1, k2⟩
theorem thing_rt {s : Scene} (h : Rt s) (hs : Small s.2.2) {t : Thing} (ht : t ∈ s.2.2) : RtP t := (rt_iff (hs.2 t ht)).1 (h.low t ht).2.2
theorem rt_ins {t : Thing} (h : rt t = true) (hl : t.2.2.2.2.length ≤ 1000000000) : (ins t).length ≤ 8 := by
  obtain ⟨_, k | k | k⟩ := (rt_iff hl).1 h
  · rw [k.2.2.1]; exact Nat.zero_le _
  · rw [k.2.2.1]; exact Nat.zero_le _
  · exact k.2.2.2.2.2
theorem ins_few {s : Scene} (h : Rt s) (hs : Small s.2.2) {x : Thing} (hx : x ∈ s.2.2) : (ins x).length ≤ 8 := rt_ins (h.low x hx).2.2 (hs.2 x hx)
def Far (a : Int) : Prop := -42949672960000 ≤ a ∧ a ≤ 42949672960000
def Ends (P : Prop) (a : Option (Els [.bool])) : Prop := ∀ b, a = some (b, ()) → b = true → P
theorem ends_cond {P : Prop} {c : Bool} {a b : Option (Els [.bool])} (h : Ends P a) (k : Ends P b) : Ends P (bif c then a else b) := by cases c <;> assumption
theorem ends_false {P : Prop} : Ends P (some (false, ())) := fun b h hb => by cases h; cases hb
theorem ends_bind {α : Type} {P : Prop} {a : Option α} {f : α → Option (Els [.bool])} (h : ∀ v, Ends P (f v)) : Ends P (a.bind f) := fun b hb k => by
  obtain ⟨v, _, hv⟩ := Option.bind_eq_some_iff.1 hb
  exact h v b hv k
theorem in_of {a b c : Int} : F_126 a b c = some ((decide (b ≤ a) && decide (a ≤ c), ()) : Els [.bool]) := by
  unfold F_126
  cases decide (b ≤ a) <;> rfl
def farB (a : Int) : Bool := decide (-42949672960000 ≤ a) && decide (a ≤ 42949672960000)
theorem farB_far {a : Int} (h : farB a = true) : Far a := by
  unfold farB at h
  rw [Bool.and_eq_true] at h
  exact ⟨of_decide_eq_true h.1, of_decide_eq_true h.2⟩
theorem near_of' {p : Vec} : F_127 p 42949672960000 = some ((farB p.1 && farB p.2, ()) : Els [.bool]) := by
  unfold F_127
  rw [show IntKind.i64.wrap ((0 : Int) - 42949672960000) = -42949672960000 from by kernel_rfl, in_of, in_of]
  simp only [Option.bind_some]
  show (bif farB p.1 then (some (farB p.2, ()) : Option (Els [.bool])).bind _ else _) = _
  cases farB p.1 <;> rfl
theorem ends_pos {p : Vec} {f : Els [.bool] → Option (Els [.bool])} : Ends (Far p.1 ∧ Far p.2) ((F_127 p 42949672960000).bind fun v => bif v.1 then f v else some (false, ())) := by
  intro b hb k
  rw [near_of'] at hb
  simp only [Option.bind_some] at hb
  cases h1 : farB p.1 with
  | false => rw [h1] at hb; cases hb; cases k
  | true =>
    cases h2 : farB p.2 with
    | false => rw [h1, h2] at hb; cases hb; cases k
    | true => exact ⟨farB_far h1, farB_far h2⟩
theorem rb_far {b : Body} (h : rb b = true) : Far b.2.2.2.1.1 ∧ Far b.2.2.2.1.2 := by
  have h88 := v_88 b
  rw [h] at h88
  have : Ends (Far b.2.2.2.1.1 ∧ Far b.2.2.2.1.2) (F_88 b) := by
    unfold F_88
    repeat' first
      | exact ends_false
      | exact ends_pos
      | refine ends_cond ?_ ?_
      | refine ends_bind fun _ => ?_
  exact this true h88 rfl
def In64 (x : Int) : Prop := -9223372036854775808 ≤ x ∧ x ≤ 9223372036854775807
theorem in64_of {x : Int} (h1 : -4294967296000000 ≤ x) (h2 : x ≤ 4294967296000000) : In64 x := ⟨by omega, by omega⟩
theorem le_trans0 {x : Int} (h : 0 ≤ x) : -4294967296000000 ≤ x := by omega
theorem le_top {x : Int} (h : x ≤ 4294967296000) : x ≤ 4294967296000000 := by omega
theorem ends_in {x lo hi : Int} (h1 : -9223372036854775808 ≤ lo) (h2 : hi ≤ 9223372036854775807) {f : Els [.bool] → Option (Els [.bool])} : Ends (In64 x) ((F_126 x lo hi).bind fun v => bif !v.1 then some (false, ()) else f v) := by
  intro b hb k
  rw [in_of] at hb
  cases hc : (decide (lo ≤ x) && decide (x ≤ hi)) with
  | false => rw [hc] at hb; cases hb; cases k
  | true =>
    rw [Bool.and_eq_true] at hc
    have a := of_decide_eq_true hc.1
    have c := of_decide_eq_true hc.2
    exact ⟨by omega, by omega⟩
theorem ends_zero {x : Int} {X : Option (Els [.bool])} : Ends (In64 x) (bif x != (0 : Int) then some (false, ()) else X) := by
  intro b hb k
  by_cases h : x = 0
  · subst h; exact ⟨by decide, by decide⟩
  · rw [bne_of h] at hb; cases hb; cases k
theorem ends_nz {x lo hi : Int} (h1 : -9223372036854775808 ≤ lo) (h2 : hi ≤ 9223372036854775807) {f : Els [.bool] → Option (Els [.bool])} {X : Option (Els [.bool])} : Ends (In64 x) (bif x != (0 : Int) then (F_126 x lo hi).bind (fun v => bif !v.1 then some (false, ()) else f v) else X) := by
  by_cases h : x = 0
  · subst h; exact fun b _ _ => ⟨by decide, by decide⟩
  · rw [bne_of h]; exact ends_in h1 h2
theorem ends_mom {p : Vec} : Ends (In64 p.1 ∧ In64 p.2) ((F_127 p (4294967296000000 : Int)).bind fun v => some (v.1, ())) := by
  intro b hb k
  have e : F_127 p 4294967296000000 = (F_126 p.1 (-4294967296000000) 4294967296000000).bind fun v => bif v.1 then (F_126 p.2 (-4294967296000000) 4294967296000000).bind fun u => some ((u.1, ()) : Els [.bool]) else some (false, ()) := by
    unfold F_127
    rw [show IntKind.i64.wrap ((0 : Int) - 4294967296000000) = -4294967296000000 from by kernel_rfl]
  rw [e, in_of, in_of] at hb
  simp only [Option.bind_some] at hb
  cases hc : (decide (-4294967296000000 ≤ p.1) && decide (p.1 ≤ 4294967296000000)) with
  | false => rw [hc] at hb; cases hb; cases k
  | true =>
    rw [hc] at hb
    simp only [cond_true, Option.bind_some] at hb
    cases hd : (decide (-4294967296000000 ≤ p.2) && decide (p.2 ≤ 4294967296000000)) with
    | false => rw [hd] at hb; cases hb; cases k
    | true =>
      rw [Bool.and_eq_true] at hc hd
      have a := of_decide_eq_true hc.1
      have c := of_decide_eq_true hc.2
      have a' := of_decide_eq_true hd.1
      have c' := of_decide_eq_true hd.2
      exact ⟨in64_of a c, in64_of a' c'⟩
theorem rb_sx {b : Body} : Ends (In64 b.2.1.1) (F_88 b) := by
  unfold F_88
  repeat' first
    | exact ends_false
    | exact ends_in (by decide) (by decide)
    | refine ends_cond ?_ ?_
    | refine ends_bind fun _ => ?_
theorem rb_ms {b : Body} : Ends (In64 b.2.2.1) (F_88 b) := by
  unfold F_88
  repeat' first
    | exact ends_false
    | exact ends_nz (by decide) (by decide)
    | refine ends_cond ?_ ?_
    | refine ends_bind fun _ => ?_
theorem rb_mo {b : Body} : Ends (In64 b.2.2.2.2.1 ∧ In64 b.2.2.2.2.2) (F_88 b) := by
  unfold F_88
  repeat' first
    | exact ends_false
    | exact ends_mom
    | refine ends_cond ?_ ?_
    | refine ends_bind fun _ => ?_
theorem rb_sy {b : Body} (h : b.1 = 1 ∨ b.1 = 2) : Ends (In64 b.2.1.2) (F_88 b) := by
  unfold F_88
  rcases h with h | h
  · have h1 : (b.1 == (1 : Int)) = true := by rw [h]; rfl
    simp only [h1, cond_true]
    repeat' first
      | exact ends_false
      | exact ends_zero
      | refine ends_cond ?_ ?_
      | refine ends_bind fun _ => ?_
  · have h1 : (b.1 == (1 : Int)) = false := by rw [h]; rfl
    have h2 : (b.1 == (2 : Int)) = true := by rw [h]; rfl
    simp only [h1, h2, cond_true, cond_false]
    repeat' first
      | exact ends_false
      | exact ends_in (by decide) (by decide)
      | refine ends_cond ?_ ?_
      | refine ends_bind fun _ => ?_
theorem far_in {x : Int} (h : Far x) : In64 x := ⟨by have := h.1; omega, by have := h.2; omega⟩
theorem ok_in {x : Int} (h : OkId x) : In64 x := ⟨by have := h.1; omega, by have := h.2; omega⟩
theorem wf_in {x : Int} (h : In64 x) : I.wf x := by
  obtain ⟨h1, h2⟩ := h
  show (Lit.int .i64 x).wf = true
  simp [Lit.wf, IntKind.min, IntKind.max, IntKind.signed, IntKind.bits]
  omega
theorem wf_body {b : Body} (h : rb b = true) : tBody.wf b := by
  have h88 := v_88 b
  rw [h] at h88
  have hs := shape_of h88
  obtain ⟨f1, f2⟩ := rb_far h
  obtain ⟨m1, m2⟩ := rb_mo true h88 rfl
  refine ⟨wf_in ?_, ⟨wf_in (rb_sx true h88 rfl), wf_in (rb_sy hs true h88 rfl)⟩, wf_in (rb_ms true h88 rfl), ⟨wf_in (far_in f1), wf_in (far_in f2)⟩, wf_in m1, wf_in m2⟩
  rcases hs with k | k
  · rw [k]; exact ⟨by decide, by decide⟩
  · rw [k]; exact ⟨by decide, by decide⟩
theorem wf_thing {t : Thing} (h : RtP t) : tThing.wf t := by
  have z : I.wf (0 : Int) := wf_in ⟨by decide, by decide⟩
  have zB : tBody.wf noB := ⟨z, ⟨z, z⟩, z, ⟨z, z⟩, z, z⟩
  have zJ : tJoint.wf noJ := ⟨z, z, z⟩
  have zL : (Ty.list I).wf ([] : List Int) := ⟨Nat.zero_le _, fun x hx => by cases hx⟩
  obtain ⟨h0, h1 | h1 | h1⟩ := h
  · obtain ⟨k, a, b, c⟩ := h1
    have b : t.2.2.2.2 = [] := b
    refine ⟨wf_in (ok_in h0), by rw [k]; exact wf_in ⟨by decide, by decide⟩, wf_body c, by rw [a]; exact zJ, by rw [b]; exact zL⟩
  · obtain ⟨k, a, b, c, d, _, e, f⟩ := h1
    have b : t.2.2.2.2 = [] := b
    refine ⟨wf_in (ok_in h0), by rw [k]; exact wf_in ⟨by decide, by decide⟩, by rw [a]; exact zB, ⟨wf_in (ok_in c), wf_in (ok_in d), wf_in (in64_of (le_trans0 e) (le_top f))⟩, by rw [b]; exact zL⟩
  · obtain ⟨k, a, b, c, d, e⟩ := h1
    refine ⟨wf_in (ok_in h0), by rw [k]; exact wf_in ⟨by decide, by decide⟩, by rw [a]; exact zB, by rw [b]; exact zJ, ?_, fun x hx => wf_in (ok_in (mem_all c x hx).2.1)⟩
    show (ins t).length ≤ maxLen
    exact Nat.le_trans e (by unfold maxLen; decide)
end Go.DI.S
