import Derived.Test.YtehbnnmokbgiiaaDa
/- What steps may be; what Forth comes to; forth and back again. No conditions. -/
/-! What is read of whatever bytes: a thing whose bytes they are, or none. -/
set_option linter.unusedVariables false
set_option linter.unusedSimpArgs false
set_option maxRecDepth 100000
namespace Go.DI.S
open Go.Proofs
theorem v_131g (n : Nat) (b : List UInt8) (bad : Bool) : ∃ (l b' : List UInt8) (bad' : Bool), F_131 (n : Int) (b, bad, ()) = some ((l, ()), (b', bad', ()), ()) ∧ l.length ≤ n := by
  unfold F_131
  cases bad with
  | true => exact ⟨[], b, true, rfl, Nat.zero_le _⟩
  | false =>
    simp only [cond_false]
    by_cases h : (n : Int) > ((b.length : Nat) : Int)
    · rw [decide_eq_true h]
      exact ⟨[], b, true, rfl, Nat.zero_le _⟩
    · have h2 : (0 : Int) ≤ (n : Int) ∧ (n : Int) ≤ ((b.length : Nat) : Int) := by omega
      rw [decide_eq_false h, decide_eq_true h2]
      refine ⟨_, _, _, rfl, ?_⟩
      rw [List.length_take, Int.toNat_natCast]
      omega
theorem byteIn_range (a : Int) (c : UInt8) : 0 ≤ byteIn a c ∧ byteIn a c < 18446744073709551616 := by
  rw [byteIn_eq]
  omega
theorem v_104g (n : Nat) (hn : n ≤ 8) (b : List UInt8) (bad : Bool) : ∃ (v : Int) (b' : List UInt8) (bad' : Bool), F_104 (n : Int) (b, bad, ()) = some ((v, ()), (b', bad', ()), ()) ∧ (n = 1 → 0 ≤ v ∧ v ≤ 255) := by
  obtain ⟨l, b', bad', h, hl⟩ := v_131g n b bad
  unfold F_104
  simp only [h, Option.bind_some]
  rw [r_104 _ (by omega)]
  refine ⟨_, _, _, rfl, fun h1 => ?_⟩
  subst h1
  match l, hl with
  | [], _ =>
    show 0 ≤ IntKind.i64.wrap 0 ∧ IntKind.i64.wrap 0 ≤ 255
    decide
  | [c], _ =>
    show 0 ≤ IntKind.i64.wrap (byteIn 0 c) ∧ IntKind.i64.wrap (byteIn 0 c) ≤ 255
    have h2 : byteIn 0 c = c.toNat := by
      rw [byteIn_eq]
      have := c.toNat_lt
      omega
    have := c.toNat_lt
    rw [h2, wrap64 (by omega) (by omega)]
    omega
theorem v_105g (b : List UInt8) (bad : Bool) : ∃ (v : Vec) (b' : List UInt8) (bad' : Bool), F_105 (b, bad, ()) = some ((v, ()), (b', bad', ()), ()) := by
  obtain ⟨x, b1, d1, h1, _⟩ := v_104g 8 (by omega) b bad
  obtain ⟨y, b2, d2, h2, _⟩ := v_104g 8 (by omega) b1 d1
  have h1 : F_104 8 (b, bad, ()) = _ := h1
  have h2 : F_104 8 (b1, d1, ()) = _ := h2
  unfold F_105
  simp only [h1, Option.bind_some, h2]
  exact ⟨_, _, _, rfl⟩
theorem r_63g (s : List UInt8) (id kind : Int) (b : Body) (j : Joint) : ∀ (k m : Nat) (row : List Int) (r : List UInt8) (bad : Bool), k < m → k + row.length ≤ 1000 →
    ∃ (row' : List Int) (r' : List UInt8) (bad' : Bool), roundsT (fun x => G_63_18 x.1.1 x.1.2.2.2.2.1 x.2.1 x.2.2.1 x.2.2.2.1 x.2.2.2.2.1) m ((s, (), (), (), (k : Int), ()), (noThing, ()), (r, bad, ()), (id, kind, b, j, (), ()), row, ()) =
      some (.inl ((s, (), (), (), ()), (noThing, ()), (r', bad', ()), (id, kind, b, j, (), ()), row', ())) ∧ row'.length ≤ 1000
  | 0, m, row, r, bad, hm, hr => by
    obtain ⟨m, rfl⟩ : ∃ q, m = q + 1 := ⟨m - 1, by omega⟩
    exact ⟨row, r, bad, rounds_out (by simp only [G_63_18]; rfl) m, by omega⟩
  | k + 1, m, row, r, bad, hm, hr => by
    obtain ⟨m, rfl⟩ : ∃ q, m = q + 1 := ⟨m - 1, by omega⟩
    obtain ⟨v, r', bad', h, _⟩ := v_104g 4 (by omega) r bad
    have h : F_104 4 (r, bad, ()) = _ := h
    obtain ⟨row2, r2, bad2, h2, h3⟩ := r_63g s id kind b j k m (row ++ [v]) r' bad' (by omega) (by simp; omega)
    refine ⟨row2, r2, bad2, ?_, h3⟩
    rw [rounds_in (x' := ((s, (), (), (), (k : Int), ()), (noThing, ()), (r', bad', ()), (id, kind, b, j, (), ()), row ++ [v], ())) ?_ m]
    · exact h2
    · have hp : decide (((k + 1 : Nat) : Int) > 0) = true := decide_eq_true (by omega)
      have hw : IntKind.i64.wrap (((k + 1 : Nat) : Int) - 1) = (k : Int) := by rw [wrap64 (by omega) (by omega)]; omega
      simp only [G_63_18, hp, cond_true, h, Option.bind_some, hw]
      rw [show Nat.ble ((row.length + [v].length) * 8) 70368744177664 = true from Nat.ble_eq_true_of_le (by simp; omega)]
      rfl
/-- What is read: a thing that may be, of these bytes; or none. -/
def GotG (b : List UInt8) (o : Option (Els [tThing, .bool])) : Prop :=
  (∃ t : Thing, o = some ((t, true, ()) : Els [tThing, .bool]) ∧ rt t = true ∧ toS (putI t) = b ∧ t.2.2.2.2.length ≤ 1000) ∨ o = some ((noThing, false, ()) : Els [tThing, .bool])
theorem end_63 (a : List UInt8) (t : Thing) (bad : Bool) (hl : t.2.2.2.2.length ≤ 1000) :
    GotG a ((F_61 t).bind fun v => bif bad then some ((noThing, false, ()) : Els [tThing, .bool]) else bif !v.2.1 then some (noThing, false, ()) else bif !v.1 == a then some (noThing, false, ()) else some (t, true, ())) := by
  rw [v_61 t (by omega)]
  cases bad with
  | true => exact .inr (by cases rt t <;> rfl)
  | false =>
    cases hr : rt t with
    | false => exact .inr rfl
    | true =>
      simp only [cond_true, Option.bind_some, cond_false, Bool.not_true]
      by_cases e : toS (putI t) = a
      · left
        refine ⟨t, ?_, hr, e, hl⟩
        have : (!(toS (putI t) == a)) = false := by rw [e]; simp
        exact noV this rfl
      · right
        have : (!(toS (putI t) == a)) = true := by
          have : (toS (putI t) == a) = false := beq_false_of_ne e
          rw [this]; rfl
        exact yesV this rfl
theorem v_63g (a : List UInt8) : GotG a (F_63 a) := by
  unfold F_63
  obtain ⟨k, b1, d1, h1, _⟩ := v_104g 1 (by omega) a false
  have h1 : F_104 1 (a, false, ()) = _ := h1
  obtain ⟨id, b2, d2, h2, _⟩ := v_104g 4 (by omega) b1 d1
  have h2 : F_104 4 (b1, d1, ()) = _ := h2
  simp only [h1, Option.bind_some, h2]
  cases (k == (1 : Int)) with
  | true =>
    obtain ⟨x1, b3, d3, h3, _⟩ := v_104g 1 (by omega) b2 d2
    have h3 : F_104 1 (b2, d2, ()) = _ := h3
    obtain ⟨x2, b4, d4, h4⟩ := v_105g b3 d3
    obtain ⟨x3, b5, d5, h5, _⟩ := v_104g 8 (by omega) b4 d4
    have h5 : F_104 8 (b4, d4, ()) = _ := h5
    obtain ⟨x4, b6, d6, h6⟩ := v_105g b5 d5
    obtain ⟨x5, b7, d7, h7⟩ := v_105g b6 d6
    simp only [cond_true, h3, Option.bind_some, h4, h5, h6, h7]
    exact end_63 a (id, k, (x1, x2, x3, x4, x5), ((0 : Int), (0 : Int), (0 : Int)), []) d7 (Nat.zero_le _)
  | false =>
    simp only [cond_false]
    cases (k == (2 : Int)) with
    | true =>
      obtain ⟨x1, b3, d3, h3, _⟩ := v_104g 4 (by omega) b2 d2
      have h3 : F_104 4 (b2, d2, ()) = _ := h3
      obtain ⟨x2, b4, d4, h4, _⟩ := v_104g 4 (by omega) b3 d3
      have h4 : F_104 4 (b3, d3, ()) = _ := h4
      obtain ⟨x3, b5, d5, h5, _⟩ := v_104g 8 (by omega) b4 d4
      have h5 : F_104 8 (b4, d4, ()) = _ := h5
      simp only [cond_true, h3, Option.bind_some, h4, h5]
      exact end_63 a (id, k, noBody, (x1, x2, x3), []) d5 (Nat.zero_le _)
    | false =>
      simp only [cond_false]
      cases (k == (3 : Int)) with
      | true =>
        obtain ⟨x1, b3, d3, h3, hx⟩ := v_104g 1 (by omega) b2 d2
        have h3 : F_104 1 (b2, d2, ()) = _ := h3
        obtain ⟨c, rfl⟩ := Int.eq_ofNat_of_zero_le (hx rfl).1
        have hc := (hx rfl).2
        obtain ⟨row, r', bad', h4, h5⟩ := r_63g a id k noBody noJoint c fuel [] b3 d3 (fuel_lt (by omega)) (by simp; omega)
        simp only [cond_true, h3, Option.bind_some]
        have h4 : R_63_18 ((a, (), (), (), (c : Int), ()), (noThing, ()), (b3, d3, ()), (id, k, noBody, noJoint, (), ()), [], ()) = _ := h4
        refine Eq.mpr (congrArg (GotG a) (bind_ofV h4 rfl)) ?_
        exact end_63 a (id, k, noBody, noJoint, row) bad' h5
      | false =>
        simp only [cond_false]
        exact end_63 a (id, k, noBody, noJoint, []) d2 (Nat.zero_le _)
/-- The thing of bytes. -/
noncomputable def getO (b : List UInt8) : Option Thing := match F_63 b with
  | some x => bif x.2.1 then some x.1 else none
  | none => none
theorem v_63o (b : List UInt8) : F_63 b = some ((match getO b with | some t => (t, true, ()) | none => (noThing, false, ())) : Els [tThing, .bool]) := by
  rcases v_63g b with ⟨t, h, _⟩ | h
  · have : getO b = some t := by unfold getO; rw [h]; rfl
    rw [this, h]
  · have : getO b = none := by unfold getO; rw [h]; rfl
    rw [this, h]
theorem getO_some {b : List UInt8} {t : Thing} (h : getO b = some t) : rt t = true ∧ toS (putI t) = b ∧ t.2.2.2.2.length ≤ 1000 := by
  rcases v_63g b with ⟨u, h1, h2⟩ | h1
  · have : getO b = some u := by unfold getO; rw [h1]; rfl
    rw [this] at h
    injection h with h
    subst h
    exact h2
  · have : getO b = none := by unfold getO; rw [h1]; rfl
    rw [this] at h; cases h
theorem getO_put (t : Thing) (hw : tThing.wf t) (hl : t.2.2.2.2.length ≤ 1000000) (h : rt t = true) : getO (toS (putI t)) = some t := by
  unfold getO
  rw [v_63 t hw hl h]; rfl
theorem putI_ne (t : Thing) : toS (putI t) ≠ [] := by
  unfold putI
  rw [toS_app]
  intro h
  have := congrArg List.length h
  rw [List.length_append, toS_len, numI_len] at this
  simp at this
theorem getO_nil : getO [] = none := by
  cases h : getO [] with
  | none => rfl
  | some t => exact absurd (getO_some h).2.1 (putI_ne t)
end Go.DI.S

/-! What steps may be; a step turned around; steps alike; the bytes of a thing of a scene. -/
set_option linter.unusedVariables false
set_option linter.unusedSimpArgs false
set_option maxRecDepth 100000
namespace Go.DI.S
open Go.Proofs
abbrev Delta := tDelta.El
abbrev Entry := tEntry.El
abbrev Str := List UInt8
abbrev Bl1 := Option (Els [.bool])
theorem b_not {c x : Bool} {X : Bl1} (h : X = some (x, ())) : (bif c then some ((false, ()) : Els [.bool]) else X) = some (!c && x, ()) := by cases c <;> simp [h]
theorem b_neg {c x : Bool} {X : Bl1} (h : X = some (x, ())) : (bif !c then some ((false, ()) : Els [.bool]) else X) = some (c && x, ()) := by cases c <;> simp [h]
theorem b_if {c x : Bool} {X : Bl1} (h : X = some (x, ())) : (bif c then X else some ((false, ()) : Els [.bool])) = some (c && x, ()) := by cases c <;> simp [h]
theorem b_or {c x : Bool} {X : Bl1} (h : X = some (x, ())) : (bif c then some ((true, ()) : Els [.bool]) else X) = some (c || x, ()) := by cases c <;> simp [h]
/-! ### one side of a change -/
noncomputable def sideB (id : Int) (b : Str) : Bool := (b == []) || (match getO b with | some t => t.1 == id | none => false)
theorem v_106 (d : Delta) (b : Str) : F_106 d b = some ((sideB d.1 b, ()) : Els [.bool]) := by
  unfold F_106 sideB
  refine bind_ofV (v_63o b) ?_
  cases getO b with
  | some t => exact b_or rfl
  | none => exact b_or rfl
noncomputable def stepE (a : Int) (d : Delta) : Option Int :=
  bif decide (d.1 ≤ a) then none else bif !(decide (d.1 ≥ 1) && decide (d.1 ≤ 1000000)) then none else bif d.2.1 == d.2.2 then none else bif !sideB d.1 d.2.1 then none else bif !sideB d.1 d.2.2 then none else some d.1
/-- Changes of rising numbers, each of something, each of two sides that may be. -/
def DL : Int → List Delta → Prop
  | _, [] => True
  | a, d :: l => a < d.1 ∧ 1 ≤ d.1 ∧ d.1 ≤ 1000000 ∧ d.2.1 ≠ d.2.2 ∧ sideB d.1 d.2.1 = true ∧ sideB d.1 d.2.2 = true ∧ DL d.1 l
theorem stepE_iff (a : Int) (d : Delta) : (stepE a d = some d.1 ∧ (a < d.1 ∧ 1 ≤ d.1 ∧ d.1 ≤ 1000000 ∧ d.2.1 ≠ d.2.2 ∧ sideB d.1 d.2.1 = true ∧ sideB d.1 d.2.2 = true)) ∨
    (stepE a d = none ∧ ¬ (a < d.1 ∧ 1 ≤ d.1 ∧ d.1 ≤ 1000000 ∧ d.2.1 ≠ d.2.2 ∧ sideB d.1 d.2.1 = true ∧ sideB d.1 d.2.2 = true)) := by
  obtain ⟨(n : Int), (p : Str), (q : Str)⟩ := d
  unfold stepE
  show ((bif decide (n ≤ a) then none else bif !(decide (n ≥ 1) && decide (n ≤ 1000000)) then none else bif p == q then none else bif !sideB n p then none else bif !sideB n q then none else some n) = some n ∧ (a < n ∧ 1 ≤ n ∧ n ≤ 1000000 ∧ p ≠ q ∧ sideB n p = true ∧ sideB n q = true)) ∨
    ((bif decide (n ≤ a) then none else bif !(decide (n ≥ 1) && decide (n ≤ 1000000)) then none else bif p == q then none else bif !sideB n p then none else bif !sideB n q then none else some n) = none ∧ ¬ (a < n ∧ 1 ≤ n ∧ n ≤ 1000000 ∧ p ≠ q ∧ sideB n p = true ∧ sideB n q = true))
  by_cases h1 : n ≤ a
  · right; rw [decide_eq_true h1]; exact ⟨rfl, fun h => by omega⟩
  rw [decide_eq_false h1, cond_false]
  by_cases h2 : n ≥ 1
  · by_cases h3 : n ≤ 1000000
    · rw [decide_eq_true h2, decide_eq_true h3]
      simp only [Bool.and_self, Bool.not_true, cond_false]
      by_cases h4 : p = q
      · right; rw [beq_iff_eq.2 h4]; exact ⟨rfl, fun h => h.2.2.2.1 h4⟩
      · rw [beq_false_of_ne h4, cond_false]
        cases h5 : sideB n p with
        | false => right; exact ⟨rfl, fun h => (by cases h.2.2.2.2.1)⟩
        | true =>
          cases h6 : sideB n q with
          | false => right; exact ⟨rfl, fun h => (by cases h.2.2.2.2.2)⟩
          | true => left; exact ⟨rfl, by omega, h2, h3, h4, rfl, rfl⟩
    · right; rw [decide_eq_false h3, Bool.and_false]; exact ⟨rfl, fun h => h3 h.2.2.1⟩
  · right; rw [decide_eq_false h2, Bool.false_and]; exact ⟨rfl, fun h => h2 h.2.1⟩
theorem fold_DL : ∀ (l : List Delta) (a : Int), (foldO stepE l a).isSome = true ↔ DL a l
  | [], a => ⟨fun _ => trivial, fun _ => rfl⟩
  | d :: l, a => by
    rcases stepE_iff a d with ⟨h, k⟩ | ⟨h, k⟩
    · simp only [foldO, h, DL]
      rw [fold_DL l d.1]
      exact ⟨fun m => ⟨k.1, k.2.1, k.2.2.1, k.2.2.2.1, k.2.2.2.2.1, k.2.2.2.2.2, m⟩, fun m => m.2.2.2.2.2.2⟩
    · simp only [foldO, h, DL]
      exact ⟨fun m => (by cases m), fun m => absurd ⟨m.1, m.2.1, m.2.2.1, m.2.2.2.1, m.2.2.2.2.1, m.2.2.2.2.2.1⟩ k⟩
def eqV (a b : Vec) : Bool := a.1 == b.1 && (a.2 == b.2 && true)
theorem eqV_iff {a b : Vec} : eqV a b = true ↔ a = b := by
  obtain ⟨a1, a2⟩ := a
  obtain ⟨b1, b2⟩ := b
  unfold eqV
  simp only [Bool.and_true, Bool.and_eq_true, beq_iff_eq, Prod.mk.injEq]
/-- Which steps there may be. -/
structure RE (e : Entry) : Prop where
  dl : DL 0 e.1
  len : e.1.length ≤ 40
  turned : e.2.1 = true ↔ e.2.2.1 ≠ e.2.2.2.1
  from0 : e.2.1 = false → e.2.2.1 = ((0 : Int), (0 : Int))
  nb : 1 ≤ e.2.2.2.2.1 ∧ e.2.2.2.2.1 ≤ (1000001 : Int)
  na : 1 ≤ e.2.2.2.2.2 ∧ e.2.2.2.2.2 ≤ (1000001 : Int)
  nearF : nearB e.2.2.1 = true
  nearT : nearB e.2.2.2.1 = true
  some_ : e.1 ≠ [] ∨ e.2.1 = true ∨ e.2.2.2.2.1 ≠ e.2.2.2.2.2
def lowB (a b : Int) : Bool := decide ((if b < a then b else a) < (1 : Int))
def topB (a b : Int) : Bool := decide ((if b > a then b else a) > (1000001 : Int))
theorem lowB_iff {a b : Int} : lowB a b = false ↔ 1 ≤ a ∧ 1 ≤ b := by
  unfold lowB
  rw [decide_eq_false_iff_not]
  split <;> omega
theorem topB_iff {a b : Int} : topB a b = false ↔ a ≤ 1000001 ∧ b ≤ 1000001 := by
  unfold topB
  rw [decide_eq_false_iff_not]
  split <;> omega
noncomputable def chkB (e : Entry) : Bool := !lowB e.2.2.2.2.1 e.2.2.2.2.2 && (!topB e.2.2.2.2.1 e.2.2.2.2.2 && (nearB e.2.2.1 && (nearB e.2.2.2.1 && (decide (((e.1.length : Nat) : Int) > 0) || (e.2.1 || e.2.2.2.2.1 != e.2.2.2.2.2)))))
theorem chk_64 (e : Entry) : (bif lowB e.2.2.2.2.1 e.2.2.2.2.2 then some ((false, ()) : Els [.bool]) else bif topB e.2.2.2.2.1 e.2.2.2.2.2 then some (false, ()) else
    (F_99 (e.2.2.1, [], [])).bind fun v => bif v.1 then (F_99 (e.2.2.2.1, [], [])).bind fun u => bif u.1 then (bif decide (((e.1.length : Nat) : Int) > 0) then some (true, ()) else bif e.2.1 then some (true, ()) else some (e.2.2.2.2.1 != e.2.2.2.2.2, ())) else some (false, ()) else some (false, ())) = some ((chkB e, ()) : Els [.bool]) := by
  unfold chkB
  refine b_not (b_not (bind_ofV (v_99 _) (b_if (bind_ofV (v_99 _) (b_if (b_or (b_or rfl)))))))
noncomputable def tailB (e : Entry) : Bool := !decide (((e.1.length : Nat) : Int) > 40) && (!!(e.2.1 == !eqV e.2.2.1 e.2.2.2.1) && ((e.2.1 || eqV e.2.2.1 ((0 : Int), (0 : Int))) && chkB e))
noncomputable def rightE (e : Entry) : Bool := (foldO stepE e.1 0).isSome && tailB e
theorem v_64 (e : Entry) (hl : e.1.length ≤ 1000000000) : F_64 e = some ((rightE e, ()) : Els [.bool]) := by
  have h := fold_loop (G := fun x => G_64_3 x.1.2.1 x.1.2.2.1 x.1.2.2.2.1 x.1.2.2.2.2.1 x.2.1) (m := fuel) e.1 stepE (fun k a => (((), a, e.1, (e.1.length : Int), (k : Int), ()), (e, ()), ())) (.inr ((false, ()), ())) (fun a => .inl (((), ()), (e, ()), ()))
    (fun k d a hd => ?_) (fun a => ?_) (fuel_lt hl) 0
  · unfold F_64 rightE
    have h : R_64_3 (((), (0 : Int), e.1, ((e.1.length : Nat) : Int), (0 : Int), ()), (e, ()), ()) = _ := h
    refine bind_ofV h ?_
    cases foldO stepE e.1 0 with
    | none => rfl
    | some a =>
      show (bif decide (((e.1.length : Nat) : Int) > 40) then some ((false, ()) : Els [.bool]) else _) = some ((true && tailB e, ()) : Els [.bool])
      rw [Bool.true_and]
      unfold tailB
      refine b_not (b_not ?_)
      have hc := chk_64 e
      show (bif !e.2.1 then (bif !eqV e.2.2.1 ((0 : Int), (0 : Int)) then some ((false, ()) : Els [.bool]) else _) else _) = _
      cases ht : e.2.1 with
      | false =>
        rw [ht] at hc
        simp only [Bool.not_false, cond_true, Bool.false_or]
        exact b_neg hc
      | true =>
        rw [ht] at hc
        simp only [Bool.not_true, cond_false, Bool.true_or, Bool.true_and]
        exact hc
  · have hk := len_of hd
    show G_64_3 a e.1 (e.1.length : Int) (k : Int) (e, ()) = _
    simp only [G_64_3, dec_lt hk, dec_in hk, cond_true, getD_of hd, wrap_up hk (by omega), v_86, v_106, Option.bind_some]
    unfold stepE
    cases decide (d.1 ≤ a) with
    | true => rfl
    | false =>
      cases (decide (d.1 ≥ 1) && decide (d.1 ≤ 1000000)) with
      | false => rfl
      | true =>
        simp only [Bool.not_true, cond_false]
        cases (d.2.1 == d.2.2) with
        | true => rfl
        | false =>
          simp only [cond_false]
          cases sideB d.1 d.2.1 with
          | false => rfl
          | true =>
            cases sideB d.1 d.2.2 <;> rfl
  · show G_64_3 a e.1 (e.1.length : Int) (e.1.length : Int) (e, ()) = _
    simp only [G_64_3, dec_end, cond_false]
theorem rightE_iff {e : Entry} : rightE e = true ↔ RE e := by
  unfold rightE tailB chkB
  simp only [Bool.and_eq_true, Bool.not_eq_true', Bool.not_not, Bool.or_eq_true, decide_eq_false_iff_not, decide_eq_true_iff, eqV_iff, lowB_iff, topB_iff, bne_iff_ne, beq_iff_eq]
  constructor
  · rintro ⟨h1, h2, h3, h4, h5, h6, h7, h8, h9⟩
    refine ⟨(fold_DL _ _).1 h1, by omega, ?_, fun h => ?_, ⟨h5.1, h6.1⟩, ⟨h5.2, h6.2⟩, h7, h8, ?_⟩
    · rw [h3]
      constructor
      · intro h k
        rw [eqV_iff.2 k] at h; cases h
      · intro h
        cases hv : eqV e.2.2.1 e.2.2.2.1 with
        | true => exact absurd (eqV_iff.1 hv) h
        | false => rfl
    · rcases h4 with h4 | h4
      · rw [h4] at h; cases h
      · exact h4
    · rcases h9 with h9 | h9 | h9
      · left; intro k; rw [k] at h9; simp at h9
      · exact .inr (.inl h9)
      · exact .inr (.inr h9)
  · intro h
    refine ⟨(fold_DL _ _).2 h.dl, by have := h.len; omega, ?_, ?_, ⟨h.nb.1, h.na.1⟩, ⟨h.nb.2, h.na.2⟩, h.nearF, h.nearT, ?_⟩
    · cases hv : eqV e.2.2.1 e.2.2.2.1 with
      | true =>
        cases ht : e.2.1 with
        | true => exact absurd (eqV_iff.1 hv) (h.turned.1 ht)
        | false => rfl
      | false =>
        have : e.2.1 = true := h.turned.2 fun k => by rw [eqV_iff.2 k] at hv; cases hv
        rw [this]; rfl
    · cases ht : e.2.1 with
      | true => exact .inl rfl
      | false => exact .inr (h.from0 ht)
    · rcases h.some_ with k | k | k
      · left
        have := List.length_pos_iff.2 k
        omega
      · exact .inr (.inl k)
      · exact .inr (.inr k)
/-! ### turned around -/
def swapD (d : Delta) : Delta := (d.1, d.2.2, d.2.1)
def turnE (e : Entry) : Entry := (e.1.map swapD, e.2.1, e.2.2.2.1, e.2.2.1, e.2.2.2.2.2, e.2.2.2.2.1)
theorem swap_swap (d : Delta) : swapD (swapD d) = d := rfl
theorem turn_turn (e : Entry) : turnE (turnE e) = e := by
  obtain ⟨l, a, b, c, x, y⟩ := e
  show ((l.map swapD).map swapD, a, b, c, x, y) = _
  rw [List.map_map]
  have : swapD ∘ swapD = id := rfl
  rw [this, List.map_id]
theorem DL_swap : ∀ {l : List Delta} {a : Int}, DL a l → DL a (l.map swapD)
  | [], a, _ => trivial
  | d :: l, a, h => ⟨h.1, h.2.1, h.2.2.1, fun k => h.2.2.2.1 k.symm, h.2.2.2.2.2.1, h.2.2.2.2.1, DL_swap h.2.2.2.2.2.2⟩
theorem RE_turn {e : Entry} (h : RE e) : RE (turnE e) := by
  refine ⟨DL_swap h.dl, by show (e.1.map swapD).length ≤ 40; rw [List.length_map]; exact h.len, ?_, fun k => ?_, h.na, h.nb, h.nearT, h.nearF, ?_⟩
  · rw [show (turnE e).2.1 = e.2.1 from rfl, h.turned]
    exact ⟨fun k m => k m.symm, fun k m => k m.symm⟩
  · have k : e.2.1 = false := k
    have h0 := h.from0 k
    show e.2.2.2.1 = _
    rw [← h0]
    have : ¬ (e.2.2.1 ≠ e.2.2.2.1) := fun m => by rw [h.turned.2 m] at k; cases k
    exact (Classical.not_not.1 this).symm
  · rcases h.some_ with k | k | k
    · left; show e.1.map swapD ≠ []
      intro m; exact k (List.map_eq_nil_iff.1 m)
    · exact .inr (.inl k)
    · exact .inr (.inr fun m => k m.symm)
theorem rightE_turn (e : Entry) : rightE (turnE e) = rightE e := by
  cases h : rightE e with
  | true => exact rightE_iff.2 (RE_turn (rightE_iff.1 h))
  | false =>
    cases k : rightE (turnE e) with
    | false => rfl
    | true =>
      have := RE_turn (rightE_iff.1 k)
      rw [turn_turn] at this
      rw [rightE_iff.2 this] at h; cases h
theorem set_mapD (l : List Delta) {i : Nat} (hi : i < l.length) : ((l.take i).map swapD ++ l.drop i).set i (swapD l[i]) = (l.take (i + 1)).map swapD ++ l.drop (i + 1) := by
  have h1 : ((l.take i).map swapD).length = i := by simp; omega
  rw [List.drop_eq_getElem_cons hi, List.set_append_right _ _ (by omega), h1, Nat.sub_self, List.set_cons_zero, List.take_succ_eq_append_getElem hi, List.map_append, List.append_assoc]
  rfl
theorem get_mapD (l : List Delta) (d : Delta) {i : Nat} (hi : i < l.length) : ((l.take i).map swapD ++ l.drop i).getD i d = l[i] := by
  have h1 : ((l.take i).map swapD).length = i := by simp; omega
  rw [List.getD_eq_getElem?_getD, List.getElem?_append_right (by omega), h1, Nat.sub_self, List.drop_eq_getElem_cons hi]
  rfl
theorem len_mapD (l : List Delta) (i : Nat) : ((l.take i).map swapD ++ l.drop i).length = l.length := by simp; omega
theorem v_109 (e : Entry) (hl : e.1.length ≤ 1000000) : F_109 e = some ((turnE e, ()) : Els [tEntry]) := by
  obtain ⟨(l : List Delta), (tu : Bool), (f : Vec), (t : Vec), (nb : Int), (na : Int)⟩ := e
  have hl : l.length ≤ 1000000 := hl
  have h1 := rounds_to (G := fun x => G_109_3 x.1.2.2.2.1 x.1.2.2.2.2.1 x.2.1 x.2.2.1 x.2.2.2.1) (n := l.length) (inv := fun n => (((), (), (), (l.length : Int), (n : Int), ()), ((), tu, f, t, nb, na, ()), (l.take n).map swapD ++ l.drop n, (([], false, ((0 : Int), (0 : Int)), ((0 : Int), (0 : Int)), (0 : Int), (0 : Int)), ()), ()))
    (y := .inl (((), (), ()), ((), tu, f, t, nb, na, ()), (l.take l.length).map swapD ++ l.drop l.length, (([], false, ((0 : Int), (0 : Int)), ((0 : Int), (0 : Int)), (0 : Int), (0 : Int)), ()), ())) (fun n hn => ?_) ?_ l.length 0 fuel (by omega) (fuel_lt (by omega))
  · have h2 : (l.take l.length).map swapD ++ l.drop l.length = l.map swapD := by simp
    rw [h2] at h1
    unfold F_109
    have h0 : F_132o l = some l := by
      unfold F_132o O_132
      rw [show Nat.ble (l.length * 40) 70368744177664 = true from Nat.ble_eq_true_of_le (by omega)]
      rfl
    have h1 : R_109_3 (((), (), (), (l.length : Int), (0 : Int), ()), ((), tu, f, t, nb, na, ()), l, (([], false, ((0 : Int), (0 : Int)), ((0 : Int), (0 : Int)), (0 : Int), (0 : Int)), ()), ()) = _ := h1
    exact bind_ofV h0 (bind_ofV h1 rfl)
  · have hin : decide ((0 : Int) ≤ (n : Int) ∧ (n : Int) < ((((l.take n).map swapD ++ l.drop n).length : Nat) : Int)) = true := by rw [len_mapD]; exact dec_in hn
    show G_109_3 (l.length : Int) (n : Int) ((), tu, f, t, nb, na, ()) ((l.take n).map swapD ++ l.drop n) _ = _
    have hin2 : ∀ X : Delta, decide ((0 : Int) ≤ (n : Int) ∧ (n : Int) < (((((l.take n).map swapD ++ l.drop n).set n X).length : Nat) : Int)) = true := by
      intro X; rw [List.length_set]; exact hin
    have hg : ∀ (X d : Delta), (((l.take n).map swapD ++ l.drop n).set n X).getD n d = X := by
      intro X d
      have : n < ((l.take n).map swapD ++ l.drop n).length := by rw [len_mapD]; exact hn
      rw [List.getD_eq_getElem?_getD, List.getElem?_set_self this]; rfl
    have hwu := wrap_up hn (by omega)
    unfold G_109_3
    refine yesV (dec_lt hn) (yesV hin (yesV hin (yesV (hin2 _) ?_)))
    simp only [Int.toNat_natCast, get_mapD l _ hn, hg, List.set_set, hwu]
    rw [← set_mapD l hn]
    rfl
  · show G_109_3 (l.length : Int) (l.length : Int) _ _ _ = _
    simp only [G_109_3, dec_end, cond_false]
/-! ### alike -/
theorem v_221 (l : List Delta) (hl : l.length ≤ 1000000) : F_221 l l = some ((true, ()) : Els [.bool]) := by
  have h := all_loop (G := fun x => G_221_4 x.1.1 x.1.2.1 x.1.2.2.1) (m := fuel) l (fun _ => true) (fun k => ((l, l, (k : Int), ()), ())) (.inr ((false, ()), ())) (.inl ((), ()))
    (fun k t ha => ?_) ?_ (fuel_lt (by omega))
  · rw [if_pos (List.all_eq_true.2 fun _ _ => rfl)] at h
    unfold F_221
    have h : R_221_4 ((l, l, (0 : Int), ()), ()) = _ := h
    exact noV (by simp) (bind_ofV h rfl)
  · have hk := len_of ha
    simp only [G_221_4, dec_lt hk, dec_in hk, cond_true, beq_self_eq_true, Bool.and_true, Bool.not_true, cond_false, wrap_up hk (by omega), if_true]
  · simp only [G_221_4, dec_end, cond_false]
theorem v_209 (e : Entry) (hl : e.1.length ≤ 1000000) : F_209 e e = some ((true, ()) : Els [.bool]) := by
  unfold F_209
  simp only [beq_self_eq_true, Bool.and_true, cond_true]
  exact bind_ofV (v_221 e.1 hl) rfl
/-! ### light -/
theorem v_206 (e : Entry) (hl : e.1.length ≤ maxLen) : ∃ b, F_206 e = some ((b, ()) : Els [.bool]) ∧ (b = true → e.1.length ≤ 60) := by
  have h := fold_all (G := fun x => G_206_3 x.1.2.1 x.1.2.2.1 x.1.2.2.2.1 x.2.1) (m := fuel) e.1 (fun (a : Int) (d : Delta) => IntKind.i64.wrap (a + IntKind.i64.wrap (((d.2.1.length : Nat) : Int) + ((d.2.2.length : Nat) : Int))))
    (fun k a => (((), a, (e.1.length : Int), (k : Int), ()), (e, ()), ())) (fun a => .inl (((), a, ()), (e, ()), ())) (fun k d a hd => ?_) (fun a => ?_) (fuel_max hl) 0
  · unfold F_206
    have h : R_206_3 (((), (0 : Int), ((e.1.length : Nat) : Int), (0 : Int), ()), (e, ()), ()) = _ := h
    by_cases hc : ((e.1.length : Nat) : Int) ≤ 60
    · exact ⟨_, bind_ofV h (yesV (decide_eq_true hc) rfl), fun _ => by omega⟩
    · exact ⟨false, bind_ofV h (noV (decide_eq_false hc) rfl), fun h => by cases h⟩
  · have hk := len_of hd
    have hl' : e.1.length ≤ 9223372036854775807 := by unfold maxLen at hl; omega
    show G_206_3 a (e.1.length : Int) (k : Int) (e, ()) = _
    simp only [G_206_3, dec_lt hk, dec_in hk, cond_true, getD_of hd, wrap_up' hk hl']
  · show G_206_3 a (e.1.length : Int) (e.1.length : Int) (e, ()) = _
    simp only [G_206_3, dec_end, cond_false]
/-! ### the bytes of a thing of a scene -/
noncomputable def bytesO (l : List Thing) (id : Int) : Str := bif (getB l id).2 then (bif rt (getB l id).1 then toS (putI (getB l id).1) else []) else []
theorem getB_len {l : List Thing} (hs : Small l) (h2 : ∀ t ∈ l, t.2.2.2.2.length ≤ 1000000) (id : Int) : (getB l id).1.2.2.2.2.length ≤ 1000000 := by
  unfold getB
  cases hx : idx l id with
  | none => exact Nat.zero_le _
  | some k =>
    obtain ⟨t, h1, _⟩ := idx_lt hx
    show ((l[k]?).getD noThing).2.2.2.2.length ≤ 1000000
    rw [h1]
    exact h2 t (List.mem_of_getElem? h1)
theorem v_110 (s : Scene) (id : Int) (hs : Small s.2.2) (h2 : ∀ t ∈ s.2.2, t.2.2.2.2.length ≤ 1000000) : F_110 s id = some ((bytesO s.2.2 id, ()) : Els [.str]) := by
  unfold F_110 bytesO
  refine bind_ofV (v_23 s id hs.1 hs.2) ?_
  have h61 := v_61 (getB s.2.2 id).1 (getB_len hs h2 id)
  show (bif !(getB s.2.2 id).2 then some (([], ()) : Els [.str]) else (F_61 (getB s.2.2 id).1).bind fun v4 => some (v4.1, ())) = _
  cases (getB s.2.2 id).2 with
  | false => rfl
  | true =>
    simp only [Bool.not_true, cond_false, cond_true]
    refine bind_ofV h61 ?_
    cases rt (getB s.2.2 id).1 <;> rfl
end Go.DI.S

/-! What Forth comes to. -/
set_option linter.unusedVariables false
set_option linter.unusedSimpArgs false
set_option maxRecDepth 100000
namespace Go.DI.S
open Go.Proofs
abbrev MS := List (Int × Str)
def putS (m : MS) (d : Delta) : MS := tput (.int .i64) .str d.1 d.2.2 m
noncomputable def stepS (l : List Thing) (m : MS) (d : Delta) : Option MS := bif !(bytesO l d.1 == d.2.1) then none else some (putS m d)
theorem fold_S (l : List Thing) : ∀ (L : List Delta) (m : MS), foldO (stepS l) L m = bif L.all (fun d => bytesO l d.1 == d.2.1) then some (L.foldl putS m) else none
  | [], m => rfl
  | d :: L, m => by
    simp only [foldO, stepS, List.foldl_cons, List.all_cons]
    generalize (bytesO l d.1 == d.2.1) = c
    cases c with
    | false => rfl
    | true => exact fold_S l L _
theorem has_putS : ∀ (L : List Delta) (m : MS) (n : Int), (tget (.int .i64) .str n (L.foldl putS m)).isSome = (L.any (fun d => d.1 == n) || (tget (.int .i64) .str n m).isSome)
  | [], m, n => rfl
  | d :: L, m, n => by
    rw [List.foldl_cons, has_putS L, List.any_cons]
    unfold putS
    rw [tget_put]
    by_cases h : n = d.1
    · rw [if_pos h, beq_iff_eq.2 h.symm]
      simp
    · rw [if_neg h, beq_false_of_ne (fun k => h k.symm)]
      simp
def inD (L : List Delta) (n : Int) : Bool := L.any (fun d => d.1 == n)
def keptL (l : List Thing) (L : List Delta) : List Thing := l.filter fun t => !inD L (nid t)
noncomputable def newL (L : List Delta) : List Thing := L.filterMap fun d => getO d.2.2
noncomputable def outL (l : List Thing) (L : List Delta) : List Thing := sortT (keptL l L ++ newL L)
section
variable {s : Scene} {e : Entry}
theorem q_68_7 (s : Scene) (e : Entry) (z : Scene) (hs : Small s.2.2) (h2 : ∀ t ∈ s.2.2, t.2.2.2.2.length ≤ 1000000) (hl : e.1.length ≤ 1000000) :
    R_68_7 (((), (), (), (), e.1, ((e.1.length : Nat) : Int), (0 : Int), ()), (s, ()), (e, ()), (z, ()), [], ()) = some (if e.1.all (fun d => bytesO s.2.2 d.1 == d.2.1) then .inl (((), (), (), (), ()), (s, ()), (e, ()), (z, ()), e.1.foldl putS [], ()) else .inr (((), (14 : Int), ()), (noScene, ()), ())) := by
  have h := fold_loop (G := fun x => G_68_7 x.1.2.2.2.2.1 x.1.2.2.2.2.2.1 x.1.2.2.2.2.2.2.1 x.2.1 x.2.2.1 x.2.2.2.1 x.2.2.2.2.1) (m := fuel) e.1 (stepS s.2.2) (fun k m => (((), (), (), (), e.1, (e.1.length : Int), (k : Int), ()), (s, ()), (e, ()), (z, ()), m, ())) (.inr (((), (14 : Int), ()), (noScene, ()), ())) (fun m => .inl (((), (), (), (), ()), (s, ()), (e, ()), (z, ()), m, ()))
    (fun k d m hd => ?_) (fun m => ?_) (fuel_lt (by omega)) []
  · refine Eq.trans h ?_
    rw [fold_S]
    congr 1
    cases e.1.all (fun d => bytesO s.2.2 d.1 == d.2.1) <;> rfl
  · have hk := len_of hd
    show G_68_7 e.1 (e.1.length : Int) (k : Int) (s, ()) (e, ()) (z, ()) m = _
    simp only [G_68_7, dec_lt hk, dec_in hk, cond_true, getD_of hd, wrap_up hk (by omega), v_110 s _ hs h2, Option.bind_some]
    unfold stepS
    cases (bytesO s.2.2 d.1 == d.2.1) <;> rfl
  · show G_68_7 e.1 (e.1.length : Int) (e.1.length : Int) (s, ()) (e, ()) (z, ()) m = _
    simp only [G_68_7, dec_end, cond_false]
theorem kept_snoc (l : List Thing) (L : List Delta) (t : Thing) : keptL (l ++ [t]) L = if inD L (nid t) then keptL l L else keptL l L ++ [t] := by
  unfold keptL
  rw [List.filter_append]
  cases h : inD L (nid t) with
  | true => simp [h]
  | false => simp [h]
theorem q_68_17 (l : List Thing) (e : Entry) (z : Scene) (g : Vec) (nx : Int) (L : List Delta) (hs : Small l) (h2 : ∀ t ∈ l, t.2.2.2.2.length ≤ 1000000) (hl : l.length ≤ 1000000) :
    R_68_17 (((), (), (), (), l, ((l.length : Nat) : Int), (0 : Int), ()), (e, ()), (z, ()), L.foldl putS [], (g, nx, (), ()), [], ()) = some (.inl (((), (), (), ()), (e, ()), (z, ()), (g, nx, (), ()), keptL l L, ())) := by
  have h := rounds_to (G := fun x => G_68_17 x.1.2.2.2.2.1 x.1.2.2.2.2.2.1 x.1.2.2.2.2.2.2.1 x.2.1 x.2.2.1 x.2.2.2.1 x.2.2.2.2.1 x.2.2.2.2.2.1) (n := l.length)
    (inv := fun k => (((), (), (), (), l, (l.length : Int), (k : Int), ()), (e, ()), (z, ()), L.foldl putS [], (g, nx, (), ()), keptL (l.take k) L, ())) (y := .inl (((), (), (), ()), (e, ()), (z, ()), (g, nx, (), ()), keptL (l.take l.length) L, ())) (fun k hk => ?_) ?_ l.length 0 fuel (by omega) (fuel_lt hs.1)
  · rw [List.take_length] at h
    exact h
  · have ha := List.getElem?_eq_getElem hk
    have hm := List.getElem_mem hk
    have hin : (tget (.int .i64) .str (nid l[k]) (L.foldl putS [])).isSome = inD L (nid l[k]) := by
      rw [has_putS]
      exact Bool.or_false _
    have hlen : (keptL (l.take k) L).length ≤ k := Nat.le_trans (List.length_filter_le _ _) (by rw [List.length_take]; omega)
    have h46 : F_46 l[k].2.2.2.2 = some ((l[k].2.2.2.2, ()) : Els [.list I]) := v_46 _ (hs.2 _ hm)
    show G_68_17 l (l.length : Int) (k : Int) (e, ()) (z, ()) (L.foldl putS []) (g, nx, (), ()) (keptL (l.take k) L) = _
    rw [List.take_succ_eq_append_getElem hk, kept_snoc]
    simp only [G_68_17, dec_lt hk, dec_in hk, cond_true, getD_of ha, wrap_up hk (by omega), h46, Option.bind_some]
    show (bif !(tget (.int .i64) .str (nid l[k]) (L.foldl putS [])).isSome then _ else _) = _
    rw [hin]
    cases inD L (nid l[k]) with
    | true => rfl
    | false =>
      simp only [Bool.not_false, cond_true, Bool.false_eq_true, if_false]
      exact yesV (Nat.ble_eq_true_of_le (by simp only [List.length_cons, List.length_nil]; omega)) rfl
  · show G_68_17 l (l.length : Int) (l.length : Int) (e, ()) (z, ()) (L.foldl putS []) (g, nx, (), ()) _ = _
    simp only [G_68_17, dec_end, cond_false]
theorem new_snoc (L : List Delta) (d : Delta) : newL (L ++ [d]) = match getO d.2.2 with | some t => newL L ++ [t] | none => newL L := by
  unfold newL
  rw [List.filterMap_append]
  cases h : getO d.2.2 with
  | some t => simp [h]
  | none => simp [h]
theorem new_len (L : List Delta) : (newL L).length ≤ L.length := List.length_filterMap_le _ _
theorem q_68_25 (z : Scene) (g : Vec) (nx : Int) (L : List Delta) (row : List Thing) (hl : L.length ≤ 1000000) (hr : row.length ≤ 1000000) :
    R_68_25 (((), (), L, ((L.length : Nat) : Int), (0 : Int), ()), (z, ()), (g, nx, (), ()), row, ()) = some (.inl (((), (), ()), (z, ()), (g, nx, (), ()), row ++ newL L, ())) := by
  have h := rounds_to (G := fun x => G_68_25 x.1.2.2.1 x.1.2.2.2.1 x.1.2.2.2.2.1 x.2.1 x.2.2.1 x.2.2.2.1) (n := L.length)
    (inv := fun k => (((), (), L, (L.length : Int), (k : Int), ()), (z, ()), (g, nx, (), ()), row ++ newL (L.take k), ())) (y := .inl (((), (), ()), (z, ()), (g, nx, (), ()), row ++ newL (L.take L.length), ())) (fun k hk => ?_) ?_ L.length 0 fuel (by omega) (fuel_lt (by omega))
  · rw [List.take_length] at h
    have h0 : row ++ newL (L.take 0) = row := by simp [newL]
    rw [h0] at h
    exact h
  · have ha := List.getElem?_eq_getElem hk
    have hlen : (newL (L.take k)).length ≤ k := Nat.le_trans (new_len _) (by rw [List.length_take]; omega)
    show G_68_25 L (L.length : Int) (k : Int) (z, ()) (g, nx, (), ()) (row ++ newL (L.take k)) = _
    rw [List.take_succ_eq_append_getElem hk, new_snoc]
    simp only [G_68_25, dec_lt hk, dec_in hk, cond_true, getD_of ha, wrap_up hk (by omega)]
    refine bind_ofV (v_63o _) ?_
    cases getO L[k].2.2 with
    | none => rfl
    | some t =>
      simp only [cond_true]
      refine yesV (Nat.ble_eq_true_of_le (by simp only [List.length_append, List.length_cons, List.length_nil]; omega)) ?_
      rw [List.append_assoc]
  · show G_68_25 L (L.length : Int) (L.length : Int) (z, ()) (g, nx, (), ()) _ = _
    simp only [G_68_25, dec_end, cond_false]
/-! ### the numbers of what comes out -/
theorem DL_lt : ∀ {L : List Delta} {a : Int}, DL a L → ∀ d ∈ L, a < d.1 ∧ 1 ≤ d.1 ∧ d.1 ≤ 1000000 ∧ d.2.1 ≠ d.2.2 ∧ sideB d.1 d.2.1 = true ∧ sideB d.1 d.2.2 = true
  | [], a, _, d, hd => by simp at hd
  | x :: L, a, h, d, hd => by
    rcases List.mem_cons.1 hd with rfl | hd
    · exact ⟨h.1, h.2.1, h.2.2.1, h.2.2.2.1, h.2.2.2.2.1, h.2.2.2.2.2.1⟩
    · have := DL_lt h.2.2.2.2.2.2 d hd
      have h1 := h.1
      exact ⟨Int.lt_trans h1 this.1, this.2⟩
theorem DL_pair : ∀ {L : List Delta} {a : Int}, DL a L → (L.map (fun d => d.1)).Pairwise (· < ·)
  | [], a, _ => .nil
  | x :: L, a, h => by
    rw [List.map_cons, List.pairwise_cons]
    refine ⟨fun n hn => ?_, DL_pair h.2.2.2.2.2.2⟩
    obtain ⟨d, hd, rfl⟩ := List.mem_map.1 hn
    exact (DL_lt h.2.2.2.2.2.2 d hd).1
theorem side_got {id : Int} {b : Str} {t : Thing} (h : sideB id b = true) (hg : getO b = some t) : nid t = id := by
  unfold sideB at h
  rw [Bool.or_eq_true] at h
  rcases h with h | h
  · have : b = [] := by simpa using h
    subst this
    rw [getO_nil] at hg; cases hg
  · rw [hg] at h
    exact beq_iff_eq.1 h
theorem side_none {id : Int} {b : Str} (h : sideB id b = true) (hg : getO b = none) : b = [] := by
  unfold sideB at h
  rw [Bool.or_eq_true] at h
  rcases h with h | h
  · simpa using h
  · rw [hg] at h; cases h
theorem new_ids : ∀ {L : List Delta} {a : Int}, DL a L → ((newL L).map nid).Sublist (L.map (fun d => d.1))
  | [], a, _ => List.Sublist.refl _
  | d :: L, a, h => by
    have ih := new_ids h.2.2.2.2.2.2
    unfold newL at ih ⊢
    rw [List.filterMap_cons]
    cases hg : getO d.2.2 with
    | none =>
      rw [List.map_cons]
      exact ih.trans (List.sublist_cons_self _ _)
    | some t =>
      rw [List.map_cons, List.map_cons, side_got h.2.2.2.2.2.1 hg]
      exact ih.cons_cons _
theorem mem_new {L : List Delta} {t : Thing} : t ∈ newL L ↔ ∃ d ∈ L, getO d.2.2 = some t := by
  unfold newL
  rw [List.mem_filterMap]
theorem mem_kept {l : List Thing} {L : List Delta} {t : Thing} : t ∈ keptL l L ↔ t ∈ l ∧ inD L (nid t) = false := by
  unfold keptL
  rw [List.mem_filter, Bool.not_eq_true']
theorem inD_iff {L : List Delta} {n : Int} : inD L n = true ↔ ∃ d ∈ L, d.1 = n := by
  unfold inD
  rw [List.any_eq_true]
  exact ⟨fun ⟨d, h, k⟩ => ⟨d, h, beq_iff_eq.1 k⟩, fun ⟨d, h, k⟩ => ⟨d, h, beq_iff_eq.2 k⟩⟩
theorem distB_of : ∀ {l : List Int}, (∀ n ∈ l, 1 ≤ n ∧ n ≤ 1000000) → l.Nodup → distB l = true
  | [], _, _ => rfl
  | a :: l, h, hd => by
    obtain ⟨d1, d2⟩ := List.nodup_cons.1 hd
    have ha := h a List.mem_cons_self
    unfold distB
    rw [decide_eq_true ha.1, decide_eq_true ha.2, distB_of (fun n hn => h n (List.mem_cons_of_mem _ hn)) d2]
    have : l.contains a = false := by
      cases hc : l.contains a with
      | false => rfl
      | true => exact absurd (by simpa using hc) d1
    rw [this]; rfl
theorem lt_nodup {l : List Int} (h : l.Pairwise (· < ·)) : l.Nodup := by
  rw [List.nodup_iff_pairwise_ne]
  exact h.imp fun h => by omega
theorem asc_nd {l : List Thing} (h : Asc l) : (l.map nid).Nodup := by
  rw [List.nodup_iff_pairwise_ne, List.pairwise_map, List.pairwise_iff_getElem]
  intro i j hi hj hij e
  have := h i j _ _ hij (List.getElem?_eq_getElem hi) (List.getElem?_eq_getElem hj)
  omega
theorem out_ids {l : List Thing} {L : List Delta} (ha : Asc l) (hl : ∀ t ∈ l, 0 < nid t ∧ nid t ≤ 1000000) (hL : DL 0 L) : (∀ n ∈ (keptL l L ++ newL L).map nid, 1 ≤ n ∧ n ≤ 1000000) ∧ ((keptL l L ++ newL L).map nid).Nodup := by
  refine ⟨fun n hn => ?_, ?_⟩
  · obtain ⟨t, ht, rfl⟩ := List.mem_map.1 hn
    rcases List.mem_append.1 ht with ht | ht
    · have := hl t (mem_kept.1 ht).1
      omega
    · have : nid t ∈ L.map (fun d => d.1) := (new_ids hL).subset (List.mem_map.2 ⟨t, ht, rfl⟩)
      obtain ⟨d, hd, e⟩ := List.mem_map.1 this
      have := DL_lt hL d hd
      rw [← e]
      exact ⟨this.2.1, this.2.2.1⟩
  · rw [List.map_append, List.nodup_append]
    refine ⟨(asc_nd ha).sublist (List.Sublist.map nid List.filter_sublist), (lt_nodup (DL_pair hL)).sublist (new_ids hL), fun a ha' b hb e => ?_⟩
    subst e
    obtain ⟨t, ht, e⟩ := List.mem_map.1 ha'
    have h1 := (mem_kept.1 ht).2
    have h2 := (new_ids hL).subset hb
    obtain ⟨d, hd, e2⟩ := List.mem_map.1 h2
    rw [inD_iff.2 ⟨d, hd, by rw [e2, e]⟩] at h1
    cases h1
/-- Does a step fit a scene? -/
structure FitS (s : Scene) (e : Entry) : Prop where
  next : s.2.1 = e.2.2.2.2.1
  grav : e.2.1 = true → s.1 = e.2.2.1
  all : ∀ d ∈ e.1, bytesO s.2.2 d.1 = d.2.1
noncomputable def outS (s : Scene) (e : Entry) : Scene := (bif e.2.1 then e.2.2.2.1 else s.1, e.2.2.2.2.2, outL s.2.2 e.1)
/-- Scenes small enough for what is written of them. -/
structure Lil (l : List Thing) : Prop where
  sm : Small l
  ins : ∀ t ∈ l, t.2.2.2.2.length ≤ 1000000
theorem outL_lil {l : List Thing} {L : List Delta} (h : Lil l) (hl : l.length ≤ 1000000) (hL : L.length ≤ 1000000) : Lil (outL l L) := by
  have hin : ∀ t ∈ outL l L, t.2.2.2.2.length ≤ 1000000 := by
    intro t ht
    rcases List.mem_append.1 ((sortT_perm _).mem_iff.1 ht) with ht | ht
    · exact h.ins t (mem_kept.1 ht).1
    · obtain ⟨d, _, hg⟩ := mem_new.1 ht
      have := (getO_some hg).2.2
      omega
  refine ⟨⟨?_, fun t ht => by have := hin t ht; omega⟩, hin⟩
  unfold outL
  rw [sortT_len, List.length_append]
  have h1 : (keptL l L).length ≤ l.length := List.length_filter_le _ _
  have h2 := new_len L
  omega
theorem ids_of {s : Scene} (h : Rt s) : ∀ t ∈ s.2.2, 0 < nid t ∧ nid t ≤ 1000000 := by
  intro t ht
  obtain ⟨h1, h2, _⟩ := h.low t ht
  have h3 := h.next.2
  have key : ∀ a b : Int, a < b → b ≤ 1000001 → a ≤ 1000000 := fun a b h k => by omega
  exact ⟨h1, key _ _ h2 h3⟩
/-- What Forth comes to. -/
theorem v_68 (s : Scene) (e : Entry) (hs : Lil s.2.2) (he : e.1.length ≤ 1000000) :
    (rightB s = false → F_68 s e = some ((noScene, 9, ()) : Els [tScene, I])) ∧
    (rightB s = true → rightE e = false → F_68 s e = some ((noScene, 9, ()) : Els [tScene, I])) ∧
    (rightB s = true → rightE e = true → ¬ FitS s e → F_68 s e = some ((noScene, 14, ()) : Els [tScene, I])) ∧
    (rightB s = true → rightE e = true → FitS s e → F_68 s e = some ((if rightB (outS s e) then (outS s e, 0, ()) else (noScene, 5, ())) : Els [tScene, I])) := by
  have e20 := v_20 s hs.sm
  have e64 := v_64 e (by omega)
  refine ⟨fun hr => ?_, fun hr hE => ?_, fun hr hE hF => ?_, fun hr hE hF => ?_⟩
  · rw [hr] at e20
    unfold F_68
    exact bind_ofV e20 (yesV rfl rfl)
  · rw [hr] at e20
    rw [hE] at e64
    unfold F_68
    exact bind_ofV e20 (noV rfl (bind_ofV e64 (yesV rfl rfl)))
  · rw [hr] at e20
    rw [hE] at e64
    have e7 := q_68_7 s e noScene hs.sm hs.ins he
    unfold F_68
    refine bind_ofV e20 (noV rfl (bind_ofV e64 (noV rfl ?_)))
    by_cases hn : s.2.1 = e.2.2.2.2.1
    · refine noV (by rw [hn]; simp) ?_
      cases ht : e.2.1 with
      | true =>
        simp only [cond_true]
        by_cases hg : s.1 = e.2.2.1
        · have hv : eqV s.1 e.2.2.1 = true := eqV_iff.2 hg
          have hall : e.1.all (fun d => bytesO s.2.2 d.1 == d.2.1) = false := by
            cases ha : e.1.all (fun d => bytesO s.2.2 d.1 == d.2.1) with
            | false => rfl
            | true => exact absurd ⟨hn, fun _ => hg, fun d hd => beq_iff_eq.1 (List.all_eq_true.1 ha d hd)⟩ hF
          rw [hall] at e7
          refine noV (by show (!eqV s.1 e.2.2.1) = false; rw [hv]; rfl) (bind_ofV e7 rfl)
        · have hv : eqV s.1 e.2.2.1 = false := by
            cases h : eqV s.1 e.2.2.1 with
            | false => rfl
            | true => exact absurd (eqV_iff.1 h) hg
          exact yesV (by show (!eqV s.1 e.2.2.1) = true; rw [hv]; rfl) rfl
      | false =>
        simp only [cond_false]
        have hall : e.1.all (fun d => bytesO s.2.2 d.1 == d.2.1) = false := by
          cases ha : e.1.all (fun d => bytesO s.2.2 d.1 == d.2.1) with
          | false => rfl
          | true => exact absurd ⟨hn, fun k => (by rw [ht] at k; cases k), fun d hd => beq_iff_eq.1 (List.all_eq_true.1 ha d hd)⟩ hF
        rw [hall] at e7
        exact bind_ofV e7 rfl
    · exact yesV (by simpa using hn) rfl
  · have hR := right_of hr
    have hE' := rightE_iff.1 hE
    rw [hr] at e20
    rw [hE] at e64
    have e7 := q_68_7 s e noScene hs.sm hs.ins he
    have hall : e.1.all (fun d => bytesO s.2.2 d.1 == d.2.1) = true := List.all_eq_true.2 fun d hd => beq_iff_eq.2 (hF.all d hd)
    rw [hall] at e7
    have h40 := hR.len
    have hl40 := hE'.len
    have hids := out_ids hR.asc (ids_of hR) hE'.dl
    have e111 : F_111 () (keptL s.2.2 e.1 ++ newL e.1) = some ((), outL s.2.2 e.1, ()) := by
      unfold F_111
      have hk : (keptL s.2.2 e.1).length ≤ s.2.2.length := List.length_filter_le _ _
      have hn := new_len e.1
      rw [distB_of hids.1 hids.2, show Nat.ble (keptL s.2.2 e.1 ++ newL e.1).length 1000000 = true from Nat.ble_eq_true_of_le (by rw [List.length_append]; omega)]
      rfl
    have hlil := outL_lil (L := e.1) hs (by omega) (by omega)
    have tail : ∀ g : Vec, g = (bif e.2.1 then e.2.2.2.1 else s.1) →
        ((R_68_17 (((), (), (), (), s.2.2, ((s.2.2.length : Nat) : Int), (0 : Int), ()), (e, ()), (noScene, ()), e.1.foldl putS [], (g, e.2.2.2.2.2, (), ()), [], ())).bind fun v7 =>
          Sum.elim (fun v8 => (R_68_25 (((), (), v8.2.1.1.1, ((v8.2.1.1.1.length : Nat) : Int), (0 : Int), ()), (v8.2.2.1.1, ()), (v8.2.2.2.1.1, v8.2.2.2.1.2.1, (), ()), v8.2.2.2.2.1, ())).bind fun v9 =>
            Sum.elim (fun v10 => (F_111 () v10.2.2.2.1).bind fun v12 => (F_20 (v10.2.2.1.1, v10.2.2.1.2.1, v12.2.1)).bind fun v16 => bif !v16.1 then some ((noScene, (5 : Int), ()) : Els [tScene, I]) else some ((v10.2.2.1.1, v10.2.2.1.2.1, v12.2.1), (0 : Int), ()))
              (fun v19 => none) v9) (fun v20 => none) v7) = some ((if rightB (outS s e) then (outS s e, 0, ()) else (noScene, 5, ())) : Els [tScene, I]) := by
      intro g hg
      have e17 := q_68_17 s.2.2 e noScene g e.2.2.2.2.2 e.1 hs.sm hs.ins (by omega)
      have e25 := q_68_25 noScene g e.2.2.2.2.2 e.1 (keptL s.2.2 e.1) (by omega) (by have : (keptL s.2.2 e.1).length ≤ s.2.2.length := List.length_filter_le _ _; omega)
      have eo : (g, e.2.2.2.2.2, outL s.2.2 e.1) = outS s e := by rw [hg]; rfl
      have e20' := v_20 (outS s e) hlil.sm
      refine bind_ofV e17 (bind_ofV e25 (bind_ofV e111 ?_))
      show (F_20 (g, e.2.2.2.2.2, outL s.2.2 e.1)).bind (fun v16 => bif !v16.1 then some ((noScene, (5 : Int), ()) : Els [tScene, I]) else some ((g, e.2.2.2.2.2, outL s.2.2 e.1), (0 : Int), ())) = _
      rw [eo]
      refine bind_ofV e20' ?_
      cases rightB (outS s e) <;> rfl
    unfold F_68
    refine bind_ofV e20 (noV rfl (bind_ofV e64 (noV rfl (noV (by rw [hF.next]; simp) ?_))))
    cases ht : e.2.1 with
    | true =>
      simp only [cond_true]
      have hv : eqV s.1 e.2.2.1 = true := eqV_iff.2 (hF.grav ht)
      refine noV (by show (!eqV s.1 e.2.2.1) = false; rw [hv]; rfl) (bind_ofV e7 (yesV ht ?_))
      exact tail e.2.2.2.1 (by rw [ht]; rfl)
    | false =>
      simp only [cond_false]
      refine bind_ofV e7 (noV ht ?_)
      exact tail s.1 (by rw [ht]; rfl)
end
end Go.DI.S

/-! A step between two scenes: done it makes the one of the other, undone the other of the one. -/
set_option linter.unusedVariables false
set_option linter.unusedSimpArgs false
set_option maxRecDepth 100000
namespace Go.DI.S
open Go.Proofs
/-- Things that are read as they were written. -/
def Rdb (l : List Thing) : Prop := ∀ t ∈ l, getO (toS (putI t)) = some t
/-- What a step is between two scenes. -/
structure Ln (a b : Scene) (e : Entry) : Prop where
  nb : e.2.2.2.2.1 = a.2.1
  na : e.2.2.2.2.2 = b.2.1
  turned : e.2.1 = true → e.2.2.1 = a.1 ∧ e.2.2.2.1 = b.1
  not : e.2.1 = false → a.1 = b.1
  before : ∀ d ∈ e.1, d.2.1 = bytesO a.2.2 d.1
  after : ∀ d ∈ e.1, d.2.2 = bytesO b.2.2 d.1
  else_ : ∀ n, inD e.1 n = false → bytesO a.2.2 n = bytesO b.2.2 n
theorem inD_turn (e : Entry) (n : Int) : inD (turnE e).1 n = inD e.1 n := by
  show (e.1.map swapD).any (fun d => d.1 == n) = _
  rw [List.any_map]; rfl
theorem Ln.turn {a b : Scene} {e : Entry} (h : Ln a b e) : Ln b a (turnE e) := by
  refine ⟨h.na, h.nb, fun k => ⟨(h.turned k).2, (h.turned k).1⟩, fun k => (h.not k).symm, fun d hd => ?_, fun d hd => ?_, fun n hn => ?_⟩
  · obtain ⟨x, hx, rfl⟩ := List.mem_map.1 (show d ∈ e.1.map swapD from hd)
    exact h.after x hx
  · obtain ⟨x, hx, rfl⟩ := List.mem_map.1 (show d ∈ e.1.map swapD from hd)
    exact h.before x hx
  · rw [inD_turn] at hn
    exact (h.else_ n hn).symm
theorem Ln.fits {a b : Scene} {e : Entry} (h : Ln a b e) : FitS a e := ⟨h.nb.symm, fun k => (h.turned k).1.symm, fun d hd => (h.before d hd).symm⟩
section
variable {s : Scene}
theorem bytes_in (h : Rt s) {t : Thing} (ht : t ∈ s.2.2) : bytesO s.2.2 (nid t) = toS (putI t) := by
  unfold bytesO
  rw [h.asc.getB ht]
  show (bif rt t then toS (putI t) else []) = _
  rw [(h.low t ht).2.2]; rfl
theorem bytes_no {n : Int} (h : ¬ Is s.2.2 n) : bytesO s.2.2 n = [] := by
  unfold bytesO
  rw [getB_none h]; rfl
theorem bytes_is (h : Rt s) {n : Int} (hn : bytesO s.2.2 n ≠ []) : ∃ t ∈ s.2.2, nid t = n ∧ bytesO s.2.2 n = toS (putI t) := by
  by_cases hi : Is s.2.2 n
  · obtain ⟨t, ht, rfl⟩ := hi
    exact ⟨t, ht, rfl, bytes_in h ht⟩
  · exact absurd (bytes_no hi) hn
end
theorem asc_le {l : List Thing} (h : Asc l) : l.Pairwise (fun x y => nid x ≤ nid y) := by
  rw [List.pairwise_iff_getElem]
  intro i j hi hj hij
  have := h i j _ _ hij (List.getElem?_eq_getElem hi) (List.getElem?_eq_getElem hj)
  omega
theorem nd_of_map {l : List Thing} (h : (l.map nid).Nodup) : l.Nodup := by
  rw [List.nodup_iff_pairwise_ne] at h ⊢
  rw [List.pairwise_map] at h
  exact h.imp fun h k => h (by rw [k])
/-- A step between two scenes, done to the one, makes the other. -/
theorem Ln.out {a b : Scene} {e : Entry} (h : Ln a b e) (ha : Rt a) (hb : Rt b) (ra : Rdb a.2.2) (rb : Rdb b.2.2) (hL : DL 0 e.1) : outS a e = b := by
  have hm : ∀ t, t ∈ keptL a.2.2 e.1 ++ newL e.1 ↔ t ∈ b.2.2 := by
    intro t
    rw [List.mem_append, mem_kept, mem_new]
    constructor
    · rintro (⟨h1, h2⟩ | ⟨d, hd, hg⟩)
      · have e1 := h.else_ _ h2
        rw [bytes_in ha h1] at e1
        obtain ⟨u, hu, hn, e2⟩ := bytes_is hb (n := nid t) (by rw [← e1]; exact putI_ne t)
        rw [e2] at e1
        have g1 := ra t h1
        rw [e1, rb u hu] at g1
        injection g1 with g1
        rw [← g1]; exact hu
      · have e1 := h.after d hd
        obtain ⟨u, hu, hn, e2⟩ := bytes_is hb (n := d.1) (by
          rw [← e1]
          intro k
          rw [k, getO_nil] at hg; cases hg)
        rw [e1, e2, rb u hu] at hg
        injection hg with hg
        rw [← hg]; exact hu
    · intro ht
      have e1 := bytes_in hb ht
      cases hi : inD e.1 (nid t) with
      | true =>
        right
        obtain ⟨d, hd, hn⟩ := inD_iff.1 hi
        refine ⟨d, hd, ?_⟩
        rw [h.after d hd, hn, e1, rb t ht]
      | false =>
        left
        have e2 := h.else_ _ hi
        rw [e1] at e2
        obtain ⟨u, hu, hn, e3⟩ := bytes_is ha (n := nid t) (by rw [e2]; exact putI_ne t)
        rw [e3] at e2
        have g1 := ra u hu
        rw [e2, rb t ht] at g1
        injection g1 with g1
        subst g1
        exact ⟨hu, rfl⟩
  have hnd : (keptL a.2.2 e.1 ++ newL e.1).Nodup := nd_of_map (out_ids ha.asc (ids_of ha) hL).2
  have hp : b.2.2.Perm (keptL a.2.2 e.1 ++ newL e.1) := (List.perm_ext_iff_of_nodup (nd_of_map (asc_nd hb.asc)) hnd).2 fun t => (hm t).symm
  have ho : outL a.2.2 e.1 = b.2.2 := (sortT_of (out_ids ha.asc (ids_of ha) hL).2 hp (asc_le hb.asc)).symm
  obtain ⟨bg, bn, bl⟩ := b
  show ((bif e.2.1 then e.2.2.2.1 else a.1, e.2.2.2.2.2, outL a.2.2 e.1) : Scene) = (bg, bn, bl)
  have ho : outL a.2.2 e.1 = bl := ho
  have hn : e.2.2.2.2.2 = bn := h.na
  have hg : (bif e.2.1 then e.2.2.2.1 else a.1) = bg := by
    cases ht : e.2.1 with
    | true => exact (h.turned ht).2
    | false => exact h.not ht
  rw [ho, hn, hg]
/-- A step that fits a scene is one between it and what comes of it. -/
theorem link_of {s : Scene} {e : Entry} (hs : Rt s) (hE : RE e) (hF : FitS s e) (ho : Rt (outS s e)) : Ln s (outS s e) e := by
  have mem : ∀ t, t ∈ (outS s e).2.2 ↔ t ∈ keptL s.2.2 e.1 ∨ t ∈ newL e.1 := by
    intro t
    show t ∈ outL s.2.2 e.1 ↔ _
    unfold outL
    rw [(sortT_perm _).mem_iff, List.mem_append]
  have newid : ∀ t ∈ newL e.1, ∃ d ∈ e.1, d.1 = nid t ∧ getO d.2.2 = some t := by
    intro t ht
    obtain ⟨d, hd, hg⟩ := mem_new.1 ht
    exact ⟨d, hd, (side_got (DL_lt hE.dl d hd).2.2.2.2.2 hg).symm, hg⟩
  refine ⟨hF.next.symm, rfl, fun k => ⟨(hF.grav k).symm, ?_⟩, fun k => ?_, fun d hd => (hF.all d hd).symm, fun d hd => ?_, fun n hn => ?_⟩
  · show e.2.2.2.1 = (bif e.2.1 then e.2.2.2.1 else s.1)
    rw [k]; rfl
  · show s.1 = (bif e.2.1 then e.2.2.2.1 else s.1)
    rw [k]; rfl
  · cases hg : getO d.2.2 with
    | some t =>
      have hn : nid t = d.1 := side_got (DL_lt hE.dl d hd).2.2.2.2.2 hg
      have hm : t ∈ (outS s e).2.2 := (mem t).2 (.inr (mem_new.2 ⟨d, hd, hg⟩))
      rw [← hn, bytes_in ho hm, (getO_some hg).2.1]
    | none =>
      have h0 := side_none (DL_lt hE.dl d hd).2.2.2.2.2 hg
      rw [h0, bytes_no]
      rintro ⟨t, ht, hn⟩
      rcases (mem t).1 ht with h1 | h1
      · have := (mem_kept.1 h1).2
        rw [hn, inD_iff.2 ⟨d, hd, rfl⟩] at this
        cases this
      · obtain ⟨x, hx, h2, h3⟩ := newid t h1
        have : x = d := by
          obtain ⟨i, hi, rfl⟩ := List.getElem_of_mem hx
          obtain ⟨j, hj, rfl⟩ := List.getElem_of_mem hd
          have hp := DL_pair hE.dl
          rw [List.pairwise_map, List.pairwise_iff_getElem] at hp
          rcases Nat.lt_trichotomy i j with h4 | h4 | h4
          · have := hp i j hi hj h4
            rw [h2, hn] at this
            exact absurd this (Int.lt_irrefl _)
          · subst h4; rfl
          · have := hp j i hj hi h4
            rw [h2, hn] at this
            exact absurd this (Int.lt_irrefl _)
        rw [this, hg] at h3; cases h3
  · by_cases hi : Is s.2.2 n
    · obtain ⟨t, ht, rfl⟩ := hi
      have hm : t ∈ (outS s e).2.2 := (mem t).2 (.inl (mem_kept.2 ⟨ht, hn⟩))
      rw [bytes_in hs ht, bytes_in ho hm]
    · rw [bytes_no hi, bytes_no]
      rintro ⟨t, ht, he⟩
      rcases (mem t).1 ht with h1 | h1
      · exact hi ⟨t, (mem_kept.1 h1).1, he⟩
      · obtain ⟨x, hx, h2, _⟩ := newid t h1
        rw [inD_iff.2 ⟨x, hx, h2.trans he⟩] at hn
        cases hn
theorem rdb_out {s : Scene} {e : Entry} (hr : Rdb s.2.2) : Rdb (outS s e).2.2 := by
  intro t ht
  have ht : t ∈ outL s.2.2 e.1 := ht
  rcases List.mem_append.1 ((sortT_perm _).mem_iff.1 ht) with h | h
  · exact hr t (mem_kept.1 h).1
  · obtain ⟨d, _, hg⟩ := mem_new.1 h
    rw [(getO_some hg).2.1, hg]
theorem rdb_of {s : Scene} (h : Rt s) (hw : ∀ t ∈ s.2.2, tThing.wf t) (hl : ∀ t ∈ s.2.2, t.2.2.2.2.length ≤ 1000000) : Rdb s.2.2 := fun t ht => getO_put t (hw t ht) (hl t ht) (h.low t ht).2.2
theorem lil_of {l : List Thing} (h : fewB l = true) : Lil l := ⟨small_of (few_small h), fun t ht => by have := (few_small h).2 t ht; omega⟩
theorem v_66 (s : Scene) (e : Entry) (he : e.1.length ≤ 1000000) {r : Scene} {n : Int} (h : F_68 s (turnE e) = some ((r, n, ()) : Els [tScene, I])) : F_66 s e = some ((r, n, ()) : Els [tScene, I]) := by
  unfold F_66
  exact bind_ofV (v_109 e he) (bind_ofV h rfl)
/-- Forth, and back. -/
theorem forth_back {s : Scene} {e : Entry} (hs : Lil s.2.2) (hr : rightB s = true) (hE : rightE e = true) (hF : FitS s e) (ho : rightB (outS s e) = true) (hd : Rdb s.2.2) : F_66 (outS s e) e = some ((s, 0, ()) : Els [tScene, I]) := by
  have hE' := rightE_iff.1 hE
  have h1 := right_of hr
  have h2 := right_of ho
  have hl := link_of h1 hE' hF h2
  have hlil : Lil (outS s e).2.2 := outL_lil hs (by have := h1.len; omega) (by have := hE'.len; omega)
  have hlen : e.1.length ≤ 1000000 := by have := hE'.len; omega
  have hout := hl.turn.out h2 h1 (rdb_out hd) hd (RE_turn hE').dl
  have h3 := (v_68 (outS s e) (turnE e) hlil (by show (e.1.map swapD).length ≤ 1000000; rw [List.length_map]; exact hlen)).2.2.2 ho (by rw [rightE_turn]; exact hE) hl.turn.fits
  rw [hout, hr, if_pos rfl] at h3
  exact v_66 _ e hlen h3
end Go.DI.S

