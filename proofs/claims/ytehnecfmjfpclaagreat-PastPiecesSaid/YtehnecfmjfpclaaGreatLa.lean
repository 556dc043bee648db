import Derived.Test.YtehnecfmjfpclaaGreatJa
/- Changes, plain. No conditions. -/
set_option linter.unusedVariables false
set_option linter.unusedSimpArgs false
set_option maxRecDepth 100000
namespace Go.DI.S
open Go.Proofs
theorem v_131g (n : Nat) (b : List UInt8) (bad : Bool) : ∃ (l b' : List UInt8) (bad' : Bool), F_131 (n : Int) (b, bad, ()) = some ((l, ()), (b', bad', ()), ()) ∧ l.length ≤ n := by
  unfold F_131
  cases bad with
  | true => exact ⟨[], b, true, rfl, Nat.zero_le _⟩
  | false =>
    simp only [cond_false]
    by_cases h : (n : Int) > ((b.length : Nat) : Int)
    · rw [decide_eq_true h]
      exact ⟨[], b, true, rfl, Nat.zero_le _⟩
    · have h2 : (0 : Int) ≤ (n : Int) ∧ (n : Int) ≤ ((b.length : Nat) : Int) := by omega
      rw [decide_eq_false h, decide_eq_true h2]
      refine ⟨_, _, _, rfl, ?_⟩
      rw [List.length_take, Int.toNat_natCast]
      omega
theorem v_104g (n : Nat) (hn : n ≤ 8) (b : List UInt8) (bad : Bool) : ∃ (v : Int) (b' : List UInt8) (bad' : Bool), F_104 (n : Int) (b, bad, ()) = some ((v, ()), (b', bad', ()), ()) ∧ (n = 1 → 0 ≤ v ∧ v ≤ 255) := by
  obtain ⟨l, b', bad', h, hl⟩ := v_131g n b bad
  unfold F_104
  simp only [h, Option.bind_some]
  rw [r_104 _ (by omega)]
  refine ⟨_, _, _, rfl, fun h1 => ?_⟩
  subst h1
  match l, hl with
  | [], _ =>
    show 0 ≤ IntKind.i64.wrap 0 ∧ IntKind.i64.wrap 0 ≤ 255
    decide
  | [c], _ =>
    show 0 ≤ IntKind.i64.wrap (byteIn 0 c) ∧ IntKind.i64.wrap (byteIn 0 c) ≤ 255
    have h2 : byteIn 0 c = c.toNat := by
      rw [byteIn_eq]
      have := c.toNat_lt
      omega
    have := c.toNat_lt
    rw [h2, wrap64 (by omega) (by omega)]
    omega
theorem v_105g (b : List UInt8) (bad : Bool) : ∃ (v : Vec) (b' : List UInt8) (bad' : Bool), F_105 (b, bad, ()) = some ((v, ()), (b', bad', ()), ()) := by
  obtain ⟨x, b1, d1, h1, _⟩ := v_104g 8 (by omega) b bad
  obtain ⟨y, b2, d2, h2, _⟩ := v_104g 8 (by omega) b1 d1
  have h1 : F_104 8 (b, bad, ()) = _ := h1
  have h2 : F_104 8 (b1, d1, ()) = _ := h2
  unfold F_105
  simp only [h1, Option.bind_some, h2]
  exact ⟨_, _, _, rfl⟩
theorem r_63g (s : List UInt8) (id kind : Int) (b : Body) (j : Joint) : ∀ (k m : Nat) (row : List Int) (r : List UInt8) (bad : Bool), k < m → k + row.length ≤ 1000 →
    ∃ (row' : List Int) (r' : List UInt8) (bad' : Bool), roundsT (fun x => G_63_18 x.1.1 x.1.2.2.2.2.1 x.2.1 x.2.2.1 x.2.2.2.1 x.2.2.2.2.1) m ((s, (), (), (), (k : Int), ()), (noThing, ()), (r, bad, ()), (id, kind, b, j, (), ()), row, ()) =
      some (.inl ((s, (), (), (), ()), (noThing, ()), (r', bad', ()), (id, kind, b, j, (), ()), row', ())) ∧ row'.length ≤ 1000
  | 0, m, row, r, bad, hm, hr => by
    obtain ⟨m, rfl⟩ : ∃ q, m = q + 1 := ⟨m - 1, by omega⟩
    exact ⟨row, r, bad, rounds_out (by simp only [G_63_18]; rfl) m, by omega⟩
  | k + 1, m, row, r, bad, hm, hr => by
    obtain ⟨m, rfl⟩ : ∃ q, m = q + 1 := ⟨m - 1, by omega⟩
    obtain ⟨v, r', bad', h, _⟩ := v_104g 4 (by omega) r bad
    have h : F_104 4 (r, bad, ()) = _ := h
    obtain ⟨row2, r2, bad2, h2, h3⟩ := r_63g s id kind b j k m (row ++ [v]) r' bad' (by omega) (by simp; omega)
    refine ⟨row2, r2, bad2, ?_, h3⟩
    rw [rounds_in (x' := ((s, (), (), (), (k : Int), ()), (noThing, ()), (r', bad', ()), (id, kind, b, j, (), ()), row ++ [v], ())) ?_ m]
    · exact h2
    · have hp : decide (((k + 1 : Nat) : Int) > 0) = true := decide_eq_true (by omega)
      have hw : IntKind.i64.wrap (((k + 1 : Nat) : Int) - 1) = (k : Int) := by rw [wrap64 (by omega) (by omega)]; omega
      simp only [G_63_18, hp, cond_true, h, Option.bind_some, hw]
      rw [show Nat.ble ((row.length + [v].length) * 8) 70368744177664 = true from Nat.ble_eq_true_of_le (by simp; omega)]
      rfl
def GotG (b : List UInt8) (o : Option (Els [tThing, .bool])) : Prop :=
  (∃ t : Thing, o = some ((t, true, ()) : Els [tThing, .bool]) ∧ rt t = true ∧ toS (putI t) = b ∧ t.2.2.2.2.length ≤ 1000) ∨ o = some ((noThing, false, ()) : Els [tThing, .bool])
theorem end_63 (a : List UInt8) (t : Thing) (bad : Bool) (hl : t.2.2.2.2.length ≤ 1000) :
    GotG a ((F_61 t).bind fun v => bif bad then some ((noThing, false, ()) : Els [tThing, .bool]) else bif !v.2.1 then some (noThing, false, ()) else bif !v.1 == a then some (noThing, false, ()) else some (t, true, ())) := by
  rw [v_61 t (by omega)]
  cases bad with
  | true => exact .inr (by cases rt t <;> rfl)
  | false =>
    cases hr : rt t with
    | false => exact .inr rfl
    | true =>
      simp only [cond_true, Option.bind_some, cond_false, Bool.not_true]
      by_cases e : toS (putI t) = a
      · left
        refine ⟨t, ?_, hr, e, hl⟩
        have : (!(toS (putI t) == a)) = false := by rw [e]; simp
        exact noV this rfl
      · right
        have : (!(toS (putI t) == a)) = true := by
          have : (toS (putI t) == a) = false := beq_false_of_ne e
          rw [this]; rfl
        exact yesV this rfl
theorem v_63g (a : List UInt8) : GotG a (F_63 a) := by
  unfold F_63
  obtain ⟨k, b1, d1, h1, _⟩ := v_104g 1 (by omega) a false
  have h1 : F_104 1 (a, false, ()) = _ := h1
  obtain ⟨id, b2, d2, h2, _⟩ := v_104g 4 (by omega) b1 d1
  have h2 : F_104 4 (b1, d1, ()) = _ := h2
  simp only [h1, Option.bind_some, h2]
  cases (k == (1 : Int)) with
  | true =>
    obtain ⟨x1, b3, d3, h3, _⟩ := v_104g 1 (by omega) b2 d2
    have h3 : F_104 1 (b2, d2, ()) = _ := h3
    obtain ⟨x2, b4, d4, h4⟩ := v_105g b3 d3
    obtain ⟨x3, b5, d5, h5, _⟩ := v_104g 8 (by omega) b4 d4
    have h5 : F_104 8 (b4, d4, ()) = _ := h5
    obtain ⟨x4, b6, d6, h6⟩ := v_105g b5 d5
    obtain ⟨x5, b7, d7, h7⟩ := v_105g b6 d6
    simp only [cond_true, h3, Option.bind_some, h4, h5, h6, h7]
    exact end_63 a (id, k, (x1, x2, x3, x4, x5), ((0 : Int), (0 : Int), (0 : Int)), []) d7 (Nat.zero_le _)
  | false =>
    simp only [cond_false]
    cases (k == (2 : Int)) with
    | true =>
      obtain ⟨x1, b3, d3, h3, _⟩ := v_104g 4 (by omega) b2 d2
      have h3 : F_104 4 (b2, d2, ()) = _ := h3
      obtain ⟨x2, b4, d4, h4, _⟩ := v_104g 4 (by omega) b3 d3
      have h4 : F_104 4 (b3, d3, ()) = _ := h4
      obtain ⟨x3, b5, d5, h5, _⟩ := v_104g 8 (by omega) b4 d4
      have h5 : F_104 8 (b4, d4, ()) = _ := h5
      simp only [cond_true, h3, Option.bind_some, h4, h5]
      exact end_63 a (id, k, noBody, (x1, x2, x3), []) d5 (Nat.zero_le _)
    | false =>
      simp only [cond_false]
      cases (k == (3 : Int)) with
      | true =>
        obtain ⟨x1, b3, d3, h3, hx⟩ := v_104g 1 (by omega) b2 d2
        have h3 : F_104 1 (b2, d2, ()) = _ := h3
        obtain ⟨c, rfl⟩ := Int.eq_ofNat_of_zero_le (hx rfl).1
        have hc := (hx rfl).2
        obtain ⟨row, r', bad', h4, h5⟩ := r_63g a id k noBody noJoint c fuel [] b3 d3 (fuel_lt (by omega)) (by simp; omega)
        simp only [cond_true, h3, Option.bind_some]
        have h4 : R_63_18 ((a, (), (), (), (c : Int), ()), (noThing, ()), (b3, d3, ()), (id, k, noBody, noJoint, (), ()), [], ()) = _ := h4
        refine Eq.mpr (congrArg (GotG a) (bind_ofV h4 rfl)) ?_
        exact end_63 a (id, k, noBody, noJoint, row) bad' h5
      | false =>
        simp only [cond_false]
        exact end_63 a (id, k, noBody, noJoint, []) d2 (Nat.zero_le _)
noncomputable def getO (b : List UInt8) : Option Thing := match F_63 b with
  | some x => bif x.2.1 then some x.1 else none
  | none => none
theorem v_63o (b : List UInt8) : F_63 b = some ((match getO b with | some t => (t, true, ()) | none => (noThing, false, ())) : Els [tThing, .bool]) := by
  rcases v_63g b with ⟨t, h, _⟩ | h
  · have : getO b = some t := by unfold getO; rw [h]; rfl
    rw [this, h]
  · have : getO b = none := by unfold getO; rw [h]; rfl
    rw [this, h]
theorem getO_some {b : List UInt8} {t : Thing} (h : getO b = some t) : rt t = true ∧ toS (putI t) = b ∧ t.2.2.2.2.length ≤ 1000 := by
  rcases v_63g b with ⟨u, h1, h2⟩ | h1
  · have : getO b = some u := by unfold getO; rw [h1]; rfl
    rw [this] at h
    injection h with h
    subst h
    exact h2
  · have : getO b = none := by unfold getO; rw [h1]; rfl
    rw [this] at h; cases h
theorem getO_put (t : Thing) (hw : tThing.wf t) (hl : t.2.2.2.2.length ≤ 1000000) (h : rt t = true) : getO (toS (putI t)) = some t := by
  unfold getO
  rw [v_63 t hw hl h]; rfl
theorem putI_ne (t : Thing) : toS (putI t) ≠ [] := by
  unfold putI
  rw [toS_app]
  intro h
  have := congrArg List.length h
  rw [List.length_append, toS_len, numI_len] at this
  simp at this
theorem getO_nil : getO [] = none := by
  cases h : getO [] with
  | none => rfl
  | some t => exact absurd (getO_some h).2.1 (putI_ne t)
end Go.DI.S
set_option linter.unusedVariables false
set_option linter.unusedSimpArgs false
set_option maxRecDepth 100000
namespace Go.DI.S
open Go.Proofs
abbrev Delta := tDelta.El
abbrev Entry := tEntry.El
abbrev Str := List UInt8
abbrev Bl1 := Option (Els [.bool])
theorem b_not {c x : Bool} {X : Bl1} (h : X = some (x, ())) : (bif c then some ((false, ()) : Els [.bool]) else X) = some (!c && x, ()) := by cases c <;> simp [h]
theorem b_neg {c x : Bool} {X : Bl1} (h : X = some (x, ())) : (bif !c then some ((false, ()) : Els [.bool]) else X) = some (c && x, ()) := by cases c <;> simp [h]
theorem b_if {c x : Bool} {X : Bl1} (h : X = some (x, ())) : (bif c then X else some ((false, ()) : Els [.bool])) = some (c && x, ()) := by cases c <;> simp [h]
theorem b_or {c x : Bool} {X : Bl1} (h : X = some (x, ())) : (bif c then some ((true, ()) : Els [.bool]) else X) = some (c || x, ()) := by cases c <;> simp [h]
noncomputable def sideB (id : Int) (b : Str) : Bool := (b == []) || (match getO b with | some t => t.1 == id | none => false)
theorem v_106 (d : Delta) (b : Str) : F_106 d b = some ((sideB d.1 b, ()) : Els [.bool]) := by
  unfold F_106 sideB
  refine bind_ofV (v_63o b) ?_
  cases getO b with
  | some t => exact b_or rfl
  | none => exact b_or rfl
noncomputable def stepE (a : Int) (d : Delta) : Option Int :=
  bif decide (d.1 ≤ a) then none else bif !(decide (d.1 ≥ 1) && decide (d.1 ≤ 1000000)) then none else bif d.2.1 == d.2.2 then none else bif !sideB d.1 d.2.1 then none else bif !sideB d.1 d.2.2 then none else some d.1
def DL : Int → List Delta → Prop
  | _, [] => True
  | a, d :: l => a < d.1 ∧ 1 ≤ d.1 ∧ d.1 ≤ 1000000 ∧ d.2.1 ≠ d.2.2 ∧ sideB d.1 d.2.1 = true ∧ sideB d.1 d.2.2 = true ∧ DL d.1 l
theorem stepE_iff (a : Int) (d : Delta) : (stepE a d = some d.1 ∧ (a < d.1 ∧ 1 ≤ d.1 ∧ d.1 ≤ 1000000 ∧ d.2.1 ≠ d.2.2 ∧ sideB d.1 d.2.1 = true ∧ sideB d.1 d.2.2 = true)) ∨
    (stepE a d = none ∧ ¬ (a < d.1 ∧ 1 ≤ d.1 ∧ d.1 ≤ 1000000 ∧ d.2.1 ≠ d.2.2 ∧ sideB d.1 d.2.1 = true ∧ sideB d.1 d.2.2 = true)) := by
  obtain ⟨(n : Int), (p : Str), (q : Str)⟩ := d
  unfold stepE
  show ((bif decide (n ≤ a) then none else bif !(decide (n ≥ 1) && decide (n ≤ 1000000)) then none else bif p == q then none else bif !sideB n p then none else bif !sideB n q then none else some n) = some n ∧ (a < n ∧ 1 ≤ n ∧ n ≤ 1000000 ∧ p ≠ q ∧ sideB n p = true ∧ sideB n q = true)) ∨
    ((bif decide (n ≤ a) then none else bif !(decide (n ≥ 1) && decide (n ≤ 1000000)) then none else bif p == q then none else bif !sideB n p then none else bif !sideB n q then none else some n) = none ∧ ¬ (a < n ∧ 1 ≤ n ∧ n ≤ 1000000 ∧ p ≠ q ∧ sideB n p = true ∧ sideB n q = true))
  by_cases h1 : n ≤ a
  · right; rw [decide_eq_true h1]; exact ⟨rfl, fun h => by omega⟩
  rw [decide_eq_false h1, cond_false]
  by_cases h2 : n ≥ 1
  · by_cases h3 : n ≤ 1000000
    · rw [decide_eq_true h2, decide_eq_true h3]
      simp only [Bool.and_self, Bool.not_true, cond_false]
      by_cases h4 : p = q
      · right; rw [beq_iff_eq.2 h4]; exact ⟨rfl, fun h => h.2.2.2.1 h4⟩
      · rw [beq_false_of_ne h4, cond_false]
        cases h5 : sideB n p with
        | false => right; exact ⟨rfl, fun h => (by cases h.2.2.2.2.1)⟩
        | true =>
          cases h6 : sideB n q with
          | false => right; exact ⟨rfl, fun h => (by cases h.2.2.2.2.2)⟩
          | true => left; exact ⟨rfl, by omega, h2, h3, h4, rfl, rfl⟩
    · right; rw [decide_eq_false h3, Bool.and_false]; exact ⟨rfl, fun h => h3 h.2.2.1⟩
  · right; rw [decide_eq_false h2, Bool.false_and]; exact ⟨rfl, fun h => h2 h.2.1⟩
theorem fold_DL : ∀ (l : List Delta) (a : Int), (foldO stepE l a).isSome = true ↔ DL a l
  | [], a => ⟨fun _ => trivial, fun _ => rfl⟩
  | d :: l, a => by
    rcases stepE_iff a d with ⟨h, k⟩ | ⟨h, k⟩
    · simp only [foldO, h, DL]
      rw [fold_DL l d.1]
      exact ⟨fun m => ⟨k.1, k.2.1, k.2.2.1, k.2.2.2.1, k.2.2.2.2.1, k.2.2.2.2.2, m⟩, fun m => m.2.2.2.2.2.2⟩
    · simp only [foldO, h, DL]
      exact ⟨fun m => (by cases m), fun m => absurd ⟨m.1, m.2.1, m.2.2.1, m.2.2.2.1, m.2.2.2.2.1, m.2.2.2.2.2.1⟩ k⟩
def eqV (a b : Vec) : Bool := a.1 == b.1 && (a.2 == b.2 && true)
theorem eqV_iff {a b : Vec} : eqV a b = true ↔ a = b := by
  obtain ⟨a1, a2⟩ := a
  obtain ⟨b1, b2⟩ := b
  unfold eqV
  simp only [Bool.and_true, Bool.and_eq_true, beq_iff_eq, Prod.mk.injEq]
structure RE (e : Entry) : Prop where
  dl : DL 0 e.1
  len : e.1.length ≤ 40
  turned : e.2.1 = true ↔ e.2.2.1 ≠ e.2.2.2.1
  from0 : e.2.1 = false → e.2.2.1 = ((0 : Int), (0 : Int))
  nb : 1 ≤ e.2.2.2.2.1 ∧ e.2.2.2.2.1 ≤ (1000001 : Int)
  na : 1 ≤ e.2.2.2.2.2 ∧ e.2.2.2.2.2 ≤ (1000001 : Int)
  nearF : nearB e.2.2.1 = true
  nearT : nearB e.2.2.2.1 = true
  some_ : e.1 ≠ [] ∨ e.2.1 = true ∨ e.2.2.2.2.1 ≠ e.2.2.2.2.2
def lowB (a b : Int) : Bool := decide ((if b < a then b else a) < (1 : Int))
def topB (a b : Int) : Bool := decide ((if b > a then b else a) > (1000001 : Int))
theorem lowB_iff {a b : Int} : lowB a b = false ↔ 1 ≤ a ∧ 1 ≤ b := by
  unfold lowB
  rw [decide_eq_false_iff_not]
  split <;> omega
theorem topB_iff {a b : Int} : topB a b = false ↔ a ≤ 1000001 ∧ b ≤ 1000001 := by
  unfold topB
  rw [decide_eq_false_iff_not]
  split <;> omega
noncomputable def chkB (e : Entry) : Bool := !lowB e.2.2.2.2.1 e.2.2.2.2.2 && (!topB e.2.2.2.2.1 e.2.2.2.2.2 && (nearB e.2.2.1 && (nearB e.2.2.2.1 && (decide (((e.1.length : Nat) : Int) > 0) || (e.2.1 || e.2.2.2.2.1 != e.2.2.2.2.2)))))
theorem chk_64 (e : Entry) : (bif lowB e.2.2.2.2.1 e.2.2.2.2.2 then some ((false, ()) : Els [.bool]) else bif topB e.2.2.2.2.1 e.2.2.2.2.2 then some (false, ()) else
    (F_99 (e.2.2.1, [], [])).bind fun v => bif v.1 then (F_99 (e.2.2.2.1, [], [])).bind fun u => bif u.1 then (bif decide (((e.1.length : Nat) : Int) > 0) then some (true, ()) else bif e.2.1 then some (true, ()) else some (e.2.2.2.2.1 != e.2.2.2.2.2, ())) else some (false, ()) else some (false, ())) = some ((chkB e, ()) : Els [.bool]) := by
  unfold chkB
  refine b_not (b_not (bind_ofV (v_99 _) (b_if (bind_ofV (v_99 _) (b_if (b_or (b_or rfl)))))))
noncomputable def tailB (e : Entry) : Bool := !decide (((e.1.length : Nat) : Int) > 40) && (!!(e.2.1 == !eqV e.2.2.1 e.2.2.2.1) && ((e.2.1 || eqV e.2.2.1 ((0 : Int), (0 : Int))) && chkB e))
noncomputable def rightE (e : Entry) : Bool := (foldO stepE e.1 0).isSome && tailB e
theorem v_64 (e : Entry) (hl : e.1.length ≤ 1000000000) : F_64 e = some ((rightE e, ()) : Els [.bool]) := by
  have h := fold_loop (G := fun x => G_64_3 x.1.2.1 x.1.2.2.1 x.1.2.2.2.1 x.1.2.2.2.2.1 x.2.1) (m := fuel) e.1 stepE (fun k a => (((), a, e.1, (e.1.length : Int), (k : Int), ()), (e, ()), ())) (.inr ((false, ()), ())) (fun a => .inl (((), ()), (e, ()), ()))
    (fun k d a hd => ?_) (fun a => ?_) (fuel_lt hl) 0
  · unfold F_64 rightE
    have h : R_64_3 (((), (0 : Int), e.1, ((e.1.length : Nat) : Int), (0 : Int), ()), (e, ()), ()) = _ := h
    refine bind_ofV h ?_
    cases foldO stepE e.1 0 with
    | none => rfl
    | some a =>
      show (bif decide (((e.1.length : Nat) : Int) > 40) then some ((false, ()) : Els [.bool]) else _) = some ((true && tailB e, ()) : Els [.bool])
      rw [Bool.true_and]
      unfold tailB
      refine b_not (b_not ?_)
      have hc := chk_64 e
      show (bif !e.2.1 then (bif !eqV e.2.2.1 ((0 : Int), (0 : Int)) then some ((false, ()) : Els [.bool]) else _) else _) = _
      cases ht : e.2.1 with
      | false =>
        rw [ht] at hc
        simp only [Bool.not_false, cond_true, Bool.false_or]
        exact b_neg hc
      | true =>
        rw [ht] at hc
        simp only [Bool.not_true, cond_false, Bool.true_or, Bool.true_and]
        exact hc
  · have hk := len_of hd
    show G_64_3 a e.1 (e.1.length : Int) (k : Int) (e, ()) = _
    simp only [G_64_3, dec_lt hk, dec_in hk, cond_true, getD_of hd, wrap_up hk (by omega), v_86, v_106, Option.bind_some]
    unfold stepE
    cases decide (d.1 ≤ a) with
    | true => rfl
    | false =>
      cases (decide (d.1 ≥ 1) && decide (d.1 ≤ 1000000)) with
      | false => rfl
      | true =>
        simp only [Bool.not_true, cond_false]
        cases (d.2.1 == d.2.2) with
        | true => rfl
        | false =>
          simp only [cond_false]
          cases sideB d.1 d.2.1 with
          | false => rfl
          | true =>
            cases sideB d.1 d.2.2 <;> rfl
  · show G_64_3 a e.1 (e.1.length : Int) (e.1.length : Int) (e, ()) = _
    simp only [G_64_3, dec_end, cond_false]
theorem rightE_iff {e : Entry} : rightE e = true ↔ RE e := by
  unfold rightE tailB chkB
  simp only [Bool.and_eq_true, Bool.not_eq_true', Bool.not_not, Bool.or_eq_true, decide_eq_false_iff_not, decide_eq_true_iff, eqV_iff, lowB_iff, topB_iff, bne_iff_ne, beq_iff_eq]
  constructor
  · rintro ⟨h1, h2, h3, h4, h5, h6, h7, h8, h9⟩
    refine ⟨(fold_DL _ _).1 h1, by omega, ?_, fun h => ?_, ⟨h5.1, h6.1⟩, ⟨h5.2, h6.2⟩, h7, h8, ?_⟩
    · rw [h3]
      constructor
      · intro h k
        rw [eqV_iff.2 k] at h; cases h
      · intro h
        cases hv : eqV e.2.2.1 e.2.2.2.1 with
        | true => exact absurd (eqV_iff.1 hv) h
        | false => rfl
    · rcases h4 with h4 | h4
      · rw [h4] at h; cases h
      · exact h4
    · rcases h9 with h9 | h9 | h9
      · left; intro k; rw [k] at h9; simp at h9
      · exact .inr (.inl h9)
      · exact .inr (.inr h9)
  · intro h
    refine ⟨(fold_DL _ _).2 h.dl, by have := h.len; omega, ?_, ?_, ⟨h.nb.1, h.na.1⟩, ⟨h.nb.2, h.na.2⟩, h.nearF, h.nearT, ?_⟩
    · cases hv : eqV e.2.2.1 e.2.2.2.1 with
      | true =>
        cases ht : e.2.1 with
        | true => exact absurd (eqV_iff.1 hv) (h.turned.1 ht)
        | false => rfl
      | false =>
        have : e.2.1 = true := h.turned.2 fun k => by rw [eqV_iff.2 k] at hv; cases hv
        rw [this]; rfl
    · cases ht : e.2.1 with
      | true => exact .inl rfl
      | false => exact .inr (h.from0 ht)
    · rcases h.some_ with k | k | k
      · left
        have := List.length_pos_iff.2 k
        omega
      · exact .inr (.inl k)
      · exact .inr (.inr k)
theorem v_221 (l : List Delta) (hl : l.length ≤ 1000000) : F_221 l l = some ((true, ()) : Els [.bool]) := by
  have h := all_loop (G := fun x => G_221_4 x.1.1 x.1.2.1 x.1.2.2.1) (m := fuel) l (fun _ => true) (fun k => ((l, l, (k : Int), ()), ())) (.inr ((false, ()), ())) (.inl ((), ()))
    (fun k t ha => ?_) ?_ (fuel_lt (by omega))
  · rw [if_pos (List.all_eq_true.2 fun _ _ => rfl)] at h
    unfold F_221
    have h : R_221_4 ((l, l, (0 : Int), ()), ()) = _ := h
    exact noV (by simp) (bind_ofV h rfl)
  · have hk := len_of ha
    simp only [G_221_4, dec_lt hk, dec_in hk, cond_true, beq_self_eq_true, Bool.and_true, Bool.not_true, cond_false, wrap_up hk (by omega), if_true]
  · simp only [G_221_4, dec_end, cond_false]
theorem v_209 (e : Entry) (hl : e.1.length ≤ 1000000) : F_209 e e = some ((true, ()) : Els [.bool]) := by
  unfold F_209
  simp only [beq_self_eq_true, Bool.and_true, cond_true]
  exact bind_ofV (v_221 e.1 hl) rfl
noncomputable def bytesO (l : List Thing) (id : Int) : Str := bif (getB l id).2 then (bif rt (getB l id).1 then toS (putI (getB l id).1) else []) else []
theorem getB_len {l : List Thing} (hs : Small l) (h2 : ∀ t ∈ l, t.2.2.2.2.length ≤ 1000000) (id : Int) : (getB l id).1.2.2.2.2.length ≤ 1000000 := by
  unfold getB
  cases hx : idx l id with
  | none => exact Nat.zero_le _
  | some k =>
    obtain ⟨t, h1, _⟩ := idx_lt hx
    show ((l[k]?).getD noThing).2.2.2.2.length ≤ 1000000
    rw [h1]
    exact h2 t (List.mem_of_getElem? h1)
theorem v_110 (s : Scene) (id : Int) (hs : Small s.2.2) (h2 : ∀ t ∈ s.2.2, t.2.2.2.2.length ≤ 1000000) : F_110 s id = some ((bytesO s.2.2 id, ()) : Els [.str]) := by
  unfold F_110 bytesO
  refine bind_ofV (v_23 s id hs.1 hs.2) ?_
  have h61 := v_61 (getB s.2.2 id).1 (getB_len hs h2 id)
  show (bif !(getB s.2.2 id).2 then some (([], ()) : Els [.str]) else (F_61 (getB s.2.2 id).1).bind fun v4 => some (v4.1, ())) = _
  cases (getB s.2.2 id).2 with
  | false => rfl
  | true =>
    simp only [Bool.not_true, cond_false, cond_true]
    refine bind_ofV h61 ?_
    cases rt (getB s.2.2 id).1 <;> rfl
end Go.DI.S
set_option linter.unusedVariables false
set_option linter.unusedSimpArgs false
set_option maxRecDepth 100000
namespace Go.DI.S
open Go.Proofs
abbrev MS := List (Int × Str)
def putS (m : MS) (d : Delta) : MS := tput (.int .i64) .str d.1 d.2.2 m
def inD (L : List Delta) (n : Int) : Bool := L.any (fun d => d.1 == n)
def keptL (l : List Thing) (L : List Delta) : List Thing := l.filter fun t => !inD L (nid t)
noncomputable def newL (L : List Delta) : List Thing := L.filterMap fun d => getO d.2.2
noncomputable def outL (l : List Thing) (L : List Delta) : List Thing := sortT (keptL l L ++ newL L)
section
variable {s : Scene} {e : Entry}
theorem DL_lt : ∀ {L : List Delta} {a : Int}, DL a L → ∀ d ∈ L, a < d.1 ∧ 1 ≤ d.1 ∧ d.1 ≤ 1000000 ∧ d.2.1 ≠ d.2.2 ∧ sideB d.1 d.2.1 = true ∧ sideB d.1 d.2.2 = true
  | [], a, _, d, hd => by simp at hd
  | x :: L, a, h, d, hd => by
    rcases List.mem_cons.1 hd with rfl | hd
    · exact ⟨h.1, h.2.1, h.2.2.1, h.2.2.2.1, h.2.2.2.2.1, h.2.2.2.2.2.1⟩
    · have := DL_lt h.2.2.2.2.2.2 d hd
      have h1 := h.1
      exact ⟨Int.lt_trans h1 this.1, this.2⟩
theorem DL_pair : ∀ {L : List Delta} {a : Int}, DL a L → (L.map (fun d => d.1)).Pairwise (· < ·)
  | [], a, _ => .nil
  | x :: L, a, h => by
    rw [List.map_cons, List.pairwise_cons]
    refine ⟨fun n hn => ?_, DL_pair h.2.2.2.2.2.2⟩
    obtain ⟨d, hd, rfl⟩ := List.mem_map.1 hn
    exact (DL_lt h.2.2.2.2.2.2 d hd).1
theorem side_got {id : Int} {b : Str} {t : Thing} (h : sideB id b = true) (hg : getO b = some t) : nid t = id := by
  unfold sideB at h
  rw [Bool.or_eq_true] at h
  rcases h with h | h
  · have : b = [] := by simpa using h
    subst this
    rw [getO_nil] at hg; cases hg
  · rw [hg] at h
    exact beq_iff_eq.1 h
theorem new_ids : ∀ {L : List Delta} {a : Int}, DL a L → ((newL L).map nid).Sublist (L.map (fun d => d.1))
  | [], a, _ => List.Sublist.refl _
  | d :: L, a, h => by
    have ih := new_ids h.2.2.2.2.2.2
    unfold newL at ih ⊢
    rw [List.filterMap_cons]
    cases hg : getO d.2.2 with
    | none =>
      rw [List.map_cons]
      exact ih.trans (List.sublist_cons_self _ _)
    | some t =>
      rw [List.map_cons, List.map_cons, side_got h.2.2.2.2.2.1 hg]
      exact ih.cons_cons _
theorem mem_new {L : List Delta} {t : Thing} : t ∈ newL L ↔ ∃ d ∈ L, getO d.2.2 = some t := by
  unfold newL
  rw [List.mem_filterMap]
theorem mem_kept {l : List Thing} {L : List Delta} {t : Thing} : t ∈ keptL l L ↔ t ∈ l ∧ inD L (nid t) = false := by
  unfold keptL
  rw [List.mem_filter, Bool.not_eq_true']
theorem inD_iff {L : List Delta} {n : Int} : inD L n = true ↔ ∃ d ∈ L, d.1 = n := by
  unfold inD
  rw [List.any_eq_true]
  exact ⟨fun ⟨d, h, k⟩ => ⟨d, h, beq_iff_eq.1 k⟩, fun ⟨d, h, k⟩ => ⟨d, h, beq_iff_eq.2 k⟩⟩
theorem lt_nodup {l : List Int} (h : l.Pairwise (· < ·)) : l.Nodup := by
  rw [List.nodup_iff_pairwise_ne]
  exact h.imp fun h => by omega
theorem asc_nd {l : List Thing} (h : Asc l) : (l.map nid).Nodup := by
  rw [List.nodup_iff_pairwise_ne, List.pairwise_map, List.pairwise_iff_getElem]
  intro i j hi hj hij e
  have := h i j _ _ hij (List.getElem?_eq_getElem hi) (List.getElem?_eq_getElem hj)
  omega
theorem out_ids {l : List Thing} {L : List Delta} (ha : Asc l) (hl : ∀ t ∈ l, 0 < nid t ∧ nid t ≤ 1000000) (hL : DL 0 L) : (∀ n ∈ (keptL l L ++ newL L).map nid, 1 ≤ n ∧ n ≤ 1000000) ∧ ((keptL l L ++ newL L).map nid).Nodup := by
  refine ⟨fun n hn => ?_, ?_⟩
  · obtain ⟨t, ht, rfl⟩ := List.mem_map.1 hn
    rcases List.mem_append.1 ht with ht | ht
    · have := hl t (mem_kept.1 ht).1
      omega
    · have : nid t ∈ L.map (fun d => d.1) := (new_ids hL).subset (List.mem_map.2 ⟨t, ht, rfl⟩)
      obtain ⟨d, hd, e⟩ := List.mem_map.1 this
      have := DL_lt hL d hd
      rw [← e]
      exact ⟨this.2.1, this.2.2.1⟩
  · rw [List.map_append, List.nodup_append]
    refine ⟨(asc_nd ha).sublist (List.Sublist.map nid List.filter_sublist), (lt_nodup (DL_pair hL)).sublist (new_ids hL), fun a ha' b hb e => ?_⟩
    subst e
    obtain ⟨t, ht, e⟩ := List.mem_map.1 ha'
    have h1 := (mem_kept.1 ht).2
    have h2 := (new_ids hL).subset hb
    obtain ⟨d, hd, e2⟩ := List.mem_map.1 h2
    rw [inD_iff.2 ⟨d, hd, by rw [e2, e]⟩] at h1
    cases h1
structure FitS (s : Scene) (e : Entry) : Prop where
  next : s.2.1 = e.2.2.2.2.1
  grav : e.2.1 = true → s.1 = e.2.2.1
  all : ∀ d ∈ e.1, bytesO s.2.2 d.1 = d.2.1
noncomputable def outS (s : Scene) (e : Entry) : Scene := (bif e.2.1 then e.2.2.2.1 else s.1, e.2.2.2.2.2, outL s.2.2 e.1)
structure Lil (l : List Thing) : Prop where
  sm : Small l
  ins : ∀ t ∈ l, t.2.2.2.2.length ≤ 1000000
theorem ids_of {s : Scene} (h : Rt s) : ∀ t ∈ s.2.2, 0 < nid t ∧ nid t ≤ 1000000 := by
  intro t ht
  obtain ⟨h1, h2, _⟩ := h.low t ht
  have h3 := h.next.2
  have key : ∀ a b : Int, a < b → b ≤ 1000001 → a ≤ 1000000 := fun a b h k => by omega
  exact ⟨h1, key _ _ h2 h3⟩
end
end Go.DI.S
set_option linter.unusedVariables false
set_option linter.unusedSimpArgs false
set_option maxRecDepth 100000
namespace Go.DI.S
open Go.Proofs
def Rdb (l : List Thing) : Prop := ∀ t ∈ l, getO (toS (putI t)) = some t
structure Ln (a b : Scene) (e : Entry) : Prop where
  nb : e.2.2.2.2.1 = a.2.1
  na : e.2.2.2.2.2 = b.2.1
  turned : e.2.1 = true → e.2.2.1 = a.1 ∧ e.2.2.2.1 = b.1
  not : e.2.1 = false → a.1 = b.1
  before : ∀ d ∈ e.1, d.2.1 = bytesO a.2.2 d.1
  after : ∀ d ∈ e.1, d.2.2 = bytesO b.2.2 d.1
  else_ : ∀ n, inD e.1 n = false → bytesO a.2.2 n = bytesO b.2.2 n
theorem Ln.fits {a b : Scene} {e : Entry} (h : Ln a b e) : FitS a e := ⟨h.nb.symm, fun k => (h.turned k).1.symm, fun d hd => (h.before d hd).symm⟩
section
variable {s : Scene}
theorem bytes_in (h : Rt s) {t : Thing} (ht : t ∈ s.2.2) : bytesO s.2.2 (nid t) = toS (putI t) := by
  unfold bytesO
  rw [h.asc.getB ht]
  show (bif rt t then toS (putI t) else []) = _
  rw [(h.low t ht).2.2]; rfl
theorem bytes_no {n : Int} (h : ¬ Is s.2.2 n) : bytesO s.2.2 n = [] := by
  unfold bytesO
  rw [getB_none h]; rfl
theorem bytes_is (h : Rt s) {n : Int} (hn : bytesO s.2.2 n ≠ []) : ∃ t ∈ s.2.2, nid t = n ∧ bytesO s.2.2 n = toS (putI t) := by
  by_cases hi : Is s.2.2 n
  · obtain ⟨t, ht, rfl⟩ := hi
    exact ⟨t, ht, rfl, bytes_in h ht⟩
  · exact absurd (bytes_no hi) hn
end
theorem asc_le {l : List Thing} (h : Asc l) : l.Pairwise (fun x y => nid x ≤ nid y) := by
  rw [List.pairwise_iff_getElem]
  intro i j hi hj hij
  have := h i j _ _ hij (List.getElem?_eq_getElem hi) (List.getElem?_eq_getElem hj)
  omega
theorem nd_of_map {l : List Thing} (h : (l.map nid).Nodup) : l.Nodup := by
  rw [List.nodup_iff_pairwise_ne] at h ⊢
  rw [List.pairwise_map] at h
  exact h.imp fun h k => h (by rw [k])
theorem Ln.out {a b : Scene} {e : Entry} (h : Ln a b e) (ha : Rt a) (hb : Rt b) (ra : Rdb a.2.2) (rb : Rdb b.2.2) (hL : DL 0 e.1) : outS a e = b := by
  have hm : ∀ t, t ∈ keptL a.2.2 e.1 ++ newL e.1 ↔ t ∈ b.2.2 := by
    intro t
    rw [List.mem_append, mem_kept, mem_new]
    constructor
    · rintro (⟨h1, h2⟩ | ⟨d, hd, hg⟩)
      · have e1 := h.else_ _ h2
        rw [bytes_in ha h1] at e1
        obtain ⟨u, hu, hn, e2⟩ := bytes_is hb (n := nid t) (by rw [← e1]; exact putI_ne t)
        rw [e2] at e1
        have g1 := ra t h1
        rw [e1, rb u hu] at g1
        injection g1 with g1
        rw [← g1]; exact hu
      · have e1 := h.after d hd
        obtain ⟨u, hu, hn, e2⟩ := bytes_is hb (n := d.1) (by
          rw [← e1]
          intro k
          rw [k, getO_nil] at hg; cases hg)
        rw [e1, e2, rb u hu] at hg
        injection hg with hg
        rw [← hg]; exact hu
    · intro ht
      have e1 := bytes_in hb ht
      cases hi : inD e.1 (nid t) with
      | true =>
        right
        obtain ⟨d, hd, hn⟩ := inD_iff.1 hi
        refine ⟨d, hd, ?_⟩
        rw [h.after d hd, hn, e1, rb t ht]
      | false =>
        left
        have e2 := h.else_ _ hi
        rw [e1] at e2
        obtain ⟨u, hu, hn, e3⟩ := bytes_is ha (n := nid t) (by rw [e2]; exact putI_ne t)
        rw [e3] at e2
        have g1 := ra u hu
        rw [e2, rb t ht] at g1
        injection g1 with g1
        subst g1
        exact ⟨hu, rfl⟩
  have hnd : (keptL a.2.2 e.1 ++ newL e.1).Nodup := nd_of_map (out_ids ha.asc (ids_of ha) hL).2
  have hp : b.2.2.Perm (keptL a.2.2 e.1 ++ newL e.1) := (List.perm_ext_iff_of_nodup (nd_of_map (asc_nd hb.asc)) hnd).2 fun t => (hm t).symm
  have ho : outL a.2.2 e.1 = b.2.2 := (sortT_of (out_ids ha.asc (ids_of ha) hL).2 hp (asc_le hb.asc)).symm
  obtain ⟨bg, bn, bl⟩ := b
  show ((bif e.2.1 then e.2.2.2.1 else a.1, e.2.2.2.2.2, outL a.2.2 e.1) : Scene) = (bg, bn, bl)
  have ho : outL a.2.2 e.1 = bl := ho
  have hn : e.2.2.2.2.2 = bn := h.na
  have hg : (bif e.2.1 then e.2.2.2.1 else a.1) = bg := by
    cases ht : e.2.1 with
    | true => exact (h.turned ht).2
    | false => exact h.not ht
  rw [ho, hn, hg]
theorem rdb_of {s : Scene} (h : Rt s) (hw : ∀ t ∈ s.2.2, tThing.wf t) (hl : ∀ t ∈ s.2.2, t.2.2.2.2.length ≤ 1000000) : Rdb s.2.2 := fun t ht => getO_put t (hw t ht) (hl t ht) (h.low t ht).2.2
end Go.DI.S
set_option linter.unusedVariables false
set_option linter.unusedSimpArgs false
set_option maxRecDepth 100000
namespace Go.DI.S
open Go.Proofs
theorem compI_lt {l : List Int} (h : l.Pairwise (fun x y => x ≤ y)) : (compI l).Pairwise (· < ·) := by
  unfold compI Go.Lib.compact Go.Lib.compactUpTo
  rw [List.pairwise_map]
  have hr : (List.range l.length).Pairwise (· < ·) := List.pairwise_lt_range
  rw [List.pairwise_iff_getElem] at h
  have hg : ∀ j (hj : j < l.length), l.toArray[j]! = l[j] := fun j hj => by
    rw [getElem!_pos l.toArray j (by simpa using hj)]; rfl
  refine List.Pairwise.imp_of_mem ?_ (hr.sublist List.filter_sublist)
  intro i j hi hj hij
  obtain ⟨hi1, _⟩ := List.mem_filter.1 hi
  obtain ⟨hj1, hj2⟩ := List.mem_filter.1 hj
  rw [List.mem_range] at hi1 hj1
  unfold Go.Lib.keeps at hj2
  have hj3 := of_decide_eq_true hj2
  rcases hj3 with h0 | h0
  · omega
  · rw [hg j hj1, hg (j - 1) (by omega)] at h0
    rw [hg i hi1, hg j hj1]
    have h1 := h (j - 1) j (by omega) hj1 (by omega)
    have h2 : l[i] ≤ l[j - 1] := by
      by_cases e : i = j - 1
      · subst e; exact Int.le_refl _
      · exact h i (j - 1) hi1 (by omega) (by omega)
    have h3 : l[j - 1] ≠ l[j] := fun e => h0 e.symm
    omega
theorem compI_mem {l : List Int} {n : Int} : n ∈ compI l ↔ n ∈ l := by
  unfold compI Go.Lib.compact Go.Lib.compactUpTo
  have hg : ∀ j (hj : j < l.length), l.toArray[j]! = l[j] := fun j hj => by
    rw [getElem!_pos l.toArray j (by simpa using hj)]; rfl
  rw [List.mem_map]
  constructor
  · rintro ⟨j, hj, rfl⟩
    have hj1 := List.mem_range.1 (List.mem_filter.1 hj).1
    rw [hg j hj1]
    exact List.getElem_mem hj1
  · intro hn
    obtain ⟨i0, hi0, e0⟩ := List.getElem_of_mem hn
    obtain ⟨k, hk, ⟨hk1, hk2⟩, hlow⟩ := first_zero (fun k => ∃ h : k < l.length, l[k] = n) i0 ⟨hi0, e0⟩
    refine ⟨k, List.mem_filter.2 ⟨List.mem_range.2 hk1, ?_⟩, by rw [hg k hk1, hk2]⟩
    unfold Go.Lib.keeps
    refine decide_eq_true ?_
    by_cases h0 : k = 0
    · exact .inl h0
    · right
      rw [hg k hk1, hg (k - 1) (by omega), hk2]
      intro e
      exact hlow (k - 1) (by omega) ⟨by omega, e.symm⟩
theorem v_253 (n : Nat) (hn : n ≤ 1000000) : F_253 () (n : Int) = some [] := by
  unfold F_253
  by_cases h : 0 < n
  · rw [decide_eq_true (by omega : (0 : Int) < (n : Int)), decide_eq_true (by omega : (n : Int) ≤ 1000000)]; rfl
  · have : n = 0 := by omega
    subst this
    unfold F_253z
    rfl
theorem v_235 (l m : List Thing) (hl : l.length ≤ 1000) (hm : m.length ≤ 1000) : F_235 [l, m] = some ((l ++ m, ()) : Els [.list tThing]) := by
  obtain ⟨k, hk⟩ : ∃ k, fuel = k + 3 := ⟨18446744073709551613, rfl⟩
  have w1 : IntKind.i64.wrap ((0 : Int) + (l.length : Int)) = (l.length : Int) := by rw [wrap64 (by omega) (by omega)]; omega
  have w2 : IntKind.i64.wrap ((l.length : Int) + (m.length : Int)) = ((l.length + m.length : Nat) : Int) := by rw [wrap64 (by omega) (by omega)]; omega
  have d1 : decide ((l.length : Int) < 0) = false := decide_eq_false (by omega)
  have d2 : decide (((l.length + m.length : Nat) : Int) < 0) = false := decide_eq_false (by omega)
  have h3 : R_235_3 (([l, m], (0 : Int), [l, m], (([l, m].length : Nat) : Int), (0 : Int), ()), ()) = some (.inl (([l, m], ((l.length + m.length : Nat) : Int), ()), ())) := by
    unfold R_235_3
    rw [hk]
    rw [rounds_in (x' := (([l, m], (l.length : Int), [l, m], (2 : Int), (1 : Int), ()), ())) ?_ (k + 2)]
    · rw [rounds_in (x' := (([l, m], ((l.length + m.length : Nat) : Int), [l, m], (2 : Int), (2 : Int), ()), ())) ?_ (k + 1)]
      · exact rounds_out rfl k
      · show (bif decide (IntKind.i64.wrap ((l.length : Int) + (m.length : Int)) < 0) then none else some (Sum.inl (([l, m], IntKind.i64.wrap ((l.length : Int) + (m.length : Int)), [l, m], (2 : Int), IntKind.i64.wrap ((1 : Int) + 1), ()), ()))) = _
        rw [w2, show IntKind.i64.wrap ((1 : Int) + 1) = 2 by decide]
        exact noV d2 rfl
    · show (bif decide (IntKind.i64.wrap ((0 : Int) + (l.length : Int)) < 0) then none else some (Sum.inl (([l, m], IntKind.i64.wrap ((0 : Int) + (l.length : Int)), [l, m], (2 : Int), IntKind.i64.wrap ((0 : Int) + 1), ()), ()))) = _
      rw [w1, show IntKind.i64.wrap ((0 : Int) + 1) = 1 by decide]
      exact noV d1 rfl
  have h11 : R_235_11 (((), [l, m], (([l, m].length : Nat) : Int), (0 : Int), ()), [], ()) = some (.inl (((), ()), l ++ m, ())) := by
    unfold R_235_11
    rw [hk]
    rw [rounds_in (x' := (((), [l, m], (2 : Int), (1 : Int), ()), l, ())) ?_ (k + 2)]
    · rw [rounds_in (x' := (((), [l, m], (2 : Int), (2 : Int), ()), l ++ m, ())) ?_ (k + 1)]
      · exact rounds_out rfl k
      · show (bif Nat.ble ((l.length + m.length) * 128) 70368744177664 then _ else none) = _
        exact yesV (Nat.ble_eq_true_of_le (by omega)) rfl
    · show (bif Nat.ble ((0 + l.length) * 128) 70368744177664 then _ else none) = _
      exact yesV (Nat.ble_eq_true_of_le (by omega)) rfl
  unfold F_235
  exact bind_ofV h3 (bind_ofV (v_253 _ (by omega)) (bind_ofV h11 rfl))
theorem q_216_5 (a b : Scene) (z : Entry) (l : List Thing) (hl : l.length ≤ 1000000) :
    R_216_5 (((), (), (), (), l, ((l.length : Nat) : Int), (0 : Int), ()), (a, ()), (b, ()), (z, ()), [], ()) = some (.inl (((), (), (), (), ()), (a, ()), (b, ()), (z, ()), l.map nid, ())) := by
  have h := rounds_to (G := fun x => G_216_5 x.1.2.2.2.2.1 x.1.2.2.2.2.2.1 x.1.2.2.2.2.2.2.1 x.2.1 x.2.2.1 x.2.2.2.1 x.2.2.2.2.1) (n := l.length)
    (inv := fun k => (((), (), (), (), l, (l.length : Int), (k : Int), ()), (a, ()), (b, ()), (z, ()), (l.take k).map nid, ())) (y := .inl (((), (), (), (), ()), (a, ()), (b, ()), (z, ()), (l.take l.length).map nid, ())) (fun k hk => ?_) ?_ l.length 0 fuel (by omega) (fuel_lt (by omega))
  · rw [List.take_length] at h
    exact h
  · have ha := List.getElem?_eq_getElem hk
    have hlen : ((l.take k).map nid).length ≤ k := by rw [List.length_map, List.length_take]; omega
    show G_216_5 l (l.length : Int) (k : Int) (a, ()) (b, ()) (z, ()) ((l.take k).map nid) = _
    rw [List.take_succ_eq_append_getElem hk, List.map_append]
    simp only [G_216_5, dec_lt hk, dec_in hk, cond_true, getD_of ha, wrap_up hk (by omega)]
    exact yesV (Nat.ble_eq_true_of_le (by simp only [List.length_cons, List.length_nil]; omega)) rfl
  · show G_216_5 l (l.length : Int) (l.length : Int) (a, ()) (b, ()) (z, ()) _ = _
    simp only [G_216_5, dec_end, cond_false]
noncomputable def mkD (a b : List Thing) (n : Int) : Delta := (n, bytesO a n, bytesO b n)
noncomputable def difL (a b : List Thing) (ids : List Int) : List Delta := (ids.filter fun n => !(bytesO a n == bytesO b n)).map (mkD a b)
theorem dif_snoc (a b : List Thing) (ids : List Int) (n : Int) : difL a b (ids ++ [n]) = bif !(bytesO a n == bytesO b n) then difL a b ids ++ [mkD a b n] else difL a b ids := by
  unfold difL
  rw [List.filter_append, List.map_append]
  cases h : (bytesO a n == bytesO b n) with
  | true => simp [h]
  | false => simp [h]
theorem dif_len (a b : List Thing) (ids : List Int) : (difL a b ids).length ≤ ids.length := by
  unfold difL
  rw [List.length_map]
  exact List.length_filter_le _ _
theorem q_216_12 (a b : Scene) (z : Entry) (tu : Bool) (f t : Vec) (nb na : Int) (l : List Int) (ha : Lil a.2.2) (hb : Lil b.2.2) (hl : l.length ≤ 1000000) :
    R_216_12 (((), (), (), (), l, ((l.length : Nat) : Int), (0 : Int), ()), (a, ()), (b, ()), (z, ()), ((), tu, f, t, nb, na, ()), [], ()) = some (.inl (((), (), (), (), ()), (a, ()), (b, ()), (z, ()), ((), tu, f, t, nb, na, ()), difL a.2.2 b.2.2 l, ())) := by
  have h := rounds_to (G := fun x => G_216_12 x.1.2.2.2.2.1 x.1.2.2.2.2.2.1 x.1.2.2.2.2.2.2.1 x.2.1 x.2.2.1 x.2.2.2.1 x.2.2.2.2.1 x.2.2.2.2.2.1) (n := l.length)
    (inv := fun k => (((), (), (), (), l, (l.length : Int), (k : Int), ()), (a, ()), (b, ()), (z, ()), ((), tu, f, t, nb, na, ()), difL a.2.2 b.2.2 (l.take k), ())) (y := .inl (((), (), (), (), ()), (a, ()), (b, ()), (z, ()), ((), tu, f, t, nb, na, ()), difL a.2.2 b.2.2 (l.take l.length), ())) (fun k hk => ?_) ?_ l.length 0 fuel (by omega) (fuel_lt (by omega))
  · rw [List.take_length] at h
    exact h
  · have hx := List.getElem?_eq_getElem hk
    have hlen : (difL a.2.2 b.2.2 (l.take k)).length ≤ k := Nat.le_trans (dif_len _ _ _) (by rw [List.length_take]; omega)
    show G_216_12 l (l.length : Int) (k : Int) (a, ()) (b, ()) (z, ()) ((), tu, f, t, nb, na, ()) (difL a.2.2 b.2.2 (l.take k)) = _
    rw [List.take_succ_eq_append_getElem hk, dif_snoc]
    simp only [G_216_12, dec_lt hk, dec_in hk, cond_true, getD_of hx, wrap_up hk (by omega), v_110 a _ ha.sm ha.ins, v_110 b _ hb.sm hb.ins, Option.bind_some]
    cases (bytesO a.2.2 l[k] == bytesO b.2.2 l[k]) with
    | true => rfl
    | false =>
      simp only [Bool.not_false, cond_true]
      exact yesV (Nat.ble_eq_true_of_le (by simp only [List.length_cons, List.length_nil]; omega)) rfl
  · show G_216_12 l (l.length : Int) (l.length : Int) (a, ()) (b, ()) (z, ()) _ _ = _
    simp only [G_216_12, dec_end, cond_false]
def idsOf (a b : List Thing) : List Int := compI (sortI ((a ++ b).map nid))
noncomputable def betE (a b : Scene) : Entry := (difL a.2.2 b.2.2 (idsOf a.2.2 b.2.2), !eqV a.1 b.1, (bif !eqV a.1 b.1 then a.1 else ((0 : Int), (0 : Int))), (bif !eqV a.1 b.1 then b.1 else ((0 : Int), (0 : Int))), a.2.1, b.2.1)
def noE : Entry := ([], false, ((0 : Int), (0 : Int)), ((0 : Int), (0 : Int)), (0 : Int), (0 : Int))
theorem v_216 (a b : Scene) (ha : Lil a.2.2) (hb : Lil b.2.2) (hra : rightB a = true) (hrb : rightB b = true) :
    F_216 a b = some ((if rightE (betE a b) then (betE a b, true, ()) else (noE, false, ())) : Els [tEntry, .bool]) := by
  have e1 := v_20 a ha.sm
  have e2 := v_20 b hb.sm
  rw [hra] at e1
  rw [hrb] at e2
  have la := (right_of hra).len
  have lb := (right_of hrb).len
  have e3 := v_235 a.2.2 b.2.2 (by omega) (by omega)
  have hlen : (a.2.2 ++ b.2.2).length ≤ 80 := by rw [List.length_append]; omega
  have e4 := q_216_5 a b noE (a.2.2 ++ b.2.2) (by omega)
  have hml : ((a.2.2 ++ b.2.2).map nid).length ≤ 80 := by rw [List.length_map]; exact hlen
  have e5 : F_74 ((a.2.2 ++ b.2.2).map nid) = some ((), sortI ((a.2.2 ++ b.2.2).map nid), ()) := by
    unfold F_74
    rw [show Nat.ble ((a.2.2 ++ b.2.2).map nid).length 1000000 = true from Nat.ble_eq_true_of_le (by omega)]; rfl
  have hsl : (sortI ((a.2.2 ++ b.2.2).map nid)).length ≤ 80 := by rw [sortI_len]; exact hml
  have e6 : F_78 (sortI ((a.2.2 ++ b.2.2).map nid)) = some (idsOf a.2.2 b.2.2) := by
    unfold F_78
    rw [show Nat.ble (sortI ((a.2.2 ++ b.2.2).map nid)).length 1000000 = true from Nat.ble_eq_true_of_le (by omega)]; rfl
  have hil : (idsOf a.2.2 b.2.2).length ≤ 80 := Nat.le_trans (compI_len _) hsl
  have e7 := q_216_12 a b noE false ((0 : Int), (0 : Int)) ((0 : Int), (0 : Int)) a.2.1 b.2.1 (idsOf a.2.2 b.2.2) ha hb (by omega)
  have hdl : (betE a b).1.length ≤ 80 := Nat.le_trans (dif_len _ _ _) hil
  have e8 := v_64 (betE a b) (by omega)
  unfold F_216
  refine bind_ofV e1 (noV rfl (bind_ofV e2 (noV rfl (bind_ofV e3 (bind_ofV e4 (bind_ofV e5 (bind_ofV e6 (bind_ofV e7 ?_))))))))
  show (bif !eqV a.1 b.1 then (F_64 (difL a.2.2 b.2.2 (idsOf a.2.2 b.2.2), true, a.1, b.1, a.2.1, b.2.1)).bind (fun v21 => bif !v21.1 then some ((noE, false, ()) : Els [tEntry, .bool]) else some ((difL a.2.2 b.2.2 (idsOf a.2.2 b.2.2), true, a.1, b.1, a.2.1, b.2.1), true, ()))
    else (F_64 (difL a.2.2 b.2.2 (idsOf a.2.2 b.2.2), false, ((0 : Int), (0 : Int)), ((0 : Int), (0 : Int)), a.2.1, b.2.1)).bind (fun v23 => bif !v23.1 then some (noE, false, ()) else some ((difL a.2.2 b.2.2 (idsOf a.2.2 b.2.2), false, ((0 : Int), (0 : Int)), ((0 : Int), (0 : Int)), a.2.1, b.2.1), true, ()))) = _
  cases hv : !eqV a.1 b.1 with
  | true =>
    have hE : (difL a.2.2 b.2.2 (idsOf a.2.2 b.2.2), true, a.1, b.1, a.2.1, b.2.1) = betE a b := by unfold betE; rw [hv]; rfl
    rw [hE]
    refine bind_ofV e8 ?_
    cases rightE (betE a b) <;> rfl
  | false =>
    have hE : (difL a.2.2 b.2.2 (idsOf a.2.2 b.2.2), false, ((0 : Int), (0 : Int)), ((0 : Int), (0 : Int)), a.2.1, b.2.1) = betE a b := by unfold betE; rw [hv]; rfl
    rw [hE]
    refine bind_ofV e8 ?_
    cases rightE (betE a b) <;> rfl
end Go.DI.S
set_option linter.unusedVariables false
set_option linter.unusedSimpArgs false
set_option maxRecDepth 100000
namespace Go.DI.S
open Go.Proofs
section
variable {a b : Scene}
theorem ids_lt (a b : List Thing) : (idsOf a b).Pairwise (· < ·) := compI_lt (sortI_sorted _)
theorem ids_mem {a b : List Thing} {n : Int} : n ∈ idsOf a b ↔ Is a n ∨ Is b n := by
  unfold idsOf
  rw [compI_mem, (sortI_perm _).mem_iff, List.mem_map]
  constructor
  · rintro ⟨t, ht, e⟩
    rcases List.mem_append.1 ht with h | h
    · exact .inl ⟨t, h, e⟩
    · exact .inr ⟨t, h, e⟩
  · rintro (⟨t, h, e⟩ | ⟨t, h, e⟩)
    · exact ⟨t, List.mem_append_left _ h, e⟩
    · exact ⟨t, List.mem_append_right _ h, e⟩
theorem ids_len (a b : List Thing) : (idsOf a b).length ≤ a.length + b.length := by
  refine Nat.le_trans (compI_len _) ?_
  rw [sortI_len, List.length_map, List.length_append]
  exact Nat.le_refl _
theorem side_bytes (h : Rt a) (hd : Rdb a.2.2) (n : Int) : sideB n (bytesO a.2.2 n) = true := by
  unfold sideB
  rw [Bool.or_eq_true]
  by_cases hn : bytesO a.2.2 n = []
  · left; rw [hn]; rfl
  · right
    obtain ⟨t, ht, e, e2⟩ := bytes_is h hn
    rw [e2, hd t ht]
    exact beq_iff_eq.2 e
theorem dl_dif (ha : Rt a) (hb : Rt b) (da : Rdb a.2.2) (db : Rdb b.2.2) : ∀ (ids : List Int) (k : Int), ids.Pairwise (· < ·) → (∀ n ∈ ids, k < n ∧ 1 ≤ n ∧ n ≤ 1000000) → DL k (difL a.2.2 b.2.2 ids)
  | [], k, _, _ => trivial
  | n :: ids, k, hp, hr => by
    obtain ⟨p1, p2⟩ := List.pairwise_cons.1 hp
    have hn := hr n List.mem_cons_self
    have ih := fun k' (hk : ∀ m ∈ ids, k' < m) => dl_dif ha hb da db ids k' p2 (fun m hm => ⟨hk m hm, (hr m (List.mem_cons_of_mem _ hm)).2⟩)
    unfold difL at ih ⊢
    rw [List.filter_cons]
    split
    · rename_i h
      rw [List.map_cons]
      refine ⟨hn.1, hn.2.1, hn.2.2, fun e => ?_, side_bytes ha da n, side_bytes hb db n, ih n p1⟩
      have e : bytesO a.2.2 n = bytesO b.2.2 n := e
      rw [e] at h
      simp at h
    · exact ih k fun m hm => Int.lt_trans hn.1 (p1 m hm)
theorem dl_bet (ha : Rt a) (hb : Rt b) (da : Rdb a.2.2) (db : Rdb b.2.2) : DL 0 (betE a b).1 := by
  refine dl_dif ha hb da db _ 0 (ids_lt _ _) fun n hn => ?_
  rcases ids_mem.1 hn with ⟨t, ht, rfl⟩ | ⟨t, ht, rfl⟩
  · have := ids_of ha t ht
    omega
  · have := ids_of hb t ht
    omega
theorem re_bet (hra : rightB a = true) (hrb : rightB b = true) (da : Rdb a.2.2) (db : Rdb b.2.2) : RE (betE a b) ∨ 40 < (betE a b).1.length ∨ ((betE a b).1 = [] ∧ a.1 = b.1 ∧ a.2.1 = b.2.1) := by
  have ha := right_of hra
  have hb := right_of hrb
  by_cases h1 : 40 < (betE a b).1.length
  · exact .inr (.inl h1)
  by_cases h2 : (betE a b).1 = [] ∧ a.1 = b.1 ∧ a.2.1 = b.2.1
  · exact .inr (.inr h2)
  left
  have hv : ∀ c : Bool, (!eqV a.1 b.1) = c → (c = true ↔ a.1 ≠ b.1) := by
    intro c hc
    rw [← hc, Bool.not_eq_true']
    constructor
    · intro h k
      rw [eqV_iff.2 k] at h; cases h
    · intro h
      cases hv : eqV a.1 b.1 with
      | true => exact absurd (eqV_iff.1 hv) h
      | false => rfl
  refine ⟨dl_bet ha hb da db, by omega, ?_, fun k => ?_, ha.next, hb.next, ?_, ?_, ?_⟩
  · show (!eqV a.1 b.1) = true ↔ (bif !eqV a.1 b.1 then a.1 else ((0 : Int), (0 : Int))) ≠ (bif !eqV a.1 b.1 then b.1 else ((0 : Int), (0 : Int)))
    cases hc : !eqV a.1 b.1 with
    | true => exact ⟨fun _ => (hv _ hc).1 rfl, fun _ => rfl⟩
    | false => exact ⟨fun h => (by cases h), fun h => absurd rfl h⟩
  · have k : (!eqV a.1 b.1) = false := k
    show (bif !eqV a.1 b.1 then a.1 else ((0 : Int), (0 : Int))) = _
    rw [k]; rfl
  · show nearB (bif !eqV a.1 b.1 then a.1 else ((0 : Int), (0 : Int))) = true
    cases !eqV a.1 b.1 with
    | true => exact near_of hra
    | false => exact (by decide : nearB ((0 : Int), (0 : Int)) = true)
  · show nearB (bif !eqV a.1 b.1 then b.1 else ((0 : Int), (0 : Int))) = true
    cases !eqV a.1 b.1 with
    | true => exact near_of hrb
    | false => exact (by decide : nearB ((0 : Int), (0 : Int)) = true)
  · by_cases c1 : (betE a b).1 = []
    · by_cases c2 : a.1 = b.1
      · exact .inr (.inr fun k => h2 ⟨c1, c2, k⟩)
      · exact .inr (.inl ((hv _ rfl).2 c2))
    · exact .inl c1
end
end Go.DI.S
set_option linter.unusedVariables false
set_option linter.unusedSimpArgs false
set_option maxRecDepth 100000
namespace Go.DI.S
open Go.Proofs
theorem rdb_right {s : Scene} (hr : rightB s = true) (hs : Small s.2.2) : Rdb s.2.2 := by
  have h := right_of hr
  exact rdb_of h (fun t ht => wf_thing (thing_rt h hs ht)) (fun t ht => by have := ins_few h hs ht; exact Nat.le_trans this (by decide))
theorem lil_right {s : Scene} (hs : Small s.2.2) (hrs : rightB s = true) : Lil s.2.2 := ⟨hs, fun t ht => Nat.le_trans (ins_few (right_of hrs) hs ht) (by decide)⟩
end Go.DI.S
