import Derived.Test.YtmleimalginhhaaCa
/- What kin.Copy comes to. No conditions. -/
/-! What kin.Copy comes to. -/
set_option linter.unusedVariables false
set_option linter.unusedSimpArgs false
set_option maxRecDepth 100000
namespace Go.DI.S
open Go.Proofs

/-! ### a thing's copy -/
def cof (c : MI) (n : Int) : Int := (tget (.int .i64) (.int .i64) n c).getD n
theorem v_123 (n : Int) (c : MI) : F_123 n c = some ((cof c n, ()), c, ()) := by
  unfold F_123 cof
  cases h : tget (.int .i64) (.int .i64) n c with
  | none => rfl
  | some v => rfl
def addF (a b : Int) : Int ⊕ Int := bif decide (a < 0) == decide (b < 0) then (bif !(decide (IntKind.i64.wrap (a + b) < 0) == decide (a < 0)) then .inr 3 else .inl (IntKind.i64.wrap (a + b))) else .inl (IntKind.i64.wrap (a + b))
theorem v_146 (a b : Int) : F_146 a b = some (match addF a b with | .inl x => .inl (x, ()) | .inr e => .inr e) := by
  unfold F_146 F_162 addF
  cases (decide (a < 0) == decide (b < 0)) with
  | false => rfl
  | true =>
    simp only [cond_true]
    cases (decide (IntKind.i64.wrap (a + b) < 0) == decide (a < 0)) <;> rfl
def movV (p q : Vec) : Vec ⊕ Int := match addF p.1 q.1 with
  | .inl x => match addF p.2 q.2 with
    | .inl y => .inl (x, y)
    | .inr e => .inr e
  | .inr e => .inr e
theorem v_124 (p q : Vec) : F_124 p q = some (match movV p q with | .inl x => .inl (x, ()) | .inr e => .inr e) := by
  unfold F_124 movV
  rw [v_146]
  cases addF p.1 q.1 with
  | inr e => rfl
  | inl x =>
    show (F_146 p.2 q.2).bind _ = _
    rw [v_146]
    cases addF p.2 q.2 <;> rfl
noncomputable def rb (b : Body) : Bool := ofB (F_88 b)
theorem v_88 (b : Body) : F_88 b = some ((rb b, ()) : Els [.bool]) := ofB_eq (t_88 b)
theorem addF_err {a b e : Int} (h : addF a b = .inr e) : e ≠ 0 := by
  unfold addF at h
  cases h1 : (decide (a < 0) == decide (b < 0)) <;> rw [h1] at h
  · cases h
  · cases h2 : (decide (IntKind.i64.wrap (a + b) < 0) == decide (a < 0)) <;> rw [h2] at h
    · injection h with h; omega
    · cases h
theorem movV_err {p q : Vec} {e : Int} (h : movV p q = .inr e) : e ≠ 0 := by
  unfold movV at h
  cases h1 : addF p.1 q.1 with
  | inr e1 => rw [h1] at h; injection h with h; subst h; exact addF_err h1
  | inl x =>
    rw [h1] at h
    cases h2 : addF p.2 q.2 with
    | inr e1 => rw [h2] at h; injection h with h; subst h; exact addF_err h2
    | inl y => rw [h2] at h; cases h
/-- A body that lies further. -/
def movB (b : Body) (p : Vec) : Body := (b.1, b.2.1, b.2.2.1, p, b.2.2.2.2)
noncomputable def cpT (c : MI) (q : Vec) (t : Thing) : Thing ⊕ Int :=
  bif t.2.1 == (1 : Int) then
    match movV t.2.2.1.2.2.2.1 q with
    | .inl p => bif rb (movB t.2.2.1 p) then .inl (cof c t.1, t.2.1, movB t.2.2.1 p, t.2.2.2.1, t.2.2.2.2.map (cof c)) else .inr 3
    | .inr e => .inr e
  else bif t.2.1 == (2 : Int) then .inl (cof c t.1, t.2.1, t.2.2.1, (cof c t.2.2.2.1.1, cof c t.2.2.2.1.2.1, t.2.2.2.1.2.2), t.2.2.2.2.map (cof c))
  else .inl (cof c t.1, t.2.1, t.2.2.1, t.2.2.2.1, t.2.2.2.2.map (cof c))
theorem cpT_err {c : MI} {q : Vec} {t : Thing} {e : Int} (h : cpT c q t = .inr e) : e ≠ 0 := by
  unfold cpT at h
  cases h1 : (t.2.1 == (1 : Int)) <;> rw [h1] at h
  · cases h2 : (t.2.1 == (2 : Int)) <;> rw [h2] at h <;> cases h
  · cases h3 : movV t.2.2.1.2.2.2.1 q with
    | inr e1 =>
      rw [h3] at h
      simp only [cond_true, Sum.inr.injEq] at h
      subst h; exact movV_err h3
    | inl p =>
      rw [h3] at h
      cases h4 : rb (movB t.2.2.1 p) <;> simp only [h4, cond_true, cond_false] at h
      · injection h with h; omega
      · cases h
theorem v_46o (l : List Int) (h : l.length ≤ 1000000000) : F_46o l = some l := by
  unfold F_46o O_46
  rw [show Nat.ble (l.length * 8) 70368744177664 = true from Nat.ble_eq_true_of_le (by omega)]
  rfl
theorem set_map {α : Type} (f : α → α) (row : List α) {i : Nat} (hi : i < row.length) : ((row.take i).map f ++ row.drop i).set i (f row[i]) = (row.take (i + 1)).map f ++ row.drop (i + 1) := by
  have h1 : ((row.take i).map f).length = i := by simp; omega
  rw [List.drop_eq_getElem_cons hi, List.set_append_right _ _ (by omega), h1, Nat.sub_self, List.set_cons_zero, List.take_succ_eq_append_getElem hi, List.map_append, List.append_assoc]
  rfl
theorem get_map {α : Type} (f : α → α) (row : List α) (d : α) {i : Nat} (hi : i < row.length) : ((row.take i).map f ++ row.drop i).getD i d = row[i] := by
  have h1 : ((row.take i).map f).length = i := by simp; omega
  rw [List.getD_eq_getElem?_getD, List.getElem?_append_right (by omega), h1, Nat.sub_self, List.drop_eq_getElem_cons hi]
  rfl
theorem len_map {α : Type} (f : α → α) (row : List α) (i : Nat) : ((row.take i).map f ++ row.drop i).length = row.length := by
  simp; omega
theorem q_85_11 (c : MI) (i k : Int) (b : Body) (j : Joint) (d : Thing) (row : List Int) (h : row.length ≤ 1000000000) :
    R_85_11 (((), (), (), (), (row.length : Int), (0 : Int), ()), c, (i, k, b, j, (), ()), row, (d, ()), ()) = some (.inl (.inl (((), (), ()), c, (i, k, b, j, (), ()), row.map (cof c), (d, ()), ()))) := by
  have h1 := rounds_to (G := fun x => G_85_11 x.1.2.2.2.2.1 x.1.2.2.2.2.2.1 x.2.1 x.2.2.1 x.2.2.2.1 x.2.2.2.2.1) (n := row.length) (inv := fun n => (((), (), (), (), (row.length : Int), (n : Int), ()), c, (i, k, b, j, (), ()), (row.take n).map (cof c) ++ row.drop n, (d, ()), ()))
    (y := .inl (.inl (((), (), ()), c, (i, k, b, j, (), ()), (row.take row.length).map (cof c) ++ row.drop row.length, (d, ()), ()))) (fun n hn => ?_) ?_ row.length 0 fuel (by omega) (fuel_lt h)
  · have h2 : (row.take row.length).map (cof c) ++ row.drop row.length = row.map (cof c) := by simp
    rw [h2] at h1
    exact h1
  · have hin : decide ((0 : Int) ≤ (n : Int) ∧ (n : Int) < ((((row.take n).map (cof c) ++ row.drop n).length : Nat) : Int)) = true := by rw [len_map]; exact dec_in hn
    show G_85_11 (row.length : Int) (n : Int) c (i, k, b, j, (), ()) ((row.take n).map (cof c) ++ row.drop n) (d, ()) = _
    simp only [G_85_11, dec_lt hn, cond_true, hin, Int.toNat_natCast, get_map _ _ _ hn, v_123, Option.bind_some, set_map _ _ hn, wrap_up hn (by omega)]
  · show G_85_11 (row.length : Int) (row.length : Int) c (i, k, b, j, (), ()) _ (d, ()) = _
    simp only [G_85_11, dec_end, cond_false]
theorem v_85 (t : Thing) (q : Vec) (c : MI) (h : t.2.2.2.2.length ≤ 1000000000) : F_85 t q c = some (match cpT c q t with | .inl u => .inl ((u, ()), c, ()) | .inr e => .inr e) := by
  unfold F_85 cpT
  rw [v_123]
  simp only [Option.bind_some]
  cases h1 : (t.2.1 == (1 : Int)) with
  | true =>
    simp only [cond_true]
    rw [v_124]
    cases h2 : movV t.2.2.1.2.2.2.1 q with
    | inr e => rfl
    | inl p =>
      simp only [Option.bind_some, Sum.elim_inl]
      have h3 : F_88 (t.2.2.1.1, t.2.2.1.2.1, t.2.2.1.2.2.1, p, t.2.2.1.2.2.2.2) = some ((rb (movB t.2.2.1 p), ()) : Els [.bool]) := v_88 _
      rw [h3]
      simp only [Option.bind_some]
      cases h4 : rb (movB t.2.2.1 p) with
      | false => rfl
      | true =>
        simp only [Bool.not_true, cond_false, cond_true]
        rw [v_46o _ h]
        simp only [Option.bind_some]
        rw [q_85_11 _ _ _ _ _ _ _ h]
        rfl
  | false =>
    simp only [cond_false]
    cases h2 : (t.2.1 == (2 : Int)) with
    | true =>
      simp only [cond_true]
      rw [v_123]
      simp only [Option.bind_some]
      rw [v_123]
      simp only [Option.bind_some]
      rw [v_46o _ h]
      simp only [Option.bind_some]
      rw [q_85_11 _ _ _ _ _ _ _ h]
      rfl
    | false =>
      simp only [cond_false]
      rw [v_46o _ h]
      simp only [Option.bind_some]
      rw [q_85_11 _ _ _ _ _ _ _ h]
      rfl

/-! ### copies of things -/
noncomputable def cpL (c : MI) (q : Vec) (l : List Thing) : List Int → List Thing → List Thing ⊕ Int
  | [], acc => .inl acc
  | n :: ns, acc => match cpT c q (getB l n).1 with
    | .inl u => cpL c q l ns (acc ++ [u])
    | .inr e => .inr e
theorem cpL_err {c : MI} {q : Vec} {l : List Thing} : ∀ {ns : List Int} {acc : List Thing} {e : Int}, cpL c q l ns acc = .inr e → e ≠ 0
  | [], acc, e, h => by cases h
  | n :: ns, acc, e, h => by
    unfold cpL at h
    cases h1 : cpT c q (getB l n).1 with
    | inl u => rw [h1] at h; exact cpL_err h
    | inr e1 => rw [h1] at h; injection h with h; subst h; exact cpT_err h1
theorem getB_small {l : List Thing} (hs : Small l) (n : Int) : (getB l n).1.2.2.2.2.length ≤ 1000000000 := by
  unfold getB
  cases hx : idx l n with
  | none => simp [noThing]
  | some k =>
    obtain ⟨t, ht, _⟩ := idx_lt hx
    simp only [ht, Option.getD_some]
    exact hs.2 t (List.mem_of_getElem? ht)
theorem v_84 (ids : List Int) (s : Scene) (q : Vec) (base : List Thing) (c : MI) (hs : Small s.2.2) (hi : ids.length ≤ 1000000) (hb : base.length ≤ 1000000) :
    F_84 (ids, ()) (s, ()) ((), ()) ((), ()) (q, ()) base c = some (match cpL c q s.2.2 ids base with | .inl out => .inl ((), (ids, ()), (s, ()), ((), ()), ((), ()), (q, ()), out, c, ()) | .inr e => .inr e) := by
  have key : ∀ (d m k : Nat) (acc : List Thing), k + d = ids.length → d < m → acc.length ≤ base.length + k →
      roundsT (fun x => G_84_1 x.1.2.2.2.2.1 x.1.2.2.2.2.2.1 x.1.2.2.2.2.2.2.1 x.2.1 x.2.2.1 x.2.2.2.1 x.2.2.2.2.1 x.2.2.2.2.2.1 x.2.2.2.2.2.2.1 x.2.2.2.2.2.2.2.1) m (((), (), (), (), ids, (ids.length : Int), (k : Int), ()), (ids, ()), (s, ()), ((), ()), ((), ()), (q, ()), acc, c, ()) =
        some (match cpL c q s.2.2 (ids.drop k) acc with | .inl out => .inl (.inl ((), (ids, ()), (s, ()), ((), ()), ((), ()), (q, ()), out, c, ())) | .inr e => .inr e) := by
    intro d
    induction d with
    | zero =>
      intro m k acc hk hm ha
      obtain ⟨m, rfl⟩ : ∃ j, m = j + 1 := ⟨m - 1, by omega⟩
      have : k = ids.length := by omega
      subst this
      rw [rounds_out (y := .inl (.inl ((), (ids, ()), (s, ()), ((), ()), ((), ()), (q, ()), acc, c, ()))) (by simp only [G_84_1, dec_end, cond_false]), List.drop_length]
      rfl
    | succ d ih =>
      intro m k acc hk hm ha
      obtain ⟨m, rfl⟩ : ∃ j, m = j + 1 := ⟨m - 1, by omega⟩
      have hlt : k < ids.length := by omega
      have hg := List.getElem?_eq_getElem hlt
      rw [List.drop_eq_getElem_cons hlt]
      have h85 := v_85 (getB s.2.2 ids[k]).1 q c (getB_small hs _)
      cases hc : cpT c q (getB s.2.2 ids[k]).1 with
      | inr e =>
        rw [hc] at h85
        rw [rounds_out (y := .inr e) ?_ m]
        · simp only [cpL, hc]
        · simp only [G_84_1, dec_lt hlt, dec_in hlt, cond_true, getD_of hg, v_23 s _ hs.1 hs.2, Option.bind_some, h85, Sum.elim_inr]
      | inl u =>
        rw [hc] at h85
        rw [rounds_in (x' := (((), (), (), (), ids, (ids.length : Int), ((k + 1 : Nat) : Int), ()), (ids, ()), (s, ()), ((), ()), ((), ()), (q, ()), acc ++ [u], c, ())) ?_ m]
        · rw [ih m (k + 1) (acc ++ [u]) (by omega) (by omega) (by simp; omega)]
          simp only [cpL, hc]
        · simp only [G_84_1, dec_lt hlt, dec_in hlt, cond_true, getD_of hg, v_23 s _ hs.1 hs.2, Option.bind_some, h85, Sum.elim_inl, wrap_up hlt (by omega)]
          rw [show Nat.ble ((acc.length + [u].length) * 128) 70368744177664 = true from Nat.ble_eq_true_of_le (by simp; omega)]
          rfl
  have h := key ids.length fuel 0 base (by omega) (fuel_lt (by omega)) (by omega)
  rw [List.drop_zero] at h
  unfold F_84 R_84_1
  show (roundsT _ fuel (((), (), (), (), ids, (ids.length : Int), ((0 : Nat) : Int), ()), (ids, ()), (s, ()), ((), ()), ((), ()), (q, ()), base, c, ())).bind _ = _
  rw [h]
  cases cpL c q s.2.2 ids base <;> rfl
theorem v_83 (ids : List Int) (s : Scene) (q : Vec) (base : List Thing) (c : MI) (hs : Small s.2.2) (hi : ids.length ≤ 1000000) (hb : base.length ≤ 1000000) :
    F_83 (ids, ()) (s, ()) ((), ()) ((), ()) (q, ()) base c = some (match cpL c q s.2.2 ids base with | .inl out => .inl ((0, ()), (ids, ()), (s, ()), ((), ()), ((), ()), (q, ()), out, c, ()) | .inr e => .inr e) := by
  unfold F_83
  rw [v_84 ids s q base c hs hi hb]
  cases cpL c q s.2.2 ids base <;> rfl

/-! ### joints, own lists, numbers of copies -/
def jtB (a : List Int) (t : Thing) : Bool := t.2.1 == (2 : Int) && (!a.contains t.1 && (a.contains t.2.2.2.1.1 && a.contains t.2.2.2.1.2.1))
def jts (l : List Thing) (a : List Int) : List Int := (l.filter (jtB a)).map nid
theorem v_81 (s : Scene) (a : List Int) (hs : Small s.2.2) (hl : s.2.2.length ≤ 1000000) (ha : a.length ≤ 1000000000) : F_81 s a = some (jts s.2.2 a) := by
  have h := scan_loop (G := fun x => G_81_3 x.1.1 x.1.2.2.1 x.1.2.2.2.1 x.1.2.2.2.2.1 x.2.1) (l := s.2.2) (mk := fun k (acc : List Int) => ((a, (), s.2.2, (s.2.2.length : Int), (k : Int), ()), acc, ()))
    (step := fun acc t => .inl (if jtB a t then acc ++ [nid t] else acc)) (fin := fun acc => .inl (((), ()), acc, ())) (fun k acc => acc.length ≤ k) (fun k t acc hI ht => ?_) (fun k t acc acc' hI ht hst => ?_) (fun acc _ => ?_) s.2.2.length fuel 0 [] (by omega) (fuel_lt hs.1) (by simp)
  · have hf : ∀ (l : List Thing) (acc : List Int), scan (Y := LA_81_3.El ⊕ LB_81_3.El) (fun acc t => .inl (if jtB a t then acc ++ [nid t] else acc)) (fun acc => .inl (((), ()), acc, ())) l acc = .inl (((), ()), acc ++ (l.filter (jtB a)).map nid, ()) := by
      intro l
      induction l with
      | nil => intro acc; simp [scan]
      | cons t l ih =>
        intro acc
        simp only [scan, ih]
        cases hj : jtB a t <;> simp [hj]
    rw [List.drop_zero, hf] at h
    unfold F_81 R_81_3
    show (roundsT _ fuel ((a, (), s.2.2, (s.2.2.length : Int), ((0 : Nat) : Int), ()), [], ())).bind _ = _
    rw [h]
    show some ([] ++ (s.2.2.filter (jtB a)).map nid) = _
    rw [List.nil_append]; rfl
  · have hk := len_of ht
    simp only [G_81_3, dec_lt hk, dec_in hk, cond_true, getD_of ht, v_59 a _ ha, Option.bind_some, wrap_up hk (by omega)]
    unfold jtB
    cases h1 : (t.2.1 == (2 : Int)) with
    | false => rfl
    | true =>
      cases h2 : a.contains t.1 with
      | true => rfl
      | false =>
        cases h3 : a.contains t.2.2.2.1.1 with
        | false => rfl
        | true =>
          cases h4 : a.contains t.2.2.2.1.2.1 with
          | false => rfl
          | true =>
            simp only [Bool.not_false, cond_true]
            rw [show Nat.ble ((acc.length + [t.1].length) * 8) 70368744177664 = true from Nat.ble_eq_true_of_le (by simp; omega)]
            rfl
  · injection hst with hst
    subst hst
    show (if jtB a t then acc ++ [nid t] else acc).length ≤ k + 1
    split
    · rw [List.length_append]; show acc.length + 1 ≤ k + 1; omega
    · omega
  · simp only [G_81_3, dec_end, cond_false]
theorem v_82 (l : List Thing) (hs : Small l) (hl : l.length ≤ 1000000) : F_82 l = some l := by
  have h90 : F_90 l = some l := by
    unfold F_90
    rw [show Nat.ble (l.length * 128) 70368744177664 = true from Nat.ble_eq_true_of_le (by omega)]
    rfl
  have h := rounds_to (G := fun x => G_82_3 x.1.2.2.1 x.1.2.2.2.1 x.2.1) (n := l.length) (inv := fun n => (((), (), (l.length : Int), (n : Int), ()), l, ())) (y := .inl (((), ()), l, ())) (fun n hn => ?_) ?_ l.length 0 fuel (by omega) (fuel_lt hs.1)
  · unfold F_82 R_82_3
    rw [h90]
    show (roundsT _ fuel (((), (), (l.length : Int), ((0 : Nat) : Int), ()), l, ())).bind _ = _
    rw [h]; rfl
  · have hg := List.getElem?_eq_getElem hn
    show G_82_3 (l.length : Int) (n : Int) l = _
    simp only [G_82_3, dec_lt hn, dec_in hn, cond_true, getD_of hg, v_46 _ (hs.2 _ (List.getElem_mem hn)), Option.bind_some, wrap_up hn (by omega)]
    rw [Int.toNat_natCast, show (l[n].1, l[n].2.1, l[n].2.2.1, l[n].2.2.2.1, l[n].2.2.2.2) = l[n] from rfl, List.set_getElem_self]
  · show G_82_3 (l.length : Int) (l.length : Int) l = _
    simp only [G_82_3, dec_end, cond_false]
/-- The next thing's number. -/
def nxt (s : Scene) : Int := s.2.1
def cmK (next : Int) (ids : List Int) : Nat → MI
  | 0 => []
  | i + 1 => tput (.int .i64) (.int .i64) (ids.getD i 0) (next + i) (cmK next ids i)
theorem q_42_14 (id : Int) (s : Scene) (q : Vec) (d : Scene) (ids : List Int) (hi : ids.length ≤ 1000000) (h0 : 0 ≤ nxt s) (h1 : nxt s ≤ 1000000000) :
    R_42_14 ((id, (), (), (), (), (), (), (ids.length : Int), (0 : Int), ()), (s, ()), (q, ()), (d, ()), ((), ()), ids, ((), ()), [], ()) = some (.inl ((id, (), (), (), (), (), ()), (s, ()), (q, ()), (d, ()), (ids, ()), ((), ()), cmK (nxt s) ids ids.length, ())) := by
  have h := rounds_to (G := fun x => G_42_14 x.1.1 x.1.2.2.2.2.2.2.2.1 x.1.2.2.2.2.2.2.2.2.1 x.2.1 x.2.2.1 x.2.2.2.1 x.2.2.2.2.1 x.2.2.2.2.2.1 x.2.2.2.2.2.2.1 x.2.2.2.2.2.2.2.1) (n := ids.length)
    (inv := fun n => ((id, (), (), (), (), (), (), (ids.length : Int), (n : Int), ()), (s, ()), (q, ()), (d, ()), ((), ()), ids, ((), ()), cmK (nxt s) ids n, ())) (y := .inl ((id, (), (), (), (), (), ()), (s, ()), (q, ()), (d, ()), (ids, ()), ((), ()), cmK (nxt s) ids ids.length, ())) (fun n hn => ?_) ?_ ids.length 0 fuel (by omega) (fuel_lt (by omega))
  · exact h
  · show G_42_14 id (ids.length : Int) (n : Int) (s, ()) (q, ()) (d, ()) ((), ()) ids ((), ()) (cmK (nxt s) ids n) = _
    simp only [G_42_14, dec_lt hn, dec_in hn, cond_true, wrap_up hn (by omega), Int.toNat_natCast]
    rw [show s.2.1 = nxt s from rfl, wrap64 (x := nxt s + (n : Int)) (by omega) (by omega)]
    rfl
  · show G_42_14 id (ids.length : Int) (ids.length : Int) (s, ()) (q, ()) (d, ()) ((), ()) ids ((), ()) _ = _
    simp only [G_42_14, dec_end, cond_false]

/-! ### Copy -/
noncomputable def ina (l : List Thing) (id : Int) : List Int := sortI (inT l 100 id)
noncomputable def ida (l : List Thing) (id : Int) : List Int := ina l id ++ jts l (ina l id)
noncomputable def cpM (s : Scene) (id : Int) : MI := cmK (nxt s) (ida s.2.2 id) (ida s.2.2 id).length
theorem v_37o {s : Scene} (hr : rightB s = true) (hs : Small s.2.2) {n : Int} (hn : Is s.2.2 n) : F_37o s n = some (ina s.2.2 n) := by
  have h := right_of hr
  have h1 : F_73 s n = some (inT s.2.2 100 n) := v_73n h hs 100 0 n hn (fun j hj => by
    obtain rfl : j = 0 := by omega
    exact h.pos hn) (by have := h.len; omega)
  have h2 : F_74 (inT s.2.2 100 n) = some ((), sortI (inT s.2.2 100 n), ()) := by
    unfold F_74
    rw [show Nat.ble (inT s.2.2 100 n).length 1000000 = true from Nat.ble_eq_true_of_le (by have := h.few hs 100 hn; omega)]
    rfl
  unfold F_37o
  rw [v_20 s hs, hr]
  simp only [Option.bind_some, Bool.not_true, cond_false, h1, h2]
  rfl
theorem ina_few {s : Scene} (hr : rightB s = true) (hs : Small s.2.2) {n : Int} (hn : Is s.2.2 n) : (ina s.2.2 n).length ≤ 40 := by
  unfold ina
  rw [sortI_len]
  exact (right_of hr).few hs 100 hn
theorem jts_few {l : List Thing} (a : List Int) : (jts l a).length ≤ l.length := by
  unfold jts
  rw [List.length_map]
  exact List.length_filter_le _ _
theorem next_range {s : Scene} (hr : rightB s = true) : 1 ≤ nxt s ∧ nxt s ≤ 1000001 := by
  unfold rightB at hr
  rw [Bool.and_eq_true] at hr
  have h := hr.1
  unfold plainB at h
  simp only [Bool.and_eq_true, decide_eq_true_eq] at h
  exact ⟨h.2.2.1, h.2.2.2.1⟩
/-- What a copy is. -/
theorem v_42 (s : Scene) (id : Int) (q : Vec) (hs : Small s.2.2) (hr : rightB s = true) :
    (∃ e : Int, e ≠ 0 ∧ F_42 s id q = some ((noScene, 0, e, ()) : Els [tScene, I, I])) ∨
    (Is s.2.2 id ∧ (getB s.2.2 id).1.2.1 ≠ 2 ∧ s.2.2.length + (ida s.2.2 id).length ≤ 40 ∧ nxt s + (ida s.2.2 id).length ≤ 1000001 ∧
      ∃ out, cpL (cpM s id) q s.2.2 (ida s.2.2 id) s.2.2 = .inl out ∧ F_42 s id q = some (((s.1, nxt s + (ida s.2.2 id).length, out), (tget (.int .i64) (.int .i64) id (cpM s id)).getD 0, 0, ()) : Els [tScene, I, I])) := by
  have hR := right_of hr
  have h40 := hR.len
  have hnx := next_range hr
  have e23 := v_23 s id hs.1 hs.2
  have e20 := v_20 s hs
  rw [hr] at e20
  unfold F_42
  by_cases hb : (getB s.2.2 id).2 = false
  · refine .inl ⟨10, by decide, bind_ofV e23 (bind_ofV e20 (noV rfl (yesV ?_ rfl)))⟩
    show (!(getB s.2.2 id).2) = true
    rw [hb]; rfl
  have hb : (getB s.2.2 id).2 = true := by simpa using hb
  have hn : Is s.2.2 id := by
    unfold getB at hb
    cases hx : idx s.2.2 id with
    | none => rw [hx] at hb; cases hb
    | some k =>
      obtain ⟨t, h1, h2⟩ := idx_lt hx
      exact ⟨t, List.mem_of_getElem? h1, h2⟩
  by_cases hk : (getB s.2.2 id).1.2.1 = 2
  · refine .inl ⟨9, by decide, bind_ofV e23 (bind_ofV e20 (noV rfl (noV ?_ (yesV ?_ rfl))))⟩
    · show (!(getB s.2.2 id).2) = false
      rw [hb]; rfl
    · show ((getB s.2.2 id).1.2.1 == (2 : Int)) = true
      simpa using hk
  have fa := ina_few hr hs hn
  have fj := jts_few (l := s.2.2) (ina s.2.2 id)
  have e37 := v_37o hr hs hn
  have e81 := v_81 s (ina s.2.2 id) hs (by omega) (by omega)
  have hil : (ida s.2.2 id).length = (ina s.2.2 id).length + (jts s.2.2 (ina s.2.2 id)).length := by unfold ida; simp
  have c1 : (!(getB s.2.2 id).2) = false := by rw [hb]; rfl
  have c2 : ((getB s.2.2 id).1.2.1 == (2 : Int)) = false := by simpa using hk
  have c3 : ((((ina s.2.2 id).length + (jts s.2.2 (ina s.2.2 id)).length) * 8).ble 70368744177664) = true := Nat.ble_eq_true_of_le (by omega)
  by_cases h1 : (s.2.2.length : Int) + ((ida s.2.2 id).length : Int) > 40
  · refine .inl ⟨12, by decide, bind_ofV e23 (bind_ofV e20 (noV rfl (noV c1 (noV c2 (bind_ofV e37 (bind_ofV e81 (yesV c3 (yesV ?_ rfl))))))))⟩
    show decide (IntKind.i64.wrap ((s.2.2.length : Int) + ((ida s.2.2 id).length : Int)) > 40) = true
    rw [wrap64 (by omega) (by omega)]
    exact decide_eq_true h1
  have c4 : decide (IntKind.i64.wrap ((s.2.2.length : Int) + ((ida s.2.2 id).length : Int)) > 40) = false := by
    rw [wrap64 (by omega) (by omega)]
    exact decide_eq_false h1
  by_cases h2 : nxt s + ((ida s.2.2 id).length : Int) > 1000001
  · refine .inl ⟨12, by decide, bind_ofV e23 (bind_ofV e20 (noV rfl (noV c1 (noV c2 (bind_ofV e37 (bind_ofV e81 (yesV c3 (noV c4 (yesV ?_ rfl)))))))))⟩
    show decide (IntKind.i64.wrap (nxt s + ((ida s.2.2 id).length : Int)) > 1000001) = true
    rw [wrap64 (by omega) (by omega)]
    exact decide_eq_true h2
  have c5 : decide (IntKind.i64.wrap (nxt s + ((ida s.2.2 id).length : Int)) > 1000001) = false := by
    rw [wrap64 (by omega) (by omega)]
    exact decide_eq_false h2
  have e42 := q_42_14 id s q noScene (ida s.2.2 id) (by omega) (by omega) (by omega)
  have e82 := v_82 s.2.2 hs (by omega)
  have e83 := v_83 (ida s.2.2 id) s q s.2.2 (cpM s id) hs (by omega) (by omega)
  cases hc : cpL (cpM s id) q s.2.2 (ida s.2.2 id) s.2.2 with
  | inr e =>
    rw [hc] at e83
    refine .inl ⟨e, cpL_err hc, bind_ofV e23 (bind_ofV e20 (noV rfl (noV c1 (noV c2 (bind_ofV e37 (bind_ofV e81 (yesV c3 (noV c4 (noV c5 (bind_ofV e42 (bind_ofV e82 (bind_ofV e83 (yesV ?_ rfl)))))))))))))⟩
    simpa using cpL_err hc
  | inl out =>
    rw [hc] at e83
    refine .inr ⟨hn, hk, by omega, by omega, out, rfl, bind_ofV e23 (bind_ofV e20 (noV rfl (noV c1 (noV c2 (bind_ofV e37 (bind_ofV e81 (yesV c3 (noV c4 (noV c5 (bind_ofV e42 (bind_ofV e82 (bind_ofV e83 ?_))))))))))))⟩
    show some (((s.1, IntKind.i64.wrap (nxt s + ((ida s.2.2 id).length : Int)), out), _, (0 : Int), ()) : Els [tScene, I, I]) = _
    rw [wrap64 (by omega) (by omega)]
end Go.DI.S

/-! KinCopies, plain: what does not hang on how many there are. -/
set_option linter.unusedVariables false
set_option linter.unusedSimpArgs false
set_option maxRecDepth 100000
namespace Go.DI.S
open Go.Proofs
theorem cpL_cons {c : MI} {q : Vec} {l : List Thing} {n : Int} {ns : List Int} {acc : List Thing} {u : Thing} (h : cpT c q (getB l n).1 = .inl u) : cpL c q l (n :: ns) acc = cpL c q l ns (acc ++ [u]) := by
  simp only [cpL, h]
theorem v_42_ok (s : Scene) (id : Int) (q : Vec) (hs : Small s.2.2) (hr : rightB s = true) (hn : Is s.2.2 id) (hk : (getB s.2.2 id).1.2.1 ≠ 2) (h1 : s.2.2.length + (ida s.2.2 id).length ≤ 40) (h2 : nxt s + (ida s.2.2 id).length ≤ 1000001)
    {out : List Thing} (ho : cpL (cpM s id) q s.2.2 (ida s.2.2 id) s.2.2 = .inl out) : F_42 s id q = some (((s.1, nxt s + (ida s.2.2 id).length, out), (tget (.int .i64) (.int .i64) id (cpM s id)).getD 0, 0, ()) : Els [tScene, I, I]) := by
  have hR := right_of hr
  have h40 := hR.len
  have hnx := next_range hr
  have e23 := v_23 s id hs.1 hs.2
  have e20 := v_20 s hs
  rw [hr] at e20
  unfold F_42
  have hb : (getB s.2.2 id).2 = true := by
    obtain ⟨t, ht, rfl⟩ := hn
    rw [hR.asc.getB ht]
  have fa := ina_few hr hs hn
  have fj := jts_few (l := s.2.2) (ina s.2.2 id)
  have e37 := v_37o hr hs hn
  have e81 := v_81 s (ina s.2.2 id) hs (by omega) (by omega)
  have hil : (ida s.2.2 id).length = (ina s.2.2 id).length + (jts s.2.2 (ina s.2.2 id)).length := by unfold ida; simp
  have c1 : (!(getB s.2.2 id).2) = false := by rw [hb]; rfl
  have c2 : ((getB s.2.2 id).1.2.1 == (2 : Int)) = false := by simpa using hk
  have c3 : ((((ina s.2.2 id).length + (jts s.2.2 (ina s.2.2 id)).length) * 8).ble 70368744177664) = true := Nat.ble_eq_true_of_le (by omega)
  have c4 : decide (IntKind.i64.wrap ((s.2.2.length : Int) + ((ida s.2.2 id).length : Int)) > 40) = false := by
    rw [wrap64 (by omega) (by omega)]
    exact decide_eq_false (by omega)
  have c5 : decide (IntKind.i64.wrap (nxt s + ((ida s.2.2 id).length : Int)) > 1000001) = false := by
    rw [wrap64 (by omega) (by omega)]
    exact decide_eq_false (by omega)
  have e42 := q_42_14 id s q noScene (ida s.2.2 id) (by omega) (by omega) (by omega)
  have e82 := v_82 s.2.2 hs (by omega)
  have e83 := v_83 (ida s.2.2 id) s q s.2.2 (cpM s id) hs (by omega) (by omega)
  rw [ho] at e83
  refine bind_ofV e23 (bind_ofV e20 (noV rfl (noV c1 (noV c2 (bind_ofV e37 (bind_ofV e81 (yesV c3 (noV c4 (noV c5 (bind_ofV e42 (bind_ofV e82 (bind_ofV e83 ?_))))))))))))
  show some (((s.1, IntKind.i64.wrap (nxt s + ((ida s.2.2 id).length : Int)), out), _, (0 : Int), ()) : Els [tScene, I, I]) = _
  rw [wrap64 (by omega) (by omega)]
theorem addF_ok {a b : Int} (h1 : -4000000000000000000 ≤ a) (h2 : a ≤ 4000000000000000000) (h3 : -4000000000000000000 ≤ b) (h4 : b ≤ 4000000000000000000) : addF a b = .inl (a + b) := by
  unfold addF
  rw [wrap64 (by omega) (by omega)]
  by_cases ha : a < 0 <;> by_cases hb : b < 0
  · rw [decide_eq_true ha, decide_eq_true hb, decide_eq_true (by omega : a + b < 0)]; rfl
  · rw [decide_eq_true ha, decide_eq_false hb]; rfl
  · rw [decide_eq_false ha, decide_eq_true hb]; rfl
  · rw [decide_eq_false ha, decide_eq_false hb, decide_eq_false (by omega : ¬ a + b < 0)]; rfl
theorem v_126 (a l h : Int) (h1 : l ≤ a) (h2 : a ≤ h) : F_126 a l h = some ((true, ()) : Els [.bool]) := by
  unfold F_126
  rw [decide_eq_true (show a ≥ l from h1), cond_true, decide_eq_true h2]
def ballB (p : Vec) : Body := (1, (4294967296, 0), 4294967296, p, (0, 0))
theorem ball_rb (p q : Int) (h1 : -42949672960000 ≤ p) (h2 : p ≤ 42949672960000) (h3 : -42949672960000 ≤ q) (h4 : q ≤ 42949672960000) : rb (ballB (p, q)) = true := by
  have h : F_88 (ballB (p, q)) = ((F_127 (p, q) 42949672960000).bind fun v15 => bif v15.1 then (F_127 (0, 0) 4294967296000000).bind fun v17 => some (v17.1, ()) else some (false, ())) := by kernel_rfl
  have h5 : F_127 (p, q) 42949672960000 = some ((true, ()) : Els [.bool]) := by
    unfold F_127
    rw [wrap64 (x := (0 : Int) - 42949672960000) (by omega) (by omega)]
    refine bind_ofV (v_126 p _ _ (by omega) h2) (yesV rfl (bind_ofV (v_126 q _ _ (by omega) h4) rfl))
  have h6 : F_88 (ballB (p, q)) = some ((true, ()) : Els [.bool]) := by
    rw [h, h5]; kernel_rfl
  have h7 := v_88 (ballB (p, q))
  rw [h6] at h7
  injection h7 with h7
  exact (congrArg Prod.fst h7).symm
def ball (k : Int) : Thing := (k, 1, ballB (k * 4294967296, 0), (0, 0, 0), [])
def uB (k X Y : Int) : Thing := (100 + k, 1, ballB (k * 4294967296 + X, 0 + Y), (0, 0, 0), [])
def zeroB : Body := (0, (0, 0), 0, (0, 0), (0, 0))
def jnt (k : Int) : Thing := (50 + k, 2, zeroB, (k, k + 1, k * 4294967296), [])
def uJ (n k : Int) : Thing := (101 + n + k, 2, zeroB, (100 + k, 101 + k, k * 4294967296), [])
theorem ballT {c : MI} {k X Y : Int} (hc : cof c k = 100 + k) (hk1 : 0 ≤ k) (hk2 : k ≤ 9) (h1 : -2147483648000 ≤ X) (h2 : X ≤ 2147483648000) (h3 : -2147483648000 ≤ Y) (h4 : Y ≤ 2147483648000) : cpT c (X, Y) (ball k) = .inl (uB k X Y) := by
  have h : cpT c (X, Y) (ball k) = (match movV (k * 4294967296, 0) (X, Y) with
    | .inl p => bif rb (ballB p) then .inl (cof c k, 1, ballB p, (0, 0, 0), []) else .inr 3
    | .inr e => .inr e) := rfl
  rw [h]
  unfold movV
  simp only []
  rw [addF_ok (by omega) (by omega) (by omega) (by omega), addF_ok (by omega) (by omega) (by omega) (by omega)]
  simp only []
  rw [ball_rb _ _ (by omega) (by omega) (by omega) (by omega), hc]
  rfl
theorem getT {c : MI} {q : Vec} {l : List Thing} {n : Int} {t u : Thing} (h : getB l n = (t, true)) (k : cpT c q t = .inl u) : cpT c q (getB l n).1 = .inl u := by
  rw [h]; exact k
theorem step_15 (x y : Int) (n k : Nat) (sc : Scene) (hx1 : -500 ≤ x) (hx2 : x ≤ 500) (hy1 : -500 ≤ y) (hy2 : y ≤ 500) (hn : n ≤ 8) (hk : k < n) (hs : Small sc.2.2)
    (hB : getB sc.2.2 (101 + (k : Int)) = (uB ((k : Int) + 1) (x * 4294967296) (y * 4294967296), true)) (hJ : k ≠ 0 → getB sc.2.2 (101 + (n : Int) + (k : Int)) = (uJ (n : Int) (k : Int), true)) :
    G_15_21 x y (n : Int) (k : Int) (sc, ()) = some (.inl ((x, y, (n : Int), (), ((k + 1 : Nat) : Int), ()), (sc, ()), ())) := by
  have e1 : IntKind.i64.wrap (101 + (k : Int)) = 101 + (k : Int) := wrap64 (by omega) (by omega)
  have e2 : IntKind.i64.wrap ((k : Int) + 1) = ((k + 1 : Nat) : Int) := by rw [wrap64 (by omega) (by omega)]; omega
  have e3 : IntKind.i64.wrap (IntKind.i64.wrap (101 + (n : Int)) + (k : Int)) = 101 + (n : Int) + (k : Int) := by
    rw [wrap64 (x := 101 + (n : Int)) (by omega) (by omega), wrap64 (by omega) (by omega)]
  simp only [G_15_21, dec_lt hk, cond_true, e1, v_23 sc _ hs.1 hs.2, hB, Option.bind_some, Bool.not_true, cond_false]
  refine noV (bne_eq_false_iff_eq.2 ?_) (noV (bne_eq_false_iff_eq.2 ?_) (noV (bne_eq_false_iff_eq.2 rfl) ?_))
  · show ((k : Int) + 1) * 4294967296 + x * 4294967296 = _
    rw [e2, wrap64 (x := ((k + 1 : Nat) : Int) + x) (by omega) (by omega), wrap64 (by omega) (by omega)]
    omega
  · show 0 + y * 4294967296 = _
    rw [wrap64 (by omega) (by omega)]; omega
  · by_cases h0 : k = 0
    · subst h0
      exact yesV rfl (by rw [e2])
    · refine noV (beq_eq_false_iff_ne.2 fun h => h0 (Int.natCast_eq_zero.1 h)) ?_
      simp only [e3, hJ h0, Option.bind_some, Bool.not_true, cond_false]
      refine noV (bne_eq_false_iff_eq.2 rfl) (noV ?_ (by rw [e2]))
      have f1 : ((uJ (n : Int) (k : Int)).2.2.2.1.1 == IntKind.i64.wrap (100 + (k : Int))) = true := by
        rw [wrap64 (by omega) (by omega)]; exact beq_self_eq_true _
      have f2 : ((uJ (n : Int) (k : Int)).2.2.2.1.2.1 == 101 + (k : Int)) = true := beq_self_eq_true _
      have f3 : ((uJ (n : Int) (k : Int)).2.2.2.1.2.2 == IntKind.i64.wrap ((k : Int) * 4294967296)) = true := by
        rw [wrap64 (by omega) (by omega)]; exact beq_self_eq_true _
      show (!((uJ (n : Int) (k : Int)).2.2.2.1.1 == IntKind.i64.wrap (100 + (k : Int)) && ((uJ (n : Int) (k : Int)).2.2.2.1.2.1 == 101 + (k : Int) && ((uJ (n : Int) (k : Int)).2.2.2.1.2.2 == IntKind.i64.wrap ((k : Int) * 4294967296) && true)))) = false
      rw [f1, f2, f3]; rfl
theorem loop_15 (x y : Int) (n : Nat) (sc : Scene) (hx1 : -500 ≤ x) (hx2 : x ≤ 500) (hy1 : -500 ≤ y) (hy2 : y ≤ 500) (hn : n ≤ 8) (hs : Small sc.2.2)
    (hB : ∀ k, k < n → getB sc.2.2 (101 + (k : Int)) = (uB ((k : Int) + 1) (x * 4294967296) (y * 4294967296), true)) (hJ : ∀ k, k < n → k ≠ 0 → getB sc.2.2 (101 + (n : Int) + (k : Int)) = (uJ (n : Int) (k : Int), true)) :
    R_15_21 ((x, y, (n : Int), (), (0 : Int), ()), (sc, ()), ()) = some (.inl ((), ())) := by
  have h := rounds_to (G := fun x => G_15_21 x.1.1 x.1.2.1 x.1.2.2.1 x.1.2.2.2.2.1 x.2.1) (n := n) (inv := fun k => ((x, y, (n : Int), (), (k : Int), ()), (sc, ()), ())) (y := .inl ((), ())) (fun k hk => step_15 x y n k sc hx1 hx2 hy1 hy2 hn hk hs (hB k hk) (hJ k hk)) ?_ n 0 fuel (by omega) (fuel_lt (by omega))
  · exact h
  · show G_15_21 x y (n : Int) (n : Int) (sc, ()) = _
    simp only [G_15_21, dec_end, cond_false]
theorem right_by {s : Scene} (hs : Small s.2.2) (h : F_20 s = some (true, ())) : rightB s = true := by
  have := v_20 s hs
  rw [h] at this
  injection this with this
  exact (congrArg Prod.fst this).symm
/-- KinCopies for so many, from closed facts. -/
theorem copies_of (x y : Int) (n : Nat) (hx1 : -500 ≤ x) (hx2 : x ≤ 500) (hy1 : -500 ≤ y) (hy2 : y ≤ 500) (h2 : 2 ≤ n) (hn : n ≤ 8) {bs js : List Thing} {ids : List Int} {ts : Scene} {out : List Thing}
    (hA : R_15_6 ((x, y, (n : Int), (), (), (1 : Int), ()), (((0 : Int), (0 : Int)), (100 : Int), (), ()), [], [], ()) = some (.inl ((x, y, (n : Int), (), (), ()), (((0 : Int), (0 : Int)), (100 : Int), (), ()), bs, ids, ())))
    (hA2 : R_15_11 ((x, y, (n : Int), (), (), (1 : Int), ()), (((0 : Int), (0 : Int)), (100 : Int), (), ()), bs, ids, ()) = some (.inl ((x, y, (n : Int), (), ids, ()), ((((0 : Int), (0 : Int)), (100 : Int), js), ()), ())))
    (hH : F_41w (((0 : Int), (0 : Int)), (100 : Int), js) ids = some (ts, 100, 0, ())) (hs : Small ts.2.2) (hr : F_20 ts = some (true, ())) (hg : getB ts.2.2 100 = ((100, 3, zeroB, (0, 0, 0), ids), true)) (hi : Is ts.2.2 100)
    (hl : ts.2.2.length = 2 * n) (hil : (ida ts.2.2 100).length = 2 * n) (hnx : nxt ts = 101)
    (hc : cpL (cpM ts 100) (x * 4294967296, y * 4294967296) ts.2.2 (ida ts.2.2 100) ts.2.2 = .inl out) (hc2 : (tget (.int .i64) (.int .i64) 100 (cpM ts 100)).getD 0 = 101 + (n : Int)) (hol : out.length = 4 * n) (hos : Small out)
    (hB : ∀ k, k < n → getB out (101 + (k : Int)) = (uB ((k : Int) + 1) (x * 4294967296) (y * 4294967296), true)) (hJ : ∀ k, k < n → k ≠ 0 → getB out (101 + (n : Int) + (k : Int)) = (uJ (n : Int) (k : Int), true)) : F_15 x y (n : Int) = some (true, ()) := by
  have hr := right_by hs hr
  unfold F_15
  refine noV (decide_eq_false (Int.not_lt.2 hx1)) (noV (decide_eq_false (Int.not_lt.2 hy1)) (noV (decide_eq_false (Int.not_lt.2 hx2)) (noV (decide_eq_false (Int.not_lt.2 hy2)) (noV (decide_eq_false (Int.not_lt.2 (by omega : (2 : Int) ≤ (n : Int)))) (noV (decide_eq_false (Int.not_lt.2 (by omega : (n : Int) ≤ 8))) (bind_ofV alive36 (noV rfl (bind_ofV hA (bind_ofV hA2 (bind_ofV hH (noV rfl (noV rfl ?_))))))))))))
  have h42 := v_42_ok ts 100 (x * 4294967296, y * 4294967296) hs hr hi (by rw [hg]; show (3 : Int) ≠ 2; decide) (by omega) (by omega) hc
  rw [hc2] at h42
  have hx : IntKind.i64.wrap (x * 4294967296) = x * 4294967296 := wrap64 (by omega) (by omega)
  have hy : IntKind.i64.wrap (y * 4294967296) = y * 4294967296 := wrap64 (by omega) (by omega)
  show (F_42 ts 100 (IntKind.i64.wrap (x * 4294967296), IntKind.i64.wrap (y * 4294967296))).bind _ = _
  rw [hx, hy]
  refine bind_ofV h42 (noV rfl (noV (bne_eq_false_iff_eq.2 ?_) (noV (bne_eq_false_iff_eq.2 ?_) (bind_ofV (loop_15 x y n (ts.1, nxt ts + (ida ts.2.2 100).length, out) hx1 hx2 hy1 hy2 hn hos hB hJ) rfl))))
  · show ((out.length : Nat) : Int) = IntKind.i64.wrap (2 * ((ts.2.2.length : Nat) : Int))
    rw [wrap64 (by omega) (by omega)]; omega
  · show 101 + (n : Int) = IntKind.i64.wrap (101 + (n : Int))
    rw [wrap64 (by omega) (by omega)]
end Go.DI.S

