import Derived.Test.YtehnecfmjfpclaaGreatPa
/- The past, steps as bytes, records: plain. No conditions. -/
set_option linter.unusedVariables false
set_option linter.unusedSimpArgs false
set_option maxRecDepth 100000
namespace Go.DI.S
open Go.Proofs
theorem take_one {α : Type} {l : List α} {k : Nat} {a : α} (h : l[k]? = some a) : l.take (k + 1) = l.take k ++ [a] := by
  rw [List.take_add_one, h]; rfl
theorem putI_len {t : Thing} (hl : (ins t).length ≤ 20) : (putI t).length ≤ 100 := by
  have h20 : t.2.2.2.2.length ≤ 20 := hl
  unfold putI
  rw [List.length_append, List.length_append, numI_len, numI_len]
  cases (t.2.1 == (1 : Int)) <;> cases (t.2.1 == (2 : Int)) <;> cases (t.2.1 == (3 : Int)) <;> simp [bodyI, jointI, vecI_len, numI_len, insI_len] <;> omega
section
variable {s : Scene}
end
end Go.DI.S
set_option linter.unusedVariables false
set_option linter.unusedSimpArgs false
set_option maxRecDepth 100000
namespace Go.DI.S
open Go.Proofs
def Oks (l : List Entry) : Prop := ∀ e ∈ l, RE e
theorem v_116 {e : Entry} (h : RE e) : F_116 e = some ((false, ()) : Els [.bool]) := by
  unfold F_116
  refine bind_ofV (v_64 e (by have := h.len; omega)) ?_
  rw [rightE_iff.2 h]; rfl
theorem v_134 (l : List Entry) (h : Oks l) (hl : l.length ≤ 1000) : F_134 l () = some ((-1, ()) : Els [I]) := by
  unfold F_134
  have := rounds_to (G := fun x => G_134_2 x.1.1 x.1.2.1 x.1.2.2.1 x.1.2.2.2.1) (n := l.length) (inv := fun k => ((l, (), (l.length : Int), (k : Int), ()), ())) (y := .inl ((), ())) (fun k hk => ?_) ?_ l.length 0 fuel (by omega) (fuel_lt (by omega))
  · exact bind_ofV this rfl
  · have ha := List.getElem?_eq_getElem hk
    show G_134_2 l () (l.length : Int) (k : Int) = _
    unfold G_134_2
    simp only [dec_lt hk, dec_in hk, cond_true, getD_of ha, wrap_up hk (by omega)]
    exact bind_ofV (v_116 (h _ (List.getElem_mem hk))) rfl
  · show G_134_2 l () (l.length : Int) (l.length : Int) = _
    unfold G_134_2
    simp only [dec_end, cond_false]
theorem v_72 (l : List Entry) (h : Oks l) (hl : l.length ≤ 16) : F_72 l = some ((true, ()) : Els [.bool]) := by
  unfold F_72
  refine yesV (decide_eq_true (by omega)) ?_
  have : F_115 l () = some ((false, ()) : Els [.bool]) := by
    unfold F_115
    exact bind_ofV (v_134 l h (by omega)) rfl
  exact bind_ofV this rfl
theorem v_35 (l m : List Entry) (h : Oks l) (k : Oks m) (hl : l.length ≤ 16) (hm : m.length ≤ 16) : F_35 (l, m) = some ((true, ()) : Els [.bool]) := by
  unfold F_35
  exact bind_ofV (v_72 l h hl) (bind_ofV (v_72 m k hm) rfl)
theorem v_132 (l : List Delta) (h : l.length ≤ 1000) : F_132 l = some ((l, ()) : Els [.list tDelta]) := by
  unfold F_132 O_132
  rw [show Nat.ble (l.length * 40) 70368744177664 = true from Nat.ble_eq_true_of_le (by omega)]
  rfl
theorem v_107 (l : List Entry) (h : Oks l) (hl : l.length ≤ 1000) : F_107 l = some ((l, ()) : Els [.list tEntry]) := by
  unfold F_107
  have := rounds_to (G := fun x => G_107_3 x.1.2.1 x.1.2.2.1 x.1.2.2.2.1 x.2.1) (n := l.length) (inv := fun k => (((), l, (l.length : Int), (k : Int), ()), l.take k, ())) (y := .inl (((), ()), l, ())) (fun k hk => ?_) ?_ l.length 0 fuel (by omega) (fuel_lt (by omega))
  · exact bind_ofV this rfl
  · have ha := List.getElem?_eq_getElem hk
    have hlen := (h _ (List.getElem_mem hk)).len
    show G_107_3 l (l.length : Int) (k : Int) (l.take k) = _
    unfold G_107_3
    simp only [dec_lt hk, dec_in hk, cond_true, getD_of ha, wrap_up hk (by omega)]
    refine bind_ofV (v_132 _ (by omega)) (yesV (Nat.ble_eq_true_of_le ?_) ?_)
    · simp only [List.length_take, List.length_singleton]; omega
    · rw [take_one ha]
  · show G_107_3 l (l.length : Int) (l.length : Int) (l.take l.length) = _
    unfold G_107_3
    simp only [dec_end, cond_false, List.take_length]
theorem v_108 (l : List Entry) (hl : l.length ≤ 1000) : F_108 l = some l := by
  unfold F_108
  rw [show Nat.ble (l.length * 80) 70368744177664 = true from Nat.ble_eq_true_of_le (by omega)]
  rfl
theorem v_65 (l : List Entry) (e : Entry) (h : Oks l) (k : RE e) (hl : l.length < 16) : F_65 l e = some ((l ++ [e], ()) : Els [.list tEntry]) := by
  have hk : Oks (l ++ [e]) := fun x hx => by
    rcases List.mem_append.1 hx with hx | hx
    · exact h x hx
    · rw [List.mem_singleton.1 hx]; exact k
  have hle : (l ++ [e]).length = l.length + 1 := by simp
  have hz : ¬ (0 : Int) ≤ IntKind.i64.wrap (((l ++ [e]).length : Int) - 16) - 1 := by
    rw [wrap64 (by omega) (by omega)]; omega
  unfold F_65
  refine bind_ofV (v_108 l (by omega)) (yesV (Nat.ble_eq_true_of_le ?_) (bind_ofV (v_107 _ hk (by omega)) ?_))
  · simp only [List.length_singleton]; omega
  · have hw : (if (0 : Int) > IntKind.i64.wrap (((l ++ [e]).length : Int) - 16) then (0 : Int) else IntKind.i64.wrap (((l ++ [e]).length : Int) - 16)) = 0 := by
      rw [wrap64 (by omega) (by omega)]
      split <;> omega
    refine yesV (decide_eq_true ?_) ?_
    · show (0 : Int) ≤ (if (0 : Int) > IntKind.i64.wrap (((l ++ [e]).length : Int) - 16) then (0 : Int) else IntKind.i64.wrap (((l ++ [e]).length : Int) - 16)) ∧ _
      rw [hw]; omega
    · show some ((List.take ((l ++ [e]).length - (if (0 : Int) > IntKind.i64.wrap (((l ++ [e]).length : Int) - 16) then (0 : Int) else IntKind.i64.wrap (((l ++ [e]).length : Int) - 16)).toNat) (List.drop (if (0 : Int) > IntKind.i64.wrap (((l ++ [e]).length : Int) - 16) then (0 : Int) else IntKind.i64.wrap (((l ++ [e]).length : Int) - 16)).toNat (l ++ [e])), ()) : Els [.list tEntry]) = _
      rw [hw]
      simp only [Int.toNat_zero, Nat.sub_zero, List.drop_zero, List.take_length]
theorem v_31 (l m : List Entry) (e : Entry) (h : Oks l) (k : Oks m) (he : RE e) (hl : l.length < 16) (hm : m.length ≤ 16) : F_31 (l, m) e = some (((l ++ [e], []), true, ()) : Els [tPast, .bool]) := by
  unfold F_31
  refine bind_ofV (v_35 l m h k (by omega) hm) (noV rfl (bind_ofV (v_64 e (by have := he.len; omega)) ?_))
  rw [rightE_iff.2 he]
  exact noV rfl (bind_ofV (v_65 l e h he hl) rfl)
end Go.DI.S
set_option linter.unusedVariables false
set_option linter.unusedSimpArgs false
set_option maxRecDepth 100000
namespace Go.DI.S
open Go.Proofs
theorem side_len {n : Int} {b : Str} (h : sideB n b = true) : b.length ≤ 100 := by
  unfold sideB at h
  rw [Bool.or_eq_true] at h
  rcases h with h | h
  · have : b = [] := by simpa using h
    rw [this]; exact Nat.zero_le _
  · cases hg : getO b with
    | none => rw [hg] at h; cases h
    | some t =>
      obtain ⟨h1, h2, h3⟩ := getO_some hg
      rw [← h2, toS_len]
      exact putI_len (Nat.le_trans (rt_ins h1 (by omega)) (by decide))
def bytesN (s : Str) : List Int := s.map fun b => ((b.toNat : Nat) : Int)
theorem bytesN_len (s : Str) : (bytesN s).length = s.length := List.length_map ..
theorem toS_bytes : ∀ (s : Str), toS (bytesN s) = s
  | [] => rfl
  | b :: s => by
    have h := toS_bytes s
    show UInt8.ofNat (((b.toNat : Nat) : Int).toNat) :: toS (bytesN s) = _
    rw [h, Int.toNat_natCast, UInt8.ofNat_toNat]
def textI (s : Str) : List Int := numI (s.length : Int) 2 ++ bytesN s
theorem textI_len (s : Str) : (textI s).length = 2 + s.length := by unfold textI; rw [List.length_append, numI_len, bytesN_len]
theorem v_txt (s : Str) (row : List Int) (hs : s.length ≤ 100000) (hr : row.length ≤ 100000000) : F_txt s ((), ()) row = some ((), ((), ()), row ++ textI s, ()) := by
  unfold F_txt
  have h := v_102 (s.length : Int) 2 row (by omega) (by omega)
  refine bind_ofV h (yesV (Nat.ble_eq_true_of_le ?_) ?_)
  · show ((row ++ numI (s.length : Int) 2).length + s.length) * 1 ≤ 70368744177664
    rw [List.length_append, numI_len]; omega
  · show some ((), ((), ()), (row ++ numI (s.length : Int) 2) ++ bytesN s, ()) = _
    rw [List.append_assoc]; rfl
def deltaI (d : Delta) : List Int := numI d.1 4 ++ (textI d.2.1 ++ textI d.2.2)
def tailI (e : Entry) : List Int := (bif e.2.1 then numI 1 1 ++ (vecI e.2.2.1 ++ vecI e.2.2.2.1) else numI 0 1) ++ (numI e.2.2.2.2.1 4 ++ numI e.2.2.2.2.2 4)
def entryI (e : Entry) : List Int := numI (e.1.length : Int) 1 ++ (e.1.flatMap deltaI ++ tailI e)
theorem tailI_len (e : Entry) : (tailI e).length ≤ 41 := by
  unfold tailI
  cases e.2.1 <;> simp [numI_len, vecI_len]
theorem deltaI_len {d : Delta} (h1 : d.2.1.length ≤ 100) (h2 : d.2.2.length ≤ 100) : (deltaI d).length ≤ 208 := by
  unfold deltaI
  rw [List.length_append, List.length_append, numI_len, textI_len, textI_len]; omega
theorem deltas_len : ∀ (l : List Delta), (∀ d ∈ l, d.2.1.length ≤ 100 ∧ d.2.2.length ≤ 100) → (l.flatMap deltaI).length ≤ 208 * l.length
  | [], _ => by simp
  | d :: l, h => by
    have h1 := deltas_len l fun x hx => h x (List.mem_cons_of_mem _ hx)
    have h2 := deltaI_len (h d List.mem_cons_self).1 (h d List.mem_cons_self).2
    rw [List.flatMap_cons, List.length_append, List.length_cons]; omega
theorem re_sides {e : Entry} (h : RE e) : ∀ d ∈ e.1, d.2.1.length ≤ 100 ∧ d.2.2.length ≤ 100 := fun d hd =>
  have k := DL_lt h.dl d hd
  ⟨side_len k.2.2.2.2.1, side_len k.2.2.2.2.2⟩
theorem entryI_len {e : Entry} (h : RE e) : (entryI e).length ≤ 8400 ∧ 0 < (entryI e).length := by
  unfold entryI
  have h1 := deltas_len e.1 (re_sides h)
  have h2 := tailI_len e
  have h3 := h.len
  rw [List.length_append, List.length_append, numI_len]
  omega
theorem q_putE (e : Entry) (h : RE e) (row : List Int) (hr : row.length ≤ 1000) :
    R_putE_6 (((), (), e.1, (e.1.length : Int), (0 : Int), ()), (e, ()), ((), ()), row, ()) = some (.inl (((), (), ()), (e, ()), ((), ()), row ++ e.1.flatMap deltaI, ())) := by
  have hs := re_sides h
  have h40 := h.len
  have := rounds_to (G := fun x => G_putE_6 x.1.2.2.1 x.1.2.2.2.1 x.1.2.2.2.2.1 x.2.1 x.2.2.1 x.2.2.2.1) (n := e.1.length) (inv := fun k => (((), (), e.1, (e.1.length : Int), (k : Int), ()), (e, ()), ((), ()), row ++ (e.1.take k).flatMap deltaI, ()))
    (y := .inl (((), (), ()), (e, ()), ((), ()), row ++ e.1.flatMap deltaI, ())) (fun k hk => ?_) ?_ e.1.length 0 fuel (by omega) (fuel_lt (by omega))
  · have t0 : R_putE_6 (((), (), e.1, (e.1.length : Int), (0 : Int), ()), (e, ()), ((), ()), row ++ (e.1.take 0).flatMap deltaI, ()) = _ := this
    rw [show row ++ (e.1.take 0).flatMap deltaI = row by simp] at t0
    exact t0
  · have ha := List.getElem?_eq_getElem hk
    have hm := List.getElem_mem hk
    generalize hd : e.1[k] = d at ha hm
    obtain ⟨s1, s2⟩ := hs d hm
    have hl : ((e.1.take k).flatMap deltaI).length ≤ 208 * 40 := by
      have h1 := deltas_len (e.1.take k) fun x hx => hs x (List.mem_of_mem_take hx)
      have h2 : (e.1.take k).length ≤ 40 := by rw [List.length_take]; omega
      omega
    have ht := take_one ha
    show G_putE_6 e.1 (e.1.length : Int) (k : Int) (e, ()) ((), ()) (row ++ (e.1.take k).flatMap deltaI) = _
    unfold G_putE_6
    simp only [dec_lt hk, dec_in hk, cond_true, getD_of ha, wrap_up hk (by omega)]
    have a1 := v_102 d.1 4 (row ++ (e.1.take k).flatMap deltaI) (by omega) (by rw [List.length_append]; omega)
    have a2 := v_txt d.2.1 (row ++ (e.1.take k).flatMap deltaI ++ numI d.1 4) (by omega) (by rw [List.length_append, List.length_append, numI_len]; omega)
    have a3 := v_txt d.2.2 (row ++ (e.1.take k).flatMap deltaI ++ numI d.1 4 ++ textI d.2.1) (by omega) (by rw [List.length_append, List.length_append, List.length_append, numI_len, textI_len]; omega)
    refine bind_ofV a1 (bind_ofV a2 (bind_ofV a3 ?_))
    show some (Sum.inl (((), (), e.1, (e.1.length : Int), ((k + 1 : Nat) : Int), ()), (e, ()), ((), ()), row ++ (e.1.take k).flatMap deltaI ++ numI d.1 4 ++ textI d.2.1 ++ textI d.2.2, ())) = some (Sum.inl (((), (), e.1, (e.1.length : Int), ((k + 1 : Nat) : Int), ()), (e, ()), ((), ()), row ++ (e.1.take (k + 1)).flatMap deltaI, ()))
    rw [ht, List.flatMap_append]
    simp [deltaI]
  · show G_putE_6 e.1 (e.1.length : Int) (e.1.length : Int) (e, ()) ((), ()) (row ++ (e.1.take e.1.length).flatMap deltaI) = _
    unfold G_putE_6
    simp only [dec_end, cond_false, List.take_length]
theorem v_putE (e : Entry) (h : RE e) : F_putE e = some ((toS (entryI e), true, ()) : Els [.str, .bool]) := by
  have h40 := h.len
  have hd := deltas_len e.1 (re_sides h)
  have e64 := v_64 e (by omega)
  rw [rightE_iff.2 h] at e64
  have b0 := v_102 (e.1.length : Int) 1 [] (by omega) (by simp)
  have b1 := q_putE e h ([] ++ numI (e.1.length : Int) 1) (by simp [numI_len])
  have hr : ([] ++ numI (e.1.length : Int) 1 ++ e.1.flatMap deltaI).length ≤ 10000 := by rw [List.length_append, List.length_append, numI_len]; simp only [List.length_nil]; omega
  generalize hrow : ([] ++ numI (e.1.length : Int) 1 ++ e.1.flatMap deltaI) = row at b1 hr
  unfold F_putE
  refine bind_ofV e64 (noV rfl (bind_ofV b0 (bind_ofV b1 ?_)))
  cases ht : e.2.1 with
  | true =>
    have c1 := v_102 1 1 row (by omega) (by omega)
    have c2 := v_103 e.2.2.1 (row ++ numI 1 1) (by rw [List.length_append, numI_len]; omega)
    have c3 := v_103 e.2.2.2.1 (row ++ numI 1 1 ++ vecI e.2.2.1) (by rw [List.length_append, List.length_append, numI_len, vecI_len]; omega)
    have c4 := v_102 e.2.2.2.2.1 4 (row ++ numI 1 1 ++ vecI e.2.2.1 ++ vecI e.2.2.2.1) (by omega) (by rw [List.length_append, List.length_append, List.length_append, numI_len, vecI_len, vecI_len]; omega)
    have c5 := v_102 e.2.2.2.2.2 4 (row ++ numI 1 1 ++ vecI e.2.2.1 ++ vecI e.2.2.2.1 ++ numI e.2.2.2.2.1 4) (by omega) (by rw [List.length_append, List.length_append, List.length_append, List.length_append, numI_len, vecI_len, vecI_len, numI_len]; omega)
    refine yesV ht (bind_ofV c1 (bind_ofV c2 (bind_ofV c3 (bind_ofV c4 (bind_ofV c5 ?_)))))
    show some ((toS (row ++ numI 1 1 ++ vecI e.2.2.1 ++ vecI e.2.2.2.1 ++ numI e.2.2.2.2.1 4 ++ numI e.2.2.2.2.2 4), true, ()) : Els [.str, .bool]) = _
    unfold entryI tailI
    rw [ht, ← hrow]
    simp only [cond_true, List.nil_append, List.append_assoc]
  | false =>
    have c1 := v_102 0 1 row (by omega) (by omega)
    have c4 := v_102 e.2.2.2.2.1 4 (row ++ numI 0 1) (by omega) (by rw [List.length_append, numI_len]; omega)
    have c5 := v_102 e.2.2.2.2.2 4 (row ++ numI 0 1 ++ numI e.2.2.2.2.1 4) (by omega) (by rw [List.length_append, List.length_append, numI_len, numI_len]; omega)
    refine noV ht (bind_ofV c1 (bind_ofV c4 (bind_ofV c5 ?_)))
    show some ((toS (row ++ numI 0 1 ++ numI e.2.2.2.2.1 4 ++ numI e.2.2.2.2.2 4), true, ()) : Els [.str, .bool]) = _
    unfold entryI tailI
    rw [ht, ← hrow]
    simp only [cond_false, List.nil_append, List.append_assoc]
end Go.DI.S
set_option linter.unusedVariables false
set_option linter.unusedSimpArgs false
set_option maxRecDepth 100000
namespace Go.DI.S
open Go.Proofs
def pcs : Nat → Str → List Str
  | 0, _ => []
  | f + 1, b => if b = [] then [] else if b.length ≤ 899 then [1 :: b] else (0 :: b.take 899) :: pcs f (b.drop 899)
theorem pcs_succ (f : Nat) (b : Str) : pcs (f + 1) b = if b = [] then [] else if b.length ≤ 899 then [1 :: b] else (0 :: b.take 899) :: pcs f (b.drop 899) := rfl
def keyed : Nat → List Str → List (Int × Str)
  | _, [] => []
  | k, p :: ps => ((k : Int), p) :: keyed (k + 1) ps
theorem keyed_len : ∀ (k : Nat) (l : List Str), (keyed k l).length = l.length
  | _, [] => rfl
  | k, _ :: l => by show (keyed (k + 1) l).length + 1 = _; rw [keyed_len (k + 1) l]; rfl
theorem keyed_app : ∀ (k : Nat) (a b : List Str), keyed k (a ++ b) = keyed k a ++ keyed (k + a.length) b
  | k, [], b => by simp [keyed]
  | k, p :: a, b => by
    show ((k : Int), p) :: keyed (k + 1) (a ++ b) = ((k : Int), p) :: (keyed (k + 1) a ++ keyed (k + (a.length + 1)) b)
    rw [keyed_app (k + 1) a b, Nat.add_assoc, Nat.add_comm 1]
theorem pcs_nil : ∀ (f : Nat), pcs f [] = []
  | 0 => rfl
  | f + 1 => by unfold pcs; rw [if_pos rfl]
theorem pcs_len : ∀ (f : Nat) (b : Str), (pcs f b).length ≤ f
  | 0, b => Nat.le_refl _
  | f + 1, b => by
    unfold pcs
    split
    · simp
    · split
      · simp
      · have := pcs_len f (b.drop 899)
        rw [List.length_cons]; omega
theorem q_recs16 (es : List Entry) (r80 r81 : Int) : ∀ (f : Nat) (b : Str) (k : Nat) (row : List (Int × Str)) (m : Nat), b.length < f → f ≤ 1000000 → k + f ≤ 1000000000 → row.length + f ≤ 1000000000 → f < m →
    roundsT (fun x => G_recs_16 x.1.2.1 x.1.2.2.1 x.1.2.2.2.1 x.1.2.2.2.2.1 x.1.2.2.2.2.2.1 x.2.1) m (((), (k : Int), b, es, r80, r81, ()), row, ()) = some (.inl (((), ((k + (pcs f b).length : Nat) : Int), es, r80, r81, ()), row ++ keyed k (pcs f b), ()))
  | 0, b, k, row, m, hb, _, _, _, _ => by omega
  | f + 1, b, k, row, m, hb, hf, hk, hr, hm => by
    obtain ⟨m, rfl⟩ : ∃ j, m = j + 1 := ⟨m - 1, by omega⟩
    by_cases h0 : b = []
    · subst h0
      rw [pcs_nil]
      have step : G_recs_16 (k : Int) [] es r80 r81 row = some (.inr (.inl (((), (k : Int), es, r80, r81, ()), row, ()))) := by
        unfold G_recs_16
        exact noV rfl rfl
      rw [rounds_out step m]
      simp [keyed]
    have hpos : 0 < b.length := List.length_pos_iff.2 h0
    have hbe : (!(b == [])) = true := by simpa using h0
    have hwk : IntKind.i64.wrap ((k : Int) + 1) = ((k + 1 : Nat) : Int) := by rw [wrap64 (by omega) (by omega)]; omega
    have hble : ∀ z : Int × Str, Nat.ble ((row.length + [z].length) * 24) 70368744177664 = true := fun z => Nat.ble_eq_true_of_le (by simp only [List.length_singleton]; omega)
    by_cases hc : b.length ≤ 899
    · have hif : (if (899 : Int) < (b.length : Int) then (899 : Int) else (b.length : Int)) = ((b.length : Nat) : Int) := if_neg (by omega)
      have hp : pcs (f + 1) b = [1 :: b] := by rw [pcs_succ, if_neg h0, if_pos hc]
      have step : G_recs_16 (k : Int) b es r80 r81 row = some (.inl (((), ((k + 1 : Nat) : Int), [], es, r80, r81, ()), row ++ [((k : Int), 1 :: b)], ())) := by
        unfold G_recs_16
        simp only [hif, Int.toNat_natCast, Nat.sub_zero, List.drop_zero, List.take_length, Nat.sub_self, List.take_zero]
        refine yesV hbe (yesV (beq_self_eq_true _) (yesV (decide_eq_true (by omega)) (yesV (decide_eq_true (by omega)) (yesV (hble _) (yesV (decide_eq_true (by omega)) ?_)))))
        rw [hwk]; rfl
      have ih := q_recs16 es r80 r81 f [] (k + 1) (row ++ [((k : Int), 1 :: b)]) m (by simp only [List.length_nil]; omega) (by omega) (by omega) (by rw [List.length_append, List.length_singleton]; omega) (by omega)
      rw [pcs_nil] at ih
      rw [rounds_in step m, ih, hp]
      simp [keyed]
    · have hif : (if (899 : Int) < (b.length : Int) then (899 : Int) else (b.length : Int)) = ((899 : Nat) : Int) := if_pos (by omega)
      have hp : pcs (f + 1) b = (0 :: b.take 899) :: pcs f (b.drop 899) := by rw [pcs_succ, if_neg h0, if_neg hc]
      have hne : (((899 : Nat) : Int) == (b.length : Int)) = false := beq_false_of_ne (by omega)
      have hdl : (b.drop 899).length = b.length - 899 := List.length_drop
      have step : G_recs_16 (k : Int) b es r80 r81 row = some (.inl (((), ((k + 1 : Nat) : Int), b.drop 899, es, r80, r81, ()), row ++ [((k : Int), 0 :: b.take 899)], ())) := by
        unfold G_recs_16
        simp only [hif, Int.toNat_natCast, Nat.sub_zero, List.drop_zero]
        refine yesV hbe (noV hne (yesV (decide_eq_true (by omega)) (yesV (decide_eq_true (by rw [List.length_take]; omega)) (yesV (hble _) (yesV (decide_eq_true (by omega)) ?_)))))
        rw [hwk, ← hdl, List.take_length]; rfl
      have ih := q_recs16 es r80 r81 f (b.drop 899) (k + 1) (row ++ [((k : Int), 0 :: b.take 899)]) m (by rw [hdl]; omega) (by omega) (by omega) (by rw [List.length_append, List.length_singleton]; omega) (by omega)
      rw [rounds_in step m, ih, hp]
      show some (Sum.inl (((), ((k + 1 + (pcs f (b.drop 899)).length : Nat) : Int), es, r80, r81, ()), row ++ [((k : Int), 0 :: b.take 899)] ++ keyed (k + 1) (pcs f (b.drop 899)), ())) = some (Sum.inl (((), ((k + ((pcs f (b.drop 899)).length + 1) : Nat) : Int), es, r80, r81, ()), row ++ ((k : Int), 0 :: b.take 899) :: keyed (k + 1) (pcs f (b.drop 899)), ()))
      rw [List.append_assoc, show k + 1 + (pcs f (b.drop 899)).length = k + ((pcs f (b.drop 899)).length + 1) by omega]
      rfl
def pE (e : Entry) : List Str := pcs 9000 (toS (entryI e))
theorem pE_len (e : Entry) : (pE e).length ≤ 9000 := pcs_len _ _
def allP (es : List Entry) : List Str := es.flatMap pE
theorem allP_len : ∀ (es : List Entry), (allP es).length ≤ 9000 * es.length
  | [] => Nat.le_refl _
  | e :: es => by
    have h1 := allP_len es
    have h2 := pE_len e
    show (pE e ++ allP es).length ≤ _
    rw [List.length_append, List.length_cons]; omega
theorem allP_take {es : List Entry} {k : Nat} {e : Entry} (h : es[k]? = some e) : allP (es.take (k + 1)) = allP (es.take k) ++ pE e := by
  unfold allP
  rw [take_one h, List.flatMap_append]; simp
theorem q_recs13 (es : List Entry) (h : Oks es) (hl : es.length ≤ 40) (row : List (Int × Str)) (hr : row.length ≤ 1000) :
    R_recs_13 (((), (2000000 : Int), es, (es.length : Int), (0 : Int), ()), row, ()) = some (.inl (((), ()), row ++ keyed 2000000 (allP es), ())) := by
  have := rounds_to (G := fun x => G_recs_13 x.1.2.1 x.1.2.2.1 x.1.2.2.2.1 x.1.2.2.2.2.1 x.2.1) (n := es.length) (inv := fun k => (((), ((2000000 + (allP (es.take k)).length : Nat) : Int), es, (es.length : Int), (k : Int), ()), row ++ keyed 2000000 (allP (es.take k)), ()))
    (y := .inl (((), ()), row ++ keyed 2000000 (allP es), ())) (fun k hk => ?_) ?_ es.length 0 fuel (by omega) (fuel_lt (by omega))
  · have t0 : R_recs_13 (((), ((2000000 + (allP (es.take 0)).length : Nat) : Int), es, (es.length : Int), (0 : Int), ()), row ++ keyed 2000000 (allP (es.take 0)), ()) = _ := this
    rw [show row ++ keyed 2000000 (allP (es.take 0)) = row by simp [allP, keyed], show ((2000000 + (allP (es.take 0)).length : Nat) : Int) = 2000000 by simp [allP]] at t0
    exact t0
  · have ha := List.getElem?_eq_getElem hk
    have hE := h _ (List.getElem_mem hk)
    generalize es[k] = e at ha hE
    have hlen := allP_len (es.take k)
    have htl : (es.take k).length ≤ 40 := by rw [List.length_take]; omega
    have hb := entryI_len hE
    have hin := q_recs16 es (es.length : Int) (k : Int) 9000 (toS (entryI e)) (2000000 + (allP (es.take k)).length) (row ++ keyed 2000000 (allP (es.take k))) fuel (by rw [toS_len]; omega) (by omega) (by omega) (by rw [List.length_append, keyed_len]; omega) (fuel_lt (by omega))
    have hin : R_recs_16 (((), ((2000000 + (allP (es.take k)).length : Nat) : Int), toS (entryI e), es, (es.length : Int), (k : Int), ()), row ++ keyed 2000000 (allP (es.take k)), ()) = _ := hin
    show G_recs_13 ((2000000 + (allP (es.take k)).length : Nat) : Int) es (es.length : Int) (k : Int) (row ++ keyed 2000000 (allP (es.take k))) = _
    unfold G_recs_13
    simp only [dec_lt hk, dec_in hk, cond_true, getD_of ha]
    refine bind_ofV (v_putE e hE) (bind_ofV hin ?_)
    show some (Sum.inl (((), ((2000000 + (allP (es.take k)).length + (pE e).length : Nat) : Int), es, (es.length : Int), IntKind.i64.wrap ((k : Int) + 1), ()), row ++ keyed 2000000 (allP (es.take k)) ++ keyed (2000000 + (allP (es.take k)).length) (pE e), ())) = some (Sum.inl (((), ((2000000 + (allP (es.take (k + 1))).length : Nat) : Int), es, (es.length : Int), ((k + 1 : Nat) : Int), ()), row ++ keyed 2000000 (allP (es.take (k + 1))), ()))
    rw [wrap_up hk (by omega), allP_take ha, keyed_app, List.length_append, List.append_assoc, Nat.add_assoc]
  · show G_recs_13 _ es (es.length : Int) (es.length : Int) (row ++ keyed 2000000 (allP (es.take es.length))) = _
    unfold G_recs_13
    simp only [dec_end, cond_false, List.take_length]
def recOf (t : Thing) : Int × Str := (t.1, toS (putI t))
theorem q_recs6 (p : tPast.El) (l : List Thing) (hl : l.length ≤ 1000) (h : ∀ t ∈ l, rt t = true ∧ t.2.2.2.2.length ≤ 1000000) (row : List (Int × Str)) (hr : row.length ≤ 1000) :
    R_recs_6 (((), (), l, (l.length : Int), (0 : Int), ()), (p, ()), row, ()) = some (.inl (((), (), ()), (p, ()), row ++ l.map recOf, ())) := by
  have := rounds_to (G := fun x => G_recs_6 x.1.2.2.1 x.1.2.2.2.1 x.1.2.2.2.2.1 x.2.1 x.2.2.1) (n := l.length) (inv := fun k => (((), (), l, (l.length : Int), (k : Int), ()), (p, ()), row ++ (l.take k).map recOf, ()))
    (y := .inl (((), (), ()), (p, ()), row ++ l.map recOf, ())) (fun k hk => ?_) ?_ l.length 0 fuel (by omega) (fuel_lt (by omega))
  · have t0 : R_recs_6 (((), (), l, (l.length : Int), (0 : Int), ()), (p, ()), row ++ (l.take 0).map recOf, ()) = _ := this
    rw [show row ++ (l.take 0).map recOf = row by simp] at t0
    exact t0
  · have ha := List.getElem?_eq_getElem hk
    obtain ⟨h1, h2⟩ := h _ (List.getElem_mem hk)
    generalize l[k] = t at ha h1 h2
    have h61 := v_61 t h2
    rw [h1, cond_true] at h61
    show G_recs_6 l (l.length : Int) (k : Int) (p, ()) (row ++ (l.take k).map recOf) = _
    unfold G_recs_6
    simp only [dec_lt hk, dec_in hk, cond_true, getD_of ha, wrap_up hk (by omega)]
    refine bind_ofV h61 (yesV (Nat.ble_eq_true_of_le ?_) ?_)
    · simp only [List.length_append, List.length_map, List.length_take, List.length_singleton]; omega
    · rw [take_one ha, List.map_append, List.append_assoc]; rfl
  · show G_recs_6 l (l.length : Int) (l.length : Int) (p, ()) (row ++ (l.take l.length).map recOf) = _
    unfold G_recs_6
    simp only [dec_end, cond_false, List.take_length]
end Go.DI.S
set_option linter.unusedVariables false
set_option linter.unusedSimpArgs false
set_option maxRecDepth 100000
namespace Go.DI.S
open Go.Proofs
theorem v_grE (n : Nat) (hn : n ≤ 1000000) : F_grE () (n : Int) = some [] := by
  unfold F_grE
  by_cases h : 0 < n
  · rw [decide_eq_true (by omega : (0 : Int) < (n : Int)), decide_eq_true (by omega : (n : Int) ≤ 1000000)]; rfl
  · have : n = 0 := by omega
    subst this
    unfold F_grEz
    rfl
theorem v_catE (l m : List Entry) (hl : l.length ≤ 1000) (hm : m.length ≤ 1000) : F_catE [l, m] = some ((l ++ m, ()) : Els [.list tEntry]) := by
  obtain ⟨k, hk⟩ : ∃ k, fuel = k + 3 := ⟨18446744073709551613, rfl⟩
  have w1 : IntKind.i64.wrap ((0 : Int) + (l.length : Int)) = (l.length : Int) := by rw [wrap64 (by omega) (by omega)]; omega
  have w2 : IntKind.i64.wrap ((l.length : Int) + (m.length : Int)) = ((l.length + m.length : Nat) : Int) := by rw [wrap64 (by omega) (by omega)]; omega
  have d1 : decide ((l.length : Int) < 0) = false := decide_eq_false (by omega)
  have d2 : decide (((l.length + m.length : Nat) : Int) < 0) = false := decide_eq_false (by omega)
  have h3 : R_catE_3 (([l, m], (0 : Int), [l, m], (([l, m].length : Nat) : Int), (0 : Int), ()), ()) = some (.inl (([l, m], ((l.length + m.length : Nat) : Int), ()), ())) := by
    unfold R_catE_3
    rw [hk]
    rw [rounds_in (x' := (([l, m], (l.length : Int), [l, m], (2 : Int), (1 : Int), ()), ())) ?_ (k + 2)]
    · rw [rounds_in (x' := (([l, m], ((l.length + m.length : Nat) : Int), [l, m], (2 : Int), (2 : Int), ()), ())) ?_ (k + 1)]
      · exact rounds_out rfl k
      · show (bif decide (IntKind.i64.wrap ((l.length : Int) + (m.length : Int)) < 0) then none else some (Sum.inl (([l, m], IntKind.i64.wrap ((l.length : Int) + (m.length : Int)), [l, m], (2 : Int), IntKind.i64.wrap ((1 : Int) + 1), ()), ()))) = _
        rw [w2, show IntKind.i64.wrap ((1 : Int) + 1) = 2 by decide]
        exact noV d2 rfl
    · show (bif decide (IntKind.i64.wrap ((0 : Int) + (l.length : Int)) < 0) then none else some (Sum.inl (([l, m], IntKind.i64.wrap ((0 : Int) + (l.length : Int)), [l, m], (2 : Int), IntKind.i64.wrap ((0 : Int) + 1), ()), ()))) = _
      rw [w1, show IntKind.i64.wrap ((0 : Int) + 1) = 1 by decide]
      exact noV d1 rfl
  have h11 : R_catE_11 (((), [l, m], (([l, m].length : Nat) : Int), (0 : Int), ()), [], ()) = some (.inl (((), ()), l ++ m, ())) := by
    unfold R_catE_11
    rw [hk]
    rw [rounds_in (x' := (((), [l, m], (2 : Int), (1 : Int), ()), l, ())) ?_ (k + 2)]
    · rw [rounds_in (x' := (((), [l, m], (2 : Int), (2 : Int), ()), l ++ m, ())) ?_ (k + 1)]
      · exact rounds_out rfl k
      · show (bif Nat.ble ((l.length + m.length) * 80) 70368744177664 then _ else none) = _
        exact yesV (Nat.ble_eq_true_of_le (by omega)) rfl
    · show (bif Nat.ble ((0 + l.length) * 80) 70368744177664 then _ else none) = _
      exact yesV (Nat.ble_eq_true_of_le (by omega)) rfl
  unfold F_catE
  exact bind_ofV h3 (bind_ofV (v_grE _ (by omega)) (bind_ofV h11 rfl))
theorem r69 (v : Int) : ∀ (n : Nat) (row : List Int) (f : Nat), n ≤ 1000 → n < f → row.length + n ≤ 1000000000 →
    roundsT (fun x => G_69_3 x.1.1 x.1.2.1 x.2.1) f ((v, (n : Int) - 1, (), ()), row, ()) = some (.inl (((), ()), row ++ numI v n, ()))
  | 0, row, f, hn, hf, hr => by
    obtain ⟨f, rfl⟩ : ∃ k, f = k + 1 := ⟨f - 1, by omega⟩
    refine rounds_out ?_ f
    simp only [G_69_3]
    rw [decide_eq_false (by omega : ¬ (((0 : Nat) : Int) - 1 ≥ 0)), cond_false]
    simp [numI]
  | n + 1, row, f, hn, hf, hr => by
    obtain ⟨f, rfl⟩ : ∃ k, f = k + 1 := ⟨f - 1, by omega⟩
    have e : ((n + 1 : Nat) : Int) - 1 = (n : Int) := by omega
    rw [e, rounds_in (x' := ((v, (n : Int) - 1, (), ()), row ++ [byteI v n], ())) ?_ f]
    · rw [r69 v n _ f (by omega) (by omega) (by simp; omega)]
      simp [numI]
    · simp only [G_69_3]
      rw [decide_eq_true (by omega : (n : Int) ≥ 0), cond_true, wrap8 (by omega), decide_eq_false (by omega), cond_false, show Nat.ble ((row.length + _) * 1) 70368744177664 = true from Nat.ble_eq_true_of_le (by simp; omega), cond_true,
        wrap64 (x := (n : Int) - 1) (by omega) (by omega)]
      unfold byteI
      rw [wrap8 (by omega)]
theorem v_69 (v : Int) (n : Nat) (hn : n ≤ 1000) : F_69 v (n : Int) = some ((toS (numI v n), ()) : Els [.str]) := by
  unfold F_69 R_69_3
  rw [wrap64 (x := (n : Int) - 1) (by omega) (by omega), r69 v n [] fuel hn (fuel_lt (by omega)) (by simp; omega)]
  rfl
def headS' (s : Scene) (p : tPast.El) : Str := toS (numI s.1.1 8) ++ toS (numI s.1.2 8) ++ toS (numI s.2.1 4) ++ [UInt8.ofNat p.1.length, UInt8.ofNat p.2.length]
def recsL (s : Scene) (p : tPast.El) : List (Int × Str) := ((0 : Int), headS' s p) :: (s.2.2.map recOf ++ keyed 2000000 (allP (p.1 ++ p.2)))
theorem head_len (s : Scene) (p : tPast.El) : (headS' s p).length = 22 := by simp [headS', toS_len, numI_len]
theorem v_recs (s : Scene) (p : tPast.El) (hs : Small s.2.2) (hr : rightB s = true) (h1 : Oks p.1) (h2 : Oks p.2) (l1 : p.1.length ≤ 16) (l2 : p.2.length ≤ 16) : F_recs s p = some ((recsL s p, (0 : Int), ()) : Els [.list tRec, I]) := by
  have hR := right_of hr
  have h40 := hR.len
  have e20 := v_20 s hs
  rw [hr] at e20
  have e35 := v_35 p.1 p.2 h1 h2 l1 l2
  have w8 : ∀ v : Int, F_69 v 8 = some ((toS (numI v 8), ()) : Els [.str]) := fun v => v_69 v 8 (by omega)
  have w4 : ∀ v : Int, F_69 v 4 = some ((toS (numI v 4), ()) : Els [.str]) := fun v => v_69 v 4 (by omega)
  have a8 : ∀ v : Int, (toS (numI v 8)).length = 8 := fun v => by rw [toS_len, numI_len]
  have a4 : ∀ v : Int, (toS (numI v 4)).length = 4 := fun v => by rw [toS_len, numI_len]
  have hh : toS (numI s.1.1 8) ++ toS (numI s.1.2 8) ++ toS (numI s.2.1 4) ++ List.map (fun v : Int => UInt8.ofNat v.toNat) [IntKind.u8.wrap (p.1.length : Int), IntKind.u8.wrap (p.2.length : Int)] = headS' s p := by
    unfold headS'
    have u1 : IntKind.u8.wrap (p.1.length : Int) = (p.1.length : Int) := by rw [u8w]; omega
    have u2 : IntKind.u8.wrap (p.2.length : Int) = (p.2.length : Int) := by rw [u8w]; omega
    rw [u1, u2]
    simp only [List.map_cons, List.map_nil, Int.toNat_natCast]
  have b6 := q_recs6 p s.2.2 (by omega) (fun t ht => ⟨(hR.low t ht).2.2, by have := ins_few hR hs ht; exact Nat.le_trans this (by decide)⟩) [((0 : Int), headS' s p)] (by simp)
  have bc := v_catE p.1 p.2 (by omega) (by omega)
  have b13 := q_recs13 (p.1 ++ p.2) (fun x hx => by
    rcases List.mem_append.1 hx with hx | hx
    · exact h1 x hx
    · exact h2 x hx) (by rw [List.length_append]; omega) ([((0 : Int), headS' s p)] ++ s.2.2.map recOf) (by simp only [List.length_append, List.length_map, List.length_singleton]; omega)
  unfold F_recs
  refine bind_ofV e20 (noV rfl (bind_ofV e35 (noV rfl (bind_ofV (w8 _) (bind_ofV (w8 _) (yesV (decide_eq_true ?_) (bind_ofV (w4 _) (yesV (decide_eq_true ?_) (yesV (decide_eq_true ?_) ?_)))))))))
  · show (toS (numI s.1.1 8)).length + (toS (numI s.1.2 8)).length ≤ 4611686018427387904
    rw [a8, a8]; omega
  · show (toS (numI s.1.1 8) ++ toS (numI s.1.2 8)).length + (toS (numI s.2.1 4)).length ≤ 4611686018427387904
    rw [List.length_append, a8, a8, a4]; omega
  · show (toS (numI s.1.1 8) ++ toS (numI s.1.2 8) ++ toS (numI s.2.1 4)).length + 2 ≤ 4611686018427387904
    rw [List.length_append, List.length_append, a8, a8, a4]; omega
  · show (R_recs_6 (((), (), s.2.2, (s.2.2.length : Int), (0 : Int), ()), (p, ()), [((0 : Int), toS (numI s.1.1 8) ++ toS (numI s.1.2 8) ++ toS (numI s.2.1 4) ++ List.map (fun v : Int => UInt8.ofNat v.toNat) [IntKind.u8.wrap (p.1.length : Int), IntKind.u8.wrap (p.2.length : Int)])], ())).bind _ = _
    rw [hh]
    refine bind_ofV b6 (bind_ofV bc (bind_ofV b13 ?_))
    show some (([((0 : Int), headS' s p)] ++ s.2.2.map recOf ++ keyed 2000000 (allP (p.1 ++ p.2)), (0 : Int), ()) : Els [.list tRec, I]) = _
    unfold recsL
    rw [List.append_assoc]; rfl
end Go.DI.S
