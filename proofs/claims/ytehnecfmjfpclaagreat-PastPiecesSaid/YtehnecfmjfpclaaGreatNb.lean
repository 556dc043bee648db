import Derived.Test.YtehnecfmjfpclaaGreatNa
/- Records read back, plain. No conditions. -/
set_option linter.unusedVariables false
set_option linter.unusedSimpArgs false
set_option maxRecDepth 100000
namespace Go.DI.S
open Go.Proofs
theorem byteV_eq (n : Int) (b : UInt8) : Go.DI.bOr IntKind.u64 (IntKind.u64.wrap (n * (256 : Int))) (IntKind.u64.wrap ((b.toBitVec.toFin.1 : Nat) : Int)) = byteIn n b := by kernel_rfl
theorem v_val (l : Str) (hl : l.length ≤ 1000000000) : F_val l = some ((IntKind.i64.wrap (l.foldl byteIn 0), ()) : Els [I]) := by
  have h := fold_all (G := fun x => G_val_3 x.1.1 x.1.2.1 x.1.2.2.1 x.1.2.2.2.1) (m := fuel) l byteIn (fun j a => ((l, a, (l.length : Int), (j : Int), ()), ())) (fun a => .inl ((a, ()), ())) (fun j b a ha => ?_) (fun a => ?_) (fuel_lt hl) 0
  · have h : R_val_3 ((l, (0 : Int), (l.length : Int), (0 : Int), ()), ()) = _ := h
    unfold F_val
    exact bind_ofV h rfl
  · have hk := len_of ha
    show G_val_3 l a (l.length : Int) (j : Int) = _
    unfold G_val_3
    simp only [dec_lt hk, dec_in hk, cond_true, getD_of ha, wrap_up hk (by omega), byteV_eq]
  · show G_val_3 l a (l.length : Int) (l.length : Int) = _
    unfold G_val_3
    simp only [dec_end, cond_false]
theorem v_valN {v : Int} {n : Nat} (hn : n ≤ 1000) (h : Fits v n) : F_val (toS (numI v n)) = some ((v, ()) : Els [I]) := by
  rw [v_val _ (by rw [toS_len, numI_len]; omega), val_of h]
theorem delta_toS (d : Delta) : toS (deltaI d) = toS (numI d.1 4) ++ (toS (numI (d.2.1.length : Int) 2) ++ (d.2.1 ++ (toS (numI (d.2.2.length : Int) 2) ++ d.2.2))) := by
  unfold deltaI textI
  simp only [toS_app, toS_bytes, List.append_assoc]
theorem fit_id {v : Int} (h1 : 1 ≤ v) (h2 : v ≤ 1000001) : Fits v 4 := fit4 (by omega) (by omega)
theorem le_more {v : Int} (h : v ≤ 1000000) : v ≤ 1000001 := by omega
theorem near_in {x : Int} (a : x ≥ -4294967296000) (b : x ≤ 4294967296000) : In64 x := ⟨by omega, by omega⟩
theorem r_getE (s r : Str) (z : Entry) (tu : Bool) (f t : Vec) (nb na : Int) : ∀ (ds : List Delta), (∀ d ∈ ds, 1 ≤ d.1 ∧ d.1 ≤ 1000000 ∧ d.2.1.length ≤ 100 ∧ d.2.2.length ≤ 100) → ∀ (row : List Delta) (m : Nat), row.length + ds.length ≤ 1000 → ds.length < m →
    roundsT (fun x => G_getE_4 x.1.1 x.1.2.2.2.2.1 x.2.1 x.2.2.1 x.2.2.2.1 x.2.2.2.2.1) m ((s, (), (), (), (ds.length : Int), ()), (z, ()), (toS (ds.flatMap deltaI) ++ r, false, ()), ((), tu, f, t, nb, na, ()), row, ()) =
      some (.inl ((s, (), (), (), ()), (z, ()), (r, false, ()), ((), tu, f, t, nb, na, ()), row ++ ds, ()))
  | [], _, row, m, h1, hm => by
    obtain ⟨m, rfl⟩ : ∃ k, m = k + 1 := ⟨m - 1, by simp at hm; omega⟩
    have step : G_getE_4 s (([] : List Delta).length : Int) (z, ()) (toS (([] : List Delta).flatMap deltaI) ++ r, false, ()) ((), tu, f, t, nb, na, ()) row = some (.inr (.inl ((s, (), (), (), ()), (z, ()), (r, false, ()), ((), tu, f, t, nb, na, ()), row, ()))) := by
      unfold G_getE_4
      exact noV rfl rfl
    rw [rounds_out step m, List.append_nil]
  | d :: ds, hl, row, m, h1, hm => by
    obtain ⟨m, rfl⟩ : ∃ k, m = k + 1 := ⟨m - 1, by simp at hm; omega⟩
    obtain ⟨a1, a2, a3, a4⟩ := hl d List.mem_cons_self
    simp only [List.length_cons] at h1 hm
    have e2 : toS ((d :: ds).flatMap deltaI) ++ r = toS (numI d.1 4) ++ (toS (numI (d.2.1.length : Int) 2) ++ (d.2.1 ++ (toS (numI (d.2.2.length : Int) 2) ++ (d.2.2 ++ (toS (ds.flatMap deltaI) ++ r))))) := by
      rw [List.flatMap_cons, toS_app, delta_toS]
      simp only [List.append_assoc]
    have c1 := v_104 (fit_id (v := d.1) a1 (le_more a2)) (toS (numI (d.2.1.length : Int) 2) ++ (d.2.1 ++ (toS (numI (d.2.2.length : Int) 2) ++ (d.2.2 ++ (toS (ds.flatMap deltaI) ++ r)))))
    have c2 := v_104 (fit2 (v := (d.2.1.length : Int)) (by omega) (by omega)) (d.2.1 ++ (toS (numI (d.2.2.length : Int) 2) ++ (d.2.2 ++ (toS (ds.flatMap deltaI) ++ r))))
    have c3 := v_131 d.2.1 (toS (numI (d.2.2.length : Int) 2) ++ (d.2.2 ++ (toS (ds.flatMap deltaI) ++ r))) rfl
    have c4 := v_104 (fit2 (v := (d.2.2.length : Int)) (by omega) (by omega)) (d.2.2 ++ (toS (ds.flatMap deltaI) ++ r))
    have c5 := v_131 d.2.2 (toS (ds.flatMap deltaI) ++ r) rfl
    have hw : IntKind.i64.wrap (((ds.length + 1 : Nat) : Int) - 1) = (ds.length : Int) := by rw [wrap64 (by omega) (by omega)]; omega
    have step : G_getE_4 s (((d :: ds).length : Nat) : Int) (z, ()) (toS ((d :: ds).flatMap deltaI) ++ r, false, ()) ((), tu, f, t, nb, na, ()) row = some (.inl ((s, (), (), (), (ds.length : Int), ()), (z, ()), (toS (ds.flatMap deltaI) ++ r, false, ()), ((), tu, f, t, nb, na, ()), row ++ [d], ())) := by
      unfold G_getE_4
      rw [e2, List.length_cons]
      have hpos : ((ds.length + 1 : Nat) : Int) > 0 := by omega
      refine yesV (decide_eq_true hpos) (bind_ofV c1 (bind_ofV c2 (bind_ofV c3 (bind_ofV c4 (bind_ofV c5 (yesV (Nat.ble_eq_true_of_le ?_) ?_))))))
      · simp only [List.length_singleton]; omega
      · rw [hw]
    rw [rounds_in step m, r_getE s r z tu f t nb na ds (fun x hx => hl x (List.mem_cons_of_mem _ hx)) (row ++ [d]) m (by rw [List.length_append, List.length_singleton]; omega) (by omega), List.append_assoc]
    rfl
theorem near_fits {g : Vec} (h : nearB g = true) : Fits g.1 8 ∧ Fits g.2 8 := by
  unfold nearB at h
  simp only [Bool.and_eq_true] at h
  have a := of_decide_eq_true h.1.1
  have b := of_decide_eq_true h.1.2
  have c := of_decide_eq_true h.2.1
  have d := of_decide_eq_true h.2.2
  exact ⟨fits64 (wf_in (near_in a b)), fits64 (wf_in (near_in c d))⟩
theorem entry_false {e : Entry} (h : RE e) (ht : e.2.1 = false) : e = (e.1, false, ((0 : Int), (0 : Int)), ((0 : Int), (0 : Int)), e.2.2.2.2.1, e.2.2.2.2.2) := by
  have h0 := h.from0 ht
  have h1 : e.2.2.1 = e.2.2.2.1 := Classical.byContradiction fun k => by
    have := h.turned.2 k
    rw [ht] at this; cases this
  obtain ⟨a, b, c, d, x, y⟩ := e
  simp only at ht h0 h1
  subst ht; subst h0; rw [← h1]
theorem v_getE (e : Entry) (h : RE e) : F_getE (toS (entryI e)) = some ((e, true, ()) : Els [tEntry, .bool]) := by
  have h40 := h.len
  have hs := re_sides h
  have hd : ∀ d ∈ e.1, 1 ≤ d.1 ∧ d.1 ≤ 1000000 ∧ d.2.1.length ≤ 100 ∧ d.2.2.length ≤ 100 := fun d hd => by
    have k := DL_lt h.dl d hd
    exact ⟨k.2.1, k.2.2.1, hs d hd⟩
  have hp := v_putE e h
  obtain ⟨f1, f2⟩ := near_fits h.nearF
  obtain ⟨t1, t2⟩ := near_fits h.nearT
  have hnb := h.nb
  have hna := h.na
  have x4 := v_104 (fit_id (v := e.2.2.2.2.1) hnb.1 hnb.2) (toS (numI e.2.2.2.2.2 4))
  have x5 := v_104 (fit_id (v := e.2.2.2.2.2) hna.1 hna.2) []
  rw [List.append_nil] at x5
  have eb : toS (entryI e) = toS (numI (e.1.length : Int) 1) ++ (toS (e.1.flatMap deltaI) ++ toS (tailI e)) := by
    unfold entryI
    rw [toS_app, toS_app]
  have x0 := v_104 (fit1 (v := (e.1.length : Int)) (by omega) (by omega)) (toS (e.1.flatMap deltaI) ++ toS (tailI e))
  rw [← eb] at x0
  have x1 := r_getE (toS (entryI e)) (toS (tailI e)) ([], false, ((0 : Int), (0 : Int)), ((0 : Int), (0 : Int)), (0 : Int), (0 : Int)) false ((0 : Int), (0 : Int)) ((0 : Int), (0 : Int)) 0 0 e.1 hd [] fuel (by simp only [List.length_nil]; omega) (fuel_lt (by omega))
  rw [List.nil_append] at x1
  have x1 : R_getE_4 ((toS (entryI e), (), (), (), (e.1.length : Int), ()), (([], false, ((0 : Int), (0 : Int)), ((0 : Int), (0 : Int)), (0 : Int), (0 : Int)), ()), (toS (e.1.flatMap deltaI) ++ toS (tailI e), false, ()), ((), false, ((0 : Int), (0 : Int)), ((0 : Int), (0 : Int)), (0 : Int), (0 : Int), ()), [], ()) = _ := x1
  unfold F_getE
  refine bind_ofV x0 (bind_ofV x1 ?_)
  cases ht : e.2.1 with
  | true =>
    have et : toS (tailI e) = toS (numI 1 1) ++ (toS (vecI e.2.2.1) ++ (toS (vecI e.2.2.2.1) ++ (toS (numI e.2.2.2.2.1 4) ++ toS (numI e.2.2.2.2.2 4)))) := by
      unfold tailI
      rw [ht]
      simp only [cond_true, toS_app, List.append_assoc]
    have y1 := v_104 (fit1 (v := 1) (by decide) (by decide)) (toS (vecI e.2.2.1) ++ (toS (vecI e.2.2.2.1) ++ (toS (numI e.2.2.2.2.1 4) ++ toS (numI e.2.2.2.2.2 4))))
    rw [← et] at y1
    have y2 := v_105 e.2.2.1 f1 f2 (toS (vecI e.2.2.2.1) ++ (toS (numI e.2.2.2.2.1 4) ++ toS (numI e.2.2.2.2.2 4)))
    have y3 := v_105 e.2.2.2.1 t1 t2 (toS (numI e.2.2.2.2.1 4) ++ toS (numI e.2.2.2.2.2 4))
    have ee : (e.1, true, e.2.2.1, e.2.2.2.1, e.2.2.2.2.1, e.2.2.2.2.2) = e := by
      obtain ⟨a, b, c, d, x, y⟩ := e
      simp only at ht
      subst ht; rfl
    have hp2 : F_putE (e.1, true, e.2.2.1, e.2.2.2.1, e.2.2.2.2.1, e.2.2.2.2.2) = some ((toS (entryI e), true, ()) : Els [.str, .bool]) := by rw [ee]; exact hp
    refine bind_ofV y1 (yesV rfl (bind_ofV y2 (bind_ofV y3 (bind_ofV x4 (bind_ofV x5 (bind_ofV hp2 (noV rfl (noV rfl (noV ?_ ?_)))))))))
    · show (!(toS (entryI e) == toS (entryI e))) = false
      rw [beq_self_eq_true]; rfl
    · show some (((e.1, true, e.2.2.1, e.2.2.2.1, e.2.2.2.2.1, e.2.2.2.2.2), true, ()) : Els [tEntry, .bool]) = _
      rw [ee]
  | false =>
    have et : toS (tailI e) = toS (numI 0 1) ++ (toS (numI e.2.2.2.2.1 4) ++ toS (numI e.2.2.2.2.2 4)) := by
      unfold tailI
      rw [ht]
      simp only [cond_false, toS_app]
    have y1 := v_104 (fit1 (v := 0) (by decide) (by decide)) (toS (numI e.2.2.2.2.1 4) ++ toS (numI e.2.2.2.2.2 4))
    rw [← et] at y1
    have ee := entry_false h ht
    have hp2 : F_putE (e.1, false, ((0 : Int), (0 : Int)), ((0 : Int), (0 : Int)), e.2.2.2.2.1, e.2.2.2.2.2) = some ((toS (entryI e), true, ()) : Els [.str, .bool]) := by rw [← ee]; exact hp
    refine bind_ofV y1 (noV rfl (bind_ofV x4 (bind_ofV x5 (bind_ofV hp2 (noV rfl (noV rfl (noV ?_ ?_)))))))
    · show (!(toS (entryI e) == toS (entryI e))) = false
      rw [beq_self_eq_true]; rfl
    · show some (((e.1, false, ((0 : Int), (0 : Int)), ((0 : Int), (0 : Int)), e.2.2.2.2.1, e.2.2.2.2.2), true, ()) : Els [tEntry, .bool]) = _
      rw [← ee]
end Go.DI.S
set_option linter.unusedVariables false
set_option linter.unusedSimpArgs false
set_option maxRecDepth 100000
namespace Go.DI.S
open Go.Proofs
abbrev SE (acc : Str) (L : List (Int × Str)) (j : Nat) (row : List Entry) : LD_ents_4.El := (((), acc, L, (L.length : Int), (j : Int), ()), row, ())
noncomputable def rE (m : Nat) (x : LD_ents_4.El) : Option (LA_ents_4.El ⊕ LB_ents_4.El) := roundsT (fun x => G_ents_4 x.1.2.1 x.1.2.2.1 x.1.2.2.2.1 x.1.2.2.2.2.1 x.2.1) m x
theorem drop_head {α : Type} {L tl : List α} {j : Nat} {a : α} (h : L.drop j = a :: tl) : L[j]? = some a ∧ L.drop (j + 1) = tl := by
  refine ⟨?_, ?_⟩
  · have : (L.drop j)[0]? = some a := by rw [h]; rfl
    rwa [List.getElem?_drop, Nat.add_zero] at this
  · rw [← List.drop_drop, h]; rfl
theorem ents_0 {L tl : List (Int × Str)} {j : Nat} {k : Int} {t acc : Str} {row : List Entry} (hd : L.drop j = (k, 0 :: t) :: tl) (hL : L.length ≤ 1000000000) (ha : acc.length + t.length ≤ 1000000000) : G_ents_4 acc L (L.length : Int) (j : Int) row = some (.inl (SE (acc ++ t) L (j + 1) row)) := by
  obtain ⟨h1, _⟩ := drop_head hd
  have hj := len_of h1
  unfold G_ents_4
  simp only [dec_lt hj, dec_in hj, cond_true, getD_of h1, wrap_up hj (by omega)]
  refine noV rfl (yesV (decide_eq_true ?_) (yesV (decide_eq_true ?_) (yesV (decide_eq_true ?_) (noV rfl ?_))))
  · simp only [List.length_cons]; omega
  · simp only [List.length_cons, List.drop_succ_cons, List.drop_zero, Nat.add_sub_cancel, List.take_length]; omega
  · simp only [List.length_cons]; omega
  · simp only [List.length_cons, List.drop_succ_cons, List.drop_zero, Nat.add_sub_cancel, List.take_length]
theorem ents_1 {L tl : List (Int × Str)} {j : Nat} {k : Int} {t acc : Str} {row : List Entry} {e : Entry} (hd : L.drop j = (k, 1 :: t) :: tl) (hL : L.length ≤ 1000000000) (ha : acc.length + t.length ≤ 1000000000) (hr : row.length ≤ 1000000) (hg : F_getE (acc ++ t) = some ((e, true, ()) : Els [tEntry, .bool])) :
    G_ents_4 acc L (L.length : Int) (j : Int) row = some (.inl (SE [] L (j + 1) (row ++ [e]))) := by
  obtain ⟨h1, _⟩ := drop_head hd
  have hj := len_of h1
  unfold G_ents_4
  simp only [dec_lt hj, dec_in hj, cond_true, getD_of h1, wrap_up hj (by omega)]
  refine noV rfl (yesV (decide_eq_true ?_) (yesV (decide_eq_true ?_) (yesV (decide_eq_true ?_) (yesV rfl (bind_ofV (x := (e, true, ())) ?_ (yesV (Nat.ble_eq_true_of_le ?_) rfl))))))
  · simp only [List.length_cons]; omega
  · simp only [List.length_cons, List.drop_succ_cons, List.drop_zero, Nat.add_sub_cancel, List.take_length]; omega
  · simp only [List.length_cons]; omega
  · simp only [List.length_cons, List.drop_succ_cons, List.drop_zero, Nat.add_sub_cancel, List.take_length]; exact hg
  · simp only [List.length_singleton]; omega
theorem ents_end {L : List (Int × Str)} {acc : Str} {row : List Entry} : G_ents_4 acc L (L.length : Int) (L.length : Int) row = some (.inr (.inl (((), ()), row, ()))) := by
  unfold G_ents_4
  simp only [dec_end, cond_false]
theorem ents_pcs (L : List (Int × Str)) (hL : L.length ≤ 1000000000) (e : Entry) : ∀ (f : Nat) (b acc : Str) (k j m : Nat) (row : List Entry) (tl : List (Int × Str)), b ≠ [] → b.length < f → L.drop j = keyed k (pcs f b) ++ tl → acc.length + b.length ≤ 1000000 → row.length ≤ 1000000 →
    F_getE (acc ++ b) = some ((e, true, ()) : Els [tEntry, .bool]) → rE (m + (pcs f b).length) (SE acc L j row) = rE m (SE [] L (j + (pcs f b).length) (row ++ [e]))
  | 0, b, acc, k, j, m, row, tl, h0, hf, hd, ha, hr, hg => by omega
  | f + 1, b, acc, k, j, m, row, tl, h0, hf, hd, ha, hr, hg => by
    by_cases hc : b.length ≤ 899
    · have hp : pcs (f + 1) b = [1 :: b] := by rw [pcs_succ, if_neg h0, if_pos hc]
      rw [hp] at hd ⊢
      have step := ents_1 (L := L) (tl := tl) (j := j) (k := (k : Int)) (t := b) (acc := acc) (row := row) (e := e) hd hL (by omega) hr hg
      exact rounds_in step m
    · have hp : pcs (f + 1) b = (0 :: b.take 899) :: pcs f (b.drop 899) := by rw [pcs_succ, if_neg h0, if_neg hc]
      rw [hp] at hd ⊢
      have hd : L.drop j = ((k : Int), 0 :: b.take 899) :: (keyed (k + 1) (pcs f (b.drop 899)) ++ tl) := hd
      have hlt : (b.take 899).length = 899 := by rw [List.length_take]; omega
      have hld : (b.drop 899).length = b.length - 899 := List.length_drop
      have step := ents_0 (L := L) (j := j) (acc := acc) (row := row) hd hL (by omega)
      have hd2 := (drop_head hd).2
      have ih := ents_pcs L hL e f (b.drop 899) (acc ++ b.take 899) (k + 1) (j + 1) m row tl (fun h => by rw [h] at hld; simp at hld; omega) (by omega) hd2 (by rw [List.length_append]; omega) hr (by rw [List.append_assoc, List.take_append_drop]; exact hg)
      rw [List.length_cons, ← Nat.add_assoc]
      have r1 : rE (m + (pcs f (b.drop 899)).length + 1) (SE acc L j row) = rE (m + (pcs f (b.drop 899)).length) (SE (acc ++ b.take 899) L (j + 1) row) := rounds_in step _
      rw [r1, ih, show j + 1 + (pcs f (b.drop 899)).length = j + ((pcs f (b.drop 899)).length + 1) by omega, ← Nat.add_assoc]
theorem ents_cut (L : List (Int × Str)) (hL : L.length ≤ 1000000000) : ∀ (f : Nat) (b acc : Str) (k j m : Nat) (row : List Entry) (tl : List (Int × Str)), b ≠ [] → b.length < f → L.drop j = keyed k (pcs f b).dropLast ++ tl → acc.length + b.length ≤ 1000000 →
    ∃ acc', acc'.length ≤ acc.length + b.length ∧ rE (m + (pcs f b).dropLast.length) (SE acc L j row) = rE m (SE acc' L (j + (pcs f b).dropLast.length) row)
  | 0, b, acc, k, j, m, row, tl, h0, hf, hd, ha => by omega
  | f + 1, b, acc, k, j, m, row, tl, h0, hf, hd, ha => by
    by_cases hc : b.length ≤ 899
    · have hp : pcs (f + 1) b = [1 :: b] := by rw [pcs_succ, if_neg h0, if_pos hc]
      rw [hp]
      exact ⟨acc, by omega, rfl⟩
    · have hp : pcs (f + 1) b = (0 :: b.take 899) :: pcs f (b.drop 899) := by rw [pcs_succ, if_neg h0, if_neg hc]
      have hlt : (b.take 899).length = 899 := by rw [List.length_take]; omega
      have hld : (b.drop 899).length = b.length - 899 := List.length_drop
      have hne : b.drop 899 ≠ [] := fun h => by rw [h] at hld; simp at hld; omega
      have hpn : pcs f (b.drop 899) ≠ [] := by
        obtain ⟨g, rfl⟩ : ∃ g, f = g + 1 := ⟨f - 1, by omega⟩
        rw [pcs_succ, if_neg hne]
        split <;> simp
      have hdl : (pcs (f + 1) b).dropLast = (0 :: b.take 899) :: (pcs f (b.drop 899)).dropLast := by
        rw [hp, List.dropLast_cons_of_ne_nil hpn]
      rw [hdl] at hd ⊢
      have hd : L.drop j = ((k : Int), 0 :: b.take 899) :: (keyed (k + 1) (pcs f (b.drop 899)).dropLast ++ tl) := hd
      have step := ents_0 (L := L) (j := j) (acc := acc) (row := row) hd hL (by omega)
      obtain ⟨acc', h1, h2⟩ := ents_cut L hL f (b.drop 899) (acc ++ b.take 899) (k + 1) (j + 1) m row tl hne (by omega) (drop_head hd).2 (by rw [List.length_append]; omega)
      refine ⟨acc', by rw [List.length_append] at h1; omega, ?_⟩
      rw [List.length_cons, ← Nat.add_assoc]
      have r1 : rE (m + (pcs f (b.drop 899)).dropLast.length + 1) (SE acc L j row) = rE (m + (pcs f (b.drop 899)).dropLast.length) (SE (acc ++ b.take 899) L (j + 1) row) := rounds_in step _
      rw [r1, h2, show j + 1 + (pcs f (b.drop 899)).dropLast.length = j + ((pcs f (b.drop 899)).dropLast.length + 1) by omega]
theorem entry_ne {e : Entry} (h : RE e) : toS (entryI e) ≠ [] := fun k => by
  have h1 := (entryI_len h).2
  have h2 : (toS (entryI e)).length = 0 := by rw [k]; rfl
  rw [toS_len] at h2; omega
theorem v_ents1 {e : Entry} (h : RE e) : F_ents (keyed 2000000 (pE e)) = some (([e], ()) : Els [.list tEntry]) := by
  have hl := entryI_len h
  have hp := pE_len e
  have hk := keyed_len 2000000 (pE e)
  obtain ⟨M, hM⟩ : ∃ M, fuel = (M + 1) + (pE e).length := ⟨fuel - 1 - (pE e).length, by unfold fuel; omega⟩
  have hb := ents_pcs (keyed 2000000 (pE e)) (by omega) e 9000 (toS (entryI e)) [] 2000000 0 (M + 1) [] [] (entry_ne h) (by rw [toS_len]; omega) (by rw [List.drop_zero, List.append_nil]; rfl) (by rw [toS_len]; simp only [List.length_nil]; omega) (by simp) (by rw [List.nil_append]; exact v_getE e h)
  have he : rE (M + 1) (SE [] (keyed 2000000 (pE e)) (0 + (pE e).length) ([] ++ [e])) = some (.inl (((), ()), [e], ())) := by
    have hj : ((0 + (pE e).length : Nat) : Int) = ((keyed 2000000 (pE e)).length : Int) := by rw [hk, Nat.zero_add]
    have := ents_end (L := keyed 2000000 (pE e)) (acc := []) (row := [e])
    show roundsT _ (M + 1) (((), [], keyed 2000000 (pE e), _, ((0 + (pE e).length : Nat) : Int), ()), [e], ()) = _
    rw [hj]
    exact rounds_out this M
  have hR : R_ents_4 (SE [] (keyed 2000000 (pE e)) 0 []) = some (.inl (((), ()), [e], ())) := by
    unfold R_ents_4
    rw [hM]
    exact hb.trans he
  unfold F_ents
  exact bind_ofV hR rfl
theorem v_ents0 {e : Entry} (h : RE e) : F_ents (keyed 2000000 (pE e).dropLast) = some (([], ()) : Els [.list tEntry]) := by
  have hl := entryI_len h
  have hp := pE_len e
  have hk := keyed_len 2000000 (pE e).dropLast
  have hdl : (pE e).dropLast.length ≤ 9000 := by rw [List.length_dropLast]; omega
  obtain ⟨M, hM⟩ : ∃ M, fuel = (M + 1) + (pE e).dropLast.length := ⟨fuel - 1 - (pE e).dropLast.length, by unfold fuel; omega⟩
  obtain ⟨acc', _, hb⟩ := ents_cut (keyed 2000000 (pE e).dropLast) (by omega) 9000 (toS (entryI e)) [] 2000000 0 (M + 1) [] [] (entry_ne h) (by rw [toS_len]; omega) (by rw [List.drop_zero, List.append_nil]; rfl) (by rw [toS_len]; simp only [List.length_nil]; omega)
  have he : rE (M + 1) (SE acc' (keyed 2000000 (pE e).dropLast) (0 + (pE e).dropLast.length) []) = some (.inl (((), ()), [], ())) := by
    have hj : ((0 + (pE e).dropLast.length : Nat) : Int) = ((keyed 2000000 (pE e).dropLast).length : Int) := by rw [hk, Nat.zero_add]
    have := ents_end (L := keyed 2000000 (pE e).dropLast) (acc := acc') (row := [])
    show roundsT _ (M + 1) (((), acc', keyed 2000000 (pE e).dropLast, _, ((0 + (pE e).dropLast.length : Nat) : Int), ()), [], ()) = _
    rw [hj]
    exact rounds_out this M
  have hR : R_ents_4 (SE [] (keyed 2000000 (pE e).dropLast) 0 []) = some (.inl (((), ()), [], ())) := by
    unfold R_ents_4
    rw [hM]
    exact hb.trans he
  unfold F_ents
  exact bind_ofV hR rfl
theorem v_eqR (l : List (Int × Str)) (hl : l.length ≤ 1000000000) : F_eqR l l = some ((true, ()) : Els [.bool]) := by
  have := rounds_to (G := fun x => G_eqR_4 x.1.1 x.1.2.1 x.1.2.2.1 x.1.2.2.2.1) (n := l.length) (inv := fun k => ((l, l, (l.length : Int), (k : Int), ()), ())) (y := .inl ((), ())) (fun k hk => ?_) ?_ l.length 0 fuel (by omega) (fuel_lt hl)
  · unfold F_eqR
    exact noV (bne_no rfl) (bind_ofV this rfl)
  · have ha := List.getElem?_eq_getElem hk
    show G_eqR_4 l l (l.length : Int) (k : Int) = _
    unfold G_eqR_4
    simp only [dec_lt hk, dec_in hk, cond_true, getD_of ha, wrap_up hk (by omega)]
    exact noV (by simp) rfl
  · show G_eqR_4 l l (l.length : Int) (l.length : Int) = _
    unfold G_eqR_4
    simp only [dec_end, cond_false]
theorem v_eqR_no {a b : Int × Str} {l m : List (Int × Str)} (h : a.2 ≠ b.2) (hl : l.length ≤ 1000000) : F_eqR (a :: l) (b :: m) = some ((false, ()) : Els [.bool]) := by
  unfold F_eqR
  by_cases hc : l.length = m.length
  · obtain ⟨M, hM⟩ : ∃ M, fuel = M + 1 := ⟨18446744073709551615, rfl⟩
    have step : G_eqR_4 (a :: l) (b :: m) (((a :: l).length : Nat) : Int) (0 : Int) = some (.inr (.inr ((false, ()), ()))) := by
      unfold G_eqR_4
      have d1 : (0 : Int) < (((a :: l).length : Nat) : Int) := by simp only [List.length_cons]; omega
      have d2 : (0 : Int) < (((b :: m).length : Nat) : Int) := by simp only [List.length_cons]; omega
      refine yesV (decide_eq_true d1) (yesV (decide_eq_true ⟨Int.le_refl _, d1⟩) (yesV (decide_eq_true ⟨Int.le_refl _, d2⟩) (yesV ?_ rfl)))
      show (!(a.1 == b.1 && (a.2 == b.2 && true))) = true
      rw [beq_false_of_ne h]; simp
    have hR : R_eqR_4 ((a :: l, b :: m, (((a :: l).length : Nat) : Int), (0 : Int), ()), ()) = some (.inr ((false, ()), ())) := by
      unfold R_eqR_4
      rw [hM]
      exact rounds_out step M
    exact noV (bne_no (by simp only [List.length_cons, hc])) (bind_ofV hR rfl)
  · exact yesV (bne_of (by simp only [List.length_cons]; omega)) rfl
end Go.DI.S
set_option linter.unusedVariables false
set_option linter.unusedSimpArgs false
set_option maxRecDepth 100000
namespace Go.DI.S
open Go.Proofs
theorem keyed_ge : ∀ (k : Nat) (l : List Str), ∀ r ∈ keyed k l, (k : Int) ≤ r.1
  | _, [], r, h => by cases h
  | k, p :: l, r, h => by
    rcases List.mem_cons.1 h with rfl | h
    · exact Int.le_refl _
    · have := keyed_ge (k + 1) l r h
      omega
theorem r_load (a : List (Int × Str)) (hb : Str) (z : Scene) (pz : tPast.El) (g : Vec) (nx : Int) (tl : List (Int × Str)) (ht : ∀ r ∈ tl, ¬ r.1 < 2000000) : ∀ (ts : List Thing), (∀ t ∈ ts, rt t = true ∧ tThing.wf t ∧ t.2.2.2.2.length ≤ 1000000 ∧ nid t ≤ 1000000) → ∀ (row : List Thing) (m : Nat), row.length + ts.length ≤ 1000000 → ts.length < m →
    roundsT (fun x => G_load_6 x.1.1 x.1.2.2.2.1 x.1.2.2.2.2.2.1 x.2.1 x.2.2.1 x.2.2.2.1 x.2.2.2.2.1) m ((a, (), (), hb, (), ts.map recOf ++ tl, ()), (z, ()), (pz, ()), (g, nx, (), ()), row, ()) = some (.inl ((a, (), (), hb, (), tl, ()), (z, ()), (pz, ()), (g, nx, row ++ ts, ()), ()))
  | [], _, row, m, h1, hm => by
    obtain ⟨m, rfl⟩ : ∃ k, m = k + 1 := ⟨m - 1, by simp at hm; omega⟩
    have step : G_load_6 a hb tl (z, ()) (pz, ()) (g, nx, (), ()) row = some (.inr (.inl ((a, (), (), hb, (), tl, ()), (z, ()), (pz, ()), (g, nx, row, ()), ()))) := by
      unfold G_load_6
      cases tl with
      | nil => exact noV rfl rfl
      | cons r tl =>
        have hr := ht r List.mem_cons_self
        have d : (0 : Int) < (((r :: tl).length : Nat) : Int) := by simp only [List.length_cons]; omega
        exact yesV (decide_eq_true d) (yesV (decide_eq_true ⟨Int.le_refl _, d⟩) (noV (decide_eq_false hr) rfl))
    rw [List.append_nil]
    exact rounds_out step m
  | t :: ts, hl, row, m, h1, hm => by
    obtain ⟨m, rfl⟩ : ∃ k, m = k + 1 := ⟨m - 1, by simp at hm; omega⟩
    obtain ⟨k1, k2, k3, k4⟩ := hl t List.mem_cons_self
    simp only [List.length_cons] at h1 hm
    have h63 := v_63 t k2 k3 k1
    have d : (0 : Int) < (((recOf t :: (ts.map recOf ++ tl)).length : Nat) : Int) := by simp only [List.length_cons]; omega
    have d1 : (0 : Int) ≤ 1 ∧ (1 : Int) ≤ (((recOf t :: (ts.map recOf ++ tl)).length : Nat) : Int) := by simp only [List.length_cons]; omega
    have hid : (recOf t).1 < (2000000 : Int) := Int.lt_of_le_of_lt k4 (by decide)
    have ed : List.take ((recOf t :: (ts.map recOf ++ tl)).length - 1) (List.drop 1 (recOf t :: (ts.map recOf ++ tl))) = ts.map recOf ++ tl := by
      simp only [List.length_cons, List.drop_succ_cons, List.drop_zero, Nat.add_sub_cancel, List.take_length]
    have step : G_load_6 a hb (recOf t :: (ts.map recOf ++ tl)) (z, ()) (pz, ()) (g, nx, (), ()) row = some (.inl ((a, (), (), hb, (), ts.map recOf ++ tl, ()), (z, ()), (pz, ()), (g, nx, (), ()), row ++ [t], ())) := by
      unfold G_load_6
      rw [ed]
      refine yesV (decide_eq_true d) (yesV (decide_eq_true ⟨Int.le_refl _, d⟩) (yesV (decide_eq_true hid) (yesV (decide_eq_true ⟨Int.le_refl _, d⟩) (bind_ofV h63 (yesV (Nat.ble_eq_true_of_le ?_) (yesV (decide_eq_true d1) rfl))))))
      simp only [List.length_singleton]; omega
    rw [List.map_cons, List.cons_append, rounds_in step m, r_load a hb z pz g nx tl ht ts (fun x hx => hl x (List.mem_cons_of_mem _ hx)) (row ++ [t]) m (by rw [List.length_append, List.length_singleton]; omega) (by omega), List.append_assoc]
    rfl
theorem head_a (s : Scene) (p : tPast.El) : List.take 8 (List.drop 0 (headS' s p)) = toS (numI s.1.1 8) := by
  unfold headS'
  rw [List.drop_zero, List.append_assoc, List.append_assoc, List.take_left' (by rw [toS_len, numI_len])]
theorem head_b (s : Scene) (p : tPast.El) : List.take 8 (List.drop 8 (headS' s p)) = toS (numI s.1.2 8) := by
  unfold headS'
  rw [List.append_assoc, List.append_assoc, List.drop_left' (by rw [toS_len, numI_len]), List.take_left' (by rw [toS_len, numI_len])]
theorem head_c (s : Scene) (p : tPast.El) : List.take 4 (List.drop 16 (headS' s p)) = toS (numI s.2.1 4) := by
  unfold headS'
  rw [List.append_assoc, List.drop_left' (by rw [List.length_append, toS_len, toS_len, numI_len, numI_len]), List.take_left' (by rw [toS_len, numI_len])]
theorem head_d (s : Scene) (p : tPast.El) (hp : p.1.length ≤ 16) : (((List.getD (headS' s p) (Int.toNat (20 : Int)) (0 : UInt8)).toBitVec.toFin.1 : Nat) : Int) = (p.1.length : Int) := by
  have h : (headS' s p)[20]? = some (UInt8.ofNat p.1.length) := by
    unfold headS'
    rw [List.getElem?_append_right (by rw [List.length_append, List.length_append, toS_len, toS_len, toS_len, numI_len, numI_len, numI_len]; decide)]
    rw [List.length_append, List.length_append, toS_len, toS_len, toS_len, numI_len, numI_len, numI_len]
    rfl
  have hg : List.getD (headS' s p) (Int.toNat (20 : Int)) (0 : UInt8) = UInt8.ofNat p.1.length := by
    show List.getD (headS' s p) 20 0 = _
    rw [List.getD_eq_getElem?_getD, h]; rfl
  rw [hg]
  show (((UInt8.ofNat p.1.length).toNat : Nat) : Int) = _
  rw [UInt8.toNat_ofNat']
  have : p.1.length % 2 ^ 8 = p.1.length := Nat.mod_eq_of_lt (by omega)
  rw [this]
theorem v_load (s : Scene) (p0 : tPast.El) (tl : List (Int × Str)) (all : List Entry) (u : Nat) (b : Bool) (hs : Small s.2.2) (hr : rightB s = true) (hp : p0.1.length ≤ 16) (ht : ∀ r ∈ tl, ¬ r.1 < 2000000) (hF : F_ents tl = some ((all, ()) : Els [.list tEntry])) (hO : Oks all) (hl : all.length ≤ 16)
    (hu : u = if all.length < p0.1.length then all.length else p0.1.length)
    (hE : F_eqR (recsL s (all.take u, all.drop u)) (((0 : Int), headS' s p0) :: (s.2.2.map recOf ++ tl)) = some ((b, ()) : Els [.bool])) :
    F_load (((0 : Int), headS' s p0) :: (s.2.2.map recOf ++ tl)) = some ((if b then (s, (all.take u, all.drop u), (0 : Int), ()) else ((((0 : Int), (0 : Int)), (0 : Int), []), ([], []), (5 : Int), ())) : Els [tScene, tPast, I]) := by
  have hR := right_of hr
  have h40 := hR.len
  have hnear := near_fits (near_of hr)
  have c1 := v_valN (n := 8) (by omega) hnear.1
  have c2 := v_valN (n := 8) (by omega) hnear.2
  have c3 := v_valN (n := 4) (by omega) (fit_id (v := s.2.1) hR.next.1 hR.next.2)
  rw [← head_a s p0] at c1
  rw [← head_b s p0] at c2
  rw [← head_c s p0] at c3
  have hlen := head_len s p0
  have hd := head_d s p0 hp
  generalize hbE : headS' s p0 = hb at *
  generalize hLE : ((0 : Int), hb) :: (s.2.2.map recOf ++ tl) = L at *
  have hL0 : List.getD L 0 tRec.dflt = ((0 : Int), hb) := by rw [← hLE]; rfl
  have hLl : 0 < L.length := by rw [← hLE]; simp
  have hLt : List.take (L.length - 1) (List.drop 1 L) = s.2.2.map recOf ++ tl := by
    rw [← hLE]
    simp only [List.length_cons, List.drop_succ_cons, List.drop_zero, Nat.add_sub_cancel, List.take_length]
  have r1 := r_load L hb (((0 : Int), (0 : Int)), (0 : Int), []) ([], []) (s.1.1, s.1.2) s.2.1 tl ht s.2.2 (fun t ht' => ⟨(hR.low t ht').2.2, wf_thing (thing_rt hR hs ht'), by have := ins_few hR hs ht'; exact Nat.le_trans this (by decide), (ids_of hR t ht').2⟩) [] fuel (by simp only [List.length_nil]; omega) (fuel_lt (by omega))
  rw [List.nil_append] at r1
  have r1 : R_load_6 ((L, (), (), hb, (), s.2.2.map recOf ++ tl, ()), ((((0 : Int), (0 : Int)), (0 : Int), []), ()), (([], []), ()), ((s.1.1, s.1.2), s.2.1, (), ()), [], ()) = _ := r1
  have hul : u ≤ all.length := by rw [hu]; split <;> omega
  have hw : IntKind.i64.wrap (((List.getD hb (Int.toNat (20 : Int)) (0 : UInt8)).toBitVec.toFin.1 : Nat) : Int) = (p0.1.length : Int) := by rw [hd, wrap64 (by omega) (by omega)]
  have hU : (if (all.length : Int) < IntKind.i64.wrap (((List.getD hb (Int.toNat (20 : Int)) (0 : UInt8)).toBitVec.toFin.1 : Nat) : Int) then (all.length : Int) else IntKind.i64.wrap (((List.getD hb (Int.toNat (20 : Int)) (0 : UInt8)).toBitVec.toFin.1 : Nat) : Int)) = (u : Int) := by
    rw [hw, hu]
    by_cases c : all.length < p0.1.length
    · rw [if_pos (by omega), if_pos c]
    · rw [if_neg (by omega), if_neg c]
  have o1 : Oks (all.take u) := fun x hx => hO x (List.mem_of_mem_take hx)
  have o2 : Oks (all.drop u) := fun x hx => hO x (List.mem_of_mem_drop hx)
  have k1 := v_107 (all.take u) o1 (by rw [List.length_take]; omega)
  have k2 := v_107 (all.drop u) o2 (by rw [List.length_drop]; omega)
  have k3 := v_recs s (all.take u, all.drop u) hs hr o1 o2 (by show (all.take u).length ≤ 16; rw [List.length_take]; omega) (by show (all.drop u).length ≤ 16; rw [List.length_drop]; omega)
  have n0 : (((L.length : Nat) : Int) == (0 : Int)) = false := beq_false_of_ne (by omega)
  have n1 : (0 : Int) ≤ 0 ∧ (0 : Int) < ((L.length : Nat) : Int) := by omega
  have n2 : (((hb.length : Nat) : Int) != (22 : Int)) = false := bne_no (by rw [hlen]; rfl)
  have n3 : (0 : Int) ≤ 8 ∧ (8 : Int) ≤ ((hb.length : Nat) : Int) := by rw [hlen]; decide
  have n4 : (0 : Int) ≤ 16 ∧ (16 : Int) ≤ ((hb.length : Nat) : Int) ∧ (0 : Int) ≤ 8 ∧ (8 : Int) ≤ 16 := by rw [hlen]; decide
  have n5 : (0 : Int) ≤ 20 ∧ (20 : Int) ≤ ((hb.length : Nat) : Int) ∧ (0 : Int) ≤ 16 ∧ (16 : Int) ≤ 20 := by rw [hlen]; decide
  have n6 : (0 : Int) ≤ 1 ∧ (1 : Int) ≤ ((L.length : Nat) : Int) := by omega
  have n7 : (0 : Int) ≤ 20 ∧ (20 : Int) < ((hb.length : Nat) : Int) := by rw [hlen]; decide
  have n8 : (0 : Int) ≤ (u : Int) ∧ (u : Int) ≤ ((all.length : Nat) : Int) := by omega
  have e1 : List.take ((u : Int).toNat - 0) (List.drop 0 all) = all.take u := by rw [Int.toNat_natCast, Nat.sub_zero, List.drop_zero]
  have e2 : List.take (all.length - (u : Int).toNat) (List.drop (u : Int).toNat all) = all.drop u := by
    rw [Int.toNat_natCast, List.take_of_length_le (by rw [List.length_drop]; omega)]
  unfold F_load
  rw [hL0, hLt]
  refine noV n0 (yesV (decide_eq_true n1) (noV n2 (yesV (decide_eq_true n1) (yesV (decide_eq_true n3) (bind_ofV c1 (yesV (decide_eq_true n4) (bind_ofV c2 (yesV (decide_eq_true n5) (bind_ofV c3 (yesV (decide_eq_true n6) (bind_ofV r1 (bind_ofV hF (yesV (decide_eq_true n7) ?_)))))))))))))
  simp only [hU]
  rw [e1, e2]
  refine yesV (decide_eq_true n8) (bind_ofV k1 (yesV (decide_eq_true n8) (bind_ofV k2 (bind_ofV k3 (noV rfl (bind_ofV hE ?_))))))
  cases b <;> rfl
end Go.DI.S
