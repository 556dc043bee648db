import Derived.Test.YtehnecfmjfpclaaGreatNc
/- PastPieces, plain. No conditions. -/
set_option linter.unusedVariables false
set_option linter.unusedSimpArgs false
set_option maxRecDepth 100000
set_option maxHeartbeats 0
namespace Go.DI.S
open Go.Proofs
theorem newS_right : rightB newS = true := by kernel_rfl
theorem newS_small : Small newS.2.2 := ⟨by decide, fun t ht => by cases ht⟩
theorem r_pieces (n : Nat) (hn : n ≤ 40) : R_pieces_5 (((n : Int), (), (), (1 : Int), ()), (newS, ()), (((0 : Int), (0 : Int)), (50 : Int), (), ()), [], ()) = some (.inl (((n : Int), (), (), ()), (newS, ()), (((0 : Int), (0 : Int)), (50 : Int), bls n, ()), ())) := by
  have := rounds_to (G := fun x => G_pieces_5 x.1.1 x.1.2.2.2.1 x.2.1 x.2.2.1 x.2.2.2.1) (n := n) (inv := fun i => (((n : Int), (), (), ((i + 1 : Nat) : Int), ()), (newS, ()), (((0 : Int), (0 : Int)), (50 : Int), (), ()), bls i, ()))
    (y := .inl (((n : Int), (), (), ()), (newS, ()), (((0 : Int), (0 : Int)), (50 : Int), bls n, ()), ())) (fun i hi => ?_) ?_ n 0 fuel (by omega) (fuel_lt (by omega))
  · exact this
  · have d1 : ((i + 1 : Nat) : Int) ≤ (n : Int) := by omega
    have w1 : IntKind.i64.wrap (((i + 1 : Nat) : Int) * (4294967296 : Int)) = ((i + 1 : Nat) : Int) * 4294967296 := wrap64 (by omega) (by omega)
    have w2 : IntKind.i64.wrap (((i + 1 : Nat) : Int) + 1) = ((i + 1 + 1 : Nat) : Int) := by rw [wrap64 (by omega) (by omega)]; omega
    show G_pieces_5 (n : Int) ((i + 1 : Nat) : Int) (newS, ()) (((0 : Int), (0 : Int)), (50 : Int), (), ()) (bls i) = some (.inl (((n : Int), (), (), ((i + 1 + 1 : Nat) : Int), ()), (newS, ()), (((0 : Int), (0 : Int)), (50 : Int), (), ()), bls (i + 1), ()))
    unfold G_pieces_5
    rw [w1, w2, bls_succ]
    refine yesV (decide_eq_true d1) (bind_ofV (x := (ballT (i + 1), ())) rfl (yesV (Nat.ble_eq_true_of_le ?_) rfl))
    rw [bls_len]
    simp only [List.length_singleton]; omega
  · have d1 : ¬ (((n + 1 : Nat) : Int) ≤ (n : Int)) := by omega
    show G_pieces_5 (n : Int) ((n + 1 : Nat) : Int) (newS, ()) (((0 : Int), (0 : Int)), (50 : Int), (), ()) (bls n) = _
    unfold G_pieces_5
    exact noV (decide_eq_false d1) rfl
theorem pcs_count : ∀ (f : Nat) (b : Str), b.length < f → (pcs f b).length = (b.length + 898) / 899
  | 0, b, h => by omega
  | f + 1, b, h => by
    rw [pcs_succ]
    by_cases h0 : b = []
    · rw [if_pos h0, h0]; rfl
    have hpos : 0 < b.length := List.length_pos_iff.2 h0
    rw [if_neg h0]
    by_cases hc : b.length ≤ 899
    · rw [if_pos hc]
      show 1 = _
      omega
    · rw [if_neg hc, List.length_cons, pcs_count f (b.drop 899) (by rw [List.length_drop]; omega), List.length_drop]
      omega
theorem keyed_cut : ∀ (k : Nat) (l : List Str), keyed k l.dropLast = (keyed k l).dropLast
  | _, [] => rfl
  | _, [a] => rfl
  | k, a :: b :: l => by
    show ((k : Int), a) :: keyed (k + 1) (b :: l).dropLast = ((k : Int), a) :: (keyed (k + 1) (b :: l)).dropLast
    rw [keyed_cut (k + 1) (b :: l)]
theorem pE_ne {e : Entry} (h : RE e) : pE e ≠ [] := fun k => by
  have h1 := pcs_count 9000 (toS (entryI e)) (by rw [toS_len]; have := (entryI_len h).1; omega)
  have h2 : (pE e).length = 0 := by rw [k]; rfl
  have h3 := (entryI_len h).2
  have h1 : (pE e).length = _ := h1
  rw [toS_len] at h1
  omega
theorem re_x {n : Nat} (hn : n ≤ 40) : RE (betE newS (bS n)) := by
  have l1 := lil_right newS_small newS_right
  have l2 := lil_right (s := bS n) (bls_small n (by omega)) (bS_right hn)
  rcases re_bet newS_right (bS_right hn) (rdb_right newS_right newS_small) (rdb_right (bS_right hn) (bls_small n (by omega))) with h | h | h
  · exact h
  · have h1 : (betE newS (bS n)).1.length ≤ (idsOf newS.2.2 (bS n).2.2).length := dif_len _ _ _
    have h2 := ids_len newS.2.2 (bS n).2.2
    have h3 : newS.2.2.length = 0 := rfl
    have h4 : (bS n).2.2.length = n := bls_len n
    omega
  · exact absurd (show (1 : Int) = 50 from h.2.2) (by decide)
theorem pastPieces (a : I.El) (h : I.wf a) : F_pieces a = some ((true, ()) : Els [.bool]) := by
  unfold F_pieces
  by_cases c1 : a < (1 : Int)
  · exact yesV (decide_eq_true c1) (bind_ofV alive30 rfl)
  by_cases c2 : a > (40 : Int)
  · exact noV (decide_eq_false c1) (yesV (decide_eq_true c2) (bind_ofV alive30 rfl))
  obtain ⟨n, rfl⟩ : ∃ n : Nat, a = (n : Int) := Int.eq_ofNat_of_zero_le (Int.le_trans (by decide) (Int.not_lt.1 c1))
  have hn : n ≤ 40 := Int.ofNat_le.1 (Int.not_lt.1 c2)
  refine noV (decide_eq_false c1) (noV (decide_eq_false c2) (bind_ofV alive30 (noV rfl (bind_ofV v_19n (bind_ofV (r_pieces n hn) ?_)))))
  have hsm := bls_small n (by omega)
  have hrt := bS_right hn
  have hRE := re_x hn
  have hv := v_216 newS (bS n) (lil_right newS_small newS_right) (lil_right (s := bS n) hsm hrt) newS_right hrt
  rw [if_pos (rightE_iff.2 hRE)] at hv
  generalize betE newS (bS n) = x at hRE hv
  have hput := v_putE x hRE
  have hel := entryI_len hRE
  have O1 : Oks [x] := fun y hy => by rw [List.mem_singleton.1 hy]; exact hRE
  have O0 : Oks [] := fun y hy => by cases hy
  have hadd := v_31 [] [] x O0 O0 hRE (by simp) (by simp)
  have hrec := v_recs (bS n) ([x], []) hsm hrt O1 O0 (by simp) (by simp)
  have hall : allP ([x] ++ []) = pE x := by simp [allP]
  have hR : recsL (bS n) ([x], []) = ((0 : Int), headS' (bS n) ([x], [])) :: ((bS n).2.2.map recOf ++ keyed 2000000 (pE x)) := by
    unfold recsL
    rw [hall]
  have hcnt : (pE x).length = ((toS (entryI x)).length + 898) / 899 := pcs_count 9000 (toS (entryI x)) (by rw [toS_len]; omega)
  have hlen : (recsL (bS n) ([x], [])).length = 1 + (n + (pE x).length) := by
    rw [hR, List.length_cons, List.length_append, List.length_map, keyed_len]
    show (bls n).length + (pE x).length + 1 = _
    rw [bls_len]; omega
  have hlx : (toS (entryI x)).length ≤ 8400 := by rw [toS_len]; exact hel.1
  have hk1 : ∀ r ∈ keyed 2000000 (pE x), ¬ r.1 < 2000000 := fun r hr => Int.not_lt.2 (keyed_ge _ _ r hr)
  have hk0 : ∀ r ∈ keyed 2000000 (pE x).dropLast, ¬ r.1 < 2000000 := fun r hr => Int.not_lt.2 (keyed_ge _ _ r hr)
  have L1 := v_load (bS n) ([x], []) (keyed 2000000 (pE x)) [x] 1 true hsm hrt (by simp) hk1 (v_ents1 hRE) O1 (by simp) rfl (by
    rw [← hR]
    exact v_eqR _ (by show (recsL (bS n) ([x], [])).length ≤ 1000000000; rw [hlen]; omega))
  rw [← hR, if_pos rfl] at L1
  have hdiff : headS' (bS n) ([], []) ≠ headS' (bS n) ([x], []) := fun k => by
    have q1 := head_d (bS n) ([], []) (by simp)
    have q2 := head_d (bS n) ([x], []) (by simp)
    rw [k] at q1
    have q3 := q1.symm.trans q2
    exact absurd q3 (by simp)
  have L0 := v_load (bS n) ([x], []) (keyed 2000000 (pE x).dropLast) [] 0 false hsm hrt (by simp) hk0 (v_ents0 hRE) O0 (by simp) rfl (by
    show F_eqR (((0 : Int), headS' (bS n) ([], [])) :: _) (((0 : Int), headS' (bS n) ([x], [])) :: _) = _
    refine v_eqR_no hdiff ?_
    show ((bS n).2.2.map recOf ++ keyed 2000000 (allP ([] ++ []))).length ≤ 1000000
    rw [List.length_append, List.length_map, keyed_len]
    show (bls n).length + 0 ≤ 1000000
    rw [bls_len]; omega)
  rw [if_neg (by decide)] at L0
  have hcut : List.take ((IntKind.i64.wrap (((recsL (bS n) ([x], [])).length : Int) - 1)).toNat - 0) (List.drop 0 (recsL (bS n) ([x], []))) = ((0 : Int), headS' (bS n) ([x], [])) :: ((bS n).2.2.map recOf ++ keyed 2000000 (pE x).dropLast) := by
    have hne : keyed 2000000 (pE x) ≠ [] := fun k => pE_ne hRE (List.eq_nil_of_length_eq_zero (by rw [← keyed_len 2000000 (pE x), k]; rfl))
    have hw : IntKind.i64.wrap (((recsL (bS n) ([x], [])).length : Int) - 1) = (((recsL (bS n) ([x], [])).length - 1 : Nat) : Int) := by
      rw [wrap64 (by omega) (by omega)]; omega
    rw [hw, Int.toNat_natCast, Nat.sub_zero, List.drop_zero, ← List.dropLast_eq_take, hR, keyed_cut, List.dropLast_cons_of_ne_nil (by simp [hne]), List.dropLast_append_of_ne_nil hne]
  have hP : 0 < (pE x).length := List.length_pos_iff.2 (pE_ne hRE)
  have n1 : (((recsL (bS n) ([x], [])).length : Int) != IntKind.i64.wrap (IntKind.i64.wrap ((1 : Int) + (n : Int)) + IntKind.i64.wrap ((IntKind.i64.wrap (IntKind.i64.wrap (((toS (entryI x)).length : Int) + 900) - 2)).tdiv 899))) = false := by
    refine bne_no ?_
    have a1 : IntKind.i64.wrap (((toS (entryI x)).length : Int) + 900) = ((toS (entryI x)).length : Int) + 900 := wrap64 (by omega) (by omega)
    have a2 : IntKind.i64.wrap (((toS (entryI x)).length : Int) + 900 - 2) = (((toS (entryI x)).length + 898 : Nat) : Int) := by rw [wrap64 (by omega) (by omega)]; omega
    have a3 : ((((toS (entryI x)).length + 898 : Nat) : Int)).tdiv 899 = (((pE x).length : Nat) : Int) := by rw [hcnt]; rfl
    have a4 : IntKind.i64.wrap (((pE x).length : Nat) : Int) = (((pE x).length : Nat) : Int) := wrap64 (by omega) (by omega)
    have a5 : IntKind.i64.wrap ((1 : Int) + (n : Int)) = (1 : Int) + n := wrap64 (by omega) (by omega)
    have a6 : IntKind.i64.wrap ((1 : Int) + (n : Int) + (((pE x).length : Nat) : Int)) = (1 : Int) + n + (((pE x).length : Nat) : Int) := wrap64 (by omega) (by omega)
    rw [a1, a2, a3, a4, a5, a6, hlen]
    omega
  have n2 : (0 : Int) ≤ IntKind.i64.wrap (((recsL (bS n) ([x], [])).length : Int) - 1) ∧ IntKind.i64.wrap (((recsL (bS n) ([x], [])).length : Int) - 1) ≤ ((recsL (bS n) ([x], [])).length : Int) := by
    rw [wrap64 (by omega) (by omega)]; omega
  refine bind_ofV hv (bind_ofV hput (bind_ofV hadd (bind_ofV hrec (noV rfl (noV rfl (noV rfl (noV rfl (noV n1 (bind_ofV L1 (yesV (decide_eq_true n2) ?_))))))))))
  refine bind_ofV (x := ((((0 : Int), (0 : Int)), (0 : Int), []), ([], []), (5 : Int), ())) ?_ (yesV rfl (bind_ofV (v_25 (bS n)) (bind_ofV (v_24 (bS n) hsm) (yesV rfl (yesV rfl (yesV rfl (bind_ofV (v_209 x (by have := hRE.len; omega)) (yesV rfl rfl))))))))
  show F_load (List.take ((IntKind.i64.wrap (((recsL (bS n) ([x], [])).length : Int) - 1)).toNat - 0) (List.drop 0 (recsL (bS n) ([x], [])))) = _
  rw [hcut]
  exact L0
end Go.DI.S
