import Derived.Test.YtmleimalginhhaaXa
/- What Drop, Hold, Copy come to; KinRight, plain. No conditions. -/
/-! What Drop comes to. -/
set_option linter.unusedVariables false
set_option linter.unusedSimpArgs false
set_option maxRecDepth 100000
namespace Go.DI.S
open Go.Proofs
theorem got_putB (m : MB) (k j : Int) (v : Bool) : gotB (tput (.int .i64) .bool k v m) j = if j = k then v else gotB m j := by
  unfold gotB
  rw [tget_put .bool k j v m]
  by_cases h : j = k <;> simp [h]
theorem v_119 (a : Int) (m : MB) : F_119 a ((), ()) m = some ((!gotB m a, ()), ((), ()), m, ()) := rfl
theorem v_77 (a : Int) (m : MB) : F_77 a ((), ()) m = some ((gotB m a, ()), ((), ()), m, ()) := rfl
def idxI (l : List Int) (p : Int → Bool) : Int := match l.findIdx? p with | some k => (k : Int) | none => -1
theorem idxI_ge (l : List Int) (p : Int → Bool) : decide (idxI l p ≥ 0) = l.any p := by
  unfold idxI
  cases hx : l.findIdx? p with
  | none =>
    rw [List.findIdx?_eq_none_iff] at hx
    rw [decide_eq_false (by decide)]
    symm
    rw [List.any_eq_false]
    intro x hx'
    simpa using hx x hx'
  | some k =>
    rw [List.findIdx?_eq_some_iff_getElem] at hx
    obtain ⟨h1, h2, _⟩ := hx
    rw [decide_eq_true (by show (k : Int) ≥ 0; omega)]
    symm
    exact List.any_eq_true.2 ⟨_, List.getElem_mem h1, h2⟩
theorem v_120_119 (l : List Int) (m : MB) (hl : l.length ≤ 1000000000) : F_120_119 l ((), ()) m = some ((idxI l (fun n => !gotB m n), ()), ((), ()), m, ()) := by
  have h := find_loop (G := fun x => G_120_119_2 x.1.1 x.1.2.2.1 x.1.2.2.2.1 x.2.1 x.2.2.1) (m := fuel) l (fun n => !gotB m n) (fun k => ((l, (), (l.length : Int), (k : Int), ()), ((), ()), m, ())) (fun k => .inr (((k : Int), ()), ((), ()), m, ())) (.inl ((), ((), ()), m, ()))
    (fun k x hx => ?_) ?_ (fuel_lt hl)
  · unfold F_120_119 R_120_119_2 idxI
    rw [show (0 : Int) = ((0 : Nat) : Int) from rfl, h]
    cases l.findIdx? (fun n => !gotB m n) <;> rfl
  · have hk := len_of hx
    simp only [G_120_119_2, dec_lt hk, dec_in hk, cond_true, getD_of hx, wrap_up hk (by omega), v_119, Option.bind_some]
    cases gotB m x <;> rfl
  · simp only [G_120_119_2, dec_end, cond_false]
theorem v_79_119 (l : List Int) (m : MB) (hl : l.length ≤ 1000000000) : F_79_119 l ((), ()) m = some ((l.any (fun n => !gotB m n), ()), ((), ()), m, ()) := by
  unfold F_79_119
  rw [v_120_119 l m hl]
  show some ((decide (idxI l (fun n => !gotB m n) ≥ 0), ()), ((), ()), m, ()) = _
  rw [idxI_ge]
theorem v_75 (t : Thing) (m : MB) (hl : t.2.2.2.2.length ≤ 1000000000) : F_75 t m = some ((goesF (gotB m) t, ()), m, ()) := by
  unfold F_75 goesF
  by_cases h2 : t.2.1 = 2
  · rw [beq_iff_eq.2 h2, cond_true, if_pos h2]
    show (bif gotB m t.2.2.2.1.1 then some ((true, ()), m, ()) else some ((gotB m t.2.2.2.1.2.1, ()), m, ())) = _
    cases gotB m t.2.2.2.1.1 <;> rfl
  · rw [show (t.2.1 == (2 : Int)) = false by simpa using h2, cond_false, if_neg h2]
    by_cases h3 : t.2.1 = 3
    · rw [beq_iff_eq.2 h3, cond_true, if_pos h3, v_79_119 _ _ hl]
      have : (!(t.2.2.2.2.any fun n => !gotB m n)) = (ins t).all (gotB m) := by
        rw [List.not_any_eq_all_not]
        congr 1
        funext n
        simp
      show some ((!(t.2.2.2.2.any fun n => !gotB m n), ()), m, ()) = _
      rw [this]
    · rw [show (t.2.1 == (3 : Int)) = false by simpa using h3, cond_false, if_neg h3]
/-! ### what is not gone of a row -/
theorem v_120_77o (l : List Int) (m : MB) (hl : l.length ≤ 1000000000) : F_120_77o ((), ()) m l = some ((idxI l (gotB m), ()), ((), ()), m, l, ()) := by
  have h := find_loop (G := fun x => G_120_77o_2 x.1.2.2.1 x.1.2.2.2.1 x.2.1 x.2.2.1 x.2.2.2.1) (m := fuel) l (gotB m) (fun k => (((), (), (l.length : Int), (k : Int), ()), ((), ()), m, l, ())) (fun k => .inr (((k : Int), ()), ((), ()), m, l, ())) (.inl ((), ((), ()), m, l, ()))
    (fun k x hx => ?_) ?_ (fuel_lt hl)
  · unfold F_120_77o R_120_77o_2 idxI
    rw [show (0 : Int) = ((0 : Nat) : Int) from rfl, h]
    cases l.findIdx? (gotB m) <;> rfl
  · have hk := len_of hx
    simp only [G_120_77o_2, dec_lt hk, dec_in hk, cond_true, getD_of hx, wrap_up hk (by omega), v_77, Option.bind_some]
    cases gotB m x <;> rfl
  · simp only [G_120_77o_2, dec_end, cond_false]
def keepB (m : MB) (n : Int) : Bool := !gotB m n
theorem loop_76 (l : List Int) (m : MB) (hl : l.length ≤ 1000000000) : ∀ (d f j i : Nat) (r : List Int), j + d = l.length → d < f → r.length = l.length → i < j → r.take i = (l.take j).filter (keepB m) → r.drop j = l.drop j →
    ∃ (r' : List Int) (i' : Nat), roundsT (fun x => G_76o_5 x.1.2.2.1 x.1.2.2.2.1 x.2.1 x.2.2.1 x.2.2.2.1) f (((), (), (i : Int), (j : Int), ()), ((), ()), m, r, ()) = some (.inl (((), (i' : Int), ()), ((), ()), m, r', ())) ∧ r'.length = l.length ∧ i' < l.length ∧ r'.take i' = l.filter (keepB m)
  | 0, f, j, i, r, hj, hf, hr, hi, h1, h2 => by
    obtain ⟨f, rfl⟩ : ∃ k, f = k + 1 := ⟨f - 1, by omega⟩
    have : j = l.length := by omega
    subst this
    refine ⟨r, i, rounds_out (by simp only [G_76o_5, hr, dec_end, cond_false]) f, hr, hi, ?_⟩
    rw [h1, List.take_length]
  | d + 1, f, j, i, r, hj, hf, hr, hi, h1, h2 => by
    obtain ⟨f, rfl⟩ : ∃ k, f = k + 1 := ⟨f - 1, by omega⟩
    have hlt : j < l.length := by omega
    have hlr : j < r.length := by omega
    have hir : i < r.length := by omega
    have e1 : r[j] = l[j] := by
      have := h2
      rw [List.drop_eq_getElem_cons hlt, List.drop_eq_getElem_cons hlr] at this
      injection this
    have e2 : r.drop (j + 1) = l.drop (j + 1) := by
      have := h2
      rw [List.drop_eq_getElem_cons hlt, List.drop_eq_getElem_cons hlr] at this
      injection this
    have ht : l.take (j + 1) = l.take j ++ [l[j]] := List.take_succ_eq_append_getElem hlt
    cases hk : gotB m l[j] with
    | true =>
      obtain ⟨r', i', k1, k2, k3, k4⟩ := loop_76 l m hl d f (j + 1) i r (by omega) (by omega) hr (by omega) (by
        rw [ht, List.filter_append, h1]
        have : [l[j]].filter (keepB m) = [] := by simp [keepB, hk]
        rw [this, List.append_nil]) e2
      refine ⟨r', i', ?_, k2, k3, k4⟩
      rw [rounds_in (x' := (((), (), (i : Int), ((j + 1 : Nat) : Int), ()), ((), ()), m, r, ())) ?_ f]
      · exact k1
      · simp only [G_76o_5, dec_lt hlr, dec_in hlr, cond_true, getD_of (List.getElem?_eq_getElem hlr), e1, v_77, hk, Option.bind_some, Bool.not_true, cond_false, wrap_up hlt (by omega)]
    | false =>
      obtain ⟨r', i', k1, k2, k3, k4⟩ := loop_76 l m hl d f (j + 1) (i + 1) (r.set i l[j]) (by omega) (by omega) (by rw [List.length_set]; exact hr) (by omega) (by
        have hs : (r.set i l[j]).take (i + 1) = r.take i ++ [l[j]] := by
          rw [List.take_succ_eq_append_getElem (by rw [List.length_set]; exact hir), List.getElem_set_self, List.take_set_of_le (Nat.le_refl _)]
        rw [hs, ht, List.filter_append, h1]
        have : [l[j]].filter (keepB m) = [l[j]] := by simp [keepB, hk]
        rw [this]) (by rw [List.drop_set_of_lt (by omega), e2])
      refine ⟨r', i', ?_, k2, k3, k4⟩
      rw [rounds_in (x' := (((), (), ((i + 1 : Nat) : Int), ((j + 1 : Nat) : Int), ()), ((), ()), m, r.set i l[j], ())) ?_ f]
      · exact k1
      · simp only [G_76o_5, dec_lt hlr, dec_in hlr, dec_in hir, cond_true, getD_of (List.getElem?_eq_getElem hlr), e1, v_77, hk, Option.bind_some, Bool.not_false, wrap_up hlt (by omega), wrap_up hir (by omega)]
        rfl
theorem v_76o (l : List Int) (m : MB) (hl : l.length ≤ 1000000000) : F_76o ((), ()) m l = some ((l.filter (keepB m), ()), ((), ()), m, ()) := by
  unfold F_76o
  rw [v_120_77o l m hl]
  simp only [Option.bind_some]
  unfold idxI
  cases hx : l.findIdx? (gotB m) with
  | none =>
    rw [List.findIdx?_eq_none_iff] at hx
    have : l.filter (keepB m) = l := List.filter_eq_self.2 fun n hn => by unfold keepB; rw [hx n hn]; rfl
    rw [this]; rfl
  | some k =>
    rw [List.findIdx?_eq_some_iff_getElem] at hx
    obtain ⟨h1, h2, h3⟩ := hx
    have hne : ((k : Int) == (-1 : Int)) = false := beq_eq_false_iff_ne.2 (by omega)
    have hd : l.length - (k + 1) < fuel := fuel_lt (by omega)
    obtain ⟨r', i', k1, k2, k3, k4⟩ := loop_76 l m hl (l.length - (k + 1)) fuel (k + 1) k l (by omega) hd rfl (by omega) (by
      rw [List.take_succ_eq_append_getElem h1, List.filter_append]
      have e1 : [l[k]].filter (keepB m) = [] := by simp [keepB, h2]
      have e2 : (l.take k).filter (keepB m) = l.take k := List.filter_eq_self.2 fun n hn => by
        obtain ⟨j, hj, e⟩ := List.getElem_of_mem hn
        rw [List.length_take] at hj
        have hj : j < k := by omega
        rw [List.getElem_take] at e
        have := h3 j hj
        unfold keepB
        rw [← e]
        simpa using this
      rw [e1, e2, List.append_nil]) rfl
    rw [hne, cond_false, wrap_up h1 (by omega)]
    have hR : R_76o_5 (((), (), (k : Int), ((k + 1 : Nat) : Int), ()), ((), ()), m, l, ()) = some (.inl (((), (i' : Int), ()), ((), ()), m, r', ())) := k1
    rw [hR]
    simp only [Option.bind_some, Sum.elim_inl]
    have c1 : decide ((0 : Int) ≤ (i' : Int) ∧ (i' : Int) ≤ (r'.length : Int)) = true := decide_eq_true (by omega)
    have c2 : i'.blt r'.length = true := by rw [Nat.blt_eq]; omega
    have c3 : (i' * 1 + (r'.length - i')).beq r'.length = true := (by rw [Nat.beq_eq]; omega)
    have c4 : Nat.blt 0 r'.length = true := by rw [Nat.blt_eq]; omega
    have e5 : (r'.take (i' * 1) ++ List.replicate (r'.length - i') (0 : Int)).length = r'.length := by simp; omega
    have e6 : (r'.take (i' * 1) ++ List.replicate (r'.length - i') (0 : Int)).take i' = r'.take i' := by
      rw [Nat.mul_one, List.take_append_of_le_length (by rw [List.length_take]; omega), List.take_take, Nat.min_self]
    refine yesV c1 (yesV c2 (yesV ?_ (yesV (decide_eq_true ⟨by show (0 : Int) ≤ (i' : Int); omega, ?_⟩) (yesV ?_ ?_))))
    · show (true && ((i' * 1 + (r'.length - i')).beq r'.length && (Nat.blt 0 r'.length && true))) = true
      rw [c3, c4]; rfl
    · show (i' : Int) ≤ (((r'.take (i' * 1) ++ List.replicate (r'.length - i') (0 : Int)).length : Nat) : Int)
      rw [e5]; omega
    · show Nat.blt 0 ((r'.take (i' * 1) ++ List.replicate (r'.length - i') (0 : Int)).length) = true
      rw [e5]; exact c4
    · show some ((((r'.take (i' * 1) ++ List.replicate (r'.length - i') (0 : Int)).take i', ()), ((), ()), m, ()) : OUT_76o.El) = _
      rw [e6, k4]
end Go.DI.S

/-! What Drop comes to: the loops. -/
set_option linter.unusedVariables false
set_option linter.unusedSimpArgs false
set_option maxRecDepth 100000
namespace Go.DI.S
open Go.Proofs
def putM (m : MB) (n : Int) : MB := tput (.int .i64) .bool n true m
theorem got_fold : ∀ (l : List Int) (m : MB) (n : Int), (n ∈ l ∨ gotB m n = true) → gotB (l.foldl putM m) n = true
  | [], m, n, h => by
    rcases h with h | h
    · simp at h
    · exact h
  | a :: l, m, n, h => by
    refine got_fold l (putM m a) n ?_
    rcases h with h | h
    · rcases List.mem_cons.1 h with rfl | h
      · right; unfold putM; rw [got_putB, if_pos rfl]
      · exact .inl h
    · right; unfold putM; rw [got_putB, h]; split <;> rfl
theorem q_39_8 (s z : Scene) (l : List Int) (hl : l.length ≤ 1000000000) (m : MB) :
    R_39_8 (((), (), (), l, (l.length : Int), (0 : Int), ()), (s, ()), (z, ()), ((), ()), m, ()) = some (.inl (((), (), (), ()), (s, ()), (z, ()), ((), ()), l.foldl putM m, ())) := by
  have h := fold_all (G := fun x => G_39_8 x.1.2.2.2.1 x.1.2.2.2.2.1 x.1.2.2.2.2.2.1 x.2.1 x.2.2.1 x.2.2.2.1 x.2.2.2.2.1) (m := fuel) l putM
    (fun j m => (((), (), (), l, (l.length : Int), (j : Int), ()), (s, ()), (z, ()), ((), ()), m, ())) (fun m => .inl (((), (), (), ()), (s, ()), (z, ()), ((), ()), m, ())) (fun j a m ha => ?_) (fun m => ?_) (fuel_lt hl) m
  · exact h
  · have hk := len_of ha
    simp only [G_39_8, dec_lt hk, dec_in hk, cond_true, getD_of ha, wrap_up hk (by omega)]
    rfl
  · simp only [G_39_8, dec_end, cond_false]
def stepM (m : MB) (t : Thing) : MB := bif gotB m (nid t) then tput (.int .i64) .bool (nid t) true m else tput (.int .i64) .bool (nid t) (goesF (gotB m) t) m
theorem stepM_got (m : MB) (t : Thing) : gotB (stepM m t) = stepF (gotB m) t := by
  funext j
  unfold stepM stepF
  cases hg : gotB m (nid t) with
  | true =>
    rw [cond_true, got_putB]
    by_cases h : j = nid t
    · rw [if_pos h, if_pos h, h, hg]; rfl
    · rw [if_neg h, if_neg h]
  | false =>
    rw [cond_false, got_putB]
    by_cases h : j = nid t
    · rw [if_pos h, if_pos h, h, hg]; rfl
    · rw [if_neg h, if_neg h]
theorem roundM_got (l : List Thing) : ∀ (m : MB), gotB (l.foldl stepM m) = roundF l (gotB m) := by
  unfold roundF
  induction l with
  | nil => intro m; rfl
  | cons t l ih =>
    intro m
    rw [List.foldl_cons, List.foldl_cons, ih, stepM_got]
theorem q_39_15 (s z : Scene) (hs : Small s.2.2) (c k : Int) (m : MB) :
    R_39_15 (((), (), (), c, k, s.2.2, (s.2.2.length : Int), (0 : Int), ()), (s, ()), (z, ()), ((), ()), m, ()) = some (.inl (((), (), (), c, k, ()), (s, ()), (z, ()), ((), ()), s.2.2.foldl stepM m, ())) := by
  have h := fold_all (G := fun x => G_39_15 x.1.2.2.2.1 x.1.2.2.2.2.1 x.1.2.2.2.2.2.1 x.1.2.2.2.2.2.2.1 x.1.2.2.2.2.2.2.2.1 x.2.1 x.2.2.1 x.2.2.2.1 x.2.2.2.2.1) (m := fuel) s.2.2 stepM
    (fun j m => (((), (), (), c, k, s.2.2, (s.2.2.length : Int), (j : Int), ()), (s, ()), (z, ()), ((), ()), m, ())) (fun m => .inl (((), (), (), c, k, ()), (s, ()), (z, ()), ((), ()), m, ())) (fun j t m ha => ?_) (fun m => ?_) (fuel_lt hs.1) m
  · exact h
  · have hk := len_of ha
    have hi := hs.2 t (List.mem_of_getElem? ha)
    simp only [G_39_15, dec_lt hk, dec_in hk, cond_true, getD_of ha, v_75 t m hi, Option.bind_some, wrap_up hk (by have := hs.1; omega)]
    unfold stepM
    show (bif gotB m (nid t) then _ else _) = _
    cases gotB m (nid t) <;> rfl
  · simp only [G_39_15, dec_end, cond_false]
def itM (l : List Thing) (m : MB) : Nat → MB
  | 0 => m
  | k + 1 => l.foldl stepM (itM l m k)
theorem iterF_succ (l : List Thing) : ∀ (k : Nat) (g : Int → Bool), iterF l (k + 1) g = roundF l (iterF l k g)
  | 0, g => rfl
  | k + 1, g => by
    show iterF l (k + 1) (roundF l g) = roundF l (iterF l k (roundF l g))
    exact iterF_succ l k _
theorem itM_got (l : List Thing) (m : MB) : ∀ k, gotB (itM l m k) = iterF l k (gotB m)
  | 0 => rfl
  | k + 1 => by
    show gotB (l.foldl stepM (itM l m k)) = _
    rw [roundM_got, itM_got l m k, iterF_succ]
theorem q_39_13 (s z : Scene) (hs : Small s.2.2) (m : MB) :
    R_39_13 (((), (), (), (s.2.2.length : Int), (0 : Int), ()), (s, ()), (z, ()), ((), ()), m, ()) = some (.inl (((), (), (), ()), (s, ()), (z, ()), ((), ()), itM s.2.2 m s.2.2.length, ())) := by
  have h := rounds_to (G := fun x => G_39_13 x.1.2.2.2.1 x.1.2.2.2.2.1 x.2.1 x.2.2.1 x.2.2.2.1 x.2.2.2.2.1) (n := s.2.2.length)
    (inv := fun k => (((), (), (), (s.2.2.length : Int), (k : Int), ()), (s, ()), (z, ()), ((), ()), itM s.2.2 m k, ())) (y := .inl (((), (), (), ()), (s, ()), (z, ()), ((), ()), itM s.2.2 m s.2.2.length, ())) (fun k hk => ?_) ?_ s.2.2.length 0 fuel (by omega) (fuel_lt hs.1)
  · exact h
  · have h1 := q_39_15 s z hs (s.2.2.length : Int) (k : Int) (itM s.2.2 m k)
    simp only [G_39_13, dec_lt hk, cond_true, h1, Option.bind_some, Sum.elim_inl, wrap_up hk (by have := hs.1; omega)]
    rfl
  · simp only [G_39_13, dec_end, cond_false]
theorem left_snoc (g : Int → Bool) (l : List Thing) (t : Thing) : left g (l ++ [t]) = (if g (nid t) then left g l else left g l ++ [cut g t]) := by
  unfold left
  rw [List.filter_append, List.map_append]
  cases hg : g (nid t) with
  | true => simp [hg]
  | false => simp [hg]
theorem left_len (g : Int → Bool) (l : List Thing) : (left g l).length ≤ l.length := by
  unfold left
  rw [List.length_map]
  exact List.length_filter_le _ _
theorem q_39_22 (s z : Scene) (hs : Small s.2.2) (m : MB) :
    R_39_22 (((), (), (), (), s.2.2, (s.2.2.length : Int), (0 : Int), ()), (s, ()), (z, ()), ((), ()), m, [], ()) = some (.inl (((), (), (), ()), (s, ()), (z, ()), left (gotB m) s.2.2, ())) := by
  have h := rounds_to (G := fun x => G_39_22 x.1.2.2.2.2.1 x.1.2.2.2.2.2.1 x.1.2.2.2.2.2.2.1 x.2.1 x.2.2.1 x.2.2.2.1 x.2.2.2.2.1 x.2.2.2.2.2.1) (n := s.2.2.length)
    (inv := fun k => (((), (), (), (), s.2.2, (s.2.2.length : Int), (k : Int), ()), (s, ()), (z, ()), ((), ()), m, left (gotB m) (s.2.2.take k), ())) (y := .inl (((), (), (), ()), (s, ()), (z, ()), left (gotB m) (s.2.2.take s.2.2.length), ())) (fun k hk => ?_) ?_ s.2.2.length 0 fuel (by omega) (fuel_lt hs.1)
  · rw [List.take_length] at h
    exact h
  · have ha := List.getElem?_eq_getElem hk
    have hm := List.getElem_mem hk
    have hi := hs.2 _ hm
    have hlen := left_len (gotB m) (s.2.2.take k)
    have hlt : (s.2.2.take k).length = k := by rw [List.length_take]; omega
    have h1 := hs.1
    rw [List.take_succ_eq_append_getElem hk, left_snoc]
    simp only [G_39_22, dec_lt hk, dec_in hk, cond_true, getD_of ha, wrap_up hk (by have := hs.1; omega), v_46o _ hi, v_76o _ m hi, Option.bind_some]
    show (bif !gotB m (nid s.2.2[k]) then _ else _) = _
    cases hg : gotB m (nid s.2.2[k]) with
    | true => rfl
    | false =>
      simp only [Bool.not_false, cond_true, Bool.false_eq_true, if_false]
      refine yesV (Nat.ble_eq_true_of_le ?_) rfl
      simp only [List.length_cons, List.length_nil]
      omega
  · simp only [G_39_22, dec_end, cond_false]
theorem is_of_getB {l : List Thing} {n : Int} (hb : (getB l n).2 = true) : Is l n := by
  unfold getB at hb
  cases hx : idx l n with
  | none => rw [hx] at hb; cases hb
  | some k =>
    obtain ⟨t, h1, h2⟩ := idx_lt hx
    exact ⟨t, List.mem_of_getElem? h1, h2⟩
/-- What Drop comes to. -/
theorem v_39 (s : Scene) (id : Int) (hs : Small s.2.2) (hr : rightB s = true) :
    (¬ Is s.2.2 id ∧ F_39 s id = some ((noScene, 10, ()) : Els [tScene, I])) ∨
    (Is s.2.2 id ∧ ∃ g : Int → Bool, Clo s.2.2 g ∧ (∀ n ∈ ina s.2.2 id, g n = true) ∧ F_39 s id = some (((s.1, s.2.1, left g s.2.2), 0, ()) : Els [tScene, I])) := by
  have hR := right_of hr
  have e23 := v_23 s id hs.1 hs.2
  have e20 := v_20 s hs
  rw [hr] at e20
  unfold F_39
  by_cases hn : Is s.2.2 id
  · right
    refine ⟨hn, gotB (itM s.2.2 ((ina s.2.2 id).foldl putM []) s.2.2.length), ?_, ?_, ?_⟩
    · rw [itM_got]
      refine iter_clo _ ?_
      obtain ⟨t, ht, e⟩ := hn
      have : 0 < s.2.2.countP (fun t => gotB ((ina s.2.2 id).foldl putM []) (nid t)) := by
        rw [List.countP_pos_iff]
        exact ⟨t, ht, got_fold _ _ _ (.inl (by rw [e]; exact id_ina hR hs ⟨t, ht, e⟩))⟩
      omega
    · intro n hn'
      rw [itM_got]
      exact iter_mono _ (got_fold _ _ _ (.inl hn'))
    · have e37 := v_37 hr hs hn
      have hl : (sortI (inT s.2.2 100 id)).length ≤ 1000000000 := by
        rw [sortI_len]; have := hR.few hs 100 hn; omega
      have c1 : (!(getB s.2.2 id).2) = false := by
        obtain ⟨t, ht, rfl⟩ := hn
        rw [hR.asc.getB ht]; rfl
      have e8 := q_39_8 s noScene (sortI (inT s.2.2 100 id)) hl []
      have e13 := q_39_13 s noScene hs ((ina s.2.2 id).foldl putM [])
      have e22 := q_39_22 s noScene hs (itM s.2.2 ((ina s.2.2 id).foldl putM []) s.2.2.length)
      exact bind_ofV e20 (noV rfl (bind_ofV e23 (noV c1 (bind_ofV e37 (bind_ofV e8 (bind_ofV e13 (bind_ofV e22 rfl)))))))
  · refine .inl ⟨hn, bind_ofV e20 (noV rfl (bind_ofV e23 (yesV ?_ rfl)))⟩
    rw [getB_none hn]; rfl
end Go.DI.S

/-! What Hold comes to; Bodies; KinRight. -/
set_option linter.unusedVariables false
set_option linter.unusedSimpArgs false
set_option maxRecDepth 100000
namespace Go.DI.S
open Go.Proofs
def offB (s : Scene) (n : Int) : Bool := bif decide (n < 1) then true else bif decide (n > 1000000) then true else n == s.2.1
theorem v_80 (n : Int) (s : Scene) : F_80 n s = some ((offB s n, ()) : Els [.bool]) := by
  unfold F_80 offB
  cases decide (n < 1) with
  | true => rfl
  | false =>
    cases decide (n > 1000000) <;> rfl
theorem v_79_80 (l : List Int) (s : Scene) (hl : l.length ≤ 1000000000) : F_79_80 l (s, ()) = some ((l.any (offB s), ()) : Els [.bool]) := by
  have h := find_loop (G := fun x => G_120_80_2 x.1.1 x.1.2.1 x.1.2.2.1 x.1.2.2.2.1) (m := fuel) l (offB s) (fun k => ((l, (s, ()), (l.length : Int), (k : Int), ()), ())) (fun k => .inr (((k : Int), ()), ())) (.inl ((), ()))
    (fun k x hx => ?_) ?_ (fuel_lt hl)
  · have h2 : F_120_80 l (s, ()) = some ((idxI l (offB s), ()) : Els [I]) := by
      unfold F_120_80 R_120_80_2 idxI
      rw [show (0 : Int) = ((0 : Nat) : Int) from rfl, h]
      cases l.findIdx? (offB s) <;> rfl
    unfold F_79_80
    rw [h2]
    show some ((decide (idxI l (offB s) ≥ 0), ()) : Els [.bool]) = _
    rw [idxI_ge]
  · have hk := len_of hx
    simp only [G_120_80_2, dec_lt hk, dec_in hk, cond_true, getD_of hx, wrap_up hk (by omega), v_80, Option.bind_some]
    cases offB s x <;> rfl
  · simp only [G_120_80_2, dec_end, cond_false]
/-- A right scene with one number more. -/
theorem right_next {s : Scene} (hs : Small s.2.2) (hr : rightB s = true) (hn : s.2.1 ≤ 1000000) : rightB (s.1, s.2.1 + 1, s.2.2) = true := by
  have h := right_of hr
  refine right_mk (s := (s.1, s.2.1 + 1, s.2.2)) h.asc (fun t ht => ?_) h.len ⟨?_, ?_⟩ (show nearB s.1 = true from near_of hr) (fun t ht => ?_) h.apart fun t ht j hj => ?_
  · obtain ⟨h1, h2, h3⟩ := h.low t ht
    exact ⟨h1, Int.lt_trans h2 (Int.lt_succ _), h3⟩
  · exact Int.le_trans h.next.1 (Int.le_of_lt (Int.lt_succ _))
  · exact Int.add_le_add_right hn 1
  · obtain ⟨e1, e2⟩ := Cp.end_get (h.ends t ht)
    exact Cp.end_mk (s := (s.1, s.2.1 + 1, s.2.2)) e1 fun n hn' => has_of (s := (s.1, s.2.1 + 1, s.2.2)) hs h.asc (h.member hs ht hn')
  · show upn s.2.2 (j + 1) (nid t) ≠ nid t
    exact h.acyclic hs ⟨t, ht, rfl⟩ (j + 1) (by omega)
/-- What Hold comes to. -/
theorem v_41w (s : Scene) (a : List Int) (hs : Small s.2.2) (hr : rightB s = true) (ha : a.length ≤ 1000) :
    (∃ e : Int, e ≠ 0 ∧ F_41w s a = some ((noScene, 0, e, ()) : Els [tScene, I, I])) ∨
    (∃ l', rightB (s.1, s.2.1 + 1, l') = true ∧ Small l' ∧ l'.length = s.2.2.length + 1 ∧ F_41w s a = some (((s.1, s.2.1 + 1, l'), s.2.1, 0, ()) : Els [tScene, I, I])) := by
  have hR := right_of hr
  have e20 := v_20 s hs
  rw [hr] at e20
  have e46 := v_46o a (by omega)
  have e74 : F_74 a = some ((), sortI a, ()) := by
    unfold F_74
    rw [show Nat.ble a.length 1000000 = true from Nat.ble_eq_true_of_le (by omega)]
    rfl
  have hl : (sortI a).length = a.length := sortI_len a
  have e46' := v_46o (sortI a) (by omega)
  have e78 : F_78 (sortI a) = some (compI (sortI a)) := by
    unfold F_78
    rw [show Nat.ble (sortI a).length 1000000 = true from Nat.ble_eq_true_of_le (by omega)]
    rfl
  have e79 := v_79_80 (sortI a) s (by omega)
  unfold F_41w
  cases c1 : decide ((((sortI a).length : Nat) : Int) < (1 : Int)) with
  | true => exact .inl ⟨9, by decide, bind_ofV e46 (bind_ofV e74 (bind_ofV e20 (noV rfl (yesV c1 rfl))))⟩
  | false =>
  cases c2 : decide ((((sortI a).length : Nat) : Int) > (8 : Int)) with
  | true => exact .inl ⟨9, by decide, bind_ofV e46 (bind_ofV e74 (bind_ofV e20 (noV rfl (noV c1 (yesV c2 rfl)))))⟩
  | false =>
  cases c3 : decide ((((compI (sortI a)).length : Nat) : Int) < (((sortI a).length : Nat) : Int)) with
  | true => exact .inl ⟨9, by decide, bind_ofV e46 (bind_ofV e74 (bind_ofV e20 (noV rfl (noV c1 (noV c2 (bind_ofV e46' (bind_ofV e78 (yesV c3 rfl))))))))⟩
  | false =>
  cases c4 : (sortI a).any (offB s) with
  | true =>
    rw [c4] at e79
    exact .inl ⟨9, by decide, bind_ofV e46 (bind_ofV e74 (bind_ofV e20 (noV rfl (noV c1 (noV c2 (bind_ofV e46' (bind_ofV e78 (noV c3 (bind_ofV e79 (yesV rfl rfl))))))))))⟩
  | false =>
  rw [c4] at e79
  by_cases c5 : s.2.1 > 1000000
  · exact .inl ⟨12, by decide, bind_ofV e46 (bind_ofV e74 (bind_ofV e20 (noV rfl (noV c1 (noV c2 (bind_ofV e46' (bind_ofV e78 (noV c3 (bind_ofV e79 (noV rfl (yesV (decide_eq_true c5) rfl)))))))))))⟩
  have c5' : s.2.1 ≤ 1000000 := Int.not_lt.1 c5
  have hr' := right_next hs hr c5'
  have hw : IntKind.i64.wrap (s.2.1 + 1) = s.2.1 + 1 := by
    have key : ∀ n : Int, 1 ≤ n → n ≤ 1000001 → IntKind.i64.wrap (n + 1) = n + 1 := fun n h1 h2 => wrap64 (by omega) (by omega)
    exact key _ hR.next.1 hR.next.2
  have hni : ¬ Is s.2.2 s.2.1 := by
    rintro ⟨t, ht, e⟩
    have := (hR.low t ht).2.1
    exact Int.lt_irrefl _ (e ▸ this)
  rcases v_18 (s.1, s.2.1 + 1, s.2.2) (s.2.1, 3, noB, noJ, sortI a) hs hr' (by show (sortI a).length ≤ 1000000; omega) with ⟨e, he, h18⟩ | ⟨l', h1, h2, h3, h18, h4⟩
  · refine .inl ⟨e, he, bind_ofV e46 (bind_ofV e74 (bind_ofV e20 (noV rfl (noV c1 (noV c2 (bind_ofV e46' (bind_ofV e78 (noV c3 (bind_ofV e79 (noV rfl (noV (decide_eq_false c5) ?_)))))))))))⟩
    show (F_18w (s.1, IntKind.i64.wrap (s.2.1 + 1), s.2.2) (s.2.1, 3, noB, noJ, sortI a)).bind _ = _
    rw [hw]
    refine bind_ofV h18 (yesV ?_ rfl)
    show (e != 0) = true
    simpa using he
  · obtain ⟨i, hi, hl'⟩ := h4 hni
    refine .inr ⟨l', h3, h2, ?_, bind_ofV e46 (bind_ofV e74 (bind_ofV e20 (noV rfl (noV c1 (noV c2 (bind_ofV e46' (bind_ofV e78 (noV c3 (bind_ofV e79 (noV rfl (noV (decide_eq_false c5) ?_)))))))))))⟩
    · have hi : i ≤ s.2.2.length := hi
      rw [hl']
      show ((s.2.2.take i ++ [_] ++ s.2.2.drop i).length) = _
      simp only [List.length_append, List.length_take, List.length_drop, List.length_cons, List.length_nil]
      omega
    · show (F_18w (s.1, IntKind.i64.wrap (s.2.1 + 1), s.2.2) (s.2.1, 3, noB, noJ, sortI a)).bind _ = _
      rw [hw]
      exact bind_ofV h18 (noV rfl rfl)
/-! ### Bodies -/
theorem q_43_10 (s : Scene) (hs : Small s.2.2) (l : List Int) (hl : l.length ≤ 1000000000) :
    R_43_10 (((), (), l, (l.length : Int), (0 : Int), ()), (s, ()), [], ()) = some (.inl (((), ()), l.filter (fun n => kindB s.2.2 n == 1), ())) := by
  have h := rounds_to (G := fun x => G_43_10 x.1.2.2.1 x.1.2.2.2.1 x.1.2.2.2.2.1 x.2.1 x.2.2.1) (n := l.length)
    (inv := fun k => (((), (), l, (l.length : Int), (k : Int), ()), (s, ()), (l.take k).filter (fun n => kindB s.2.2 n == 1), ())) (y := .inl (((), ()), (l.take l.length).filter (fun n => kindB s.2.2 n == 1), ())) (fun k hk => ?_) ?_ l.length 0 fuel (by omega) (fuel_lt hl)
  · rw [List.take_length] at h
    exact h
  · have ha := List.getElem?_eq_getElem hk
    have hf := List.length_filter_le (fun n => kindB s.2.2 n == 1) (l.take k)
    have hf : ((l.take k).filter (fun n => kindB s.2.2 n == 1)).length ≤ k := Nat.le_trans hf (by rw [List.length_take]; omega)
    rw [List.take_succ_eq_append_getElem hk, List.filter_append]
    simp only [G_43_10, dec_lt hk, dec_in hk, cond_true, getD_of ha, wrap_up hk (by omega), v_23 s _ hs.1 hs.2, Option.bind_some]
    show (bif (kindB s.2.2 l[k] == 1) then _ else _) = _
    cases hc : (kindB s.2.2 l[k] == 1) with
    | true =>
      have : [l[k]].filter (fun n => kindB s.2.2 n == 1) = [l[k]] := by simp only [List.filter_cons, hc, if_true, List.filter_nil]
      rw [this, cond_true]
      exact yesV (Nat.ble_eq_true_of_le (Nat.le_trans (Nat.mul_le_mul_right 8 (Nat.add_le_add_right hf 1)) (by omega))) rfl
    | false =>
      have : [l[k]].filter (fun n => kindB s.2.2 n == 1) = [] := by simp only [List.filter_cons, hc, Bool.false_eq_true, if_false, List.filter_nil]
      rw [this, List.append_nil, cond_false]
  · simp only [G_43_10, dec_end, cond_false]
theorem v_43 (s : Scene) (id : Int) (hs : Small s.2.2) (hr : rightB s = true) (hn : Is s.2.2 id) (hk : kindB s.2.2 id ≠ 2) : F_43 s id = some (((ina s.2.2 id).filter (fun n => kindB s.2.2 n == 1), 0, ()) : Els [.list I, I]) := by
  have hR := right_of hr
  have e23 := v_23 s id hs.1 hs.2
  have e20 := v_20 s hs
  rw [hr] at e20
  have c1 : (!(getB s.2.2 id).2) = false := by
    obtain ⟨t, ht, rfl⟩ := hn
    rw [hR.asc.getB ht]; rfl
  have c2 : (kindB s.2.2 id == (2 : Int)) = false := by simpa using hk
  have e37 := v_37 hr hs hn
  have e10 := q_43_10 s hs (ina s.2.2 id) (by have := ina_few hr hs hn; omega)
  unfold F_43
  exact bind_ofV e20 (noV rfl (bind_ofV e23 (noV c1 (noV c2 (bind_ofV e37 (bind_ofV e10 rfl))))))
/-! ### KinRight -/
theorem q_13_20 (s : Scene) (hs : Small s.2.2) (nx : Int) (g : Vec) (l : List Int) (hl : l.length ≤ 1000000000) (hg : ∀ n ∈ l, ¬ Is s.2.2 n) :
    R_13_20 ((nx, (), (), l, (l.length : Int), (0 : Int), ()), (g, ()), (s, ()), ()) = some (.inl ((nx, (), (), ()), (g, ()), (s, ()), ())) := by
  have h := rounds_to (G := fun x => G_13_20 x.1.1 x.1.2.2.2.1 x.1.2.2.2.2.1 x.1.2.2.2.2.2.1 x.2.1 x.2.2.1) (n := l.length)
    (inv := fun k => ((nx, (), (), l, (l.length : Int), (k : Int), ()), (g, ()), (s, ()), ())) (y := .inl ((nx, (), (), ()), (g, ()), (s, ()), ())) (fun k hk => ?_) ?_ l.length 0 fuel (by omega) (fuel_lt hl)
  · exact h
  · have ha := List.getElem?_eq_getElem hk
    have := hg _ (List.getElem_mem hk)
    simp only [G_13_20, dec_lt hk, dec_in hk, cond_true, getD_of ha, wrap_up hk (by omega), v_23 s _ hs.1 hs.2, Option.bind_some, getB_none this, cond_false]
  · simp only [G_13_20, dec_end, cond_false]
/-- The end of KinRight: what is left. -/
theorem drop_13 (g : Vec) (nx : Int) (l : List Thing) (id : Int) (hs : Small l) (hr : rightB (g, nx, l) = true) {k : Els [tScene, I] → Option (Els [.bool])}
    (k1 : ¬ Is l id → k (noScene, 10, ()) = some (true, ()))
    (k2 : Is l id → ∀ l', Small l' → rightB (g, nx, l') = true → (∀ n ∈ ina l id, ¬ Is l' n) → k ((g, nx, l'), 0, ()) = some (true, ())) :
    (F_39 (g, nx, l) id).bind k = some (true, ()) := by
  rcases v_39 (g, nx, l) id hs hr with ⟨hn, h⟩ | ⟨hn, G, hc, hG, h⟩
  · exact bind_ofV h (k1 hn)
  · exact bind_ofV h (k2 hn (left G l) (left_small (s := (g, nx, l)) hs) (left_right hr hs hc) fun n hn' => left_gone (s := (g, nx, l)) (hG n hn'))
theorem end_13 (g : Vec) (nx : Int) (l : List Thing) (id : Int) (hs : Small l) (hr : rightB (g, nx, l) = true) :
    ((F_39 (g, nx, l) id).bind fun v34 =>
      bif v34.2.1 != (0 : Int) then
        (F_23 (g, nx, l) id).bind fun v36 => bif !v36.2.1 then some ((v34.2.1 == (10 : Int), ()) : Els [.bool]) else some (false, ())
      else
        (F_37 (g, nx, l) id).bind fun v38 =>
          (R_13_20 ((nx, (), (), v38.1, ((v38.1.length : Nat) : Int), (0 : Int), ()), (g, ()), (v34.1, ()), ())).bind fun v39 =>
            Sum.elim
              (fun v40 =>
                (F_20 v40.2.2.1.1).bind fun v42 =>
                  bif v42.1 then
                    bif v40.2.2.1.1.2.1 == v40.1.1 then
                      some ((v40.2.2.1.1.1.1 == v40.2.1.1.1 && (v40.2.2.1.1.1.2 == v40.2.1.1.2 && true), ()) : Els [.bool])
                    else some (false, ())
                  else some (false, ()))
              (fun v43 => some (v43.1.1, ())) v39) = some ((true, ()) : Els [.bool]) := by
  refine drop_13 g nx l id hs hr (fun hn => yesV rfl ?_) fun hn l' hs' hr' hg => noV rfl ?_
  · refine bind_ofV (v_23 (g, nx, l) id hs.1 hs.2) (yesV ?_ rfl)
    show (!(getB l id).2) = true
    rw [getB_none hn]; rfl
  · have e37 := v_37 (s := (g, nx, l)) hr hs hn
    have e20 := v_20 (g, nx, l') hs'
    rw [hr'] at e20
    refine bind_ofV e37 (bind_ofV (q_13_20 (g, nx, l') hs' nx g _ ?_ hg) (bind_ofV e20 (yesV rfl (yesV (beq_self_eq_true nx) ?_))))
    · have : (ina l id).length ≤ 40 := ina_few (s := (g, nx, l)) hr hs hn
      show (ina l id).length ≤ 1000000000
      omega
    · show some ((g.1 == g.1 && (g.2 == g.2 && true), ()) : Els [.bool]) = _
      rw [beq_self_eq_true, beq_self_eq_true]; rfl
end Go.DI.S

/-! KinRight, plain. -/
set_option linter.unusedVariables false
set_option linter.unusedSimpArgs false
set_option maxRecDepth 100000
namespace Go.DI.S
open Go.Proofs
theorem len_ne {a b : Nat} (h : a = b) : ((a : Int) != (b : Int)) = false := by rw [h]; simp
/-- The copy, then what is left. -/
theorem copy_13 (g : Vec) (nx : Int) (l : List Thing) (id : Int) (q : Vec) (hs : Small l) (hr : rightB (g, nx, l) = true) {D : Option (Els [.bool])} (hD : D = some (true, ())) :
    ((F_42 (g, nx, l) id q).bind fun v20 =>
      bif v20.2.2.1 == (0 : Int) then
        (F_20 v20.1).bind fun v22 =>
          bif !v22.1 then some ((false, ()) : Els [.bool])
          else
            bif decide (v20.2.1 < nx) then some (false, ())
            else
              (F_37 v20.1 v20.2.1).bind fun v24 =>
                (F_37 (g, nx, l) id).bind fun v26 =>
                  bif ((v24.1.length : Nat) : Int) != ((v26.1.length : Nat) : Int) then some (false, ())
                  else
                    (F_38 v20.1 v20.2.1).bind fun v28 =>
                      bif v28.1 != (0 : Int) then some (false, ())
                      else
                        (F_43 (g, nx, l) id).bind fun v30 =>
                          (F_43 v20.1 v20.2.1).bind fun v32 =>
                            bif ((v30.1.length : Nat) : Int) != ((v32.1.length : Nat) : Int) then some (false, ())
                            else D
      else D) = some ((true, ()) : Els [.bool]) := by
  rcases v_42 (g, nx, l) id q hs hr with ⟨e, he, h⟩ | ⟨hn, hk, h1, h2, out, hc, h⟩
  · refine bind_ofV h (noV ?_ hD)
    show (e == 0) = false
    simpa using he
  · have hR := right_of hr
    obtain ⟨us, rfl, hl, hcp⟩ := cpL_spec hc
    have hC : Cp (g, nx, l) id us := ⟨hR, hs, hn, h1, h2, hl, q, hcp⟩
    have hid : id ∈ ida l id := Cp.ina_ida (s := (g, nx, l)) (id_ina hR hs hn)
    have hfi : (tget (.int .i64) (.int .i64) id (cpM (g, nx, l) id)).getD 0 = Cp.fi (g, nx, l) id id ∧ nx ≤ Cp.fi (g, nx, l) id id := by
      obtain ⟨j, hj, e⟩ := List.getElem_of_mem hid
      have e' : (ida l id)[j]? = some id := by rw [List.getElem?_eq_getElem hj, e]
      have := (cm_at (nxt (g, nx, l)) (ida_nodup hR hs hn) _ (Nat.le_refl _)).1 j id hj e'
      have this : tget (.int .i64) (.int .i64) id (cpM (g, nx, l) id) = some (nx + (j : Int)) := this
      refine ⟨?_, ?_⟩
      · show _ = (tget (.int .i64) (.int .i64) id (cpM (g, nx, l) id)).getD id
        rw [this]; rfl
      · show nx ≤ (tget (.int .i64) (.int .i64) id (cpM (g, nx, l) id)).getD id
        rw [this]
        show nx ≤ nx + (j : Int)
        omega
    rw [hfi.1] at h
    have hr' : rightB (Cp.sc (g, nx, l) id us) = true := hC.right hr
    have hs' : Small (Cp.sc (g, nx, l) id us).2.2 := hC.small
    have e20 := v_20 _ hs'
    rw [hr'] at e20
    have hi' : Is (Cp.sc (g, nx, l) id us).2.2 (Cp.fi (g, nx, l) id id) := hC.fi_id
    have hkind := hC.kind_new (id_ina hR hs hn)
    refine bind_ofV h (yesV rfl (bind_ofV e20 (noV rfl (noV (decide_eq_false (Int.not_lt.2 hfi.2)) (bind_ofV (v_37 hr' hs' hi') (bind_ofV (v_37 hr hs hn) (noV (len_ne hC.ina_len)
      (bind_ofV (v_38 _ _ hs' hr') (noV ?_ (bind_ofV (v_43 _ id hs hr hn hk) (bind_ofV (v_43 _ _ hs' hr' hi' ?_) (noV (len_ne hC.bodies_len.symm) hD))))))))))))
    · show (grp (l ++ us) (Cp.fi (g, nx, l) id id) != 0) = false
      rw [hC.grp_id]; rfl
    · have hkind : kindB (l ++ us) (Cp.fi (g, nx, l) id id) = kindB l id := hkind
      show kindB (l ++ us) (Cp.fi (g, nx, l) id id) ≠ 2
      rw [hkind]
      exact hk
theorem kinRight (g : Vec) (nx : I.El) (l : (Ty.list tThing).El) (id : I.El) (a : (Ty.list I).El) (q : Vec) (h0 : tVec.wf g) (h1 : I.wf nx) (h2 : (Ty.list tThing).wf l) (h3 : I.wf id) (h4 : (Ty.list I).wf a) (h5 : tVec.wf q) :
    F_13 g nx l id a q = some ((true, ()) : Els [.bool]) := by
  have hal : (F_36.bind fun v => some ((v.1, ()) : Els [.bool])) = some (true, ()) := bind_ofV alive36 rfl
  unfold F_13
  refine bind_ofV (v_22 l h2.1) ?_
  cases hf : fewB l with
  | false => exact yesV rfl hal
  | true =>
  refine noV rfl ?_
  cases hd : decide (((a.length : Nat) : Int) > (12 : Int)) with
  | true => exact yesV rfl hal
  | false =>
  have ha : a.length ≤ 12 := by
    have := of_decide_eq_false hd
    have h : ¬ (((a.length : Nat) : Int) > 12) := this
    omega
  have hs : Small l := small_of (few_small hf)
  have e20 := v_20 (g, nx, l) hs
  refine noV rfl (bind_ofV e20 ?_)
  cases hr : rightB (g, nx, l) with
  | false => exact yesV rfl hal
  | true =>
  refine noV rfl (bind_ofV alive36 (noV rfl ?_))
  have hT := copy_13 g nx l id q hs hr (end_13 g nx l id hs hr)
  rcases v_41w (g, nx, l) a hs hr (by omega) with ⟨e, he, h⟩ | ⟨l', k1, k2, k3, h⟩
  · refine bind_ofV h (noV ?_ hT)
    show (e == 0) = false
    simpa using he
  · have k4 := v_20 (g, nx + 1, l') k2
    have k1 : rightB (g, nx + 1, l') = true := k1
    rw [k1] at k4
    have hlen : l.length ≤ 40 := (right_of hr).len
    have hnx : ∀ n : Int, 1 ≤ n → n ≤ 1000001 → IntKind.i64.wrap (n + 1) = n + 1 := fun n h1 h2 => wrap64 (by omega) (by omega)
    have hnx := hnx nx (right_of hr).next.1 (right_of hr).next.2
    refine bind_ofV h (yesV rfl (bind_ofV k4 (noV rfl (noV ?_ (noV ?_ (noV ?_ hT))))))
    · show (nx != nx) = false
      simp
    · show (((l'.length : Nat) : Int) != IntKind.i64.wrap ((l.length : Int) + 1)) = false
      have k3 : l'.length = l.length + 1 := k3
      rw [wrap_up (show l.length < 41 by omega) (by omega)]
      exact len_ne k3
    · show (nx + 1 != IntKind.i64.wrap (nx + 1)) = false
      rw [hnx]; simp
end Go.DI.S

