import Derived.Test.YtmleimalginhhaaVa
import Derived.Test.YtmleimalginhhaaIa
/- What a scene with a thing is; SceneWithout. No conditions. -/
/-! The program's functions, told by functions on data. -/
set_option linter.unusedVariables false
set_option maxRecDepth 100000
set_option maxHeartbeats 0
namespace Go.DI.S
open Go.Proofs
/-! ### 5: maquette/maquettelaw19.SceneWithout -/
noncomputable def c_5 : Code := Try.f5.body.getD .skip
theorem hb_5 : Try.f5.body = some c_5 := by kernel_rfl
theorem hf_5 : CT.P.funcs[5]? = some Try.f5 := by kernel_rfl
noncomputable def T_5 : Tb := mkTb tyT mpT [E_16, E_18w, E_20, E_22, E_23, E_24, E_25, E_26, E_27]
theorem T_5_ok : T_5.Ok CT.P := mkTb_ok (⟨e_16, e_18w, e_20, e_22, e_23, e_24, e_25, e_26, e_27, trivial⟩)
noncomputable def lp_5 {β : Type} : LpT β := fun _ _ _ => none
theorem lp_5_ok {β : Type} : LpTOk CT (lp_5 (β := β)) (loopsOf c_5) := by
  have h : loopsOf c_5 = [] := by kernel_rfl
  rw [h]
  exact LpTOk.nil
noncomputable def F_5 (a1 : Ty.El tVec) (a2 : Ty.El I) (a3 : Ty.El (.list tThing)) (a4 : Ty.El tThing) : Option (Els [.bool]) :=
  (F_22 a3).bind fun v2 =>
    bif !v2.fst then F_16.bind fun v4 => Option.some (v4.fst, ())
    else
      bif Decidable.decide ((↑(List.length a4.snd.snd.snd.snd) : Int) > (20 : Int)) then F_16.bind fun v6 => Option.some (v6.fst, ())
      else
        (F_20 (a1, a2, a3)).bind fun v8 =>
          bif !v8.fst then F_16.bind fun v10 => Option.some (v10.fst, ())
          else
            F_16.bind fun v12 =>
              bif !v12.fst then F_16.bind fun v14 => Option.some (v14.fst, ())
              else
                (F_23 (a1, a2, a3) a4.fst).bind fun v16 =>
                  (F_18w (a1, a2, a3) a4).bind fun v18 =>
                    bif v18.snd.fst != (0 : Int) then (F_25 (((0 : Int), (0 : Int)), (0 : Int), [])).bind fun v20 => (F_24 v18.fst v20.fst).bind fun v22 => Option.some (v22.fst, ())
                    else
                      (F_20 v18.fst).bind fun v24 =>
                        bif !v24.fst then Option.some (Bool.false, ())
                        else
                          (F_26 v18.fst a4.fst).bind fun v26 =>
                            (F_27 v18.fst a4.fst).bind fun v28 =>
                              bif Decidable.decide ((↑(List.length v28.fst) : Int) > (0 : Int)) then Option.some (v26.snd.fst == (15 : Int), ())
                              else
                                bif v26.snd.fst == (0 : Int) then
                                  bif v16.snd.fst then Option.some (Bool.true, ())
                                  else (F_25 (a1, a2, a3)).bind fun v30 => (F_24 v26.fst v30.fst).bind fun v32 => Option.some (v32.fst, ())
                                else Option.some (Bool.false, ())
theorem f_5 (x : Ps [.ty tVec, .ty I, .ty (.list tThing), .ty tThing]) : funcT CT T_5 [.bool] (drT CT T_5) lp_5 Try.f5 c_5 (encPs [.ty tVec, .ty I, .ty (.list tThing), .ty tThing] x) = F_5 x.1 x.2.1 x.2.2.1 x.2.2.2.1 := by kernel_rfl
noncomputable def E_5 : Ent := .fn 5 [] ⟨[.ty tVec, .ty I, .ty (.list tThing), .ty tThing], [.bool], fun x => F_5 x.1 x.2.1 x.2.2.1 x.2.2.2.1, false⟩
theorem e_5 : E_5.Ok CT.P := Ent.ofFn CT_ok T_5_ok hf_5 hb_5 lp_5_ok f_5
noncomputable def E_5h : Ent := .fn 5 [] ⟨[.ty tVec, .ty I, .ty (.list tThing), .ty tThing], [.bool], fun x => F_5 x.1 x.2.1 x.2.2.1 x.2.2.2.1, true⟩
end Go.DI.S

/-! A scene with a thing, plain; SceneWithout. -/
set_option linter.unusedVariables false
set_option linter.unusedSimpArgs false
set_option maxRecDepth 100000
namespace Go.DI.S
open Go.Proofs

theorem bind_ofV {α β : Type} {a : Option α} {f : α → Option β} {x : α} {y : Option β} (h : a = some x) (k : f x = y) : a.bind f = y := by subst h; exact k
theorem yesV {α : Type} {c : Bool} {a b y : α} (h : c = true) (k : a = y) : (bif c then a else b) = y := by subst h; exact k
theorem noV {α : Type} {c : Bool} {a b y : α} (h : c = false) (k : b = y) : (bif c then a else b) = y := by subst h; exact k
/-! ### rising lists -/
theorem plain_conv {next : Int} : ∀ (l : List Thing) (a : Int), (∀ t ∈ l, a < nid t ∧ nid t < next ∧ rt t = true) → Asc l → (foldO (plainStep next) l a).isSome = true
  | [], a, _, _ => rfl
  | t :: l, a, h, ha => by
    obtain ⟨h1, h2, h3⟩ := h t (by simp)
    have hst : plainStep next a t = some (nid t) := by
      unfold plainStep
      exact noV (by rw [h3]; rfl) (noV (decide_eq_false (by omega)) (noV (decide_eq_false (by omega)) rfl))
    simp only [foldO, hst]
    refine plain_conv l (nid t) (fun u hu => ?_) (fun i j x y hij hi hj => ha (i + 1) (j + 1) x y (by omega) hi hj)
    obtain ⟨j, hj, rfl⟩ := List.mem_iff_getElem.1 hu
    exact ⟨ha 0 (j + 1) t _ (by omega) rfl (List.getElem?_eq_getElem hj), (h _ (by simp [hu])).2⟩
theorem Asc.one {l : List Thing} (h : Asc l) {i j : Nat} {t u : Thing} (hi : l[i]? = some t) (hj : l[j]? = some u) (e : nid t = nid u) : i = j := by
  rcases Nat.lt_trichotomy i j with h1 | h1 | h1
  · have := h i j _ _ h1 hi hj; omega
  · exact h1
  · have := h j i _ _ h1 hj hi; omega
theorem Asc.getB {l : List Thing} (h : Asc l) {t : Thing} (ht : t ∈ l) : S.getB l (nid t) = (t, true) := by
  obtain ⟨k, u, h1, h2, h3⟩ := idx_is (l := l) ⟨t, ht, rfl⟩
  obtain ⟨j, hj, rfl⟩ := List.mem_iff_getElem.1 ht
  have : k = j := h.one h2 (List.getElem?_eq_getElem hj) h3
  subst this
  unfold S.getB
  rw [h1]
  simp [List.getElem?_eq_getElem hj]
theorem getB_none {l : List Thing} {n : Int} (h : ¬ Is l n) : S.getB l n = (noThing, false) := by
  unfold S.getB
  cases hx : idx l n with
  | none => rfl
  | some k =>
    obtain ⟨t, h1, h2⟩ := idx_lt hx
    exact absurd ⟨t, List.mem_of_getElem? h1, h2⟩ h
theorem place_is {l : List Thing} {n : Int} {i : Nat} (ha : Asc l) (hp : Place l n i) (hn : Is l n) : ∃ t, l[i]? = some t ∧ nid t = n := by
  obtain ⟨t, ht, e⟩ := hn
  obtain ⟨k, hk, rfl⟩ := List.mem_iff_getElem.1 ht
  refine ⟨l[k], ?_, e⟩
  obtain ⟨p1, p2⟩ := hp
  obtain ⟨p2, p3⟩ := p2 ha
  have hik : i = k := by
    rcases Nat.lt_trichotomy i k with c | c | c
    · have hi : i < l.length := by omega
      have q1 := p3 i _ (Nat.le_refl _) (List.getElem?_eq_getElem hi)
      have q2 := ha i k _ _ c (List.getElem?_eq_getElem hi) (List.getElem?_eq_getElem hk)
      omega
    · exact c
    · have q1 := p2 k _ c (List.getElem?_eq_getElem hk)
      omega
  rw [hik]
  exact List.getElem?_eq_getElem hk
theorem has_of {s : Scene} (hs : Small s.2.2) (ha : Asc s.2.2) {n : Int} (hn : Is s.2.2 n) : hasB s n = true := by
  obtain ⟨i, b, h1, h2, h3⟩ := v_48 s n hs.1
  unfold hasB
  rw [h1]
  exact h3.2 (place_is ha h2 hn)
theorem kind_of {l : List Thing} {n : Int} (h : kindB l n = 1) : ∃ u ∈ l, nid u = n ∧ u.2.1 = 1 := by
  unfold kindB S.getB at h
  cases hx : idx l n with
  | none => rw [hx] at h; cases h
  | some k =>
    rw [hx] at h
    obtain ⟨t, h1, h2⟩ := idx_lt hx
    simp only [h1, Option.getD_some] at h
    exact ⟨t, List.mem_of_getElem? h1, h2, h⟩
theorem Asc.kind {l : List Thing} (ha : Asc l) {u : Thing} (hu : u ∈ l) : kindB l (nid u) = u.2.1 := by
  unfold kindB
  rw [ha.getB hu]

/-! ### a thing more, or another one in its place -/
structure Has (l : List Thing) (t : Thing) (l' : List Thing) : Prop where
  asc : Asc l'
  old : ∀ u ∈ l', u = t ∨ (u ∈ l ∧ nid u ≠ nid t)
  new : t ∈ l'
  keep : ∀ v ∈ l, nid v ≠ nid t → v ∈ l'
theorem ins_get {l : List Thing} {t : Thing} {i : Nat} (hi : i ≤ l.length) (k : Nat) : (l.take i ++ [t] ++ l.drop i)[k]? = if k < i then l[k]? else if k = i then some t else l[k - 1]? := by
  have hl : (l.take i).length = i := by simp; omega
  by_cases h1 : k < i
  · rw [if_pos h1, List.append_assoc, List.getElem?_append_left (by omega), List.getElem?_take_of_lt h1]
  · rw [if_neg h1]
    by_cases h2 : k = i
    · subst h2
      rw [if_pos rfl, List.append_assoc, List.getElem?_append_right (by omega), hl, Nat.sub_self]
      rfl
    · rw [if_neg h2, List.getElem?_append_right (by simp; omega), List.getElem?_drop]
      congr 1
      simp; omega
theorem has_ins {l : List Thing} {t : Thing} {i : Nat} (ha : Asc l) (hp : Place l (nid t) i) (hn : ¬ Is l (nid t)) : Has l t (l.take i ++ [t] ++ l.drop i) := by
  have hi := hp.1
  obtain ⟨p2, p3⟩ := hp.2 ha
  have mem : ∀ u, u ∈ l.take i ++ [t] ++ l.drop i ↔ u = t ∨ u ∈ l := by
    intro u
    constructor
    · intro h
      rcases List.mem_append.1 h with h | h
      · rcases List.mem_append.1 h with h | h
        · exact .inr (List.mem_of_mem_take h)
        · exact .inl (by simpa using h)
      · exact .inr (List.mem_of_mem_drop h)
    · rintro (rfl | h)
      · simp
      · rw [← List.take_append_drop i l] at h
        rcases List.mem_append.1 h with h | h
        · exact List.mem_append.2 (.inl (List.mem_append.2 (.inl h)))
        · exact List.mem_append.2 (.inr h)
  have hne : ∀ u ∈ l, nid u ≠ nid t := fun u hu e => hn ⟨u, hu, e⟩
  refine ⟨fun a b x y hab hx hy => ?_, fun u hu => ?_, (mem t).2 (.inl rfl), fun v hv _ => (mem v).2 (.inr hv)⟩
  · rw [ins_get hi] at hx hy
    by_cases a1 : a < i
    · rw [if_pos a1] at hx
      by_cases b1 : b < i
      · rw [if_pos b1] at hy
        exact ha a b x y hab hx hy
      · rw [if_neg b1] at hy
        by_cases b2 : b = i
        · rw [if_pos b2] at hy
          cases hy
          exact p2 a x a1 hx
        · rw [if_neg b2] at hy
          exact ha a (b - 1) x y (by omega) hx hy
    · rw [if_neg a1] at hx
      have b1 : ¬ b < i := by omega
      rw [if_neg b1, if_neg (by omega)] at hy
      by_cases a2 : a = i
      · rw [if_pos a2] at hx
        cases hx
        have h1 := p3 (b - 1) y (by omega) hy
        have h2 := hne y (List.mem_of_getElem? hy)
        omega
      · rw [if_neg a2] at hx
        exact ha (a - 1) (b - 1) x y (by omega) hx hy
  · rcases (mem u).1 hu with rfl | h
    · exact .inl rfl
    · exact .inr ⟨h, hne u h⟩
theorem has_set {l : List Thing} {t u : Thing} {i : Nat} (ha : Asc l) (hi : l[i]? = some u) (e : nid u = nid t) : Has l t (l.set i t) := by
  have hil := len_of hi
  have get : ∀ k, (l.set i t)[k]? = if k = i then some t else l[k]? := by
    intro k
    rw [List.getElem?_set]
    by_cases h : i = k
    · rw [if_pos h, if_pos h.symm, if_pos hil]
    · rw [if_neg h, if_neg (fun e => h e.symm)]
  refine ⟨fun a b x y hab hx hy => ?_, fun v hv => ?_, List.mem_of_getElem? (i := i) (by rw [get, if_pos rfl]), fun v hv hne => ?_⟩
  · rw [get] at hx hy
    by_cases a1 : a = i
    · rw [if_pos a1] at hx
      cases hx
      rw [if_neg (by omega)] at hy
      subst a1
      have := ha a b u y hab hi hy
      omega
    · rw [if_neg a1] at hx
      by_cases b1 : b = i
      · rw [if_pos b1] at hy
        cases hy
        subst b1
        have := ha a b x u hab hx hi
        omega
      · rw [if_neg b1] at hy
        exact ha a b x y hab hx hy
  · obtain ⟨k, hk⟩ := List.mem_iff_getElem?.1 hv
    rw [get] at hk
    by_cases h : k = i
    · rw [if_pos h] at hk
      exact .inl (Option.some.inj hk).symm
    · rw [if_neg h] at hk
      refine .inr ⟨List.mem_of_getElem? hk, fun e2 => h (ha.one hk hi (by omega))⟩
  · obtain ⟨k, hk⟩ := List.mem_iff_getElem?.1 hv
    refine List.mem_of_getElem? (i := k) ?_
    rw [get, if_neg, hk]
    rintro rfl
    rw [hi] at hk
    cases hk
    exact hne e
theorem rt_pos {t : Thing} (hl : t.2.2.2.2.length ≤ 1000000000) (h : rt t = true) : 0 < nid t := by
  have hv := v_45 t hl
  rw [h] at hv
  unfold F_45 F_86 at hv
  by_cases h1 : t.1 ≥ (1 : Int)
  · exact Int.lt_of_lt_of_le (by decide : (0 : Int) < 1) h1
  · rw [decide_eq_false h1] at hv
    cases hv
theorem small_has {l l' : List Thing} {t : Thing} (hs : ∀ u ∈ l, u.2.2.2.2.length ≤ 1000000000) (ht : t.2.2.2.2.length ≤ 1000000000) (h : Has l t l') (hl : l'.length ≤ 1000000000) : Small l' :=
  ⟨hl, fun u hu => by
    rcases h.old u hu with rfl | ⟨h, _⟩
    · exact ht
    · exact hs u h⟩
/-- A scene with a thing is right. -/
theorem with_right {s : Scene} {t : Thing} {l' : List Thing} (hs : Small s.2.2) (hr : rightB s = true) (hh : Has s.2.2 t l') (hs' : Small l') (hrt : rt t = true) (hid : nid t < s.2.1) (hlen : l'.length ≤ 40)
    (hwhole : endB (s.1, s.2.1, l') t = true) (hap : apartB l' = true) (htree : treeB l' = true) (hend : (∃ u ∈ s.2.2, nid u = nid t ∧ u.2.1 = 1) → l'.all (endB (s.1, s.2.1, l')) = true) : rightB (s.1, s.2.1, l') = true := by
  have hR := right_of hr
  have htl : t.2.2.2.2.length ≤ 1000000000 := hs'.2 t hh.new
  unfold rightB at hr ⊢
  simp only [Bool.and_eq_true] at hr ⊢
  refine ⟨?_, ?_, hap, htree⟩
  · have hp := hr.1
    unfold plainB at hp ⊢
    simp only [Bool.and_eq_true] at hp ⊢
    refine ⟨plain_conv l' 0 (fun u hu => ?_) hh.asc, decide_eq_true (by omega), hp.2.2⟩
    rcases hh.old u hu with rfl | ⟨h, _⟩
    · exact ⟨rt_pos htl hrt, hid, hrt⟩
    · exact hR.low u h
  · by_cases hb : ∃ u ∈ s.2.2, nid u = nid t ∧ u.2.1 = 1
    · exact hend hb
    · rw [List.all_eq_true]
      intro u hu
      rcases hh.old u hu with rfl | ⟨h, hne⟩
      · exact hwhole
      · have he := hR.ends u h
        have key : ∀ n : Int, kindB s.2.2 n = 1 → kindB l' n = 1 := by
          intro n hn
          obtain ⟨v, hv, rfl, hk⟩ := kind_of hn
          have hvt : nid v ≠ nid t := fun e => hb ⟨v, hv, e, hk⟩
          rw [hh.asc.kind (hh.keep v hv hvt)]
          exact hk
        have hsup : ∀ n : Int, Is s.2.2 n → Is l' n := by
          rintro n ⟨v, hv, rfl⟩
          by_cases e : nid v = nid t
          · exact ⟨t, hh.new, e.symm⟩
          · exact ⟨v, hh.keep v hv e, rfl⟩
        unfold endB at he ⊢
        simp only [Bool.and_eq_true, Bool.or_eq_true, Bool.not_eq_true', bne_eq_false_iff_eq] at he ⊢
        refine ⟨?_, ?_⟩
        · rcases he.1 with h1 | ⟨h1, h2⟩
          · exact .inl h1
          · exact .inr ⟨key _ h1, key _ h2⟩
        · rw [List.all_eq_true] at *
          intro n hn
          exact has_of (s := (s.1, s.2.1, l')) hs' hh.asc (hsup n (has_is hs (he.2 n hn)))

theorem v_50 (s : Scene) (t : Thing) (hs : Small s.2.2) (ht : t.2.2.2.2.length ≤ 1000000000) : F_50 s t = some ((endB s t, ()) : Els [.bool]) := by
  have h := all_loop (G := fun x => G_50_2 x.1.2.2.1 x.1.2.2.2.1 x.1.2.2.2.2.1 x.2.1 x.2.2.1) (m := fuel) t.2.2.2.2 (hasB s) (fun k => (((), (), t.2.2.2.2, (t.2.2.2.2.length : Int), (k : Int), ()), (s, ()), (t, ()), ())) (.inr ((false, ()), ())) (.inl (((), (), ()), (s, ()), (t, ()), ()))
    (fun k n ha => ?_) ?_ (fuel_lt ht)
  · unfold F_50
    cases hall : t.2.2.2.2.all (hasB s) with
    | false =>
      rw [hall] at h
      refine bind_ofV h ?_
      unfold endB
      rw [hall, Bool.and_false]
      rfl
    | true =>
      rw [hall] at h
      refine bind_ofV h ?_
      unfold endB
      rw [hall, Bool.and_true]
      show (bif t.2.1 != (2 : Int) then some ((true, ()) : Els [.bool]) else (F_23 s t.2.2.2.1.1).bind fun v4 => (F_23 s t.2.2.2.1.2.1).bind fun v5 => bif v4.1.2.1 == (1 : Int) then some ((v5.1.2.1 == (1 : Int), ()) : Els [.bool]) else some (false, ())) = _
      rw [v_23 s _ hs.1 hs.2, v_23 s _ hs.1 hs.2]
      unfold kindB
      simp only [Option.bind_some, bne]
      cases (t.2.1 == (2 : Int)) <;> cases ((getB s.2.2 t.2.2.2.1.1).1.2.1 == (1 : Int)) <;> cases ((getB s.2.2 t.2.2.2.1.2.1).1.2.1 == (1 : Int)) <;> rfl
  · have hk := len_of ha
    simp only [G_50_2, dec_lt hk, dec_in hk, cond_true, getD_of ha, wrap_up hk (by omega)]
    obtain ⟨i, hi⟩ := v_48b s n hs
    rw [hi]
    cases hasB s n <;> rfl
  · simp only [G_50_2, dec_end, cond_false]

def noScene : Scene := (((0 : Int), (0 : Int)), (0 : Int), [])
/-- What a scene with a thing is: right; or there is none. -/
theorem v_18 (s : Scene) (t : Thing) (hs : Small s.2.2) (hr : rightB s = true) (ht : t.2.2.2.2.length ≤ 1000000) :
    (∃ e : Int, e ≠ 0 ∧ F_18w s t = some ((noScene, e, ()) : Els [tScene, I])) ∨
    (∃ l', Has s.2.2 t l' ∧ Small l' ∧ rightB (s.1, s.2.1, l') = true ∧ F_18w s t = some (((s.1, s.2.1, l'), 0, ()) : Els [tScene, I]) ∧ (¬ Is s.2.2 (nid t) → ∃ i, i ≤ s.2.2.length ∧ l' = s.2.2.take i ++ [t] ++ s.2.2.drop i)) := by
  have hR := right_of hr
  have h40 := hR.len
  have ht' : t.2.2.2.2.length ≤ 1000000000 := by omega
  have hv20 := v_20 s hs
  rw [hr] at hv20
  cases hrt : rt t with
  | false =>
    refine .inl ⟨9, by decide, ?_⟩
    unfold F_18w
    exact bind_ofV hv20 (noV rfl (bind_ofV (v_45 t ht') (yesV (by rw [hrt]; rfl) rfl)))
  | true =>
  obtain ⟨i, b, h1, h2, h3⟩ := v_48 s (nid t) hs.1
  -- what comes of the new list
  have cont : ∀ l' : List Thing, Has s.2.2 t l' → l'.length ≤ 41 → ∃ (r : Els [tScene, I]),
      (bif decide ((l'.length : Int) > 40) then some ((noScene, (12 : Int), ()) : Els [tScene, I]) else
       bif decide (t.1 ≥ s.2.1) then some (noScene, (10 : Int), ()) else
       (F_50 (s.1, s.2.1, l') t).bind fun w =>
       bif !w.1 then some (noScene, (10 : Int), ()) else
       (F_51 (s.1, s.2.1, l')).bind fun ap =>
       bif !ap.1 then some (noScene, (15 : Int), ()) else
       bif (getB s.2.2 (nid t)).2 then
        (bif (getB s.2.2 (nid t)).1.2.1 == (1 : Int) then (F_52 (s.1, s.2.1, l')).bind fun e => bif !e.1 then some (noScene, (15 : Int), ()) else ((F_53 (s.1, s.2.1, l')).bind fun tr => bif !tr.1 then some (noScene, (11 : Int), ()) else some ((s.1, s.2.1, l'), (0 : Int), ()))
         else ((F_53 (s.1, s.2.1, l')).bind fun tr => bif !tr.1 then some (noScene, (11 : Int), ()) else some ((s.1, s.2.1, l'), (0 : Int), ())))
       else ((F_53 (s.1, s.2.1, l')).bind fun tr => bif !tr.1 then some (noScene, (11 : Int), ()) else some ((s.1, s.2.1, l'), (0 : Int), ()))) = some r ∧
      ((∃ e : Int, e ≠ 0 ∧ r = (noScene, e, ())) ∨ (r = ((s.1, s.2.1, l'), (0 : Int), ()) ∧ rightB (s.1, s.2.1, l') = true)) := by
    intro l' hh hl'
    have hs' : Small l' := small_has hs.2 ht' hh (by omega)
    by_cases c1 : (l'.length : Int) > 40
    · exact ⟨_, yesV (decide_eq_true c1) rfl, .inl ⟨12, by decide, rfl⟩⟩
    by_cases c2 : t.1 ≥ s.2.1
    · exact ⟨_, noV (decide_eq_false c1) (yesV (decide_eq_true c2) rfl), .inl ⟨10, by decide, rfl⟩⟩
    have hid : nid t < s.2.1 := Int.not_le.1 c2
    have e50 := v_50 (s.1, s.2.1, l') t hs' ht'
    cases c3 : endB (s.1, s.2.1, l') t with
    | false =>
      rw [c3] at e50
      exact ⟨_, noV (decide_eq_false c1) (noV (decide_eq_false c2) (bind_ofV e50 (yesV rfl rfl))), .inl ⟨10, by decide, rfl⟩⟩
    | true =>
    rw [c3] at e50
    have e51 := v_51 (s.1, s.2.1, l') hs'
    cases c4 : apartB l' with
    | false =>
      have e51 : F_51 (s.1, s.2.1, l') = some ((apartB l', ()) : Els [.bool]) := e51
      rw [c4] at e51
      exact ⟨_, noV (decide_eq_false c1) (noV (decide_eq_false c2) (bind_ofV e50 (noV rfl (bind_ofV e51 (yesV rfl rfl))))), .inl ⟨15, by decide, rfl⟩⟩
    | true =>
    have e51 : F_51 (s.1, s.2.1, l') = some ((apartB l', ()) : Els [.bool]) := e51
    rw [c4] at e51
    have e52 : F_52 (s.1, s.2.1, l') = some ((l'.all (endB (s.1, s.2.1, l')), ()) : Els [.bool]) := v_52 (s.1, s.2.1, l') hs'
    have e53 : F_53 (s.1, s.2.1, l') = some ((treeB l', ()) : Els [.bool]) := v_53 (s.1, s.2.1, l') hs'
    have tree : ∃ r : Els [tScene, I], ((F_53 (s.1, s.2.1, l')).bind fun tr => bif !tr.1 then some ((noScene, (11 : Int), ()) : Els [tScene, I]) else some ((s.1, s.2.1, l'), (0 : Int), ())) = some r ∧ ((r = (noScene, (11 : Int), ())) ∨ (r = ((s.1, s.2.1, l'), (0 : Int), ()) ∧ treeB l' = true)) := by
      cases c5 : treeB l' with
      | false => rw [c5] at e53; exact ⟨_, bind_ofV e53 (yesV rfl rfl), .inl rfl⟩
      | true => rw [c5] at e53; exact ⟨_, bind_ofV e53 (noV rfl rfl), .inr ⟨rfl, rfl⟩⟩
    obtain ⟨r, hr1, hr2⟩ := tree
    have done : ((∃ u ∈ s.2.2, nid u = nid t ∧ u.2.1 = 1) → l'.all (endB (s.1, s.2.1, l')) = true) → (∃ e : Int, e ≠ 0 ∧ r = (noScene, e, ())) ∨ (r = ((s.1, s.2.1, l'), (0 : Int), ()) ∧ rightB (s.1, s.2.1, l') = true) := by
      intro he
      rcases hr2 with rfl | ⟨rfl, htr⟩
      · exact .inl ⟨11, by decide, rfl⟩
      · exact .inr ⟨rfl, with_right hs hr hh hs' hrt hid (by omega) c3 c4 htr he⟩
    cases c6 : (getB s.2.2 (nid t)).2 with
    | false =>
      refine ⟨r, noV (decide_eq_false c1) (noV (decide_eq_false c2) (bind_ofV e50 (noV rfl (bind_ofV e51 (noV rfl (noV rfl hr1)))))), done ?_⟩
      rintro ⟨u, hu, e, _⟩
      have := hR.asc.getB hu
      rw [e] at this
      rw [this] at c6
      cases c6
    | true =>
      cases c7 : ((getB s.2.2 (nid t)).1.2.1 == (1 : Int)) with
      | false =>
        refine ⟨r, noV (decide_eq_false c1) (noV (decide_eq_false c2) (bind_ofV e50 (noV rfl (bind_ofV e51 (noV rfl (yesV rfl (noV rfl hr1))))))), done ?_⟩
        rintro ⟨u, hu, e, hk⟩
        have := hR.asc.getB hu
        rw [e] at this
        rw [this] at c7
        rw [hk] at c7
        cases c7
      | true =>
        cases c8 : l'.all (endB (s.1, s.2.1, l')) with
        | false =>
          rw [c8] at e52
          exact ⟨_, noV (decide_eq_false c1) (noV (decide_eq_false c2) (bind_ofV e50 (noV rfl (bind_ofV e51 (noV rfl (yesV rfl (yesV rfl (bind_ofV e52 (yesV rfl rfl))))))))), .inl ⟨15, by decide, rfl⟩⟩
        | true =>
          rw [c8] at e52
          exact ⟨r, noV (decide_eq_false c1) (noV (decide_eq_false c2) (bind_ofV e50 (noV rfl (bind_ofV e51 (noV rfl (yesV rfl (yesV rfl (bind_ofV e52 (noV rfl hr1))))))))), done (fun _ => c8)⟩
  cases hb : b with
  | true =>
    subst hb
    obtain ⟨u, hu, e⟩ := h3.1 rfl
    have hil := len_of hu
    have hh := has_set hR.asc hu e
    obtain ⟨r, k1, k2⟩ := cont _ hh (by simp; omega)
    have hF : F_18w s t = some r := by
      unfold F_18w
      refine bind_ofV hv20 (noV rfl (bind_ofV (v_45 t ht') (noV (by rw [hrt]; rfl) (bind_ofV (v_46 _ ht') (bind_ofV (v_47 _ hs) (bind_ofV (v_23 s (nid t) hs.1 hs.2) (bind_ofV h1 (yesV rfl (yesV (dec_in hil) ?_)))))))))
      exact k1
    rcases k2 with ⟨e, he, rfl⟩ | ⟨rfl, hr'⟩
    · exact .inl ⟨e, he, hF⟩
    · exact .inr ⟨_, hh, small_has hs.2 ht' hh (by simp; omega), hr', hF, fun hn => absurd ⟨u, List.mem_of_getElem? hu, e⟩ hn⟩
  | false =>
    subst hb
    have hn : ¬ Is s.2.2 (nid t) := by
      intro hn
      have := h3.2 (place_is hR.asc h2 hn)
      cases this
    have hh := has_ins hR.asc h2 hn
    have hil := h2.1
    have hll : (s.2.2.take i ++ [t] ++ s.2.2.drop i).length ≤ 41 := by simp; omega
    obtain ⟨r, k1, k2⟩ := cont _ hh hll
    have hins : F_49g (i : Int) s.2.2 [t] = some (((), ()), s.2.2.take i ++ [t] ++ s.2.2.drop i, ()) := by
      unfold F_49g insT
      rw [decide_eq_true (by omega : (0 : Int) ≤ (i : Int)), decide_eq_true (by omega : (i : Int) ≤ (s.2.2.length : Int)), show Nat.beq [t].length 1 = true from rfl, Nat.ble_eq_true_of_le (by omega : s.2.2.length ≤ 1000000)]
      rfl
    have hF : F_18w s t = some r := by
      unfold F_18w
      refine bind_ofV hv20 (noV rfl (bind_ofV (v_45 t ht') (noV (by rw [hrt]; rfl) (bind_ofV (v_46 _ ht') (bind_ofV (v_47 _ hs) (bind_ofV (v_23 s (nid t) hs.1 hs.2) (bind_ofV h1 (noV rfl (bind_ofV hins ?_)))))))))
      exact k1
    rcases k2 with ⟨e, he, rfl⟩ | ⟨rfl, hr'⟩
    · exact .inl ⟨e, he, hF⟩
    · exact .inr ⟨_, hh, small_has hs.2 ht' hh (by omega), hr', hF, fun _ => ⟨i, hil, rfl⟩⟩

theorem insLen20 {t : Thing} (h : ¬ ((t.2.2.2.2.length : Int) > 20)) : t.2.2.2.2.length ≤ 20 := by omega
theorem sceneWithout (g : Vec) (next : I.El) (l : (Ty.list tThing).El) (t : Thing) (h0 : tVec.wf g) (h1 : I.wf next) (h2 : (Ty.list tThing).wf l) (h3 : tThing.wf t) : F_5 g next l t = some ((true, ()) : Els [.bool]) := by
  unfold F_5
  refine bind_ofV (v_22 l h2.1) ?_
  cases hf : fewB l with
  | false => exact yesV rfl (bind_ofV alive16 rfl)
  | true =>
  have hs : Small l := small_of (few_small hf)
  by_cases h20 : ((t.2.2.2.2.length : Int) > 20)
  · exact noV rfl (yesV (decide_eq_true h20) (bind_ofV alive16 rfl))
  have ht20 := insLen20 h20
  refine noV rfl (noV (decide_eq_false h20) (bind_ofV (v_20 (g, next, l) hs) ?_))
  cases hr : rightB (g, next, l) with
  | false => exact yesV rfl (bind_ofV alive16 rfl)
  | true =>
  have hR := right_of hr
  refine noV rfl (bind_ofV alive16 (noV rfl (bind_ofV (v_23 (g, next, l) (nid t) hs.1 hs.2) ?_)))
  rcases v_18 (g, next, l) t hs hr (by omega) with ⟨e, he, hF⟩ | ⟨l', hh, hs', hr', hF, hnew⟩
  · refine bind_ofV hF (yesV (by simpa using he) (bind_ofV (v_25 _) (bind_ofV (v_24 noScene ⟨by decide, by intro u hu; cases hu⟩) rfl)))
  · refine bind_ofV hF (noV rfl (bind_ofV (v_20 (g, next, l') hs') ?_))
    rw [hr']
    obtain ⟨i, u, k1, k2, k3⟩ := v_26 (g, next, l') (nid t) hs' hr' ⟨t, hh.new, rfl⟩
    refine noV rfl (bind_ofV k3 (bind_ofV (v_27 (g, next, l') (nid t) hs') ?_))
    have hg1 : (((g, next, l') : Scene)).2.2 = l' := rfl
    by_cases hu : uses l' (nid t) = []
    · rw [if_pos hu]
      refine noV (decide_eq_false (by show ¬ (((uses l' (nid t)).length : Int) > 0); rw [hu]; simp)) (yesV rfl ?_)
      cases hb : (getB l (nid t)).2 with
      | true => exact yesV rfl rfl
      | false =>
        have hnot : ¬ Is l (nid t) := by
          rintro ⟨v, hv, e⟩
          have := hR.asc.getB hv
          rw [e] at this
          rw [this] at hb
          cases hb
        obtain ⟨j, hj, hl'⟩ := hnew hnot
        have hj : j ≤ l.length := hj
        have hl' : l' = l.take j ++ [t] ++ l.drop j := hl'
        have hij : i = j := by
          have hjt : l'[j]? = some t := by rw [hl', ins_get hj, if_neg (by omega), if_pos rfl]
          exact hh.asc.one k1 hjt k2
        subst hij
        have hback : l'.take i ++ l'.drop (i + 1) = l := by
          rw [hl']
          have e1 : (l.take i).length = i := by simp; omega
          rw [List.append_assoc, List.take_left' e1]
          rw [← List.append_assoc, List.drop_left' (by simp; omega), List.take_append_drop]
        refine noV rfl (bind_ofV (v_25 _) (bind_ofV (x := (true, ())) ?_ rfl))
        show F_24 (g, next, l'.take i ++ l'.drop (i + 1)) (g, next, l) = _
        rw [hback]
        exact v_24 (g, next, l) hs
    · rw [if_neg hu]
      have h0 : 0 < (uses l' (nid t)).length := List.length_pos_iff.2 hu
      refine yesV (decide_eq_true ?_) rfl
      show ((uses l' (nid t)).length : Int) > 0
      omega
end Go.DI.S

