import Derived.Test.YtbjldjihpekhaaaGreatYb
import Derived.Test.YtbjldjihpekhaaaGreatYa
import Derived.Test.YtbjldjihpekhaaaGreatGa
import Derived.Test.YtbjldjihpekhaaaGreatOa
import Derived.Test.YtbjldjihpekhaaaGreatUc
/- OrderUndoes, plain. No conditions. -/
set_option linter.unusedVariables false
set_option linter.unusedSimpArgs false
set_option maxRecDepth 100000
namespace Go.DI.S
open Go.Proofs
theorem v_Do4 {s : Scene} {o : Order} {w w' : tWorker.El} {r : Scene} {n e : Int} (hs : Small s.2.2) (hr : rightB s = true) (h1 : 1 ≤ o.1) (h2 : o.1 ≤ 10)
    (hread : F_readw ((s, o, (0, 0, 0, 0, 0)), ()) = some (((0, ()), (w, ()), ()) : OUT_readw.El)) (hdo : F_do4 (w, ()) = some (((r, n, e, ()), (w', ()), ()) : OUT_do4.El)) :
    F_Do4 s o = some ((if e = 0 then (r, n, 0, ()) else (s, 0, e, ())) : Els [tScene, I, I]) := by
  have e20 := v_20 s hs
  rw [hr] at e20
  have c1 : decide (o.1 < (1 : Int)) = false := decide_eq_false (Int.not_lt.2 h1)
  have c2 : decide (o.1 > (10 : Int)) = false := decide_eq_false (Int.not_lt.2 h2)
  unfold F_Do4
  refine noV c1 (noV c2 (bind_ofV e20 (noV rfl (bind_ofV hread (noV rfl (bind_ofV hdo ?_))))))
  by_cases he : e = 0
  · rw [if_pos he]
    subst he
    exact noV rfl rfl
  · rw [if_neg he]
    exact yesV (by simpa using he) rfl
def ordM (id : Int) (X Y : Nat) : Order := (3, id, 0, 0, X, Y, 0, 0, 0, 0, 0, [])
def ordT (id : Int) : Order := (9, id, 0, 0, 0, 0, 0, 0, 0, 32768, 0, [])
def ordC (id : Int) : Order := (7, id, 0, 0, 0, 0, 0, 0, 0, 0, 0, [])
def ordD (id : Int) : Order := (2, id, 0, 0, 0, 0, 0, 0, 0, 0, 0, [])
theorem readM {s : Scene} {id x y : Int} {X Y : Nat} (hx : F_get X = some ((x, 0, ()) : Els [I, I])) (hy : F_get Y = some ((y, 0, ()) : Els [I, I])) :
    F_readw ((s, ordM id X Y, (0, 0, 0, 0, 0)), ()) = some (((0, ()), ((s, ordM id X Y, (x, y, 0, 0, 0)), ()), ()) : OUT_readw.El) := by
  unfold F_readw
  exact noV rfl (yesV rfl (bind_ofV rfl (bind_ofV hx (noV rfl (bind_ofV hy (noV rfl rfl))))))
theorem readT (s : Scene) (id : Int) : F_readw ((s, ordT id, (0, 0, 0, 0, 0)), ()) = some (((0, ()), ((s, ordT id, (0, 0, 0, 0, 0)), ()), ()) : OUT_readw.El) := by
  unfold F_readw
  exact noV rfl (noV rfl (noV rfl (noV rfl (noV rfl (bind_ofV rfl rfl)))))
theorem readD (s : Scene) (id : Int) : F_readw ((s, ordD id, (0, 0, 0, 0, 0)), ()) = some (((0, ()), ((s, ordD id, (0, 0, 0, 0, 0)), ()), ()) : OUT_readw.El) := by
  unfold F_readw
  exact noV rfl (noV rfl (noV rfl (noV rfl (noV rfl (bind_ofV rfl rfl)))))
theorem get_zero : F_get 0 = some ((0, 0, ()) : Els [I, I]) := by kernel_rfl
theorem readC (s : Scene) (id : Int) : F_readw ((s, ordC id, (0, 0, 0, 0, 0)), ()) = some (((0, ()), ((s, ordC id, (0, 0, 0, 0, 0)), ()), ()) : OUT_readw.El) := by
  unfold F_readw
  exact noV rfl (noV rfl (noV rfl (yesV rfl (bind_ofV rfl (bind_ofV get_zero (noV rfl (bind_ofV get_zero (noV rfl rfl))))))))
theorem do_m {w : tWorker.El} (hk : w.2.1.1 = 3) {r : Scene} {e : Int} {w' : tWorker.El} (h : F_eachqm (w, ()) = some (((r, 0, e, ()), (w', ()), ()) : OUT_eachqm.El)) : F_do4 (w, ()) = some (((r, 0, e, ()), (w', ()), ()) : OUT_do4.El) := by
  unfold F_do4
  exact noV (by rw [hk]; rfl) (noV (by rw [hk]; rfl) (yesV (by rw [hk]; rfl) (bind_ofV h rfl)))
theorem do_t {w : tWorker.El} (hk : w.2.1.1 = 9) {r : Scene} {e : Int} {w' : tWorker.El} (h : F_eachqt (w, ()) = some (((r, 0, e, ()), (w', ()), ()) : OUT_eachqt.El)) : F_do4 (w, ()) = some (((r, 0, e, ()), (w', ()), ()) : OUT_do4.El) := by
  unfold F_do4
  exact noV (by rw [hk]; rfl) (noV (by rw [hk]; rfl) (noV (by rw [hk]; rfl) (noV (by rw [hk]; rfl) (noV (by rw [hk]; rfl) (noV (by rw [hk]; rfl) (noV (by rw [hk]; rfl) (noV (by rw [hk]; rfl) (yesV (by rw [hk]; rfl) (bind_ofV h rfl)))))))))
def Undone (s : Scene) (o1 : Order) (o2 : Int → Order) : Prop :=
  (∃ a n e, e ≠ 0 ∧ F_Do4 s o1 = some ((a, n, e, ()) : Els [tScene, I, I])) ∨ ∃ a n b m, F_Do4 s o1 = some ((a, n, 0, ()) : Els [tScene, I, I]) ∧ F_Do4 a (o2 n) = some ((b, m, 0, ()) : Els [tScene, I, I]) ∧ b.1 = s.1 ∧ b.2.2 = s.2.2
section
variable {s : Scene} (hs : Small s.2.2) (hr : rightB s = true)
include hs hr
theorem undo_move (id : Int) {x y : Int} {X Y X' Y' : Nat} (hx : Far x) (hy : Far y) (h1 : F_get X = some ((x, 0, ()) : Els [I, I])) (h2 : F_get Y = some ((y, 0, ()) : Els [I, I])) (h3 : F_get X' = some ((-x, 0, ()) : Els [I, I])) (h4 : F_get Y' = some ((-y, 0, ()) : Els [I, I])) :
    Undone s (ordM id X Y) (fun _ => ordM id X' Y') := by
  rcases v_eachqm (w := (s, ordM id X Y, (x, y, 0, 0, 0))) (move_mv _) hs hr with ⟨hg, h⟩ | ⟨hg, us, hu, h⟩ | ⟨hg, e, row, hu, h⟩
  · left
    have := v_Do4 hs hr (show (1 : Int) ≤ 3 by decide) (show (3 : Int) ≤ 10 by decide) (readM h1 h2) (do_m rfl h)
    exact ⟨_, _, 10, by decide, this⟩
  · right
    have hd := v_Do4 hs hr (show (1 : Int) ≤ 3 by decide) (show (3 : Int) ≤ 10 by decide) (readM h1 h2) (do_m rfl h)
    have hn : Is s.2.2 id := is_getB hg
    have hl := eL_like hu
    have hr' := eL_right hr hs hn hu
    have hs' : Small us := hl.small hs
    have hback := mv_back (q := (x, y)) hx hy (fun t ht hc => bods_rb hr hs hn ht hc) hu
    have hb : bods us id = bods s.2.2 id := hl.bods id
    rcases v_eachqm (w := ((s.1, s.2.1, us), ordM id X' Y', (-x, -y, 0, 0, 0))) (move_mv _) hs' hr' with ⟨hg', h'⟩ | ⟨hg', us', hu', h'⟩ | ⟨hg', e, row, hu', h'⟩
    · have e1 : (getB us id).2 = true := by rw [(hl.get id).2]; exact hg
      have hg' : (getB us id).2 = false := hg'
      rw [e1] at hg'
      cases hg'
    · have hu' : eL (mv (-x, -y)) (bods us id) us = .inl us' := hu'
      rw [hb] at hu'
      have hback : eL (mv (-x, -y)) (bods s.2.2 id) us = .inl s.2.2 := hback
      rw [hback] at hu'
      cases hu'
      have hd' := v_Do4 (s := (s.1, s.2.1, us)) hs' hr' (show (1 : Int) ≤ 3 by decide) (show (3 : Int) ≤ 10 by decide) (readM h3 h4) (do_m rfl h')
      exact ⟨_, _, _, _, hd, hd', rfl, rfl⟩
    · have hu' : eL (mv (-x, -y)) (bods us id) us = .inr e := hu'
      rw [hb] at hu'
      have hback : eL (mv (-x, -y)) (bods s.2.2 id) us = .inl s.2.2 := hback
      rw [hback] at hu'
      cases hu'
  · left
    have he : e ≠ 0 := eL_err (mv_err _) hu
    have := v_Do4 hs hr (show (1 : Int) ≤ 3 by decide) (show (3 : Int) ≤ 10 by decide) (readM h1 h2) (do_m rfl h)
    rw [if_neg he] at this
    exact ⟨_, _, e, he, this⟩
theorem undo_turn (id : Int) : Undone s (ordT id) (fun _ => ordT id) := by
  rcases v_eachqt (w := (s, ordT id, (0, 0, 0, 0, 0))) (turn_half _ rfl) hs hr with ⟨hg, h⟩ | ⟨hg, us, hu, h⟩ | ⟨hg, e, row, hu, h⟩
  · left
    have := v_Do4 hs hr (show (1 : Int) ≤ 9 by decide) (show (9 : Int) ≤ 10 by decide) (readT s id) (do_t rfl h)
    exact ⟨_, _, 10, by decide, this⟩
  · right
    have hd := v_Do4 hs hr (show (1 : Int) ≤ 9 by decide) (show (9 : Int) ≤ 10 by decide) (readT s id) (do_t rfl h)
    have hn : Is s.2.2 id := is_getB hg
    have hl := eL_like hu
    have hr' := eL_right hr hs hn hu
    have hs' : Small us := hl.small hs
    have hback := half_back (fun t ht hc => bods_rb hr hs hn ht hc) hu
    have hb : bods us id = bods s.2.2 id := hl.bods id
    rcases v_eachqt (w := ((s.1, s.2.1, us), ordT id, (0, 0, 0, 0, 0))) (turn_half _ rfl) hs' hr' with ⟨hg', h'⟩ | ⟨hg', us', hu', h'⟩ | ⟨hg', e, row, hu', h'⟩
    · have e1 : (getB us id).2 = true := by rw [(hl.get id).2]; exact hg
      have hg' : (getB us id).2 = false := hg'
      rw [e1] at hg'
      cases hg'
    · have hu' : eL half2 (bods us id) us = .inl us' := hu'
      rw [hb] at hu'
      have hback : eL half2 (bods s.2.2 id) us = .inl s.2.2 := hback
      rw [hback] at hu'
      cases hu'
      have hd' := v_Do4 (s := (s.1, s.2.1, us)) hs' hr' (show (1 : Int) ≤ 9 by decide) (show (9 : Int) ≤ 10 by decide) (readT (s.1, s.2.1, us) id) (do_t rfl h')
      exact ⟨_, _, _, _, hd, hd', rfl, rfl⟩
    · have hu' : eL half2 (bods us id) us = .inr e := hu'
      rw [hb] at hu'
      have hback : eL half2 (bods s.2.2 id) us = .inl s.2.2 := hback
      rw [hback] at hu'
      cases hu'
  · left
    have he : e ≠ 0 := eL_err half2_err hu
    have := v_Do4 hs hr (show (1 : Int) ≤ 9 by decide) (show (9 : Int) ≤ 10 by decide) (readT s id) (do_t rfl h)
    rw [if_neg he] at this
    exact ⟨_, _, e, he, this⟩
theorem undo_copy (id : Int) : Undone s (ordC id) ordD := by
  have hby : F_by (s, ordC id, (0, 0, 0, 0, 0)) = some (((0, 0), ()) : Els [tVec]) := rfl
  have hdo : ∀ {r : Scene} {n e : Int}, F_42 s id (0, 0) = some ((r, n, e, ()) : Els [tScene, I, I]) → F_do4 ((s, ordC id, (0, 0, 0, 0, 0)), ()) = some (((r, n, e, ()), ((s, ordC id, (0, 0, 0, 0, 0)), ()), ()) : OUT_do4.El) := fun h => by
    unfold F_do4
    exact noV rfl (noV rfl (noV rfl (noV rfl (noV rfl (noV rfl (yesV rfl (bind_ofV hby (bind_ofV h rfl))))))))
  rcases v_42 s id (0, 0) hs hr with ⟨e, he, h⟩ | ⟨hn, hk, c1, c2, out, hc, h⟩
  · left
    have := v_Do4 hs hr (show (1 : Int) ≤ 7 by decide) (show (7 : Int) ≤ 10 by decide) (readC s id) (hdo h)
    rw [if_neg he] at this
    exact ⟨_, _, e, he, this⟩
  · right
    have hR := right_of hr
    obtain ⟨us, rfl, hl, hcp⟩ := cpL_spec hc
    have hC : Cp s id us := ⟨hR, hs, hn, c1, c2, hl, _, hcp⟩
    rw [hC.first] at h
    have hd := v_Do4 hs hr (show (1 : Int) ≤ 7 by decide) (show (7 : Int) ≤ 10 by decide) (readC s id) (hdo h)
    have hdo' : F_do4 ((Cp.sc s id us, ordD (Cp.fi s id id), (0, 0, 0, 0, 0)), ()) = some ((((s.1, nxt s + (ida s.2.2 id).length, s.2.2), 0, 0, ()), ((Cp.sc s id us, ordD (Cp.fi s id id), (0, 0, 0, 0, 0)), ()), ()) : OUT_do4.El) := by
      unfold F_do4
      exact noV rfl (yesV rfl (bind_ofV (hC.undone hr) rfl))
    have hd' := v_Do4 hC.small (hC.right hr) (show (1 : Int) ≤ 2 by decide) (show (2 : Int) ≤ 10 by decide) (readD _ _) hdo'
    exact ⟨_, _, _, _, hd, hd', rfl, rfl⟩
end
theorem round_ok {s : Scene} (hs : Small s.2.2) {o1 : Order} {o2 : Int → Order} (h : Undone s o1 o2) {REST : Option (Els [.bool])} (hR : REST = some (true, ())) :
    ((F_Do4 s o1).bind fun v => bif v.2.2.1 != (0 : Int) then REST else (F_Do4 v.1 (o2 v.2.1)).bind fun u => bif u.2.2.1 != (0 : Int) then some ((false, ()) : Els [.bool]) else (F_25 s).bind fun r => (F_24 (u.1.1, s.2.1, u.1.2.2) r.1).bind fun q => bif !q.1 then some (false, ()) else REST) = some (true, ()) := by
  rcases h with ⟨a, n, e, he, h⟩ | ⟨a, n, b, m, h, h', e1, e2⟩
  · exact bind_ofV h (yesV (by simpa using he) hR)
  · refine bind_ofV h (noV rfl (bind_ofV h' (noV rfl (bind_ofV (v_25 s) ?_))))
    have h24 := v_24 s hs
    show (F_24 (b.1, s.2.1, b.2.2) s).bind _ = _
    rw [e1, e2]
    exact bind_ofV h24 (noV rfl hR)
theorem al {c : Bool} {b : Option (Els [.bool])} (h : b = some (true, ())) : (bif c then F_alive.bind fun v => some ((v.1, ()) : Els [.bool]) else b) = some (true, ()) := by
  cases c
  · exact h
  · exact bind_ofV alive_true rfl
theorem undoes_true (g : Vec) (next : Int) (l : List Thing) (id x y : Int) (h2 : (Ty.list tThing).wf l) :
    F_undoes g next l id x y = some ((true, ()) : Els [.bool]) := by
  unfold F_undoes
  refine bind_ofV (v_22 l h2.1) ?_
  cases hf : fewB l with
  | false => exact bind_ofV alive_true rfl
  | true =>
    have hs : Small l := small_of (few_small hf)
    refine noV rfl (bind_ofV (v_20 (g, next, l) hs) ?_)
    cases hr : rightB (g, next, l) with
    | false => exact bind_ofV alive_true rfl
    | true =>
      refine noV rfl ?_
      by_cases c1 : (-1000 : Int) ≤ x ∧ x ≤ 1000 ∧ -1000 ≤ y ∧ y ≤ 1000
      · obtain ⟨x1, x2, y1', y2⟩ := c1
        refine al (al (al (al (al (al (bind_ofV alive_true (noV rfl ?_)))))))
        have wx : IntKind.i64.wrap ((0 : Int) - x) = -x := by rw [Int.zero_sub]; exact wrap64 (by omega) (by omega)
        have wy : IntKind.i64.wrap ((0 : Int) - y) = -y := by rw [Int.zero_sub]; exact wrap64 (by omega) (by omega)
        have hm := undo_move (s := (g, next, l)) hs hr id (x := x * 4294967296) (y := y * 4294967296) ⟨by omega, by omega⟩ ⟨by omega, by omega⟩ (getY x x1 x2) (getY y y1' y2) (X' := FloatKind.f64.nearest (IntKind.i64.wrap ((0 : Int) - x))) (Y' := FloatKind.f64.nearest (IntKind.i64.wrap ((0 : Int) - y)))
          (by rw [wx, getY (-x) (by omega) (by omega), Int.neg_mul]) (by rw [wy, getY (-y) (by omega) (by omega), Int.neg_mul])
        exact round_ok hs hm (round_ok hs (undo_turn (s := (g, next, l)) hs hr id) (round_ok hs (undo_copy (s := (g, next, l)) hs hr id) rfl))
      · have bad : ∀ {b : Option (Els [.bool])}, (bif decide (x < (-1000 : Int)) then F_alive.bind fun v => some ((v.1, ()) : Els [.bool]) else bif decide (y < (-1000 : Int)) then F_alive.bind fun v => some ((v.1, ()) : Els [.bool]) else bif decide (x > (1000 : Int)) then F_alive.bind fun v => some ((v.1, ()) : Els [.bool]) else bif decide (y > (1000 : Int)) then F_alive.bind fun v => some ((v.1, ()) : Els [.bool]) else b) = some (true, ()) := fun {b} => by
          have ha : (F_alive.bind fun v => some ((v.1, ()) : Els [.bool])) = some (true, ()) := bind_ofV alive_true rfl
          by_cases k1 : x < -1000
          · exact yesV (decide_eq_true k1) ha
          · by_cases k2 : y < -1000
            · exact noV (decide_eq_false k1) (yesV (decide_eq_true k2) ha)
            · by_cases k3 : x > 1000
              · exact noV (decide_eq_false k1) (noV (decide_eq_false k2) (yesV (decide_eq_true k3) ha))
              · by_cases k4 : y > 1000
                · exact noV (decide_eq_false k1) (noV (decide_eq_false k2) (noV (decide_eq_false k3) (yesV (decide_eq_true k4) ha)))
                · exact absurd ⟨by omega, by omega, by omega, by omega⟩ c1
        exact bad
theorem orderUndoes (g : Vec) (next : I.El) (l : (Ty.list tThing).El) (id x y : I.El) (h0 : tVec.wf g) (h1 : I.wf next) (h2 : (Ty.list tThing).wf l) (h3 : I.wf id) (h4 : I.wf x) (h5 : I.wf y) :
    F_undoes g next l id x y = some ((true, ()) : Els [.bool]) := undoes_true g next l id x y h2
end Go.DI.S
