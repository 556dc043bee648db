import Derived.Test.YtehbnnmokbgiiaaZa
import Derived.Test.YtehbnnmokbgiiaaDb
/- ChangeTurns, plain. No conditions. -/
/-! ChangeTurns, plain. -/
set_option linter.unusedVariables false
set_option linter.unusedSimpArgs false
set_option maxRecDepth 100000
namespace Go.DI.S
open Go.Proofs
theorem eq_self {α : Type} [BEq α] [ReflBEq α] (a : α) : (!(a == a)) = false := by simp
theorem small_no : Small noScene.2.2 := ⟨Nat.zero_le _, fun t ht => by cases ht⟩
theorem changeTurns (g : Vec) (nx : I.El) (l : (Ty.list tThing).El) (e : tEntry.El) (h0 : tVec.wf g) (h1 : I.wf nx) (h2 : (Ty.list tThing).wf l) (h3 : tEntry.wf e) : F_203 g nx l e = some ((true, ()) : Els [.bool]) := by
  have hal : (F_207.bind fun v => some ((v.1, ()) : Els [.bool])) = some (true, ()) := bind_ofV alive22 rfl
  have h3' : List.length e.1 ≤ maxLen := h3.1.1
  unfold F_203
  refine bind_ofV (v_22 l h2.1) ?_
  cases hf : fewB l with
  | false => exact yesV rfl hal
  | true =>
  refine noV rfl ?_
  obtain ⟨b, hb, hb2⟩ := v_206 e h3'
  refine bind_ofV hb ?_
  cases b with
  | false => exact yesV rfl hal
  | true =>
  have hlen : List.length e.1 ≤ 60 := hb2 rfl
  refine noV rfl (bind_ofV alive22 (noV rfl ?_))
  have ht : (turnE e).1.length ≤ 1000000 := by show (e.1.map swapD).length ≤ 1000000; rw [List.length_map]; omega
  have v1 := v_109 e (by omega)
  have v2 := v_109 (turnE e) ht
  rw [turn_turn] at v2
  have v3 := v_209 e (by omega)
  have v4 := v_64 (turnE e) (by omega)
  rw [rightE_turn] at v4
  have v5 := v_64 e (by omega)
  refine bind_ofV v1 (bind_ofV v2 (bind_ofV v3 (noV rfl (bind_ofV v4 (bind_ofV v5 (noV (eq_self _) ?_))))))
  have hs : Lil l := lil_of hf
  obtain ⟨k1, k2, k3, k4⟩ := v_68 (g, nx, l) e hs (by omega)
  have bad : ∀ n : Int, n ≠ 0 → F_68 (g, nx, l) e = some ((noScene, n, ()) : Els [tScene, I]) → ((F_68 (g, nx, l) e).bind fun v24 =>
      bif v24.2.1 != (0 : Int) then (F_24 v24.1 (((0 : Int), (0 : Int)), (0 : Int), [])).bind fun v26 => some ((v26.1, ()) : Els [.bool])
      else (F_66 v24.1 e).bind fun v28 => bif v28.2.1 == (0 : Int) then (F_25 (g, nx, l)).bind fun v30 => (F_24 v28.1 v30.1).bind fun v32 => some (v32.1, ()) else some (false, ())) = some ((true, ()) : Els [.bool]) := by
    intro n hn h
    refine bind_ofV h (yesV (by simpa using hn) ?_)
    exact bind_ofV (v_24 noScene small_no) rfl
  cases hr : rightB (g, nx, l) with
  | false => exact bad 9 (by decide) (k1 hr)
  | true =>
  cases hE : rightE e with
  | false => exact bad 9 (by decide) (k2 hr hE)
  | true =>
  by_cases hF : FitS (g, nx, l) e
  · have k5 := k4 hr hE hF
    cases ho : rightB (outS (g, nx, l) e) with
    | false =>
      rw [ho] at k5
      exact bad 5 (by decide) k5
    | true =>
      rw [ho, if_pos rfl] at k5
      have hR := right_of hr
      have hd : Rdb l := rdb_of hR (fun t ht => h2.2 t ht) hs.ins
      have hb := forth_back hs hr hE hF ho hd
      exact bind_ofV k5 (noV rfl (bind_ofV hb (yesV rfl (bind_ofV (v_25 (g, nx, l)) (bind_ofV (v_24 (g, nx, l) hs.sm) rfl)))))
  · exact bad 14 (by decide) (k3 hr hE hF)
end Go.DI.S

