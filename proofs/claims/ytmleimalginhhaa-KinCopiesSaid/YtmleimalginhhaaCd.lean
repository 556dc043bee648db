import Derived.Test.YtmleimalginhhaaCc
/- KinCopies, plain. No conditions. -/
/-! KinCopies: closed facts. -/
set_option linter.unusedVariables false
set_option linter.unusedSimpArgs false
set_option maxRecDepth 100000
set_option maxHeartbeats 0
namespace Go.DI.S
open Go.Proofs
def bs_8 : List Thing := [ball 1, ball 2, ball 3, ball 4, ball 5, ball 6, ball 7, ball 8]
def js_8 : List Thing := [ball 1, ball 2, ball 3, ball 4, ball 5, ball 6, ball 7, ball 8, jnt 1, jnt 2, jnt 3, jnt 4, jnt 5, jnt 6, jnt 7]
def grp_8 : Thing := (100, 3, zeroB, (0, 0, 0), [1, 2, 3, 4, 5, 6, 7, 8])
def ts_8 : Scene := ((0, 0), 101, js_8 ++ [grp_8])
def ug_8 : Thing := (109, 3, zeroB, (0, 0, 0), [101, 102, 103, 104, 105, 106, 107, 108])
def out_8 (X Y : Int) : List Thing := ts_8.2.2 ++ [uB 1 X Y, uB 2 X Y, uB 3 X Y, uB 4 X Y, uB 5 X Y, uB 6 X Y, uB 7 X Y, uB 8 X Y, ug_8, uJ 8 1, uJ 8 2, uJ 8 3, uJ 8 4, uJ 8 5, uJ 8 6, uJ 8 7]
theorem ida_8 : ida ts_8.2.2 100 = [1, 2, 3, 4, 5, 6, 7, 8, 100, 51, 52, 53, 54, 55, 56, 57] := by kernel_rfl
theorem cop_8 (X Y : Int) (h1 : -2147483648000 ≤ X) (h2 : X ≤ 2147483648000) (h3 : -2147483648000 ≤ Y) (h4 : Y ≤ 2147483648000) : cpL (cpM ts_8 100) (X, Y) ts_8.2.2 (ida ts_8.2.2 100) ts_8.2.2 = .inl (out_8 X Y) := by
  rw [ida_8]
  refine (cpL_cons (getT (t := ball 1) (u := uB 1 X Y) (by kernel_rfl) (ballT (by kernel_rfl) (by decide) (by decide) h1 h2 h3 h4))).trans ?_
  refine (cpL_cons (getT (t := ball 2) (u := uB 2 X Y) (by kernel_rfl) (ballT (by kernel_rfl) (by decide) (by decide) h1 h2 h3 h4))).trans ?_
  refine (cpL_cons (getT (t := ball 3) (u := uB 3 X Y) (by kernel_rfl) (ballT (by kernel_rfl) (by decide) (by decide) h1 h2 h3 h4))).trans ?_
  refine (cpL_cons (getT (t := ball 4) (u := uB 4 X Y) (by kernel_rfl) (ballT (by kernel_rfl) (by decide) (by decide) h1 h2 h3 h4))).trans ?_
  refine (cpL_cons (getT (t := ball 5) (u := uB 5 X Y) (by kernel_rfl) (ballT (by kernel_rfl) (by decide) (by decide) h1 h2 h3 h4))).trans ?_
  refine (cpL_cons (getT (t := ball 6) (u := uB 6 X Y) (by kernel_rfl) (ballT (by kernel_rfl) (by decide) (by decide) h1 h2 h3 h4))).trans ?_
  refine (cpL_cons (getT (t := ball 7) (u := uB 7 X Y) (by kernel_rfl) (ballT (by kernel_rfl) (by decide) (by decide) h1 h2 h3 h4))).trans ?_
  refine (cpL_cons (getT (t := ball 8) (u := uB 8 X Y) (by kernel_rfl) (ballT (by kernel_rfl) (by decide) (by decide) h1 h2 h3 h4))).trans ?_
  refine (cpL_cons (u := ug_8) (by kernel_rfl)).trans ?_
  refine (cpL_cons (u := uJ 8 1) (by kernel_rfl)).trans ?_
  refine (cpL_cons (u := uJ 8 2) (by kernel_rfl)).trans ?_
  refine (cpL_cons (u := uJ 8 3) (by kernel_rfl)).trans ?_
  refine (cpL_cons (u := uJ 8 4) (by kernel_rfl)).trans ?_
  refine (cpL_cons (u := uJ 8 5) (by kernel_rfl)).trans ?_
  refine (cpL_cons (u := uJ 8 6) (by kernel_rfl)).trans ?_
  refine (cpL_cons (u := uJ 8 7) (by kernel_rfl)).trans ?_
  rfl
theorem hA_8 (x y : Int) : R_15_6 ((x, y, ((8 : Nat) : Int), (), (), (1 : Int), ()), (((0 : Int), (0 : Int)), (100 : Int), (), ()), [], [], ()) = some (.inl ((x, y, ((8 : Nat) : Int), (), (), ()), (((0 : Int), (0 : Int)), (100 : Int), (), ()), bs_8, [1, 2, 3, 4, 5, 6, 7, 8], ())) := by kernel_rfl
theorem hB_8 (x y : Int) : R_15_11 ((x, y, ((8 : Nat) : Int), (), (), (1 : Int), ()), (((0 : Int), (0 : Int)), (100 : Int), (), ()), bs_8, [1, 2, 3, 4, 5, 6, 7, 8], ()) = some (.inl ((x, y, ((8 : Nat) : Int), (), [1, 2, 3, 4, 5, 6, 7, 8], ()), ((((0 : Int), (0 : Int)), (100 : Int), js_8), ()), ())) := by kernel_rfl
theorem hH_8 : F_41w (((0 : Int), (0 : Int)), (100 : Int), js_8) [1, 2, 3, 4, 5, 6, 7, 8] = some (ts_8, 100, 0, ()) := by kernel_rfl
theorem hr_8 : F_20 ts_8 = some (true, ()) := by kernel_rfl
theorem hg_8 : getB ts_8.2.2 100 = ((100, 3, zeroB, (0, 0, 0), [1, 2, 3, 4, 5, 6, 7, 8]), true) := by kernel_rfl
theorem hs_8 : Small ts_8.2.2 := ⟨by decide, by decide +kernel⟩
theorem ho_8 (X Y : Int) : Small (out_8 X Y) := ⟨Nat.le_of_ble_eq_true rfl, fun t ht => by
  simp only [out_8, ts_8, js_8, grp_8, ug_8, List.cons_append, List.nil_append, List.mem_cons, List.not_mem_nil, or_false] at ht
  rcases ht with rfl | rfl | rfl | rfl | rfl | rfl | rfl | rfl | rfl | rfl | rfl | rfl | rfl | rfl | rfl | rfl | rfl | rfl | rfl | rfl | rfl | rfl | rfl | rfl | rfl | rfl | rfl | rfl | rfl | rfl | rfl | rfl <;> exact Nat.le_of_ble_eq_true rfl⟩
theorem copies_8 (x y : Int) (hx1 : -500 ≤ x) (hx2 : x ≤ 500) (hy1 : -500 ≤ y) (hy2 : y ≤ 500) : F_15 x y ((8 : Nat) : Int) = some (true, ()) :=
  by
  refine copies_of x y 8 hx1 hx2 hy1 hy2 (by decide) (by decide) (hA_8 x y) (hB_8 x y) hH_8 hs_8 hr_8 hg_8 ⟨grp_8, by unfold ts_8; simp, rfl⟩ rfl (by rw [ida_8]; rfl) rfl
    (cop_8 _ _ (by omega) (by omega) (by omega) (by omega)) (by kernel_rfl) rfl (ho_8 _ _) (fun k hk => ?_) (fun k hk h0 => ?_)
  · rcases (show k = 0 ∨ k = 1 ∨ k = 2 ∨ k = 3 ∨ k = 4 ∨ k = 5 ∨ k = 6 ∨ k = 7 by omega) with rfl | rfl | rfl | rfl | rfl | rfl | rfl | rfl <;> kernel_rfl
  · rcases (show k = 1 ∨ k = 2 ∨ k = 3 ∨ k = 4 ∨ k = 5 ∨ k = 6 ∨ k = 7 by omega) with rfl | rfl | rfl | rfl | rfl | rfl | rfl <;> kernel_rfl
end Go.DI.S

/-! KinCopies, plain. -/
set_option linter.unusedVariables false
namespace Go.DI.S
open Go.Proofs
theorem kinCopies (x y n : I.El) (h0 : I.wf x) (h1 : I.wf y) (h2 : I.wf n) : F_15 x y n = some ((true, ()) : Els [.bool]) := by
  have hal : (F_36.bind fun v => some ((v.1, ()) : Els [.bool])) = some (true, ()) := bind_ofV alive36 rfl
  have main : ∀ (x y n : Int), F_15 x y n = some ((true, ()) : Els [.bool]) := by
    intro x y n
    by_cases c1 : x < -500
    · exact yesV (decide_eq_true c1) hal
    by_cases c2 : y < -500
    · exact noV (decide_eq_false c1) (yesV (decide_eq_true c2) hal)
    by_cases c3 : x > 500
    · exact noV (decide_eq_false c1) (noV (decide_eq_false c2) (yesV (decide_eq_true c3) hal))
    by_cases c4 : y > 500
    · exact noV (decide_eq_false c1) (noV (decide_eq_false c2) (noV (decide_eq_false c3) (yesV (decide_eq_true c4) hal)))
    by_cases c5 : n < 2
    · exact noV (decide_eq_false c1) (noV (decide_eq_false c2) (noV (decide_eq_false c3) (noV (decide_eq_false c4) (yesV (decide_eq_true c5) hal))))
    by_cases c6 : n > 8
    · exact noV (decide_eq_false c1) (noV (decide_eq_false c2) (noV (decide_eq_false c3) (noV (decide_eq_false c4) (noV (decide_eq_false c5) (yesV (decide_eq_true c6) hal)))))
    have hx1 : -500 ≤ x := by omega
    have hx2 : x ≤ 500 := by omega
    have hy1 : -500 ≤ y := by omega
    have hy2 : y ≤ 500 := by omega
    rcases (show n = ((2 : Nat) : Int) ∨ n = ((3 : Nat) : Int) ∨ n = ((4 : Nat) : Int) ∨ n = ((5 : Nat) : Int) ∨ n = ((6 : Nat) : Int) ∨ n = ((7 : Nat) : Int) ∨ n = ((8 : Nat) : Int) by omega) with rfl | rfl | rfl | rfl | rfl | rfl | rfl
    · exact copies_2 x y hx1 hx2 hy1 hy2
    · exact copies_3 x y hx1 hx2 hy1 hy2
    · exact copies_4 x y hx1 hx2 hy1 hy2
    · exact copies_5 x y hx1 hx2 hy1 hy2
    · exact copies_6 x y hx1 hx2 hy1 hy2
    · exact copies_7 x y hx1 hx2 hy1 hy2
    · exact copies_8 x y hx1 hx2 hy1 hy2
  exact main x y n
end Go.DI.S

