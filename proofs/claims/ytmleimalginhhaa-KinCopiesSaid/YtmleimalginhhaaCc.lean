import Derived.Test.YtmleimalginhhaaCb
/- KinCopies: closed facts. No conditions. -/
/-! KinCopies: closed facts. -/
set_option linter.unusedVariables false
set_option linter.unusedSimpArgs false
set_option maxRecDepth 100000
namespace Go.DI.S
open Go.Proofs
def bs_2 : List Thing := [ball 1, ball 2]
def js_2 : List Thing := [ball 1, ball 2, jnt 1]
def grp_2 : Thing := (100, 3, zeroB, (0, 0, 0), [1, 2])
def ts_2 : Scene := ((0, 0), 101, js_2 ++ [grp_2])
def ug_2 : Thing := (103, 3, zeroB, (0, 0, 0), [101, 102])
def out_2 (X Y : Int) : List Thing := ts_2.2.2 ++ [uB 1 X Y, uB 2 X Y, ug_2, uJ 2 1]
theorem ida_2 : ida ts_2.2.2 100 = [1, 2, 100, 51] := by kernel_rfl
theorem cop_2 (X Y : Int) (h1 : -2147483648000 ≤ X) (h2 : X ≤ 2147483648000) (h3 : -2147483648000 ≤ Y) (h4 : Y ≤ 2147483648000) : cpL (cpM ts_2 100) (X, Y) ts_2.2.2 (ida ts_2.2.2 100) ts_2.2.2 = .inl (out_2 X Y) := by
  rw [ida_2]
  refine (cpL_cons (getT (t := ball 1) (u := uB 1 X Y) (by kernel_rfl) (ballT (by kernel_rfl) (by decide) (by decide) h1 h2 h3 h4))).trans ?_
  refine (cpL_cons (getT (t := ball 2) (u := uB 2 X Y) (by kernel_rfl) (ballT (by kernel_rfl) (by decide) (by decide) h1 h2 h3 h4))).trans ?_
  refine (cpL_cons (u := ug_2) (by kernel_rfl)).trans ?_
  refine (cpL_cons (u := uJ 2 1) (by kernel_rfl)).trans ?_
  rfl
theorem hA_2 (x y : Int) : R_15_6 ((x, y, ((2 : Nat) : Int), (), (), (1 : Int), ()), (((0 : Int), (0 : Int)), (100 : Int), (), ()), [], [], ()) = some (.inl ((x, y, ((2 : Nat) : Int), (), (), ()), (((0 : Int), (0 : Int)), (100 : Int), (), ()), bs_2, [1, 2], ())) := by kernel_rfl
theorem hB_2 (x y : Int) : R_15_11 ((x, y, ((2 : Nat) : Int), (), (), (1 : Int), ()), (((0 : Int), (0 : Int)), (100 : Int), (), ()), bs_2, [1, 2], ()) = some (.inl ((x, y, ((2 : Nat) : Int), (), [1, 2], ()), ((((0 : Int), (0 : Int)), (100 : Int), js_2), ()), ())) := by kernel_rfl
theorem hH_2 : F_41w (((0 : Int), (0 : Int)), (100 : Int), js_2) [1, 2] = some (ts_2, 100, 0, ()) := by kernel_rfl
theorem hr_2 : F_20 ts_2 = some (true, ()) := by kernel_rfl
theorem hg_2 : getB ts_2.2.2 100 = ((100, 3, zeroB, (0, 0, 0), [1, 2]), true) := by kernel_rfl
theorem hs_2 : Small ts_2.2.2 := ⟨by decide, by decide +kernel⟩
theorem ho_2 (X Y : Int) : Small (out_2 X Y) := ⟨Nat.le_of_ble_eq_true rfl, fun t ht => by
  simp only [out_2, ts_2, js_2, grp_2, ug_2, List.cons_append, List.nil_append, List.mem_cons, List.not_mem_nil, or_false] at ht
  rcases ht with rfl | rfl | rfl | rfl | rfl | rfl | rfl | rfl <;> exact Nat.le_of_ble_eq_true rfl⟩
theorem copies_2 (x y : Int) (hx1 : -500 ≤ x) (hx2 : x ≤ 500) (hy1 : -500 ≤ y) (hy2 : y ≤ 500) : F_15 x y ((2 : Nat) : Int) = some (true, ()) :=
  by
  refine copies_of x y 2 hx1 hx2 hy1 hy2 (by decide) (by decide) (hA_2 x y) (hB_2 x y) hH_2 hs_2 hr_2 hg_2 ⟨grp_2, by unfold ts_2; simp, rfl⟩ rfl (by rw [ida_2]; rfl) rfl
    (cop_2 _ _ (by omega) (by omega) (by omega) (by omega)) (by kernel_rfl) rfl (ho_2 _ _) (fun k hk => ?_) (fun k hk h0 => ?_)
  · rcases (show k = 0 ∨ k = 1 by omega) with rfl | rfl <;> kernel_rfl
  · obtain rfl : k = 1 := by omega
    kernel_rfl
end Go.DI.S

/-! KinCopies: closed facts. -/
set_option linter.unusedVariables false
set_option linter.unusedSimpArgs false
set_option maxRecDepth 100000
namespace Go.DI.S
open Go.Proofs
def bs_3 : List Thing := [ball 1, ball 2, ball 3]
def js_3 : List Thing := [ball 1, ball 2, ball 3, jnt 1, jnt 2]
def grp_3 : Thing := (100, 3, zeroB, (0, 0, 0), [1, 2, 3])
def ts_3 : Scene := ((0, 0), 101, js_3 ++ [grp_3])
def ug_3 : Thing := (104, 3, zeroB, (0, 0, 0), [101, 102, 103])
def out_3 (X Y : Int) : List Thing := ts_3.2.2 ++ [uB 1 X Y, uB 2 X Y, uB 3 X Y, ug_3, uJ 3 1, uJ 3 2]
theorem ida_3 : ida ts_3.2.2 100 = [1, 2, 3, 100, 51, 52] := by kernel_rfl
theorem cop_3 (X Y : Int) (h1 : -2147483648000 ≤ X) (h2 : X ≤ 2147483648000) (h3 : -2147483648000 ≤ Y) (h4 : Y ≤ 2147483648000) : cpL (cpM ts_3 100) (X, Y) ts_3.2.2 (ida ts_3.2.2 100) ts_3.2.2 = .inl (out_3 X Y) := by
  rw [ida_3]
  refine (cpL_cons (getT (t := ball 1) (u := uB 1 X Y) (by kernel_rfl) (ballT (by kernel_rfl) (by decide) (by decide) h1 h2 h3 h4))).trans ?_
  refine (cpL_cons (getT (t := ball 2) (u := uB 2 X Y) (by kernel_rfl) (ballT (by kernel_rfl) (by decide) (by decide) h1 h2 h3 h4))).trans ?_
  refine (cpL_cons (getT (t := ball 3) (u := uB 3 X Y) (by kernel_rfl) (ballT (by kernel_rfl) (by decide) (by decide) h1 h2 h3 h4))).trans ?_
  refine (cpL_cons (u := ug_3) (by kernel_rfl)).trans ?_
  refine (cpL_cons (u := uJ 3 1) (by kernel_rfl)).trans ?_
  refine (cpL_cons (u := uJ 3 2) (by kernel_rfl)).trans ?_
  rfl
theorem hA_3 (x y : Int) : R_15_6 ((x, y, ((3 : Nat) : Int), (), (), (1 : Int), ()), (((0 : Int), (0 : Int)), (100 : Int), (), ()), [], [], ()) = some (.inl ((x, y, ((3 : Nat) : Int), (), (), ()), (((0 : Int), (0 : Int)), (100 : Int), (), ()), bs_3, [1, 2, 3], ())) := by kernel_rfl
theorem hB_3 (x y : Int) : R_15_11 ((x, y, ((3 : Nat) : Int), (), (), (1 : Int), ()), (((0 : Int), (0 : Int)), (100 : Int), (), ()), bs_3, [1, 2, 3], ()) = some (.inl ((x, y, ((3 : Nat) : Int), (), [1, 2, 3], ()), ((((0 : Int), (0 : Int)), (100 : Int), js_3), ()), ())) := by kernel_rfl
theorem hH_3 : F_41w (((0 : Int), (0 : Int)), (100 : Int), js_3) [1, 2, 3] = some (ts_3, 100, 0, ()) := by kernel_rfl
theorem hr_3 : F_20 ts_3 = some (true, ()) := by kernel_rfl
theorem hg_3 : getB ts_3.2.2 100 = ((100, 3, zeroB, (0, 0, 0), [1, 2, 3]), true) := by kernel_rfl
theorem hs_3 : Small ts_3.2.2 := ⟨by decide, by decide +kernel⟩
theorem ho_3 (X Y : Int) : Small (out_3 X Y) := ⟨Nat.le_of_ble_eq_true rfl, fun t ht => by
  simp only [out_3, ts_3, js_3, grp_3, ug_3, List.cons_append, List.nil_append, List.mem_cons, List.not_mem_nil, or_false] at ht
  rcases ht with rfl | rfl | rfl | rfl | rfl | rfl | rfl | rfl | rfl | rfl | rfl | rfl <;> exact Nat.le_of_ble_eq_true rfl⟩
theorem copies_3 (x y : Int) (hx1 : -500 ≤ x) (hx2 : x ≤ 500) (hy1 : -500 ≤ y) (hy2 : y ≤ 500) : F_15 x y ((3 : Nat) : Int) = some (true, ()) :=
  by
  refine copies_of x y 3 hx1 hx2 hy1 hy2 (by decide) (by decide) (hA_3 x y) (hB_3 x y) hH_3 hs_3 hr_3 hg_3 ⟨grp_3, by unfold ts_3; simp, rfl⟩ rfl (by rw [ida_3]; rfl) rfl
    (cop_3 _ _ (by omega) (by omega) (by omega) (by omega)) (by kernel_rfl) rfl (ho_3 _ _) (fun k hk => ?_) (fun k hk h0 => ?_)
  · rcases (show k = 0 ∨ k = 1 ∨ k = 2 by omega) with rfl | rfl | rfl <;> kernel_rfl
  · rcases (show k = 1 ∨ k = 2 by omega) with rfl | rfl <;> kernel_rfl
def bs_4 : List Thing := [ball 1, ball 2, ball 3, ball 4]
def js_4 : List Thing := [ball 1, ball 2, ball 3, ball 4, jnt 1, jnt 2, jnt 3]
def grp_4 : Thing := (100, 3, zeroB, (0, 0, 0), [1, 2, 3, 4])
def ts_4 : Scene := ((0, 0), 101, js_4 ++ [grp_4])
def ug_4 : Thing := (105, 3, zeroB, (0, 0, 0), [101, 102, 103, 104])
def out_4 (X Y : Int) : List Thing := ts_4.2.2 ++ [uB 1 X Y, uB 2 X Y, uB 3 X Y, uB 4 X Y, ug_4, uJ 4 1, uJ 4 2, uJ 4 3]
theorem ida_4 : ida ts_4.2.2 100 = [1, 2, 3, 4, 100, 51, 52, 53] := by kernel_rfl
theorem cop_4 (X Y : Int) (h1 : -2147483648000 ≤ X) (h2 : X ≤ 2147483648000) (h3 : -2147483648000 ≤ Y) (h4 : Y ≤ 2147483648000) : cpL (cpM ts_4 100) (X, Y) ts_4.2.2 (ida ts_4.2.2 100) ts_4.2.2 = .inl (out_4 X Y) := by
  rw [ida_4]
  refine (cpL_cons (getT (t := ball 1) (u := uB 1 X Y) (by kernel_rfl) (ballT (by kernel_rfl) (by decide) (by decide) h1 h2 h3 h4))).trans ?_
  refine (cpL_cons (getT (t := ball 2) (u := uB 2 X Y) (by kernel_rfl) (ballT (by kernel_rfl) (by decide) (by decide) h1 h2 h3 h4))).trans ?_
  refine (cpL_cons (getT (t := ball 3) (u := uB 3 X Y) (by kernel_rfl) (ballT (by kernel_rfl) (by decide) (by decide) h1 h2 h3 h4))).trans ?_
  refine (cpL_cons (getT (t := ball 4) (u := uB 4 X Y) (by kernel_rfl) (ballT (by kernel_rfl) (by decide) (by decide) h1 h2 h3 h4))).trans ?_
  refine (cpL_cons (u := ug_4) (by kernel_rfl)).trans ?_
  refine (cpL_cons (u := uJ 4 1) (by kernel_rfl)).trans ?_
  refine (cpL_cons (u := uJ 4 2) (by kernel_rfl)).trans ?_
  refine (cpL_cons (u := uJ 4 3) (by kernel_rfl)).trans ?_
  rfl
theorem hA_4 (x y : Int) : R_15_6 ((x, y, ((4 : Nat) : Int), (), (), (1 : Int), ()), (((0 : Int), (0 : Int)), (100 : Int), (), ()), [], [], ()) = some (.inl ((x, y, ((4 : Nat) : Int), (), (), ()), (((0 : Int), (0 : Int)), (100 : Int), (), ()), bs_4, [1, 2, 3, 4], ())) := by kernel_rfl
theorem hB_4 (x y : Int) : R_15_11 ((x, y, ((4 : Nat) : Int), (), (), (1 : Int), ()), (((0 : Int), (0 : Int)), (100 : Int), (), ()), bs_4, [1, 2, 3, 4], ()) = some (.inl ((x, y, ((4 : Nat) : Int), (), [1, 2, 3, 4], ()), ((((0 : Int), (0 : Int)), (100 : Int), js_4), ()), ())) := by kernel_rfl
theorem hH_4 : F_41w (((0 : Int), (0 : Int)), (100 : Int), js_4) [1, 2, 3, 4] = some (ts_4, 100, 0, ()) := by kernel_rfl
theorem hr_4 : F_20 ts_4 = some (true, ()) := by kernel_rfl
theorem hg_4 : getB ts_4.2.2 100 = ((100, 3, zeroB, (0, 0, 0), [1, 2, 3, 4]), true) := by kernel_rfl
theorem hs_4 : Small ts_4.2.2 := ⟨by decide, by decide +kernel⟩
theorem ho_4 (X Y : Int) : Small (out_4 X Y) := ⟨Nat.le_of_ble_eq_true rfl, fun t ht => by
  simp only [out_4, ts_4, js_4, grp_4, ug_4, List.cons_append, List.nil_append, List.mem_cons, List.not_mem_nil, or_false] at ht
  rcases ht with rfl | rfl | rfl | rfl | rfl | rfl | rfl | rfl | rfl | rfl | rfl | rfl | rfl | rfl | rfl | rfl <;> exact Nat.le_of_ble_eq_true rfl⟩
theorem copies_4 (x y : Int) (hx1 : -500 ≤ x) (hx2 : x ≤ 500) (hy1 : -500 ≤ y) (hy2 : y ≤ 500) : F_15 x y ((4 : Nat) : Int) = some (true, ()) :=
  by
  refine copies_of x y 4 hx1 hx2 hy1 hy2 (by decide) (by decide) (hA_4 x y) (hB_4 x y) hH_4 hs_4 hr_4 hg_4 ⟨grp_4, by unfold ts_4; simp, rfl⟩ rfl (by rw [ida_4]; rfl) rfl
    (cop_4 _ _ (by omega) (by omega) (by omega) (by omega)) (by kernel_rfl) rfl (ho_4 _ _) (fun k hk => ?_) (fun k hk h0 => ?_)
  · rcases (show k = 0 ∨ k = 1 ∨ k = 2 ∨ k = 3 by omega) with rfl | rfl | rfl | rfl <;> kernel_rfl
  · rcases (show k = 1 ∨ k = 2 ∨ k = 3 by omega) with rfl | rfl | rfl <;> kernel_rfl
def bs_5 : List Thing := [ball 1, ball 2, ball 3, ball 4, ball 5]
def js_5 : List Thing := [ball 1, ball 2, ball 3, ball 4, ball 5, jnt 1, jnt 2, jnt 3, jnt 4]
def grp_5 : Thing := (100, 3, zeroB, (0, 0, 0), [1, 2, 3, 4, 5])
def ts_5 : Scene := ((0, 0), 101, js_5 ++ [grp_5])
def ug_5 : Thing := (106, 3, zeroB, (0, 0, 0), [101, 102, 103, 104, 105])
def out_5 (X Y : Int) : List Thing := ts_5.2.2 ++ [uB 1 X Y, uB 2 X Y, uB 3 X Y, uB 4 X Y, uB 5 X Y, ug_5, uJ 5 1, uJ 5 2, uJ 5 3, uJ 5 4]
theorem ida_5 : ida ts_5.2.2 100 = [1, 2, 3, 4, 5, 100, 51, 52, 53, 54] := by kernel_rfl
theorem cop_5 (X Y : Int) (h1 : -2147483648000 ≤ X) (h2 : X ≤ 2147483648000) (h3 : -2147483648000 ≤ Y) (h4 : Y ≤ 2147483648000) : cpL (cpM ts_5 100) (X, Y) ts_5.2.2 (ida ts_5.2.2 100) ts_5.2.2 = .inl (out_5 X Y) := by
  rw [ida_5]
  refine (cpL_cons (getT (t := ball 1) (u := uB 1 X Y) (by kernel_rfl) (ballT (by kernel_rfl) (by decide) (by decide) h1 h2 h3 h4))).trans ?_
  refine (cpL_cons (getT (t := ball 2) (u := uB 2 X Y) (by kernel_rfl) (ballT (by kernel_rfl) (by decide) (by decide) h1 h2 h3 h4))).trans ?_
  refine (cpL_cons (getT (t := ball 3) (u := uB 3 X Y) (by kernel_rfl) (ballT (by kernel_rfl) (by decide) (by decide) h1 h2 h3 h4))).trans ?_
  refine (cpL_cons (getT (t := ball 4) (u := uB 4 X Y) (by kernel_rfl) (ballT (by kernel_rfl) (by decide) (by decide) h1 h2 h3 h4))).trans ?_
  refine (cpL_cons (getT (t := ball 5) (u := uB 5 X Y) (by kernel_rfl) (ballT (by kernel_rfl) (by decide) (by decide) h1 h2 h3 h4))).trans ?_
  refine (cpL_cons (u := ug_5) (by kernel_rfl)).trans ?_
  refine (cpL_cons (u := uJ 5 1) (by kernel_rfl)).trans ?_
  refine (cpL_cons (u := uJ 5 2) (by kernel_rfl)).trans ?_
  refine (cpL_cons (u := uJ 5 3) (by kernel_rfl)).trans ?_
  refine (cpL_cons (u := uJ 5 4) (by kernel_rfl)).trans ?_
  rfl
theorem hA_5 (x y : Int) : R_15_6 ((x, y, ((5 : Nat) : Int), (), (), (1 : Int), ()), (((0 : Int), (0 : Int)), (100 : Int), (), ()), [], [], ()) = some (.inl ((x, y, ((5 : Nat) : Int), (), (), ()), (((0 : Int), (0 : Int)), (100 : Int), (), ()), bs_5, [1, 2, 3, 4, 5], ())) := by kernel_rfl
theorem hB_5 (x y : Int) : R_15_11 ((x, y, ((5 : Nat) : Int), (), (), (1 : Int), ()), (((0 : Int), (0 : Int)), (100 : Int), (), ()), bs_5, [1, 2, 3, 4, 5], ()) = some (.inl ((x, y, ((5 : Nat) : Int), (), [1, 2, 3, 4, 5], ()), ((((0 : Int), (0 : Int)), (100 : Int), js_5), ()), ())) := by kernel_rfl
theorem hH_5 : F_41w (((0 : Int), (0 : Int)), (100 : Int), js_5) [1, 2, 3, 4, 5] = some (ts_5, 100, 0, ()) := by kernel_rfl
theorem hr_5 : F_20 ts_5 = some (true, ()) := by kernel_rfl
theorem hg_5 : getB ts_5.2.2 100 = ((100, 3, zeroB, (0, 0, 0), [1, 2, 3, 4, 5]), true) := by kernel_rfl
theorem hs_5 : Small ts_5.2.2 := ⟨by decide, by decide +kernel⟩
theorem ho_5 (X Y : Int) : Small (out_5 X Y) := ⟨Nat.le_of_ble_eq_true rfl, fun t ht => by
  simp only [out_5, ts_5, js_5, grp_5, ug_5, List.cons_append, List.nil_append, List.mem_cons, List.not_mem_nil, or_false] at ht
  rcases ht with rfl | rfl | rfl | rfl | rfl | rfl | rfl | rfl | rfl | rfl | rfl | rfl | rfl | rfl | rfl | rfl | rfl | rfl | rfl | rfl <;> exact Nat.le_of_ble_eq_true rfl⟩
theorem copies_5 (x y : Int) (hx1 : -500 ≤ x) (hx2 : x ≤ 500) (hy1 : -500 ≤ y) (hy2 : y ≤ 500) : F_15 x y ((5 : Nat) : Int) = some (true, ()) :=
  by
  refine copies_of x y 5 hx1 hx2 hy1 hy2 (by decide) (by decide) (hA_5 x y) (hB_5 x y) hH_5 hs_5 hr_5 hg_5 ⟨grp_5, by unfold ts_5; simp, rfl⟩ rfl (by rw [ida_5]; rfl) rfl
    (cop_5 _ _ (by omega) (by omega) (by omega) (by omega)) (by kernel_rfl) rfl (ho_5 _ _) (fun k hk => ?_) (fun k hk h0 => ?_)
  · rcases (show k = 0 ∨ k = 1 ∨ k = 2 ∨ k = 3 ∨ k = 4 by omega) with rfl | rfl | rfl | rfl | rfl <;> kernel_rfl
  · rcases (show k = 1 ∨ k = 2 ∨ k = 3 ∨ k = 4 by omega) with rfl | rfl | rfl | rfl <;> kernel_rfl
end Go.DI.S

/-! KinCopies: closed facts. -/
set_option linter.unusedVariables false
set_option linter.unusedSimpArgs false
set_option maxRecDepth 100000
namespace Go.DI.S
open Go.Proofs
def bs_6 : List Thing := [ball 1, ball 2, ball 3, ball 4, ball 5, ball 6]
def js_6 : List Thing := [ball 1, ball 2, ball 3, ball 4, ball 5, ball 6, jnt 1, jnt 2, jnt 3, jnt 4, jnt 5]
def grp_6 : Thing := (100, 3, zeroB, (0, 0, 0), [1, 2, 3, 4, 5, 6])
def ts_6 : Scene := ((0, 0), 101, js_6 ++ [grp_6])
def ug_6 : Thing := (107, 3, zeroB, (0, 0, 0), [101, 102, 103, 104, 105, 106])
def out_6 (X Y : Int) : List Thing := ts_6.2.2 ++ [uB 1 X Y, uB 2 X Y, uB 3 X Y, uB 4 X Y, uB 5 X Y, uB 6 X Y, ug_6, uJ 6 1, uJ 6 2, uJ 6 3, uJ 6 4, uJ 6 5]
theorem ida_6 : ida ts_6.2.2 100 = [1, 2, 3, 4, 5, 6, 100, 51, 52, 53, 54, 55] := by kernel_rfl
theorem cop_6 (X Y : Int) (h1 : -2147483648000 ≤ X) (h2 : X ≤ 2147483648000) (h3 : -2147483648000 ≤ Y) (h4 : Y ≤ 2147483648000) : cpL (cpM ts_6 100) (X, Y) ts_6.2.2 (ida ts_6.2.2 100) ts_6.2.2 = .inl (out_6 X Y) := by
  rw [ida_6]
  refine (cpL_cons (getT (t := ball 1) (u := uB 1 X Y) (by kernel_rfl) (ballT (by kernel_rfl) (by decide) (by decide) h1 h2 h3 h4))).trans ?_
  refine (cpL_cons (getT (t := ball 2) (u := uB 2 X Y) (by kernel_rfl) (ballT (by kernel_rfl) (by decide) (by decide) h1 h2 h3 h4))).trans ?_
  refine (cpL_cons (getT (t := ball 3) (u := uB 3 X Y) (by kernel_rfl) (ballT (by kernel_rfl) (by decide) (by decide) h1 h2 h3 h4))).trans ?_
  refine (cpL_cons (getT (t := ball 4) (u := uB 4 X Y) (by kernel_rfl) (ballT (by kernel_rfl) (by decide) (by decide) h1 h2 h3 h4))).trans ?_
  refine (cpL_cons (getT (t := ball 5) (u := uB 5 X Y) (by kernel_rfl) (ballT (by kernel_rfl) (by decide) (by decide) h1 h2 h3 h4))).trans ?_
  refine (cpL_cons (getT (t := ball 6) (u := uB 6 X Y) (by kernel_rfl) (ballT (by kernel_rfl) (by decide) (by decide) h1 h2 h3 h4))).trans ?_
  refine (cpL_cons (u := ug_6) (by kernel_rfl)).trans ?_
  refine (cpL_cons (u := uJ 6 1) (by kernel_rfl)).trans ?_
  refine (cpL_cons (u := uJ 6 2) (by kernel_rfl)).trans ?_
  refine (cpL_cons (u := uJ 6 3) (by kernel_rfl)).trans ?_
  refine (cpL_cons (u := uJ 6 4) (by kernel_rfl)).trans ?_
  refine (cpL_cons (u := uJ 6 5) (by kernel_rfl)).trans ?_
  rfl
theorem hA_6 (x y : Int) : R_15_6 ((x, y, ((6 : Nat) : Int), (), (), (1 : Int), ()), (((0 : Int), (0 : Int)), (100 : Int), (), ()), [], [], ()) = some (.inl ((x, y, ((6 : Nat) : Int), (), (), ()), (((0 : Int), (0 : Int)), (100 : Int), (), ()), bs_6, [1, 2, 3, 4, 5, 6], ())) := by kernel_rfl
theorem hB_6 (x y : Int) : R_15_11 ((x, y, ((6 : Nat) : Int), (), (), (1 : Int), ()), (((0 : Int), (0 : Int)), (100 : Int), (), ()), bs_6, [1, 2, 3, 4, 5, 6], ()) = some (.inl ((x, y, ((6 : Nat) : Int), (), [1, 2, 3, 4, 5, 6], ()), ((((0 : Int), (0 : Int)), (100 : Int), js_6), ()), ())) := by kernel_rfl
theorem hH_6 : F_41w (((0 : Int), (0 : Int)), (100 : Int), js_6) [1, 2, 3, 4, 5, 6] = some (ts_6, 100, 0, ()) := by kernel_rfl
theorem hr_6 : F_20 ts_6 = some (true, ()) := by kernel_rfl
theorem hg_6 : getB ts_6.2.2 100 = ((100, 3, zeroB, (0, 0, 0), [1, 2, 3, 4, 5, 6]), true) := by kernel_rfl
theorem hs_6 : Small ts_6.2.2 := ⟨by decide, by decide +kernel⟩
theorem ho_6 (X Y : Int) : Small (out_6 X Y) := ⟨Nat.le_of_ble_eq_true rfl, fun t ht => by
  simp only [out_6, ts_6, js_6, grp_6, ug_6, List.cons_append, List.nil_append, List.mem_cons, List.not_mem_nil, or_false] at ht
  rcases ht with rfl | rfl | rfl | rfl | rfl | rfl | rfl | rfl | rfl | rfl | rfl | rfl | rfl | rfl | rfl | rfl | rfl | rfl | rfl | rfl | rfl | rfl | rfl | rfl <;> exact Nat.le_of_ble_eq_true rfl⟩
theorem copies_6 (x y : Int) (hx1 : -500 ≤ x) (hx2 : x ≤ 500) (hy1 : -500 ≤ y) (hy2 : y ≤ 500) : F_15 x y ((6 : Nat) : Int) = some (true, ()) :=
  by
  refine copies_of x y 6 hx1 hx2 hy1 hy2 (by decide) (by decide) (hA_6 x y) (hB_6 x y) hH_6 hs_6 hr_6 hg_6 ⟨grp_6, by unfold ts_6; simp, rfl⟩ rfl (by rw [ida_6]; rfl) rfl
    (cop_6 _ _ (by omega) (by omega) (by omega) (by omega)) (by kernel_rfl) rfl (ho_6 _ _) (fun k hk => ?_) (fun k hk h0 => ?_)
  · rcases (show k = 0 ∨ k = 1 ∨ k = 2 ∨ k = 3 ∨ k = 4 ∨ k = 5 by omega) with rfl | rfl | rfl | rfl | rfl | rfl <;> kernel_rfl
  · rcases (show k = 1 ∨ k = 2 ∨ k = 3 ∨ k = 4 ∨ k = 5 by omega) with rfl | rfl | rfl | rfl | rfl <;> kernel_rfl
end Go.DI.S

/-! KinCopies: closed facts. -/
set_option linter.unusedVariables false
set_option linter.unusedSimpArgs false
set_option maxRecDepth 100000
namespace Go.DI.S
open Go.Proofs
def bs_7 : List Thing := [ball 1, ball 2, ball 3, ball 4, ball 5, ball 6, ball 7]
def js_7 : List Thing := [ball 1, ball 2, ball 3, ball 4, ball 5, ball 6, ball 7, jnt 1, jnt 2, jnt 3, jnt 4, jnt 5, jnt 6]
def grp_7 : Thing := (100, 3, zeroB, (0, 0, 0), [1, 2, 3, 4, 5, 6, 7])
def ts_7 : Scene := ((0, 0), 101, js_7 ++ [grp_7])
def ug_7 : Thing := (108, 3, zeroB, (0, 0, 0), [101, 102, 103, 104, 105, 106, 107])
def out_7 (X Y : Int) : List Thing := ts_7.2.2 ++ [uB 1 X Y, uB 2 X Y, uB 3 X Y, uB 4 X Y, uB 5 X Y, uB 6 X Y, uB 7 X Y, ug_7, uJ 7 1, uJ 7 2, uJ 7 3, uJ 7 4, uJ 7 5, uJ 7 6]
theorem ida_7 : ida ts_7.2.2 100 = [1, 2, 3, 4, 5, 6, 7, 100, 51, 52, 53, 54, 55, 56] := by kernel_rfl
theorem cop_7 (X Y : Int) (h1 : -2147483648000 ≤ X) (h2 : X ≤ 2147483648000) (h3 : -2147483648000 ≤ Y) (h4 : Y ≤ 2147483648000) : cpL (cpM ts_7 100) (X, Y) ts_7.2.2 (ida ts_7.2.2 100) ts_7.2.2 = .inl (out_7 X Y) := by
  rw [ida_7]
  refine (cpL_cons (getT (t := ball 1) (u := uB 1 X Y) (by kernel_rfl) (ballT (by kernel_rfl) (by decide) (by decide) h1 h2 h3 h4))).trans ?_
  refine (cpL_cons (getT (t := ball 2) (u := uB 2 X Y) (by kernel_rfl) (ballT (by kernel_rfl) (by decide) (by decide) h1 h2 h3 h4))).trans ?_
  refine (cpL_cons (getT (t := ball 3) (u := uB 3 X Y) (by kernel_rfl) (ballT (by kernel_rfl) (by decide) (by decide) h1 h2 h3 h4))).trans ?_
  refine (cpL_cons (getT (t := ball 4) (u := uB 4 X Y) (by kernel_rfl) (ballT (by kernel_rfl) (by decide) (by decide) h1 h2 h3 h4))).trans ?_
  refine (cpL_cons (getT (t := ball 5) (u := uB 5 X Y) (by kernel_rfl) (ballT (by kernel_rfl) (by decide) (by decide) h1 h2 h3 h4))).trans ?_
  refine (cpL_cons (getT (t := ball 6) (u := uB 6 X Y) (by kernel_rfl) (ballT (by kernel_rfl) (by decide) (by decide) h1 h2 h3 h4))).trans ?_
  refine (cpL_cons (getT (t := ball 7) (u := uB 7 X Y) (by kernel_rfl) (ballT (by kernel_rfl) (by decide) (by decide) h1 h2 h3 h4))).trans ?_
  refine (cpL_cons (u := ug_7) (by kernel_rfl)).trans ?_
  refine (cpL_cons (u := uJ 7 1) (by kernel_rfl)).trans ?_
  refine (cpL_cons (u := uJ 7 2) (by kernel_rfl)).trans ?_
  refine (cpL_cons (u := uJ 7 3) (by kernel_rfl)).trans ?_
  refine (cpL_cons (u := uJ 7 4) (by kernel_rfl)).trans ?_
  refine (cpL_cons (u := uJ 7 5) (by kernel_rfl)).trans ?_
  refine (cpL_cons (u := uJ 7 6) (by kernel_rfl)).trans ?_
  rfl
theorem hA_7 (x y : Int) : R_15_6 ((x, y, ((7 : Nat) : Int), (), (), (1 : Int), ()), (((0 : Int), (0 : Int)), (100 : Int), (), ()), [], [], ()) = some (.inl ((x, y, ((7 : Nat) : Int), (), (), ()), (((0 : Int), (0 : Int)), (100 : Int), (), ()), bs_7, [1, 2, 3, 4, 5, 6, 7], ())) := by kernel_rfl
theorem hB_7 (x y : Int) : R_15_11 ((x, y, ((7 : Nat) : Int), (), (), (1 : Int), ()), (((0 : Int), (0 : Int)), (100 : Int), (), ()), bs_7, [1, 2, 3, 4, 5, 6, 7], ()) = some (.inl ((x, y, ((7 : Nat) : Int), (), [1, 2, 3, 4, 5, 6, 7], ()), ((((0 : Int), (0 : Int)), (100 : Int), js_7), ()), ())) := by kernel_rfl
theorem hH_7 : F_41w (((0 : Int), (0 : Int)), (100 : Int), js_7) [1, 2, 3, 4, 5, 6, 7] = some (ts_7, 100, 0, ()) := by kernel_rfl
theorem hr_7 : F_20 ts_7 = some (true, ()) := by kernel_rfl
theorem hg_7 : getB ts_7.2.2 100 = ((100, 3, zeroB, (0, 0, 0), [1, 2, 3, 4, 5, 6, 7]), true) := by kernel_rfl
theorem hs_7 : Small ts_7.2.2 := ⟨by decide, by decide +kernel⟩
theorem ho_7 (X Y : Int) : Small (out_7 X Y) := ⟨Nat.le_of_ble_eq_true rfl, fun t ht => by
  simp only [out_7, ts_7, js_7, grp_7, ug_7, List.cons_append, List.nil_append, List.mem_cons, List.not_mem_nil, or_false] at ht
  rcases ht with rfl | rfl | rfl | rfl | rfl | rfl | rfl | rfl | rfl | rfl | rfl | rfl | rfl | rfl | rfl | rfl | rfl | rfl | rfl | rfl | rfl | rfl | rfl | rfl | rfl | rfl | rfl | rfl <;> exact Nat.le_of_ble_eq_true rfl⟩
theorem copies_7 (x y : Int) (hx1 : -500 ≤ x) (hx2 : x ≤ 500) (hy1 : -500 ≤ y) (hy2 : y ≤ 500) : F_15 x y ((7 : Nat) : Int) = some (true, ()) :=
  by
  refine copies_of x y 7 hx1 hx2 hy1 hy2 (by decide) (by decide) (hA_7 x y) (hB_7 x y) hH_7 hs_7 hr_7 hg_7 ⟨grp_7, by unfold ts_7; simp, rfl⟩ rfl (by rw [ida_7]; rfl) rfl
    (cop_7 _ _ (by omega) (by omega) (by omega) (by omega)) (by kernel_rfl) rfl (ho_7 _ _) (fun k hk => ?_) (fun k hk h0 => ?_)
  · rcases (show k = 0 ∨ k = 1 ∨ k = 2 ∨ k = 3 ∨ k = 4 ∨ k = 5 ∨ k = 6 by omega) with rfl | rfl | rfl | rfl | rfl | rfl | rfl <;> kernel_rfl
  · rcases (show k = 1 ∨ k = 2 ∨ k = 3 ∨ k = 4 ∨ k = 5 ∨ k = 6 by omega) with rfl | rfl | rfl | rfl | rfl | rfl <;> kernel_rfl
end Go.DI.S

