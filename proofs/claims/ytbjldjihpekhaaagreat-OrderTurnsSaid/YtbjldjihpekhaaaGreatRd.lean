import Derived.Test.YtbjldjihpekhaaaGreatRb
import Derived.Test.YtbjldjihpekhaaaGreatRc
import Derived.Test.YtbjldjihpekhaaaGreatQg
import Derived.Test.YtbjldjihpekhaaaGreatUa
import Derived.Test.YtbjldjihpekhaaaGreatOa
/- OrderTurns, plain. No conditions. -/
/-! Products with One, and with nothing. -/
set_option linter.unusedVariables false
namespace Go.DI.S
open Go.Proofs
theorem mulN (n : Int) (h1 : -9000 ≤ n) (h2 : n ≤ 9000) : F_fmul (n * 4294967296) 4294967296 = some ((n * 4294967296, 0, ()) : Els [I, I]) ∧ F_fmul (n * 4294967296) 0 = some ((0, 0, ()) : Els [I, I]) := by
  apply mOk_eq
  by_cases cmm9000 : n < -8500
  · exact mRow_at mm9000 n (by omega) (by omega)
  by_cases cmm8500 : n < -8000
  · exact mRow_at mm8500 n (by omega) (by omega)
  by_cases cmm8000 : n < -7500
  · exact mRow_at mm8000 n (by omega) (by omega)
  by_cases cmm7500 : n < -7000
  · exact mRow_at mm7500 n (by omega) (by omega)
  by_cases cmm7000 : n < -6500
  · exact mRow_at mm7000 n (by omega) (by omega)
  by_cases cmm6500 : n < -6000
  · exact mRow_at mm6500 n (by omega) (by omega)
  by_cases cmm6000 : n < -5500
  · exact mRow_at mm6000 n (by omega) (by omega)
  by_cases cmm5500 : n < -5000
  · exact mRow_at mm5500 n (by omega) (by omega)
  by_cases cmm5000 : n < -4500
  · exact mRow_at mm5000 n (by omega) (by omega)
  by_cases cmm4500 : n < -4000
  · exact mRow_at mm4500 n (by omega) (by omega)
  by_cases cmm4000 : n < -3500
  · exact mRow_at mm4000 n (by omega) (by omega)
  by_cases cmm3500 : n < -3000
  · exact mRow_at mm3500 n (by omega) (by omega)
  by_cases cmm3000 : n < -2500
  · exact mRow_at mm3000 n (by omega) (by omega)
  by_cases cmm2500 : n < -2000
  · exact mRow_at mm2500 n (by omega) (by omega)
  by_cases cmm2000 : n < -1500
  · exact mRow_at mm2000 n (by omega) (by omega)
  by_cases cmm1500 : n < -1000
  · exact mRow_at mm1500 n (by omega) (by omega)
  by_cases cmm1000 : n < -500
  · exact mRow_at mm1000 n (by omega) (by omega)
  by_cases cmm500 : n < 0
  · exact mRow_at mm500 n (by omega) (by omega)
  by_cases cmp0 : n < 500
  · exact mRow_at mp0 n (by omega) (by omega)
  by_cases cmp500 : n < 1000
  · exact mRow_at mp500 n (by omega) (by omega)
  by_cases cmp1000 : n < 1500
  · exact mRow_at mp1000 n (by omega) (by omega)
  by_cases cmp1500 : n < 2000
  · exact mRow_at mp1500 n (by omega) (by omega)
  by_cases cmp2000 : n < 2500
  · exact mRow_at mp2000 n (by omega) (by omega)
  by_cases cmp2500 : n < 3000
  · exact mRow_at mp2500 n (by omega) (by omega)
  by_cases cmp3000 : n < 3500
  · exact mRow_at mp3000 n (by omega) (by omega)
  by_cases cmp3500 : n < 4000
  · exact mRow_at mp3500 n (by omega) (by omega)
  by_cases cmp4000 : n < 4500
  · exact mRow_at mp4000 n (by omega) (by omega)
  by_cases cmp4500 : n < 5000
  · exact mRow_at mp4500 n (by omega) (by omega)
  by_cases cmp5000 : n < 5500
  · exact mRow_at mp5000 n (by omega) (by omega)
  by_cases cmp5500 : n < 6000
  · exact mRow_at mp5500 n (by omega) (by omega)
  by_cases cmp6000 : n < 6500
  · exact mRow_at mp6000 n (by omega) (by omega)
  by_cases cmp6500 : n < 7000
  · exact mRow_at mp6500 n (by omega) (by omega)
  by_cases cmp7000 : n < 7500
  · exact mRow_at mp7000 n (by omega) (by omega)
  by_cases cmp7500 : n < 8000
  · exact mRow_at mp7500 n (by omega) (by omega)
  by_cases cmp8000 : n < 8500
  · exact mRow_at mp8000 n (by omega) (by omega)
  by_cases cmp8500 : n < 9000
  · exact mRow_at mp8500 n (by omega) (by omega)
  by_cases cmp9000 : n < 9001
  · exact mRow_at mp9000 n (by omega) (by omega)
  omega
end Go.DI.S

/-! A quarter turn of a single body, plain. -/
set_option linter.unusedVariables false
set_option linter.unusedSimpArgs false
set_option maxRecDepth 100000
namespace Go.DI.S
open Go.Proofs
def ballT (a b : Int) : Thing := (1, 1, (1, (4294967296, 0), 4294967296, (a, b), (0, 0)), (0, 0, 0), [])
def bs (a b : Int) : Scene := ((0, 0), 2, [ballT a b])
def ord9 : Order := (9, 1, 0, 0, 0, 0, 0, 0, 0, 16384, 0, [])
def wk (s : Scene) : tWorker.El := (s, ord9, (0, 0, 0, 0, 0))
/-- Within bounds. -/
def Inb (a : Int) : Prop := -38654705664000 ≤ a ∧ a ≤ 38654705664000
theorem b88 {a b : Int} (ha : Inb a) (hb : Inb b) : F_88 (1, (4294967296, 0), 4294967296, (a, b), (0, 0)) = some ((true, ()) : Els [.bool]) := by
  obtain ⟨a1, a2⟩ := ha
  obtain ⟨b1, b2⟩ := hb
  have n1 : F_127 (a, b) 42949672960000 = some ((true, ()) : Els [.bool]) := near_q w1Q (by omega) (by omega) (by omega) (by omega)
  have n2 : F_127 ((0 : Int), (0 : Int)) 4294967296000000 = some ((true, ()) : Els [.bool]) := near_q w2Q (by omega) (by omega) (by omega) (by omega)
  unfold F_88
  exact bnd e125a (noQ rfl (bnd (in_q (show (67108864 : Int) ≤ 4294967296 by omega) (show (4294967296 : Int) ≤ 4294967296000 by omega)) (noQ rfl (yesQ rfl (noQ rfl (noQ rfl (noQ rfl (yesQ rfl (bnd (in_q (show (67108864 : Int) ≤ 4294967296 by omega) (show (4294967296 : Int) ≤ 42949672960000 by omega)) (noQ rfl (bnd n1 (yesQ rfl (bnd n2 rfl)))))))))))))
theorem e86b : F_86 1 = some ((true, ()) : Els [.bool]) := by kernel_rfl
theorem e87b (a b : Int) : F_87 (ballT a b) = some ((true, ()) : Els [.bool]) := by kernel_rfl
theorem b45 {a b : Int} (ha : Inb a) (hb : Inb b) : F_45 (ballT a b) = some ((true, ()) : Els [.bool]) := by
  unfold F_45
  exact bnd e86b (noQ rfl (bnd (e87b a b) (noQ rfl (yesQ rfl (bnd (b88 ha hb) rfl)))))
theorem rt_ball {a b : Int} (ha : Inb a) (hb : Inb b) : rt (ballT a b) = true := by
  unfold rt
  rw [b45 ha hb]; rfl
theorem plain_ball {a b : Int} (ha : Inb a) (hb : Inb b) : plainB (bs a b) = true := by
  have h1 : plainStep 2 0 (ballT a b) = some 1 := by
    unfold plainStep
    rw [rt_ball ha hb]; rfl
  have h2 : foldO (plainStep (bs a b).2.1) (bs a b).2.2 0 = some 1 := by
    show foldO (plainStep 2) [ballT a b] 0 = some 1
    simp only [foldO, h1]
  unfold plainB
  rw [h2]; rfl
theorem end_ball (a b : Int) : (bs a b).2.2.all (endB (bs a b)) = true := by kernel_rfl
theorem apart_ball (a b : Int) : apartB (bs a b).2.2 = true := by kernel_rfl
theorem tree_ball (a b : Int) : treeB (bs a b).2.2 = true := by kernel_rfl
theorem small_ball (a b : Int) : Small (bs a b).2.2 := by
  refine ⟨by show (1 : Nat) ≤ 1000000000; omega, fun t ht => ?_⟩
  have : t = ballT a b := by simpa [bs] using ht
  subst this
  show (0 : Nat) ≤ 1000000000
  omega
theorem h20 {a b : Int} (ha : Inb a) (hb : Inb b) : F_20 (bs a b) = some ((true, ()) : Els [.bool]) := by
  rw [v_20 (bs a b) (small_ball a b)]
  unfold rightB
  rw [plain_ball ha hb, end_ball, apart_ball, tree_ball]; rfl
theorem h37 {a b : Int} (ha : Inb a) (hb : Inb b) : F_37 (bs a b) 1 = some (([1], ()) : Els [.list I]) := by
  unfold F_37
  exact bnd (h20 ha hb) (noQ rfl (by kernel_rfl))
theorem h23 (a b : Int) : F_23 (bs a b) 1 = some ((ballT a b, true, ()) : Els [tThing, .bool]) := by kernel_rfl
theorem h43r (a b : Int) : R_43_10 (((), (), [1], (1 : Int), (0 : Int), ()), (bs a b, ()), [], ()) = some (.inl (((), ()), [1], ())) := by kernel_rfl
theorem h43 {a b : Int} (ha : Inb a) (hb : Inb b) : F_43 (bs a b) 1 = some (([1], 0, ()) : Els [.list I, I]) := by
  unfold F_43
  exact bnd (h20 ha hb) (noQ rfl (bnd (h23 a b) (noQ rfl (noQ rfl (bnd (h37 ha hb) (bnd (h43r a b) rfl))))))
theorem hown (a b : Int) : F_oown [ballT a b] = some [ballT a b] := by kernel_rfl
theorem hread (s : Scene) : F_readw (wk s, ()) = some (((0, ()), (wk s, ()), ()) : OUT_readw.El) := by kernel_rfl
/-! ### the turn -/
theorem hsin : F_sin 16384 = some ((4294967296, ()) : Els [I]) := by kernel_rfl
theorem hcos : F_cos 16384 = some ((0, ()) : Els [I]) := by kernel_rfl
theorem hask (v : Int) : F_ask v 0 (0, ()) = some (((v, ()), (0, ()), ()) : OUT_ask.El) := by kernel_rfl
theorem fsubQ {b : Int} (h : Inb b) : F_fsub 0 b = some ((0 - b, 0, ()) : Els [I, I]) := by
  obtain ⟨h1, h2⟩ := h
  have hw : IntKind.i64.wrap (0 - b) = 0 - b := Go.DI.wrap64 (by omega) (by omega)
  unfold F_fsub
  by_cases hb : b < 0
  · have e1 : (!(decide ((0 : Int) < 0) == decide (b < 0))) = true := by rw [decide_eq_true hb]; rfl
    refine yesQ e1 ?_
    rw [hw]
    have e2 : (!(decide (0 - b < 0) == decide ((0 : Int) < 0))) = false := by rw [decide_eq_false (show ¬ (0 - b < 0) by omega)]; rfl
    exact noQ e2 rfl
  · have e1 : (!(decide ((0 : Int) < 0) == decide (b < 0))) = false := by rw [decide_eq_false hb]; rfl
    refine noQ e1 ?_
    rw [hw]
theorem faddQ {a : Int} (h : Inb a) : F_162 a 0 = some ((a, 0, ()) : Els [I, I]) := by
  obtain ⟨h1, h2⟩ := h
  have hw : IntKind.i64.wrap (a + 0) = a := by rw [Int.add_zero]; exact Go.DI.wrap64 (by omega) (by omega)
  unfold F_162
  rw [hw]
  by_cases ha : a < 0
  · exact noQ (by rw [decide_eq_true ha]; rfl) rfl
  · refine yesQ (by rw [decide_eq_false ha]; rfl) (noQ (by rw [decide_eq_false ha]; rfl) rfl)
theorem inb_mul {n : Int} (h1 : -9000 ≤ n) (h2 : n ≤ 9000) : Inb (n * 4294967296) := ⟨by omega, by omega⟩
theorem inb_neg {n : Int} (h : Inb n) : Inb (0 - n) := ⟨by have := h.2; omega, by have := h.1; omega⟩
theorem hrot {x y : Int} (hx1 : -9000 ≤ x) (hx2 : x ≤ 9000) (hy1 : -9000 ≤ y) (hy2 : y ≤ 9000) : F_rot (x * 4294967296) (y * 4294967296) 16384 = some ((0 - y * 4294967296, x * 4294967296, 0, ()) : Els [I, I, I]) := by
  unfold F_rot
  exact bnd hsin (bnd hcos (bnd (mulN x hx1 hx2).2 (bnd (hask 0) (bnd (mulN y hy1 hy2).1 (bnd (hask _) (bnd (fsubQ (inb_mul hy1 hy2)) (bnd (hask _) (bnd (mulN x hx1 hx2).1 (bnd (hask _) (bnd (mulN y hy1 hy2).2 (bnd (hask _) (bnd (faddQ (inb_mul hx1 hx2)) (bnd (hask _) (noQ rfl rfl))))))))))))))
theorem hturn {x y : Int} (s : Scene) (hx1 : -9000 ≤ x) (hx2 : x ≤ 9000) (hy1 : -9000 ≤ y) (hy2 : y ≤ 9000) : F_turn (wk s) (x * 4294967296, y * 4294967296) = some (.inl (((0 - y * 4294967296, x * 4294967296), ()) : Els [tVec])) := by
  unfold F_turn
  exact bnd (hrot hx1 hx2 hy1 hy2) (noQ rfl rfl)
theorem h59q : F_59 [1] 1 = some ((true, ()) : Els [.bool]) := by kernel_rfl
section
variable {x y : Int} (hx1 : -9000 ≤ x) (hx2 : x ≤ 9000) (hy1 : -9000 ≤ y) (hy2 : y ≤ 9000) (s : Scene)
include hx1 hx2 hy1 hy2
theorem hG0 : G_each1t_1 1 0 ((0, 0), 2, (), ()) ([1], ()) ((), ()) (wk s, ()) [ballT (x * 4294967296) (y * 4294967296)] = some (.inl (((), (), (), (), (1 : Int), (1 : Int), ()), ((0, 0), 2, (), ()), ([1], ()), ((), ()), (wk s, ()), [ballT (0 - y * 4294967296) (x * 4294967296)], ())) := by
  unfold G_each1t_1
  exact yesQ rfl (yesQ rfl (bnd h59q (noQ rfl (bnd (hturn s hx1 hx2 hy1 hy2) (bnd (b88 (inb_neg (inb_mul hy1 hy2)) (inb_mul hx1 hx2)) (noQ rfl (yesQ rfl rfl)))))))
theorem hR : R_each1t_1 (((), (), (), (), (1 : Int), (0 : Int), ()), ((0, 0), 2, (), ()), ([1], ()), ((), ()), (wk s, ()), [ballT (x * 4294967296) (y * 4294967296)], ()) = some (.inl (.inl ((), ((0, 0), 2, (), ()), ([1], ()), ((), ()), (wk s, ()), [ballT (0 - y * 4294967296) (x * 4294967296)], ()))) := by
  unfold R_each1t_1
  have hf : fuel = (18446744073709551614 + 1) + 1 := rfl
  rw [hf, rounds_in (hG0 hx1 hx2 hy1 hy2 s)]
  refine rounds_out ?_ _
  exact noQ rfl rfl
theorem hE : F_each1t ((0, 0), 2, (), ()) ([1], ()) ((), ()) (wk s, ()) [ballT (x * 4294967296) (y * 4294967296)] = some (.inl ((), ((0, 0), 2, (), ()), ([1], ()), ((), ()), (wk s, ()), [ballT (0 - y * 4294967296) (x * 4294967296)], ())) := by
  unfold F_each1t
  exact bnd (hR hx1 hx2 hy1 hy2 s) rfl
theorem hTry : F_tryt ((0, 0), 2, (), ()) ([1], ()) ((), ()) (wk s, ()) [ballT (x * 4294967296) (y * 4294967296)] = some (.inl ((0, ()), ((0, 0), 2, (), ()), ([1], ()), ((), ()), (wk s, ()), [ballT (0 - y * 4294967296) (x * 4294967296)], ())) := by
  unfold F_tryt
  exact bnd (hE hx1 hx2 hy1 hy2 s) rfl
theorem hEach : F_eacht (wk (bs (x * 4294967296) (y * 4294967296)), ()) = some (((bs (0 - y * 4294967296) (x * 4294967296), 0, 0, ()), (wk (bs (x * 4294967296) (y * 4294967296)), ()), ()) : OUT_eacht.El) := by
  unfold F_eacht
  exact bnd (h43 (inb_mul hx1 hx2) (inb_mul hy1 hy2)) (noQ rfl (bnd (hown _ _) (bnd (hTry hx1 hx2 hy1 hy2 (bs (x * 4294967296) (y * 4294967296))) rfl)))
theorem hdo2 : F_do2 (wk (bs (x * 4294967296) (y * 4294967296)), ()) = some (((bs (0 - y * 4294967296) (x * 4294967296), 0, 0, ()), (wk (bs (x * 4294967296) (y * 4294967296)), ()), ()) : OUT_do2.El) := by
  unfold F_do2
  exact noQ rfl (noQ rfl (noQ rfl (noQ rfl (noQ rfl (noQ rfl (noQ rfl (noQ rfl (yesQ rfl (bnd (hEach hx1 hx2 hy1 hy2) rfl)))))))))
/-- A quarter turn. -/
theorem hDo2 : F_Do2 (bs (x * 4294967296) (y * 4294967296)) ord9 = some ((bs (0 - y * 4294967296) (x * 4294967296), 0, 0, ()) : Els [tScene, I, I]) := by
  unfold F_Do2
  exact noQ rfl (noQ rfl (bnd (h20 (inb_mul hx1 hx2) (inb_mul hy1 hy2)) (noQ rfl (bnd (hread _) (noQ rfl (bnd (hdo2 hx1 hx2 hy1 hy2) (noQ rfl rfl)))))))
end
end Go.DI.S

/-! OrderTurns, plain. -/
set_option linter.unusedVariables false
set_option linter.unusedSimpArgs false
set_option maxRecDepth 100000
namespace Go.DI.S
open Go.Proofs
theorem wrT {n : Int} (h1 : -9000 ≤ n) (h2 : n ≤ 9000) : IntKind.i64.wrap (n * 4294967296) = n * 4294967296 := Go.DI.wrap64 (by omega) (by omega)
theorem hGt {X Y n k : Int} (hx1 : -9000 ≤ X) (hx2 : X ≤ 9000) (hy1 : -9000 ≤ Y) (hy2 : Y ≤ 9000) (hk1 : 1 ≤ k) (hk2 : k ≤ 15) (hkn : k ≤ n) :
    G_turns_5 X Y n k (bs (X * 4294967296) (Y * 4294967296), ()) = some (.inl ((0 - Y, X, n, (), k + 1, ()), (bs ((0 - Y) * 4294967296) (X * 4294967296), ()), ())) := by
  have w0 : IntKind.i64.wrap ((0 : Int) - Y) = 0 - Y := Go.DI.wrap64 (by omega) (by omega)
  have wk : IntKind.i64.wrap (k + 1) = k + 1 := Go.DI.wrap64 (by omega) (by omega)
  have e : (0 - Y) * 4294967296 = 0 - Y * 4294967296 := by omega
  have w1 : IntKind.i64.wrap ((0 - Y) * 4294967296) = 0 - Y * 4294967296 := by rw [wrT (by omega) (by omega), e]
  have hc : (!(((0 : Int) - Y * 4294967296 == IntKind.i64.wrap (IntKind.i64.wrap ((0 : Int) - Y) * 4294967296)) && ((X * 4294967296 == IntKind.i64.wrap (X * 4294967296)) && true))) = false := by
    rw [w0, w1, wrT hx1 hx2]; simp
  unfold G_turns_5
  refine yesQ (decide_eq_true hkn) (bnd (hDo2 hx1 hx2 hy1 hy2) (noQ rfl (noQ rfl (noQ rfl (yesQ rfl (noQ hc ?_))))))
  rw [w0, wk, e]
/-- Where it is behind so many turns. -/
def spin (x y : Int) : Nat → Int × Int
  | 0 => (x, y)
  | i + 1 => (0 - (spin x y i).2, (spin x y i).1)
theorem spinB {x y : Int} (hx1 : -9000 ≤ x) (hx2 : x ≤ 9000) (hy1 : -9000 ≤ y) (hy2 : y ≤ 9000) : ∀ i, -9000 ≤ (spin x y i).1 ∧ (spin x y i).1 ≤ 9000 ∧ -9000 ≤ (spin x y i).2 ∧ (spin x y i).2 ≤ 9000
  | 0 => ⟨hx1, hx2, hy1, hy2⟩
  | i + 1 => by
    obtain ⟨h1, h2, h3, h4⟩ := spinB hx1 hx2 hy1 hy2 i
    refine ⟨?_, ?_, h1, h2⟩
    · show -9000 ≤ 0 - (spin x y i).2; omega
    · show 0 - (spin x y i).2 ≤ 9000; omega
def invT (x y n : Int) (i : Nat) : LD_turns_5.El := (((spin x y i).1, (spin x y i).2, n, (), (i : Int) + 1, ()), (bs ((spin x y i).1 * 4294967296) ((spin x y i).2 * 4294967296), ()), ())
theorem hRt {x y n : Int} (hx1 : -9000 ≤ x) (hx2 : x ≤ 9000) (hy1 : -9000 ≤ y) (hy2 : y ≤ 9000) (hn1 : 0 ≤ n) (hn2 : n ≤ 15) :
    R_turns_5 ((x, y, n, (), (1 : Int), ()), (bs (x * 4294967296) (y * 4294967296), ()), ()) = some (.inl ((), ())) := by
  have h0 : (((x, y, n, (), (1 : Int), ()), (bs (x * 4294967296) (y * 4294967296), ()), ()) : LD_turns_5.El) = invT x y n 0 := rfl
  rw [h0]
  unfold R_turns_5
  refine rounds_to (inv := invT x y n) (n := n.toNat) (fun i hi => ?_) ?_ n.toNat 0 fuel (by omega) (fuel_lt (by omega))
  · obtain ⟨h1, h2, h3, h4⟩ := spinB hx1 hx2 hy1 hy2 i
    have h := hGt (n := n) (k := (i : Int) + 1) h1 h2 h3 h4 (by omega) (by omega) (by omega)
    have e : ((((i + 1 : Nat) : Int)) + 1) = (i : Int) + 1 + 1 := by omega
    show G_turns_5 (spin x y i).1 (spin x y i).2 n ((i : Int) + 1) (bs ((spin x y i).1 * 4294967296) ((spin x y i).2 * 4294967296), ()) = _
    rw [h]
    show _ = some (Sum.inl (((0 - (spin x y i).2, (spin x y i).1, n, (), (((i + 1 : Nat) : Int)) + 1, ()), (bs ((0 - (spin x y i).2) * 4294967296) ((spin x y i).1 * 4294967296), ()), ()) : LD_turns_5.El))
    rw [e]
  · show G_turns_5 (spin x y n.toNat).1 (spin x y n.toNat).2 n ((n.toNat : Int) + 1) (bs ((spin x y n.toNat).1 * 4294967296) ((spin x y n.toNat).2 * 4294967296), ()) = _
    have hh : ¬ ((n.toNat : Int) + 1 ≤ n) := by omega
    unfold G_turns_5
    exact noQ (decide_eq_false hh) rfl
theorem v17 (a b : Int) : F_17 1 a b 4294967296 = some ((ballT a b, ()) : Els [tThing]) := by kernel_rfl
theorem turns_true (x y n : Int) : F_turns x y n = some ((true, ()) : Els [.bool]) := by
  unfold F_turns
  by_cases g1 : x < -9000
  · exact yesQ (decide_eq_true g1) (bnd alive_true rfl)
  refine noQ (decide_eq_false g1) ?_
  by_cases g2 : y < -9000
  · exact yesQ (decide_eq_true g2) (bnd alive_true rfl)
  refine noQ (decide_eq_false g2) ?_
  by_cases g3 : x > 9000
  · exact yesQ (decide_eq_true g3) (bnd alive_true rfl)
  refine noQ (decide_eq_false g3) ?_
  by_cases g4 : y > 9000
  · exact yesQ (decide_eq_true g4) (bnd alive_true rfl)
  refine noQ (decide_eq_false g4) ?_
  by_cases g5 : n < 0
  · exact yesQ (decide_eq_true g5) (bnd alive_true rfl)
  refine noQ (decide_eq_false g5) ?_
  by_cases g6 : n > 15
  · exact yesQ (decide_eq_true g6) (bnd alive_true rfl)
  refine noQ (decide_eq_false g6) ?_
  refine bnd alive_true (noQ rfl ?_)
  rw [wrT (n := x) (by omega) (by omega), wrT (n := y) (by omega) (by omega)]
  exact bnd (v17 _ _) (bnd (hRt (by omega) (by omega) (by omega) (by omega) (by omega) (by omega)) rfl)
theorem orderTurns (x y n : Int) (h0 : Ty.wf I x) (h1 : Ty.wf I y) (h2 : Ty.wf I n) : F_turns x y n = some ((true, ()) : Els [.bool]) := turns_true x y n
end Go.DI.S

