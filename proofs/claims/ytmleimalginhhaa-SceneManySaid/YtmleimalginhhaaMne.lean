import Derived.Test.YtmleimalginhhaaMna
import Derived.Test.YtmleimalginhhaaMnb
import Derived.Test.YtmleimalginhhaaMnc
import Derived.Test.YtmleimalginhhaaMnd
/- SceneMany: what its loop comes to. No conditions. -/
set_option maxRecDepth 100000
set_option maxHeartbeats 0
namespace Go.DI.S

noncomputable def C4 (n k : Int) (s : Ty.El tScene) (v4 : Els [tScene, I]) : Option (LD_4_6.El ⊕ (LA_4_6.El ⊕ LB_4_6.El)) :=
  bif decide (k > (40 : Int)) then
    bif v4.2.1 != (12 : Int) then some (Sum.inr (Sum.inr ((false, ()), ())))
    else some (Sum.inl ((n, (), Go.IntKind.i64.wrap (k + (1 : Int)), ()), (s, ()), ()))
  else
    bif v4.2.1 != (0 : Int) then some (Sum.inr (Sum.inr ((false, ()), ())))
    else some (Sum.inl ((n, (), Go.IntKind.i64.wrap (k + (1 : Int)), ()), (v4.1, ()), ()))
theorem g46 (n k : Int) (s : Ty.El tScene) : G_4_6 n k (s, ()) = bif decide (k ≤ n) then ((F_18 s (ball k)).bind fun v4 => C4 n k s v4) else some (Sum.inr (Sum.inl ((n, (), ()), (s, ()), ()))) := by kernel_rfl

theorem s_1 (n : Int) (h : ((1 : Nat) : Int) ≤ n) : G_4_6 n ((1 : Nat) : Int) (st (min (1 - 1) 40), ()) = some (Sum.inl ((n, (), ((1 + 1 : Nat) : Int), ()), (st (min 1 40), ()), ())) := by
  have e : st (min (1 - 1) 40) = st (1 - 1) := congrArg st (by decide)
  rw [e, g46, decide_eq_true h, w_1]
  rfl
theorem s_2 (n : Int) (h : ((2 : Nat) : Int) ≤ n) : G_4_6 n ((2 : Nat) : Int) (st (min (2 - 1) 40), ()) = some (Sum.inl ((n, (), ((2 + 1 : Nat) : Int), ()), (st (min 2 40), ()), ())) := by
  have e : st (min (2 - 1) 40) = st (2 - 1) := congrArg st (by decide)
  rw [e, g46, decide_eq_true h, w_2]
  rfl
theorem s_3 (n : Int) (h : ((3 : Nat) : Int) ≤ n) : G_4_6 n ((3 : Nat) : Int) (st (min (3 - 1) 40), ()) = some (Sum.inl ((n, (), ((3 + 1 : Nat) : Int), ()), (st (min 3 40), ()), ())) := by
  have e : st (min (3 - 1) 40) = st (3 - 1) := congrArg st (by decide)
  rw [e, g46, decide_eq_true h, w_3]
  rfl
theorem s_4 (n : Int) (h : ((4 : Nat) : Int) ≤ n) : G_4_6 n ((4 : Nat) : Int) (st (min (4 - 1) 40), ()) = some (Sum.inl ((n, (), ((4 + 1 : Nat) : Int), ()), (st (min 4 40), ()), ())) := by
  have e : st (min (4 - 1) 40) = st (4 - 1) := congrArg st (by decide)
  rw [e, g46, decide_eq_true h, w_4]
  rfl
theorem s_5 (n : Int) (h : ((5 : Nat) : Int) ≤ n) : G_4_6 n ((5 : Nat) : Int) (st (min (5 - 1) 40), ()) = some (Sum.inl ((n, (), ((5 + 1 : Nat) : Int), ()), (st (min 5 40), ()), ())) := by
  have e : st (min (5 - 1) 40) = st (5 - 1) := congrArg st (by decide)
  rw [e, g46, decide_eq_true h, w_5]
  rfl
theorem s_6 (n : Int) (h : ((6 : Nat) : Int) ≤ n) : G_4_6 n ((6 : Nat) : Int) (st (min (6 - 1) 40), ()) = some (Sum.inl ((n, (), ((6 + 1 : Nat) : Int), ()), (st (min 6 40), ()), ())) := by
  have e : st (min (6 - 1) 40) = st (6 - 1) := congrArg st (by decide)
  rw [e, g46, decide_eq_true h, w_6]
  rfl
theorem s_7 (n : Int) (h : ((7 : Nat) : Int) ≤ n) : G_4_6 n ((7 : Nat) : Int) (st (min (7 - 1) 40), ()) = some (Sum.inl ((n, (), ((7 + 1 : Nat) : Int), ()), (st (min 7 40), ()), ())) := by
  have e : st (min (7 - 1) 40) = st (7 - 1) := congrArg st (by decide)
  rw [e, g46, decide_eq_true h, w_7]
  rfl
theorem s_8 (n : Int) (h : ((8 : Nat) : Int) ≤ n) : G_4_6 n ((8 : Nat) : Int) (st (min (8 - 1) 40), ()) = some (Sum.inl ((n, (), ((8 + 1 : Nat) : Int), ()), (st (min 8 40), ()), ())) := by
  have e : st (min (8 - 1) 40) = st (8 - 1) := congrArg st (by decide)
  rw [e, g46, decide_eq_true h, w_8]
  rfl
theorem s_9 (n : Int) (h : ((9 : Nat) : Int) ≤ n) : G_4_6 n ((9 : Nat) : Int) (st (min (9 - 1) 40), ()) = some (Sum.inl ((n, (), ((9 + 1 : Nat) : Int), ()), (st (min 9 40), ()), ())) := by
  have e : st (min (9 - 1) 40) = st (9 - 1) := congrArg st (by decide)
  rw [e, g46, decide_eq_true h, w_9]
  rfl
theorem s_10 (n : Int) (h : ((10 : Nat) : Int) ≤ n) : G_4_6 n ((10 : Nat) : Int) (st (min (10 - 1) 40), ()) = some (Sum.inl ((n, (), ((10 + 1 : Nat) : Int), ()), (st (min 10 40), ()), ())) := by
  have e : st (min (10 - 1) 40) = st (10 - 1) := congrArg st (by decide)
  rw [e, g46, decide_eq_true h, w_10]
  rfl
theorem s_11 (n : Int) (h : ((11 : Nat) : Int) ≤ n) : G_4_6 n ((11 : Nat) : Int) (st (min (11 - 1) 40), ()) = some (Sum.inl ((n, (), ((11 + 1 : Nat) : Int), ()), (st (min 11 40), ()), ())) := by
  have e : st (min (11 - 1) 40) = st (11 - 1) := congrArg st (by decide)
  rw [e, g46, decide_eq_true h, w_11]
  rfl
theorem s_12 (n : Int) (h : ((12 : Nat) : Int) ≤ n) : G_4_6 n ((12 : Nat) : Int) (st (min (12 - 1) 40), ()) = some (Sum.inl ((n, (), ((12 + 1 : Nat) : Int), ()), (st (min 12 40), ()), ())) := by
  have e : st (min (12 - 1) 40) = st (12 - 1) := congrArg st (by decide)
  rw [e, g46, decide_eq_true h, w_12]
  rfl
theorem s_13 (n : Int) (h : ((13 : Nat) : Int) ≤ n) : G_4_6 n ((13 : Nat) : Int) (st (min (13 - 1) 40), ()) = some (Sum.inl ((n, (), ((13 + 1 : Nat) : Int), ()), (st (min 13 40), ()), ())) := by
  have e : st (min (13 - 1) 40) = st (13 - 1) := congrArg st (by decide)
  rw [e, g46, decide_eq_true h, w_13]
  rfl
theorem s_14 (n : Int) (h : ((14 : Nat) : Int) ≤ n) : G_4_6 n ((14 : Nat) : Int) (st (min (14 - 1) 40), ()) = some (Sum.inl ((n, (), ((14 + 1 : Nat) : Int), ()), (st (min 14 40), ()), ())) := by
  have e : st (min (14 - 1) 40) = st (14 - 1) := congrArg st (by decide)
  rw [e, g46, decide_eq_true h, w_14]
  rfl
theorem s_15 (n : Int) (h : ((15 : Nat) : Int) ≤ n) : G_4_6 n ((15 : Nat) : Int) (st (min (15 - 1) 40), ()) = some (Sum.inl ((n, (), ((15 + 1 : Nat) : Int), ()), (st (min 15 40), ()), ())) := by
  have e : st (min (15 - 1) 40) = st (15 - 1) := congrArg st (by decide)
  rw [e, g46, decide_eq_true h, w_15]
  rfl
theorem s_16 (n : Int) (h : ((16 : Nat) : Int) ≤ n) : G_4_6 n ((16 : Nat) : Int) (st (min (16 - 1) 40), ()) = some (Sum.inl ((n, (), ((16 + 1 : Nat) : Int), ()), (st (min 16 40), ()), ())) := by
  have e : st (min (16 - 1) 40) = st (16 - 1) := congrArg st (by decide)
  rw [e, g46, decide_eq_true h, w_16]
  rfl
theorem s_17 (n : Int) (h : ((17 : Nat) : Int) ≤ n) : G_4_6 n ((17 : Nat) : Int) (st (min (17 - 1) 40), ()) = some (Sum.inl ((n, (), ((17 + 1 : Nat) : Int), ()), (st (min 17 40), ()), ())) := by
  have e : st (min (17 - 1) 40) = st (17 - 1) := congrArg st (by decide)
  rw [e, g46, decide_eq_true h, w_17]
  rfl
theorem s_18 (n : Int) (h : ((18 : Nat) : Int) ≤ n) : G_4_6 n ((18 : Nat) : Int) (st (min (18 - 1) 40), ()) = some (Sum.inl ((n, (), ((18 + 1 : Nat) : Int), ()), (st (min 18 40), ()), ())) := by
  have e : st (min (18 - 1) 40) = st (18 - 1) := congrArg st (by decide)
  rw [e, g46, decide_eq_true h, w_18]
  rfl
theorem s_19 (n : Int) (h : ((19 : Nat) : Int) ≤ n) : G_4_6 n ((19 : Nat) : Int) (st (min (19 - 1) 40), ()) = some (Sum.inl ((n, (), ((19 + 1 : Nat) : Int), ()), (st (min 19 40), ()), ())) := by
  have e : st (min (19 - 1) 40) = st (19 - 1) := congrArg st (by decide)
  rw [e, g46, decide_eq_true h, w_19]
  rfl
theorem s_20 (n : Int) (h : ((20 : Nat) : Int) ≤ n) : G_4_6 n ((20 : Nat) : Int) (st (min (20 - 1) 40), ()) = some (Sum.inl ((n, (), ((20 + 1 : Nat) : Int), ()), (st (min 20 40), ()), ())) := by
  have e : st (min (20 - 1) 40) = st (20 - 1) := congrArg st (by decide)
  rw [e, g46, decide_eq_true h, w_20]
  rfl
theorem s_21 (n : Int) (h : ((21 : Nat) : Int) ≤ n) : G_4_6 n ((21 : Nat) : Int) (st (min (21 - 1) 40), ()) = some (Sum.inl ((n, (), ((21 + 1 : Nat) : Int), ()), (st (min 21 40), ()), ())) := by
  have e : st (min (21 - 1) 40) = st (21 - 1) := congrArg st (by decide)
  rw [e, g46, decide_eq_true h, w_21]
  rfl
theorem s_22 (n : Int) (h : ((22 : Nat) : Int) ≤ n) : G_4_6 n ((22 : Nat) : Int) (st (min (22 - 1) 40), ()) = some (Sum.inl ((n, (), ((22 + 1 : Nat) : Int), ()), (st (min 22 40), ()), ())) := by
  have e : st (min (22 - 1) 40) = st (22 - 1) := congrArg st (by decide)
  rw [e, g46, decide_eq_true h, w_22]
  rfl
theorem s_23 (n : Int) (h : ((23 : Nat) : Int) ≤ n) : G_4_6 n ((23 : Nat) : Int) (st (min (23 - 1) 40), ()) = some (Sum.inl ((n, (), ((23 + 1 : Nat) : Int), ()), (st (min 23 40), ()), ())) := by
  have e : st (min (23 - 1) 40) = st (23 - 1) := congrArg st (by decide)
  rw [e, g46, decide_eq_true h, w_23]
  rfl
theorem s_24 (n : Int) (h : ((24 : Nat) : Int) ≤ n) : G_4_6 n ((24 : Nat) : Int) (st (min (24 - 1) 40), ()) = some (Sum.inl ((n, (), ((24 + 1 : Nat) : Int), ()), (st (min 24 40), ()), ())) := by
  have e : st (min (24 - 1) 40) = st (24 - 1) := congrArg st (by decide)
  rw [e, g46, decide_eq_true h, w_24]
  rfl
theorem s_25 (n : Int) (h : ((25 : Nat) : Int) ≤ n) : G_4_6 n ((25 : Nat) : Int) (st (min (25 - 1) 40), ()) = some (Sum.inl ((n, (), ((25 + 1 : Nat) : Int), ()), (st (min 25 40), ()), ())) := by
  have e : st (min (25 - 1) 40) = st (25 - 1) := congrArg st (by decide)
  rw [e, g46, decide_eq_true h, w_25]
  rfl
theorem s_26 (n : Int) (h : ((26 : Nat) : Int) ≤ n) : G_4_6 n ((26 : Nat) : Int) (st (min (26 - 1) 40), ()) = some (Sum.inl ((n, (), ((26 + 1 : Nat) : Int), ()), (st (min 26 40), ()), ())) := by
  have e : st (min (26 - 1) 40) = st (26 - 1) := congrArg st (by decide)
  rw [e, g46, decide_eq_true h, w_26]
  rfl
theorem s_27 (n : Int) (h : ((27 : Nat) : Int) ≤ n) : G_4_6 n ((27 : Nat) : Int) (st (min (27 - 1) 40), ()) = some (Sum.inl ((n, (), ((27 + 1 : Nat) : Int), ()), (st (min 27 40), ()), ())) := by
  have e : st (min (27 - 1) 40) = st (27 - 1) := congrArg st (by decide)
  rw [e, g46, decide_eq_true h, w_27]
  rfl
theorem s_28 (n : Int) (h : ((28 : Nat) : Int) ≤ n) : G_4_6 n ((28 : Nat) : Int) (st (min (28 - 1) 40), ()) = some (Sum.inl ((n, (), ((28 + 1 : Nat) : Int), ()), (st (min 28 40), ()), ())) := by
  have e : st (min (28 - 1) 40) = st (28 - 1) := congrArg st (by decide)
  rw [e, g46, decide_eq_true h, w_28]
  rfl
theorem s_29 (n : Int) (h : ((29 : Nat) : Int) ≤ n) : G_4_6 n ((29 : Nat) : Int) (st (min (29 - 1) 40), ()) = some (Sum.inl ((n, (), ((29 + 1 : Nat) : Int), ()), (st (min 29 40), ()), ())) := by
  have e : st (min (29 - 1) 40) = st (29 - 1) := congrArg st (by decide)
  rw [e, g46, decide_eq_true h, w_29]
  rfl
theorem s_30 (n : Int) (h : ((30 : Nat) : Int) ≤ n) : G_4_6 n ((30 : Nat) : Int) (st (min (30 - 1) 40), ()) = some (Sum.inl ((n, (), ((30 + 1 : Nat) : Int), ()), (st (min 30 40), ()), ())) := by
  have e : st (min (30 - 1) 40) = st (30 - 1) := congrArg st (by decide)
  rw [e, g46, decide_eq_true h, w_30]
  rfl
theorem s_31 (n : Int) (h : ((31 : Nat) : Int) ≤ n) : G_4_6 n ((31 : Nat) : Int) (st (min (31 - 1) 40), ()) = some (Sum.inl ((n, (), ((31 + 1 : Nat) : Int), ()), (st (min 31 40), ()), ())) := by
  have e : st (min (31 - 1) 40) = st (31 - 1) := congrArg st (by decide)
  rw [e, g46, decide_eq_true h, w_31]
  rfl
theorem s_32 (n : Int) (h : ((32 : Nat) : Int) ≤ n) : G_4_6 n ((32 : Nat) : Int) (st (min (32 - 1) 40), ()) = some (Sum.inl ((n, (), ((32 + 1 : Nat) : Int), ()), (st (min 32 40), ()), ())) := by
  have e : st (min (32 - 1) 40) = st (32 - 1) := congrArg st (by decide)
  rw [e, g46, decide_eq_true h, w_32]
  rfl
theorem s_33 (n : Int) (h : ((33 : Nat) : Int) ≤ n) : G_4_6 n ((33 : Nat) : Int) (st (min (33 - 1) 40), ()) = some (Sum.inl ((n, (), ((33 + 1 : Nat) : Int), ()), (st (min 33 40), ()), ())) := by
  have e : st (min (33 - 1) 40) = st (33 - 1) := congrArg st (by decide)
  rw [e, g46, decide_eq_true h, w_33]
  rfl
theorem s_34 (n : Int) (h : ((34 : Nat) : Int) ≤ n) : G_4_6 n ((34 : Nat) : Int) (st (min (34 - 1) 40), ()) = some (Sum.inl ((n, (), ((34 + 1 : Nat) : Int), ()), (st (min 34 40), ()), ())) := by
  have e : st (min (34 - 1) 40) = st (34 - 1) := congrArg st (by decide)
  rw [e, g46, decide_eq_true h, w_34]
  rfl
theorem s_35 (n : Int) (h : ((35 : Nat) : Int) ≤ n) : G_4_6 n ((35 : Nat) : Int) (st (min (35 - 1) 40), ()) = some (Sum.inl ((n, (), ((35 + 1 : Nat) : Int), ()), (st (min 35 40), ()), ())) := by
  have e : st (min (35 - 1) 40) = st (35 - 1) := congrArg st (by decide)
  rw [e, g46, decide_eq_true h, w_35]
  rfl
theorem s_36 (n : Int) (h : ((36 : Nat) : Int) ≤ n) : G_4_6 n ((36 : Nat) : Int) (st (min (36 - 1) 40), ()) = some (Sum.inl ((n, (), ((36 + 1 : Nat) : Int), ()), (st (min 36 40), ()), ())) := by
  have e : st (min (36 - 1) 40) = st (36 - 1) := congrArg st (by decide)
  rw [e, g46, decide_eq_true h, w_36]
  rfl
theorem s_37 (n : Int) (h : ((37 : Nat) : Int) ≤ n) : G_4_6 n ((37 : Nat) : Int) (st (min (37 - 1) 40), ()) = some (Sum.inl ((n, (), ((37 + 1 : Nat) : Int), ()), (st (min 37 40), ()), ())) := by
  have e : st (min (37 - 1) 40) = st (37 - 1) := congrArg st (by decide)
  rw [e, g46, decide_eq_true h, w_37]
  rfl
theorem s_38 (n : Int) (h : ((38 : Nat) : Int) ≤ n) : G_4_6 n ((38 : Nat) : Int) (st (min (38 - 1) 40), ()) = some (Sum.inl ((n, (), ((38 + 1 : Nat) : Int), ()), (st (min 38 40), ()), ())) := by
  have e : st (min (38 - 1) 40) = st (38 - 1) := congrArg st (by decide)
  rw [e, g46, decide_eq_true h, w_38]
  rfl
theorem s_39 (n : Int) (h : ((39 : Nat) : Int) ≤ n) : G_4_6 n ((39 : Nat) : Int) (st (min (39 - 1) 40), ()) = some (Sum.inl ((n, (), ((39 + 1 : Nat) : Int), ()), (st (min 39 40), ()), ())) := by
  have e : st (min (39 - 1) 40) = st (39 - 1) := congrArg st (by decide)
  rw [e, g46, decide_eq_true h, w_39]
  rfl
theorem s_40 (n : Int) (h : ((40 : Nat) : Int) ≤ n) : G_4_6 n ((40 : Nat) : Int) (st (min (40 - 1) 40), ()) = some (Sum.inl ((n, (), ((40 + 1 : Nat) : Int), ()), (st (min 40 40), ()), ())) := by
  have e : st (min (40 - 1) 40) = st (40 - 1) := congrArg st (by decide)
  rw [e, g46, decide_eq_true h, w_40]
  rfl
theorem s_41 (n : Int) (h : ((41 : Nat) : Int) ≤ n) : G_4_6 n ((41 : Nat) : Int) (st (min (41 - 1) 40), ()) = some (Sum.inl ((n, (), ((41 + 1 : Nat) : Int), ()), (st (min 41 40), ()), ())) := by
  have e : st (min (41 - 1) 40) = st 40 := congrArg st (by decide)
  rw [e, g46, decide_eq_true h, w_41]
  rfl
theorem s_42 (n : Int) (h : ((42 : Nat) : Int) ≤ n) : G_4_6 n ((42 : Nat) : Int) (st (min (42 - 1) 40), ()) = some (Sum.inl ((n, (), ((42 + 1 : Nat) : Int), ()), (st (min 42 40), ()), ())) := by
  have e : st (min (42 - 1) 40) = st 40 := congrArg st (by decide)
  rw [e, g46, decide_eq_true h, w_42]
  rfl
theorem s_43 (n : Int) (h : ((43 : Nat) : Int) ≤ n) : G_4_6 n ((43 : Nat) : Int) (st (min (43 - 1) 40), ()) = some (Sum.inl ((n, (), ((43 + 1 : Nat) : Int), ()), (st (min 43 40), ()), ())) := by
  have e : st (min (43 - 1) 40) = st 40 := congrArg st (by decide)
  rw [e, g46, decide_eq_true h, w_43]
  rfl
theorem s_44 (n : Int) (h : ((44 : Nat) : Int) ≤ n) : G_4_6 n ((44 : Nat) : Int) (st (min (44 - 1) 40), ()) = some (Sum.inl ((n, (), ((44 + 1 : Nat) : Int), ()), (st (min 44 40), ()), ())) := by
  have e : st (min (44 - 1) 40) = st 40 := congrArg st (by decide)
  rw [e, g46, decide_eq_true h, w_44]
  rfl
theorem s_45 (n : Int) (h : ((45 : Nat) : Int) ≤ n) : G_4_6 n ((45 : Nat) : Int) (st (min (45 - 1) 40), ()) = some (Sum.inl ((n, (), ((45 + 1 : Nat) : Int), ()), (st (min 45 40), ()), ())) := by
  have e : st (min (45 - 1) 40) = st 40 := congrArg st (by decide)
  rw [e, g46, decide_eq_true h, w_45]
  rfl
theorem s_46 (n : Int) (h : ((46 : Nat) : Int) ≤ n) : G_4_6 n ((46 : Nat) : Int) (st (min (46 - 1) 40), ()) = some (Sum.inl ((n, (), ((46 + 1 : Nat) : Int), ()), (st (min 46 40), ()), ())) := by
  have e : st (min (46 - 1) 40) = st 40 := congrArg st (by decide)
  rw [e, g46, decide_eq_true h, w_46]
  rfl
theorem s_47 (n : Int) (h : ((47 : Nat) : Int) ≤ n) : G_4_6 n ((47 : Nat) : Int) (st (min (47 - 1) 40), ()) = some (Sum.inl ((n, (), ((47 + 1 : Nat) : Int), ()), (st (min 47 40), ()), ())) := by
  have e : st (min (47 - 1) 40) = st 40 := congrArg st (by decide)
  rw [e, g46, decide_eq_true h, w_47]
  rfl
theorem s_48 (n : Int) (h : ((48 : Nat) : Int) ≤ n) : G_4_6 n ((48 : Nat) : Int) (st (min (48 - 1) 40), ()) = some (Sum.inl ((n, (), ((48 + 1 : Nat) : Int), ()), (st (min 48 40), ()), ())) := by
  have e : st (min (48 - 1) 40) = st 40 := congrArg st (by decide)
  rw [e, g46, decide_eq_true h, w_48]
  rfl
theorem s_49 (n : Int) (h : ((49 : Nat) : Int) ≤ n) : G_4_6 n ((49 : Nat) : Int) (st (min (49 - 1) 40), ()) = some (Sum.inl ((n, (), ((49 + 1 : Nat) : Int), ()), (st (min 49 40), ()), ())) := by
  have e : st (min (49 - 1) 40) = st 40 := congrArg st (by decide)
  rw [e, g46, decide_eq_true h, w_49]
  rfl
theorem s_50 (n : Int) (h : ((50 : Nat) : Int) ≤ n) : G_4_6 n ((50 : Nat) : Int) (st (min (50 - 1) 40), ()) = some (Sum.inl ((n, (), ((50 + 1 : Nat) : Int), ()), (st (min 50 40), ()), ())) := by
  have e : st (min (50 - 1) 40) = st 40 := congrArg st (by decide)
  rw [e, g46, decide_eq_true h, w_50]
  rfl
theorem steps (n : Int) (k : Nat) (h1 : 1 ≤ k) (h2 : k ≤ 50) (h : (k : Int) ≤ n) : G_4_6 n (k : Int) (st (min (k - 1) 40), ()) = some (Sum.inl ((n, (), ((k + 1 : Nat) : Int), ()), (st (min k 40), ()), ())) := by
  have hk : k = 1 ∨ k = 2 ∨ k = 3 ∨ k = 4 ∨ k = 5 ∨ k = 6 ∨ k = 7 ∨ k = 8 ∨ k = 9 ∨ k = 10 ∨ k = 11 ∨ k = 12 ∨ k = 13 ∨ k = 14 ∨ k = 15 ∨ k = 16 ∨ k = 17 ∨ k = 18 ∨ k = 19 ∨ k = 20 ∨ k = 21 ∨ k = 22 ∨ k = 23 ∨ k = 24 ∨ k = 25 ∨ k = 26 ∨ k = 27 ∨ k = 28 ∨ k = 29 ∨ k = 30 ∨ k = 31 ∨ k = 32 ∨ k = 33 ∨ k = 34 ∨ k = 35 ∨ k = 36 ∨ k = 37 ∨ k = 38 ∨ k = 39 ∨ k = 40 ∨ k = 41 ∨ k = 42 ∨ k = 43 ∨ k = 44 ∨ k = 45 ∨ k = 46 ∨ k = 47 ∨ k = 48 ∨ k = 49 ∨ k = 50 := by omega
  rcases hk with e | e | e | e | e | e | e | e | e | e | e | e | e | e | e | e | e | e | e | e | e | e | e | e | e | e | e | e | e | e | e | e | e | e | e | e | e | e | e | e | e | e | e | e | e | e | e | e | e | e <;> subst e
  · exact s_1 n h
  · exact s_2 n h
  · exact s_3 n h
  · exact s_4 n h
  · exact s_5 n h
  · exact s_6 n h
  · exact s_7 n h
  · exact s_8 n h
  · exact s_9 n h
  · exact s_10 n h
  · exact s_11 n h
  · exact s_12 n h
  · exact s_13 n h
  · exact s_14 n h
  · exact s_15 n h
  · exact s_16 n h
  · exact s_17 n h
  · exact s_18 n h
  · exact s_19 n h
  · exact s_20 n h
  · exact s_21 n h
  · exact s_22 n h
  · exact s_23 n h
  · exact s_24 n h
  · exact s_25 n h
  · exact s_26 n h
  · exact s_27 n h
  · exact s_28 n h
  · exact s_29 n h
  · exact s_30 n h
  · exact s_31 n h
  · exact s_32 n h
  · exact s_33 n h
  · exact s_34 n h
  · exact s_35 n h
  · exact s_36 n h
  · exact s_37 n h
  · exact s_38 n h
  · exact s_39 n h
  · exact s_40 n h
  · exact s_41 n h
  · exact s_42 n h
  · exact s_43 n h
  · exact s_44 n h
  · exact s_45 n h
  · exact s_46 n h
  · exact s_47 n h
  · exact s_48 n h
  · exact s_49 n h
  · exact s_50 n h
theorem run4 (n : Nat) (hn : n ≤ 50) : ∀ (d k m : Nat), 1 ≤ k → k + d = n + 1 → d < m →
    roundsT (fun x => G_4_6 x.1.1 x.1.2.2.1 x.2.1) m (((n : Int), (), (k : Int), ()), (st (min (k - 1) 40), ()), ()) = some (Sum.inl (((n : Int), (), ()), (st (min n 40), ()), ()))
  | 0, k, m, h1, h2, h3 => by
    obtain ⟨m, rfl⟩ : ∃ m', m = m' + 1 := ⟨m - 1, by omega⟩
    have hk : k - 1 = n := by omega
    have hg : G_4_6 (n : Int) (k : Int) (st (min (k - 1) 40), ()) = some (Sum.inr (Sum.inl (((n : Int), (), ()), (st (min n 40), ()), ()))) := by
      rw [g46, decide_eq_false (by omega), hk]; rfl
    show Option.bind (G_4_6 (n : Int) (k : Int) (st (min (k - 1) 40), ())) _ = _
    rw [hg]; rfl
  | d + 1, k, m, h1, h2, h3 => by
    obtain ⟨m, rfl⟩ : ∃ m', m = m' + 1 := ⟨m - 1, by omega⟩
    show Option.bind (G_4_6 (n : Int) (k : Int) (st (min (k - 1) 40), ())) _ = _
    rw [steps (n : Int) k h1 (by omega) (by omega)]
    exact run4 n hn d (k + 1) m (by omega) (by omega) (by omega)
theorem tails (n : Nat) (hn : n ≤ 50) : tail4 (n : Int) (st (min n 40)) = some (true, ()) := by
  have hk : n = 0 ∨ n = 1 ∨ n = 2 ∨ n = 3 ∨ n = 4 ∨ n = 5 ∨ n = 6 ∨ n = 7 ∨ n = 8 ∨ n = 9 ∨ n = 10 ∨ n = 11 ∨ n = 12 ∨ n = 13 ∨ n = 14 ∨ n = 15 ∨ n = 16 ∨ n = 17 ∨ n = 18 ∨ n = 19 ∨ n = 20 ∨ n = 21 ∨ n = 22 ∨ n = 23 ∨ n = 24 ∨ n = 25 ∨ n = 26 ∨ n = 27 ∨ n = 28 ∨ n = 29 ∨ n = 30 ∨ n = 31 ∨ n = 32 ∨ n = 33 ∨ n = 34 ∨ n = 35 ∨ n = 36 ∨ n = 37 ∨ n = 38 ∨ n = 39 ∨ n = 40 ∨ n = 41 ∨ n = 42 ∨ n = 43 ∨ n = 44 ∨ n = 45 ∨ n = 46 ∨ n = 47 ∨ n = 48 ∨ n = 49 ∨ n = 50 := by omega
  rcases hk with e | e | e | e | e | e | e | e | e | e | e | e | e | e | e | e | e | e | e | e | e | e | e | e | e | e | e | e | e | e | e | e | e | e | e | e | e | e | e | e | e | e | e | e | e | e | e | e | e | e | e <;> subst e
  · exact z_0
  · exact z_1
  · exact z_2
  · exact z_3
  · exact z_4
  · exact z_5
  · exact z_6
  · exact z_7
  · exact z_8
  · exact z_9
  · exact z_10
  · exact z_11
  · exact z_12
  · exact z_13
  · exact z_14
  · exact z_15
  · exact z_16
  · exact z_17
  · exact z_18
  · exact z_19
  · exact z_20
  · exact z_21
  · exact z_22
  · exact z_23
  · exact z_24
  · exact z_25
  · exact z_26
  · exact z_27
  · exact z_28
  · exact z_29
  · exact z_30
  · exact z_31
  · exact z_32
  · exact z_33
  · exact z_34
  · exact z_35
  · exact z_36
  · exact z_37
  · exact z_38
  · exact z_39
  · exact z_40
  · exact z_41
  · exact z_42
  · exact z_43
  · exact z_44
  · exact z_45
  · exact z_46
  · exact z_47
  · exact z_48
  · exact z_49
  · exact z_50
theorem many_one (n : Nat) (hn : n ≤ 50) : F_4 (n : Int) = some (true, ()) := by
  have h1 : ((R_4_6 (((n : Int), (), (1 : Int), ()), (((0, 0), (100 : Int), []), ()), ())).bind fun v11 => Sum.elim (fun v12 => tail4 v12.1.1 v12.2.1.1) (fun v17 => some (v17.1.1, ())) v11) = some (true, ()) := by
    have h2 : R_4_6 (((n : Int), (), (1 : Int), ()), (((0, 0), (100 : Int), []), ()), ()) = some (Sum.inl (((n : Int), (), ()), (st (min n 40), ()), ())) :=
      run4 n hn n 1 fuel (by omega) (by omega) (by unfold fuel; omega)
    rw [h2]
    exact tails n hn
  unfold F_4
  rw [decide_eq_false (by omega : ¬ ((n : Int) < 0)), decide_eq_false (by omega : ¬ ((n : Int) > 50)), alive16]
  exact h1
theorem many_all (a : Int) : F_4 a = some (true, ()) := by
  by_cases h1 : a < 0
  · unfold F_4
    rw [decide_eq_true h1, alive16]; rfl
  · by_cases h2 : a > 50
    · unfold F_4
      rw [decide_eq_false h1, decide_eq_true h2, alive16]; rfl
    · obtain ⟨n, rfl⟩ : ∃ n : Nat, a = (n : Int) := ⟨a.toNat, by omega⟩
      exact many_one n (by omega)
end Go.DI.S
