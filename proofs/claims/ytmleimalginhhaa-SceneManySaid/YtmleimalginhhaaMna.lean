import Derived.Test.YtmleimalginhhaaMn0
/- SceneMany: the first things that are put in. No conditions. -/
set_option maxRecDepth 100000
set_option maxHeartbeats 0
namespace Go.DI.S
theorem w_1 : F_18 (st (1 - 1)) (ball ((1 : Nat) : Int)) = some (st 1, (0 : Int), ()) := by kernel_rfl
theorem w_2 : F_18 (st (2 - 1)) (ball ((2 : Nat) : Int)) = some (st 2, (0 : Int), ()) := by kernel_rfl
theorem w_3 : F_18 (st (3 - 1)) (ball ((3 : Nat) : Int)) = some (st 3, (0 : Int), ()) := by kernel_rfl
theorem w_4 : F_18 (st (4 - 1)) (ball ((4 : Nat) : Int)) = some (st 4, (0 : Int), ()) := by kernel_rfl
theorem w_5 : F_18 (st (5 - 1)) (ball ((5 : Nat) : Int)) = some (st 5, (0 : Int), ()) := by kernel_rfl
theorem w_6 : F_18 (st (6 - 1)) (ball ((6 : Nat) : Int)) = some (st 6, (0 : Int), ()) := by kernel_rfl
theorem w_7 : F_18 (st (7 - 1)) (ball ((7 : Nat) : Int)) = some (st 7, (0 : Int), ()) := by kernel_rfl
theorem w_8 : F_18 (st (8 - 1)) (ball ((8 : Nat) : Int)) = some (st 8, (0 : Int), ()) := by kernel_rfl
theorem w_9 : F_18 (st (9 - 1)) (ball ((9 : Nat) : Int)) = some (st 9, (0 : Int), ()) := by kernel_rfl
theorem w_10 : F_18 (st (10 - 1)) (ball ((10 : Nat) : Int)) = some (st 10, (0 : Int), ()) := by kernel_rfl
theorem w_11 : F_18 (st (11 - 1)) (ball ((11 : Nat) : Int)) = some (st 11, (0 : Int), ()) := by kernel_rfl
theorem w_12 : F_18 (st (12 - 1)) (ball ((12 : Nat) : Int)) = some (st 12, (0 : Int), ()) := by kernel_rfl
theorem w_13 : F_18 (st (13 - 1)) (ball ((13 : Nat) : Int)) = some (st 13, (0 : Int), ()) := by kernel_rfl
theorem w_14 : F_18 (st (14 - 1)) (ball ((14 : Nat) : Int)) = some (st 14, (0 : Int), ()) := by kernel_rfl
theorem w_15 : F_18 (st (15 - 1)) (ball ((15 : Nat) : Int)) = some (st 15, (0 : Int), ()) := by kernel_rfl
theorem w_16 : F_18 (st (16 - 1)) (ball ((16 : Nat) : Int)) = some (st 16, (0 : Int), ()) := by kernel_rfl
theorem w_17 : F_18 (st (17 - 1)) (ball ((17 : Nat) : Int)) = some (st 17, (0 : Int), ()) := by kernel_rfl
theorem w_18 : F_18 (st (18 - 1)) (ball ((18 : Nat) : Int)) = some (st 18, (0 : Int), ()) := by kernel_rfl
theorem w_19 : F_18 (st (19 - 1)) (ball ((19 : Nat) : Int)) = some (st 19, (0 : Int), ()) := by kernel_rfl
theorem w_20 : F_18 (st (20 - 1)) (ball ((20 : Nat) : Int)) = some (st 20, (0 : Int), ()) := by kernel_rfl
theorem w_21 : F_18 (st (21 - 1)) (ball ((21 : Nat) : Int)) = some (st 21, (0 : Int), ()) := by kernel_rfl
theorem w_22 : F_18 (st (22 - 1)) (ball ((22 : Nat) : Int)) = some (st 22, (0 : Int), ()) := by kernel_rfl
theorem w_23 : F_18 (st (23 - 1)) (ball ((23 : Nat) : Int)) = some (st 23, (0 : Int), ()) := by kernel_rfl
theorem w_24 : F_18 (st (24 - 1)) (ball ((24 : Nat) : Int)) = some (st 24, (0 : Int), ()) := by kernel_rfl
theorem w_25 : F_18 (st (25 - 1)) (ball ((25 : Nat) : Int)) = some (st 25, (0 : Int), ()) := by kernel_rfl
theorem w_26 : F_18 (st (26 - 1)) (ball ((26 : Nat) : Int)) = some (st 26, (0 : Int), ()) := by kernel_rfl
theorem w_27 : F_18 (st (27 - 1)) (ball ((27 : Nat) : Int)) = some (st 27, (0 : Int), ()) := by kernel_rfl
theorem w_28 : F_18 (st (28 - 1)) (ball ((28 : Nat) : Int)) = some (st 28, (0 : Int), ()) := by kernel_rfl
end Go.DI.S
