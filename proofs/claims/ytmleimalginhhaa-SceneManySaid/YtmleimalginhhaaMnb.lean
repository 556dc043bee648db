import Derived.Test.YtmleimalginhhaaMn0
/- SceneMany: more things that are put in. No conditions. -/
set_option maxRecDepth 100000
set_option maxHeartbeats 0
namespace Go.DI.S
theorem w_29 : F_18 (st (29 - 1)) (ball ((29 : Nat) : Int)) = some (st 29, (0 : Int), ()) := by kernel_rfl
theorem w_30 : F_18 (st (30 - 1)) (ball ((30 : Nat) : Int)) = some (st 30, (0 : Int), ()) := by kernel_rfl
theorem w_31 : F_18 (st (31 - 1)) (ball ((31 : Nat) : Int)) = some (st 31, (0 : Int), ()) := by kernel_rfl
theorem w_32 : F_18 (st (32 - 1)) (ball ((32 : Nat) : Int)) = some (st 32, (0 : Int), ()) := by kernel_rfl
theorem w_33 : F_18 (st (33 - 1)) (ball ((33 : Nat) : Int)) = some (st 33, (0 : Int), ()) := by kernel_rfl
theorem w_34 : F_18 (st (34 - 1)) (ball ((34 : Nat) : Int)) = some (st 34, (0 : Int), ()) := by kernel_rfl
theorem w_35 : F_18 (st (35 - 1)) (ball ((35 : Nat) : Int)) = some (st 35, (0 : Int), ()) := by kernel_rfl
end Go.DI.S
