import Derived.Test.YtmleimalginhhaaMn0
/- SceneMany: the last things that are put in. No conditions. -/
set_option maxRecDepth 100000
set_option maxHeartbeats 0
namespace Go.DI.S
theorem w_36 : F_18 (st (36 - 1)) (ball ((36 : Nat) : Int)) = some (st 36, (0 : Int), ()) := by kernel_rfl
theorem w_37 : F_18 (st (37 - 1)) (ball ((37 : Nat) : Int)) = some (st 37, (0 : Int), ()) := by kernel_rfl
theorem w_38 : F_18 (st (38 - 1)) (ball ((38 : Nat) : Int)) = some (st 38, (0 : Int), ()) := by kernel_rfl
theorem w_39 : F_18 (st (39 - 1)) (ball ((39 : Nat) : Int)) = some (st 39, (0 : Int), ()) := by kernel_rfl
theorem w_40 : F_18 (st (40 - 1)) (ball ((40 : Nat) : Int)) = some (st 40, (0 : Int), ()) := by kernel_rfl
end Go.DI.S
