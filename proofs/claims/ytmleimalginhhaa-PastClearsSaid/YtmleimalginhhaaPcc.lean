import Derived.Test.YtmleimalginhhaaPd
/- PastClears, run. No conditions. -/
set_option maxRecDepth 100000
set_option maxHeartbeats 0
namespace Go.DI.S
theorem v9_14_7 : F_9 (14 : Int) (7 : Int) = some (true, ()) := by kernel_rfl
theorem v9_14_8 : F_9 (14 : Int) (8 : Int) = some (true, ()) := by kernel_rfl
theorem v9_14_9 : F_9 (14 : Int) (9 : Int) = some (true, ()) := by kernel_rfl
theorem v9_14_10 : F_9 (14 : Int) (10 : Int) = some (true, ()) := by kernel_rfl
theorem v9_14_11 : F_9 (14 : Int) (11 : Int) = some (true, ()) := by kernel_rfl
theorem v9_14_12 : F_9 (14 : Int) (12 : Int) = some (true, ()) := by kernel_rfl
theorem v9_14_13 : F_9 (14 : Int) (13 : Int) = some (true, ()) := by kernel_rfl
theorem v9_14_14 : F_9 (14 : Int) (14 : Int) = some (true, ()) := by kernel_rfl
theorem v9_15_0 : F_9 (15 : Int) (0 : Int) = some (true, ()) := by kernel_rfl
theorem v9_15_1 : F_9 (15 : Int) (1 : Int) = some (true, ()) := by kernel_rfl
theorem v9_15_2 : F_9 (15 : Int) (2 : Int) = some (true, ()) := by kernel_rfl
theorem v9_15_3 : F_9 (15 : Int) (3 : Int) = some (true, ()) := by kernel_rfl
theorem v9_15_4 : F_9 (15 : Int) (4 : Int) = some (true, ()) := by kernel_rfl
theorem v9_15_5 : F_9 (15 : Int) (5 : Int) = some (true, ()) := by kernel_rfl
theorem v9_15_6 : F_9 (15 : Int) (6 : Int) = some (true, ()) := by kernel_rfl
theorem v9_15_7 : F_9 (15 : Int) (7 : Int) = some (true, ()) := by kernel_rfl
theorem v9_15_8 : F_9 (15 : Int) (8 : Int) = some (true, ()) := by kernel_rfl
theorem v9_15_9 : F_9 (15 : Int) (9 : Int) = some (true, ()) := by kernel_rfl
theorem v9_15_10 : F_9 (15 : Int) (10 : Int) = some (true, ()) := by kernel_rfl
theorem v9_15_11 : F_9 (15 : Int) (11 : Int) = some (true, ()) := by kernel_rfl
theorem v9_15_12 : F_9 (15 : Int) (12 : Int) = some (true, ()) := by kernel_rfl
theorem v9_15_13 : F_9 (15 : Int) (13 : Int) = some (true, ()) := by kernel_rfl
end Go.DI.S
