import Derived.Test.YtmleimalginhhaaPd
/- PastClears, run. No conditions. -/
set_option maxRecDepth 100000
set_option maxHeartbeats 0
namespace Go.DI.S
theorem v9_15_14 : F_9 (15 : Int) (14 : Int) = some (true, ()) := by kernel_rfl
theorem v9_15_15 : F_9 (15 : Int) (15 : Int) = some (true, ()) := by kernel_rfl
theorem v9_16_0 : F_9 (16 : Int) (0 : Int) = some (true, ()) := by kernel_rfl
theorem v9_16_1 : F_9 (16 : Int) (1 : Int) = some (true, ()) := by kernel_rfl
theorem v9_16_2 : F_9 (16 : Int) (2 : Int) = some (true, ()) := by kernel_rfl
theorem v9_16_3 : F_9 (16 : Int) (3 : Int) = some (true, ()) := by kernel_rfl
theorem v9_16_4 : F_9 (16 : Int) (4 : Int) = some (true, ()) := by kernel_rfl
theorem v9_16_5 : F_9 (16 : Int) (5 : Int) = some (true, ()) := by kernel_rfl
theorem v9_16_6 : F_9 (16 : Int) (6 : Int) = some (true, ()) := by kernel_rfl
theorem v9_16_7 : F_9 (16 : Int) (7 : Int) = some (true, ()) := by kernel_rfl
theorem v9_16_8 : F_9 (16 : Int) (8 : Int) = some (true, ()) := by kernel_rfl
theorem v9_16_9 : F_9 (16 : Int) (9 : Int) = some (true, ()) := by kernel_rfl
theorem v9_16_10 : F_9 (16 : Int) (10 : Int) = some (true, ()) := by kernel_rfl
theorem v9_16_11 : F_9 (16 : Int) (11 : Int) = some (true, ()) := by kernel_rfl
theorem v9_16_12 : F_9 (16 : Int) (12 : Int) = some (true, ()) := by kernel_rfl
theorem v9_16_13 : F_9 (16 : Int) (13 : Int) = some (true, ()) := by kernel_rfl
theorem v9_16_14 : F_9 (16 : Int) (14 : Int) = some (true, ()) := by kernel_rfl
theorem v9_16_15 : F_9 (16 : Int) (15 : Int) = some (true, ()) := by kernel_rfl
theorem v9_16_16 : F_9 (16 : Int) (16 : Int) = some (true, ()) := by kernel_rfl
end Go.DI.S
