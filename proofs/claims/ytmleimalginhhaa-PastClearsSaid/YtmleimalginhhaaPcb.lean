import Derived.Test.YtmleimalginhhaaPd
/- PastClears, run. No conditions. -/
set_option maxRecDepth 100000
set_option maxHeartbeats 0
namespace Go.DI.S
theorem v9_12_0 : F_9 (12 : Int) (0 : Int) = some (true, ()) := by kernel_rfl
theorem v9_12_1 : F_9 (12 : Int) (1 : Int) = some (true, ()) := by kernel_rfl
theorem v9_12_2 : F_9 (12 : Int) (2 : Int) = some (true, ()) := by kernel_rfl
theorem v9_12_3 : F_9 (12 : Int) (3 : Int) = some (true, ()) := by kernel_rfl
theorem v9_12_4 : F_9 (12 : Int) (4 : Int) = some (true, ()) := by kernel_rfl
theorem v9_12_5 : F_9 (12 : Int) (5 : Int) = some (true, ()) := by kernel_rfl
theorem v9_12_6 : F_9 (12 : Int) (6 : Int) = some (true, ()) := by kernel_rfl
theorem v9_12_7 : F_9 (12 : Int) (7 : Int) = some (true, ()) := by kernel_rfl
theorem v9_12_8 : F_9 (12 : Int) (8 : Int) = some (true, ()) := by kernel_rfl
theorem v9_12_9 : F_9 (12 : Int) (9 : Int) = some (true, ()) := by kernel_rfl
theorem v9_12_10 : F_9 (12 : Int) (10 : Int) = some (true, ()) := by kernel_rfl
theorem v9_12_11 : F_9 (12 : Int) (11 : Int) = some (true, ()) := by kernel_rfl
theorem v9_12_12 : F_9 (12 : Int) (12 : Int) = some (true, ()) := by kernel_rfl
theorem v9_13_0 : F_9 (13 : Int) (0 : Int) = some (true, ()) := by kernel_rfl
theorem v9_13_1 : F_9 (13 : Int) (1 : Int) = some (true, ()) := by kernel_rfl
theorem v9_13_2 : F_9 (13 : Int) (2 : Int) = some (true, ()) := by kernel_rfl
theorem v9_13_3 : F_9 (13 : Int) (3 : Int) = some (true, ()) := by kernel_rfl
theorem v9_13_4 : F_9 (13 : Int) (4 : Int) = some (true, ()) := by kernel_rfl
theorem v9_13_5 : F_9 (13 : Int) (5 : Int) = some (true, ()) := by kernel_rfl
theorem v9_13_6 : F_9 (13 : Int) (6 : Int) = some (true, ()) := by kernel_rfl
theorem v9_13_7 : F_9 (13 : Int) (7 : Int) = some (true, ()) := by kernel_rfl
theorem v9_13_8 : F_9 (13 : Int) (8 : Int) = some (true, ()) := by kernel_rfl
theorem v9_13_9 : F_9 (13 : Int) (9 : Int) = some (true, ()) := by kernel_rfl
theorem v9_13_10 : F_9 (13 : Int) (10 : Int) = some (true, ()) := by kernel_rfl
theorem v9_13_11 : F_9 (13 : Int) (11 : Int) = some (true, ()) := by kernel_rfl
theorem v9_13_12 : F_9 (13 : Int) (12 : Int) = some (true, ()) := by kernel_rfl
theorem v9_13_13 : F_9 (13 : Int) (13 : Int) = some (true, ()) := by kernel_rfl
theorem v9_14_0 : F_9 (14 : Int) (0 : Int) = some (true, ()) := by kernel_rfl
theorem v9_14_1 : F_9 (14 : Int) (1 : Int) = some (true, ()) := by kernel_rfl
theorem v9_14_2 : F_9 (14 : Int) (2 : Int) = some (true, ()) := by kernel_rfl
theorem v9_14_3 : F_9 (14 : Int) (3 : Int) = some (true, ()) := by kernel_rfl
theorem v9_14_4 : F_9 (14 : Int) (4 : Int) = some (true, ()) := by kernel_rfl
theorem v9_14_5 : F_9 (14 : Int) (5 : Int) = some (true, ()) := by kernel_rfl
theorem v9_14_6 : F_9 (14 : Int) (6 : Int) = some (true, ()) := by kernel_rfl
end Go.DI.S
