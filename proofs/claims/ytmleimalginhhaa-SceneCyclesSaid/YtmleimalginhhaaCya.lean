import Derived.Test.YtmleimalginhhaaSb
/-! SceneCycles, run: range(1, 15). -/
set_option maxRecDepth 100000
set_option maxHeartbeats 0
namespace Go.DI.S
theorem v3_1 : F_3 1 = some (true, ()) := by kernel_rfl
theorem v3_2 : F_3 2 = some (true, ()) := by kernel_rfl
theorem v3_3 : F_3 3 = some (true, ()) := by kernel_rfl
theorem v3_4 : F_3 4 = some (true, ()) := by kernel_rfl
theorem v3_5 : F_3 5 = some (true, ()) := by kernel_rfl
theorem v3_6 : F_3 6 = some (true, ()) := by kernel_rfl
theorem v3_7 : F_3 7 = some (true, ()) := by kernel_rfl
theorem v3_8 : F_3 8 = some (true, ()) := by kernel_rfl
theorem v3_9 : F_3 9 = some (true, ()) := by kernel_rfl
theorem v3_10 : F_3 10 = some (true, ()) := by kernel_rfl
theorem v3_11 : F_3 11 = some (true, ()) := by kernel_rfl
theorem v3_12 : F_3 12 = some (true, ()) := by kernel_rfl
theorem v3_13 : F_3 13 = some (true, ()) := by kernel_rfl
theorem v3_14 : F_3 14 = some (true, ()) := by kernel_rfl
end Go.DI.S
