import Derived.Test.YtmleimalginhhaaSb
/-! SceneCycles, run: range(15, 18). -/
set_option maxRecDepth 100000
set_option maxHeartbeats 0
namespace Go.DI.S
theorem v3_15 : F_3 15 = some (true, ()) := by kernel_rfl
theorem v3_16 : F_3 16 = some (true, ()) := by kernel_rfl
theorem v3_17 : F_3 17 = some (true, ()) := by kernel_rfl
end Go.DI.S
