import Derived.Test.YtmleimalginhhaaSb
/-! SceneCycles, run: range(18, 20). -/
set_option maxRecDepth 100000
set_option maxHeartbeats 0
namespace Go.DI.S
theorem v3_18 : F_3 18 = some (true, ()) := by kernel_rfl
theorem v3_19 : F_3 19 = some (true, ()) := by kernel_rfl
end Go.DI.S
