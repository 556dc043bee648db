import Derived.Test.YtmleimalginhhaaSb
/-! SceneCycles, run: [20]. -/
set_option maxRecDepth 100000
set_option maxHeartbeats 0
namespace Go.DI.S
theorem v3_20 : F_3 20 = some (true, ()) := by kernel_rfl
end Go.DI.S
