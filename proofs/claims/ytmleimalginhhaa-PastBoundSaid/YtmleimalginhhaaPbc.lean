import Derived.Test.YtmleimalginhhaaPa
/- PastBound, run at 45 to 53. No conditions. -/
set_option maxRecDepth 100000
set_option maxHeartbeats 0
namespace Go.DI.S
theorem v8_45 : F_8 (45 : Int) = some (true, ()) := by kernel_rfl
theorem v8_46 : F_8 (46 : Int) = some (true, ()) := by kernel_rfl
theorem v8_47 : F_8 (47 : Int) = some (true, ()) := by kernel_rfl
theorem v8_48 : F_8 (48 : Int) = some (true, ()) := by kernel_rfl
theorem v8_49 : F_8 (49 : Int) = some (true, ()) := by kernel_rfl
theorem v8_50 : F_8 (50 : Int) = some (true, ()) := by kernel_rfl
theorem v8_51 : F_8 (51 : Int) = some (true, ()) := by kernel_rfl
theorem v8_52 : F_8 (52 : Int) = some (true, ()) := by kernel_rfl
theorem v8_53 : F_8 (53 : Int) = some (true, ()) := by kernel_rfl
end Go.DI.S
