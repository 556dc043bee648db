import Derived.Test.YtmleimalginhhaaPa
/- PastBound, run at 54 to 60. No conditions. -/
set_option maxRecDepth 100000
set_option maxHeartbeats 0
namespace Go.DI.S
theorem v8_54 : F_8 (54 : Int) = some (true, ()) := by kernel_rfl
theorem v8_55 : F_8 (55 : Int) = some (true, ()) := by kernel_rfl
theorem v8_56 : F_8 (56 : Int) = some (true, ()) := by kernel_rfl
theorem v8_57 : F_8 (57 : Int) = some (true, ()) := by kernel_rfl
theorem v8_58 : F_8 (58 : Int) = some (true, ()) := by kernel_rfl
theorem v8_59 : F_8 (59 : Int) = some (true, ()) := by kernel_rfl
theorem v8_60 : F_8 (60 : Int) = some (true, ()) := by kernel_rfl
end Go.DI.S
