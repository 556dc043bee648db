import Derived.Test.YtmleimalginhhaaPa
/- PastBound, run at 34 to 44. No conditions. -/
set_option maxRecDepth 100000
set_option maxHeartbeats 0
namespace Go.DI.S
theorem v8_34 : F_8 (34 : Int) = some (true, ()) := by kernel_rfl
theorem v8_35 : F_8 (35 : Int) = some (true, ()) := by kernel_rfl
theorem v8_36 : F_8 (36 : Int) = some (true, ()) := by kernel_rfl
theorem v8_37 : F_8 (37 : Int) = some (true, ()) := by kernel_rfl
theorem v8_38 : F_8 (38 : Int) = some (true, ()) := by kernel_rfl
theorem v8_39 : F_8 (39 : Int) = some (true, ()) := by kernel_rfl
theorem v8_40 : F_8 (40 : Int) = some (true, ()) := by kernel_rfl
theorem v8_41 : F_8 (41 : Int) = some (true, ()) := by kernel_rfl
theorem v8_42 : F_8 (42 : Int) = some (true, ()) := by kernel_rfl
theorem v8_43 : F_8 (43 : Int) = some (true, ()) := by kernel_rfl
theorem v8_44 : F_8 (44 : Int) = some (true, ()) := by kernel_rfl
end Go.DI.S
