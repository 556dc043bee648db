import Derived.Test.YtmleimalginhhaaPa
/- PastBound, run at 0 to 33. No conditions. -/
set_option maxRecDepth 100000
set_option maxHeartbeats 0
namespace Go.DI.S
theorem alive30 : F_30 = some (true, ()) := by kernel_rfl
theorem v8_0 : F_8 (0 : Int) = some (true, ()) := by kernel_rfl
theorem v8_1 : F_8 (1 : Int) = some (true, ()) := by kernel_rfl
theorem v8_2 : F_8 (2 : Int) = some (true, ()) := by kernel_rfl
theorem v8_3 : F_8 (3 : Int) = some (true, ()) := by kernel_rfl
theorem v8_4 : F_8 (4 : Int) = some (true, ()) := by kernel_rfl
theorem v8_5 : F_8 (5 : Int) = some (true, ()) := by kernel_rfl
theorem v8_6 : F_8 (6 : Int) = some (true, ()) := by kernel_rfl
theorem v8_7 : F_8 (7 : Int) = some (true, ()) := by kernel_rfl
theorem v8_8 : F_8 (8 : Int) = some (true, ()) := by kernel_rfl
theorem v8_9 : F_8 (9 : Int) = some (true, ()) := by kernel_rfl
theorem v8_10 : F_8 (10 : Int) = some (true, ()) := by kernel_rfl
theorem v8_11 : F_8 (11 : Int) = some (true, ()) := by kernel_rfl
theorem v8_12 : F_8 (12 : Int) = some (true, ()) := by kernel_rfl
theorem v8_13 : F_8 (13 : Int) = some (true, ()) := by kernel_rfl
theorem v8_14 : F_8 (14 : Int) = some (true, ()) := by kernel_rfl
theorem v8_15 : F_8 (15 : Int) = some (true, ()) := by kernel_rfl
theorem v8_16 : F_8 (16 : Int) = some (true, ()) := by kernel_rfl
theorem v8_17 : F_8 (17 : Int) = some (true, ()) := by kernel_rfl
theorem v8_18 : F_8 (18 : Int) = some (true, ()) := by kernel_rfl
theorem v8_19 : F_8 (19 : Int) = some (true, ()) := by kernel_rfl
theorem v8_20 : F_8 (20 : Int) = some (true, ()) := by kernel_rfl
theorem v8_21 : F_8 (21 : Int) = some (true, ()) := by kernel_rfl
theorem v8_22 : F_8 (22 : Int) = some (true, ()) := by kernel_rfl
theorem v8_23 : F_8 (23 : Int) = some (true, ()) := by kernel_rfl
theorem v8_24 : F_8 (24 : Int) = some (true, ()) := by kernel_rfl
theorem v8_25 : F_8 (25 : Int) = some (true, ()) := by kernel_rfl
theorem v8_26 : F_8 (26 : Int) = some (true, ()) := by kernel_rfl
theorem v8_27 : F_8 (27 : Int) = some (true, ()) := by kernel_rfl
theorem v8_28 : F_8 (28 : Int) = some (true, ()) := by kernel_rfl
theorem v8_29 : F_8 (29 : Int) = some (true, ()) := by kernel_rfl
theorem v8_30 : F_8 (30 : Int) = some (true, ()) := by kernel_rfl
theorem v8_31 : F_8 (31 : Int) = some (true, ()) := by kernel_rfl
theorem v8_32 : F_8 (32 : Int) = some (true, ()) := by kernel_rfl
theorem v8_33 : F_8 (33 : Int) = some (true, ()) := by kernel_rfl
end Go.DI.S
