import Derived.Test.YtmleimalginhhaaKa
/- KinDrops, run: part c. No conditions. -/
set_option maxRecDepth 100000
set_option maxHeartbeats 0
namespace Go.DI.S
theorem e12_4 : ∀ a, F_12 4 a = B12 4 (S9 4) (at12 4 a) := fun a => by kernel_rfl
theorem e12_8 : ∀ a, F_12 8 a = B12 8 (S9 8) (at12 8 a) := fun a => by kernel_rfl
theorem e12_12 : ∀ a, F_12 12 a = B12 12 (S9 12) (at12 12 a) := fun a => by kernel_rfl
theorem v12_3_2 : B12 3 (S9 3) 2 = some (true, ()) := by kernel_rfl
theorem v12_5_1 : B12 5 (S9 5) 1 = some (true, ()) := by kernel_rfl
theorem v12_5_5 : B12 5 (S9 5) 5 = some (true, ()) := by kernel_rfl
theorem v12_6_3 : B12 6 (S9 6) 3 = some (true, ()) := by kernel_rfl
theorem v12_7_1 : B12 7 (S9 7) 1 = some (true, ()) := by kernel_rfl
theorem v12_7_5 : B12 7 (S9 7) 5 = some (true, ()) := by kernel_rfl
theorem v12_8_1 : B12 8 (S9 8) 1 = some (true, ()) := by kernel_rfl
theorem v12_8_5 : B12 8 (S9 8) 5 = some (true, ()) := by kernel_rfl
theorem v12_9_2 : B12 9 (S9 9) 2 = some (true, ()) := by kernel_rfl
theorem v12_9_6 : B12 9 (S9 9) 6 = some (true, ()) := by kernel_rfl
theorem v12_10_1 : B12 10 (S9 10) 1 = some (true, ()) := by kernel_rfl
theorem v12_10_4 : B12 10 (S9 10) 4 = some (true, ()) := by kernel_rfl
theorem v12_10_8 : B12 10 (S9 10) 8 = some (true, ()) := by kernel_rfl
theorem v12_11_4 : B12 11 (S9 11) 4 = some (true, ()) := by kernel_rfl
theorem v12_11_8 : B12 11 (S9 11) 8 = some (true, ()) := by kernel_rfl
theorem v12_12_2 : B12 12 (S9 12) 2 = some (true, ()) := by kernel_rfl
theorem v12_12_4 : B12 12 (S9 12) 4 = some (true, ()) := by kernel_rfl
theorem v12_12_8 : B12 12 (S9 12) 8 = some (true, ()) := by kernel_rfl
theorem v12_12_12 : B12 12 (S9 12) 12 = some (true, ()) := by kernel_rfl
theorem v12_13_3 : B12 13 (S9 13) 3 = some (true, ()) := by kernel_rfl
theorem v12_13_7 : B12 13 (S9 13) 7 = some (true, ()) := by kernel_rfl
theorem v12_13_11 : B12 13 (S9 13) 11 = some (true, ()) := by kernel_rfl
theorem v12_14_5 : B12 14 (S9 14) 5 = some (true, ()) := by kernel_rfl
theorem v12_14_9 : B12 14 (S9 14) 9 = some (true, ()) := by kernel_rfl
theorem v12_14_13 : B12 14 (S9 14) 13 = some (true, ()) := by kernel_rfl
theorem v12_15_3 : B12 15 (S9 15) 3 = some (true, ()) := by kernel_rfl
theorem v12_15_7 : B12 15 (S9 15) 7 = some (true, ()) := by kernel_rfl
theorem v12_15_11 : B12 15 (S9 15) 11 = some (true, ()) := by kernel_rfl
theorem v12_15_15 : B12 15 (S9 15) 15 = some (true, ()) := by kernel_rfl
end Go.DI.S
