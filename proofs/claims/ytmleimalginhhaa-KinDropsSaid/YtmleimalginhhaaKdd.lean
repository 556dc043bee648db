import Derived.Test.YtmleimalginhhaaKa
/- KinDrops, run: part d. No conditions. -/
set_option maxRecDepth 100000
set_option maxHeartbeats 0
namespace Go.DI.S
theorem e12_5 : ∀ a, F_12 5 a = B12 5 (S9 5) (at12 5 a) := fun a => by kernel_rfl
theorem e12_9 : ∀ a, F_12 9 a = B12 9 (S9 9) (at12 9 a) := fun a => by kernel_rfl
theorem e12_13 : ∀ a, F_12 13 a = B12 13 (S9 13) (at12 13 a) := fun a => by kernel_rfl
theorem v12_3_3 : B12 3 (S9 3) 3 = some (true, ()) := by kernel_rfl
theorem v12_4_1 : B12 4 (S9 4) 1 = some (true, ()) := by kernel_rfl
theorem v12_4_3 : B12 4 (S9 4) 3 = some (true, ()) := by kernel_rfl
theorem v12_5_2 : B12 5 (S9 5) 2 = some (true, ()) := by kernel_rfl
theorem v12_6_4 : B12 6 (S9 6) 4 = some (true, ()) := by kernel_rfl
theorem v12_7_2 : B12 7 (S9 7) 2 = some (true, ()) := by kernel_rfl
theorem v12_7_6 : B12 7 (S9 7) 6 = some (true, ()) := by kernel_rfl
theorem v12_8_2 : B12 8 (S9 8) 2 = some (true, ()) := by kernel_rfl
theorem v12_8_6 : B12 8 (S9 8) 6 = some (true, ()) := by kernel_rfl
theorem v12_9_3 : B12 9 (S9 9) 3 = some (true, ()) := by kernel_rfl
theorem v12_9_7 : B12 9 (S9 9) 7 = some (true, ()) := by kernel_rfl
theorem v12_10_2 : B12 10 (S9 10) 2 = some (true, ()) := by kernel_rfl
theorem v12_10_5 : B12 10 (S9 10) 5 = some (true, ()) := by kernel_rfl
theorem v12_10_9 : B12 10 (S9 10) 9 = some (true, ()) := by kernel_rfl
theorem v12_11_1 : B12 11 (S9 11) 1 = some (true, ()) := by kernel_rfl
theorem v12_11_5 : B12 11 (S9 11) 5 = some (true, ()) := by kernel_rfl
theorem v12_11_9 : B12 11 (S9 11) 9 = some (true, ()) := by kernel_rfl
theorem v12_12_5 : B12 12 (S9 12) 5 = some (true, ()) := by kernel_rfl
theorem v12_12_9 : B12 12 (S9 12) 9 = some (true, ()) := by kernel_rfl
theorem v12_13_4 : B12 13 (S9 13) 4 = some (true, ()) := by kernel_rfl
theorem v12_13_8 : B12 13 (S9 13) 8 = some (true, ()) := by kernel_rfl
theorem v12_13_12 : B12 13 (S9 13) 12 = some (true, ()) := by kernel_rfl
theorem v12_14_1 : B12 14 (S9 14) 1 = some (true, ()) := by kernel_rfl
theorem v12_14_2 : B12 14 (S9 14) 2 = some (true, ()) := by kernel_rfl
theorem v12_14_6 : B12 14 (S9 14) 6 = some (true, ()) := by kernel_rfl
theorem v12_14_10 : B12 14 (S9 14) 10 = some (true, ()) := by kernel_rfl
theorem v12_14_14 : B12 14 (S9 14) 14 = some (true, ()) := by kernel_rfl
theorem v12_15_4 : B12 15 (S9 15) 4 = some (true, ()) := by kernel_rfl
theorem v12_15_8 : B12 15 (S9 15) 8 = some (true, ()) := by kernel_rfl
theorem v12_15_12 : B12 15 (S9 15) 12 = some (true, ()) := by kernel_rfl
end Go.DI.S
