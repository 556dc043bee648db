import Derived.Test.YtmleimalginhhaaKa
/- KinDrops, run: part a. No conditions. -/
set_option maxRecDepth 100000
set_option maxHeartbeats 0
namespace Go.DI.S
theorem e12_2 : ∀ a, F_12 2 a = B12 2 (S9 2) (at12 2 a) := fun a => by kernel_rfl
theorem e12_6 : ∀ a, F_12 6 a = B12 6 (S9 6) (at12 6 a) := fun a => by kernel_rfl
theorem e12_10 : ∀ a, F_12 10 a = B12 10 (S9 10) (at12 10 a) := fun a => by kernel_rfl
theorem e12_14 : ∀ a, F_12 14 a = B12 14 (S9 14) (at12 14 a) := fun a => by kernel_rfl
theorem v12_2_2 : B12 2 (S9 2) 2 = some (true, ()) := by kernel_rfl
theorem v12_3_1 : B12 3 (S9 3) 1 = some (true, ()) := by kernel_rfl
theorem v12_5_4 : B12 5 (S9 5) 4 = some (true, ()) := by kernel_rfl
theorem v12_6_1 : B12 6 (S9 6) 1 = some (true, ()) := by kernel_rfl
theorem v12_6_2 : B12 6 (S9 6) 2 = some (true, ()) := by kernel_rfl
theorem v12_6_6 : B12 6 (S9 6) 6 = some (true, ()) := by kernel_rfl
theorem v12_7_4 : B12 7 (S9 7) 4 = some (true, ()) := by kernel_rfl
theorem v12_8_4 : B12 8 (S9 8) 4 = some (true, ()) := by kernel_rfl
theorem v12_8_8 : B12 8 (S9 8) 8 = some (true, ()) := by kernel_rfl
theorem v12_9_5 : B12 9 (S9 9) 5 = some (true, ()) := by kernel_rfl
theorem v12_9_9 : B12 9 (S9 9) 9 = some (true, ()) := by kernel_rfl
theorem v12_10_3 : B12 10 (S9 10) 3 = some (true, ()) := by kernel_rfl
theorem v12_10_6 : B12 10 (S9 10) 6 = some (true, ()) := by kernel_rfl
theorem v12_10_10 : B12 10 (S9 10) 10 = some (true, ()) := by kernel_rfl
theorem v12_11_2 : B12 11 (S9 11) 2 = some (true, ()) := by kernel_rfl
theorem v12_11_6 : B12 11 (S9 11) 6 = some (true, ()) := by kernel_rfl
theorem v12_11_10 : B12 11 (S9 11) 10 = some (true, ()) := by kernel_rfl
theorem v12_12_6 : B12 12 (S9 12) 6 = some (true, ()) := by kernel_rfl
theorem v12_12_10 : B12 12 (S9 12) 10 = some (true, ()) := by kernel_rfl
theorem v12_13_1 : B12 13 (S9 13) 1 = some (true, ()) := by kernel_rfl
theorem v12_13_5 : B12 13 (S9 13) 5 = some (true, ()) := by kernel_rfl
theorem v12_13_9 : B12 13 (S9 13) 9 = some (true, ()) := by kernel_rfl
theorem v12_13_13 : B12 13 (S9 13) 13 = some (true, ()) := by kernel_rfl
theorem v12_14_3 : B12 14 (S9 14) 3 = some (true, ()) := by kernel_rfl
theorem v12_14_7 : B12 14 (S9 14) 7 = some (true, ()) := by kernel_rfl
theorem v12_14_11 : B12 14 (S9 14) 11 = some (true, ()) := by kernel_rfl
theorem v12_15_1 : B12 15 (S9 15) 1 = some (true, ()) := by kernel_rfl
theorem v12_15_5 : B12 15 (S9 15) 5 = some (true, ()) := by kernel_rfl
theorem v12_15_9 : B12 15 (S9 15) 9 = some (true, ()) := by kernel_rfl
theorem v12_15_13 : B12 15 (S9 15) 13 = some (true, ()) := by kernel_rfl
end Go.DI.S
