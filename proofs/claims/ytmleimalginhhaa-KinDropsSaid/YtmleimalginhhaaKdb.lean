import Derived.Test.YtmleimalginhhaaKa
/- KinDrops, run: part b. No conditions. -/
set_option maxRecDepth 100000
set_option maxHeartbeats 0
namespace Go.DI.S
theorem e12_3 : ∀ a, F_12 3 a = B12 3 (S9 3) (at12 3 a) := fun a => by kernel_rfl
theorem e12_7 : ∀ a, F_12 7 a = B12 7 (S9 7) (at12 7 a) := fun a => by kernel_rfl
theorem e12_11 : ∀ a, F_12 11 a = B12 11 (S9 11) (at12 11 a) := fun a => by kernel_rfl
theorem e12_15 : ∀ a, F_12 15 a = B12 15 (S9 15) (at12 15 a) := fun a => by kernel_rfl
theorem v12_2_1 : B12 2 (S9 2) 1 = some (true, ()) := by kernel_rfl
theorem v12_4_2 : B12 4 (S9 4) 2 = some (true, ()) := by kernel_rfl
theorem v12_4_4 : B12 4 (S9 4) 4 = some (true, ()) := by kernel_rfl
theorem v12_5_3 : B12 5 (S9 5) 3 = some (true, ()) := by kernel_rfl
theorem v12_6_5 : B12 6 (S9 6) 5 = some (true, ()) := by kernel_rfl
theorem v12_7_3 : B12 7 (S9 7) 3 = some (true, ()) := by kernel_rfl
theorem v12_7_7 : B12 7 (S9 7) 7 = some (true, ()) := by kernel_rfl
theorem v12_8_3 : B12 8 (S9 8) 3 = some (true, ()) := by kernel_rfl
theorem v12_8_7 : B12 8 (S9 8) 7 = some (true, ()) := by kernel_rfl
theorem v12_9_1 : B12 9 (S9 9) 1 = some (true, ()) := by kernel_rfl
theorem v12_9_4 : B12 9 (S9 9) 4 = some (true, ()) := by kernel_rfl
theorem v12_9_8 : B12 9 (S9 9) 8 = some (true, ()) := by kernel_rfl
theorem v12_10_7 : B12 10 (S9 10) 7 = some (true, ()) := by kernel_rfl
theorem v12_11_3 : B12 11 (S9 11) 3 = some (true, ()) := by kernel_rfl
theorem v12_11_7 : B12 11 (S9 11) 7 = some (true, ()) := by kernel_rfl
theorem v12_11_11 : B12 11 (S9 11) 11 = some (true, ()) := by kernel_rfl
theorem v12_12_1 : B12 12 (S9 12) 1 = some (true, ()) := by kernel_rfl
theorem v12_12_3 : B12 12 (S9 12) 3 = some (true, ()) := by kernel_rfl
theorem v12_12_7 : B12 12 (S9 12) 7 = some (true, ()) := by kernel_rfl
theorem v12_12_11 : B12 12 (S9 12) 11 = some (true, ()) := by kernel_rfl
theorem v12_13_2 : B12 13 (S9 13) 2 = some (true, ()) := by kernel_rfl
theorem v12_13_6 : B12 13 (S9 13) 6 = some (true, ()) := by kernel_rfl
theorem v12_13_10 : B12 13 (S9 13) 10 = some (true, ()) := by kernel_rfl
theorem v12_14_4 : B12 14 (S9 14) 4 = some (true, ()) := by kernel_rfl
theorem v12_14_8 : B12 14 (S9 14) 8 = some (true, ()) := by kernel_rfl
theorem v12_14_12 : B12 14 (S9 14) 12 = some (true, ()) := by kernel_rfl
theorem v12_15_2 : B12 15 (S9 15) 2 = some (true, ()) := by kernel_rfl
theorem v12_15_6 : B12 15 (S9 15) 6 = some (true, ()) := by kernel_rfl
theorem v12_15_10 : B12 15 (S9 15) 10 = some (true, ()) := by kernel_rfl
theorem v12_15_14 : B12 15 (S9 15) 14 = some (true, ()) := by kernel_rfl
end Go.DI.S
