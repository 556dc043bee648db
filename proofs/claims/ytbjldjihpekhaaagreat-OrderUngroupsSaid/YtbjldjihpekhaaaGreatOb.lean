import Derived.Test.YtbjldjihpekhaaaGreatOa
/- A reading of programs by functions on data, and that it is right. No conditions. -/
/-! OrderUngroups: evaluated. -/
set_option linter.unusedVariables false
set_option maxRecDepth 1000000
namespace Go.DI.S
open Go.Proofs
theorem u_8_1 : F_ung 8 1 = some (true, ()) := by kernel_rfl
theorem u_8_2 : F_ung 8 2 = some (true, ()) := by kernel_rfl
theorem u_8_3 : F_ung 8 3 = some (true, ()) := by kernel_rfl
theorem u_8_4 : F_ung 8 4 = some (true, ()) := by kernel_rfl
theorem u_8_5 : F_ung 8 5 = some (true, ()) := by kernel_rfl
theorem u_8_6 : F_ung 8 6 = some (true, ()) := by kernel_rfl
theorem u_8_7 : F_ung 8 7 = some (true, ()) := by kernel_rfl
theorem u_8_8 : F_ung 8 8 = some (true, ()) := by kernel_rfl
theorem u_1_1 : F_ung 1 1 = some (true, ()) := by kernel_rfl
theorem u_1_2 : F_ung 1 2 = some (true, ()) := by kernel_rfl
theorem u_1_3 : F_ung 1 3 = some (true, ()) := by kernel_rfl
theorem u_1_4 : F_ung 1 4 = some (true, ()) := by kernel_rfl
theorem u_1_5 : F_ung 1 5 = some (true, ()) := by kernel_rfl
theorem u_1_6 : F_ung 1 6 = some (true, ()) := by kernel_rfl
theorem u_1_7 : F_ung 1 7 = some (true, ()) := by kernel_rfl
theorem u_1_8 : F_ung 1 8 = some (true, ()) := by kernel_rfl
theorem u_9_1 : F_ung 9 1 = some (true, ()) := by kernel_rfl
theorem u_9_2 : F_ung 9 2 = some (true, ()) := by kernel_rfl
theorem u_9_3 : F_ung 9 3 = some (true, ()) := by kernel_rfl
theorem u_9_4 : F_ung 9 4 = some (true, ()) := by kernel_rfl
theorem u_9_5 : F_ung 9 5 = some (true, ()) := by kernel_rfl
theorem u_9_6 : F_ung 9 6 = some (true, ()) := by kernel_rfl
theorem u_9_7 : F_ung 9 7 = some (true, ()) := by kernel_rfl
theorem u_9_8 : F_ung 9 8 = some (true, ()) := by kernel_rfl
end Go.DI.S

