import Derived.Test.YtbjldjihpekhaaaGreatOa
/- A reading of programs by functions on data, and that it is right. No conditions. -/
/-! OrderUngroups: evaluated. -/
set_option linter.unusedVariables false
set_option maxRecDepth 1000000
namespace Go.DI.S
open Go.Proofs
theorem u_7_1 : F_ung 7 1 = some (true, ()) := by kernel_rfl
theorem u_7_2 : F_ung 7 2 = some (true, ()) := by kernel_rfl
theorem u_7_3 : F_ung 7 3 = some (true, ()) := by kernel_rfl
theorem u_7_4 : F_ung 7 4 = some (true, ()) := by kernel_rfl
theorem u_7_5 : F_ung 7 5 = some (true, ()) := by kernel_rfl
theorem u_7_6 : F_ung 7 6 = some (true, ()) := by kernel_rfl
theorem u_7_7 : F_ung 7 7 = some (true, ()) := by kernel_rfl
theorem u_7_8 : F_ung 7 8 = some (true, ()) := by kernel_rfl
theorem u_2_1 : F_ung 2 1 = some (true, ()) := by kernel_rfl
theorem u_2_2 : F_ung 2 2 = some (true, ()) := by kernel_rfl
theorem u_2_3 : F_ung 2 3 = some (true, ()) := by kernel_rfl
theorem u_2_4 : F_ung 2 4 = some (true, ()) := by kernel_rfl
theorem u_2_5 : F_ung 2 5 = some (true, ()) := by kernel_rfl
theorem u_2_6 : F_ung 2 6 = some (true, ()) := by kernel_rfl
theorem u_2_7 : F_ung 2 7 = some (true, ()) := by kernel_rfl
theorem u_2_8 : F_ung 2 8 = some (true, ()) := by kernel_rfl
theorem u_10_1 : F_ung 10 1 = some (true, ()) := by kernel_rfl
theorem u_10_2 : F_ung 10 2 = some (true, ()) := by kernel_rfl
theorem u_10_3 : F_ung 10 3 = some (true, ()) := by kernel_rfl
theorem u_10_4 : F_ung 10 4 = some (true, ()) := by kernel_rfl
theorem u_10_5 : F_ung 10 5 = some (true, ()) := by kernel_rfl
theorem u_10_6 : F_ung 10 6 = some (true, ()) := by kernel_rfl
theorem u_10_7 : F_ung 10 7 = some (true, ()) := by kernel_rfl
theorem u_10_8 : F_ung 10 8 = some (true, ()) := by kernel_rfl
end Go.DI.S

