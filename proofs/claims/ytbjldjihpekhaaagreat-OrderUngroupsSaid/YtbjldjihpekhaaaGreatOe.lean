import Derived.Test.YtbjldjihpekhaaaGreatOa
/- A reading of programs by functions on data, and that it is right. No conditions. -/
/-! OrderUngroups: evaluated. -/
set_option linter.unusedVariables false
set_option maxRecDepth 1000000
namespace Go.DI.S
open Go.Proofs
theorem u_5_1 : F_ung 5 1 = some (true, ()) := by kernel_rfl
theorem u_5_2 : F_ung 5 2 = some (true, ()) := by kernel_rfl
theorem u_5_3 : F_ung 5 3 = some (true, ()) := by kernel_rfl
theorem u_5_4 : F_ung 5 4 = some (true, ()) := by kernel_rfl
theorem u_5_5 : F_ung 5 5 = some (true, ()) := by kernel_rfl
theorem u_5_6 : F_ung 5 6 = some (true, ()) := by kernel_rfl
theorem u_5_7 : F_ung 5 7 = some (true, ()) := by kernel_rfl
theorem u_5_8 : F_ung 5 8 = some (true, ()) := by kernel_rfl
theorem u_4_1 : F_ung 4 1 = some (true, ()) := by kernel_rfl
theorem u_4_2 : F_ung 4 2 = some (true, ()) := by kernel_rfl
theorem u_4_3 : F_ung 4 3 = some (true, ()) := by kernel_rfl
theorem u_4_4 : F_ung 4 4 = some (true, ()) := by kernel_rfl
theorem u_4_5 : F_ung 4 5 = some (true, ()) := by kernel_rfl
theorem u_4_6 : F_ung 4 6 = some (true, ()) := by kernel_rfl
theorem u_4_7 : F_ung 4 7 = some (true, ()) := by kernel_rfl
theorem u_4_8 : F_ung 4 8 = some (true, ()) := by kernel_rfl
theorem u_12_1 : F_ung 12 1 = some (true, ()) := by kernel_rfl
theorem u_12_2 : F_ung 12 2 = some (true, ()) := by kernel_rfl
theorem u_12_3 : F_ung 12 3 = some (true, ()) := by kernel_rfl
theorem u_12_4 : F_ung 12 4 = some (true, ()) := by kernel_rfl
theorem u_12_5 : F_ung 12 5 = some (true, ()) := by kernel_rfl
theorem u_12_6 : F_ung 12 6 = some (true, ()) := by kernel_rfl
theorem u_12_7 : F_ung 12 7 = some (true, ()) := by kernel_rfl
theorem u_12_8 : F_ung 12 8 = some (true, ()) := by kernel_rfl
end Go.DI.S

