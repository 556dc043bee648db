import Derived.Test.YtbjldjihpekhaaaGreatOa
/- A reading of programs by functions on data, and that it is right. No conditions. -/
/-! OrderUngroups: evaluated. -/
set_option linter.unusedVariables false
set_option maxRecDepth 1000000
namespace Go.DI.S
open Go.Proofs
theorem u_6_1 : F_ung 6 1 = some (true, ()) := by kernel_rfl
theorem u_6_2 : F_ung 6 2 = some (true, ()) := by kernel_rfl
theorem u_6_3 : F_ung 6 3 = some (true, ()) := by kernel_rfl
theorem u_6_4 : F_ung 6 4 = some (true, ()) := by kernel_rfl
theorem u_6_5 : F_ung 6 5 = some (true, ()) := by kernel_rfl
theorem u_6_6 : F_ung 6 6 = some (true, ()) := by kernel_rfl
theorem u_6_7 : F_ung 6 7 = some (true, ()) := by kernel_rfl
theorem u_6_8 : F_ung 6 8 = some (true, ()) := by kernel_rfl
theorem u_3_1 : F_ung 3 1 = some (true, ()) := by kernel_rfl
theorem u_3_2 : F_ung 3 2 = some (true, ()) := by kernel_rfl
theorem u_3_3 : F_ung 3 3 = some (true, ()) := by kernel_rfl
theorem u_3_4 : F_ung 3 4 = some (true, ()) := by kernel_rfl
theorem u_3_5 : F_ung 3 5 = some (true, ()) := by kernel_rfl
theorem u_3_6 : F_ung 3 6 = some (true, ()) := by kernel_rfl
theorem u_3_7 : F_ung 3 7 = some (true, ()) := by kernel_rfl
theorem u_3_8 : F_ung 3 8 = some (true, ()) := by kernel_rfl
theorem u_11_1 : F_ung 11 1 = some (true, ()) := by kernel_rfl
theorem u_11_2 : F_ung 11 2 = some (true, ()) := by kernel_rfl
theorem u_11_3 : F_ung 11 3 = some (true, ()) := by kernel_rfl
theorem u_11_4 : F_ung 11 4 = some (true, ()) := by kernel_rfl
theorem u_11_5 : F_ung 11 5 = some (true, ()) := by kernel_rfl
theorem u_11_6 : F_ung 11 6 = some (true, ()) := by kernel_rfl
theorem u_11_7 : F_ung 11 7 = some (true, ()) := by kernel_rfl
theorem u_11_8 : F_ung 11 8 = some (true, ()) := by kernel_rfl
end Go.DI.S

