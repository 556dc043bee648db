import Derived.Test.YtmleimalginhhaaKc
/- KinNests, its cases, each run in the kernel. No conditions. -/
set_option maxRecDepth 100000
namespace Go.DI.S
theorem nests1 : F_14 1 = some (true, ()) := by kernel_rfl
theorem nests2 : F_14 2 = some (true, ()) := by kernel_rfl
theorem nests3 : F_14 3 = some (true, ()) := by kernel_rfl
theorem nests4 : F_14 4 = some (true, ()) := by kernel_rfl
theorem nests5 : F_14 5 = some (true, ()) := by kernel_rfl
theorem nests6 : F_14 6 = some (true, ()) := by kernel_rfl
theorem nests7 : F_14 7 = some (true, ()) := by kernel_rfl
theorem nests8 : F_14 8 = some (true, ()) := by kernel_rfl
theorem nests9 : F_14 9 = some (true, ()) := by kernel_rfl
theorem nests10 : F_14 10 = some (true, ()) := by kernel_rfl
theorem nests11 : F_14 11 = some (true, ()) := by kernel_rfl
end Go.DI.S
