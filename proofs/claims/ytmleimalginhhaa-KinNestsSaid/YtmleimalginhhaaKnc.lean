import Derived.Test.YtmleimalginhhaaKc
/- KinNests, its cases, each run in the kernel. No conditions. -/
set_option maxRecDepth 100000
namespace Go.DI.S
theorem nests14 : F_14 14 = some (true, ()) := by kernel_rfl
theorem nests15 : F_14 15 = some (true, ()) := by kernel_rfl
end Go.DI.S
