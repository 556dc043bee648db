import Derived.Test.YtmleimalginhhaaKc
/- KinNests, its cases, each run in the kernel. No conditions. -/
set_option maxRecDepth 100000
namespace Go.DI.S
theorem nests12 : F_14 12 = some (true, ()) := by kernel_rfl
theorem nests13 : F_14 13 = some (true, ()) := by kernel_rfl
end Go.DI.S
