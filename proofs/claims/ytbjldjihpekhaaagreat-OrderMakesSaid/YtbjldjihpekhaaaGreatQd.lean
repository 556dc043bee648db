import Derived.Test.YtbjldjihpekhaaaGreatQa
/- A reading of programs by functions on data, and that it is right. No conditions. -/
/-! Whole numbers as floats: evaluated. -/
set_option maxRecDepth 1000000
namespace Go.DI.S
open Go.Proofs
theorem gm8000 : gRow (-8000) 500 = true := by kernel_rfl
theorem gm6000 : gRow (-6000) 500 = true := by kernel_rfl
theorem gm4000 : gRow (-4000) 500 = true := by kernel_rfl
theorem gm2000 : gRow (-2000) 500 = true := by kernel_rfl
theorem gp0 : gRow (0) 500 = true := by kernel_rfl
theorem gp2000 : gRow (2000) 500 = true := by kernel_rfl
theorem gp4000 : gRow (4000) 500 = true := by kernel_rfl
theorem gp6000 : gRow (6000) 500 = true := by kernel_rfl
theorem gp8000 : gRow (8000) 500 = true := by kernel_rfl
end Go.DI.S

