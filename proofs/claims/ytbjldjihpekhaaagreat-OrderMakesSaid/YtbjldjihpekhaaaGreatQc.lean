import Derived.Test.YtbjldjihpekhaaaGreatQa
/- A reading of programs by functions on data, and that it is right. No conditions. -/
/-! Whole numbers as floats: evaluated. -/
set_option maxRecDepth 1000000
namespace Go.DI.S
open Go.Proofs
theorem gm8500 : gRow (-8500) 500 = true := by kernel_rfl
theorem gm6500 : gRow (-6500) 500 = true := by kernel_rfl
theorem gm4500 : gRow (-4500) 500 = true := by kernel_rfl
theorem gm2500 : gRow (-2500) 500 = true := by kernel_rfl
theorem gm500 : gRow (-500) 500 = true := by kernel_rfl
theorem gp1500 : gRow (1500) 500 = true := by kernel_rfl
theorem gp3500 : gRow (3500) 500 = true := by kernel_rfl
theorem gp5500 : gRow (5500) 500 = true := by kernel_rfl
theorem gp7500 : gRow (7500) 500 = true := by kernel_rfl
end Go.DI.S

