import Derived.Test.YtbjldjihpekhaaaGreatQa
/- A reading of programs by functions on data, and that it is right. No conditions. -/
/-! Whole numbers as floats: evaluated. -/
set_option maxRecDepth 1000000
namespace Go.DI.S
open Go.Proofs
theorem gm7500 : gRow (-7500) 500 = true := by kernel_rfl
theorem gm5500 : gRow (-5500) 500 = true := by kernel_rfl
theorem gm3500 : gRow (-3500) 500 = true := by kernel_rfl
theorem gm1500 : gRow (-1500) 500 = true := by kernel_rfl
theorem gp500 : gRow (500) 500 = true := by kernel_rfl
theorem gp2500 : gRow (2500) 500 = true := by kernel_rfl
theorem gp4500 : gRow (4500) 500 = true := by kernel_rfl
theorem gp6500 : gRow (6500) 500 = true := by kernel_rfl
theorem gp8500 : gRow (8500) 500 = true := by kernel_rfl
end Go.DI.S

