import Derived.Test.YtbjldjihpekhaaaGreatQa
/- A reading of programs by functions on data, and that it is right. No conditions. -/
/-! Whole numbers as floats: evaluated. -/
set_option maxRecDepth 1000000
namespace Go.DI.S
open Go.Proofs
theorem gm9000 : gRow (-9000) 500 = true := by kernel_rfl
theorem gm7000 : gRow (-7000) 500 = true := by kernel_rfl
theorem gm5000 : gRow (-5000) 500 = true := by kernel_rfl
theorem gm3000 : gRow (-3000) 500 = true := by kernel_rfl
theorem gm1000 : gRow (-1000) 500 = true := by kernel_rfl
theorem gp1000 : gRow (1000) 500 = true := by kernel_rfl
theorem gp3000 : gRow (3000) 500 = true := by kernel_rfl
theorem gp5000 : gRow (5000) 500 = true := by kernel_rfl
theorem gp7000 : gRow (7000) 500 = true := by kernel_rfl
theorem gp9000 : gRow (9000) 1 = true := by kernel_rfl
end Go.DI.S

