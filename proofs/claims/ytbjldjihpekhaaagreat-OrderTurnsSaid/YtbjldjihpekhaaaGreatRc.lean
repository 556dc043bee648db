import Derived.Test.YtbjldjihpekhaaaGreatRa
/- A reading of programs by functions on data, and that it is right. No conditions. -/
/-! Products: evaluated. -/
set_option maxRecDepth 1000000
namespace Go.DI.S
open Go.Proofs
theorem mm8500 : mRow (-8500) 500 = true := by kernel_rfl
theorem mm7500 : mRow (-7500) 500 = true := by kernel_rfl
theorem mm6500 : mRow (-6500) 500 = true := by kernel_rfl
theorem mm5500 : mRow (-5500) 500 = true := by kernel_rfl
theorem mm4500 : mRow (-4500) 500 = true := by kernel_rfl
theorem mm3500 : mRow (-3500) 500 = true := by kernel_rfl
theorem mm2500 : mRow (-2500) 500 = true := by kernel_rfl
theorem mm1500 : mRow (-1500) 500 = true := by kernel_rfl
theorem mm500 : mRow (-500) 500 = true := by kernel_rfl
theorem mp500 : mRow (500) 500 = true := by kernel_rfl
theorem mp1500 : mRow (1500) 500 = true := by kernel_rfl
theorem mp2500 : mRow (2500) 500 = true := by kernel_rfl
theorem mp3500 : mRow (3500) 500 = true := by kernel_rfl
theorem mp4500 : mRow (4500) 500 = true := by kernel_rfl
theorem mp5500 : mRow (5500) 500 = true := by kernel_rfl
theorem mp6500 : mRow (6500) 500 = true := by kernel_rfl
theorem mp7500 : mRow (7500) 500 = true := by kernel_rfl
theorem mp8500 : mRow (8500) 500 = true := by kernel_rfl
end Go.DI.S

