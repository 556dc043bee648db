import Derived.Test.YtbjldjihpekhaaaGreatRa
/- A reading of programs by functions on data, and that it is right. No conditions. -/
/-! Products: evaluated. -/
set_option maxRecDepth 1000000
namespace Go.DI.S
open Go.Proofs
theorem mm9000 : mRow (-9000) 500 = true := by kernel_rfl
theorem mm8000 : mRow (-8000) 500 = true := by kernel_rfl
theorem mm7000 : mRow (-7000) 500 = true := by kernel_rfl
theorem mm6000 : mRow (-6000) 500 = true := by kernel_rfl
theorem mm5000 : mRow (-5000) 500 = true := by kernel_rfl
theorem mm4000 : mRow (-4000) 500 = true := by kernel_rfl
theorem mm3000 : mRow (-3000) 500 = true := by kernel_rfl
theorem mm2000 : mRow (-2000) 500 = true := by kernel_rfl
theorem mm1000 : mRow (-1000) 500 = true := by kernel_rfl
theorem mp0 : mRow (0) 500 = true := by kernel_rfl
theorem mp1000 : mRow (1000) 500 = true := by kernel_rfl
theorem mp2000 : mRow (2000) 500 = true := by kernel_rfl
theorem mp3000 : mRow (3000) 500 = true := by kernel_rfl
theorem mp4000 : mRow (4000) 500 = true := by kernel_rfl
theorem mp5000 : mRow (5000) 500 = true := by kernel_rfl
theorem mp6000 : mRow (6000) 500 = true := by kernel_rfl
theorem mp7000 : mRow (7000) 500 = true := by kernel_rfl
theorem mp8000 : mRow (8000) 500 = true := by kernel_rfl
theorem mp9000 : mRow (9000) 1 = true := by kernel_rfl
end Go.DI.S

