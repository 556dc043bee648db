import Derived.Test.YtbjldjihpekhaaaGreatMd
/- The first call; what is evaluated. No conditions. -/
/-! OrderUngroups: its first call; what is evaluated. -/
set_option linter.unusedVariables false
set_option maxRecDepth 1000000
namespace Go.DI.S
open Go.Proofs
theorem alive_true : F_alive = some (true, ()) := by kernel_rfl
def isT (x : Option (Els [.bool])) : Bool := match x with
  | some (true, ()) => true
  | _ => false
theorem isT_eq {x : Option (Els [.bool])} (h : isT x = true) : x = some (true, ()) := by
  unfold isT at h
  split at h
  · rfl
  · cases h
end Go.DI.S

