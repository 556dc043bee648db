import Derived.Test.YtbjldjihpekhaaaGreatXb
/- OrderUndoes, told by functions on data. No conditions. -/
set_option linter.unusedVariables false
set_option maxRecDepth 100000
set_option maxHeartbeats 0
noncomputable section
namespace Go.DI.S
open Go.Proofs
abbrev fM:aF:=⟨3,[(0,.data aD),(1,.data I),(2,.data I)],[.var 140 [.data aR]],fun _=>[0]⟩
end Go.DI.S
end
