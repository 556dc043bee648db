import Derived.Test.YtbjldjihpekhaaaGreatMd
/- The first call; what is evaluated. No conditions. -/
set_option linter.unusedVariables false
set_option maxRecDepth 100000
set_option maxHeartbeats 0
namespace Go.DI.S
open Go.Proofs
end Go.DI.S
