/- Known answers, level 1, joined: no statement of its own. -/
import Derived.Test.YtfcofhdjhlfoeaaGreatRunC0
set_option autoImplicit false
set_option maxRecDepth 100000
set_option linter.unusedVariables false
namespace Go.Proofs.YtfcofhdjhlfoeaaGreat.Run
open Go Go.Vm

theorem examples_known : Known Tryz.prog 4 [] (.bool true) := chkCall_ok mix memo0_ok q0_0
end Go.Proofs.YtfcofhdjhlfoeaaGreat.Run
