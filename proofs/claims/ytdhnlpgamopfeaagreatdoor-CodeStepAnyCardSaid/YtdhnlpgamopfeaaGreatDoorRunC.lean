/- Known answers, level 2, joined: no statement of its own. -/
import Derived.Test.YtdhnlpgamopfeaaGreatDoorRunC0
set_option autoImplicit false
set_option maxRecDepth 100000
set_option linter.unusedVariables false
namespace Go.Proofs.YtdhnlpgamopfeaaGreatDoor.Run
open Go Go.Vm

theorem examples_known : Known Tryz.prog 4 [] (.bool true) := chkCall_ok mix memo1_ok q1_0
end Go.Proofs.YtdhnlpgamopfeaaGreatDoor.Run
