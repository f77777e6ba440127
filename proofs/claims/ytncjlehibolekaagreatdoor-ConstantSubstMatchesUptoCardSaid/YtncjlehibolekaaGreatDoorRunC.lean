/- Known answers, level 3, joined: no statement of its own. -/
import Derived.Test.YtncjlehibolekaaGreatDoorRunC0
set_option autoImplicit false
set_option maxRecDepth 100000
set_option linter.unusedVariables false
namespace Go.Proofs.YtncjlehibolekaaGreatDoor.Run
open Go Go.Vm

theorem examples_known : Known Tryz.prog 7 [] (.bool true) := chkCall_ok mix memo2_ok q2_0
end Go.Proofs.YtncjlehibolekaaGreatDoor.Run
