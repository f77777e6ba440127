/- Known answers, level 6, joined: no statement of its own. -/
import Derived.Test.YtoleefgpfkpokaaGreatDoorRunC0
set_option autoImplicit false
set_option maxRecDepth 100000
set_option linter.unusedVariables false
namespace Go.Proofs.YtoleefgpfkpokaaGreatDoor.Run
open Go Go.Vm

theorem examples_known : Known Tryz.prog 3 [] (.bool true) := chkCall_ok mix memo5_ok q5_0
end Go.Proofs.YtoleefgpfkpokaaGreatDoor.Run
