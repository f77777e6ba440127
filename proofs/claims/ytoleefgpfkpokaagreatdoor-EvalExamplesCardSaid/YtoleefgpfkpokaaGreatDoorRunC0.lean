/- Known answers, level 6: no statement of its own. -/
import Derived.Test.YtoleefgpfkpokaaGreatDoorRunKJ
set_option autoImplicit false
set_option maxRecDepth 100000
set_option linter.unusedVariables false
namespace Go.Proofs.YtoleefgpfkpokaaGreatDoor.Run
open Go Go.Vm

def a5_0 : List V := []
def r5_0 : V := .bool true
set_option maxHeartbeats 400000000 in
theorem q5_0 : chkCall Tryz.prog memo5 3 a5_0 r5_0 = true := by kernel_rfl
end Go.Proofs.YtoleefgpfkpokaaGreatDoor.Run
