/- Known answers, level 2: no statement of its own. -/
import Derived.Test.YtoleefgpfkpokaaGreatDoorRunX
set_option autoImplicit false
set_option maxRecDepth 100000
set_option linter.unusedVariables false
namespace Go.Proofs.YtoleefgpfkpokaaGreatDoor.Run
open Go Go.Vm

def a1_0 : List V := []
def r1_0 : V := .bool true
set_option maxHeartbeats 400000000 in
theorem q1_0 : chkCall Tryz.prog memo1 14 a1_0 r1_0 = true := by kernel_rfl
end Go.Proofs.YtoleefgpfkpokaaGreatDoor.Run
