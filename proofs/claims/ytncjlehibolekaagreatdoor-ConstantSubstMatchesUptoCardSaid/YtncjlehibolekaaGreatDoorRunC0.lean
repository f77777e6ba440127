/- Known answers, level 3: no statement of its own. -/
import Derived.Test.YtncjlehibolekaaGreatDoorRunDJ
set_option autoImplicit false
set_option maxRecDepth 100000
set_option linter.unusedVariables false
namespace Go.Proofs.YtncjlehibolekaaGreatDoor.Run
open Go Go.Vm

def a2_0 : List V := []
def r2_0 : V := .bool true
set_option maxHeartbeats 400000000 in
theorem q2_0 : chkCall Tryz.prog memo2 7 a2_0 r2_0 = true := by kernel_rfl
end Go.Proofs.YtncjlehibolekaaGreatDoor.Run
