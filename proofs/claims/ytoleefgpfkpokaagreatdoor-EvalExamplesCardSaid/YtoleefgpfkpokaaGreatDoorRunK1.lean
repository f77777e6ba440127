/- Known answers, level 5: no statement of its own. -/
import Derived.Test.YtoleefgpfkpokaaGreatDoorRunHJ
set_option autoImplicit false
set_option maxRecDepth 100000
set_option linter.unusedVariables false
namespace Go.Proofs.YtoleefgpfkpokaaGreatDoor.Run
open Go Go.Vm

def a4_4 : List V := [.str [97,91,50,43,58,51,93], .str [51,39,98,120,49,48]]
def r4_4 : V := .bool true
set_option maxHeartbeats 400000000 in
theorem q4_4 : chkCall Tryz.prog memo4 5 a4_4 r4_4 = true := by kernel_rfl
end Go.Proofs.YtoleefgpfkpokaaGreatDoor.Run
