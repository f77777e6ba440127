/- Known answers, level 5: no statement of its own. -/
import Derived.Test.YtoleefgpfkpokaaGreatDoorRunHJ
set_option autoImplicit false
set_option maxRecDepth 100000
set_option linter.unusedVariables false
namespace Go.Proofs.YtoleefgpfkpokaaGreatDoor.Run
open Go Go.Vm

def a4_43 : List V := [.str [123,97,91,48,93,44,32,97,91,48,93,125], .str [50,39,98,49,48], .str [52,39,98,49,48,49,49], .str [56,39,98,48,48,48,48,48,48,48,49]]
def r4_43 : V := .bool true
set_option maxHeartbeats 400000000 in
theorem q4_43 : chkCall Tryz.prog memo4 6 a4_43 r4_43 = true := by kernel_rfl
end Go.Proofs.YtoleefgpfkpokaaGreatDoor.Run
