/- Known answers, level 5: no statement of its own. -/
import Derived.Test.YtoleefgpfkpokaaGreatDoorRunHJ
set_option autoImplicit false
set_option maxRecDepth 100000
set_option linter.unusedVariables false
namespace Go.Proofs.YtoleefgpfkpokaaGreatDoor.Run
open Go Go.Vm

def a4_5 : List V := [.str [123,97,91,49,58,48,93,44,32,98,91,55,58,54,93,125], .str [52,39,98,49,49,48,48], .str [52,39,98,49,48,49,49], .str [56,39,98,48,48,48,48,48,48,48,49]]
def r4_5 : V := .bool true
set_option maxHeartbeats 400000000 in
theorem q4_5 : chkCall Tryz.prog memo4 6 a4_5 r4_5 = true := by kernel_rfl
end Go.Proofs.YtoleefgpfkpokaaGreatDoor.Run
