/- Known answers, level 5: no statement of its own. -/
import Derived.Test.YtoleefgpfkpokaaGreatDoorRunHJ
set_option autoImplicit false
set_option maxRecDepth 100000
set_option linter.unusedVariables false
namespace Go.Proofs.YtoleefgpfkpokaaGreatDoor.Run
open Go Go.Vm

def a4_20 : List V := [.str [97,91,49,39,98,120,43,58,50,93], .str [50,39,98,120,120]]
def r4_20 : V := .bool true
set_option maxHeartbeats 400000000 in
theorem q4_20 : chkCall Tryz.prog memo4 5 a4_20 r4_20 = true := by kernel_rfl
def a4_21 : List V := [.str [123,50,123,97,91,51,58,50,93,125,125], .str [52,39,98,49,48,49,48]]
def r4_21 : V := .bool true
set_option maxHeartbeats 400000000 in
theorem q4_21 : chkCall Tryz.prog memo4 5 a4_21 r4_21 = true := by kernel_rfl
end Go.Proofs.YtoleefgpfkpokaaGreatDoor.Run
