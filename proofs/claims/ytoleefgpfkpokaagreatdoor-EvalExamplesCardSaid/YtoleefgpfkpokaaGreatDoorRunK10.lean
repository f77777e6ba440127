/- Known answers, level 5: no statement of its own. -/
import Derived.Test.YtoleefgpfkpokaaGreatDoorRunHJ
set_option autoImplicit false
set_option maxRecDepth 100000
set_option linter.unusedVariables false
namespace Go.Proofs.YtoleefgpfkpokaaGreatDoor.Run
open Go Go.Vm

def a4_40 : List V := [.str [97,91,51,43,58,50,93], .str [50,39,98,49,48], .str [52,39,98,48,48,49,48], .str [56,39,98,48,48,48,48,48,48,48,49]]
def r4_40 : V := .bool true
set_option maxHeartbeats 400000000 in
theorem q4_40 : chkCall Tryz.prog memo4 6 a4_40 r4_40 = true := by kernel_rfl
def a4_41 : List V := [.str [123,98,44,32,97,125], .str [49,50,39,98,49,49,49,49,48,48,48,48,49,49,48,48], .str [52,39,98,49,49,48,48], .str [56,39,98,49,49,49,49,48,48,48,48]]
def r4_41 : V := .bool true
set_option maxHeartbeats 400000000 in
theorem q4_41 : chkCall Tryz.prog memo4 6 a4_41 r4_41 = true := by kernel_rfl
def a4_42 : List V := [.str [98,91,97,91,49,93,93], .str [49,39,98,49], .str [52,39,98,49,48,49,48], .str [56,39,98,48,48,48,48,48,48,49,49]]
def r4_42 : V := .bool true
set_option maxHeartbeats 400000000 in
theorem q4_42 : chkCall Tryz.prog memo4 6 a4_42 r4_42 = true := by kernel_rfl
end Go.Proofs.YtoleefgpfkpokaaGreatDoor.Run
