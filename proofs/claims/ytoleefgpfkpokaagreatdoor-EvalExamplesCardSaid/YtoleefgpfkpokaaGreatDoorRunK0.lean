/- Known answers, level 5: no statement of its own. -/
import Derived.Test.YtoleefgpfkpokaaGreatDoorRunHJ
set_option autoImplicit false
set_option maxRecDepth 100000
set_option linter.unusedVariables false
namespace Go.Proofs.YtoleefgpfkpokaaGreatDoor.Run
open Go Go.Vm

def a4_0 : List V := [.str [97,32,43,32,98], .str [56,39,98,48,48,48,48,49,48,49,49]]
def r4_0 : V := .bool true
set_option maxHeartbeats 400000000 in
theorem q4_0 : chkCall Tryz.prog memo4 5 a4_0 r4_0 = true := by kernel_rfl
def a4_1 : List V := [.str [97,91,50,58,49,93], .str [50,39,98,48,49]]
def r4_1 : V := .bool true
set_option maxHeartbeats 400000000 in
theorem q4_1 : chkCall Tryz.prog memo4 5 a4_1 r4_1 = true := by kernel_rfl
def a4_2 : List V := [.str [97,91,53,93], .str [49,39,98,120]]
def r4_2 : V := .bool true
set_option maxHeartbeats 400000000 in
theorem q4_2 : chkCall Tryz.prog memo4 5 a4_2 r4_2 = true := by kernel_rfl
def a4_3 : List V := [.str [123,97,44,32,98,91,48,93,125], .str [53,39,98,49,48,49,48,49]]
def r4_3 : V := .bool true
set_option maxHeartbeats 400000000 in
theorem q4_3 : chkCall Tryz.prog memo4 5 a4_3 r4_3 = true := by kernel_rfl
end Go.Proofs.YtoleefgpfkpokaaGreatDoor.Run
