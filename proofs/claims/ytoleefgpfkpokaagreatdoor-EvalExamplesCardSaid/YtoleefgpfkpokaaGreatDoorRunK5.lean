/- Known answers, level 5: no statement of its own. -/
import Derived.Test.YtoleefgpfkpokaaGreatDoorRunHJ
set_option autoImplicit false
set_option maxRecDepth 100000
set_option linter.unusedVariables false
namespace Go.Proofs.YtoleefgpfkpokaaGreatDoor.Run
open Go Go.Vm

def a4_17 : List V := [.str [114,91,48,58,49,93], .str [50,39,98,49,48]]
def r4_17 : V := .bool true
set_option maxHeartbeats 400000000 in
theorem q4_17 : chkCall Tryz.prog memo4 5 a4_17 r4_17 = true := by kernel_rfl
def a4_18 : List V := [.str [114,91,49,43,58,50,93], .str [50,39,98,48,49]]
def r4_18 : V := .bool true
set_option maxHeartbeats 400000000 in
theorem q4_18 : chkCall Tryz.prog memo4 5 a4_18 r4_18 = true := by kernel_rfl
def a4_19 : List V := [.str [114,91,51,43,58,50,93], .str [50,39,98,48,120]]
def r4_19 : V := .bool true
set_option maxHeartbeats 400000000 in
theorem q4_19 : chkCall Tryz.prog memo4 5 a4_19 r4_19 = true := by kernel_rfl
end Go.Proofs.YtoleefgpfkpokaaGreatDoor.Run
