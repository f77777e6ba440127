/- Known answers, level 5: no statement of its own. -/
import Derived.Test.YtoleefgpfkpokaaGreatDoorRunHJ
set_option autoImplicit false
set_option maxRecDepth 100000
set_option linter.unusedVariables false
namespace Go.Proofs.YtoleefgpfkpokaaGreatDoor.Run
open Go Go.Vm

def a4_13 : List V := [.str [109,91,50,93,91,52,93], .str [49,39,98,49]]
def r4_13 : V := .bool true
set_option maxHeartbeats 400000000 in
theorem q4_13 : chkCall Tryz.prog memo4 5 a4_13 r4_13 = true := by kernel_rfl
def a4_14 : List V := [.str [109,91,50,93,91,57,93], .str [49,39,98,120]]
def r4_14 : V := .bool true
set_option maxHeartbeats 400000000 in
theorem q4_14 : chkCall Tryz.prog memo4 5 a4_14 r4_14 = true := by kernel_rfl
def a4_15 : List V := [.str [109,91,49,39,98,120,93], .str [56,39,98,120,120,120,120,120,120,120,120]]
def r4_15 : V := .bool true
set_option maxHeartbeats 400000000 in
theorem q4_15 : chkCall Tryz.prog memo4 5 a4_15 r4_15 = true := by kernel_rfl
def a4_16 : List V := [.str [97,91,49,39,98,120,93], .str [49,39,98,120]]
def r4_16 : V := .bool true
set_option maxHeartbeats 400000000 in
theorem q4_16 : chkCall Tryz.prog memo4 5 a4_16 r4_16 = true := by kernel_rfl
end Go.Proofs.YtoleefgpfkpokaaGreatDoor.Run
