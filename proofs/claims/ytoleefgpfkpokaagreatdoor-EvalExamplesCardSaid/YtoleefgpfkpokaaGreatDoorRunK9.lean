/- Known answers, level 5: no statement of its own. -/
import Derived.Test.YtoleefgpfkpokaaGreatDoorRunHJ
set_option autoImplicit false
set_option maxRecDepth 100000
set_option linter.unusedVariables false
namespace Go.Proofs.YtoleefgpfkpokaaGreatDoor.Run
open Go Go.Vm

def a4_34 : List V := [.str [49,39,98,120,32,63,32,97,32,58,32,52,39,98,49,49,49,48], .str [52,39,98,49,120,49,48]]
def r4_34 : V := .bool true
set_option maxHeartbeats 400000000 in
theorem q4_34 : chkCall Tryz.prog memo4 5 a4_34 r4_34 = true := by kernel_rfl
def a4_35 : List V := [.str [97,32,61,61,61,32,52,39,98,49,48,49,48], .str [49,39,98,49]]
def r4_35 : V := .bool true
set_option maxHeartbeats 400000000 in
theorem q4_35 : chkCall Tryz.prog memo4 5 a4_35 r4_35 = true := by kernel_rfl
def a4_36 : List V := [.str [97,32,62,32,98], .str [49,39,98,49]]
def r4_36 : V := .bool true
set_option maxHeartbeats 400000000 in
theorem q4_36 : chkCall Tryz.prog memo4 5 a4_36 r4_36 = true := by kernel_rfl
def a4_37 : List V := [.str [97], .str [50,39,98,49,49], .str [52,39,98,48,48,49,49], .str [56,39,98,48,48,48,48,48,48,48,49]]
def r4_37 : V := .bool true
set_option maxHeartbeats 400000000 in
theorem q4_37 : chkCall Tryz.prog memo4 6 a4_37 r4_37 = true := by kernel_rfl
def a4_38 : List V := [.str [97,91,49,39,98,120,93], .str [49,39,98,48], .str [52,39,98,49,48,49,48], .str [56,39,98,48,48,48,48,48,48,48,49]]
def r4_38 : V := .bool true
set_option maxHeartbeats 400000000 in
theorem q4_38 : chkCall Tryz.prog memo4 6 a4_38 r4_38 = true := by kernel_rfl
def a4_39 : List V := [.str [97,91,52,93], .str [49,39,98,49], .str [52,39,98,49,48,49,48], .str [56,39,98,48,48,48,48,48,48,48,49]]
def r4_39 : V := .bool true
set_option maxHeartbeats 400000000 in
theorem q4_39 : chkCall Tryz.prog memo4 6 a4_39 r4_39 = true := by kernel_rfl
end Go.Proofs.YtoleefgpfkpokaaGreatDoor.Run
