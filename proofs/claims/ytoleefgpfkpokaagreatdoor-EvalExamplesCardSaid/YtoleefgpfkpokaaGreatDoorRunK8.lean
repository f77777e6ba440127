/- Known answers, level 5: no statement of its own. -/
import Derived.Test.YtoleefgpfkpokaaGreatDoorRunHJ
set_option autoImplicit false
set_option maxRecDepth 100000
set_option linter.unusedVariables false
namespace Go.Proofs.YtoleefgpfkpokaaGreatDoor.Run
open Go Go.Vm

def a4_26 : List V := [.str [97,32,63,32,98,32,58,32,49,39,98,48], .str [56,39,98,48,48,48,48,48,48,48,49]]
def r4_26 : V := .bool true
set_option maxHeartbeats 400000000 in
theorem q4_26 : chkCall Tryz.prog memo4 5 a4_26 r4_26 = true := by kernel_rfl
def a4_27 : List V := [.str [97,32,61,61,32,98], .str [49,39,98,48]]
def r4_27 : V := .bool true
set_option maxHeartbeats 400000000 in
theorem q4_27 : chkCall Tryz.prog memo4 5 a4_27 r4_27 = true := by kernel_rfl
def a4_28 : List V := [.str [115,32,60,32,48], .str [49,39,98,49]]
def r4_28 : V := .bool true
set_option maxHeartbeats 400000000 in
theorem q4_28 : chkCall Tryz.prog memo4 5 a4_28 r4_28 = true := by kernel_rfl
def a4_29 : List V := [.str [97,32,60,60,32,49], .str [52,39,98,48,49,48,48]]
def r4_29 : V := .bool true
set_option maxHeartbeats 400000000 in
theorem q4_29 : chkCall Tryz.prog memo4 5 a4_29 r4_29 = true := by kernel_rfl
def a4_30 : List V := [.str [115,32,62,62,62,32,49], .str [52,39,115,98,49,49,49,48]]
def r4_30 : V := .bool true
set_option maxHeartbeats 400000000 in
theorem q4_30 : chkCall Tryz.prog memo4 5 a4_30 r4_30 = true := by kernel_rfl
def a4_31 : List V := [.str [33,97], .str [49,39,98,48]]
def r4_31 : V := .bool true
set_option maxHeartbeats 400000000 in
theorem q4_31 : chkCall Tryz.prog memo4 5 a4_31 r4_31 = true := by kernel_rfl
def a4_32 : List V := [.str [38,97], .str [49,39,98,48]]
def r4_32 : V := .bool true
set_option maxHeartbeats 400000000 in
theorem q4_32 : chkCall Tryz.prog memo4 5 a4_32 r4_32 = true := by kernel_rfl
def a4_33 : List V := [.str [97,32,63,32,115,32,58,32,115], .str [52,39,115,98,49,49,48,49]]
def r4_33 : V := .bool true
set_option maxHeartbeats 400000000 in
theorem q4_33 : chkCall Tryz.prog memo4 5 a4_33 r4_33 = true := by kernel_rfl
end Go.Proofs.YtoleefgpfkpokaaGreatDoor.Run
