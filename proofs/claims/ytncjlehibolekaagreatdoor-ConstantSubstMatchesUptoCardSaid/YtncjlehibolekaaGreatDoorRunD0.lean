/- Known answers, level 2: no statement of its own. -/
import Derived.Test.YtncjlehibolekaaGreatDoorRunBJ
set_option autoImplicit false
set_option maxRecDepth 100000
set_option linter.unusedVariables false
namespace Go.Proofs.YtncjlehibolekaaGreatDoor.Run
open Go Go.Vm

def a1_0 : List V := [.str [119,32,45,32,49], .str [55]]
def r1_0 : V := .bool true
set_option maxHeartbeats 400000000 in
theorem q1_0 : chkCall Tryz.prog memo1 23 a1_0 r1_0 = true := by kernel_rfl
def a1_1 : List V := [.str [119,32,62,32,52], .str [49,39,98,49]]
def r1_1 : V := .bool true
set_option maxHeartbeats 400000000 in
theorem q1_1 : chkCall Tryz.prog memo1 23 a1_1 r1_1 = true := by kernel_rfl
def a1_2 : List V := [.str [123,119,125], .str [51,50,39,100,56]]
def r1_2 : V := .bool true
set_option maxHeartbeats 400000000 in
theorem q1_2 : chkCall Tryz.prog memo1 23 a1_2 r1_2 = true := by kernel_rfl
def a1_3 : List V := [.str [119,91,48,93], .int .i64 13]
def r1_3 : V := .bool true
set_option maxHeartbeats 400000000 in
theorem q1_3 : chkCall Tryz.prog memo1 24 a1_3 r1_3 = true := by kernel_rfl
def a1_4 : List V := [.str [102,40,119,41], .int .i64 13]
def r1_4 : V := .bool true
set_option maxHeartbeats 400000000 in
theorem q1_4 : chkCall Tryz.prog memo1 24 a1_4 r1_4 = true := by kernel_rfl
def a1_5 : List V := [.str [118], .int .i64 9]
def r1_5 : V := .bool true
set_option maxHeartbeats 400000000 in
theorem q1_5 : chkCall Tryz.prog memo1 24 a1_5 r1_5 = true := by kernel_rfl
def a1_6 : List V := [.str [49,32,47,32,48], .int .i64 13]
def r1_6 : V := .bool true
set_option maxHeartbeats 400000000 in
theorem q1_6 : chkCall Tryz.prog memo1 24 a1_6 r1_6 = true := by kernel_rfl
end Go.Proofs.YtncjlehibolekaaGreatDoor.Run
