/- Known answers, level 2: no statement of its own. -/
import Derived.Test.YtjbgagafibhgcaaGreatDoorRunBJ
set_option autoImplicit false
set_option maxRecDepth 100000
set_option linter.unusedVariables false
namespace Go.Proofs.YtjbgagafibhgcaaGreatDoor.Run
open Go Go.Vm

def a1_9 : List V := [.str [123,50,123,50,39,98,49,48,125,125], .str [52,39,98,49,48,49,48]]
def r1_9 : V := .bool true
set_option maxHeartbeats 400000000 in
theorem q1_9 : chkCall Tryz.prog memo1 5 a1_9 r1_9 = true := by kernel_rfl
def a1_10 : List V := [.str [119,32,60,60,32,49], .str [49,54]]
def r1_10 : V := .bool true
set_option maxHeartbeats 400000000 in
theorem q1_10 : chkCall Tryz.prog memo1 5 a1_10 r1_10 = true := by kernel_rfl
def a1_11 : List V := [.str [50,32,42,42,32,51], .str [56]]
def r1_11 : V := .bool true
set_option maxHeartbeats 400000000 in
theorem q1_11 : chkCall Tryz.prog memo1 5 a1_11 r1_11 = true := by kernel_rfl
def a1_12 : List V := [.str [36,117,110,115,105,103,110,101,100,40,119,41,32,43,32,49], .str [51,50,39,100,57]]
def r1_12 : V := .bool true
set_option maxHeartbeats 400000000 in
theorem q1_12 : chkCall Tryz.prog memo1 5 a1_12 r1_12 = true := by kernel_rfl
def a1_13 : List V := [.str [119,32,61,61,32,56,32,38,38,32,119,32,33,61,32,57], .str [49,39,98,49]]
def r1_13 : V := .bool true
set_option maxHeartbeats 400000000 in
theorem q1_13 : chkCall Tryz.prog memo1 5 a1_13 r1_13 = true := by kernel_rfl
def a1_14 : List V := [.str [52,39,98,49,120,48,48,32,124,32,52,39,98,48,48,49,49], .str [52,39,98,49,120,49,49]]
def r1_14 : V := .bool true
set_option maxHeartbeats 400000000 in
theorem q1_14 : chkCall Tryz.prog memo1 5 a1_14 r1_14 = true := by kernel_rfl
def a1_15 : List V := [.str [119,32,37,32,51], .str [50]]
def r1_15 : V := .bool true
set_option maxHeartbeats 400000000 in
theorem q1_15 : chkCall Tryz.prog memo1 5 a1_15 r1_15 = true := by kernel_rfl
def a1_16 : List V := [.str [97,91,48], .int .i64 11]
def r1_16 : V := .bool true
set_option maxHeartbeats 400000000 in
theorem q1_16 : chkCall Tryz.prog memo1 6 a1_16 r1_16 = true := by kernel_rfl
def a1_17 : List V := [.str [119,32,43,32,36,116,105,109,101], .int .i64 13]
def r1_17 : V := .bool true
set_option maxHeartbeats 400000000 in
theorem q1_17 : chkCall Tryz.prog memo1 6 a1_17 r1_17 = true := by kernel_rfl
def a1_18 : List V := [.str [118,32,43,32,102,40,119,41], .int .i64 13]
def r1_18 : V := .bool true
set_option maxHeartbeats 400000000 in
theorem q1_18 : chkCall Tryz.prog memo1 6 a1_18 r1_18 = true := by kernel_rfl
end Go.Proofs.YtjbgagafibhgcaaGreatDoor.Run
