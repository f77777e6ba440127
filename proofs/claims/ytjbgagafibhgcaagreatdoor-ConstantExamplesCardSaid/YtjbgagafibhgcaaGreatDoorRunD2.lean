/- Known answers, level 2: no statement of its own. -/
import Derived.Test.YtjbgagafibhgcaaGreatDoorRunBJ
set_option autoImplicit false
set_option maxRecDepth 100000
set_option linter.unusedVariables false
namespace Go.Proofs.YtjbgagafibhgcaaGreatDoor.Run
open Go Go.Vm

def a1_19 : List V := [.str [123,119,123,119,125,125], .int .i64 13]
def r1_19 : V := .bool true
set_option maxHeartbeats 400000000 in
theorem q1_19 : chkCall Tryz.prog memo1 6 a1_19 r1_19 = true := by kernel_rfl
def a1_20 : List V := [.str [123,53,123,119,125,125], .int .i64 12]
def r1_20 : V := .bool true
set_option maxHeartbeats 400000000 in
theorem q1_20 : chkCall Tryz.prog memo1 6 a1_20 r1_20 = true := by kernel_rfl
def a1_21 : List V := [.str [54,52,39,104,56,48,48,48,48,48,48,48,48,48,48,48,48,48,48,48], .int .i64 13]
def r1_21 : V := .bool true
set_option maxHeartbeats 400000000 in
theorem q1_21 : chkCall Tryz.prog memo1 6 a1_21 r1_21 = true := by kernel_rfl
end Go.Proofs.YtjbgagafibhgcaaGreatDoor.Run
