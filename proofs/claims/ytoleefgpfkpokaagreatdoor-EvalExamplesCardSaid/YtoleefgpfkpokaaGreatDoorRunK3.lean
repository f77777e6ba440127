/- Known answers, level 5: no statement of its own. -/
import Derived.Test.YtoleefgpfkpokaaGreatDoorRunHJ
set_option autoImplicit false
set_option maxRecDepth 100000
set_option linter.unusedVariables false
namespace Go.Proofs.YtoleefgpfkpokaaGreatDoor.Run
open Go Go.Vm

def a4_6 : List V := [.str [114,91,48,93], .str [49,39,98,49]]
def r4_6 : V := .bool true
set_option maxHeartbeats 400000000 in
theorem q4_6 : chkCall Tryz.prog memo4 5 a4_6 r4_6 = true := by kernel_rfl
def a4_7 : List V := [.str [97], .str [52,39,98,49,48,49,48]]
def r4_7 : V := .bool true
set_option maxHeartbeats 400000000 in
theorem q4_7 : chkCall Tryz.prog memo4 5 a4_7 r4_7 = true := by kernel_rfl
def a4_8 : List V := [.str [115,32,43,32,49], .str [51,50,39,115,98,49,49,49,49,49,49,49,49,49,49,49,49,49,49,49,49,49,49,49,49,49,49,49,49,49,49,49,49,49,49,49,48]]
def r4_8 : V := .bool true
set_option maxHeartbeats 400000000 in
theorem q4_8 : chkCall Tryz.prog memo4 5 a4_8 r4_8 = true := by kernel_rfl
def a4_9 : List V := [.str [115,32,43,32,52,39,100,49], .str [52,39,98,49,49,49,48]]
def r4_9 : V := .bool true
set_option maxHeartbeats 400000000 in
theorem q4_9 : chkCall Tryz.prog memo4 5 a4_9 r4_9 = true := by kernel_rfl
def a4_10 : List V := [.str [109,91,50,93], .str [56,39,98,49,49,49,49,48,48,48,48]]
def r4_10 : V := .bool true
set_option maxHeartbeats 400000000 in
theorem q4_10 : chkCall Tryz.prog memo4 5 a4_10 r4_10 = true := by kernel_rfl
def a4_11 : List V := [.str [109,91,49,93], .str [56,39,98,120,120,120,120,120,120,120,120]]
def r4_11 : V := .bool true
set_option maxHeartbeats 400000000 in
theorem q4_11 : chkCall Tryz.prog memo4 5 a4_11 r4_11 = true := by kernel_rfl
def a4_12 : List V := [.str [109,91,57,93], .str [56,39,98,120,120,120,120,120,120,120,120]]
def r4_12 : V := .bool true
set_option maxHeartbeats 400000000 in
theorem q4_12 : chkCall Tryz.prog memo4 5 a4_12 r4_12 = true := by kernel_rfl
end Go.Proofs.YtoleefgpfkpokaaGreatDoor.Run
