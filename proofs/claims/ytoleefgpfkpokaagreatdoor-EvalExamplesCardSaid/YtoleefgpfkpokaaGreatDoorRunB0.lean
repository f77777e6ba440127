/- Known answers, level 1: no statement of its own. -/
import Derived.Test.YtoleefgpfkpokaaGreatDoorRunA
set_option autoImplicit false
set_option maxRecDepth 100000
set_option linter.unusedVariables false
namespace Go.Proofs.YtoleefgpfkpokaaGreatDoor.Run
open Go Go.Vm

def a0_0 : List V := [.str [97,32,43,32,98], .int .i64 0]
def r0_0 : V := .tup [.agg [.int .u8 21, .str [], .nils, .bool false, .imm 8 [.agg [.int .u8 2, .str [97], .nils, .bool false, .nils, .int .i64 0, .int .i64 0, .bool false], .agg [.int .u8 2, .str [98], .nils, .bool false, .nils, .int .i64 0, .int .i64 0, .bool false]], .int .i64 0, .int .i64 0, .bool false], .int .i64 5, .int .i64 0]
set_option maxHeartbeats 400000000 in
theorem q0_0 : chkCall Tryz.prog memo0 15 a0_0 r0_0 = true := by kernel_rfl
def a0_1 : List V := [.str [52,39,98,49,48,49,48]]
def r0_1 : V := .agg [.imm 1 [.agg [.int .u8 0], .agg [.int .u8 1], .agg [.int .u8 0], .agg [.int .u8 1]], .bool false]
set_option maxHeartbeats 400000000 in
theorem q0_1 : chkCall Tryz.prog memo0 10 a0_1 r0_1 = true := by kernel_rfl
def a0_2 : List V := [.str [56,39,98,48,48,48,48,48,48,48,49]]
def r0_2 : V := .agg [.imm 1 [.agg [.int .u8 1], .agg [.int .u8 0], .agg [.int .u8 0], .agg [.int .u8 0], .agg [.int .u8 0], .agg [.int .u8 0], .agg [.int .u8 0], .agg [.int .u8 0]], .bool false]
set_option maxHeartbeats 400000000 in
theorem q0_2 : chkCall Tryz.prog memo0 10 a0_2 r0_2 = true := by kernel_rfl
def a0_3 : List V := [.str [56,39,98,49,49,49,49,48,48,48,48]]
def r0_3 : V := .agg [.imm 1 [.agg [.int .u8 0], .agg [.int .u8 0], .agg [.int .u8 0], .agg [.int .u8 0], .agg [.int .u8 1], .agg [.int .u8 1], .agg [.int .u8 1], .agg [.int .u8 1]], .bool false]
set_option maxHeartbeats 400000000 in
theorem q0_3 : chkCall Tryz.prog memo0 10 a0_3 r0_3 = true := by kernel_rfl
def a0_4 : List V := [.str [52,39,115,98,49,49,48,49]]
def r0_4 : V := .agg [.imm 1 [.agg [.int .u8 1], .agg [.int .u8 0], .agg [.int .u8 1], .agg [.int .u8 1]], .bool true]
set_option maxHeartbeats 400000000 in
theorem q0_4 : chkCall Tryz.prog memo0 10 a0_4 r0_4 = true := by kernel_rfl
def a0_5 : List V := [.str [56,39,98,48,48,48,48,49,48,49,49]]
def r0_5 : V := .agg [.imm 1 [.agg [.int .u8 1], .agg [.int .u8 1], .agg [.int .u8 0], .agg [.int .u8 1], .agg [.int .u8 0], .agg [.int .u8 0], .agg [.int .u8 0], .agg [.int .u8 0]], .bool false]
set_option maxHeartbeats 400000000 in
theorem q0_5 : chkCall Tryz.prog memo0 10 a0_5 r0_5 = true := by kernel_rfl
def a0_6 : List V := [.str [97,91,50,58,49,93], .int .i64 0]
def r0_6 : V := .tup [.agg [.int .u8 4, .str [97], .nils, .bool false, .imm 8 [.agg [.int .u8 1, .str [], .imm 1 [.agg [.int .u8 0], .agg [.int .u8 1], .agg [.int .u8 0], .agg [.int .u8 0], .agg [.int .u8 0], .agg [.int .u8 0], .agg [.int .u8 0], .agg [.int .u8 0], .agg [.int .u8 0], .agg [.int .u8 0], .agg [.int .u8 0], .agg [.int .u8 0], .agg [.int .u8 0], .agg [.int .u8 0], .agg [.int .u8 0], .agg [.int .u8 0], .agg [.int .u8 0], .agg [.int .u8 0], .agg [.int .u8 0], .agg [.int .u8 0], .agg [.int .u8 0], .agg [.int .u8 0], .agg [.int .u8 0], .agg [.int .u8 0], .agg [.int .u8 0], .agg [.int .u8 0], .agg [.int .u8 0], .agg [.int .u8 0], .agg [.int .u8 0], .agg [.int .u8 0], .agg [.int .u8 0], .agg [.int .u8 0]], .bool true, .nils, .int .i64 0, .int .i64 0, .bool false], .agg [.int .u8 1, .str [], .imm 1 [.agg [.int .u8 1], .agg [.int .u8 0], .agg [.int .u8 0], .agg [.int .u8 0], .agg [.int .u8 0], .agg [.int .u8 0], .agg [.int .u8 0], .agg [.int .u8 0], .agg [.int .u8 0], .agg [.int .u8 0], .agg [.int .u8 0], .agg [.int .u8 0], .agg [.int .u8 0], .agg [.int .u8 0], .agg [.int .u8 0], .agg [.int .u8 0], .agg [.int .u8 0], .agg [.int .u8 0], .agg [.int .u8 0], .agg [.int .u8 0], .agg [.int .u8 0], .agg [.int .u8 0], .agg [.int .u8 0], .agg [.int .u8 0], .agg [.int .u8 0], .agg [.int .u8 0], .agg [.int .u8 0], .agg [.int .u8 0], .agg [.int .u8 0], .agg [.int .u8 0], .agg [.int .u8 0], .agg [.int .u8 0]], .bool true, .nils, .int .i64 0, .int .i64 0, .bool false]], .int .i64 0, .int .i64 0, .bool false], .int .i64 6, .int .i64 0]
set_option maxHeartbeats 400000000 in
theorem q0_6 : chkCall Tryz.prog memo0 15 a0_6 r0_6 = true := by kernel_rfl
def a0_7 : List V := [.str [50,39,98,48,49]]
def r0_7 : V := .agg [.imm 1 [.agg [.int .u8 1], .agg [.int .u8 0]], .bool false]
set_option maxHeartbeats 400000000 in
theorem q0_7 : chkCall Tryz.prog memo0 10 a0_7 r0_7 = true := by kernel_rfl
def a0_8 : List V := [.str [97,91,53,93], .int .i64 0]
def r0_8 : V := .tup [.agg [.int .u8 3, .str [97], .nils, .bool false, .imm 8 [.agg [.int .u8 1, .str [], .imm 1 [.agg [.int .u8 1], .agg [.int .u8 0], .agg [.int .u8 1], .agg [.int .u8 0], .agg [.int .u8 0], .agg [.int .u8 0], .agg [.int .u8 0], .agg [.int .u8 0], .agg [.int .u8 0], .agg [.int .u8 0], .agg [.int .u8 0], .agg [.int .u8 0], .agg [.int .u8 0], .agg [.int .u8 0], .agg [.int .u8 0], .agg [.int .u8 0], .agg [.int .u8 0], .agg [.int .u8 0], .agg [.int .u8 0], .agg [.int .u8 0], .agg [.int .u8 0], .agg [.int .u8 0], .agg [.int .u8 0], .agg [.int .u8 0], .agg [.int .u8 0], .agg [.int .u8 0], .agg [.int .u8 0], .agg [.int .u8 0], .agg [.int .u8 0], .agg [.int .u8 0], .agg [.int .u8 0], .agg [.int .u8 0]], .bool true, .nils, .int .i64 0, .int .i64 0, .bool false]], .int .i64 0, .int .i64 0, .bool false], .int .i64 4, .int .i64 0]
set_option maxHeartbeats 400000000 in
theorem q0_8 : chkCall Tryz.prog memo0 15 a0_8 r0_8 = true := by kernel_rfl
def a0_9 : List V := [.str [49,39,98,120]]
def r0_9 : V := .agg [.imm 1 [.agg [.int .u8 2]], .bool false]
set_option maxHeartbeats 400000000 in
theorem q0_9 : chkCall Tryz.prog memo0 10 a0_9 r0_9 = true := by kernel_rfl
def a0_10 : List V := [.str [123,97,44,32,98,91,48,93,125], .int .i64 0]
def r0_10 : V := .tup [.agg [.int .u8 6, .str [], .nils, .bool false, .imm 8 [.agg [.int .u8 2, .str [97], .nils, .bool false, .nils, .int .i64 0, .int .i64 0, .bool false], .agg [.int .u8 3, .str [98], .nils, .bool false, .imm 8 [.agg [.int .u8 1, .str [], .imm 1 [.agg [.int .u8 0], .agg [.int .u8 0], .agg [.int .u8 0], .agg [.int .u8 0], .agg [.int .u8 0], .agg [.int .u8 0], .agg [.int .u8 0], .agg [.int .u8 0], .agg [.int .u8 0], .agg [.int .u8 0], .agg [.int .u8 0], .agg [.int .u8 0], .agg [.int .u8 0], .agg [.int .u8 0], .agg [.int .u8 0], .agg [.int .u8 0], .agg [.int .u8 0], .agg [.int .u8 0], .agg [.int .u8 0], .agg [.int .u8 0], .agg [.int .u8 0], .agg [.int .u8 0], .agg [.int .u8 0], .agg [.int .u8 0], .agg [.int .u8 0], .agg [.int .u8 0], .agg [.int .u8 0], .agg [.int .u8 0], .agg [.int .u8 0], .agg [.int .u8 0], .agg [.int .u8 0], .agg [.int .u8 0]], .bool true, .nils, .int .i64 0, .int .i64 0, .bool false]], .int .i64 0, .int .i64 0, .bool false]], .int .i64 0, .int .i64 0, .bool false], .int .i64 9, .int .i64 0]
set_option maxHeartbeats 400000000 in
theorem q0_10 : chkCall Tryz.prog memo0 15 a0_10 r0_10 = true := by kernel_rfl
def a0_11 : List V := [.str [53,39,98,49,48,49,48,49]]
def r0_11 : V := .agg [.imm 1 [.agg [.int .u8 1], .agg [.int .u8 0], .agg [.int .u8 1], .agg [.int .u8 0], .agg [.int .u8 1]], .bool false]
set_option maxHeartbeats 400000000 in
theorem q0_11 : chkCall Tryz.prog memo0 10 a0_11 r0_11 = true := by kernel_rfl
end Go.Proofs.YtoleefgpfkpokaaGreatDoor.Run
