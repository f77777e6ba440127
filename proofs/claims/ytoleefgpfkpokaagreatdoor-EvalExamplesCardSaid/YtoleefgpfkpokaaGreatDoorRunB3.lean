/- Known answers, level 1: no statement of its own. -/
import Derived.Test.YtoleefgpfkpokaaGreatDoorRunA
set_option autoImplicit false
set_option maxRecDepth 100000
set_option linter.unusedVariables false
namespace Go.Proofs.YtoleefgpfkpokaaGreatDoor.Run
open Go Go.Vm

def a0_19 : List V := [.str [97], .int .i64 0]
def r0_19 : V := .tup [.agg [.int .u8 2, .str [97], .nils, .bool false, .nils, .int .i64 0, .int .i64 0, .bool false], .int .i64 1, .int .i64 0]
set_option maxHeartbeats 400000000 in
theorem q0_19 : chkCall Tryz.prog memo0 15 a0_19 r0_19 = true := by kernel_rfl
def a0_20 : List V := [.str [115,32,43,32,49], .int .i64 0]
def r0_20 : V := .tup [.agg [.int .u8 21, .str [], .nils, .bool false, .imm 8 [.agg [.int .u8 2, .str [115], .nils, .bool false, .nils, .int .i64 0, .int .i64 0, .bool false], .agg [.int .u8 1, .str [], .imm 1 [.agg [.int .u8 1], .agg [.int .u8 0], .agg [.int .u8 0], .agg [.int .u8 0], .agg [.int .u8 0], .agg [.int .u8 0], .agg [.int .u8 0], .agg [.int .u8 0], .agg [.int .u8 0], .agg [.int .u8 0], .agg [.int .u8 0], .agg [.int .u8 0], .agg [.int .u8 0], .agg [.int .u8 0], .agg [.int .u8 0], .agg [.int .u8 0], .agg [.int .u8 0], .agg [.int .u8 0], .agg [.int .u8 0], .agg [.int .u8 0], .agg [.int .u8 0], .agg [.int .u8 0], .agg [.int .u8 0], .agg [.int .u8 0], .agg [.int .u8 0], .agg [.int .u8 0], .agg [.int .u8 0], .agg [.int .u8 0], .agg [.int .u8 0], .agg [.int .u8 0], .agg [.int .u8 0], .agg [.int .u8 0]], .bool true, .nils, .int .i64 0, .int .i64 0, .bool false]], .int .i64 0, .int .i64 0, .bool false], .int .i64 5, .int .i64 0]
set_option maxHeartbeats 400000000 in
theorem q0_20 : chkCall Tryz.prog memo0 15 a0_20 r0_20 = true := by kernel_rfl
def a0_21 : List V := [.str [51,50,39,115,98,49,49,49,49,49,49,49,49,49,49,49,49,49,49,49,49,49,49,49,49,49,49,49,49,49,49,49,49,49,49,49,48]]
def r0_21 : V := .agg [.imm 1 [.agg [.int .u8 0], .agg [.int .u8 1], .agg [.int .u8 1], .agg [.int .u8 1], .agg [.int .u8 1], .agg [.int .u8 1], .agg [.int .u8 1], .agg [.int .u8 1], .agg [.int .u8 1], .agg [.int .u8 1], .agg [.int .u8 1], .agg [.int .u8 1], .agg [.int .u8 1], .agg [.int .u8 1], .agg [.int .u8 1], .agg [.int .u8 1], .agg [.int .u8 1], .agg [.int .u8 1], .agg [.int .u8 1], .agg [.int .u8 1], .agg [.int .u8 1], .agg [.int .u8 1], .agg [.int .u8 1], .agg [.int .u8 1], .agg [.int .u8 1], .agg [.int .u8 1], .agg [.int .u8 1], .agg [.int .u8 1], .agg [.int .u8 1], .agg [.int .u8 1], .agg [.int .u8 1], .agg [.int .u8 1]], .bool true]
set_option maxHeartbeats 400000000 in
theorem q0_21 : chkCall Tryz.prog memo0 10 a0_21 r0_21 = true := by kernel_rfl
def a0_22 : List V := [.str [115,32,43,32,52,39,100,49], .int .i64 0]
def r0_22 : V := .tup [.agg [.int .u8 21, .str [], .nils, .bool false, .imm 8 [.agg [.int .u8 2, .str [115], .nils, .bool false, .nils, .int .i64 0, .int .i64 0, .bool false], .agg [.int .u8 1, .str [], .imm 1 [.agg [.int .u8 1], .agg [.int .u8 0], .agg [.int .u8 0], .agg [.int .u8 0]], .bool false, .nils, .int .i64 0, .int .i64 0, .bool false]], .int .i64 0, .int .i64 0, .bool false], .int .i64 8, .int .i64 0]
set_option maxHeartbeats 400000000 in
theorem q0_22 : chkCall Tryz.prog memo0 15 a0_22 r0_22 = true := by kernel_rfl
def a0_23 : List V := [.str [52,39,98,49,49,49,48]]
def r0_23 : V := .agg [.imm 1 [.agg [.int .u8 0], .agg [.int .u8 1], .agg [.int .u8 1], .agg [.int .u8 1]], .bool false]
set_option maxHeartbeats 400000000 in
theorem q0_23 : chkCall Tryz.prog memo0 10 a0_23 r0_23 = true := by kernel_rfl
def a0_24 : List V := [.str [109,91,50,93], .int .i64 0]
def r0_24 : V := .tup [.agg [.int .u8 3, .str [109], .nils, .bool false, .imm 8 [.agg [.int .u8 1, .str [], .imm 1 [.agg [.int .u8 0], .agg [.int .u8 1], .agg [.int .u8 0], .agg [.int .u8 0], .agg [.int .u8 0], .agg [.int .u8 0], .agg [.int .u8 0], .agg [.int .u8 0], .agg [.int .u8 0], .agg [.int .u8 0], .agg [.int .u8 0], .agg [.int .u8 0], .agg [.int .u8 0], .agg [.int .u8 0], .agg [.int .u8 0], .agg [.int .u8 0], .agg [.int .u8 0], .agg [.int .u8 0], .agg [.int .u8 0], .agg [.int .u8 0], .agg [.int .u8 0], .agg [.int .u8 0], .agg [.int .u8 0], .agg [.int .u8 0], .agg [.int .u8 0], .agg [.int .u8 0], .agg [.int .u8 0], .agg [.int .u8 0], .agg [.int .u8 0], .agg [.int .u8 0], .agg [.int .u8 0], .agg [.int .u8 0]], .bool true, .nils, .int .i64 0, .int .i64 0, .bool false]], .int .i64 0, .int .i64 0, .bool false], .int .i64 4, .int .i64 0]
set_option maxHeartbeats 400000000 in
theorem q0_24 : chkCall Tryz.prog memo0 15 a0_24 r0_24 = true := by kernel_rfl
def a0_25 : List V := [.str [109,91,49,93], .int .i64 0]
def r0_25 : V := .tup [.agg [.int .u8 3, .str [109], .nils, .bool false, .imm 8 [.agg [.int .u8 1, .str [], .imm 1 [.agg [.int .u8 1], .agg [.int .u8 0], .agg [.int .u8 0], .agg [.int .u8 0], .agg [.int .u8 0], .agg [.int .u8 0], .agg [.int .u8 0], .agg [.int .u8 0], .agg [.int .u8 0], .agg [.int .u8 0], .agg [.int .u8 0], .agg [.int .u8 0], .agg [.int .u8 0], .agg [.int .u8 0], .agg [.int .u8 0], .agg [.int .u8 0], .agg [.int .u8 0], .agg [.int .u8 0], .agg [.int .u8 0], .agg [.int .u8 0], .agg [.int .u8 0], .agg [.int .u8 0], .agg [.int .u8 0], .agg [.int .u8 0], .agg [.int .u8 0], .agg [.int .u8 0], .agg [.int .u8 0], .agg [.int .u8 0], .agg [.int .u8 0], .agg [.int .u8 0], .agg [.int .u8 0], .agg [.int .u8 0]], .bool true, .nils, .int .i64 0, .int .i64 0, .bool false]], .int .i64 0, .int .i64 0, .bool false], .int .i64 4, .int .i64 0]
set_option maxHeartbeats 400000000 in
theorem q0_25 : chkCall Tryz.prog memo0 15 a0_25 r0_25 = true := by kernel_rfl
def a0_26 : List V := [.str [56,39,98,120,120,120,120,120,120,120,120]]
def r0_26 : V := .agg [.imm 1 [.agg [.int .u8 2], .agg [.int .u8 2], .agg [.int .u8 2], .agg [.int .u8 2], .agg [.int .u8 2], .agg [.int .u8 2], .agg [.int .u8 2], .agg [.int .u8 2]], .bool false]
set_option maxHeartbeats 400000000 in
theorem q0_26 : chkCall Tryz.prog memo0 10 a0_26 r0_26 = true := by kernel_rfl
def a0_27 : List V := [.str [109,91,57,93], .int .i64 0]
def r0_27 : V := .tup [.agg [.int .u8 3, .str [109], .nils, .bool false, .imm 8 [.agg [.int .u8 1, .str [], .imm 1 [.agg [.int .u8 1], .agg [.int .u8 0], .agg [.int .u8 0], .agg [.int .u8 1], .agg [.int .u8 0], .agg [.int .u8 0], .agg [.int .u8 0], .agg [.int .u8 0], .agg [.int .u8 0], .agg [.int .u8 0], .agg [.int .u8 0], .agg [.int .u8 0], .agg [.int .u8 0], .agg [.int .u8 0], .agg [.int .u8 0], .agg [.int .u8 0], .agg [.int .u8 0], .agg [.int .u8 0], .agg [.int .u8 0], .agg [.int .u8 0], .agg [.int .u8 0], .agg [.int .u8 0], .agg [.int .u8 0], .agg [.int .u8 0], .agg [.int .u8 0], .agg [.int .u8 0], .agg [.int .u8 0], .agg [.int .u8 0], .agg [.int .u8 0], .agg [.int .u8 0], .agg [.int .u8 0], .agg [.int .u8 0]], .bool true, .nils, .int .i64 0, .int .i64 0, .bool false]], .int .i64 0, .int .i64 0, .bool false], .int .i64 4, .int .i64 0]
set_option maxHeartbeats 400000000 in
theorem q0_27 : chkCall Tryz.prog memo0 15 a0_27 r0_27 = true := by kernel_rfl
def a0_28 : List V := [.str [109,91,50,93,91,52,93], .int .i64 0]
def r0_28 : V := .tup [.agg [.int .u8 3, .str [109], .nils, .bool false, .imm 8 [.agg [.int .u8 1, .str [], .imm 1 [.agg [.int .u8 0], .agg [.int .u8 1], .agg [.int .u8 0], .agg [.int .u8 0], .agg [.int .u8 0], .agg [.int .u8 0], .agg [.int .u8 0], .agg [.int .u8 0], .agg [.int .u8 0], .agg [.int .u8 0], .agg [.int .u8 0], .agg [.int .u8 0], .agg [.int .u8 0], .agg [.int .u8 0], .agg [.int .u8 0], .agg [.int .u8 0], .agg [.int .u8 0], .agg [.int .u8 0], .agg [.int .u8 0], .agg [.int .u8 0], .agg [.int .u8 0], .agg [.int .u8 0], .agg [.int .u8 0], .agg [.int .u8 0], .agg [.int .u8 0], .agg [.int .u8 0], .agg [.int .u8 0], .agg [.int .u8 0], .agg [.int .u8 0], .agg [.int .u8 0], .agg [.int .u8 0], .agg [.int .u8 0]], .bool true, .nils, .int .i64 0, .int .i64 0, .bool false], .agg [.int .u8 1, .str [], .imm 1 [.agg [.int .u8 0], .agg [.int .u8 0], .agg [.int .u8 1], .agg [.int .u8 0], .agg [.int .u8 0], .agg [.int .u8 0], .agg [.int .u8 0], .agg [.int .u8 0], .agg [.int .u8 0], .agg [.int .u8 0], .agg [.int .u8 0], .agg [.int .u8 0], .agg [.int .u8 0], .agg [.int .u8 0], .agg [.int .u8 0], .agg [.int .u8 0], .agg [.int .u8 0], .agg [.int .u8 0], .agg [.int .u8 0], .agg [.int .u8 0], .agg [.int .u8 0], .agg [.int .u8 0], .agg [.int .u8 0], .agg [.int .u8 0], .agg [.int .u8 0], .agg [.int .u8 0], .agg [.int .u8 0], .agg [.int .u8 0], .agg [.int .u8 0], .agg [.int .u8 0], .agg [.int .u8 0], .agg [.int .u8 0]], .bool true, .nils, .int .i64 0, .int .i64 0, .bool false]], .int .i64 0, .int .i64 0, .bool false], .int .i64 7, .int .i64 0]
set_option maxHeartbeats 400000000 in
theorem q0_28 : chkCall Tryz.prog memo0 15 a0_28 r0_28 = true := by kernel_rfl
end Go.Proofs.YtoleefgpfkpokaaGreatDoor.Run
