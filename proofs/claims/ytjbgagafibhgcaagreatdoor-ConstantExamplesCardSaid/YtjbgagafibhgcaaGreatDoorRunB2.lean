/- Known answers, level 1: no statement of its own. -/
import Derived.Test.YtjbgagafibhgcaaGreatDoorRunA
set_option autoImplicit false
set_option maxRecDepth 100000
set_option linter.unusedVariables false
namespace Go.Proofs.YtjbgagafibhgcaaGreatDoor.Run
open Go Go.Vm

def a0_25 : List V := [.str [119,32,61,61,32,56,32,38,38,32,119,32,33,61,32,57]]
def r0_25 : V := .agg [.int .u8 35, .str [], .nils, .bool false, .imm 8 [.agg [.int .u8 27, .str [], .nils, .bool false, .imm 8 [.agg [.int .u8 2, .str [119], .nils, .bool false, .nils, .int .i64 0, .int .i64 0, .bool false], .agg [.int .u8 1, .str [], .imm 1 [.agg [.int .u8 0], .agg [.int .u8 0], .agg [.int .u8 0], .agg [.int .u8 1], .agg [.int .u8 0], .agg [.int .u8 0], .agg [.int .u8 0], .agg [.int .u8 0], .agg [.int .u8 0], .agg [.int .u8 0], .agg [.int .u8 0], .agg [.int .u8 0], .agg [.int .u8 0], .agg [.int .u8 0], .agg [.int .u8 0], .agg [.int .u8 0], .agg [.int .u8 0], .agg [.int .u8 0], .agg [.int .u8 0], .agg [.int .u8 0], .agg [.int .u8 0], .agg [.int .u8 0], .agg [.int .u8 0], .agg [.int .u8 0], .agg [.int .u8 0], .agg [.int .u8 0], .agg [.int .u8 0], .agg [.int .u8 0], .agg [.int .u8 0], .agg [.int .u8 0], .agg [.int .u8 0], .agg [.int .u8 0]], .bool true, .nils, .int .i64 0, .int .i64 0, .bool false]], .int .i64 0, .int .i64 0, .bool false], .agg [.int .u8 28, .str [], .nils, .bool false, .imm 8 [.agg [.int .u8 2, .str [119], .nils, .bool false, .nils, .int .i64 0, .int .i64 0, .bool false], .agg [.int .u8 1, .str [], .imm 1 [.agg [.int .u8 1], .agg [.int .u8 0], .agg [.int .u8 0], .agg [.int .u8 1], .agg [.int .u8 0], .agg [.int .u8 0], .agg [.int .u8 0], .agg [.int .u8 0], .agg [.int .u8 0], .agg [.int .u8 0], .agg [.int .u8 0], .agg [.int .u8 0], .agg [.int .u8 0], .agg [.int .u8 0], .agg [.int .u8 0], .agg [.int .u8 0], .agg [.int .u8 0], .agg [.int .u8 0], .agg [.int .u8 0], .agg [.int .u8 0], .agg [.int .u8 0], .agg [.int .u8 0], .agg [.int .u8 0], .agg [.int .u8 0], .agg [.int .u8 0], .agg [.int .u8 0], .agg [.int .u8 0], .agg [.int .u8 0], .agg [.int .u8 0], .agg [.int .u8 0], .agg [.int .u8 0], .agg [.int .u8 0]], .bool true, .nils, .int .i64 0, .int .i64 0, .bool false]], .int .i64 0, .int .i64 0, .bool false]], .int .i64 0, .int .i64 0, .bool false]
set_option maxHeartbeats 400000000 in
theorem q0_25 : chkCall Tryz.prog memo0 8 a0_25 r0_25 = true := by kernel_rfl
def a0_26 : List V := [.str [52,39,98,49,120,48,48,32,124,32,52,39,98,48,48,49,49]]
def r0_26 : V := .agg [.int .u8 38, .str [], .nils, .bool false, .imm 8 [.agg [.int .u8 1, .str [], .imm 1 [.agg [.int .u8 0], .agg [.int .u8 0], .agg [.int .u8 2], .agg [.int .u8 1]], .bool false, .nils, .int .i64 0, .int .i64 0, .bool false], .agg [.int .u8 1, .str [], .imm 1 [.agg [.int .u8 1], .agg [.int .u8 1], .agg [.int .u8 0], .agg [.int .u8 0]], .bool false, .nils, .int .i64 0, .int .i64 0, .bool false]], .int .i64 0, .int .i64 0, .bool false]
set_option maxHeartbeats 400000000 in
theorem q0_26 : chkCall Tryz.prog memo0 8 a0_26 r0_26 = true := by kernel_rfl
def a0_27 : List V := [.str [52,39,98,49,120,49,49]]
def r0_27 : V := .agg [.imm 1 [.agg [.int .u8 1], .agg [.int .u8 1], .agg [.int .u8 2], .agg [.int .u8 1]], .bool false]
set_option maxHeartbeats 400000000 in
theorem q0_27 : chkCall Tryz.prog memo0 10 a0_27 r0_27 = true := by kernel_rfl
def a0_28 : List V := [.str [119,32,37,32,51]]
def r0_28 : V := .agg [.int .u8 25, .str [], .nils, .bool false, .imm 8 [.agg [.int .u8 2, .str [119], .nils, .bool false, .nils, .int .i64 0, .int .i64 0, .bool false], .agg [.int .u8 1, .str [], .imm 1 [.agg [.int .u8 1], .agg [.int .u8 1], .agg [.int .u8 0], .agg [.int .u8 0], .agg [.int .u8 0], .agg [.int .u8 0], .agg [.int .u8 0], .agg [.int .u8 0], .agg [.int .u8 0], .agg [.int .u8 0], .agg [.int .u8 0], .agg [.int .u8 0], .agg [.int .u8 0], .agg [.int .u8 0], .agg [.int .u8 0], .agg [.int .u8 0], .agg [.int .u8 0], .agg [.int .u8 0], .agg [.int .u8 0], .agg [.int .u8 0], .agg [.int .u8 0], .agg [.int .u8 0], .agg [.int .u8 0], .agg [.int .u8 0], .agg [.int .u8 0], .agg [.int .u8 0], .agg [.int .u8 0], .agg [.int .u8 0], .agg [.int .u8 0], .agg [.int .u8 0], .agg [.int .u8 0], .agg [.int .u8 0]], .bool true, .nils, .int .i64 0, .int .i64 0, .bool false]], .int .i64 0, .int .i64 0, .bool false]
set_option maxHeartbeats 400000000 in
theorem q0_28 : chkCall Tryz.prog memo0 8 a0_28 r0_28 = true := by kernel_rfl
def a0_29 : List V := [.str [50]]
def r0_29 : V := .agg [.imm 1 [.agg [.int .u8 0], .agg [.int .u8 1], .agg [.int .u8 0], .agg [.int .u8 0], .agg [.int .u8 0], .agg [.int .u8 0], .agg [.int .u8 0], .agg [.int .u8 0], .agg [.int .u8 0], .agg [.int .u8 0], .agg [.int .u8 0], .agg [.int .u8 0], .agg [.int .u8 0], .agg [.int .u8 0], .agg [.int .u8 0], .agg [.int .u8 0], .agg [.int .u8 0], .agg [.int .u8 0], .agg [.int .u8 0], .agg [.int .u8 0], .agg [.int .u8 0], .agg [.int .u8 0], .agg [.int .u8 0], .agg [.int .u8 0], .agg [.int .u8 0], .agg [.int .u8 0], .agg [.int .u8 0], .agg [.int .u8 0], .agg [.int .u8 0], .agg [.int .u8 0], .agg [.int .u8 0], .agg [.int .u8 0]], .bool true]
set_option maxHeartbeats 400000000 in
theorem q0_29 : chkCall Tryz.prog memo0 10 a0_29 r0_29 = true := by kernel_rfl
def a0_30 : List V := [.str [97,91,48]]
def r0_30 : V := .agg [.int .u8 0, .str [], .nils, .bool false, .nils, .int .i64 0, .int .i64 0, .bool false]
set_option maxHeartbeats 400000000 in
theorem q0_30 : chkCall Tryz.prog memo0 8 a0_30 r0_30 = true := by kernel_rfl
def a0_31 : List V := [.str [119,32,43,32,36,116,105,109,101]]
def r0_31 : V := .agg [.int .u8 21, .str [], .nils, .bool false, .imm 8 [.agg [.int .u8 2, .str [119], .nils, .bool false, .nils, .int .i64 0, .int .i64 0, .bool false], .agg [.int .u8 9, .str [36,116,105,109,101], .nils, .bool false, .nils, .int .i64 0, .int .i64 0, .bool false]], .int .i64 0, .int .i64 0, .bool false]
set_option maxHeartbeats 400000000 in
theorem q0_31 : chkCall Tryz.prog memo0 8 a0_31 r0_31 = true := by kernel_rfl
def a0_32 : List V := [.str [118,32,43,32,102,40,119,41]]
def r0_32 : V := .agg [.int .u8 21, .str [], .nils, .bool false, .imm 8 [.agg [.int .u8 2, .str [118], .nils, .bool false, .nils, .int .i64 0, .int .i64 0, .bool false], .agg [.int .u8 8, .str [102], .nils, .bool false, .imm 8 [.agg [.int .u8 2, .str [119], .nils, .bool false, .nils, .int .i64 0, .int .i64 0, .bool false]], .int .i64 0, .int .i64 0, .bool false]], .int .i64 0, .int .i64 0, .bool false]
set_option maxHeartbeats 400000000 in
theorem q0_32 : chkCall Tryz.prog memo0 8 a0_32 r0_32 = true := by kernel_rfl
def a0_33 : List V := [.str [123,119,123,119,125,125]]
def r0_33 : V := .agg [.int .u8 7, .str [], .nils, .bool false, .imm 8 [.agg [.int .u8 2, .str [119], .nils, .bool false, .nils, .int .i64 0, .int .i64 0, .bool false], .agg [.int .u8 2, .str [119], .nils, .bool false, .nils, .int .i64 0, .int .i64 0, .bool false]], .int .i64 0, .int .i64 0, .bool false]
set_option maxHeartbeats 400000000 in
theorem q0_33 : chkCall Tryz.prog memo0 8 a0_33 r0_33 = true := by kernel_rfl
end Go.Proofs.YtjbgagafibhgcaaGreatDoor.Run
