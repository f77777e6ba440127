/- Known answers, level 1: no statement of its own. -/
import Derived.Test.YtjbgagafibhgcaaGreatDoorRunA
set_option autoImplicit false
set_option maxRecDepth 100000
set_option linter.unusedVariables false
namespace Go.Proofs.YtjbgagafibhgcaaGreatDoor.Run
open Go Go.Vm

def a0_11 : List V := [.str [102,40,119,41]]
def r0_11 : V := .agg [.int .u8 8, .str [102], .nils, .bool false, .imm 8 [.agg [.int .u8 2, .str [119], .nils, .bool false, .nils, .int .i64 0, .int .i64 0, .bool false]], .int .i64 0, .int .i64 0, .bool false]
set_option maxHeartbeats 400000000 in
theorem q0_11 : chkCall Tryz.prog memo0 8 a0_11 r0_11 = true := by kernel_rfl
def a0_12 : List V := [.str [118]]
def r0_12 : V := .agg [.int .u8 2, .str [118], .nils, .bool false, .nils, .int .i64 0, .int .i64 0, .bool false]
set_option maxHeartbeats 400000000 in
theorem q0_12 : chkCall Tryz.prog memo0 8 a0_12 r0_12 = true := by kernel_rfl
def a0_13 : List V := [.str [49,32,47,32,48]]
def r0_13 : V := .agg [.int .u8 24, .str [], .nils, .bool false, .imm 8 [.agg [.int .u8 1, .str [], .imm 1 [.agg [.int .u8 1], .agg [.int .u8 0], .agg [.int .u8 0], .agg [.int .u8 0], .agg [.int .u8 0], .agg [.int .u8 0], .agg [.int .u8 0], .agg [.int .u8 0], .agg [.int .u8 0], .agg [.int .u8 0], .agg [.int .u8 0], .agg [.int .u8 0], .agg [.int .u8 0], .agg [.int .u8 0], .agg [.int .u8 0], .agg [.int .u8 0], .agg [.int .u8 0], .agg [.int .u8 0], .agg [.int .u8 0], .agg [.int .u8 0], .agg [.int .u8 0], .agg [.int .u8 0], .agg [.int .u8 0], .agg [.int .u8 0], .agg [.int .u8 0], .agg [.int .u8 0], .agg [.int .u8 0], .agg [.int .u8 0], .agg [.int .u8 0], .agg [.int .u8 0], .agg [.int .u8 0], .agg [.int .u8 0]], .bool true, .nils, .int .i64 0, .int .i64 0, .bool false], .agg [.int .u8 1, .str [], .imm 1 [.agg [.int .u8 0], .agg [.int .u8 0], .agg [.int .u8 0], .agg [.int .u8 0], .agg [.int .u8 0], .agg [.int .u8 0], .agg [.int .u8 0], .agg [.int .u8 0], .agg [.int .u8 0], .agg [.int .u8 0], .agg [.int .u8 0], .agg [.int .u8 0], .agg [.int .u8 0], .agg [.int .u8 0], .agg [.int .u8 0], .agg [.int .u8 0], .agg [.int .u8 0], .agg [.int .u8 0], .agg [.int .u8 0], .agg [.int .u8 0], .agg [.int .u8 0], .agg [.int .u8 0], .agg [.int .u8 0], .agg [.int .u8 0], .agg [.int .u8 0], .agg [.int .u8 0], .agg [.int .u8 0], .agg [.int .u8 0], .agg [.int .u8 0], .agg [.int .u8 0], .agg [.int .u8 0], .agg [.int .u8 0]], .bool true, .nils, .int .i64 0, .int .i64 0, .bool false]], .int .i64 0, .int .i64 0, .bool false]
set_option maxHeartbeats 400000000 in
theorem q0_13 : chkCall Tryz.prog memo0 8 a0_13 r0_13 = true := by kernel_rfl
def a0_14 : List V := [.str [45,119]]
def r0_14 : V := .agg [.int .u8 12, .str [], .nils, .bool false, .imm 8 [.agg [.int .u8 2, .str [119], .nils, .bool false, .nils, .int .i64 0, .int .i64 0, .bool false]], .int .i64 0, .int .i64 0, .bool false]
set_option maxHeartbeats 400000000 in
theorem q0_14 : chkCall Tryz.prog memo0 8 a0_14 r0_14 = true := by kernel_rfl
def a0_15 : List V := [.str [51,50,39,115,98,49,49,49,49,49,49,49,49,49,49,49,49,49,49,49,49,49,49,49,49,49,49,49,49,49,49,49,49,49,48,48,48]]
def r0_15 : V := .agg [.imm 1 [.agg [.int .u8 0], .agg [.int .u8 0], .agg [.int .u8 0], .agg [.int .u8 1], .agg [.int .u8 1], .agg [.int .u8 1], .agg [.int .u8 1], .agg [.int .u8 1], .agg [.int .u8 1], .agg [.int .u8 1], .agg [.int .u8 1], .agg [.int .u8 1], .agg [.int .u8 1], .agg [.int .u8 1], .agg [.int .u8 1], .agg [.int .u8 1], .agg [.int .u8 1], .agg [.int .u8 1], .agg [.int .u8 1], .agg [.int .u8 1], .agg [.int .u8 1], .agg [.int .u8 1], .agg [.int .u8 1], .agg [.int .u8 1], .agg [.int .u8 1], .agg [.int .u8 1], .agg [.int .u8 1], .agg [.int .u8 1], .agg [.int .u8 1], .agg [.int .u8 1], .agg [.int .u8 1], .agg [.int .u8 1]], .bool true]
set_option maxHeartbeats 400000000 in
theorem q0_15 : chkCall Tryz.prog memo0 10 a0_15 r0_15 = true := by kernel_rfl
def a0_16 : List V := [.str [119,32,63,32,50,39,100,49,32,58,32,50,39,100,50]]
def r0_16 : V := .agg [.int .u8 10, .str [], .nils, .bool false, .imm 8 [.agg [.int .u8 2, .str [119], .nils, .bool false, .nils, .int .i64 0, .int .i64 0, .bool false], .agg [.int .u8 1, .str [], .imm 1 [.agg [.int .u8 1], .agg [.int .u8 0]], .bool false, .nils, .int .i64 0, .int .i64 0, .bool false], .agg [.int .u8 1, .str [], .imm 1 [.agg [.int .u8 0], .agg [.int .u8 1]], .bool false, .nils, .int .i64 0, .int .i64 0, .bool false]], .int .i64 0, .int .i64 0, .bool false]
set_option maxHeartbeats 400000000 in
theorem q0_16 : chkCall Tryz.prog memo0 8 a0_16 r0_16 = true := by kernel_rfl
def a0_17 : List V := [.str [50,39,98,48,49]]
def r0_17 : V := .agg [.imm 1 [.agg [.int .u8 1], .agg [.int .u8 0]], .bool false]
set_option maxHeartbeats 400000000 in
theorem q0_17 : chkCall Tryz.prog memo0 10 a0_17 r0_17 = true := by kernel_rfl
def a0_18 : List V := [.str [123,50,123,50,39,98,49,48,125,125]]
def r0_18 : V := .agg [.int .u8 7, .str [], .nils, .bool false, .imm 8 [.agg [.int .u8 1, .str [], .imm 1 [.agg [.int .u8 0], .agg [.int .u8 1], .agg [.int .u8 0], .agg [.int .u8 0], .agg [.int .u8 0], .agg [.int .u8 0], .agg [.int .u8 0], .agg [.int .u8 0], .agg [.int .u8 0], .agg [.int .u8 0], .agg [.int .u8 0], .agg [.int .u8 0], .agg [.int .u8 0], .agg [.int .u8 0], .agg [.int .u8 0], .agg [.int .u8 0], .agg [.int .u8 0], .agg [.int .u8 0], .agg [.int .u8 0], .agg [.int .u8 0], .agg [.int .u8 0], .agg [.int .u8 0], .agg [.int .u8 0], .agg [.int .u8 0], .agg [.int .u8 0], .agg [.int .u8 0], .agg [.int .u8 0], .agg [.int .u8 0], .agg [.int .u8 0], .agg [.int .u8 0], .agg [.int .u8 0], .agg [.int .u8 0]], .bool true, .nils, .int .i64 0, .int .i64 0, .bool false], .agg [.int .u8 1, .str [], .imm 1 [.agg [.int .u8 0], .agg [.int .u8 1]], .bool false, .nils, .int .i64 0, .int .i64 0, .bool false]], .int .i64 0, .int .i64 0, .bool false]
set_option maxHeartbeats 400000000 in
theorem q0_18 : chkCall Tryz.prog memo0 8 a0_18 r0_18 = true := by kernel_rfl
def a0_19 : List V := [.str [52,39,98,49,48,49,48]]
def r0_19 : V := .agg [.imm 1 [.agg [.int .u8 0], .agg [.int .u8 1], .agg [.int .u8 0], .agg [.int .u8 1]], .bool false]
set_option maxHeartbeats 400000000 in
theorem q0_19 : chkCall Tryz.prog memo0 10 a0_19 r0_19 = true := by kernel_rfl
def a0_20 : List V := [.str [119,32,60,60,32,49]]
def r0_20 : V := .agg [.int .u8 41, .str [], .nils, .bool false, .imm 8 [.agg [.int .u8 2, .str [119], .nils, .bool false, .nils, .int .i64 0, .int .i64 0, .bool false], .agg [.int .u8 1, .str [], .imm 1 [.agg [.int .u8 1], .agg [.int .u8 0], .agg [.int .u8 0], .agg [.int .u8 0], .agg [.int .u8 0], .agg [.int .u8 0], .agg [.int .u8 0], .agg [.int .u8 0], .agg [.int .u8 0], .agg [.int .u8 0], .agg [.int .u8 0], .agg [.int .u8 0], .agg [.int .u8 0], .agg [.int .u8 0], .agg [.int .u8 0], .agg [.int .u8 0], .agg [.int .u8 0], .agg [.int .u8 0], .agg [.int .u8 0], .agg [.int .u8 0], .agg [.int .u8 0], .agg [.int .u8 0], .agg [.int .u8 0], .agg [.int .u8 0], .agg [.int .u8 0], .agg [.int .u8 0], .agg [.int .u8 0], .agg [.int .u8 0], .agg [.int .u8 0], .agg [.int .u8 0], .agg [.int .u8 0], .agg [.int .u8 0]], .bool true, .nils, .int .i64 0, .int .i64 0, .bool false]], .int .i64 0, .int .i64 0, .bool false]
set_option maxHeartbeats 400000000 in
theorem q0_20 : chkCall Tryz.prog memo0 8 a0_20 r0_20 = true := by kernel_rfl
def a0_21 : List V := [.str [49,54]]
def r0_21 : V := .agg [.imm 1 [.agg [.int .u8 0], .agg [.int .u8 0], .agg [.int .u8 0], .agg [.int .u8 0], .agg [.int .u8 1], .agg [.int .u8 0], .agg [.int .u8 0], .agg [.int .u8 0], .agg [.int .u8 0], .agg [.int .u8 0], .agg [.int .u8 0], .agg [.int .u8 0], .agg [.int .u8 0], .agg [.int .u8 0], .agg [.int .u8 0], .agg [.int .u8 0], .agg [.int .u8 0], .agg [.int .u8 0], .agg [.int .u8 0], .agg [.int .u8 0], .agg [.int .u8 0], .agg [.int .u8 0], .agg [.int .u8 0], .agg [.int .u8 0], .agg [.int .u8 0], .agg [.int .u8 0], .agg [.int .u8 0], .agg [.int .u8 0], .agg [.int .u8 0], .agg [.int .u8 0], .agg [.int .u8 0], .agg [.int .u8 0]], .bool true]
set_option maxHeartbeats 400000000 in
theorem q0_21 : chkCall Tryz.prog memo0 10 a0_21 r0_21 = true := by kernel_rfl
def a0_22 : List V := [.str [50,32,42,42,32,51]]
def r0_22 : V := .agg [.int .u8 26, .str [], .nils, .bool false, .imm 8 [.agg [.int .u8 1, .str [], .imm 1 [.agg [.int .u8 0], .agg [.int .u8 1], .agg [.int .u8 0], .agg [.int .u8 0], .agg [.int .u8 0], .agg [.int .u8 0], .agg [.int .u8 0], .agg [.int .u8 0], .agg [.int .u8 0], .agg [.int .u8 0], .agg [.int .u8 0], .agg [.int .u8 0], .agg [.int .u8 0], .agg [.int .u8 0], .agg [.int .u8 0], .agg [.int .u8 0], .agg [.int .u8 0], .agg [.int .u8 0], .agg [.int .u8 0], .agg [.int .u8 0], .agg [.int .u8 0], .agg [.int .u8 0], .agg [.int .u8 0], .agg [.int .u8 0], .agg [.int .u8 0], .agg [.int .u8 0], .agg [.int .u8 0], .agg [.int .u8 0], .agg [.int .u8 0], .agg [.int .u8 0], .agg [.int .u8 0], .agg [.int .u8 0]], .bool true, .nils, .int .i64 0, .int .i64 0, .bool false], .agg [.int .u8 1, .str [], .imm 1 [.agg [.int .u8 1], .agg [.int .u8 1], .agg [.int .u8 0], .agg [.int .u8 0], .agg [.int .u8 0], .agg [.int .u8 0], .agg [.int .u8 0], .agg [.int .u8 0], .agg [.int .u8 0], .agg [.int .u8 0], .agg [.int .u8 0], .agg [.int .u8 0], .agg [.int .u8 0], .agg [.int .u8 0], .agg [.int .u8 0], .agg [.int .u8 0], .agg [.int .u8 0], .agg [.int .u8 0], .agg [.int .u8 0], .agg [.int .u8 0], .agg [.int .u8 0], .agg [.int .u8 0], .agg [.int .u8 0], .agg [.int .u8 0], .agg [.int .u8 0], .agg [.int .u8 0], .agg [.int .u8 0], .agg [.int .u8 0], .agg [.int .u8 0], .agg [.int .u8 0], .agg [.int .u8 0], .agg [.int .u8 0]], .bool true, .nils, .int .i64 0, .int .i64 0, .bool false]], .int .i64 0, .int .i64 0, .bool false]
set_option maxHeartbeats 400000000 in
theorem q0_22 : chkCall Tryz.prog memo0 8 a0_22 r0_22 = true := by kernel_rfl
def a0_23 : List V := [.str [36,117,110,115,105,103,110,101,100,40,119,41,32,43,32,49]]
def r0_23 : V := .agg [.int .u8 21, .str [], .nils, .bool false, .imm 8 [.agg [.int .u8 9, .str [36,117,110,115,105,103,110,101,100], .nils, .bool false, .imm 8 [.agg [.int .u8 2, .str [119], .nils, .bool false, .nils, .int .i64 0, .int .i64 0, .bool false]], .int .i64 0, .int .i64 0, .bool false], .agg [.int .u8 1, .str [], .imm 1 [.agg [.int .u8 1], .agg [.int .u8 0], .agg [.int .u8 0], .agg [.int .u8 0], .agg [.int .u8 0], .agg [.int .u8 0], .agg [.int .u8 0], .agg [.int .u8 0], .agg [.int .u8 0], .agg [.int .u8 0], .agg [.int .u8 0], .agg [.int .u8 0], .agg [.int .u8 0], .agg [.int .u8 0], .agg [.int .u8 0], .agg [.int .u8 0], .agg [.int .u8 0], .agg [.int .u8 0], .agg [.int .u8 0], .agg [.int .u8 0], .agg [.int .u8 0], .agg [.int .u8 0], .agg [.int .u8 0], .agg [.int .u8 0], .agg [.int .u8 0], .agg [.int .u8 0], .agg [.int .u8 0], .agg [.int .u8 0], .agg [.int .u8 0], .agg [.int .u8 0], .agg [.int .u8 0], .agg [.int .u8 0]], .bool true, .nils, .int .i64 0, .int .i64 0, .bool false]], .int .i64 0, .int .i64 0, .bool false]
set_option maxHeartbeats 400000000 in
theorem q0_23 : chkCall Tryz.prog memo0 8 a0_23 r0_23 = true := by kernel_rfl
def a0_24 : List V := [.str [51,50,39,100,57]]
def r0_24 : V := .agg [.imm 1 [.agg [.int .u8 1], .agg [.int .u8 0], .agg [.int .u8 0], .agg [.int .u8 1], .agg [.int .u8 0], .agg [.int .u8 0], .agg [.int .u8 0], .agg [.int .u8 0], .agg [.int .u8 0], .agg [.int .u8 0], .agg [.int .u8 0], .agg [.int .u8 0], .agg [.int .u8 0], .agg [.int .u8 0], .agg [.int .u8 0], .agg [.int .u8 0], .agg [.int .u8 0], .agg [.int .u8 0], .agg [.int .u8 0], .agg [.int .u8 0], .agg [.int .u8 0], .agg [.int .u8 0], .agg [.int .u8 0], .agg [.int .u8 0], .agg [.int .u8 0], .agg [.int .u8 0], .agg [.int .u8 0], .agg [.int .u8 0], .agg [.int .u8 0], .agg [.int .u8 0], .agg [.int .u8 0], .agg [.int .u8 0]], .bool false]
set_option maxHeartbeats 400000000 in
theorem q0_24 : chkCall Tryz.prog memo0 10 a0_24 r0_24 = true := by kernel_rfl
end Go.Proofs.YtjbgagafibhgcaaGreatDoor.Run
