/- Known answers, level 1: no statement of its own. -/
import Derived.Test.YtdplokgeieccjaaGreatRunA
set_option autoImplicit false
set_option maxRecDepth 100000
set_option linter.unusedVariables false
namespace Go.Proofs.YtdplokgeieccjaaGreat.Run
open Go Go.Vm

def a0_15 : List V := [.agg [.int .u8 29, .str [], .nils, .bool false, .imm 8 [.agg [.int .u8 2, .str [97], .nils, .bool false, .nils, .int .i64 0, .int .i64 0, .bool false], .agg [.int .u8 2, .str [97], .nils, .bool false, .nils, .int .i64 0, .int .i64 0, .bool false]], .int .i64 0, .int .i64 0, .bool false], .imm 1 [.agg [.int .i64 1]]]
def r0_15 : V := .bool true
set_option maxHeartbeats 400000000 in
theorem q0_15 : chkCall Tryz.prog memo0 6 a0_15 r0_15 = true := by kernel_rfl
def a0_16 : List V := [.agg [.int .u8 22, .str [], .nils, .bool false, .imm 8 [.agg [.int .u8 2, .str [98], .nils, .bool false, .nils, .int .i64 0, .int .i64 0, .bool false], .agg [.int .u8 2, .str [98], .nils, .bool false, .nils, .int .i64 0, .int .i64 0, .bool false]], .int .i64 0, .int .i64 0, .bool false], .imm 1 [.agg [.int .i64 0], .agg [.int .i64 0]]]
def r0_16 : V := .bool true
set_option maxHeartbeats 400000000 in
theorem q0_16 : chkCall Tryz.prog memo0 6 a0_16 r0_16 = true := by kernel_rfl
def a0_17 : List V := [.agg [.int .u8 10, .str [], .nils, .bool false, .imm 8 [.agg [.int .u8 1, .str [], .imm 1 [.agg [.int .u8 1]], .bool false, .nils, .int .i64 0, .int .i64 0, .bool false], .agg [.int .u8 2, .str [98], .nils, .bool false, .nils, .int .i64 0, .int .i64 0, .bool false], .agg [.int .u8 1, .str [], .imm 1 [.agg [.int .u8 0]], .bool false, .nils, .int .i64 0, .int .i64 0, .bool false]], .int .i64 0, .int .i64 0, .bool false], .imm 1 [.agg [.int .i64 10], .agg [.int .i64 12]]]
def r0_17 : V := .bool true
set_option maxHeartbeats 400000000 in
theorem q0_17 : chkCall Tryz.prog memo0 6 a0_17 r0_17 = true := by kernel_rfl
def a0_18 : List V := [.agg [.int .u8 9, .str [36,117,110,115,105,103,110,101,100], .nils, .bool false, .imm 8 [.agg [.int .u8 2, .str [98], .nils, .bool false, .nils, .int .i64 0, .int .i64 0, .bool false]], .int .i64 0, .int .i64 0, .bool false], .imm 1 [.agg [.int .i64 10], .agg [.int .i64 12]]]
def r0_18 : V := .bool true
set_option maxHeartbeats 400000000 in
theorem q0_18 : chkCall Tryz.prog memo0 6 a0_18 r0_18 = true := by kernel_rfl
def a0_19 : List V := [.agg [.int .u8 1, .str [], .imm 1 [.agg [.int .u8 1], .agg [.int .u8 3]], .bool false, .nils, .int .i64 0, .int .i64 0, .bool false], .int .i64 17]
def r0_19 : V := .bool true
set_option maxHeartbeats 400000000 in
theorem q0_19 : chkCall Tryz.prog memo0 9 a0_19 r0_19 = true := by kernel_rfl
def a0_20 : List V := [.agg [.int .u8 9, .str [36,116,105,109,101], .nils, .bool false, .nils, .int .i64 0, .int .i64 0, .bool false], .int .i64 17]
def r0_20 : V := .bool true
set_option maxHeartbeats 400000000 in
theorem q0_20 : chkCall Tryz.prog memo0 9 a0_20 r0_20 = true := by kernel_rfl
def a0_21 : List V := [.agg [.int .u8 25, .str [], .nils, .bool false, .imm 8 [.agg [.int .u8 1, .str [], .imm 1 [.agg [.int .u8 1], .agg [.int .u8 0]], .bool false, .nils, .int .i64 0, .int .i64 0, .bool false], .agg [.int .u8 1, .str [], .imm 1 [.agg [.int .u8 0], .agg [.int .u8 0]], .bool false, .nils, .int .i64 0, .int .i64 0, .bool false]], .int .i64 0, .int .i64 0, .bool false], .int .i64 17]
def r0_21 : V := .bool true
set_option maxHeartbeats 400000000 in
theorem q0_21 : chkCall Tryz.prog memo0 9 a0_21 r0_21 = true := by kernel_rfl
def a0_22 : List V := [.agg [.int .u8 26, .str [], .nils, .bool false, .imm 8 [.agg [.int .u8 1, .str [], .imm 1 [.agg [.int .u8 1], .agg [.int .u8 0]], .bool false, .nils, .int .i64 0, .int .i64 0, .bool false], .agg [.int .u8 2, .str [98], .nils, .bool false, .nils, .int .i64 0, .int .i64 0, .bool false]], .int .i64 0, .int .i64 0, .bool false], .int .i64 17]
def r0_22 : V := .bool true
set_option maxHeartbeats 400000000 in
theorem q0_22 : chkCall Tryz.prog memo0 9 a0_22 r0_22 = true := by kernel_rfl
def a0_23 : List V := [.agg [.int .u8 3, .str [97], .nils, .bool false, .imm 8 [.agg [.int .u8 1, .str [], .imm 1 [.agg [.int .u8 0], .agg [.int .u8 0], .agg [.int .u8 1], .agg [.int .u8 0]], .bool false, .nils, .int .i64 0, .int .i64 0, .bool false]], .int .i64 0, .int .i64 0, .bool false], .int .i64 17]
def r0_23 : V := .bool true
set_option maxHeartbeats 400000000 in
theorem q0_23 : chkCall Tryz.prog memo0 9 a0_23 r0_23 = true := by kernel_rfl
def a0_24 : List V := [.agg [.int .u8 3, .str [97], .nils, .bool false, .imm 8 [.agg [.int .u8 1, .str [], .imm 1 [.agg [.int .u8 1], .agg [.int .u8 3]], .bool false, .nils, .int .i64 0, .int .i64 0, .bool false]], .int .i64 0, .int .i64 0, .bool false], .int .i64 17]
def r0_24 : V := .bool true
set_option maxHeartbeats 400000000 in
theorem q0_24 : chkCall Tryz.prog memo0 9 a0_24 r0_24 = true := by kernel_rfl
def a0_25 : List V := [.agg [.int .u8 3, .str [109], .nils, .bool false, .imm 8 [.agg [.int .u8 2, .str [98], .nils, .bool false, .nils, .int .i64 0, .int .i64 0, .bool false]], .int .i64 0, .int .i64 0, .bool false], .int .i64 17]
def r0_25 : V := .bool true
set_option maxHeartbeats 400000000 in
theorem q0_25 : chkCall Tryz.prog memo0 9 a0_25 r0_25 = true := by kernel_rfl
end Go.Proofs.YtdplokgeieccjaaGreat.Run
