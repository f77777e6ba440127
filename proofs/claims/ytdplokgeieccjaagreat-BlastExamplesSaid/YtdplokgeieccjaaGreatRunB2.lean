/- Known answers, level 1: no statement of its own. -/
import Derived.Test.YtdplokgeieccjaaGreatRunA
set_option autoImplicit false
set_option maxRecDepth 100000
set_option linter.unusedVariables false
namespace Go.Proofs.YtdplokgeieccjaaGreat.Run
open Go Go.Vm

def a0_7 : List V := [.agg [.int .u8 3, .str [109], .nils, .bool false, .imm 8 [.agg [.int .u8 1, .str [], .imm 1 [.agg [.int .u8 1]], .bool false, .nils, .int .i64 0, .int .i64 0, .bool false]], .int .i64 0, .int .i64 0, .bool false], .imm 1 [.agg [.int .i64 20], .agg [.int .i64 22], .agg [.int .i64 24]]]
def r0_7 : V := .bool true
set_option maxHeartbeats 400000000 in
theorem q0_7 : chkCall Tryz.prog memo0 6 a0_7 r0_7 = true := by kernel_rfl
def a0_8 : List V := [.agg [.int .u8 3, .str [109], .nils, .bool false, .imm 8 [.agg [.int .u8 1, .str [], .imm 1 [.agg [.int .u8 0]], .bool false, .nils, .int .i64 0, .int .i64 0, .bool false], .agg [.int .u8 1, .str [], .imm 1 [.agg [.int .u8 0], .agg [.int .u8 1]], .bool false, .nils, .int .i64 0, .int .i64 0, .bool false]], .int .i64 0, .int .i64 0, .bool false], .imm 1 [.agg [.int .i64 18]]]
def r0_8 : V := .bool true
set_option maxHeartbeats 400000000 in
theorem q0_8 : chkCall Tryz.prog memo0 6 a0_8 r0_8 = true := by kernel_rfl
def a0_9 : List V := [.agg [.int .u8 7, .str [], .nils, .bool false, .imm 8 [.agg [.int .u8 1, .str [], .imm 1 [.agg [.int .u8 0], .agg [.int .u8 1], .agg [.int .u8 0]], .bool false, .nils, .int .i64 0, .int .i64 0, .bool false], .agg [.int .u8 2, .str [98], .nils, .bool false, .nils, .int .i64 0, .int .i64 0, .bool false]], .int .i64 0, .int .i64 0, .bool false], .imm 1 [.agg [.int .i64 10], .agg [.int .i64 12], .agg [.int .i64 10], .agg [.int .i64 12]]]
def r0_9 : V := .bool true
set_option maxHeartbeats 400000000 in
theorem q0_9 : chkCall Tryz.prog memo0 6 a0_9 r0_9 = true := by kernel_rfl
def a0_10 : List V := [.agg [.int .u8 14, .str [], .nils, .bool false, .imm 8 [.agg [.int .u8 2, .str [98], .nils, .bool false, .nils, .int .i64 0, .int .i64 0, .bool false]], .int .i64 0, .int .i64 0, .bool false], .imm 1 [.agg [.int .i64 11], .agg [.int .i64 13]]]
def r0_10 : V := .bool true
set_option maxHeartbeats 400000000 in
theorem q0_10 : chkCall Tryz.prog memo0 6 a0_10 r0_10 = true := by kernel_rfl
def a0_11 : List V := [.agg [.int .u8 5, .str [97], .nils, .bool false, .imm 8 [.agg [.int .u8 1, .str [], .imm 1 [.agg [.int .u8 1], .agg [.int .u8 0], .agg [.int .u8 0]], .bool false, .nils, .int .i64 0, .int .i64 0, .bool false], .agg [.int .u8 1, .str [], .imm 1 [.agg [.int .u8 0], .agg [.int .u8 1], .agg [.int .u8 0]], .bool false, .nils, .int .i64 0, .int .i64 0, .bool false]], .int .i64 0, .int .i64 0, .bool false], .imm 1 [.agg [.int .i64 4], .agg [.int .i64 6]]]
def r0_11 : V := .bool true
set_option maxHeartbeats 400000000 in
theorem q0_11 : chkCall Tryz.prog memo0 6 a0_11 r0_11 = true := by kernel_rfl
end Go.Proofs.YtdplokgeieccjaaGreat.Run
