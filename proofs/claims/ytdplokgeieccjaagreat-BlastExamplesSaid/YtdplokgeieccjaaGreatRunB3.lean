/- Known answers, level 1: no statement of its own. -/
import Derived.Test.YtdplokgeieccjaaGreatRunA
set_option autoImplicit false
set_option maxRecDepth 100000
set_option linter.unusedVariables false
namespace Go.Proofs.YtdplokgeieccjaaGreat.Run
open Go Go.Vm

def a0_12 : List V := [.agg [.int .u8 41, .str [], .nils, .bool false, .imm 8 [.agg [.int .u8 2, .str [97], .nils, .bool false, .nils, .int .i64 0, .int .i64 0, .bool false], .agg [.int .u8 1, .str [], .imm 1 [.agg [.int .u8 1], .agg [.int .u8 0]], .bool false, .nils, .int .i64 0, .int .i64 0, .bool false]], .int .i64 0, .int .i64 0, .bool false], .imm 1 [.agg [.int .i64 0], .agg [.int .i64 2], .agg [.int .i64 4], .agg [.int .i64 6]]]
def r0_12 : V := .bool true
set_option maxHeartbeats 400000000 in
theorem q0_12 : chkCall Tryz.prog memo0 6 a0_12 r0_12 = true := by kernel_rfl
def a0_13 : List V := [.agg [.int .u8 42, .str [], .nils, .bool false, .imm 8 [.agg [.int .u8 2, .str [97], .nils, .bool false, .nils, .int .i64 0, .int .i64 0, .bool false], .agg [.int .u8 1, .str [], .imm 1 [.agg [.int .u8 1], .agg [.int .u8 0], .agg [.int .u8 0], .agg [.int .u8 1]], .bool false, .nils, .int .i64 0, .int .i64 0, .bool false]], .int .i64 0, .int .i64 0, .bool false], .imm 1 [.agg [.int .i64 0], .agg [.int .i64 0], .agg [.int .i64 0], .agg [.int .i64 0]]]
def r0_13 : V := .bool true
set_option maxHeartbeats 400000000 in
theorem q0_13 : chkCall Tryz.prog memo0 6 a0_13 r0_13 = true := by kernel_rfl
def a0_14 : List V := [.agg [.int .u8 26, .str [], .nils, .bool false, .imm 8 [.agg [.int .u8 1, .str [], .imm 1 [.agg [.int .u8 0], .agg [.int .u8 1], .agg [.int .u8 0], .agg [.int .u8 0]], .bool false, .nils, .int .i64 0, .int .i64 0, .bool false], .agg [.int .u8 1, .str [], .imm 1 [.agg [.int .u8 1], .agg [.int .u8 1], .agg [.int .u8 0], .agg [.int .u8 0]], .bool false, .nils, .int .i64 0, .int .i64 0, .bool false]], .int .i64 0, .int .i64 0, .bool false], .imm 1 [.agg [.int .i64 0], .agg [.int .i64 0], .agg [.int .i64 0], .agg [.int .i64 1]]]
def r0_14 : V := .bool true
set_option maxHeartbeats 400000000 in
theorem q0_14 : chkCall Tryz.prog memo0 6 a0_14 r0_14 = true := by kernel_rfl
end Go.Proofs.YtdplokgeieccjaaGreat.Run
