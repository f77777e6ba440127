/- Known answers, level 1: no statement of its own. -/
import Derived.Test.YtdplokgeieccjaaGreatRunA
set_option autoImplicit false
set_option maxRecDepth 100000
set_option linter.unusedVariables false
namespace Go.Proofs.YtdplokgeieccjaaGreat.Run
open Go Go.Vm

def a0_0 : List V := [.agg [.int .u8 4, .str [97], .nils, .bool false, .imm 8 [.agg [.int .u8 1, .str [], .imm 1 [.agg [.int .u8 0], .agg [.int .u8 1], .agg [.int .u8 0]], .bool false, .nils, .int .i64 0, .int .i64 0, .bool false], .agg [.int .u8 1, .str [], .imm 1 [.agg [.int .u8 1], .agg [.int .u8 0], .agg [.int .u8 0]], .bool false, .nils, .int .i64 0, .int .i64 0, .bool false]], .int .i64 0, .int .i64 0, .bool false], .imm 1 [.agg [.int .i64 4], .agg [.int .i64 6]]]
def r0_0 : V := .bool true
set_option maxHeartbeats 400000000 in
theorem q0_0 : chkCall Tryz.prog memo0 6 a0_0 r0_0 = true := by kernel_rfl
def a0_1 : List V := [.agg [.int .u8 6, .str [], .nils, .bool false, .imm 8 [.agg [.int .u8 2, .str [98], .nils, .bool false, .nils, .int .i64 0, .int .i64 0, .bool false], .agg [.int .u8 1, .str [], .imm 1 [.agg [.int .u8 1]], .bool false, .nils, .int .i64 0, .int .i64 0, .bool false]], .int .i64 0, .int .i64 0, .bool false], .imm 1 [.agg [.int .i64 1], .agg [.int .i64 10], .agg [.int .i64 12]]]
def r0_1 : V := .bool true
set_option maxHeartbeats 400000000 in
theorem q0_1 : chkCall Tryz.prog memo0 6 a0_1 r0_1 = true := by kernel_rfl
def a0_2 : List V := [.agg [.int .u8 24, .str [], .nils, .bool false, .imm 8 [.agg [.int .u8 1, .str [], .imm 1 [.agg [.int .u8 1], .agg [.int .u8 1], .agg [.int .u8 1], .agg [.int .u8 0]], .bool false, .nils, .int .i64 0, .int .i64 0, .bool false], .agg [.int .u8 1, .str [], .imm 1 [.agg [.int .u8 0], .agg [.int .u8 1], .agg [.int .u8 0], .agg [.int .u8 0]], .bool false, .nils, .int .i64 0, .int .i64 0, .bool false]], .int .i64 0, .int .i64 0, .bool false], .imm 1 [.agg [.int .i64 1], .agg [.int .i64 1], .agg [.int .i64 0], .agg [.int .i64 0]]]
def r0_2 : V := .bool true
set_option maxHeartbeats 400000000 in
theorem q0_2 : chkCall Tryz.prog memo0 6 a0_2 r0_2 = true := by kernel_rfl
end Go.Proofs.YtdplokgeieccjaaGreat.Run
