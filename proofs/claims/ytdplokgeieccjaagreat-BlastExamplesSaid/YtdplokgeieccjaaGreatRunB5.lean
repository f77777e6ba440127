/- Known answers, level 1: no statement of its own. -/
import Derived.Test.YtdplokgeieccjaaGreatRunA
set_option autoImplicit false
set_option maxRecDepth 100000
set_option linter.unusedVariables false
namespace Go.Proofs.YtdplokgeieccjaaGreat.Run
open Go Go.Vm

def a0_26 : List V := [.agg [.int .u8 3, .str [109], .nils, .bool false, .imm 8 [.agg [.int .u8 1, .str [], .imm 1 [.agg [.int .u8 0]], .bool false, .nils, .int .i64 0, .int .i64 0, .bool false], .agg [.int .u8 2, .str [98], .nils, .bool false, .nils, .int .i64 0, .int .i64 0, .bool false]], .int .i64 0, .int .i64 0, .bool false], .int .i64 17]
def r0_26 : V := .bool true
set_option maxHeartbeats 400000000 in
theorem q0_26 : chkCall Tryz.prog memo0 9 a0_26 r0_26 = true := by kernel_rfl
def a0_27 : List V := [.agg [.int .u8 5, .str [97], .nils, .bool false, .imm 8 [.agg [.int .u8 2, .str [98], .nils, .bool false, .nils, .int .i64 0, .int .i64 0, .bool false], .agg [.int .u8 1, .str [], .imm 1 [.agg [.int .u8 0], .agg [.int .u8 1], .agg [.int .u8 0]], .bool false, .nils, .int .i64 0, .int .i64 0, .bool false]], .int .i64 0, .int .i64 0, .bool false], .int .i64 17]
def r0_27 : V := .bool true
set_option maxHeartbeats 400000000 in
theorem q0_27 : chkCall Tryz.prog memo0 9 a0_27 r0_27 = true := by kernel_rfl
def a0_28 : List V := [.agg [.int .u8 5, .str [97], .nils, .bool false, .imm 8 [.agg [.int .u8 1, .str [], .imm 1 [.agg [.int .u8 1], .agg [.int .u8 1], .agg [.int .u8 0]], .bool false, .nils, .int .i64 0, .int .i64 0, .bool false], .agg [.int .u8 1, .str [], .imm 1 [.agg [.int .u8 0], .agg [.int .u8 1], .agg [.int .u8 0]], .bool false, .nils, .int .i64 0, .int .i64 0, .bool false]], .int .i64 0, .int .i64 0, .bool false], .int .i64 17]
def r0_28 : V := .bool true
set_option maxHeartbeats 400000000 in
theorem q0_28 : chkCall Tryz.prog memo0 9 a0_28 r0_28 = true := by kernel_rfl
def a0_29 : List V := [.agg [.int .u8 14, .str [], .nils, .bool false, .imm 8 [.agg [.int .u8 9, .str [36,116,105,109,101], .nils, .bool false, .nils, .int .i64 0, .int .i64 0, .bool false]], .int .i64 0, .int .i64 0, .bool false], .int .i64 17]
def r0_29 : V := .bool true
set_option maxHeartbeats 400000000 in
theorem q0_29 : chkCall Tryz.prog memo0 9 a0_29 r0_29 = true := by kernel_rfl
end Go.Proofs.YtdplokgeieccjaaGreat.Run
