/- Known answers, level 1: no statement of its own. -/
import Derived.Test.YtdplokgeieccjaaGreatRunA
set_option autoImplicit false
set_option maxRecDepth 100000
set_option linter.unusedVariables false
namespace Go.Proofs.YtdplokgeieccjaaGreat.Run
open Go Go.Vm

def a0_3 : List V := [.agg [.int .u8 3, .str [98], .nils, .bool false, .imm 8 [.agg [.int .u8 2, .str [97], .nils, .bool false, .nils, .int .i64 0, .int .i64 0, .bool false]], .int .i64 0, .int .i64 0, .bool false], .int .i64 17]
def r0_3 : V := .bool true
set_option maxHeartbeats 400000000 in
theorem q0_3 : chkCall Tryz.prog memo0 9 a0_3 r0_3 = true := by kernel_rfl
def a0_4 : List V := [.agg [.int .u8 24, .str [], .nils, .bool false, .imm 8 [.agg [.int .u8 2, .str [97], .nils, .bool false, .nils, .int .i64 0, .int .i64 0, .bool false], .agg [.int .u8 2, .str [98], .nils, .bool false, .nils, .int .i64 0, .int .i64 0, .bool false]], .int .i64 0, .int .i64 0, .bool false], .int .i64 17]
def r0_4 : V := .bool true
set_option maxHeartbeats 400000000 in
theorem q0_4 : chkCall Tryz.prog memo0 9 a0_4 r0_4 = true := by kernel_rfl
def a0_5 : List V := [.agg [.int .u8 1, .str [], .imm 1 [.agg [.int .u8 0], .agg [.int .u8 1], .agg [.int .u8 2]], .bool false, .nils, .int .i64 0, .int .i64 0, .bool false], .int .i64 17]
def r0_5 : V := .bool true
set_option maxHeartbeats 400000000 in
theorem q0_5 : chkCall Tryz.prog memo0 9 a0_5 r0_5 = true := by kernel_rfl
def a0_6 : List V := [.agg [.int .u8 2, .str [97], .nils, .bool false, .nils, .int .i64 0, .int .i64 0, .bool false], .imm 1 [.agg [.int .i64 2], .agg [.int .i64 4], .agg [.int .i64 6], .agg [.int .i64 8]]]
def r0_6 : V := .bool true
set_option maxHeartbeats 400000000 in
theorem q0_6 : chkCall Tryz.prog memo0 6 a0_6 r0_6 = true := by kernel_rfl
end Go.Proofs.YtdplokgeieccjaaGreat.Run
