/- Known answers, level 1: no statement of its own. -/
import Derived.Test.YtncjlehibolekaaGreatDoorRunA
set_option autoImplicit false
set_option maxRecDepth 100000
set_option linter.unusedVariables false
namespace Go.Proofs.YtncjlehibolekaaGreatDoor.Run
open Go Go.Vm

def a0_11 : List V := [.str [102,40,119,41]]
def r0_11 : V := .agg [.int .u8 8, .str [102], .nils, .bool false, .imm 8 [.agg [.int .u8 2, .str [119], .nils, .bool false, .nils, .int .i64 0, .int .i64 0, .bool false]], .int .i64 0, .int .i64 0, .bool false]
set_option maxHeartbeats 400000000 in
theorem q0_11 : chkCall Tryz.prog memo0 17 a0_11 r0_11 = true := by kernel_rfl
def a0_12 : List V := [.str [118]]
def r0_12 : V := .agg [.int .u8 2, .str [118], .nils, .bool false, .nils, .int .i64 0, .int .i64 0, .bool false]
set_option maxHeartbeats 400000000 in
theorem q0_12 : chkCall Tryz.prog memo0 17 a0_12 r0_12 = true := by kernel_rfl
def a0_13 : List V := [.str [49,32,47,32,48]]
def r0_13 : V := .agg [.int .u8 24, .str [], .nils, .bool false, .imm 8 [.agg [.int .u8 1, .str [], .imm 1 [.agg [.int .u8 1], .agg [.int .u8 0], .agg [.int .u8 0], .agg [.int .u8 0], .agg [.int .u8 0], .agg [.int .u8 0], .agg [.int .u8 0], .agg [.int .u8 0], .agg [.int .u8 0], .agg [.int .u8 0], .agg [.int .u8 0], .agg [.int .u8 0], .agg [.int .u8 0], .agg [.int .u8 0], .agg [.int .u8 0], .agg [.int .u8 0], .agg [.int .u8 0], .agg [.int .u8 0], .agg [.int .u8 0], .agg [.int .u8 0], .agg [.int .u8 0], .agg [.int .u8 0], .agg [.int .u8 0], .agg [.int .u8 0], .agg [.int .u8 0], .agg [.int .u8 0], .agg [.int .u8 0], .agg [.int .u8 0], .agg [.int .u8 0], .agg [.int .u8 0], .agg [.int .u8 0], .agg [.int .u8 0]], .bool true, .nils, .int .i64 0, .int .i64 0, .bool false], .agg [.int .u8 1, .str [], .imm 1 [.agg [.int .u8 0], .agg [.int .u8 0], .agg [.int .u8 0], .agg [.int .u8 0], .agg [.int .u8 0], .agg [.int .u8 0], .agg [.int .u8 0], .agg [.int .u8 0], .agg [.int .u8 0], .agg [.int .u8 0], .agg [.int .u8 0], .agg [.int .u8 0], .agg [.int .u8 0], .agg [.int .u8 0], .agg [.int .u8 0], .agg [.int .u8 0], .agg [.int .u8 0], .agg [.int .u8 0], .agg [.int .u8 0], .agg [.int .u8 0], .agg [.int .u8 0], .agg [.int .u8 0], .agg [.int .u8 0], .agg [.int .u8 0], .agg [.int .u8 0], .agg [.int .u8 0], .agg [.int .u8 0], .agg [.int .u8 0], .agg [.int .u8 0], .agg [.int .u8 0], .agg [.int .u8 0], .agg [.int .u8 0]], .bool true, .nils, .int .i64 0, .int .i64 0, .bool false]], .int .i64 0, .int .i64 0, .bool false]
set_option maxHeartbeats 400000000 in
theorem q0_13 : chkCall Tryz.prog memo0 17 a0_13 r0_13 = true := by kernel_rfl
end Go.Proofs.YtncjlehibolekaaGreatDoor.Run
