/- Known answers, level 1: no statement of its own. -/
import Derived.Test.YtdhnlpgamopfeaaGreatDoorRunA
set_option autoImplicit false
set_option maxRecDepth 100000
set_option linter.unusedVariables false
namespace Go.Proofs.YtdhnlpgamopfeaaGreatDoor.Run
open Go Go.Vm

def a0_0 : List V := [.str [64,42,32,120,32,61,32,97,91,98,93,59], .bool false]
def r0_0 : V := .imm 27 [.agg [.int .u8 11, .int .u8 0, .int .u8 0, .str [], .nils, .bool false, .nils, .int .i64 0, .int .i64 0, .bool false, .int .u8 0, .str [], .nils, .bool false, .nils, .int .i64 0, .int .i64 0, .bool false, .int .i64 0, .int .i64 0, .int .i64 0, .nils, .imm 1 [.agg [.int .i64 0], .agg [.int .i64 1]], .nils, .str [], .str [], .nils], .agg [.int .u8 1, .int .u8 0, .int .u8 3, .str [97], .nils, .bool false, .imm 8 [.agg [.int .u8 2, .str [98], .nils, .bool false, .nils, .int .i64 2, .int .i64 4, .bool false]], .int .i64 1, .int .i64 4, .bool false, .int .u8 2, .str [120], .nils, .bool false, .nils, .int .i64 6, .int .i64 4, .bool false, .int .i64 0, .int .i64 0, .int .i64 0, .nils, .nils, .nils, .str [], .str [], .nils], .agg [.int .u8 5, .int .u8 0, .int .u8 0, .str [], .nils, .bool false, .nils, .int .i64 0, .int .i64 0, .bool false, .int .u8 0, .str [], .nils, .bool false, .nils, .int .i64 0, .int .i64 0, .bool false, .int .i64 0, .int .i64 0, .int .i64 0, .nils, .nils, .nils, .str [], .str [], .nils]]
set_option maxHeartbeats 400000000 in
theorem q0_0 : chkCall Tryz.prog memo0 11 a0_0 r0_0 = true := by kernel_rfl
end Go.Proofs.YtdhnlpgamopfeaaGreatDoor.Run
