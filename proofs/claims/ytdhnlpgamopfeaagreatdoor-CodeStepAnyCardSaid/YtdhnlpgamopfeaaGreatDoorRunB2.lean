/- Known answers, level 1: no statement of its own. -/
import Derived.Test.YtdhnlpgamopfeaaGreatDoorRunA
set_option autoImplicit false
set_option maxRecDepth 100000
set_option linter.unusedVariables false
namespace Go.Proofs.YtdhnlpgamopfeaaGreatDoor.Run
open Go Go.Vm

def a0_2 : List V := [.str [64,40,112,111,115,101,100,103,101,32,99,108,107,41,32,113,32,60,61,32,100,59], .bool false]
def r0_2 : V := .imm 27 [.agg [.int .u8 11, .int .u8 0, .int .u8 0, .str [], .nils, .bool false, .nils, .int .i64 0, .int .i64 0, .bool false, .int .u8 0, .str [], .nils, .bool false, .nils, .int .i64 0, .int .i64 0, .bool false, .int .i64 0, .int .i64 0, .int .i64 0, .imm 9 [.agg [.int .u8 1, .int .u8 2, .str [99,108,107], .nils, .bool false, .nils, .int .i64 7, .int .i64 1, .bool false]], .nils, .nils, .str [], .str [], .nils], .agg [.int .u8 4, .int .u8 0, .int .u8 2, .str [100], .nils, .bool false, .nils, .int .i64 4, .int .i64 4, .bool false, .int .u8 2, .str [113], .nils, .bool false, .nils, .int .i64 5, .int .i64 4, .bool false, .int .i64 0, .int .i64 0, .int .i64 0, .nils, .nils, .nils, .str [], .str [], .nils], .agg [.int .u8 5, .int .u8 0, .int .u8 0, .str [], .nils, .bool false, .nils, .int .i64 0, .int .i64 0, .bool false, .int .u8 0, .str [], .nils, .bool false, .nils, .int .i64 0, .int .i64 0, .bool false, .int .i64 0, .int .i64 0, .int .i64 0, .nils, .nils, .nils, .str [], .str [], .nils]]
set_option maxHeartbeats 400000000 in
theorem q0_2 : chkCall Tryz.prog memo0 11 a0_2 r0_2 = true := by kernel_rfl
end Go.Proofs.YtdhnlpgamopfeaaGreatDoor.Run
