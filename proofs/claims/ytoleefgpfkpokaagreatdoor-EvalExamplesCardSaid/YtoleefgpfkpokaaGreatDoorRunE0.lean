/- Known answers, level 3: no statement of its own. -/
import Derived.Test.YtoleefgpfkpokaaGreatDoorRunDJ
set_option autoImplicit false
set_option maxRecDepth 100000
set_option linter.unusedVariables false
namespace Go.Proofs.YtoleefgpfkpokaaGreatDoor.Run
open Go Go.Vm

def a2_0 : List V := []
def r2_0 : V := .agg [.imm 10 [.agg [.str [97], .int .u8 0, .int .u8 0, .int .i64 4, .bool false, .int .i64 3, .int .i64 0, .int .i64 0, .int .i64 0, .int .i64 0], .agg [.str [98], .int .u8 0, .int .u8 0, .int .i64 8, .bool false, .int .i64 7, .int .i64 0, .int .i64 0, .int .i64 0, .int .i64 0], .agg [.str [114], .int .u8 0, .int .u8 0, .int .i64 4, .bool false, .int .i64 0, .int .i64 3, .int .i64 0, .int .i64 0, .int .i64 0], .agg [.str [109], .int .u8 0, .int .u8 0, .int .i64 8, .bool false, .int .i64 7, .int .i64 0, .int .i64 4, .int .i64 0, .int .i64 3], .agg [.str [115], .int .u8 0, .int .u8 0, .int .i64 4, .bool true, .int .i64 3, .int .i64 0, .int .i64 0, .int .i64 0, .int .i64 0], .agg [.str [102,46,102], .int .u8 0, .int .u8 0, .int .i64 4, .bool false, .int .i64 3, .int .i64 0, .int .i64 0, .int .i64 0, .int .i64 0], .agg [.str [102,46,120], .int .u8 0, .int .u8 0, .int .i64 4, .bool false, .int .i64 3, .int .i64 0, .int .i64 0, .int .i64 0, .int .i64 0]], .nils, .nils, .imm 36 [.agg [.str [102], .int .i64 6, .imm 1 [.agg [.int .i64 7]], .int .u8 11, .str [], .str [], .int .u8 0, .str [], .nils, .bool false, .nils, .int .i64 0, .int .i64 0, .bool false, .int .u8 2, .str [102,46,102], .nils, .bool false, .nils, .int .i64 6, .int .i64 4, .bool false, .int .u8 21, .str [], .nils, .bool false, .imm 8 [.agg [.int .u8 2, .str [102,46,120], .nils, .bool false, .nils, .int .i64 7, .int .i64 4, .bool false], .agg [.int .u8 1, .str [], .imm 1 [.agg [.int .u8 1]], .bool false, .nils, .int .i64 0, .int .i64 4, .bool false]], .int .i64 0, .int .i64 4, .bool false, .int .i64 (-1), .nils, .nils, .nils, .nils, .nils]]]
set_option maxHeartbeats 400000000 in
theorem q2_0 : chkCall Tryz.prog memo2 8 a2_0 r2_0 = true := by kernel_rfl
end Go.Proofs.YtoleefgpfkpokaaGreatDoor.Run
