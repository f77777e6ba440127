/- Known answers, level 4: no statement of its own. -/
import Derived.Test.YtoleefgpfkpokaaGreatDoorRunEJ
set_option autoImplicit false
set_option maxRecDepth 100000
set_option linter.unusedVariables false
namespace Go.Proofs.YtoleefgpfkpokaaGreatDoor.Run
open Go Go.Vm

def a3_0 : List V := []
def r3_0 : V := .agg [.int .i64 9, .imm 1 [.agg [.imm 2 [.agg [.imm 1 [.agg [.int .u8 0], .agg [.int .u8 1], .agg [.int .u8 0], .agg [.int .u8 1]], .bool false]]], .agg [.imm 2 [.agg [.imm 1 [.agg [.int .u8 1], .agg [.int .u8 0], .agg [.int .u8 0], .agg [.int .u8 0], .agg [.int .u8 0], .agg [.int .u8 0], .agg [.int .u8 0], .agg [.int .u8 0]], .bool false]]], .agg [.imm 2 [.agg [.imm 1 [.agg [.int .u8 0], .agg [.int .u8 1], .agg [.int .u8 0], .agg [.int .u8 1]], .bool false]]], .agg [.imm 2 [.agg [.imm 1 [.agg [.int .u8 2], .agg [.int .u8 2], .agg [.int .u8 2], .agg [.int .u8 2], .agg [.int .u8 2], .agg [.int .u8 2], .agg [.int .u8 2], .agg [.int .u8 2]], .bool false], .agg [.imm 1 [.agg [.int .u8 2], .agg [.int .u8 2], .agg [.int .u8 2], .agg [.int .u8 2], .agg [.int .u8 2], .agg [.int .u8 2], .agg [.int .u8 2], .agg [.int .u8 2]], .bool false], .agg [.imm 1 [.agg [.int .u8 0], .agg [.int .u8 0], .agg [.int .u8 0], .agg [.int .u8 0], .agg [.int .u8 1], .agg [.int .u8 1], .agg [.int .u8 1], .agg [.int .u8 1]], .bool false], .agg [.imm 1 [.agg [.int .u8 2], .agg [.int .u8 2], .agg [.int .u8 2], .agg [.int .u8 2], .agg [.int .u8 2], .agg [.int .u8 2], .agg [.int .u8 2], .agg [.int .u8 2]], .bool false]]], .agg [.imm 2 [.agg [.imm 1 [.agg [.int .u8 1], .agg [.int .u8 0], .agg [.int .u8 1], .agg [.int .u8 1]], .bool true]]], .agg [.imm 2 [.agg [.imm 1 [.agg [.int .u8 2], .agg [.int .u8 2], .agg [.int .u8 2], .agg [.int .u8 2]], .bool false]]], .agg [.imm 2 [.agg [.imm 1 [.agg [.int .u8 2], .agg [.int .u8 2], .agg [.int .u8 2], .agg [.int .u8 2]], .bool false]]]]]
set_option maxHeartbeats 400000000 in
theorem q3_0 : chkCall Tryz.prog memo3 18 a3_0 r3_0 = true := by kernel_rfl
end Go.Proofs.YtoleefgpfkpokaaGreatDoor.Run
