import Derived.Test.YtafnalbcjcppmaaGreatDoorRunA
import Derived.KernelRfl
set_option autoImplicit false
set_option maxRecDepth 100000
namespace Go.Proofs.YtafnalbcjcppmaaGreatDoor.Run
open Go Go.Vm

def c12 : List V := [.str s13, .bool true, .imm 2 [.agg [.int .u8 13, .int .i64 0], .agg [.int .u8 14, .int .i64 0], .agg [.int .u8 15, .int .i64 0]]]
def c13 : List V := [.str s14, .bool true, .imm 2 [.agg [.int .u8 2, .int .i64 0], .agg [.int .u8 9, .int .i64 4], .agg [.int .u8 1, .int .i64 0], .agg [.int .u8 5, .int .i64 8], .agg [.int .u8 9, .int .i64 6], .agg [.int .u8 5, .int .i64 8], .agg [.int .u8 1, .int .i64 0], .agg [.int .u8 5, .int .i64 8], .agg [.int .u8 15, .int .i64 0]]]
set_option maxHeartbeats 400000000 in
theorem is12 : chkCall Tryz.prog memo1 6 c12 (.bool true) = true := by kernel_rfl
set_option maxHeartbeats 400000000 in
theorem is13 : chkCall Tryz.prog memo1 6 c13 (.bool true) = true := by kernel_rfl
end Go.Proofs.YtafnalbcjcppmaaGreatDoor.Run
