import Derived.Test.YtafnalbcjcppmaaGreatDoorRunA
import Derived.KernelRfl
set_option autoImplicit false
set_option maxRecDepth 100000
namespace Go.Proofs.YtafnalbcjcppmaaGreatDoor.Run
open Go Go.Vm

def c8 : List V := [.str s9, .bool true, .imm 2 [.agg [.int .u8 1, .int .i64 0], .agg [.int .u8 6, .int .i64 4], .agg [.int .u8 1, .int .i64 0], .agg [.int .u8 5, .int .i64 1], .agg [.int .u8 15, .int .i64 0]]]
def c9 : List V := [.str s10, .bool true, .imm 2 [.agg [.int .u8 6, .int .i64 3], .agg [.int .u8 1, .int .i64 0], .agg [.int .u8 5, .int .i64 0], .agg [.int .u8 15, .int .i64 0]]]
def c10 : List V := [.str s11, .bool true, .imm 2 [.agg [.int .u8 10, .int .i64 0], .agg [.int .u8 1, .int .i64 0], .agg [.int .u8 5, .int .i64 0], .agg [.int .u8 15, .int .i64 0]]]
def c11 : List V := [.str s12, .bool true, .imm 2 [.agg [.int .u8 12, .int .i64 0], .agg [.int .u8 1, .int .i64 0], .agg [.int .u8 15, .int .i64 0]]]
set_option maxHeartbeats 400000000 in
theorem is8 : chkCall Tryz.prog memo1 6 c8 (.bool true) = true := by kernel_rfl
set_option maxHeartbeats 400000000 in
theorem is9 : chkCall Tryz.prog memo1 6 c9 (.bool true) = true := by kernel_rfl
set_option maxHeartbeats 400000000 in
theorem is10 : chkCall Tryz.prog memo1 6 c10 (.bool true) = true := by kernel_rfl
set_option maxHeartbeats 400000000 in
theorem is11 : chkCall Tryz.prog memo1 6 c11 (.bool true) = true := by kernel_rfl
end Go.Proofs.YtafnalbcjcppmaaGreatDoor.Run
