import Derived.Test.YtafnalbcjcppmaaGreatDoorRunA
import Derived.KernelRfl
set_option autoImplicit false
set_option maxRecDepth 100000
namespace Go.Proofs.YtafnalbcjcppmaaGreatDoor.Run
open Go Go.Vm

def c0 : List V := [.str s1, .bool true, .imm 2 [.agg [.int .u8 1, .int .i64 0], .agg [.int .u8 6, .int .i64 3], .agg [.int .u8 1, .int .i64 0], .agg [.int .u8 15, .int .i64 0]]]
def c1 : List V := [.str s2, .bool false, .imm 2 [.agg [.int .u8 11, .int .i64 0], .agg [.int .u8 4, .int .i64 0], .agg [.int .u8 5, .int .i64 0]]]
def c2 : List V := [.str s3, .bool true, .imm 2 [.agg [.int .u8 7, .int .i64 0], .agg [.int .u8 8, .int .i64 5], .agg [.int .u8 10, .int .i64 0], .agg [.int .u8 1, .int .i64 0], .agg [.int .u8 5, .int .i64 1], .agg [.int .u8 15, .int .i64 0]]]
def c3 : List V := [.str s4, .bool true, .imm 2 [.agg [.int .u8 15, .int .i64 0]]]
set_option maxHeartbeats 400000000 in
theorem is0 : chkCall Tryz.prog memo1 6 c0 (.bool true) = true := by kernel_rfl
set_option maxHeartbeats 400000000 in
theorem is1 : chkCall Tryz.prog memo1 6 c1 (.bool true) = true := by kernel_rfl
set_option maxHeartbeats 400000000 in
theorem is2 : chkCall Tryz.prog memo1 6 c2 (.bool true) = true := by kernel_rfl
set_option maxHeartbeats 400000000 in
theorem is3 : chkCall Tryz.prog memo1 6 c3 (.bool true) = true := by kernel_rfl
end Go.Proofs.YtafnalbcjcppmaaGreatDoor.Run
