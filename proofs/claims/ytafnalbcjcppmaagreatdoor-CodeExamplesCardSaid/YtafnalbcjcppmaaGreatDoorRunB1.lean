import Derived.Test.YtafnalbcjcppmaaGreatDoorRunA
import Derived.KernelRfl
set_option autoImplicit false
set_option maxRecDepth 100000
namespace Go.Proofs.YtafnalbcjcppmaaGreatDoor.Run
open Go Go.Vm

def c4 : List V := [.str s5, .bool false, .imm 2 [.agg [.int .u8 5, .int .i64 0]]]
def c5 : List V := [.str s6, .bool true, .imm 2 [.agg [.int .u8 6, .int .i64 3], .agg [.int .u8 1, .int .i64 0], .agg [.int .u8 5, .int .i64 4], .agg [.int .u8 1, .int .i64 0], .agg [.int .u8 15, .int .i64 0]]]
def c6 : List V := [.str s7, .bool true, .imm 2 [.agg [.int .u8 2, .int .i64 0], .agg [.int .u8 10, .int .i64 0], .agg [.int .u8 3, .int .i64 0], .agg [.int .u8 15, .int .i64 0]]]
def c7 : List V := [.str s8, .bool true, .imm 2 [.agg [.int .u8 4, .int .i64 0], .agg [.int .u8 15, .int .i64 0]]]
set_option maxHeartbeats 400000000 in
theorem is4 : chkCall Tryz.prog memo1 6 c4 (.bool true) = true := by kernel_rfl
set_option maxHeartbeats 400000000 in
theorem is5 : chkCall Tryz.prog memo1 6 c5 (.bool true) = true := by kernel_rfl
set_option maxHeartbeats 400000000 in
theorem is6 : chkCall Tryz.prog memo1 6 c6 (.bool true) = true := by kernel_rfl
set_option maxHeartbeats 400000000 in
theorem is7 : chkCall Tryz.prog memo1 6 c7 (.bool true) = true := by kernel_rfl
end Go.Proofs.YtafnalbcjcppmaaGreatDoor.Run
