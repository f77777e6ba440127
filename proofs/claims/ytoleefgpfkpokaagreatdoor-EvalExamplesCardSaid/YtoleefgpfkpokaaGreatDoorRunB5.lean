/- Known answers, level 1: no statement of its own. -/
import Derived.Test.YtoleefgpfkpokaaGreatDoorRunA
set_option autoImplicit false
set_option maxRecDepth 100000
set_option linter.unusedVariables false
namespace Go.Proofs.YtoleefgpfkpokaaGreatDoor.Run
open Go Go.Vm

def a0_34 : List V := [.str [114,91,49,43,58,50,93], .int .i64 0]
def r0_34 : V := .tup [.agg [.int .u8 5, .str [114], .nils, .bool false, .imm 8 [.agg [.int .u8 1, .str [], .imm 1 [.agg [.int .u8 1], .agg [.int .u8 0], .agg [.int .u8 0], .agg [.int .u8 0], .agg [.int .u8 0], .agg [.int .u8 0], .agg [.int .u8 0], .agg [.int .u8 0], .agg [.int .u8 0], .agg [.int .u8 0], .agg [.int .u8 0], .agg [.int .u8 0], .agg [.int .u8 0], .agg [.int .u8 0], .agg [.int .u8 0], .agg [.int .u8 0], .agg [.int .u8 0], .agg [.int .u8 0], .agg [.int .u8 0], .agg [.int .u8 0], .agg [.int .u8 0], .agg [.int .u8 0], .agg [.int .u8 0], .agg [.int .u8 0], .agg [.int .u8 0], .agg [.int .u8 0], .agg [.int .u8 0], .agg [.int .u8 0], .agg [.int .u8 0], .agg [.int .u8 0], .agg [.int .u8 0], .agg [.int .u8 0]], .bool true, .nils, .int .i64 0, .int .i64 0, .bool false], .agg [.int .u8 1, .str [], .imm 1 [.agg [.int .u8 0], .agg [.int .u8 1], .agg [.int .u8 0], .agg [.int .u8 0], .agg [.int .u8 0], .agg [.int .u8 0], .agg [.int .u8 0], .agg [.int .u8 0], .agg [.int .u8 0], .agg [.int .u8 0], .agg [.int .u8 0], .agg [.int .u8 0], .agg [.int .u8 0], .agg [.int .u8 0], .agg [.int .u8 0], .agg [.int .u8 0], .agg [.int .u8 0], .agg [.int .u8 0], .agg [.int .u8 0], .agg [.int .u8 0], .agg [.int .u8 0], .agg [.int .u8 0], .agg [.int .u8 0], .agg [.int .u8 0], .agg [.int .u8 0], .agg [.int .u8 0], .agg [.int .u8 0], .agg [.int .u8 0], .agg [.int .u8 0], .agg [.int .u8 0], .agg [.int .u8 0], .agg [.int .u8 0]], .bool true, .nils, .int .i64 0, .int .i64 0, .bool false]], .int .i64 0, .int .i64 0, .bool false], .int .i64 7, .int .i64 0]
set_option maxHeartbeats 400000000 in
theorem q0_34 : chkCall Tryz.prog memo0 15 a0_34 r0_34 = true := by kernel_rfl
def a0_35 : List V := [.str [114,91,51,43,58,50,93], .int .i64 0]
def r0_35 : V := .tup [.agg [.int .u8 5, .str [114], .nils, .bool false, .imm 8 [.agg [.int .u8 1, .str [], .imm 1 [.agg [.int .u8 1], .agg [.int .u8 1], .agg [.int .u8 0], .agg [.int .u8 0], .agg [.int .u8 0], .agg [.int .u8 0], .agg [.int .u8 0], .agg [.int .u8 0], .agg [.int .u8 0], .agg [.int .u8 0], .agg [.int .u8 0], .agg [.int .u8 0], .agg [.int .u8 0], .agg [.int .u8 0], .agg [.int .u8 0], .agg [.int .u8 0], .agg [.int .u8 0], .agg [.int .u8 0], .agg [.int .u8 0], .agg [.int .u8 0], .agg [.int .u8 0], .agg [.int .u8 0], .agg [.int .u8 0], .agg [.int .u8 0], .agg [.int .u8 0], .agg [.int .u8 0], .agg [.int .u8 0], .agg [.int .u8 0], .agg [.int .u8 0], .agg [.int .u8 0], .agg [.int .u8 0], .agg [.int .u8 0]], .bool true, .nils, .int .i64 0, .int .i64 0, .bool false], .agg [.int .u8 1, .str [], .imm 1 [.agg [.int .u8 0], .agg [.int .u8 1], .agg [.int .u8 0], .agg [.int .u8 0], .agg [.int .u8 0], .agg [.int .u8 0], .agg [.int .u8 0], .agg [.int .u8 0], .agg [.int .u8 0], .agg [.int .u8 0], .agg [.int .u8 0], .agg [.int .u8 0], .agg [.int .u8 0], .agg [.int .u8 0], .agg [.int .u8 0], .agg [.int .u8 0], .agg [.int .u8 0], .agg [.int .u8 0], .agg [.int .u8 0], .agg [.int .u8 0], .agg [.int .u8 0], .agg [.int .u8 0], .agg [.int .u8 0], .agg [.int .u8 0], .agg [.int .u8 0], .agg [.int .u8 0], .agg [.int .u8 0], .agg [.int .u8 0], .agg [.int .u8 0], .agg [.int .u8 0], .agg [.int .u8 0], .agg [.int .u8 0]], .bool true, .nils, .int .i64 0, .int .i64 0, .bool false]], .int .i64 0, .int .i64 0, .bool false], .int .i64 7, .int .i64 0]
set_option maxHeartbeats 400000000 in
theorem q0_35 : chkCall Tryz.prog memo0 15 a0_35 r0_35 = true := by kernel_rfl
def a0_36 : List V := [.str [50,39,98,48,120]]
def r0_36 : V := .agg [.imm 1 [.agg [.int .u8 2], .agg [.int .u8 0]], .bool false]
set_option maxHeartbeats 400000000 in
theorem q0_36 : chkCall Tryz.prog memo0 10 a0_36 r0_36 = true := by kernel_rfl
def a0_37 : List V := [.str [97,91,49,39,98,120,43,58,50,93], .int .i64 0]
def r0_37 : V := .tup [.agg [.int .u8 5, .str [97], .nils, .bool false, .imm 8 [.agg [.int .u8 1, .str [], .imm 1 [.agg [.int .u8 2]], .bool false, .nils, .int .i64 0, .int .i64 0, .bool false], .agg [.int .u8 1, .str [], .imm 1 [.agg [.int .u8 0], .agg [.int .u8 1], .agg [.int .u8 0], .agg [.int .u8 0], .agg [.int .u8 0], .agg [.int .u8 0], .agg [.int .u8 0], .agg [.int .u8 0], .agg [.int .u8 0], .agg [.int .u8 0], .agg [.int .u8 0], .agg [.int .u8 0], .agg [.int .u8 0], .agg [.int .u8 0], .agg [.int .u8 0], .agg [.int .u8 0], .agg [.int .u8 0], .agg [.int .u8 0], .agg [.int .u8 0], .agg [.int .u8 0], .agg [.int .u8 0], .agg [.int .u8 0], .agg [.int .u8 0], .agg [.int .u8 0], .agg [.int .u8 0], .agg [.int .u8 0], .agg [.int .u8 0], .agg [.int .u8 0], .agg [.int .u8 0], .agg [.int .u8 0], .agg [.int .u8 0], .agg [.int .u8 0]], .bool true, .nils, .int .i64 0, .int .i64 0, .bool false]], .int .i64 0, .int .i64 0, .bool false], .int .i64 10, .int .i64 0]
set_option maxHeartbeats 400000000 in
theorem q0_37 : chkCall Tryz.prog memo0 15 a0_37 r0_37 = true := by kernel_rfl
def a0_38 : List V := [.str [50,39,98,120,120]]
def r0_38 : V := .agg [.imm 1 [.agg [.int .u8 2], .agg [.int .u8 2]], .bool false]
set_option maxHeartbeats 400000000 in
theorem q0_38 : chkCall Tryz.prog memo0 10 a0_38 r0_38 = true := by kernel_rfl
end Go.Proofs.YtoleefgpfkpokaaGreatDoor.Run
