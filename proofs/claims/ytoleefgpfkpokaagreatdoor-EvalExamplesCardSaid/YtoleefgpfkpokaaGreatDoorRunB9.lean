/- Known answers, level 1: no statement of its own. -/
import Derived.Test.YtoleefgpfkpokaaGreatDoorRunA
set_option autoImplicit false
set_option maxRecDepth 100000
set_option linter.unusedVariables false
namespace Go.Proofs.YtoleefgpfkpokaaGreatDoor.Run
open Go Go.Vm

def a0_64 : List V := [.str [97,91,51,43,58,50,93], .int .i64 0]
def r0_64 : V := .tup [.agg [.int .u8 5, .str [97], .nils, .bool false, .imm 8 [.agg [.int .u8 1, .str [], .imm 1 [.agg [.int .u8 1], .agg [.int .u8 1], .agg [.int .u8 0], .agg [.int .u8 0], .agg [.int .u8 0], .agg [.int .u8 0], .agg [.int .u8 0], .agg [.int .u8 0], .agg [.int .u8 0], .agg [.int .u8 0], .agg [.int .u8 0], .agg [.int .u8 0], .agg [.int .u8 0], .agg [.int .u8 0], .agg [.int .u8 0], .agg [.int .u8 0], .agg [.int .u8 0], .agg [.int .u8 0], .agg [.int .u8 0], .agg [.int .u8 0], .agg [.int .u8 0], .agg [.int .u8 0], .agg [.int .u8 0], .agg [.int .u8 0], .agg [.int .u8 0], .agg [.int .u8 0], .agg [.int .u8 0], .agg [.int .u8 0], .agg [.int .u8 0], .agg [.int .u8 0], .agg [.int .u8 0], .agg [.int .u8 0]], .bool true, .nils, .int .i64 0, .int .i64 0, .bool false], .agg [.int .u8 1, .str [], .imm 1 [.agg [.int .u8 0], .agg [.int .u8 1], .agg [.int .u8 0], .agg [.int .u8 0], .agg [.int .u8 0], .agg [.int .u8 0], .agg [.int .u8 0], .agg [.int .u8 0], .agg [.int .u8 0], .agg [.int .u8 0], .agg [.int .u8 0], .agg [.int .u8 0], .agg [.int .u8 0], .agg [.int .u8 0], .agg [.int .u8 0], .agg [.int .u8 0], .agg [.int .u8 0], .agg [.int .u8 0], .agg [.int .u8 0], .agg [.int .u8 0], .agg [.int .u8 0], .agg [.int .u8 0], .agg [.int .u8 0], .agg [.int .u8 0], .agg [.int .u8 0], .agg [.int .u8 0], .agg [.int .u8 0], .agg [.int .u8 0], .agg [.int .u8 0], .agg [.int .u8 0], .agg [.int .u8 0], .agg [.int .u8 0]], .bool true, .nils, .int .i64 0, .int .i64 0, .bool false]], .int .i64 0, .int .i64 0, .bool false], .int .i64 7, .int .i64 0]
set_option maxHeartbeats 400000000 in
theorem q0_64 : chkCall Tryz.prog memo0 15 a0_64 r0_64 = true := by kernel_rfl
def a0_65 : List V := [.str [52,39,98,48,48,49,48]]
def r0_65 : V := .agg [.imm 1 [.agg [.int .u8 0], .agg [.int .u8 1], .agg [.int .u8 0], .agg [.int .u8 0]], .bool false]
set_option maxHeartbeats 400000000 in
theorem q0_65 : chkCall Tryz.prog memo0 10 a0_65 r0_65 = true := by kernel_rfl
def a0_66 : List V := [.str [123,98,44,32,97,125], .int .i64 0]
def r0_66 : V := .tup [.agg [.int .u8 6, .str [], .nils, .bool false, .imm 8 [.agg [.int .u8 2, .str [98], .nils, .bool false, .nils, .int .i64 0, .int .i64 0, .bool false], .agg [.int .u8 2, .str [97], .nils, .bool false, .nils, .int .i64 0, .int .i64 0, .bool false]], .int .i64 0, .int .i64 0, .bool false], .int .i64 6, .int .i64 0]
set_option maxHeartbeats 400000000 in
theorem q0_66 : chkCall Tryz.prog memo0 15 a0_66 r0_66 = true := by kernel_rfl
def a0_67 : List V := [.str [49,50,39,98,49,49,49,49,48,48,48,48,49,49,48,48]]
def r0_67 : V := .agg [.imm 1 [.agg [.int .u8 0], .agg [.int .u8 0], .agg [.int .u8 1], .agg [.int .u8 1], .agg [.int .u8 0], .agg [.int .u8 0], .agg [.int .u8 0], .agg [.int .u8 0], .agg [.int .u8 1], .agg [.int .u8 1], .agg [.int .u8 1], .agg [.int .u8 1]], .bool false]
set_option maxHeartbeats 400000000 in
theorem q0_67 : chkCall Tryz.prog memo0 10 a0_67 r0_67 = true := by kernel_rfl
def a0_68 : List V := [.str [98,91,97,91,49,93,93], .int .i64 0]
def r0_68 : V := .tup [.agg [.int .u8 3, .str [98], .nils, .bool false, .imm 8 [.agg [.int .u8 3, .str [97], .nils, .bool false, .imm 8 [.agg [.int .u8 1, .str [], .imm 1 [.agg [.int .u8 1], .agg [.int .u8 0], .agg [.int .u8 0], .agg [.int .u8 0], .agg [.int .u8 0], .agg [.int .u8 0], .agg [.int .u8 0], .agg [.int .u8 0], .agg [.int .u8 0], .agg [.int .u8 0], .agg [.int .u8 0], .agg [.int .u8 0], .agg [.int .u8 0], .agg [.int .u8 0], .agg [.int .u8 0], .agg [.int .u8 0], .agg [.int .u8 0], .agg [.int .u8 0], .agg [.int .u8 0], .agg [.int .u8 0], .agg [.int .u8 0], .agg [.int .u8 0], .agg [.int .u8 0], .agg [.int .u8 0], .agg [.int .u8 0], .agg [.int .u8 0], .agg [.int .u8 0], .agg [.int .u8 0], .agg [.int .u8 0], .agg [.int .u8 0], .agg [.int .u8 0], .agg [.int .u8 0]], .bool true, .nils, .int .i64 0, .int .i64 0, .bool false]], .int .i64 0, .int .i64 0, .bool false]], .int .i64 0, .int .i64 0, .bool false], .int .i64 7, .int .i64 0]
set_option maxHeartbeats 400000000 in
theorem q0_68 : chkCall Tryz.prog memo0 15 a0_68 r0_68 = true := by kernel_rfl
def a0_69 : List V := [.str [56,39,98,48,48,48,48,48,48,49,49]]
def r0_69 : V := .agg [.imm 1 [.agg [.int .u8 1], .agg [.int .u8 1], .agg [.int .u8 0], .agg [.int .u8 0], .agg [.int .u8 0], .agg [.int .u8 0], .agg [.int .u8 0], .agg [.int .u8 0]], .bool false]
set_option maxHeartbeats 400000000 in
theorem q0_69 : chkCall Tryz.prog memo0 10 a0_69 r0_69 = true := by kernel_rfl
end Go.Proofs.YtoleefgpfkpokaaGreatDoor.Run
