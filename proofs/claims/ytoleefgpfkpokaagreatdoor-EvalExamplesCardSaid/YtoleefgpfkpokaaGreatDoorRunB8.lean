/- Known answers, level 1: no statement of its own. -/
import Derived.Test.YtoleefgpfkpokaaGreatDoorRunA
set_option autoImplicit false
set_option maxRecDepth 100000
set_option linter.unusedVariables false
namespace Go.Proofs.YtoleefgpfkpokaaGreatDoor.Run
open Go Go.Vm

def a0_54 : List V := [.str [33,97], .int .i64 0]
def r0_54 : V := .tup [.agg [.int .u8 13, .str [], .nils, .bool false, .imm 8 [.agg [.int .u8 2, .str [97], .nils, .bool false, .nils, .int .i64 0, .int .i64 0, .bool false]], .int .i64 0, .int .i64 0, .bool false], .int .i64 2, .int .i64 0]
set_option maxHeartbeats 400000000 in
theorem q0_54 : chkCall Tryz.prog memo0 15 a0_54 r0_54 = true := by kernel_rfl
def a0_55 : List V := [.str [38,97], .int .i64 0]
def r0_55 : V := .tup [.agg [.int .u8 15, .str [], .nils, .bool false, .imm 8 [.agg [.int .u8 2, .str [97], .nils, .bool false, .nils, .int .i64 0, .int .i64 0, .bool false]], .int .i64 0, .int .i64 0, .bool false], .int .i64 2, .int .i64 0]
set_option maxHeartbeats 400000000 in
theorem q0_55 : chkCall Tryz.prog memo0 15 a0_55 r0_55 = true := by kernel_rfl
def a0_56 : List V := [.str [97,32,63,32,115,32,58,32,115], .int .i64 0]
def r0_56 : V := .tup [.agg [.int .u8 10, .str [], .nils, .bool false, .imm 8 [.agg [.int .u8 2, .str [97], .nils, .bool false, .nils, .int .i64 0, .int .i64 0, .bool false], .agg [.int .u8 2, .str [115], .nils, .bool false, .nils, .int .i64 0, .int .i64 0, .bool false], .agg [.int .u8 2, .str [115], .nils, .bool false, .nils, .int .i64 0, .int .i64 0, .bool false]], .int .i64 0, .int .i64 0, .bool false], .int .i64 9, .int .i64 0]
set_option maxHeartbeats 400000000 in
theorem q0_56 : chkCall Tryz.prog memo0 15 a0_56 r0_56 = true := by kernel_rfl
def a0_57 : List V := [.str [49,39,98,120,32,63,32,97,32,58,32,52,39,98,49,49,49,48], .int .i64 0]
def r0_57 : V := .tup [.agg [.int .u8 10, .str [], .nils, .bool false, .imm 8 [.agg [.int .u8 1, .str [], .imm 1 [.agg [.int .u8 2]], .bool false, .nils, .int .i64 0, .int .i64 0, .bool false], .agg [.int .u8 2, .str [97], .nils, .bool false, .nils, .int .i64 0, .int .i64 0, .bool false], .agg [.int .u8 1, .str [], .imm 1 [.agg [.int .u8 0], .agg [.int .u8 1], .agg [.int .u8 1], .agg [.int .u8 1]], .bool false, .nils, .int .i64 0, .int .i64 0, .bool false]], .int .i64 0, .int .i64 0, .bool false], .int .i64 18, .int .i64 0]
set_option maxHeartbeats 400000000 in
theorem q0_57 : chkCall Tryz.prog memo0 15 a0_57 r0_57 = true := by kernel_rfl
def a0_58 : List V := [.str [52,39,98,49,120,49,48]]
def r0_58 : V := .agg [.imm 1 [.agg [.int .u8 0], .agg [.int .u8 1], .agg [.int .u8 2], .agg [.int .u8 1]], .bool false]
set_option maxHeartbeats 400000000 in
theorem q0_58 : chkCall Tryz.prog memo0 10 a0_58 r0_58 = true := by kernel_rfl
def a0_59 : List V := [.str [97,32,61,61,61,32,52,39,98,49,48,49,48], .int .i64 0]
def r0_59 : V := .tup [.agg [.int .u8 29, .str [], .nils, .bool false, .imm 8 [.agg [.int .u8 2, .str [97], .nils, .bool false, .nils, .int .i64 0, .int .i64 0, .bool false], .agg [.int .u8 1, .str [], .imm 1 [.agg [.int .u8 0], .agg [.int .u8 1], .agg [.int .u8 0], .agg [.int .u8 1]], .bool false, .nils, .int .i64 0, .int .i64 0, .bool false]], .int .i64 0, .int .i64 0, .bool false], .int .i64 13, .int .i64 0]
set_option maxHeartbeats 400000000 in
theorem q0_59 : chkCall Tryz.prog memo0 15 a0_59 r0_59 = true := by kernel_rfl
def a0_60 : List V := [.str [97,32,62,32,98], .int .i64 0]
def r0_60 : V := .tup [.agg [.int .u8 33, .str [], .nils, .bool false, .imm 8 [.agg [.int .u8 2, .str [97], .nils, .bool false, .nils, .int .i64 0, .int .i64 0, .bool false], .agg [.int .u8 2, .str [98], .nils, .bool false, .nils, .int .i64 0, .int .i64 0, .bool false]], .int .i64 0, .int .i64 0, .bool false], .int .i64 5, .int .i64 0]
set_option maxHeartbeats 400000000 in
theorem q0_60 : chkCall Tryz.prog memo0 15 a0_60 r0_60 = true := by kernel_rfl
def a0_61 : List V := [.str [50,39,98,49,49]]
def r0_61 : V := .agg [.imm 1 [.agg [.int .u8 1], .agg [.int .u8 1]], .bool false]
set_option maxHeartbeats 400000000 in
theorem q0_61 : chkCall Tryz.prog memo0 10 a0_61 r0_61 = true := by kernel_rfl
def a0_62 : List V := [.str [52,39,98,48,48,49,49]]
def r0_62 : V := .agg [.imm 1 [.agg [.int .u8 1], .agg [.int .u8 1], .agg [.int .u8 0], .agg [.int .u8 0]], .bool false]
set_option maxHeartbeats 400000000 in
theorem q0_62 : chkCall Tryz.prog memo0 10 a0_62 r0_62 = true := by kernel_rfl
def a0_63 : List V := [.str [97,91,52,93], .int .i64 0]
def r0_63 : V := .tup [.agg [.int .u8 3, .str [97], .nils, .bool false, .imm 8 [.agg [.int .u8 1, .str [], .imm 1 [.agg [.int .u8 0], .agg [.int .u8 0], .agg [.int .u8 1], .agg [.int .u8 0], .agg [.int .u8 0], .agg [.int .u8 0], .agg [.int .u8 0], .agg [.int .u8 0], .agg [.int .u8 0], .agg [.int .u8 0], .agg [.int .u8 0], .agg [.int .u8 0], .agg [.int .u8 0], .agg [.int .u8 0], .agg [.int .u8 0], .agg [.int .u8 0], .agg [.int .u8 0], .agg [.int .u8 0], .agg [.int .u8 0], .agg [.int .u8 0], .agg [.int .u8 0], .agg [.int .u8 0], .agg [.int .u8 0], .agg [.int .u8 0], .agg [.int .u8 0], .agg [.int .u8 0], .agg [.int .u8 0], .agg [.int .u8 0], .agg [.int .u8 0], .agg [.int .u8 0], .agg [.int .u8 0], .agg [.int .u8 0]], .bool true, .nils, .int .i64 0, .int .i64 0, .bool false]], .int .i64 0, .int .i64 0, .bool false], .int .i64 4, .int .i64 0]
set_option maxHeartbeats 400000000 in
theorem q0_63 : chkCall Tryz.prog memo0 15 a0_63 r0_63 = true := by kernel_rfl
end Go.Proofs.YtoleefgpfkpokaaGreatDoor.Run
