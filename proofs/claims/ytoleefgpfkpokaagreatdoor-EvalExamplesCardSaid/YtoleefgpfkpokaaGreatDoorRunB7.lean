/- Known answers, level 1: no statement of its own. -/
import Derived.Test.YtoleefgpfkpokaaGreatDoorRunA
set_option autoImplicit false
set_option maxRecDepth 100000
set_option linter.unusedVariables false
namespace Go.Proofs.YtoleefgpfkpokaaGreatDoor.Run
open Go Go.Vm

def a0_41 : List V := [.str [102,40,98,41,32,43,32,102,40,102,40,97,41,41], .int .i64 0]
def r0_41 : V := .tup [.agg [.int .u8 21, .str [], .nils, .bool false, .imm 8 [.agg [.int .u8 8, .str [102], .nils, .bool false, .imm 8 [.agg [.int .u8 2, .str [98], .nils, .bool false, .nils, .int .i64 0, .int .i64 0, .bool false]], .int .i64 0, .int .i64 0, .bool false], .agg [.int .u8 8, .str [102], .nils, .bool false, .imm 8 [.agg [.int .u8 8, .str [102], .nils, .bool false, .imm 8 [.agg [.int .u8 2, .str [97], .nils, .bool false, .nils, .int .i64 0, .int .i64 0, .bool false]], .int .i64 0, .int .i64 0, .bool false]], .int .i64 0, .int .i64 0, .bool false]], .int .i64 0, .int .i64 0, .bool false], .int .i64 14, .int .i64 0]
set_option maxHeartbeats 400000000 in
theorem q0_41 : chkCall Tryz.prog memo0 15 a0_41 r0_41 = true := by kernel_rfl
def a0_42 : List V := [.str [36,116,105,109,101], .int .i64 0]
def r0_42 : V := .tup [.agg [.int .u8 9, .str [36,116,105,109,101], .nils, .bool false, .nils, .int .i64 0, .int .i64 0, .bool false], .int .i64 5, .int .i64 0]
set_option maxHeartbeats 400000000 in
theorem q0_42 : chkCall Tryz.prog memo0 15 a0_42 r0_42 = true := by kernel_rfl
def a0_43 : List V := [.str [54,52,39,98,49,48,48,49]]
def r0_43 : V := .agg [.imm 1 [.agg [.int .u8 1], .agg [.int .u8 0], .agg [.int .u8 0], .agg [.int .u8 1], .agg [.int .u8 0], .agg [.int .u8 0], .agg [.int .u8 0], .agg [.int .u8 0], .agg [.int .u8 0], .agg [.int .u8 0], .agg [.int .u8 0], .agg [.int .u8 0], .agg [.int .u8 0], .agg [.int .u8 0], .agg [.int .u8 0], .agg [.int .u8 0], .agg [.int .u8 0], .agg [.int .u8 0], .agg [.int .u8 0], .agg [.int .u8 0], .agg [.int .u8 0], .agg [.int .u8 0], .agg [.int .u8 0], .agg [.int .u8 0], .agg [.int .u8 0], .agg [.int .u8 0], .agg [.int .u8 0], .agg [.int .u8 0], .agg [.int .u8 0], .agg [.int .u8 0], .agg [.int .u8 0], .agg [.int .u8 0], .agg [.int .u8 0], .agg [.int .u8 0], .agg [.int .u8 0], .agg [.int .u8 0], .agg [.int .u8 0], .agg [.int .u8 0], .agg [.int .u8 0], .agg [.int .u8 0], .agg [.int .u8 0], .agg [.int .u8 0], .agg [.int .u8 0], .agg [.int .u8 0], .agg [.int .u8 0], .agg [.int .u8 0], .agg [.int .u8 0], .agg [.int .u8 0], .agg [.int .u8 0], .agg [.int .u8 0], .agg [.int .u8 0], .agg [.int .u8 0], .agg [.int .u8 0], .agg [.int .u8 0], .agg [.int .u8 0], .agg [.int .u8 0], .agg [.int .u8 0], .agg [.int .u8 0], .agg [.int .u8 0], .agg [.int .u8 0], .agg [.int .u8 0], .agg [.int .u8 0], .agg [.int .u8 0], .agg [.int .u8 0]], .bool false]
set_option maxHeartbeats 400000000 in
theorem q0_43 : chkCall Tryz.prog memo0 10 a0_43 r0_43 = true := by kernel_rfl
def a0_44 : List V := [.str [36,115,105,103,110,101,100,40,97,41], .int .i64 0]
def r0_44 : V := .tup [.agg [.int .u8 9, .str [36,115,105,103,110,101,100], .nils, .bool false, .imm 8 [.agg [.int .u8 2, .str [97], .nils, .bool false, .nils, .int .i64 0, .int .i64 0, .bool false]], .int .i64 0, .int .i64 0, .bool false], .int .i64 10, .int .i64 0]
set_option maxHeartbeats 400000000 in
theorem q0_44 : chkCall Tryz.prog memo0 15 a0_44 r0_44 = true := by kernel_rfl
def a0_45 : List V := [.str [52,39,115,98,49,48,49,48]]
def r0_45 : V := .agg [.imm 1 [.agg [.int .u8 0], .agg [.int .u8 1], .agg [.int .u8 0], .agg [.int .u8 1]], .bool true]
set_option maxHeartbeats 400000000 in
theorem q0_45 : chkCall Tryz.prog memo0 10 a0_45 r0_45 = true := by kernel_rfl
def a0_46 : List V := [.str [97,32,63,32,98,32,58,32,49,39,98,48], .int .i64 0]
def r0_46 : V := .tup [.agg [.int .u8 10, .str [], .nils, .bool false, .imm 8 [.agg [.int .u8 2, .str [97], .nils, .bool false, .nils, .int .i64 0, .int .i64 0, .bool false], .agg [.int .u8 2, .str [98], .nils, .bool false, .nils, .int .i64 0, .int .i64 0, .bool false], .agg [.int .u8 1, .str [], .imm 1 [.agg [.int .u8 0]], .bool false, .nils, .int .i64 0, .int .i64 0, .bool false]], .int .i64 0, .int .i64 0, .bool false], .int .i64 12, .int .i64 0]
set_option maxHeartbeats 400000000 in
theorem q0_46 : chkCall Tryz.prog memo0 15 a0_46 r0_46 = true := by kernel_rfl
def a0_47 : List V := [.str [97,32,61,61,32,98], .int .i64 0]
def r0_47 : V := .tup [.agg [.int .u8 27, .str [], .nils, .bool false, .imm 8 [.agg [.int .u8 2, .str [97], .nils, .bool false, .nils, .int .i64 0, .int .i64 0, .bool false], .agg [.int .u8 2, .str [98], .nils, .bool false, .nils, .int .i64 0, .int .i64 0, .bool false]], .int .i64 0, .int .i64 0, .bool false], .int .i64 6, .int .i64 0]
set_option maxHeartbeats 400000000 in
theorem q0_47 : chkCall Tryz.prog memo0 15 a0_47 r0_47 = true := by kernel_rfl
def a0_48 : List V := [.str [49,39,98,48]]
def r0_48 : V := .agg [.imm 1 [.agg [.int .u8 0]], .bool false]
set_option maxHeartbeats 400000000 in
theorem q0_48 : chkCall Tryz.prog memo0 10 a0_48 r0_48 = true := by kernel_rfl
def a0_49 : List V := [.str [115,32,60,32,48], .int .i64 0]
def r0_49 : V := .tup [.agg [.int .u8 31, .str [], .nils, .bool false, .imm 8 [.agg [.int .u8 2, .str [115], .nils, .bool false, .nils, .int .i64 0, .int .i64 0, .bool false], .agg [.int .u8 1, .str [], .imm 1 [.agg [.int .u8 0], .agg [.int .u8 0], .agg [.int .u8 0], .agg [.int .u8 0], .agg [.int .u8 0], .agg [.int .u8 0], .agg [.int .u8 0], .agg [.int .u8 0], .agg [.int .u8 0], .agg [.int .u8 0], .agg [.int .u8 0], .agg [.int .u8 0], .agg [.int .u8 0], .agg [.int .u8 0], .agg [.int .u8 0], .agg [.int .u8 0], .agg [.int .u8 0], .agg [.int .u8 0], .agg [.int .u8 0], .agg [.int .u8 0], .agg [.int .u8 0], .agg [.int .u8 0], .agg [.int .u8 0], .agg [.int .u8 0], .agg [.int .u8 0], .agg [.int .u8 0], .agg [.int .u8 0], .agg [.int .u8 0], .agg [.int .u8 0], .agg [.int .u8 0], .agg [.int .u8 0], .agg [.int .u8 0]], .bool true, .nils, .int .i64 0, .int .i64 0, .bool false]], .int .i64 0, .int .i64 0, .bool false], .int .i64 5, .int .i64 0]
set_option maxHeartbeats 400000000 in
theorem q0_49 : chkCall Tryz.prog memo0 15 a0_49 r0_49 = true := by kernel_rfl
def a0_50 : List V := [.str [97,32,60,60,32,49], .int .i64 0]
def r0_50 : V := .tup [.agg [.int .u8 41, .str [], .nils, .bool false, .imm 8 [.agg [.int .u8 2, .str [97], .nils, .bool false, .nils, .int .i64 0, .int .i64 0, .bool false], .agg [.int .u8 1, .str [], .imm 1 [.agg [.int .u8 1], .agg [.int .u8 0], .agg [.int .u8 0], .agg [.int .u8 0], .agg [.int .u8 0], .agg [.int .u8 0], .agg [.int .u8 0], .agg [.int .u8 0], .agg [.int .u8 0], .agg [.int .u8 0], .agg [.int .u8 0], .agg [.int .u8 0], .agg [.int .u8 0], .agg [.int .u8 0], .agg [.int .u8 0], .agg [.int .u8 0], .agg [.int .u8 0], .agg [.int .u8 0], .agg [.int .u8 0], .agg [.int .u8 0], .agg [.int .u8 0], .agg [.int .u8 0], .agg [.int .u8 0], .agg [.int .u8 0], .agg [.int .u8 0], .agg [.int .u8 0], .agg [.int .u8 0], .agg [.int .u8 0], .agg [.int .u8 0], .agg [.int .u8 0], .agg [.int .u8 0], .agg [.int .u8 0]], .bool true, .nils, .int .i64 0, .int .i64 0, .bool false]], .int .i64 0, .int .i64 0, .bool false], .int .i64 6, .int .i64 0]
set_option maxHeartbeats 400000000 in
theorem q0_50 : chkCall Tryz.prog memo0 15 a0_50 r0_50 = true := by kernel_rfl
def a0_51 : List V := [.str [52,39,98,48,49,48,48]]
def r0_51 : V := .agg [.imm 1 [.agg [.int .u8 0], .agg [.int .u8 0], .agg [.int .u8 1], .agg [.int .u8 0]], .bool false]
set_option maxHeartbeats 400000000 in
theorem q0_51 : chkCall Tryz.prog memo0 10 a0_51 r0_51 = true := by kernel_rfl
def a0_52 : List V := [.str [115,32,62,62,62,32,49], .int .i64 0]
def r0_52 : V := .tup [.agg [.int .u8 44, .str [], .nils, .bool false, .imm 8 [.agg [.int .u8 2, .str [115], .nils, .bool false, .nils, .int .i64 0, .int .i64 0, .bool false], .agg [.int .u8 1, .str [], .imm 1 [.agg [.int .u8 1], .agg [.int .u8 0], .agg [.int .u8 0], .agg [.int .u8 0], .agg [.int .u8 0], .agg [.int .u8 0], .agg [.int .u8 0], .agg [.int .u8 0], .agg [.int .u8 0], .agg [.int .u8 0], .agg [.int .u8 0], .agg [.int .u8 0], .agg [.int .u8 0], .agg [.int .u8 0], .agg [.int .u8 0], .agg [.int .u8 0], .agg [.int .u8 0], .agg [.int .u8 0], .agg [.int .u8 0], .agg [.int .u8 0], .agg [.int .u8 0], .agg [.int .u8 0], .agg [.int .u8 0], .agg [.int .u8 0], .agg [.int .u8 0], .agg [.int .u8 0], .agg [.int .u8 0], .agg [.int .u8 0], .agg [.int .u8 0], .agg [.int .u8 0], .agg [.int .u8 0], .agg [.int .u8 0]], .bool true, .nils, .int .i64 0, .int .i64 0, .bool false]], .int .i64 0, .int .i64 0, .bool false], .int .i64 7, .int .i64 0]
set_option maxHeartbeats 400000000 in
theorem q0_52 : chkCall Tryz.prog memo0 15 a0_52 r0_52 = true := by kernel_rfl
def a0_53 : List V := [.str [52,39,115,98,49,49,49,48]]
def r0_53 : V := .agg [.imm 1 [.agg [.int .u8 0], .agg [.int .u8 1], .agg [.int .u8 1], .agg [.int .u8 1]], .bool true]
set_option maxHeartbeats 400000000 in
theorem q0_53 : chkCall Tryz.prog memo0 10 a0_53 r0_53 = true := by kernel_rfl
end Go.Proofs.YtoleefgpfkpokaaGreatDoor.Run
