/- Known answers, level 1: no statement of its own. -/
import Derived.Test.YtjbgagafibhgcaaGreatDoorRunA
set_option autoImplicit false
set_option maxRecDepth 100000
set_option linter.unusedVariables false
namespace Go.Proofs.YtjbgagafibhgcaaGreatDoor.Run
open Go Go.Vm

def a0_34 : List V := [.str [123,53,123,119,125,125]]
def r0_34 : V := .agg [.int .u8 7, .str [], .nils, .bool false, .imm 8 [.agg [.int .u8 1, .str [], .imm 1 [.agg [.int .u8 1], .agg [.int .u8 0], .agg [.int .u8 1], .agg [.int .u8 0], .agg [.int .u8 0], .agg [.int .u8 0], .agg [.int .u8 0], .agg [.int .u8 0], .agg [.int .u8 0], .agg [.int .u8 0], .agg [.int .u8 0], .agg [.int .u8 0], .agg [.int .u8 0], .agg [.int .u8 0], .agg [.int .u8 0], .agg [.int .u8 0], .agg [.int .u8 0], .agg [.int .u8 0], .agg [.int .u8 0], .agg [.int .u8 0], .agg [.int .u8 0], .agg [.int .u8 0], .agg [.int .u8 0], .agg [.int .u8 0], .agg [.int .u8 0], .agg [.int .u8 0], .agg [.int .u8 0], .agg [.int .u8 0], .agg [.int .u8 0], .agg [.int .u8 0], .agg [.int .u8 0], .agg [.int .u8 0]], .bool true, .nils, .int .i64 0, .int .i64 0, .bool false], .agg [.int .u8 2, .str [119], .nils, .bool false, .nils, .int .i64 0, .int .i64 0, .bool false]], .int .i64 0, .int .i64 0, .bool false]
set_option maxHeartbeats 400000000 in
theorem q0_34 : chkCall Tryz.prog memo0 8 a0_34 r0_34 = true := by kernel_rfl
def a0_35 : List V := [.str [54,52,39,104,56,48,48,48,48,48,48,48,48,48,48,48,48,48,48,48]]
def r0_35 : V := .agg [.int .u8 1, .str [], .imm 1 [.agg [.int .u8 0], .agg [.int .u8 0], .agg [.int .u8 0], .agg [.int .u8 0], .agg [.int .u8 0], .agg [.int .u8 0], .agg [.int .u8 0], .agg [.int .u8 0], .agg [.int .u8 0], .agg [.int .u8 0], .agg [.int .u8 0], .agg [.int .u8 0], .agg [.int .u8 0], .agg [.int .u8 0], .agg [.int .u8 0], .agg [.int .u8 0], .agg [.int .u8 0], .agg [.int .u8 0], .agg [.int .u8 0], .agg [.int .u8 0], .agg [.int .u8 0], .agg [.int .u8 0], .agg [.int .u8 0], .agg [.int .u8 0], .agg [.int .u8 0], .agg [.int .u8 0], .agg [.int .u8 0], .agg [.int .u8 0], .agg [.int .u8 0], .agg [.int .u8 0], .agg [.int .u8 0], .agg [.int .u8 0], .agg [.int .u8 0], .agg [.int .u8 0], .agg [.int .u8 0], .agg [.int .u8 0], .agg [.int .u8 0], .agg [.int .u8 0], .agg [.int .u8 0], .agg [.int .u8 0], .agg [.int .u8 0], .agg [.int .u8 0], .agg [.int .u8 0], .agg [.int .u8 0], .agg [.int .u8 0], .agg [.int .u8 0], .agg [.int .u8 0], .agg [.int .u8 0], .agg [.int .u8 0], .agg [.int .u8 0], .agg [.int .u8 0], .agg [.int .u8 0], .agg [.int .u8 0], .agg [.int .u8 0], .agg [.int .u8 0], .agg [.int .u8 0], .agg [.int .u8 0], .agg [.int .u8 0], .agg [.int .u8 0], .agg [.int .u8 0], .agg [.int .u8 0], .agg [.int .u8 0], .agg [.int .u8 0], .agg [.int .u8 1]], .bool false, .nils, .int .i64 0, .int .i64 0, .bool false]
set_option maxHeartbeats 400000000 in
theorem q0_35 : chkCall Tryz.prog memo0 8 a0_35 r0_35 = true := by kernel_rfl
def a0_36 : List V := [.str [119]]
def r0_36 : V := .agg [.int .u8 2, .str [119], .nils, .bool false, .nils, .int .i64 0, .int .i64 0, .bool false]
set_option maxHeartbeats 400000000 in
theorem q0_36 : chkCall Tryz.prog memo0 8 a0_36 r0_36 = true := by kernel_rfl
def a0_37 : List V := [.str [119,32,45,32,56]]
def r0_37 : V := .agg [.int .u8 22, .str [], .nils, .bool false, .imm 8 [.agg [.int .u8 2, .str [119], .nils, .bool false, .nils, .int .i64 0, .int .i64 0, .bool false], .agg [.int .u8 1, .str [], .imm 1 [.agg [.int .u8 0], .agg [.int .u8 0], .agg [.int .u8 0], .agg [.int .u8 1], .agg [.int .u8 0], .agg [.int .u8 0], .agg [.int .u8 0], .agg [.int .u8 0], .agg [.int .u8 0], .agg [.int .u8 0], .agg [.int .u8 0], .agg [.int .u8 0], .agg [.int .u8 0], .agg [.int .u8 0], .agg [.int .u8 0], .agg [.int .u8 0], .agg [.int .u8 0], .agg [.int .u8 0], .agg [.int .u8 0], .agg [.int .u8 0], .agg [.int .u8 0], .agg [.int .u8 0], .agg [.int .u8 0], .agg [.int .u8 0], .agg [.int .u8 0], .agg [.int .u8 0], .agg [.int .u8 0], .agg [.int .u8 0], .agg [.int .u8 0], .agg [.int .u8 0], .agg [.int .u8 0], .agg [.int .u8 0]], .bool true, .nils, .int .i64 0, .int .i64 0, .bool false]], .int .i64 0, .int .i64 0, .bool false]
set_option maxHeartbeats 400000000 in
theorem q0_37 : chkCall Tryz.prog memo0 8 a0_37 r0_37 = true := by kernel_rfl
def a0_38 : List V := [.str [49,39,98,120]]
def r0_38 : V := .agg [.int .u8 1, .str [], .imm 1 [.agg [.int .u8 2]], .bool false, .nils, .int .i64 0, .int .i64 0, .bool false]
set_option maxHeartbeats 400000000 in
theorem q0_38 : chkCall Tryz.prog memo0 8 a0_38 r0_38 = true := by kernel_rfl
def a0_39 : List V := [.str [49]]
def r0_39 : V := .agg [.imm 1 [.agg [.int .u8 1], .agg [.int .u8 0], .agg [.int .u8 0], .agg [.int .u8 0], .agg [.int .u8 0], .agg [.int .u8 0], .agg [.int .u8 0], .agg [.int .u8 0], .agg [.int .u8 0], .agg [.int .u8 0], .agg [.int .u8 0], .agg [.int .u8 0], .agg [.int .u8 0], .agg [.int .u8 0], .agg [.int .u8 0], .agg [.int .u8 0], .agg [.int .u8 0], .agg [.int .u8 0], .agg [.int .u8 0], .agg [.int .u8 0], .agg [.int .u8 0], .agg [.int .u8 0], .agg [.int .u8 0], .agg [.int .u8 0], .agg [.int .u8 0], .agg [.int .u8 0], .agg [.int .u8 0], .agg [.int .u8 0], .agg [.int .u8 0], .agg [.int .u8 0], .agg [.int .u8 0], .agg [.int .u8 0]], .bool true]
set_option maxHeartbeats 400000000 in
theorem q0_39 : chkCall Tryz.prog memo0 10 a0_39 r0_39 = true := by kernel_rfl
def a0_40 : List V := [.str [98,101,103,105,110,32,58,32,107,32,114,101,103,32,119,59,32,98,101,103,105,110,32,119,32,61,32,119,32,43,32,118,59,32,101,110,100,32,101,110,100], .int .i64 0]
def r0_40 : V := .tup [.agg [.int .u8 2, .str [107], .str [], .int .u8 0, .str [], .nils, .bool false, .nils, .int .i64 0, .int .i64 0, .bool false, .int .u8 0, .str [], .nils, .bool false, .nils, .int .i64 0, .int .i64 0, .bool false, .int .u8 0, .str [], .nils, .bool false, .nils, .int .i64 0, .int .i64 0, .bool false, .int .i64 0, .nils, .nils, .imm 33 [.agg [.int .u8 2, .str [], .str [], .int .u8 0, .str [], .nils, .bool false, .nils, .int .i64 0, .int .i64 0, .bool false, .int .u8 0, .str [], .nils, .bool false, .nils, .int .i64 0, .int .i64 0, .bool false, .int .u8 0, .str [], .nils, .bool false, .nils, .int .i64 0, .int .i64 0, .bool false, .int .i64 0, .nils, .nils, .imm 33 [.agg [.int .u8 11, .str [], .str [], .int .u8 0, .str [], .nils, .bool false, .nils, .int .i64 0, .int .i64 0, .bool false, .int .u8 2, .str [119], .nils, .bool false, .nils, .int .i64 0, .int .i64 0, .bool false, .int .u8 21, .str [], .nils, .bool false, .imm 8 [.agg [.int .u8 2, .str [119], .nils, .bool false, .nils, .int .i64 0, .int .i64 0, .bool false], .agg [.int .u8 2, .str [118], .nils, .bool false, .nils, .int .i64 0, .int .i64 0, .bool false]], .int .i64 0, .int .i64 0, .bool false, .int .i64 (-1), .nils, .nils, .nils, .nils, .nils]], .nils, .nils]], .nils, .imm 6 [.agg [.int .u8 6, .str [119], .bool false, .nils, .nils, .nils]]], .int .i64 41, .int .i64 0]
set_option maxHeartbeats 400000000 in
theorem q0_40 : chkCall Tryz.prog memo0 12 a0_40 r0_40 = true := by kernel_rfl
end Go.Proofs.YtjbgagafibhgcaaGreatDoor.Run
