/- Known answers of the lexer: no statement of its own. -/
import Derived.Test.YtjbgagafibhgcaaGreatDoorProg
import Derived.Test.YtjbgagafibhgcaaGreatDoorVm5
import Derived.KernelRfl
set_option autoImplicit false
set_option maxRecDepth 100000
set_option linter.unusedVariables false
namespace Go.Proofs.YtjbgagafibhgcaaGreatDoor.Run
open Go Go.Vm

def g0 : List V := [.int .u8 0, .int .u8 1, .int .u8 2, .int .u8 2, .int .u8 1, .int .u8 1, .int .u8 1, .int .u8 1, .int .u8 2, .int .u8 1, .int .u8 2, .int .u8 2, .int .u8 2, .int .u8 1, .int .u8 2, .int .u8 2]
def g1 : List V := [.int .u8 1, .int .u8 0, .int .u8 2, .int .u8 2]
def g2 : List V := [.int .u8 0, .int .u8 0, .int .u8 0, .int .u8 0, .int .u8 0, .int .u8 1, .int .u8 2, .int .u8 2, .int .u8 0, .int .u8 2, .int .u8 2, .int .u8 2, .int .u8 0, .int .u8 2, .int .u8 2, .int .u8 2]
def g3 : List V := [.int .u8 0, .int .u8 1, .int .u8 2, .int .u8 2, .int .u8 1, .int .u8 0, .int .u8 2, .int .u8 2, .int .u8 2, .int .u8 2, .int .u8 2, .int .u8 2, .int .u8 2, .int .u8 2, .int .u8 2, .int .u8 2]
def glob : Nat → V
  | 0 => .ipt g0
  | 1 => .ipt g1
  | 2 => .ipt g2
  | 3 => .ipt g3
  | _ => .any
instance glI : Gl where
  gl := glob
  flat g := by
    match g with
    | 0 => exact .inr ⟨g0, rfl, rfl⟩
    | 1 => exact .inr ⟨g1, rfl, rfl⟩
    | 2 => exact .inr ⟨g2, rfl, rfl⟩
    | 3 => exact .inr ⟨g3, rfl, rfl⟩
    | _ + 4 => exact .inl rfl
def s0 : List Nat := [119,32,42,32,50,32,43,32,49]
def t0 : List (Nat × V) := [(0, .tup [.agg [.int .u8 1, .str [119], .nils, .bool false], .int .i64 1, .int .i64 0]), (1, .tup [.agg [.int .u8 6, .str [42], .nils, .bool false], .int .i64 3, .int .i64 0]), (3, .tup [.agg [.int .u8 4, .str [], .imm 1 [.agg [.int .u8 0], .agg [.int .u8 1], .agg [.int .u8 0], .agg [.int .u8 0], .agg [.int .u8 0], .agg [.int .u8 0], .agg [.int .u8 0], .agg [.int .u8 0], .agg [.int .u8 0], .agg [.int .u8 0], .agg [.int .u8 0], .agg [.int .u8 0], .agg [.int .u8 0], .agg [.int .u8 0], .agg [.int .u8 0], .agg [.int .u8 0], .agg [.int .u8 0], .agg [.int .u8 0], .agg [.int .u8 0], .agg [.int .u8 0], .agg [.int .u8 0], .agg [.int .u8 0], .agg [.int .u8 0], .agg [.int .u8 0], .agg [.int .u8 0], .agg [.int .u8 0], .agg [.int .u8 0], .agg [.int .u8 0], .agg [.int .u8 0], .agg [.int .u8 0], .agg [.int .u8 0], .agg [.int .u8 0]], .bool true], .int .i64 5, .int .i64 0]), (5, .tup [.agg [.int .u8 6, .str [43], .nils, .bool false], .int .i64 7, .int .i64 0]), (7, .tup [.agg [.int .u8 4, .str [], .imm 1 [.agg [.int .u8 1], .agg [.int .u8 0], .agg [.int .u8 0], .agg [.int .u8 0], .agg [.int .u8 0], .agg [.int .u8 0], .agg [.int .u8 0], .agg [.int .u8 0], .agg [.int .u8 0], .agg [.int .u8 0], .agg [.int .u8 0], .agg [.int .u8 0], .agg [.int .u8 0], .agg [.int .u8 0], .agg [.int .u8 0], .agg [.int .u8 0], .agg [.int .u8 0], .agg [.int .u8 0], .agg [.int .u8 0], .agg [.int .u8 0], .agg [.int .u8 0], .agg [.int .u8 0], .agg [.int .u8 0], .agg [.int .u8 0], .agg [.int .u8 0], .agg [.int .u8 0], .agg [.int .u8 0], .agg [.int .u8 0], .agg [.int .u8 0], .agg [.int .u8 0], .agg [.int .u8 0], .agg [.int .u8 0]], .bool true], .int .i64 9, .int .i64 0]), (9, .tup [.agg [.int .u8 0, .str [], .nils, .bool false], .int .i64 0, .int .i64 8])]
def s1 : List Nat := [97,91,119,32,45,32,49,93,32,43,32,119]
def t1 : List (Nat × V) := [(0, .tup [.agg [.int .u8 1, .str [97], .nils, .bool false], .int .i64 1, .int .i64 0]), (1, .tup [.agg [.int .u8 6, .str [91], .nils, .bool false], .int .i64 2, .int .i64 0]), (2, .tup [.agg [.int .u8 1, .str [119], .nils, .bool false], .int .i64 3, .int .i64 0]), (3, .tup [.agg [.int .u8 6, .str [45], .nils, .bool false], .int .i64 5, .int .i64 0]), (5, .tup [.agg [.int .u8 4, .str [], .imm 1 [.agg [.int .u8 1], .agg [.int .u8 0], .agg [.int .u8 0], .agg [.int .u8 0], .agg [.int .u8 0], .agg [.int .u8 0], .agg [.int .u8 0], .agg [.int .u8 0], .agg [.int .u8 0], .agg [.int .u8 0], .agg [.int .u8 0], .agg [.int .u8 0], .agg [.int .u8 0], .agg [.int .u8 0], .agg [.int .u8 0], .agg [.int .u8 0], .agg [.int .u8 0], .agg [.int .u8 0], .agg [.int .u8 0], .agg [.int .u8 0], .agg [.int .u8 0], .agg [.int .u8 0], .agg [.int .u8 0], .agg [.int .u8 0], .agg [.int .u8 0], .agg [.int .u8 0], .agg [.int .u8 0], .agg [.int .u8 0], .agg [.int .u8 0], .agg [.int .u8 0], .agg [.int .u8 0], .agg [.int .u8 0]], .bool true], .int .i64 7, .int .i64 0]), (7, .tup [.agg [.int .u8 6, .str [93], .nils, .bool false], .int .i64 8, .int .i64 0]), (8, .tup [.agg [.int .u8 6, .str [43], .nils, .bool false], .int .i64 10, .int .i64 0]), (10, .tup [.agg [.int .u8 1, .str [119], .nils, .bool false], .int .i64 12, .int .i64 0]), (12, .tup [.agg [.int .u8 0, .str [], .nils, .bool false], .int .i64 0, .int .i64 8])]
def s2 : List Nat := [119,91,48,93,32,61,32,119,59]
def t2 : List (Nat × V) := [(0, .tup [.agg [.int .u8 1, .str [119], .nils, .bool false], .int .i64 1, .int .i64 0]), (1, .tup [.agg [.int .u8 6, .str [91], .nils, .bool false], .int .i64 2, .int .i64 0]), (2, .tup [.agg [.int .u8 4, .str [], .imm 1 [.agg [.int .u8 0], .agg [.int .u8 0], .agg [.int .u8 0], .agg [.int .u8 0], .agg [.int .u8 0], .agg [.int .u8 0], .agg [.int .u8 0], .agg [.int .u8 0], .agg [.int .u8 0], .agg [.int .u8 0], .agg [.int .u8 0], .agg [.int .u8 0], .agg [.int .u8 0], .agg [.int .u8 0], .agg [.int .u8 0], .agg [.int .u8 0], .agg [.int .u8 0], .agg [.int .u8 0], .agg [.int .u8 0], .agg [.int .u8 0], .agg [.int .u8 0], .agg [.int .u8 0], .agg [.int .u8 0], .agg [.int .u8 0], .agg [.int .u8 0], .agg [.int .u8 0], .agg [.int .u8 0], .agg [.int .u8 0], .agg [.int .u8 0], .agg [.int .u8 0], .agg [.int .u8 0], .agg [.int .u8 0]], .bool true], .int .i64 3, .int .i64 0]), (3, .tup [.agg [.int .u8 6, .str [93], .nils, .bool false], .int .i64 4, .int .i64 0]), (4, .tup [.agg [.int .u8 6, .str [61], .nils, .bool false], .int .i64 6, .int .i64 0]), (6, .tup [.agg [.int .u8 1, .str [119], .nils, .bool false], .int .i64 8, .int .i64 0]), (8, .tup [.agg [.int .u8 6, .str [59], .nils, .bool false], .int .i64 9, .int .i64 0])]
def s3 : List Nat := [119,32,45,32,49]
def t3 : List (Nat × V) := [(0, .tup [.agg [.int .u8 1, .str [119], .nils, .bool false], .int .i64 1, .int .i64 0]), (1, .tup [.agg [.int .u8 6, .str [45], .nils, .bool false], .int .i64 3, .int .i64 0]), (3, .tup [.agg [.int .u8 4, .str [], .imm 1 [.agg [.int .u8 1], .agg [.int .u8 0], .agg [.int .u8 0], .agg [.int .u8 0], .agg [.int .u8 0], .agg [.int .u8 0], .agg [.int .u8 0], .agg [.int .u8 0], .agg [.int .u8 0], .agg [.int .u8 0], .agg [.int .u8 0], .agg [.int .u8 0], .agg [.int .u8 0], .agg [.int .u8 0], .agg [.int .u8 0], .agg [.int .u8 0], .agg [.int .u8 0], .agg [.int .u8 0], .agg [.int .u8 0], .agg [.int .u8 0], .agg [.int .u8 0], .agg [.int .u8 0], .agg [.int .u8 0], .agg [.int .u8 0], .agg [.int .u8 0], .agg [.int .u8 0], .agg [.int .u8 0], .agg [.int .u8 0], .agg [.int .u8 0], .agg [.int .u8 0], .agg [.int .u8 0], .agg [.int .u8 0]], .bool true], .int .i64 5, .int .i64 0]), (5, .tup [.agg [.int .u8 0, .str [], .nils, .bool false], .int .i64 0, .int .i64 8])]
def s4 : List Nat := [119,32,62,32,52]
def t4 : List (Nat × V) := [(0, .tup [.agg [.int .u8 1, .str [119], .nils, .bool false], .int .i64 1, .int .i64 0]), (1, .tup [.agg [.int .u8 6, .str [62], .nils, .bool false], .int .i64 3, .int .i64 0]), (3, .tup [.agg [.int .u8 4, .str [], .imm 1 [.agg [.int .u8 0], .agg [.int .u8 0], .agg [.int .u8 1], .agg [.int .u8 0], .agg [.int .u8 0], .agg [.int .u8 0], .agg [.int .u8 0], .agg [.int .u8 0], .agg [.int .u8 0], .agg [.int .u8 0], .agg [.int .u8 0], .agg [.int .u8 0], .agg [.int .u8 0], .agg [.int .u8 0], .agg [.int .u8 0], .agg [.int .u8 0], .agg [.int .u8 0], .agg [.int .u8 0], .agg [.int .u8 0], .agg [.int .u8 0], .agg [.int .u8 0], .agg [.int .u8 0], .agg [.int .u8 0], .agg [.int .u8 0], .agg [.int .u8 0], .agg [.int .u8 0], .agg [.int .u8 0], .agg [.int .u8 0], .agg [.int .u8 0], .agg [.int .u8 0], .agg [.int .u8 0], .agg [.int .u8 0]], .bool true], .int .i64 5, .int .i64 0]), (5, .tup [.agg [.int .u8 0, .str [], .nils, .bool false], .int .i64 0, .int .i64 8])]
def s5 : List Nat := [123,119,125]
def t5 : List (Nat × V) := [(0, .tup [.agg [.int .u8 6, .str [123], .nils, .bool false], .int .i64 1, .int .i64 0]), (1, .tup [.agg [.int .u8 1, .str [119], .nils, .bool false], .int .i64 2, .int .i64 0]), (2, .tup [.agg [.int .u8 6, .str [125], .nils, .bool false], .int .i64 3, .int .i64 0]), (3, .tup [.agg [.int .u8 0, .str [], .nils, .bool false], .int .i64 0, .int .i64 8])]
def s6 : List Nat := [119,91,48,93]
def t6 : List (Nat × V) := [(0, .tup [.agg [.int .u8 1, .str [119], .nils, .bool false], .int .i64 1, .int .i64 0]), (1, .tup [.agg [.int .u8 6, .str [91], .nils, .bool false], .int .i64 2, .int .i64 0]), (2, .tup [.agg [.int .u8 4, .str [], .imm 1 [.agg [.int .u8 0], .agg [.int .u8 0], .agg [.int .u8 0], .agg [.int .u8 0], .agg [.int .u8 0], .agg [.int .u8 0], .agg [.int .u8 0], .agg [.int .u8 0], .agg [.int .u8 0], .agg [.int .u8 0], .agg [.int .u8 0], .agg [.int .u8 0], .agg [.int .u8 0], .agg [.int .u8 0], .agg [.int .u8 0], .agg [.int .u8 0], .agg [.int .u8 0], .agg [.int .u8 0], .agg [.int .u8 0], .agg [.int .u8 0], .agg [.int .u8 0], .agg [.int .u8 0], .agg [.int .u8 0], .agg [.int .u8 0], .agg [.int .u8 0], .agg [.int .u8 0], .agg [.int .u8 0], .agg [.int .u8 0], .agg [.int .u8 0], .agg [.int .u8 0], .agg [.int .u8 0], .agg [.int .u8 0]], .bool true], .int .i64 3, .int .i64 0]), (3, .tup [.agg [.int .u8 6, .str [93], .nils, .bool false], .int .i64 4, .int .i64 0]), (4, .tup [.agg [.int .u8 0, .str [], .nils, .bool false], .int .i64 0, .int .i64 8])]
def s7 : List Nat := [102,40,119,41]
def t7 : List (Nat × V) := [(0, .tup [.agg [.int .u8 1, .str [102], .nils, .bool false], .int .i64 1, .int .i64 0]), (1, .tup [.agg [.int .u8 6, .str [40], .nils, .bool false], .int .i64 2, .int .i64 0]), (2, .tup [.agg [.int .u8 1, .str [119], .nils, .bool false], .int .i64 3, .int .i64 0]), (3, .tup [.agg [.int .u8 6, .str [41], .nils, .bool false], .int .i64 4, .int .i64 0]), (4, .tup [.agg [.int .u8 0, .str [], .nils, .bool false], .int .i64 0, .int .i64 8])]
def s8 : List Nat := [118]
def t8 : List (Nat × V) := [(0, .tup [.agg [.int .u8 1, .str [118], .nils, .bool false], .int .i64 1, .int .i64 0]), (1, .tup [.agg [.int .u8 0, .str [], .nils, .bool false], .int .i64 0, .int .i64 8])]
def s9 : List Nat := [49,32,47,32,48]
def t9 : List (Nat × V) := [(0, .tup [.agg [.int .u8 4, .str [], .imm 1 [.agg [.int .u8 1], .agg [.int .u8 0], .agg [.int .u8 0], .agg [.int .u8 0], .agg [.int .u8 0], .agg [.int .u8 0], .agg [.int .u8 0], .agg [.int .u8 0], .agg [.int .u8 0], .agg [.int .u8 0], .agg [.int .u8 0], .agg [.int .u8 0], .agg [.int .u8 0], .agg [.int .u8 0], .agg [.int .u8 0], .agg [.int .u8 0], .agg [.int .u8 0], .agg [.int .u8 0], .agg [.int .u8 0], .agg [.int .u8 0], .agg [.int .u8 0], .agg [.int .u8 0], .agg [.int .u8 0], .agg [.int .u8 0], .agg [.int .u8 0], .agg [.int .u8 0], .agg [.int .u8 0], .agg [.int .u8 0], .agg [.int .u8 0], .agg [.int .u8 0], .agg [.int .u8 0], .agg [.int .u8 0]], .bool true], .int .i64 1, .int .i64 0]), (1, .tup [.agg [.int .u8 6, .str [47], .nils, .bool false], .int .i64 3, .int .i64 0]), (3, .tup [.agg [.int .u8 4, .str [], .imm 1 [.agg [.int .u8 0], .agg [.int .u8 0], .agg [.int .u8 0], .agg [.int .u8 0], .agg [.int .u8 0], .agg [.int .u8 0], .agg [.int .u8 0], .agg [.int .u8 0], .agg [.int .u8 0], .agg [.int .u8 0], .agg [.int .u8 0], .agg [.int .u8 0], .agg [.int .u8 0], .agg [.int .u8 0], .agg [.int .u8 0], .agg [.int .u8 0], .agg [.int .u8 0], .agg [.int .u8 0], .agg [.int .u8 0], .agg [.int .u8 0], .agg [.int .u8 0], .agg [.int .u8 0], .agg [.int .u8 0], .agg [.int .u8 0], .agg [.int .u8 0], .agg [.int .u8 0], .agg [.int .u8 0], .agg [.int .u8 0], .agg [.int .u8 0], .agg [.int .u8 0], .agg [.int .u8 0], .agg [.int .u8 0]], .bool true], .int .i64 5, .int .i64 0]), (5, .tup [.agg [.int .u8 0, .str [], .nils, .bool false], .int .i64 0, .int .i64 8])]
def s10 : List Nat := [45,119]
def t10 : List (Nat × V) := [(0, .tup [.agg [.int .u8 6, .str [45], .nils, .bool false], .int .i64 1, .int .i64 0]), (1, .tup [.agg [.int .u8 1, .str [119], .nils, .bool false], .int .i64 2, .int .i64 0]), (2, .tup [.agg [.int .u8 0, .str [], .nils, .bool false], .int .i64 0, .int .i64 8])]
def s11 : List Nat := [119,32,63,32,50,39,100,49,32,58,32,50,39,100,50]
def t11 : List (Nat × V) := [(0, .tup [.agg [.int .u8 1, .str [119], .nils, .bool false], .int .i64 1, .int .i64 0]), (1, .tup [.agg [.int .u8 6, .str [63], .nils, .bool false], .int .i64 3, .int .i64 0]), (3, .tup [.agg [.int .u8 4, .str [], .imm 1 [.agg [.int .u8 1], .agg [.int .u8 0]], .bool false], .int .i64 8, .int .i64 0]), (8, .tup [.agg [.int .u8 6, .str [58], .nils, .bool false], .int .i64 10, .int .i64 0]), (10, .tup [.agg [.int .u8 4, .str [], .imm 1 [.agg [.int .u8 0], .agg [.int .u8 1]], .bool false], .int .i64 15, .int .i64 0]), (15, .tup [.agg [.int .u8 0, .str [], .nils, .bool false], .int .i64 0, .int .i64 8])]
def s12 : List Nat := [123,50,123,50,39,98,49,48,125,125]
def t12 : List (Nat × V) := [(0, .tup [.agg [.int .u8 6, .str [123], .nils, .bool false], .int .i64 1, .int .i64 0]), (1, .tup [.agg [.int .u8 4, .str [], .imm 1 [.agg [.int .u8 0], .agg [.int .u8 1], .agg [.int .u8 0], .agg [.int .u8 0], .agg [.int .u8 0], .agg [.int .u8 0], .agg [.int .u8 0], .agg [.int .u8 0], .agg [.int .u8 0], .agg [.int .u8 0], .agg [.int .u8 0], .agg [.int .u8 0], .agg [.int .u8 0], .agg [.int .u8 0], .agg [.int .u8 0], .agg [.int .u8 0], .agg [.int .u8 0], .agg [.int .u8 0], .agg [.int .u8 0], .agg [.int .u8 0], .agg [.int .u8 0], .agg [.int .u8 0], .agg [.int .u8 0], .agg [.int .u8 0], .agg [.int .u8 0], .agg [.int .u8 0], .agg [.int .u8 0], .agg [.int .u8 0], .agg [.int .u8 0], .agg [.int .u8 0], .agg [.int .u8 0], .agg [.int .u8 0]], .bool true], .int .i64 2, .int .i64 0]), (2, .tup [.agg [.int .u8 6, .str [123], .nils, .bool false], .int .i64 3, .int .i64 0]), (3, .tup [.agg [.int .u8 4, .str [], .imm 1 [.agg [.int .u8 0], .agg [.int .u8 1]], .bool false], .int .i64 8, .int .i64 0]), (8, .tup [.agg [.int .u8 6, .str [125], .nils, .bool false], .int .i64 9, .int .i64 0]), (9, .tup [.agg [.int .u8 6, .str [125], .nils, .bool false], .int .i64 10, .int .i64 0]), (10, .tup [.agg [.int .u8 0, .str [], .nils, .bool false], .int .i64 0, .int .i64 8])]
def s13 : List Nat := [119,32,60,60,32,49]
def t13 : List (Nat × V) := [(0, .tup [.agg [.int .u8 1, .str [119], .nils, .bool false], .int .i64 1, .int .i64 0]), (1, .tup [.agg [.int .u8 6, .str [60,60], .nils, .bool false], .int .i64 4, .int .i64 0]), (4, .tup [.agg [.int .u8 4, .str [], .imm 1 [.agg [.int .u8 1], .agg [.int .u8 0], .agg [.int .u8 0], .agg [.int .u8 0], .agg [.int .u8 0], .agg [.int .u8 0], .agg [.int .u8 0], .agg [.int .u8 0], .agg [.int .u8 0], .agg [.int .u8 0], .agg [.int .u8 0], .agg [.int .u8 0], .agg [.int .u8 0], .agg [.int .u8 0], .agg [.int .u8 0], .agg [.int .u8 0], .agg [.int .u8 0], .agg [.int .u8 0], .agg [.int .u8 0], .agg [.int .u8 0], .agg [.int .u8 0], .agg [.int .u8 0], .agg [.int .u8 0], .agg [.int .u8 0], .agg [.int .u8 0], .agg [.int .u8 0], .agg [.int .u8 0], .agg [.int .u8 0], .agg [.int .u8 0], .agg [.int .u8 0], .agg [.int .u8 0], .agg [.int .u8 0]], .bool true], .int .i64 6, .int .i64 0]), (6, .tup [.agg [.int .u8 0, .str [], .nils, .bool false], .int .i64 0, .int .i64 8])]
def s14 : List Nat := [50,32,42,42,32,51]
def t14 : List (Nat × V) := [(0, .tup [.agg [.int .u8 4, .str [], .imm 1 [.agg [.int .u8 0], .agg [.int .u8 1], .agg [.int .u8 0], .agg [.int .u8 0], .agg [.int .u8 0], .agg [.int .u8 0], .agg [.int .u8 0], .agg [.int .u8 0], .agg [.int .u8 0], .agg [.int .u8 0], .agg [.int .u8 0], .agg [.int .u8 0], .agg [.int .u8 0], .agg [.int .u8 0], .agg [.int .u8 0], .agg [.int .u8 0], .agg [.int .u8 0], .agg [.int .u8 0], .agg [.int .u8 0], .agg [.int .u8 0], .agg [.int .u8 0], .agg [.int .u8 0], .agg [.int .u8 0], .agg [.int .u8 0], .agg [.int .u8 0], .agg [.int .u8 0], .agg [.int .u8 0], .agg [.int .u8 0], .agg [.int .u8 0], .agg [.int .u8 0], .agg [.int .u8 0], .agg [.int .u8 0]], .bool true], .int .i64 1, .int .i64 0]), (1, .tup [.agg [.int .u8 6, .str [42,42], .nils, .bool false], .int .i64 4, .int .i64 0]), (4, .tup [.agg [.int .u8 4, .str [], .imm 1 [.agg [.int .u8 1], .agg [.int .u8 1], .agg [.int .u8 0], .agg [.int .u8 0], .agg [.int .u8 0], .agg [.int .u8 0], .agg [.int .u8 0], .agg [.int .u8 0], .agg [.int .u8 0], .agg [.int .u8 0], .agg [.int .u8 0], .agg [.int .u8 0], .agg [.int .u8 0], .agg [.int .u8 0], .agg [.int .u8 0], .agg [.int .u8 0], .agg [.int .u8 0], .agg [.int .u8 0], .agg [.int .u8 0], .agg [.int .u8 0], .agg [.int .u8 0], .agg [.int .u8 0], .agg [.int .u8 0], .agg [.int .u8 0], .agg [.int .u8 0], .agg [.int .u8 0], .agg [.int .u8 0], .agg [.int .u8 0], .agg [.int .u8 0], .agg [.int .u8 0], .agg [.int .u8 0], .agg [.int .u8 0]], .bool true], .int .i64 6, .int .i64 0]), (6, .tup [.agg [.int .u8 0, .str [], .nils, .bool false], .int .i64 0, .int .i64 8])]
def s15 : List Nat := [36,117,110,115,105,103,110,101,100,40,119,41,32,43,32,49]
def t15 : List (Nat × V) := [(0, .tup [.agg [.int .u8 3, .str [36,117,110,115,105,103,110,101,100], .nils, .bool false], .int .i64 9, .int .i64 0]), (9, .tup [.agg [.int .u8 6, .str [40], .nils, .bool false], .int .i64 10, .int .i64 0]), (10, .tup [.agg [.int .u8 1, .str [119], .nils, .bool false], .int .i64 11, .int .i64 0]), (11, .tup [.agg [.int .u8 6, .str [41], .nils, .bool false], .int .i64 12, .int .i64 0]), (12, .tup [.agg [.int .u8 6, .str [43], .nils, .bool false], .int .i64 14, .int .i64 0]), (14, .tup [.agg [.int .u8 4, .str [], .imm 1 [.agg [.int .u8 1], .agg [.int .u8 0], .agg [.int .u8 0], .agg [.int .u8 0], .agg [.int .u8 0], .agg [.int .u8 0], .agg [.int .u8 0], .agg [.int .u8 0], .agg [.int .u8 0], .agg [.int .u8 0], .agg [.int .u8 0], .agg [.int .u8 0], .agg [.int .u8 0], .agg [.int .u8 0], .agg [.int .u8 0], .agg [.int .u8 0], .agg [.int .u8 0], .agg [.int .u8 0], .agg [.int .u8 0], .agg [.int .u8 0], .agg [.int .u8 0], .agg [.int .u8 0], .agg [.int .u8 0], .agg [.int .u8 0], .agg [.int .u8 0], .agg [.int .u8 0], .agg [.int .u8 0], .agg [.int .u8 0], .agg [.int .u8 0], .agg [.int .u8 0], .agg [.int .u8 0], .agg [.int .u8 0]], .bool true], .int .i64 16, .int .i64 0]), (16, .tup [.agg [.int .u8 0, .str [], .nils, .bool false], .int .i64 0, .int .i64 8])]
def s16 : List Nat := [119,32,61,61,32,56,32,38,38,32,119,32,33,61,32,57]
def t16 : List (Nat × V) := [(0, .tup [.agg [.int .u8 1, .str [119], .nils, .bool false], .int .i64 1, .int .i64 0]), (1, .tup [.agg [.int .u8 6, .str [61,61], .nils, .bool false], .int .i64 4, .int .i64 0]), (4, .tup [.agg [.int .u8 4, .str [], .imm 1 [.agg [.int .u8 0], .agg [.int .u8 0], .agg [.int .u8 0], .agg [.int .u8 1], .agg [.int .u8 0], .agg [.int .u8 0], .agg [.int .u8 0], .agg [.int .u8 0], .agg [.int .u8 0], .agg [.int .u8 0], .agg [.int .u8 0], .agg [.int .u8 0], .agg [.int .u8 0], .agg [.int .u8 0], .agg [.int .u8 0], .agg [.int .u8 0], .agg [.int .u8 0], .agg [.int .u8 0], .agg [.int .u8 0], .agg [.int .u8 0], .agg [.int .u8 0], .agg [.int .u8 0], .agg [.int .u8 0], .agg [.int .u8 0], .agg [.int .u8 0], .agg [.int .u8 0], .agg [.int .u8 0], .agg [.int .u8 0], .agg [.int .u8 0], .agg [.int .u8 0], .agg [.int .u8 0], .agg [.int .u8 0]], .bool true], .int .i64 6, .int .i64 0]), (6, .tup [.agg [.int .u8 6, .str [38,38], .nils, .bool false], .int .i64 9, .int .i64 0]), (9, .tup [.agg [.int .u8 1, .str [119], .nils, .bool false], .int .i64 11, .int .i64 0]), (11, .tup [.agg [.int .u8 6, .str [33,61], .nils, .bool false], .int .i64 14, .int .i64 0]), (14, .tup [.agg [.int .u8 4, .str [], .imm 1 [.agg [.int .u8 1], .agg [.int .u8 0], .agg [.int .u8 0], .agg [.int .u8 1], .agg [.int .u8 0], .agg [.int .u8 0], .agg [.int .u8 0], .agg [.int .u8 0], .agg [.int .u8 0], .agg [.int .u8 0], .agg [.int .u8 0], .agg [.int .u8 0], .agg [.int .u8 0], .agg [.int .u8 0], .agg [.int .u8 0], .agg [.int .u8 0], .agg [.int .u8 0], .agg [.int .u8 0], .agg [.int .u8 0], .agg [.int .u8 0], .agg [.int .u8 0], .agg [.int .u8 0], .agg [.int .u8 0], .agg [.int .u8 0], .agg [.int .u8 0], .agg [.int .u8 0], .agg [.int .u8 0], .agg [.int .u8 0], .agg [.int .u8 0], .agg [.int .u8 0], .agg [.int .u8 0], .agg [.int .u8 0]], .bool true], .int .i64 16, .int .i64 0]), (16, .tup [.agg [.int .u8 0, .str [], .nils, .bool false], .int .i64 0, .int .i64 8])]
def s17 : List Nat := [52,39,98,49,120,48,48,32,124,32,52,39,98,48,48,49,49]
def t17 : List (Nat × V) := [(0, .tup [.agg [.int .u8 4, .str [], .imm 1 [.agg [.int .u8 0], .agg [.int .u8 0], .agg [.int .u8 2], .agg [.int .u8 1]], .bool false], .int .i64 7, .int .i64 0]), (7, .tup [.agg [.int .u8 6, .str [124], .nils, .bool false], .int .i64 9, .int .i64 0]), (9, .tup [.agg [.int .u8 4, .str [], .imm 1 [.agg [.int .u8 1], .agg [.int .u8 1], .agg [.int .u8 0], .agg [.int .u8 0]], .bool false], .int .i64 17, .int .i64 0]), (17, .tup [.agg [.int .u8 0, .str [], .nils, .bool false], .int .i64 0, .int .i64 8])]
def s18 : List Nat := [119,32,37,32,51]
def t18 : List (Nat × V) := [(0, .tup [.agg [.int .u8 1, .str [119], .nils, .bool false], .int .i64 1, .int .i64 0]), (1, .tup [.agg [.int .u8 6, .str [37], .nils, .bool false], .int .i64 3, .int .i64 0]), (3, .tup [.agg [.int .u8 4, .str [], .imm 1 [.agg [.int .u8 1], .agg [.int .u8 1], .agg [.int .u8 0], .agg [.int .u8 0], .agg [.int .u8 0], .agg [.int .u8 0], .agg [.int .u8 0], .agg [.int .u8 0], .agg [.int .u8 0], .agg [.int .u8 0], .agg [.int .u8 0], .agg [.int .u8 0], .agg [.int .u8 0], .agg [.int .u8 0], .agg [.int .u8 0], .agg [.int .u8 0], .agg [.int .u8 0], .agg [.int .u8 0], .agg [.int .u8 0], .agg [.int .u8 0], .agg [.int .u8 0], .agg [.int .u8 0], .agg [.int .u8 0], .agg [.int .u8 0], .agg [.int .u8 0], .agg [.int .u8 0], .agg [.int .u8 0], .agg [.int .u8 0], .agg [.int .u8 0], .agg [.int .u8 0], .agg [.int .u8 0], .agg [.int .u8 0]], .bool true], .int .i64 5, .int .i64 0]), (5, .tup [.agg [.int .u8 0, .str [], .nils, .bool false], .int .i64 0, .int .i64 8])]
def s19 : List Nat := [97,91,48]
def t19 : List (Nat × V) := [(0, .tup [.agg [.int .u8 1, .str [97], .nils, .bool false], .int .i64 1, .int .i64 0]), (1, .tup [.agg [.int .u8 6, .str [91], .nils, .bool false], .int .i64 2, .int .i64 0]), (2, .tup [.agg [.int .u8 4, .str [], .imm 1 [.agg [.int .u8 0], .agg [.int .u8 0], .agg [.int .u8 0], .agg [.int .u8 0], .agg [.int .u8 0], .agg [.int .u8 0], .agg [.int .u8 0], .agg [.int .u8 0], .agg [.int .u8 0], .agg [.int .u8 0], .agg [.int .u8 0], .agg [.int .u8 0], .agg [.int .u8 0], .agg [.int .u8 0], .agg [.int .u8 0], .agg [.int .u8 0], .agg [.int .u8 0], .agg [.int .u8 0], .agg [.int .u8 0], .agg [.int .u8 0], .agg [.int .u8 0], .agg [.int .u8 0], .agg [.int .u8 0], .agg [.int .u8 0], .agg [.int .u8 0], .agg [.int .u8 0], .agg [.int .u8 0], .agg [.int .u8 0], .agg [.int .u8 0], .agg [.int .u8 0], .agg [.int .u8 0], .agg [.int .u8 0]], .bool true], .int .i64 3, .int .i64 0]), (3, .tup [.agg [.int .u8 0, .str [], .nils, .bool false], .int .i64 0, .int .i64 8])]
def s20 : List Nat := [119,32,43,32,36,116,105,109,101]
def t20 : List (Nat × V) := [(0, .tup [.agg [.int .u8 1, .str [119], .nils, .bool false], .int .i64 1, .int .i64 0]), (1, .tup [.agg [.int .u8 6, .str [43], .nils, .bool false], .int .i64 3, .int .i64 0]), (3, .tup [.agg [.int .u8 3, .str [36,116,105,109,101], .nils, .bool false], .int .i64 9, .int .i64 0]), (9, .tup [.agg [.int .u8 0, .str [], .nils, .bool false], .int .i64 0, .int .i64 8])]
def s21 : List Nat := [118,32,43,32,102,40,119,41]
def t21 : List (Nat × V) := [(0, .tup [.agg [.int .u8 1, .str [118], .nils, .bool false], .int .i64 1, .int .i64 0]), (1, .tup [.agg [.int .u8 6, .str [43], .nils, .bool false], .int .i64 3, .int .i64 0]), (3, .tup [.agg [.int .u8 1, .str [102], .nils, .bool false], .int .i64 5, .int .i64 0]), (5, .tup [.agg [.int .u8 6, .str [40], .nils, .bool false], .int .i64 6, .int .i64 0]), (6, .tup [.agg [.int .u8 1, .str [119], .nils, .bool false], .int .i64 7, .int .i64 0]), (7, .tup [.agg [.int .u8 6, .str [41], .nils, .bool false], .int .i64 8, .int .i64 0]), (8, .tup [.agg [.int .u8 0, .str [], .nils, .bool false], .int .i64 0, .int .i64 8])]
def s22 : List Nat := [123,119,123,119,125,125]
def t22 : List (Nat × V) := [(0, .tup [.agg [.int .u8 6, .str [123], .nils, .bool false], .int .i64 1, .int .i64 0]), (1, .tup [.agg [.int .u8 1, .str [119], .nils, .bool false], .int .i64 2, .int .i64 0]), (2, .tup [.agg [.int .u8 6, .str [123], .nils, .bool false], .int .i64 3, .int .i64 0]), (3, .tup [.agg [.int .u8 1, .str [119], .nils, .bool false], .int .i64 4, .int .i64 0]), (4, .tup [.agg [.int .u8 6, .str [125], .nils, .bool false], .int .i64 5, .int .i64 0]), (5, .tup [.agg [.int .u8 6, .str [125], .nils, .bool false], .int .i64 6, .int .i64 0]), (6, .tup [.agg [.int .u8 0, .str [], .nils, .bool false], .int .i64 0, .int .i64 8])]
def s23 : List Nat := [123,53,123,119,125,125]
def t23 : List (Nat × V) := [(0, .tup [.agg [.int .u8 6, .str [123], .nils, .bool false], .int .i64 1, .int .i64 0]), (1, .tup [.agg [.int .u8 4, .str [], .imm 1 [.agg [.int .u8 1], .agg [.int .u8 0], .agg [.int .u8 1], .agg [.int .u8 0], .agg [.int .u8 0], .agg [.int .u8 0], .agg [.int .u8 0], .agg [.int .u8 0], .agg [.int .u8 0], .agg [.int .u8 0], .agg [.int .u8 0], .agg [.int .u8 0], .agg [.int .u8 0], .agg [.int .u8 0], .agg [.int .u8 0], .agg [.int .u8 0], .agg [.int .u8 0], .agg [.int .u8 0], .agg [.int .u8 0], .agg [.int .u8 0], .agg [.int .u8 0], .agg [.int .u8 0], .agg [.int .u8 0], .agg [.int .u8 0], .agg [.int .u8 0], .agg [.int .u8 0], .agg [.int .u8 0], .agg [.int .u8 0], .agg [.int .u8 0], .agg [.int .u8 0], .agg [.int .u8 0], .agg [.int .u8 0]], .bool true], .int .i64 2, .int .i64 0]), (2, .tup [.agg [.int .u8 6, .str [123], .nils, .bool false], .int .i64 3, .int .i64 0]), (3, .tup [.agg [.int .u8 1, .str [119], .nils, .bool false], .int .i64 4, .int .i64 0]), (4, .tup [.agg [.int .u8 6, .str [125], .nils, .bool false], .int .i64 5, .int .i64 0]), (5, .tup [.agg [.int .u8 6, .str [125], .nils, .bool false], .int .i64 6, .int .i64 0]), (6, .tup [.agg [.int .u8 0, .str [], .nils, .bool false], .int .i64 0, .int .i64 8])]
def s24 : List Nat := [54,52,39,104,56,48,48,48,48,48,48,48,48,48,48,48,48,48,48,48]
def t24 : List (Nat × V) := [(0, .tup [.agg [.int .u8 4, .str [], .imm 1 [.agg [.int .u8 0], .agg [.int .u8 0], .agg [.int .u8 0], .agg [.int .u8 0], .agg [.int .u8 0], .agg [.int .u8 0], .agg [.int .u8 0], .agg [.int .u8 0], .agg [.int .u8 0], .agg [.int .u8 0], .agg [.int .u8 0], .agg [.int .u8 0], .agg [.int .u8 0], .agg [.int .u8 0], .agg [.int .u8 0], .agg [.int .u8 0], .agg [.int .u8 0], .agg [.int .u8 0], .agg [.int .u8 0], .agg [.int .u8 0], .agg [.int .u8 0], .agg [.int .u8 0], .agg [.int .u8 0], .agg [.int .u8 0], .agg [.int .u8 0], .agg [.int .u8 0], .agg [.int .u8 0], .agg [.int .u8 0], .agg [.int .u8 0], .agg [.int .u8 0], .agg [.int .u8 0], .agg [.int .u8 0], .agg [.int .u8 0], .agg [.int .u8 0], .agg [.int .u8 0], .agg [.int .u8 0], .agg [.int .u8 0], .agg [.int .u8 0], .agg [.int .u8 0], .agg [.int .u8 0], .agg [.int .u8 0], .agg [.int .u8 0], .agg [.int .u8 0], .agg [.int .u8 0], .agg [.int .u8 0], .agg [.int .u8 0], .agg [.int .u8 0], .agg [.int .u8 0], .agg [.int .u8 0], .agg [.int .u8 0], .agg [.int .u8 0], .agg [.int .u8 0], .agg [.int .u8 0], .agg [.int .u8 0], .agg [.int .u8 0], .agg [.int .u8 0], .agg [.int .u8 0], .agg [.int .u8 0], .agg [.int .u8 0], .agg [.int .u8 0], .agg [.int .u8 0], .agg [.int .u8 0], .agg [.int .u8 0], .agg [.int .u8 1]], .bool false], .int .i64 20, .int .i64 0]), (20, .tup [.agg [.int .u8 0, .str [], .nils, .bool false], .int .i64 0, .int .i64 8])]
def s25 : List Nat := [119]
def t25 : List (Nat × V) := [(0, .tup [.agg [.int .u8 1, .str [119], .nils, .bool false], .int .i64 1, .int .i64 0]), (1, .tup [.agg [.int .u8 0, .str [], .nils, .bool false], .int .i64 0, .int .i64 8])]
def s26 : List Nat := [119,32,45,32,56]
def t26 : List (Nat × V) := [(0, .tup [.agg [.int .u8 1, .str [119], .nils, .bool false], .int .i64 1, .int .i64 0]), (1, .tup [.agg [.int .u8 6, .str [45], .nils, .bool false], .int .i64 3, .int .i64 0]), (3, .tup [.agg [.int .u8 4, .str [], .imm 1 [.agg [.int .u8 0], .agg [.int .u8 0], .agg [.int .u8 0], .agg [.int .u8 1], .agg [.int .u8 0], .agg [.int .u8 0], .agg [.int .u8 0], .agg [.int .u8 0], .agg [.int .u8 0], .agg [.int .u8 0], .agg [.int .u8 0], .agg [.int .u8 0], .agg [.int .u8 0], .agg [.int .u8 0], .agg [.int .u8 0], .agg [.int .u8 0], .agg [.int .u8 0], .agg [.int .u8 0], .agg [.int .u8 0], .agg [.int .u8 0], .agg [.int .u8 0], .agg [.int .u8 0], .agg [.int .u8 0], .agg [.int .u8 0], .agg [.int .u8 0], .agg [.int .u8 0], .agg [.int .u8 0], .agg [.int .u8 0], .agg [.int .u8 0], .agg [.int .u8 0], .agg [.int .u8 0], .agg [.int .u8 0]], .bool true], .int .i64 5, .int .i64 0]), (5, .tup [.agg [.int .u8 0, .str [], .nils, .bool false], .int .i64 0, .int .i64 8])]
def s27 : List Nat := [49,39,98,120]
def t27 : List (Nat × V) := [(0, .tup [.agg [.int .u8 4, .str [], .imm 1 [.agg [.int .u8 2]], .bool false], .int .i64 4, .int .i64 0]), (4, .tup [.agg [.int .u8 0, .str [], .nils, .bool false], .int .i64 0, .int .i64 8])]
def s28 : List Nat := [98,101,103,105,110,32,58,32,107,32,114,101,103,32,119,59,32,98,101,103,105,110,32,119,32,61,32,119,32,43,32,118,59,32,101,110,100,32,101,110,100]
def t28 : List (Nat × V) := [(0, .tup [.agg [.int .u8 2, .str [98,101,103,105,110], .nils, .bool false], .int .i64 5, .int .i64 0]), (5, .tup [.agg [.int .u8 6, .str [58], .nils, .bool false], .int .i64 7, .int .i64 0]), (7, .tup [.agg [.int .u8 1, .str [107], .nils, .bool false], .int .i64 9, .int .i64 0]), (9, .tup [.agg [.int .u8 2, .str [114,101,103], .nils, .bool false], .int .i64 13, .int .i64 0]), (13, .tup [.agg [.int .u8 1, .str [119], .nils, .bool false], .int .i64 15, .int .i64 0]), (15, .tup [.agg [.int .u8 6, .str [59], .nils, .bool false], .int .i64 16, .int .i64 0]), (16, .tup [.agg [.int .u8 2, .str [98,101,103,105,110], .nils, .bool false], .int .i64 22, .int .i64 0]), (22, .tup [.agg [.int .u8 1, .str [119], .nils, .bool false], .int .i64 24, .int .i64 0]), (24, .tup [.agg [.int .u8 6, .str [61], .nils, .bool false], .int .i64 26, .int .i64 0]), (26, .tup [.agg [.int .u8 1, .str [119], .nils, .bool false], .int .i64 28, .int .i64 0]), (28, .tup [.agg [.int .u8 6, .str [43], .nils, .bool false], .int .i64 30, .int .i64 0]), (30, .tup [.agg [.int .u8 1, .str [118], .nils, .bool false], .int .i64 32, .int .i64 0]), (32, .tup [.agg [.int .u8 6, .str [59], .nils, .bool false], .int .i64 33, .int .i64 0]), (33, .tup [.agg [.int .u8 2, .str [101,110,100], .nils, .bool false], .int .i64 37, .int .i64 0]), (37, .tup [.agg [.int .u8 2, .str [101,110,100], .nils, .bool false], .int .i64 41, .int .i64 0])]
def s29 : List Nat := [99,97,115,101,32,40,119,41,32,119,32,58,32,123,119,44,32,109,91,119,93,125,32,61,32,97,59,32,100,101,102,97,117,108,116,32,58,32,64,40,112,111,115,101,100,103,101,32,119,41,32,114,101,112,101,97,116,32,40,119,41,32,103,111,40,119,41,59,32,101,110,100,99,97,115,101]
def t29 : List (Nat × V) := [(0, .tup [.agg [.int .u8 2, .str [99,97,115,101], .nils, .bool false], .int .i64 4, .int .i64 0]), (4, .tup [.agg [.int .u8 6, .str [40], .nils, .bool false], .int .i64 6, .int .i64 0]), (6, .tup [.agg [.int .u8 1, .str [119], .nils, .bool false], .int .i64 7, .int .i64 0]), (7, .tup [.agg [.int .u8 6, .str [41], .nils, .bool false], .int .i64 8, .int .i64 0]), (8, .tup [.agg [.int .u8 1, .str [119], .nils, .bool false], .int .i64 10, .int .i64 0]), (10, .tup [.agg [.int .u8 6, .str [58], .nils, .bool false], .int .i64 12, .int .i64 0]), (12, .tup [.agg [.int .u8 6, .str [123], .nils, .bool false], .int .i64 14, .int .i64 0]), (14, .tup [.agg [.int .u8 1, .str [119], .nils, .bool false], .int .i64 15, .int .i64 0]), (15, .tup [.agg [.int .u8 6, .str [44], .nils, .bool false], .int .i64 16, .int .i64 0]), (16, .tup [.agg [.int .u8 1, .str [109], .nils, .bool false], .int .i64 18, .int .i64 0]), (18, .tup [.agg [.int .u8 6, .str [91], .nils, .bool false], .int .i64 19, .int .i64 0]), (19, .tup [.agg [.int .u8 1, .str [119], .nils, .bool false], .int .i64 20, .int .i64 0]), (20, .tup [.agg [.int .u8 6, .str [93], .nils, .bool false], .int .i64 21, .int .i64 0]), (21, .tup [.agg [.int .u8 6, .str [125], .nils, .bool false], .int .i64 22, .int .i64 0]), (22, .tup [.agg [.int .u8 6, .str [61], .nils, .bool false], .int .i64 24, .int .i64 0]), (24, .tup [.agg [.int .u8 1, .str [97], .nils, .bool false], .int .i64 26, .int .i64 0]), (26, .tup [.agg [.int .u8 6, .str [59], .nils, .bool false], .int .i64 27, .int .i64 0]), (27, .tup [.agg [.int .u8 2, .str [100,101,102,97,117,108,116], .nils, .bool false], .int .i64 35, .int .i64 0]), (35, .tup [.agg [.int .u8 6, .str [58], .nils, .bool false], .int .i64 37, .int .i64 0]), (37, .tup [.agg [.int .u8 6, .str [64], .nils, .bool false], .int .i64 39, .int .i64 0]), (39, .tup [.agg [.int .u8 6, .str [40], .nils, .bool false], .int .i64 40, .int .i64 0]), (40, .tup [.agg [.int .u8 2, .str [112,111,115,101,100,103,101], .nils, .bool false], .int .i64 47, .int .i64 0]), (47, .tup [.agg [.int .u8 1, .str [119], .nils, .bool false], .int .i64 49, .int .i64 0]), (49, .tup [.agg [.int .u8 6, .str [41], .nils, .bool false], .int .i64 50, .int .i64 0]), (50, .tup [.agg [.int .u8 2, .str [114,101,112,101,97,116], .nils, .bool false], .int .i64 57, .int .i64 0]), (57, .tup [.agg [.int .u8 6, .str [40], .nils, .bool false], .int .i64 59, .int .i64 0]), (59, .tup [.agg [.int .u8 1, .str [119], .nils, .bool false], .int .i64 60, .int .i64 0]), (60, .tup [.agg [.int .u8 6, .str [41], .nils, .bool false], .int .i64 61, .int .i64 0]), (61, .tup [.agg [.int .u8 1, .str [103,111], .nils, .bool false], .int .i64 64, .int .i64 0]), (64, .tup [.agg [.int .u8 6, .str [40], .nils, .bool false], .int .i64 65, .int .i64 0]), (65, .tup [.agg [.int .u8 1, .str [119], .nils, .bool false], .int .i64 66, .int .i64 0]), (66, .tup [.agg [.int .u8 6, .str [41], .nils, .bool false], .int .i64 67, .int .i64 0]), (67, .tup [.agg [.int .u8 6, .str [59], .nils, .bool false], .int .i64 68, .int .i64 0]), (68, .tup [.agg [.int .u8 2, .str [101,110,100,99,97,115,101], .nils, .bool false], .int .i64 76, .int .i64 0])]
def lexT : List (List Nat × List (Nat × V)) := [(s0, t0), (s1, t1), (s2, t2), (s3, t3), (s4, t4), (s5, t5), (s6, t6), (s7, t7), (s8, t8), (s9, t9), (s10, t10), (s11, t11), (s12, t12), (s13, t13), (s14, t14), (s15, t15), (s16, t16), (s17, t17), (s18, t18), (s19, t19), (s20, t20), (s21, t21), (s22, t22), (s23, t23), (s24, t24), (s25, t25), (s26, t26), (s27, t27), (s28, t28), (s29, t29)]
set_option maxHeartbeats 400000000 in
theorem lex0 : chkLex Tryz.prog 124 s0 t0 = true := by kernel_rfl
set_option maxHeartbeats 400000000 in
theorem lex1 : chkLex Tryz.prog 124 s1 t1 = true := by kernel_rfl
set_option maxHeartbeats 400000000 in
theorem lex2 : chkLex Tryz.prog 124 s2 t2 = true := by kernel_rfl
set_option maxHeartbeats 400000000 in
theorem lex3 : chkLex Tryz.prog 124 s3 t3 = true := by kernel_rfl
set_option maxHeartbeats 400000000 in
theorem lex4 : chkLex Tryz.prog 124 s4 t4 = true := by kernel_rfl
set_option maxHeartbeats 400000000 in
theorem lex5 : chkLex Tryz.prog 124 s5 t5 = true := by kernel_rfl
set_option maxHeartbeats 400000000 in
theorem lex6 : chkLex Tryz.prog 124 s6 t6 = true := by kernel_rfl
set_option maxHeartbeats 400000000 in
theorem lex7 : chkLex Tryz.prog 124 s7 t7 = true := by kernel_rfl
set_option maxHeartbeats 400000000 in
theorem lex8 : chkLex Tryz.prog 124 s8 t8 = true := by kernel_rfl
set_option maxHeartbeats 400000000 in
theorem lex9 : chkLex Tryz.prog 124 s9 t9 = true := by kernel_rfl
set_option maxHeartbeats 400000000 in
theorem lex10 : chkLex Tryz.prog 124 s10 t10 = true := by kernel_rfl
set_option maxHeartbeats 400000000 in
theorem lex11 : chkLex Tryz.prog 124 s11 t11 = true := by kernel_rfl
set_option maxHeartbeats 400000000 in
theorem lex12 : chkLex Tryz.prog 124 s12 t12 = true := by kernel_rfl
set_option maxHeartbeats 400000000 in
theorem lex13 : chkLex Tryz.prog 124 s13 t13 = true := by kernel_rfl
set_option maxHeartbeats 400000000 in
theorem lex14 : chkLex Tryz.prog 124 s14 t14 = true := by kernel_rfl
set_option maxHeartbeats 400000000 in
theorem lex15 : chkLex Tryz.prog 124 s15 t15 = true := by kernel_rfl
set_option maxHeartbeats 400000000 in
theorem lex16 : chkLex Tryz.prog 124 s16 t16 = true := by kernel_rfl
set_option maxHeartbeats 400000000 in
theorem lex17 : chkLex Tryz.prog 124 s17 t17 = true := by kernel_rfl
set_option maxHeartbeats 400000000 in
theorem lex18 : chkLex Tryz.prog 124 s18 t18 = true := by kernel_rfl
set_option maxHeartbeats 400000000 in
theorem lex19 : chkLex Tryz.prog 124 s19 t19 = true := by kernel_rfl
set_option maxHeartbeats 400000000 in
theorem lex20 : chkLex Tryz.prog 124 s20 t20 = true := by kernel_rfl
set_option maxHeartbeats 400000000 in
theorem lex21 : chkLex Tryz.prog 124 s21 t21 = true := by kernel_rfl
set_option maxHeartbeats 400000000 in
theorem lex22 : chkLex Tryz.prog 124 s22 t22 = true := by kernel_rfl
set_option maxHeartbeats 400000000 in
theorem lex23 : chkLex Tryz.prog 124 s23 t23 = true := by kernel_rfl
set_option maxHeartbeats 400000000 in
theorem lex24 : chkLex Tryz.prog 124 s24 t24 = true := by kernel_rfl
set_option maxHeartbeats 400000000 in
theorem lex25 : chkLex Tryz.prog 124 s25 t25 = true := by kernel_rfl
set_option maxHeartbeats 400000000 in
theorem lex26 : chkLex Tryz.prog 124 s26 t26 = true := by kernel_rfl
set_option maxHeartbeats 400000000 in
theorem lex27 : chkLex Tryz.prog 124 s27 t27 = true := by kernel_rfl
set_option maxHeartbeats 400000000 in
theorem lex28 : chkLex Tryz.prog 124 s28 t28 = true := by kernel_rfl
set_option maxHeartbeats 400000000 in
theorem lex29 : chkLex Tryz.prog 124 s29 t29 = true := by kernel_rfl
theorem lexAll : ∀ e ∈ lexT, chkLex Tryz.prog 124 e.1 e.2 = true := by
  intro e he
  simp only [lexT, List.mem_cons, List.not_mem_nil, or_false] at he
  rcases he with rfl | rfl | rfl | rfl | rfl | rfl | rfl | rfl | rfl | rfl | rfl | rfl | rfl | rfl | rfl | rfl | rfl | rfl | rfl | rfl | rfl | rfl | rfl | rfl | rfl | rfl | rfl | rfl | rfl | rfl
  · exact lex0
  · exact lex1
  · exact lex2
  · exact lex3
  · exact lex4
  · exact lex5
  · exact lex6
  · exact lex7
  · exact lex8
  · exact lex9
  · exact lex10
  · exact lex11
  · exact lex12
  · exact lex13
  · exact lex14
  · exact lex15
  · exact lex16
  · exact lex17
  · exact lex18
  · exact lex19
  · exact lex20
  · exact lex21
  · exact lex22
  · exact lex23
  · exact lex24
  · exact lex25
  · exact lex26
  · exact lex27
  · exact lex28
  · exact lex29
theorem mix : Tryz.prog.follows .mixedOrders = true := by kernel_rfl
noncomputable def memo0 : Memo := fun f => @Bool.rec (fun _ => Option (List V → Option V)) none (some (lexG lexT)) (Nat.beq f 124)
theorem memo0_ok : MemoOK Tryz.prog memo0 := by
  intro f g key v h hk
  cases hb : Nat.beq f 124 with
  | false => simp only [memo0, hb] at h; cases h
  | true =>
    simp only [memo0, hb] at h
    injection h with h; subst h
    have : f = 124 := Nat.eq_of_beq_eq_true hb
    subst this
    exact lexG_ok mix lexAll hk
end Go.Proofs.YtjbgagafibhgcaaGreatDoor.Run
