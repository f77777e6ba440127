import Derived.Test.YtafnalbcjcppmaaGreatDoorProg
import Derived.Test.YtafnalbcjcppmaaGreatDoorVm4
import Derived.KernelRfl
set_option autoImplicit false
set_option maxRecDepth 100000
namespace Go.Proofs.YtafnalbcjcppmaaGreatDoor.Run
open Go Go.Vm

def g0 : List V := [.int .u8 0, .int .u8 1, .int .u8 2, .int .u8 2, .int .u8 1, .int .u8 1, .int .u8 1, .int .u8 1, .int .u8 2, .int .u8 1, .int .u8 2, .int .u8 2, .int .u8 2, .int .u8 1, .int .u8 2, .int .u8 2]
def g1 : List V := [.int .u8 1, .int .u8 0, .int .u8 2, .int .u8 2]
def g2 : List V := [.int .u8 0, .int .u8 0, .int .u8 0, .int .u8 0, .int .u8 0, .int .u8 1, .int .u8 2, .int .u8 2, .int .u8 0, .int .u8 2, .int .u8 2, .int .u8 2, .int .u8 0, .int .u8 2, .int .u8 2, .int .u8 2]
def g3 : List V := [.int .u8 0, .int .u8 1, .int .u8 2, .int .u8 2, .int .u8 1, .int .u8 0, .int .u8 2, .int .u8 2, .int .u8 2, .int .u8 2, .int .u8 2, .int .u8 2, .int .u8 2, .int .u8 2, .int .u8 2, .int .u8 2]
def glob : Nat → V
  | 0 => .ipt g0
  | 1 => .ipt g1
  | 2 => .ipt g2
  | 3 => .ipt g3
  | _ => .any
instance glI : Gl where
  gl := glob
  flat g := by
    match g with
    | 0 => exact .inr ⟨g0, rfl, rfl⟩
    | 1 => exact .inr ⟨g1, rfl, rfl⟩
    | 2 => exact .inr ⟨g2, rfl, rfl⟩
    | 3 => exact .inr ⟨g3, rfl, rfl⟩
    | _ + 4 => exact .inl rfl
def s0 : List Nat := [64,42,32,120,32,61,32,97,91,98,93,59]
def t0 : List (Nat × V) := [(0, .tup [.agg [.int .u8 6, .str [64], .nils, .bool false], .int .i64 1, .int .i64 0]), (1, .tup [.agg [.int .u8 6, .str [42], .nils, .bool false], .int .i64 2, .int .i64 0]), (2, .tup [.agg [.int .u8 1, .str [120], .nils, .bool false], .int .i64 4, .int .i64 0]), (4, .tup [.agg [.int .u8 6, .str [61], .nils, .bool false], .int .i64 6, .int .i64 0]), (6, .tup [.agg [.int .u8 1, .str [97], .nils, .bool false], .int .i64 8, .int .i64 0]), (8, .tup [.agg [.int .u8 6, .str [91], .nils, .bool false], .int .i64 9, .int .i64 0]), (9, .tup [.agg [.int .u8 1, .str [98], .nils, .bool false], .int .i64 10, .int .i64 0]), (10, .tup [.agg [.int .u8 6, .str [93], .nils, .bool false], .int .i64 11, .int .i64 0]), (11, .tup [.agg [.int .u8 6, .str [59], .nils, .bool false], .int .i64 12, .int .i64 0]), (12, .tup [.agg [.int .u8 0, .str [], .nils, .bool false], .int .i64 0, .int .i64 8])]
def s1 : List Nat := [98,101,103,105,110,32,97,32,61,32,49,59,32,105,102,32,40,98,41,32,99,32,61,32,48,59,32,101,110,100]
def t1 : List (Nat × V) := [(0, .tup [.agg [.int .u8 2, .str [98,101,103,105,110], .nils, .bool false], .int .i64 5, .int .i64 0]), (5, .tup [.agg [.int .u8 1, .str [97], .nils, .bool false], .int .i64 7, .int .i64 0]), (7, .tup [.agg [.int .u8 6, .str [61], .nils, .bool false], .int .i64 9, .int .i64 0]), (11, .tup [.agg [.int .u8 6, .str [59], .nils, .bool false], .int .i64 12, .int .i64 0]), (12, .tup [.agg [.int .u8 2, .str [105,102], .nils, .bool false], .int .i64 15, .int .i64 0]), (15, .tup [.agg [.int .u8 6, .str [40], .nils, .bool false], .int .i64 17, .int .i64 0]), (17, .tup [.agg [.int .u8 1, .str [98], .nils, .bool false], .int .i64 18, .int .i64 0]), (18, .tup [.agg [.int .u8 6, .str [41], .nils, .bool false], .int .i64 19, .int .i64 0]), (19, .tup [.agg [.int .u8 1, .str [99], .nils, .bool false], .int .i64 21, .int .i64 0]), (21, .tup [.agg [.int .u8 6, .str [61], .nils, .bool false], .int .i64 23, .int .i64 0]), (25, .tup [.agg [.int .u8 6, .str [59], .nils, .bool false], .int .i64 26, .int .i64 0]), (26, .tup [.agg [.int .u8 2, .str [101,110,100], .nils, .bool false], .int .i64 30, .int .i64 0]), (30, .tup [.agg [.int .u8 0, .str [], .nils, .bool false], .int .i64 0, .int .i64 8])]
def s2 : List Nat := [64,40,112,111,115,101,100,103,101,32,99,108,107,41,32,113,32,60,61,32,100,59]
def t2 : List (Nat × V) := [(0, .tup [.agg [.int .u8 6, .str [64], .nils, .bool false], .int .i64 1, .int .i64 0]), (1, .tup [.agg [.int .u8 6, .str [40], .nils, .bool false], .int .i64 2, .int .i64 0]), (2, .tup [.agg [.int .u8 2, .str [112,111,115,101,100,103,101], .nils, .bool false], .int .i64 9, .int .i64 0]), (9, .tup [.agg [.int .u8 1, .str [99,108,107], .nils, .bool false], .int .i64 13, .int .i64 0]), (13, .tup [.agg [.int .u8 6, .str [41], .nils, .bool false], .int .i64 14, .int .i64 0]), (14, .tup [.agg [.int .u8 1, .str [113], .nils, .bool false], .int .i64 16, .int .i64 0]), (16, .tup [.agg [.int .u8 6, .str [60,61], .nils, .bool false], .int .i64 19, .int .i64 0]), (19, .tup [.agg [.int .u8 1, .str [100], .nils, .bool false], .int .i64 21, .int .i64 0]), (21, .tup [.agg [.int .u8 6, .str [59], .nils, .bool false], .int .i64 22, .int .i64 0]), (22, .tup [.agg [.int .u8 0, .str [], .nils, .bool false], .int .i64 0, .int .i64 8])]
def s3 : List Nat := [114,101,112,101,97,116,32,40,51,41,32,35,49,32,97,32,61,32,126,97,59]
def t3 : List (Nat × V) := [(0, .tup [.agg [.int .u8 2, .str [114,101,112,101,97,116], .nils, .bool false], .int .i64 6, .int .i64 0]), (6, .tup [.agg [.int .u8 6, .str [40], .nils, .bool false], .int .i64 8, .int .i64 0]), (9, .tup [.agg [.int .u8 6, .str [41], .nils, .bool false], .int .i64 10, .int .i64 0]), (10, .tup [.agg [.int .u8 6, .str [35], .nils, .bool false], .int .i64 12, .int .i64 0]), (13, .tup [.agg [.int .u8 1, .str [97], .nils, .bool false], .int .i64 15, .int .i64 0]), (15, .tup [.agg [.int .u8 6, .str [61], .nils, .bool false], .int .i64 17, .int .i64 0]), (17, .tup [.agg [.int .u8 6, .str [126], .nils, .bool false], .int .i64 19, .int .i64 0]), (19, .tup [.agg [.int .u8 1, .str [97], .nils, .bool false], .int .i64 20, .int .i64 0]), (20, .tup [.agg [.int .u8 6, .str [59], .nils, .bool false], .int .i64 21, .int .i64 0]), (21, .tup [.agg [.int .u8 0, .str [], .nils, .bool false], .int .i64 0, .int .i64 8])]
def s4 : List Nat := [59]
def t4 : List (Nat × V) := [(0, .tup [.agg [.int .u8 6, .str [59], .nils, .bool false], .int .i64 1, .int .i64 0]), (1, .tup [.agg [.int .u8 0, .str [], .nils, .bool false], .int .i64 0, .int .i64 8])]
def s5 : List Nat := [98,101,103,105,110,32,101,110,100]
def t5 : List (Nat × V) := [(0, .tup [.agg [.int .u8 2, .str [98,101,103,105,110], .nils, .bool false], .int .i64 5, .int .i64 0]), (5, .tup [.agg [.int .u8 2, .str [101,110,100], .nils, .bool false], .int .i64 9, .int .i64 0]), (9, .tup [.agg [.int .u8 0, .str [], .nils, .bool false], .int .i64 0, .int .i64 8])]
def s6 : List Nat := [105,102,32,40,97,41,32,98,32,61,32,49,59,32,101,108,115,101,32,99,32,61,32,49,59]
def t6 : List (Nat × V) := [(0, .tup [.agg [.int .u8 2, .str [105,102], .nils, .bool false], .int .i64 2, .int .i64 0]), (2, .tup [.agg [.int .u8 6, .str [40], .nils, .bool false], .int .i64 4, .int .i64 0]), (4, .tup [.agg [.int .u8 1, .str [97], .nils, .bool false], .int .i64 5, .int .i64 0]), (5, .tup [.agg [.int .u8 6, .str [41], .nils, .bool false], .int .i64 6, .int .i64 0]), (6, .tup [.agg [.int .u8 1, .str [98], .nils, .bool false], .int .i64 8, .int .i64 0]), (8, .tup [.agg [.int .u8 6, .str [61], .nils, .bool false], .int .i64 10, .int .i64 0]), (12, .tup [.agg [.int .u8 6, .str [59], .nils, .bool false], .int .i64 13, .int .i64 0]), (13, .tup [.agg [.int .u8 2, .str [101,108,115,101], .nils, .bool false], .int .i64 18, .int .i64 0]), (18, .tup [.agg [.int .u8 1, .str [99], .nils, .bool false], .int .i64 20, .int .i64 0]), (20, .tup [.agg [.int .u8 6, .str [61], .nils, .bool false], .int .i64 22, .int .i64 0]), (24, .tup [.agg [.int .u8 6, .str [59], .nils, .bool false], .int .i64 25, .int .i64 0]), (25, .tup [.agg [.int .u8 0, .str [], .nils, .bool false], .int .i64 0, .int .i64 8])]
def s7 : List Nat := [97,32,61,32,35,50,32,98,59]
def t7 : List (Nat × V) := [(0, .tup [.agg [.int .u8 1, .str [97], .nils, .bool false], .int .i64 1, .int .i64 0]), (1, .tup [.agg [.int .u8 6, .str [61], .nils, .bool false], .int .i64 3, .int .i64 0]), (3, .tup [.agg [.int .u8 6, .str [35], .nils, .bool false], .int .i64 5, .int .i64 0]), (6, .tup [.agg [.int .u8 1, .str [98], .nils, .bool false], .int .i64 8, .int .i64 0]), (8, .tup [.agg [.int .u8 6, .str [59], .nils, .bool false], .int .i64 9, .int .i64 0]), (9, .tup [.agg [.int .u8 0, .str [], .nils, .bool false], .int .i64 0, .int .i64 8])]
def s8 : List Nat := [97,32,60,61,32,35,50,32,98,59]
def t8 : List (Nat × V) := [(0, .tup [.agg [.int .u8 1, .str [97], .nils, .bool false], .int .i64 1, .int .i64 0]), (1, .tup [.agg [.int .u8 6, .str [60,61], .nils, .bool false], .int .i64 4, .int .i64 0]), (4, .tup [.agg [.int .u8 6, .str [35], .nils, .bool false], .int .i64 6, .int .i64 0]), (7, .tup [.agg [.int .u8 1, .str [98], .nils, .bool false], .int .i64 9, .int .i64 0]), (9, .tup [.agg [.int .u8 6, .str [59], .nils, .bool false], .int .i64 10, .int .i64 0]), (10, .tup [.agg [.int .u8 0, .str [], .nils, .bool false], .int .i64 0, .int .i64 8])]
def s9 : List Nat := [102,111,114,32,40,97,32,61,32,48,59,32,97,32,60,32,51,59,32,97,32,61,32,97,32,43,32,49,41,32,59]
def t9 : List (Nat × V) := [(0, .tup [.agg [.int .u8 2, .str [102,111,114], .nils, .bool false], .int .i64 3, .int .i64 0]), (3, .tup [.agg [.int .u8 6, .str [40], .nils, .bool false], .int .i64 5, .int .i64 0]), (5, .tup [.agg [.int .u8 1, .str [97], .nils, .bool false], .int .i64 6, .int .i64 0]), (6, .tup [.agg [.int .u8 6, .str [61], .nils, .bool false], .int .i64 8, .int .i64 0]), (10, .tup [.agg [.int .u8 6, .str [59], .nils, .bool false], .int .i64 11, .int .i64 0]), (11, .tup [.agg [.int .u8 1, .str [97], .nils, .bool false], .int .i64 13, .int .i64 0]), (13, .tup [.agg [.int .u8 6, .str [60], .nils, .bool false], .int .i64 15, .int .i64 0]), (17, .tup [.agg [.int .u8 6, .str [59], .nils, .bool false], .int .i64 18, .int .i64 0]), (18, .tup [.agg [.int .u8 1, .str [97], .nils, .bool false], .int .i64 20, .int .i64 0]), (20, .tup [.agg [.int .u8 6, .str [61], .nils, .bool false], .int .i64 22, .int .i64 0]), (22, .tup [.agg [.int .u8 1, .str [97], .nils, .bool false], .int .i64 24, .int .i64 0]), (24, .tup [.agg [.int .u8 6, .str [43], .nils, .bool false], .int .i64 26, .int .i64 0]), (28, .tup [.agg [.int .u8 6, .str [41], .nils, .bool false], .int .i64 29, .int .i64 0]), (29, .tup [.agg [.int .u8 6, .str [59], .nils, .bool false], .int .i64 31, .int .i64 0]), (31, .tup [.agg [.int .u8 0, .str [], .nils, .bool false], .int .i64 0, .int .i64 8])]
def s10 : List Nat := [119,104,105,108,101,32,40,97,41,32,98,32,61,32,49,59]
def t10 : List (Nat × V) := [(0, .tup [.agg [.int .u8 2, .str [119,104,105,108,101], .nils, .bool false], .int .i64 5, .int .i64 0]), (5, .tup [.agg [.int .u8 6, .str [40], .nils, .bool false], .int .i64 7, .int .i64 0]), (7, .tup [.agg [.int .u8 1, .str [97], .nils, .bool false], .int .i64 8, .int .i64 0]), (8, .tup [.agg [.int .u8 6, .str [41], .nils, .bool false], .int .i64 9, .int .i64 0]), (9, .tup [.agg [.int .u8 1, .str [98], .nils, .bool false], .int .i64 11, .int .i64 0]), (11, .tup [.agg [.int .u8 6, .str [61], .nils, .bool false], .int .i64 13, .int .i64 0]), (15, .tup [.agg [.int .u8 6, .str [59], .nils, .bool false], .int .i64 16, .int .i64 0]), (16, .tup [.agg [.int .u8 0, .str [], .nils, .bool false], .int .i64 0, .int .i64 8])]
def s11 : List Nat := [102,111,114,101,118,101,114,32,35,49,32,97,32,61,32,98,59]
def t11 : List (Nat × V) := [(0, .tup [.agg [.int .u8 2, .str [102,111,114,101,118,101,114], .nils, .bool false], .int .i64 7, .int .i64 0]), (7, .tup [.agg [.int .u8 6, .str [35], .nils, .bool false], .int .i64 9, .int .i64 0]), (10, .tup [.agg [.int .u8 1, .str [97], .nils, .bool false], .int .i64 12, .int .i64 0]), (12, .tup [.agg [.int .u8 6, .str [61], .nils, .bool false], .int .i64 14, .int .i64 0]), (14, .tup [.agg [.int .u8 1, .str [98], .nils, .bool false], .int .i64 16, .int .i64 0]), (16, .tup [.agg [.int .u8 6, .str [59], .nils, .bool false], .int .i64 17, .int .i64 0]), (17, .tup [.agg [.int .u8 0, .str [], .nils, .bool false], .int .i64 0, .int .i64 8])]
def s12 : List Nat := [119,97,105,116,32,40,97,41,32,98,32,61,32,49,59]
def t12 : List (Nat × V) := [(0, .tup [.agg [.int .u8 2, .str [119,97,105,116], .nils, .bool false], .int .i64 4, .int .i64 0]), (4, .tup [.agg [.int .u8 6, .str [40], .nils, .bool false], .int .i64 6, .int .i64 0]), (6, .tup [.agg [.int .u8 1, .str [97], .nils, .bool false], .int .i64 7, .int .i64 0]), (7, .tup [.agg [.int .u8 6, .str [41], .nils, .bool false], .int .i64 8, .int .i64 0]), (8, .tup [.agg [.int .u8 1, .str [98], .nils, .bool false], .int .i64 10, .int .i64 0]), (10, .tup [.agg [.int .u8 6, .str [61], .nils, .bool false], .int .i64 12, .int .i64 0]), (14, .tup [.agg [.int .u8 6, .str [59], .nils, .bool false], .int .i64 15, .int .i64 0]), (15, .tup [.agg [.int .u8 0, .str [], .nils, .bool false], .int .i64 0, .int .i64 8])]
def s13 : List Nat := [98,101,103,105,110,32,36,100,105,115,112,108,97,121,40,34,120,34,41,59,32,36,102,105,110,105,115,104,59,32,101,110,100]
def t13 : List (Nat × V) := [(0, .tup [.agg [.int .u8 2, .str [98,101,103,105,110], .nils, .bool false], .int .i64 5, .int .i64 0]), (5, .tup [.agg [.int .u8 3, .str [36,100,105,115,112,108,97,121], .nils, .bool false], .int .i64 14, .int .i64 0]), (14, .tup [.agg [.int .u8 6, .str [40], .nils, .bool false], .int .i64 15, .int .i64 0]), (15, .tup [.agg [.int .u8 5, .str [120], .nils, .bool false], .int .i64 18, .int .i64 0]), (18, .tup [.agg [.int .u8 6, .str [41], .nils, .bool false], .int .i64 19, .int .i64 0]), (19, .tup [.agg [.int .u8 6, .str [59], .nils, .bool false], .int .i64 20, .int .i64 0]), (20, .tup [.agg [.int .u8 3, .str [36,102,105,110,105,115,104], .nils, .bool false], .int .i64 28, .int .i64 0]), (28, .tup [.agg [.int .u8 6, .str [59], .nils, .bool false], .int .i64 29, .int .i64 0]), (29, .tup [.agg [.int .u8 2, .str [101,110,100], .nils, .bool false], .int .i64 33, .int .i64 0]), (33, .tup [.agg [.int .u8 0, .str [], .nils, .bool false], .int .i64 0, .int .i64 8])]
def s14 : List Nat := [99,97,115,101,32,40,97,41,32,49,32,58,32,98,32,61,32,49,59,32,50,44,32,51,32,58,32,59,32,100,101,102,97,117,108,116,32,58,32,99,32,61,32,49,59,32,101,110,100,99,97,115,101]
def t14 : List (Nat × V) := [(0, .tup [.agg [.int .u8 2, .str [99,97,115,101], .nils, .bool false], .int .i64 4, .int .i64 0]), (4, .tup [.agg [.int .u8 6, .str [40], .nils, .bool false], .int .i64 6, .int .i64 0]), (6, .tup [.agg [.int .u8 1, .str [97], .nils, .bool false], .int .i64 7, .int .i64 0]), (7, .tup [.agg [.int .u8 6, .str [41], .nils, .bool false], .int .i64 8, .int .i64 0]), (10, .tup [.agg [.int .u8 6, .str [58], .nils, .bool false], .int .i64 12, .int .i64 0]), (12, .tup [.agg [.int .u8 1, .str [98], .nils, .bool false], .int .i64 14, .int .i64 0]), (14, .tup [.agg [.int .u8 6, .str [61], .nils, .bool false], .int .i64 16, .int .i64 0]), (18, .tup [.agg [.int .u8 6, .str [59], .nils, .bool false], .int .i64 19, .int .i64 0]), (21, .tup [.agg [.int .u8 6, .str [44], .nils, .bool false], .int .i64 22, .int .i64 0]), (24, .tup [.agg [.int .u8 6, .str [58], .nils, .bool false], .int .i64 26, .int .i64 0]), (26, .tup [.agg [.int .u8 6, .str [59], .nils, .bool false], .int .i64 28, .int .i64 0]), (28, .tup [.agg [.int .u8 2, .str [100,101,102,97,117,108,116], .nils, .bool false], .int .i64 36, .int .i64 0]), (36, .tup [.agg [.int .u8 6, .str [58], .nils, .bool false], .int .i64 38, .int .i64 0]), (38, .tup [.agg [.int .u8 1, .str [99], .nils, .bool false], .int .i64 40, .int .i64 0]), (40, .tup [.agg [.int .u8 6, .str [61], .nils, .bool false], .int .i64 42, .int .i64 0]), (44, .tup [.agg [.int .u8 6, .str [59], .nils, .bool false], .int .i64 45, .int .i64 0]), (45, .tup [.agg [.int .u8 2, .str [101,110,100,99,97,115,101], .nils, .bool false], .int .i64 53, .int .i64 0]), (53, .tup [.agg [.int .u8 0, .str [], .nils, .bool false], .int .i64 0, .int .i64 8])]
def s15 : List Nat := [98,101,103,105,110,32,97,32,61,32,35,49,32,98,59,32,114,101,112,101,97,116,32,40,50,41,32,99,97,115,101,122,32,40,97,41,32,49,32,58,32,59,32,101,110,100,99,97,115,101,32,101,110,100]
def t15 : List (Nat × V) := [(0, .tup [.agg [.int .u8 2, .str [98,101,103,105,110], .nils, .bool false], .int .i64 5, .int .i64 0]), (5, .tup [.agg [.int .u8 1, .str [97], .nils, .bool false], .int .i64 7, .int .i64 0]), (7, .tup [.agg [.int .u8 6, .str [61], .nils, .bool false], .int .i64 9, .int .i64 0]), (9, .tup [.agg [.int .u8 6, .str [35], .nils, .bool false], .int .i64 11, .int .i64 0]), (12, .tup [.agg [.int .u8 1, .str [98], .nils, .bool false], .int .i64 14, .int .i64 0]), (14, .tup [.agg [.int .u8 6, .str [59], .nils, .bool false], .int .i64 15, .int .i64 0]), (15, .tup [.agg [.int .u8 2, .str [114,101,112,101,97,116], .nils, .bool false], .int .i64 22, .int .i64 0]), (22, .tup [.agg [.int .u8 6, .str [40], .nils, .bool false], .int .i64 24, .int .i64 0]), (25, .tup [.agg [.int .u8 6, .str [41], .nils, .bool false], .int .i64 26, .int .i64 0]), (26, .tup [.agg [.int .u8 2, .str [99,97,115,101,122], .nils, .bool false], .int .i64 32, .int .i64 0]), (32, .tup [.agg [.int .u8 6, .str [40], .nils, .bool false], .int .i64 34, .int .i64 0]), (34, .tup [.agg [.int .u8 1, .str [97], .nils, .bool false], .int .i64 35, .int .i64 0]), (35, .tup [.agg [.int .u8 6, .str [41], .nils, .bool false], .int .i64 36, .int .i64 0]), (38, .tup [.agg [.int .u8 6, .str [58], .nils, .bool false], .int .i64 40, .int .i64 0]), (40, .tup [.agg [.int .u8 6, .str [59], .nils, .bool false], .int .i64 42, .int .i64 0]), (42, .tup [.agg [.int .u8 2, .str [101,110,100,99,97,115,101], .nils, .bool false], .int .i64 50, .int .i64 0]), (50, .tup [.agg [.int .u8 2, .str [101,110,100], .nils, .bool false], .int .i64 54, .int .i64 0]), (54, .tup [.agg [.int .u8 0, .str [], .nils, .bool false], .int .i64 0, .int .i64 8])]
def s16 : List Nat := [105,102,32,40,97,41,32,98,32,61,32,49,59]
def t16 : List (Nat × V) := [(0, .tup [.agg [.int .u8 2, .str [105,102], .nils, .bool false], .int .i64 2, .int .i64 0]), (2, .tup [.agg [.int .u8 6, .str [40], .nils, .bool false], .int .i64 4, .int .i64 0]), (4, .tup [.agg [.int .u8 1, .str [97], .nils, .bool false], .int .i64 5, .int .i64 0]), (5, .tup [.agg [.int .u8 6, .str [41], .nils, .bool false], .int .i64 6, .int .i64 0]), (6, .tup [.agg [.int .u8 1, .str [98], .nils, .bool false], .int .i64 8, .int .i64 0]), (8, .tup [.agg [.int .u8 6, .str [61], .nils, .bool false], .int .i64 10, .int .i64 0]), (12, .tup [.agg [.int .u8 6, .str [59], .nils, .bool false], .int .i64 13, .int .i64 0]), (13, .tup [.agg [.int .u8 0, .str [], .nils, .bool false], .int .i64 0, .int .i64 8])]
def s17 : List Nat := [119,97,105,116,32,40,97,41,32,59]
def t17 : List (Nat × V) := [(0, .tup [.agg [.int .u8 2, .str [119,97,105,116], .nils, .bool false], .int .i64 4, .int .i64 0]), (4, .tup [.agg [.int .u8 6, .str [40], .nils, .bool false], .int .i64 6, .int .i64 0]), (6, .tup [.agg [.int .u8 1, .str [97], .nils, .bool false], .int .i64 7, .int .i64 0]), (7, .tup [.agg [.int .u8 6, .str [41], .nils, .bool false], .int .i64 8, .int .i64 0]), (8, .tup [.agg [.int .u8 6, .str [59], .nils, .bool false], .int .i64 10, .int .i64 0]), (10, .tup [.agg [.int .u8 0, .str [], .nils, .bool false], .int .i64 0, .int .i64 8])]
def s18 : List Nat := [114,101,112,101,97,116,32,40,50,41,32,59]
def t18 : List (Nat × V) := [(0, .tup [.agg [.int .u8 2, .str [114,101,112,101,97,116], .nils, .bool false], .int .i64 6, .int .i64 0]), (6, .tup [.agg [.int .u8 6, .str [40], .nils, .bool false], .int .i64 8, .int .i64 0]), (9, .tup [.agg [.int .u8 6, .str [41], .nils, .bool false], .int .i64 10, .int .i64 0]), (10, .tup [.agg [.int .u8 6, .str [59], .nils, .bool false], .int .i64 12, .int .i64 0]), (12, .tup [.agg [.int .u8 0, .str [], .nils, .bool false], .int .i64 0, .int .i64 8])]
def s19 : List Nat := [64,40,110,101,103,101,100,103,101,32,99,108,107,32,111,114,32,97,41,32,59]
def t19 : List (Nat × V) := [(0, .tup [.agg [.int .u8 6, .str [64], .nils, .bool false], .int .i64 1, .int .i64 0]), (1, .tup [.agg [.int .u8 6, .str [40], .nils, .bool false], .int .i64 2, .int .i64 0]), (2, .tup [.agg [.int .u8 2, .str [110,101,103,101,100,103,101], .nils, .bool false], .int .i64 9, .int .i64 0]), (9, .tup [.agg [.int .u8 1, .str [99,108,107], .nils, .bool false], .int .i64 13, .int .i64 0]), (13, .tup [.agg [.int .u8 2, .str [111,114], .nils, .bool false], .int .i64 16, .int .i64 0]), (16, .tup [.agg [.int .u8 1, .str [97], .nils, .bool false], .int .i64 18, .int .i64 0]), (18, .tup [.agg [.int .u8 6, .str [41], .nils, .bool false], .int .i64 19, .int .i64 0]), (19, .tup [.agg [.int .u8 6, .str [59], .nils, .bool false], .int .i64 21, .int .i64 0]), (21, .tup [.agg [.int .u8 0, .str [], .nils, .bool false], .int .i64 0, .int .i64 8])]
def lexT : List (List Nat × List (Nat × V)) := [(s0, t0), (s1, t1), (s2, t2), (s3, t3), (s4, t4), (s5, t5), (s6, t6), (s7, t7), (s8, t8), (s9, t9), (s10, t10), (s11, t11), (s12, t12), (s13, t13), (s14, t14), (s15, t15), (s16, t16), (s17, t17), (s18, t18), (s19, t19)]
set_option maxHeartbeats 400000000 in
theorem lex0 : chkLex Tryz.prog 140 s0 t0 = true := by kernel_rfl
set_option maxHeartbeats 400000000 in
theorem lex1 : chkLex Tryz.prog 140 s1 t1 = true := by kernel_rfl
set_option maxHeartbeats 400000000 in
theorem lex2 : chkLex Tryz.prog 140 s2 t2 = true := by kernel_rfl
set_option maxHeartbeats 400000000 in
theorem lex3 : chkLex Tryz.prog 140 s3 t3 = true := by kernel_rfl
set_option maxHeartbeats 400000000 in
theorem lex4 : chkLex Tryz.prog 140 s4 t4 = true := by kernel_rfl
set_option maxHeartbeats 400000000 in
theorem lex5 : chkLex Tryz.prog 140 s5 t5 = true := by kernel_rfl
set_option maxHeartbeats 400000000 in
theorem lex6 : chkLex Tryz.prog 140 s6 t6 = true := by kernel_rfl
set_option maxHeartbeats 400000000 in
theorem lex7 : chkLex Tryz.prog 140 s7 t7 = true := by kernel_rfl
set_option maxHeartbeats 400000000 in
theorem lex8 : chkLex Tryz.prog 140 s8 t8 = true := by kernel_rfl
set_option maxHeartbeats 400000000 in
theorem lex9 : chkLex Tryz.prog 140 s9 t9 = true := by kernel_rfl
set_option maxHeartbeats 400000000 in
theorem lex10 : chkLex Tryz.prog 140 s10 t10 = true := by kernel_rfl
set_option maxHeartbeats 400000000 in
theorem lex11 : chkLex Tryz.prog 140 s11 t11 = true := by kernel_rfl
set_option maxHeartbeats 400000000 in
theorem lex12 : chkLex Tryz.prog 140 s12 t12 = true := by kernel_rfl
set_option maxHeartbeats 400000000 in
theorem lex13 : chkLex Tryz.prog 140 s13 t13 = true := by kernel_rfl
set_option maxHeartbeats 400000000 in
theorem lex14 : chkLex Tryz.prog 140 s14 t14 = true := by kernel_rfl
set_option maxHeartbeats 400000000 in
theorem lex15 : chkLex Tryz.prog 140 s15 t15 = true := by kernel_rfl
set_option maxHeartbeats 400000000 in
theorem lex16 : chkLex Tryz.prog 140 s16 t16 = true := by kernel_rfl
set_option maxHeartbeats 400000000 in
theorem lex17 : chkLex Tryz.prog 140 s17 t17 = true := by kernel_rfl
set_option maxHeartbeats 400000000 in
theorem lex18 : chkLex Tryz.prog 140 s18 t18 = true := by kernel_rfl
set_option maxHeartbeats 400000000 in
theorem lex19 : chkLex Tryz.prog 140 s19 t19 = true := by kernel_rfl
theorem lexAll : ∀ e ∈ lexT, chkLex Tryz.prog 140 e.1 e.2 = true := by
  intro e he
  simp only [lexT, List.mem_cons, List.not_mem_nil, or_false] at he
  rcases he with rfl | rfl | rfl | rfl | rfl | rfl | rfl | rfl | rfl | rfl | rfl | rfl | rfl | rfl | rfl | rfl | rfl | rfl | rfl | rfl
  · exact lex0
  · exact lex1
  · exact lex2
  · exact lex3
  · exact lex4
  · exact lex5
  · exact lex6
  · exact lex7
  · exact lex8
  · exact lex9
  · exact lex10
  · exact lex11
  · exact lex12
  · exact lex13
  · exact lex14
  · exact lex15
  · exact lex16
  · exact lex17
  · exact lex18
  · exact lex19
theorem mix : Tryz.prog.follows .mixedOrders = true := by kernel_rfl
noncomputable def memo1 : Memo := fun f => @Bool.rec (fun _ => Option (List V → Option V)) none (some (lexG lexT)) (Nat.beq f 140)
theorem memo1_ok : MemoOK Tryz.prog memo1 := by
  intro f g key v h hk
  cases hb : Nat.beq f 140 with
  | false => simp only [memo1, hb] at h; cases h
  | true =>
    simp only [memo1, hb] at h
    injection h with h; subst h
    have : f = 140 := Nat.eq_of_beq_eq_true hb
    subst this
    exact lexG_ok mix lexAll hk
end Go.Proofs.YtafnalbcjcppmaaGreatDoor.Run
