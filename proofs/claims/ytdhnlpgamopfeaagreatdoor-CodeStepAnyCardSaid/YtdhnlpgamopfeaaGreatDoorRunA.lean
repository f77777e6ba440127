/- Known answers of the lexer: no statement of its own. -/
import Derived.Test.YtdhnlpgamopfeaaGreatDoorProg
import Derived.Test.YtdhnlpgamopfeaaGreatDoorVm5
import Derived.KernelRfl
set_option autoImplicit false
set_option maxRecDepth 100000
set_option linter.unusedVariables false
namespace Go.Proofs.YtdhnlpgamopfeaaGreatDoor.Run
open Go Go.Vm

def g0 : List V := [.int .u8 0, .int .u8 1, .int .u8 2, .int .u8 2, .int .u8 1, .int .u8 1, .int .u8 1, .int .u8 1, .int .u8 2, .int .u8 1, .int .u8 2, .int .u8 2, .int .u8 2, .int .u8 1, .int .u8 2, .int .u8 2]
def g1 : List V := [.int .u8 1, .int .u8 0, .int .u8 2, .int .u8 2]
def g2 : List V := [.int .u8 0, .int .u8 0, .int .u8 0, .int .u8 0, .int .u8 0, .int .u8 1, .int .u8 2, .int .u8 2, .int .u8 0, .int .u8 2, .int .u8 2, .int .u8 2, .int .u8 0, .int .u8 2, .int .u8 2, .int .u8 2]
def g3 : List V := [.int .u8 0, .int .u8 1, .int .u8 2, .int .u8 2, .int .u8 1, .int .u8 0, .int .u8 2, .int .u8 2, .int .u8 2, .int .u8 2, .int .u8 2, .int .u8 2, .int .u8 2, .int .u8 2, .int .u8 2, .int .u8 2]
def glob : Nat → V
  | 0 => .ipt g0
  | 1 => .ipt g1
  | 2 => .ipt g2
  | 3 => .ipt g3
  | _ => .any
instance glI : Gl where
  gl := glob
  flat g := by
    match g with
    | 0 => exact .inr ⟨g0, rfl, rfl⟩
    | 1 => exact .inr ⟨g1, rfl, rfl⟩
    | 2 => exact .inr ⟨g2, rfl, rfl⟩
    | 3 => exact .inr ⟨g3, rfl, rfl⟩
    | _ + 4 => exact .inl rfl
def s0 : List Nat := [64,42,32,120,32,61,32,97,91,98,93,59]
def t0 : List (Nat × V) := [(0, .tup [.agg [.int .u8 6, .str [64], .nils, .bool false], .int .i64 1, .int .i64 0]), (1, .tup [.agg [.int .u8 6, .str [42], .nils, .bool false], .int .i64 2, .int .i64 0]), (2, .tup [.agg [.int .u8 1, .str [120], .nils, .bool false], .int .i64 4, .int .i64 0]), (4, .tup [.agg [.int .u8 6, .str [61], .nils, .bool false], .int .i64 6, .int .i64 0]), (6, .tup [.agg [.int .u8 1, .str [97], .nils, .bool false], .int .i64 8, .int .i64 0]), (8, .tup [.agg [.int .u8 6, .str [91], .nils, .bool false], .int .i64 9, .int .i64 0]), (9, .tup [.agg [.int .u8 1, .str [98], .nils, .bool false], .int .i64 10, .int .i64 0]), (10, .tup [.agg [.int .u8 6, .str [93], .nils, .bool false], .int .i64 11, .int .i64 0]), (11, .tup [.agg [.int .u8 6, .str [59], .nils, .bool false], .int .i64 12, .int .i64 0])]
def s1 : List Nat := [98,101,103,105,110,32,97,32,61,32,49,59,32,105,102,32,40,98,41,32,99,32,61,32,48,59,32,101,110,100]
def t1 : List (Nat × V) := [(0, .tup [.agg [.int .u8 2, .str [98,101,103,105,110], .nils, .bool false], .int .i64 5, .int .i64 0]), (5, .tup [.agg [.int .u8 1, .str [97], .nils, .bool false], .int .i64 7, .int .i64 0]), (7, .tup [.agg [.int .u8 6, .str [61], .nils, .bool false], .int .i64 9, .int .i64 0]), (9, .tup [.agg [.int .u8 4, .str [], .imm 1 [.agg [.int .u8 1], .agg [.int .u8 0], .agg [.int .u8 0], .agg [.int .u8 0], .agg [.int .u8 0], .agg [.int .u8 0], .agg [.int .u8 0], .agg [.int .u8 0], .agg [.int .u8 0], .agg [.int .u8 0], .agg [.int .u8 0], .agg [.int .u8 0], .agg [.int .u8 0], .agg [.int .u8 0], .agg [.int .u8 0], .agg [.int .u8 0], .agg [.int .u8 0], .agg [.int .u8 0], .agg [.int .u8 0], .agg [.int .u8 0], .agg [.int .u8 0], .agg [.int .u8 0], .agg [.int .u8 0], .agg [.int .u8 0], .agg [.int .u8 0], .agg [.int .u8 0], .agg [.int .u8 0], .agg [.int .u8 0], .agg [.int .u8 0], .agg [.int .u8 0], .agg [.int .u8 0], .agg [.int .u8 0]], .bool true], .int .i64 11, .int .i64 0]), (11, .tup [.agg [.int .u8 6, .str [59], .nils, .bool false], .int .i64 12, .int .i64 0]), (12, .tup [.agg [.int .u8 2, .str [105,102], .nils, .bool false], .int .i64 15, .int .i64 0]), (15, .tup [.agg [.int .u8 6, .str [40], .nils, .bool false], .int .i64 17, .int .i64 0]), (17, .tup [.agg [.int .u8 1, .str [98], .nils, .bool false], .int .i64 18, .int .i64 0]), (18, .tup [.agg [.int .u8 6, .str [41], .nils, .bool false], .int .i64 19, .int .i64 0]), (19, .tup [.agg [.int .u8 1, .str [99], .nils, .bool false], .int .i64 21, .int .i64 0]), (21, .tup [.agg [.int .u8 6, .str [61], .nils, .bool false], .int .i64 23, .int .i64 0]), (23, .tup [.agg [.int .u8 4, .str [], .imm 1 [.agg [.int .u8 0], .agg [.int .u8 0], .agg [.int .u8 0], .agg [.int .u8 0], .agg [.int .u8 0], .agg [.int .u8 0], .agg [.int .u8 0], .agg [.int .u8 0], .agg [.int .u8 0], .agg [.int .u8 0], .agg [.int .u8 0], .agg [.int .u8 0], .agg [.int .u8 0], .agg [.int .u8 0], .agg [.int .u8 0], .agg [.int .u8 0], .agg [.int .u8 0], .agg [.int .u8 0], .agg [.int .u8 0], .agg [.int .u8 0], .agg [.int .u8 0], .agg [.int .u8 0], .agg [.int .u8 0], .agg [.int .u8 0], .agg [.int .u8 0], .agg [.int .u8 0], .agg [.int .u8 0], .agg [.int .u8 0], .agg [.int .u8 0], .agg [.int .u8 0], .agg [.int .u8 0], .agg [.int .u8 0]], .bool true], .int .i64 25, .int .i64 0]), (25, .tup [.agg [.int .u8 6, .str [59], .nils, .bool false], .int .i64 26, .int .i64 0]), (26, .tup [.agg [.int .u8 2, .str [101,110,100], .nils, .bool false], .int .i64 30, .int .i64 0])]
def s2 : List Nat := [64,40,112,111,115,101,100,103,101,32,99,108,107,41,32,113,32,60,61,32,100,59]
def t2 : List (Nat × V) := [(0, .tup [.agg [.int .u8 6, .str [64], .nils, .bool false], .int .i64 1, .int .i64 0]), (1, .tup [.agg [.int .u8 6, .str [40], .nils, .bool false], .int .i64 2, .int .i64 0]), (2, .tup [.agg [.int .u8 2, .str [112,111,115,101,100,103,101], .nils, .bool false], .int .i64 9, .int .i64 0]), (9, .tup [.agg [.int .u8 1, .str [99,108,107], .nils, .bool false], .int .i64 13, .int .i64 0]), (13, .tup [.agg [.int .u8 6, .str [41], .nils, .bool false], .int .i64 14, .int .i64 0]), (14, .tup [.agg [.int .u8 1, .str [113], .nils, .bool false], .int .i64 16, .int .i64 0]), (16, .tup [.agg [.int .u8 6, .str [60,61], .nils, .bool false], .int .i64 19, .int .i64 0]), (19, .tup [.agg [.int .u8 1, .str [100], .nils, .bool false], .int .i64 21, .int .i64 0]), (21, .tup [.agg [.int .u8 6, .str [59], .nils, .bool false], .int .i64 22, .int .i64 0])]
def s3 : List Nat := [114,101,112,101,97,116,32,40,51,41,32,35,49,32,97,32,61,32,126,97,59]
def t3 : List (Nat × V) := [(0, .tup [.agg [.int .u8 2, .str [114,101,112,101,97,116], .nils, .bool false], .int .i64 6, .int .i64 0]), (6, .tup [.agg [.int .u8 6, .str [40], .nils, .bool false], .int .i64 8, .int .i64 0]), (8, .tup [.agg [.int .u8 4, .str [], .imm 1 [.agg [.int .u8 1], .agg [.int .u8 1], .agg [.int .u8 0], .agg [.int .u8 0], .agg [.int .u8 0], .agg [.int .u8 0], .agg [.int .u8 0], .agg [.int .u8 0], .agg [.int .u8 0], .agg [.int .u8 0], .agg [.int .u8 0], .agg [.int .u8 0], .agg [.int .u8 0], .agg [.int .u8 0], .agg [.int .u8 0], .agg [.int .u8 0], .agg [.int .u8 0], .agg [.int .u8 0], .agg [.int .u8 0], .agg [.int .u8 0], .agg [.int .u8 0], .agg [.int .u8 0], .agg [.int .u8 0], .agg [.int .u8 0], .agg [.int .u8 0], .agg [.int .u8 0], .agg [.int .u8 0], .agg [.int .u8 0], .agg [.int .u8 0], .agg [.int .u8 0], .agg [.int .u8 0], .agg [.int .u8 0]], .bool true], .int .i64 9, .int .i64 0]), (9, .tup [.agg [.int .u8 6, .str [41], .nils, .bool false], .int .i64 10, .int .i64 0]), (10, .tup [.agg [.int .u8 6, .str [35], .nils, .bool false], .int .i64 12, .int .i64 0]), (12, .tup [.agg [.int .u8 4, .str [], .imm 1 [.agg [.int .u8 1], .agg [.int .u8 0], .agg [.int .u8 0], .agg [.int .u8 0], .agg [.int .u8 0], .agg [.int .u8 0], .agg [.int .u8 0], .agg [.int .u8 0], .agg [.int .u8 0], .agg [.int .u8 0], .agg [.int .u8 0], .agg [.int .u8 0], .agg [.int .u8 0], .agg [.int .u8 0], .agg [.int .u8 0], .agg [.int .u8 0], .agg [.int .u8 0], .agg [.int .u8 0], .agg [.int .u8 0], .agg [.int .u8 0], .agg [.int .u8 0], .agg [.int .u8 0], .agg [.int .u8 0], .agg [.int .u8 0], .agg [.int .u8 0], .agg [.int .u8 0], .agg [.int .u8 0], .agg [.int .u8 0], .agg [.int .u8 0], .agg [.int .u8 0], .agg [.int .u8 0], .agg [.int .u8 0]], .bool true], .int .i64 13, .int .i64 0]), (13, .tup [.agg [.int .u8 1, .str [97], .nils, .bool false], .int .i64 15, .int .i64 0]), (15, .tup [.agg [.int .u8 6, .str [61], .nils, .bool false], .int .i64 17, .int .i64 0]), (17, .tup [.agg [.int .u8 6, .str [126], .nils, .bool false], .int .i64 19, .int .i64 0]), (19, .tup [.agg [.int .u8 1, .str [97], .nils, .bool false], .int .i64 20, .int .i64 0]), (20, .tup [.agg [.int .u8 6, .str [59], .nils, .bool false], .int .i64 21, .int .i64 0])]
def lexT : List (List Nat × List (Nat × V)) := [(s0, t0), (s1, t1), (s2, t2), (s3, t3)]
set_option maxHeartbeats 400000000 in
theorem lex0 : chkLex Tryz.prog 176 s0 t0 = true := by kernel_rfl
set_option maxHeartbeats 400000000 in
theorem lex1 : chkLex Tryz.prog 176 s1 t1 = true := by kernel_rfl
set_option maxHeartbeats 400000000 in
theorem lex2 : chkLex Tryz.prog 176 s2 t2 = true := by kernel_rfl
set_option maxHeartbeats 400000000 in
theorem lex3 : chkLex Tryz.prog 176 s3 t3 = true := by kernel_rfl
theorem lexAll : ∀ e ∈ lexT, chkLex Tryz.prog 176 e.1 e.2 = true := by
  intro e he
  simp only [lexT, List.mem_cons, List.not_mem_nil, or_false] at he
  rcases he with rfl | rfl | rfl | rfl
  · exact lex0
  · exact lex1
  · exact lex2
  · exact lex3
theorem mix : Tryz.prog.follows .mixedOrders = true := by kernel_rfl
noncomputable def memo0 : Memo := fun f => @Bool.rec (fun _ => Option (List V → Option V)) none (some (lexG lexT)) (Nat.beq f 176)
theorem memo0_ok : MemoOK Tryz.prog memo0 := by
  intro f g key v h hk
  cases hb : Nat.beq f 176 with
  | false => simp only [memo0, hb] at h; cases h
  | true =>
    simp only [memo0, hb] at h
    injection h with h; subst h
    have : f = 176 := Nat.eq_of_beq_eq_true hb
    subst this
    exact lexG_ok mix lexAll hk
end Go.Proofs.YtdhnlpgamopfeaaGreatDoor.Run
