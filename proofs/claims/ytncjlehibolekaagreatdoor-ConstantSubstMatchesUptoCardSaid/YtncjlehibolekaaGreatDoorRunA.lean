/- Known answers of the lexer: no statement of its own. -/
import Derived.Test.YtncjlehibolekaaGreatDoorProg
import Derived.Test.YtncjlehibolekaaGreatDoorVm5
import Derived.KernelRfl
set_option autoImplicit false
set_option maxRecDepth 100000
set_option linter.unusedVariables false
namespace Go.Proofs.YtncjlehibolekaaGreatDoor.Run
open Go Go.Vm

def g0 : List V := [.int .u8 0, .int .u8 1, .int .u8 2, .int .u8 2, .int .u8 1, .int .u8 1, .int .u8 1, .int .u8 1, .int .u8 2, .int .u8 1, .int .u8 2, .int .u8 2, .int .u8 2, .int .u8 1, .int .u8 2, .int .u8 2]
def g1 : List V := [.int .u8 1, .int .u8 0, .int .u8 2, .int .u8 2]
def g2 : List V := [.int .u8 0, .int .u8 0, .int .u8 0, .int .u8 0, .int .u8 0, .int .u8 1, .int .u8 2, .int .u8 2, .int .u8 0, .int .u8 2, .int .u8 2, .int .u8 2, .int .u8 0, .int .u8 2, .int .u8 2, .int .u8 2]
def g3 : List V := [.int .u8 0, .int .u8 1, .int .u8 2, .int .u8 2, .int .u8 1, .int .u8 0, .int .u8 2, .int .u8 2, .int .u8 2, .int .u8 2, .int .u8 2, .int .u8 2, .int .u8 2, .int .u8 2, .int .u8 2, .int .u8 2]
def glob : Nat → V
  | 0 => .ipt g0
  | 1 => .ipt g1
  | 2 => .ipt g2
  | 3 => .ipt g3
  | _ => .any
instance glI : Gl where
  gl := glob
  flat g := by
    match g with
    | 0 => exact .inr ⟨g0, rfl, rfl⟩
    | 1 => exact .inr ⟨g1, rfl, rfl⟩
    | 2 => exact .inr ⟨g2, rfl, rfl⟩
    | 3 => exact .inr ⟨g3, rfl, rfl⟩
    | _ + 4 => exact .inl rfl
def s0 : List Nat := [119,32,42,32,50,32,43,32,49]
def t0 : List (Nat × V) := [(0, .tup [.agg [.int .u8 1, .str [119], .nils, .bool false], .int .i64 1, .int .i64 0]), (1, .tup [.agg [.int .u8 6, .str [42], .nils, .bool false], .int .i64 3, .int .i64 0]), (3, .tup [.agg [.int .u8 4, .str [], .imm 1 [.agg [.int .u8 0], .agg [.int .u8 1], .agg [.int .u8 0], .agg [.int .u8 0], .agg [.int .u8 0], .agg [.int .u8 0], .agg [.int .u8 0], .agg [.int .u8 0], .agg [.int .u8 0], .agg [.int .u8 0], .agg [.int .u8 0], .agg [.int .u8 0], .agg [.int .u8 0], .agg [.int .u8 0], .agg [.int .u8 0], .agg [.int .u8 0], .agg [.int .u8 0], .agg [.int .u8 0], .agg [.int .u8 0], .agg [.int .u8 0], .agg [.int .u8 0], .agg [.int .u8 0], .agg [.int .u8 0], .agg [.int .u8 0], .agg [.int .u8 0], .agg [.int .u8 0], .agg [.int .u8 0], .agg [.int .u8 0], .agg [.int .u8 0], .agg [.int .u8 0], .agg [.int .u8 0], .agg [.int .u8 0]], .bool true], .int .i64 5, .int .i64 0]), (5, .tup [.agg [.int .u8 6, .str [43], .nils, .bool false], .int .i64 7, .int .i64 0]), (7, .tup [.agg [.int .u8 4, .str [], .imm 1 [.agg [.int .u8 1], .agg [.int .u8 0], .agg [.int .u8 0], .agg [.int .u8 0], .agg [.int .u8 0], .agg [.int .u8 0], .agg [.int .u8 0], .agg [.int .u8 0], .agg [.int .u8 0], .agg [.int .u8 0], .agg [.int .u8 0], .agg [.int .u8 0], .agg [.int .u8 0], .agg [.int .u8 0], .agg [.int .u8 0], .agg [.int .u8 0], .agg [.int .u8 0], .agg [.int .u8 0], .agg [.int .u8 0], .agg [.int .u8 0], .agg [.int .u8 0], .agg [.int .u8 0], .agg [.int .u8 0], .agg [.int .u8 0], .agg [.int .u8 0], .agg [.int .u8 0], .agg [.int .u8 0], .agg [.int .u8 0], .agg [.int .u8 0], .agg [.int .u8 0], .agg [.int .u8 0], .agg [.int .u8 0]], .bool true], .int .i64 9, .int .i64 0]), (9, .tup [.agg [.int .u8 0, .str [], .nils, .bool false], .int .i64 0, .int .i64 8])]
def s1 : List Nat := [97,91,119,32,45,32,49,93,32,43,32,119]
def t1 : List (Nat × V) := [(0, .tup [.agg [.int .u8 1, .str [97], .nils, .bool false], .int .i64 1, .int .i64 0]), (1, .tup [.agg [.int .u8 6, .str [91], .nils, .bool false], .int .i64 2, .int .i64 0]), (2, .tup [.agg [.int .u8 1, .str [119], .nils, .bool false], .int .i64 3, .int .i64 0]), (3, .tup [.agg [.int .u8 6, .str [45], .nils, .bool false], .int .i64 5, .int .i64 0]), (5, .tup [.agg [.int .u8 4, .str [], .imm 1 [.agg [.int .u8 1], .agg [.int .u8 0], .agg [.int .u8 0], .agg [.int .u8 0], .agg [.int .u8 0], .agg [.int .u8 0], .agg [.int .u8 0], .agg [.int .u8 0], .agg [.int .u8 0], .agg [.int .u8 0], .agg [.int .u8 0], .agg [.int .u8 0], .agg [.int .u8 0], .agg [.int .u8 0], .agg [.int .u8 0], .agg [.int .u8 0], .agg [.int .u8 0], .agg [.int .u8 0], .agg [.int .u8 0], .agg [.int .u8 0], .agg [.int .u8 0], .agg [.int .u8 0], .agg [.int .u8 0], .agg [.int .u8 0], .agg [.int .u8 0], .agg [.int .u8 0], .agg [.int .u8 0], .agg [.int .u8 0], .agg [.int .u8 0], .agg [.int .u8 0], .agg [.int .u8 0], .agg [.int .u8 0]], .bool true], .int .i64 7, .int .i64 0]), (7, .tup [.agg [.int .u8 6, .str [93], .nils, .bool false], .int .i64 8, .int .i64 0]), (8, .tup [.agg [.int .u8 6, .str [43], .nils, .bool false], .int .i64 10, .int .i64 0]), (10, .tup [.agg [.int .u8 1, .str [119], .nils, .bool false], .int .i64 12, .int .i64 0]), (12, .tup [.agg [.int .u8 0, .str [], .nils, .bool false], .int .i64 0, .int .i64 8])]
def s2 : List Nat := [119,91,48,93,32,61,32,119,59]
def t2 : List (Nat × V) := [(0, .tup [.agg [.int .u8 1, .str [119], .nils, .bool false], .int .i64 1, .int .i64 0]), (1, .tup [.agg [.int .u8 6, .str [91], .nils, .bool false], .int .i64 2, .int .i64 0]), (2, .tup [.agg [.int .u8 4, .str [], .imm 1 [.agg [.int .u8 0], .agg [.int .u8 0], .agg [.int .u8 0], .agg [.int .u8 0], .agg [.int .u8 0], .agg [.int .u8 0], .agg [.int .u8 0], .agg [.int .u8 0], .agg [.int .u8 0], .agg [.int .u8 0], .agg [.int .u8 0], .agg [.int .u8 0], .agg [.int .u8 0], .agg [.int .u8 0], .agg [.int .u8 0], .agg [.int .u8 0], .agg [.int .u8 0], .agg [.int .u8 0], .agg [.int .u8 0], .agg [.int .u8 0], .agg [.int .u8 0], .agg [.int .u8 0], .agg [.int .u8 0], .agg [.int .u8 0], .agg [.int .u8 0], .agg [.int .u8 0], .agg [.int .u8 0], .agg [.int .u8 0], .agg [.int .u8 0], .agg [.int .u8 0], .agg [.int .u8 0], .agg [.int .u8 0]], .bool true], .int .i64 3, .int .i64 0]), (3, .tup [.agg [.int .u8 6, .str [93], .nils, .bool false], .int .i64 4, .int .i64 0]), (4, .tup [.agg [.int .u8 6, .str [61], .nils, .bool false], .int .i64 6, .int .i64 0]), (6, .tup [.agg [.int .u8 1, .str [119], .nils, .bool false], .int .i64 8, .int .i64 0]), (8, .tup [.agg [.int .u8 6, .str [59], .nils, .bool false], .int .i64 9, .int .i64 0])]
def s3 : List Nat := [119,32,45,32,49]
def t3 : List (Nat × V) := [(0, .tup [.agg [.int .u8 1, .str [119], .nils, .bool false], .int .i64 1, .int .i64 0]), (1, .tup [.agg [.int .u8 6, .str [45], .nils, .bool false], .int .i64 3, .int .i64 0]), (3, .tup [.agg [.int .u8 4, .str [], .imm 1 [.agg [.int .u8 1], .agg [.int .u8 0], .agg [.int .u8 0], .agg [.int .u8 0], .agg [.int .u8 0], .agg [.int .u8 0], .agg [.int .u8 0], .agg [.int .u8 0], .agg [.int .u8 0], .agg [.int .u8 0], .agg [.int .u8 0], .agg [.int .u8 0], .agg [.int .u8 0], .agg [.int .u8 0], .agg [.int .u8 0], .agg [.int .u8 0], .agg [.int .u8 0], .agg [.int .u8 0], .agg [.int .u8 0], .agg [.int .u8 0], .agg [.int .u8 0], .agg [.int .u8 0], .agg [.int .u8 0], .agg [.int .u8 0], .agg [.int .u8 0], .agg [.int .u8 0], .agg [.int .u8 0], .agg [.int .u8 0], .agg [.int .u8 0], .agg [.int .u8 0], .agg [.int .u8 0], .agg [.int .u8 0]], .bool true], .int .i64 5, .int .i64 0]), (5, .tup [.agg [.int .u8 0, .str [], .nils, .bool false], .int .i64 0, .int .i64 8])]
def s4 : List Nat := [119,32,62,32,52]
def t4 : List (Nat × V) := [(0, .tup [.agg [.int .u8 1, .str [119], .nils, .bool false], .int .i64 1, .int .i64 0]), (1, .tup [.agg [.int .u8 6, .str [62], .nils, .bool false], .int .i64 3, .int .i64 0]), (3, .tup [.agg [.int .u8 4, .str [], .imm 1 [.agg [.int .u8 0], .agg [.int .u8 0], .agg [.int .u8 1], .agg [.int .u8 0], .agg [.int .u8 0], .agg [.int .u8 0], .agg [.int .u8 0], .agg [.int .u8 0], .agg [.int .u8 0], .agg [.int .u8 0], .agg [.int .u8 0], .agg [.int .u8 0], .agg [.int .u8 0], .agg [.int .u8 0], .agg [.int .u8 0], .agg [.int .u8 0], .agg [.int .u8 0], .agg [.int .u8 0], .agg [.int .u8 0], .agg [.int .u8 0], .agg [.int .u8 0], .agg [.int .u8 0], .agg [.int .u8 0], .agg [.int .u8 0], .agg [.int .u8 0], .agg [.int .u8 0], .agg [.int .u8 0], .agg [.int .u8 0], .agg [.int .u8 0], .agg [.int .u8 0], .agg [.int .u8 0], .agg [.int .u8 0]], .bool true], .int .i64 5, .int .i64 0]), (5, .tup [.agg [.int .u8 0, .str [], .nils, .bool false], .int .i64 0, .int .i64 8])]
def s5 : List Nat := [123,119,125]
def t5 : List (Nat × V) := [(0, .tup [.agg [.int .u8 6, .str [123], .nils, .bool false], .int .i64 1, .int .i64 0]), (1, .tup [.agg [.int .u8 1, .str [119], .nils, .bool false], .int .i64 2, .int .i64 0]), (2, .tup [.agg [.int .u8 6, .str [125], .nils, .bool false], .int .i64 3, .int .i64 0]), (3, .tup [.agg [.int .u8 0, .str [], .nils, .bool false], .int .i64 0, .int .i64 8])]
def s6 : List Nat := [119,91,48,93]
def t6 : List (Nat × V) := [(0, .tup [.agg [.int .u8 1, .str [119], .nils, .bool false], .int .i64 1, .int .i64 0]), (1, .tup [.agg [.int .u8 6, .str [91], .nils, .bool false], .int .i64 2, .int .i64 0]), (2, .tup [.agg [.int .u8 4, .str [], .imm 1 [.agg [.int .u8 0], .agg [.int .u8 0], .agg [.int .u8 0], .agg [.int .u8 0], .agg [.int .u8 0], .agg [.int .u8 0], .agg [.int .u8 0], .agg [.int .u8 0], .agg [.int .u8 0], .agg [.int .u8 0], .agg [.int .u8 0], .agg [.int .u8 0], .agg [.int .u8 0], .agg [.int .u8 0], .agg [.int .u8 0], .agg [.int .u8 0], .agg [.int .u8 0], .agg [.int .u8 0], .agg [.int .u8 0], .agg [.int .u8 0], .agg [.int .u8 0], .agg [.int .u8 0], .agg [.int .u8 0], .agg [.int .u8 0], .agg [.int .u8 0], .agg [.int .u8 0], .agg [.int .u8 0], .agg [.int .u8 0], .agg [.int .u8 0], .agg [.int .u8 0], .agg [.int .u8 0], .agg [.int .u8 0]], .bool true], .int .i64 3, .int .i64 0]), (3, .tup [.agg [.int .u8 6, .str [93], .nils, .bool false], .int .i64 4, .int .i64 0]), (4, .tup [.agg [.int .u8 0, .str [], .nils, .bool false], .int .i64 0, .int .i64 8])]
def s7 : List Nat := [102,40,119,41]
def t7 : List (Nat × V) := [(0, .tup [.agg [.int .u8 1, .str [102], .nils, .bool false], .int .i64 1, .int .i64 0]), (1, .tup [.agg [.int .u8 6, .str [40], .nils, .bool false], .int .i64 2, .int .i64 0]), (2, .tup [.agg [.int .u8 1, .str [119], .nils, .bool false], .int .i64 3, .int .i64 0]), (3, .tup [.agg [.int .u8 6, .str [41], .nils, .bool false], .int .i64 4, .int .i64 0]), (4, .tup [.agg [.int .u8 0, .str [], .nils, .bool false], .int .i64 0, .int .i64 8])]
def s8 : List Nat := [118]
def t8 : List (Nat × V) := [(0, .tup [.agg [.int .u8 1, .str [118], .nils, .bool false], .int .i64 1, .int .i64 0]), (1, .tup [.agg [.int .u8 0, .str [], .nils, .bool false], .int .i64 0, .int .i64 8])]
def s9 : List Nat := [49,32,47,32,48]
def t9 : List (Nat × V) := [(0, .tup [.agg [.int .u8 4, .str [], .imm 1 [.agg [.int .u8 1], .agg [.int .u8 0], .agg [.int .u8 0], .agg [.int .u8 0], .agg [.int .u8 0], .agg [.int .u8 0], .agg [.int .u8 0], .agg [.int .u8 0], .agg [.int .u8 0], .agg [.int .u8 0], .agg [.int .u8 0], .agg [.int .u8 0], .agg [.int .u8 0], .agg [.int .u8 0], .agg [.int .u8 0], .agg [.int .u8 0], .agg [.int .u8 0], .agg [.int .u8 0], .agg [.int .u8 0], .agg [.int .u8 0], .agg [.int .u8 0], .agg [.int .u8 0], .agg [.int .u8 0], .agg [.int .u8 0], .agg [.int .u8 0], .agg [.int .u8 0], .agg [.int .u8 0], .agg [.int .u8 0], .agg [.int .u8 0], .agg [.int .u8 0], .agg [.int .u8 0], .agg [.int .u8 0]], .bool true], .int .i64 1, .int .i64 0]), (1, .tup [.agg [.int .u8 6, .str [47], .nils, .bool false], .int .i64 3, .int .i64 0]), (3, .tup [.agg [.int .u8 4, .str [], .imm 1 [.agg [.int .u8 0], .agg [.int .u8 0], .agg [.int .u8 0], .agg [.int .u8 0], .agg [.int .u8 0], .agg [.int .u8 0], .agg [.int .u8 0], .agg [.int .u8 0], .agg [.int .u8 0], .agg [.int .u8 0], .agg [.int .u8 0], .agg [.int .u8 0], .agg [.int .u8 0], .agg [.int .u8 0], .agg [.int .u8 0], .agg [.int .u8 0], .agg [.int .u8 0], .agg [.int .u8 0], .agg [.int .u8 0], .agg [.int .u8 0], .agg [.int .u8 0], .agg [.int .u8 0], .agg [.int .u8 0], .agg [.int .u8 0], .agg [.int .u8 0], .agg [.int .u8 0], .agg [.int .u8 0], .agg [.int .u8 0], .agg [.int .u8 0], .agg [.int .u8 0], .agg [.int .u8 0], .agg [.int .u8 0]], .bool true], .int .i64 5, .int .i64 0]), (5, .tup [.agg [.int .u8 0, .str [], .nils, .bool false], .int .i64 0, .int .i64 8])]
def lexT : List (List Nat × List (Nat × V)) := [(s0, t0), (s1, t1), (s2, t2), (s3, t3), (s4, t4), (s5, t5), (s6, t6), (s7, t7), (s8, t8), (s9, t9)]
set_option maxHeartbeats 400000000 in
theorem lex0 : chkLex Tryz.prog 114 s0 t0 = true := by kernel_rfl
set_option maxHeartbeats 400000000 in
theorem lex1 : chkLex Tryz.prog 114 s1 t1 = true := by kernel_rfl
set_option maxHeartbeats 400000000 in
theorem lex2 : chkLex Tryz.prog 114 s2 t2 = true := by kernel_rfl
set_option maxHeartbeats 400000000 in
theorem lex3 : chkLex Tryz.prog 114 s3 t3 = true := by kernel_rfl
set_option maxHeartbeats 400000000 in
theorem lex4 : chkLex Tryz.prog 114 s4 t4 = true := by kernel_rfl
set_option maxHeartbeats 400000000 in
theorem lex5 : chkLex Tryz.prog 114 s5 t5 = true := by kernel_rfl
set_option maxHeartbeats 400000000 in
theorem lex6 : chkLex Tryz.prog 114 s6 t6 = true := by kernel_rfl
set_option maxHeartbeats 400000000 in
theorem lex7 : chkLex Tryz.prog 114 s7 t7 = true := by kernel_rfl
set_option maxHeartbeats 400000000 in
theorem lex8 : chkLex Tryz.prog 114 s8 t8 = true := by kernel_rfl
set_option maxHeartbeats 400000000 in
theorem lex9 : chkLex Tryz.prog 114 s9 t9 = true := by kernel_rfl
theorem lexAll : ∀ e ∈ lexT, chkLex Tryz.prog 114 e.1 e.2 = true := by
  intro e he
  simp only [lexT, List.mem_cons, List.not_mem_nil, or_false] at he
  rcases he with rfl | rfl | rfl | rfl | rfl | rfl | rfl | rfl | rfl | rfl
  · exact lex0
  · exact lex1
  · exact lex2
  · exact lex3
  · exact lex4
  · exact lex5
  · exact lex6
  · exact lex7
  · exact lex8
  · exact lex9
theorem mix : Tryz.prog.follows .mixedOrders = true := by kernel_rfl
noncomputable def memo0 : Memo := fun f => @Bool.rec (fun _ => Option (List V → Option V)) none (some (lexG lexT)) (Nat.beq f 114)
theorem memo0_ok : MemoOK Tryz.prog memo0 := by
  intro f g key v h hk
  cases hb : Nat.beq f 114 with
  | false => simp only [memo0, hb] at h; cases h
  | true =>
    simp only [memo0, hb] at h
    injection h with h; subst h
    have : f = 114 := Nat.eq_of_beq_eq_true hb
    subst this
    exact lexG_ok mix lexAll hk
end Go.Proofs.YtncjlehibolekaaGreatDoor.Run
