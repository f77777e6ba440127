/- The answer of the endless call, and the known answers with it: no statement of its own. -/
import Derived.Test.YtoleefgpfkpokaaGreatDoorRunBJ
import Derived.Test.YtoleefgpfkpokaaGreatDoorRunO1
set_option autoImplicit false
set_option maxRecDepth 100000
set_option linter.unusedVariables false
namespace Go.Proofs.YtoleefgpfkpokaaGreatDoor.Run
open Go Go.Vm
/-- A run with closed arguments, from the empty store. -/
noncomputable def chkC (P : Program) (memo : Memo) (f : FuncId) (args : List V) (v : V) : Bool := andB (cloL args) (runK fzK (cfOf P) memo 3000 f args ks0 (fun u S => eqF false S u v))
theorem chkC_ok {P : Program} (hmix : P.follows .mixedOrders = true) {memo : Memo} (hm : MemoOK P memo) {f : FuncId} {args : List V} {v : V} (h : chkC P memo f args v = true) : KnownC P f args v := by
  obtain ⟨h0, h⟩ := andB_iff.1 h
  obtain ⟨u, S1, h1, h2⟩ := run_closed (p := fun u S => eqF false S u v) h
  exact ⟨h0, _, _, _, u, _, memo_ok hmix hm, h1, eqF_eq h2⟩
theorem tab_call {P : Program} {Sp : SpecF} {f : FuncId} {args : List V} {v : V} (h : KnownC P f args v) (hs : Sp f args v) (hu : ∀ v', Sp f args v' → v' = v) : ∀ n S, callS P Sp n f args S = some (v, S) := by
  obtain ⟨v', h1, _, h3⟩ := KC.call (⟨v, h, hs⟩ : KC P Sp f args)
  rw [hu v' h1] at h3; exact h3
def xA : V := .agg [.int .u8 8, .str [102], .nils, .bool false, .imm 8 [.agg [.int .u8 1, .str [], .imm 1 [.agg [.int .u8 1], .agg [.int .u8 1], .agg [.int .u8 0], .agg [.int .u8 1]], .bool false, .nils, .int .i64 0, .int .i64 4, .bool false]], .int .i64 1, .int .i64 4, .bool false]
def uA : V := .agg [.imm 10 [.agg [.str [97], .int .u8 0, .int .u8 0, .int .i64 4, .bool false, .int .i64 3, .int .i64 0, .int .i64 0, .int .i64 0, .int .i64 0], .agg [.str [98], .int .u8 0, .int .u8 0, .int .i64 8, .bool false, .int .i64 7, .int .i64 0, .int .i64 0, .int .i64 0, .int .i64 0], .agg [.str [114], .int .u8 0, .int .u8 0, .int .i64 4, .bool false, .int .i64 0, .int .i64 3, .int .i64 0, .int .i64 0, .int .i64 0], .agg [.str [109], .int .u8 0, .int .u8 0, .int .i64 8, .bool false, .int .i64 7, .int .i64 0, .int .i64 4, .int .i64 0, .int .i64 3], .agg [.str [115], .int .u8 0, .int .u8 0, .int .i64 4, .bool true, .int .i64 3, .int .i64 0, .int .i64 0, .int .i64 0, .int .i64 0], .agg [.str [102, 46, 102], .int .u8 0, .int .u8 0, .int .i64 4, .bool false, .int .i64 3, .int .i64 0, .int .i64 0, .int .i64 0, .int .i64 0], .agg [.str [102, 46, 120], .int .u8 0, .int .u8 0, .int .i64 4, .bool false, .int .i64 3, .int .i64 0, .int .i64 0, .int .i64 0, .int .i64 0]], .nils, .nils, .imm 36 [.agg [.str [102], .int .i64 6, .imm 1 [.agg [.int .i64 7]], .int .u8 8, .str [], .str [], .int .u8 1, .str [], .imm 1 [.agg [.int .u8 1]], .bool false, .nils, .int .i64 0, .int .i64 1, .bool false, .int .u8 0, .str [], .nils, .bool false, .nils, .int .i64 0, .int .i64 0, .bool false, .int .u8 0, .str [], .nils, .bool false, .nils, .int .i64 0, .int .i64 0, .bool false, .int .i64 0, .nils, .nils, .imm 33 [.agg [.int .u8 1, .str [], .str [], .int .u8 0, .str [], .nils, .bool false, .nils, .int .i64 0, .int .i64 0, .bool false, .int .u8 0, .str [], .nils, .bool false, .nils, .int .i64 0, .int .i64 0, .bool false, .int .u8 0, .str [], .nils, .bool false, .nils, .int .i64 0, .int .i64 0, .bool false, .int .i64 0, .nils, .nils, .nils, .nils, .nils]], .nils, .nils]]]
def sA : V := .agg [.int .i64 9, .imm 1 [.agg [.imm 2 [.agg [.imm 1 [.agg [.int .u8 0], .agg [.int .u8 1], .agg [.int .u8 0], .agg [.int .u8 1]], .bool false]]], .agg [.imm 2 [.agg [.imm 1 [.agg [.int .u8 1], .agg [.int .u8 0], .agg [.int .u8 0], .agg [.int .u8 0], .agg [.int .u8 0], .agg [.int .u8 0], .agg [.int .u8 0], .agg [.int .u8 0]], .bool false]]], .agg [.imm 2 [.agg [.imm 1 [.agg [.int .u8 0], .agg [.int .u8 1], .agg [.int .u8 0], .agg [.int .u8 1]], .bool false]]], .agg [.imm 2 [.agg [.imm 1 [.agg [.int .u8 2], .agg [.int .u8 2], .agg [.int .u8 2], .agg [.int .u8 2], .agg [.int .u8 2], .agg [.int .u8 2], .agg [.int .u8 2], .agg [.int .u8 2]], .bool false], .agg [.imm 1 [.agg [.int .u8 2], .agg [.int .u8 2], .agg [.int .u8 2], .agg [.int .u8 2], .agg [.int .u8 2], .agg [.int .u8 2], .agg [.int .u8 2], .agg [.int .u8 2]], .bool false], .agg [.imm 1 [.agg [.int .u8 0], .agg [.int .u8 0], .agg [.int .u8 0], .agg [.int .u8 0], .agg [.int .u8 1], .agg [.int .u8 1], .agg [.int .u8 1], .agg [.int .u8 1]], .bool false], .agg [.imm 1 [.agg [.int .u8 2], .agg [.int .u8 2], .agg [.int .u8 2], .agg [.int .u8 2], .agg [.int .u8 2], .agg [.int .u8 2], .agg [.int .u8 2], .agg [.int .u8 2]], .bool false]]], .agg [.imm 2 [.agg [.imm 1 [.agg [.int .u8 1], .agg [.int .u8 0], .agg [.int .u8 1], .agg [.int .u8 1]], .bool true]]], .agg [.imm 2 [.agg [.imm 1 [.agg [.int .u8 2], .agg [.int .u8 2], .agg [.int .u8 2], .agg [.int .u8 2]], .bool false]]], .agg [.imm 2 [.agg [.imm 1 [.agg [.int .u8 2], .agg [.int .u8 2], .agg [.int .u8 2], .agg [.int .u8 2]], .bool false]]]]]
def ka23_0 : List V := [.int .u8 2, .agg [.str [102, 46, 102], .int .u8 0, .int .u8 0, .int .i64 4, .bool false, .int .i64 3, .int .i64 0, .int .i64 0, .int .i64 0, .int .i64 0]]
def kr23_0 : V := .agg [.imm 1 [.agg [.int .u8 2], .agg [.int .u8 2], .agg [.int .u8 2], .agg [.int .u8 2]], .bool false]
set_option maxHeartbeats 400000000 in
theorem kc23_0 : chkC Tryz.prog memo0 23 ka23_0 kr23_0 = true := by kernel_rfl
def KT23 : List (List V × V) := [(ka23_0, kr23_0)]
def ka27_0 : List V := [.agg [.imm 1 [.agg [.int .u8 1]], .bool false], .int .i64 1]
def kr27_0 : V := .tup [.agg [.imm 1 [.agg [.int .u8 1]], .bool false], .int .i64 0]
set_option maxHeartbeats 400000000 in
theorem kc27_0 : chkC Tryz.prog memo0 27 ka27_0 kr27_0 = true := by kernel_rfl
def ka27_1 : List V := [.agg [.imm 1 [.agg [.int .u8 1], .agg [.int .u8 1], .agg [.int .u8 0], .agg [.int .u8 1]], .bool false], .int .i64 4]
def kr27_1 : V := .tup [.agg [.imm 1 [.agg [.int .u8 1], .agg [.int .u8 1], .agg [.int .u8 0], .agg [.int .u8 1]], .bool false], .int .i64 0]
set_option maxHeartbeats 400000000 in
theorem kc27_1 : chkC Tryz.prog memo0 27 ka27_1 kr27_1 = true := by kernel_rfl
def ka27_2 : List V := [.agg [.imm 1 [.agg [.int .u8 2], .agg [.int .u8 2], .agg [.int .u8 2], .agg [.int .u8 2]], .bool false], .int .i64 4]
def kr27_2 : V := .tup [.agg [.imm 1 [.agg [.int .u8 2], .agg [.int .u8 2], .agg [.int .u8 2], .agg [.int .u8 2]], .bool false], .int .i64 0]
set_option maxHeartbeats 400000000 in
theorem kc27_2 : chkC Tryz.prog memo0 27 ka27_2 kr27_2 = true := by kernel_rfl
def KT27 : List (List V × V) := [(ka27_0, kr27_0), (ka27_1, kr27_1), (ka27_2, kr27_2)]
def ka34_0 : List V := [.agg [.imm 1 [.agg [.int .u8 1]], .bool false]]
def kr34_0 : V := .int .u8 1
set_option maxHeartbeats 400000000 in
theorem kc34_0 : chkC Tryz.prog memo0 34 ka34_0 kr34_0 = true := by kernel_rfl
def ka34_1 : List V := [.agg [.imm 1 [.agg [.int .u8 2]], .bool false]]
def kr34_1 : V := .int .u8 2
set_option maxHeartbeats 400000000 in
theorem kc34_1 : chkC Tryz.prog memo0 34 ka34_1 kr34_1 = true := by kernel_rfl
def ka34_2 : List V := [.agg [.imm 1 [.agg [.int .u8 1], .agg [.int .u8 1], .agg [.int .u8 0], .agg [.int .u8 1]], .bool false]]
def kr34_2 : V := .int .u8 1
set_option maxHeartbeats 400000000 in
theorem kc34_2 : chkC Tryz.prog memo0 34 ka34_2 kr34_2 = true := by kernel_rfl
def ka34_3 : List V := [.agg [.imm 1 [.agg [.int .u8 2], .agg [.int .u8 2], .agg [.int .u8 2], .agg [.int .u8 2]], .bool false]]
def kr34_3 : V := .int .u8 2
set_option maxHeartbeats 400000000 in
theorem kc34_3 : chkC Tryz.prog memo0 34 ka34_3 kr34_3 = true := by kernel_rfl
def KT34 : List (List V × V) := [(ka34_0, kr34_0), (ka34_1, kr34_1), (ka34_2, kr34_2), (ka34_3, kr34_3)]
def ka44_0 : List V := [.imm 1 [.agg [.int .u8 0], .agg [.int .u8 1], .agg [.int .u8 0], .agg [.int .u8 1]]]
def kr44_0 : V := .imm 1 [.agg [.int .u8 0], .agg [.int .u8 1], .agg [.int .u8 0], .agg [.int .u8 1]]
set_option maxHeartbeats 400000000 in
theorem kc44_0 : chkC Tryz.prog memo0 44 ka44_0 kr44_0 = true := by kernel_rfl
def ka44_1 : List V := [.imm 1 [.agg [.int .u8 1], .agg [.int .u8 0], .agg [.int .u8 0], .agg [.int .u8 0], .agg [.int .u8 0], .agg [.int .u8 0], .agg [.int .u8 0], .agg [.int .u8 0]]]
def kr44_1 : V := .imm 1 [.agg [.int .u8 1], .agg [.int .u8 0], .agg [.int .u8 0], .agg [.int .u8 0], .agg [.int .u8 0], .agg [.int .u8 0], .agg [.int .u8 0], .agg [.int .u8 0]]
set_option maxHeartbeats 400000000 in
theorem kc44_1 : chkC Tryz.prog memo0 44 ka44_1 kr44_1 = true := by kernel_rfl
def ka44_2 : List V := [.imm 1 [.agg [.int .u8 2], .agg [.int .u8 2], .agg [.int .u8 2], .agg [.int .u8 2], .agg [.int .u8 2], .agg [.int .u8 2], .agg [.int .u8 2], .agg [.int .u8 2]]]
def kr44_2 : V := .imm 1 [.agg [.int .u8 2], .agg [.int .u8 2], .agg [.int .u8 2], .agg [.int .u8 2], .agg [.int .u8 2], .agg [.int .u8 2], .agg [.int .u8 2], .agg [.int .u8 2]]
set_option maxHeartbeats 400000000 in
theorem kc44_2 : chkC Tryz.prog memo0 44 ka44_2 kr44_2 = true := by kernel_rfl
def ka44_3 : List V := [.imm 1 [.agg [.int .u8 0], .agg [.int .u8 0], .agg [.int .u8 0], .agg [.int .u8 0], .agg [.int .u8 1], .agg [.int .u8 1], .agg [.int .u8 1], .agg [.int .u8 1]]]
def kr44_3 : V := .imm 1 [.agg [.int .u8 0], .agg [.int .u8 0], .agg [.int .u8 0], .agg [.int .u8 0], .agg [.int .u8 1], .agg [.int .u8 1], .agg [.int .u8 1], .agg [.int .u8 1]]
set_option maxHeartbeats 400000000 in
theorem kc44_3 : chkC Tryz.prog memo0 44 ka44_3 kr44_3 = true := by kernel_rfl
def ka44_4 : List V := [.imm 1 [.agg [.int .u8 1], .agg [.int .u8 0], .agg [.int .u8 1], .agg [.int .u8 1]]]
def kr44_4 : V := .imm 1 [.agg [.int .u8 1], .agg [.int .u8 0], .agg [.int .u8 1], .agg [.int .u8 1]]
set_option maxHeartbeats 400000000 in
theorem kc44_4 : chkC Tryz.prog memo0 44 ka44_4 kr44_4 = true := by kernel_rfl
def ka44_5 : List V := [.imm 1 [.agg [.int .u8 2], .agg [.int .u8 2], .agg [.int .u8 2], .agg [.int .u8 2]]]
def kr44_5 : V := .imm 1 [.agg [.int .u8 2], .agg [.int .u8 2], .agg [.int .u8 2], .agg [.int .u8 2]]
set_option maxHeartbeats 400000000 in
theorem kc44_5 : chkC Tryz.prog memo0 44 ka44_5 kr44_5 = true := by kernel_rfl
def KT44 : List (List V × V) := [(ka44_0, kr44_0), (ka44_1, kr44_1), (ka44_2, kr44_2), (ka44_3, kr44_3), (ka44_4, kr44_4), (ka44_5, kr44_5)]
def ka89_0 : List V := [.int .i64 1]
def kr89_0 : V := .agg [.imm 1 [.agg [.int .u8 2]], .bool false]
set_option maxHeartbeats 400000000 in
theorem kc89_0 : chkC Tryz.prog memo0 89 ka89_0 kr89_0 = true := by kernel_rfl
def ka89_1 : List V := [.int .i64 4]
def kr89_1 : V := .agg [.imm 1 [.agg [.int .u8 2], .agg [.int .u8 2], .agg [.int .u8 2], .agg [.int .u8 2]], .bool false]
set_option maxHeartbeats 400000000 in
theorem kc89_1 : chkC Tryz.prog memo0 89 ka89_1 kr89_1 = true := by kernel_rfl
def KT89 : List (List V × V) := [(ka89_0, kr89_0), (ka89_1, kr89_1)]
def ka140_0 : List V := [.agg [.imm 1 [.agg [.int .u8 1]], .bool false], .bool false]
def kr140_0 : V := .agg [.imm 1 [.agg [.int .u8 1]], .bool false]
set_option maxHeartbeats 400000000 in
theorem kc140_0 : chkC Tryz.prog memo0 140 ka140_0 kr140_0 = true := by kernel_rfl
def ka140_1 : List V := [.agg [.imm 1 [.agg [.int .u8 1], .agg [.int .u8 1], .agg [.int .u8 0], .agg [.int .u8 1]], .bool false], .bool false]
def kr140_1 : V := .agg [.imm 1 [.agg [.int .u8 1], .agg [.int .u8 1], .agg [.int .u8 0], .agg [.int .u8 1]], .bool false]
set_option maxHeartbeats 400000000 in
theorem kc140_1 : chkC Tryz.prog memo0 140 ka140_1 kr140_1 = true := by kernel_rfl
def ka140_2 : List V := [.agg [.imm 1 [.agg [.int .u8 2], .agg [.int .u8 2], .agg [.int .u8 2], .agg [.int .u8 2]], .bool false], .bool false]
def kr140_2 : V := .agg [.imm 1 [.agg [.int .u8 2], .agg [.int .u8 2], .agg [.int .u8 2], .agg [.int .u8 2]], .bool false]
set_option maxHeartbeats 400000000 in
theorem kc140_2 : chkC Tryz.prog memo0 140 ka140_2 kr140_2 = true := by kernel_rfl
def KT140 : List (List V × V) := [(ka140_0, kr140_0), (ka140_1, kr140_1), (ka140_2, kr140_2)]
def SpE : SpecF := fun f args v => match f with
  | 23 => look3 KT23 args = some v
  | 27 => look3 KT27 args = some v
  | 34 => look3 KT34 args = some v
  | 44 => look3 KT44 args = some v
  | 89 => look3 KT89 args = some v
  | 140 => look3 KT140 args = some v
  | _ => False
theorem ks23_0 : ∀ n S, callS Tryz.prog SpE n 23 ka23_0 S = some (kr23_0, S) := tab_call (chkC_ok mix memo0_ok kc23_0) (show look3 KT23 ka23_0 = some kr23_0 by kernel_rfl) (fun v h => by have h : look3 KT23 ka23_0 = some v := h; rw [show look3 KT23 ka23_0 = some kr23_0 by kernel_rfl] at h; injection h with h; exact h.symm)
theorem ks27_0 : ∀ n S, callS Tryz.prog SpE n 27 ka27_0 S = some (kr27_0, S) := tab_call (chkC_ok mix memo0_ok kc27_0) (show look3 KT27 ka27_0 = some kr27_0 by kernel_rfl) (fun v h => by have h : look3 KT27 ka27_0 = some v := h; rw [show look3 KT27 ka27_0 = some kr27_0 by kernel_rfl] at h; injection h with h; exact h.symm)
theorem ks27_1 : ∀ n S, callS Tryz.prog SpE n 27 ka27_1 S = some (kr27_1, S) := tab_call (chkC_ok mix memo0_ok kc27_1) (show look3 KT27 ka27_1 = some kr27_1 by kernel_rfl) (fun v h => by have h : look3 KT27 ka27_1 = some v := h; rw [show look3 KT27 ka27_1 = some kr27_1 by kernel_rfl] at h; injection h with h; exact h.symm)
theorem ks27_2 : ∀ n S, callS Tryz.prog SpE n 27 ka27_2 S = some (kr27_2, S) := tab_call (chkC_ok mix memo0_ok kc27_2) (show look3 KT27 ka27_2 = some kr27_2 by kernel_rfl) (fun v h => by have h : look3 KT27 ka27_2 = some v := h; rw [show look3 KT27 ka27_2 = some kr27_2 by kernel_rfl] at h; injection h with h; exact h.symm)
theorem ks34_0 : ∀ n S, callS Tryz.prog SpE n 34 ka34_0 S = some (kr34_0, S) := tab_call (chkC_ok mix memo0_ok kc34_0) (show look3 KT34 ka34_0 = some kr34_0 by kernel_rfl) (fun v h => by have h : look3 KT34 ka34_0 = some v := h; rw [show look3 KT34 ka34_0 = some kr34_0 by kernel_rfl] at h; injection h with h; exact h.symm)
theorem ks34_1 : ∀ n S, callS Tryz.prog SpE n 34 ka34_1 S = some (kr34_1, S) := tab_call (chkC_ok mix memo0_ok kc34_1) (show look3 KT34 ka34_1 = some kr34_1 by kernel_rfl) (fun v h => by have h : look3 KT34 ka34_1 = some v := h; rw [show look3 KT34 ka34_1 = some kr34_1 by kernel_rfl] at h; injection h with h; exact h.symm)
theorem ks34_2 : ∀ n S, callS Tryz.prog SpE n 34 ka34_2 S = some (kr34_2, S) := tab_call (chkC_ok mix memo0_ok kc34_2) (show look3 KT34 ka34_2 = some kr34_2 by kernel_rfl) (fun v h => by have h : look3 KT34 ka34_2 = some v := h; rw [show look3 KT34 ka34_2 = some kr34_2 by kernel_rfl] at h; injection h with h; exact h.symm)
theorem ks34_3 : ∀ n S, callS Tryz.prog SpE n 34 ka34_3 S = some (kr34_3, S) := tab_call (chkC_ok mix memo0_ok kc34_3) (show look3 KT34 ka34_3 = some kr34_3 by kernel_rfl) (fun v h => by have h : look3 KT34 ka34_3 = some v := h; rw [show look3 KT34 ka34_3 = some kr34_3 by kernel_rfl] at h; injection h with h; exact h.symm)
theorem ks44_0 : ∀ n S, callS Tryz.prog SpE n 44 ka44_0 S = some (kr44_0, S) := tab_call (chkC_ok mix memo0_ok kc44_0) (show look3 KT44 ka44_0 = some kr44_0 by kernel_rfl) (fun v h => by have h : look3 KT44 ka44_0 = some v := h; rw [show look3 KT44 ka44_0 = some kr44_0 by kernel_rfl] at h; injection h with h; exact h.symm)
theorem ks44_1 : ∀ n S, callS Tryz.prog SpE n 44 ka44_1 S = some (kr44_1, S) := tab_call (chkC_ok mix memo0_ok kc44_1) (show look3 KT44 ka44_1 = some kr44_1 by kernel_rfl) (fun v h => by have h : look3 KT44 ka44_1 = some v := h; rw [show look3 KT44 ka44_1 = some kr44_1 by kernel_rfl] at h; injection h with h; exact h.symm)
theorem ks44_2 : ∀ n S, callS Tryz.prog SpE n 44 ka44_2 S = some (kr44_2, S) := tab_call (chkC_ok mix memo0_ok kc44_2) (show look3 KT44 ka44_2 = some kr44_2 by kernel_rfl) (fun v h => by have h : look3 KT44 ka44_2 = some v := h; rw [show look3 KT44 ka44_2 = some kr44_2 by kernel_rfl] at h; injection h with h; exact h.symm)
theorem ks44_3 : ∀ n S, callS Tryz.prog SpE n 44 ka44_3 S = some (kr44_3, S) := tab_call (chkC_ok mix memo0_ok kc44_3) (show look3 KT44 ka44_3 = some kr44_3 by kernel_rfl) (fun v h => by have h : look3 KT44 ka44_3 = some v := h; rw [show look3 KT44 ka44_3 = some kr44_3 by kernel_rfl] at h; injection h with h; exact h.symm)
theorem ks44_4 : ∀ n S, callS Tryz.prog SpE n 44 ka44_4 S = some (kr44_4, S) := tab_call (chkC_ok mix memo0_ok kc44_4) (show look3 KT44 ka44_4 = some kr44_4 by kernel_rfl) (fun v h => by have h : look3 KT44 ka44_4 = some v := h; rw [show look3 KT44 ka44_4 = some kr44_4 by kernel_rfl] at h; injection h with h; exact h.symm)
theorem ks44_5 : ∀ n S, callS Tryz.prog SpE n 44 ka44_5 S = some (kr44_5, S) := tab_call (chkC_ok mix memo0_ok kc44_5) (show look3 KT44 ka44_5 = some kr44_5 by kernel_rfl) (fun v h => by have h : look3 KT44 ka44_5 = some v := h; rw [show look3 KT44 ka44_5 = some kr44_5 by kernel_rfl] at h; injection h with h; exact h.symm)
theorem ks89_0 : ∀ n S, callS Tryz.prog SpE n 89 ka89_0 S = some (kr89_0, S) := tab_call (chkC_ok mix memo0_ok kc89_0) (show look3 KT89 ka89_0 = some kr89_0 by kernel_rfl) (fun v h => by have h : look3 KT89 ka89_0 = some v := h; rw [show look3 KT89 ka89_0 = some kr89_0 by kernel_rfl] at h; injection h with h; exact h.symm)
theorem ks89_1 : ∀ n S, callS Tryz.prog SpE n 89 ka89_1 S = some (kr89_1, S) := tab_call (chkC_ok mix memo0_ok kc89_1) (show look3 KT89 ka89_1 = some kr89_1 by kernel_rfl) (fun v h => by have h : look3 KT89 ka89_1 = some v := h; rw [show look3 KT89 ka89_1 = some kr89_1 by kernel_rfl] at h; injection h with h; exact h.symm)
theorem ks140_0 : ∀ n S, callS Tryz.prog SpE n 140 ka140_0 S = some (kr140_0, S) := tab_call (chkC_ok mix memo0_ok kc140_0) (show look3 KT140 ka140_0 = some kr140_0 by kernel_rfl) (fun v h => by have h : look3 KT140 ka140_0 = some v := h; rw [show look3 KT140 ka140_0 = some kr140_0 by kernel_rfl] at h; injection h with h; exact h.symm)
theorem ks140_1 : ∀ n S, callS Tryz.prog SpE n 140 ka140_1 S = some (kr140_1, S) := tab_call (chkC_ok mix memo0_ok kc140_1) (show look3 KT140 ka140_1 = some kr140_1 by kernel_rfl) (fun v h => by have h : look3 KT140 ka140_1 = some v := h; rw [show look3 KT140 ka140_1 = some kr140_1 by kernel_rfl] at h; injection h with h; exact h.symm)
theorem ks140_2 : ∀ n S, callS Tryz.prog SpE n 140 ka140_2 S = some (kr140_2, S) := tab_call (chkC_ok mix memo0_ok kc140_2) (show look3 KT140 ka140_2 = some kr140_2 by kernel_rfl) (fun v h => by have h : look3 KT140 ka140_2 = some v := h; rw [show look3 KT140 ka140_2 = some kr140_2 by kernel_rfl] at h; injection h with h; exact h.symm)
theorem envC : El.Env SpE (.imm 1 [.agg [.int .u8 1]]) false 1 false (.agg [.imm 1 [.agg [.int .u8 1]], .bool false]) (.agg [.imm 1 [.agg [.int .u8 1]], .bool false]) (.int .i64 0) (.agg [.imm 1 [.agg [.int .u8 2]], .bool false]) (.imm 1 [.agg [.int .u8 1]]) (.bool false) (.imm 1 [.agg [.int .u8 2]]) (.bool false) where
  n86 := fun _ _ h => h
  n87 := fun _ _ h => h
  n43 := fun _ _ h => h
  n99 := fun _ _ h => h
  n141 := fun _ _ h => h
  n216 := fun _ _ h => h
  lbc := rfl
  k140 := ks140_0
  k27 := ks27_0
  k34 := ks34_0
  k34u := fun n S => ⟨_, ks34_1 n S⟩
  k89 := ks89_0
  w2e := rfl
  b1c := rfl
  b2c := rfl
  uve := rfl
  c1c := rfl
  c2c := rfl
theorem envA : El.Env SpE (.imm 1 [.agg [.int .u8 1], .agg [.int .u8 1], .agg [.int .u8 0], .agg [.int .u8 1]]) false 4 false (.agg [.imm 1 [.agg [.int .u8 1], .agg [.int .u8 1], .agg [.int .u8 0], .agg [.int .u8 1]], .bool false]) (.agg [.imm 1 [.agg [.int .u8 1], .agg [.int .u8 1], .agg [.int .u8 0], .agg [.int .u8 1]], .bool false]) (.int .i64 0) (.agg [.imm 1 [.agg [.int .u8 2], .agg [.int .u8 2], .agg [.int .u8 2], .agg [.int .u8 2]], .bool false]) (.imm 1 [.agg [.int .u8 1], .agg [.int .u8 1], .agg [.int .u8 0], .agg [.int .u8 1]]) (.bool false) (.imm 1 [.agg [.int .u8 2], .agg [.int .u8 2], .agg [.int .u8 2], .agg [.int .u8 2]]) (.bool false) where
  n86 := fun _ _ h => h
  n87 := fun _ _ h => h
  n43 := fun _ _ h => h
  n99 := fun _ _ h => h
  n141 := fun _ _ h => h
  n216 := fun _ _ h => h
  lbc := rfl
  k140 := ks140_1
  k27 := ks27_1
  k34 := ks34_2
  k34u := fun n S => ⟨_, ks34_3 n S⟩
  k89 := ks89_1
  w2e := rfl
  b1c := rfl
  b2c := rfl
  uve := rfl
  c1c := rfl
  c2c := rfl
def wsA : Nat → List (List V)
  | 0 => [[.imm 1 [.agg [.int .u8 0], .agg [.int .u8 1], .agg [.int .u8 0], .agg [.int .u8 1]], .bool false]]
  | 1 => [[.imm 1 [.agg [.int .u8 1], .agg [.int .u8 0], .agg [.int .u8 0], .agg [.int .u8 0], .agg [.int .u8 0], .agg [.int .u8 0], .agg [.int .u8 0], .agg [.int .u8 0]], .bool false]]
  | 2 => [[.imm 1 [.agg [.int .u8 0], .agg [.int .u8 1], .agg [.int .u8 0], .agg [.int .u8 1]], .bool false]]
  | 3 => [[.imm 1 [.agg [.int .u8 2], .agg [.int .u8 2], .agg [.int .u8 2], .agg [.int .u8 2], .agg [.int .u8 2], .agg [.int .u8 2], .agg [.int .u8 2], .agg [.int .u8 2]], .bool false], [.imm 1 [.agg [.int .u8 2], .agg [.int .u8 2], .agg [.int .u8 2], .agg [.int .u8 2], .agg [.int .u8 2], .agg [.int .u8 2], .agg [.int .u8 2], .agg [.int .u8 2]], .bool false], [.imm 1 [.agg [.int .u8 0], .agg [.int .u8 0], .agg [.int .u8 0], .agg [.int .u8 0], .agg [.int .u8 1], .agg [.int .u8 1], .agg [.int .u8 1], .agg [.int .u8 1]], .bool false], [.imm 1 [.agg [.int .u8 2], .agg [.int .u8 2], .agg [.int .u8 2], .agg [.int .u8 2], .agg [.int .u8 2], .agg [.int .u8 2], .agg [.int .u8 2], .agg [.int .u8 2]], .bool false]]
  | 4 => [[.imm 1 [.agg [.int .u8 1], .agg [.int .u8 0], .agg [.int .u8 1], .agg [.int .u8 1]], .bool true]]
  | 5 => [[.imm 1 [.agg [.int .u8 2], .agg [.int .u8 2], .agg [.int .u8 2], .agg [.int .u8 2]], .bool false]]
  | 6 => [[.imm 1 [.agg [.int .u8 2], .agg [.int .u8 2], .agg [.int .u8 2], .agg [.int .u8 2]], .bool false]]
  | _ => []
def rvA : List (List V) := [[.imm 2 [.agg [.imm 1 [.agg [.int .u8 0], .agg [.int .u8 1], .agg [.int .u8 0], .agg [.int .u8 1]], .bool false]]], [.imm 2 [.agg [.imm 1 [.agg [.int .u8 1], .agg [.int .u8 0], .agg [.int .u8 0], .agg [.int .u8 0], .agg [.int .u8 0], .agg [.int .u8 0], .agg [.int .u8 0], .agg [.int .u8 0]], .bool false]]], [.imm 2 [.agg [.imm 1 [.agg [.int .u8 0], .agg [.int .u8 1], .agg [.int .u8 0], .agg [.int .u8 1]], .bool false]]], [.imm 2 [.agg [.imm 1 [.agg [.int .u8 2], .agg [.int .u8 2], .agg [.int .u8 2], .agg [.int .u8 2], .agg [.int .u8 2], .agg [.int .u8 2], .agg [.int .u8 2], .agg [.int .u8 2]], .bool false], .agg [.imm 1 [.agg [.int .u8 2], .agg [.int .u8 2], .agg [.int .u8 2], .agg [.int .u8 2], .agg [.int .u8 2], .agg [.int .u8 2], .agg [.int .u8 2], .agg [.int .u8 2]], .bool false], .agg [.imm 1 [.agg [.int .u8 0], .agg [.int .u8 0], .agg [.int .u8 0], .agg [.int .u8 0], .agg [.int .u8 1], .agg [.int .u8 1], .agg [.int .u8 1], .agg [.int .u8 1]], .bool false], .agg [.imm 1 [.agg [.int .u8 2], .agg [.int .u8 2], .agg [.int .u8 2], .agg [.int .u8 2], .agg [.int .u8 2], .agg [.int .u8 2], .agg [.int .u8 2], .agg [.int .u8 2]], .bool false]]], [.imm 2 [.agg [.imm 1 [.agg [.int .u8 1], .agg [.int .u8 0], .agg [.int .u8 1], .agg [.int .u8 1]], .bool true]]], [.imm 2 [.agg [.imm 1 [.agg [.int .u8 2], .agg [.int .u8 2], .agg [.int .u8 2], .agg [.int .u8 2]], .bool false]]], [.imm 2 [.agg [.imm 1 [.agg [.int .u8 2], .agg [.int .u8 2], .agg [.int .u8 2], .agg [.int .u8 2]], .bool false]]]]
theorem row0 : El.RowOK SpE [.imm 2 [.agg [.imm 1 [.agg [.int .u8 0], .agg [.int .u8 1], .agg [.int .u8 0], .agg [.int .u8 1]], .bool false]]] (wsA 0) := by
  refine ⟨_, rfl, rfl, by decide, fun x hx => ?_⟩
  simp only [wsA, List.mem_cons, List.not_mem_nil, or_false] at hx
  subst hx
  exact ⟨_, _, _, rfl, rfl, rfl, ks44_0⟩
theorem row1 : El.RowOK SpE [.imm 2 [.agg [.imm 1 [.agg [.int .u8 1], .agg [.int .u8 0], .agg [.int .u8 0], .agg [.int .u8 0], .agg [.int .u8 0], .agg [.int .u8 0], .agg [.int .u8 0], .agg [.int .u8 0]], .bool false]]] (wsA 1) := by
  refine ⟨_, rfl, rfl, by decide, fun x hx => ?_⟩
  simp only [wsA, List.mem_cons, List.not_mem_nil, or_false] at hx
  subst hx
  exact ⟨_, _, _, rfl, rfl, rfl, ks44_1⟩
theorem row2 : El.RowOK SpE [.imm 2 [.agg [.imm 1 [.agg [.int .u8 0], .agg [.int .u8 1], .agg [.int .u8 0], .agg [.int .u8 1]], .bool false]]] (wsA 2) := by
  refine ⟨_, rfl, rfl, by decide, fun x hx => ?_⟩
  simp only [wsA, List.mem_cons, List.not_mem_nil, or_false] at hx
  subst hx
  exact ⟨_, _, _, rfl, rfl, rfl, ks44_0⟩
theorem row3 : El.RowOK SpE [.imm 2 [.agg [.imm 1 [.agg [.int .u8 2], .agg [.int .u8 2], .agg [.int .u8 2], .agg [.int .u8 2], .agg [.int .u8 2], .agg [.int .u8 2], .agg [.int .u8 2], .agg [.int .u8 2]], .bool false], .agg [.imm 1 [.agg [.int .u8 2], .agg [.int .u8 2], .agg [.int .u8 2], .agg [.int .u8 2], .agg [.int .u8 2], .agg [.int .u8 2], .agg [.int .u8 2], .agg [.int .u8 2]], .bool false], .agg [.imm 1 [.agg [.int .u8 0], .agg [.int .u8 0], .agg [.int .u8 0], .agg [.int .u8 0], .agg [.int .u8 1], .agg [.int .u8 1], .agg [.int .u8 1], .agg [.int .u8 1]], .bool false], .agg [.imm 1 [.agg [.int .u8 2], .agg [.int .u8 2], .agg [.int .u8 2], .agg [.int .u8 2], .agg [.int .u8 2], .agg [.int .u8 2], .agg [.int .u8 2], .agg [.int .u8 2]], .bool false]]] (wsA 3) := by
  refine ⟨_, rfl, rfl, by decide, fun x hx => ?_⟩
  simp only [wsA, List.mem_cons, List.not_mem_nil, or_false] at hx
  rcases hx with rfl | rfl | rfl | rfl
  · exact ⟨_, _, _, rfl, rfl, rfl, ks44_2⟩
  · exact ⟨_, _, _, rfl, rfl, rfl, ks44_2⟩
  · exact ⟨_, _, _, rfl, rfl, rfl, ks44_3⟩
  · exact ⟨_, _, _, rfl, rfl, rfl, ks44_2⟩
theorem row4 : El.RowOK SpE [.imm 2 [.agg [.imm 1 [.agg [.int .u8 1], .agg [.int .u8 0], .agg [.int .u8 1], .agg [.int .u8 1]], .bool true]]] (wsA 4) := by
  refine ⟨_, rfl, rfl, by decide, fun x hx => ?_⟩
  simp only [wsA, List.mem_cons, List.not_mem_nil, or_false] at hx
  subst hx
  exact ⟨_, _, _, rfl, rfl, rfl, ks44_4⟩
theorem row5 : El.RowOK SpE [.imm 2 [.agg [.imm 1 [.agg [.int .u8 2], .agg [.int .u8 2], .agg [.int .u8 2], .agg [.int .u8 2]], .bool false]]] (wsA 5) := by
  refine ⟨_, rfl, rfl, by decide, fun x hx => ?_⟩
  simp only [wsA, List.mem_cons, List.not_mem_nil, or_false] at hx
  subst hx
  exact ⟨_, _, _, rfl, rfl, rfl, ks44_5⟩
theorem row6 : El.RowOK SpE [.imm 2 [.agg [.imm 1 [.agg [.int .u8 2], .agg [.int .u8 2], .agg [.int .u8 2], .agg [.int .u8 2]], .bool false]]] (wsA 6) := by
  refine ⟨_, rfl, rfl, by decide, fun x hx => ?_⟩
  simp only [wsA, List.mem_cons, List.not_mem_nil, or_false] at hx
  subst hx
  exact ⟨_, _, _, rfl, rfl, rfl, ks44_5⟩
theorem rowsA : ∀ j r, rvA[j]? = some r → El.RowOK SpE r (wsA j) := by
  intro j r h
  match j, h with
  | 0, h => injection h with h; subst h; exact row0
  | 1, h => injection h with h; subst h; exact row1
  | 2, h => injection h with h; subst h; exact row2
  | 3, h => injection h with h; subst h; exact row3
  | 4, h => injection h with h; subst h; exact row4
  | 5, h => injection h with h; subst h; exact row5
  | 6, h => injection h with h; subst h; exact row6
  | _ + 7, h => cases h
theorem known17 : Known Tryz.prog 17 [xA, uA, sA] (.tup [.agg [.nils, .bool false], .int .i64 15]) := by
  obtain ⟨n, hn⟩ : ∃ n, n = 20010 := ⟨_, rfl⟩
  obtain ⟨L', h⟩ := El.endless_run (tm := (.int .i64 9)) (vs := (.imm 1 [.agg [.imm 2 [.agg [.imm 1 [.agg [.int .u8 0], .agg [.int .u8 1], .agg [.int .u8 0], .agg [.int .u8 1]], .bool false]]], .agg [.imm 2 [.agg [.imm 1 [.agg [.int .u8 1], .agg [.int .u8 0], .agg [.int .u8 0], .agg [.int .u8 0], .agg [.int .u8 0], .agg [.int .u8 0], .agg [.int .u8 0], .agg [.int .u8 0]], .bool false]]], .agg [.imm 2 [.agg [.imm 1 [.agg [.int .u8 0], .agg [.int .u8 1], .agg [.int .u8 0], .agg [.int .u8 1]], .bool false]]], .agg [.imm 2 [.agg [.imm 1 [.agg [.int .u8 2], .agg [.int .u8 2], .agg [.int .u8 2], .agg [.int .u8 2], .agg [.int .u8 2], .agg [.int .u8 2], .agg [.int .u8 2], .agg [.int .u8 2]], .bool false], .agg [.imm 1 [.agg [.int .u8 2], .agg [.int .u8 2], .agg [.int .u8 2], .agg [.int .u8 2], .agg [.int .u8 2], .agg [.int .u8 2], .agg [.int .u8 2], .agg [.int .u8 2]], .bool false], .agg [.imm 1 [.agg [.int .u8 0], .agg [.int .u8 0], .agg [.int .u8 0], .agg [.int .u8 0], .agg [.int .u8 1], .agg [.int .u8 1], .agg [.int .u8 1], .agg [.int .u8 1]], .bool false], .agg [.imm 1 [.agg [.int .u8 2], .agg [.int .u8 2], .agg [.int .u8 2], .agg [.int .u8 2], .agg [.int .u8 2], .agg [.int .u8 2], .agg [.int .u8 2], .agg [.int .u8 2]], .bool false]]], .agg [.imm 2 [.agg [.imm 1 [.agg [.int .u8 1], .agg [.int .u8 0], .agg [.int .u8 1], .agg [.int .u8 1]], .bool true]]], .agg [.imm 2 [.agg [.imm 1 [.agg [.int .u8 2], .agg [.int .u8 2], .agg [.int .u8 2], .agg [.int .u8 2]], .bool false]]], .agg [.imm 2 [.agg [.imm 1 [.agg [.int .u8 2], .agg [.int .u8 2], .agg [.int .u8 2], .agg [.int .u8 2]], .bool false]]]])) (d0 := (.imm 10 [.agg [.str [97], .int .u8 0, .int .u8 0, .int .i64 4, .bool false, .int .i64 3, .int .i64 0, .int .i64 0, .int .i64 0, .int .i64 0], .agg [.str [98], .int .u8 0, .int .u8 0, .int .i64 8, .bool false, .int .i64 7, .int .i64 0, .int .i64 0, .int .i64 0, .int .i64 0], .agg [.str [114], .int .u8 0, .int .u8 0, .int .i64 4, .bool false, .int .i64 0, .int .i64 3, .int .i64 0, .int .i64 0, .int .i64 0], .agg [.str [109], .int .u8 0, .int .u8 0, .int .i64 8, .bool false, .int .i64 7, .int .i64 0, .int .i64 4, .int .i64 0, .int .i64 3], .agg [.str [115], .int .u8 0, .int .u8 0, .int .i64 4, .bool true, .int .i64 3, .int .i64 0, .int .i64 0, .int .i64 0, .int .i64 0], .agg [.str [102, 46, 102], .int .u8 0, .int .u8 0, .int .i64 4, .bool false, .int .i64 3, .int .i64 0, .int .i64 0, .int .i64 0, .int .i64 0], .agg [.str [102, 46, 120], .int .u8 0, .int .u8 0, .int .i64 4, .bool false, .int .i64 3, .int .i64 0, .int .i64 0, .int .i64 0, .int .i64 0]])) (d1 := .nils) (d2 := .nils) (d3 := (.imm 36 [.agg [.str [102], .int .i64 6, .imm 1 [.agg [.int .i64 7]], .int .u8 8, .str [], .str [], .int .u8 1, .str [], .imm 1 [.agg [.int .u8 1]], .bool false, .nils, .int .i64 0, .int .i64 1, .bool false, .int .u8 0, .str [], .nils, .bool false, .nils, .int .i64 0, .int .i64 0, .bool false, .int .u8 0, .str [], .nils, .bool false, .nils, .int .i64 0, .int .i64 0, .bool false, .int .i64 0, .nils, .nils, .imm 33 [.agg [.int .u8 1, .str [], .str [], .int .u8 0, .str [], .nils, .bool false, .nils, .int .i64 0, .int .i64 0, .bool false, .int .u8 0, .str [], .nils, .bool false, .nils, .int .i64 0, .int .i64 0, .bool false, .int .u8 0, .str [], .nils, .bool false, .nils, .int .i64 0, .int .i64 0, .bool false, .int .i64 0, .nils, .nils, .nils, .nils, .nils]], .nils, .nils]])) envC envA (fun _ _ h => h) (fun _ _ h => h) (fun _ _ h => h) (fun _ _ h => h) (fun _ _ h => h) rfl rfl rfl rfl rfl (rv := rvA) (wss := wsA) rfl (by decide) rowsA
    (cn := [102]) (nm := []) (sg := 0) (x2 := .nils) (x3 := (.bool false)) (av := (.imm 8 [.agg [.int .u8 1, .str [], .imm 1 [.agg [.int .u8 1], .agg [.int .u8 1], .agg [.int .u8 0], .agg [.int .u8 1]], .bool false, .nils, .int .i64 0, .int .i64 4, .bool false]])) (ci := 0) (cw := 4) (cs := false) rfl rfl
    (fnm := [102]) (ri := 5) (xi := 6) (ins := (.imm 1 [.agg [.int .i64 7]])) (n1 := []) (n2 := []) (nm2 := []) (sg2 := 0) (bd := (.imm 33 [.agg [.int .u8 1, .str [], .str [], .int .u8 0, .str [], .nils, .bool false, .nils, .int .i64 0, .int .i64 0, .bool false, .int .u8 0, .str [], .nils, .bool false, .nils, .int .i64 0, .int .i64 0, .bool false, .int .u8 0, .str [], .nils, .bool false, .nils, .int .i64 0, .int .i64 0, .bool false, .int .i64 0, .nils, .nils, .nils, .nils, .nils]])) rfl rfl (by decide) rfl rfl rfl (by decide) (by decide) (by decide) rfl rfl rfl (gr := [.str [102, 46, 102], .int .u8 0, .int .u8 0, .int .i64 4, .bool false, .int .i64 3, .int .i64 0, .int .i64 0, .int .i64 0, .int .i64 0]) rfl rfl (wx := 4) (sx := false) rfl
    (u1 := (.imm 1 [.agg [.int .u8 2], .agg [.int .u8 2], .agg [.int .u8 2], .agg [.int .u8 2]])) (u2 := (.bool false)) (v1 := (.imm 1 [.agg [.int .u8 1], .agg [.int .u8 1], .agg [.int .u8 0], .agg [.int .u8 1]])) (v2 := (.bool false)) (er := .int .i64 0) (z1 := (.imm 1 [.agg [.int .u8 1], .agg [.int .u8 1], .agg [.int .u8 0], .agg [.int .u8 1]])) (z2 := (.bool false)) (q1 := (.imm 1 [.agg [.int .u8 2], .agg [.int .u8 2], .agg [.int .u8 2], .agg [.int .u8 2]])) (q2 := (.bool false)) (er' := .int .i64 0) rfl rfl rfl rfl rfl rfl rfl rfl ks23_0 ks27_1 ks140_1 ks140_2 ks27_2 n (by omega)
  refine ⟨_, _, 10, _, _, askC_ok mix (memoS_ok Tryz.prog SpE), h, ?_⟩
  rfl

def ans17 : V := .tup [.agg [.nils, .bool false], .int .i64 15]
noncomputable def memo1 : Memo := fun f => @Bool.rec (fun _ => Option (List V → Option V)) (memo1a f) (some (look3 [([xA, uA, sA], ans17)])) (Nat.beq f 17)
theorem memo1_ok : MemoOK Tryz.prog memo1 := by
  intro f g key v h hk
  cases hb : Nat.beq f 17 with
  | false => simp only [memo1, hb] at h; exact memo1a_ok f g key v h hk
  | true =>
    simp only [memo1, hb] at h
    injection h with h; subst h
    have : f = 17 := Nat.eq_of_beq_eq_true hb
    subst this
    have := look3_ok _ _ _ hk
    simp only [List.mem_cons, List.not_mem_nil, or_false, Prod.mk.injEq] at this
    obtain ⟨rfl, rfl⟩ := this
    exact known17
end Go.Proofs.YtoleefgpfkpokaaGreatDoor.Run
