/- A run under the evaluator, part 1: no statement of its own. -/
import Derived.Test.YtfcofhdjhlfoeaaGreatVm6
import Derived.Test.YtfcofhdjhlfoeaaGreatProg
import Derived.KernelRfl
set_option autoImplicit false
set_option maxRecDepth 100000
set_option linter.unusedSectionVars false
set_option linter.unusedVariables false
set_option linter.unusedSimpArgs false
set_option linter.unusedVariables false
open Go Go.Vm Go.Proofs
namespace Bt
variable [Gl]
theorem mix : Tryz.prog.follows .mixedOrders = true := by kernel_rfl
@[go_sem] theorem nt3 : Tryz.f3.ntmps = 82 := (rfl)
@[go_sem] theorem len23 {call : CallF} {t : Tm} {S : St} {d : Option Nat} {ty : TypeId} {pos : String} {af : Array Edge} {g : Option (Nat × Bool)} {x : Operand} : evOp Tryz.prog call ⟨d, .call ⟨.builtin .len, #[x], #[23]⟩, ty, pos, af, g⟩ t S = lenR (lenOf (opd t x)) S := e_lenSl Tryz.underlying23
@[go_sem] theorem zero4 : zeroOf Tryz.prog 4 = some [.bool false] := by kernel_rfl
@[go_sem] theorem sz4 : szT Tryz.prog 4 = some 1 := by kernel_rfl
@[go_sem] theorem bs30 {call : CallF} {t : Tm} {S : St} {d : Option Nat} {ty : TypeId} {pos : String} {af : Array Edge} {g : Option (Nat × Bool)} {m : Nat} {ps : Array (Nat × Operand)} : evOp Tryz.prog call ⟨d, .buildSlice 30 m ps, ty, pos, af, g⟩ t S = buildS (zeroOf Tryz.prog 4) (szT Tryz.prog 4) m t ps.toList S := e_buildSlice Tryz.underlying30
@[go_sem] theorem ap30_30 {call : CallF} {t : Tm} {S : St} {d : Option Nat} {ty : TypeId} {pos : String} {af : Array Edge} {g : Option (Nat × Bool)} {x y : Operand} : evOp Tryz.prog call ⟨d, .call ⟨.builtin .append, #[x, y], #[30, 30]⟩, ty, pos, af, g⟩ t S = opAppend2 Tryz.prog 30 (opd t x) (opd t y) S := e_append Tryz.underlying30
theorem bytes4 : decide (Tryz.prog.bytesOf 4 ≤ 2 ^ 16 ∧ (zeroOf Tryz.prog 4).map List.length = some 1) = true := by kernel_rfl
@[go_sem] theorem sz5 : szT Tryz.prog 5 = some 1 := by kernel_rfl
@[go_sem] theorem ia23 (x i : V) : opIndexAddr Tryz.prog 23 x i = idxAddr 1 x i := indexAddr_eq Tryz.underlying23 sz5 x i
theorem isAgg5 : isAggT Tryz.prog 5 = some false := by kernel_rfl
@[go_sem] theorem ld5 (a : V) (S : St) : opLoad Tryz.prog 5 a S = hd1 (cellsAt S a) := load_cell isAgg5 a S
@[go_sem] theorem zero32 : zeroOf Tryz.prog 32 = some [.int .i64 0] := by kernel_rfl
@[go_sem] theorem sz32 : szT Tryz.prog 32 = some 1 := by kernel_rfl
@[go_sem] theorem bs29 {call : CallF} {t : Tm} {S : St} {d : Option Nat} {ty : TypeId} {pos : String} {af : Array Edge} {g : Option (Nat × Bool)} {m : Nat} {ps : Array (Nat × Operand)} : evOp Tryz.prog call ⟨d, .buildSlice 29 m ps, ty, pos, af, g⟩ t S = buildS (zeroOf Tryz.prog 32) (szT Tryz.prog 32) m t ps.toList S := e_buildSlice Tryz.underlying29
@[go_sem] theorem ap29_29 {call : CallF} {t : Tm} {S : St} {d : Option Nat} {ty : TypeId} {pos : String} {af : Array Edge} {g : Option (Nat × Bool)} {x y : Operand} : evOp Tryz.prog call ⟨d, .call ⟨.builtin .append, #[x, y], #[29, 29]⟩, ty, pos, af, g⟩ t S = opAppend2 Tryz.prog 29 (opd t x) (opd t y) S := e_append Tryz.underlying29
theorem bytes32 : decide (Tryz.prog.bytesOf 32 ≤ 2 ^ 16 ∧ (zeroOf Tryz.prog 32).map List.length = some 1) = true := by kernel_rfl
@[go_sem] theorem ia30 (x i : V) : opIndexAddr Tryz.prog 30 x i = idxAddr 1 x i := indexAddr_eq Tryz.underlying30 sz4 x i
theorem isAgg4 : isAggT Tryz.prog 4 = some false := by kernel_rfl
@[go_sem] theorem ld4 (a : V) (S : St) : opLoad Tryz.prog 4 a S = hd1 (cellsAt S a) := load_cell isAgg4 a S
@[go_sem] theorem beq4 (a b : Bool) : binV Tryz.prog .eql 4 (.bool a) (.bool b) = some (.bool (a == b)) := bin_beql Tryz.underlying4 a b
@[go_sem] theorem bne4 (a b : Bool) : binV Tryz.prog .neq 4 (.bool a) (.bool b) = some (.bool (!(a == b))) := bin_bneq Tryz.underlying4 a b
@[go_sem] theorem zero31 : zeroOf Tryz.prog 31 = some [.int .u8 0] := by kernel_rfl
@[go_sem] theorem sz31 : szT Tryz.prog 31 = some 1 := by kernel_rfl
@[go_sem] theorem bs35 {call : CallF} {t : Tm} {S : St} {d : Option Nat} {ty : TypeId} {pos : String} {af : Array Edge} {g : Option (Nat × Bool)} {m : Nat} {ps : Array (Nat × Operand)} : evOp Tryz.prog call ⟨d, .buildSlice 35 m ps, ty, pos, af, g⟩ t S = buildS (zeroOf Tryz.prog 31) (szT Tryz.prog 31) m t ps.toList S := e_buildSlice Tryz.underlying35
@[go_sem] theorem nt5 : Tryz.f5.ntmps = 32 := (rfl)
@[go_sem] theorem zero67 : zeroOf Tryz.prog 67 = some [.bool false, .int .i64 0, .int .i64 0, .nils, .nilm, .int .i64 0] := by kernel_rfl
@[go_sem] theorem pl67 : placesOf Tryz.prog 67 = some (plL [(0, 1), (1, 1), (2, 1), (3, 1), (4, 1), (5, 1)]) := by kernel_rfl
@[go_sem] theorem nt6 : Tryz.f6.ntmps = 64 := (rfl)
@[go_sem] theorem zero70 : zeroOf Tryz.prog 70 = some [.int .i64 0, .nils, .nils, .nils] := by kernel_rfl
theorem cells70 : Tryz.prog.cellsOf 70 = 4 := by kernel_rfl
theorem isAgg70 : isAggT Tryz.prog 70 = some true := by kernel_rfl
@[go_sem] theorem st70 (a x : V) (S : St) : opStore Tryz.prog 70 a x S = stA 4 a x S := store_agg isAgg70 cells70 a x S
@[go_sem] theorem ld70 (a : V) (S : St) : opLoad Tryz.prog 70 a S = takeN 4 (cellsAt S a) := load_agg isAgg70 cells70 a S
@[go_sem] theorem len30 {call : CallF} {t : Tm} {S : St} {d : Option Nat} {ty : TypeId} {pos : String} {af : Array Edge} {g : Option (Nat × Bool)} {x : Operand} : evOp Tryz.prog call ⟨d, .call ⟨.builtin .len, #[x], #[30]⟩, ty, pos, af, g⟩ t S = lenR (lenOf (opd t x)) S := e_lenSl Tryz.underlying30
@[go_sem] theorem len35 {call : CallF} {t : Tm} {S : St} {d : Option Nat} {ty : TypeId} {pos : String} {af : Array Edge} {g : Option (Nat × Bool)} {x : Operand} : evOp Tryz.prog call ⟨d, .call ⟨.builtin .len, #[x], #[35]⟩, ty, pos, af, g⟩ t S = lenR (lenOf (opd t x)) S := e_lenSl Tryz.underlying35
@[go_sem] theorem ia35 (x i : V) : opIndexAddr Tryz.prog 35 x i = idxAddr 1 x i := indexAddr_eq Tryz.underlying35 sz31 x i
theorem isAgg31 : isAggT Tryz.prog 31 = some false := by kernel_rfl
@[go_sem] theorem ld31 (a : V) (S : St) : opLoad Tryz.prog 31 a S = hd1 (cellsAt S a) := load_cell isAgg31 a S
@[go_sem] theorem nt7 : Tryz.f7.ntmps = 9 := (rfl)
@[go_sem] theorem nt17 : Tryz.f17.ntmps = 46 := (rfl)
@[go_sem] theorem pl70 : placesOf Tryz.prog 70 = some (plL [(0, 1), (1, 1), (2, 1), (3, 1)]) := by kernel_rfl
@[go_sem] theorem len68 {call : CallF} {t : Tm} {S : St} {d : Option Nat} {ty : TypeId} {pos : String} {af : Array Edge} {g : Option (Nat × Bool)} {x : Operand} : evOp Tryz.prog call ⟨d, .call ⟨.builtin .len, #[x], #[68]⟩, ty, pos, af, g⟩ t S = lenR (lenOf (opd t x)) S := e_lenSl Tryz.underlying68
@[go_sem] theorem fa67_2 (x : V) : opFieldAddr Tryz.prog 67 x 2 = addrAdd 2 x := by kernel_rfl
theorem isAgg3 : isAggT Tryz.prog 3 = some false := by kernel_rfl
@[go_sem] theorem ld3 (a : V) (S : St) : opLoad Tryz.prog 3 a S = hd1 (cellsAt S a) := load_cell isAgg3 a S
@[go_sem] theorem fa67_1 (x : V) : opFieldAddr Tryz.prog 67 x 1 = addrAdd 1 x := by kernel_rfl
@[go_sem] theorem fa67_3 (x : V) : opFieldAddr Tryz.prog 67 x 3 = addrAdd 3 x := by kernel_rfl
theorem isAgg65 : isAggT Tryz.prog 65 = some false := by kernel_rfl
@[go_sem] theorem ld65 (a : V) (S : St) : opLoad Tryz.prog 65 a S = hd1 (cellsAt S a) := load_cell isAgg65 a S
@[go_sem] theorem nt18 : Tryz.f18.ntmps = 28 := (rfl)
@[go_sem] theorem nt19 : Tryz.f19.ntmps = 21 := (rfl)
@[go_sem] theorem len29 {call : CallF} {t : Tm} {S : St} {d : Option Nat} {ty : TypeId} {pos : String} {af : Array Edge} {g : Option (Nat × Bool)} {x : Operand} : evOp Tryz.prog call ⟨d, .call ⟨.builtin .len, #[x], #[29]⟩, ty, pos, af, g⟩ t S = lenR (lenOf (opd t x)) S := e_lenSl Tryz.underlying29
@[go_sem] theorem ia29 (x i : V) : opIndexAddr Tryz.prog 29 x i = idxAddr 1 x i := indexAddr_eq Tryz.underlying29 sz32 x i
theorem isAgg32 : isAggT Tryz.prog 32 = some false := by kernel_rfl
@[go_sem] theorem ld32 (a : V) (S : St) : opLoad Tryz.prog 32 a S = hd1 (cellsAt S a) := load_cell isAgg32 a S
@[go_sem] theorem nt20 : Tryz.f20.ntmps = 21 := (rfl)
@[go_sem] theorem nt33 : Tryz.f33.ntmps = 9 := (rfl)
@[go_sem] theorem fa67_5 (x : V) : opFieldAddr Tryz.prog 67 x 5 = addrAdd 5 x := by kernel_rfl
theorem isAgg26 : isAggT Tryz.prog 26 = some false := by kernel_rfl
@[go_sem] theorem ld26 (a : V) (S : St) : opLoad Tryz.prog 26 a S = hd1 (cellsAt S a) := load_cell isAgg26 a S
@[go_sem] theorem nt34 : Tryz.f34.ntmps = 8 := (rfl)
@[go_sem] theorem bnil68 (x : V) : binV Tryz.prog .eql 68 x .nils = (isNils x).map V.bool := bin_nils Tryz.underlying68 x
@[go_sem] theorem zero100 : zeroOf Tryz.prog 100 = some [.int .i64 0, .int .u8 0] := by kernel_rfl
@[go_sem] theorem sz100 : szT Tryz.prog 100 = some 2 := by kernel_rfl
@[go_sem] theorem bs68 {call : CallF} {t : Tm} {S : St} {d : Option Nat} {ty : TypeId} {pos : String} {af : Array Edge} {g : Option (Nat × Bool)} {m : Nat} {ps : Array (Nat × Operand)} : evOp Tryz.prog call ⟨d, .buildSlice 68 m ps, ty, pos, af, g⟩ t S = buildS (zeroOf Tryz.prog 100) (szT Tryz.prog 100) m t ps.toList S := e_buildSlice Tryz.underlying68
@[go_sem] theorem ap68_68 {call : CallF} {t : Tm} {S : St} {d : Option Nat} {ty : TypeId} {pos : String} {af : Array Edge} {g : Option (Nat × Bool)} {x y : Operand} : evOp Tryz.prog call ⟨d, .call ⟨.builtin .append, #[x, y], #[68, 68]⟩, ty, pos, af, g⟩ t S = opAppend2 Tryz.prog 68 (opd t x) (opd t y) S := e_append Tryz.underlying68
theorem bytes100 : decide (Tryz.prog.bytesOf 100 ≤ 2 ^ 16 ∧ (zeroOf Tryz.prog 100).map List.length = some 2) = true := by kernel_rfl
@[go_sem] theorem nt35 : Tryz.f35.ntmps = 8 := (rfl)
@[go_sem] theorem bnil65 (x : V) : binV Tryz.prog .eql 65 x .nils = (isNils x).map V.bool := bin_nils Tryz.underlying65 x
@[go_sem] theorem zero103 : zeroOf Tryz.prog 103 = some [.int .i64 0, .int .i64 0] := by kernel_rfl
@[go_sem] theorem sz103 : szT Tryz.prog 103 = some 2 := by kernel_rfl
@[go_sem] theorem bs65 {call : CallF} {t : Tm} {S : St} {d : Option Nat} {ty : TypeId} {pos : String} {af : Array Edge} {g : Option (Nat × Bool)} {m : Nat} {ps : Array (Nat × Operand)} : evOp Tryz.prog call ⟨d, .buildSlice 65 m ps, ty, pos, af, g⟩ t S = buildS (zeroOf Tryz.prog 103) (szT Tryz.prog 103) m t ps.toList S := e_buildSlice Tryz.underlying65
@[go_sem] theorem ap65_65 {call : CallF} {t : Tm} {S : St} {d : Option Nat} {ty : TypeId} {pos : String} {af : Array Edge} {g : Option (Nat × Bool)} {x y : Operand} : evOp Tryz.prog call ⟨d, .call ⟨.builtin .append, #[x, y], #[65, 65]⟩, ty, pos, af, g⟩ t S = opAppend2 Tryz.prog 65 (opd t x) (opd t y) S := e_append Tryz.underlying65
theorem bytes103 : decide (Tryz.prog.bytesOf 103 ≤ 2 ^ 16 ∧ (zeroOf Tryz.prog 103).map List.length = some 2) = true := by kernel_rfl
@[go_sem] theorem nt36 : Tryz.f36.ntmps = 8 := (rfl)
@[go_sem] theorem bnil29 (x : V) : binV Tryz.prog .eql 29 x .nils = (isNils x).map V.bool := bin_nils Tryz.underlying29 x
@[go_sem] theorem nt37 : Tryz.f37.ntmps = 91 := (rfl)
@[go_sem] theorem fa70_0 (x : V) : opFieldAddr Tryz.prog 70 x 0 = addrAdd 0 x := by kernel_rfl
@[go_sem] theorem fa70_3 (x : V) : opFieldAddr Tryz.prog 70 x 3 = addrAdd 3 x := by kernel_rfl
theorem isAgg29 : isAggT Tryz.prog 29 = some false := by kernel_rfl
@[go_sem] theorem ld29 (a : V) (S : St) : opLoad Tryz.prog 29 a S = hd1 (cellsAt S a) := load_cell isAgg29 a S
@[go_sem] theorem fa70_2 (x : V) : opFieldAddr Tryz.prog 70 x 2 = addrAdd 2 x := by kernel_rfl
@[go_sem] theorem len65 {call : CallF} {t : Tm} {S : St} {d : Option Nat} {ty : TypeId} {pos : String} {af : Array Edge} {g : Option (Nat × Bool)} {x : Operand} : evOp Tryz.prog call ⟨d, .call ⟨.builtin .len, #[x], #[65]⟩, ty, pos, af, g⟩ t S = lenR (lenOf (opd t x)) S := e_lenSl Tryz.underlying65
@[go_sem] theorem ia65 (x i : V) : opIndexAddr Tryz.prog 65 x i = idxAddr 2 x i := indexAddr_eq Tryz.underlying65 sz103 x i
theorem isAgg103 : isAggT Tryz.prog 103 = some true := by kernel_rfl
theorem cells103 : Tryz.prog.cellsOf 103 = 2 := by kernel_rfl
@[go_sem] theorem ld103 (a : V) (S : St) : opLoad Tryz.prog 103 a S = takeN 2 (cellsAt S a) := load_agg isAgg103 cells103 a S
@[go_sem] theorem st103 (a x : V) (S : St) : opStore Tryz.prog 103 a x S = stA 2 a x S := store_agg isAgg103 cells103 a x S
@[go_sem] theorem fa103_0 (x : V) : opFieldAddr Tryz.prog 103 x 0 = addrAdd 0 x := by kernel_rfl
@[go_sem] theorem fa103_1 (x : V) : opFieldAddr Tryz.prog 103 x 1 = addrAdd 1 x := by kernel_rfl
@[go_sem] theorem fa70_1 (x : V) : opFieldAddr Tryz.prog 70 x 1 = addrAdd 1 x := by kernel_rfl
theorem isAgg68 : isAggT Tryz.prog 68 = some false := by kernel_rfl
@[go_sem] theorem ld68 (a : V) (S : St) : opLoad Tryz.prog 68 a S = hd1 (cellsAt S a) := load_cell isAgg68 a S
@[go_sem] theorem ia68 (x i : V) : opIndexAddr Tryz.prog 68 x i = idxAddr 2 x i := indexAddr_eq Tryz.underlying68 sz100 x i
theorem isAgg100 : isAggT Tryz.prog 100 = some true := by kernel_rfl
theorem cells100 : Tryz.prog.cellsOf 100 = 2 := by kernel_rfl
@[go_sem] theorem ld100 (a : V) (S : St) : opLoad Tryz.prog 100 a S = takeN 2 (cellsAt S a) := load_agg isAgg100 cells100 a S
@[go_sem] theorem st100 (a x : V) (S : St) : opStore Tryz.prog 100 a x S = stA 2 a x S := store_agg isAgg100 cells100 a x S
@[go_sem] theorem fa100_0 (x : V) : opFieldAddr Tryz.prog 100 x 0 = addrAdd 0 x := by kernel_rfl
@[go_sem] theorem fa100_1 (x : V) : opFieldAddr Tryz.prog 100 x 1 = addrAdd 1 x := by kernel_rfl
@[go_sem] theorem nt38 : Tryz.f38.ntmps = 31 := (rfl)
@[go_sem] theorem nt39 : Tryz.f39.ntmps = 41 := (rfl)
@[go_sem] theorem nt40 : Tryz.f40.ntmps = 12 := (rfl)
@[go_sem] theorem nt41 : Tryz.f41.ntmps = 90 := (rfl)
@[go_sem] theorem pl103 : placesOf Tryz.prog 103 = some (plL [(0, 1), (1, 1)]) := by kernel_rfl
@[go_sem] theorem fa67_4 (x : V) : opFieldAddr Tryz.prog 67 x 4 = addrAdd 4 x := by kernel_rfl
theorem isAgg64 : isAggT Tryz.prog 64 = some false := by kernel_rfl
@[go_sem] theorem ld64 (a : V) (S : St) : opLoad Tryz.prog 64 a S = hd1 (cellsAt S a) := load_cell isAgg64 a S
theorem cells65 : Tryz.prog.cellsOf 65 = 1 := by kernel_rfl
@[go_sem] theorem st65 (a x : V) (S : St) : opStore Tryz.prog 65 a x S = stC a x S := store_cell isAgg65 cells65 a x S
@[go_sem] theorem nt47 : Tryz.f47.ntmps = 12 := (rfl)
@[go_sem] theorem fa67_0 (x : V) : opFieldAddr Tryz.prog 67 x 0 = addrAdd 0 x := by kernel_rfl
@[go_sem] theorem nt48 : Tryz.f48.ntmps = 21 := (rfl)
theorem cells26 : Tryz.prog.cellsOf 26 = 1 := by kernel_rfl
@[go_sem] theorem st26 (a x : V) (S : St) : opStore Tryz.prog 26 a x S = stC a x S := store_cell isAgg26 cells26 a x S
@[go_sem] theorem nt51 : Tryz.f51.ntmps = 21 := (rfl)
@[go_sem] theorem nt73 : Tryz.f73.ntmps = 9 := (rfl)
@[go_sem] theorem nt74 : Tryz.f74.ntmps = 13 := (rfl)
@[go_sem] theorem nt75 : Tryz.f75.ntmps = 10 := (rfl)
@[go_sem] theorem nt76 : Tryz.f76.ntmps = 40 := (rfl)
@[go_sem] theorem ap158_30 {call : CallF} {t : Tm} {S : St} {d : Option Nat} {ty : TypeId} {pos : String} {af : Array Edge} {g : Option (Nat × Bool)} {x y : Operand} : evOp Tryz.prog call ⟨d, .call ⟨.builtin .append, #[x, y], #[158, 30]⟩, ty, pos, af, g⟩ t S = opAppend2 Tryz.prog 158 (opd t x) (opd t y) S := e_append Tryz.underlying30
@[go_sem] theorem bs158 {call : CallF} {t : Tm} {S : St} {d : Option Nat} {ty : TypeId} {pos : String} {af : Array Edge} {g : Option (Nat × Bool)} {m : Nat} {ps : Array (Nat × Operand)} : evOp Tryz.prog call ⟨d, .buildSlice 158 m ps, ty, pos, af, g⟩ t S = buildS (zeroOf Tryz.prog 4) (szT Tryz.prog 4) m t ps.toList S := e_buildSlice Tryz.underlying158
@[go_sem] theorem ap158_158 {call : CallF} {t : Tm} {S : St} {d : Option Nat} {ty : TypeId} {pos : String} {af : Array Edge} {g : Option (Nat × Bool)} {x y : Operand} : evOp Tryz.prog call ⟨d, .call ⟨.builtin .append, #[x, y], #[158, 158]⟩, ty, pos, af, g⟩ t S = opAppend2 Tryz.prog 158 (opd t x) (opd t y) S := e_append Tryz.underlying158
@[go_sem] theorem nt77 : Tryz.f77.ntmps = 14 := (rfl)
@[go_sem] theorem ia158 (x i : V) : opIndexAddr Tryz.prog 158 x i = idxAddr 1 x i := indexAddr_eq Tryz.underlying158 sz4 x i
@[go_sem] theorem nt78 : Tryz.f78.ntmps = 26 := (rfl)
end Bt

set_option linter.unusedVariables false
namespace Bt
/-! Literals, nodes, values: no program. -/
def of (v : List Bool) (x : Nat) : Bool := (v.getD (x / 2) false) != (x % 2 == 1)
def step (v : List Bool) (n : Nat × Nat) : List Bool := v ++ [of v n.1 && of v n.2]
def vals : List Bool → List (Nat × Nat) → List Bool
  | v, [] => v
  | v, n :: r => vals (step v n) r
theorem step_len (v : List Bool) (n : Nat × Nat) : (step v n).length = v.length + 1 := by simp [step]
theorem vals_len : ∀ (A : List (Nat × Nat)) (v : List Bool), (vals v A).length = v.length + A.length
  | [], v => by simp [vals]
  | n :: r, v => by simp only [vals, vals_len r, step_len, List.length_cons]; omega
theorem getD_step {v : List Bool} {n : Nat × Nat} {i : Nat} (h : i < v.length) : (step v n).getD i false = v.getD i false := by
  simp only [step, List.getD_eq_getElem?_getD]
  rw [List.getElem?_append_left h]
theorem getD_vals {i : Nat} : ∀ (A : List (Nat × Nat)) (v : List Bool), i < v.length → (vals v A).getD i false = v.getD i false
  | [], v, h => rfl
  | n :: r, v, h => by simp only [vals]; rw [getD_vals r _ (by rw [step_len]; omega), getD_step h]
theorem of_vals {x : Nat} (A : List (Nat × Nat)) (v : List Bool) (h : x / 2 < v.length) : of (vals v A) x = of v x := by
  simp only [of, getD_vals A v h]
theorem vals_snoc : ∀ (A : List (Nat × Nat)) (v : List Bool) (n : Nat × Nat), vals v (A ++ [n]) = step (vals v A) n
  | [], v, n => rfl
  | m :: r, v, n => by simp only [vals, List.cons_append]; exact vals_snoc r _ n
/-- Each node comes behind what it names. -/
def Good : Nat → List (Nat × Nat) → Prop
  | _, [] => True
  | k, n :: r => n.1 / 2 < k ∧ n.2 / 2 < k ∧ Good (k + 1) r
theorem good_snoc : ∀ {A : List (Nat × Nat)} {k : Nat} {n : Nat × Nat}, Good k A → n.1 / 2 < k + A.length → n.2 / 2 < k + A.length → Good k (A ++ [n])
  | [], k, n, _, h1, h2 => ⟨by simpa using h1, by simpa using h2, trivial⟩
  | m :: r, k, n, h, h1, h2 => ⟨h.1, h.2.1, good_snoc h.2.2 (by simp at h1; omega) (by simp at h2; omega)⟩
theorem good_get : ∀ {A : List (Nat × Nat)} {k i : Nat} {n : Nat × Nat}, Good k A → A[i]? = some n → n.1 / 2 < k + i ∧ n.2 / 2 < k + i
  | [], _, _, _, _, h => by simp at h
  | m :: r, k, 0, n, h, e => by simp at e; subst e; exact ⟨h.1, h.2.1⟩
  | m :: r, k, i + 1, n, h, e => by
    have := good_get h.2.2 (i := i) (n := n) (by simpa using e)
    omega
theorem vals_get : ∀ {A : List (Nat × Nat)} {v : List Bool} {i : Nat} {n : Nat × Nat}, Good v.length A → A[i]? = some n → (vals v A).getD (v.length + i) false = (of (vals v A) n.1 && of (vals v A) n.2)
  | [], _, _, _, _, h => by simp at h
  | m :: r, v, 0, n, h, e => by
    simp at e; subst e
    have hl := step_len v m
    simp only [vals]
    rw [of_vals r _ (by rw [hl]; have := h.1; omega), of_vals r _ (by rw [hl]; have := h.2.1; omega), getD_vals r _ (by rw [hl]; omega)]
    have e1 : of (step v m) m.1 = of v m.1 := by simp only [of, getD_step h.1]
    have e2 : of (step v m) m.2 = of v m.2 := by simp only [of, getD_step h.2.1]
    rw [e1, e2]
    simp [step, List.getD_eq_getElem?_getD]
  | m :: r, v, i + 1, n, h, e => by
    have hl := step_len v m
    have := vals_get (A := r) (v := step v m) (i := i) (n := n) (by rw [hl]; exact h.2.2) (by simpa using e)
    rw [hl] at this
    simp only [vals]
    rw [← this]
    congr 1; omega
def notS (x : Nat) : Nat := if x % 2 = 0 then x + 1 else x - 1
theorem notS_half (x : Nat) : notS x / 2 = x / 2 := by unfold notS; split <;> omega
theorem of_not (v : List Bool) (x : Nat) : of v (notS x) = !of v x := by
  unfold of
  rw [notS_half]
  have : ((notS x % 2 == 1) : Bool) = !(x % 2 == 1) := by
    unfold notS
    split
    · rename_i h
      have h1 : (x + 1) % 2 = 1 := by omega
      rw [h1, h]; rfl
    · rename_i h
      have h1 : x % 2 = 1 := by omega
      have h2 : (x - 1) % 2 = 0 := by omega
      rw [h1, h2]; rfl
  rw [this]
  cases v.getD (x / 2) false <;> cases (x % 2 == 1) <;> rfl
/-- Where a node lies. -/
def idx (n : Nat × Nat) : List (Nat × Nat) → Option Nat
  | [] => none
  | m :: r => if m = n then some 0 else (idx n r).map (· + 1)
theorem idx_get {n : Nat × Nat} : ∀ {A : List (Nat × Nat)} {i : Nat}, idx n A = some i → A[i]? = some n
  | [], _, h => by simp [idx] at h
  | m :: r, i, h => by
    simp only [idx] at h
    split at h
    · rename_i e; injection h with h; subst h; simp [e]
    · cases hr : idx n r with
      | none => rw [hr] at h; cases h
      | some j => rw [hr] at h; simp at h; subst h; simpa using idx_get hr
theorem idx_lt {n : Nat × Nat} {A : List (Nat × Nat)} {i : Nat} (h : idx n A = some i) : i < A.length := (List.getElem?_eq_some_iff.1 (idx_get h)).1
def andS (A : List (Nat × Nat)) (x y : Nat) : Nat × List (Nat × Nat) :=
  let a := min x y
  let b := max x y
  if a = 0 ∨ (a % 2 = 0 ∧ b = a + 1) then (0, A)
  else if a = 1 ∨ a = b then (b, A)
  else match idx (a, b) A with
    | some i => (2 * (9 + i), A)
    | none => (2 * (9 + A.length), A ++ [(a, b)])
theorem of_zero {v : List Bool} (h : v.getD 0 false = false) : of v 0 = false := by unfold of; rw [show 0 / 2 = 0 from rfl, h]; rfl
theorem of_one {v : List Bool} (h : v.getD 0 false = false) : of v 1 = true := by unfold of; rw [show 1 / 2 = 0 from rfl, h]; rfl
theorem and_minmax (v : List Bool) (x y : Nat) : (of v x && of v y) = (of v (min x y) && of v (max x y)) := by
  rcases Nat.le_total x y with h | h
  · rw [Nat.min_eq_left h, Nat.max_eq_right h]
  · rw [Nat.min_eq_right h, Nat.max_eq_left h, Bool.and_comm]
theorem even_of (v : List Bool) (i : Nat) : of v (2 * i) = v.getD i false := by
  unfold of
  rw [show 2 * i / 2 = i by omega, show 2 * i % 2 = 0 by omega]
  cases v.getD i false <;> rfl
/-- What And gives. -/
theorem andS_ok {v : List Bool} {A : List (Nat × Nat)} {x y : Nat} (hv : v.length = 9) (h0 : v.getD 0 false = false) (hG : Good 9 A) (hx : x / 2 < 9 + A.length) (hy : y / 2 < 9 + A.length) :
    of (vals v (andS A x y).2) (andS A x y).1 = (of (vals v A) x && of (vals v A) y) ∧ Good 9 (andS A x y).2 ∧ (andS A x y).1 / 2 < 9 + (andS A x y).2.length ∧ (∀ z, z / 2 < 9 + A.length → of (vals v (andS A x y).2) z = of (vals v A) z) ∧ (andS A x y).2.length ≤ A.length + 1 ∧ A.length ≤ (andS A x y).2.length := by
  have hz : (vals v A).getD 0 false = false := by rw [getD_vals A v (by omega)]; exact h0
  rw [and_minmax]
  have ha : min x y / 2 < 9 + A.length := by rcases Nat.le_total x y with h | h <;> simp [Nat.min_eq_left, Nat.min_eq_right, h] <;> omega
  have hb : max x y / 2 < 9 + A.length := by rcases Nat.le_total x y with h | h <;> simp [Nat.max_eq_left, Nat.max_eq_right, h] <;> omega
  unfold andS
  generalize min x y = a at ha ⊢
  generalize max x y = b at hb ⊢
  simp only
  split
  · rename_i h
    refine ⟨?_, hG, by simp; omega, fun z _ => rfl, by simp, by simp⟩
    simp only [of_zero hz]
    rcases h with h | ⟨h1, h2⟩
    · rw [h, of_zero hz]; rfl
    · have : b = notS a := by rw [h2]; simp [notS, h1]
      rw [this, of_not]
      cases of (vals v A) a <;> rfl
  · split
    · rename_i h
      refine ⟨?_, hG, hb, fun z _ => rfl, by simp, by simp⟩
      rcases h with h | h
      · rw [h, of_one hz]; rfl
      · rw [h]; simp
    · split
      · rename_i i hi
        have hlt := idx_lt hi
        refine ⟨?_, hG, by simp; omega, fun z _ => rfl, by simp, by simp⟩
        have := vals_get (v := v) (by rw [hv]; exact hG) (idx_get hi)
        rw [hv] at this
        simp only
        rw [even_of, this]
      · have hl := vals_len A v
        have hs : ∀ z, z / 2 < 9 + A.length → of (vals v (A ++ [(a, b)])) z = of (vals v A) z := by
          intro z hz
          rw [vals_snoc]
          simp only [of, getD_step (show z / 2 < (vals v A).length by omega)]
        refine ⟨?_, good_snoc hG ha hb, by simp, hs, by simp, by simp⟩
        rw [vals_snoc, even_of]
        simp only [step, List.getD_eq_getElem?_getD]
        rw [List.getElem?_append_right (by omega), show 9 + A.length - (vals v A).length = 0 by omega]
        rfl
def orS (A : List (Nat × Nat)) (x y : Nat) : Nat × List (Nat × Nat) := (notS (andS A (notS x) (notS y)).1, (andS A (notS x) (notS y)).2)
theorem orS_ok {v : List Bool} {A : List (Nat × Nat)} {x y : Nat} (hv : v.length = 9) (h0 : v.getD 0 false = false) (hG : Good 9 A) (hx : x / 2 < 9 + A.length) (hy : y / 2 < 9 + A.length) :
    of (vals v (orS A x y).2) (orS A x y).1 = (of (vals v A) x || of (vals v A) y) ∧ Good 9 (orS A x y).2 ∧ (orS A x y).1 / 2 < 9 + (orS A x y).2.length ∧ (∀ z, z / 2 < 9 + A.length → of (vals v (orS A x y).2) z = of (vals v A) z) ∧ (orS A x y).2.length ≤ A.length + 1 ∧ A.length ≤ (orS A x y).2.length := by
  obtain ⟨h1, h2, h3, h4, h5, h6⟩ := andS_ok (x := notS x) (y := notS y) hv h0 hG (by rw [notS_half]; exact hx) (by rw [notS_half]; exact hy)
  refine ⟨?_, h2, by simp only [orS, notS_half]; exact h3, h4, h5, h6⟩
  simp only [orS]
  rw [of_not, h1, of_not, of_not]
  cases of (vals v A) x <;> cases of (vals v A) y <;> rfl
def foldS : List (Nat × Nat) → Nat → List Nat → Nat × List (Nat × Nat)
  | A, acc, [] => (acc, A)
  | A, acc, x :: r => foldS (orS A acc x).2 (orS A acc x).1 r
theorem foldS_ok {v : List Bool} (hv : v.length = 9) (h0 : v.getD 0 false = false) : ∀ (l : List Nat) (A : List (Nat × Nat)) (acc : Nat), Good 9 A → acc / 2 < 9 + A.length → (∀ x ∈ l, x < 18) →
    of (vals v (foldS A acc l).2) (foldS A acc l).1 = (of (vals v A) acc || l.any fun x => of v x) ∧ Good 9 (foldS A acc l).2 ∧ (foldS A acc l).1 / 2 < 9 + (foldS A acc l).2.length ∧ (foldS A acc l).2.length ≤ A.length + l.length
  | [], A, acc, hG, ha, _ => by simp [foldS, hG, ha]
  | x :: r, A, acc, hG, ha, hl => by
    have hx := hl x (by simp)
    obtain ⟨h1, h2, h3, h4, h5, h6⟩ := orS_ok (x := acc) (y := x) hv h0 hG ha (by omega)
    obtain ⟨g1, g2, g3, g4⟩ := foldS_ok hv h0 r (orS A acc x).2 (orS A acc x).1 h2 h3 (fun y hy => hl y (by simp [hy]))
    refine ⟨?_, g2, g3, by simp only [foldS, List.length_cons]; omega⟩
    simp only [foldS, List.any_cons]
    rw [g1, h1, of_vals (x := x) A v (by omega), Bool.or_assoc]
end Bt

set_option linter.unusedVariables false
open Go Go.Vm Go.Proofs
namespace Bt
variable [Gl]
/-! The builder in memory. -/
def keyC (n : Nat × Nat) : List V := [.int .i64 (n.1 : Int), .int .i64 (n.2 : Int)]
def litV (k : Nat) : V := .int .i64 ((2 * k : Nat) : Int)
def ents : Nat → List (Nat × Nat) → List (V × V)
  | _, [] => []
  | k, n :: r => (.agg (keyC n), litV k) :: ents (k + 1) r
theorem ents_len : ∀ (A : List (Nat × Nat)) (k : Nat), (ents k A).length = A.length
  | [], _ => rfl
  | n :: r, k => by simp [ents, ents_len r]
theorem ents_snoc : ∀ (A : List (Nat × Nat)) (k : Nat) (n : Nat × Nat), ents k (A ++ [n]) = ents k A ++ [(.agg (keyC n), litV (k + A.length))]
  | [], k, n => by simp [ents]
  | m :: r, k, n => by simp only [List.cons_append, ents, ents_snoc r]; rw [show k + 1 + r.length = k + (m :: r).length by simp; omega]
def kk64 : KeyKind := .str 103 2
theorem simple64 : simpleK Tryz.prog 64 = some (kk64, 32) := by kernel_rfl
theorem zeroV32 : zeroV Tryz.prog 32 = some (.int .i64 0) := by kernel_rfl
theorem key_eq (a b : Nat × Nat) : eqOf Tryz.prog kk64 (.agg (keyC a)) (.agg (keyC b)) = some (decide (a = b)) := by
  have h1 : Tryz.prog.stoodInHeld 103 = false := by kernel_rfl
  have h2 : Tryz.prog.underlying 32 = some (.int .i64) := Tryz.underlying32
  simp only [eqOf, kk64, keyC, List.length_cons, List.length_nil, and_self, if_true, typedEq, Tryz.underlying103, h1]
  obtain ⟨a1, a2⟩ := a
  obtain ⟨b1, b2⟩ := b
  have q : ∀ x y : Nat, (((x : Int) == (y : Int)) : Bool) = decide (x = y) := by
    intro x y
    by_cases e : x = y
    · subst e; simp
    · rw [decide_eq_false e]
      have e' : ¬ (x : Int) = (y : Int) := by omega
      simp [e']
  simp only [fieldsEq, h2, scalarEq, List.getElem?_cons_zero, List.getElem?_cons_succ, q, Prod.mk.injEq]
  by_cases e1 : a1 = b1 <;> by_cases e2 : a2 = b2 <;> simp [e1, e2]

theorem find_ents (n : Nat × Nat) : ∀ (A : List (Nat × Nat)) (k : Nat), findM (eqOf Tryz.prog kk64) (.agg (keyC n)) (ents k A) = some ((idx n A).map fun i => litV (k + i))
  | [], k => rfl
  | m :: r, k => by
    simp only [ents, findM, key_eq, idx]
    by_cases e : n = m
    · subst e; simp
    · have e' : ¬ m = n := fun h => e h.symm
      simp only [decide_eq_false e, if_neg e', find_ents n r (k + 1), Option.map_map]
      congr 1
      cases idx n r with
      | none => rfl
      | some j => simp only [Option.map_some, Function.comp]; congr 2; omega
theorem entry_ents (n : Nat × Nat) (z : V) : ∀ (A : List (Nat × Nat)) (k : Nat), idx n A = none → entryM (eqOf Tryz.prog kk64) (.agg (keyC n)) z (ents k A) = some (ents k A ++ [(.agg (keyC n), z)], z, A.length)
  | [], k, _ => rfl
  | m :: r, k, h => by
    simp only [idx] at h
    split at h
    · cases h
    · rename_i e
      have e' : ¬ n = m := fun h => e h.symm
      have hr : idx n r = none := by cases hi : idx n r with
        | none => rfl
        | some j => rw [hi] at h; cases h
      simp only [ents, entryM, key_eq, decide_eq_false e', entry_ents n z r (k + 1) hr, List.cons_append, List.length_cons]
theorem lookup_ents {L : List Ob} {m : Nat} {A : List (Nat × Nat)} (hm : L[m]? = some (.map (ents 9 A))) (n : Nat × Nat) : opLookup Tryz.prog 64 (.map (idOf m)) (.agg (keyC n)) true (stL L) = some (match idx n A with
    | some i => .tup [litV (9 + i), .bool true]
    | none => .tup [.int .i64 0, .bool false]) := by
  simp only [opLookup, simple64, keyFit, kk64, keyC, mapCells, stL_get, hm, Option.getD_some]
  have := find_ents n A 9
  simp only [kk64, keyC] at this
  simp only [List.length_cons, List.length_nil, decide_true, if_true, this, zeroV32]
  cases idx n A <;> rfl
theorem mapEntry_ents {L : List Ob} {m : Nat} {A : List (Nat × Nat)} (hm : L[m]? = some (.map (ents 9 A))) {n : Nat × Nat} (hn : idx n A = none) : opMapEntry Tryz.prog 64 (.map (idOf m)) (.agg (keyC n)) (stL L) = some (.tup [.int .i64 0, .int .i64 (A.length : Int)], stL (L.set m (.map (ents 9 A ++ [(.agg (keyC n), .int .i64 0)])))) := by
  have := entry_ents n (.int .i64 0) A 9 hn
  simp only [kk64, keyC] at this
  simp only [opMapEntry, simple64, keyFit, kk64, keyC, stL_get, hm, Option.getD_some, List.length_cons, List.length_nil, decide_true, if_true, zeroV32, this]
  rw [stL_set _ _ _ (List.getElem?_eq_some_iff.1 hm).1]
theorem entryStore_ents {L : List Ob} {m : Nat} {A : List (Nat × Nat)} {n : Nat × Nat} (hm : L[m]? = some (.map (ents 9 A ++ [(.agg (keyC n), .int .i64 0)]))) : opEntryStore (.map (idOf m)) (.int .i64 (A.length : Int)) (litV (9 + A.length)) (stL L) = some (.any, stL (L.set m (.map (ents 9 (A ++ [n]))))) := by
  have hl := ents_len A 9
  simp only [opEntryStore, stL_get, hm, Option.getD_some, asIdx_nat]
  rw [List.getElem?_append_right (by omega), hl, Nat.sub_self]
  simp only [List.getElem?_cons_zero]
  rw [stL_set _ _ _ (List.getElem?_eq_some_iff.1 hm).1, ents_snoc, List.set_append_right _ _ (by omega), hl, Nat.sub_self]
  rfl
theorem xor_tab : ∀ x : Fin 256, IntKind.i64.wrap ((BitVec.ofInt 64 ((x.1 : Nat) : Int) ^^^ BitVec.ofInt 64 1).toNat : Int) = ((notS x.1 : Nat) : Int) := by decide +kernel
theorem and_tab : ∀ x : Fin 256, IntKind.i64.wrap ((BitVec.ofInt 64 ((x.1 : Nat) : Int) &&& BitVec.ofInt 64 1).toNat : Int) = ((x.1 % 2 : Nat) : Int) := by decide +kernel
theorem xor1 {e : TypeId} {x : Nat} (h : x < 256) : binV Tryz.prog .xor e (.int .i64 (x : Int)) (.int .i64 1) = some (.int .i64 ((notS x : Nat) : Int)) := by
  rw [bin_xor]; congr 2; exact xor_tab ⟨x, h⟩
theorem and1 {e : TypeId} {x : Nat} (h : x < 256) : binV Tryz.prog .and e (.int .i64 (x : Int)) (.int .i64 1) = some (.int .i64 ((x % 2 : Nat) : Int)) := by
  rw [bin_and]; congr 2; exact and_tab ⟨x, h⟩
theorem shr1 {e : TypeId} {x : Nat} : binV Tryz.prog .shr e (.int .i64 (x : Int)) (.int .i64 1) = some (.int .i64 ((x / 2 : Nat) : Int)) := by
  have := bin_shr (P := Tryz.prog) e .i64 .i64 (x : Int) 1
  rw [show ((1 : Nat) : Int) = 1 from rfl] at this
  rw [this]; congr 2
  show ((x : Int)).fdiv (2 ^ (min 1 64)) = _
  simp [Int.fdiv_eq_ediv_of_nonneg]
end Bt

set_option linter.unusedVariables false
open Go Go.Vm Go.Proofs
namespace Bt
variable [Gl]
/-- What is said of the functions: of two alone. -/
def Sp : SpecF := fun f args v => match f with
  | 4 => v = .bool true
  | 3 => v = .bool true
  | _ => False
abbrev bc (va : V) (m : Nat) : List V := [.bool true, .int .i64 8, .int .i64 0, va, .map (idOf m), .int .i64 0]
abbrev litC (x : Nat) : List V := [.int .i64 (x : Int)]
theorem pn25 (i : Vm.Id) (o : Nat) : binV Tryz.prog .eql 25 (.ptr i o) .nilp = some (.bool false) := bin_pnil Tryz.underlying25 i o
section
variable {L : List Ob} {k m : Nat} {va : V}
theorem none_run (hk : L[k]? = some (.cells (bc va m) 0 [])) (n : Nat) (hn : 1 ≤ n) : callS Tryz.prog Sp n 47 [.ptr (idOf k) 0] (stL L) = some (.bool false, stL L) := by
  obtain ⟨n, rfl⟩ : ∃ j, n = j + 1 := ⟨n - 1, by omega⟩
  suffices hs : ∃ v S', callS Tryz.prog Sp (n + 1) 47 [.ptr (idOf k) 0] (stL L) = some (v, S') ∧ (v = .bool false ∧ S' = stL L) by
    obtain ⟨_, _, h, rfl, rfl⟩ := hs; exact h
  refine runS (fun v h => h) Tryz.func47 rfl (by simp [Tryz.f47]) ?_
  refine Ev.seq rfl (Ev.reg' ?_)
  simp (maxSteps := 2000000) only [go_sem, Nat.reduceBEq, Nat.reduceLT, Nat.reduceAdd, Nat.reduceMul, Nat.reduceLeDiff, Nat.reduceEqDiff, decide_true, decide_false, reduceIte, and_true, true_and]
  refine Ev.seq rfl (Ev.reg' ?_)
  simp (maxSteps := 2000000) only [go_sem, Nat.reduceBEq, Nat.reduceLT, Nat.reduceAdd, Nat.reduceMul, Nat.reduceLeDiff, Nat.reduceEqDiff, decide_true, decide_false, reduceIte, and_true, true_and, pn25, hk, Bool.not_true]
  refine Ev.ret (Ret.tmp rfl ?_)
  simp (maxSteps := 2000000) only [go_sem, Nat.reduceBEq, Nat.reduceLT, Nat.reduceAdd, Nat.reduceMul, Nat.reduceLeDiff, Nat.reduceEqDiff, decide_true, decide_false, reduceIte, and_true, true_and]
theorem err_run (hk : L[k]? = some (.cells (bc va m) 0 [])) (n : Nat) (hn : 2 ≤ n) : callS Tryz.prog Sp n 33 [.ptr (idOf k) 0] (stL L) = some (.int .i64 0, stL L) := by
  obtain ⟨n, rfl⟩ : ∃ j, n = j + 1 := ⟨n - 1, by omega⟩
  suffices hs : ∃ v S', callS Tryz.prog Sp (n + 1) 33 [.ptr (idOf k) 0] (stL L) = some (v, S') ∧ (v = .int .i64 0 ∧ S' = stL L) by
    obtain ⟨_, _, h, rfl, rfl⟩ := hs; exact h
  refine runS (fun v h => h) Tryz.func33 rfl (by simp [Tryz.f33]) ?_
  have h1 := none_run hk n (by omega)
  refine Ev.seq rfl (Ev.reg' ?_)
  simp (maxSteps := 2000000) only [go_sem, Nat.reduceBEq, Nat.reduceLT, Nat.reduceAdd, Nat.reduceMul, Nat.reduceLeDiff, Nat.reduceEqDiff, decide_true, decide_false, reduceIte, and_true, true_and]
  refine Ev.seq rfl (Ev.seq rfl (Ev.reg' ?_))
  simp (maxSteps := 2000000) only [go_sem, Nat.reduceBEq, Nat.reduceLT, Nat.reduceAdd, Nat.reduceMul, Nat.reduceLeDiff, Nat.reduceEqDiff, decide_true, decide_false, reduceIte, and_true, true_and, h1]
  refine Ev.cond' ?_
  simp (maxSteps := 2000000) only [go_sem, Nat.reduceBEq, Nat.reduceLT, Nat.reduceAdd, Nat.reduceMul, Nat.reduceLeDiff, Nat.reduceEqDiff, decide_true, decide_false, reduceIte, and_true, true_and]
  refine Ev.skip ?_
  simp (maxSteps := 2000000) only [go_sem, Nat.reduceBEq, Nat.reduceLT, Nat.reduceAdd, Nat.reduceMul, Nat.reduceLeDiff, Nat.reduceEqDiff, decide_true, decide_false, reduceIte, and_true, true_and]
  refine Ev.seq rfl (Ev.reg' ?_)
  simp (maxSteps := 2000000) only [go_sem, Nat.reduceBEq, Nat.reduceLT, Nat.reduceAdd, Nat.reduceMul, Nat.reduceLeDiff, Nat.reduceEqDiff, decide_true, decide_false, reduceIte, and_true, true_and, hk]
  refine Ev.ret (Ret.tmp rfl ?_)
  simp (maxSteps := 2000000) only [go_sem, Nat.reduceBEq, Nat.reduceLT, Nat.reduceAdd, Nat.reduceMul, Nat.reduceLeDiff, Nat.reduceEqDiff, decide_true, decide_false, reduceIte, and_true, true_and]
theorem len_run (hk : L[k]? = some (.cells (bc va m) 0 [])) {c : Nat} (hv : lenOf va = some c) (hc : c ≤ 1000) (n : Nat) (hn : 2 ≤ n) : callS Tryz.prog Sp n 51 [.ptr (idOf k) 0] (stL L) = some (.int .i64 ((9 + c : Nat) : Int), stL L) := by
  obtain ⟨n, rfl⟩ : ∃ j, n = j + 1 := ⟨n - 1, by omega⟩
  suffices hs : ∃ v S', callS Tryz.prog Sp (n + 1) 51 [.ptr (idOf k) 0] (stL L) = some (v, S') ∧ (v = .int .i64 ((9 + c : Nat) : Int) ∧ S' = stL L) by
    obtain ⟨_, _, h, rfl, rfl⟩ := hs; exact h
  refine runS (fun v h => h) Tryz.func51 rfl (by simp [Tryz.f51]) ?_
  have h1 := none_run hk n (by omega)
  have w1 : IntKind.i64.wrap (1 + 8) = 9 := rfl
  have w2 : IntKind.i64.wrap (9 + 0) = 9 := rfl
  have w3 : IntKind.i64.wrap (9 + (c : Int)) = ((9 + c : Nat) : Int) := by rw [IntWalk.i64_in _ (by omega)]; omega
  refine Ev.seq rfl (Ev.reg' ?_)
  simp (maxSteps := 2000000) only [go_sem, Nat.reduceBEq, Nat.reduceLT, Nat.reduceAdd, Nat.reduceMul, Nat.reduceLeDiff, Nat.reduceEqDiff, decide_true, decide_false, reduceIte, and_true, true_and]
  refine Ev.seq rfl (Ev.seq rfl (Ev.reg' ?_))
  simp (maxSteps := 2000000) only [go_sem, Nat.reduceBEq, Nat.reduceLT, Nat.reduceAdd, Nat.reduceMul, Nat.reduceLeDiff, Nat.reduceEqDiff, decide_true, decide_false, reduceIte, and_true, true_and, h1]
  refine Ev.cond' ?_
  simp (maxSteps := 2000000) only [go_sem, Nat.reduceBEq, Nat.reduceLT, Nat.reduceAdd, Nat.reduceMul, Nat.reduceLeDiff, Nat.reduceEqDiff, decide_true, decide_false, reduceIte, and_true, true_and]
  refine Ev.skip ?_
  simp (maxSteps := 2000000) only [go_sem, Nat.reduceBEq, Nat.reduceLT, Nat.reduceAdd, Nat.reduceMul, Nat.reduceLeDiff, Nat.reduceEqDiff, decide_true, decide_false, reduceIte, and_true, true_and]
  refine Ev.seq rfl (Ev.regD0' rfl (by kernel_rfl) (by kernel_rfl) ?_)
  simp (maxSteps := 2000000) only [go_sem, Nat.reduceBEq, Nat.reduceLT, Nat.reduceAdd, Nat.reduceMul, Nat.reduceLeDiff, Nat.reduceEqDiff, decide_true, decide_false, reduceIte, and_true, true_and, hk, hv, w1, w2, w3]
  refine Ev.ret (Ret.tmp rfl ?_)
  simp (maxSteps := 2000000) only [go_sem, Nat.reduceBEq, Nat.reduceLT, Nat.reduceAdd, Nat.reduceMul, Nat.reduceLeDiff, Nat.reduceEqDiff, decide_true, decide_false, reduceIte, and_true, true_and]
theorem ok_run (hk : L[k]? = some (.cells (bc va m) 0 [])) (e : Int) (n : Nat) (hn : 3 ≤ n) : callS Tryz.prog Sp n 48 [.ptr (idOf k) 0, .bool true, .int .i64 e] (stL L) = some (.bool true, stL L) := by
  obtain ⟨n, rfl⟩ : ∃ j, n = j + 1 := ⟨n - 1, by omega⟩
  suffices hs : ∃ v S', callS Tryz.prog Sp (n + 1) 48 [.ptr (idOf k) 0, .bool true, .int .i64 e] (stL L) = some (v, S') ∧ (v = .bool true ∧ S' = stL L) by
    obtain ⟨_, _, h, rfl, rfl⟩ := hs; exact h
  refine runS (fun v h => h) Tryz.func48 rfl (by simp [Tryz.f48]) ?_
  have h1 := err_run hk n (by omega)
  refine Ev.seq rfl (Ev.reg' ?_)
  simp (maxSteps := 2000000) only [go_sem, Nat.reduceBEq, Nat.reduceLT, Nat.reduceAdd, Nat.reduceMul, Nat.reduceLeDiff, Nat.reduceEqDiff, decide_true, decide_false, reduceIte, and_true, true_and]
  refine Ev.seq rfl (Ev.seq rfl (Ev.reg' ?_))
  simp (maxSteps := 2000000) only [go_sem, Nat.reduceBEq, Nat.reduceLT, Nat.reduceAdd, Nat.reduceMul, Nat.reduceLeDiff, Nat.reduceEqDiff, decide_true, decide_false, reduceIte, and_true, true_and, h1, BEq.rfl, Bool.not_true]
  refine Ev.cond' ?_
  simp (maxSteps := 2000000) only [go_sem, Nat.reduceBEq, Nat.reduceLT, Nat.reduceAdd, Nat.reduceMul, Nat.reduceLeDiff, Nat.reduceEqDiff, decide_true, decide_false, reduceIte, and_true, true_and]
  refine Ev.skip ?_
  simp (maxSteps := 2000000) only [go_sem, Nat.reduceBEq, Nat.reduceLT, Nat.reduceAdd, Nat.reduceMul, Nat.reduceLeDiff, Nat.reduceEqDiff, decide_true, decide_false, reduceIte, and_true, true_and]
  refine Ev.seq rfl (Ev.reg' ?_)
  simp (maxSteps := 2000000) only [go_sem, Nat.reduceBEq, Nat.reduceLT, Nat.reduceAdd, Nat.reduceMul, Nat.reduceLeDiff, Nat.reduceEqDiff, decide_true, decide_false, reduceIte, and_true, true_and, h1, BEq.rfl]
  refine Ev.ret (Ret.tmp rfl ?_)
  simp (maxSteps := 2000000) only [go_sem, Nat.reduceBEq, Nat.reduceLT, Nat.reduceAdd, Nat.reduceMul, Nat.reduceLeDiff, Nat.reduceEqDiff, decide_true, decide_false, reduceIte, and_true, true_and]
theorem has_run (hk : L[k]? = some (.cells (bc va m) 0 [])) {c : Nat} (hv : lenOf va = some c) (hc : c ≤ 1000) {v : V} {xs : List Nat} (hx : rows L 1 v = some (xs.map litC)) (hb : ∀ x ∈ xs, x < 2 * (9 + c)) (hl : xs.length ≤ 1000) (n : Nat) (hn : 2000 ≤ n) :
    callS Tryz.prog Sp n 78 [.ptr (idOf k) 0, v] (stL L) = some (.bool true, stL L) := by
  obtain ⟨n, rfl⟩ : ∃ j, n = j + 1 := ⟨n - 1, by omega⟩
  suffices hs : ∃ u S', callS Tryz.prog Sp (n + 1) 78 [.ptr (idOf k) 0, v] (stL L) = some (u, S') ∧ (u = .bool true ∧ S' = stL L) by
    obtain ⟨_, _, h, rfl, rfl⟩ := hs; exact h
  refine runS (fun v h => h) Tryz.func78 rfl (by simp [Tryz.f78]) ?_
  have h1 := len_run hk hv hc n (by omega)
  have h2 := ok_run hk 1 n (by omega)
  have l1 := rows_len hx
  simp only [List.length_map] at l1
  have w1 : IntKind.i64.wrap (2 * ((9 + c : Nat) : Int)) = ((2 * (9 + c) : Nat) : Int) := by rw [IntWalk.i64_in _ (by omega)]; omega
  refine Ev.seq rfl (Ev.reg' ?_)
  simp (maxSteps := 2000000) only [go_sem, Nat.reduceBEq, Nat.reduceLT, Nat.reduceAdd, Nat.reduceMul, Nat.reduceLeDiff, Nat.reduceEqDiff, decide_true, decide_false, reduceIte, and_true, true_and]
  refine Ev.seq rfl (Ev.seq rfl (Ev.reg' ?_))
  simp (maxSteps := 2000000) only [go_sem, Nat.reduceBEq, Nat.reduceLT, Nat.reduceAdd, Nat.reduceMul, Nat.reduceLeDiff, Nat.reduceEqDiff, decide_true, decide_false, reduceIte, and_true, true_and, l1]
  refine Ev.block (Ev.loop (fun q t S => t 0 = .ptr (idOf k) 0 ∧ t 7 = v ∧ t 8 = .int .i64 (xs.length : Int) ∧ S = stL L ∧ ∃ j : Nat, t 9 = .int .i64 (j : Int) ∧ j + q = xs.length) xs.length (by omega) ?_ ?_)
  · simp (maxSteps := 2000000) only [go_sem, Nat.reduceBEq, Nat.reduceLT, Nat.reduceAdd, Nat.reduceMul, Nat.reduceLeDiff, Nat.reduceEqDiff, decide_true, decide_false, reduceIte, and_true, true_and]
    exact ⟨0, rfl, by omega⟩
  intro q t S ⟨i0, i7, i8, iS, j, i9, hjq⟩
  subst iS
  refine Ev.seq rfl (Ev.reg' ?_)
  simp (maxSteps := 2000000) only [go_sem, Nat.reduceBEq, Nat.reduceLT, Nat.reduceAdd, Nat.reduceMul, Nat.reduceLeDiff, Nat.reduceEqDiff, decide_true, decide_false, reduceIte, and_true, true_and, i8, i9]
  refine Ev.seq rfl (Ev.cond' ?_)
  simp (maxSteps := 2000000) only [go_sem, Nat.reduceBEq, Nat.reduceLT, Nat.reduceAdd, Nat.reduceMul, Nat.reduceLeDiff, Nat.reduceEqDiff, decide_true, decide_false, reduceIte, and_true, true_and]
  by_cases hj : (j : Int) < (xs.length : Int)
  · have hj' : j < xs.length := by exact_mod_cast hj
    have hxj : (xs.map litC)[j]? = some (litC xs[j]) := by rw [List.getElem?_map, List.getElem?_eq_getElem hj']; rfl
    obtain ⟨a, ra, ha1, ha2⟩ := rows_idx hx hxj .i64
    have b0 : (0 : Int) ≤ ((xs[j] : Nat) : Int) := by omega
    have b1 : ((xs[j] : Nat) : Int) < ((2 * (9 + c) : Nat) : Int) := by have := hb _ (List.getElem_mem hj'); omega
    simp only [hj, decide_true, wpC_true]
    refine Ev.skip ?_
    simp (maxSteps := 2000000) only [go_sem, Nat.reduceBEq, Nat.reduceLT, Nat.reduceAdd, Nat.reduceMul, Nat.reduceLeDiff, Nat.reduceEqDiff, decide_true, decide_false, reduceIte, and_true, true_and]
    refine Ev.seq rfl (Ev.block (Ev.seq rfl (Ev.reg' ?_)))
    simp (maxSteps := 2000000) only [go_sem, Nat.reduceBEq, Nat.reduceLT, Nat.reduceAdd, Nat.reduceMul, Nat.reduceLeDiff, Nat.reduceEqDiff, decide_true, decide_false, reduceIte, and_true, true_and, i7, i9, ha1, ha2]
    refine Ev.seq rfl (Ev.reg' ?_)
    simp (maxSteps := 2000000) only [go_sem, Nat.reduceBEq, Nat.reduceLT, Nat.reduceAdd, Nat.reduceMul, Nat.reduceLeDiff, Nat.reduceEqDiff, decide_true, decide_false, reduceIte, and_true, true_and, i0, h1, h2, w1, b0, b1, Bool.not_true]
    refine Ev.cond' ?_
    simp (maxSteps := 2000000) only [go_sem, Nat.reduceBEq, Nat.reduceLT, Nat.reduceAdd, Nat.reduceMul, Nat.reduceLeDiff, Nat.reduceEqDiff, decide_true, decide_false, reduceIte, and_true, true_and]
    refine Ev.skip ?_
    simp (maxSteps := 2000000) only [go_sem, Nat.reduceBEq, Nat.reduceLT, Nat.reduceAdd, Nat.reduceMul, Nat.reduceLeDiff, Nat.reduceEqDiff, decide_true, decide_false, reduceIte, and_true, true_and]
    refine Ev.reg' ?_
    simp (maxSteps := 2000000) only [go_sem, Nat.reduceBEq, Nat.reduceLT, Nat.reduceAdd, Nat.reduceMul, Nat.reduceLeDiff, Nat.reduceEqDiff, decide_true, decide_false, reduceIte, and_true, true_and, i9]
    exact ⟨q - 1, by omega, i0, i7, i8, j + 1, by rw [IntWalk.i64_in _ (by omega)]; rfl, by omega⟩
  · simp only [hj, decide_false, wpC_false]
    refine Ev.exit ?_
    simp (maxSteps := 2000000) only [go_sem, Nat.reduceBEq, Nat.reduceLT, Nat.reduceAdd, Nat.reduceMul, Nat.reduceLeDiff, Nat.reduceEqDiff, decide_true, decide_false, reduceIte, and_true, true_and]
    refine Ev.seq rfl (Ev.reg' ?_)
    simp (maxSteps := 2000000) only [go_sem, Nat.reduceBEq, Nat.reduceLT, Nat.reduceAdd, Nat.reduceMul, Nat.reduceLeDiff, Nat.reduceEqDiff, decide_true, decide_false, reduceIte, and_true, true_and]
    refine Ev.ret (Ret.tmp rfl ?_)
    simp (maxSteps := 2000000) only [go_sem, Nat.reduceBEq, Nat.reduceLT, Nat.reduceAdd, Nat.reduceMul, Nat.reduceLeDiff, Nat.reduceEqDiff, decide_true, decide_false, reduceIte, and_true, true_and]
theorem not_run (hk : L[k]? = some (.cells (bc va m) 0 [])) {c : Nat} (hv : lenOf va = some c) (hc : c ≤ 50) {x : Nat} (hx : x < 2 * (9 + c)) (n : Nat) (hn : 2001 ≤ n) :
    callS Tryz.prog Sp n 40 [.ptr (idOf k) 0, .int .i64 (x : Int)] (stL L) = some (.int .i64 ((notS x : Nat) : Int), stL (L ++ [.cells (litC x) 0 []])) := by
  obtain ⟨n, rfl⟩ : ∃ j, n = j + 1 := ⟨n - 1, by omega⟩
  suffices hs : ∃ v S', callS Tryz.prog Sp (n + 1) 40 [.ptr (idOf k) 0, .int .i64 (x : Int)] (stL L) = some (v, S') ∧ (v = .int .i64 ((notS x : Nat) : Int) ∧ S' = stL (L ++ [.cells (litC x) 0 []])) by
    obtain ⟨_, _, h, rfl, rfl⟩ := hs; exact h
  refine runS (fun v h => h) Tryz.func40 rfl (by simp [Tryz.f40]) ?_
  have hk' : (L ++ [.cells (litC x) 0 []])[k]? = some (.cells (bc va m) 0 []) := by rw [List.getElem?_append_left (List.getElem?_eq_some_iff.1 hk).1]; exact hk
  have h1 := has_run hk' hv (by omega) (v := .ref 1 (idOf L.length) 0 1) (xs := [x]) (by rw [rows_ref (c := litC x) (by rw [gx0]; rfl) (by simp)]; rfl) (by simpa using hx) (by simp) n (by omega)
  have hxr := xor1 (e := 32) (x := x) (by omega)
  refine Ev.seq rfl (Ev.reg' ?_)
  simp (maxSteps := 2000000) only [go_sem, Nat.reduceBEq, Nat.reduceLT, Nat.reduceAdd, Nat.reduceMul, Nat.reduceLeDiff, Nat.reduceEqDiff, decide_true, decide_false, reduceIte, and_true, true_and]
  refine Ev.seq rfl (Ev.seq rfl (Ev.reg' ?_))
  simp (maxSteps := 2000000) only [go_sem, Nat.reduceBEq, Nat.reduceLT, Nat.reduceAdd, Nat.reduceMul, Nat.reduceLeDiff, Nat.reduceEqDiff, decide_true, decide_false, reduceIte, and_true, true_and, h1, over, Nat.zero_le, Nat.le_refl, Nat.zero_mul, Nat.one_mul, Bool.not_true]
  refine Ev.cond' ?_
  simp (maxSteps := 2000000) only [go_sem, Nat.reduceBEq, Nat.reduceLT, Nat.reduceAdd, Nat.reduceMul, Nat.reduceLeDiff, Nat.reduceEqDiff, decide_true, decide_false, reduceIte, and_true, true_and]
  refine Ev.skip ?_
  simp (maxSteps := 2000000) only [go_sem, Nat.reduceBEq, Nat.reduceLT, Nat.reduceAdd, Nat.reduceMul, Nat.reduceLeDiff, Nat.reduceEqDiff, decide_true, decide_false, reduceIte, and_true, true_and]
  refine Ev.seq rfl (Ev.reg' ?_)
  simp (maxSteps := 2000000) only [go_sem, Nat.reduceBEq, Nat.reduceLT, Nat.reduceAdd, Nat.reduceMul, Nat.reduceLeDiff, Nat.reduceEqDiff, decide_true, decide_false, reduceIte, and_true, true_and, hxr]
  refine Ev.ret (Ret.tmp rfl ?_)
  simp (maxSteps := 2000000) only [go_sem, Nat.reduceBEq, Nat.reduceLT, Nat.reduceAdd, Nat.reduceMul, Nat.reduceLeDiff, Nat.reduceEqDiff, decide_true, decide_false, reduceIte, and_true, true_and]
end
end Bt

set_option linter.unusedVariables false
open Go Go.Vm Go.Proofs
namespace Bt
variable [Gl]
structure BS (lo : Nat) (L : List Ob) (k m : Nat) (va : V) (A : List (Nat × Nat)) (o : Option Nat) : Prop where
  hk : L[k]? = some (.cells (bc va m) 0 [])
  hm : L[m]? = some (.map (ents 9 A))
  ha : Own lo L 2 va (A.map keyC) o
  no : ∀ j, o = some j → j ≠ k ∧ j ≠ m
  km : k ≠ m
  lo_le : lo ≤ L.length
/-- What is kept. -/
def Kp (L L' : List Ob) (k m : Nat) (o o' : Option Nat) : Prop := L.length ≤ L'.length ∧ (∀ i, i < L.length → i ≠ k → i ≠ m → o ≠ some i → L'[i]? = L[i]?) ∧ (o' = o ∨ ∃ j, o' = some j ∧ L.length ≤ j)
theorem Kp.refl (L : List Ob) (k m : Nat) (o : Option Nat) : Kp L L k m o o := ⟨Nat.le_refl _, fun _ _ _ _ _ => rfl, .inl rfl⟩
theorem Kp.trans {L L1 L2 : List Ob} {k m : Nat} {o o1 o2 : Option Nat} (h : Kp L L1 k m o o1) (g : Kp L1 L2 k m o1 o2) : Kp L L2 k m o o2 := by
  obtain ⟨h1, h2, h3⟩ := h
  obtain ⟨g1, g2, g3⟩ := g
  refine ⟨by omega, fun i hi hk hm ho => ?_, ?_⟩
  · rw [g2 i (by omega) hk hm (by
      rcases h3 with e | ⟨j, e, hj⟩
      · rw [e]; exact ho
      · rw [e]; intro e2; injection e2 with e2; omega), h2 i hi hk hm ho]
  · rcases g3 with e | ⟨j, e, hj⟩
    · rw [e]; exact h3
    · exact .inr ⟨j, e, by omega⟩
theorem Kp.ext (L g : List Ob) (k m : Nat) (o : Option Nat) : Kp L (L ++ g) k m o o := ⟨by simp, fun i hi _ _ _ => List.getElem?_append_left hi, .inl rfl⟩
section
variable {lo : Nat} {L : List Ob} {k m : Nat} {va : V} {A : List (Nat × Nat)} {o : Option Nat}
theorem glt {i : Nat} {x : Ob} (h : L[i]? = some x) : i < L.length := (List.getElem?_eq_some_iff.1 h).1
theorem BS.ext (h : BS lo L k m va A o) (g : List Ob) : BS lo (L ++ g) k m va A o where
  hk := by rw [List.getElem?_append_left (glt h.hk)]; exact h.hk
  hm := by rw [List.getElem?_append_left (glt h.hm)]; exact h.hm
  ha := h.ha.keep fun j hj => by subst hj; rw [List.getElem?_append_left h.ha.lt]
  no := h.no
  km := h.km
  lo_le := by have := h.lo_le; simp; omega
theorem BS.len (h : BS lo L k m va A o) : lenOf va = some A.length := by
  have := rows_len h.ha.rows
  simpa using this
theorem keyC_len (n : Nat × Nat) : (keyC n).length = 2 := rfl
theorem hz103 : Tryz.prog.bytesOf 103 ≤ 2 ^ 16 ∧ (zeroOf Tryz.prog 103).map List.length = some 2 := of_decide_eq_true bytes103
theorem ieq (x y : Nat) : (((x : Int) == (y : Int)) : Bool) = decide (x = y) := by
  by_cases e : x = y
  · subst e; simp
  · rw [decide_eq_false e]
    have e' : ¬ (x : Int) = (y : Int) := by omega
    simp [e']
theorem rem2 {e : TypeId} (a : Nat) : binV Tryz.prog .rem e (.int .i64 (a : Int)) (.int .i64 2) = some (.int .i64 ((a % 2 : Nat) : Int)) := by
  rw [bin_rem, if_neg (by decide)]
  congr 2
def fnd (A : List (Nat × Nat)) (n : Nat × Nat) : Nat × List (Nat × Nat) := match idx n A with
  | some i => (2 * (9 + i), A)
  | none => (2 * (9 + A.length), A ++ [n])
theorem and_tail (b2 : BS lo L k m va A o) (hA : A.length ≤ 45) {a b p : Nat} {t : Tm} {R : V → St → Prop} (i0 : t 0 = .ptr (idOf k) 0) (i7 : t 7 = .ptr (idOf p) 0) (hp : L[p]? = some (.cells (keyC (a, b)) 0 [])) (hpo : o ≠ some p) (n : Nat) (hn : 2999 ≤ n)
    (hR : ∀ L' va' o', BS lo L' k m va' (fnd A (a, b)).2 o' → Kp L L' k m o o' → R (.int .i64 (((fnd A (a, b)).1 : Nat) : Int)) (stL L')) :
    Ev Tryz.prog Tryz.f41.ntmps n (callS Tryz.prog Sp n) (sndC (sndC (sndC (sndC (bodyC Tryz.f41))))) t (stL L) (Ret Tryz.prog Tryz.f41 R) := by
  have g1 := b2.hk
  have hlk := lookup_ents b2.hm (a, b)
  have hpk : p ≠ k := fun e => by subst e; rw [hp] at g1; simp [keyC] at g1
  have hpm : p ≠ m := fun e => by subst e; rw [b2.hm] at hp; simp at hp
  simp only [keyC] at hlk hp
  refine Ev.seq rfl (Ev.seq rfl (Ev.regD0' rfl (by kernel_rfl) (by kernel_rfl) ?_))
  cases hi : idx (a, b) A with
  | some i =>
    rw [hi] at hlk
    simp only [litV] at hlk
    have e : fnd A (a, b) = (2 * (9 + i), A) := by unfold fnd; rw [hi]
    rw [e] at hR
    simp (maxSteps := 2000000) only [go_sem, Nat.reduceBEq, Nat.reduceLT, Nat.reduceAdd, Nat.reduceMul, Nat.reduceLeDiff, Nat.reduceEqDiff, decide_true, decide_false, reduceIte, and_true, true_and, i0, i7, g1, hp, hlk]
    refine Ev.seq rfl (Ev.reg' ?_)
    simp (maxSteps := 2000000) only [go_sem, Nat.reduceBEq, Nat.reduceLT, Nat.reduceAdd, Nat.reduceMul, Nat.reduceLeDiff, Nat.reduceEqDiff, decide_true, decide_false, reduceIte, and_true, true_and]
    refine Ev.cond' ?_
    simp (maxSteps := 2000000) only [go_sem, Nat.reduceBEq, Nat.reduceLT, Nat.reduceAdd, Nat.reduceMul, Nat.reduceLeDiff, Nat.reduceEqDiff, decide_true, decide_false, reduceIte, and_true, true_and]
    refine Ev.seq rfl (Ev.reg' ?_)
    simp (maxSteps := 2000000) only [go_sem, Nat.reduceBEq, Nat.reduceLT, Nat.reduceAdd, Nat.reduceMul, Nat.reduceLeDiff, Nat.reduceEqDiff, decide_true, decide_false, reduceIte, and_true, true_and]
    refine Ev.ret ?_
    simp (maxSteps := 2000000) only [go_sem, Nat.reduceBEq, Nat.reduceLT, Nat.reduceAdd, Nat.reduceMul, Nat.reduceLeDiff, Nat.reduceEqDiff, decide_true, decide_false, reduceIte, and_true, true_and]
    refine Ret.tmp rfl ?_
    simp (maxSteps := 2000000) only [go_sem, Nat.reduceBEq, Nat.reduceLT, Nat.reduceAdd, Nat.reduceMul, Nat.reduceLeDiff, Nat.reduceEqDiff, decide_true, decide_false, reduceIte, and_true, true_and]
    exact hR L va o b2 (Kp.refl ..)
  | none =>
    rw [hi] at hlk
    simp only at hlk
    have e : fnd A (a, b) = (2 * (9 + A.length), A ++ [(a, b)]) := by unfold fnd; rw [hi]
    rw [e] at hR
    simp (maxSteps := 2000000) only [go_sem, Nat.reduceBEq, Nat.reduceLT, Nat.reduceAdd, Nat.reduceMul, Nat.reduceLeDiff, Nat.reduceEqDiff, decide_true, decide_false, reduceIte, and_true, true_and, i0, i7, g1, hp, hlk]
    refine Ev.seq rfl (Ev.reg' ?_)
    simp (maxSteps := 2000000) only [go_sem, Nat.reduceBEq, Nat.reduceLT, Nat.reduceAdd, Nat.reduceMul, Nat.reduceLeDiff, Nat.reduceEqDiff, decide_true, decide_false, reduceIte, and_true, true_and]
    refine Ev.cond' ?_
    simp (maxSteps := 2000000) only [go_sem, Nat.reduceBEq, Nat.reduceLT, Nat.reduceAdd, Nat.reduceMul, Nat.reduceLeDiff, Nat.reduceEqDiff, decide_true, decide_false, reduceIte, and_true, true_and]
    refine Ev.skip ?_
    simp (maxSteps := 2000000) only [go_sem, Nat.reduceBEq, Nat.reduceLT, Nat.reduceAdd, Nat.reduceMul, Nat.reduceLeDiff, Nat.reduceEqDiff, decide_true, decide_false, reduceIte, and_true, true_and]
    have r1 := len_run b2.hk b2.len (by omega) n (by omega)
    have r2 := ok_run b2.hk 5 n (by omega)
    have lt : ((9 + A.length : Nat) : Int) < 4096 := by omega
    have w1 : IntKind.i64.wrap (2 * ((9 + A.length : Nat) : Int)) = ((2 * (9 + A.length) : Nat) : Int) := by rw [IntWalk.i64_in _ (by omega)]; omega
    refine Ev.seq rfl (Ev.seq rfl (Ev.reg' ?_))
    simp (maxSteps := 2000000) only [go_sem, Nat.reduceBEq, Nat.reduceLT, Nat.reduceAdd, Nat.reduceMul, Nat.reduceLeDiff, Nat.reduceEqDiff, decide_true, decide_false, reduceIte, and_true, true_and, i0, r1, r2, lt, Bool.not_true]
    refine Ev.cond' ?_
    simp (maxSteps := 2000000) only [go_sem, Nat.reduceBEq, Nat.reduceLT, Nat.reduceAdd, Nat.reduceMul, Nat.reduceLeDiff, Nat.reduceEqDiff, decide_true, decide_false, reduceIte, and_true, true_and]
    refine Ev.skip ?_
    simp (maxSteps := 2000000) only [go_sem, Nat.reduceBEq, Nat.reduceLT, Nat.reduceAdd, Nat.reduceMul, Nat.reduceLeDiff, Nat.reduceEqDiff, decide_true, decide_false, reduceIte, and_true, true_and]
    refine Ev.seq rfl (Ev.reg' ?_)
    simp (maxSteps := 2000000) only [go_sem, Nat.reduceBEq, Nat.reduceLT, Nat.reduceAdd, Nat.reduceMul, Nat.reduceLeDiff, Nat.reduceEqDiff, decide_true, decide_false, reduceIte, and_true, true_and, i0, r1, w1]
    have b3 := b2.ext [.cells [.int .i64 (a : Int), .int .i64 (b : Int)] 0 []]
    have p3 : (L ++ [.cells [.int .i64 (a : Int), .int .i64 (b : Int)] 0 []])[p]? = some (.cells [.int .i64 (a : Int), .int .i64 (b : Int)] 0 []) := by rw [List.getElem?_append_left (glt hp)]; exact hp
    obtain ⟨u, L3, hap, hu, hO, hlen, hkp⟩ := b3.ha.push (P := Tryz.prog) Tryz.underlying65 sz103 hz103 b3.lo_le (y := .ref 2 (idOf L.length) 0 1) (r := keyC (a, b)) (by rw [rows_ref (c := keyC (a, b)) (by rw [gx0]; rfl) (by simp [keyC])]; rfl) rfl (by simp; omega)
    have gk := b3.hk
    have k3 : L3[k]? = some (.cells (bc va m) 0 []) := by rw [hkp k (fun e => (b3.no _ e).1 rfl) (glt gk)]; exact gk
    have m3 : L3[m]? = some (.map (ents 9 A)) := by rw [hkp m (fun e => (b3.no _ e).2 rfl) (glt b3.hm)]; exact b3.hm
    have q3 : L3[p]? = some (.cells [.int .i64 (a : Int), .int .i64 (b : Int)] 0 []) := by rw [hkp p hpo (glt p3)]; exact p3
    have m4 : (L3.set k (.cells (bc u m) 0 []))[m]? = some (.map (ents 9 A)) := by rw [List.getElem?_set_ne b2.km]; exact m3
    have q4 : (L3.set k (.cells (bc u m) 0 []))[p]? = some (.cells [.int .i64 (a : Int), .int .i64 (b : Int)] 0 []) := by rw [List.getElem?_set_ne (fun e => hpk e.symm)]; exact q3
    have hme := mapEntry_ents m4 hi
    have m5 : ((L3.set k (.cells (bc u m) 0 [])).set m (.map (ents 9 A ++ [(.agg (keyC (a, b)), .int .i64 0)])))[m]? = some (.map (ents 9 A ++ [(.agg (keyC (a, b)), .int .i64 0)])) := List.getElem?_set_self (glt m4)
    have hes := entryStore_ents m5
    simp only [keyC, litV] at hme hes
    refine Ev.seq rfl (Ev.regDX rfl (by kernel_rfl) [(4, 12), (5, 12), (5, 16)] (by kernel_rfl) (fun T' Z B R' htr q hq => ?_) ?_)
    · have a1 : T' 4 74 = .ptr (idOf k) 4 := htr.at 4 (by decide) (X := fun t _ => t 74 = .ptr (idOf k) 4) (by simp (maxSteps := 2000000) only [go_sem, Nat.reduceBEq, Nat.reduceLT, Nat.reduceAdd, Nat.reduceMul, Nat.reduceLeDiff, Nat.reduceEqDiff, decide_true, decide_false, reduceIte, and_true, true_and, i0, g1])
      have a2 : T' 5 7 = .ptr (idOf p) 0 := htr.at 5 (by decide) (X := fun t _ => t 7 = .ptr (idOf p) 0) (by simp (maxSteps := 2000000) only [go_sem, Nat.reduceBEq, Nat.reduceLT, Nat.reduceAdd, Nat.reduceMul, Nat.reduceLeDiff, Nat.reduceEqDiff, decide_true, decide_false, reduceIte, and_true, true_and, i0, i7, g1])
      have z1 : cellsAt (Z 12) (.ptr (idOf k) 4) = some [.map (idOf m), .int .i64 0] ∧ cellsAt (Z 12) (.ptr (idOf p) 0) = some [.int .i64 (a : Int), .int .i64 (b : Int)] := htr.at 12 (by decide) (X := fun _ S => cellsAt S (.ptr (idOf k) 4) = some [.map (idOf m), .int .i64 0] ∧ cellsAt S (.ptr (idOf p) 0) = some [.int .i64 (a : Int), .int .i64 (b : Int)]) (by simp (maxSteps := 2000000) only [go_sem, Nat.reduceBEq, Nat.reduceLT, Nat.reduceAdd, Nat.reduceMul, Nat.reduceLeDiff, Nat.reduceEqDiff, decide_true, decide_false, reduceIte, and_true, true_and, i0, i7, g1, hp, over, Nat.zero_le, Nat.le_refl, Nat.zero_mul, Nat.one_mul, gk, p3])
      have z2 : cellsAt (Z 13) (.ptr (idOf k) 4) = some [.map (idOf m), .int .i64 0] ∧ cellsAt (Z 13) (.ptr (idOf p) 0) = some [.int .i64 (a : Int), .int .i64 (b : Int)] := htr.at 13 (by decide) (X := fun _ S => cellsAt S (.ptr (idOf k) 4) = some [.map (idOf m), .int .i64 0] ∧ cellsAt S (.ptr (idOf p) 0) = some [.int .i64 (a : Int), .int .i64 (b : Int)]) (by simp (maxSteps := 2000000) only [go_sem, Nat.reduceBEq, Nat.reduceLT, Nat.reduceAdd, Nat.reduceMul, Nat.reduceLeDiff, Nat.reduceEqDiff, decide_true, decide_false, reduceIte, and_true, true_and, i0, i7, g1, hp, over, Nat.zero_le, Nat.le_refl, Nat.zero_mul, Nat.one_mul, hap, k3, q3])
      have z3 : cellsAt (Z 16) (.ptr (idOf p) 0) = some [.int .i64 (a : Int), .int .i64 (b : Int)] := htr.at 16 (by decide) (X := fun _ S => cellsAt S (.ptr (idOf p) 0) = some [.int .i64 (a : Int), .int .i64 (b : Int)]) (by simp (maxSteps := 2000000) only [go_sem, Nat.reduceBEq, Nat.reduceLT, Nat.reduceAdd, Nat.reduceMul, Nat.reduceLeDiff, Nat.reduceEqDiff, decide_true, decide_false, reduceIte, and_true, true_and, i0, i7, g1, hp, over, Nat.zero_le, Nat.le_refl, Nat.zero_mul, Nat.one_mul, hap, k3, q3])
      have z4 : cellsAt (Z 17) (.ptr (idOf p) 0) = some [.int .i64 (a : Int), .int .i64 (b : Int)] := htr.at 17 (by decide) (X := fun _ S => cellsAt S (.ptr (idOf p) 0) = some [.int .i64 (a : Int), .int .i64 (b : Int)]) (by simp (maxSteps := 2000000) only [go_sem, Nat.reduceBEq, Nat.reduceLT, Nat.reduceAdd, Nat.reduceMul, Nat.reduceLeDiff, Nat.reduceEqDiff, decide_true, decide_false, reduceIte, and_true, true_and, i0, i7, g1, hp, over, Nat.zero_le, Nat.le_refl, Nat.zero_mul, Nat.one_mul, hap, k3, q3, stC_eq hu, q4])
      simp only [List.mem_cons, List.not_mem_nil, or_false] at hq
      rcases hq with rfl | rfl | rfl
      · refine LookOK.of_load rfl ?_
        show cellsAt (Z 12) (T' 4 74) = cellsAt (Z 13) (T' 4 74)
        rw [a1, z1.1, z2.1]
      · refine LookOK.of_load rfl ?_
        show cellsAt (Z 12) (T' 5 7) = cellsAt (Z 13) (T' 5 7)
        rw [a2, z1.2, z2.2]
      · refine LookOK.of_load rfl ?_
        show cellsAt (Z 16) (T' 5 7) = cellsAt (Z 17) (T' 5 7)
        rw [a2, z3, z4]
    simp (maxSteps := 2000000) only [go_sem, Nat.reduceBEq, Nat.reduceLT, Nat.reduceAdd, Nat.reduceMul, Nat.reduceLeDiff, Nat.reduceEqDiff, decide_true, decide_false, reduceIte, and_true, true_and, i0, i7, g1, hp, over, Nat.zero_le, Nat.le_refl, Nat.zero_mul, Nat.one_mul, hap, k3, q3, stC_eq hu, hme, hes]
    refine Ev.seq rfl (Ev.reg' ?_)
    simp (maxSteps := 2000000) only [go_sem, Nat.reduceBEq, Nat.reduceLT, Nat.reduceAdd, Nat.reduceMul, Nat.reduceLeDiff, Nat.reduceEqDiff, decide_true, decide_false, reduceIte, and_true, true_and]
    refine Ev.ret (Ret.tmp rfl ?_)
    simp (maxSteps := 2000000) only [go_sem, Nat.reduceBEq, Nat.reduceLT, Nat.reduceAdd, Nat.reduceMul, Nat.reduceLeDiff, Nat.reduceEqDiff, decide_true, decide_false, reduceIte, and_true, true_and]
    have kL : k < (L ++ [Ob.cells [.int .i64 (a : Int), .int .i64 (b : Int)] 0 []]).length := glt gk
    have mL : m < (L ++ [Ob.cells [.int .i64 (a : Int), .int .i64 (b : Int)] 0 []]).length := glt b3.hm
    have hl : (L ++ [Ob.cells [.int .i64 (a : Int), .int .i64 (b : Int)] 0 []]).length = L.length + 1 := by simp
    have hlo := b3.lo_le
    refine hR _ u (some (L ++ [Ob.cells [.int .i64 (a : Int), .int .i64 (b : Int)] 0 []]).length) ?_ ?_
    · exact {
        hk := by rw [List.getElem?_set_ne b2.km.symm, List.getElem?_set_ne b2.km.symm, List.getElem?_set_self (glt k3)]
        hm := by rw [List.getElem?_set_self (by simpa using glt m3)]
        ha := by
          have := hO.keep (l' := ((L3.set k (.cells (bc u m) 0 [])).set m (.map (ents 9 A ++ [(.agg [.int .i64 (a : Int), .int .i64 (b : Int)], .int .i64 0)]))).set m (.map (ents 9 (A ++ [(a, b)])))) (fun j hj => by
            injection hj with hj
            rw [List.getElem?_set_ne (by omega), List.getElem?_set_ne (by omega), List.getElem?_set_ne (by omega)])
          simpa using this
        no := fun j hj => by injection hj with hj; omega
        km := b2.km
        lo_le := by simp only [List.length_set]; omega }
    · refine ⟨by simp only [List.length_set]; omega, fun i hi h1 h2 h3 => ?_, .inr ⟨_, rfl, by omega⟩⟩
      rw [List.getElem?_set_ne (fun e => h2 e.symm), List.getElem?_set_ne (fun e => h2 e.symm), List.getElem?_set_ne (fun e => h1 e.symm), hkp i h3 (by omega), List.getElem?_append_left hi]
theorem and_run (h : BS lo L k m va A o) (hA : A.length ≤ 45) {x y : Nat} (hx : x < 2 * (9 + A.length)) (hy : y < 2 * (9 + A.length)) (n : Nat) (hn : 3000 ≤ n) :
    ∃ L' va' o', callS Tryz.prog Sp n 41 [.ptr (idOf k) 0, .int .i64 (x : Int), .int .i64 (y : Int)] (stL L) = some (.int .i64 (((andS A x y).1 : Nat) : Int), stL L') ∧ BS lo L' k m va' (andS A x y).2 o' ∧ Kp L L' k m o o' := by
  obtain ⟨n, rfl⟩ : ∃ j, n = j + 1 := ⟨n - 1, by omega⟩
  suffices hs : ∃ v S', callS Tryz.prog Sp (n + 1) 41 [.ptr (idOf k) 0, .int .i64 (x : Int), .int .i64 (y : Int)] (stL L) = some (v, S') ∧ (v = .int .i64 (((andS A x y).1 : Nat) : Int) ∧ ∃ L' va' o', S' = stL L' ∧ BS lo L' k m va' (andS A x y).2 o' ∧ Kp L L' k m o o') by
    obtain ⟨v, S', h, rfl, L', va', o', rfl, h1, h2⟩ := hs; exact ⟨L', va', o', h, h1, h2⟩
  refine runS (fun v h => h) Tryz.func41 rfl (by simp [Tryz.f41]) ?_
  have b1 := h.ext [.cells [.int .i64 (x : Int), .int .i64 (y : Int)] 0 []]
  have h1 := has_run b1.hk h.len (by omega) (v := .ref 1 (idOf L.length) 0 2) (xs := [x, y]) (by rw [rows_ref (c := [.int .i64 (x : Int), .int .i64 (y : Int)]) (by rw [gx0]; rfl) (by simp)]; rfl) (by simp; omega) (by simp) n (by omega)
  obtain ⟨a, ea⟩ : ∃ a, a = min x y := ⟨_, rfl⟩
  obtain ⟨b, eb⟩ : ∃ b, b = max x y := ⟨_, rfl⟩
  have hmin : (if (y : Int) < (x : Int) then (y : Int) else (x : Int)) = (a : Int) := by rw [ea]; split <;> omega
  have hmax : (if (y : Int) > (x : Int) then (y : Int) else (x : Int)) = (b : Int) := by rw [eb]; split <;> omega
  have ha : a < 2 * (9 + A.length) := by omega
  have hb : b < 2 * (9 + A.length) := by omega
  have hst : andS A x y = (if a = 0 ∨ (a % 2 = 0 ∧ b = a + 1) then (0, A) else if a = 1 ∨ a = b then (b, A) else match idx (a, b) A with
    | some i => (2 * (9 + i), A)
    | none => (2 * (9 + A.length), A ++ [(a, b)])) := by subst ea; subst eb; unfold andS; rfl
  have pl : IntKind.i64.wrap ((a : Int) + 1) = ((a + 1 : Nat) : Int) := by rw [IntWalk.i64_in _ (by omega)]; omega
  have q0 : ((a : Int) == 0) = decide (a = 0) := ieq a 0
  have q1 : ((a : Int) == 1) = decide (a = 1) := ieq a 1
  have q2 : (((a % 2 : Nat) : Int) == 0) = decide (a % 2 = 0) := ieq _ 0
  have b2 := h.ext [.cells [.int .i64 (x : Int), .int .i64 (y : Int)] 0 [], .cells (keyC (a, b)) 0 []]
  have kp2 := Kp.ext L [.cells [.int .i64 (x : Int), .int .i64 (y : Int)] 0 [], .cells (keyC (a, b)) 0 []] k m o
  refine Ev.seq rfl (Ev.reg' ?_)
  simp (maxSteps := 2000000) only [go_sem, Nat.reduceBEq, Nat.reduceLT, Nat.reduceAdd, Nat.reduceMul, Nat.reduceLeDiff, Nat.reduceEqDiff, decide_true, decide_false, reduceIte, and_true, true_and]
  refine Ev.seq rfl (Ev.seq rfl (Ev.reg' ?_))
  have rp : repl 2 [V.int .i64 0] = [.int .i64 0, .int .i64 0] := rfl
  simp (maxSteps := 2000000) only [go_sem, Nat.reduceBEq, Nat.reduceLT, Nat.reduceAdd, Nat.reduceMul, Nat.reduceLeDiff, Nat.reduceEqDiff, decide_true, decide_false, reduceIte, and_true, true_and, rp, h1, over, Nat.zero_le, Nat.le_refl, Nat.zero_mul, Nat.one_mul, Bool.not_true]
  refine Ev.cond' ?_
  simp (maxSteps := 2000000) only [go_sem, Nat.reduceBEq, Nat.reduceLT, Nat.reduceAdd, Nat.reduceMul, Nat.reduceLeDiff, Nat.reduceEqDiff, decide_true, decide_false, reduceIte, and_true, true_and]
  refine Ev.skip ?_
  simp (maxSteps := 2000000) only [go_sem, Nat.reduceBEq, Nat.reduceLT, Nat.reduceAdd, Nat.reduceMul, Nat.reduceLeDiff, Nat.reduceEqDiff, decide_true, decide_false, reduceIte, and_true, true_and]
  refine Ev.seq rfl (Ev.reg' ?_)
  simp (maxSteps := 2000000) only [go_sem, Nat.reduceBEq, Nat.reduceLT, Nat.reduceAdd, Nat.reduceMul, Nat.reduceLeDiff, Nat.reduceEqDiff, decide_true, decide_false, reduceIte, and_true, true_and, hmin, hmax, over, Nat.zero_le, Nat.le_refl]
  refine Ev.seq rfl (Ev.block (Ev.seq rfl (Ev.seq rfl (Ev.reg' ?_))))
  simp (maxSteps := 2000000) only [go_sem, Nat.reduceBEq, Nat.reduceLT, Nat.reduceAdd, Nat.reduceMul, Nat.reduceLeDiff, Nat.reduceEqDiff, decide_true, decide_false, reduceIte, and_true, true_and, q0, keyC]
  by_cases c0 : a = 0
  · have e : andS A x y = (0, A) := by rw [hst, if_pos (.inl c0)]
    rw [e]
    simp only [decide_eq_true c0]
    refine Ev.cond' ?_
    simp (maxSteps := 2000000) only [go_sem, Nat.reduceBEq, Nat.reduceLT, Nat.reduceAdd, Nat.reduceMul, Nat.reduceLeDiff, Nat.reduceEqDiff, decide_true, decide_false, reduceIte, and_true, true_and]
    refine Ev.skip ?_
    simp (maxSteps := 2000000) only [go_sem, Nat.reduceBEq, Nat.reduceLT, Nat.reduceAdd, Nat.reduceMul, Nat.reduceLeDiff, Nat.reduceEqDiff, decide_true, decide_false, reduceIte, and_true, true_and]
    refine Ev.cond' ?_
    simp (maxSteps := 2000000) only [go_sem, Nat.reduceBEq, Nat.reduceLT, Nat.reduceAdd, Nat.reduceMul, Nat.reduceLeDiff, Nat.reduceEqDiff, decide_true, decide_false, reduceIte, and_true, true_and]
    refine Ev.seq rfl (Ev.reg' ?_)
    simp (maxSteps := 2000000) only [go_sem, Nat.reduceBEq, Nat.reduceLT, Nat.reduceAdd, Nat.reduceMul, Nat.reduceLeDiff, Nat.reduceEqDiff, decide_true, decide_false, reduceIte, and_true, true_and]
    refine Ev.ret ?_
    simp (maxSteps := 2000000) only [go_sem, Nat.reduceBEq, Nat.reduceLT, Nat.reduceAdd, Nat.reduceMul, Nat.reduceLeDiff, Nat.reduceEqDiff, decide_true, decide_false, reduceIte, and_true, true_and]
    refine Ret.tmp rfl ?_
    simp (maxSteps := 2000000) only [go_sem, Nat.reduceBEq, Nat.reduceLT, Nat.reduceAdd, Nat.reduceMul, Nat.reduceLeDiff, Nat.reduceEqDiff, decide_true, decide_false, reduceIte, and_true, true_and]
    exact ⟨rfl, _, va, o, rfl, b2, kp2⟩

  simp only [decide_eq_false c0]
  refine Ev.cond' ?_
  simp (maxSteps := 2000000) only [go_sem, Nat.reduceBEq, Nat.reduceLT, Nat.reduceAdd, Nat.reduceMul, Nat.reduceLeDiff, Nat.reduceEqDiff, decide_true, decide_false, reduceIte, and_true, true_and]
  refine Ev.reg' ?_
  by_cases c1 : a % 2 = 0
  · by_cases c2 : b = a + 1
    · have e : andS A x y = (0, A) := by rw [hst, if_pos (.inr ⟨c1, c2⟩)]
      rw [e]
      simp (maxSteps := 2000000) only [go_sem, Nat.reduceBEq, Nat.reduceLT, Nat.reduceAdd, Nat.reduceMul, Nat.reduceLeDiff, Nat.reduceEqDiff, decide_true, decide_false, reduceIte, and_true, true_and, rem2, q2, decide_eq_true c1, pl, ieq, decide_eq_true c2]
      refine Ev.cond' ?_
      simp (maxSteps := 2000000) only [go_sem, Nat.reduceBEq, Nat.reduceLT, Nat.reduceAdd, Nat.reduceMul, Nat.reduceLeDiff, Nat.reduceEqDiff, decide_true, decide_false, reduceIte, and_true, true_and]
      refine Ev.seq rfl (Ev.reg' ?_)
      simp (maxSteps := 2000000) only [go_sem, Nat.reduceBEq, Nat.reduceLT, Nat.reduceAdd, Nat.reduceMul, Nat.reduceLeDiff, Nat.reduceEqDiff, decide_true, decide_false, reduceIte, and_true, true_and]
      refine Ev.ret ?_
      simp (maxSteps := 2000000) only [go_sem, Nat.reduceBEq, Nat.reduceLT, Nat.reduceAdd, Nat.reduceMul, Nat.reduceLeDiff, Nat.reduceEqDiff, decide_true, decide_false, reduceIte, and_true, true_and]
      refine Ret.tmp rfl ?_
      simp (maxSteps := 2000000) only [go_sem, Nat.reduceBEq, Nat.reduceLT, Nat.reduceAdd, Nat.reduceMul, Nat.reduceLeDiff, Nat.reduceEqDiff, decide_true, decide_false, reduceIte, and_true, true_and]
      exact ⟨rfl, _, va, o, rfl, b2, kp2⟩

    · simp (maxSteps := 2000000) only [go_sem, Nat.reduceBEq, Nat.reduceLT, Nat.reduceAdd, Nat.reduceMul, Nat.reduceLeDiff, Nat.reduceEqDiff, decide_true, decide_false, reduceIte, and_true, true_and, rem2, q2, decide_eq_true c1, pl, ieq, decide_eq_false c2]
      have c12 : ¬ (a = 0 ∨ (a % 2 = 0 ∧ b = a + 1)) := by omega
      refine Ev.cond' ?_
      simp (maxSteps := 2000000) only [go_sem, Nat.reduceBEq, Nat.reduceLT, Nat.reduceAdd, Nat.reduceMul, Nat.reduceLeDiff, Nat.reduceEqDiff, decide_true, decide_false, reduceIte, and_true, true_and]
      refine Ev.seq rfl (Ev.seq rfl (Ev.reg' ?_))
      simp (maxSteps := 2000000) only [go_sem, Nat.reduceBEq, Nat.reduceLT, Nat.reduceAdd, Nat.reduceMul, Nat.reduceLeDiff, Nat.reduceEqDiff, decide_true, decide_false, reduceIte, and_true, true_and, q1]
      by_cases c3 : a = 1
      · have e : andS A x y = (b, A) := by rw [hst, if_neg c12, if_pos (.inl c3)]
        rw [e]
        simp only [decide_eq_true c3]
        refine Ev.cond' ?_
        simp (maxSteps := 2000000) only [go_sem, Nat.reduceBEq, Nat.reduceLT, Nat.reduceAdd, Nat.reduceMul, Nat.reduceLeDiff, Nat.reduceEqDiff, decide_true, decide_false, reduceIte, and_true, true_and]
        refine Ev.skip ?_
        simp (maxSteps := 2000000) only [go_sem, Nat.reduceBEq, Nat.reduceLT, Nat.reduceAdd, Nat.reduceMul, Nat.reduceLeDiff, Nat.reduceEqDiff, decide_true, decide_false, reduceIte, and_true, true_and]
        refine Ev.cond' ?_
        simp (maxSteps := 2000000) only [go_sem, Nat.reduceBEq, Nat.reduceLT, Nat.reduceAdd, Nat.reduceMul, Nat.reduceLeDiff, Nat.reduceEqDiff, decide_true, decide_false, reduceIte, and_true, true_and]
        refine Ev.seq rfl (Ev.reg' ?_)
        simp (maxSteps := 2000000) only [go_sem, Nat.reduceBEq, Nat.reduceLT, Nat.reduceAdd, Nat.reduceMul, Nat.reduceLeDiff, Nat.reduceEqDiff, decide_true, decide_false, reduceIte, and_true, true_and]
        refine Ev.ret ?_
        simp (maxSteps := 2000000) only [go_sem, Nat.reduceBEq, Nat.reduceLT, Nat.reduceAdd, Nat.reduceMul, Nat.reduceLeDiff, Nat.reduceEqDiff, decide_true, decide_false, reduceIte, and_true, true_and]
        refine Ret.tmp rfl ?_
        simp (maxSteps := 2000000) only [go_sem, Nat.reduceBEq, Nat.reduceLT, Nat.reduceAdd, Nat.reduceMul, Nat.reduceLeDiff, Nat.reduceEqDiff, decide_true, decide_false, reduceIte, and_true, true_and]
        exact ⟨_, va, o, rfl, b2, kp2⟩

      simp only [decide_eq_false c3]
      refine Ev.cond' ?_
      simp (maxSteps := 2000000) only [go_sem, Nat.reduceBEq, Nat.reduceLT, Nat.reduceAdd, Nat.reduceMul, Nat.reduceLeDiff, Nat.reduceEqDiff, decide_true, decide_false, reduceIte, and_true, true_and]
      refine Ev.reg' ?_
      by_cases c4 : a = b
      · have e : andS A x y = (b, A) := by rw [hst, if_neg c12, if_pos (.inr c4)]
        rw [e]
        simp (maxSteps := 2000000) only [go_sem, Nat.reduceBEq, Nat.reduceLT, Nat.reduceAdd, Nat.reduceMul, Nat.reduceLeDiff, Nat.reduceEqDiff, decide_true, decide_false, reduceIte, and_true, true_and, ieq, decide_eq_true c4]
        refine Ev.cond' ?_
        simp (maxSteps := 2000000) only [go_sem, Nat.reduceBEq, Nat.reduceLT, Nat.reduceAdd, Nat.reduceMul, Nat.reduceLeDiff, Nat.reduceEqDiff, decide_true, decide_false, reduceIte, and_true, true_and]
        refine Ev.seq rfl (Ev.reg' ?_)
        simp (maxSteps := 2000000) only [go_sem, Nat.reduceBEq, Nat.reduceLT, Nat.reduceAdd, Nat.reduceMul, Nat.reduceLeDiff, Nat.reduceEqDiff, decide_true, decide_false, reduceIte, and_true, true_and]
        refine Ev.ret ?_
        simp (maxSteps := 2000000) only [go_sem, Nat.reduceBEq, Nat.reduceLT, Nat.reduceAdd, Nat.reduceMul, Nat.reduceLeDiff, Nat.reduceEqDiff, decide_true, decide_false, reduceIte, and_true, true_and]
        refine Ret.tmp rfl ?_
        simp (maxSteps := 2000000) only [go_sem, Nat.reduceBEq, Nat.reduceLT, Nat.reduceAdd, Nat.reduceMul, Nat.reduceLeDiff, Nat.reduceEqDiff, decide_true, decide_false, reduceIte, and_true, true_and]
        exact ⟨_, va, o, rfl, b2, kp2⟩

      simp (maxSteps := 2000000) only [go_sem, Nat.reduceBEq, Nat.reduceLT, Nat.reduceAdd, Nat.reduceMul, Nat.reduceLeDiff, Nat.reduceEqDiff, decide_true, decide_false, reduceIte, and_true, true_and, ieq, decide_eq_false c4]
      refine Ev.cond' ?_
      simp (maxSteps := 2000000) only [go_sem, Nat.reduceBEq, Nat.reduceLT, Nat.reduceAdd, Nat.reduceMul, Nat.reduceLeDiff, Nat.reduceEqDiff, decide_true, decide_false, reduceIte, and_true, true_and]
      refine Ev.skip ?_
      simp (maxSteps := 2000000) only [go_sem, Nat.reduceBEq, Nat.reduceLT, Nat.reduceAdd, Nat.reduceMul, Nat.reduceLeDiff, Nat.reduceEqDiff, decide_true, decide_false, reduceIte, and_true, true_and]
      have e : andS A x y = fnd A (a, b) := by rw [hst, if_neg c12, if_neg (by omega)]; rfl
      rw [e]
      refine and_tail b2 hA (a := a) (b := b) (p := L.length + 1) (by simp (maxSteps := 2000000) only [go_sem, Nat.reduceBEq, Nat.reduceLT, Nat.reduceAdd, Nat.reduceMul, Nat.reduceLeDiff, Nat.reduceEqDiff, decide_true, decide_false, reduceIte, and_true, true_and]) (by simp (maxSteps := 2000000) only [go_sem, Nat.reduceBEq, Nat.reduceLT, Nat.reduceAdd, Nat.reduceMul, Nat.reduceLeDiff, Nat.reduceEqDiff, decide_true, decide_false, reduceIte, and_true, true_and]) (by rw [gxs]; rfl) (fun e => by have := h.ha; rw [e] at this; have := this.lt; omega) n (by omega) ?_
      intro L' va' o' p1 p2
      exact ⟨rfl, L', va', o', rfl, p1, kp2.trans p2⟩

  · simp (maxSteps := 2000000) only [go_sem, Nat.reduceBEq, Nat.reduceLT, Nat.reduceAdd, Nat.reduceMul, Nat.reduceLeDiff, Nat.reduceEqDiff, decide_true, decide_false, reduceIte, and_true, true_and, rem2, q2, decide_eq_false c1]
    have c12 : ¬ (a = 0 ∨ (a % 2 = 0 ∧ b = a + 1)) := by omega
    refine Ev.cond' ?_
    simp (maxSteps := 2000000) only [go_sem, Nat.reduceBEq, Nat.reduceLT, Nat.reduceAdd, Nat.reduceMul, Nat.reduceLeDiff, Nat.reduceEqDiff, decide_true, decide_false, reduceIte, and_true, true_and]
    refine Ev.seq rfl (Ev.seq rfl (Ev.reg' ?_))
    simp (maxSteps := 2000000) only [go_sem, Nat.reduceBEq, Nat.reduceLT, Nat.reduceAdd, Nat.reduceMul, Nat.reduceLeDiff, Nat.reduceEqDiff, decide_true, decide_false, reduceIte, and_true, true_and, q1]
    by_cases c3 : a = 1
    · have e : andS A x y = (b, A) := by rw [hst, if_neg c12, if_pos (.inl c3)]
      rw [e]
      simp only [decide_eq_true c3]
      refine Ev.cond' ?_
      simp (maxSteps := 2000000) only [go_sem, Nat.reduceBEq, Nat.reduceLT, Nat.reduceAdd, Nat.reduceMul, Nat.reduceLeDiff, Nat.reduceEqDiff, decide_true, decide_false, reduceIte, and_true, true_and]
      refine Ev.skip ?_
      simp (maxSteps := 2000000) only [go_sem, Nat.reduceBEq, Nat.reduceLT, Nat.reduceAdd, Nat.reduceMul, Nat.reduceLeDiff, Nat.reduceEqDiff, decide_true, decide_false, reduceIte, and_true, true_and]
      refine Ev.cond' ?_
      simp (maxSteps := 2000000) only [go_sem, Nat.reduceBEq, Nat.reduceLT, Nat.reduceAdd, Nat.reduceMul, Nat.reduceLeDiff, Nat.reduceEqDiff, decide_true, decide_false, reduceIte, and_true, true_and]
      refine Ev.seq rfl (Ev.reg' ?_)
      simp (maxSteps := 2000000) only [go_sem, Nat.reduceBEq, Nat.reduceLT, Nat.reduceAdd, Nat.reduceMul, Nat.reduceLeDiff, Nat.reduceEqDiff, decide_true, decide_false, reduceIte, and_true, true_and]
      refine Ev.ret ?_
      simp (maxSteps := 2000000) only [go_sem, Nat.reduceBEq, Nat.reduceLT, Nat.reduceAdd, Nat.reduceMul, Nat.reduceLeDiff, Nat.reduceEqDiff, decide_true, decide_false, reduceIte, and_true, true_and]
      refine Ret.tmp rfl ?_
      simp (maxSteps := 2000000) only [go_sem, Nat.reduceBEq, Nat.reduceLT, Nat.reduceAdd, Nat.reduceMul, Nat.reduceLeDiff, Nat.reduceEqDiff, decide_true, decide_false, reduceIte, and_true, true_and]
      exact ⟨_, va, o, rfl, b2, kp2⟩

    simp only [decide_eq_false c3]
    refine Ev.cond' ?_
    simp (maxSteps := 2000000) only [go_sem, Nat.reduceBEq, Nat.reduceLT, Nat.reduceAdd, Nat.reduceMul, Nat.reduceLeDiff, Nat.reduceEqDiff, decide_true, decide_false, reduceIte, and_true, true_and]
    refine Ev.reg' ?_
    by_cases c4 : a = b
    · have e : andS A x y = (b, A) := by rw [hst, if_neg c12, if_pos (.inr c4)]
      rw [e]
      simp (maxSteps := 2000000) only [go_sem, Nat.reduceBEq, Nat.reduceLT, Nat.reduceAdd, Nat.reduceMul, Nat.reduceLeDiff, Nat.reduceEqDiff, decide_true, decide_false, reduceIte, and_true, true_and, ieq, decide_eq_true c4]
      refine Ev.cond' ?_
      simp (maxSteps := 2000000) only [go_sem, Nat.reduceBEq, Nat.reduceLT, Nat.reduceAdd, Nat.reduceMul, Nat.reduceLeDiff, Nat.reduceEqDiff, decide_true, decide_false, reduceIte, and_true, true_and]
      refine Ev.seq rfl (Ev.reg' ?_)
      simp (maxSteps := 2000000) only [go_sem, Nat.reduceBEq, Nat.reduceLT, Nat.reduceAdd, Nat.reduceMul, Nat.reduceLeDiff, Nat.reduceEqDiff, decide_true, decide_false, reduceIte, and_true, true_and]
      refine Ev.ret ?_
      simp (maxSteps := 2000000) only [go_sem, Nat.reduceBEq, Nat.reduceLT, Nat.reduceAdd, Nat.reduceMul, Nat.reduceLeDiff, Nat.reduceEqDiff, decide_true, decide_false, reduceIte, and_true, true_and]
      refine Ret.tmp rfl ?_
      simp (maxSteps := 2000000) only [go_sem, Nat.reduceBEq, Nat.reduceLT, Nat.reduceAdd, Nat.reduceMul, Nat.reduceLeDiff, Nat.reduceEqDiff, decide_true, decide_false, reduceIte, and_true, true_and]
      exact ⟨_, va, o, rfl, b2, kp2⟩

    simp (maxSteps := 2000000) only [go_sem, Nat.reduceBEq, Nat.reduceLT, Nat.reduceAdd, Nat.reduceMul, Nat.reduceLeDiff, Nat.reduceEqDiff, decide_true, decide_false, reduceIte, and_true, true_and, ieq, decide_eq_false c4]
    refine Ev.cond' ?_
    simp (maxSteps := 2000000) only [go_sem, Nat.reduceBEq, Nat.reduceLT, Nat.reduceAdd, Nat.reduceMul, Nat.reduceLeDiff, Nat.reduceEqDiff, decide_true, decide_false, reduceIte, and_true, true_and]
    refine Ev.skip ?_
    simp (maxSteps := 2000000) only [go_sem, Nat.reduceBEq, Nat.reduceLT, Nat.reduceAdd, Nat.reduceMul, Nat.reduceLeDiff, Nat.reduceEqDiff, decide_true, decide_false, reduceIte, and_true, true_and]
    have e : andS A x y = fnd A (a, b) := by rw [hst, if_neg c12, if_neg (by omega)]; rfl
    rw [e]
    refine and_tail b2 hA (a := a) (b := b) (p := L.length + 1) (by simp (maxSteps := 2000000) only [go_sem, Nat.reduceBEq, Nat.reduceLT, Nat.reduceAdd, Nat.reduceMul, Nat.reduceLeDiff, Nat.reduceEqDiff, decide_true, decide_false, reduceIte, and_true, true_and]) (by simp (maxSteps := 2000000) only [go_sem, Nat.reduceBEq, Nat.reduceLT, Nat.reduceAdd, Nat.reduceMul, Nat.reduceLeDiff, Nat.reduceEqDiff, decide_true, decide_false, reduceIte, and_true, true_and]) (by rw [gxs]; rfl) (fun e => by have := h.ha; rw [e] at this; have := this.lt; omega) n (by omega) ?_
    intro L' va' o' p1 p2
    exact ⟨rfl, L', va', o', rfl, p1, kp2.trans p2⟩

end
end Bt

set_option linter.unusedVariables false
open Go Go.Vm Go.Proofs
namespace Bt
variable [Gl]
theorem z9 : (List.replicate 9 false).length = 9 := rfl
theorem z0 : (List.replicate 9 false).getD 0 false = false := rfl
theorem notS_lt {x c : Nat} (h : x < 2 * c) : notS x < 2 * c := by have := notS_half x; omega
theorem andS_bound {A : List (Nat × Nat)} {x y : Nat} (hG : Good 9 A) (hx : x < 2 * (9 + A.length)) (hy : y < 2 * (9 + A.length)) : (andS A x y).1 < 2 * (9 + (andS A x y).2.length) ∧ Good 9 (andS A x y).2 ∧ (andS A x y).2.length ≤ A.length + 1 ∧ A.length ≤ (andS A x y).2.length := by
  obtain ⟨_, h2, h3, _, h5, h6⟩ := andS_ok (x := x) (y := y) z9 z0 hG (by omega) (by omega)
  exact ⟨by omega, h2, h5, h6⟩
theorem orS_bound {A : List (Nat × Nat)} {x y : Nat} (hG : Good 9 A) (hx : x < 2 * (9 + A.length)) (hy : y < 2 * (9 + A.length)) : (orS A x y).1 < 2 * (9 + (orS A x y).2.length) ∧ Good 9 (orS A x y).2 ∧ (orS A x y).2.length ≤ A.length + 1 ∧ A.length ≤ (orS A x y).2.length := by
  obtain ⟨_, h2, h3, _, h5, h6⟩ := orS_ok (x := x) (y := y) z9 z0 hG (by omega) (by omega)
  exact ⟨by omega, h2, h5, h6⟩
section
variable {lo : Nat} {L : List Ob} {k m : Nat} {va : V} {A : List (Nat × Nat)} {o : Option Nat}
theorem or_run (h : BS lo L k m va A o) (hG : Good 9 A) (hA : A.length ≤ 44) {x y : Nat} (hx : x < 2 * (9 + A.length)) (hy : y < 2 * (9 + A.length)) (n : Nat) (hn : 3001 ≤ n) :
    ∃ L' va' o', callS Tryz.prog Sp n 20 [.ptr (idOf k) 0, .int .i64 (x : Int), .int .i64 (y : Int)] (stL L) = some (.int .i64 (((orS A x y).1 : Nat) : Int), stL L') ∧ BS lo L' k m va' (orS A x y).2 o' ∧ Kp L L' k m o o' := by
  obtain ⟨n, rfl⟩ : ∃ j, n = j + 1 := ⟨n - 1, by omega⟩
  suffices hs : ∃ v S', callS Tryz.prog Sp (n + 1) 20 [.ptr (idOf k) 0, .int .i64 (x : Int), .int .i64 (y : Int)] (stL L) = some (v, S') ∧ (v = .int .i64 (((orS A x y).1 : Nat) : Int) ∧ ∃ L' va' o', S' = stL L' ∧ BS lo L' k m va' (orS A x y).2 o' ∧ Kp L L' k m o o') by
    obtain ⟨v, S', h, rfl, L', va', o', rfl, h1, h2⟩ := hs; exact ⟨L', va', o', h, h1, h2⟩
  refine runS (fun v h => h) Tryz.func20 rfl (by simp [Tryz.f20]) ?_
  have r1 := not_run h.hk h.len (by omega) hx n (by omega)
  have b1 := h.ext [.cells (litC x) 0 []]
  have r2 := not_run b1.hk b1.len (by omega) hy n (by omega)
  have b2 := b1.ext [.cells (litC y) 0 []]
  obtain ⟨p1, p2, p3, p4⟩ := andS_bound hG (notS_lt hx) (notS_lt hy)
  obtain ⟨L3, va3, o3, r3, b3, kp3⟩ := and_run b2 (by omega) (notS_lt hx) (notS_lt hy) n (by omega)
  have r4 := not_run b3.hk b3.len (by omega) p1 n (by omega)
  simp only [List.append_assoc, List.cons_append, List.nil_append] at r2 r3 kp3
  refine Ev.seq rfl (Ev.reg' ?_)
  simp (maxSteps := 2000000) only [go_sem, Nat.reduceBEq, Nat.reduceLT, Nat.reduceAdd, Nat.reduceMul, Nat.reduceLeDiff, Nat.reduceEqDiff, decide_true, decide_false, reduceIte, and_true, true_and]
  refine Ev.seq rfl (Ev.reg' ?_)
  simp (maxSteps := 2000000) only [go_sem, Nat.reduceBEq, Nat.reduceLT, Nat.reduceAdd, Nat.reduceMul, Nat.reduceLeDiff, Nat.reduceEqDiff, decide_true, decide_false, reduceIte, and_true, true_and, r1, r2]
  refine Ev.seq rfl (Ev.reg' ?_)
  simp (maxSteps := 2000000) only [go_sem, Nat.reduceBEq, Nat.reduceLT, Nat.reduceAdd, Nat.reduceMul, Nat.reduceLeDiff, Nat.reduceEqDiff, decide_true, decide_false, reduceIte, and_true, true_and, r3, r4]
  refine Ev.ret (Ret.tmp rfl ?_)
  simp (maxSteps := 2000000) only [go_sem, Nat.reduceBEq, Nat.reduceLT, Nat.reduceAdd, Nat.reduceMul, Nat.reduceLeDiff, Nat.reduceEqDiff, decide_true, decide_false, reduceIte, and_true, true_and]
  refine ⟨rfl, _, va3, o3, rfl, b3.ext _, ?_⟩
  exact (Kp.ext L _ k m o).trans (kp3.trans (Kp.ext L3 _ k m o3))
/-- Rows that are not the builder's. -/
theorem Kp.own {L' : List Ob} {o' ow : Option Nat} {lo2 es : Nat} {v : V} {rs : List (List V)} (h : Kp L L' k m o o') (hw : Own lo2 L es v rs ow) (hn : ∀ j, ow = some j → j ≠ k ∧ j ≠ m ∧ o ≠ some j) : Own lo2 L' es v rs ow ∧ ∀ j, ow = some j → j ≠ k ∧ j ≠ m ∧ o' ≠ some j := by
  obtain ⟨h1, h2, h3⟩ := h
  refine ⟨hw.keep fun j hj => ?_, fun j hj => ?_⟩
  · obtain ⟨n1, n2, n3⟩ := hn j hj
    subst hj
    exact h2 j hw.lt n1 n2 n3
  · obtain ⟨n1, n2, n3⟩ := hn j hj
    refine ⟨n1, n2, ?_⟩
    subst hj
    have := hw.lt
    rcases h3 with e | ⟨i, e, hi⟩
    · rw [e]; exact n3
    · rw [e]; intro e; injection e with e; omega
theorem foldS_snoc : ∀ (l : List Nat) (A : List (Nat × Nat)) (acc x : Nat), foldS A acc (l ++ [x]) = orS (foldS A acc l).2 (foldS A acc l).1 x
  | [], A, acc, x => rfl
  | y :: l, A, acc, x => by simp only [List.cons_append, foldS]; exact foldS_snoc l _ _ x
theorem fold_run (h : BS lo L k m va A o) (hG : Good 9 A) {acc : Nat} (hacc : acc < 2 * (9 + A.length)) {xs : List Nat} (hx : ∀ x ∈ xs, x < 18) (hA : A.length + xs.length ≤ 44) {vl : V} {ow : Option Nat} {lo2 : Nat} (hw : Own lo2 L 1 vl (xs.map litC) ow) (hwn : ∀ j, ow = some j → j ≠ k ∧ j ≠ m ∧ o ≠ some j) (n : Nat) (hn : 3100 ≤ n) :
    ∃ L' va' o', callS Tryz.prog Sp n 19 [vl, .int .i64 (acc : Int), .fn 20 [.ptr (idOf k) 0] []] (stL L) = some (.int .i64 (((foldS A acc xs).1 : Nat) : Int), stL L') ∧ BS lo L' k m va' (foldS A acc xs).2 o' ∧ Kp L L' k m o o' := by
  obtain ⟨n, rfl⟩ : ∃ j, n = j + 1 := ⟨n - 1, by omega⟩
  suffices hs : ∃ v S', callS Tryz.prog Sp (n + 1) 19 [vl, .int .i64 (acc : Int), .fn 20 [.ptr (idOf k) 0] []] (stL L) = some (v, S') ∧ (v = .int .i64 (((foldS A acc xs).1 : Nat) : Int) ∧ ∃ L' va' o', S' = stL L' ∧ BS lo L' k m va' (foldS A acc xs).2 o' ∧ Kp L L' k m o o') by
    obtain ⟨v, S', h, rfl, L', va', o', rfl, h1, h2⟩ := hs; exact ⟨L', va', o', h, h1, h2⟩
  refine runS (fun v h => h) Tryz.func19 rfl (by simp [Tryz.f19]) ?_
  have l1 := rows_len hw.rows
  simp only [List.length_map] at l1
  have bound : ∀ j, j ≤ xs.length → (foldS A acc (xs.take j)).1 < 2 * (9 + (foldS A acc (xs.take j)).2.length) ∧ Good 9 (foldS A acc (xs.take j)).2 ∧ (foldS A acc (xs.take j)).2.length ≤ A.length + j ∧ A.length ≤ (foldS A acc (xs.take j)).2.length := by
    intro j
    induction j with
    | zero => intro _; simp only [List.take_zero, foldS]; exact ⟨hacc, hG, by omega, by omega⟩
    | succ j ih =>
      intro hj
      obtain ⟨q1, q2, q3, q4⟩ := ih (by omega)
      have hxj : xs[j]? = some xs[j] := List.getElem?_eq_getElem (by omega)
      have := hx xs[j] (List.getElem_mem (by omega))
      obtain ⟨s1, s2, s3, s4⟩ := orS_bound q2 q1 (show xs[j] < 2 * (9 + (foldS A acc (xs.take j)).2.length) by omega)
      rw [List.take_add_one, hxj]
      simp only [Option.toList, foldS_snoc]
      exact ⟨s1, s2, by omega, by omega⟩
  refine Ev.seq rfl (Ev.reg' ?_)
  simp (maxSteps := 2000000) only [go_sem, Nat.reduceBEq, Nat.reduceLT, Nat.reduceAdd, Nat.reduceMul, Nat.reduceLeDiff, Nat.reduceEqDiff, decide_true, decide_false, reduceIte, and_true, true_and]
  refine Ev.seq rfl (Ev.seq rfl (Ev.reg' ?_))
  simp (maxSteps := 2000000) only [go_sem, Nat.reduceBEq, Nat.reduceLT, Nat.reduceAdd, Nat.reduceMul, Nat.reduceLeDiff, Nat.reduceEqDiff, decide_true, decide_false, reduceIte, and_true, true_and, l1]
  refine Ev.block (Ev.loop (fun q t S => t 2 = .fn 20 [.ptr (idOf k) 0] [] ∧ t 9 = vl ∧ t 10 = .int .i64 (xs.length : Int) ∧ ∃ L' va' o', S = stL L' ∧ ∃ j : Nat, t 11 = .int .i64 (j : Int) ∧ j + q = xs.length ∧ t 1 = .int .i64 (((foldS A acc (xs.take j)).1 : Nat) : Int) ∧ BS lo L' k m va' (foldS A acc (xs.take j)).2 o' ∧ Kp L L' k m o o') xs.length (by omega) ?_ ?_)
  · simp (maxSteps := 2000000) only [go_sem, Nat.reduceBEq, Nat.reduceLT, Nat.reduceAdd, Nat.reduceMul, Nat.reduceLeDiff, Nat.reduceEqDiff, decide_true, decide_false, reduceIte, and_true, true_and]
    exact ⟨L, va, o, rfl, 0, rfl, by omega, by simp [foldS], by simpa [foldS] using h, Kp.refl ..⟩
  intro q t S ⟨i2, i9, i10, L', va', o', iS, j, i11, hjq, i1, hB, hK⟩
  subst iS
  refine Ev.seq rfl (Ev.reg' ?_)
  simp (maxSteps := 2000000) only [go_sem, Nat.reduceBEq, Nat.reduceLT, Nat.reduceAdd, Nat.reduceMul, Nat.reduceLeDiff, Nat.reduceEqDiff, decide_true, decide_false, reduceIte, and_true, true_and, i10, i11]
  refine Ev.seq rfl (Ev.cond' ?_)
  simp (maxSteps := 2000000) only [go_sem, Nat.reduceBEq, Nat.reduceLT, Nat.reduceAdd, Nat.reduceMul, Nat.reduceLeDiff, Nat.reduceEqDiff, decide_true, decide_false, reduceIte, and_true, true_and]
  by_cases hj : (j : Int) < (xs.length : Int)
  · have hj' : j < xs.length := by exact_mod_cast hj
    have hxj : xs[j]? = some xs[j] := List.getElem?_eq_getElem hj'
    have hx18 := hx xs[j] (List.getElem_mem hj')
    obtain ⟨q1, q2, q3, q4⟩ := bound j (by omega)
    obtain ⟨hw', hwn'⟩ := hK.own hw hwn
    obtain ⟨a, ra, ha1, ha2⟩ := rows_idx hw'.rows (r := litC xs[j]) (j := j) (by rw [List.getElem?_map, hxj]; rfl) .i64
    obtain ⟨L2, va2, o2, r2, b2, kp2⟩ := or_run hB q2 (by omega) q1 (show xs[j] < 2 * (9 + (foldS A acc (xs.take j)).2.length) by omega) n (by omega)
    simp only [hj, decide_true, wpC_true]
    refine Ev.skip ?_
    simp (maxSteps := 2000000) only [go_sem, Nat.reduceBEq, Nat.reduceLT, Nat.reduceAdd, Nat.reduceMul, Nat.reduceLeDiff, Nat.reduceEqDiff, decide_true, decide_false, reduceIte, and_true, true_and]
    refine Ev.seq rfl (Ev.block (Ev.seq rfl (Ev.reg' ?_)))
    simp (maxSteps := 2000000) only [go_sem, Nat.reduceBEq, Nat.reduceLT, Nat.reduceAdd, Nat.reduceMul, Nat.reduceLeDiff, Nat.reduceEqDiff, decide_true, decide_false, reduceIte, and_true, true_and, i9, i11, ha1, ha2]
    refine Ev.reg' ?_
    simp (maxSteps := 2000000) only [go_sem, Nat.reduceBEq, Nat.reduceLT, Nat.reduceAdd, Nat.reduceMul, Nat.reduceLeDiff, Nat.reduceEqDiff, decide_true, decide_false, reduceIte, and_true, true_and, i2, i1, r2]
    refine Ev.reg' ?_
    simp (maxSteps := 2000000) only [go_sem, Nat.reduceBEq, Nat.reduceLT, Nat.reduceAdd, Nat.reduceMul, Nat.reduceLeDiff, Nat.reduceEqDiff, decide_true, decide_false, reduceIte, and_true, true_and, i11]
    refine ⟨q - 1, by omega, i2, i9, i10, L2, va2, o2, rfl, j + 1, by rw [IntWalk.i64_in _ (by omega)]; rfl, by omega, ?_, ?_, hK.trans kp2⟩
    · rw [List.take_add_one, hxj]; simp only [Option.toList, foldS_snoc]
    · rw [List.take_add_one, hxj]; simp only [Option.toList, foldS_snoc]; exact b2
  · simp only [hj, decide_false, wpC_false]
    refine Ev.exit ?_
    simp (maxSteps := 2000000) only [go_sem, Nat.reduceBEq, Nat.reduceLT, Nat.reduceAdd, Nat.reduceMul, Nat.reduceLeDiff, Nat.reduceEqDiff, decide_true, decide_false, reduceIte, and_true, true_and]
    refine Ev.seq rfl (Ev.reg' ?_)
    simp (maxSteps := 2000000) only [go_sem, Nat.reduceBEq, Nat.reduceLT, Nat.reduceAdd, Nat.reduceMul, Nat.reduceLeDiff, Nat.reduceEqDiff, decide_true, decide_false, reduceIte, and_true, true_and, i1]
    refine Ev.ret (Ret.tmp rfl ?_)
    simp (maxSteps := 2000000) only [go_sem, Nat.reduceBEq, Nat.reduceLT, Nat.reduceAdd, Nat.reduceMul, Nat.reduceLeDiff, Nat.reduceEqDiff, decide_true, decide_false, reduceIte, and_true, true_and]
    rw [List.take_of_length_le (by omega)] at hB ⊢
    exact ⟨rfl, L', va', o', rfl, hB, hK⟩
theorem truth_run (h : BS lo L k m va [] o) {xs : List Nat} (hx : ∀ x ∈ xs, x < 18) (hl : xs.length ≤ 40) {vl : V} {ow : Option Nat} {lo2 : Nat} (hw : Own lo2 L 1 vl (xs.map litC) ow) (hwn : ∀ j, ow = some j → j ≠ k ∧ j ≠ m ∧ o ≠ some j) (n : Nat) (hn : 3200 ≤ n) :
    ∃ L' va' o', callS Tryz.prog Sp n 7 [.ptr (idOf k) 0, vl] (stL L) = some (.int .i64 (((foldS [] 0 xs).1 : Nat) : Int), stL L') ∧ BS lo L' k m va' (foldS [] 0 xs).2 o' ∧ Kp L L' k m o o' := by
  obtain ⟨n, rfl⟩ : ∃ j, n = j + 1 := ⟨n - 1, by omega⟩
  obtain ⟨L', va', o', r, b, kp⟩ := fold_run (acc := 0) h trivial (by simp) hx (by simp; omega) hw hwn n (by omega)
  suffices hs : ∃ v S', callS Tryz.prog Sp (n + 1) 7 [.ptr (idOf k) 0, vl] (stL L) = some (v, S') ∧ (v = .int .i64 (((foldS [] 0 xs).1 : Nat) : Int) ∧ S' = stL L') by
    obtain ⟨v, S', h, rfl, rfl⟩ := hs; exact ⟨L', va', o', h, b, kp⟩
  refine runS (fun v h => h) Tryz.func7 rfl (by simp [Tryz.f7]) ?_
  refine Ev.seq rfl (Ev.reg' ?_)
  simp (maxSteps := 2000000) only [go_sem, Nat.reduceBEq, Nat.reduceLT, Nat.reduceAdd, Nat.reduceMul, Nat.reduceLeDiff, Nat.reduceEqDiff, decide_true, decide_false, reduceIte, and_true, true_and]
  refine Ev.seq rfl (Ev.reg' ?_)
  have r' : callS Tryz.prog Sp n 19 [vl, .int .i64 0, .fn 20 [.ptr (idOf k) 0] []] (stL L) = some (.int .i64 (((foldS [] 0 xs).1 : Nat) : Int), stL L') := r
  simp (maxSteps := 2000000) only [go_sem, Nat.reduceBEq, Nat.reduceLT, Nat.reduceAdd, Nat.reduceMul, Nat.reduceLeDiff, Nat.reduceEqDiff, decide_true, decide_false, reduceIte, and_true, true_and, r']
  refine Ev.ret (Ret.tmp rfl ?_)
  simp (maxSteps := 2000000) only [go_sem, Nat.reduceBEq, Nat.reduceLT, Nat.reduceAdd, Nat.reduceMul, Nat.reduceLeDiff, Nat.reduceEqDiff, decide_true, decide_false, reduceIte, and_true, true_and]
end
end Bt

