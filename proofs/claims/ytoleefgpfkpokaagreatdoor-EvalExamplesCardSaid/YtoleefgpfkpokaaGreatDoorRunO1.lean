/- A run under the evaluator, part 1: no statement of its own. -/
import Derived.Test.YtoleefgpfkpokaaGreatDoorVm6
import Derived.Test.YtoleefgpfkpokaaGreatDoorProg
import Derived.KernelRfl
set_option autoImplicit false
set_option maxRecDepth 100000
set_option linter.unusedSectionVars false
set_option linter.unusedVariables false
set_option linter.unusedSimpArgs false
set_option linter.unusedVariables false
open Go Go.Vm Go.Proofs
namespace El
variable [Gl]
theorem mix : Tryz.prog.follows .mixedOrders = true := by kernel_rfl
@[go_sem] theorem nt17 : Tryz.f17.ntmps = 33 := (rfl)
theorem isAgg50 : isAggT Tryz.prog 50 = some true := by kernel_rfl
theorem cells50 : Tryz.prog.cellsOf 50 = 2 := by kernel_rfl
@[go_sem] theorem ld50 (a : V) (S : St) : opLoad Tryz.prog 50 a S = takeN 2 (cellsAt S a) := load_agg isAgg50 cells50 a S
@[go_sem] theorem zero50 : zeroOf Tryz.prog 50 = some [.nils, .bool false] := by kernel_rfl
theorem isAgg38 : isAggT Tryz.prog 38 = some true := by kernel_rfl
theorem cells38 : Tryz.prog.cellsOf 38 = 4 := by kernel_rfl
@[go_sem] theorem ld38 (a : V) (S : St) : opLoad Tryz.prog 38 a S = takeN 4 (cellsAt S a) := load_agg isAgg38 cells38 a S
theorem isAgg29 : isAggT Tryz.prog 29 = some true := by kernel_rfl
theorem cells29 : Tryz.prog.cellsOf 29 = 2 := by kernel_rfl
@[go_sem] theorem ld29 (a : V) (S : St) : opLoad Tryz.prog 29 a S = takeN 2 (cellsAt S a) := load_agg isAgg29 cells29 a S
theorem isAgg58 : isAggT Tryz.prog 58 = some true := by kernel_rfl
theorem cells58 : Tryz.prog.cellsOf 58 = 8 := by kernel_rfl
@[go_sem] theorem ld58 (a : V) (S : St) : opLoad Tryz.prog 58 a S = takeN 8 (cellsAt S a) := load_agg isAgg58 cells58 a S
@[go_sem] theorem st50 (a x : V) (S : St) : opStore Tryz.prog 50 a x S = stA 2 a x S := store_agg isAgg50 cells50 a x S
@[go_sem] theorem pl50 : placesOf Tryz.prog 50 = some (plL [(0, 1), (1, 1)]) := by kernel_rfl
@[go_sem] theorem fa50_0 (x : V) : opFieldAddr Tryz.prog 50 x 0 = addrAdd 0 x := by kernel_rfl
theorem isAgg48 : isAggT Tryz.prog 48 = some false := by kernel_rfl
@[go_sem] theorem ld48 (a : V) (S : St) : opLoad Tryz.prog 48 a S = hd1 (cellsAt S a) := load_cell isAgg48 a S
@[go_sem] theorem fa50_1 (x : V) : opFieldAddr Tryz.prog 50 x 1 = addrAdd 1 x := by kernel_rfl
theorem isAgg4 : isAggT Tryz.prog 4 = some false := by kernel_rfl
@[go_sem] theorem ld4 (a : V) (S : St) : opLoad Tryz.prog 4 a S = hd1 (cellsAt S a) := load_cell isAgg4 a S
@[go_sem] theorem nt42 : Tryz.f42.ntmps = 22 := (rfl)
@[go_sem] theorem zero3 : zeroOf Tryz.prog 3 = some [.int .i64 0] := by kernel_rfl
theorem cells3 : Tryz.prog.cellsOf 3 = 1 := by kernel_rfl
theorem isAgg3 : isAggT Tryz.prog 3 = some false := by kernel_rfl
@[go_sem] theorem st3 (a x : V) (S : St) : opStore Tryz.prog 3 a x S = stC a x S := store_cell isAgg3 cells3 a x S
@[go_sem] theorem zero153 : zeroOf Tryz.prog 153 = some [.nils, .nils, .nils, .nils, .int .i64 0, .nils, .nilf, .nilf] := by kernel_rfl
@[go_sem] theorem pl153 : placesOf Tryz.prog 153 = some (plL [(0, 4), (4, 2), (6, 1), (7, 1)]) := by kernel_rfl
@[go_sem] theorem fa153_2 (x : V) : opFieldAddr Tryz.prog 153 x 2 = addrAdd 6 x := by kernel_rfl
theorem cells22 : Tryz.prog.cellsOf 22 = 1 := by kernel_rfl
theorem isAgg22 : isAggT Tryz.prog 22 = some false := by kernel_rfl
@[go_sem] theorem st22 (a x : V) (S : St) : opStore Tryz.prog 22 a x S = stC a x S := store_cell isAgg22 cells22 a x S
@[go_sem] theorem fa153_3 (x : V) : opFieldAddr Tryz.prog 153 x 3 = addrAdd 7 x := by kernel_rfl
@[go_sem] theorem nt43 : Tryz.f43.ntmps = 165 := (rfl)
@[go_sem] theorem fa58_3 (x : V) : opFieldAddr Tryz.prog 58 x 3 = addrAdd 4 x := by kernel_rfl
theorem isAgg56 : isAggT Tryz.prog 56 = some false := by kernel_rfl
@[go_sem] theorem ld56 (a : V) (S : St) : opLoad Tryz.prog 56 a S = hd1 (cellsAt S a) := load_cell isAgg56 a S
@[go_sem] theorem len56 {call : CallF} {t : Tm} {S : St} {d : Option Nat} {ty : TypeId} {pos : String} {af : Array Edge} {g : Option (Nat × Bool)} {x : Operand} : evOp Tryz.prog call ⟨d, .call ⟨.builtin .len, #[x], #[56]⟩, ty, pos, af, g⟩ t S = lenR (lenOf (opd t x)) S := e_lenSl Tryz.underlying56
@[go_sem] theorem sz50 : szT Tryz.prog 50 = some 2 := by kernel_rfl
@[go_sem] theorem sz58 : szT Tryz.prog 58 = some 8 := by kernel_rfl
@[go_sem] theorem ia56 (x i : V) : opIndexAddr Tryz.prog 56 x i = idxAddr 8 x i := indexAddr_eq Tryz.underlying56 sz58 x i
@[go_sem] theorem zero58 : zeroOf Tryz.prog 58 = some [.int .u8 0, .str [], .nils, .bool false, .nils, .int .i64 0, .int .i64 0, .bool false] := by kernel_rfl
@[go_sem] theorem st58 (a x : V) (S : St) : opStore Tryz.prog 58 a x S = stA 8 a x S := store_agg isAgg58 cells58 a x S
@[go_sem] theorem ia70 (x i : V) : opIndexAddr Tryz.prog 70 x i = idxAddr 2 x i := indexAddr_eq Tryz.underlying70 sz50 x i
@[go_sem] theorem ld22 (a : V) (S : St) : opLoad Tryz.prog 22 a S = hd1 (cellsAt S a) := load_cell isAgg22 a S
@[go_sem] theorem fa58_5 (x : V) : opFieldAddr Tryz.prog 58 x 5 = addrAdd 6 x := by kernel_rfl
@[go_sem] theorem ld3 (a : V) (S : St) : opLoad Tryz.prog 3 a S = hd1 (cellsAt S a) := load_cell isAgg3 a S
@[go_sem] theorem fa58_0 (x : V) : opFieldAddr Tryz.prog 58 x 0 = addrAdd 0 x := by kernel_rfl
theorem isAgg5 : isAggT Tryz.prog 5 = some false := by kernel_rfl
@[go_sem] theorem ld5 (a : V) (S : St) : opLoad Tryz.prog 5 a S = hd1 (cellsAt S a) := load_cell isAgg5 a S
@[go_sem] theorem fa58_2 (x : V) : opFieldAddr Tryz.prog 58 x 2 = addrAdd 2 x := by kernel_rfl
@[go_sem] theorem fa153_1 (x : V) : opFieldAddr Tryz.prog 153 x 1 = addrAdd 4 x := by kernel_rfl
@[go_sem] theorem fa29_1 (x : V) : opFieldAddr Tryz.prog 29 x 1 = addrAdd 1 x := by kernel_rfl
theorem isAgg27 : isAggT Tryz.prog 27 = some false := by kernel_rfl
@[go_sem] theorem ld27 (a : V) (S : St) : opLoad Tryz.prog 27 a S = hd1 (cellsAt S a) := load_cell isAgg27 a S
@[go_sem] theorem fa58_4 (x : V) : opFieldAddr Tryz.prog 58 x 4 = addrAdd 5 x := by kernel_rfl
@[go_sem] theorem sz70 : szT Tryz.prog 70 = some 1 := by kernel_rfl
@[go_sem] theorem ia27 (x i : V) : opIndexAddr Tryz.prog 27 x i = idxAddr 1 x i := indexAddr_eq Tryz.underlying27 sz70 x i
theorem isAgg70 : isAggT Tryz.prog 70 = some false := by kernel_rfl
@[go_sem] theorem ld70 (a : V) (S : St) : opLoad Tryz.prog 70 a S = hd1 (cellsAt S a) := load_cell isAgg70 a S
@[go_sem] theorem fa153_0 (x : V) : opFieldAddr Tryz.prog 153 x 0 = addrAdd 0 x := by kernel_rfl
@[go_sem] theorem fa38_3 (x : V) : opFieldAddr Tryz.prog 38 x 3 = addrAdd 3 x := by kernel_rfl
theorem isAgg36 : isAggT Tryz.prog 36 = some false := by kernel_rfl
@[go_sem] theorem ld36 (a : V) (S : St) : opLoad Tryz.prog 36 a S = hd1 (cellsAt S a) := load_cell isAgg36 a S
@[go_sem] theorem sz81 : szT Tryz.prog 81 = some 36 := by kernel_rfl
@[go_sem] theorem ia36 (x i : V) : opIndexAddr Tryz.prog 36 x i = idxAddr 36 x i := indexAddr_eq Tryz.underlying36 sz81 x i
theorem isAgg81 : isAggT Tryz.prog 81 = some true := by kernel_rfl
theorem cells81 : Tryz.prog.cellsOf 81 = 36 := by kernel_rfl
@[go_sem] theorem ld81 (a : V) (S : St) : opLoad Tryz.prog 81 a S = takeN 36 (cellsAt S a) := load_agg isAgg81 cells81 a S
@[go_sem] theorem len70 {call : CallF} {t : Tm} {S : St} {d : Option Nat} {ty : TypeId} {pos : String} {af : Array Edge} {g : Option (Nat × Bool)} {x : Operand} : evOp Tryz.prog call ⟨d, .call ⟨.builtin .len, #[x], #[70]⟩, ty, pos, af, g⟩ t S = lenR (lenOf (opd t x)) S := e_lenSl Tryz.underlying70
@[go_sem] theorem fa29_0 (x : V) : opFieldAddr Tryz.prog 29 x 0 = addrAdd 0 x := by kernel_rfl
theorem isAgg2 : isAggT Tryz.prog 2 = some false := by kernel_rfl
@[go_sem] theorem ld2 (a : V) (S : St) : opLoad Tryz.prog 2 a S = hd1 (cellsAt S a) := load_cell isAgg2 a S
@[go_sem] theorem nt86 : Tryz.f86.ntmps = 6 := (rfl)
@[go_sem] theorem nt87 : Tryz.f87.ntmps = 4 := (rfl)
@[go_sem] theorem nt88 : Tryz.f88.ntmps = 4 := (rfl)
@[go_sem] theorem nt89 : Tryz.f89.ntmps = 11 := (rfl)
@[go_sem] theorem nt94 : Tryz.f94.ntmps = 112 := (rfl)
@[go_sem] theorem fa81_1 (x : V) : opFieldAddr Tryz.prog 81 x 1 = addrAdd 1 x := by kernel_rfl
@[go_sem] theorem fa38_0 (x : V) : opFieldAddr Tryz.prog 38 x 0 = addrAdd 0 x := by kernel_rfl
theorem isAgg33 : isAggT Tryz.prog 33 = some false := by kernel_rfl
@[go_sem] theorem ld33 (a : V) (S : St) : opLoad Tryz.prog 33 a S = hd1 (cellsAt S a) := load_cell isAgg33 a S
@[go_sem] theorem sz41 : szT Tryz.prog 41 = some 10 := by kernel_rfl
@[go_sem] theorem ia33 (x i : V) : opIndexAddr Tryz.prog 33 x i = idxAddr 10 x i := indexAddr_eq Tryz.underlying33 sz41 x i
theorem isAgg41 : isAggT Tryz.prog 41 = some true := by kernel_rfl
theorem cells41 : Tryz.prog.cellsOf 41 = 10 := by kernel_rfl
@[go_sem] theorem ld41 (a : V) (S : St) : opLoad Tryz.prog 41 a S = takeN 10 (cellsAt S a) := load_agg isAgg41 cells41 a S
@[go_sem] theorem fa81_2 (x : V) : opFieldAddr Tryz.prog 81 x 2 = addrAdd 2 x := by kernel_rfl
theorem isAgg42 : isAggT Tryz.prog 42 = some false := by kernel_rfl
@[go_sem] theorem ld42 (a : V) (S : St) : opLoad Tryz.prog 42 a S = hd1 (cellsAt S a) := load_cell isAgg42 a S
@[go_sem] theorem len42 {call : CallF} {t : Tm} {S : St} {d : Option Nat} {ty : TypeId} {pos : String} {af : Array Edge} {g : Option (Nat × Bool)} {x : Operand} : evOp Tryz.prog call ⟨d, .call ⟨.builtin .len, #[x], #[42]⟩, ty, pos, af, g⟩ t S = lenR (lenOf (opd t x)) S := e_lenSl Tryz.underlying42
@[go_sem] theorem sz3 : szT Tryz.prog 3 = some 1 := by kernel_rfl
@[go_sem] theorem ia42 (x i : V) : opIndexAddr Tryz.prog 42 x i = idxAddr 1 x i := indexAddr_eq Tryz.underlying42 sz3 x i
@[go_sem] theorem zero41 : zeroOf Tryz.prog 41 = some [.str [], .int .u8 0, .int .u8 0, .int .i64 0, .bool false, .int .i64 0, .int .i64 0, .int .i64 0, .int .i64 0, .int .i64 0] := by kernel_rfl
@[go_sem] theorem st41 (a x : V) (S : St) : opStore Tryz.prog 41 a x S = stA 10 a x S := store_agg isAgg41 cells41 a x S
@[go_sem] theorem fa41_3 (x : V) : opFieldAddr Tryz.prog 41 x 3 = addrAdd 3 x := by kernel_rfl
@[go_sem] theorem fa41_4 (x : V) : opFieldAddr Tryz.prog 41 x 4 = addrAdd 4 x := by kernel_rfl
@[go_sem] theorem fa81_3 (x : V) : opFieldAddr Tryz.prog 81 x 3 = addrAdd 3 x := by kernel_rfl
theorem isAgg79 : isAggT Tryz.prog 79 = some true := by kernel_rfl
theorem cells79 : Tryz.prog.cellsOf 79 = 33 := by kernel_rfl
@[go_sem] theorem ld79 (a : V) (S : St) : opLoad Tryz.prog 79 a S = takeN 33 (cellsAt S a) := load_agg isAgg79 cells79 a S
@[go_sem] theorem nt216 : Tryz.f216.ntmps = 18 := (rfl)
@[go_sem] theorem nt141 : Tryz.f141.ntmps = 166 := (rfl)
@[go_sem] theorem fa79_0 (x : V) : opFieldAddr Tryz.prog 79 x 0 = addrAdd 0 x := by kernel_rfl
@[go_sem] theorem fa79_9 (x : V) : opFieldAddr Tryz.prog 79 x 9 = addrAdd 30 x := by kernel_rfl
theorem isAgg75 : isAggT Tryz.prog 75 = some false := by kernel_rfl
@[go_sem] theorem ld75 (a : V) (S : St) : opLoad Tryz.prog 75 a S = hd1 (cellsAt S a) := load_cell isAgg75 a S
@[go_sem] theorem len75 {call : CallF} {t : Tm} {S : St} {d : Option Nat} {ty : TypeId} {pos : String} {af : Array Edge} {g : Option (Nat × Bool)} {x : Operand} : evOp Tryz.prog call ⟨d, .call ⟨.builtin .len, #[x], #[75]⟩, ty, pos, af, g⟩ t S = lenR (lenOf (opd t x)) S := e_lenSl Tryz.underlying75
@[go_sem] theorem sz79 : szT Tryz.prog 79 = some 33 := by kernel_rfl
@[go_sem] theorem ia75 (x i : V) : opIndexAddr Tryz.prog 75 x i = idxAddr 33 x i := indexAddr_eq Tryz.underlying75 sz79 x i
@[go_sem] theorem zero79 : zeroOf Tryz.prog 79 = some [.int .u8 0, .str [], .str [], .int .u8 0, .str [], .nils, .bool false, .nils, .int .i64 0, .int .i64 0, .bool false, .int .u8 0, .str [], .nils, .bool false, .nils, .int .i64 0, .int .i64 0, .bool false, .int .u8 0, .str [], .nils, .bool false, .nils, .int .i64 0, .int .i64 0, .bool false, .int .i64 0, .nils, .nils, .nils, .nils, .nils] := by kernel_rfl
@[go_sem] theorem st79 (a x : V) (S : St) : opStore Tryz.prog 79 a x S = stA 33 a x S := store_agg isAgg79 cells79 a x S
@[go_sem] theorem fa79_3 (x : V) : opFieldAddr Tryz.prog 79 x 3 = addrAdd 3 x := by kernel_rfl
@[go_sem] theorem fa79_5 (x : V) : opFieldAddr Tryz.prog 79 x 5 = addrAdd 19 x := by kernel_rfl
@[go_sem] theorem fa79_4 (x : V) : opFieldAddr Tryz.prog 79 x 4 = addrAdd 11 x := by kernel_rfl
@[go_sem] theorem st29 (a x : V) (S : St) : opStore Tryz.prog 29 a x S = stA 2 a x S := store_agg isAgg29 cells29 a x S
@[go_sem] theorem nt25 : Tryz.f25.ntmps = 49 := (rfl)
@[go_sem] theorem zero29 : zeroOf Tryz.prog 29 = some [.int .i64 0, .nils] := by kernel_rfl
@[go_sem] theorem len27 {call : CallF} {t : Tm} {S : St} {d : Option Nat} {ty : TypeId} {pos : String} {af : Array Edge} {g : Option (Nat × Bool)} {x : Operand} : evOp Tryz.prog call ⟨d, .call ⟨.builtin .len, #[x], #[27]⟩, ty, pos, af, g⟩ t S = lenR (lenOf (opd t x)) S := e_lenSl Tryz.underlying27
@[go_sem] theorem zero70 : zeroOf Tryz.prog 70 = some [.nils] := by kernel_rfl
@[go_sem] theorem pl29 : placesOf Tryz.prog 29 = some (plL [(0, 1), (1, 1)]) := by kernel_rfl
@[go_sem] theorem bs70 {call : CallF} {t : Tm} {S : St} {d : Option Nat} {ty : TypeId} {pos : String} {af : Array Edge} {g : Option (Nat × Bool)} {m : Nat} {ps : Array (Nat × Operand)} : evOp Tryz.prog call ⟨d, .buildSlice 70 m ps, ty, pos, af, g⟩ t S = buildS (zeroOf Tryz.prog 50) (szT Tryz.prog 50) m t ps.toList S := e_buildSlice Tryz.underlying70
@[go_sem] theorem ap70_70 {call : CallF} {t : Tm} {S : St} {d : Option Nat} {ty : TypeId} {pos : String} {af : Array Edge} {g : Option (Nat × Bool)} {x y : Operand} : evOp Tryz.prog call ⟨d, .call ⟨.builtin .append, #[x, y], #[70, 70]⟩, ty, pos, af, g⟩ t S = opAppend2 Tryz.prog 70 (opd t x) (opd t y) S := e_append Tryz.underlying70
theorem bytes50 : decide (Tryz.prog.bytesOf 50 ≤ 2 ^ 16 ∧ (zeroOf Tryz.prog 50).map List.length = some 2) = true := by kernel_rfl
theorem cells70 : Tryz.prog.cellsOf 70 = 1 := by kernel_rfl
@[go_sem] theorem st70 (a x : V) (S : St) : opStore Tryz.prog 70 a x S = stC a x S := store_cell isAgg70 cells70 a x S
@[go_sem] theorem nt99 : Tryz.f99.ntmps = 18 := (rfl)
@[go_sem] theorem fa58_6 (x : V) : opFieldAddr Tryz.prog 58 x 6 = addrAdd 7 x := by kernel_rfl
end El

set_option linter.unusedVariables false
open Go Go.Vm Go.Proofs
namespace El
variable [Gl]
/-! The machine of eval, its counter, its endless loop. -/
abbrev cnt (k : Nat) : Ob := .cells [.int .i64 (k : Int)] 0 []
abbrev mC (d0 d1 d2 d3 tm vs : V) (s : Nat) : List V := [d0, d1, d2, d3, tm, vs, .fn 86 [] [.ptr (idOf s) 0], .fn 87 [] [.ptr (idOf s) 0]]
section
variable {Sp : SpecF} {L : List Ob} {s k : Nat}
theorem step_run (hs : L[s]? = some (cnt k)) (hk : k ≤ 30000) (n : Nat) (hn : 1 ≤ n) (hno : ∀ v, ¬ Sp 86 [.ptr (idOf s) 0] v) : callS Tryz.prog Sp n 86 [.ptr (idOf s) 0] (stL L) = some (.bool (decide (k + 1 ≤ 20000)), stL (L.set s (cnt (k + 1)))) := by
  obtain ⟨n, rfl⟩ : ∃ m, n = m + 1 := ⟨n - 1, by omega⟩
  suffices hr : ∃ u S', callS Tryz.prog Sp (n + 1) 86 [.ptr (idOf s) 0] (stL L) = some (u, S') ∧ (u = .bool (decide (k + 1 ≤ 20000)) ∧ S' = stL (L.set s (cnt (k + 1)))) by
    obtain ⟨_, _, h, rfl, rfl⟩ := hr; exact h
  refine runS hno Tryz.func86 rfl (by simp [Tryz.f86]) ?_
  have w1 : IntKind.i64.wrap ((k : Int) + 1) = ((k + 1 : Nat) : Int) := by rw [IntWalk.i64_in _ (by omega)]; omega
  have hlt : s < L.length := (List.getElem?_eq_some_iff.1 hs).1
  have hs2 : (L.set s (cnt (k + 1)))[s]? = some (cnt (k + 1)) := List.getElem?_set_self hlt
  have c1 : (((k + 1 : Nat) : Int) ≤ 20000) = (k + 1 ≤ 20000) := by apply propext; omega
  refine Ev.seq rfl (Ev.reg' ?_)
  simp (maxSteps := 2000000) only [go_sem, Nat.reduceBEq, Nat.reduceLT, Nat.reduceAdd, Nat.reduceMul, Nat.reduceLeDiff, Nat.reduceEqDiff, decide_true, decide_false, reduceIte, and_true, true_and]
  refine Ev.seq rfl (Ev.reg' ?_)
  simp (maxSteps := 2000000) only [go_sem, Nat.reduceBEq, Nat.reduceLT, Nat.reduceAdd, Nat.reduceMul, Nat.reduceLeDiff, Nat.reduceEqDiff, decide_true, decide_false, reduceIte, and_true, true_and, hs, w1, over, Nat.zero_le, Nat.le_refl]
  refine Ev.seq rfl (Ev.reg' ?_)
  simp (maxSteps := 2000000) only [go_sem, Nat.reduceBEq, Nat.reduceLT, Nat.reduceAdd, Nat.reduceMul, Nat.reduceLeDiff, Nat.reduceEqDiff, decide_true, decide_false, reduceIte, and_true, true_and, hs2, c1]
  refine Ev.ret (Ret.tmp rfl ?_)
  simp (maxSteps := 2000000) only [go_sem, Nat.reduceBEq, Nat.reduceLT, Nat.reduceAdd, Nat.reduceMul, Nat.reduceLeDiff, Nat.reduceEqDiff, decide_true, decide_false, reduceIte, and_true, true_and]
theorem done_run (hs : L[s]? = some (cnt k)) (n : Nat) (hn : 1 ≤ n) (hno : ∀ v, ¬ Sp 87 [.ptr (idOf s) 0] v) : callS Tryz.prog Sp n 87 [.ptr (idOf s) 0] (stL L) = some (.bool (decide (20000 < k)), stL L) := by
  obtain ⟨n, rfl⟩ : ∃ m, n = m + 1 := ⟨n - 1, by omega⟩
  suffices hr : ∃ u S', callS Tryz.prog Sp (n + 1) 87 [.ptr (idOf s) 0] (stL L) = some (u, S') ∧ (u = .bool (decide (20000 < k)) ∧ S' = stL L) by
    obtain ⟨_, _, h, rfl, rfl⟩ := hr; exact h
  refine runS hno Tryz.func87 rfl (by simp [Tryz.f87]) ?_
  have c1 : ((k : Int) > 20000) = (20000 < k) := by apply propext; omega
  refine Ev.seq rfl (Ev.reg' ?_)
  simp (maxSteps := 2000000) only [go_sem, Nat.reduceBEq, Nat.reduceLT, Nat.reduceAdd, Nat.reduceMul, Nat.reduceLeDiff, Nat.reduceEqDiff, decide_true, decide_false, reduceIte, and_true, true_and]
  refine Ev.seq rfl (Ev.reg' ?_)
  simp (maxSteps := 2000000) only [go_sem, Nat.reduceBEq, Nat.reduceLT, Nat.reduceAdd, Nat.reduceMul, Nat.reduceLeDiff, Nat.reduceEqDiff, decide_true, decide_false, reduceIte, and_true, true_and, hs, c1]
  refine Ev.ret (Ret.tmp rfl ?_)
  simp (maxSteps := 2000000) only [go_sem, Nat.reduceBEq, Nat.reduceLT, Nat.reduceAdd, Nat.reduceMul, Nat.reduceLeDiff, Nat.reduceEqDiff, decide_true, decide_false, reduceIte, and_true, true_and]
/-- The node of a literal. -/
abbrev litN (nm : List Nat) (lb : V) (ls : Bool) (sg wd : Int) (sn : Bool) : V := .agg [.int .u8 1, .str nm, lb, .bool ls, .nils, .int .i64 sg, .int .i64 wd, .bool sn]
end
end El

set_option linter.unusedVariables false
open Go Go.Vm Go.Proofs
namespace El
variable [Gl]
/-- What is said of the functions (all that is run in place: nothing). -/
structure Env (Sp : SpecF) (lb : V) (ls : Bool) (wd : Int) (sn : Bool) (w1 w2 e2 uv : V) (b1 b2 c1 c2 : V) : Prop where
  n86 : ∀ a v, ¬ Sp 86 a v
  n87 : ∀ a v, ¬ Sp 87 a v
  n43 : ∀ a v, ¬ Sp 43 a v
  n99 : ∀ a v, ¬ Sp 99 a v
  n141 : ∀ a v, ¬ Sp 141 a v
  n216 : ∀ a v, ¬ Sp 216 a v
  lbc : lb.isCell = true
  k140 : ∀ n S, callS Tryz.prog Sp n 140 [.agg [lb, .bool ls], .bool sn] S = some (w1, S)
  k27 : ∀ n S, callS Tryz.prog Sp n 27 [w1, .int .i64 wd] S = some (.tup [w2, e2], S)
  k34 : ∀ n S, callS Tryz.prog Sp n 34 [w2] S = some (.int .u8 1, S)
  k34u : ∀ n S, ∃ y, callS Tryz.prog Sp n 34 [uv] S = some (.int .u8 y, S)
  k89 : ∀ n S, callS Tryz.prog Sp n 89 [.int .i64 wd] S = some (uv, S)
  w2e : w2 = .agg [b1, b2]
  b1c : b1.isCell = true
  b2c : b2.isCell = true
  uve : uv = .agg [c1, c2]
  c1c : c1.isCell = true
  c2c : c2.isCell = true
section
variable {Sp : SpecF} {lb : V} {ls : Bool} {wd : Int} {sn : Bool} {w1 w2 e2 uv b1 b2 c1 c2 : V} {L : List Ob} {s k mi : Nat} {d0 d1 d2 d3 tm vs : V}
theorem takenG_run (n99 : ∀ a v, ¬ Sp 99 a v) {u1 u2 r1 v1 v2 er y0 y1 y2 y3 y4 y5 : V} (lbc : u1.isCell = true) (lbd : u2.isCell = true) (b1c : v1.isCell = true) (b2c : v2.isCell = true) (k140 : ∀ n S, callS Tryz.prog Sp n 140 [.agg [u1, u2], .bool sn] S = some (r1, S)) (k27 : ∀ n S, callS Tryz.prog Sp n 27 [r1, .int .i64 wd] S = some (.tup [.agg [v1, v2], er], S)) (n : Nat) (hn : 1 ≤ n) :
    ∃ g, callS Tryz.prog Sp n 99 [.agg [u1, u2], .agg [y0, y1, y2, y3, y4, y5, .int .i64 wd, .bool sn]] (stL L) = some (.agg [v1, v2], stL (L ++ g)) := by
  obtain ⟨n, rfl⟩ : ∃ m, n = m + 1 := ⟨n - 1, by omega⟩
  suffices hr : ∃ u S', callS Tryz.prog Sp (n + 1) 99 [.agg [u1, u2], .agg [y0, y1, y2, y3, y4, y5, .int .i64 wd, .bool sn]] (stL L) = some (u, S') ∧ (u = .agg [v1, v2] ∧ ∃ g, S' = stL (L ++ g)) by
    obtain ⟨_, _, h, rfl, g, rfl⟩ := hr; exact ⟨g, h⟩
  refine runS (fun v => n99 _ v) Tryz.func99 rfl (by simp [Tryz.f99]) ?_
  have o1 := okC_cell lbc
  have o2 := cells_cell lbc
  have p1 := okC_cell b1c
  have p2 := cells_cell b1c
  have p3 := okC_cell b2c
  have p4 := cells_cell b2c
  have k1 := k140
  have k2 := k27
  refine Ev.seq rfl (Ev.reg' ?_)
  simp (maxSteps := 2000000) only [go_sem, Nat.reduceBEq, Nat.reduceLT, Nat.reduceAdd, Nat.reduceMul, Nat.reduceLeDiff, Nat.reduceEqDiff, decide_true, decide_false, reduceIte, and_true, true_and, o1, o2, p1, p2, p3, p4]
  obtain ⟨M, eM⟩ : ∃ M, M = L ++ [Ob.cells [u1, u2] 0 [], .cells [y0, y1, y2, y3, y4, y5, .int .i64 wd, .bool sn] 0 [], .cells [.nils, .bool false] 0 []] := ⟨_, rfl⟩
  have g0 : M[L.length]? = some (.cells [u1, u2] 0 []) := by rw [eM, gx0]; rfl
  have g1 : M[L.length + 1]? = some (.cells [y0, y1, y2, y3, y4, y5, .int .i64 wd, .bool sn] 0 []) := by rw [eM, gxs]; rfl
  have g2 : M[L.length + 2]? = some (.cells [.nils, .bool false] 0 []) := by rw [eM, gxs]; rfl
  have lM : M.length = L.length + 3 := by rw [eM]; simp
  have fM : ∀ i, i < L.length → M[i]? = L[i]? := fun i hi => by rw [eM, List.getElem?_append_left hi]
  rw [← eM]
  refine Ev.seq rfl (Ev.regDX rfl (by kernel_rfl) [(5, 3)] (by kernel_rfl) (fun T' Z B R htr p hp => ?_) ?_)
  · have s3 : Z 3 = stL M := htr.at 3 (by decide) (X := fun _ S => S = stL M) (by simp (maxSteps := 2000000) only [go_sem, Nat.reduceBEq, Nat.reduceLT, Nat.reduceAdd, Nat.reduceMul, Nat.reduceLeDiff, Nat.reduceEqDiff, decide_true, decide_false, reduceIte, and_true, true_and, g0, g1, k1])
    have s4 : Z 4 = stL M := htr.at 4 (by decide) (X := fun _ S => S = stL M) (by simp (maxSteps := 2000000) only [go_sem, Nat.reduceBEq, Nat.reduceLT, Nat.reduceAdd, Nat.reduceMul, Nat.reduceLeDiff, Nat.reduceEqDiff, decide_true, decide_false, reduceIte, and_true, true_and, g0, g1, k1])
    simp only [List.mem_cons, List.not_mem_nil, or_false] at hp
    subst hp
    refine LookOK.of_load rfl ?_
    show cellsAt (Z 3) (T' 5 12) = cellsAt (Z 4) (T' 5 12)
    rw [s3, s4]
  have rp : repl 1 [V.nils, V.bool false] = [.nils, .bool false] := rfl
  simp (maxSteps := 2000000) only [go_sem, Nat.reduceBEq, Nat.reduceLT, Nat.reduceAdd, Nat.reduceMul, Nat.reduceLeDiff, Nat.reduceEqDiff, decide_true, decide_false, reduceIte, and_true, true_and, g0, g1, k1, k2, p1, p2, p3, p4, over, Nat.zero_le, Nat.le_refl, rp]
  have h3 : (M ++ [Ob.cells [v1, v2] 0 []])[M.length]? = some (.cells [v1, v2] 0 []) := by rw [gx0]; rfl
  have h2 : (M ++ [Ob.cells [v1, v2] 0 []])[L.length + 2]? = some (.cells [.nils, .bool false] 0 []) := by rw [List.getElem?_append_left (by omega)]; exact g2
  have hy : ((M ++ [Ob.cells [v1, v2] 0 []]).set (L.length + 2) (.cells [v1, v2] 0 []))[L.length + 2]? = some (.cells [v1, v2] 0 []) := List.getElem?_set_self (by simp; omega)
  obtain ⟨g, eg⟩ : ∃ g, (M ++ [Ob.cells [v1, v2] 0 []]).set (L.length + 2) (.cells [v1, v2] 0 []) = L ++ g := app_of fun i hi => by rw [List.getElem?_set_ne (by omega), List.getElem?_append_left (by omega)]; exact fM i hi
  refine Ev.seq rfl (Ev.reg' ?_)
  simp (maxSteps := 2000000) only [go_sem, Nat.reduceBEq, Nat.reduceLT, Nat.reduceAdd, Nat.reduceMul, Nat.reduceLeDiff, Nat.reduceEqDiff, decide_true, decide_false, reduceIte, and_true, true_and, h3, h2, over, Nat.zero_le, Nat.le_refl]
  refine Ev.ret (Ret.cell rfl (v := .agg [v1, v2]) (by simp (maxSteps := 2000000) only [go_sem, Nat.reduceBEq, Nat.reduceLT, Nat.reduceAdd, Nat.reduceMul, Nat.reduceLeDiff, Nat.reduceEqDiff, decide_true, decide_false, reduceIte, and_true, true_and, hy]) ?_)
  exact ⟨rfl, g, by rw [eg]⟩
theorem taken_run (E : Env Sp lb ls wd sn w1 w2 e2 uv b1 b2 c1 c2) (nm : List Nat) (sg : Int) (n : Nat) (hn : 1 ≤ n) :
    ∃ g, callS Tryz.prog Sp n 99 [.agg [lb, .bool ls], litN nm lb ls sg wd sn] (stL L) = some (w2, stL (L ++ g)) := by
  have k2 := E.k27
  have we := E.w2e
  rw [we] at k2
  obtain ⟨g, h⟩ := takenG_run (L := L) E.n99 E.lbc (isCell_bool ls) E.b1c E.b2c E.k140 k2 n hn
  exact ⟨g, by rw [we]; exact h⟩
end
end El

set_option linter.unusedVariables false
open Go Go.Vm Go.Proofs
namespace El
variable [Gl]
theorem mk70 (l : List Ob) : opMakeSlice Tryz.prog 70 (.int .i64 ((0 : Nat) : Int)) (.int .i64 ((0 : Nat) : Int)) (stL l) = some (.ref 2 (idOf l.length) 0 0, stL (l ++ [.cells [] 0 []])) := by
  have hb : Tryz.prog.bytesOf 50 ≤ 2 ^ 16 := by
    have : decide (Tryz.prog.bytesOf 50 ≤ 2 ^ 16) = true := by kernel_rfl
    exact of_decide_eq_true this
  have z : zeroOf Tryz.prog 50 = some [.nils, .bool false] := by kernel_rfl
  have sz : szT Tryz.prog 50 = some 2 := by kernel_rfl
  simp only [opMakeSlice, Tryz.underlying70, z, sz, asIdx_nat]
  rw [if_pos ⟨Nat.le_refl _, by decide, hb, rfl⟩, opRow_stL, repl_zero]
section
variable {Sp : SpecF} {lb : V} {ls : Bool} {wd : Int} {sn : Bool} {w1 w2 e2 uv b1 b2 c1 c2 : V} {L : List Ob} {s k mi : Nat} {d0 d1 d2 d3 tm vs : V}
theorem lit_run (E : Env Sp lb ls wd sn w1 w2 e2 uv b1 b2 c1 c2) (hs : L[s]? = some (cnt k)) (hm : L[mi]? = some (.cells (mC d0 d1 d2 d3 tm vs s) 0 [])) (nm : List Nat) (sg : Int) (n : Nat) (hn : 2 ≤ n) :
    ∃ g, callS Tryz.prog Sp n 43 [.ptr (idOf mi) 0, litN nm lb ls sg wd sn] (stL L) = some (if 20000 < k then uv else w2, stL (L ++ g)) := by
  obtain ⟨n, rfl⟩ : ∃ m, n = m + 1 := ⟨n - 1, by omega⟩
  suffices hr : ∃ u S', callS Tryz.prog Sp (n + 1) 43 [.ptr (idOf mi) 0, litN nm lb ls sg wd sn] (stL L) = some (u, S') ∧ (u = (if 20000 < k then uv else w2) ∧ ∃ g, S' = stL (L ++ g)) by
    obtain ⟨_, _, h, rfl, g, rfl⟩ := hr; exact ⟨g, h⟩
  refine runS (fun v => E.n43 _ v) Tryz.func43 rfl (by simp [Tryz.f43]) ?_
  have o1 := okC_cell E.lbc
  have o2 := cells_cell E.lbc
  have l0 : lenOf .nils = some 0 := rfl
  have hsl : s < L.length := (List.getElem?_eq_some_iff.1 hs).1
  have hml : mi < L.length := (List.getElem?_eq_some_iff.1 hm).1
  obtain ⟨M, eM⟩ : ∃ M, M = L ++ [Ob.cells [.int .u8 1, .str nm, lb, .bool ls, .nils, .int .i64 sg, .int .i64 wd, .bool sn] 0 [], .cells [.nils, .bool false] 0 []] := ⟨_, rfl⟩
  have g0 : M[L.length]? = some (.cells [.int .u8 1, .str nm, lb, .bool ls, .nils, .int .i64 sg, .int .i64 wd, .bool sn] 0 []) := by rw [eM, gx0]; rfl
  have g1 : M[L.length + 1]? = some (.cells [.nils, .bool false] 0 []) := by rw [eM, gxs]; rfl
  have lM : M.length = L.length + 2 := by rw [eM]; simp
  have fM : ∀ i, i < L.length → M[i]? = L[i]? := fun i hi => by rw [eM, List.getElem?_append_left hi]
  refine Ev.seq rfl (Ev.reg' ?_)
  simp (maxSteps := 2000000) only [go_sem, Nat.reduceBEq, Nat.reduceLT, Nat.reduceAdd, Nat.reduceMul, Nat.reduceLeDiff, Nat.reduceEqDiff, decide_true, decide_false, reduceIte, and_true, true_and, o1, o2]
  rw [← eM]
  refine Ev.seq rfl (Ev.reg' ?_)
  simp (maxSteps := 2000000) only [go_sem, Nat.reduceBEq, Nat.reduceLT, Nat.reduceAdd, Nat.reduceMul, Nat.reduceLeDiff, Nat.reduceEqDiff, decide_true, decide_false, reduceIte, and_true, true_and, g0, l0, mk70]
  obtain ⟨N, eN⟩ : ∃ N, N = M ++ [Ob.cells [] 0 []] := ⟨_, rfl⟩
  have h0 : N[L.length]? = some (.cells [.int .u8 1, .str nm, lb, .bool ls, .nils, .int .i64 sg, .int .i64 wd, .bool sn] 0 []) := by rw [eN, List.getElem?_append_left (by omega)]; exact g0
  have h1 : N[L.length + 1]? = some (.cells [.nils, .bool false] 0 []) := by rw [eN, List.getElem?_append_left (by omega)]; exact g1
  have lN : N.length = L.length + 3 := by rw [eN]; simp; omega
  have fN : ∀ i, i < L.length → N[i]? = L[i]? := fun i hi => by rw [eN, List.getElem?_append_left (by omega)]; exact fM i hi
  rw [← eN]
  have z0 : ¬ ((0 : Int) < ((0 : Nat) : Int)) := by omega
  refine Ev.seq rfl (Ev.seq rfl (Ev.reg' ?_))
  simp (maxSteps := 2000000) only [go_sem, Nat.reduceBEq, Nat.reduceLT, Nat.reduceAdd, Nat.reduceMul, Nat.reduceLeDiff, Nat.reduceEqDiff, decide_true, decide_false, reduceIte, and_true, true_and, h0, l0]
  have hn0 : 0 < n := by omega
  refine Ev.block (Ev.loop (fun q t S => t 0 = .ptr (idOf mi) 0 ∧ t 3 = .ptr (idOf L.length) 0 ∧ t 4 = .ptr (idOf (L.length + 1)) 0 ∧ t 19 = .int .i64 ((0 : Nat) : Int) ∧ t 20 = .int .i64 0 ∧ S = stL N) 0 hn0 ?_ ?_)
  · simp (maxSteps := 2000000) only [go_sem, Nat.reduceBEq, Nat.reduceLT, Nat.reduceAdd, Nat.reduceMul, Nat.reduceLeDiff, Nat.reduceEqDiff, decide_true, decide_false, reduceIte, and_true, true_and]
  intro q t S ⟨i0, i3, i4, i19, i20, iS⟩
  subst iS
  refine Ev.seq rfl (Ev.reg' ?_)
  simp (maxSteps := 2000000) only [go_sem, Nat.reduceBEq, Nat.reduceLT, Nat.reduceAdd, Nat.reduceMul, Nat.reduceLeDiff, Nat.reduceEqDiff, decide_true, decide_false, reduceIte, and_true, true_and, i19, i20, z0]
  refine Ev.seq rfl (Ev.cond' ?_)
  simp (maxSteps := 2000000) only [go_sem, Nat.reduceBEq, Nat.reduceLT, Nat.reduceAdd, Nat.reduceMul, Nat.reduceLeDiff, Nat.reduceEqDiff, decide_true, decide_false, reduceIte, and_true, true_and]
  refine Ev.exit ?_
  simp (maxSteps := 2000000) only [go_sem, Nat.reduceBEq, Nat.reduceLT, Nat.reduceAdd, Nat.reduceMul, Nat.reduceLeDiff, Nat.reduceEqDiff, decide_true, decide_false, reduceIte, and_true, true_and]
  have hmN : N[mi]? = some (.cells (mC d0 d1 d2 d3 tm vs s) 0 []) := by rw [fN mi hml]; exact hm
  have hsN : N[s]? = some (cnt k) := by rw [fN s hsl]; exact hs
  have dn := done_run hsN n (by omega) (fun v => E.n87 _ v)
  refine Ev.seq rfl (Ev.seq rfl (Ev.reg' ?_))
  simp (maxSteps := 2000000) only [go_sem, Nat.reduceBEq, Nat.reduceLT, Nat.reduceAdd, Nat.reduceMul, Nat.reduceLeDiff, Nat.reduceEqDiff, decide_true, decide_false, reduceIte, and_true, true_and, i0, hmN, dn]
  have we := E.w2e
  have ue := E.uve
  by_cases hk : 20000 < k
  · have q1 := okC_cell E.c1c
    have q2 := cells_cell E.c1c
    have q3 := okC_cell E.c2c
    have q4 := cells_cell E.c2c
    have k89 := E.k89
    rw [ue] at k89
    simp only [decide_eq_true hk]
    refine Ev.cond' ?_
    simp (maxSteps := 2000000) only [go_sem, Nat.reduceBEq, Nat.reduceLT, Nat.reduceAdd, Nat.reduceMul, Nat.reduceLeDiff, Nat.reduceEqDiff, decide_true, decide_false, reduceIte, and_true, true_and]
    refine Ev.seq rfl (Ev.reg' ?_)
    simp (maxSteps := 2000000) only [go_sem, Nat.reduceBEq, Nat.reduceLT, Nat.reduceAdd, Nat.reduceMul, Nat.reduceLeDiff, Nat.reduceEqDiff, decide_true, decide_false, reduceIte, and_true, true_and, i3, i4, h0, h1, k89, q1, q2, q3, q4, over, Nat.zero_le, Nat.le_refl]
    have hy : (N.set (L.length + 1) (.cells [c1, c2] 0 []))[L.length + 1]? = some (.cells [c1, c2] 0 []) := List.getElem?_set_self (by omega)
    obtain ⟨g, eg⟩ : ∃ g, N.set (L.length + 1) (.cells [c1, c2] 0 []) = L ++ g := app_of fun i hi => by rw [List.getElem?_set_ne (by omega)]; exact fN i hi
    refine Ev.ret ?_
    simp (maxSteps := 2000000) only [go_sem, Nat.reduceBEq, Nat.reduceLT, Nat.reduceAdd, Nat.reduceMul, Nat.reduceLeDiff, Nat.reduceEqDiff, decide_true, decide_false, reduceIte, and_true, true_and]
    refine Ret.cell rfl (v := .agg [c1, c2]) (by simp (maxSteps := 2000000) only [go_sem, Nat.reduceBEq, Nat.reduceLT, Nat.reduceAdd, Nat.reduceMul, Nat.reduceLeDiff, Nat.reduceEqDiff, decide_true, decide_false, reduceIte, and_true, true_and, i4, hy]) ?_
    exact ⟨by rw [if_pos hk, ue], g, by rw [eg]⟩
  · have p1 := okC_cell E.b1c
    have p2 := cells_cell E.b1c
    have p3 := okC_cell E.b2c
    have p4 := cells_cell E.b2c
    simp only [decide_eq_false hk]
    refine Ev.cond' ?_
    simp (maxSteps := 2000000) only [go_sem, Nat.reduceBEq, Nat.reduceLT, Nat.reduceAdd, Nat.reduceMul, Nat.reduceLeDiff, Nat.reduceEqDiff, decide_true, decide_false, reduceIte, and_true, true_and]
    refine Ev.skip ?_
    simp (maxSteps := 2000000) only [go_sem, Nat.reduceBEq, Nat.reduceLT, Nat.reduceAdd, Nat.reduceMul, Nat.reduceLeDiff, Nat.reduceEqDiff, decide_true, decide_false, reduceIte, and_true, true_and]
    refine Ev.seq rfl (Ev.reg' ?_)
    simp (maxSteps := 2000000) only [go_sem, Nat.reduceBEq, Nat.reduceLT, Nat.reduceAdd, Nat.reduceMul, Nat.reduceLeDiff, Nat.reduceEqDiff, decide_true, decide_false, reduceIte, and_true, true_and]
    refine Ev.seq rfl (Ev.seq rfl (Ev.reg' ?_))
    obtain ⟨N1, eN1⟩ : ∃ N1, N1 = N ++ [Ob.cells [V.nils, V.bool false] 0 []] := ⟨_, rfl⟩
    have j0 : N1[L.length]? = some (.cells [.int .u8 1, .str nm, lb, .bool ls, .nils, .int .i64 sg, .int .i64 wd, .bool sn] 0 []) := by rw [eN1, List.getElem?_append_left (by omega)]; exact h0
    have j3 : N1[N.length]? = some (.cells [.nils, .bool false] 0 []) := by rw [eN1, gx0]; rfl
    rw [← eN1]
    simp (maxSteps := 2000000) only [go_sem, Nat.reduceBEq, Nat.reduceLT, Nat.reduceAdd, Nat.reduceMul, Nat.reduceLeDiff, Nat.reduceEqDiff, decide_true, decide_false, reduceIte, and_true, true_and, i3, j0]
    refine Ev.block (Ev.seq rfl (Ev.reg' ?_))
    simp (maxSteps := 2000000) only [go_sem, Nat.reduceBEq, Nat.reduceLT, Nat.reduceAdd, Nat.reduceMul, Nat.reduceLeDiff, Nat.reduceEqDiff, decide_true, decide_false, reduceIte, and_true, true_and]
    refine Ev.cond' ?_
    simp (maxSteps := 2000000) only [go_sem, Nat.reduceBEq, Nat.reduceLT, Nat.reduceAdd, Nat.reduceMul, Nat.reduceLeDiff, Nat.reduceEqDiff, decide_true, decide_false, reduceIte, and_true, true_and]
    refine Ev.reg' ?_
    simp (maxSteps := 2000000) only [go_sem, Nat.reduceBEq, Nat.reduceLT, Nat.reduceAdd, Nat.reduceMul, Nat.reduceLeDiff, Nat.reduceEqDiff, decide_true, decide_false, reduceIte, and_true, true_and, i3, j0, j3, o1, o2, over, Nat.zero_le, Nat.le_refl]
    obtain ⟨N2, eN2⟩ : ∃ N2, N2 = N1.set N.length (.cells [lb, .bool ls] 0 []) := ⟨_, rfl⟩
    have lN1 : N1.length = N.length + 1 := by rw [eN1]; simp
    have m0 : N2[L.length]? = some (.cells [.int .u8 1, .str nm, lb, .bool ls, .nils, .int .i64 sg, .int .i64 wd, .bool sn] 0 []) := by rw [eN2, List.getElem?_set_ne (by omega)]; exact j0
    have m1 : N2[L.length + 1]? = some (.cells [.nils, .bool false] 0 []) := by rw [eN2, List.getElem?_set_ne (by omega), eN1, List.getElem?_append_left (by omega)]; exact h1
    have m3 : N2[N.length]? = some (.cells [lb, .bool ls] 0 []) := by rw [eN2]; exact List.getElem?_set_self (by omega)
    have fN2 : ∀ i, i < L.length → N2[i]? = L[i]? := fun i hi => by rw [eN2, List.getElem?_set_ne (by omega), eN1, List.getElem?_append_left (by omega)]; exact fN i hi
    have lN2 : N2.length = N.length + 1 := by rw [eN2]; simp [lN1]
    rw [← eN2]
    obtain ⟨g, tk⟩ := taken_run (L := N2) E nm sg n (by omega)
    rw [we] at tk
    have m4 : (N2 ++ g)[L.length + 1]? = some (.cells [.nils, .bool false] 0 []) := by rw [List.getElem?_append_left (by omega)]; exact m1
    have hy : ((N2 ++ g).set (L.length + 1) (.cells [b1, b2] 0 []))[L.length + 1]? = some (.cells [b1, b2] 0 []) := List.getElem?_set_self (by simp; omega)
    obtain ⟨g', eg⟩ : ∃ g', (N2 ++ g).set (L.length + 1) (.cells [b1, b2] 0 []) = L ++ g' := app_of fun i hi => by rw [List.getElem?_set_ne (by omega), List.getElem?_append_left (by omega)]; exact fN2 i hi
    refine Ev.seq rfl (Ev.reg' ?_)
    simp (maxSteps := 2000000) only [go_sem, Nat.reduceBEq, Nat.reduceLT, Nat.reduceAdd, Nat.reduceMul, Nat.reduceLeDiff, Nat.reduceEqDiff, decide_true, decide_false, reduceIte, and_true, true_and, i3, i4, m0, m3, tk, m4, p1, p2, p3, p4, over, Nat.zero_le, Nat.le_refl]
    refine Ev.ret (Ret.cell rfl (v := .agg [b1, b2]) (by simp (maxSteps := 2000000) only [go_sem, Nat.reduceBEq, Nat.reduceLT, Nat.reduceAdd, Nat.reduceMul, Nat.reduceLeDiff, Nat.reduceEqDiff, decide_true, decide_false, reduceIte, and_true, true_and, i4, hy]) ?_)
    exact ⟨by rw [if_neg hk, we], g', by rw [eg]⟩
end
end El

set_option linter.unusedVariables false
open Go Go.Vm Go.Proofs
namespace El
variable [Gl]
section
variable {Sp : SpecF} {lb : V} {ls : Bool} {wd : Int} {sn : Bool} {w1 w2 e2 uv b1 b2 c1 c2 : V} {L : List Ob} {s k mi : Nat} {d0 d1 d2 d3 tm vs : V}
theorem holds_run (E : Env Sp lb ls wd sn w1 w2 e2 uv b1 b2 c1 c2) (hs : L[s]? = some (cnt k)) (hm : L[mi]? = some (.cells (mC d0 d1 d2 d3 tm vs s) 0 [])) (nm : List Nat) (sg : Int) (n : Nat) (hn : 3 ≤ n) :
    ∃ g, callS Tryz.prog Sp n 216 [.ptr (idOf mi) 0, litN nm lb ls sg wd sn] (stL L) = some (.bool (decide (¬ 20000 < k)), stL (L ++ g)) := by
  obtain ⟨n, rfl⟩ : ∃ m, n = m + 1 := ⟨n - 1, by omega⟩
  suffices hr : ∃ u S', callS Tryz.prog Sp (n + 1) 216 [.ptr (idOf mi) 0, litN nm lb ls sg wd sn] (stL L) = some (u, S') ∧ (u = .bool (decide (¬ 20000 < k)) ∧ ∃ g, S' = stL (L ++ g)) by
    obtain ⟨_, _, h, rfl, g, rfl⟩ := hr; exact ⟨g, h⟩
  refine runS (fun v => E.n216 _ v) Tryz.func216 rfl (by simp [Tryz.f216]) ?_
  have o1 := okC_cell E.lbc
  have o2 := cells_cell E.lbc
  have hsl : s < L.length := (List.getElem?_eq_some_iff.1 hs).1
  have hml : mi < L.length := (List.getElem?_eq_some_iff.1 hm).1
  obtain ⟨M, eM⟩ : ∃ M, M = L ++ [Ob.cells [.int .u8 1, .str nm, lb, .bool ls, .nils, .int .i64 sg, .int .i64 wd, .bool sn] 0 []] := ⟨_, rfl⟩
  have g0 : M[L.length]? = some (.cells [.int .u8 1, .str nm, lb, .bool ls, .nils, .int .i64 sg, .int .i64 wd, .bool sn] 0 []) := by rw [eM, gx0]; rfl
  have hsM : M[s]? = some (cnt k) := by rw [eM, List.getElem?_append_left hsl]; exact hs
  have hmM : M[mi]? = some (.cells (mC d0 d1 d2 d3 tm vs s) 0 []) := by rw [eM, List.getElem?_append_left hml]; exact hm
  obtain ⟨g, lr⟩ := lit_run E hsM hmM nm sg n (by omega)
  have hsG : (M ++ g)[s]? = some (cnt k) := by rw [List.getElem?_append_left (by rw [eM]; simp; omega)]; exact hsM
  have hmG : (M ++ g)[mi]? = some (.cells (mC d0 d1 d2 d3 tm vs s) 0 []) := by rw [List.getElem?_append_left (by rw [eM]; simp; omega)]; exact hmM
  have dn := done_run hsG n (by omega) (fun v => E.n87 _ v)
  obtain ⟨g', eg⟩ : ∃ g', M ++ g = L ++ g' := ⟨_, by rw [eM, List.append_assoc]⟩
  refine Ev.seq rfl (Ev.reg' ?_)
  simp (maxSteps := 2000000) only [go_sem, Nat.reduceBEq, Nat.reduceLT, Nat.reduceAdd, Nat.reduceMul, Nat.reduceLeDiff, Nat.reduceEqDiff, decide_true, decide_false, reduceIte, and_true, true_and, o1, o2]
  rw [← eM]
  refine Ev.seq rfl (Ev.reg' ?_)
  by_cases hk : 20000 < k
  · rw [if_pos hk] at lr
    obtain ⟨y, k34⟩ : ∃ y, callS Tryz.prog Sp n 34 [uv] (stL (M ++ g)) = some (.int .u8 y, stL (M ++ g)) := E.k34u n _
    have nk : ¬ (¬ 20000 < k) := fun h => h hk
    simp only [decide_eq_true hk] at dn
    rw [decide_eq_false nk]
    cases hy : (y == 1)
    · simp (maxSteps := 2000000) only [go_sem, Nat.reduceBEq, Nat.reduceLT, Nat.reduceAdd, Nat.reduceMul, Nat.reduceLeDiff, Nat.reduceEqDiff, decide_true, decide_false, reduceIte, and_true, true_and, g0, lr, k34, hy, hmG, dn]
      refine Ev.ret (Ret.tmp rfl ?_)
      simp (maxSteps := 2000000) only [go_sem, Nat.reduceBEq, Nat.reduceLT, Nat.reduceAdd, Nat.reduceMul, Nat.reduceLeDiff, Nat.reduceEqDiff, decide_true, decide_false, reduceIte, and_true, true_and]
      exact ⟨g', by rw [eg]⟩
    · simp (maxSteps := 2000000) only [go_sem, Nat.reduceBEq, Nat.reduceLT, Nat.reduceAdd, Nat.reduceMul, Nat.reduceLeDiff, Nat.reduceEqDiff, decide_true, decide_false, reduceIte, and_true, true_and, g0, lr, k34, hy, hmG, dn, Bool.not_true]
      refine Ev.ret (Ret.tmp rfl ?_)
      simp (maxSteps := 2000000) only [go_sem, Nat.reduceBEq, Nat.reduceLT, Nat.reduceAdd, Nat.reduceMul, Nat.reduceLeDiff, Nat.reduceEqDiff, decide_true, decide_false, reduceIte, and_true, true_and]
      exact ⟨g', by rw [eg]⟩
  · rw [if_neg hk] at lr
    have k34 := E.k34 n (stL (M ++ g))
    simp only [decide_eq_false hk] at dn
    rw [decide_eq_true hk]
    have y1 : ((1 : Int) == 1) = true := rfl
    simp (maxSteps := 2000000) only [go_sem, Nat.reduceBEq, Nat.reduceLT, Nat.reduceAdd, Nat.reduceMul, Nat.reduceLeDiff, Nat.reduceEqDiff, decide_true, decide_false, reduceIte, and_true, true_and, g0, lr, k34, y1, hmG, dn, Bool.not_false]
    refine Ev.ret (Ret.tmp rfl ?_)
    simp (maxSteps := 2000000) only [go_sem, Nat.reduceBEq, Nat.reduceLT, Nat.reduceAdd, Nat.reduceMul, Nat.reduceLeDiff, Nat.reduceEqDiff, decide_true, decide_false, reduceIte, and_true, true_and]
    exact ⟨g', by rw [eg]⟩
end
end El

set_option linter.unusedVariables false
open Go Go.Vm Go.Proofs
namespace El
variable [Gl]
/-- The store has grown, the counter stands at k. -/
structure Cn (L L' : List Ob) (s k : Nat) : Prop where
  len : L.length ≤ L'.length
  cn : L'[s]? = some (cnt k)
  old : ∀ i, i < L.length → i ≠ s → L'[i]? = L[i]?
section
variable {L L1 L2 : List Ob} {s k j : Nat}
theorem Cn.trans (h : Cn L L1 s k) (g : Cn L1 L2 s j) : Cn L L2 s j := ⟨by have := h.len; have := g.len; omega, g.cn, fun i hi hn => by rw [g.old i (by have := h.len; omega) hn]; exact h.old i hi hn⟩
theorem Cn.refl (h : L[s]? = some (cnt k)) : Cn L L s k := ⟨Nat.le_refl _, h, fun _ _ _ => rfl⟩
theorem Cn.ext (h : Cn L L1 s k) (X : List Ob) : Cn L (L1 ++ X) s k := ⟨by have := h.len; simp; omega, by rw [List.getElem?_append_left (List.getElem?_eq_some_iff.1 h.cn).1]; exact h.cn, fun i hi hn => by rw [List.getElem?_append_left (by have := h.len; omega)]; exact h.old i hi hn⟩
theorem Cn.set (h : Cn L L1 s k) : Cn L (L1.set s (cnt j)) s j := ⟨by have := h.len; simpa using this, List.getElem?_set_self (List.getElem?_eq_some_iff.1 h.cn).1, fun i hi hn => by rw [List.getElem?_set_ne (fun e => hn e.symm)]; exact h.old i hi hn⟩
end
section
variable {Sp : SpecF} {lb : V} {ls : Bool} {wd : Int} {sn : Bool} {w1 w2 e2 uv b1 b2 c1 c2 : V} {L : List Ob} {s k mi : Nat} {d0 d1 d2 d3 tm vs : V}
theorem null_run (E : Env Sp lb ls wd sn w1 w2 e2 uv b1 b2 c1 c2) (hs : L[s]? = some (cnt k)) (hk : k ≤ 20001) (hm : L[mi]? = some (.cells (mC d0 d1 d2 d3 tm vs s) 0 [])) {nr : List V} (n : Nat) (hn : 2 ≤ n) :
    ∃ u L', callS Tryz.prog Sp n 141 [.ptr (idOf mi) 0, .agg (.int .u8 1 :: nr)] (stL L) = some (u, stL L') ∧ Cn L L' s (k + 1) := by
  obtain ⟨n, rfl⟩ : ∃ m, n = m + 1 := ⟨n - 1, by omega⟩
  suffices hr : ∃ u S', callS Tryz.prog Sp (n + 1) 141 [.ptr (idOf mi) 0, .agg (.int .u8 1 :: nr)] (stL L) = some (u, S') ∧ ∃ L', S' = stL L' ∧ Cn L L' s (k + 1) by
    obtain ⟨u, _, h, L', rfl, hC⟩ := hr; exact ⟨u, L', h, hC⟩
  refine runS (fun v => E.n141 _ v) Tryz.func141 rfl (by simp [Tryz.f141]) ?_
  have hsl : s < L.length := (List.getElem?_eq_some_iff.1 hs).1
  have hml : mi < L.length := (List.getElem?_eq_some_iff.1 hm).1
  have hsm : s ≠ mi := fun e => by subst e; rw [hs] at hm; simp [mC] at hm
  obtain ⟨M, eM⟩ : ∃ M, M = L ++ [Ob.cells (.int .u8 1 :: nr) 0 []] := ⟨_, rfl⟩
  have g0 : M[L.length]? = some (.cells (.int .u8 1 :: nr) 0 []) := by rw [eM, gx0]; rfl
  have c0 : Cn L M s k := by rw [eM]; exact (Cn.refl hs).ext _
  have hmM : M[mi]? = some (.cells (mC d0 d1 d2 d3 tm vs s) 0 []) := by rw [c0.old mi hml (fun e => hsm e.symm)]; exact hm
  have st := step_run c0.cn (by omega) n (by omega) (fun v => E.n86 _ v)
  have c1 : Cn L (M.set s (cnt (k + 1))) s (k + 1) := c0.set
  have g1 : (M.set s (cnt (k + 1)))[L.length]? = some (.cells (.int .u8 1 :: nr) 0 []) := by rw [List.getElem?_set_ne (by omega)]; exact g0
  refine Ev.seq rfl (Ev.reg' ?_)
  simp (maxSteps := 2000000) only [go_sem, Nat.reduceBEq, Nat.reduceLT, Nat.reduceAdd, Nat.reduceMul, Nat.reduceLeDiff, Nat.reduceEqDiff, decide_true, decide_false, reduceIte, and_true, true_and]
  rw [← eM]
  refine Ev.seq rfl (Ev.seq rfl (Ev.reg' ?_))
  by_cases hk2 : k + 1 ≤ 20000
  · simp only [decide_eq_true hk2] at st
    simp (maxSteps := 2000000) only [go_sem, Nat.reduceBEq, Nat.reduceLT, Nat.reduceAdd, Nat.reduceMul, Nat.reduceLeDiff, Nat.reduceEqDiff, decide_true, decide_false, reduceIte, and_true, true_and, hmM, st, Bool.not_true]
    refine Ev.cond' ?_
    simp (maxSteps := 2000000) only [go_sem, Nat.reduceBEq, Nat.reduceLT, Nat.reduceAdd, Nat.reduceMul, Nat.reduceLeDiff, Nat.reduceEqDiff, decide_true, decide_false, reduceIte, and_true, true_and]
    refine Ev.skip ?_
    simp (maxSteps := 2000000) only [go_sem, Nat.reduceBEq, Nat.reduceLT, Nat.reduceAdd, Nat.reduceMul, Nat.reduceLeDiff, Nat.reduceEqDiff, decide_true, decide_false, reduceIte, and_true, true_and]
    refine Ev.seq rfl (Ev.reg' ?_)
    simp (maxSteps := 2000000) only [go_sem, Nat.reduceBEq, Nat.reduceLT, Nat.reduceAdd, Nat.reduceMul, Nat.reduceLeDiff, Nat.reduceEqDiff, decide_true, decide_false, reduceIte, and_true, true_and, g1]
    refine Ev.block (Ev.seq rfl (Ev.reg' ?_))
    simp (maxSteps := 2000000) only [go_sem, Nat.reduceBEq, Nat.reduceLT, Nat.reduceAdd, Nat.reduceMul, Nat.reduceLeDiff, Nat.reduceEqDiff, decide_true, decide_false, reduceIte, and_true, true_and]
    refine Ev.cond' ?_
    simp (maxSteps := 2000000) only [go_sem, Nat.reduceBEq, Nat.reduceLT, Nat.reduceAdd, Nat.reduceMul, Nat.reduceLeDiff, Nat.reduceEqDiff, decide_true, decide_false, reduceIte, and_true, true_and]
    refine Ev.seq rfl (Ev.reg' ?_)
    simp (maxSteps := 2000000) only [go_sem, Nat.reduceBEq, Nat.reduceLT, Nat.reduceAdd, Nat.reduceMul, Nat.reduceLeDiff, Nat.reduceEqDiff, decide_true, decide_false, reduceIte, and_true, true_and]
    refine Ev.cond' ?_
    simp (maxSteps := 2000000) only [go_sem, Nat.reduceBEq, Nat.reduceLT, Nat.reduceAdd, Nat.reduceMul, Nat.reduceLeDiff, Nat.reduceEqDiff, decide_true, decide_false, reduceIte, and_true, true_and]
    refine Ev.seq rfl (Ev.seq rfl (Ev.reg' ?_))
    simp (maxSteps := 2000000) only [go_sem, Nat.reduceBEq, Nat.reduceLT, Nat.reduceAdd, Nat.reduceMul, Nat.reduceLeDiff, Nat.reduceEqDiff, decide_true, decide_false, reduceIte, and_true, true_and]
    refine Ev.cond' ?_
    simp (maxSteps := 2000000) only [go_sem, Nat.reduceBEq, Nat.reduceLT, Nat.reduceAdd, Nat.reduceMul, Nat.reduceLeDiff, Nat.reduceEqDiff, decide_true, decide_false, reduceIte, and_true, true_and]
    refine Ev.seq rfl (Ev.reg' ?_)
    simp (maxSteps := 2000000) only [go_sem, Nat.reduceBEq, Nat.reduceLT, Nat.reduceAdd, Nat.reduceMul, Nat.reduceLeDiff, Nat.reduceEqDiff, decide_true, decide_false, reduceIte, and_true, true_and]
    refine Ev.cond' ?_
    simp (maxSteps := 2000000) only [go_sem, Nat.reduceBEq, Nat.reduceLT, Nat.reduceAdd, Nat.reduceMul, Nat.reduceLeDiff, Nat.reduceEqDiff, decide_true, decide_false, reduceIte, and_true, true_and]
    refine Ev.reg' ?_
    simp (maxSteps := 2000000) only [go_sem, Nat.reduceBEq, Nat.reduceLT, Nat.reduceAdd, Nat.reduceMul, Nat.reduceLeDiff, Nat.reduceEqDiff, decide_true, decide_false, reduceIte, and_true, true_and]
    refine Ev.cond' ?_
    simp (maxSteps := 2000000) only [go_sem, Nat.reduceBEq, Nat.reduceLT, Nat.reduceAdd, Nat.reduceMul, Nat.reduceLeDiff, Nat.reduceEqDiff, decide_true, decide_false, reduceIte, and_true, true_and]
    refine Ev.seq rfl (Ev.reg' ?_)
    simp (maxSteps := 2000000) only [go_sem, Nat.reduceBEq, Nat.reduceLT, Nat.reduceAdd, Nat.reduceMul, Nat.reduceLeDiff, Nat.reduceEqDiff, decide_true, decide_false, reduceIte, and_true, true_and]
    refine Ev.cond' ?_
    simp (maxSteps := 2000000) only [go_sem, Nat.reduceBEq, Nat.reduceLT, Nat.reduceAdd, Nat.reduceMul, Nat.reduceLeDiff, Nat.reduceEqDiff, decide_true, decide_false, reduceIte, and_true, true_and]

    refine Ev.seq rfl (Ev.reg' ?_)
    simp (maxSteps := 2000000) only [go_sem, Nat.reduceBEq, Nat.reduceLT, Nat.reduceAdd, Nat.reduceMul, Nat.reduceLeDiff, Nat.reduceEqDiff, decide_true, decide_false, reduceIte, and_true, true_and]
    refine Ev.cond' ?_
    simp (maxSteps := 2000000) only [go_sem, Nat.reduceBEq, Nat.reduceLT, Nat.reduceAdd, Nat.reduceMul, Nat.reduceLeDiff, Nat.reduceEqDiff, decide_true, decide_false, reduceIte, and_true, true_and]
    refine Ev.seq rfl (Ev.reg' ?_)
    simp (maxSteps := 2000000) only [go_sem, Nat.reduceBEq, Nat.reduceLT, Nat.reduceAdd, Nat.reduceMul, Nat.reduceLeDiff, Nat.reduceEqDiff, decide_true, decide_false, reduceIte, and_true, true_and]
    refine Ev.cond' ?_
    simp (maxSteps := 2000000) only [go_sem, Nat.reduceBEq, Nat.reduceLT, Nat.reduceAdd, Nat.reduceMul, Nat.reduceLeDiff, Nat.reduceEqDiff, decide_true, decide_false, reduceIte, and_true, true_and]
    refine Ev.seq rfl (Ev.reg' ?_)
    simp (maxSteps := 2000000) only [go_sem, Nat.reduceBEq, Nat.reduceLT, Nat.reduceAdd, Nat.reduceMul, Nat.reduceLeDiff, Nat.reduceEqDiff, decide_true, decide_false, reduceIte, and_true, true_and]
    refine Ev.cond' ?_
    simp (maxSteps := 2000000) only [go_sem, Nat.reduceBEq, Nat.reduceLT, Nat.reduceAdd, Nat.reduceMul, Nat.reduceLeDiff, Nat.reduceEqDiff, decide_true, decide_false, reduceIte, and_true, true_and]
    refine Ev.skip ?_
    simp (maxSteps := 2000000) only [go_sem, Nat.reduceBEq, Nat.reduceLT, Nat.reduceAdd, Nat.reduceMul, Nat.reduceLeDiff, Nat.reduceEqDiff, decide_true, decide_false, reduceIte, and_true, true_and]
    exact ⟨[], rfl, _, rfl, c1⟩
  · simp only [decide_eq_false hk2] at st
    simp (maxSteps := 2000000) only [go_sem, Nat.reduceBEq, Nat.reduceLT, Nat.reduceAdd, Nat.reduceMul, Nat.reduceLeDiff, Nat.reduceEqDiff, decide_true, decide_false, reduceIte, and_true, true_and, hmM, st, Bool.not_false]
    refine Ev.cond' ?_
    simp (maxSteps := 2000000) only [go_sem, Nat.reduceBEq, Nat.reduceLT, Nat.reduceAdd, Nat.reduceMul, Nat.reduceLeDiff, Nat.reduceEqDiff, decide_true, decide_false, reduceIte, and_true, true_and]
    refine Ev.ret ?_
    simp (maxSteps := 2000000) only [go_sem, Nat.reduceBEq, Nat.reduceLT, Nat.reduceAdd, Nat.reduceMul, Nat.reduceLeDiff, Nat.reduceEqDiff, decide_true, decide_false, reduceIte, and_true, true_and]
    exact ⟨[], rfl, _, rfl, c1⟩
end
end El

set_option linter.unusedVariables false
open Go Go.Vm Go.Proofs
namespace El
variable [Gl]
/-- The endless statement. -/
abbrev wC (n1 n2 nm : List Nat) (lb : V) (ls : Bool) (sg wd : Int) (sn : Bool) (x0 x1 x2 x3 x4 x5 x6 x7 y0 y1 y2 y3 y4 y5 y6 y7 dl ev ar bd am dc : V) : List V := [.int .u8 8, .str n1, .str n2, .int .u8 1, .str nm, lb, .bool ls, .nils, .int .i64 sg, .int .i64 wd, .bool sn, x0, x1, x2, x3, x4, x5, x6, x7, y0, y1, y2, y3, y4, y5, y6, y7, dl, ev, ar, bd, am, dc]
section
variable {Sp : SpecF} {lb : V} {ls : Bool} {wd : Int} {sn : Bool} {w1 w2 e2 uv b1 b2 c1 c2 : V} {L : List Ob} {s k mi : Nat} {d0 d1 d2 d3 tm vs : V}
theorem while_run (E : Env Sp lb ls wd sn w1 w2 e2 uv b1 b2 c1 c2) (hs : L[s]? = some (cnt k)) (hk : k ≤ 19999) (hm : L[mi]? = some (.cells (mC d0 d1 d2 d3 tm vs s) 0 [])) (n1 n2 nm : List Nat) (sg : Int) (x0 x1 x2 x3 x4 x5 x6 x7 y0 y1 y2 y3 y4 y5 y6 y7 dl ev ar bd am dc : V)
    {nr : List V} (hb : rows [] 33 bd = some [.int .u8 1 :: nr]) (hl : nr.length = 32) (n : Nat) (hn : 20010 ≤ n) :
    ∃ u L' j, callS Tryz.prog Sp n 141 [.ptr (idOf mi) 0, .agg (wC n1 n2 nm lb ls sg wd sn x0 x1 x2 x3 x4 x5 x6 x7 y0 y1 y2 y3 y4 y5 y6 y7 dl ev ar bd am dc)] (stL L) = some (u, stL L') ∧ Cn L L' s j ∧ 20000 < j := by
  obtain ⟨n, rfl⟩ : ∃ m, n = m + 1 := ⟨n - 1, by omega⟩
  obtain ⟨w, ew⟩ : ∃ w, w = wC n1 n2 nm lb ls sg wd sn x0 x1 x2 x3 x4 x5 x6 x7 y0 y1 y2 y3 y4 y5 y6 y7 dl ev ar bd am dc := ⟨_, rfl⟩
  suffices hr : ∃ u S', callS Tryz.prog Sp (n + 1) 141 [.ptr (idOf mi) 0, .agg w] (stL L) = some (u, S') ∧ ∃ L' j, S' = stL L' ∧ Cn L L' s j ∧ 20000 < j by
    obtain ⟨u, _, h, L', j, rfl, hC⟩ := hr; exact ⟨u, L', j, by rw [← ew]; exact h, hC⟩
  refine runS (fun v => E.n141 _ v) Tryz.func141 rfl (by simp [Tryz.f141]) ?_
  have hsl : s < L.length := (List.getElem?_eq_some_iff.1 hs).1
  have hml : mi < L.length := (List.getElem?_eq_some_iff.1 hm).1
  have hsm : mi ≠ s := fun e => by subst e; rw [hs] at hm; simp [mC] at hm
  have l16 : lenOf .nils = some 0 := rfl
  obtain ⟨M, eM⟩ : ∃ M, M = L ++ [Ob.cells w 0 []] := ⟨_, rfl⟩
  have g0 : M[L.length]? = some (.cells w 0 []) := by rw [eM, gx0]; rfl
  have c0 : Cn L M s k := by rw [eM]; exact (Cn.refl hs).ext _
  have hLM : L.length < M.length := by rw [eM]; simp
  have hmM : M[mi]? = some (.cells (mC d0 d1 d2 d3 tm vs s) 0 []) := by rw [c0.old mi hml hsm]; exact hm
  have st := step_run c0.cn (by omega) n (by omega) (fun v => E.n86 _ v)
  have hk2 : k + 1 ≤ 20000 := by omega
  simp only [decide_eq_true hk2] at st
  have r1 : Cn M (M.set s (cnt (k + 1))) s (k + 1) := (Cn.refl c0.cn).set
  have g1 : (M.set s (cnt (k + 1)))[L.length]? = some (.cells w 0 []) := by rw [List.getElem?_set_ne (by omega)]; exact g0
  obtain ⟨a, ra, ha1, ha2⟩ := rows_idx hb (r := .int .u8 1 :: nr) (j := 0) rfl .i64
  have ha1' : idxAddr 33 bd (.int .i64 0) = some a := ha1
  have ha3 : ∀ N : List Ob, takeN 33 (cellsAt (stL N) a) = some (.agg (.int .u8 1 :: nr)) := by
    intro N
    obtain ⟨a', ra', hb1, hb2⟩ := rows_idx (rows_app (g := N) hb) (r := .int .u8 1 :: nr) (j := 0) rfl .i64
    rw [ha1] at hb1; injection hb1 with hb1; subst hb1
    rw [List.nil_append] at hb2
    rw [hb2, takeN_some, List.take_left' (by simp [hl])]
    simp [hl]
  refine Ev.seq rfl (Ev.reg' ?_)
  simp (maxSteps := 2000000) only [go_sem, Nat.reduceBEq, Nat.reduceLT, Nat.reduceAdd, Nat.reduceMul, Nat.reduceLeDiff, Nat.reduceEqDiff, decide_true, decide_false, reduceIte, and_true, true_and]
  rw [← eM]
  refine Ev.seq rfl (Ev.seq rfl (Ev.reg' ?_))
  simp (maxSteps := 2000000) only [go_sem, Nat.reduceBEq, Nat.reduceLT, Nat.reduceAdd, Nat.reduceMul, Nat.reduceLeDiff, Nat.reduceEqDiff, decide_true, decide_false, reduceIte, and_true, true_and, hmM, st, Bool.not_true]
  refine Ev.cond' ?_
  simp (maxSteps := 2000000) only [go_sem, Nat.reduceBEq, Nat.reduceLT, Nat.reduceAdd, Nat.reduceMul, Nat.reduceLeDiff, Nat.reduceEqDiff, decide_true, decide_false, reduceIte, and_true, true_and]
  refine Ev.skip ?_
  simp (maxSteps := 2000000) only [go_sem, Nat.reduceBEq, Nat.reduceLT, Nat.reduceAdd, Nat.reduceMul, Nat.reduceLeDiff, Nat.reduceEqDiff, decide_true, decide_false, reduceIte, and_true, true_and]
  refine Ev.seq rfl (Ev.reg' ?_)
  rw [ew] at g0 g1
  simp (maxSteps := 2000000) only [go_sem, Nat.reduceBEq, Nat.reduceLT, Nat.reduceAdd, Nat.reduceMul, Nat.reduceLeDiff, Nat.reduceEqDiff, decide_true, decide_false, reduceIte, and_true, true_and, g1]
  refine Ev.block (Ev.seq rfl (Ev.reg' ?_))
  simp (maxSteps := 2000000) only [go_sem, Nat.reduceBEq, Nat.reduceLT, Nat.reduceAdd, Nat.reduceMul, Nat.reduceLeDiff, Nat.reduceEqDiff, decide_true, decide_false, reduceIte, and_true, true_and]
  refine Ev.cond' ?_
  simp (maxSteps := 2000000) only [go_sem, Nat.reduceBEq, Nat.reduceLT, Nat.reduceAdd, Nat.reduceMul, Nat.reduceLeDiff, Nat.reduceEqDiff, decide_true, decide_false, reduceIte, and_true, true_and]
  refine Ev.seq rfl (Ev.reg' ?_)
  simp (maxSteps := 2000000) only [go_sem, Nat.reduceBEq, Nat.reduceLT, Nat.reduceAdd, Nat.reduceMul, Nat.reduceLeDiff, Nat.reduceEqDiff, decide_true, decide_false, reduceIte, and_true, true_and]
  refine Ev.cond' ?_
  simp (maxSteps := 2000000) only [go_sem, Nat.reduceBEq, Nat.reduceLT, Nat.reduceAdd, Nat.reduceMul, Nat.reduceLeDiff, Nat.reduceEqDiff, decide_true, decide_false, reduceIte, and_true, true_and]
  refine Ev.seq rfl (Ev.seq rfl (Ev.reg' ?_))
  simp (maxSteps := 2000000) only [go_sem, Nat.reduceBEq, Nat.reduceLT, Nat.reduceAdd, Nat.reduceMul, Nat.reduceLeDiff, Nat.reduceEqDiff, decide_true, decide_false, reduceIte, and_true, true_and]
  refine Ev.cond' ?_
  simp (maxSteps := 2000000) only [go_sem, Nat.reduceBEq, Nat.reduceLT, Nat.reduceAdd, Nat.reduceMul, Nat.reduceLeDiff, Nat.reduceEqDiff, decide_true, decide_false, reduceIte, and_true, true_and]
  refine Ev.seq rfl (Ev.reg' ?_)
  simp (maxSteps := 2000000) only [go_sem, Nat.reduceBEq, Nat.reduceLT, Nat.reduceAdd, Nat.reduceMul, Nat.reduceLeDiff, Nat.reduceEqDiff, decide_true, decide_false, reduceIte, and_true, true_and]
  refine Ev.cond' ?_
  simp (maxSteps := 2000000) only [go_sem, Nat.reduceBEq, Nat.reduceLT, Nat.reduceAdd, Nat.reduceMul, Nat.reduceLeDiff, Nat.reduceEqDiff, decide_true, decide_false, reduceIte, and_true, true_and]
  refine Ev.reg' ?_
  simp (maxSteps := 2000000) only [go_sem, Nat.reduceBEq, Nat.reduceLT, Nat.reduceAdd, Nat.reduceMul, Nat.reduceLeDiff, Nat.reduceEqDiff, decide_true, decide_false, reduceIte, and_true, true_and]
  refine Ev.cond' ?_
  simp (maxSteps := 2000000) only [go_sem, Nat.reduceBEq, Nat.reduceLT, Nat.reduceAdd, Nat.reduceMul, Nat.reduceLeDiff, Nat.reduceEqDiff, decide_true, decide_false, reduceIte, and_true, true_and]
  refine Ev.seq rfl (Ev.reg' ?_)
  simp (maxSteps := 2000000) only [go_sem, Nat.reduceBEq, Nat.reduceLT, Nat.reduceAdd, Nat.reduceMul, Nat.reduceLeDiff, Nat.reduceEqDiff, decide_true, decide_false, reduceIte, and_true, true_and]
  refine Ev.cond' ?_
  simp (maxSteps := 2000000) only [go_sem, Nat.reduceBEq, Nat.reduceLT, Nat.reduceAdd, Nat.reduceMul, Nat.reduceLeDiff, Nat.reduceEqDiff, decide_true, decide_false, reduceIte, and_true, true_and]

  have e88 : ((8 : Int) == 8) = true := rfl
  refine Ev.seq rfl (Ev.reg' ?_)
  simp (maxSteps := 2000000) only [go_sem, Nat.reduceBEq, Nat.reduceLT, Nat.reduceAdd, Nat.reduceMul, Nat.reduceLeDiff, Nat.reduceEqDiff, decide_true, decide_false, reduceIte, and_true, true_and, e88]
  refine Ev.cond' ?_
  simp (maxSteps := 2000000) only [go_sem, Nat.reduceBEq, Nat.reduceLT, Nat.reduceAdd, Nat.reduceMul, Nat.reduceLeDiff, Nat.reduceEqDiff, decide_true, decide_false, reduceIte, and_true, true_and]
  have q0 : 20002 - (k + 1) < n := by omega
  refine Ev.block (Ev.loop (fun q t S => t 0 = .ptr (idOf mi) 0 ∧ t 3 = .ptr (idOf L.length) 0 ∧ ∃ N j, S = stL N ∧ Cn M N s j ∧ j + q = 20002) (20002 - (k + 1)) q0 ?_ ?_)
  · simp (maxSteps := 2000000) only [go_sem, Nat.reduceBEq, Nat.reduceLT, Nat.reduceAdd, Nat.reduceMul, Nat.reduceLeDiff, Nat.reduceEqDiff, decide_true, decide_false, reduceIte, and_true, true_and]
    exact ⟨_, k + 1, rfl, r1, by omega⟩
  clear st r1 g1
  intro q t S ⟨i0, i3, N, j, iS, hC, hjq⟩
  subst iS
  have hmN : N[mi]? = some (.cells (mC d0 d1 d2 d3 tm vs s) 0 []) := by rw [hC.old mi (by omega) hsm]; exact hmM
  have gN : N[L.length]? = some (.cells (wC n1 n2 nm lb ls sg wd sn x0 x1 x2 x3 x4 x5 x6 x7 y0 y1 y2 y3 y4 y5 y6 y7 dl ev ar bd am dc) 0 []) := by rw [hC.old _ hLM (by omega)]; exact g0
  obtain ⟨g, ho⟩ := holds_run E hC.cn hmN nm sg n (by omega)
  have hC1 := hC.ext g
  have gN1 : (N ++ g)[L.length]? = some (.cells (wC n1 n2 nm lb ls sg wd sn x0 x1 x2 x3 x4 x5 x6 x7 y0 y1 y2 y3 y4 y5 y6 y7 dl ev ar bd am dc) 0 []) := by rw [hC1.old _ hLM (by omega)]; exact g0
  have hmN1 : (N ++ g)[mi]? = some (.cells (mC d0 d1 d2 d3 tm vs s) 0 []) := by rw [hC1.old mi (by omega) hsm]; exact hmM
  refine Ev.seq rfl (Ev.seq rfl (Ev.reg' ?_))
  by_cases hj : 20000 < j
  · have nj : ¬ (¬ 20000 < j) := fun h => h hj
    rw [decide_eq_false nj] at ho
    simp (maxSteps := 2000000) only [go_sem, Nat.reduceBEq, Nat.reduceLT, Nat.reduceAdd, Nat.reduceMul, Nat.reduceLeDiff, Nat.reduceEqDiff, decide_true, decide_false, reduceIte, and_true, true_and, i0, i3, gN, ho]
    refine Ev.cond' ?_
    simp (maxSteps := 2000000) only [go_sem, Nat.reduceBEq, Nat.reduceLT, Nat.reduceAdd, Nat.reduceMul, Nat.reduceLeDiff, Nat.reduceEqDiff, decide_true, decide_false, reduceIte, and_true, true_and]
    refine Ev.exit ?_
    simp (maxSteps := 2000000) only [go_sem, Nat.reduceBEq, Nat.reduceLT, Nat.reduceAdd, Nat.reduceMul, Nat.reduceLeDiff, Nat.reduceEqDiff, decide_true, decide_false, reduceIte, and_true, true_and]
    exact ⟨[], rfl, N ++ g, j, rfl, ⟨by have := hC1.len; omega, hC1.cn, fun i hi hn => by rw [hC1.old i (by omega) hn]; exact c0.old i hi hn⟩, hj⟩
  · rw [decide_eq_true hj] at ho
    simp (maxSteps := 2000000) only [go_sem, Nat.reduceBEq, Nat.reduceLT, Nat.reduceAdd, Nat.reduceMul, Nat.reduceLeDiff, Nat.reduceEqDiff, decide_true, decide_false, reduceIte, and_true, true_and, i0, i3, gN, ho]
    refine Ev.cond' ?_
    simp (maxSteps := 2000000) only [go_sem, Nat.reduceBEq, Nat.reduceLT, Nat.reduceAdd, Nat.reduceMul, Nat.reduceLeDiff, Nat.reduceEqDiff, decide_true, decide_false, reduceIte, and_true, true_and]
    refine Ev.skip ?_
    simp (maxSteps := 2000000) only [go_sem, Nat.reduceBEq, Nat.reduceLT, Nat.reduceAdd, Nat.reduceMul, Nat.reduceLeDiff, Nat.reduceEqDiff, decide_true, decide_false, reduceIte, and_true, true_and]
    obtain ⟨u, N2, nl, hC2⟩ := null_run (nr := nr) E hC1.cn (by omega) hmN1 n (by omega)
    have hC3 := hC1.trans hC2
    have hmN2 : N2[mi]? = some (.cells (mC d0 d1 d2 d3 tm vs s) 0 []) := by rw [hC3.old mi (by omega) hsm]; exact hmM
    have st2 := step_run hC3.cn (by omega) n (by omega) (fun v => E.n86 _ v)
    refine Ev.block (Ev.seq rfl (Ev.reg' ?_))
    simp (maxSteps := 2000000) only [go_sem, Nat.reduceBEq, Nat.reduceLT, Nat.reduceAdd, Nat.reduceMul, Nat.reduceLeDiff, Nat.reduceEqDiff, decide_true, decide_false, reduceIte, and_true, true_and, i0, i3, gN1, ha1', ha3, nl]
    refine Ev.reg' ?_
    simp (maxSteps := 2000000) only [go_sem, Nat.reduceBEq, Nat.reduceLT, Nat.reduceAdd, Nat.reduceMul, Nat.reduceLeDiff, Nat.reduceEqDiff, decide_true, decide_false, reduceIte, and_true, true_and, i0, hmN2, st2]
    exact ⟨q - 2, by omega, i3, _, j + 1 + 1, rfl, hC3.set, by omega⟩
end
end El

set_option linter.unusedVariables false
open Go Go.Vm Go.Proofs
namespace El
variable [Gl]
section
variable {Sp : SpecF} {L : List Ob} {s k : Nat} {d0 d1 d2 d3 tm vs : V}
theorem failed_run (hs : L[s]? = some (cnt k)) (hk : 20000 < k) (n : Nat) (hn : 1 ≤ n) (hno : ∀ v, ¬ Sp 88 [.ptr (idOf s) 0] v) : callS Tryz.prog Sp n 88 [.ptr (idOf s) 0] (stL L) = some (.int .i64 15, stL L) := by
  obtain ⟨n, rfl⟩ : ∃ m, n = m + 1 := ⟨n - 1, by omega⟩
  suffices hr : ∃ u S', callS Tryz.prog Sp (n + 1) 88 [.ptr (idOf s) 0] (stL L) = some (u, S') ∧ (u = .int .i64 15 ∧ S' = stL L) by
    obtain ⟨_, _, h, rfl, rfl⟩ := hr; exact h
  refine runS hno Tryz.func88 rfl (by simp [Tryz.f88]) ?_
  have c1 : (k : Int) > 20000 := by omega
  refine Ev.seq rfl (Ev.reg' ?_)
  simp (maxSteps := 2000000) only [go_sem, Nat.reduceBEq, Nat.reduceLT, Nat.reduceAdd, Nat.reduceMul, Nat.reduceLeDiff, Nat.reduceEqDiff, decide_true, decide_false, reduceIte, and_true, true_and]
  refine Ev.seq rfl (Ev.seq rfl (Ev.reg' ?_))
  simp (maxSteps := 2000000) only [go_sem, Nat.reduceBEq, Nat.reduceLT, Nat.reduceAdd, Nat.reduceMul, Nat.reduceLeDiff, Nat.reduceEqDiff, decide_true, decide_false, reduceIte, and_true, true_and, hs, c1]
  refine Ev.cond' ?_
  simp (maxSteps := 2000000) only [go_sem, Nat.reduceBEq, Nat.reduceLT, Nat.reduceAdd, Nat.reduceMul, Nat.reduceLeDiff, Nat.reduceEqDiff, decide_true, decide_false, reduceIte, and_true, true_and]
  refine Ev.seq rfl (Ev.reg' ?_)
  simp (maxSteps := 2000000) only [go_sem, Nat.reduceBEq, Nat.reduceLT, Nat.reduceAdd, Nat.reduceMul, Nat.reduceLeDiff, Nat.reduceEqDiff, decide_true, decide_false, reduceIte, and_true, true_and]
  refine Ev.ret ?_
  simp (maxSteps := 2000000) only [go_sem, Nat.reduceBEq, Nat.reduceLT, Nat.reduceAdd, Nat.reduceMul, Nat.reduceLeDiff, Nat.reduceEqDiff, decide_true, decide_false, reduceIte, and_true, true_and]
  refine Ret.tmp rfl ?_
  simp (maxSteps := 2000000) only [go_sem, Nat.reduceBEq, Nat.reduceLT, Nat.reduceAdd, Nat.reduceMul, Nat.reduceLeDiff, Nat.reduceEqDiff, decide_true, decide_false, reduceIte, and_true, true_and]
theorem newMachine_run (hno : ∀ a v, ¬ Sp 42 a v) (o0 : d0.isCell = true) (o1 : d1.isCell = true) (o2 : d2.isCell = true) (o3 : d3.isCell = true) (ot : tm.isCell = true) (ov : vs.isCell = true) (n : Nat) (hn : 1 ≤ n) : callS Tryz.prog Sp n 42 [.agg [d0, d1, d2, d3], .agg [tm, vs]] (stL L) = some (.tup [.ptr (idOf (L.length + 3)) 0, .fn 88 [] [.ptr (idOf (L.length + 2)) 0]], stL (L ++ [.cells [d0, d1, d2, d3] 0 [], .cells [tm, vs] 0 [], cnt 0, .cells (mC d0 d1 d2 d3 tm vs (L.length + 2)) 0 []])) := by
  obtain ⟨n, rfl⟩ : ∃ m, n = m + 1 := ⟨n - 1, by omega⟩
  suffices hr : ∃ u S', callS Tryz.prog Sp (n + 1) 42 [.agg [d0, d1, d2, d3], .agg [tm, vs]] (stL L) = some (u, S') ∧ (u = .tup [.ptr (idOf (L.length + 3)) 0, .fn 88 [] [.ptr (idOf (L.length + 2)) 0]] ∧ S' = stL (L ++ [.cells [d0, d1, d2, d3] 0 [], .cells [tm, vs] 0 [], cnt 0, .cells (mC d0 d1 d2 d3 tm vs (L.length + 2)) 0 []])) by
    obtain ⟨_, _, h, rfl, rfl⟩ := hr; exact h
  refine runS (fun v => hno _ v) Tryz.func42 rfl (by simp [Tryz.f42]) ?_
  have rp : repl 1 [V.int .i64 0] = [.int .i64 0] := rfl
  refine Ev.seq rfl (Ev.reg' ?_)
  simp (maxSteps := 2000000) only [go_sem, Nat.reduceBEq, Nat.reduceLT, Nat.reduceAdd, Nat.reduceMul, Nat.reduceLeDiff, Nat.reduceEqDiff, decide_true, decide_false, reduceIte, and_true, true_and]
  refine Ev.seq rfl (Ev.reg' ?_)
  simp (maxSteps := 2000000) only [go_sem, Nat.reduceBEq, Nat.reduceLT, Nat.reduceAdd, Nat.reduceMul, Nat.reduceLeDiff, Nat.reduceEqDiff, decide_true, decide_false, reduceIte, and_true, true_and, rp, over, Nat.zero_le, Nat.le_refl]
  refine Ev.seq rfl (Ev.reg' ?_)
  simp (maxSteps := 2000000) only [go_sem, Nat.reduceBEq, Nat.reduceLT, Nat.reduceAdd, Nat.reduceMul, Nat.reduceLeDiff, Nat.reduceEqDiff, decide_true, decide_false, reduceIte, and_true, true_and, over, Nat.zero_le, Nat.le_refl]
  refine Ev.seq rfl (Ev.reg' ?_)
  simp (maxSteps := 2000000) only [go_sem, Nat.reduceBEq, Nat.reduceLT, Nat.reduceAdd, Nat.reduceMul, Nat.reduceLeDiff, Nat.reduceEqDiff, decide_true, decide_false, reduceIte, and_true, true_and, over, Nat.zero_le, Nat.le_refl]
  refine Ev.seq rfl (Ev.reg' ?_)
  simp (maxSteps := 2000000) only [go_sem, Nat.reduceBEq, Nat.reduceLT, Nat.reduceAdd, Nat.reduceMul, Nat.reduceLeDiff, Nat.reduceEqDiff, decide_true, decide_false, reduceIte, and_true, true_and, over, Nat.zero_le, Nat.le_refl]
  refine Ev.seq rfl (Ev.reg' ?_)
  simp (maxSteps := 2000000) only [go_sem, Nat.reduceBEq, Nat.reduceLT, Nat.reduceAdd, Nat.reduceMul, Nat.reduceLeDiff, Nat.reduceEqDiff, decide_true, decide_false, reduceIte, and_true, true_and]
  refine Ev.ret (Ret.tmp2 rfl ?_)
  simp (maxSteps := 2000000) only [go_sem, Nat.reduceBEq, Nat.reduceLT, Nat.reduceAdd, Nat.reduceMul, Nat.reduceLeDiff, Nat.reduceEqDiff, decide_true, decide_false, reduceIte, and_true, true_and]
  rfl
/-- What a run of the node leaves: any vector, the counter over. -/
def EndOK (Sp : SpecF) (n : Nat) (L : List Ob) (s mi : Nat) (x : V) : Prop := ∃ u1 u2 L' j, callS Tryz.prog Sp n 43 [.ptr (idOf mi) 0, x] (stL L) = some (.agg [u1, u2], stL L') ∧ u1.isCell = true ∧ u2.isCell = true ∧ Cn L L' s j ∧ 20000 < j
theorem expr_end {xs : List V} (hx : xs.length = 8) (h17 : ∀ a v, ¬ Sp 17 a v) (h42 : ∀ a v, ¬ Sp 42 a v) (h88 : ∀ a v, ¬ Sp 88 a v) (o0 : d0.isCell = true) (o1 : d1.isCell = true) (o2 : d2.isCell = true) (o3 : d3.isCell = true) (ot : tm.isCell = true) (ov : vs.isCell = true) (n : Nat) (hn : 2 ≤ n)
    (hE : ∀ (M : List Ob) (s mi : Nat), s < M.length → M[s]? = some (cnt 0) → M[mi]? = some (.cells (mC d0 d1 d2 d3 tm vs s) 0 []) → EndOK Sp n M s mi (.agg xs)) :
    ∃ L', callS Tryz.prog Sp (n + 1) 17 [.agg xs, .agg [d0, d1, d2, d3], .agg [tm, vs]] (stL L) = some (.tup [.agg [.nils, .bool false], .int .i64 15], stL L') := by
  suffices hr : ∃ u S', callS Tryz.prog Sp (n + 1) 17 [.agg xs, .agg [d0, d1, d2, d3], .agg [tm, vs]] (stL L) = some (u, S') ∧ (u = .tup [.agg [.nils, .bool false], .int .i64 15] ∧ ∃ L', S' = stL L') by
    obtain ⟨_, _, h, rfl, L', rfl⟩ := hr; exact ⟨L', h⟩
  refine runS (fun v => h17 _ v) Tryz.func17 rfl (by simp [Tryz.f17]) ?_
  refine Ev.seq rfl (Ev.reg' ?_)
  simp (maxSteps := 2000000) only [go_sem, Nat.reduceBEq, Nat.reduceLT, Nat.reduceAdd, Nat.reduceMul, Nat.reduceLeDiff, Nat.reduceEqDiff, decide_true, decide_false, reduceIte, and_true, true_and]
  obtain ⟨M, eM⟩ : ∃ M, M = L ++ [Ob.cells xs 0 [], .cells [d0, d1, d2, d3] 0 [], .cells [tm, vs] 0 [], .cells [.nils, .bool false] 0 []] := ⟨_, rfl⟩
  have g0 : M[L.length]? = some (.cells xs 0 []) := by rw [eM, gx0]; rfl
  have g1 : M[L.length + 1]? = some (.cells [d0, d1, d2, d3] 0 []) := by rw [eM, gxs]; rfl
  have g2 : M[L.length + 2]? = some (.cells [tm, vs] 0 []) := by rw [eM, gxs]; rfl
  have g3 : M[L.length + 3]? = some (.cells [.nils, .bool false] 0 []) := by rw [eM, gxs]; rfl
  have lM : M.length = L.length + 4 := by rw [eM]; simp
  have nm := newMachine_run (L := M) h42 o0 o1 o2 o3 ot ov n (by omega)
  rw [← eM]
  obtain ⟨N, eN⟩ : ∃ N, N = M ++ [Ob.cells [d0, d1, d2, d3] 0 [], .cells [tm, vs] 0 [], cnt 0, .cells (mC d0 d1 d2 d3 tm vs (M.length + 2)) 0 []] := ⟨_, rfl⟩
  rw [← eN] at nm
  have n0 : N[L.length]? = some (.cells xs 0 []) := by rw [eN, List.getElem?_append_left (by omega)]; exact g0
  have n3 : N[L.length + 3]? = some (.cells [.nils, .bool false] 0 []) := by rw [eN, List.getElem?_append_left (by omega)]; exact g3
  have ns : N[M.length + 2]? = some (cnt 0) := by rw [eN, gxs]; rfl
  have nmc : N[M.length + 3]? = some (.cells (mC d0 d1 d2 d3 tm vs (M.length + 2)) 0 []) := by rw [eN, gxs]; rfl
  have lN : N.length = M.length + 4 := by rw [eN]; simp
  obtain ⟨u1, u2, L', j, ex, p1, p2, hC, hj⟩ := hE N (M.length + 2) (M.length + 3) (by omega) ns nmc
  have tk : takeN 8 (some xs) = some (.agg xs) := by rw [takeN_some, if_pos (by omega), List.take_of_length_le (by omega)]
  refine Ev.seq rfl (Ev.reg' ?_)
  simp (maxSteps := 2000000) only [go_sem, Nat.reduceBEq, Nat.reduceLT, Nat.reduceAdd, Nat.reduceMul, Nat.reduceLeDiff, Nat.reduceEqDiff, decide_true, decide_false, reduceIte, and_true, true_and, g1, g2, nm]
  have q1 := okC_cell p1
  have q2 := cells_cell p1
  have q3 := okC_cell p2
  have q4 := cells_cell p2
  have rp : repl 1 [V.nils, V.bool false] = [.nils, .bool false] := rfl
  obtain ⟨K, eK⟩ : ∃ K, K = L' ++ [Ob.cells [u1, u2] 0 []] := ⟨_, rfl⟩
  have hCK : Cn N K (M.length + 2) j := by rw [eK]; exact hC.ext _
  have fl := failed_run hCK.cn hj n (by omega) (fun v => h88 _ v)
  have k3 : K[L.length + 3]? = some (.cells [.nils, .bool false] 0 []) := by rw [hCK.old _ (by omega) (by omega)]; exact n3
  have hy : (K.set (L.length + 3) (.cells [.nils, .bool false] 0 []))[L.length + 3]? = some (.cells [.nils, .bool false] 0 []) := List.getElem?_set_self (List.getElem?_eq_some_iff.1 k3).1
  have ne : ((15 : Int) != 0) = true := rfl
  refine Ev.seq rfl (Ev.reg' ?_)
  simp (maxSteps := 2000000) only [go_sem, Nat.reduceBEq, Nat.reduceLT, Nat.reduceAdd, Nat.reduceMul, Nat.reduceLeDiff, Nat.reduceEqDiff, decide_true, decide_false, reduceIte, and_true, true_and, n0, tk, ex, q1, q2, q3, q4, rp, over, Nat.zero_le, Nat.le_refl]
  rw [← eK]
  refine Ev.seq rfl (Ev.seq rfl (Ev.reg' ?_))
  simp (maxSteps := 2000000) only [go_sem, Nat.reduceBEq, Nat.reduceLT, Nat.reduceAdd, Nat.reduceMul, Nat.reduceLeDiff, Nat.reduceEqDiff, decide_true, decide_false, reduceIte, and_true, true_and, fl]
  refine Ev.seq rfl (Ev.reg' ?_)
  simp (maxSteps := 2000000) only [go_sem, Nat.reduceBEq, Nat.reduceLT, Nat.reduceAdd, Nat.reduceMul, Nat.reduceLeDiff, Nat.reduceEqDiff, decide_true, decide_false, reduceIte, and_true, true_and, ne]
  refine Ev.cond' ?_
  simp (maxSteps := 2000000) only [go_sem, Nat.reduceBEq, Nat.reduceLT, Nat.reduceAdd, Nat.reduceMul, Nat.reduceLeDiff, Nat.reduceEqDiff, decide_true, decide_false, reduceIte, and_true, true_and]
  refine Ev.seq rfl (Ev.reg' ?_)
  simp (maxSteps := 2000000) only [go_sem, Nat.reduceBEq, Nat.reduceLT, Nat.reduceAdd, Nat.reduceMul, Nat.reduceLeDiff, Nat.reduceEqDiff, decide_true, decide_false, reduceIte, and_true, true_and, k3, over, Nat.zero_le, Nat.le_refl]
  refine Ev.ret ?_
  simp (maxSteps := 2000000) only [go_sem, Nat.reduceBEq, Nat.reduceLT, Nat.reduceAdd, Nat.reduceMul, Nat.reduceLeDiff, Nat.reduceEqDiff, decide_true, decide_false, reduceIte, and_true, true_and]
  refine ⟨[.agg [.nils, .bool false], .int .i64 15], ?_, rfl, _, rfl⟩
  show evRes Tryz.prog _ _ Tryz.f17.results.toList = _
  simp only [Tryz.f17, evRes]
  simp (maxSteps := 2000000) only [go_sem, Nat.reduceBEq, Nat.reduceLT, Nat.reduceAdd, Nat.reduceMul, Nat.reduceLeDiff, Nat.reduceEqDiff, decide_true, decide_false, reduceIte, and_true, true_and, hy]
end
end El

set_option linter.unusedVariables false
open Go Go.Vm Go.Proofs
namespace El
variable [Gl]
theorem mk70' (l : List Ob) : opMakeSlice Tryz.prog 70 (.int .i64 ((1 : Nat) : Int)) (.int .i64 ((1 : Nat) : Int)) (stL l) = some (.ref 2 (idOf l.length) 0 1, stL (l ++ [.cells [.nils, .bool false] 0 []])) := by
  have hb : Tryz.prog.bytesOf 50 ≤ 2 ^ 16 := by
    have : decide (Tryz.prog.bytesOf 50 ≤ 2 ^ 16) = true := by kernel_rfl
    exact of_decide_eq_true this
  have z : zeroOf Tryz.prog 50 = some [.nils, .bool false] := by kernel_rfl
  have sz : szT Tryz.prog 50 = some 2 := by kernel_rfl
  simp only [opMakeSlice, Tryz.underlying70, z, sz, asIdx_nat]
  rw [if_pos ⟨Nat.le_refl _, by decide, hb, rfl⟩, opRow_stL, repl_one]
theorem Cn.over {M K : List Ob} {s k i : Nat} {x : Ob} (h : Cn M K s k) (hi : M.length ≤ i) (hs : s < M.length) : Cn M (K.set i x) s k := ⟨by have := h.len; simpa using this, by rw [List.getElem?_set_ne (by omega)]; exact h.cn, fun j hj hn => by rw [List.getElem?_set_ne (by omega)]; exact h.old j hj hn⟩
section
variable {Sp : SpecF} {lb : V} {ls : Bool} {wd : Int} {sn : Bool} {w1 w2 e2 uv b1 b2 c1 c2 : V} {L : List Ob} {s mi : Nat} {d0 d1 d2 d3 tm vs : V}
theorem call_end (E : Env Sp lb ls wd sn w1 w2 e2 uv b1 b2 c1 c2) (hs : L[s]? = some (cnt 0)) (hm : L[mi]? = some (.cells (mC d0 d1 d2 d3 tm vs s) 0 [])) (nm cn : List Nat) (sg : Int) {x2 x3 av : V} {ci : Nat} {cw : Int} {cs : Bool} {u1 u2 r1 v1 v2 er : V}
    (hav : rows [] 8 av = some [[.int .u8 1, .str nm, lb, .bool ls, .nils, .int .i64 sg, .int .i64 wd, .bool sn]]) {fc : List V} (hf : fc.length = 36) {fr : List (List V)} (hfr : rows [] 36 d3 = some fr) (hfi : fr[ci]? = some fc) (hci2 : ci ≤ 1000)
    (x2c : x2.isCell = true) (u1c : u1.isCell = true) (u2c : u2.isCell = true) (v1c : v1.isCell = true) (v2c : v2.isCell = true)
    (k140 : ∀ n S, callS Tryz.prog Sp n 140 [.agg [u1, u2], .bool cs] S = some (r1, S)) (k27 : ∀ n S, callS Tryz.prog Sp n 27 [r1, .int .i64 cw] S = some (.tup [.agg [v1, v2], er], S)) (n : Nat) (hn : 3 ≤ n)
    (hC : ∀ (M : List Ob) (p : Nat), Cn L M s 0 → M[p]? = some (.cells [b1, b2] 0 []) → L.length ≤ p → ∃ L' j, callS Tryz.prog Sp n 94 [.ptr (idOf mi) 0, .agg fc, .ref 2 (idOf p) 0 1] (stL M) = some (.agg [u1, u2], stL L') ∧ Cn M L' s j ∧ 20000 < j) :
    EndOK Sp (n + 1) L s mi (.agg [.int .u8 8, .str cn, x2, x3, av, .int .i64 ((ci + 1 : Nat) : Int), .int .i64 cw, .bool cs]) := by
  have hr : ∃ u S', callS Tryz.prog Sp (n + 1) 43 [.ptr (idOf mi) 0, .agg [.int .u8 8, .str cn, x2, x3, av, .int .i64 ((ci + 1 : Nat) : Int), .int .i64 cw, .bool cs]] (stL L) = some (u, S') ∧ ∃ L' j, u = .agg [v1, v2] ∧ S' = stL L' ∧ Cn L L' s j ∧ 20000 < j := by
    refine runS (fun v => E.n43 _ v) Tryz.func43 rfl (by simp [Tryz.f43]) ?_
    have la : lenOf av = some 1 := by simpa using rows_len hav
    have hsl : s < L.length := (List.getElem?_eq_some_iff.1 hs).1
    have hml : mi < L.length := (List.getElem?_eq_some_iff.1 hm).1
    have hsm : mi ≠ s := fun e => by subst e; rw [hs] at hm; simp [mC] at hm
    have p1 := okC_cell E.b1c
    have p2 := cells_cell E.b1c
    have p3 := okC_cell E.b2c
    have p4 := cells_cell E.b2c
    have we := E.w2e
    obtain ⟨M, eM⟩ : ∃ M, M = L ++ [Ob.cells [.int .u8 8, .str cn, x2, x3, av, .int .i64 ((ci + 1 : Nat) : Int), .int .i64 cw, .bool cs] 0 [], .cells [.nils, .bool false] 0 []] := ⟨_, rfl⟩
    have g0 : M[L.length]? = some (.cells [.int .u8 8, .str cn, x2, x3, av, .int .i64 ((ci + 1 : Nat) : Int), .int .i64 cw, .bool cs] 0 []) := by rw [eM, gx0]; rfl
    have lM : M.length = L.length + 2 := by rw [eM]; simp
    refine Ev.seq rfl (Ev.reg' ?_)
    simp (maxSteps := 2000000) only [go_sem, Nat.reduceBEq, Nat.reduceLT, Nat.reduceAdd, Nat.reduceMul, Nat.reduceLeDiff, Nat.reduceEqDiff, decide_true, decide_false, reduceIte, and_true, true_and]
    rw [← eM]
    refine Ev.seq rfl (Ev.reg' ?_)
    simp (maxSteps := 2000000) only [go_sem, Nat.reduceBEq, Nat.reduceLT, Nat.reduceAdd, Nat.reduceMul, Nat.reduceLeDiff, Nat.reduceEqDiff, decide_true, decide_false, reduceIte, and_true, true_and, g0, la, mk70']
    obtain ⟨N, eN⟩ : ∃ N, N = M ++ [Ob.cells [.nils, .bool false] 0 []] := ⟨_, rfl⟩
    have cN : Cn L N s 0 := by rw [eN, eM]; exact ((Cn.refl hs).ext _).ext _
    have n0 : N[L.length]? = some (.cells [.int .u8 8, .str cn, x2, x3, av, .int .i64 ((ci + 1 : Nat) : Int), .int .i64 cw, .bool cs] 0 []) := by rw [eN, List.getElem?_append_left (by omega)]; exact g0
    have n1 : N[L.length + 1]? = some (.cells [.nils, .bool false] 0 []) := by rw [eN, List.getElem?_append_left (by omega), eM, gxs]; rfl
    have n2 : N[M.length]? = some (.cells [.nils, .bool false] 0 []) := by rw [eN, gx0]; rfl
    have lN : N.length = L.length + 3 := by rw [eN]; simp; omega
    rw [← eN]
    refine Ev.seq rfl (Ev.seq rfl (Ev.reg' ?_))
    simp (maxSteps := 2000000) only [go_sem, Nat.reduceBEq, Nat.reduceLT, Nat.reduceAdd, Nat.reduceMul, Nat.reduceLeDiff, Nat.reduceEqDiff, decide_true, decide_false, reduceIte, and_true, true_and, n0, la]
    have hn1 : 1 < n := by omega
    obtain ⟨a, ra, ha1, ha2⟩ := rows_idx (rows_app (g := N) hav) (r := [.int .u8 1, .str nm, lb, .bool ls, .nils, .int .i64 sg, .int .i64 wd, .bool sn]) (j := 0) rfl .i64
    have ha1' : idxAddr 8 av (.int .i64 0) = some a := ha1
    rw [List.nil_append] at ha2
    refine Ev.block (Ev.loop (fun q t S => t 0 = .ptr (idOf mi) 0 ∧ t 3 = .ptr (idOf L.length) 0 ∧ t 4 = .ptr (idOf (L.length + 1)) 0 ∧ t 5 = .ref 2 (idOf M.length) 0 1 ∧ t 18 = av ∧ t 19 = .int .i64 ((1 : Nat) : Int) ∧ ((q = 1 ∧ t 20 = .int .i64 0 ∧ S = stL N) ∨ (q = 0 ∧ t 20 = .int .i64 1 ∧ ∃ K, S = stL K ∧ Cn M K s 0 ∧ K[M.length]? = some (.cells [b1, b2] 0 [])))) 1 hn1 ?_ ?_)
    · simp (maxSteps := 2000000) only [go_sem, Nat.reduceBEq, Nat.reduceLT, Nat.reduceAdd, Nat.reduceMul, Nat.reduceLeDiff, Nat.reduceEqDiff, decide_true, decide_false, reduceIte, and_true, true_and]
      exact .inl trivial
    have cM : Cn L M s 0 := by rw [eM]; exact (Cn.refl hs).ext _
    have cMN : Cn M N s 0 := by rw [eN]; exact (Cn.refl cM.cn).ext _
    intro q t S ⟨i0, i3, i4, i5, i18, i19, h⟩
    rcases h with ⟨rfl, i20, iS⟩ | ⟨rfl, i20, K, iS, cK, kK⟩
    · subst iS
      have lt : (0 : Int) < ((1 : Nat) : Int) := by omega
      obtain ⟨N1, eN1⟩ : ∃ N1, N1 = N ++ [Ob.cells [.int .u8 1, .str nm, lb, .bool ls, .nils, .int .i64 sg, .int .i64 wd, .bool sn] 0 []] := ⟨_, rfl⟩
      have cN1 : Cn M N1 s 0 := by rw [eN1]; exact cMN.ext _
      have a1 : N1[N.length]? = some (.cells [.int .u8 1, .str nm, lb, .bool ls, .nils, .int .i64 sg, .int .i64 wd, .bool sn] 0 []) := by rw [eN1, gx0]; rfl
      have hm1 : N1[mi]? = some (.cells (mC d0 d1 d2 d3 tm vs s) 0 []) := by rw [cN1.old mi (by omega) hsm, cM.old mi hml hsm]; exact hm
      obtain ⟨g, lr⟩ := lit_run E cN1.cn hm1 nm sg n (by omega)
      rw [if_neg (by omega), we] at lr
      have cN2 := cN1.ext g
      have b2' : (N1 ++ g)[M.length]? = some (.cells [.nils, .bool false] 0 []) := by rw [List.getElem?_append_left (by rw [eN1]; simp; omega), eN1, List.getElem?_append_left (by omega)]; exact n2
      have o1 := okC_cell E.lbc
      have o2 := cells_cell E.lbc
      refine Ev.seq rfl (Ev.reg' ?_)
      simp (maxSteps := 2000000) only [go_sem, Nat.reduceBEq, Nat.reduceLT, Nat.reduceAdd, Nat.reduceMul, Nat.reduceLeDiff, Nat.reduceEqDiff, decide_true, decide_false, reduceIte, and_true, true_and, i19, i20, lt]
      refine Ev.seq rfl (Ev.cond' ?_)
      simp (maxSteps := 2000000) only [go_sem, Nat.reduceBEq, Nat.reduceLT, Nat.reduceAdd, Nat.reduceMul, Nat.reduceLeDiff, Nat.reduceEqDiff, decide_true, decide_false, reduceIte, and_true, true_and]
      refine Ev.skip ?_
      simp (maxSteps := 2000000) only [go_sem, Nat.reduceBEq, Nat.reduceLT, Nat.reduceAdd, Nat.reduceMul, Nat.reduceLeDiff, Nat.reduceEqDiff, decide_true, decide_false, reduceIte, and_true, true_and]
      have rp : repl 1 [V.int .u8 0, .str [], .nils, .bool false, .nils, .int .i64 0, .int .i64 0, .bool false] = [.int .u8 0, .str [], .nils, .bool false, .nils, .int .i64 0, .int .i64 0, .bool false] := rfl
      refine Ev.seq rfl (Ev.block (Ev.seq rfl (Ev.reg' ?_)))
      simp (maxSteps := 2000000) only [go_sem, Nat.reduceBEq, Nat.reduceLT, Nat.reduceAdd, Nat.reduceMul, Nat.reduceLeDiff, Nat.reduceEqDiff, decide_true, decide_false, reduceIte, and_true, true_and, i18, i20, ha1', ha2, rp, o1, o2, over, Nat.zero_le, Nat.le_refl]
      rw [← eN1]
      have ix : idxAddr 2 (.ref 2 (idOf M.length) 0 1) (.int .i64 0) = some (.ptr (idOf M.length) 0) := rfl
      refine Ev.reg' ?_
      simp (maxSteps := 2000000) only [go_sem, Nat.reduceBEq, Nat.reduceLT, Nat.reduceAdd, Nat.reduceMul, Nat.reduceLeDiff, Nat.reduceEqDiff, decide_true, decide_false, reduceIte, and_true, true_and, i0, i5, ix, a1, lr, b2', p1, p2, p3, p4, over, Nat.zero_le, Nat.le_refl]
      refine Ev.reg' ?_
      simp (maxSteps := 2000000) only [go_sem, Nat.reduceBEq, Nat.reduceLT, Nat.reduceAdd, Nat.reduceMul, Nat.reduceLeDiff, Nat.reduceEqDiff, decide_true, decide_false, reduceIte, and_true, true_and, i20]
      exact ⟨0, by omega, i0, i3, i4, i5, i18, i19, .inr ⟨rfl, rfl, _, rfl, cN2.over (Nat.le_refl _) (by omega), List.getElem?_set_self (List.getElem?_eq_some_iff.1 b2').1⟩⟩
    · subst iS
      have nlt : ¬ ((1 : Int) < ((1 : Nat) : Int)) := by omega
      have hmK : K[mi]? = some (.cells (mC d0 d1 d2 d3 tm vs s) 0 []) := by rw [cK.old mi (by omega) hsm, cM.old mi hml hsm]; exact hm
      have dn := done_run cK.cn n (by omega) (fun v => E.n87 _ v)
      have d0' : decide (20000 < 0) = false := rfl
      rw [d0'] at dn
      have m0 : K[L.length]? = some (.cells [.int .u8 8, .str cn, x2, x3, av, .int .i64 ((ci + 1 : Nat) : Int), .int .i64 cw, .bool cs] 0 []) := by rw [cK.old _ (by omega) (by omega)]; exact g0
      refine Ev.seq rfl (Ev.reg' ?_)
      simp (maxSteps := 2000000) only [go_sem, Nat.reduceBEq, Nat.reduceLT, Nat.reduceAdd, Nat.reduceMul, Nat.reduceLeDiff, Nat.reduceEqDiff, decide_true, decide_false, reduceIte, and_true, true_and, i19, i20, nlt]
      refine Ev.seq rfl (Ev.cond' ?_)
      simp (maxSteps := 2000000) only [go_sem, Nat.reduceBEq, Nat.reduceLT, Nat.reduceAdd, Nat.reduceMul, Nat.reduceLeDiff, Nat.reduceEqDiff, decide_true, decide_false, reduceIte, and_true, true_and]
      refine Ev.exit ?_
      simp (maxSteps := 2000000) only [go_sem, Nat.reduceBEq, Nat.reduceLT, Nat.reduceAdd, Nat.reduceMul, Nat.reduceLeDiff, Nat.reduceEqDiff, decide_true, decide_false, reduceIte, and_true, true_and]
      refine Ev.seq rfl (Ev.seq rfl (Ev.reg' ?_))
      simp (maxSteps := 2000000) only [go_sem, Nat.reduceBEq, Nat.reduceLT, Nat.reduceAdd, Nat.reduceMul, Nat.reduceLeDiff, Nat.reduceEqDiff, decide_true, decide_false, reduceIte, and_true, true_and, i0, hmK, dn]
      refine Ev.cond' ?_
      simp (maxSteps := 2000000) only [go_sem, Nat.reduceBEq, Nat.reduceLT, Nat.reduceAdd, Nat.reduceMul, Nat.reduceLeDiff, Nat.reduceEqDiff, decide_true, decide_false, reduceIte, and_true, true_and]
      refine Ev.skip ?_
      simp (maxSteps := 2000000) only [go_sem, Nat.reduceBEq, Nat.reduceLT, Nat.reduceAdd, Nat.reduceMul, Nat.reduceLeDiff, Nat.reduceEqDiff, decide_true, decide_false, reduceIte, and_true, true_and]
      refine Ev.seq rfl (Ev.reg' ?_)
      simp (maxSteps := 2000000) only [go_sem, Nat.reduceBEq, Nat.reduceLT, Nat.reduceAdd, Nat.reduceMul, Nat.reduceLeDiff, Nat.reduceEqDiff, decide_true, decide_false, reduceIte, and_true, true_and]
      obtain ⟨K1, eK1⟩ : ∃ K1, K1 = K ++ [Ob.cells [V.nils, V.bool false] 0 []] := ⟨_, rfl⟩
      have cK1 : Cn M K1 s 0 := by rw [eK1]; exact cK.ext _
      have hlk : M.length < K.length := (List.getElem?_eq_some_iff.1 kK).1
      have m1 : K1[L.length]? = some (.cells [.int .u8 8, .str cn, x2, x3, av, .int .i64 ((ci + 1 : Nat) : Int), .int .i64 cw, .bool cs] 0 []) := by rw [cK1.old _ (by omega) (by omega)]; exact g0
      have hmK1 : K1[mi]? = some (.cells (mC d0 d1 d2 d3 tm vs s) 0 []) := by rw [cK1.old mi (by omega) hsm, cM.old mi hml hsm]; exact hm
      have kK1 : K1[M.length]? = some (.cells [b1, b2] 0 []) := by rw [eK1, List.getElem?_append_left hlk]; exact kK
      have z8 : K1[K.length]? = some (.cells [.nils, .bool false] 0 []) := by rw [eK1, gx0]; rfl
      have e88 : ((8 : Int) == 8) = true := rfl
      have w1 : IntKind.i64.wrap (((ci + 1 : Nat) : Int) - 1) = (ci : Int) := by rw [IntWalk.i64_in _ (by omega)]; omega
      obtain ⟨b, rb, hb1, hb2⟩ := rows_idx (rows_app (g := K1) hfr) hfi .i64
      rw [List.nil_append] at hb2
      have hb3 : takeN 36 (cellsAt (stL K1) b) = some (.agg fc) := by rw [hb2]; exact takeN_app hf
      obtain ⟨L', j, c94, cL', hj⟩ := hC K1 M.length (cM.trans cK1) kK1 (by omega)
      rw [← eK1]
      refine Ev.seq rfl (Ev.seq rfl (Ev.reg' ?_))
      simp (maxSteps := 2000000) only [go_sem, Nat.reduceBEq, Nat.reduceLT, Nat.reduceAdd, Nat.reduceMul, Nat.reduceLeDiff, Nat.reduceEqDiff, decide_true, decide_false, reduceIte, and_true, true_and, i3, m1]
      refine Ev.block (Ev.seq rfl (Ev.reg' ?_))
      simp (maxSteps := 2000000) only [go_sem, Nat.reduceBEq, Nat.reduceLT, Nat.reduceAdd, Nat.reduceMul, Nat.reduceLeDiff, Nat.reduceEqDiff, decide_true, decide_false, reduceIte, and_true, true_and]
      refine Ev.cond' ?_
      simp (maxSteps := 2000000) only [go_sem, Nat.reduceBEq, Nat.reduceLT, Nat.reduceAdd, Nat.reduceMul, Nat.reduceLeDiff, Nat.reduceEqDiff, decide_true, decide_false, reduceIte, and_true, true_and]
      refine Ev.seq rfl (Ev.reg' ?_)
      simp (maxSteps := 2000000) only [go_sem, Nat.reduceBEq, Nat.reduceLT, Nat.reduceAdd, Nat.reduceMul, Nat.reduceLeDiff, Nat.reduceEqDiff, decide_true, decide_false, reduceIte, and_true, true_and]
      refine Ev.cond' ?_
      simp (maxSteps := 2000000) only [go_sem, Nat.reduceBEq, Nat.reduceLT, Nat.reduceAdd, Nat.reduceMul, Nat.reduceLeDiff, Nat.reduceEqDiff, decide_true, decide_false, reduceIte, and_true, true_and]
      refine Ev.seq rfl (Ev.seq rfl (Ev.reg' ?_))
      simp (maxSteps := 2000000) only [go_sem, Nat.reduceBEq, Nat.reduceLT, Nat.reduceAdd, Nat.reduceMul, Nat.reduceLeDiff, Nat.reduceEqDiff, decide_true, decide_false, reduceIte, and_true, true_and]
      refine Ev.cond' ?_
      simp (maxSteps := 2000000) only [go_sem, Nat.reduceBEq, Nat.reduceLT, Nat.reduceAdd, Nat.reduceMul, Nat.reduceLeDiff, Nat.reduceEqDiff, decide_true, decide_false, reduceIte, and_true, true_and]
      refine Ev.seq rfl (Ev.reg' ?_)
      simp (maxSteps := 2000000) only [go_sem, Nat.reduceBEq, Nat.reduceLT, Nat.reduceAdd, Nat.reduceMul, Nat.reduceLeDiff, Nat.reduceEqDiff, decide_true, decide_false, reduceIte, and_true, true_and]
      refine Ev.cond' ?_
      simp (maxSteps := 2000000) only [go_sem, Nat.reduceBEq, Nat.reduceLT, Nat.reduceAdd, Nat.reduceMul, Nat.reduceLeDiff, Nat.reduceEqDiff, decide_true, decide_false, reduceIte, and_true, true_and]
      refine Ev.reg' ?_
      simp (maxSteps := 2000000) only [go_sem, Nat.reduceBEq, Nat.reduceLT, Nat.reduceAdd, Nat.reduceMul, Nat.reduceLeDiff, Nat.reduceEqDiff, decide_true, decide_false, reduceIte, and_true, true_and]
      refine Ev.cond' ?_
      simp (maxSteps := 2000000) only [go_sem, Nat.reduceBEq, Nat.reduceLT, Nat.reduceAdd, Nat.reduceMul, Nat.reduceLeDiff, Nat.reduceEqDiff, decide_true, decide_false, reduceIte, and_true, true_and]
      refine Ev.seq rfl (Ev.reg' ?_)
      simp (maxSteps := 2000000) only [go_sem, Nat.reduceBEq, Nat.reduceLT, Nat.reduceAdd, Nat.reduceMul, Nat.reduceLeDiff, Nat.reduceEqDiff, decide_true, decide_false, reduceIte, and_true, true_and]
      refine Ev.cond' ?_
      simp (maxSteps := 2000000) only [go_sem, Nat.reduceBEq, Nat.reduceLT, Nat.reduceAdd, Nat.reduceMul, Nat.reduceLeDiff, Nat.reduceEqDiff, decide_true, decide_false, reduceIte, and_true, true_and]
      refine Ev.seq rfl (Ev.reg' ?_)
      simp (maxSteps := 2000000) only [go_sem, Nat.reduceBEq, Nat.reduceLT, Nat.reduceAdd, Nat.reduceMul, Nat.reduceLeDiff, Nat.reduceEqDiff, decide_true, decide_false, reduceIte, and_true, true_and]
      refine Ev.cond' ?_
      simp (maxSteps := 2000000) only [go_sem, Nat.reduceBEq, Nat.reduceLT, Nat.reduceAdd, Nat.reduceMul, Nat.reduceLeDiff, Nat.reduceEqDiff, decide_true, decide_false, reduceIte, and_true, true_and]
      refine Ev.seq rfl (Ev.reg' ?_)
      simp (maxSteps := 2000000) only [go_sem, Nat.reduceBEq, Nat.reduceLT, Nat.reduceAdd, Nat.reduceMul, Nat.reduceLeDiff, Nat.reduceEqDiff, decide_true, decide_false, reduceIte, and_true, true_and, e88]
      refine Ev.cond' ?_
      simp (maxSteps := 2000000) only [go_sem, Nat.reduceBEq, Nat.reduceLT, Nat.reduceAdd, Nat.reduceMul, Nat.reduceLeDiff, Nat.reduceEqDiff, decide_true, decide_false, reduceIte, and_true, true_and]
      refine Ev.regD0' rfl (by kernel_rfl) (by kernel_rfl) ?_
      have kl : K1.length = K.length + 1 := by rw [eK1]; simp
      have z9 : L'[K.length]? = some (.cells [.nils, .bool false] 0 []) := by rw [cL'.old _ (by omega) (by omega)]; exact z8
      have q1 := okC_cell u1c
      have q2 := cells_cell u1c
      have q3 := okC_cell u2c
      have q4 := cells_cell u2c
      have r1' := okC_cell v1c
      have r2' := cells_cell v1c
      have r3' := okC_cell v2c
      have r4' := cells_cell v2c
      simp (maxSteps := 2000000) only [go_sem, Nat.reduceBEq, Nat.reduceLT, Nat.reduceAdd, Nat.reduceMul, Nat.reduceLeDiff, Nat.reduceEqDiff, decide_true, decide_false, reduceIte, and_true, true_and, i0, i3, i5, hmK1, m1, w1, hb1, hb3, c94, z9, q1, q2, q3, q4, over, Nat.zero_le, Nat.le_refl]
      obtain ⟨R, eR⟩ : ∃ R, R = L'.set K.length (.cells [u1, u2] 0 []) := ⟨_, rfl⟩
      have cR : Cn M R s j := by rw [eR]; exact (cK1.trans cL').over (by omega) (by omega)
      have y1 : R[L.length]? = some (.cells [.int .u8 8, .str cn, x2, x3, av, .int .i64 ((ci + 1 : Nat) : Int), .int .i64 cw, .bool cs] 0 []) := by rw [cR.old _ (by omega) (by omega)]; exact g0
      have y2 : R[L.length + 1]? = some (.cells [.nils, .bool false] 0 []) := by rw [cR.old _ (by omega) (by omega), eM, gxs]; rfl
      have y3 : R[K.length]? = some (.cells [u1, u2] 0 []) := by rw [eR]; exact List.getElem?_set_self (List.getElem?_eq_some_iff.1 z9).1
      obtain ⟨g, tk⟩ := takenG_run (L := R) (y0 := .int .u8 8) (y1 := .str cn) (y2 := x2) (y3 := x3) (y4 := av) (y5 := .int .i64 ((ci + 1 : Nat) : Int)) E.n99 u1c u2c v1c v2c k140 k27 n (by omega)
      have cRg := cR.ext g
      have y4 : (R ++ g)[L.length + 1]? = some (.cells [.nils, .bool false] 0 []) := by rw [cRg.old _ (by omega) (by omega), eM, gxs]; rfl
      have hy : ((R ++ g).set (L.length + 1) (.cells [v1, v2] 0 []))[L.length + 1]? = some (.cells [v1, v2] 0 []) := List.getElem?_set_self (List.getElem?_eq_some_iff.1 y4).1
      rw [← eR]
      refine Ev.seq rfl (Ev.reg' ?_)
      simp (maxSteps := 2000000) only [go_sem, Nat.reduceBEq, Nat.reduceLT, Nat.reduceAdd, Nat.reduceMul, Nat.reduceLeDiff, Nat.reduceEqDiff, decide_true, decide_false, reduceIte, and_true, true_and, i3, i4, y1, y3, tk, y4, r1', r2', r3', r4', over, Nat.zero_le, Nat.le_refl]
      refine Ev.ret (Ret.cell rfl (v := .agg [v1, v2]) (by simp (maxSteps := 2000000) only [go_sem, Nat.reduceBEq, Nat.reduceLT, Nat.reduceAdd, Nat.reduceMul, Nat.reduceLeDiff, Nat.reduceEqDiff, decide_true, decide_false, reduceIte, and_true, true_and, i4, hy]) ?_)
      exact ⟨_, j, rfl, rfl, (cM.trans cRg).over (by omega) hsl, hj⟩
  obtain ⟨u, _, h, L', j, rfl, rfl, h3, h4⟩ := hr
  exact ⟨v1, v2, L', j, h, v1c, v2c, h3, h4⟩
end
end El

set_option linter.unusedVariables false
open Go Go.Vm Go.Proofs
namespace El
variable [Gl]
theorem over_one {c : List V} {i : Nat} {u : V} (h : i < c.length) : over c i [u] = c.set i u := by
  simp [over, List.set_eq_take_append_cons_drop, h]
theorem hd1_drop {c : List V} {i : Nat} {v : V} (h : c[i]? = some v) : hd1 (some (List.drop i c)) = some v := by
  obtain ⟨h1, h2⟩ := List.getElem?_eq_some_iff.1 h
  rw [List.drop_eq_getElem_cons h1, hd1_cons, h2]
theorem mk27 (l : List Ob) (m : Nat) (hm : m ≤ 1000) : opMakeSlice Tryz.prog 27 (.int .i64 (m : Int)) (.int .i64 (m : Int)) (stL l) = some (.ref 1 (idOf l.length) 0 m, stL (l ++ [.cells (List.replicate m .nils) 0 []])) := by
  have hb : Tryz.prog.bytesOf 70 ≤ 2 ^ 16 := by
    have : decide (Tryz.prog.bytesOf 70 ≤ 2 ^ 16) = true := by kernel_rfl
    exact of_decide_eq_true this
  have z : zeroOf Tryz.prog 70 = some [.nils] := by kernel_rfl
  have sz : szT Tryz.prog 70 = some 1 := by kernel_rfl
  have hr : repl m [V.nils] = List.replicate m .nils := by simp [repl]
  simp only [opMakeSlice, Tryz.underlying27, z, sz, asIdx_nat]
  rw [if_pos ⟨Nat.le_refl _, by unfold maxRow; omega, hb, rfl⟩, opRow_stL, hr]
/-- A row of vectors that can be copied. -/
def RowOK (Sp : SpecF) (r : List V) (ws : List (List V)) : Prop := ∃ w, r = [w] ∧ rows [] 2 w = some ws ∧ ws.length ≤ 1000 ∧ ∀ x ∈ ws, ∃ b c b', x = [b, .bool c] ∧ b.isCell = true ∧ b'.isCell = true ∧ ∀ n S, callS Tryz.prog Sp n 44 [b] S = some (b', S)
/-- What the copy has built: the first i rows. -/
structure Rws (lo : Nat) (l : List Ob) (rv : List (List V)) (wss : Nat → List (List V)) (i : Nat) (O : Nat) (vals : List V) (ow : Nat → Option Nat) : Prop where
  ob : l[O]? = some (.cells vals 0 [])
  len : vals.length = rv.length
  hO : O < lo
  row : ∀ j, j < i → ∃ v xs, vals[j]? = some v ∧ Own lo l 2 v xs (ow j) ∧ xs.length = (wss j).length
  nl : ∀ j, i ≤ j → j < vals.length → vals[j]? = some .nils
  lt : ∀ j j' k k', j < j' → j' < i → ow j = some k → ow j' = some k' → k < k'
section
variable {Sp : SpecF} {L : List Ob} {tm vs : V}
theorem clone_run (n25 : ∀ a v, ¬ Sp 25 a v) (tmc : tm.isCell = true) {rv : List (List V)} {wss : Nat → List (List V)} (hv : rows [] 1 vs = some rv) (hlen : rv.length ≤ 1000) (hr : ∀ j r, rv[j]? = some r → RowOK Sp r (wss j)) (n : Nat) (hn : 1002 ≤ n) :
    ∃ L' O vals ow, callS Tryz.prog Sp n 25 [.agg [tm, vs]] (stL L) = some (.agg [tm, .ref 1 (idOf O) 0 rv.length], stL L') ∧ Rws (O + 1) L' rv wss rv.length O vals ow ∧ L.length ≤ O ∧ L.length ≤ L'.length ∧ ∀ i, i < L.length → L'[i]? = L[i]? := by
  obtain ⟨n, rfl⟩ : ∃ m, n = m + 1 := ⟨n - 1, by omega⟩
  suffices hq : ∃ u S', callS Tryz.prog Sp (n + 1) 25 [.agg [tm, vs]] (stL L) = some (u, S') ∧ ∃ L' O vals ow, u = .agg [tm, .ref 1 (idOf O) 0 rv.length] ∧ S' = stL L' ∧ Rws (O + 1) L' rv wss rv.length O vals ow ∧ L.length ≤ O ∧ L.length ≤ L'.length ∧ ∀ i, i < L.length → L'[i]? = L[i]? by
    obtain ⟨_, _, h, L', O, vals, ow, rfl, rfl, h2⟩ := hq; exact ⟨L', O, vals, ow, h, h2⟩
  refine runS (fun v => n25 _ v) Tryz.func25 rfl (by simp [Tryz.f25]) ?_
  have p1 := okC_cell tmc
  have p2 := cells_cell tmc
  have vc := rows_cell hv
  have p3 := okC_cell vc
  have p4 := cells_cell vc
  have lv := rows_len hv
  obtain ⟨M, eM⟩ : ∃ M, M = L ++ [Ob.cells [tm, vs] 0 [], .cells [.int .i64 0, .nils] 0 []] := ⟨_, rfl⟩
  have g0 : M[L.length]? = some (.cells [tm, vs] 0 []) := by rw [eM, gx0]; rfl
  have g1 : M[L.length + 1]? = some (.cells [.int .i64 0, .nils] 0 []) := by rw [eM, gxs]; rfl
  have lM : M.length = L.length + 2 := by rw [eM]; simp
  have fM : ∀ i, i < L.length → M[i]? = L[i]? := fun i hi => by rw [eM, List.getElem?_append_left hi]
  refine Ev.seq rfl (Ev.reg' ?_)
  simp (maxSteps := 2000000) only [go_sem, Nat.reduceBEq, Nat.reduceLT, Nat.reduceAdd, Nat.reduceMul, Nat.reduceLeDiff, Nat.reduceEqDiff, decide_true, decide_false, reduceIte, and_true, true_and, p1, p2, p3, p4]
  rw [← eM]
  have mk := fun l => mk27 l rv.length hlen
  refine Ev.seq rfl (Ev.regD0' rfl (by kernel_rfl) (by kernel_rfl) ?_)
  obtain ⟨N, eN⟩ : ∃ N, N = M ++ [Ob.cells (List.replicate rv.length .nils) 0 [], .cells [tm, .ref 1 (idOf M.length) 0 rv.length] 0 []] := ⟨_, rfl⟩
  have n0 : N[L.length]? = some (.cells [tm, vs] 0 []) := by rw [eN, List.getElem?_append_left (by omega)]; exact g0
  have n1 : N[L.length + 1]? = some (.cells [.int .i64 0, .nils] 0 []) := by rw [eN, List.getElem?_append_left (by omega)]; exact g1
  have n2 : N[M.length]? = some (.cells (List.replicate rv.length .nils) 0 []) := by rw [eN, gx0]; rfl
  have n3 : N[M.length + 1]? = some (.cells [tm, .ref 1 (idOf M.length) 0 rv.length] 0 []) := by rw [eN, gxs]; rfl
  have lN : N.length = L.length + 4 := by rw [eN]; simp; omega
  have fN : ∀ i, i < L.length → N[i]? = L[i]? := fun i hi => by rw [eN, List.getElem?_append_left (by omega)]; exact fM i hi
  simp (maxSteps := 2000000) only [go_sem, Nat.reduceBEq, Nat.reduceLT, Nat.reduceAdd, Nat.reduceMul, Nat.reduceLeDiff, Nat.reduceEqDiff, decide_true, decide_false, reduceIte, and_true, true_and, g0, lv, mk, p1, p2, over, Nat.zero_le, Nat.le_refl]
  rw [← eN]
  clear mk eN
  obtain ⟨O, eO⟩ : ∃ O, O = M.length := ⟨_, rfl⟩
  rw [← eO] at n2 n3
  refine Ev.seq rfl (Ev.seq rfl (Ev.reg' ?_))
  simp (maxSteps := 2000000) only [go_sem, Nat.reduceBEq, Nat.reduceLT, Nat.reduceAdd, Nat.reduceMul, Nat.reduceLeDiff, Nat.reduceEqDiff, decide_true, decide_false, reduceIte, and_true, true_and, n0, lv]
  have rvl : rv.length < n := by omega
  refine Ev.block (Ev.loop (fun q t S => ∃ (i : Nat) (K : List Ob) (vals : List V) (ow : Nat → Option Nat), i + q = rv.length ∧ t 1 = .ptr (idOf L.length) 0 ∧ t 2 = .ptr (idOf (L.length + 1)) 0 ∧ t 3 = .ptr (idOf (O + 1)) 0 ∧ t 16 = vs ∧ t 17 = .int .i64 (rv.length : Int) ∧ t 18 = .int .i64 (i : Int) ∧ S = stL K ∧ Rws (O + 1) K rv wss i O vals ow ∧ N.length ≤ K.length ∧ ∀ x, x < N.length → x ≠ O → K[x]? = N[x]?) rv.length rvl ?_ ?_)
  · simp (maxSteps := 2000000) only [go_sem, Nat.reduceBEq, Nat.reduceLT, Nat.reduceAdd, Nat.reduceMul, Nat.reduceLeDiff, Nat.reduceEqDiff, decide_true, decide_false, reduceIte, and_true, true_and]
    refine ⟨0, N, List.replicate rv.length .nils, fun _ => none, by omega, by rw [eO, lM], by rfl, by rfl, ⟨n2, by simp, by omega, fun j h => absurd h (by omega), fun j _ h => ?_, fun j j' k k' _ h => absurd h (by omega)⟩, by omega, fun x _ _ => rfl⟩
    simp at h; simp [h]
  intro q t S ⟨i, K, vals, ow, hiq, i1, i2, i3, i16, i17, i18, iS, hR, lK, fK⟩
  subst iS
  refine Ev.seq rfl (Ev.reg' ?_)
  simp (maxSteps := 2000000) only [go_sem, Nat.reduceBEq, Nat.reduceLT, Nat.reduceAdd, Nat.reduceMul, Nat.reduceLeDiff, Nat.reduceEqDiff, decide_true, decide_false, reduceIte, and_true, true_and, i17, i18]
  by_cases hi : i < rv.length
  case neg =>
    have e : i = rv.length := by omega
    have hz : ¬ ((i : Int) < (rv.length : Int)) := by omega
    simp only [decide_eq_false hz]
    refine Ev.seq rfl (Ev.cond' ?_)
    simp (maxSteps := 2000000) only [go_sem, Nat.reduceBEq, Nat.reduceLT, Nat.reduceAdd, Nat.reduceMul, Nat.reduceLeDiff, Nat.reduceEqDiff, decide_true, decide_false, reduceIte, and_true, true_and]
    refine Ev.exit ?_
    simp (maxSteps := 2000000) only [go_sem, Nat.reduceBEq, Nat.reduceLT, Nat.reduceAdd, Nat.reduceMul, Nat.reduceLeDiff, Nat.reduceEqDiff, decide_true, decide_false, reduceIte, and_true, true_and]
    have k1 : K[L.length + 1]? = some (.cells [.int .i64 0, .nils] 0 []) := by rw [fK _ (by omega) (by omega)]; exact n1
    have k3 : K[O + 1]? = some (.cells [tm, .ref 1 (idOf O) 0 rv.length] 0 []) := by rw [fK _ (by omega) (by omega), n3, eO]
    have hy : (K.set (L.length + 1) (.cells [tm, .ref 1 (idOf O) 0 rv.length] 0 []))[L.length + 1]? = some (.cells [tm, .ref 1 (idOf O) 0 rv.length] 0 []) := List.getElem?_set_self (by omega)
    refine Ev.seq rfl (Ev.reg' ?_)
    simp (maxSteps := 2000000) only [go_sem, Nat.reduceBEq, Nat.reduceLT, Nat.reduceAdd, Nat.reduceMul, Nat.reduceLeDiff, Nat.reduceEqDiff, decide_true, decide_false, reduceIte, and_true, true_and, i2, i3, k1, k3, over, Nat.zero_le, Nat.le_refl]
    refine Ev.ret (Ret.cell rfl (v := .agg [tm, .ref 1 (idOf O) 0 rv.length]) (by simp (maxSteps := 2000000) only [go_sem, Nat.reduceBEq, Nat.reduceLT, Nat.reduceAdd, Nat.reduceMul, Nat.reduceLeDiff, Nat.reduceEqDiff, decide_true, decide_false, reduceIte, and_true, true_and, i2, hy]) ?_)
    refine ⟨_, O, vals, ow, rfl, rfl, ?_, by omega, by simp; omega, fun x hx => by rw [List.getElem?_set_ne (by omega), fK x (by omega) (by omega)]; exact fN x hx⟩
    rw [e] at hR
    refine ⟨by rw [List.getElem?_set_ne (by omega)]; exact hR.ob, hR.len, hR.hO, fun j hj => ?_, hR.nl, hR.lt⟩
    obtain ⟨v, xs, h1, h2, h3⟩ := hR.row j hj
    exact ⟨v, xs, h1, h2.keep fun k hk => by rw [List.getElem?_set_ne]; have := (hk ▸ h2).ge; omega, h3⟩
  case pos =>
    have hz : (i : Int) < (rv.length : Int) := by omega
    simp only [decide_eq_true hz]
    refine Ev.seq rfl (Ev.cond' ?_)
    simp (maxSteps := 2000000) only [go_sem, Nat.reduceBEq, Nat.reduceLT, Nat.reduceAdd, Nat.reduceMul, Nat.reduceLeDiff, Nat.reduceEqDiff, decide_true, decide_false, reduceIte, and_true, true_and]
    refine Ev.skip ?_
    simp (maxSteps := 2000000) only [go_sem, Nat.reduceBEq, Nat.reduceLT, Nat.reduceAdd, Nat.reduceMul, Nat.reduceLeDiff, Nat.reduceEqDiff, decide_true, decide_false, reduceIte, and_true, true_and]
    obtain ⟨r, hri⟩ : ∃ r, rv[i]? = some r := ⟨_, List.getElem?_eq_getElem hi⟩
    obtain ⟨w, rfl, hw, hwl, hx⟩ := hr i r hri
    obtain ⟨a, ra, ha1, ha2⟩ := rows_idx (rows_app (g := K) hv) hri .i64
    rw [List.nil_append] at ha2
    have lw := rows_len hw
    refine Ev.seq rfl (Ev.block (Ev.seq rfl (Ev.reg' ?_)))
    simp (maxSteps := 2000000) only [go_sem, Nat.reduceBEq, Nat.reduceLT, Nat.reduceAdd, Nat.reduceMul, Nat.reduceLeDiff, Nat.reduceEqDiff, decide_true, decide_false, reduceIte, and_true, true_and, i16, i18, ha1, ha2]
    refine Ev.seq rfl (Ev.reg' ?_)
    simp (maxSteps := 2000000) only [go_sem, Nat.reduceBEq, Nat.reduceLT, Nat.reduceAdd, Nat.reduceMul, Nat.reduceLeDiff, Nat.reduceEqDiff, decide_true, decide_false, reduceIte, and_true, true_and, lw]
    have hvi : i < vals.length := by rw [hR.len]; exact hi
    have wl2 : (wss i).length < n := by omega
    refine Ev.block (Ev.loop (fun q' t S => ∃ (j : Nat) (K' : List Ob) (v : V) (xs : List (List V)) (o : Option Nat), j + q' = (wss i).length ∧ t 1 = .ptr (idOf L.length) 0 ∧ t 2 = .ptr (idOf (L.length + 1)) 0 ∧ t 3 = .ptr (idOf (O + 1)) 0 ∧ t 16 = vs ∧ t 17 = .int .i64 (rv.length : Int) ∧ t 18 = .int .i64 (i : Int) ∧ t 4 = .int .i64 (i : Int) ∧ t 23 = w ∧ t 24 = .int .i64 ((wss i).length : Int) ∧ t 25 = .int .i64 (j : Int) ∧ S = stL K' ∧ K.length ≤ K'.length ∧ K'[O]? = some (.cells (vals.set i v) 0 []) ∧ Own K.length K' 2 v xs o ∧ xs.length = j ∧ ∀ x, x < K.length → x ≠ O → K'[x]? = K[x]?) (wss i).length wl2 ?_ ?_)
    · simp (maxSteps := 2000000) only [go_sem, Nat.reduceBEq, Nat.reduceLT, Nat.reduceAdd, Nat.reduceMul, Nat.reduceLeDiff, Nat.reduceEqDiff, decide_true, decide_false, reduceIte, and_true, true_and, i1, i2, i3, i16, i17, i18]
      have hs : vals.set i .nils = vals := by
        have h := hR.nl i (Nat.le_refl _) hvi
        obtain ⟨h1, h2⟩ := List.getElem?_eq_some_iff.1 h
        rw [← h2]; exact List.set_getElem_self h1
      exact ⟨0, K, .nils, [], none, by omega, by rfl, by rfl, Nat.le_refl _, by rw [hs]; exact hR.ob, Own.nil .., rfl, fun x _ _ => rfl⟩
    clear i1 i2 i3 i16 i17 i18
    intro q' t S ⟨j, K', v, xs, o, hjq, i1, i2, i3, i16, i17, i18, i4, i23, i24, i25, iS, lK', kO, hOw, hxl, fK'⟩
    subst iS
    refine Ev.seq rfl (Ev.reg' ?_)
    simp (maxSteps := 2000000) only [go_sem, Nat.reduceBEq, Nat.reduceLT, Nat.reduceAdd, Nat.reduceMul, Nat.reduceLeDiff, Nat.reduceEqDiff, decide_true, decide_false, reduceIte, and_true, true_and, i24, i25]
    by_cases hj : j < (wss i).length
    case neg =>
      have e : j = (wss i).length := by omega
      have hz : ¬ ((j : Int) < ((wss i).length : Int)) := by omega
      simp only [decide_eq_false hz]
      refine Ev.seq rfl (Ev.cond' ?_)
      simp (maxSteps := 2000000) only [go_sem, Nat.reduceBEq, Nat.reduceLT, Nat.reduceAdd, Nat.reduceMul, Nat.reduceLeDiff, Nat.reduceEqDiff, decide_true, decide_false, reduceIte, and_true, true_and]
      refine Ev.exit ?_
      simp (maxSteps := 2000000) only [go_sem, Nat.reduceBEq, Nat.reduceLT, Nat.reduceAdd, Nat.reduceMul, Nat.reduceLeDiff, Nat.reduceEqDiff, decide_true, decide_false, reduceIte, and_true, true_and]
      refine Ev.reg' ?_
      have wi : IntKind.i64.wrap ((i : Int) + 1) = ((i + 1 : Nat) : Int) := by rw [IntWalk.i64_in _ (by omega)]; omega
      simp (maxSteps := 2000000) only [go_sem, Nat.reduceBEq, Nat.reduceLT, Nat.reduceAdd, Nat.reduceMul, Nat.reduceLeDiff, Nat.reduceEqDiff, decide_true, decide_false, reduceIte, and_true, true_and, i18, wi]
      refine ⟨q - 1, by omega, i + 1, K', vals.set i v, fun y => if y = i then o else ow y, by omega, i1, i2, i3, i16, i17, rfl, rfl, ?_, by omega, fun x hx hn => by rw [fK' x (by omega) hn]; exact fK x hx hn⟩
      refine ⟨kO, by simp; exact hR.len, hR.hO, fun y hy => ?_, fun y hy hyl => ?_, fun y y' k k' h1 h2 h3 h4 => ?_⟩
      · by_cases ey : y = i
        · subst ey
          refine ⟨v, xs, List.getElem?_set_self hvi, ?_, by omega⟩
          rw [if_pos rfl]; exact hOw.low (by omega)
        · obtain ⟨v', xs', h1, h2, h3⟩ := hR.row y (by omega)
          refine ⟨v', xs', by rw [List.getElem?_set_ne (fun e => ey e.symm)]; exact h1, ?_, h3⟩
          rw [if_neg ey]
          exact h2.keep fun k hk => fK' k (by rw [hk] at h2; exact h2.lt) (by rw [hk] at h2; have := h2.ge; omega)
      · rw [List.getElem?_set_ne (by omega)]
        exact hR.nl y (by omega) (by simpa using hyl)
      · rw [if_neg (by omega)] at h3
        by_cases ey : y' = i
        · rw [if_pos ey] at h4
          subst h4
          obtain ⟨v', xs', _, h6, _⟩ := hR.row y (by omega)
          rw [h3] at h6
          have := h6.lt
          have := hOw.ge
          omega
        · rw [if_neg ey] at h4
          exact hR.lt y y' k k' h1 (by omega) h3 h4
    case pos =>
      have hz : (j : Int) < ((wss i).length : Int) := by omega
      simp only [decide_eq_true hz]
      refine Ev.seq rfl (Ev.cond' ?_)
      simp (maxSteps := 2000000) only [go_sem, Nat.reduceBEq, Nat.reduceLT, Nat.reduceAdd, Nat.reduceMul, Nat.reduceLeDiff, Nat.reduceEqDiff, decide_true, decide_false, reduceIte, and_true, true_and]
      refine Ev.skip ?_
      simp (maxSteps := 2000000) only [go_sem, Nat.reduceBEq, Nat.reduceLT, Nat.reduceAdd, Nat.reduceMul, Nat.reduceLeDiff, Nat.reduceEqDiff, decide_true, decide_false, reduceIte, and_true, true_and]
      obtain ⟨x, hxj⟩ : ∃ x, (wss i)[j]? = some x := ⟨_, List.getElem?_eq_getElem hj⟩
      obtain ⟨b, c, b', rfl, bc, bc', k44⟩ := hx x (List.mem_of_getElem? hxj)
      obtain ⟨a2, ra2, hb1, hb2⟩ := rows_idx (rows_app (g := K') hw) hxj .i64
      rw [List.nil_append] at hb2
      have q1 := okC_cell bc
      have q2 := cells_cell bc
      have q3 := okC_cell bc'
      have q4 := cells_cell bc'
      have wj : IntKind.i64.wrap ((j : Int) + 1) = ((j + 1 : Nat) : Int) := by rw [IntWalk.i64_in _ (by omega)]; omega
      have k3 : K'[O + 1]? = some (.cells [tm, .ref 1 (idOf O) 0 rv.length] 0 []) := by rw [fK' _ (by omega) (by omega), fK _ (by omega) (by omega), n3, eO]
      obtain ⟨K1, eK1⟩ : ∃ K1, K1 = K' ++ [Ob.cells [b, .bool c] 0 []] := ⟨_, rfl⟩
      refine Ev.seq rfl (Ev.block (Ev.seq rfl (Ev.reg' ?_)))
      simp (maxSteps := 2000000) only [go_sem, Nat.reduceBEq, Nat.reduceLT, Nat.reduceAdd, Nat.reduceMul, Nat.reduceLeDiff, Nat.reduceEqDiff, decide_true, decide_false, reduceIte, and_true, true_and, i23, i25, hb1, hb2, q1, q2, over, Nat.zero_le, Nat.le_refl]
      rw [← eK1]
      have l1 : K1.length = K'.length + 1 := by rw [eK1]; simp
      have m3 : K1[O + 1]? = some (.cells [tm, .ref 1 (idOf O) 0 rv.length] 0 []) := by rw [eK1, List.getElem?_append_left (by omega)]; exact k3
      have m0 : K1[O]? = some (.cells (vals.set i v) 0 []) := by rw [eK1, List.getElem?_append_left (by omega)]; exact kO
      have mx : K1[K'.length]? = some (.cells [b, .bool c] 0 []) := by rw [eK1, gx0]; rfl
      have mo : Own K.length K1 2 v xs o := hOw.keep fun k hk => by rw [eK1, List.getElem?_append_left]; rw [hk] at hOw; exact hOw.lt
      obtain ⟨K2, eK2⟩ : ∃ K2, K2 = K1 ++ [Ob.cells [b', .bool c] 0 []] := ⟨_, rfl⟩
      have l2 : K2.length = K1.length + 1 := by rw [eK2]; simp
      have fK2 : ∀ y, y < K1.length → K2[y]? = K1[y]? := fun y hy => by rw [eK2, List.getElem?_append_left hy]
      have mo2 : Own K.length K2 2 v xs o := mo.keep fun k hk => by rw [fK2]; rw [hk] at mo; exact mo.lt
      have hy1 : rows K2 2 (.ref 2 (idOf K1.length) 0 1) = some [[b', .bool c]] := by rw [rows_ref (c := [b', .bool c]) (by rw [eK2, gx0]; rfl) (by simp)]; rfl
      obtain ⟨u, K3, ap, uc, ow3, l3, f3⟩ := Own.push Tryz.underlying70 sz50 (of_decide_eq_true bytes50) (by omega) mo2 hy1 rfl (by omega)
      have ho : o ≠ some O := fun e => by rw [e] at hOw; have := hOw.ge; omega
      have ho3 : o ≠ some (O + 1) := fun e => by rw [e] at hOw; have := hOw.ge; omega
      have r0 : K3[O]? = some (.cells (vals.set i v) 0 []) := by rw [f3 O ho (by omega), fK2 O (by omega)]; exact m0
      have r3 : K3[O + 1]? = some (.cells [tm, .ref 1 (idOf O) 0 rv.length] 0 []) := by rw [f3 _ ho3 (by omega), fK2 _ (by omega)]; exact m3
      have hdv : hd1 (some (List.drop i (vals.set i v))) = some v := hd1_drop (List.getElem?_set_self hvi)
      have ov : over (vals.set i v) i [u] = vals.set i u := by rw [over_one (by simpa using hvi), List.set_set]
      have hsz : 0 ≤ i ∧ i + 1 ≤ vals.length := by omega
      have ap' : opAppend2 Tryz.prog 70 v (.ref 2 (idOf K1.length) 0 1) (stL (K1 ++ [Ob.cells [b', .bool c] 0 []])) = some (u, stL K3) := by rw [← eK2]; exact ap
      refine Ev.regDX rfl (by kernel_rfl) [(1, 10), (1, 15), (4, 10), (7, 10), (12, 10)] (by kernel_rfl) (fun T' Z B R htr p hp => ?_) ?_
      · have s10 : Z 10 = stL K1 := htr.at 10 (by decide) (X := fun _ S => S = stL K1) (by simp (maxSteps := 2000000) only [go_sem, Nat.reduceBEq, Nat.reduceLT, Nat.reduceAdd, Nat.reduceMul, Nat.reduceLeDiff, Nat.reduceEqDiff, decide_true, decide_false, reduceIte, and_true, true_and, i3, i4, m3, m0, mx, hdv, k44, hi, q1, q2, q3, q4, Nat.mul_one])
        have s11 : Z 11 = stL K1 := htr.at 11 (by decide) (X := fun _ S => S = stL K1) (by simp (maxSteps := 2000000) only [go_sem, Nat.reduceBEq, Nat.reduceLT, Nat.reduceAdd, Nat.reduceMul, Nat.reduceLeDiff, Nat.reduceEqDiff, decide_true, decide_false, reduceIte, and_true, true_and, i3, i4, m3, m0, mx, hdv, k44, hi, q1, q2, q3, q4, Nat.mul_one])
        have s15 : Z 15 = stL (K1 ++ [Ob.cells [b', .bool c] 0 []]) := htr.at 15 (by decide) (X := fun _ S => S = stL (K1 ++ [Ob.cells [b', .bool c] 0 []])) (by simp (maxSteps := 2000000) only [go_sem, Nat.reduceBEq, Nat.reduceLT, Nat.reduceAdd, Nat.reduceMul, Nat.reduceLeDiff, Nat.reduceEqDiff, decide_true, decide_false, reduceIte, and_true, true_and, i3, i4, m3, m0, mx, hdv, k44, hi, q1, q2, q3, q4, over, Nat.zero_le, Nat.le_refl, Nat.mul_one])
        have s16 : Z 16 = stL K3 := htr.at 16 (by decide) (X := fun _ S => S = stL K3) (by simp (maxSteps := 2000000) only [go_sem, Nat.reduceBEq, Nat.reduceLT, Nat.reduceAdd, Nat.reduceMul, Nat.reduceLeDiff, Nat.reduceEqDiff, decide_true, decide_false, reduceIte, and_true, true_and, i3, i4, m3, m0, mx, hdv, k44, hi, q1, q2, q3, q4, over, Nat.zero_le, Nat.le_refl, ap', Nat.mul_one])
        have t1 : T' 1 29 = .ptr (idOf (O + 1)) 1 := htr.at 1 (by decide) (X := fun t _ => t 29 = .ptr (idOf (O + 1)) 1) (by simp (maxSteps := 2000000) only [go_sem, Nat.reduceBEq, Nat.reduceLT, Nat.reduceAdd, Nat.reduceMul, Nat.reduceLeDiff, Nat.reduceEqDiff, decide_true, decide_false, reduceIte, and_true, true_and, i3])
        simp only [List.mem_cons, List.not_mem_nil, or_false] at hp
        rcases hp with rfl | rfl | rfl | rfl | rfl
        · exact LookOK.of_load rfl (by show cellsAt (Z 10) _ = cellsAt (Z 11) _; rw [s10, s11])
        · refine LookOK.of_load rfl ?_
          show cellsAt (Z 15) (T' 1 29) = cellsAt (Z 16) (T' 1 29)
          rw [s15, s16, t1, cellsAt_ptr, cellsAt_ptr, r3, ← eK2, fK2 _ (by omega), m3]
        · exact LookOK.of_load rfl (by show cellsAt (Z 10) _ = cellsAt (Z 11) _; rw [s10, s11])
        · exact LookOK.of_load rfl (by show cellsAt (Z 10) _ = cellsAt (Z 11) _; rw [s10, s11])
        · exact LookOK.of_load rfl (by show cellsAt (Z 10) _ = cellsAt (Z 11) _; rw [s10, s11])
      simp (maxSteps := 2000000) only [go_sem, Nat.reduceBEq, Nat.reduceLT, Nat.reduceAdd, Nat.reduceMul, Nat.reduceLeDiff, Nat.reduceEqDiff, decide_true, decide_false, reduceIte, and_true, true_and, i3, i4, m3, m0, mx, hdv, k44, hi, q1, q2, q3, q4, over, Nat.zero_le, Nat.le_refl, ap', uc, r0, hsz, Nat.mul_one, List.length_set]
      refine Ev.reg' ?_
      simp (maxSteps := 2000000) only [go_sem, Nat.reduceBEq, Nat.reduceLT, Nat.reduceAdd, Nat.reduceMul, Nat.reduceLeDiff, Nat.reduceEqDiff, decide_true, decide_false, reduceIte, and_true, true_and, i25, wj]
      have ov' : List.take i (vals.set i v) ++ u :: List.drop (i + 1) (vals.set i v) = vals.set i u := by rw [← ov]; simp [over]
      refine ⟨q' - 1, by omega, j + 1, K3.set O (.cells (vals.set i u) 0 []), u, xs ++ [[b', .bool c]], some K2.length, by omega, i1, i2, i3, i16, i17, i18, i4, i23, i24, rfl, by rw [ov'], by simp; omega, List.getElem?_set_self (by omega), ow3.keep fun k hk => ?_, by simp; omega, fun y hy hn => ?_⟩
      · injection hk with hk; rw [List.getElem?_set_ne (by omega)]
      · rw [List.getElem?_set_ne (fun e => hn e.symm), f3 y (fun e => by rw [e] at hOw; have := hOw.ge; omega) (by omega), fK2 y (by omega), eK1, List.getElem?_append_left (by omega)]
        exact fK' y hy hn
end
end El

set_option linter.unusedVariables false
open Go Go.Vm Go.Proofs
namespace El
variable [Gl]
theorem Own.some1 {lo : Nat} {l : List Ob} {es : Nat} {v : V} {xs : List (List V)} {o : Option Nat} (h : Vm.Own lo l es v xs o) (h1 : xs.length = 1) : ∃ k x, o = some k ∧ xs = [x] ∧ v = .ref es (idOf k) 0 1 ∧ x.length = es := by
  cases o with
  | none => obtain ⟨_, _, rfl⟩ := h; simp at h1
  | some k =>
    obtain ⟨h2, anc, rfl, h3, h4, h5⟩ := h
    match xs, h1 with
    | [x], _ => exact ⟨k, x, rfl, rfl, rfl, h2 x (by simp)⟩
theorem Own.nst {lo : Nat} {l : List Ob} {es : Nat} {v : V} {xs : List (List V)} {k : Nat} (h : Vm.Own lo l es v xs (some k)) : ∀ c, l[k]? ≠ some (.stale c) := by
  obtain ⟨h2, anc, rfl, h3, h4, h5⟩ := h
  intro c; rw [h3]; simp
theorem Own.get1 {lo : Nat} {l : List Ob} {v : V} {a b : V} {k : Nat} (h : Vm.Own lo l 2 v [[a, b]] (some k)) : ∃ anc, l[k]? = some (.cells [a, b] 0 anc) := by
  obtain ⟨h2, anc, rfl, h3, h4, h5⟩ := h
  exact ⟨anc, by simpa using h3⟩
section
variable {Sp : SpecF} {M : List Ob} {s mi p : Nat} {d0 d1 d2 d3 tm vs : V}
theorem callf_run (n94 : ∀ a v, ¬ Sp 94 a v) (n25 : ∀ a v, ¬ Sp 25 a v) (hs : M[s]? = some (cnt 0)) (hm : M[mi]? = some (.cells (mC d0 d1 d2 d3 tm vs s) 0 [])) {b1 b2 : V} (hp : M[p]? = some (.cells [b1, b2] 0 []))
    (c0 : d0.isCell = true) (c1 : d1.isCell = true) (c2 : d2.isCell = true) (c3 : d3.isCell = true) (tmc : tm.isCell = true) {rv : List (List V)} {wss : Nat → List (List V)} (hv : rows [] 1 vs = some rv) (hlen : rv.length ≤ 1000) (hr : ∀ j r, rv[j]? = some r → RowOK Sp r (wss j))
    {fnm : List Nat} {ri xi : Nat} {ins : V} {w : List V} (hins : rows [] 1 ins = some [[.int .i64 ((xi + 1 : Nat) : Int)]]) (hw : w.length = 33) (hri : ri < rv.length) (hxi : xi < rv.length) (hne : ri ≠ xi) (r1 : (wss ri).length = 1) (x1 : (wss xi).length = 1)
    {sr : List (List V)} (hsr : rows [] 10 d0 = some sr) {gr : List V} (hgr : sr[ri]? = some gr) (hgrl : gr.length = 10) {a0 a1 a2 a5 a6 a7 a8 a9 : V} {wx : Int} {sx : Bool} (hgx : sr[xi]? = some [a0, a1, a2, .int .i64 wx, .bool sx, a5, a6, a7, a8, a9])
    {u1 u2 v1 v2 er z1 z2 : V} (u1c : u1.isCell = true) (u2c : u2.isCell = true) (v1c : v1.isCell = true) (v2c : v2.isCell = true) (z1c : z1.isCell = true) (z2c : z2.isCell = true)
    (k23 : ∀ n S, callS Tryz.prog Sp n 23 [.int .u8 2, .agg gr] S = some (.agg [u1, u2], S)) (k27 : ∀ n S, callS Tryz.prog Sp n 27 [.agg [b1, b2], .int .i64 wx] S = some (.tup [.agg [v1, v2], er], S)) (k140 : ∀ n S, callS Tryz.prog Sp n 140 [.agg [v1, v2], .bool sx] S = some (.agg [z1, z2], S)) (n : Nat) (hn : 1002 ≤ n)
    (hW : ∀ (K : List Ob) (q : Nat) (vs' : V), K[s]? = some (cnt 0) → K[q]? = some (.cells (mC d0 d1 d2 d3 tm vs' s) 0 []) → ∃ u L' j, callS Tryz.prog Sp n 141 [.ptr (idOf q) 0, .agg w] (stL K) = some (u, stL L') ∧ Cn K L' s j ∧ 20000 < j) :
    ∃ L' j, callS Tryz.prog Sp (n + 1) 94 [.ptr (idOf mi) 0, .agg (.str fnm :: .int .i64 ((ri + 1 : Nat) : Int) :: ins :: w), .ref 2 (idOf p) 0 1] (stL M) = some (.agg [u1, u2], stL L') ∧ Cn M L' s j ∧ 20000 < j := by
  suffices hq : ∃ u S', callS Tryz.prog Sp (n + 1) 94 [.ptr (idOf mi) 0, .agg (.str fnm :: .int .i64 ((ri + 1 : Nat) : Int) :: ins :: w), .ref 2 (idOf p) 0 1] (stL M) = some (u, S') ∧ ∃ L' j, u = .agg [u1, u2] ∧ S' = stL L' ∧ Cn M L' s j ∧ 20000 < j by
    obtain ⟨_, _, h, L', j, rfl, rfl, h2⟩ := hq; exact ⟨L', j, h, h2⟩
  refine runS (fun v => n94 _ v) Tryz.func94 rfl (by simp [Tryz.f94]) ?_
  have hsl : s < M.length := (List.getElem?_eq_some_iff.1 hs).1
  have hml : mi < M.length := (List.getElem?_eq_some_iff.1 hm).1
  have hpl : p < M.length := (List.getElem?_eq_some_iff.1 hp).1
  have li := rows_len hins
  have vc := rows_cell hv
  have ci := rows_cell hins
  have q1 := okC_cell ci
  have q2 := cells_cell ci
  have tkw : takeN 33 (some w) = some (.agg w) := by rw [takeN_some, if_pos (by omega), List.take_of_length_le (by omega)]
  obtain ⟨N, eN⟩ : ∃ N, N = M ++ [Ob.cells (.str fnm :: .int .i64 ((ri + 1 : Nat) : Int) :: ins :: w) 0 [], .cells [.nils, .bool false] 0 []] := ⟨_, rfl⟩
  have lN : N.length = M.length + 2 := by rw [eN]; simp
  have fN : ∀ i, i < M.length → N[i]? = M[i]? := fun i hi => by rw [eN, List.getElem?_append_left hi]
  have n0 : N[M.length]? = some (.cells (.str fnm :: .int .i64 ((ri + 1 : Nat) : Int) :: ins :: w) 0 []) := by rw [eN, gx0]; rfl
  have n1 : N[M.length + 1]? = some (.cells [.nils, .bool false] 0 []) := by rw [eN, gxs]; rfl
  have nm : N[mi]? = some (.cells (mC d0 d1 d2 d3 tm vs s) 0 []) := by rw [fN mi hml]; exact hm
  refine Ev.seq rfl (Ev.reg' ?_)
  simp (maxSteps := 2000000) only [go_sem, Nat.reduceBEq, Nat.reduceLT, Nat.reduceAdd, Nat.reduceMul, Nat.reduceLeDiff, Nat.reduceEqDiff, decide_true, decide_false, reduceIte, and_true, true_and]
  rw [← eN]
  obtain ⟨L1, O, vals, ow, hcl, hR, hO, lL1, fL1⟩ := clone_run (L := N) n25 tmc hv hlen hr n (by omega)
  have m1 : L1[mi]? = some (.cells (mC d0 d1 d2 d3 tm vs s) 0 []) := by rw [fL1 mi (by omega)]; exact nm
  have p0 := okC_cell c0
  have p1 := cells_cell c0
  have p2 := okC_cell c1
  have p3 := cells_cell c1
  have p4 := okC_cell c2
  have p5 := cells_cell c2
  have p6 := okC_cell c3
  have p7 := cells_cell c3
  have p8 := okC_cell tmc
  have p9 := cells_cell tmc
  have okf : ∀ f a b, okC (.fn f a b) = true := fun f a b => okC_cell (isCell_fn f a b)
  have clf : ∀ f a b, V.cells (.fn f a b) = [.fn f a b] := fun f a b => cells_cell (isCell_fn f a b)
  refine Ev.seq rfl (Ev.regDX rfl (by kernel_rfl) [(3, 8), (12, 8), (16, 8)] (by kernel_rfl) (fun T' Z B R htr pp hp => ?_) ?_)
  · have s8 : Z 8 = stL N := htr.at 8 (by decide) (X := fun _ S => S = stL N) (by simp (maxSteps := 2000000) only [go_sem, Nat.reduceBEq, Nat.reduceLT, Nat.reduceAdd, Nat.reduceMul, Nat.reduceLeDiff, Nat.reduceEqDiff, decide_true, decide_false, reduceIte, and_true, true_and, nm])
    have s9 : Z 9 = stL L1 := htr.at 9 (by decide) (X := fun _ S => S = stL L1) (by simp (maxSteps := 2000000) only [go_sem, Nat.reduceBEq, Nat.reduceLT, Nat.reduceAdd, Nat.reduceMul, Nat.reduceLeDiff, Nat.reduceEqDiff, decide_true, decide_false, reduceIte, and_true, true_and, nm, hcl])
    have t15 : T' 3 15 = .ptr (idOf mi) 0 := htr.at 3 (by decide) (X := fun t _ => t 15 = .ptr (idOf mi) 0) (by simp (maxSteps := 2000000) only [go_sem, Nat.reduceBEq, Nat.reduceLT, Nat.reduceAdd, Nat.reduceMul, Nat.reduceLeDiff, Nat.reduceEqDiff, decide_true, decide_false, reduceIte, and_true, true_and, nm])
    have t24 : T' 12 24 = .ptr (idOf mi) 6 := htr.at 12 (by decide) (X := fun t _ => t 24 = .ptr (idOf mi) 6) (by simp (maxSteps := 2000000) only [go_sem, Nat.reduceBEq, Nat.reduceLT, Nat.reduceAdd, Nat.reduceMul, Nat.reduceLeDiff, Nat.reduceEqDiff, decide_true, decide_false, reduceIte, and_true, true_and, nm, hcl])
    have t28 : T' 16 28 = .ptr (idOf mi) 7 := htr.at 16 (by decide) (X := fun t _ => t 28 = .ptr (idOf mi) 7) (by simp (maxSteps := 2000000) only [go_sem, Nat.reduceBEq, Nat.reduceLT, Nat.reduceAdd, Nat.reduceMul, Nat.reduceLeDiff, Nat.reduceEqDiff, decide_true, decide_false, reduceIte, and_true, true_and, nm, hcl, m1])
    simp only [List.mem_cons, List.not_mem_nil, or_false] at hp
    rcases hp with rfl | rfl | rfl
    · refine LookOK.of_load rfl ?_
      show cellsAt (Z 8) (T' 3 15) = cellsAt (Z 9) (T' 3 15)
      rw [s8, s9, t15, cellsAt_ptr, cellsAt_ptr, nm, m1]
    · refine LookOK.of_load rfl ?_
      show cellsAt (Z 8) (T' 12 24) = cellsAt (Z 9) (T' 12 24)
      rw [s8, s9, t24, cellsAt_ptr, cellsAt_ptr, nm, m1]
    · refine LookOK.of_load rfl ?_
      show cellsAt (Z 8) (T' 16 28) = cellsAt (Z 9) (T' 16 28)
      rw [s8, s9, t28, cellsAt_ptr, cellsAt_ptr, nm, m1]
  have rp : ∀ n, okC (V.ref 1 (idOf O) 0 n) = true := fun n => okC_ref ..
  simp (maxSteps := 2000000) only [go_sem, Nat.reduceBEq, Nat.reduceLT, Nat.reduceAdd, Nat.reduceMul, Nat.reduceLeDiff, Nat.reduceEqDiff, decide_true, decide_false, reduceIte, and_true, true_and, nm, hcl, m1, p0, p1, p2, p3, p4, p5, p6, p7, p8, p9, okf, clf, over, Nat.zero_le, Nat.le_refl]
  obtain ⟨L2, eL2⟩ : ∃ L2, L2 = L1 ++ [Ob.cells (mC d0 d1 d2 d3 tm (.ref 1 (idOf O) 0 rv.length) s) 0 []] := ⟨_, rfl⟩
  rw [← eL2]
  have lL2 : L2.length = L1.length + 1 := by rw [eL2]; simp
  have fL2 : ∀ i, i < L1.length → L2[i]? = L1[i]? := fun i hi => by rw [eL2, List.getElem?_append_left hi]
  have m2 : L2[L1.length]? = some (.cells (mC d0 d1 d2 d3 tm (.ref 1 (idOf O) 0 rv.length) s) 0 []) := by rw [eL2, gx0]; rfl
  have hOl : O < L1.length := (List.getElem?_eq_some_iff.1 hR.ob).1
  have o2 : L2[O]? = some (.cells vals 0 []) := by rw [fL2 O hOl]; exact hR.ob
  have x2 : L2[M.length]? = some (.cells (.str fnm :: .int .i64 ((ri + 1 : Nat) : Int) :: ins :: w) 0 []) := by rw [fL2 _ (by omega), fL1 _ (by omega)]; exact n0
  have hmi2 : L2[mi]? = some (.cells (mC d0 d1 d2 d3 tm vs s) 0 []) := by rw [fL2 _ (by omega)]; exact m1
  obtain ⟨vr, xr, hvr, hor, hlr⟩ := hR.row ri hri
  obtain ⟨vx, xx, hvx, hox, hlx⟩ := hR.row xi hxi
  obtain ⟨kr, yr, ekr, rfl, rfl, hyr⟩ := Own.some1 hor (by omega)
  obtain ⟨kx, yx, ekx, rfl, rfl, hyx⟩ := Own.some1 hox (by omega)
  rw [ekr] at hor
  rw [ekx] at hox
  have hkx : kr ≠ kx := by
    intro e
    rcases Nat.lt_or_gt_of_ne hne with h | h
    · have := hR.lt ri xi kr kx h hxi ekr ekx; omega
    · have := hR.lt xi ri kx kr h hri ekx ekr; omega
  have hkr1 := hor.lt
  have hkr2 := hor.ge
  have hkx1 := hox.lt
  have hkx2 := hox.ge
  have hor2 : Vm.Own (O + 1) L2 2 (.ref 2 (idOf kr) 0 1) [yr] (some kr) := hor.keep fun k hk => by injection hk with hk; subst hk; exact fL2 _ hkr1
  have hox2 : Vm.Own (O + 1) L2 2 (.ref 2 (idOf kx) 0 1) [yx] (some kx) := hox.keep fun k hk => by injection hk with hk; subst hk; exact fL2 _ hkx1
  obtain ⟨L3, wr0, or3, lL3, f3⟩ := hor2.write (j := 0) (r := [u1, u2]) (by simp) rfl
  rw [Nat.zero_mul, Nat.add_zero] at wr0
  rw [List.set_cons_zero] at or3
  have wr : wrX L2 kr 0 [u1, u2] L2[kr]? = some (.any, stL L3) := by rw [← writeR_ptr]; exact wr0
  have f3' : ∀ i, i ≤ O → L3[i]? = L2[i]? := fun i hi => f3 i (by omega) (.inl (by omega))
  have ox3 : Vm.Own (O + 1) L3 2 (.ref 2 (idOf kx) 0 1) [yx] (some kx) := hox2.keep fun k hk => by injection hk with hk; subst hk; exact f3 _ (fun e => hkx e.symm) (.inr (Own.nst hox2))
  have m3 : L3[L1.length]? = some (.cells (mC d0 d1 d2 d3 tm (.ref 1 (idOf O) 0 rv.length) s) 0 []) := by rw [f3 _ (by omega) (.inr fun c => by rw [m2]; simp)]; exact m2
  have o3 : L3[O]? = some (.cells vals 0 []) := by rw [f3' O (Nat.le_refl _)]; exact o2
  have x3 : L3[M.length]? = some (.cells (.str fnm :: .int .i64 ((ri + 1 : Nat) : Int) :: ins :: w) 0 []) := by rw [f3' _ (by omega)]; exact x2
  have hmi3 : L3[mi]? = some (.cells (mC d0 d1 d2 d3 tm vs s) 0 []) := by rw [f3' _ (by omega)]; exact hmi2
  have wri : IntKind.i64.wrap (((ri + 1 : Nat) : Int) - 1) = (ri : Int) := by rw [IntWalk.i64_in _ (by omega)]; omega
  have wxi : IntKind.i64.wrap (((xi + 1 : Nat) : Int) - 1) = (xi : Int) := by rw [IntWalk.i64_in _ (by omega)]; omega
  have hdr : hd1 (some (List.drop ri vals)) = some (.ref 2 (idOf kr) 0 1) := hd1_drop hvr
  have hdx : hd1 (some (List.drop xi vals)) = some (.ref 2 (idOf kx) 0 1) := hd1_drop hvx
  obtain ⟨ag, rag, hag1, hag2⟩ := rows_idx (rows_app (g := L2) hsr) hgr .i64
  rw [List.nil_append] at hag2
  have hag3 : takeN 10 (cellsAt (stL L2) ag) = some (.agg gr) := by rw [hag2]; exact takeN_app hgrl
  have ixr : idxAddr 2 (.ref 2 (idOf kr) 0 1) (.int .i64 0) = some (.ptr (idOf kr) 0) := rfl
  have ixx : idxAddr 2 (.ref 2 (idOf kx) 0 1) (.int .i64 0) = some (.ptr (idOf kx) 0) := rfl
  refine Ev.seq rfl (Ev.regDX rfl (by kernel_rfl) [(4, 20), (6, 20), (9, 20)] (by kernel_rfl) (fun T' Z B R htr pp hp => ?_) ?_)
  · have s20 : Z 20 = stL L2 := htr.at 20 (by decide) (X := fun _ S => S = stL L2) (by simp (maxSteps := 2000000) only [go_sem, Nat.reduceBEq, Nat.reduceLT, Nat.reduceAdd, Nat.reduceMul, Nat.reduceLeDiff, Nat.reduceEqDiff, decide_true, decide_false, reduceIte, and_true, true_and, m2, o2, x2, hmi2, wri, hdr, hag1, hag3, hri, Nat.mul_one])
    have s21 : Z 21 = stL L2 := htr.at 21 (by decide) (X := fun _ S => S = stL L2) (by simp (maxSteps := 2000000) only [go_sem, Nat.reduceBEq, Nat.reduceLT, Nat.reduceAdd, Nat.reduceMul, Nat.reduceLeDiff, Nat.reduceEqDiff, decide_true, decide_false, reduceIte, and_true, true_and, m2, o2, x2, hmi2, wri, hdr, hag1, hag3, hri, k23, Nat.mul_one])
    simp only [List.mem_cons, List.not_mem_nil, or_false] at hp
    rcases hp with rfl | rfl | rfl
    · exact LookOK.of_load rfl (by show cellsAt (Z 20) _ = cellsAt (Z 21) _; rw [s20, s21])
    · exact LookOK.of_load rfl (by show cellsAt (Z 20) _ = cellsAt (Z 21) _; rw [s20, s21])
    · exact LookOK.of_load rfl (by show cellsAt (Z 20) _ = cellsAt (Z 21) _; rw [s20, s21])
  simp (maxSteps := 2000000) only [go_sem, Nat.reduceBEq, Nat.reduceLT, Nat.reduceAdd, Nat.reduceMul, Nat.reduceLeDiff, Nat.reduceEqDiff, decide_true, decide_false, reduceIte, and_true, true_and, m2, o2, x2, hmi2, wri, hdr, hag1, hag3, hri, k23, ixr, wr, Nat.mul_one]
  refine Ev.seq rfl (Ev.seq rfl (Ev.reg' ?_))
  simp (maxSteps := 2000000) only [go_sem, Nat.reduceBEq, Nat.reduceLT, Nat.reduceAdd, Nat.reduceMul, Nat.reduceLeDiff, Nat.reduceEqDiff, decide_true, decide_false, reduceIte, and_true, true_and, x3, li]
  have hp3 : L3[p]? = some (.cells [b1, b2] 0 []) := by rw [f3' _ (by omega), fL2 _ (by omega), fL1 _ (by omega), fN _ hpl]; exact hp
  have hn1 : 1 < n := by omega
  refine Ev.block (Ev.loop (fun q t S => t 0 = .ptr (idOf mi) 0 ∧ t 2 = .ref 2 (idOf p) 0 1 ∧ t 4 = .ptr (idOf M.length) 0 ∧ t 6 = .ptr (idOf (M.length + 1)) 0 ∧ t 7 = .ptr (idOf L1.length) 0 ∧ t 55 = ins ∧ t 56 = .int .i64 ((1 : Nat) : Int) ∧ ((q = 1 ∧ t 57 = .int .i64 0 ∧ S = stL L3) ∨ (q = 0 ∧ t 57 = .int .i64 1 ∧ ∃ K, S = stL K ∧ L3.length ≤ K.length ∧ (∀ i, i ≤ O → K[i]? = L3[i]?) ∧ K[L1.length]? = some (.cells (mC d0 d1 d2 d3 tm (.ref 1 (idOf O) 0 rv.length) s) 0 []) ∧ Vm.Own (O + 1) K 2 (.ref 2 (idOf kr) 0 1) [[u1, u2]] (some kr)))) 1 hn1 ?_ ?_)
  · simp (maxSteps := 2000000) only [go_sem, Nat.reduceBEq, Nat.reduceLT, Nat.reduceAdd, Nat.reduceMul, Nat.reduceLeDiff, Nat.reduceEqDiff, decide_true, decide_false, reduceIte, and_true, true_and]
    exact .inl trivial
  intro q t S ⟨i0, i2, i4, i6, i7, i55, i56, h⟩
  rcases h with ⟨rfl, i57, iS⟩ | ⟨rfl, i57, K, iS, lK, fK, mK, oK⟩
  · subst iS
    have lt : (0 : Int) < ((1 : Nat) : Int) := by omega
    refine Ev.seq rfl (Ev.reg' ?_)
    simp (maxSteps := 2000000) only [go_sem, Nat.reduceBEq, Nat.reduceLT, Nat.reduceAdd, Nat.reduceMul, Nat.reduceLeDiff, Nat.reduceEqDiff, decide_true, decide_false, reduceIte, and_true, true_and, i56, i57, lt]
    refine Ev.seq rfl (Ev.cond' ?_)
    simp (maxSteps := 2000000) only [go_sem, Nat.reduceBEq, Nat.reduceLT, Nat.reduceAdd, Nat.reduceMul, Nat.reduceLeDiff, Nat.reduceEqDiff, decide_true, decide_false, reduceIte, and_true, true_and]
    refine Ev.skip ?_
    simp (maxSteps := 2000000) only [go_sem, Nat.reduceBEq, Nat.reduceLT, Nat.reduceAdd, Nat.reduceMul, Nat.reduceLeDiff, Nat.reduceEqDiff, decide_true, decide_false, reduceIte, and_true, true_and]
    obtain ⟨ai, rai, hai1, hai2⟩ := rows_idx (rows_app (g := L3) hins) (r := [.int .i64 ((xi + 1 : Nat) : Int)]) (j := 0) rfl .i64
    have hai1' : idxAddr 1 ins (.int .i64 0) = some ai := hai1
    rw [List.nil_append] at hai2
    obtain ⟨ax, rax, hax1, hax2⟩ := rows_idx (rows_app (g := L3) hsr) hgx .i64
    rw [List.nil_append] at hax2
    have hax3 : takeN 10 (cellsAt (stL L3) ax) = some (.agg [a0, a1, a2, .int .i64 wx, .bool sx, a5, a6, a7, a8, a9]) := by rw [hax2]; exact takeN_app rfl
    refine Ev.seq rfl (Ev.block (Ev.seq rfl (Ev.reg' ?_)))
    simp (maxSteps := 2000000) only [go_sem, Nat.reduceBEq, Nat.reduceLT, Nat.reduceAdd, Nat.reduceMul, Nat.reduceLeDiff, Nat.reduceEqDiff, decide_true, decide_false, reduceIte, and_true, true_and, i55, i57, hai1', hai2]
    have rp10 : repl 1 [V.str [], .int .u8 0, .int .u8 0, .int .i64 0, .bool false, .int .i64 0, .int .i64 0, .int .i64 0, .int .i64 0, .int .i64 0] = [V.str [], .int .u8 0, .int .u8 0, .int .i64 0, .bool false, .int .i64 0, .int .i64 0, .int .i64 0, .int .i64 0, .int .i64 0] := rfl
    refine Ev.seq rfl (Ev.reg' ?_)
    simp (maxSteps := 2000000) only [go_sem, Nat.reduceBEq, Nat.reduceLT, Nat.reduceAdd, Nat.reduceMul, Nat.reduceLeDiff, Nat.reduceEqDiff, decide_true, decide_false, reduceIte, and_true, true_and, i0, hmi3, wxi, hax1, hax3, rp10, over, Nat.zero_le, Nat.le_refl]
    obtain ⟨L4, eL4⟩ : ∃ L4, L4 = L3 ++ [Ob.cells [a0, a1, a2, .int .i64 wx, .bool sx, a5, a6, a7, a8, a9] 0 []] := ⟨_, rfl⟩
    rw [← eL4]
    have lL4 : L4.length = L3.length + 1 := by rw [eL4]; simp
    have f4 : ∀ i, i < L3.length → L4[i]? = L3[i]? := fun i hi => by rw [eL4, List.getElem?_append_left hi]
    have y4 : L4[L3.length]? = some (.cells [a0, a1, a2, .int .i64 wx, .bool sx, a5, a6, a7, a8, a9] 0 []) := by rw [eL4, gx0]; rfl
    have hp4 : L4[p]? = some (.cells [b1, b2] 0 []) := by rw [f4 _ (by omega)]; exact hp3
    have ixp : idxAddr 2 (.ref 2 (idOf p) 0 1) (.int .i64 0) = some (.ptr (idOf p) 0) := rfl
    have c1' := okC_cell v1c
    have c2' := cells_cell v1c
    have c3' := okC_cell v2c
    have c4' := cells_cell v2c
    refine Ev.seq rfl (Ev.regD0' rfl (by kernel_rfl) (by kernel_rfl) ?_)
    simp (maxSteps := 2000000) only [go_sem, Nat.reduceBEq, Nat.reduceLT, Nat.reduceAdd, Nat.reduceMul, Nat.reduceLeDiff, Nat.reduceEqDiff, decide_true, decide_false, reduceIte, and_true, true_and, i2, ixp, hp4, y4, k27, c1', c2', c3', c4', over, Nat.zero_le, Nat.le_refl]
    obtain ⟨L5, eL5⟩ : ∃ L5, L5 = L4 ++ [Ob.cells [v1, v2] 0 []] := ⟨_, rfl⟩
    rw [← eL5]
    have lL5 : L5.length = L4.length + 1 := by rw [eL5]; simp
    have f5 : ∀ i, i < L3.length → L5[i]? = L3[i]? := fun i hi => by rw [eL5, List.getElem?_append_left (by omega)]; exact f4 i hi
    have y5 : L5[L3.length]? = some (.cells [a0, a1, a2, .int .i64 wx, .bool sx, a5, a6, a7, a8, a9] 0 []) := by rw [eL5, List.getElem?_append_left (by omega)]; exact y4
    have z5 : L5[L4.length]? = some (.cells [v1, v2] 0 []) := by rw [eL5, gx0]; rfl
    have m5 : L5[L1.length]? = some (.cells (mC d0 d1 d2 d3 tm (.ref 1 (idOf O) 0 rv.length) s) 0 []) := by rw [f5 _ (by omega)]; exact m3
    have o5 : L5[O]? = some (.cells vals 0 []) := by rw [f5 _ (by omega)]; exact o3
    have or5 : Vm.Own (O + 1) L5 2 (.ref 2 (idOf kr) 0 1) [[u1, u2]] (some kr) := or3.keep fun k hk => by injection hk with hk; subst hk; exact f5 _ (by omega)
    have ox5 : Vm.Own (O + 1) L5 2 (.ref 2 (idOf kx) 0 1) [yx] (some kx) := ox3.keep fun k hk => by injection hk with hk; subst hk; exact f5 _ (by omega)
    obtain ⟨L6, wx0, ox6, lL6, f6⟩ := ox5.write (j := 0) (r := [z1, z2]) (by simp) rfl
    rw [Nat.zero_mul, Nat.add_zero] at wx0
    have wx' : wrX L5 kx 0 [z1, z2] L5[kx]? = some (.any, stL L6) := by rw [← writeR_ptr]; exact wx0
    refine Ev.regDX rfl (by kernel_rfl) [(4, 12), (8, 12)] (by kernel_rfl) (fun T' Z B R htr pp hp => ?_) ?_
    · have s12 : Z 12 = stL L5 := htr.at 12 (by decide) (X := fun _ S => S = stL L5) (by simp (maxSteps := 2000000) only [go_sem, Nat.reduceBEq, Nat.reduceLT, Nat.reduceAdd, Nat.reduceMul, Nat.reduceLeDiff, Nat.reduceEqDiff, decide_true, decide_false, reduceIte, and_true, true_and, i7, m5, o5, wxi, hdx, hxi, y5, z5, Nat.mul_one])
      have s13 : Z 13 = stL L5 := htr.at 13 (by decide) (X := fun _ S => S = stL L5) (by simp (maxSteps := 2000000) only [go_sem, Nat.reduceBEq, Nat.reduceLT, Nat.reduceAdd, Nat.reduceMul, Nat.reduceLeDiff, Nat.reduceEqDiff, decide_true, decide_false, reduceIte, and_true, true_and, i7, m5, o5, wxi, hdx, hxi, y5, z5, k140, Nat.mul_one])
      simp only [List.mem_cons, List.not_mem_nil, or_false] at hp
      rcases hp with rfl | rfl
      · exact LookOK.of_load rfl (by show cellsAt (Z 12) _ = cellsAt (Z 13) _; rw [s12, s13])
      · exact LookOK.of_load rfl (by show cellsAt (Z 12) _ = cellsAt (Z 13) _; rw [s12, s13])
    simp (maxSteps := 2000000) only [go_sem, Nat.reduceBEq, Nat.reduceLT, Nat.reduceAdd, Nat.reduceMul, Nat.reduceLeDiff, Nat.reduceEqDiff, decide_true, decide_false, reduceIte, and_true, true_and, i7, m5, o5, wxi, hdx, hxi, y5, z5, k140, ixx, wx', Nat.mul_one]
    have w01 : IntKind.i64.wrap ((0 : Int) + 1) = 1 := by rw [IntWalk.i64_in _ (by omega)]; omega
    refine Ev.reg' ?_
    simp (maxSteps := 2000000) only [go_sem, Nat.reduceBEq, Nat.reduceLT, Nat.reduceAdd, Nat.reduceMul, Nat.reduceLeDiff, Nat.reduceEqDiff, decide_true, decide_false, reduceIte, and_true, true_and, i57, w01]
    refine ⟨0, by omega, i0, i2, i4, i6, i7, i55, i56, .inr ⟨rfl, L6, rfl, by omega, fun i hi => ?_, ?_, or5.keep fun k hk => ?_⟩⟩
    · rw [f6 i (by omega) (.inl (by omega))]; exact f5 i (by omega)
    · have hc : L1.length ≠ kx := by omega
      rw [f6 _ hc (.inr fun c => by rw [m5]; simp)]; exact m5
    · injection hk with hk; subst hk; exact f6 _ hkx (.inr (Own.nst or5))
  · subst iS
    have nlt : ¬ ((1 : Int) < ((1 : Nat) : Int)) := by omega
    refine Ev.seq rfl (Ev.reg' ?_)
    simp (maxSteps := 2000000) only [go_sem, Nat.reduceBEq, Nat.reduceLT, Nat.reduceAdd, Nat.reduceMul, Nat.reduceLeDiff, Nat.reduceEqDiff, decide_true, decide_false, reduceIte, and_true, true_and, i56, i57, nlt]
    refine Ev.seq rfl (Ev.cond' ?_)
    simp (maxSteps := 2000000) only [go_sem, Nat.reduceBEq, Nat.reduceLT, Nat.reduceAdd, Nat.reduceMul, Nat.reduceLeDiff, Nat.reduceEqDiff, decide_true, decide_false, reduceIte, and_true, true_and]
    refine Ev.exit ?_
    simp (maxSteps := 2000000) only [go_sem, Nat.reduceBEq, Nat.reduceLT, Nat.reduceAdd, Nat.reduceMul, Nat.reduceLeDiff, Nat.reduceEqDiff, decide_true, decide_false, reduceIte, and_true, true_and]
    have hsK : K[s]? = some (cnt 0) := by rw [fK _ (by omega), f3' _ (by omega), fL2 _ (by omega), fL1 _ (by omega), fN _ hsl]; exact hs
    obtain ⟨u, L', j, h141, hC, hj⟩ := hW K L1.length _ hsK mK
    have xK : K[M.length]? = some (.cells (.str fnm :: .int .i64 ((ri + 1 : Nat) : Int) :: ins :: w) 0 []) := by rw [fK _ (by omega)]; exact x3
    have fC : ∀ i, M.length ≤ i → i < K.length → L'[i]? = K[i]? := fun i h1 h2 => hC.old i h2 (by omega)
    have xL : L'[M.length]? = some (.cells (.str fnm :: .int .i64 ((ri + 1 : Nat) : Int) :: ins :: w) 0 []) := by rw [fC _ (by omega) (by omega)]; exact xK
    have mL : L'[L1.length]? = some (.cells (mC d0 d1 d2 d3 tm (.ref 1 (idOf O) 0 rv.length) s) 0 []) := by rw [fC _ (by omega) (by omega)]; exact mK
    have oL : L'[O]? = some (.cells vals 0 []) := by rw [fC _ (by omega) (by omega), fK _ (Nat.le_refl _)]; exact o3
    have aL : L'[M.length + 1]? = some (.cells [.nils, .bool false] 0 []) := by rw [fC _ (by omega) (by omega), fK _ (by omega), f3' _ (by omega), fL2 _ (by omega), fL1 _ (by omega)]; exact n1
    obtain ⟨anc, gK⟩ := Own.get1 oK
    have gL : L'[kr]? = some (.cells [u1, u2] 0 anc) := by rw [fC _ (by omega) oK.lt]; exact gK
    refine Ev.seq rfl (Ev.reg' ?_)
    simp (maxSteps := 2000000) only [go_sem, Nat.reduceBEq, Nat.reduceLT, Nat.reduceAdd, Nat.reduceMul, Nat.reduceLeDiff, Nat.reduceEqDiff, decide_true, decide_false, reduceIte, and_true, true_and, i4, i7, xK, tkw, h141]
    have d1' := okC_cell u1c
    have hy : (L'.set (M.length + 1) (.cells [u1, u2] 0 []))[M.length + 1]? = some (.cells [u1, u2] 0 []) := List.getElem?_set_self (List.getElem?_eq_some_iff.1 aL).1
    refine Ev.seq rfl (Ev.regD0' rfl (by kernel_rfl) (by kernel_rfl) ?_)
    simp (maxSteps := 2000000) only [go_sem, Nat.reduceBEq, Nat.reduceLT, Nat.reduceAdd, Nat.reduceMul, Nat.reduceLeDiff, Nat.reduceEqDiff, decide_true, decide_false, reduceIte, and_true, true_and, i4, i6, i7, xL, mL, oL, wri, hdr, hri, ixr, gL, aL, over, Nat.zero_le, Nat.le_refl, Nat.mul_one]
    refine Ev.ret (Ret.cell rfl (v := .agg [u1, u2]) (by simp (maxSteps := 2000000) only [go_sem, Nat.reduceBEq, Nat.reduceLT, Nat.reduceAdd, Nat.reduceMul, Nat.reduceLeDiff, Nat.reduceEqDiff, decide_true, decide_false, reduceIte, and_true, true_and, i6, hy]) ?_)
    refine ⟨_, j, rfl, rfl, ⟨?_, ?_, fun i hi hn => ?_⟩, hj⟩
    · have := hC.len; simp; omega
    · rw [List.getElem?_set_ne (by omega)]; exact hC.cn
    · rw [List.getElem?_set_ne (by omega), hC.old i (by omega) hn, fK _ (by omega), f3' _ (by omega), fL2 _ (by omega), fL1 _ (by omega)]; exact fN i hi
end
end El

set_option linter.unusedVariables false
open Go Go.Vm Go.Proofs
namespace El
variable [Gl]
section
variable {Sp : SpecF} {tm vs d0 d1 d2 d3 : V}
/-- The whole of the endless call. -/
theorem endless_run {lb : V} {ls : Bool} {wd : Int} {sn : Bool} {w1 w2 e2 uv b1 b2 c1 c2 : V} (E : Env Sp lb ls wd sn w1 w2 e2 uv b1 b2 c1 c2)
    {lb' : V} {ls' : Bool} {wd' : Int} {sn' : Bool} {w1' w2' e2' uv' b1' b2' c1' c2' : V} (E' : Env Sp lb' ls' wd' sn' w1' w2' e2' uv' b1' b2' c1' c2')
    (h17 : ∀ a v, ¬ Sp 17 a v) (h42 : ∀ a v, ¬ Sp 42 a v) (h88 : ∀ a v, ¬ Sp 88 a v) (h94 : ∀ a v, ¬ Sp 94 a v) (h25 : ∀ a v, ¬ Sp 25 a v)
    (dc0 : d0.isCell = true) (dc1 : d1.isCell = true) (dc2 : d2.isCell = true) (dc3 : d3.isCell = true) (tmc : tm.isCell = true)
    {rv : List (List V)} {wss : Nat → List (List V)} (hv : rows [] 1 vs = some rv) (hlen : rv.length ≤ 1000) (hr : ∀ j r, rv[j]? = some r → RowOK Sp r (wss j))
    {cn nm : List Nat} {sg : Int} {x2 x3 av : V} {ci : Nat} {cw : Int} {cs : Bool} {r1 q1 q2 er' : V} (x2c : x2.isCell = true)
    (hav : rows [] 8 av = some [[.int .u8 1, .str nm, lb', .bool ls', .nils, .int .i64 sg, .int .i64 wd', .bool sn']])
    {fnm : List Nat} {ri xi : Nat} {ins : V} {n1 n2 nm2 : List Nat} {sg2 : Int} {x0 x1 xx2 xx3 x4 x5 x6 x7 y0 y1 y2 y3 y4 y5 y6 y7 dl ev ar bd am dc : V}
    {fr : List (List V)} (hfr : rows [] 36 d3 = some fr) (hfi : fr[ci]? = some (.str fnm :: .int .i64 ((ri + 1 : Nat) : Int) :: ins :: wC n1 n2 nm2 lb ls sg2 wd sn x0 x1 xx2 xx3 x4 x5 x6 x7 y0 y1 y2 y3 y4 y5 y6 y7 dl ev ar bd am dc)) (hci2 : ci ≤ 1000)
    {nr : List V} (hb : rows [] 33 bd = some [.int .u8 1 :: nr]) (hl : nr.length = 32)
    (hins : rows [] 1 ins = some [[.int .i64 ((xi + 1 : Nat) : Int)]]) (hri : ri < rv.length) (hxi : xi < rv.length) (hne : ri ≠ xi) (rw1 : (wss ri).length = 1) (xw1 : (wss xi).length = 1)
    {sr : List (List V)} (hsr : rows [] 10 d0 = some sr) {gr : List V} (hgr : sr[ri]? = some gr) (hgrl : gr.length = 10) {a0 a1 a2 a5 a6 a7 a8 a9 : V} {wx : Int} {sx : Bool} (hgx : sr[xi]? = some [a0, a1, a2, .int .i64 wx, .bool sx, a5, a6, a7, a8, a9])
    {u1 u2 v1 v2 er z1 z2 : V} (u1c : u1.isCell = true) (u2c : u2.isCell = true) (v1c : v1.isCell = true) (v2c : v2.isCell = true) (z1c : z1.isCell = true) (z2c : z2.isCell = true) (q1c : q1.isCell = true) (q2c : q2.isCell = true)
    (k23 : ∀ n S, callS Tryz.prog Sp n 23 [.int .u8 2, .agg gr] S = some (.agg [u1, u2], S)) (k27 : ∀ n S, callS Tryz.prog Sp n 27 [.agg [b1', b2'], .int .i64 wx] S = some (.tup [.agg [v1, v2], er], S)) (k140 : ∀ n S, callS Tryz.prog Sp n 140 [.agg [v1, v2], .bool sx] S = some (.agg [z1, z2], S))
    (k140r : ∀ n S, callS Tryz.prog Sp n 140 [.agg [u1, u2], .bool cs] S = some (r1, S)) (k27r : ∀ n S, callS Tryz.prog Sp n 27 [r1, .int .i64 cw] S = some (.tup [.agg [q1, q2], er'], S)) (n : Nat) (hn : 20010 ≤ n) :
    ∃ L', callS Tryz.prog Sp (n + 3) 17 [.agg [.int .u8 8, .str cn, x2, x3, av, .int .i64 ((ci + 1 : Nat) : Int), .int .i64 cw, .bool cs], .agg [d0, d1, d2, d3], .agg [tm, vs]] (stL []) = some (.tup [.agg [.nils, .bool false], .int .i64 15], stL L') := by
  refine expr_end rfl h17 h42 h88 dc0 dc1 dc2 dc3 tmc (rows_cell hv) (n + 2) (by omega) fun M s mi hs0 hs hm => ?_
  refine call_end E' hs hm nm cn sg hav (fc := .str fnm :: .int .i64 ((ri + 1 : Nat) : Int) :: ins :: wC n1 n2 nm2 lb ls sg2 wd sn x0 x1 xx2 xx3 x4 x5 x6 x7 y0 y1 y2 y3 y4 y5 y6 y7 dl ev ar bd am dc) rfl hfr hfi hci2 x2c u1c u2c q1c q2c k140r k27r (n + 1) (by omega) fun K p cK hp hpl => ?_
  have hml : mi < M.length := (List.getElem?_eq_some_iff.1 hm).1
  have hsm : mi ≠ s := fun e => by subst e; rw [hs] at hm; simp [mC] at hm
  have hmK : K[mi]? = some (.cells (mC d0 d1 d2 d3 tm vs s) 0 []) := by rw [cK.old mi hml hsm]; exact hm
  refine callf_run h94 h25 cK.cn hmK hp dc0 dc1 dc2 dc3 tmc hv hlen hr hins rfl hri hxi hne rw1 xw1 hsr hgr hgrl hgx u1c u2c v1c v2c z1c z2c k23 k27 k140 n (by omega) fun K' q vs' hs' hm' => ?_
  exact while_run E hs' (Nat.zero_le _) hm' n1 n2 nm2 sg2 x0 x1 xx2 xx3 x4 x5 x6 x7 y0 y1 y2 y3 y4 y5 y6 y7 dl ev ar bd am dc hb hl n hn
end
end El

