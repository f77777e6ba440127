/- A run under the evaluator, part 1: no statement of its own. -/
import Derived.Test.YtncjlehibolekaaGreatDoorVm6
import Derived.Test.YtncjlehibolekaaGreatDoorProg
import Derived.KernelRfl
set_option autoImplicit false
set_option maxRecDepth 100000
set_option linter.unusedSectionVars false
set_option linter.unusedVariables false
set_option linter.unusedSimpArgs false
open Go Go.Vm Go.Proofs
namespace Cm
variable [Gl]
@[go_sem] theorem nt28 : Tryz.f28.ntmps = 38 := (rfl)
@[go_sem] theorem fa24_1 (x : V) : opFieldAddr Tryz.prog 24 x 1 = addrAdd 1 x := by kernel_rfl
theorem isAgg4 : isAggT Tryz.prog 4 = some false := by kernel_rfl
@[go_sem] theorem ld4 (a : V) (S : St) : opLoad Tryz.prog 4 a S = hd1 (cellsAt S a) := load_cell isAgg4 a S
@[go_sem] theorem beq4 (a b : Bool) : binV Tryz.prog .eql 4 (.bool a) (.bool b) = some (.bool (a == b)) := bin_beql Tryz.underlying4 a b
@[go_sem] theorem bne4 (a b : Bool) : binV Tryz.prog .neq 4 (.bool a) (.bool b) = some (.bool (!(a == b))) := bin_bneq Tryz.underlying4 a b
@[go_sem] theorem fa24_0 (x : V) : opFieldAddr Tryz.prog 24 x 0 = addrAdd 0 x := by kernel_rfl
theorem isAgg22 : isAggT Tryz.prog 22 = some false := by kernel_rfl
@[go_sem] theorem ld22 (a : V) (S : St) : opLoad Tryz.prog 22 a S = hd1 (cellsAt S a) := load_cell isAgg22 a S
@[go_sem] theorem len22 {call : CallF} {t : Tm} {S : St} {d : Option Nat} {ty : TypeId} {pos : String} {af : Array Edge} {g : Option (Nat × Bool)} {x : Operand} : evOp Tryz.prog call ⟨d, .call ⟨.builtin .len, #[x], #[22]⟩, ty, pos, af, g⟩ t S = lenR (lenOf (opd t x)) S := e_lenSl Tryz.underlying22
@[go_sem] theorem sz73 : szT Tryz.prog 73 = some 1 := by kernel_rfl
@[go_sem] theorem ia22 (x i : V) : opIndexAddr Tryz.prog 22 x i = idxAddr 1 x i := indexAddr_eq Tryz.underlying22 sz73 x i
theorem isAgg73 : isAggT Tryz.prog 73 = some false := by kernel_rfl
@[go_sem] theorem ld73 (a : V) (S : St) : opLoad Tryz.prog 73 a S = hd1 (cellsAt S a) := load_cell isAgg73 a S
@[go_sem] theorem nt14 : Tryz.f14.ntmps = 34 := (rfl)
@[go_sem] theorem fa27_3 (x : V) : opFieldAddr Tryz.prog 27 x 3 = addrAdd 4 x := by kernel_rfl
theorem isAgg25 : isAggT Tryz.prog 25 = some false := by kernel_rfl
@[go_sem] theorem ld25 (a : V) (S : St) : opLoad Tryz.prog 25 a S = hd1 (cellsAt S a) := load_cell isAgg25 a S
@[go_sem] theorem len25 {call : CallF} {t : Tm} {S : St} {d : Option Nat} {ty : TypeId} {pos : String} {af : Array Edge} {g : Option (Nat × Bool)} {x : Operand} : evOp Tryz.prog call ⟨d, .call ⟨.builtin .len, #[x], #[25]⟩, ty, pos, af, g⟩ t S = lenR (lenOf (opd t x)) S := e_lenSl Tryz.underlying25
@[go_sem] theorem sz27 : szT Tryz.prog 27 = some 8 := by kernel_rfl
@[go_sem] theorem ia25 (x i : V) : opIndexAddr Tryz.prog 25 x i = idxAddr 8 x i := indexAddr_eq Tryz.underlying25 sz27 x i
theorem isAgg27 : isAggT Tryz.prog 27 = some true := by kernel_rfl
theorem cells27 : Tryz.prog.cellsOf 27 = 8 := by kernel_rfl
@[go_sem] theorem ld27 (a : V) (S : St) : opLoad Tryz.prog 27 a S = takeN 8 (cellsAt S a) := load_agg isAgg27 cells27 a S
@[go_sem] theorem nt15 : Tryz.f15.ntmps = 28 := (rfl)
@[go_sem] theorem fa27_1 (x : V) : opFieldAddr Tryz.prog 27 x 1 = addrAdd 1 x := by kernel_rfl
theorem isAgg9 : isAggT Tryz.prog 9 = some false := by kernel_rfl
@[go_sem] theorem ld9 (a : V) (S : St) : opLoad Tryz.prog 9 a S = hd1 (cellsAt S a) := load_cell isAgg9 a S
@[go_sem] theorem len9 {call : CallF} {t : Tm} {S : St} {d : Option Nat} {ty : TypeId} {pos : String} {af : Array Edge} {g : Option (Nat × Bool)} {x : Operand} : evOp Tryz.prog call ⟨d, .call ⟨.builtin .len, #[x], #[9]⟩, ty, pos, af, g⟩ t S = lenR (lenStr (opd t x)) S := e_lenStr Tryz.underlying9
@[go_sem] theorem fa27_2 (x : V) : opFieldAddr Tryz.prog 27 x 2 = addrAdd 2 x := by kernel_rfl
@[go_sem] theorem nt5 : Tryz.f5.ntmps = 33 := (rfl)
@[go_sem] theorem nt6 : Tryz.f6.ntmps = 30 := (rfl)
@[go_sem] theorem len28 {call : CallF} {t : Tm} {S : St} {d : Option Nat} {ty : TypeId} {pos : String} {af : Array Edge} {g : Option (Nat × Bool)} {x : Operand} : evOp Tryz.prog call ⟨d, .call ⟨.builtin .len, #[x], #[28]⟩, ty, pos, af, g⟩ t S = lenR (lenOf (opd t x)) S := e_lenSl Tryz.underlying28
@[go_sem] theorem sz46 : szT Tryz.prog 46 = some 3 := by kernel_rfl
@[go_sem] theorem ia28 (x i : V) : opIndexAddr Tryz.prog 28 x i = idxAddr 3 x i := indexAddr_eq Tryz.underlying28 sz46 x i
@[go_sem] theorem fa46_0 (x : V) : opFieldAddr Tryz.prog 46 x 0 = addrAdd 0 x := by kernel_rfl
@[go_sem] theorem fa46_1 (x : V) : opFieldAddr Tryz.prog 46 x 1 = addrAdd 1 x := by kernel_rfl
@[go_sem] theorem nt8 : Tryz.f8.ntmps = 36 := (rfl)
@[go_sem] theorem zero73 : zeroOf Tryz.prog 73 = some [.int .u8 0] := by kernel_rfl
@[go_sem] theorem bs22 {call : CallF} {t : Tm} {S : St} {d : Option Nat} {ty : TypeId} {pos : String} {af : Array Edge} {g : Option (Nat × Bool)} {m : Nat} {ps : Array (Nat × Operand)} : evOp Tryz.prog call ⟨d, .buildSlice 22 m ps, ty, pos, af, g⟩ t S = buildS (zeroOf Tryz.prog 73) (szT Tryz.prog 73) m t ps.toList S := e_buildSlice Tryz.underlying22
@[go_sem] theorem ap22_22 {call : CallF} {t : Tm} {S : St} {d : Option Nat} {ty : TypeId} {pos : String} {af : Array Edge} {g : Option (Nat × Bool)} {x y : Operand} : evOp Tryz.prog call ⟨d, .call ⟨.builtin .append, #[x, y], #[22, 22]⟩, ty, pos, af, g⟩ t S = opAppend2 Tryz.prog 22 (opd t x) (opd t y) S := e_append Tryz.underlying22
theorem bytes73 : decide (Tryz.prog.bytesOf 73 ≤ 2 ^ 16 ∧ (zeroOf Tryz.prog 73).map List.length = some 1) = true := by kernel_rfl
@[go_sem] theorem zero24 : zeroOf Tryz.prog 24 = some [.nils, .bool false] := by kernel_rfl
@[go_sem] theorem pl24 : placesOf Tryz.prog 24 = some (plL [(0, 1), (1, 1)]) := by kernel_rfl
@[go_sem] theorem zero66 : zeroOf Tryz.prog 66 = some [.str [], .nils, .bool false] := by kernel_rfl
@[go_sem] theorem pl66 : placesOf Tryz.prog 66 = some (plL [(0, 1), (1, 2)]) := by kernel_rfl
@[go_sem] theorem sz66 : szT Tryz.prog 66 = some 3 := by kernel_rfl
@[go_sem] theorem bs32 {call : CallF} {t : Tm} {S : St} {d : Option Nat} {ty : TypeId} {pos : String} {af : Array Edge} {g : Option (Nat × Bool)} {m : Nat} {ps : Array (Nat × Operand)} : evOp Tryz.prog call ⟨d, .buildSlice 32 m ps, ty, pos, af, g⟩ t S = buildS (zeroOf Tryz.prog 66) (szT Tryz.prog 66) m t ps.toList S := e_buildSlice Tryz.underlying32
@[go_sem] theorem ap32_32 {call : CallF} {t : Tm} {S : St} {d : Option Nat} {ty : TypeId} {pos : String} {af : Array Edge} {g : Option (Nat × Bool)} {x y : Operand} : evOp Tryz.prog call ⟨d, .call ⟨.builtin .append, #[x, y], #[32, 32]⟩, ty, pos, af, g⟩ t S = opAppend2 Tryz.prog 32 (opd t x) (opd t y) S := e_append Tryz.underlying32
theorem bytes66 : decide (Tryz.prog.bytesOf 66 ≤ 2 ^ 16 ∧ (zeroOf Tryz.prog 66).map List.length = some 3) = true := by kernel_rfl
@[go_sem] theorem nt11 : Tryz.f11.ntmps = 9 := (rfl)
@[go_sem] theorem zero27 : zeroOf Tryz.prog 27 = some [.int .u8 0, .str [], .nils, .bool false, .nils, .int .i64 0, .int .i64 0, .bool false] := by kernel_rfl
@[go_sem] theorem st27 (a x : V) (S : St) : opStore Tryz.prog 27 a x S = stA 8 a x S := store_agg isAgg27 cells27 a x S
@[go_sem] theorem nt27 : Tryz.f27.ntmps = 19 := (rfl)
@[go_sem] theorem zero103 : zeroOf Tryz.prog 103 = some [.nilm] := by kernel_rfl
theorem cells103 : Tryz.prog.cellsOf 103 = 1 := by kernel_rfl
theorem isAgg103 : isAggT Tryz.prog 103 = some false := by kernel_rfl
@[go_sem] theorem st103 (a x : V) (S : St) : opStore Tryz.prog 103 a x S = stC a x S := store_cell isAgg103 cells103 a x S
theorem cells66 : Tryz.prog.cellsOf 66 = 3 := by kernel_rfl
theorem isAgg66 : isAggT Tryz.prog 66 = some true := by kernel_rfl
@[go_sem] theorem st66 (a x : V) (S : St) : opStore Tryz.prog 66 a x S = stA 3 a x S := store_agg isAgg66 cells66 a x S
@[go_sem] theorem ld103 (a : V) (S : St) : opLoad Tryz.prog 103 a S = hd1 (cellsAt S a) := load_cell isAgg103 a S
@[go_sem] theorem fa66_0 (x : V) : opFieldAddr Tryz.prog 66 x 0 = addrAdd 0 x := by kernel_rfl
@[go_sem] theorem fa66_1 (x : V) : opFieldAddr Tryz.prog 66 x 1 = addrAdd 1 x := by kernel_rfl
theorem isAgg24 : isAggT Tryz.prog 24 = some true := by kernel_rfl
theorem cells24 : Tryz.prog.cellsOf 24 = 2 := by kernel_rfl
@[go_sem] theorem ld24 (a : V) (S : St) : opLoad Tryz.prog 24 a S = takeN 2 (cellsAt S a) := load_agg isAgg24 cells24 a S
@[go_sem] theorem zero70 : zeroOf Tryz.prog 70 = some [.nilf] := by kernel_rfl
theorem cells70 : Tryz.prog.cellsOf 70 = 1 := by kernel_rfl
theorem isAgg70 : isAggT Tryz.prog 70 = some false := by kernel_rfl
@[go_sem] theorem st70 (a x : V) (S : St) : opStore Tryz.prog 70 a x S = stC a x S := store_cell isAgg70 cells70 a x S
@[go_sem] theorem ld70 (a : V) (S : St) : opLoad Tryz.prog 70 a S = hd1 (cellsAt S a) := load_cell isAgg70 a S
@[go_sem] theorem nt45 : Tryz.f45.ntmps = 4 := (rfl)
@[go_sem] theorem nt46 : Tryz.f46.ntmps = 33 := (rfl)
@[go_sem] theorem st24 (a x : V) (S : St) : opStore Tryz.prog 24 a x S = stA 2 a x S := store_agg isAgg24 cells24 a x S
@[go_sem] theorem fa27_0 (x : V) : opFieldAddr Tryz.prog 27 x 0 = addrAdd 0 x := by kernel_rfl
theorem isAgg5 : isAggT Tryz.prog 5 = some false := by kernel_rfl
@[go_sem] theorem ld5 (a : V) (S : St) : opLoad Tryz.prog 5 a S = hd1 (cellsAt S a) := load_cell isAgg5 a S
@[go_sem] theorem pl27 : placesOf Tryz.prog 27 = some (plL [(0, 1), (1, 1), (2, 2), (4, 1), (5, 1), (6, 1), (7, 1)]) := by kernel_rfl
theorem cells25 : Tryz.prog.cellsOf 25 = 1 := by kernel_rfl
@[go_sem] theorem st25 (a x : V) (S : St) : opStore Tryz.prog 25 a x S = stC a x S := store_cell isAgg25 cells25 a x S
@[go_sem] theorem nt40 : Tryz.f40.ntmps = 26 := (rfl)
@[go_sem] theorem nt47 : Tryz.f47.ntmps = 9 := (rfl)
@[go_sem] theorem nt85 : Tryz.f85.ntmps = 8 := (rfl)
@[go_sem] theorem bnil22 (x : V) : binV Tryz.prog .eql 22 x .nils = (isNils x).map V.bool := bin_nils Tryz.underlying22 x
@[go_sem] theorem nt12 : Tryz.f12.ntmps = 75 := (rfl)
@[go_sem] theorem fa27_4 (x : V) : opFieldAddr Tryz.prog 27 x 4 = addrAdd 5 x := by kernel_rfl
theorem isAgg3 : isAggT Tryz.prog 3 = some false := by kernel_rfl
@[go_sem] theorem ld3 (a : V) (S : St) : opLoad Tryz.prog 3 a S = hd1 (cellsAt S a) := load_cell isAgg3 a S
@[go_sem] theorem fa27_5 (x : V) : opFieldAddr Tryz.prog 27 x 5 = addrAdd 6 x := by kernel_rfl
@[go_sem] theorem fa27_6 (x : V) : opFieldAddr Tryz.prog 27 x 6 = addrAdd 7 x := by kernel_rfl
@[go_sem] theorem nt4 : Tryz.f4.ntmps = 42 := (rfl)
@[go_sem] theorem bs25 {call : CallF} {t : Tm} {S : St} {d : Option Nat} {ty : TypeId} {pos : String} {af : Array Edge} {g : Option (Nat × Bool)} {m : Nat} {ps : Array (Nat × Operand)} : evOp Tryz.prog call ⟨d, .buildSlice 25 m ps, ty, pos, af, g⟩ t S = buildS (zeroOf Tryz.prog 27) (szT Tryz.prog 27) m t ps.toList S := e_buildSlice Tryz.underlying25
end Cm

set_option linter.unusedVariables false
open Go Go.Vm Go.Proofs
namespace Cm
variable [Gl]
abbrev bitC (b : Nat) : List V := [.int .u8 (b : Int)]
section
variable {memo : Memo} {l : List Ob}
theorem same_run (hm : memo 28 = none) {vb wb : V} {bits : List Nat} {s : Bool} (h1 : rows l 1 vb = some (bits.map bitC)) (h2 : rows l 1 wb = some (bits.map bitC)) (hb : bits.length < 4611686018427387904) (n : Nat) (hn : bits.length + 2 ≤ n) :
    ∃ g, callN Tryz.prog (memoBase memo) (drawOK Tryz.prog) n 28 [.agg [vb, .bool s], .agg [wb, .bool s]] (stL l) = some (.bool true, stL (l ++ g)) := by
  obtain ⟨n, rfl⟩ : ∃ m, n = m + 1 := ⟨n - 1, by omega⟩
  suffices hs : ∃ v S', callN Tryz.prog (memoBase memo) (drawOK Tryz.prog) (n + 1) 28 [.agg [vb, .bool s], .agg [wb, .bool s]] (stL l) = some (v, S') ∧ (v = .bool true ∧ ∃ g, S' = stL (l ++ g)) by
    obtain ⟨v, S', h, rfl, g, rfl⟩ := hs; exact ⟨g, h⟩
  refine run_fn hm Tryz.func28 rfl (by simp [Tryz.f28]) ?_
  have c1 := rows_cell h1
  have c2 := rows_cell h2
  have l1 := rows_len h1
  have l2 := rows_len h2
  refine Ev.seq rfl (Ev.reg' ?_)
  generalize hK : (onNorm _ _) = K
  simp (maxSteps := 2000000) only [go_sem, Nat.reduceBEq, Nat.reduceLT, Nat.reduceAdd, Nat.reduceMul, Nat.reduceLeDiff, Nat.reduceEqDiff, decide_true, decide_false, reduceIte, and_true, true_and]
  subst hK
  rw [onNorm_norm]
  refine Ev.seq rfl (Ev.seq rfl (Ev.reg' ?_))
  generalize hK : (onNorm _ _) = K
  simp (maxSteps := 2000000) only [go_sem, Nat.reduceBEq, Nat.reduceLT, Nat.reduceAdd, Nat.reduceMul, Nat.reduceLeDiff, Nat.reduceEqDiff, decide_true, decide_false, reduceIte, and_true, true_and, BEq.rfl, Bool.not_true, l1, l2, bne_self_eq_false]
  subst hK
  rw [onNorm_norm]
  refine Ev.cond' ?_
  simp (maxSteps := 2000000) only [go_sem, Nat.reduceBEq, Nat.reduceLT, Nat.reduceAdd, Nat.reduceMul, Nat.reduceLeDiff, Nat.reduceEqDiff, decide_true, decide_false, reduceIte, and_true, true_and]
  refine Ev.skip ?_
  rw [onNorm_norm]
  refine Ev.seq rfl (Ev.seq rfl (Ev.reg' ?_))
  simp (maxSteps := 2000000) only [go_sem, Nat.reduceBEq, Nat.reduceLT, Nat.reduceAdd, Nat.reduceMul, Nat.reduceLeDiff, Nat.reduceEqDiff, decide_true, decide_false, reduceIte, and_true, true_and]
  refine Ev.block (Ev.loop (fun k t S => t 2 = .ptr (idOf l.length) 0 ∧ t 3 = .ptr (idOf (l.length + 1)) 0 ∧ S = stL (l ++ [.cells [vb, .bool s] 0 [], .cells [wb, .bool s] 0 []]) ∧ ∃ j : Nat, t 5 = .int .i64 (j : Int) ∧ j + k = bits.length) bits.length (by omega) ?_ ?_)
  · simp (maxSteps := 2000000) only [go_sem, Nat.reduceBEq, Nat.reduceLT, Nat.reduceAdd, Nat.reduceMul, Nat.reduceLeDiff, Nat.reduceEqDiff, decide_true, decide_false, reduceIte, and_true, true_and]
    exact ⟨0, rfl, by omega⟩
  intro k t S ⟨i2, i3, iS, j, i5, hjk⟩
  subst iS
  refine Ev.seq rfl (Ev.seq rfl (Ev.reg' ?_))
  simp (maxSteps := 2000000) only [go_sem, Nat.reduceBEq, Nat.reduceLT, Nat.reduceAdd, Nat.reduceMul, Nat.reduceLeDiff, Nat.reduceEqDiff, decide_true, decide_false, reduceIte, and_true, true_and, i2, i3, i5, l1, l2]
  refine Ev.cond' ?_
  simp (maxSteps := 2000000) only [go_sem, Nat.reduceBEq, Nat.reduceLT, Nat.reduceAdd, Nat.reduceMul, Nat.reduceLeDiff, Nat.reduceEqDiff, decide_true, decide_false, reduceIte, and_true, true_and]
  by_cases hj : (j : Int) < (bits.length : Int)
  rotate_left
  · simp only [hj, decide_false, wpC_false]
    refine Ev.exit ?_
    simp (maxSteps := 2000000) only [go_sem, Nat.reduceBEq, Nat.reduceLT, Nat.reduceAdd, Nat.reduceMul, Nat.reduceLeDiff, Nat.reduceEqDiff, decide_true, decide_false, reduceIte, and_true, true_and]
    refine Ev.seq rfl (Ev.reg' ?_)
    simp (maxSteps := 2000000) only [go_sem, Nat.reduceBEq, Nat.reduceLT, Nat.reduceAdd, Nat.reduceMul, Nat.reduceLeDiff, Nat.reduceEqDiff, decide_true, decide_false, reduceIte, and_true, true_and]
    refine Ev.ret (Ret.tmp rfl ?_)
    simp (maxSteps := 2000000) only [go_sem, Nat.reduceBEq, Nat.reduceLT, Nat.reduceAdd, Nat.reduceMul, Nat.reduceLeDiff, Nat.reduceEqDiff, decide_true, decide_false, reduceIte, and_true, true_and]
    exact ⟨_, rfl⟩
  have hj' : j < bits.length := by exact_mod_cast hj
  have hx : (bits.map bitC)[j]? = some [.int .u8 (bits[j] : Int)] := by simp [hj']
  obtain ⟨a, ra, ha1, ha2⟩ := rows_idx (rows_app (g := [.cells [vb, .bool s] 0 [], .cells [wb, .bool s] 0 []]) h1) hx .i64
  obtain ⟨b, rb, hb1, hb2⟩ := rows_idx (rows_app (g := [.cells [vb, .bool s] 0 [], .cells [wb, .bool s] 0 []]) h2) hx .i64
  simp only [hj, decide_true, wpC_true]
  refine Ev.skip ?_
  simp (maxSteps := 2000000) only [go_sem, Nat.reduceBEq, Nat.reduceLT, Nat.reduceAdd, Nat.reduceMul, Nat.reduceLeDiff, Nat.reduceEqDiff, decide_true, decide_false, reduceIte, and_true, true_and]
  refine Ev.seq rfl (Ev.block (Ev.seq rfl (Ev.regD0' rfl (by kernel_rfl) (by kernel_rfl) ?_)))
  simp (maxSteps := 2000000) only [go_sem, Nat.reduceBEq, Nat.reduceLT, Nat.reduceAdd, Nat.reduceMul, Nat.reduceLeDiff, Nat.reduceEqDiff, decide_true, decide_false, reduceIte, and_true, true_and, i2, i3, i5, ha1, ha2, hb1, hb2, hd1_app, bne_self_eq_false]
  refine Ev.cond' ?_
  simp (maxSteps := 2000000) only [go_sem, Nat.reduceBEq, Nat.reduceLT, Nat.reduceAdd, Nat.reduceMul, Nat.reduceLeDiff, Nat.reduceEqDiff, decide_true, decide_false, reduceIte, and_true, true_and]
  refine Ev.skip ?_
  simp (maxSteps := 2000000) only [go_sem, Nat.reduceBEq, Nat.reduceLT, Nat.reduceAdd, Nat.reduceMul, Nat.reduceLeDiff, Nat.reduceEqDiff, decide_true, decide_false, reduceIte, and_true, true_and]
  refine Ev.reg' ?_
  simp (maxSteps := 2000000) only [go_sem, Nat.reduceBEq, Nat.reduceLT, Nat.reduceAdd, Nat.reduceMul, Nat.reduceLeDiff, Nat.reduceEqDiff, decide_true, decide_false, reduceIte, and_true, true_and, i2, i3, i5]
  exact ⟨k - 1, by omega, j + 1, by rw [IntWalk.i64_in _ (by omega)]; rfl, by omega⟩
end
end Cm

set_option linter.unusedVariables false
open Go Go.Vm Go.Proofs
namespace Cm
variable [Gl]
/-- An expression. -/
inductive Ex where
  | mk (op : Nat) (name : List Nat) (bits : List Nat) (vs : Bool) (args : List Ex) (sig wid : Int) (sg : Bool)
mutual
def nodes : Ex → Nat
  | .mk _ _ bits _ args _ _ _ => 1 + nodesL args
def nodesL : List Ex → Nat
  | [] => 0
  | x :: r => nodes x + nodesL r
end
mutual
def depth : Ex → Nat
  | .mk _ _ _ _ args _ _ _ => depthL args + 1
def depthL : List Ex → Nat
  | [] => 0
  | x :: r => max (depth x) (depthL r)
end
mutual
/-- All that is counted. -/
def bulk : Ex → Nat
  | .mk _ name bits _ args _ _ _ => 4 + name.length + bits.length + bulkL args
def bulkL : List Ex → Nat
  | [] => 0
  | x :: r => 1 + bulk x + bulkL r
end
mutual
def RdE (l : List Ob) : Ex → List V → Prop
  | .mk op name bits vs args sig wid sg, cs => ∃ vb va rs, cs = [.int .u8 (op : Int), .str name, vb, .bool vs, va, .int .i64 sig, .int .i64 wid, .bool sg] ∧ rows l 1 vb = some (bits.map bitC) ∧ rows l 8 va = some rs ∧ RdL l args rs
def RdL (l : List Ob) : List Ex → List (List V) → Prop
  | [], rs => rs = []
  | x :: r, rs => ∃ c q, rs = c :: q ∧ RdE l x c ∧ RdL l r q
end
mutual
theorem RdE.app {l g : List Ob} : ∀ {x : Ex} {c : List V}, RdE l x c → RdE (l ++ g) x c
  | .mk op name bits vs args sig wid sg, c, h => by
    obtain ⟨vb, va, rs, h1, h2, h3, h4⟩ := h
    exact ⟨vb, va, rs, h1, rows_app h2, rows_app h3, RdL.app h4⟩
theorem RdL.app {l g : List Ob} : ∀ {x : List Ex} {c : List (List V)}, RdL l x c → RdL (l ++ g) x c
  | [], c, h => h
  | x :: r, c, h => by
    obtain ⟨d, q, h1, h2, h3⟩ := h
    exact ⟨d, q, h1, RdE.app h2, RdL.app h3⟩
end
theorem RdE.len {l : List Ob} : ∀ {x : Ex} {c : List V}, RdE l x c → c.length = 8
  | .mk .., c, ⟨vb, va, rs, h1, _⟩ => by subst h1; rfl
theorem RdL.len {l : List Ob} : ∀ {xs : List Ex} {rs : List (List V)}, RdL l xs rs → rs.length = xs.length
  | [], rs, h => by have h : rs = [] := h; subst h; rfl
  | x :: r, rs, ⟨c, q, h1, h2, h3⟩ => by subst h1; simp [RdL.len h3]
theorem RdL.get {l : List Ob} : ∀ {xs : List Ex} {rs : List (List V)}, RdL l xs rs → ∀ {j : Nat} {x : Ex}, xs[j]? = some x → ∃ c, rs[j]? = some c ∧ RdE l x c
  | [], rs, h, j, x, hx => by simp at hx
  | y :: r, rs, ⟨c, q, h1, h2, h3⟩, j, x, hx => by
    subst h1
    cases j with
    | zero => simp at hx; subst hx; exact ⟨c, rfl, h2⟩
    | succ j => simpa using RdL.get h3 (by simpa using hx)
theorem nodesL_get : ∀ {xs : List Ex} {j : Nat} {x : Ex}, xs[j]? = some x → nodes x ≤ nodesL xs
  | [], j, x, h => by simp at h
  | y :: r, j, x, h => by
    cases j with
    | zero => simp at h; subst h; simp [nodesL]
    | succ j => have := nodesL_get (xs := r) (j := j) (x := x) (by simpa using h); simp only [nodesL]; omega
theorem nodes_pos : ∀ (x : Ex), 1 ≤ nodes x
  | .mk .. => by simp only [nodes]; omega
theorem nodesL_len : ∀ (xs : List Ex), xs.length ≤ nodesL xs
  | [] => Nat.le_refl _
  | x :: r => by have := nodesL_len r; have := nodes_pos x; simp only [nodesL, List.length_cons]; omega
mutual
theorem depth_le : ∀ (x : Ex), depth x ≤ nodes x
  | .mk _ _ _ _ args _ _ _ => by have := depthL_le args; simp only [depth, nodes]; omega
theorem depthL_le : ∀ (xs : List Ex), depthL xs ≤ nodesL xs
  | [] => Nat.le_refl _
  | x :: r => by have := depth_le x; have := depthL_le r; simp only [depthL, nodesL]; omega
end
/-- The first j. -/
theorem nodesL_take : ∀ {xs : List Ex} {j : Nat} {x : Ex}, xs[j]? = some x → nodesL (xs.take (j + 1)) = nodesL (xs.take j) + nodes x
  | [], j, x, h => by simp at h
  | y :: r, j, x, h => by
    cases j with
    | zero => simp at h; subst h; simp [nodesL]
    | succ j => have := nodesL_take (xs := r) (j := j) (x := x) (by simpa using h); simp only [List.take_succ_cons, nodesL] at this ⊢; omega
theorem depthL_take : ∀ {xs : List Ex} {j : Nat} {x : Ex}, xs[j]? = some x → depthL (xs.take (j + 1)) = max (depthL (xs.take j)) (depth x)
  | [], j, x, h => by simp at h
  | y :: r, j, x, h => by
    cases j with
    | zero => simp at h; subst h; simp [depthL]
    | succ j => have := depthL_take (xs := r) (j := j) (x := x) (by simpa using h); simp only [List.take_succ_cons, depthL] at this ⊢; omega
theorem nodesL_take_le : ∀ (xs : List Ex) (j : Nat), nodesL (xs.take j) ≤ nodesL xs
  | [], j => by simp
  | x :: r, 0 => by simp [nodesL]
  | x :: r, j + 1 => by have := nodesL_take_le r j; simp only [List.take_succ_cons, nodesL]; omega
theorem depthL_take_le : ∀ (xs : List Ex) (j : Nat), depthL (xs.take j) ≤ depthL xs
  | [], j => by simp
  | x :: r, 0 => by simp [depthL]
  | x :: r, j + 1 => by have := depthL_take_le r j; simp only [List.take_succ_cons, depthL]; omega

theorem size_run {memo : Memo} (hm : memo 14 = none) : ∀ (N : Nat) (x : Ex), nodes x ≤ N → ∀ (l : List Ob) (c : List V), RdE l x c → nodes x < 4611686018427387904 → ∀ (n : Nat), nodes x + 2 ≤ n →
    ∃ g, callN Tryz.prog (memoBase memo) (drawOK Tryz.prog) n 14 [.agg c] (stL l) = some (.tup [.int .i64 (nodes x : Int), .int .i64 (depth x : Int)], stL (l ++ g))
  | 0, x, hN => by have := nodes_pos x; omega
  | N + 1, .mk op name bits vs args sig wid sg, hN => by
    intro l c hx hbd n hn
    obtain ⟨n, rfl⟩ : ∃ m, n = m + 1 := ⟨n - 1, by omega⟩
    obtain ⟨vb, va, rs, rfl, hvb, hva, hrs⟩ := hx
    have hnL : nodes (.mk op name bits vs args sig wid sg) = 1 + nodesL args := by simp only [nodes]
    have hdL : depth (.mk op name bits vs args sig wid sg) = depthL args + 1 := by simp only [depth]
    have hal := nodesL_len args
    generalize hcs : ([.int .u8 (op : Int), .str name, vb, .bool vs, va, .int .i64 sig, .int .i64 wid, .bool sg] : List V) = cs
    suffices hs : ∃ v S', callN Tryz.prog (memoBase memo) (drawOK Tryz.prog) (n + 1) 14 [.agg cs] (stL l) = some (v, S') ∧ (v = .tup [.int .i64 (nodes (.mk op name bits vs args sig wid sg) : Int), .int .i64 (depth (.mk op name bits vs args sig wid sg) : Int)] ∧ ∃ g, S' = stL (l ++ g)) by
      obtain ⟨v, S', h, rfl, g, rfl⟩ := hs; exact ⟨g, h⟩
    refine run_fn hm Tryz.func14 rfl (by simp [Tryz.f14]) ?_
    have l1 := rows_len hva
    rw [hrs.len] at l1
    refine Ev.seq rfl (Ev.reg' ?_)
    simp (maxSteps := 2000000) only [go_sem, Nat.reduceBEq, Nat.reduceLT, Nat.reduceAdd, Nat.reduceMul, Nat.reduceLeDiff, Nat.reduceEqDiff, decide_true, decide_false, reduceIte, and_true, true_and]
    refine Ev.seq rfl (Ev.reg' ?_)
    simp (maxSteps := 2000000) only [go_sem, Nat.reduceBEq, Nat.reduceLT, Nat.reduceAdd, Nat.reduceMul, Nat.reduceLeDiff, Nat.reduceEqDiff, decide_true, decide_false, reduceIte, and_true, true_and]
    refine Ev.seq rfl (Ev.seq rfl (Ev.reg' ?_))
    simp (maxSteps := 2000000) only [go_sem, Nat.reduceBEq, Nat.reduceLT, Nat.reduceAdd, Nat.reduceMul, Nat.reduceLeDiff, Nat.reduceEqDiff, decide_true, decide_false, reduceIte, and_true, true_and]
    refine Ev.block (Ev.loop (fun k t S => t 1 = .ptr (idOf l.length) 0 ∧ (∃ g, S = stL (l ++ .cells cs 0 [] :: g)) ∧ ∃ j : Nat, t 6 = .int .i64 (j : Int) ∧ t 4 = .int .i64 ((1 + nodesL (args.take j) : Nat) : Int) ∧ t 5 = .int .i64 (depthL (args.take j) : Int) ∧ j + k = args.length) args.length (by omega) ?_ ?_)
    · simp (maxSteps := 2000000) only [go_sem, Nat.reduceBEq, Nat.reduceLT, Nat.reduceAdd, Nat.reduceMul, Nat.reduceLeDiff, Nat.reduceEqDiff, decide_true, decide_false, reduceIte, and_true, true_and]
      exact ⟨⟨[], rfl⟩, 0, rfl, rfl, rfl, by omega⟩
    intro k t S ⟨i1, ⟨g, iS⟩, j, i6, i4, i5, hjk⟩
    subst iS
    refine Ev.seq rfl (Ev.seq rfl (Ev.reg' ?_))
    simp (maxSteps := 2000000) only [go_sem, Nat.reduceBEq, Nat.reduceLT, Nat.reduceAdd, Nat.reduceMul, Nat.reduceLeDiff, Nat.reduceEqDiff, decide_true, decide_false, reduceIte, and_true, true_and, i1, i6, ← hcs, l1]
    refine Ev.cond' ?_
    simp (maxSteps := 2000000) only [go_sem, Nat.reduceBEq, Nat.reduceLT, Nat.reduceAdd, Nat.reduceMul, Nat.reduceLeDiff, Nat.reduceEqDiff, decide_true, decide_false, reduceIte, and_true, true_and]
    by_cases hj : (j : Int) < (args.length : Int)
    rotate_left
    · have hj' : ¬ j < args.length := fun h => hj (by exact_mod_cast h)
      simp only [hj, decide_false, wpC_false]
      refine Ev.exit ?_
      simp (maxSteps := 2000000) only [go_sem, Nat.reduceBEq, Nat.reduceLT, Nat.reduceAdd, Nat.reduceMul, Nat.reduceLeDiff, Nat.reduceEqDiff, decide_true, decide_false, reduceIte, and_true, true_and]
      refine Ev.seq rfl (Ev.reg' ?_)
      simp (maxSteps := 2000000) only [go_sem, Nat.reduceBEq, Nat.reduceLT, Nat.reduceAdd, Nat.reduceMul, Nat.reduceLeDiff, Nat.reduceEqDiff, decide_true, decide_false, reduceIte, and_true, true_and, i4, i5]
      refine Ev.ret (Ret.tmp2 rfl ?_)
      have e : args.take j = args := List.take_of_length_le (by omega)
      have := depthL_le args
      simp (maxSteps := 2000000) only [go_sem, Nat.reduceBEq, Nat.reduceLT, Nat.reduceAdd, Nat.reduceMul, Nat.reduceLeDiff, Nat.reduceEqDiff, decide_true, decide_false, reduceIte, and_true, true_and, e, hnL, hdL]
      rw [IntWalk.i64_in _ (by omega)]
      exact ⟨rfl, _, rfl⟩
    have hj' : j < args.length := by exact_mod_cast hj
    obtain ⟨y, hy⟩ : ∃ y, args[j]? = some y := ⟨args[j], List.getElem?_eq_getElem hj'⟩
    obtain ⟨cy, hcy, hry⟩ := hrs.get hy
    obtain ⟨a, ra, ha1, ha2⟩ := rows_idx (rows_app (g := .cells cs 0 [] :: g) hva) hcy .i64
    have hyn := nodesL_get hy
    obtain ⟨g2, hcall⟩ := size_run hm N y (by omega) (l ++ .cells cs 0 [] :: g) cy hry.app (by omega) n (by omega)
    have ht1 := nodesL_take hy
    have ht2 := depthL_take hy
    have ht3 := nodesL_take_le args (j + 1)
    simp only [hj, decide_true, wpC_true]
    refine Ev.skip ?_
    simp (maxSteps := 2000000) only [go_sem, Nat.reduceBEq, Nat.reduceLT, Nat.reduceAdd, Nat.reduceMul, Nat.reduceLeDiff, Nat.reduceEqDiff, decide_true, decide_false, reduceIte, and_true, true_and]
    refine Ev.seq rfl (Ev.block (Ev.seq rfl (Ev.reg' ?_)))
    simp (maxSteps := 2000000) only [go_sem, Nat.reduceBEq, Nat.reduceLT, Nat.reduceAdd, Nat.reduceMul, Nat.reduceLeDiff, Nat.reduceEqDiff, decide_true, decide_false, reduceIte, and_true, true_and, i1, i6, ← hcs, ha1]
    rw [hcs]
    simp (maxSteps := 2000000) only [go_sem, Nat.reduceBEq, Nat.reduceLT, Nat.reduceAdd, Nat.reduceMul, Nat.reduceLeDiff, Nat.reduceEqDiff, decide_true, decide_false, reduceIte, and_true, true_and, ha2, takeN_app hry.len, hcall]
    refine Ev.reg' ?_
    simp (maxSteps := 2000000) only [go_sem, Nat.reduceBEq, Nat.reduceLT, Nat.reduceAdd, Nat.reduceMul, Nat.reduceLeDiff, Nat.reduceEqDiff, decide_true, decide_false, reduceIte, and_true, true_and, i4, i5]
    refine Ev.reg' ?_
    simp (maxSteps := 2000000) only [go_sem, Nat.reduceBEq, Nat.reduceLT, Nat.reduceAdd, Nat.reduceMul, Nat.reduceLeDiff, Nat.reduceEqDiff, decide_true, decide_false, reduceIte, and_true, true_and, i1, i6]
    refine ⟨k - 1, by omega, ⟨_, rfl⟩, j + 1, by rw [IntWalk.i64_in _ (by omega)]; rfl, ?_, ?_, by omega⟩
    · rw [IntWalk.i64_in _ (by omega), ht1]; congr 1; omega
    · rw [ht2]; congr 1; split <;> omega
end Cm

set_option linter.unusedVariables false
open Go Go.Vm Go.Proofs
namespace Cm
variable [Gl]
mutual
def wideS : Ex → Bool
  | .mk _ name bits _ args _ _ _ => decide (200 < name.length) || decide (300 < bits.length) || wideSL args
def wideSL : List Ex → Bool
  | [] => false
  | x :: r => wideS x || wideSL r
end
theorem wideSL_get : ∀ {xs : List Ex} {j : Nat} {x : Ex}, xs[j]? = some x → wideSL xs = false → wideS x = false
  | [], j, x, h, _ => by simp at h
  | y :: r, j, x, h, hw => by
    simp only [wideSL, Bool.or_eq_false_iff] at hw
    cases j with
    | zero => simp at h; subst h; exact hw.1
    | succ j => exact wideSL_get (xs := r) (j := j) (by simpa using h) hw.2
theorem wideSL_true : ∀ {xs : List Ex} {j : Nat} {x : Ex}, xs[j]? = some x → wideS x = true → wideSL xs = true
  | [], j, x, h, _ => by simp at h
  | y :: r, j, x, h, hw => by
    simp only [wideSL, Bool.or_eq_true]
    cases j with
    | zero => simp at h; subst h; exact .inl hw
    | succ j => exact .inr (wideSL_true (xs := r) (j := j) (by simpa using h) hw)
theorem wideSL_false : ∀ {xs : List Ex}, (∀ (j : Nat) (x : Ex), xs[j]? = some x → wideS x = false) → wideSL xs = false
  | [], _ => rfl
  | y :: r, h => by
    simp only [wideSL, Bool.or_eq_false_iff]
    exact ⟨h 0 y rfl, wideSL_false fun j x hx => h (j + 1) x (by simpa using hx)⟩

theorem wide_run {memo : Memo} (hm : memo 15 = none) : ∀ (N : Nat) (x : Ex), nodes x ≤ N → ∀ (l : List Ob) (c : List V), RdE l x c → nodes x < 4611686018427387904 → ∀ (n : Nat), nodes x + 2 ≤ n →
    ∃ g, callN Tryz.prog (memoBase memo) (drawOK Tryz.prog) n 15 [.agg c] (stL l) = some (.bool (wideS x), stL (l ++ g))
  | 0, x, hN => by have := nodes_pos x; omega
  | N + 1, .mk op name bits vs args sig wid sg, hN => by
    intro l c hx hbd n hn
    obtain ⟨n, rfl⟩ : ∃ m, n = m + 1 := ⟨n - 1, by omega⟩
    obtain ⟨vb, va, rs, rfl, hvb, hva, hrs⟩ := hx
    have hnL : nodes (.mk op name bits vs args sig wid sg) = 1 + nodesL args := by simp only [nodes]
    have hal := nodesL_len args
    generalize hcs : ([.int .u8 (op : Int), .str name, vb, .bool vs, va, .int .i64 sig, .int .i64 wid, .bool sg] : List V) = cs
    suffices hs : ∃ v S', callN Tryz.prog (memoBase memo) (drawOK Tryz.prog) (n + 1) 15 [.agg cs] (stL l) = some (v, S') ∧ (v = .bool (wideS (.mk op name bits vs args sig wid sg)) ∧ ∃ g, S' = stL (l ++ g)) by
      obtain ⟨v, S', h, rfl, g, rfl⟩ := hs; exact ⟨g, h⟩
    refine run_fn hm Tryz.func15 rfl (by simp [Tryz.f15]) ?_
    have l1 := rows_len hva
    rw [hrs.len] at l1
    have l2 := rows_len hvb
    have l3 : lenStr (.str name) = some name.length := rfl
    refine Ev.seq rfl (Ev.reg' ?_)
    simp (maxSteps := 2000000) only [go_sem, Nat.reduceBEq, Nat.reduceLT, Nat.reduceAdd, Nat.reduceMul, Nat.reduceLeDiff, Nat.reduceEqDiff, decide_true, decide_false, reduceIte, and_true, true_and]
    refine Ev.seq rfl (Ev.seq rfl (Ev.reg' ?_))
    by_cases h1 : (200 : Int) < (name.length : Int)
    · simp (maxSteps := 2000000) only [go_sem, Nat.reduceBEq, Nat.reduceLT, Nat.reduceAdd, Nat.reduceMul, Nat.reduceLeDiff, Nat.reduceEqDiff, decide_true, decide_false, reduceIte, and_true, true_and, ← hcs, l3, h1]
      refine Ev.cond' ?_
      simp (maxSteps := 2000000) only [go_sem, Nat.reduceBEq, Nat.reduceLT, Nat.reduceAdd, Nat.reduceMul, Nat.reduceLeDiff, Nat.reduceEqDiff, decide_true, decide_false, reduceIte, and_true, true_and]
      refine Ev.seq rfl (Ev.reg' ?_)
      simp (maxSteps := 2000000) only [go_sem, Nat.reduceBEq, Nat.reduceLT, Nat.reduceAdd, Nat.reduceMul, Nat.reduceLeDiff, Nat.reduceEqDiff, decide_true, decide_false, reduceIte, and_true, true_and]
      refine Ev.ret ?_
      simp (maxSteps := 2000000) only [go_sem, Nat.reduceBEq, Nat.reduceLT, Nat.reduceAdd, Nat.reduceMul, Nat.reduceLeDiff, Nat.reduceEqDiff, decide_true, decide_false, reduceIte, and_true, true_and]
      refine Ret.tmp rfl ?_
      simp (maxSteps := 2000000) only [go_sem, Nat.reduceBEq, Nat.reduceLT, Nat.reduceAdd, Nat.reduceMul, Nat.reduceLeDiff, Nat.reduceEqDiff, decide_true, decide_false, reduceIte, and_true, true_and]
      have : 200 < name.length := by exact_mod_cast h1
      exact ⟨by simp [wideS, this], _, rfl⟩
    have h1' : ¬ 200 < name.length := fun h => h1 (by exact_mod_cast h)
    by_cases h2 : (300 : Int) < (bits.length : Int)
    · simp (maxSteps := 2000000) only [go_sem, Nat.reduceBEq, Nat.reduceLT, Nat.reduceAdd, Nat.reduceMul, Nat.reduceLeDiff, Nat.reduceEqDiff, decide_true, decide_false, reduceIte, and_true, true_and, ← hcs, l3, l2, h1, h2]
      refine Ev.cond' ?_
      simp (maxSteps := 2000000) only [go_sem, Nat.reduceBEq, Nat.reduceLT, Nat.reduceAdd, Nat.reduceMul, Nat.reduceLeDiff, Nat.reduceEqDiff, decide_true, decide_false, reduceIte, and_true, true_and]
      refine Ev.seq rfl (Ev.reg' ?_)
      simp (maxSteps := 2000000) only [go_sem, Nat.reduceBEq, Nat.reduceLT, Nat.reduceAdd, Nat.reduceMul, Nat.reduceLeDiff, Nat.reduceEqDiff, decide_true, decide_false, reduceIte, and_true, true_and]
      refine Ev.ret ?_
      simp (maxSteps := 2000000) only [go_sem, Nat.reduceBEq, Nat.reduceLT, Nat.reduceAdd, Nat.reduceMul, Nat.reduceLeDiff, Nat.reduceEqDiff, decide_true, decide_false, reduceIte, and_true, true_and]
      refine Ret.tmp rfl ?_
      simp (maxSteps := 2000000) only [go_sem, Nat.reduceBEq, Nat.reduceLT, Nat.reduceAdd, Nat.reduceMul, Nat.reduceLeDiff, Nat.reduceEqDiff, decide_true, decide_false, reduceIte, and_true, true_and]
      have : 300 < bits.length := by exact_mod_cast h2
      exact ⟨by simp [wideS, this], _, rfl⟩
    have h2' : ¬ 300 < bits.length := fun h => h2 (by exact_mod_cast h)
    simp (maxSteps := 2000000) only [go_sem, Nat.reduceBEq, Nat.reduceLT, Nat.reduceAdd, Nat.reduceMul, Nat.reduceLeDiff, Nat.reduceEqDiff, decide_true, decide_false, reduceIte, and_true, true_and, ← hcs, l3, l2, h1, h2]
    refine Ev.cond' ?_
    simp (maxSteps := 2000000) only [go_sem, Nat.reduceBEq, Nat.reduceLT, Nat.reduceAdd, Nat.reduceMul, Nat.reduceLeDiff, Nat.reduceEqDiff, decide_true, decide_false, reduceIte, and_true, true_and]
    refine Ev.skip ?_
    simp (maxSteps := 2000000) only [go_sem, Nat.reduceBEq, Nat.reduceLT, Nat.reduceAdd, Nat.reduceMul, Nat.reduceLeDiff, Nat.reduceEqDiff, decide_true, decide_false, reduceIte, and_true, true_and]
    refine Ev.seq rfl (Ev.seq rfl (Ev.reg' ?_))
    simp (maxSteps := 2000000) only [go_sem, Nat.reduceBEq, Nat.reduceLT, Nat.reduceAdd, Nat.reduceMul, Nat.reduceLeDiff, Nat.reduceEqDiff, decide_true, decide_false, reduceIte, and_true, true_and]
    rw [hcs]
    refine Ev.block (Ev.loop (fun k t S => t 1 = .ptr (idOf l.length) 0 ∧ (∃ g, S = stL (l ++ .cells cs 0 [] :: g)) ∧ ∃ j : Nat, t 3 = .int .i64 (j : Int) ∧ j + k = args.length ∧ ∀ i x, i < j → args[i]? = some x → wideS x = false) args.length (by omega) ?_ ?_)
    · simp (maxSteps := 2000000) only [go_sem, Nat.reduceBEq, Nat.reduceLT, Nat.reduceAdd, Nat.reduceMul, Nat.reduceLeDiff, Nat.reduceEqDiff, decide_true, decide_false, reduceIte, and_true, true_and]
      exact ⟨⟨[], rfl⟩, 0, rfl, by omega, by omega⟩
    intro k t S ⟨i1, ⟨g, iS⟩, j, i3, hjk, hpre⟩
    subst iS
    refine Ev.seq rfl (Ev.seq rfl (Ev.reg' ?_))
    simp (maxSteps := 2000000) only [go_sem, Nat.reduceBEq, Nat.reduceLT, Nat.reduceAdd, Nat.reduceMul, Nat.reduceLeDiff, Nat.reduceEqDiff, decide_true, decide_false, reduceIte, and_true, true_and, i1, i3, ← hcs, l1]
    refine Ev.cond' ?_
    simp (maxSteps := 2000000) only [go_sem, Nat.reduceBEq, Nat.reduceLT, Nat.reduceAdd, Nat.reduceMul, Nat.reduceLeDiff, Nat.reduceEqDiff, decide_true, decide_false, reduceIte, and_true, true_and]
    by_cases hj : (j : Int) < (args.length : Int)
    rotate_left
    · have hj' : ¬ j < args.length := fun h => hj (by exact_mod_cast h)
      simp only [hj, decide_false, wpC_false]
      refine Ev.exit ?_
      simp (maxSteps := 2000000) only [go_sem, Nat.reduceBEq, Nat.reduceLT, Nat.reduceAdd, Nat.reduceMul, Nat.reduceLeDiff, Nat.reduceEqDiff, decide_true, decide_false, reduceIte, and_true, true_and]
      refine Ev.seq rfl (Ev.reg' ?_)
      simp (maxSteps := 2000000) only [go_sem, Nat.reduceBEq, Nat.reduceLT, Nat.reduceAdd, Nat.reduceMul, Nat.reduceLeDiff, Nat.reduceEqDiff, decide_true, decide_false, reduceIte, and_true, true_and]
      refine Ev.ret (Ret.tmp rfl ?_)
      simp (maxSteps := 2000000) only [go_sem, Nat.reduceBEq, Nat.reduceLT, Nat.reduceAdd, Nat.reduceMul, Nat.reduceLeDiff, Nat.reduceEqDiff, decide_true, decide_false, reduceIte, and_true, true_and]
      refine ⟨?_, _, rfl⟩
      have : wideSL args = false := wideSL_false fun i x hx => hpre i x (by have := (List.getElem?_eq_some_iff.1 hx).1; omega) hx
      simp [wideS, this, h1', h2']
    have hj' : j < args.length := by exact_mod_cast hj
    obtain ⟨y, hy⟩ : ∃ y, args[j]? = some y := ⟨args[j], List.getElem?_eq_getElem hj'⟩
    obtain ⟨cy, hcy, hry⟩ := hrs.get hy
    obtain ⟨a, ra, ha1, ha2⟩ := rows_idx (rows_app (g := .cells cs 0 [] :: g) hva) hcy .i64
    have hyn := nodesL_get hy
    obtain ⟨g2, hcall⟩ := wide_run hm N y (by omega) (l ++ .cells cs 0 [] :: g) cy hry.app (by omega) n (by omega)
    simp only [hj, decide_true, wpC_true]
    refine Ev.skip ?_
    simp (maxSteps := 2000000) only [go_sem, Nat.reduceBEq, Nat.reduceLT, Nat.reduceAdd, Nat.reduceMul, Nat.reduceLeDiff, Nat.reduceEqDiff, decide_true, decide_false, reduceIte, and_true, true_and]
    refine Ev.seq rfl (Ev.block (Ev.seq rfl (Ev.reg' ?_)))
    simp (maxSteps := 2000000) only [go_sem, Nat.reduceBEq, Nat.reduceLT, Nat.reduceAdd, Nat.reduceMul, Nat.reduceLeDiff, Nat.reduceEqDiff, decide_true, decide_false, reduceIte, and_true, true_and, i1, i3, ← hcs, ha1]
    rw [hcs]
    simp (maxSteps := 2000000) only [go_sem, Nat.reduceBEq, Nat.reduceLT, Nat.reduceAdd, Nat.reduceMul, Nat.reduceLeDiff, Nat.reduceEqDiff, decide_true, decide_false, reduceIte, and_true, true_and, ha2, takeN_app hry.len, hcall]
    refine Ev.cond' ?_
    simp (maxSteps := 2000000) only [go_sem, Nat.reduceBEq, Nat.reduceLT, Nat.reduceAdd, Nat.reduceMul, Nat.reduceLeDiff, Nat.reduceEqDiff, decide_true, decide_false, reduceIte, and_true, true_and]
    cases hw : wideS y
    · simp only [wpC_false]
      refine Ev.skip ?_
      simp (maxSteps := 2000000) only [go_sem, Nat.reduceBEq, Nat.reduceLT, Nat.reduceAdd, Nat.reduceMul, Nat.reduceLeDiff, Nat.reduceEqDiff, decide_true, decide_false, reduceIte, and_true, true_and]
      refine Ev.reg' ?_
      simp (maxSteps := 2000000) only [go_sem, Nat.reduceBEq, Nat.reduceLT, Nat.reduceAdd, Nat.reduceMul, Nat.reduceLeDiff, Nat.reduceEqDiff, decide_true, decide_false, reduceIte, and_true, true_and, i1, i3]
      refine ⟨k - 1, by omega, ⟨_, rfl⟩, j + 1, by rw [IntWalk.i64_in _ (by omega)]; rfl, by omega, fun i x hi hx => ?_⟩
      by_cases e : i = j
      · subst e; rw [hy] at hx; injection hx with hx; subst hx; exact hw
      · exact hpre i x (by omega) hx
    · simp only [wpC_true]
      refine Ev.seq rfl (Ev.reg' ?_)
      simp (maxSteps := 2000000) only [go_sem, Nat.reduceBEq, Nat.reduceLT, Nat.reduceAdd, Nat.reduceMul, Nat.reduceLeDiff, Nat.reduceEqDiff, decide_true, decide_false, reduceIte, and_true, true_and]
      refine Ev.ret ?_
      simp (maxSteps := 2000000) only [go_sem, Nat.reduceBEq, Nat.reduceLT, Nat.reduceAdd, Nat.reduceMul, Nat.reduceLeDiff, Nat.reduceEqDiff, decide_true, decide_false, reduceIte, and_true, true_and]
      refine Ret.tmp rfl ?_
      simp (maxSteps := 2000000) only [go_sem, Nat.reduceBEq, Nat.reduceLT, Nat.reduceAdd, Nat.reduceMul, Nat.reduceLeDiff, Nat.reduceEqDiff, decide_true, decide_false, reduceIte, and_true, true_and]
      refine ⟨?_, _, rfl⟩
      simp [wideS, wideSL_true hy hw]
end Cm

set_option linter.unusedVariables false
open Go Go.Vm Go.Proofs
namespace Cm
variable [Gl]
def long8 (x : Ex) : Bool := decide (400 < nodes x) || decide (80 < depth x) || wideS x
theorem long8_run {memo : Memo} (hm5 : memo 5 = none) (hm14 : memo 14 = none) (hm15 : memo 15 = none) {l : List Ob} {v : V} {x : Ex} {c : List V} (hv : rows l 8 v = some [c]) (hx : RdE l x c) (hb : nodes x < 4611686018427387904) (n : Nat) (hn : nodes x + 4 ≤ n) :
    ∃ g, callN Tryz.prog (memoBase memo) (drawOK Tryz.prog) n 5 [v] (stL l) = some (.bool (long8 x), stL (l ++ g)) := by
  obtain ⟨n, rfl⟩ : ∃ m, n = m + 1 := ⟨n - 1, by omega⟩
  suffices hs : ∃ u S', callN Tryz.prog (memoBase memo) (drawOK Tryz.prog) (n + 1) 5 [v] (stL l) = some (u, S') ∧ (u = .bool (long8 x) ∧ ∃ g, S' = stL (l ++ g)) by
    obtain ⟨v, S', h, rfl, g, rfl⟩ := hs; exact ⟨g, h⟩
  refine run_fn hm5 Tryz.func5 rfl (by simp [Tryz.f5]) ?_
  have l1 := rows_len hv
  simp only [List.length_cons, List.length_nil] at l1
  refine Ev.seq rfl (Ev.reg' ?_)
  simp (maxSteps := 2000000) only [go_sem, Nat.reduceBEq, Nat.reduceLT, Nat.reduceAdd, Nat.reduceMul, Nat.reduceLeDiff, Nat.reduceEqDiff, decide_true, decide_false, reduceIte, and_true, true_and]
  refine Ev.seq rfl (Ev.seq rfl (Ev.reg' ?_))
  simp (maxSteps := 2000000) only [go_sem, Nat.reduceBEq, Nat.reduceLT, Nat.reduceAdd, Nat.reduceMul, Nat.reduceLeDiff, Nat.reduceEqDiff, decide_true, decide_false, reduceIte, and_true, true_and]
  refine Ev.block (Ev.loop (fun k t S => t 0 = v ∧ (∃ g, S = stL (l ++ g)) ∧ ((k = 1 ∧ t 3 = .int .i64 ((0 : Nat) : Int)) ∨ (k = 0 ∧ t 3 = .int .i64 ((1 : Nat) : Int) ∧ long8 x = false))) 1 (by omega) ?_ ?_)
  · simp (maxSteps := 2000000) only [go_sem, Nat.reduceBEq, Nat.reduceLT, Nat.reduceAdd, Nat.reduceMul, Nat.reduceLeDiff, Nat.reduceEqDiff, decide_true, decide_false, reduceIte, and_true, true_and]
    exact ⟨⟨[], by simp⟩, .inl rfl⟩
  intro k t S ⟨i0, ⟨g, iS⟩, h⟩
  subst iS
  rcases h with ⟨rfl, i3⟩ | ⟨rfl, i3, hl⟩
  rotate_left
  · refine Ev.seq rfl (Ev.seq rfl (Ev.reg' ?_))
    simp (maxSteps := 2000000) only [go_sem, Nat.reduceBEq, Nat.reduceLT, Nat.reduceAdd, Nat.reduceMul, Nat.reduceLeDiff, Nat.reduceEqDiff, decide_true, decide_false, reduceIte, and_true, true_and, i0, i3, l1]
    refine Ev.cond' ?_
    simp (maxSteps := 2000000) only [go_sem, Nat.reduceBEq, Nat.reduceLT, Nat.reduceAdd, Nat.reduceMul, Nat.reduceLeDiff, Nat.reduceEqDiff, decide_true, decide_false, reduceIte, and_true, true_and, Nat.reduceAdd, Int.lt_irrefl]
    refine Ev.exit ?_
    simp (maxSteps := 2000000) only [go_sem, Nat.reduceBEq, Nat.reduceLT, Nat.reduceAdd, Nat.reduceMul, Nat.reduceLeDiff, Nat.reduceEqDiff, decide_true, decide_false, reduceIte, and_true, true_and]
    refine Ev.seq rfl (Ev.reg' ?_)
    simp (maxSteps := 2000000) only [go_sem, Nat.reduceBEq, Nat.reduceLT, Nat.reduceAdd, Nat.reduceMul, Nat.reduceLeDiff, Nat.reduceEqDiff, decide_true, decide_false, reduceIte, and_true, true_and]
    refine Ev.ret (Ret.tmp rfl ?_)
    simp (maxSteps := 2000000) only [go_sem, Nat.reduceBEq, Nat.reduceLT, Nat.reduceAdd, Nat.reduceMul, Nat.reduceLeDiff, Nat.reduceEqDiff, decide_true, decide_false, reduceIte, and_true, true_and]
    exact ⟨by rw [hl], _, rfl⟩
  obtain ⟨a, ra, ha1, ha2⟩ := rows_idx (rows_app (g := g) hv) (j := 0) (r := c) rfl .i64
  obtain ⟨g1, hc1⟩ := size_run hm14 _ x (Nat.le_refl _) (l ++ g) c hx.app hb n (by omega)
  obtain ⟨a', ra', hb1, hb2⟩ := rows_idx (rows_app (g := g ++ g1) hv) (j := 0) (r := c) rfl .i64
  obtain ⟨g2, hc2⟩ := wide_run hm15 _ x (Nat.le_refl _) (l ++ (g ++ g1)) c hx.app hb n (by omega)
  refine Ev.seq rfl (Ev.seq rfl (Ev.reg' ?_))
  simp (maxSteps := 2000000) only [go_sem, Nat.reduceBEq, Nat.reduceLT, Nat.reduceAdd, Nat.reduceMul, Nat.reduceLeDiff, Nat.reduceEqDiff, decide_true, decide_false, reduceIte, and_true, true_and, i0, i3, l1]
  refine Ev.cond' ?_
  have e0 : ((0 : Nat) : Int) < ((0 + 1 : Nat) : Int) := by decide
  simp (maxSteps := 2000000) only [go_sem, Nat.reduceBEq, Nat.reduceLT, Nat.reduceAdd, Nat.reduceMul, Nat.reduceLeDiff, Nat.reduceEqDiff, decide_true, decide_false, reduceIte, and_true, true_and, e0]
  refine Ev.skip ?_
  simp (maxSteps := 2000000) only [go_sem, Nat.reduceBEq, Nat.reduceLT, Nat.reduceAdd, Nat.reduceMul, Nat.reduceLeDiff, Nat.reduceEqDiff, decide_true, decide_false, reduceIte, and_true, true_and]
  refine Ev.seq rfl (Ev.block (Ev.seq rfl (Ev.reg' ?_)))
  simp (maxSteps := 2000000) only [go_sem, Nat.reduceBEq, Nat.reduceLT, Nat.reduceAdd, Nat.reduceMul, Nat.reduceLeDiff, Nat.reduceEqDiff, decide_true, decide_false, reduceIte, and_true, true_and, i0, i3, ha1, ha2, takeN_app hx.len, hc1]
  refine Ev.seq rfl (Ev.reg' ?_)
  by_cases h1 : (400 : Int) < (nodes x : Int)
  · have h1' : 400 < nodes x := by exact_mod_cast h1
    simp (maxSteps := 2000000) only [go_sem, Nat.reduceBEq, Nat.reduceLT, Nat.reduceAdd, Nat.reduceMul, Nat.reduceLeDiff, Nat.reduceEqDiff, decide_true, decide_false, reduceIte, and_true, true_and, h1]
    refine Ev.cond' ?_
    simp (maxSteps := 2000000) only [go_sem, Nat.reduceBEq, Nat.reduceLT, Nat.reduceAdd, Nat.reduceMul, Nat.reduceLeDiff, Nat.reduceEqDiff, decide_true, decide_false, reduceIte, and_true, true_and]
    refine Ev.seq rfl (Ev.reg' ?_)
    simp (maxSteps := 2000000) only [go_sem, Nat.reduceBEq, Nat.reduceLT, Nat.reduceAdd, Nat.reduceMul, Nat.reduceLeDiff, Nat.reduceEqDiff, decide_true, decide_false, reduceIte, and_true, true_and]
    refine Ev.ret ?_
    simp (maxSteps := 2000000) only [go_sem, Nat.reduceBEq, Nat.reduceLT, Nat.reduceAdd, Nat.reduceMul, Nat.reduceLeDiff, Nat.reduceEqDiff, decide_true, decide_false, reduceIte, and_true, true_and]
    refine Ret.tmp rfl ?_
    simp (maxSteps := 2000000) only [go_sem, Nat.reduceBEq, Nat.reduceLT, Nat.reduceAdd, Nat.reduceMul, Nat.reduceLeDiff, Nat.reduceEqDiff, decide_true, decide_false, reduceIte, and_true, true_and]
    exact ⟨by simp [long8, h1'], _, rfl⟩
  have h1' : ¬ 400 < nodes x := fun h => h1 (by exact_mod_cast h)
  by_cases h2 : (80 : Int) < (depth x : Int)
  · have h2' : 80 < depth x := by exact_mod_cast h2
    simp (maxSteps := 2000000) only [go_sem, Nat.reduceBEq, Nat.reduceLT, Nat.reduceAdd, Nat.reduceMul, Nat.reduceLeDiff, Nat.reduceEqDiff, decide_true, decide_false, reduceIte, and_true, true_and, h1, h2]
    refine Ev.cond' ?_
    simp (maxSteps := 2000000) only [go_sem, Nat.reduceBEq, Nat.reduceLT, Nat.reduceAdd, Nat.reduceMul, Nat.reduceLeDiff, Nat.reduceEqDiff, decide_true, decide_false, reduceIte, and_true, true_and]
    refine Ev.seq rfl (Ev.reg' ?_)
    simp (maxSteps := 2000000) only [go_sem, Nat.reduceBEq, Nat.reduceLT, Nat.reduceAdd, Nat.reduceMul, Nat.reduceLeDiff, Nat.reduceEqDiff, decide_true, decide_false, reduceIte, and_true, true_and]
    refine Ev.ret ?_
    simp (maxSteps := 2000000) only [go_sem, Nat.reduceBEq, Nat.reduceLT, Nat.reduceAdd, Nat.reduceMul, Nat.reduceLeDiff, Nat.reduceEqDiff, decide_true, decide_false, reduceIte, and_true, true_and]
    refine Ret.tmp rfl ?_
    simp (maxSteps := 2000000) only [go_sem, Nat.reduceBEq, Nat.reduceLT, Nat.reduceAdd, Nat.reduceMul, Nat.reduceLeDiff, Nat.reduceEqDiff, decide_true, decide_false, reduceIte, and_true, true_and]
    exact ⟨by simp [long8, h2'], _, rfl⟩
  have h2' : ¬ 80 < depth x := fun h => h2 (by exact_mod_cast h)
  simp (maxSteps := 2000000) only [go_sem, Nat.reduceBEq, Nat.reduceLT, Nat.reduceAdd, Nat.reduceMul, Nat.reduceLeDiff, Nat.reduceEqDiff, decide_true, decide_false, reduceIte, and_true, true_and, h1, h2, i0, i3, hb1, hb2, takeN_app hx.len, hc2]
  refine Ev.cond' ?_
  simp (maxSteps := 2000000) only [go_sem, Nat.reduceBEq, Nat.reduceLT, Nat.reduceAdd, Nat.reduceMul, Nat.reduceLeDiff, Nat.reduceEqDiff, decide_true, decide_false, reduceIte, and_true, true_and]
  cases hw : wideS x
  · simp only [wpC_false]
    refine Ev.skip ?_
    simp (maxSteps := 2000000) only [go_sem, Nat.reduceBEq, Nat.reduceLT, Nat.reduceAdd, Nat.reduceMul, Nat.reduceLeDiff, Nat.reduceEqDiff, decide_true, decide_false, reduceIte, and_true, true_and]
    refine Ev.reg' ?_
    simp (maxSteps := 2000000) only [go_sem, Nat.reduceBEq, Nat.reduceLT, Nat.reduceAdd, Nat.reduceMul, Nat.reduceLeDiff, Nat.reduceEqDiff, decide_true, decide_false, reduceIte, and_true, true_and, i0, i3]
    exact ⟨0, by omega, ⟨_, rfl⟩, .inr ⟨rfl, by rw [IntWalk.i64_in _ (by omega)]; rfl, by simp [long8, h1', h2', hw]⟩⟩
  · simp only [wpC_true]
    refine Ev.seq rfl (Ev.reg' ?_)
    simp (maxSteps := 2000000) only [go_sem, Nat.reduceBEq, Nat.reduceLT, Nat.reduceAdd, Nat.reduceMul, Nat.reduceLeDiff, Nat.reduceEqDiff, decide_true, decide_false, reduceIte, and_true, true_and]
    refine Ev.ret ?_
    simp (maxSteps := 2000000) only [go_sem, Nat.reduceBEq, Nat.reduceLT, Nat.reduceAdd, Nat.reduceMul, Nat.reduceLeDiff, Nat.reduceEqDiff, decide_true, decide_false, reduceIte, and_true, true_and]
    refine Ret.tmp rfl ?_
    simp (maxSteps := 2000000) only [go_sem, Nat.reduceBEq, Nat.reduceLT, Nat.reduceAdd, Nat.reduceMul, Nat.reduceLeDiff, Nat.reduceEqDiff, decide_true, decide_false, reduceIte, and_true, true_and]
    exact ⟨by simp [long8, hw], _, rfl⟩
/-- Constants. -/
structure Cst where
  name : List Nat
  bits : List Nat
  sg : Bool
def RdC (l : List Ob) (x : Cst) (c : List V) : Prop := ∃ vb, c = [.str x.name, vb, .bool x.sg] ∧ rows l 1 vb = some (x.bits.map bitC)
theorem RdC.app {l g : List Ob} {x : Cst} {c : List V} (h : RdC l x c) : RdC (l ++ g) x c := by
  obtain ⟨vb, h1, h2⟩ := h; exact ⟨vb, h1, rows_app h2⟩
def RdCs (l : List Ob) : List Cst → List (List V) → Prop
  | [], rs => rs = []
  | x :: r, rs => ∃ c q, rs = c :: q ∧ RdC l x c ∧ RdCs l r q
theorem RdCs.app {l g : List Ob} : ∀ {xs : List Cst} {rs : List (List V)}, RdCs l xs rs → RdCs (l ++ g) xs rs
  | [], _, h => h
  | _ :: _, _, ⟨c, q, h1, h2, h3⟩ => ⟨c, q, h1, h2.app, h3.app⟩
theorem RdCs.len {l : List Ob} : ∀ {xs : List Cst} {rs : List (List V)}, RdCs l xs rs → rs.length = xs.length
  | [], rs, h => by have h : rs = [] := h; subst h; rfl
  | x :: r, rs, ⟨c, q, h1, h2, h3⟩ => by subst h1; simp [RdCs.len h3]
theorem RdCs.get {l : List Ob} : ∀ {xs : List Cst} {rs : List (List V)}, RdCs l xs rs → ∀ {j : Nat} {x : Cst}, xs[j]? = some x → ∃ c, rs[j]? = some c ∧ RdC l x c
  | [], rs, h, j, x, hx => by simp at hx
  | y :: r, rs, ⟨c, q, h1, h2, h3⟩, j, x, hx => by
    subst h1
    cases j with
    | zero => simp at hx; subst hx; exact ⟨c, rfl, h2⟩
    | succ j => simpa using RdCs.get h3 (by simpa using hx)
def long13 (xs : List Cst) : Bool := decide (300 < xs.length) || xs.any fun x => decide (50 < x.name.length) || decide (300 < x.bits.length)
theorem long13_run {memo : Memo} (hm6 : memo 6 = none) {l : List Ob} {v : V} {xs : List Cst} {rs : List (List V)} (hv : rows l 3 v = some rs) (hx : RdCs l xs rs) (n : Nat) (hn : 303 ≤ n) :
    ∃ g, callN Tryz.prog (memoBase memo) (drawOK Tryz.prog) n 6 [v] (stL l) = some (.bool (long13 xs), stL (l ++ g)) := by
  obtain ⟨n, rfl⟩ : ∃ m, n = m + 1 := ⟨n - 1, by omega⟩
  suffices hs : ∃ u S', callN Tryz.prog (memoBase memo) (drawOK Tryz.prog) (n + 1) 6 [v] (stL l) = some (u, S') ∧ (u = .bool (long13 xs) ∧ ∃ g, S' = stL (l ++ g)) by
    obtain ⟨v, S', h, rfl, g, rfl⟩ := hs; exact ⟨g, h⟩
  refine run_fn hm6 Tryz.func6 rfl (by simp [Tryz.f6]) ?_
  have l1 := rows_len hv
  rw [hx.len] at l1
  refine Ev.seq rfl (Ev.reg' ?_)
  simp (maxSteps := 2000000) only [go_sem, Nat.reduceBEq, Nat.reduceLT, Nat.reduceAdd, Nat.reduceMul, Nat.reduceLeDiff, Nat.reduceEqDiff, decide_true, decide_false, reduceIte, and_true, true_and]
  refine Ev.seq rfl (Ev.seq rfl (Ev.reg' ?_))
  by_cases h0 : (300 : Int) < (xs.length : Int)
  · have h0' : 300 < xs.length := by exact_mod_cast h0
    simp (maxSteps := 2000000) only [go_sem, Nat.reduceBEq, Nat.reduceLT, Nat.reduceAdd, Nat.reduceMul, Nat.reduceLeDiff, Nat.reduceEqDiff, decide_true, decide_false, reduceIte, and_true, true_and, l1, h0]
    refine Ev.cond' ?_
    simp (maxSteps := 2000000) only [go_sem, Nat.reduceBEq, Nat.reduceLT, Nat.reduceAdd, Nat.reduceMul, Nat.reduceLeDiff, Nat.reduceEqDiff, decide_true, decide_false, reduceIte, and_true, true_and]
    refine Ev.seq rfl (Ev.reg' ?_)
    simp (maxSteps := 2000000) only [go_sem, Nat.reduceBEq, Nat.reduceLT, Nat.reduceAdd, Nat.reduceMul, Nat.reduceLeDiff, Nat.reduceEqDiff, decide_true, decide_false, reduceIte, and_true, true_and]
    refine Ev.ret ?_
    simp (maxSteps := 2000000) only [go_sem, Nat.reduceBEq, Nat.reduceLT, Nat.reduceAdd, Nat.reduceMul, Nat.reduceLeDiff, Nat.reduceEqDiff, decide_true, decide_false, reduceIte, and_true, true_and]
    refine Ret.tmp rfl ?_
    simp (maxSteps := 2000000) only [go_sem, Nat.reduceBEq, Nat.reduceLT, Nat.reduceAdd, Nat.reduceMul, Nat.reduceLeDiff, Nat.reduceEqDiff, decide_true, decide_false, reduceIte, and_true, true_and]
    exact ⟨by simp [long13, h0'], [], by simp⟩
  have h0' : ¬ 300 < xs.length := fun h => h0 (by exact_mod_cast h)
  simp (maxSteps := 2000000) only [go_sem, Nat.reduceBEq, Nat.reduceLT, Nat.reduceAdd, Nat.reduceMul, Nat.reduceLeDiff, Nat.reduceEqDiff, decide_true, decide_false, reduceIte, and_true, true_and, l1, h0]
  refine Ev.cond' ?_
  simp (maxSteps := 2000000) only [go_sem, Nat.reduceBEq, Nat.reduceLT, Nat.reduceAdd, Nat.reduceMul, Nat.reduceLeDiff, Nat.reduceEqDiff, decide_true, decide_false, reduceIte, and_true, true_and]
  refine Ev.skip ?_
  simp (maxSteps := 2000000) only [go_sem, Nat.reduceBEq, Nat.reduceLT, Nat.reduceAdd, Nat.reduceMul, Nat.reduceLeDiff, Nat.reduceEqDiff, decide_true, decide_false, reduceIte, and_true, true_and]
  refine Ev.seq rfl (Ev.seq rfl (Ev.reg' ?_))
  simp (maxSteps := 2000000) only [go_sem, Nat.reduceBEq, Nat.reduceLT, Nat.reduceAdd, Nat.reduceMul, Nat.reduceLeDiff, Nat.reduceEqDiff, decide_true, decide_false, reduceIte, and_true, true_and]
  refine Ev.block (Ev.loop (fun k t S => t 0 = v ∧ S = stL l ∧ ∃ j : Nat, t 3 = .int .i64 (j : Int) ∧ j + k = xs.length ∧ ∀ i x, i < j → xs[i]? = some x → ¬ 50 < x.name.length ∧ ¬ 300 < x.bits.length) xs.length (by omega) ?_ ?_)
  · simp (maxSteps := 2000000) only [go_sem, Nat.reduceBEq, Nat.reduceLT, Nat.reduceAdd, Nat.reduceMul, Nat.reduceLeDiff, Nat.reduceEqDiff, decide_true, decide_false, reduceIte, and_true, true_and]
    exact ⟨0, rfl, by omega, by omega⟩
  intro k t S ⟨i0, iS, j, i3, hjk, hpre⟩
  subst iS
  refine Ev.seq rfl (Ev.seq rfl (Ev.reg' ?_))
  simp (maxSteps := 2000000) only [go_sem, Nat.reduceBEq, Nat.reduceLT, Nat.reduceAdd, Nat.reduceMul, Nat.reduceLeDiff, Nat.reduceEqDiff, decide_true, decide_false, reduceIte, and_true, true_and, i0, i3, l1]
  refine Ev.cond' ?_
  simp (maxSteps := 2000000) only [go_sem, Nat.reduceBEq, Nat.reduceLT, Nat.reduceAdd, Nat.reduceMul, Nat.reduceLeDiff, Nat.reduceEqDiff, decide_true, decide_false, reduceIte, and_true, true_and]
  by_cases hj : (j : Int) < (xs.length : Int)
  rotate_left
  · have hj' : ¬ j < xs.length := fun h => hj (by exact_mod_cast h)
    simp only [hj, decide_false, wpC_false]
    refine Ev.exit ?_
    simp (maxSteps := 2000000) only [go_sem, Nat.reduceBEq, Nat.reduceLT, Nat.reduceAdd, Nat.reduceMul, Nat.reduceLeDiff, Nat.reduceEqDiff, decide_true, decide_false, reduceIte, and_true, true_and]
    refine Ev.seq rfl (Ev.reg' ?_)
    simp (maxSteps := 2000000) only [go_sem, Nat.reduceBEq, Nat.reduceLT, Nat.reduceAdd, Nat.reduceMul, Nat.reduceLeDiff, Nat.reduceEqDiff, decide_true, decide_false, reduceIte, and_true, true_and]
    refine Ev.ret (Ret.tmp rfl ?_)
    simp (maxSteps := 2000000) only [go_sem, Nat.reduceBEq, Nat.reduceLT, Nat.reduceAdd, Nat.reduceMul, Nat.reduceLeDiff, Nat.reduceEqDiff, decide_true, decide_false, reduceIte, and_true, true_and]
    refine ⟨?_, [], by simp⟩
    have : xs.any (fun x => decide (50 < x.name.length) || decide (300 < x.bits.length)) = false := by
      rw [List.any_eq_false]
      intro x hxm
      obtain ⟨i, hi, e⟩ := List.mem_iff_getElem.1 hxm
      have := hpre i x (by omega) (by rw [List.getElem?_eq_getElem hi, e])
      simp [this.1, this.2]
    simp [long13, this, h0']
  have hj' : j < xs.length := by exact_mod_cast hj
  obtain ⟨y, hy⟩ : ∃ y, xs[j]? = some y := ⟨xs[j], List.getElem?_eq_getElem hj'⟩
  obtain ⟨cy, hcy, vb, rfl, hvb⟩ := hx.get hy
  obtain ⟨a, ra, ha1, ha2⟩ := rows_idx hv hcy .i64
  obtain ⟨b1, hb1, hb2⟩ := addr_at ha2 (o := 0) (by simp)
  obtain ⟨d1, hd1, hd2⟩ := addr_at ha2 (o := 1) (by simp)
  obtain ⟨e1, he1, he2⟩ := addr_at hd2 (o := 0) (by simp)
  have l2 := rows_len hvb
  have l3 : lenStr (.str y.name) = some y.name.length := rfl
  simp only [hj, decide_true, wpC_true]
  refine Ev.skip ?_
  simp (maxSteps := 2000000) only [go_sem, Nat.reduceBEq, Nat.reduceLT, Nat.reduceAdd, Nat.reduceMul, Nat.reduceLeDiff, Nat.reduceEqDiff, decide_true, decide_false, reduceIte, and_true, true_and]
  refine Ev.seq rfl (Ev.block (Ev.seq rfl (Ev.reg' ?_)))
  by_cases h1 : (50 : Int) < (y.name.length : Int)
  · have h1' : 50 < y.name.length := by exact_mod_cast h1
    simp (maxSteps := 2000000) only [go_sem, Nat.reduceBEq, Nat.reduceLT, Nat.reduceAdd, Nat.reduceMul, Nat.reduceLeDiff, Nat.reduceEqDiff, decide_true, decide_false, reduceIte, and_true, true_and, i0, i3, ha1, hb1, hb2, l3, h1]
    refine Ev.cond' ?_
    simp (maxSteps := 2000000) only [go_sem, Nat.reduceBEq, Nat.reduceLT, Nat.reduceAdd, Nat.reduceMul, Nat.reduceLeDiff, Nat.reduceEqDiff, decide_true, decide_false, reduceIte, and_true, true_and]
    refine Ev.seq rfl (Ev.reg' ?_)
    simp (maxSteps := 2000000) only [go_sem, Nat.reduceBEq, Nat.reduceLT, Nat.reduceAdd, Nat.reduceMul, Nat.reduceLeDiff, Nat.reduceEqDiff, decide_true, decide_false, reduceIte, and_true, true_and]
    refine Ev.ret ?_
    simp (maxSteps := 2000000) only [go_sem, Nat.reduceBEq, Nat.reduceLT, Nat.reduceAdd, Nat.reduceMul, Nat.reduceLeDiff, Nat.reduceEqDiff, decide_true, decide_false, reduceIte, and_true, true_and]
    refine Ret.tmp rfl ?_
    simp (maxSteps := 2000000) only [go_sem, Nat.reduceBEq, Nat.reduceLT, Nat.reduceAdd, Nat.reduceMul, Nat.reduceLeDiff, Nat.reduceEqDiff, decide_true, decide_false, reduceIte, and_true, true_and]
    refine ⟨?_, [], by simp⟩
    have : xs.any (fun x => decide (50 < x.name.length) || decide (300 < x.bits.length)) = true := by
      rw [List.any_eq_true]
      exact ⟨y, List.mem_of_getElem? hy, by simp [h1']⟩
    simp [long13, this]
  have h1' : ¬ 50 < y.name.length := fun h => h1 (by exact_mod_cast h)
  simp (maxSteps := 2000000) only [go_sem, Nat.reduceBEq, Nat.reduceLT, Nat.reduceAdd, Nat.reduceMul, Nat.reduceLeDiff, Nat.reduceEqDiff, decide_true, decide_false, reduceIte, and_true, true_and, i0, i3, ha1, hb1, hb2, hd1, he1, he2, l3, l2, h1, List.length_map]
  refine Ev.cond' ?_
  simp (maxSteps := 2000000) only [go_sem, Nat.reduceBEq, Nat.reduceLT, Nat.reduceAdd, Nat.reduceMul, Nat.reduceLeDiff, Nat.reduceEqDiff, decide_true, decide_false, reduceIte, and_true, true_and]
  by_cases h2 : (300 : Int) < (y.bits.length : Int)
  · have h2' : 300 < y.bits.length := by exact_mod_cast h2
    simp only [h2, decide_true, wpC_true]
    refine Ev.seq rfl (Ev.reg' ?_)
    simp (maxSteps := 2000000) only [go_sem, Nat.reduceBEq, Nat.reduceLT, Nat.reduceAdd, Nat.reduceMul, Nat.reduceLeDiff, Nat.reduceEqDiff, decide_true, decide_false, reduceIte, and_true, true_and]
    refine Ev.ret ?_
    simp (maxSteps := 2000000) only [go_sem, Nat.reduceBEq, Nat.reduceLT, Nat.reduceAdd, Nat.reduceMul, Nat.reduceLeDiff, Nat.reduceEqDiff, decide_true, decide_false, reduceIte, and_true, true_and]
    refine Ret.tmp rfl ?_
    simp (maxSteps := 2000000) only [go_sem, Nat.reduceBEq, Nat.reduceLT, Nat.reduceAdd, Nat.reduceMul, Nat.reduceLeDiff, Nat.reduceEqDiff, decide_true, decide_false, reduceIte, and_true, true_and]
    refine ⟨?_, [], by simp⟩
    have : xs.any (fun x => decide (50 < x.name.length) || decide (300 < x.bits.length)) = true := by
      rw [List.any_eq_true]
      exact ⟨y, List.mem_of_getElem? hy, by simp [h2']⟩
    simp [long13, this]
  · have h2' : ¬ 300 < y.bits.length := fun h => h2 (by exact_mod_cast h)
    simp only [h2, decide_false, wpC_false]
    refine Ev.skip ?_
    simp (maxSteps := 2000000) only [go_sem, Nat.reduceBEq, Nat.reduceLT, Nat.reduceAdd, Nat.reduceMul, Nat.reduceLeDiff, Nat.reduceEqDiff, decide_true, decide_false, reduceIte, and_true, true_and]
    refine Ev.reg' ?_
    simp (maxSteps := 2000000) only [go_sem, Nat.reduceBEq, Nat.reduceLT, Nat.reduceAdd, Nat.reduceMul, Nat.reduceLeDiff, Nat.reduceEqDiff, decide_true, decide_false, reduceIte, and_true, true_and, i0, i3]
    refine ⟨k - 1, by omega, j + 1, by rw [IntWalk.i64_in _ (by omega)]; rfl, by omega, fun i x hi hx => ?_⟩
    by_cases e : i = j
    · subst e; rw [hy] at hx; injection hx with hx; subst hx; exact ⟨h1', h2'⟩
    · exact hpre i x (by omega) hx
end Cm

set_option linter.unusedVariables false
open Go Go.Vm Go.Proofs
namespace Cm
variable [Gl]
theorem bulkL_get : ∀ {xs : List Ex} {j : Nat} {x : Ex}, xs[j]? = some x → bulk x + 1 ≤ bulkL xs
  | [], j, x, h => by simp at h
  | y :: r, j, x, h => by
    cases j with
    | zero => simp at h; subst h; simp only [bulkL]; omega
    | succ j => have := bulkL_get (xs := r) (j := j) (x := x) (by simpa using h); simp only [bulkL]; omega
theorem bulkL_len : ∀ (xs : List Ex), xs.length ≤ bulkL xs
  | [] => Nat.le_refl _
  | x :: r => by have := bulkL_len r; simp only [bulkL, List.length_cons]; omega
set_option maxHeartbeats 4000000 in
/-- Is, of what is alike. -/
theorem is_run {memo : Memo} (hm12 : memo 12 = none) (hm28 : memo 28 = none) : ∀ (N : Nat) (x : Ex), bulk x ≤ N → ∀ (l : List Ob) (c d : List V), RdE l x c → RdE l x d → bulk x < 4611686018427387904 → ∀ (n : Nat), bulk x + 4 ≤ n →
    ∃ g, callN Tryz.prog (memoBase memo) (drawOK Tryz.prog) n 12 [.agg c, .agg d] (stL l) = some (.bool true, stL (l ++ g))
  | 0, .mk .., hN => by simp only [bulk] at hN; omega
  | N + 1, .mk op name bits vs args sig wid sg, hN => by
    intro l c d hx hy hbd n hn
    obtain ⟨n, rfl⟩ : ∃ m, n = m + 1 := ⟨n - 1, by omega⟩
    obtain ⟨vb, va, rs, rfl, hvb, hva, hrs⟩ := hx
    obtain ⟨wb, wa, qs, rfl, hwb, hwa, hqs⟩ := hy
    have hnL : bulk (.mk op name bits vs args sig wid sg) = 4 + name.length + bits.length + bulkL args := by simp only [bulk]
    have hal := bulkL_len args
    have c1 := rows_cell hvb
    have c2 := rows_cell hwb
    have l1 := rows_len hva
    rw [hrs.len] at l1
    have l2 := rows_len hwa
    rw [hqs.len] at l2
    obtain ⟨cs, hcs⟩ : ∃ cs, cs = ([.int .u8 (op : Int), .str name, vb, .bool vs, va, .int .i64 sig, .int .i64 wid, .bool sg] : List V) := ⟨_, rfl⟩
    obtain ⟨ds, hds⟩ : ∃ ds, ds = ([.int .u8 (op : Int), .str name, wb, .bool vs, wa, .int .i64 sig, .int .i64 wid, .bool sg] : List V) := ⟨_, rfl⟩
    rw [← hcs, ← hds]
    suffices hs : ∃ v S', callN Tryz.prog (memoBase memo) (drawOK Tryz.prog) (n + 1) 12 [.agg cs, .agg ds] (stL l) = some (v, S') ∧ (v = .bool true ∧ ∃ g, S' = stL (l ++ g)) by
      obtain ⟨v, S', h, rfl, g, rfl⟩ := hs; exact ⟨g, h⟩
    refine run_fn hm12 Tryz.func12 rfl (by simp [Tryz.f12]) ?_
    refine Ev.seq rfl (Ev.reg' ?_)
    simp (maxSteps := 2000000) only [go_sem, Nat.reduceBEq, Nat.reduceLT, Nat.reduceAdd, Nat.reduceMul, Nat.reduceLeDiff, Nat.reduceEqDiff, decide_true, decide_false, reduceIte, and_true, true_and]
    obtain ⟨g0, hsame⟩ := same_run hm28 (l := l ++ [.cells cs 0 [], .cells ds 0 []]) (s := vs) (rows_app hvb) (rows_app hwb) (by omega) n (by omega)
    simp only [hcs, hds, List.append_assoc, List.cons_append, List.nil_append] at hsame
    refine Ev.seq rfl (Ev.seq rfl (Ev.reg' ?_))
    generalize hK : (onNorm _ _) = K
    simp (maxSteps := 2000000) only [go_sem, Nat.reduceBEq, Nat.reduceLT, Nat.reduceAdd, Nat.reduceMul, Nat.reduceLeDiff, Nat.reduceEqDiff, decide_true, decide_false, reduceIte, and_true, true_and, hcs, hds, bne_self_eq_false, BEq.rfl, Bool.not_true, hsame, l1, l2]
    rw [← hcs, ← hds]
    subst hK
    rw [onNorm_norm]
    refine Ev.cond' ?_
    simp (maxSteps := 2000000) only [go_sem, Nat.reduceBEq, Nat.reduceLT, Nat.reduceAdd, Nat.reduceMul, Nat.reduceLeDiff, Nat.reduceEqDiff, decide_true, decide_false, reduceIte, and_true, true_and]
    refine Ev.skip ?_
    simp (maxSteps := 2000000) only [go_sem, Nat.reduceBEq, Nat.reduceLT, Nat.reduceAdd, Nat.reduceMul, Nat.reduceLeDiff, Nat.reduceEqDiff, decide_true, decide_false, reduceIte, and_true, true_and]
    refine Ev.seq rfl (Ev.seq rfl (Ev.reg' ?_))
    simp (maxSteps := 2000000) only [go_sem, Nat.reduceBEq, Nat.reduceLT, Nat.reduceAdd, Nat.reduceMul, Nat.reduceLeDiff, Nat.reduceEqDiff, decide_true, decide_false, reduceIte, and_true, true_and]
    refine Ev.block (Ev.loop (fun k t S => t 2 = .ptr (idOf l.length) 0 ∧ t 3 = .ptr (idOf (l.length + 1)) 0 ∧ (∃ g, S = stL (l ++ .cells cs 0 [] :: .cells ds 0 [] :: g)) ∧ ∃ j : Nat, t 5 = .int .i64 (j : Int) ∧ j + k = args.length) args.length (by omega) ?_ ?_)
    · simp (maxSteps := 2000000) only [go_sem, Nat.reduceBEq, Nat.reduceLT, Nat.reduceAdd, Nat.reduceMul, Nat.reduceLeDiff, Nat.reduceEqDiff, decide_true, decide_false, reduceIte, and_true, true_and]
      exact ⟨⟨g0, rfl⟩, 0, rfl, by omega⟩
    intro k t S ⟨i2, i3, ⟨g, iS⟩, j, i5, hjk⟩
    subst iS
    refine Ev.seq rfl (Ev.seq rfl (Ev.reg' ?_))
    simp (maxSteps := 2000000) only [go_sem, Nat.reduceBEq, Nat.reduceLT, Nat.reduceAdd, Nat.reduceMul, Nat.reduceLeDiff, Nat.reduceEqDiff, decide_true, decide_false, reduceIte, and_true, true_and, i2, i5, hcs, l1]
    rw [← hcs]
    refine Ev.cond' ?_
    simp (maxSteps := 2000000) only [go_sem, Nat.reduceBEq, Nat.reduceLT, Nat.reduceAdd, Nat.reduceMul, Nat.reduceLeDiff, Nat.reduceEqDiff, decide_true, decide_false, reduceIte, and_true, true_and]
    by_cases hj : (j : Int) < (args.length : Int)
    rotate_left
    · simp only [hj, decide_false, wpC_false]
      refine Ev.exit ?_
      simp (maxSteps := 2000000) only [go_sem, Nat.reduceBEq, Nat.reduceLT, Nat.reduceAdd, Nat.reduceMul, Nat.reduceLeDiff, Nat.reduceEqDiff, decide_true, decide_false, reduceIte, and_true, true_and]
      refine Ev.seq rfl (Ev.reg' ?_)
      simp (maxSteps := 2000000) only [go_sem, Nat.reduceBEq, Nat.reduceLT, Nat.reduceAdd, Nat.reduceMul, Nat.reduceLeDiff, Nat.reduceEqDiff, decide_true, decide_false, reduceIte, and_true, true_and]
      refine Ev.ret (Ret.tmp rfl ?_)
      simp (maxSteps := 2000000) only [go_sem, Nat.reduceBEq, Nat.reduceLT, Nat.reduceAdd, Nat.reduceMul, Nat.reduceLeDiff, Nat.reduceEqDiff, decide_true, decide_false, reduceIte, and_true, true_and]
      exact ⟨_, rfl⟩
    have hj' : j < args.length := by exact_mod_cast hj
    obtain ⟨y, hy⟩ : ∃ y, args[j]? = some y := ⟨args[j], List.getElem?_eq_getElem hj'⟩
    obtain ⟨cy, hcy, hry⟩ := hrs.get hy
    obtain ⟨dy, hdy, hqy⟩ := hqs.get hy
    obtain ⟨a, ra, ha1, ha2⟩ := rows_idx (rows_app (g := .cells cs 0 [] :: .cells ds 0 [] :: g) hva) hcy .i64
    obtain ⟨b, rb, hb1, hb2⟩ := rows_idx (rows_app (g := .cells cs 0 [] :: .cells ds 0 [] :: g) hwa) hdy .i64
    have hyn := bulkL_get hy
    obtain ⟨g2, hcall⟩ := is_run hm12 hm28 N y (by omega) (l ++ .cells cs 0 [] :: .cells ds 0 [] :: g) cy dy hry.app hqy.app (by omega) n (by omega)
    simp only [hj, decide_true, wpC_true]
    refine Ev.skip ?_
    simp (maxSteps := 2000000) only [go_sem, Nat.reduceBEq, Nat.reduceLT, Nat.reduceAdd, Nat.reduceMul, Nat.reduceLeDiff, Nat.reduceEqDiff, decide_true, decide_false, reduceIte, and_true, true_and]
    refine Ev.seq rfl (Ev.block (Ev.seq rfl (Ev.regD0' rfl (by kernel_rfl) (by kernel_rfl) ?_)))
    simp only [hcs, hds] at ha2 hb2 hcall
    simp (maxSteps := 2000000) only [go_sem, Nat.reduceBEq, Nat.reduceLT, Nat.reduceAdd, Nat.reduceMul, Nat.reduceLeDiff, Nat.reduceEqDiff, decide_true, decide_false, reduceIte, and_true, true_and, i2, i3, i5, hcs, hds, ha1, hb1, ha2, hb2, takeN_app hry.len, takeN_app hqy.len, hcall, Bool.not_true]
    rw [← hcs, ← hds]
    refine Ev.cond' ?_
    simp (maxSteps := 2000000) only [go_sem, Nat.reduceBEq, Nat.reduceLT, Nat.reduceAdd, Nat.reduceMul, Nat.reduceLeDiff, Nat.reduceEqDiff, decide_true, decide_false, reduceIte, and_true, true_and]
    refine Ev.skip ?_
    simp (maxSteps := 2000000) only [go_sem, Nat.reduceBEq, Nat.reduceLT, Nat.reduceAdd, Nat.reduceMul, Nat.reduceLeDiff, Nat.reduceEqDiff, decide_true, decide_false, reduceIte, and_true, true_and]
    refine Ev.reg' ?_
    simp (maxSteps := 2000000) only [go_sem, Nat.reduceBEq, Nat.reduceLT, Nat.reduceAdd, Nat.reduceMul, Nat.reduceLeDiff, Nat.reduceEqDiff, decide_true, decide_false, reduceIte, and_true, true_and, i2, i3, i5]
    exact ⟨k - 1, by omega, ⟨_, rfl⟩, j + 1, by rw [IntWalk.i64_in _ (by omega)]; rfl, by omega⟩
end Cm

set_option linter.unusedVariables false
open Go Go.Vm Go.Proofs
namespace Cm
variable [Gl]
theorem hz73 : Tryz.prog.bytesOf 73 ≤ 2 ^ 16 ∧ (zeroOf Tryz.prog 73).map List.length = some 1 := of_decide_eq_true bytes73
theorem bits_len1 (bits : List Nat) : ∀ r ∈ bits.map bitC, r.length = 1 := by
  intro r hr
  obtain ⟨b, _, rfl⟩ := List.mem_map.1 hr
  rfl
/-- A new row out of what is appended to an empty one. -/
theorem rows_new {l : List Ob} {sz : Nat} {rs : List (List V)} (h : ∀ r ∈ rs, r.length = sz) {fz : Nat} {anc : List Vm.Id} {g : List Ob} : rows (l ++ .cells rs.flatten fz anc :: g) sz (.ref sz (idOf l.length) 0 rs.length) = some rs := by
  rw [rows_ref (c := rs.flatten) (by rw [gx0]; rfl) (by rw [flatten_len sz rs h]; omega), List.drop_zero, chunks_of sz rs h]
theorem sclone_run {memo : Memo} (hm : memo 85 = none) {l : List Ob} {vb : V} {bits : List Nat} (h1 : rows l 1 vb = some (bits.map bitC)) (hb : bits.length ≤ 1048576) (n : Nat) (hn : 1 ≤ n) :
    ∃ g v, callN Tryz.prog (memoBase memo) (drawOK Tryz.prog) n 85 [vb] (stL l) = some (v, stL (l ++ g)) ∧ ∀ l' : List Ob, l'.length = l.length → rows (l' ++ g) 1 v = some (bits.map bitC) := by
  obtain ⟨n, rfl⟩ : ∃ m, n = m + 1 := ⟨n - 1, by omega⟩
  suffices hs : ∃ v S', callN Tryz.prog (memoBase memo) (drawOK Tryz.prog) (n + 1) 85 [vb] (stL l) = some (v, S') ∧ (∃ g, S' = stL (l ++ g) ∧ ∀ l' : List Ob, l'.length = l.length → rows (l' ++ g) 1 v = some (bits.map bitC)) by
    obtain ⟨v, S', h, g, rfl, h2⟩ := hs; exact ⟨g, v, h, h2⟩
  refine run_fn hm Tryz.func85 rfl (by simp [Tryz.f85]) ?_
  refine Ev.seq rfl (Ev.reg' ?_)
  simp (maxSteps := 2000000) only [go_sem, Nat.reduceBEq, Nat.reduceLT, Nat.reduceAdd, Nat.reduceMul, Nat.reduceLeDiff, Nat.reduceEqDiff, decide_true, decide_false, reduceIte, and_true, true_and]
  refine Ev.seq rfl (Ev.seq rfl (Ev.reg' ?_))
  rcases rows_nils h1 with ⟨rfl, h2, h3⟩ | h2
  · simp (maxSteps := 2000000) only [go_sem, Nat.reduceBEq, Nat.reduceLT, Nat.reduceAdd, Nat.reduceMul, Nat.reduceLeDiff, Nat.reduceEqDiff, decide_true, decide_false, reduceIte, and_true, true_and, h2]
    refine Ev.cond' ?_
    simp (maxSteps := 2000000) only [go_sem, Nat.reduceBEq, Nat.reduceLT, Nat.reduceAdd, Nat.reduceMul, Nat.reduceLeDiff, Nat.reduceEqDiff, decide_true, decide_false, reduceIte, and_true, true_and]
    refine Ev.seq rfl (Ev.reg' ?_)
    simp (maxSteps := 2000000) only [go_sem, Nat.reduceBEq, Nat.reduceLT, Nat.reduceAdd, Nat.reduceMul, Nat.reduceLeDiff, Nat.reduceEqDiff, decide_true, decide_false, reduceIte, and_true, true_and]
    refine Ev.ret ?_
    simp (maxSteps := 2000000) only [go_sem, Nat.reduceBEq, Nat.reduceLT, Nat.reduceAdd, Nat.reduceMul, Nat.reduceLeDiff, Nat.reduceEqDiff, decide_true, decide_false, reduceIte, and_true, true_and]
    refine Ret.tmp rfl ?_
    simp (maxSteps := 2000000) only [go_sem, Nat.reduceBEq, Nat.reduceLT, Nat.reduceAdd, Nat.reduceMul, Nat.reduceLeDiff, Nat.reduceEqDiff, decide_true, decide_false, reduceIte, and_true, true_and]
    exact ⟨[], by simp, fun l' _ => by rw [h3]; rfl⟩
  simp (maxSteps := 2000000) only [go_sem, Nat.reduceBEq, Nat.reduceLT, Nat.reduceAdd, Nat.reduceMul, Nat.reduceLeDiff, Nat.reduceEqDiff, decide_true, decide_false, reduceIte, and_true, true_and, h2]
  refine Ev.cond' ?_
  simp (maxSteps := 2000000) only [go_sem, Nat.reduceBEq, Nat.reduceLT, Nat.reduceAdd, Nat.reduceMul, Nat.reduceLeDiff, Nat.reduceEqDiff, decide_true, decide_false, reduceIte, and_true, true_and]
  refine Ev.skip ?_
  simp (maxSteps := 2000000) only [go_sem, Nat.reduceBEq, Nat.reduceLT, Nat.reduceAdd, Nat.reduceMul, Nat.reduceLeDiff, Nat.reduceEqDiff, decide_true, decide_false, reduceIte, and_true, true_and]
  refine Ev.seq rfl (Ev.reg' ?_)
  cases hbits : bits with
  | nil =>
    rw [hbits] at h1
    have hap := append_none (P := Tryz.prog) Tryz.underlying22 sz73 (l := l ++ [.cells [] 0 []]) (k := l.length) (n := 0) (fz := 0) (c := []) (anc := []) (y := vb) (by rw [gx0]; rfl) rfl (rows_app h1)
    simp (maxSteps := 2000000) only [go_sem, Nat.reduceBEq, Nat.reduceLT, Nat.reduceAdd, Nat.reduceMul, Nat.reduceLeDiff, Nat.reduceEqDiff, decide_true, decide_false, reduceIte, and_true, true_and, Nat.zero_mul, Nat.zero_le, if_true, hap]
    refine Ev.ret (Ret.tmp rfl ?_)
    simp (maxSteps := 2000000) only [go_sem, Nat.reduceBEq, Nat.reduceLT, Nat.reduceAdd, Nat.reduceMul, Nat.reduceLeDiff, Nat.reduceEqDiff, decide_true, decide_false, reduceIte, and_true, true_and]
    exact ⟨_, rfl, fun l' hl => by rw [← hl, rows_ref (c := []) (by rw [gx0]; rfl) (by simp)]; rfl⟩
  | cons b bs =>
    rw [hbits] at h1
    have hap := append_ref (P := Tryz.prog) Tryz.underlying22 sz73 hz73 (l := l ++ [.cells [] 0 []]) (k := l.length) (n := 0) (fz := 0) (c := []) (anc := []) (y := vb) (r := bitC b) (rs := bs.map bitC) (by rw [gx0]; rfl) rfl (rows_app h1) (by rw [hbits] at hb; simp at hb ⊢; omega)
    simp (maxSteps := 2000000) only [go_sem, Nat.reduceBEq, Nat.reduceLT, Nat.reduceAdd, Nat.reduceMul, Nat.reduceLeDiff, Nat.reduceEqDiff, decide_true, decide_false, reduceIte, and_true, true_and, Nat.zero_mul, Nat.zero_le, if_true, hap]
    refine Ev.ret (Ret.tmp rfl ?_)
    simp (maxSteps := 2000000) only [go_sem, Nat.reduceBEq, Nat.reduceLT, Nat.reduceAdd, Nat.reduceMul, Nat.reduceLeDiff, Nat.reduceEqDiff, decide_true, decide_false, reduceIte, and_true, true_and]
    refine ⟨_, rfl, fun l' hl => ?_⟩
    rw [← hl]
    have := rows_new (l := l' ++ [.stale []]) (sz := 1) (rs := (b :: bs).map bitC) (bits_len1 _) (fz := 0) (anc := [idOf l'.length]) (g := [])
    simpa using this

theorem clone_run {memo : Memo} (hm47 : memo 47 = none) (hm85 : memo 85 = none) {l : List Ob} {vb : V} {s : Bool} {bits : List Nat} (h1 : rows l 1 vb = some (bits.map bitC)) (hb : bits.length ≤ 1048576) (n : Nat) (hn : 2 ≤ n) :
    ∃ g v, callN Tryz.prog (memoBase memo) (drawOK Tryz.prog) n 47 [.agg [vb, .bool s]] (stL l) = some (.agg [v, .bool s], stL (l ++ g)) ∧ ∀ l' : List Ob, l'.length = l.length → rows (l' ++ g) 1 v = some (bits.map bitC) := by
  obtain ⟨n, rfl⟩ : ∃ m, n = m + 1 := ⟨n - 1, by omega⟩
  suffices hs : ∃ u S', callN Tryz.prog (memoBase memo) (drawOK Tryz.prog) (n + 1) 47 [.agg [vb, .bool s]] (stL l) = some (u, S') ∧ (∃ g v, u = .agg [v, .bool s] ∧ S' = stL (l ++ g) ∧ ∀ l' : List Ob, l'.length = l.length → rows (l' ++ g) 1 v = some (bits.map bitC)) by
    obtain ⟨u, S', h, g, v, rfl, rfl, h2⟩ := hs; exact ⟨g, v, h, h2⟩
  refine run_fn hm47 Tryz.func47 rfl (by simp [Tryz.f47]) ?_
  have c1 := rows_cell h1
  obtain ⟨g0, v0, hcall, hrow⟩ := sclone_run hm85 (l := l ++ [.cells [vb, .bool s] 0 [], .cells [.nils, .bool false] 0 []]) (rows_app h1) hb n (by omega)
  simp only [List.append_assoc, List.cons_append, List.nil_append] at hcall
  have c2 : v0.isCell = true := rows_cell (hrow _ rfl)
  have c3 := okC_cell c2
  have c4 := cells_cell c2
  refine Ev.seq rfl (Ev.reg' ?_)
  simp (maxSteps := 2000000) only [go_sem, Nat.reduceBEq, Nat.reduceLT, Nat.reduceAdd, Nat.reduceMul, Nat.reduceLeDiff, Nat.reduceEqDiff, decide_true, decide_false, reduceIte, and_true, true_and]
  refine Ev.seq rfl (Ev.regDX rfl (by kernel_rfl) [(4, 2)] (by kernel_rfl) (fun T Z B R htr p hp => ?_) ?_)
  · simp only [List.mem_cons, List.not_mem_nil, or_false] at hp
    subst hp
    refine LookOK.of_load rfl ?_
    have a1 : T 4 6 = .ptr (idOf l.length) 1 := htr.at 4 (by decide) (X := fun t _ => t 6 = .ptr (idOf l.length) 1) (by simp (maxSteps := 2000000) only [go_sem, Nat.reduceBEq, Nat.reduceLT, Nat.reduceAdd, Nat.reduceMul, Nat.reduceLeDiff, Nat.reduceEqDiff, decide_true, decide_false, reduceIte, and_true, true_and, hcall, List.take_succ_cons])
    have a2 : Z 2 = stL (l ++ [.cells [vb, .bool s] 0 [], .cells [.nils, .bool false] 0 []]) := htr.at 2 (by decide) (X := fun _ S => S = stL (l ++ [.cells [vb, .bool s] 0 [], .cells [.nils, .bool false] 0 []])) (by simp (maxSteps := 2000000) only [go_sem, Nat.reduceBEq, Nat.reduceLT, Nat.reduceAdd, Nat.reduceMul, Nat.reduceLeDiff, Nat.reduceEqDiff, decide_true, decide_false, reduceIte, and_true, true_and, hcall, List.take_succ_cons])
    have a3 : Z 3 = stL (l ++ .cells [vb, .bool s] 0 [] :: .cells [.nils, .bool false] 0 [] :: g0) := htr.at 3 (by decide) (X := fun _ S => S = stL (l ++ .cells [vb, .bool s] 0 [] :: .cells [.nils, .bool false] 0 [] :: g0)) (by simp (maxSteps := 2000000) only [go_sem, Nat.reduceBEq, Nat.reduceLT, Nat.reduceAdd, Nat.reduceMul, Nat.reduceLeDiff, Nat.reduceEqDiff, decide_true, decide_false, reduceIte, and_true, true_and, hcall, List.take_succ_cons])
    simp (maxSteps := 2000000) only [go_sem, Nat.reduceBEq, Nat.reduceLT, Nat.reduceAdd, Nat.reduceMul, Nat.reduceLeDiff, Nat.reduceEqDiff, decide_true, decide_false, reduceIte, and_true, true_and, a1, a2, a3]
  simp (maxSteps := 2000000) only [go_sem, Nat.reduceBEq, Nat.reduceLT, Nat.reduceAdd, Nat.reduceMul, Nat.reduceLeDiff, Nat.reduceEqDiff, decide_true, decide_false, reduceIte, and_true, true_and, hcall, c2, c3, c4, over, List.nil_append, Nat.le_refl]
  refine Ev.ret (Ret.cell rfl (v := .agg [v0, .bool s]) (by simp (maxSteps := 2000000) only [go_sem, Nat.reduceBEq, Nat.reduceLT, Nat.reduceAdd, Nat.reduceMul, Nat.reduceLeDiff, Nat.reduceEqDiff, decide_true, decide_false, reduceIte, and_true, true_and]) ?_)
  refine ⟨_, v0, rfl, rfl, fun l' hl => ?_⟩
  have := hrow (l' ++ [.cells [vb, .bool s] 0 [], .cells [v0, .bool s] 0 []]) (by simp [hl])
  simpa using this
end Cm

set_option linter.unusedVariables false
open Go Go.Vm Go.Proofs
namespace Cm
variable [Gl]
/-- The constant of a name. -/
def find (name : List Nat) : List Cst → Option Cst
  | [] => none
  | c :: r => if c.name = name then some c else find name r
mutual
def subst (L : List Cst) : Ex → Ex
  | .mk op name bits vs args sig wid sg => match (if op = 2 then find name L else none) with
    | some c => .mk 1 [] c.bits c.sg [] 0 0 false
    | none => .mk op name bits vs (substL L args) sig wid sg
def substL (L : List Cst) : List Ex → List Ex
  | [] => []
  | x :: r => subst L x :: substL L r
end
theorem substL_len (L : List Cst) : ∀ (xs : List Ex), (substL L xs).length = xs.length
  | [] => rfl
  | x :: r => by simp [substL, substL_len L r]
theorem substL_snoc (L : List Cst) : ∀ (xs : List Ex) (x : Ex), substL L (xs ++ [x]) = substL L xs ++ [subst L x]
  | [], x => rfl
  | y :: r, x => by simp [substL, substL_snoc L r x]
theorem RdL.snoc {l : List Ob} {x : Ex} {c : List V} (hx : RdE l x c) : ∀ {xs : List Ex} {rs : List (List V)}, RdL l xs rs → RdL l (xs ++ [x]) (rs ++ [c])
  | [], rs, h => by have h : rs = [] := h; subst h; exact ⟨c, [], rfl, hx, rfl⟩
  | y :: r, rs, ⟨d, q, h1, h2, h3⟩ => by subst h1; exact ⟨d, q ++ [c], rfl, h2, RdL.snoc hx h3⟩
theorem chunks_snoc (es : Nat) : ∀ (n : Nat) (l m : List V), l.length = n * es → m.length = es → chunks es (n + 1) (l ++ m) = chunks es n l ++ [m]
  | 0, l, m, h, hm => by
    have : l = [] := List.eq_nil_of_length_eq_zero (by omega)
    subst this; subst hm
    simp [chunks]
  | n + 1, l, m, h, hm => by
    have e : (n + 1) * es = es + n * es := by rw [Nat.add_mul]; omega
    have hle : es ≤ l.length := by omega
    rw [chunks, List.take_append_of_le_length hle, List.drop_append_of_le_length hle, chunks_snoc es n (l.drop es) m (by simp; omega) hm]
    rfl
noncomputable abbrev eqS : V → V → Option Bool := eqOf Tryz.prog (.plain .string)
def MapOK (l : List Ob) (M : List (V × V)) (L : List Cst) : Prop := ∀ name, match find name L with
  | none => findM eqS (.str name) M = some none
  | some c => c.bits.length ≤ 300 ∧ ∃ vb, findM eqS (.str name) M = some (some (.agg [vb, .bool c.sg])) ∧ rows l 1 vb = some (c.bits.map bitC)
theorem MapOK.app {l g : List Ob} {M : List (V × V)} {L : List Cst} (h : MapOK l M L) : MapOK (l ++ g) M L := by
  intro name
  have := h name
  cases e : find name L with
  | none => rw [e] at this; exact this
  | some c =>
    rw [e] at this
    obtain ⟨h1, vb, h2, h3⟩ := this
    exact ⟨h1, vb, h2, rows_app h3⟩
abbrev fv (kv ks : Nat) : V := .fn 46 [] [.ptr (idOf kv) 0, .ptr (idOf ks) 0]
structure Sub (l : List Ob) (L : List Cst) (kv km ks : Nat) (M : List (V × V)) : Prop where
  v : l[kv]? = some (.cells [.map (idOf km)] 0 [])
  m : l[km]? = some (.map M)
  s : l[ks]? = some (.cells [fv kv ks] 0 [])
  ok : MapOK l M L
theorem get_app {l g : List Ob} {k : Nat} {o : Ob} (h : l[k]? = some o) : (l ++ g)[k]? = some o := by
  rw [List.getElem?_append_left (List.getElem?_eq_some_iff.1 h).1]; exact h
theorem Sub.app {l g : List Ob} {L : List Cst} {kv km ks : Nat} {M : List (V × V)} (h : Sub l L kv km ks M) : Sub (l ++ g) L kv km ks M := ⟨get_app h.v, get_app h.m, get_app h.s, h.ok.app⟩
@[go_sem] theorem simple103 : simpleK Tryz.prog 103 = some (.plain .string, 24) := by kernel_rfl
theorem zeroV24 : zeroV Tryz.prog 24 = some (.agg [.nils, .bool false]) := by kernel_rfl
theorem look_some {l : List Ob} {k : Nat} {M : List (V × V)} {s : List Nat} {v : V} (hm : l[k]? = some (.map M)) (hf : findM eqS (.str s) M = some (some v)) : opLookup Tryz.prog 103 (.map (idOf k)) (.str s) true (stL l) = some (.tup [v, .bool true]) := by
  have hf : findM (eqOf Tryz.prog (.plain .string)) (.str s) M = some (some v) := hf
  simp only [opLookup, simple103, keyFit, mapCells, stL_get, hm, Option.getD_some, hf, if_true]
theorem look_none {l : List Ob} {k : Nat} {M : List (V × V)} {s : List Nat} (hm : l[k]? = some (.map M)) (hf : findM eqS (.str s) M = some none) : opLookup Tryz.prog 103 (.map (idOf k)) (.str s) true (stL l) = some (.tup [.agg [.nils, .bool false], .bool false]) := by
  have hf : findM (eqOf Tryz.prog (.plain .string)) (.str s) M = some none := hf
  simp only [opLookup, simple103, keyFit, mapCells, stL_get, hm, Option.getD_some, hf, if_true, zeroV24]
/-- What the function that substitutes gives. -/
def SubOK (memo : Memo) (L : List Cst) (x : Ex) : Prop := ∀ (l : List Ob) (c : List V) (kv km ks : Nat) (M : List (V × V)), RdE l x c → Sub l L kv km ks M → wideS x = false → ∀ (n : Nat), 2 * nodes x + 8 ≤ n →
  ∃ g c', callN Tryz.prog (memoBase memo) (drawOK Tryz.prog) n 46 [.agg c, .ptr (idOf kv) 0, .ptr (idOf ks) 0] (stL l) = some (.agg c', stL (l ++ g)) ∧ ∀ l' : List Ob, l'.length = l.length → RdE (l' ++ g) (subst L x) c'
theorem repl_len (n : Nat) (z : List V) : (repl n z).length = n * z.length := by
  induction n with
  | zero => simp [repl]
  | succ n ih => simp only [repl, List.replicate_succ, List.flatten_cons, List.length_append] at ih ⊢; rw [ih, Nat.add_mul]; omega
theorem repl_succ (n : Nat) (z : List V) : repl (n + 1) z = z ++ repl n z := by simp [repl, List.replicate_succ]
abbrev z27 : List V := [.int .u8 0, .str [], .nils, .bool false, .nils, .int .i64 0, .int .i64 0, .bool false]
theorem mk25 (n : Nat) (l : List Ob) (h : n ≤ 16777216) : opMakeSlice Tryz.prog 25 (.int .i64 (n : Int)) (.int .i64 (n : Int)) (stL l) = some (.ref 8 (idOf l.length) 0 n, stL (l ++ [.cells (repl n z27) 0 []])) := by
  have hb : Tryz.prog.bytesOf 27 ≤ 2 ^ 16 := by
    have : decide (Tryz.prog.bytesOf 27 ≤ 2 ^ 16) = true := by kernel_rfl
    exact of_decide_eq_true this
  simp only [opMakeSlice, Tryz.underlying25, zero27, sz27, asIdx_nat]
  rw [if_pos ⟨Nat.le_refl _, h, hb, rfl⟩, opRow_stL]
/-- Writing an element. -/
theorem over_elem {D c z : List V} {j m es : Nat} (hD : D.length = j * es) (hc : c.length = es) (hz : z.length = es) : over (D ++ repl (m + 1) z) (j * es) c = D ++ c ++ repl m z := by
  rw [repl_succ]
  simp only [over]
  rw [← hD, List.take_left, show D.length + c.length = D.length + z.length by omega, List.drop_append, List.drop_of_length_le (by omega), show D.length + z.length - D.length = z.length by omega, List.drop_left, List.nil_append]
theorem each_run {memo : Memo} (hm40 : memo 40 = none) {L : List Cst} (args : List Ex) (hsub : ∀ x ∈ args, SubOK memo L x) (l : List Ob) (va : V) (rs : List (List V)) (kv km ks : Nat) (M : List (V × V)) (hva : rows l 8 va = some rs) (hrs : RdL l args rs) (hS : Sub l L kv km ks M) (hw : wideSL args = false)
    (hal : args.length ≤ 1048576) (n : Nat) (hn : 2 * nodesL args + 9 ≤ n) :
    ∃ g v rs', callN Tryz.prog (memoBase memo) (drawOK Tryz.prog) n 40 [va, fv kv ks] (stL l) = some (v, stL (l ++ g)) ∧ ∀ l' : List Ob, l'.length = l.length → rows (l' ++ g) 8 v = some rs' ∧ RdL (l' ++ g) (substL L args) rs' := by
  obtain ⟨n, rfl⟩ : ∃ m, n = m + 1 := ⟨n - 1, by omega⟩
  suffices hs : ∃ v S', callN Tryz.prog (memoBase memo) (drawOK Tryz.prog) (n + 1) 40 [va, fv kv ks] (stL l) = some (v, S') ∧ (∃ g rs', S' = stL (l ++ g) ∧ ∀ l' : List Ob, l'.length = l.length → rows (l' ++ g) 8 v = some rs' ∧ RdL (l' ++ g) (substL L args) rs') by
    obtain ⟨v, S', h, g, rs', rfl, h2⟩ := hs; exact ⟨g, v, rs', h, h2⟩
  refine run_fn hm40 Tryz.func40 rfl (by simp [Tryz.f40]) ?_
  have l1 := rows_len hva
  rw [hrs.len] at l1
  have hmk := mk25 args.length l (by omega)
  have hnl := nodesL_len args
  refine Ev.seq rfl (Ev.reg' ?_)
  simp (maxSteps := 2000000) only [go_sem, Nat.reduceBEq, Nat.reduceLT, Nat.reduceAdd, Nat.reduceMul, Nat.reduceLeDiff, Nat.reduceEqDiff, decide_true, decide_false, reduceIte, and_true, true_and]
  refine Ev.seq rfl (Ev.reg' ?_)
  simp (maxSteps := 2000000) only [go_sem, Nat.reduceBEq, Nat.reduceLT, Nat.reduceAdd, Nat.reduceMul, Nat.reduceLeDiff, Nat.reduceEqDiff, decide_true, decide_false, reduceIte, and_true, true_and, l1, hmk]
  refine Ev.seq rfl (Ev.seq rfl (Ev.reg' ?_))
  simp (maxSteps := 2000000) only [go_sem, Nat.reduceBEq, Nat.reduceLT, Nat.reduceAdd, Nat.reduceMul, Nat.reduceLeDiff, Nat.reduceEqDiff, decide_true, decide_false, reduceIte, and_true, true_and, l1]
  refine Ev.block (Ev.loop (fun k t S => t 1 = fv kv ks ∧ t 5 = .ref 8 (idOf l.length) 0 args.length ∧ t 11 = va ∧ t 12 = .int .i64 (args.length : Int) ∧ ∃ j : Nat, t 13 = .int .i64 (j : Int) ∧ j + k = args.length ∧
    ∃ D g, D.length = j * 8 ∧ S = stL (l ++ .cells (D ++ repl k z27) 0 [] :: g) ∧ ∀ l' : List Ob, l'.length = l.length + 1 → RdL (l' ++ g) (substL L (args.take j)) (chunks 8 j D)) args.length (by omega) ?_ ?_)
  · simp (maxSteps := 2000000) only [go_sem, Nat.reduceBEq, Nat.reduceLT, Nat.reduceAdd, Nat.reduceMul, Nat.reduceLeDiff, Nat.reduceEqDiff, decide_true, decide_false, reduceIte, and_true, true_and]
    exact ⟨0, rfl, by omega, [], [], rfl, by simp, fun l' _ => rfl⟩
  intro k t S ⟨i1, i5, i11, i12, j, i13, hjk, D, g, hD, iS, hpre⟩
  subst iS
  refine Ev.seq rfl (Ev.reg' ?_)
  simp (maxSteps := 2000000) only [go_sem, Nat.reduceBEq, Nat.reduceLT, Nat.reduceAdd, Nat.reduceMul, Nat.reduceLeDiff, Nat.reduceEqDiff, decide_true, decide_false, reduceIte, and_true, true_and, i12, i13]
  refine Ev.seq rfl (Ev.cond' ?_)
  simp (maxSteps := 2000000) only [go_sem, Nat.reduceBEq, Nat.reduceLT, Nat.reduceAdd, Nat.reduceMul, Nat.reduceLeDiff, Nat.reduceEqDiff, decide_true, decide_false, reduceIte, and_true, true_and]
  by_cases hj : (j : Int) < (args.length : Int)
  rotate_left
  · have hj' : ¬ j < args.length := fun h => hj (by exact_mod_cast h)
    simp only [hj, decide_false, wpC_false]
    refine Ev.exit ?_
    simp (maxSteps := 2000000) only [go_sem, Nat.reduceBEq, Nat.reduceLT, Nat.reduceAdd, Nat.reduceMul, Nat.reduceLeDiff, Nat.reduceEqDiff, decide_true, decide_false, reduceIte, and_true, true_and]
    refine Ev.seq rfl (Ev.reg' ?_)
    simp (maxSteps := 2000000) only [go_sem, Nat.reduceBEq, Nat.reduceLT, Nat.reduceAdd, Nat.reduceMul, Nat.reduceLeDiff, Nat.reduceEqDiff, decide_true, decide_false, reduceIte, and_true, true_and, i5]
    refine Ev.ret (Ret.tmp rfl ?_)
    simp (maxSteps := 2000000) only [go_sem, Nat.reduceBEq, Nat.reduceLT, Nat.reduceAdd, Nat.reduceMul, Nat.reduceLeDiff, Nat.reduceEqDiff, decide_true, decide_false, reduceIte, and_true, true_and]
    have hk : k = 0 := by omega
    subst hk
    have hjl : j = args.length := by omega
    subst hjl
    refine ⟨_, chunks 8 args.length D, rfl, fun l' hl => ⟨?_, ?_⟩⟩
    · rw [← hl, rows_ref (c := D) (by rw [gx0]; simp [repl, obFull]) (by omega), List.drop_zero]
    · have := hpre (l' ++ [.cells D 0 []]) (by simp [hl])
      rw [List.take_length] at this
      simpa [repl] using this
  have hj' : j < args.length := by exact_mod_cast hj
  obtain ⟨y, hy⟩ : ∃ y, args[j]? = some y := ⟨args[j], List.getElem?_eq_getElem hj'⟩
  obtain ⟨cy, hcy, hry⟩ := hrs.get hy
  obtain ⟨k, rfl⟩ : ∃ m, k = m + 1 := ⟨k - 1, by omega⟩
  obtain ⟨a, ra, ha1, ha2⟩ := rows_idx (rows_app (g := .cells (D ++ repl (k + 1) z27) 0 [] :: g) hva) hcy .i64
  have hyn := nodesL_get hy
  have hcy8 := hry.len
  obtain ⟨g2, c', hcall, hres⟩ := hsub y (List.mem_of_getElem? hy) (l ++ .cells (D ++ repl (k + 1) z27) 0 [] :: (g ++ [.cells cy 0 []])) cy kv km ks M hry.app hS.app (wideSL_get hy hw) n (by omega)
  have hc8 := (hres _ rfl).len
  have hix : idxAddr 8 (.ref 8 (idOf l.length) 0 args.length) (.int .i64 (j : Int)) = some (.ptr (idOf l.length) (j * 8)) := by rw [idxAddr_ref, if_pos hj', Nat.zero_add]
  have hov := over_elem (D := D) (c := c') (z := z27) (j := j) (m := k) (es := 8) hD hc8 rfl
  have hle : j * 8 + 8 ≤ D.length + (repl (k + 1) z27).length := by rw [repl_len, hD]; simp only [List.length_cons, List.length_nil]; omega
  have hall : over z27 0 cy = cy := over_all _ _ (by rw [hcy8]; rfl)
  simp only [List.append_assoc, List.cons_append, List.nil_append] at hcall
  simp only [hj, decide_true, wpC_true]
  refine Ev.skip ?_
  simp (maxSteps := 2000000) only [go_sem, Nat.reduceBEq, Nat.reduceLT, Nat.reduceAdd, Nat.reduceMul, Nat.reduceLeDiff, Nat.reduceEqDiff, decide_true, decide_false, reduceIte, and_true, true_and]
  refine Ev.seq rfl (Ev.block (Ev.seq rfl (Ev.reg' ?_)))
  simp (maxSteps := 2000000) only [go_sem, Nat.reduceBEq, Nat.reduceLT, Nat.reduceAdd, Nat.reduceMul, Nat.reduceLeDiff, Nat.reduceEqDiff, decide_true, decide_false, reduceIte, and_true, true_and, i1, i5, i11, i12, i13, ha1, ha2, takeN_app hcy8, hcy8, hall]
  refine Ev.reg' ?_
  simp (maxSteps := 2000000) only [go_sem, Nat.reduceBEq, Nat.reduceLT, Nat.reduceAdd, Nat.reduceMul, Nat.reduceLeDiff, Nat.reduceEqDiff, decide_true, decide_false, reduceIte, and_true, true_and, i1, i5, i11, i12, i13, hcy8, Nat.reduceLeDiff, Nat.le_refl, List.take_of_length_le, hcall, hix, hc8, hle, hov, Nat.zero_le, if_true]
  refine Ev.reg' ?_
  simp (maxSteps := 2000000) only [go_sem, Nat.reduceBEq, Nat.reduceLT, Nat.reduceAdd, Nat.reduceMul, Nat.reduceLeDiff, Nat.reduceEqDiff, decide_true, decide_false, reduceIte, and_true, true_and, i1, i5, i11, i12, i13]
  refine ⟨k, by omega, j + 1, by rw [IntWalk.i64_in _ (by omega)]; rfl, by omega, D ++ c', g ++ .cells cy 0 [] :: g2, by rw [List.length_append, hD, hc8]; omega, by simp, fun l' hl => ?_⟩
  have e1 : args.take (j + 1) = args.take j ++ [y] := by rw [List.take_add_one, hy]; rfl
  rw [e1, substL_snoc, chunks_snoc 8 j D c' hD hc8]
  have h1 := (hpre l' hl).app (g := .cells cy 0 [] :: g2)
  have h2 := hres (l' ++ (g ++ [.cells cy 0 []])) (by simp only [List.length_append, List.length_cons, List.length_nil, hl]; omega)
  simp only [List.append_assoc, List.cons_append, List.nil_append] at h1 h2 ⊢
  exact RdL.snoc h2 h1
end Cm

set_option linter.unusedVariables false
open Go Go.Vm Go.Proofs
namespace Cm
variable [Gl]
theorem nodesL_mem : ∀ {xs : List Ex} {x : Ex}, x ∈ xs → nodes x ≤ nodesL xs
  | [], x, h => by simp at h
  | y :: r, x, h => by
    rcases List.mem_cons.1 h with e | e
    · subst e; simp only [nodesL]; omega
    · have := nodesL_mem e; simp only [nodesL]; omega
theorem wideSL_mem : ∀ {xs : List Ex} {x : Ex}, x ∈ xs → wideSL xs = false → wideS x = false
  | [], x, h, _ => by simp at h
  | y :: r, x, h, hw => by
    simp only [wideSL, Bool.or_eq_false_iff] at hw
    rcases List.mem_cons.1 h with e | e
    · subst e; exact hw.1
    · exact wideSL_mem e hw.2
set_option maxHeartbeats 1000000 in
theorem subst_run {memo : Memo} (hm40 : memo 40 = none) (hm46 : memo 46 = none) (hm47 : memo 47 = none) (hm85 : memo 85 = none) (L : List Cst) : ∀ (N : Nat) (x : Ex), nodes x ≤ N → nodes x ≤ 1048576 → SubOK memo L x
  | 0, x, hN, _ => by have := nodes_pos x; omega
  | N + 1, .mk op name bits vs args sig wid sg, hN, hbd => by
    intro l c kv km ks M hx hS hw n hn
    obtain ⟨n, rfl⟩ : ∃ m, n = m + 1 := ⟨n - 1, by omega⟩
    obtain ⟨vb, va, rs, rfl, hvb, hva, hrs⟩ := hx
    have hnL : nodes (.mk op name bits vs args sig wid sg) = 1 + nodesL args := by simp only [nodes]
    have hal := nodesL_len args
    have hwL : wideSL args = false ∧ bits.length ≤ 300 := by
      simp only [wideS, Bool.or_eq_false_iff, decide_eq_false_iff_not] at hw
      exact ⟨hw.2, by omega⟩
    suffices hs : ∃ u S', callN Tryz.prog (memoBase memo) (drawOK Tryz.prog) (n + 1) 46 [.agg [.int .u8 (op : Int), .str name, vb, .bool vs, va, .int .i64 sig, .int .i64 wid, .bool sg], .ptr (idOf kv) 0, .ptr (idOf ks) 0] (stL l) = some (u, S') ∧
        (∃ g c', u = .agg c' ∧ S' = stL (l ++ g) ∧ ∀ l' : List Ob, l'.length = l.length → RdE (l' ++ g) (subst L (.mk op name bits vs args sig wid sg)) c') by
      obtain ⟨u, S', h, g, c', rfl, rfl, h2⟩ := hs; exact ⟨g, c', h, h2⟩
    refine run_fn hm46 Tryz.func46 rfl (by simp [Tryz.f46]) ?_
    have c1 := rows_cell hvb
    have c2 := rows_cell hva
    have key : ∀ (t : Tm) (o3 : Ob), t 2 = .ptr (idOf ks) 0 → t 3 = .ptr (idOf l.length) 0 → t 4 = .ptr (idOf (l.length + 1)) 0 → find name L = none ∨ op ≠ 2 →
        Ev Tryz.prog Tryz.f46.ntmps n (callN Tryz.prog (memoBase memo) (drawOK Tryz.prog) n) (sndC (sndC (bodyC Tryz.f46))) t (stL (l ++ [.cells [.int .u8 (op : Int), .str name, vb, .bool vs, va, .int .i64 sig, .int .i64 wid, .bool sg] 0 [], .cells z27 0 [], o3])) (Ret Tryz.prog Tryz.f46 fun u S' => ∃ g c', u = .agg c' ∧ S' = stL (l ++ g) ∧ ∀ l' : List Ob, l'.length = l.length → RdE (l' ++ g) (subst L (.mk op name bits vs args sig wid sg)) c') := by
      intro t o3 i2 i3 i4 hno
      obtain ⟨g1, v1, hc1, hr1⟩ := clone_run hm47 hm85 (l := l ++ [.cells [.int .u8 (op : Int), .str name, vb, .bool vs, va, .int .i64 sig, .int .i64 wid, .bool sg] 0 [], .cells z27 0 [], o3]) (s := vs) (rows_app hvb) (by omega) n (by omega)
      obtain ⟨g2, v2, rs2, hc2, hr2⟩ := each_run hm40 args (fun y hy => subst_run hm40 hm46 hm47 hm85 L N y (by have := nodesL_mem hy; omega) (by have := nodesL_mem hy; omega)) (l ++ .cells [.int .u8 (op : Int), .str name, vb, .bool vs, va, .int .i64 sig, .int .i64 wid, .bool sg] 0 [] :: .cells z27 0 [] :: o3 :: g1) va rs kv km ks M (rows_app hva) hrs.app hS.app hwL.1 (by omega) n (by omega)
      have hks := get_app (g := .cells [.int .u8 (op : Int), .str name, vb, .bool vs, va, .int .i64 sig, .int .i64 wid, .bool sg] 0 [] :: .cells z27 0 [] :: o3 :: g1) hS.s
      have hks0 := get_app (g := [.cells [.int .u8 (op : Int), .str name, vb, .bool vs, va, .int .i64 sig, .int .i64 wid, .bool sg] 0 [], .cells z27 0 [], o3]) hS.s
      have c3 := rows_cell (hr1 _ rfl)
      have c4 := rows_cell (hr2 _ rfl).1
      simp only [List.append_assoc, List.cons_append, List.nil_append] at hc1 hc2
      refine Ev.seq rfl (Ev.regDX rfl (by kernel_rfl) [(4, 2), (5, 2)] (by kernel_rfl) (fun T Z B R htr p hp => ?_) ?_)
      · have a1 : T 4 26 = .ptr (idOf l.length) 4 := htr.at 4 (by decide) (X := fun t _ => t 26 = .ptr (idOf l.length) 4) (by simp (maxSteps := 2000000) only [go_sem, Nat.reduceBEq, Nat.reduceLT, Nat.reduceAdd, Nat.reduceMul, Nat.reduceLeDiff, Nat.reduceEqDiff, decide_true, decide_false, reduceIte, and_true, true_and, i2, i3, hc1, List.take_succ_cons])
        have a2 : T 5 2 = .ptr (idOf ks) 0 := htr.at 5 (by decide) (X := fun t _ => t 2 = .ptr (idOf ks) 0) (by simp (maxSteps := 2000000) only [go_sem, Nat.reduceBEq, Nat.reduceLT, Nat.reduceAdd, Nat.reduceMul, Nat.reduceLeDiff, Nat.reduceEqDiff, decide_true, decide_false, reduceIte, and_true, true_and, i2, i3, hc1, List.take_succ_cons])
        have a3 : Z 2 = stL (l ++ [.cells [.int .u8 (op : Int), .str name, vb, .bool vs, va, .int .i64 sig, .int .i64 wid, .bool sg] 0 [], .cells z27 0 [], o3]) := htr.at 2 (by decide) (X := fun _ S => S = stL (l ++ [.cells [.int .u8 (op : Int), .str name, vb, .bool vs, va, .int .i64 sig, .int .i64 wid, .bool sg] 0 [], .cells z27 0 [], o3])) (by simp (maxSteps := 2000000) only [go_sem, Nat.reduceBEq, Nat.reduceLT, Nat.reduceAdd, Nat.reduceMul, Nat.reduceLeDiff, Nat.reduceEqDiff, decide_true, decide_false, reduceIte, and_true, true_and, i2, i3, List.take_succ_cons])
        have a4 : Z 3 = stL (l ++ .cells [.int .u8 (op : Int), .str name, vb, .bool vs, va, .int .i64 sig, .int .i64 wid, .bool sg] 0 [] :: .cells z27 0 [] :: o3 :: g1) := htr.at 3 (by decide) (X := fun _ S => S = stL (l ++ .cells [.int .u8 (op : Int), .str name, vb, .bool vs, va, .int .i64 sig, .int .i64 wid, .bool sg] 0 [] :: .cells z27 0 [] :: o3 :: g1)) (by simp (maxSteps := 2000000) only [go_sem, Nat.reduceBEq, Nat.reduceLT, Nat.reduceAdd, Nat.reduceMul, Nat.reduceLeDiff, Nat.reduceEqDiff, decide_true, decide_false, reduceIte, and_true, true_and, i2, i3, hc1, List.take_succ_cons])
        simp only [List.mem_cons, List.not_mem_nil, or_false] at hp
        rcases hp with rfl | rfl
        · refine LookOK.of_load rfl ?_
          simp (maxSteps := 2000000) only [go_sem, Nat.reduceBEq, Nat.reduceLT, Nat.reduceAdd, Nat.reduceMul, Nat.reduceLeDiff, Nat.reduceEqDiff, decide_true, decide_false, reduceIte, and_true, true_and, a1, a3, a4]
        · refine LookOK.of_load rfl ?_
          simp (maxSteps := 2000000) only [go_sem, Nat.reduceBEq, Nat.reduceLT, Nat.reduceAdd, Nat.reduceMul, Nat.reduceLeDiff, Nat.reduceEqDiff, decide_true, decide_false, reduceIte, and_true, true_and, a2, a3, a4, hks, hks0]
      simp (maxSteps := 2000000) only [go_sem, Nat.reduceBEq, Nat.reduceLT, Nat.reduceAdd, Nat.reduceMul, Nat.reduceLeDiff, Nat.reduceEqDiff, decide_true, decide_false, reduceIte, and_true, true_and, i2, i3, i4, hc1, hc2, hks, c3, c4, over]
      refine Ev.seq rfl (Ev.reg' ?_)
      simp (maxSteps := 2000000) only [go_sem, Nat.reduceBEq, Nat.reduceLT, Nat.reduceAdd, Nat.reduceMul, Nat.reduceLeDiff, Nat.reduceEqDiff, decide_true, decide_false, reduceIte, and_true, true_and, i3, i4, over]
      refine Ev.ret (Ret.cell rfl (v := .agg [.int .u8 (op : Int), .str name, v1, .bool vs, v2, .int .i64 sig, .int .i64 wid, .bool sg]) (by simp (maxSteps := 2000000) only [go_sem, Nat.reduceBEq, Nat.reduceLT, Nat.reduceAdd, Nat.reduceMul, Nat.reduceLeDiff, Nat.reduceEqDiff, decide_true, decide_false, reduceIte, and_true, true_and, i4]) ?_)
      refine ⟨_, [.int .u8 (op : Int), .str name, v1, .bool vs, v2, .int .i64 sig, .int .i64 wid, .bool sg], rfl, rfl, fun l' hl => ?_⟩
      have e : subst L (.mk op name bits vs args sig wid sg) = .mk op name bits vs (substL L args) sig wid sg := by
        simp only [subst]
        rcases hno with h | h
        · rw [h]; simp
        · simp [h]
      rw [e]
      have h1 := hr1 (l' ++ [.cells [.int .u8 (op : Int), .str name, v1, .bool vs, v2, .int .i64 sig, .int .i64 wid, .bool sg] 0 [], .cells [.int .u8 (op : Int), .str name, v1, .bool vs, v2, .int .i64 sig, .int .i64 wid, .bool sg] 0 [], o3]) (by simp [hl])
      have h2 := hr2 (l' ++ .cells [.int .u8 (op : Int), .str name, v1, .bool vs, v2, .int .i64 sig, .int .i64 wid, .bool sg] 0 [] :: .cells [.int .u8 (op : Int), .str name, v1, .bool vs, v2, .int .i64 sig, .int .i64 wid, .bool sg] 0 [] :: o3 :: g1) (by simp [hl])
      simp only [List.append_assoc, List.cons_append, List.nil_append] at h1 h2 ⊢
      refine ⟨v1, v2, rs2, rfl, ?_, h2.1, h2.2⟩
      have := rows_app (g := g2) h1
      simpa using this
    refine Ev.seq rfl (Ev.reg' ?_)
    simp (maxSteps := 2000000) only [go_sem, Nat.reduceBEq, Nat.reduceLT, Nat.reduceAdd, Nat.reduceMul, Nat.reduceLeDiff, Nat.reduceEqDiff, decide_true, decide_false, reduceIte, and_true, true_and]
    have hS1 := hS.app (g := [.cells [.int .u8 (op : Int), .str name, vb, .bool vs, va, .int .i64 sig, .int .i64 wid, .bool sg] 0 [], .cells z27 0 []])
    have hfind := hS1.ok name
    have hkv := hS1.v
    refine Ev.seq rfl (Ev.seq rfl (Ev.reg' ?_))
    cases hf : find name L with
    | none =>
      simp only [hf] at hfind
      have hlk := look_none hS1.m hfind
      simp (maxSteps := 2000000) only [go_sem, Nat.reduceBEq, Nat.reduceLT, Nat.reduceAdd, Nat.reduceMul, Nat.reduceLeDiff, Nat.reduceEqDiff, decide_true, decide_false, reduceIte, and_true, true_and, hkv, hlk, over_all]
      refine Ev.seq rfl (Ev.reg' ?_)
      simp (maxSteps := 2000000) only [go_sem, Nat.reduceBEq, Nat.reduceLT, Nat.reduceAdd, Nat.reduceMul, Nat.reduceLeDiff, Nat.reduceEqDiff, decide_true, decide_false, reduceIte, and_true, true_and]
      refine Ev.cond' ?_
      simp (maxSteps := 2000000) only [go_sem, Nat.reduceBEq, Nat.reduceLT, Nat.reduceAdd, Nat.reduceMul, Nat.reduceLeDiff, Nat.reduceEqDiff, decide_true, decide_false, reduceIte, and_true, true_and]
      refine Ev.skip ?_
      simp (maxSteps := 2000000) only [go_sem, Nat.reduceBEq, Nat.reduceLT, Nat.reduceAdd, Nat.reduceMul, Nat.reduceLeDiff, Nat.reduceEqDiff, decide_true, decide_false, reduceIte, and_true, true_and]
      refine key _ _ ?_ ?_ ?_ (.inl hf)
      · simp (maxSteps := 2000000) only [go_sem, Nat.reduceBEq, Nat.reduceLT, Nat.reduceAdd, Nat.reduceMul, Nat.reduceLeDiff, Nat.reduceEqDiff, decide_true, decide_false, reduceIte, and_true, true_and]
      · simp (maxSteps := 2000000) only [go_sem, Nat.reduceBEq, Nat.reduceLT, Nat.reduceAdd, Nat.reduceMul, Nat.reduceLeDiff, Nat.reduceEqDiff, decide_true, decide_false, reduceIte, and_true, true_and]
      · simp (maxSteps := 2000000) only [go_sem, Nat.reduceBEq, Nat.reduceLT, Nat.reduceAdd, Nat.reduceMul, Nat.reduceLeDiff, Nat.reduceEqDiff, decide_true, decide_false, reduceIte, and_true, true_and]
    | some cst =>
      simp only [hf] at hfind
      obtain ⟨hcb, vc, hfm, hvc⟩ := hfind
      have hlk := look_some hS1.m hfm
      have d1 := rows_cell hvc
      simp (maxSteps := 2000000) only [go_sem, Nat.reduceBEq, Nat.reduceLT, Nat.reduceAdd, Nat.reduceMul, Nat.reduceLeDiff, Nat.reduceEqDiff, decide_true, decide_false, reduceIte, and_true, true_and, hkv, hlk, over_all]
      refine Ev.seq rfl (Ev.reg' ?_)
      cases ho : ((op : Int) == 2) with
      | false =>
        simp (maxSteps := 2000000) only [go_sem, Nat.reduceBEq, Nat.reduceLT, Nat.reduceAdd, Nat.reduceMul, Nat.reduceLeDiff, Nat.reduceEqDiff, decide_true, decide_false, reduceIte, and_true, true_and, ho]
        refine Ev.cond' ?_
        simp (maxSteps := 2000000) only [go_sem, Nat.reduceBEq, Nat.reduceLT, Nat.reduceAdd, Nat.reduceMul, Nat.reduceLeDiff, Nat.reduceEqDiff, decide_true, decide_false, reduceIte, and_true, true_and]
        refine Ev.skip ?_
        simp (maxSteps := 2000000) only [go_sem, Nat.reduceBEq, Nat.reduceLT, Nat.reduceAdd, Nat.reduceMul, Nat.reduceLeDiff, Nat.reduceEqDiff, decide_true, decide_false, reduceIte, and_true, true_and]
        refine key _ _ ?_ ?_ ?_ (.inr ?_)
        · simp (maxSteps := 2000000) only [go_sem, Nat.reduceBEq, Nat.reduceLT, Nat.reduceAdd, Nat.reduceMul, Nat.reduceLeDiff, Nat.reduceEqDiff, decide_true, decide_false, reduceIte, and_true, true_and]
        · simp (maxSteps := 2000000) only [go_sem, Nat.reduceBEq, Nat.reduceLT, Nat.reduceAdd, Nat.reduceMul, Nat.reduceLeDiff, Nat.reduceEqDiff, decide_true, decide_false, reduceIte, and_true, true_and]
        · simp (maxSteps := 2000000) only [go_sem, Nat.reduceBEq, Nat.reduceLT, Nat.reduceAdd, Nat.reduceMul, Nat.reduceLeDiff, Nat.reduceEqDiff, decide_true, decide_false, reduceIte, and_true, true_and]
        · intro e; subst e; simp at ho
      | true =>
        simp (maxSteps := 2000000) only [go_sem, Nat.reduceBEq, Nat.reduceLT, Nat.reduceAdd, Nat.reduceMul, Nat.reduceLeDiff, Nat.reduceEqDiff, decide_true, decide_false, reduceIte, and_true, true_and, ho]
        refine Ev.cond' ?_
        simp (maxSteps := 2000000) only [go_sem, Nat.reduceBEq, Nat.reduceLT, Nat.reduceAdd, Nat.reduceMul, Nat.reduceLeDiff, Nat.reduceEqDiff, decide_true, decide_false, reduceIte, and_true, true_and]
        obtain ⟨g1, v1, hc1, hr1⟩ := clone_run hm47 hm85 (l := l ++ [.cells [.int .u8 (op : Int), .str name, vb, .bool vs, va, .int .i64 sig, .int .i64 wid, .bool sg] 0 [], .cells z27 0 [], .cells [vc, .bool cst.sg] 0 []]) (s := cst.sg) (by simpa using rows_app (g := [.cells [vc, .bool cst.sg] 0 []]) hvc) (by omega) n (by omega)
        have c3 := rows_cell (hr1 _ rfl)
        simp only [List.append_assoc, List.cons_append, List.nil_append] at hc1
        refine Ev.seq rfl (Ev.reg' ?_)
        simp (maxSteps := 2000000) only [go_sem, Nat.reduceBEq, Nat.reduceLT, Nat.reduceAdd, Nat.reduceMul, Nat.reduceLeDiff, Nat.reduceEqDiff, decide_true, decide_false, reduceIte, and_true, true_and, hc1, c3, over]
        refine Ev.ret ?_
        simp (maxSteps := 2000000) only [go_sem, Nat.reduceBEq, Nat.reduceLT, Nat.reduceAdd, Nat.reduceMul, Nat.reduceLeDiff, Nat.reduceEqDiff, decide_true, decide_false, reduceIte, and_true, true_and]
        refine Ret.cell rfl (v := .agg [.int .u8 1, .str [], v1, .bool cst.sg, .nils, .int .i64 0, .int .i64 0, .bool false]) (by simp (maxSteps := 2000000) only [go_sem, Nat.reduceBEq, Nat.reduceLT, Nat.reduceAdd, Nat.reduceMul, Nat.reduceLeDiff, Nat.reduceEqDiff, decide_true, decide_false, reduceIte, and_true, true_and]) ?_
        refine ⟨_, [.int .u8 1, .str [], v1, .bool cst.sg, .nils, .int .i64 0, .int .i64 0, .bool false], rfl, rfl, fun l' hl => ?_⟩
        have ho2 : op = 2 := by have := eq_of_beq ho; omega
        have e : subst L (.mk op name bits vs args sig wid sg) = .mk 1 [] cst.bits cst.sg [] 0 0 false := by
          simp only [subst, ho2, if_true, hf]
        rw [e]
        have h1 := hr1 (l' ++ [.cells [.int .u8 (op : Int), .str name, vb, .bool vs, va, .int .i64 sig, .int .i64 wid, .bool sg] 0 [], .cells [.int .u8 1, .str [], v1, .bool cst.sg, .nils, .int .i64 0, .int .i64 0, .bool false] 0 [], .cells [vc, .bool cst.sg] 0 []]) (by simp [hl])
        simp only [List.append_assoc, List.cons_append, List.nil_append] at h1
        exact ⟨v1, .nils, [], rfl, h1, rfl, rfl⟩
end Cm

