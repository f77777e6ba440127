/- A run under the evaluator, part 3: no statement of its own. -/
import Derived.Test.YtncjlehibolekaaGreatDoorVm6
import Derived.Test.YtncjlehibolekaaGreatDoorRunO2
set_option autoImplicit false
set_option maxRecDepth 100000
set_option linter.unusedSectionVars false
set_option linter.unusedVariables false
set_option linter.unusedSimpArgs false
set_option linter.unusedVariables false
open Go Go.Vm Go.Proofs
namespace Cm
variable [Gl]
@[go_sem] theorem nt3 : Tryz.f3.ntmps = 37 := (rfl)
@[go_sem] theorem nt9 : Tryz.f9.ntmps = 42 := (rfl)
@[go_sem] theorem len35 {call : CallF} {t : Tm} {S : St} {d : Option Nat} {ty : TypeId} {pos : String} {af : Array Edge} {g : Option (Nat × Bool)} {x : Operand} : evOp Tryz.prog call ⟨d, .call ⟨.builtin .len, #[x], #[35]⟩, ty, pos, af, g⟩ t S = lenR (lenOf (opd t x)) S := e_lenSl Tryz.underlying35
@[go_sem] theorem sz67 : szT Tryz.prog 67 = some 3 := by kernel_rfl
@[go_sem] theorem ia35 (x i : V) : opIndexAddr Tryz.prog 35 x i = idxAddr 3 x i := indexAddr_eq Tryz.underlying35 sz67 x i
@[go_sem] theorem fa67_0 (x : V) : opFieldAddr Tryz.prog 67 x 0 = addrAdd 0 x := by kernel_rfl
@[go_sem] theorem fa67_1 (x : V) : opFieldAddr Tryz.prog 67 x 1 = addrAdd 1 x := by kernel_rfl
@[go_sem] theorem nt10 : Tryz.f10.ntmps = 19 := (rfl)
theorem isAgg46 : isAggT Tryz.prog 46 = some true := by kernel_rfl
theorem cells46 : Tryz.prog.cellsOf 46 = 3 := by kernel_rfl
@[go_sem] theorem ld46 (a : V) (S : St) : opLoad Tryz.prog 46 a S = takeN 3 (cellsAt S a) := load_agg isAgg46 cells46 a S
@[go_sem] theorem zero67 : zeroOf Tryz.prog 67 = some [.str [], .nils, .bool false] := by kernel_rfl
@[go_sem] theorem bs35 {call : CallF} {t : Tm} {S : St} {d : Option Nat} {ty : TypeId} {pos : String} {af : Array Edge} {g : Option (Nat × Bool)} {m : Nat} {ps : Array (Nat × Operand)} : evOp Tryz.prog call ⟨d, .buildSlice 35 m ps, ty, pos, af, g⟩ t S = buildS (zeroOf Tryz.prog 67) (szT Tryz.prog 67) m t ps.toList S := e_buildSlice Tryz.underlying35
@[go_sem] theorem ap35_35 {call : CallF} {t : Tm} {S : St} {d : Option Nat} {ty : TypeId} {pos : String} {af : Array Edge} {g : Option (Nat × Bool)} {x y : Operand} : evOp Tryz.prog call ⟨d, .call ⟨.builtin .append, #[x, y], #[35, 35]⟩, ty, pos, af, g⟩ t S = opAppend2 Tryz.prog 35 (opd t x) (opd t y) S := e_append Tryz.underlying35
theorem bytes67 : decide (Tryz.prog.bytesOf 67 ≤ 2 ^ 16 ∧ (zeroOf Tryz.prog 67).map List.length = some 3) = true := by kernel_rfl
@[go_sem] theorem nt13 : Tryz.f13.ntmps = 35 := (rfl)
theorem cells73 : Tryz.prog.cellsOf 73 = 1 := by kernel_rfl
@[go_sem] theorem st73 (a x : V) (S : St) : opStore Tryz.prog 73 a x S = stC a x S := store_cell isAgg73 cells73 a x S
@[go_sem] theorem nt25 : Tryz.f25.ntmps = 10 := (rfl)
@[go_sem] theorem nt26 : Tryz.f26.ntmps = 23 := (rfl)
@[go_sem] theorem ap25_25 {call : CallF} {t : Tm} {S : St} {d : Option Nat} {ty : TypeId} {pos : String} {af : Array Edge} {g : Option (Nat × Bool)} {x y : Operand} : evOp Tryz.prog call ⟨d, .call ⟨.builtin .append, #[x, y], #[25, 25]⟩, ty, pos, af, g⟩ t S = opAppend2 Tryz.prog 25 (opd t x) (opd t y) S := e_append Tryz.underlying25
theorem bytes27 : decide (Tryz.prog.bytesOf 27 ≤ 2 ^ 16 ∧ (zeroOf Tryz.prog 27).map List.length = some 8) = true := by kernel_rfl
theorem hz67 : Tryz.prog.bytesOf 67 ≤ 2 ^ 16 ∧ (zeroOf Tryz.prog 67).map List.length = some 3 := of_decide_eq_true bytes67
theorem hz27 : Tryz.prog.bytesOf 27 ≤ 2 ^ 16 ∧ (zeroOf Tryz.prog 27).map List.length = some 8 := of_decide_eq_true bytes27
end Cm

set_option linter.unusedVariables false
open Go Go.Vm Go.Proofs
namespace Cm
variable [Gl]
theorem copied_run {memo : Memo} (hm25 : memo 25 = none) {l : List Ob} {vb : V} {s : Bool} {bits : List Nat} (h1 : rows l 1 vb = some (bits.map bitC)) (hb : bits.length ≤ 1048576) (n : Nat) (hn : 1 ≤ n) :
    ∃ g v, callN Tryz.prog (memoBase memo) (drawOK Tryz.prog) n 25 [.agg [vb, .bool s]] (stL l) = some (.agg [v, .bool s], stL (l ++ g)) ∧ v.isCell = true ∧ ∀ l' : List Ob, l'.length = l.length → rows (l' ++ g) 1 v = some (bits.map bitC) := by
  obtain ⟨n, rfl⟩ : ∃ m, n = m + 1 := ⟨n - 1, by omega⟩
  suffices hs : ∃ u S', callN Tryz.prog (memoBase memo) (drawOK Tryz.prog) (n + 1) 25 [.agg [vb, .bool s]] (stL l) = some (u, S') ∧ (∃ g v, u = .agg [v, .bool s] ∧ S' = stL (l ++ g) ∧ v.isCell = true ∧ ∀ l' : List Ob, l'.length = l.length → rows (l' ++ g) 1 v = some (bits.map bitC)) by
    obtain ⟨u, S', h, g, v, rfl, rfl, h2⟩ := hs; exact ⟨g, v, h, h2⟩
  refine run_fn hm25 Tryz.func25 rfl (by simp [Tryz.f25]) ?_
  have c1 := rows_cell h1
  obtain ⟨g1, w, hap1, hwc, hwr⟩ := bits_app (l ++ [.cells [vb, .bool s] 0 [], .cells [.nils, .bool false] 0 []]) (rows_app h1) hb
  simp only [List.append_assoc, List.cons_append, List.nil_append, List.length_append, List.length_cons, List.length_nil] at hap1
  have c3 := okC_cell hwc
  have c4 := cells_cell hwc
  refine Ev.seq rfl (Ev.reg' ?_)
  simp (maxSteps := 2000000) only [go_sem, Nat.reduceBEq, Nat.reduceLT, Nat.reduceAdd, Nat.reduceMul, Nat.reduceLeDiff, Nat.reduceEqDiff, decide_true, decide_false, reduceIte, and_true, true_and]
  refine Ev.seq rfl (Ev.regDX rfl (by kernel_rfl) [(5, 3)] (by kernel_rfl) (fun T Z B R htr p hp => ?_) ?_)
  · have a1 : T 5 7 = .ptr (idOf l.length) 1 := htr.at 5 (by decide) (X := fun t _ => t 7 = .ptr (idOf l.length) 1) (by simp (maxSteps := 2000000) only [go_sem, Nat.reduceBEq, Nat.reduceLT, Nat.reduceAdd, Nat.reduceMul, Nat.reduceLeDiff, Nat.reduceEqDiff, decide_true, decide_false, reduceIte, and_true, true_and, hap1, Nat.zero_mul, Nat.zero_le, if_true, List.take_succ_cons])
    have a2 : Z 3 = stL (l ++ .cells [vb, .bool s] 0 [] :: .cells [.nils, .bool false] 0 [] :: [.cells [] 0 []]) := htr.at 3 (by decide) (X := fun _ S => S = stL (l ++ .cells [vb, .bool s] 0 [] :: .cells [.nils, .bool false] 0 [] :: [.cells [] 0 []])) (by simp (maxSteps := 2000000) only [go_sem, Nat.reduceBEq, Nat.reduceLT, Nat.reduceAdd, Nat.reduceMul, Nat.reduceLeDiff, Nat.reduceEqDiff, decide_true, decide_false, reduceIte, and_true, true_and, hap1, Nat.zero_mul, Nat.zero_le, if_true, List.take_succ_cons])
    have a3 : Z 4 = stL (l ++ .cells [vb, .bool s] 0 [] :: .cells [.nils, .bool false] 0 [] :: g1) := htr.at 4 (by decide) (X := fun _ S => S = stL (l ++ .cells [vb, .bool s] 0 [] :: .cells [.nils, .bool false] 0 [] :: g1)) (by simp (maxSteps := 2000000) only [go_sem, Nat.reduceBEq, Nat.reduceLT, Nat.reduceAdd, Nat.reduceMul, Nat.reduceLeDiff, Nat.reduceEqDiff, decide_true, decide_false, reduceIte, and_true, true_and, hap1, Nat.zero_mul, Nat.zero_le, if_true, List.take_succ_cons])
    simp only [List.mem_cons, List.not_mem_nil, or_false] at hp
    subst hp
    refine LookOK.of_load rfl ?_
    simp (maxSteps := 2000000) only [go_sem, Nat.reduceBEq, Nat.reduceLT, Nat.reduceAdd, Nat.reduceMul, Nat.reduceLeDiff, Nat.reduceEqDiff, decide_true, decide_false, reduceIte, and_true, true_and, a1, a2, a3]
  simp (maxSteps := 2000000) only [go_sem, Nat.reduceBEq, Nat.reduceLT, Nat.reduceAdd, Nat.reduceMul, Nat.reduceLeDiff, Nat.reduceEqDiff, decide_true, decide_false, reduceIte, and_true, true_and, hap1, hwc, c3, c4, over, Nat.zero_mul, Nat.zero_le, if_true, List.nil_append, Nat.le_refl]
  refine Ev.ret (Ret.cell rfl (v := .agg [w, .bool s]) (by simp (maxSteps := 2000000) only [go_sem, Nat.reduceBEq, Nat.reduceLT, Nat.reduceAdd, Nat.reduceMul, Nat.reduceLeDiff, Nat.reduceEqDiff, decide_true, decide_false, reduceIte, and_true, true_and]) ?_)
  refine ⟨_, w, rfl, rfl, hwc, fun l' hl => ?_⟩
  have := hwr (l' ++ [.cells [vb, .bool s] 0 [], .cells [w, .bool s] 0 []]) (by simp [hl])
  simpa using this
end Cm

set_option linter.unusedVariables false
open Go Go.Vm Go.Proofs
namespace Cm
variable [Gl]
/-- A list of constants whose bits lie elsewhere. -/
def ShC (l g : List Ob) (v : V) (xs : List Cst) : Prop :=
  (v = .nils ∧ xs = []) ∨ ∃ j D fz anc, v = .ref 3 (idOf (l.length + j)) 0 xs.length ∧ g[j]? = some (.cells D fz anc) ∧ D.length = xs.length * 3 ∧ RdCs l xs (chunks 3 xs.length D)
theorem ShC.cell {l g : List Ob} {v : V} {xs : List Cst} (h : ShC l g v xs) : v.isCell = true := by
  rcases h with ⟨rfl, _⟩ | ⟨j, D, fz, anc, rfl, _⟩
  · rfl
  · rfl
theorem ShC.rd {l g : List Ob} {v : V} {xs : List Cst} (h : ShC l g v xs) : ∃ rs, rows (l ++ g) 3 v = some rs ∧ RdCs (l ++ g) xs rs := by
  rcases h with ⟨rfl, rfl⟩ | ⟨j, D, fz, anc, rfl, hg, hD, hx⟩
  · exact ⟨[], rfl, rfl⟩
  · exact ⟨_, by rw [rows_ref (c := D) (by rw [gxs, hg]; rfl) (by omega), List.drop_zero], hx.app⟩
theorem sh_app {l g : List Ob} {v : V} {xs : List Cst} {x : Cst} {c : List V} (ho : ShC l g v xs) (hb : xs.length ≤ 1048576) (hx : RdC l x c) :
    ∃ g' u, opAppend2 Tryz.prog 35 v (.ref 3 (idOf (l.length + g.length)) 0 1) (stL (l ++ (g ++ [.cells c 0 []]))) = some (u, stL (l ++ g')) ∧ u.isCell = true ∧ ShC l g' u (xs ++ [x]) := by
  have hc3 := hx.len
  have hy : rows (l ++ (g ++ [.cells c 0 []])) 3 (.ref 3 (idOf (l.length + g.length)) 0 1) = some [c] := by
    rw [rows_ref (c := c) (by rw [gxs, gx0]; rfl) (by omega), List.drop_zero]; simp only [chunks]; rw [List.take_of_length_le (by omega)]
  rcases ho with ⟨rfl, rfl⟩ | ⟨j, D, fz, anc, rfl, hg, hD, hpre⟩
  · have hap := append_nils (P := Tryz.prog) Tryz.underlying35 (by kernel_rfl) hz67 hy (by simp)
    simp only [List.append_assoc] at hap
    refine ⟨_, _, hap, isCell_ref .., .inr ⟨g.length + 1, c, 0, [], ?_, ?_, by simpa using hc3, ?_⟩⟩
    · simp only [List.length_append, List.length_cons, List.length_nil]
    · rw [gxs]; simp
    · refine ⟨c, [], ?_, hx, rfl⟩
      simp only [List.nil_append, List.length_cons, List.length_nil, chunks]; rw [List.take_of_length_le (by omega)]
  · have hj : j < g.length := (List.getElem?_eq_some_iff.1 hg).1
    have hap := append_ref (P := Tryz.prog) Tryz.underlying35 (by kernel_rfl) hz67 (l := l ++ (g ++ [.cells c 0 []])) (k := l.length + j) (n := xs.length) (fz := fz) (c := D) (anc := anc) (by rw [gxs, List.getElem?_append_left hj]; exact hg) hD hy (by simp; omega)
    rw [sxs, List.set_append_left _ _ hj] at hap
    simp only [List.append_assoc] at hap
    refine ⟨_, _, hap, isCell_ref .., .inr ⟨g.length + 1, D ++ c, fz, idOf (l.length + j) :: anc, ?_, ?_, ?_, ?_⟩⟩
    · simp only [List.length_append, List.length_cons, List.length_nil]
    · rw [show g.length + 1 = (g.set j (.stale D)).length + 1 by simp, gxs]; simp
    · simp only [List.length_append, List.length_cons, List.length_nil, hD, hc3]; omega
    · have e : (xs ++ [x]).length = xs.length + 1 := by simp
      rw [e, chunks_snoc 3 xs.length D _ hD hc3]
      exact RdCs.snoc hx hpre
theorem asRef_run {memo : Memo} (hm10 : memo 10 = none) {l : List Ob} {v : V} {xs : List Cst} {rs : List (List V)} (hv : rows l 3 v = some rs) (hx : RdCs l xs rs) (hlen : xs.length ≤ 1048576) (n : Nat) (hn : xs.length + 3 ≤ n) :
    ∃ g u, callN Tryz.prog (memoBase memo) (drawOK Tryz.prog) n 10 [v] (stL l) = some (u, stL (l ++ g)) ∧ ShC l g u xs := by
  obtain ⟨n, rfl⟩ : ∃ m, n = m + 1 := ⟨n - 1, by omega⟩
  suffices hs : ∃ u S', callN Tryz.prog (memoBase memo) (drawOK Tryz.prog) (n + 1) 10 [v] (stL l) = some (u, S') ∧ (∃ g, S' = stL (l ++ g) ∧ ShC l g u xs) by
    obtain ⟨u, S', h, g, rfl, h2⟩ := hs; exact ⟨g, u, h, h2⟩
  refine run_fn hm10 Tryz.func10 rfl (by simp [Tryz.f10]) ?_
  have l1 := rows_len hv
  rw [hx.len] at l1
  refine Ev.seq rfl (Ev.reg' ?_)
  simp (maxSteps := 2000000) only [go_sem, Nat.reduceBEq, Nat.reduceLT, Nat.reduceAdd, Nat.reduceMul, Nat.reduceLeDiff, Nat.reduceEqDiff, decide_true, decide_false, reduceIte, and_true, true_and]
  refine Ev.seq rfl (Ev.reg' ?_)
  simp (maxSteps := 2000000) only [go_sem, Nat.reduceBEq, Nat.reduceLT, Nat.reduceAdd, Nat.reduceMul, Nat.reduceLeDiff, Nat.reduceEqDiff, decide_true, decide_false, reduceIte, and_true, true_and]
  refine Ev.seq rfl (Ev.seq rfl (Ev.reg' ?_))
  simp (maxSteps := 2000000) only [go_sem, Nat.reduceBEq, Nat.reduceLT, Nat.reduceAdd, Nat.reduceMul, Nat.reduceLeDiff, Nat.reduceEqDiff, decide_true, decide_false, reduceIte, and_true, true_and]
  refine Ev.block (Ev.loop (fun k t S => t 0 = v ∧ ∃ j : Nat, t 4 = .int .i64 (j : Int) ∧ j + k = xs.length ∧ ∃ g u, t 3 = u ∧ S = stL (l ++ g) ∧ ShC l g u (xs.take j)) xs.length (by omega) ?_ ?_)
  · simp (maxSteps := 2000000) only [go_sem, Nat.reduceBEq, Nat.reduceLT, Nat.reduceAdd, Nat.reduceMul, Nat.reduceLeDiff, Nat.reduceEqDiff, decide_true, decide_false, reduceIte, and_true, true_and]
    exact ⟨0, rfl, by omega, [], .nils, rfl, by simp, .inl ⟨rfl, by simp⟩⟩
  intro k t S ⟨i0, j, i4, hjk, g, u, i3, iS, hO⟩
  subst iS
  refine Ev.seq rfl (Ev.seq rfl (Ev.reg' ?_))
  simp (maxSteps := 2000000) only [go_sem, Nat.reduceBEq, Nat.reduceLT, Nat.reduceAdd, Nat.reduceMul, Nat.reduceLeDiff, Nat.reduceEqDiff, decide_true, decide_false, reduceIte, and_true, true_and, i0, i4, l1]
  refine Ev.cond' ?_
  simp (maxSteps := 2000000) only [go_sem, Nat.reduceBEq, Nat.reduceLT, Nat.reduceAdd, Nat.reduceMul, Nat.reduceLeDiff, Nat.reduceEqDiff, decide_true, decide_false, reduceIte, and_true, true_and]
  by_cases hj : (j : Int) < (xs.length : Int)
  rotate_left
  · have hj' : ¬ j < xs.length := fun h => hj (by exact_mod_cast h)
    simp only [hj, decide_false, wpC_false]
    refine Ev.exit ?_
    simp (maxSteps := 2000000) only [go_sem, Nat.reduceBEq, Nat.reduceLT, Nat.reduceAdd, Nat.reduceMul, Nat.reduceLeDiff, Nat.reduceEqDiff, decide_true, decide_false, reduceIte, and_true, true_and]
    refine Ev.seq rfl (Ev.reg' ?_)
    simp (maxSteps := 2000000) only [go_sem, Nat.reduceBEq, Nat.reduceLT, Nat.reduceAdd, Nat.reduceMul, Nat.reduceLeDiff, Nat.reduceEqDiff, decide_true, decide_false, reduceIte, and_true, true_and, i3]
    refine Ev.ret (Ret.tmp rfl ?_)
    simp (maxSteps := 2000000) only [go_sem, Nat.reduceBEq, Nat.reduceLT, Nat.reduceAdd, Nat.reduceMul, Nat.reduceLeDiff, Nat.reduceEqDiff, decide_true, decide_false, reduceIte, and_true, true_and]
    rw [List.take_of_length_le (by omega)] at hO
    exact ⟨g, rfl, hO⟩
  have hj' : j < xs.length := by exact_mod_cast hj
  obtain ⟨y, hy⟩ : ∃ y, xs[j]? = some y := ⟨xs[j], List.getElem?_eq_getElem hj'⟩
  obtain ⟨cy, hcy, hry⟩ := hx.get hy
  obtain ⟨a, ra, ha1, ha2⟩ := rows_idx (rows_app (g := g) hv) hcy .i64
  obtain ⟨g2, u2, hap2, huc, hO2⟩ := sh_app hO (by simp; omega) hry
  have hc3 := hry.len
  have e1' : xs.take (j + 1) = xs.take j ++ [y] := by rw [List.take_add_one, hy]; rfl
  simp only [hj, decide_true, wpC_true]
  refine Ev.skip ?_
  simp (maxSteps := 2000000) only [go_sem, Nat.reduceBEq, Nat.reduceLT, Nat.reduceAdd, Nat.reduceMul, Nat.reduceLeDiff, Nat.reduceEqDiff, decide_true, decide_false, reduceIte, and_true, true_and]
  refine Ev.seq rfl (Ev.block (Ev.reg' ?_))
  simp (maxSteps := 2000000) only [go_sem, Nat.reduceBEq, Nat.reduceLT, Nat.reduceAdd, Nat.reduceMul, Nat.reduceLeDiff, Nat.reduceEqDiff, decide_true, decide_false, reduceIte, and_true, true_and, i0, i3, i4, ha1, ha2, takeN_app hry.len, hc3, over_all, hap2, Nat.zero_mul, Nat.one_mul, Nat.zero_le, if_true, Nat.le_refl]
  refine Ev.reg' ?_
  simp (maxSteps := 2000000) only [go_sem, Nat.reduceBEq, Nat.reduceLT, Nat.reduceAdd, Nat.reduceMul, Nat.reduceLeDiff, Nat.reduceEqDiff, decide_true, decide_false, reduceIte, and_true, true_and, i0, i4]
  exact ⟨k - 1, by omega, j + 1, by rw [IntWalk.i64_in _ (by omega)]; rfl, by omega, g2, u2, rfl, rfl, by rw [e1']; exact hO2⟩
end Cm

set_option linter.unusedVariables false
open Go Go.Vm Go.Proofs
namespace Cm
variable [Gl]
/-- A list of expressions of one's own. -/
def OwnE (m : Nat) (g : List Ob) (v : V) (xs : List Ex) : Prop :=
  (v = .nils ∧ xs = []) ∨ ∃ j D fz anc, v = .ref 8 (idOf (m + j)) 0 xs.length ∧ g[j]? = some (.cells D fz anc) ∧ D.length = xs.length * 8 ∧ ∀ l' : List Ob, l'.length = m → RdL (l' ++ g) xs (chunks 8 xs.length D)
theorem OwnE.cell {m : Nat} {g : List Ob} {v : V} {xs : List Ex} (h : OwnE m g v xs) : v.isCell = true := by
  rcases h with ⟨rfl, _⟩ | ⟨j, D, fz, anc, rfl, _⟩
  · rfl
  · rfl
theorem OwnE.rd {m : Nat} {g : List Ob} {v : V} {xs : List Ex} (h : OwnE m g v xs) {l' : List Ob} (hl : l'.length = m) : ∃ rs, rows (l' ++ g) 8 v = some rs ∧ RdL (l' ++ g) xs rs := by
  rcases h with ⟨rfl, rfl⟩ | ⟨j, D, fz, anc, rfl, hg, hD, hx⟩
  · exact ⟨[], rfl, rfl⟩
  · exact ⟨_, by rw [← hl, rows_ref (c := D) (by rw [gxs, hg]; rfl) (by omega), List.drop_zero], hx l' hl⟩
mutual
theorem RdE.congr {l m : List Ob} (h : ∀ (i : Nat), obFull l[i]? = obFull m[i]?) : ∀ {x : Ex} {c : List V}, RdE l x c → RdE m x c
  | .mk .., c, ⟨vb, va, rs, h1, h2, h3, h4⟩ => ⟨vb, va, rs, h1, by rw [← rows_congr h]; exact h2, by rw [← rows_congr h]; exact h3, RdL.congr h h4⟩
theorem RdL.congr {l m : List Ob} (h : ∀ (i : Nat), obFull l[i]? = obFull m[i]?) : ∀ {xs : List Ex} {rs : List (List V)}, RdL l xs rs → RdL m xs rs
  | [], _, hx => hx
  | _ :: _, _, ⟨c, q, h1, h2, h3⟩ => ⟨c, q, h1, RdE.congr h h2, RdL.congr h h3⟩
end
/-- One more. -/
theorem ownE_app {l g1 : List Ob} {g : List Ob} {v : V} {xs : List Ex} {x : Ex} {c : List V} (ho : OwnE l.length g v xs) (hb : xs.length ≤ 1048576) (hr : ∀ l' : List Ob, l'.length = l.length + g.length → RdE (l' ++ g1) x c) :
    ∃ g' u, opAppend2 Tryz.prog 25 v (.ref 8 (idOf (l.length + (g.length + g1.length))) 0 1) (stL (l ++ (g ++ (g1 ++ [.cells c 0 []])))) = some (u, stL (l ++ g')) ∧ u.isCell = true ∧ OwnE l.length g' u (xs ++ [x]) := by
  have hc8 : c.length = 8 := (hr (l ++ g) (by simp)).len
  have hy : rows (l ++ (g ++ (g1 ++ [.cells c 0 []]))) 8 (.ref 8 (idOf (l.length + (g.length + g1.length))) 0 1) = some [c] := by
    rw [rows_ref (c := c) (by rw [gxs, gxs, gx0]; rfl) (by omega), List.drop_zero]; simp only [chunks]; rw [List.take_of_length_le (by omega)]
  rcases ho with ⟨rfl, rfl⟩ | ⟨j, D, fz, anc, rfl, hg, hD, hpre⟩
  · have hap := append_nils (P := Tryz.prog) Tryz.underlying25 (by kernel_rfl) hz27 hy (by simp)
    simp only [List.append_assoc] at hap
    refine ⟨_, _, hap, isCell_ref .., .inr ⟨g.length + (g1.length + 1), c, 0, [], ?_, ?_, by simpa using hc8, fun l' hl => ?_⟩⟩
    · simp only [List.length_append, List.length_cons, List.length_nil]
    · rw [gxs, gxs]; simp
    · refine ⟨c, [], ?_, ?_, rfl⟩
      · simp only [List.nil_append, List.length_cons, List.length_nil, chunks]; rw [List.take_of_length_le (by omega)]
      · have := RdE.app (g := [.cells c 0 [], .cells c 0 []]) (hr (l' ++ g) (by simp [hl]))
        simpa using this
  · have hj : j < g.length := (List.getElem?_eq_some_iff.1 hg).1
    have hap := append_ref (P := Tryz.prog) Tryz.underlying25 (by kernel_rfl) hz27 (l := l ++ (g ++ (g1 ++ [.cells c 0 []]))) (k := l.length + j) (n := xs.length) (fz := fz) (c := D) (anc := anc) (by rw [gxs, List.getElem?_append_left hj]; exact hg) hD hy (by simp; omega)
    rw [sxs, List.set_append_left _ _ hj] at hap
    simp only [List.append_assoc] at hap
    have hfull : ∀ (l' : List Ob) (r : List Ob) (i : Nat), obFull (l' ++ (g ++ r))[i]? = obFull (l' ++ (g.set j (.stale D) ++ r))[i]? := by
      intro l' r i
      rw [← List.set_append_left _ _ hj, ← sxs, full_stale (by rw [gxs, List.getElem?_append_left hj, hg]; rfl)]
    refine ⟨_, _, hap, isCell_ref .., .inr ⟨g.length + (g1.length + 1), D ++ c, fz, idOf (l.length + j) :: anc, ?_, ?_, ?_, fun l' hl => ?_⟩⟩
    · simp only [List.length_append, List.length_cons, List.length_nil]
    · rw [show g.length + (g1.length + 1) = (g.set j (.stale D)).length + (g1.length + 1) by simp, gxs, gxs]; simp
    · simp only [List.length_append, List.length_cons, List.length_nil, hD, hc8]; omega
    · have e : (xs ++ [x]).length = xs.length + 1 := by simp
      rw [e, chunks_snoc 8 xs.length D _ hD hc8]
      have h1 := (hpre l' hl).app (g := g1 ++ ([.cells c 0 []] ++ [.cells (D ++ [c].flatten) fz (idOf (l.length + j) :: anc)]))
      rw [List.append_assoc] at h1
      have h2 := RdE.app (g := [.cells c 0 []] ++ [.cells (D ++ [c].flatten) fz (idOf (l.length + j) :: anc)]) (hr (l' ++ g) (by simp [hl]))
      simp only [List.append_assoc] at h2
      have h3 := (RdL.snoc h2 h1).congr (hfull l' _)
      simpa using h3
def Sub9OK (memo : Memo) (L : List Cst) (x : Ex) : Prop := ∀ (l : List Ob) (c : List V) (v : V) (rs : List (List V)), RdE l x c → rows l 3 v = some rs → RdCs l L rs → wideS x = false → ∀ (n : Nat), 2 * nodes x + L.length + 8 ≤ n →
  ∃ g c', callN Tryz.prog (memoBase memo) (drawOK Tryz.prog) n 9 [.agg c, v] (stL l) = some (.agg c', stL (l ++ g)) ∧ ∀ l' : List Ob, l'.length = l.length → RdE (l' ++ g) (subst L x) c'
theorem list_run {memo : Memo} (hm26 : memo 26 = none) {L : List Cst} (args : List Ex) (hsub : ∀ x ∈ args, Sub9OK memo L x) (l : List Ob) (va v : V) (rs qs : List (List V)) (hva : rows l 8 va = some rs) (hrs : RdL l args rs) (hv : rows l 3 v = some qs) (hqs : RdCs l L qs) (hw : wideSL args = false)
    (hal : args.length ≤ 1048576) (n : Nat) (hn : 2 * nodesL args + L.length + 9 ≤ n) :
    ∃ g u, callN Tryz.prog (memoBase memo) (drawOK Tryz.prog) n 26 [va, v] (stL l) = some (u, stL (l ++ g)) ∧ OwnE l.length g u (substL L args) := by
  obtain ⟨n, rfl⟩ : ∃ m, n = m + 1 := ⟨n - 1, by omega⟩
  suffices hs : ∃ u S', callN Tryz.prog (memoBase memo) (drawOK Tryz.prog) (n + 1) 26 [va, v] (stL l) = some (u, S') ∧ (∃ g, S' = stL (l ++ g) ∧ OwnE l.length g u (substL L args)) by
    obtain ⟨u, S', h, g, rfl, h2⟩ := hs; exact ⟨g, u, h, h2⟩
  refine run_fn hm26 Tryz.func26 rfl (by simp [Tryz.f26]) ?_
  have l1 := rows_len hva
  rw [hrs.len] at l1
  have hnl := nodesL_len args
  refine Ev.seq rfl (Ev.reg' ?_)
  simp (maxSteps := 2000000) only [go_sem, Nat.reduceBEq, Nat.reduceLT, Nat.reduceAdd, Nat.reduceMul, Nat.reduceLeDiff, Nat.reduceEqDiff, decide_true, decide_false, reduceIte, and_true, true_and]
  refine Ev.seq rfl (Ev.reg' ?_)
  simp (maxSteps := 2000000) only [go_sem, Nat.reduceBEq, Nat.reduceLT, Nat.reduceAdd, Nat.reduceMul, Nat.reduceLeDiff, Nat.reduceEqDiff, decide_true, decide_false, reduceIte, and_true, true_and]
  refine Ev.seq rfl (Ev.seq rfl (Ev.reg' ?_))
  simp (maxSteps := 2000000) only [go_sem, Nat.reduceBEq, Nat.reduceLT, Nat.reduceAdd, Nat.reduceMul, Nat.reduceLeDiff, Nat.reduceEqDiff, decide_true, decide_false, reduceIte, and_true, true_and]
  refine Ev.block (Ev.loop (fun k t S => t 0 = va ∧ t 1 = v ∧ ∃ j : Nat, t 6 = .int .i64 (j : Int) ∧ j + k = args.length ∧ ∃ g u, t 5 = u ∧ S = stL (l ++ g) ∧ OwnE l.length g u (substL L (args.take j))) args.length (by omega) ?_ ?_)
  · simp (maxSteps := 2000000) only [go_sem, Nat.reduceBEq, Nat.reduceLT, Nat.reduceAdd, Nat.reduceMul, Nat.reduceLeDiff, Nat.reduceEqDiff, decide_true, decide_false, reduceIte, and_true, true_and]
    exact ⟨0, rfl, by omega, [], .nils, rfl, by simp, .inl ⟨rfl, by simp [substL]⟩⟩
  intro k t S ⟨i0, i1, j, i6, hjk, g, u, i5, iS, hO⟩
  subst iS
  refine Ev.seq rfl (Ev.seq rfl (Ev.reg' ?_))
  simp (maxSteps := 2000000) only [go_sem, Nat.reduceBEq, Nat.reduceLT, Nat.reduceAdd, Nat.reduceMul, Nat.reduceLeDiff, Nat.reduceEqDiff, decide_true, decide_false, reduceIte, and_true, true_and, i0, i6, l1]
  refine Ev.cond' ?_
  simp (maxSteps := 2000000) only [go_sem, Nat.reduceBEq, Nat.reduceLT, Nat.reduceAdd, Nat.reduceMul, Nat.reduceLeDiff, Nat.reduceEqDiff, decide_true, decide_false, reduceIte, and_true, true_and]
  by_cases hj : (j : Int) < (args.length : Int)
  rotate_left
  · have hj' : ¬ j < args.length := fun h => hj (by exact_mod_cast h)
    simp only [hj, decide_false, wpC_false]
    refine Ev.exit ?_
    simp (maxSteps := 2000000) only [go_sem, Nat.reduceBEq, Nat.reduceLT, Nat.reduceAdd, Nat.reduceMul, Nat.reduceLeDiff, Nat.reduceEqDiff, decide_true, decide_false, reduceIte, and_true, true_and]
    refine Ev.seq rfl (Ev.reg' ?_)
    simp (maxSteps := 2000000) only [go_sem, Nat.reduceBEq, Nat.reduceLT, Nat.reduceAdd, Nat.reduceMul, Nat.reduceLeDiff, Nat.reduceEqDiff, decide_true, decide_false, reduceIte, and_true, true_and, i5]
    refine Ev.ret (Ret.tmp rfl ?_)
    simp (maxSteps := 2000000) only [go_sem, Nat.reduceBEq, Nat.reduceLT, Nat.reduceAdd, Nat.reduceMul, Nat.reduceLeDiff, Nat.reduceEqDiff, decide_true, decide_false, reduceIte, and_true, true_and]
    rw [List.take_of_length_le (by omega)] at hO
    exact ⟨g, rfl, hO⟩
  have hj' : j < args.length := by exact_mod_cast hj
  obtain ⟨y, hy⟩ : ∃ y, args[j]? = some y := ⟨args[j], List.getElem?_eq_getElem hj'⟩
  obtain ⟨cy, hcy, hry⟩ := hrs.get hy
  obtain ⟨a, ra, ha1, ha2⟩ := rows_idx (rows_app (g := g) hva) hcy .i64
  have hyn := nodesL_get hy
  obtain ⟨g1, c', hcall, hres⟩ := hsub y (List.mem_of_getElem? hy) (l ++ g) cy v qs hry.app (rows_app hv) hqs.app (wideSL_get hy hw) n (by omega)
  obtain ⟨g2, u2, hap2, huc, hO2⟩ := ownE_app (x := subst L y) hO (by rw [substL_len]; simp; omega) (fun l' hl => hres l' (by simpa using hl))
  have hc8 := (hres _ rfl).len
  have e1' : substL L (args.take (j + 1)) = substL L (args.take j) ++ [subst L y] := by rw [List.take_add_one, hy]; exact substL_snoc L _ _
  simp only [List.append_assoc] at hcall
  simp only [hj, decide_true, wpC_true]
  refine Ev.skip ?_
  simp (maxSteps := 2000000) only [go_sem, Nat.reduceBEq, Nat.reduceLT, Nat.reduceAdd, Nat.reduceMul, Nat.reduceLeDiff, Nat.reduceEqDiff, decide_true, decide_false, reduceIte, and_true, true_and]
  refine Ev.seq rfl (Ev.block (Ev.reg' ?_))
  simp (maxSteps := 2000000) only [go_sem, Nat.reduceBEq, Nat.reduceLT, Nat.reduceAdd, Nat.reduceMul, Nat.reduceLeDiff, Nat.reduceEqDiff, decide_true, decide_false, reduceIte, and_true, true_and, i0, i1, i5, i6, ha1, ha2, takeN_app hry.len, hcall, hc8, over_all, hap2, Nat.zero_mul, Nat.one_mul, Nat.zero_le, if_true, Nat.le_refl]
  refine Ev.reg' ?_
  simp (maxSteps := 2000000) only [go_sem, Nat.reduceBEq, Nat.reduceLT, Nat.reduceAdd, Nat.reduceMul, Nat.reduceLeDiff, Nat.reduceEqDiff, decide_true, decide_false, reduceIte, and_true, true_and, i0, i1, i6]
  exact ⟨k - 1, by omega, j + 1, by rw [IntWalk.i64_in _ (by omega)]; rfl, by omega, g2, u2, rfl, rfl, by rw [e1']; exact hO2⟩
end Cm

set_option linter.unusedVariables false
open Go Go.Vm Go.Proofs
namespace Cm
variable [Gl]
set_option maxHeartbeats 1000000 in
theorem sub9_run {memo : Memo} (hm9 : memo 9 = none) (hm25 : memo 25 = none) (hm26 : memo 26 = none) (L : List Cst) (hbits : ∀ c ∈ L, c.bits.length ≤ 300) (hL : L.length ≤ 1048576) : ∀ (N : Nat) (x : Ex), nodes x ≤ N → nodes x ≤ 1048576 → Sub9OK memo L x
  | 0, x, hN, _ => by have := nodes_pos x; omega
  | N + 1, .mk op name bits vs args sig wid sg, hN, hbd => by
    intro l c v rs hx hv hr hw n hn
    obtain ⟨n, rfl⟩ : ∃ m, n = m + 1 := ⟨n - 1, by omega⟩
    obtain ⟨vb, va, qs, rfl, hvb, hva, hqs⟩ := hx
    have hnL : nodes (.mk op name bits vs args sig wid sg) = 1 + nodesL args := by simp only [nodes]
    have hal := nodesL_len args
    have hwL : wideSL args = false ∧ bits.length ≤ 300 := by
      simp only [wideS, Bool.or_eq_false_iff, decide_eq_false_iff_not] at hw
      exact ⟨hw.2, by omega⟩
    suffices hs : ∃ u S', callN Tryz.prog (memoBase memo) (drawOK Tryz.prog) (n + 1) 9 [.agg [.int .u8 (op : Int), .str name, vb, .bool vs, va, .int .i64 sig, .int .i64 wid, .bool sg], v] (stL l) = some (u, S') ∧
        (∃ g c', u = .agg c' ∧ S' = stL (l ++ g) ∧ ∀ l' : List Ob, l'.length = l.length → RdE (l' ++ g) (subst L (.mk op name bits vs args sig wid sg)) c') by
      obtain ⟨u, S', h, g, c', rfl, rfl, h2⟩ := hs; exact ⟨g, c', h, h2⟩
    refine run_fn hm9 Tryz.func9 rfl (by simp [Tryz.f9]) ?_
    have c1 := rows_cell hvb
    have c2 := rows_cell hva
    have l1 := rows_len hv
    rw [hr.len] at l1
    refine Ev.seq rfl (Ev.reg' ?_)
    simp (maxSteps := 2000000) only [go_sem, Nat.reduceBEq, Nat.reduceLT, Nat.reduceAdd, Nat.reduceMul, Nat.reduceLeDiff, Nat.reduceEqDiff, decide_true, decide_false, reduceIte, and_true, true_and]
    refine Ev.seq rfl (Ev.seq rfl (Ev.reg' ?_))
    simp (maxSteps := 2000000) only [go_sem, Nat.reduceBEq, Nat.reduceLT, Nat.reduceAdd, Nat.reduceMul, Nat.reduceLeDiff, Nat.reduceEqDiff, decide_true, decide_false, reduceIte, and_true, true_and]
    refine Ev.block (Ev.loop (fun k t S => t 1 = v ∧ t 2 = .ptr (idOf l.length) 0 ∧ t 4 = .ptr (idOf (l.length + 1)) 0 ∧ S = stL (l ++ [.cells [.int .u8 (op : Int), .str name, vb, .bool vs, va, .int .i64 sig, .int .i64 wid, .bool sg] 0 [], .cells z27 0 []]) ∧ ∃ j : Nat, t 5 = .int .i64 (j : Int) ∧ j + k = L.length ∧ (op = 2 → find name L = find name (L.drop j))) L.length (by omega) ?_ ?_)
    · simp (maxSteps := 2000000) only [go_sem, Nat.reduceBEq, Nat.reduceLT, Nat.reduceAdd, Nat.reduceMul, Nat.reduceLeDiff, Nat.reduceEqDiff, decide_true, decide_false, reduceIte, and_true, true_and]
      exact ⟨0, rfl, by omega, fun _ => rfl⟩
    intro k t S ⟨i1, i2, i4, iS, j, i5, hjk, hfd⟩
    subst iS
    obtain ⟨bx, hbx⟩ : ∃ bx, bx = ([.int .u8 (op : Int), .str name, vb, .bool vs, va, .int .i64 sig, .int .i64 wid, .bool sg] : List V) := ⟨_, rfl⟩
    have fin : ∀ (t : Tm), t 1 = v → t 2 = .ptr (idOf l.length) 0 → t 4 = .ptr (idOf (l.length + 1)) 0 → (if op = 2 then find name L else none) = none →
        Ev Tryz.prog Tryz.f9.ntmps n (callN Tryz.prog (memoBase memo) (drawOK Tryz.prog) n) (sndC (sndC (bodyC Tryz.f9))) t (stL (l ++ [.cells [.int .u8 (op : Int), .str name, vb, .bool vs, va, .int .i64 sig, .int .i64 wid, .bool sg] 0 [], .cells z27 0 []])) (Ret Tryz.prog Tryz.f9 fun u S' => ∃ g c', u = .agg c' ∧ S' = stL (l ++ g) ∧ ∀ l' : List Ob, l'.length = l.length → RdE (l' ++ g) (subst L (.mk op name bits vs args sig wid sg)) c') := by
      intro t i1 i2 i4 hno
      obtain ⟨g1, v1, hc1, c3, hr1⟩ := copied_run hm25 (l := l ++ [.cells [.int .u8 (op : Int), .str name, vb, .bool vs, va, .int .i64 sig, .int .i64 wid, .bool sg] 0 [], .cells z27 0 []]) (s := vs) (rows_app hvb) (by omega) n (by omega)
      obtain ⟨g2, v2, hc2, ho2⟩ := list_run hm26 args (fun y hy => sub9_run hm9 hm25 hm26 L hbits hL N y (by have := nodesL_mem hy; omega) (by have := nodesL_mem hy; omega)) (l ++ .cells [.int .u8 (op : Int), .str name, v1, .bool vs, va, .int .i64 sig, .int .i64 wid, .bool sg] 0 [] :: .cells z27 0 [] :: g1) va v qs rs (rows_app hva) hqs.app (rows_app hv) hr.app hwL.1 (by omega) n (by omega)
      have c4 := ho2.cell
      simp only [List.append_assoc, List.cons_append, List.nil_append] at hc1 hc2
      refine Ev.seq rfl (Ev.reg' ?_)
      simp (maxSteps := 2000000) only [go_sem, Nat.reduceBEq, Nat.reduceLT, Nat.reduceAdd, Nat.reduceMul, Nat.reduceLeDiff, Nat.reduceEqDiff, decide_true, decide_false, reduceIte, and_true, true_and, i2, hc1, c3, over]
      refine Ev.seq rfl (Ev.reg' ?_)
      simp (maxSteps := 2000000) only [go_sem, Nat.reduceBEq, Nat.reduceLT, Nat.reduceAdd, Nat.reduceMul, Nat.reduceLeDiff, Nat.reduceEqDiff, decide_true, decide_false, reduceIte, and_true, true_and, i1, i2, hc2, c4, over]
      refine Ev.seq rfl (Ev.reg' ?_)
      simp (maxSteps := 2000000) only [go_sem, Nat.reduceBEq, Nat.reduceLT, Nat.reduceAdd, Nat.reduceMul, Nat.reduceLeDiff, Nat.reduceEqDiff, decide_true, decide_false, reduceIte, and_true, true_and, i2, i4, over]
      refine Ev.ret (Ret.cell rfl (v := .agg [.int .u8 (op : Int), .str name, v1, .bool vs, v2, .int .i64 sig, .int .i64 wid, .bool sg]) (by simp (maxSteps := 2000000) only [go_sem, Nat.reduceBEq, Nat.reduceLT, Nat.reduceAdd, Nat.reduceMul, Nat.reduceLeDiff, Nat.reduceEqDiff, decide_true, decide_false, reduceIte, and_true, true_and, i4]) ?_)
      refine ⟨_, [.int .u8 (op : Int), .str name, v1, .bool vs, v2, .int .i64 sig, .int .i64 wid, .bool sg], rfl, rfl, fun l' hl => ?_⟩
      have e : subst L (.mk op name bits vs args sig wid sg) = .mk op name bits vs (substL L args) sig wid sg := by
        simp only [subst, hno]
      rw [e]
      have h1 := hr1 (l' ++ [.cells [.int .u8 (op : Int), .str name, v1, .bool vs, v2, .int .i64 sig, .int .i64 wid, .bool sg] 0 [], .cells [.int .u8 (op : Int), .str name, v1, .bool vs, v2, .int .i64 sig, .int .i64 wid, .bool sg] 0 []]) (by simp [hl])
      obtain ⟨rs2, h2, h3⟩ := ho2.rd (l' := l' ++ .cells [.int .u8 (op : Int), .str name, v1, .bool vs, v2, .int .i64 sig, .int .i64 wid, .bool sg] 0 [] :: .cells [.int .u8 (op : Int), .str name, v1, .bool vs, v2, .int .i64 sig, .int .i64 wid, .bool sg] 0 [] :: g1) (by simp [hl])
      simp only [List.append_assoc, List.cons_append, List.nil_append] at h1 h2 h3 ⊢
      refine ⟨v1, v2, rs2, rfl, ?_, h2, h3⟩
      have := rows_app (g := g2) h1
      simpa using this
    refine Ev.seq rfl (Ev.seq rfl (Ev.reg' ?_))
    cases ho : ((op : Int) == 2) with
    | false =>
      simp (maxSteps := 2000000) only [go_sem, Nat.reduceBEq, Nat.reduceLT, Nat.reduceAdd, Nat.reduceMul, Nat.reduceLeDiff, Nat.reduceEqDiff, decide_true, decide_false, reduceIte, and_true, true_and, i1, i2, i5, l1, ho]
      refine Ev.cond' ?_
      simp (maxSteps := 2000000) only [go_sem, Nat.reduceBEq, Nat.reduceLT, Nat.reduceAdd, Nat.reduceMul, Nat.reduceLeDiff, Nat.reduceEqDiff, decide_true, decide_false, reduceIte, and_true, true_and]
      refine Ev.exit ?_
      simp (maxSteps := 2000000) only [go_sem, Nat.reduceBEq, Nat.reduceLT, Nat.reduceAdd, Nat.reduceMul, Nat.reduceLeDiff, Nat.reduceEqDiff, decide_true, decide_false, reduceIte, and_true, true_and]
      refine fin _ ?_ ?_ ?_ ?_
      · simp (maxSteps := 2000000) only [go_sem, Nat.reduceBEq, Nat.reduceLT, Nat.reduceAdd, Nat.reduceMul, Nat.reduceLeDiff, Nat.reduceEqDiff, decide_true, decide_false, reduceIte, and_true, true_and, i1]
      · simp (maxSteps := 2000000) only [go_sem, Nat.reduceBEq, Nat.reduceLT, Nat.reduceAdd, Nat.reduceMul, Nat.reduceLeDiff, Nat.reduceEqDiff, decide_true, decide_false, reduceIte, and_true, true_and, i2]
      · simp (maxSteps := 2000000) only [go_sem, Nat.reduceBEq, Nat.reduceLT, Nat.reduceAdd, Nat.reduceMul, Nat.reduceLeDiff, Nat.reduceEqDiff, decide_true, decide_false, reduceIte, and_true, true_and, i4]
      · rw [if_neg]; intro e; subst e; simp at ho
    | true =>
      have ho2 : op = 2 := by have := eq_of_beq ho; omega
      simp (maxSteps := 2000000) only [go_sem, Nat.reduceBEq, Nat.reduceLT, Nat.reduceAdd, Nat.reduceMul, Nat.reduceLeDiff, Nat.reduceEqDiff, decide_true, decide_false, reduceIte, and_true, true_and, i1, i2, i5, l1, ho]
      refine Ev.cond' ?_
      simp (maxSteps := 2000000) only [go_sem, Nat.reduceBEq, Nat.reduceLT, Nat.reduceAdd, Nat.reduceMul, Nat.reduceLeDiff, Nat.reduceEqDiff, decide_true, decide_false, reduceIte, and_true, true_and]
      by_cases hj : (j : Int) < (L.length : Int)
      rotate_left
      · have hj' : ¬ j < L.length := fun h => hj (by exact_mod_cast h)
        simp only [hj, decide_false, wpC_false]
        refine Ev.exit ?_
        simp (maxSteps := 2000000) only [go_sem, Nat.reduceBEq, Nat.reduceLT, Nat.reduceAdd, Nat.reduceMul, Nat.reduceLeDiff, Nat.reduceEqDiff, decide_true, decide_false, reduceIte, and_true, true_and]
        refine fin _ ?_ ?_ ?_ ?_
        · simp (maxSteps := 2000000) only [go_sem, Nat.reduceBEq, Nat.reduceLT, Nat.reduceAdd, Nat.reduceMul, Nat.reduceLeDiff, Nat.reduceEqDiff, decide_true, decide_false, reduceIte, and_true, true_and, i1]
        · simp (maxSteps := 2000000) only [go_sem, Nat.reduceBEq, Nat.reduceLT, Nat.reduceAdd, Nat.reduceMul, Nat.reduceLeDiff, Nat.reduceEqDiff, decide_true, decide_false, reduceIte, and_true, true_and, i2]
        · simp (maxSteps := 2000000) only [go_sem, Nat.reduceBEq, Nat.reduceLT, Nat.reduceAdd, Nat.reduceMul, Nat.reduceLeDiff, Nat.reduceEqDiff, decide_true, decide_false, reduceIte, and_true, true_and, i4]
        · rw [if_pos ho2, hfd ho2, List.drop_of_length_le (by omega)]; rfl
      have hj' : j < L.length := by exact_mod_cast hj
      obtain ⟨y, hy⟩ : ∃ y, L[j]? = some y := ⟨L[j], List.getElem?_eq_getElem hj'⟩
      obtain ⟨cy, hcy, vc, rfl, hvc⟩ := hr.get hy
      obtain ⟨a, ra, ha1, ha2⟩ := rows_idx (rows_app (g := [.cells [.int .u8 (op : Int), .str name, vb, .bool vs, va, .int .i64 sig, .int .i64 wid, .bool sg] 0 [], .cells z27 0 []]) hv) hcy .i64
      obtain ⟨b1, hb1, hb2⟩ := addr_at ha2 (o := 0) (by simp)
      obtain ⟨d1, hd1, hd2⟩ := addr_at ha2 (o := 1) (by simp)
      simp only [List.cons_append, List.drop_zero, List.drop_succ_cons, List.nil_append] at hb2 hd2
      have hyb := hbits y (List.mem_of_getElem? hy)
      have hfy := find_drop hy name
      have d3 := rows_cell hvc
      simp only [hj, decide_true, wpC_true]
      refine Ev.skip ?_
      simp (maxSteps := 2000000) only [go_sem, Nat.reduceBEq, Nat.reduceLT, Nat.reduceAdd, Nat.reduceMul, Nat.reduceLeDiff, Nat.reduceEqDiff, decide_true, decide_false, reduceIte, and_true, true_and]
      refine Ev.seq rfl (Ev.block (Ev.seq rfl (Ev.regD0' rfl (by kernel_rfl) (by kernel_rfl) ?_)))
      simp (maxSteps := 2000000) only [go_sem, Nat.reduceBEq, Nat.reduceLT, Nat.reduceAdd, Nat.reduceMul, Nat.reduceLeDiff, Nat.reduceEqDiff, decide_true, decide_false, reduceIte, and_true, true_and, i1, i2, i5, ha1, hb1, hb2]
      refine Ev.cond' ?_
      cases hnm : (y.name == name) with
      | true =>
        have hnm2 := eq_of_beq hnm
        simp (maxSteps := 2000000) only [go_sem, Nat.reduceBEq, Nat.reduceLT, Nat.reduceAdd, Nat.reduceMul, Nat.reduceLeDiff, Nat.reduceEqDiff, decide_true, decide_false, reduceIte, and_true, true_and, hnm]
        obtain ⟨g1, v1, hc1, c3, hr1⟩ := copied_run hm25 (l := l ++ [.cells [.int .u8 (op : Int), .str name, vb, .bool vs, va, .int .i64 sig, .int .i64 wid, .bool sg] 0 [], .cells z27 0 []]) (s := y.sg) (rows_app hvc) (by omega) n (by omega)
        simp only [List.append_assoc, List.cons_append, List.nil_append] at hc1
        refine Ev.seq rfl (Ev.reg' ?_)
        simp (maxSteps := 2000000) only [go_sem, Nat.reduceBEq, Nat.reduceLT, Nat.reduceAdd, Nat.reduceMul, Nat.reduceLeDiff, Nat.reduceEqDiff, decide_true, decide_false, reduceIte, and_true, true_and, i1, i2, i4, i5, ha1, hd1, hd2, hc1, c3, over]
        refine Ev.ret ?_
        simp (maxSteps := 2000000) only [go_sem, Nat.reduceBEq, Nat.reduceLT, Nat.reduceAdd, Nat.reduceMul, Nat.reduceLeDiff, Nat.reduceEqDiff, decide_true, decide_false, reduceIte, and_true, true_and]
        refine Ret.cell rfl (v := .agg [.int .u8 1, .str [], v1, .bool y.sg, .nils, .int .i64 0, .int .i64 0, .bool false]) (by simp (maxSteps := 2000000) only [go_sem, Nat.reduceBEq, Nat.reduceLT, Nat.reduceAdd, Nat.reduceMul, Nat.reduceLeDiff, Nat.reduceEqDiff, decide_true, decide_false, reduceIte, and_true, true_and, i4]) ?_
        refine ⟨_, [.int .u8 1, .str [], v1, .bool y.sg, .nils, .int .i64 0, .int .i64 0, .bool false], rfl, rfl, fun l' hl => ?_⟩
        have e : subst L (.mk op name bits vs args sig wid sg) = .mk 1 [] y.bits y.sg [] 0 0 false := by
          simp only [subst, ho2, if_true, hfd ho2, hfy, hnm2]
        rw [e]
        have h1 := hr1 (l' ++ [.cells [.int .u8 (op : Int), .str name, vb, .bool vs, va, .int .i64 sig, .int .i64 wid, .bool sg] 0 [], .cells [.int .u8 1, .str [], v1, .bool y.sg, .nils, .int .i64 0, .int .i64 0, .bool false] 0 []]) (by simp [hl])
        simp only [List.append_assoc, List.cons_append, List.nil_append] at h1
        exact ⟨v1, .nils, [], rfl, h1, rfl, rfl⟩
      | false =>
        have hnm2 : y.name ≠ name := fun e => by rw [e] at hnm; simp at hnm
        simp (maxSteps := 2000000) only [go_sem, Nat.reduceBEq, Nat.reduceLT, Nat.reduceAdd, Nat.reduceMul, Nat.reduceLeDiff, Nat.reduceEqDiff, decide_true, decide_false, reduceIte, and_true, true_and, hnm]
        refine Ev.skip ?_
        simp (maxSteps := 2000000) only [go_sem, Nat.reduceBEq, Nat.reduceLT, Nat.reduceAdd, Nat.reduceMul, Nat.reduceLeDiff, Nat.reduceEqDiff, decide_true, decide_false, reduceIte, and_true, true_and]
        refine Ev.reg' ?_
        simp (maxSteps := 2000000) only [go_sem, Nat.reduceBEq, Nat.reduceLT, Nat.reduceAdd, Nat.reduceMul, Nat.reduceLeDiff, Nat.reduceEqDiff, decide_true, decide_false, reduceIte, and_true, true_and, i1, i2, i4, i5]
        refine ⟨k - 1, by omega, j + 1, by rw [IntWalk.i64_in _ (by omega)]; rfl, by omega, fun _ => ?_⟩
        rw [hfd ho2, hfy, if_neg hnm2]
end Cm

set_option linter.unusedVariables false
open Go Go.Vm Go.Proofs
namespace Cm
variable [Gl]
/-- A region in which all may be written. -/
def Inv (m : Nat) (g : List Ob) : Prop := ∀ (j : Nat) (D : List V) (fz : Nat) (anc : List Vm.Id), g[j]? = some (.cells D fz anc) → fz = 0 ∧ ∀ a ∈ anc, ∃ i, a = idOf (m + i) ∧ i < g.length ∧ ∀ (D' : List V) (fz' : Nat) (anc' : List Vm.Id), g[i]? ≠ some (.cells D' fz' anc')
def BitsOK (m : Nat) (g : List Ob) (v : V) : Prop := v = .nils ∨ ∃ j k D anc, v = .ref 1 (idOf (m + j)) 0 k ∧ g[j]? = some (.cells D 0 anc) ∧ D.length = k ∧ k ≤ 1048576 ∧ ∀ u ∈ D, ∃ a, u = .int .u8 a
/-- The shape of an expression that lies in a region, by depth. -/
def ShN (m : Nat) (g : List Ob) : Nat → List V → Prop
  | 0, _ => False
  | n + 1, c => ∃ a s vb b va i1 i2 b2, c = [.int .u8 a, .str s, vb, .bool b, va, .int .i64 i1, .int .i64 i2, .bool b2] ∧ BitsOK m g vb ∧
    (va = .nils ∨ ∃ j k D anc, va = .ref 8 (idOf (m + j)) 0 k ∧ g[j]? = some (.cells D 0 anc) ∧ D.length = k * 8 ∧ k ≤ 1048576 ∧ ∀ i, i < k → ShN m g n ((D.drop (i * 8)).take 8))
def ArgsOK (m : Nat) (g : List Ob) (n : Nat) (va : V) : Prop := va = .nils ∨ ∃ j k D anc, va = .ref 8 (idOf (m + j)) 0 k ∧ g[j]? = some (.cells D 0 anc) ∧ D.length = k * 8 ∧ k ≤ 1048576 ∧ ∀ i, i < k → ShN m g n ((D.drop (i * 8)).take 8)
theorem Inv.nil (m : Nat) : Inv m [] := fun j D fz anc h => by simp at h
theorem Inv.one (m : Nat) (c : List V) : Inv m [.cells c 0 []] := fun j D fz anc h => by
  cases j with
  | zero => simp at h; obtain ⟨_, rfl, rfl⟩ := h; exact ⟨rfl, fun a ha => by cases ha⟩
  | succ j => simp at h
theorem Inv.other (m : Nat) {o : Ob} (ho : ∀ (D : List V) (fz : Nat) (anc : List Vm.Id), o ≠ .cells D fz anc) : Inv m [o] := fun j D fz anc h => by
  cases j with
  | zero => simp at h; exact absurd h (ho _ _ _)
  | succ j => simp at h
theorem Inv.append {m : Nat} {g h : List Ob} (hg : Inv m g) (hh : Inv (m + g.length) h) : Inv m (g ++ h) := by
  intro j D fz anc hj
  rcases Nat.lt_or_ge j g.length with hl | hl
  · rw [List.getElem?_append_left hl] at hj
    obtain ⟨h1, h2⟩ := hg j D fz anc hj
    refine ⟨h1, fun a ha => ?_⟩
    obtain ⟨i, e, hi, hn⟩ := h2 a ha
    exact ⟨i, e, by simp; omega, fun D' fz' anc' => by rw [List.getElem?_append_left hi]; exact hn D' fz' anc'⟩
  · rw [List.getElem?_append_right hl] at hj
    obtain ⟨h1, h2⟩ := hh _ D fz anc hj
    refine ⟨h1, fun a ha => ?_⟩
    obtain ⟨i, e, hi, hn⟩ := h2 a ha
    exact ⟨g.length + i, by rw [e, Nat.add_assoc], by simp; omega, fun D' fz' anc' => by rw [List.getElem?_append_right (by omega), Nat.add_sub_cancel_left]; exact hn D' fz' anc'⟩
theorem Inv.cons {m : Nat} {c : List V} {h : List Ob} (hh : Inv (m + 1) h) : Inv m (.cells c 0 [] :: h) := Inv.append (g := [.cells c 0 []]) (Inv.one m c) hh
theorem Inv.cons' {m : Nat} {o : Ob} {h : List Ob} (ho : ∀ (D : List V) (fz : Nat) (anc : List Vm.Id), o ≠ .cells D fz anc) (hh : Inv (m + 1) h) : Inv m (o :: h) := Inv.append (g := [o]) (Inv.other m ho) hh
theorem BitsOK.app {m : Nat} {g h : List Ob} {v : V} (hv : BitsOK m g v) : BitsOK m (g ++ h) v := by
  rcases hv with rfl | ⟨j, k, D, anc, rfl, h1, h2, hk, h3⟩
  · exact .inl rfl
  · exact .inr ⟨j, k, D, anc, rfl, get_app h1, h2, hk, h3⟩
theorem ShN.app {m : Nat} {g h : List Ob} : ∀ {n : Nat} {c : List V}, ShN m g n c → ShN m (g ++ h) n c
  | 0, _, hc => hc.elim
  | n + 1, c, ⟨a, s, vb, b, va, i1, i2, b2, e, hb, ha⟩ => by
    refine ⟨a, s, vb, b, va, i1, i2, b2, e, hb.app, ?_⟩
    rcases ha with rfl | ⟨j, k, D, anc, rfl, h1, h2, hk, h3⟩
    · exact .inl rfl
    · exact .inr ⟨j, k, D, anc, rfl, get_app h1, h2, hk, fun i hi => (h3 i hi).app⟩
theorem get_shift {g0 g : List Ob} {j : Nat} : (g0 ++ g)[g0.length + j]? = g[j]? := by
  rw [List.getElem?_append_right (by omega), Nat.add_sub_cancel_left]
theorem BitsOK.shift {m : Nat} {g0 g : List Ob} {v : V} (hv : BitsOK (m + g0.length) g v) : BitsOK m (g0 ++ g) v := by
  rcases hv with rfl | ⟨j, k, D, anc, rfl, h1, h2, hk, h3⟩
  · exact .inl rfl
  · exact .inr ⟨g0.length + j, k, D, anc, by rw [Nat.add_assoc], by rw [get_shift]; exact h1, h2, hk, h3⟩
theorem ShN.shift {m : Nat} {g0 g : List Ob} : ∀ {n : Nat} {c : List V}, ShN (m + g0.length) g n c → ShN m (g0 ++ g) n c
  | 0, _, hc => hc.elim
  | n + 1, c, ⟨a, s, vb, b, va, i1, i2, b2, e, hb, ha⟩ => by
    refine ⟨a, s, vb, b, va, i1, i2, b2, e, hb.shift, ?_⟩
    rcases ha with rfl | ⟨j, k, D, anc, rfl, h1, h2, hk, h3⟩
    · exact .inl rfl
    · exact .inr ⟨g0.length + j, k, D, anc, by rw [Nat.add_assoc], by rw [get_shift]; exact h1, h2, hk, fun i hi => (h3 i hi).shift⟩
theorem ShN.le {m : Nat} {g : List Ob} : ∀ {n n' : Nat} {c : List V}, n ≤ n' → ShN m g n c → ShN m g n' c
  | 0, _, _, _, hc => hc.elim
  | n + 1, 0, _, h, _ => by omega
  | n + 1, n' + 1, c, h, ⟨a, s, vb, b, va, i1, i2, b2, e, hb, ha⟩ => by
    refine ⟨a, s, vb, b, va, i1, i2, b2, e, hb, ?_⟩
    rcases ha with rfl | ⟨j, k, D, anc, rfl, h1, h2, hk, h3⟩
    · exact .inl rfl
    · exact .inr ⟨j, k, D, anc, rfl, h1, h2, hk, fun i hi => (h3 i hi).le (by omega)⟩
/-- What may be written over what. -/
def LeC (v v' : V) : Prop := v' = v ∨ (∃ k a b, v = .int k a ∧ v' = .int k b) ∨ (∃ s s', v = .str s ∧ v' = .str s') ∨ (∃ a b, v = .bool a ∧ v' = .bool b) ∨ ((∃ e i o n, v = .ref e i o n) ∧ v' = .nils)
theorem LeC.trans {a b c : V} (h1 : LeC a b) (h2 : LeC b c) : LeC a c := by
  rcases h1 with rfl | ⟨k, x, y, rfl, rfl⟩ | ⟨s, s', rfl, rfl⟩ | ⟨x, y, rfl, rfl⟩ | ⟨⟨e, i, o, n, rfl⟩, rfl⟩
  · exact h2
  all_goals rcases h2 with rfl | ⟨k', x', y', h, rfl⟩ | ⟨s'', s3, h, rfl⟩ | ⟨x', y', h, rfl⟩ | ⟨⟨e', i', o', n', h⟩, rfl⟩
  all_goals first
    | (cases h; done)
    | (injection h with h1 h2; subst h1; exact .inr (.inl ⟨_, _, _, rfl, rfl⟩))
    | exact .inr (.inl ⟨_, _, _, rfl, rfl⟩)
    | exact .inr (.inr (.inl ⟨_, _, rfl, rfl⟩))
    | exact .inr (.inr (.inr (.inl ⟨_, _, rfl, rfl⟩)))
    | exact .inr (.inr (.inr (.inr ⟨⟨_, _, _, _, rfl⟩, rfl⟩)))
structure LeG (g g' : List Ob) : Prop where
  len : g'.length = g.length
  at' : ∀ (j : Nat) (D : List V) (fz : Nat) (anc : List Vm.Id), g[j]? = some (.cells D fz anc) → ∃ D' anc', g'[j]? = some (.cells D' fz anc') ∧ D'.length = D.length ∧ ∀ (i : Nat) (v v' : V), D[i]? = some v → D'[i]? = some v' → LeC v v'
theorem LeG.refl (g : List Ob) : LeG g g := ⟨rfl, fun j D fz anc h => ⟨D, anc, h, rfl, fun i v v' h1 h2 => .inl (by rw [h1] at h2; injection h2 with h2; exact h2.symm)⟩⟩
theorem LeG.trans {a b c : List Ob} (h : LeG a b) (k : LeG b c) : LeG a c := by
  refine ⟨k.len.trans h.len, fun j D fz anc hj => ?_⟩
  obtain ⟨D1, anc1, h1, h2, h3⟩ := h.at' j D fz anc hj
  obtain ⟨D2, anc2, k1, k2, k3⟩ := k.at' j D1 fz anc1 h1
  refine ⟨D2, anc2, k1, k2.trans h2, fun i v v' hv hv' => ?_⟩
  have hi : i < D1.length := by rw [h2]; exact (List.getElem?_eq_some_iff.1 hv).1
  exact (h3 i v D1[i] hv (by simp [hi])).trans (k3 i D1[i] v' (by simp [hi]) hv')
end Cm

set_option linter.unusedVariables false
open Go Go.Vm Go.Proofs
namespace Cm
variable [Gl]
theorem LeC.int {k : IntKind} {a : Int} {v : V} (h : LeC (.int k a) v) : ∃ b, v = .int k b := by
  rcases h with rfl | ⟨k', x, y, h, rfl⟩ | ⟨s, s', h, rfl⟩ | ⟨x, y, h, rfl⟩ | ⟨⟨e, i, o, n, h⟩, rfl⟩
  · exact ⟨_, rfl⟩
  · injection h with h1 h2; subst h1; exact ⟨_, rfl⟩
  all_goals cases h
theorem LeC.str {a : List Nat} {v : V} (h : LeC (.str a) v) : ∃ b, v = .str b := by
  rcases h with rfl | ⟨k', x, y, h, rfl⟩ | ⟨s, s', h, rfl⟩ | ⟨x, y, h, rfl⟩ | ⟨⟨e, i, o, n, h⟩, rfl⟩
  · exact ⟨_, rfl⟩
  · cases h
  · exact ⟨_, rfl⟩
  all_goals cases h
theorem LeC.bool {a : Bool} {v : V} (h : LeC (.bool a) v) : ∃ b, v = .bool b := by
  rcases h with rfl | ⟨k', x, y, h, rfl⟩ | ⟨s, s', h, rfl⟩ | ⟨x, y, h, rfl⟩ | ⟨⟨e, i, o, n, h⟩, rfl⟩
  · exact ⟨_, rfl⟩
  · cases h
  · cases h
  · exact ⟨_, rfl⟩
  all_goals cases h
theorem LeC.nils {v : V} (h : LeC .nils v) : v = .nils := by
  rcases h with rfl | ⟨k', x, y, h, rfl⟩ | ⟨s, s', h, rfl⟩ | ⟨x, y, h, rfl⟩ | ⟨⟨e, i, o, n, h⟩, rfl⟩
  · rfl
  all_goals cases h
theorem LeC.ref {e : Nat} {i : Vm.Id} {o n : Nat} {v : V} (h : LeC (.ref e i o n) v) : v = .ref e i o n ∨ v = .nils := by
  rcases h with rfl | ⟨k', x, y, h, rfl⟩ | ⟨s, s', h, rfl⟩ | ⟨x, y, h, rfl⟩ | ⟨⟨e, i, o, n, h⟩, rfl⟩
  · exact .inl rfl
  · cases h
  · cases h
  · cases h
  · exact .inr rfl
theorem BitsOK.leG {m : Nat} {g g' : List Ob} (hl : LeG g g') {v v' : V} (hv : BitsOK m g v) (h : LeC v v') : BitsOK m g' v' := by
  rcases hv with rfl | ⟨j, k, D, anc, rfl, h1, h2, hk, h3⟩
  · exact .inl h.nils
  · rcases h.ref with rfl | rfl
    · obtain ⟨D', anc', q1, q2, q3⟩ := hl.at' j D 0 anc h1
      refine .inr ⟨j, k, D', anc', rfl, q1, q2.trans h2, hk, fun u hu => ?_⟩
      obtain ⟨i, hi⟩ := List.getElem?_of_mem hu
      have hil : i < D.length := by rw [← q2]; exact (List.getElem?_eq_some_iff.1 hi).1
      obtain ⟨a, ha⟩ := h3 D[i] (List.getElem_mem hil)
      have := q3 i D[i] u (by simp [hil]) hi
      rw [ha] at this
      exact this.int
    · exact .inl rfl
theorem ShN.leG {m : Nat} {g g' : List Ob} (hl : LeG g g') : ∀ {n : Nat} {c c' : List V}, ShN m g n c → c'.length = c.length → (∀ (i : Nat) (v v' : V), c[i]? = some v → c'[i]? = some v' → LeC v v') → ShN m g' n c'
  | 0, _, _, hc, _, _ => hc.elim
  | n + 1, c, c', ⟨a, s, vb, b, va, i1, i2, b2, e, hb, ha⟩, hlen, hle => by
    subst e
    match c', hlen, hle with
    | [x0, x1, x2, x3, x4, x5, x6, x7], _, hle =>
      obtain ⟨a', rfl⟩ := (hle 0 _ x0 rfl rfl).int
      obtain ⟨s', rfl⟩ := (hle 1 _ x1 rfl rfl).str
      obtain ⟨b', rfl⟩ := (hle 3 _ x3 rfl rfl).bool
      obtain ⟨i1', rfl⟩ := (hle 5 _ x5 rfl rfl).int
      obtain ⟨i2', rfl⟩ := (hle 6 _ x6 rfl rfl).int
      obtain ⟨b2', rfl⟩ := (hle 7 _ x7 rfl rfl).bool
      refine ⟨a', s', x2, b', x4, i1', i2', b2', rfl, hb.leG hl (hle 2 _ x2 rfl rfl), ?_⟩
      have h4 := hle 4 _ x4 rfl rfl
      rcases ha with rfl | ⟨j, k, D, anc, rfl, h1, h2, hk, h3⟩
      · exact .inl h4.nils
      · rcases h4.ref with rfl | rfl
        · obtain ⟨D', anc', q1, q2, q3⟩ := hl.at' j D 0 anc h1
          refine .inr ⟨j, k, D', anc', rfl, q1, q2.trans h2, hk, fun i hi => ?_⟩
          refine ShN.leG hl (h3 i hi) (by simp [q2]) (fun p v v' hv hv' => ?_)
          rw [List.getElem?_take] at hv hv'
          split at hv
          · rename_i hp
            rw [if_pos hp] at hv'
            rw [List.getElem?_drop] at hv hv'
            exact q3 _ v v' hv hv'
          · cases hv
        · exact .inl rfl
theorem ShN.ge {m : Nat} {g g' : List Ob} (hl : LeG g g') {n : Nat} {c : List V} (h : ShN m g n c) : ShN m g' n c :=
  h.leG hl rfl (fun i v v' h1 h2 => .inl (by rw [h1] at h2; injection h2 with h2; exact h2.symm))
theorem killAll_reg {A h : List Ob} : ∀ (anc : List Vm.Id) (g : List Ob), (∀ a ∈ anc, ∃ i, a = idOf (A.length + i) ∧ i < g.length) → ∃ g1, killAll anc (stL (A ++ (g ++ h))) = stL (A ++ (g1 ++ h)) ∧ g1.length = g.length ∧ ∀ i : Nat, g1[i]? = g[i]? ∨ ((∃ L, g[i]? = some (.stale L)) ∧ g1[i]? = some .dead)
  | [], g, _ => ⟨g, rfl, rfl, fun i => .inl rfl⟩
  | a :: r, g, ha => by
    obtain ⟨i, rfl, hi⟩ := ha a (by simp)
    have hget : (A ++ (g ++ h))[A.length + i]? = g[i]? := by rw [get_shift, List.getElem?_append_left hi]
    simp only [killAll, stL_get, hget]
    cases ho : g[i]? with
    | none => rw [List.getElem?_eq_none_iff] at ho; omega
    | some o =>
      by_cases hs : ∃ L, o = .stale L
      · obtain ⟨L, rfl⟩ := hs
        simp only [Option.getD_some]
        rw [stL_set _ _ _ (by simp; omega)]
        have e : (A ++ (g ++ h)).set (A.length + i) .dead = A ++ (g.set i .dead ++ h) := by
          rw [List.set_append_right _ _ (by omega), Nat.add_sub_cancel_left, List.set_append_left _ _ hi]
        rw [e]
        obtain ⟨g1, q1, q2, q3⟩ := killAll_reg r (g.set i .dead) (fun x hx => by
          obtain ⟨p, e1, e2⟩ := ha x (by simp [hx])
          exact ⟨p, e1, by simpa using e2⟩)
        refine ⟨g1, q1, by simpa using q2, fun p => ?_⟩
        rcases Nat.decEq p i with hp | hp
        · have : (g.set i .dead)[p]? = g[p]? := by rw [List.getElem?_set_ne (fun e => hp e.symm)]
          rw [← this]; exact q3 p
        · subst hp
          have hd : (g.set p .dead)[p]? = some .dead := by simp [hi]
          right
          refine ⟨⟨L, ho⟩, ?_⟩
          rcases q3 p with q | ⟨⟨_, q⟩, _⟩
          · rw [q, hd]
          · rw [hd] at q; cases q
      · obtain ⟨g1, q1, q2, q3⟩ := killAll_reg r g (fun x hx => ha x (by simp [hx]))
        refine ⟨g1, ?_, q2, q3⟩
        rw [← q1]
        congr 1
        cases o <;> first | rfl | exact absurd ⟨_, rfl⟩ hs
end Cm

set_option linter.unusedVariables false
open Go Go.Vm Go.Proofs
namespace Cm
variable [Gl]
theorem over_len (D vs : List V) (off : Nat) (h : off + vs.length ≤ D.length) : (over D off vs).length = D.length := by
  simp only [over, List.length_append, List.length_take, List.length_drop]; omega
/-- Writing into a region. -/
theorem write_inv {A g h : List Ob} (hI : Inv A.length g) {j off : Nat} {D vs : List V} {anc : List Vm.Id} (hj : g[j]? = some (.cells D 0 anc)) (hb : off + vs.length ≤ D.length) (hle : ∀ (i : Nat) (v v' : V), D[i]? = some v → (over D off vs)[i]? = some v' → LeC v v') :
    ∃ g', wrX (A ++ (g ++ h)) (A.length + j) off vs (some (.cells D 0 anc)) = some (.any, stL (A ++ (g' ++ h))) ∧ Inv A.length g' ∧ LeG g g' ∧ g'[j]? = some (.cells (over D off vs) 0 []) := by
  have hjl : j < g.length := (List.getElem?_eq_some_iff.1 hj).1
  obtain ⟨_, hanc⟩ := hI j D 0 anc hj
  obtain ⟨g1, q1, q2, q3⟩ := killAll_reg (A := A) (h := h) anc g (fun a ha => by obtain ⟨i, e, hi, _⟩ := hanc a ha; exact ⟨i, e, hi⟩)
  have hj1 : j < g1.length := by omega
  have hset : ∀ (o : Ob), (stL (A ++ (g1 ++ h))).set (idOf (A.length + j)) o = stL (A ++ (g1.set j o ++ h)) := by
    intro o
    rw [stL_set _ _ _ (by simp; omega), List.set_append_right _ _ (by omega), Nat.add_sub_cancel_left, List.set_append_left _ _ hj1]
  have hcell : ∀ (i : Nat) (D' : List V) (fz' : Nat) (anc' : List Vm.Id), g1[i]? = some (.cells D' fz' anc') ↔ g[i]? = some (.cells D' fz' anc') := by
    intro i D' fz' anc'
    rcases q3 i with q | ⟨⟨L, q⟩, q'⟩
    · rw [q]
    · rw [q, q']; constructor <;> (intro h; cases h)
  refine ⟨g1.set j (.cells (over D off vs) 0 []), ?_, ?_, ?_, by simp [hj1]⟩
  · cases anc with
    | nil =>
      simp only [killAll] at q1
      rw [wrX_nil, if_pos ⟨Nat.zero_le _, hb⟩, ← hset, ← q1, stL_set _ _ _ (by simp; omega)]
    | cons a r =>
      have hn : idOf (A.length + j) ∉ a :: r := by
        intro hm
        obtain ⟨i, e, hi, hne⟩ := hanc _ hm
        have : A.length + j = A.length + i := by
          have := congrArg Vm.Id.num e
          simpa only [num_idOf] using this
        have : i = j := by omega
        subst this
        exact hne _ _ _ hj
      simp only [wrX]
      rw [if_pos ⟨Nat.zero_le _, hb, hn⟩, q1, hset]
  · intro i D' fz' anc' hi
    rcases Nat.decEq i j with hp | hp
    · rw [List.getElem?_set_ne (fun e => hp e.symm), hcell] at hi
      obtain ⟨h1, h2⟩ := hI i D' fz' anc' hi
      refine ⟨h1, fun a ha => ?_⟩
      obtain ⟨p, e, hpl, hne⟩ := h2 a ha
      refine ⟨p, e, by simpa [q2] using hpl, fun D2 fz2 anc2 => ?_⟩
      rcases Nat.decEq p j with hpj | hpj
      · rw [List.getElem?_set_ne (fun e => hpj e.symm)]
        intro hc
        rw [hcell] at hc
        exact hne _ _ _ hc
      · subst hpj; exact absurd hj (hne _ _ _)
    · subst hp
      rw [List.getElem?_set_self hj1] at hi
      injection hi with hi; injection hi with e1 e2 e3
      subst e2; subst e3
      exact ⟨rfl, fun a ha => by cases ha⟩
  · refine ⟨by simpa using q2, fun i D' fz' anc' hi => ?_⟩
    rcases Nat.decEq i j with hp | hp
    · refine ⟨D', anc', ?_, rfl, fun p v v' h1 h2 => .inl (by rw [h1] at h2; injection h2 with h2; exact h2.symm)⟩
      rw [List.getElem?_set_ne (fun e => hp e.symm), hcell]; exact hi
    · subst hp
      rw [hj] at hi
      injection hi with hi; injection hi with e1 e2 e3
      subst e1; subst e2; subst e3
      exact ⟨over D off vs, [], by rw [List.getElem?_set_self hj1], over_len D vs off hb, hle⟩
theorem over_le {D z c : List V} {off : Nat} (hc : (D.drop off).take z.length = c) (hb : off + z.length ≤ D.length) (hle : ∀ (i : Nat) (v v' : V), c[i]? = some v → z[i]? = some v' → LeC v v') : ∀ (i : Nat) (v v' : V), D[i]? = some v → (over D off z)[i]? = some v' → LeC v v' := by
  intro i v v' hv hv'
  simp only [over] at hv'
  have ht : (D.take off).length = off := by simp; omega
  rcases Nat.lt_or_ge i off with h | h
  · rw [List.append_assoc, List.getElem?_append_left (by omega), List.getElem?_take, if_pos h, hv] at hv'
    injection hv' with hv'
    exact .inl hv'.symm
  · rcases Nat.lt_or_ge i (off + z.length) with h2 | h2
    · rw [List.append_assoc, List.getElem?_append_right (by omega), ht, List.getElem?_append_left (by omega)] at hv'
      refine hle (i - off) v v' ?_ hv'
      rw [← hc, List.getElem?_take, if_pos (by omega), List.getElem?_drop, show off + (i - off) = i by omega]
      exact hv
    · rw [List.getElem?_append_right (by simp; omega), List.getElem?_drop] at hv'
      have e : off + z.length + (i - (List.take off D ++ z).length) = i := by simp only [List.length_append, ht]; omega
      rw [e, hv] at hv'
      injection hv' with hv'
      exact .inl hv'.symm
theorem sh_zero {m : Nat} {g : List Ob} {n : Nat} {c : List V} (h : ShN m g n c) : ∀ (i : Nat) (v v' : V), c[i]? = some v → z27[i]? = some v' → LeC v v' := by
  cases n with
  | zero => exact h.elim
  | succ n =>
    obtain ⟨a, s, vb, b, va, i1, i2, b2, rfl, hb, ha⟩ := h
    have h2 : LeC vb .nils := by
      rcases hb with rfl | ⟨j, k, D, anc, rfl, _⟩
      · exact .inl rfl
      · exact .inr (.inr (.inr (.inr ⟨⟨_, _, _, _, rfl⟩, rfl⟩)))
    have h4 : LeC va .nils := by
      rcases ha with rfl | ⟨j, k, D, anc, rfl, _⟩
      · exact .inl rfl
      · exact .inr (.inr (.inr (.inr ⟨⟨_, _, _, _, rfl⟩, rfl⟩)))
    intro i v v' hv hv'
    match i, hv, hv' with
    | 0, hv, hv' => cases hv; cases hv'; exact .inr (.inl ⟨_, _, _, rfl, rfl⟩)
    | 1, hv, hv' => cases hv; cases hv'; exact .inr (.inr (.inl ⟨_, _, rfl, rfl⟩))
    | 2, hv, hv' => cases hv; cases hv'; exact h2
    | 3, hv, hv' => cases hv; cases hv'; exact .inr (.inr (.inr (.inl ⟨_, _, rfl, rfl⟩)))
    | 4, hv, hv' => cases hv; cases hv'; exact h4
    | 5, hv, hv' => cases hv; cases hv'; exact .inr (.inl ⟨_, _, _, rfl, rfl⟩)
    | 6, hv, hv' => cases hv; cases hv'; exact .inr (.inl ⟨_, _, _, rfl, rfl⟩)
    | 7, hv, hv' => cases hv; cases hv'; exact .inr (.inr (.inr (.inl ⟨_, _, rfl, rfl⟩)))
    | i + 8, hv, hv' => simp at hv
end Cm

set_option linter.unusedVariables false
open Go Go.Vm Go.Proofs
namespace Cm
variable [Gl]
set_option maxHeartbeats 1000000 in
theorem spoil_run {memo : Memo} (hm13 : memo 13 = none) : ∀ (N : Nat) (c : List V) (A g h : List Ob), ShN A.length g N c → Inv A.length g → ∀ (n : Nat), 1048578 + N ≤ n →
    ∃ g' h' u, callN Tryz.prog (memoBase memo) (drawOK Tryz.prog) n 13 [.agg c] (stL (A ++ (g ++ h))) = some (u, stL (A ++ (g' ++ (h ++ h')))) ∧ Inv A.length g' ∧ LeG g g'
  | 0, c, A, g, h, hs, _ => hs.elim
  | N + 1, c, A, g, h, hsh, hI => by
    intro n hn
    obtain ⟨n, rfl⟩ : ∃ m, n = m + 1 := ⟨n - 1, by omega⟩
    obtain ⟨a, s, vb, b, va, i1, i2, b2, rfl, hb, ha⟩ := hsh
    suffices hs : ∃ u S', callN Tryz.prog (memoBase memo) (drawOK Tryz.prog) (n + 1) 13 [.agg [.int .u8 a, .str s, vb, .bool b, va, .int .i64 i1, .int .i64 i2, .bool b2]] (stL (A ++ (g ++ h))) = some (u, S') ∧
        (∃ g' h', S' = stL (A ++ (g' ++ (h ++ h'))) ∧ Inv A.length g' ∧ LeG g g') by
      obtain ⟨u, S', h1, g', h', rfl, h2⟩ := hs; exact ⟨g', h', u, h1, h2⟩
    refine run_fn hm13 Tryz.func13 rfl (by simp [Tryz.f13]) ?_
    obtain ⟨bx, hbx⟩ : ∃ bx, bx = ([.int .u8 a, .str s, vb, .bool b, va, .int .i64 i1, .int .i64 i2, .bool b2] : List V) := ⟨_, rfl⟩
    have cb : vb.isCell = true := by rcases hb with rfl | ⟨j, k, D, anc, rfl, _⟩ <;> rfl
    have ca : va.isCell = true := by rcases ha with rfl | ⟨j, k, D, anc, rfl, _⟩ <;> rfl
    obtain ⟨kb, hkb, hkb2⟩ : ∃ kb, lenOf vb = some kb ∧ kb ≤ 1048576 := by
      rcases hb with rfl | ⟨j, k, D, anc, rfl, h1, h2, hk, h3⟩
      · exact ⟨0, rfl, by omega⟩
      · exact ⟨k, rfl, hk⟩
    obtain ⟨ka, hka, hka2⟩ : ∃ ka, lenOf va = some ka ∧ ka ≤ 1048576 := by
      rcases ha with rfl | ⟨j, k, D, anc, rfl, h1, h2, hk, h3⟩
      · exact ⟨0, rfl, by omega⟩
      · exact ⟨k, rfl, hk⟩
    refine Ev.seq rfl (Ev.reg' ?_)
    simp (maxSteps := 2000000) only [go_sem, Nat.reduceBEq, Nat.reduceLT, Nat.reduceAdd, Nat.reduceMul, Nat.reduceLeDiff, Nat.reduceEqDiff, decide_true, decide_false, reduceIte, and_true, true_and]
    refine Ev.seq rfl (Ev.seq rfl (Ev.reg' ?_))
    simp (maxSteps := 2000000) only [go_sem, Nat.reduceBEq, Nat.reduceLT, Nat.reduceAdd, Nat.reduceMul, Nat.reduceLeDiff, Nat.reduceEqDiff, decide_true, decide_false, reduceIte, and_true, true_and]
    refine Ev.block (Ev.loop (fun k t S => t 1 = .ptr (idOf (A.length + (g.length + h.length))) 0 ∧ ∃ j : Nat, t 2 = .int .i64 (j : Int) ∧ j + k = kb ∧ ∃ g', S = stL (A ++ (g' ++ (h ++ [.cells [.int .u8 a, .str s, vb, .bool b, va, .int .i64 i1, .int .i64 i2, .bool b2] 0 []]))) ∧ Inv A.length g' ∧ LeG g g') kb (by omega) ?_ ?_)
    · simp (maxSteps := 2000000) only [go_sem, Nat.reduceBEq, Nat.reduceLT, Nat.reduceAdd, Nat.reduceMul, Nat.reduceLeDiff, Nat.reduceEqDiff, decide_true, decide_false, reduceIte, and_true, true_and]
      exact ⟨0, rfl, by omega, g, rfl, hI, LeG.refl g⟩
    intro k t S ⟨t1, j, t2, hjk, g1, iS, hI1, hL1⟩
    subst iS
    have gl1 : g1.length = g.length := hL1.len
    rw [← gl1] at t1
    refine Ev.seq rfl (Ev.seq rfl (Ev.reg' ?_))
    simp (maxSteps := 2000000) only [go_sem, Nat.reduceBEq, Nat.reduceLT, Nat.reduceAdd, Nat.reduceMul, Nat.reduceLeDiff, Nat.reduceEqDiff, decide_true, decide_false, reduceIte, and_true, true_and, t1, t2, hkb]
    refine Ev.cond' ?_
    simp (maxSteps := 2000000) only [go_sem, Nat.reduceBEq, Nat.reduceLT, Nat.reduceAdd, Nat.reduceMul, Nat.reduceLeDiff, Nat.reduceEqDiff, decide_true, decide_false, reduceIte, and_true, true_and]
    by_cases hj : (j : Int) < (kb : Int)
    · have hj' : j < kb := by exact_mod_cast hj
      simp only [hj, decide_true, wpC_true]
      refine Ev.skip ?_
      simp (maxSteps := 2000000) only [go_sem, Nat.reduceBEq, Nat.reduceLT, Nat.reduceAdd, Nat.reduceMul, Nat.reduceLeDiff, Nat.reduceEqDiff, decide_true, decide_false, reduceIte, and_true, true_and]
      rcases hb with rfl | ⟨p, q, D, anc, rfl, h1, h2, hk, h3⟩
      · injection hkb with hkb; omega
      injection hkb with hkb
      subst hkb
      obtain ⟨D1, anc1, q1, q2, q3⟩ := hL1.at' p D 0 anc h1
      have hsame : ∀ u ∈ D1, ∃ a, u = V.int .u8 a := fun u hu => by
        obtain ⟨i, hi⟩ := List.getElem?_of_mem hu
        have hil : i < D.length := by rw [← q2]; exact (List.getElem?_eq_some_iff.1 hi).1
        obtain ⟨a, ha⟩ := h3 D[i] (List.getElem_mem hil)
        have := q3 i D[i] u (by simp [hil]) hi
        rw [ha] at this
        exact this.int
      have hjD : j < D1.length := by omega
      obtain ⟨g2, w1, w2, w3, w4⟩ := write_inv (A := A) (h := h ++ [.cells [.int .u8 a, .str s, .ref 1 (idOf (A.length + p)) 0 q, .bool b, va, .int .i64 i1, .int .i64 i2, .bool b2] 0 []]) hI1 (off := j) (vs := [.int .u8 3]) q1 (by simp; omega) (over_le (c := [D1[j]]) (by simp only [List.length_cons, List.length_nil]; rw [List.drop_eq_getElem_cons hjD]; rfl) (by simp; omega) (fun i v v' hv hv' => by
        cases i with
        | succ i => simp at hv
        | zero =>
          obtain ⟨a', ha'⟩ := hsame D1[j] (List.getElem_mem hjD)
          simp only [List.getElem?_cons_zero, Option.some.injEq] at hv hv'
          subst hv; subst hv'
          rw [ha']
          exact .inr (.inl ⟨_, _, _, rfl, rfl⟩)))
      have hget : ∀ X : List Ob, (g1 ++ X)[p]? = some (.cells D1 0 anc1) := fun X => get_app q1
      refine Ev.seq rfl (Ev.block (Ev.reg' ?_))
      simp (maxSteps := 2000000) only [go_sem, Nat.reduceBEq, Nat.reduceLT, Nat.reduceAdd, Nat.reduceMul, Nat.reduceLeDiff, Nat.reduceEqDiff, decide_true, decide_false, reduceIte, and_true, true_and, t1, t2, idxAddr_ref, hj', if_true, Nat.zero_add, Nat.mul_one, hget, w1]
      refine Ev.reg' ?_
      simp (maxSteps := 2000000) only [go_sem, Nat.reduceBEq, Nat.reduceLT, Nat.reduceAdd, Nat.reduceMul, Nat.reduceLeDiff, Nat.reduceEqDiff, decide_true, decide_false, reduceIte, and_true, true_and, t1, t2]
      refine ⟨k - 1, by omega, ?_, j + 1, by rw [IntWalk.i64_in _ (by omega)]; rfl, by omega, g2, rfl, w2, hL1.trans w3⟩
      rw [gl1]
    · simp only [hj, decide_false, wpC_false]
      refine Ev.exit ?_
      simp (maxSteps := 2000000) only [go_sem, Nat.reduceBEq, Nat.reduceLT, Nat.reduceAdd, Nat.reduceMul, Nat.reduceLeDiff, Nat.reduceEqDiff, decide_true, decide_false, reduceIte, and_true, true_and]
      refine Ev.seq rfl (Ev.reg' ?_)
      simp (maxSteps := 2000000) only [go_sem, Nat.reduceBEq, Nat.reduceLT, Nat.reduceAdd, Nat.reduceMul, Nat.reduceLeDiff, Nat.reduceEqDiff, decide_true, decide_false, reduceIte, and_true, true_and]
      clear hj hjk t2
      refine Ev.block (Ev.loop (fun k t S => t 1 = .ptr (idOf (A.length + (g.length + h.length))) 0 ∧ ∃ j : Nat, t 3 = .int .i64 (j : Int) ∧ j + k = ka ∧ ∃ g' h', S = stL (A ++ (g' ++ (h ++ .cells [.int .u8 a, .str s, vb, .bool b, va, .int .i64 i1, .int .i64 i2, .bool b2] 0 [] :: h'))) ∧ Inv A.length g' ∧ LeG g g') ka (by omega) ?_ ?_)
      · simp (maxSteps := 2000000) only [go_sem, Nat.reduceBEq, Nat.reduceLT, Nat.reduceAdd, Nat.reduceMul, Nat.reduceLeDiff, Nat.reduceEqDiff, decide_true, decide_false, reduceIte, and_true, true_and, t1, gl1]
        exact ⟨0, rfl, by omega, g1, [], rfl, hI1, hL1⟩
      clear t1 gl1 hI1 hL1
      intro k t S ⟨t1, j, t3, hjk, g1, h1, iS, hI1, hL1⟩
      subst iS
      have gl1 : g1.length = g.length := hL1.len
      rw [← gl1] at t1
      refine Ev.seq rfl (Ev.seq rfl (Ev.reg' ?_))
      simp (maxSteps := 2000000) only [go_sem, Nat.reduceBEq, Nat.reduceLT, Nat.reduceAdd, Nat.reduceMul, Nat.reduceLeDiff, Nat.reduceEqDiff, decide_true, decide_false, reduceIte, and_true, true_and, t1, t3, hka]
      refine Ev.cond' ?_
      simp (maxSteps := 2000000) only [go_sem, Nat.reduceBEq, Nat.reduceLT, Nat.reduceAdd, Nat.reduceMul, Nat.reduceLeDiff, Nat.reduceEqDiff, decide_true, decide_false, reduceIte, and_true, true_and]
      by_cases hj : (j : Int) < (ka : Int)
      · have hj' : j < ka := by exact_mod_cast hj
        simp only [hj, decide_true, wpC_true]
        refine Ev.skip ?_
        simp (maxSteps := 2000000) only [go_sem, Nat.reduceBEq, Nat.reduceLT, Nat.reduceAdd, Nat.reduceMul, Nat.reduceLeDiff, Nat.reduceEqDiff, decide_true, decide_false, reduceIte, and_true, true_and]
        rcases ha with rfl | ⟨p, q, D, anc, rfl, e1, e2, hk, e3⟩
        · injection hka with hka; omega
        injection hka with hka
        subst hka
        obtain ⟨D1, anc1, q1, q2, q3⟩ := hL1.at' p D 0 anc e1
        have hchunk : ∀ {g2 : List Ob} {D2 : List V} {anc2 : List Vm.Id}, LeG g g2 → D2.length = D.length → (∀ (i : Nat) (v v' : V), D[i]? = some v → D2[i]? = some v' → LeC v v') → ShN A.length g2 N ((D2.drop (j * 8)).take 8) := by
          intro g2 D2 anc2 hL hlen hle
          refine (e3 j hj').leG hL (by simp [hlen]) (fun i v v' hv hv' => ?_)
          rw [List.getElem?_take] at hv hv'
          split at hv
          · rename_i hp
            rw [if_pos hp] at hv'
            rw [List.getElem?_drop] at hv hv'
            exact hle _ v v' hv hv'
          · cases hv
        have hlen8 : j * 8 + 8 ≤ D1.length := by omega
        obtain ⟨g2, h2, u, hcall, hI2, hL2⟩ := spoil_run hm13 N _ A g1 (h ++ .cells [.int .u8 a, .str s, vb, .bool b, .ref 8 (idOf (A.length + p)) 0 q, .int .i64 i1, .int .i64 i2, .bool b2] 0 [] :: h1) (hchunk (anc2 := anc1) hL1 q2 q3) hI1 n (by omega)
        obtain ⟨D2, anc2, r1, r2, r3⟩ := (hL1.trans hL2).at' p D 0 anc e1
        obtain ⟨g3, w1, w2, w3, w4⟩ := write_inv (A := A) (h := h ++ .cells [.int .u8 a, .str s, vb, .bool b, .ref 8 (idOf (A.length + p)) 0 q, .int .i64 i1, .int .i64 i2, .bool b2] 0 [] :: (h1 ++ h2)) hI2 (off := j * 8) (vs := z27) r1 (by simp; omega) (over_le (c := (D2.drop (j * 8)).take 8) rfl (by simp; omega) (sh_zero (hchunk (anc2 := anc2) (hL1.trans hL2) r2 r3)))
        have hget1 : ∀ X : List Ob, (g1 ++ X)[p]? = some (.cells D1 0 anc1) := fun X => get_app q1
        have hget2 : ∀ X : List Ob, (g2 ++ X)[p]? = some (.cells D2 0 anc2) := fun X => get_app r1
        simp only [List.append_assoc, List.cons_append] at hcall
        refine Ev.seq rfl (Ev.block (Ev.seq rfl (Ev.reg' ?_)))
        have hl8 : 8 ≤ (D1.drop (j * 8)).length := by simp; omega
        simp (maxSteps := 2000000) only [go_sem, Nat.reduceBEq, Nat.reduceLT, Nat.reduceAdd, Nat.reduceMul, Nat.reduceLeDiff, Nat.reduceEqDiff, decide_true, decide_false, reduceIte, and_true, true_and, t1, t3, idxAddr_ref, hj', if_true, Nat.zero_add, hget1, hl8, hcall]
        refine Ev.reg' ?_
        have gl2 : g2.length = g1.length := hL2.len
        have t1' : t 1 = .ptr (idOf (A.length + (g2.length + h.length))) 0 := by rw [gl2]; exact t1
        clear t1
        simp (maxSteps := 2000000) only [go_sem, Nat.reduceBEq, Nat.reduceLT, Nat.reduceAdd, Nat.reduceMul, Nat.reduceLeDiff, Nat.reduceEqDiff, decide_true, decide_false, reduceIte, and_true, true_and, t1', t3, idxAddr_ref, hj', if_true, Nat.zero_add, hget2, w1]
        refine Ev.reg' ?_
        simp (maxSteps := 2000000) only [go_sem, Nat.reduceBEq, Nat.reduceLT, Nat.reduceAdd, Nat.reduceMul, Nat.reduceLeDiff, Nat.reduceEqDiff, decide_true, decide_false, reduceIte, and_true, true_and, t1', t3]
        rw [gl2]
        refine ⟨k - 1, by omega, ?_, j + 1, by rw [IntWalk.i64_in _ (by omega)]; rfl, by omega, g3, h1 ++ h2, rfl, w2, (hL1.trans hL2).trans w3⟩
        rw [gl1]
      · simp only [hj, decide_false, wpC_false]
        refine Ev.exit ?_
        simp (maxSteps := 2000000) only [go_sem, Nat.reduceBEq, Nat.reduceLT, Nat.reduceAdd, Nat.reduceMul, Nat.reduceLeDiff, Nat.reduceEqDiff, decide_true, decide_false, reduceIte, and_true, true_and]
        exact ⟨[], rfl, g1, _, rfl, hI1, hL1⟩
end Cm

set_option linter.unusedVariables false
open Go Go.Vm Go.Proofs
namespace Cm
variable [Gl]
theorem Inv.two (m : Nat) (L D : List V) : Inv m [.stale L, .cells D 0 [idOf m]] := fun j D' fz anc h => by
  match j, h with
  | 0, h => cases h
  | 1, h =>
    simp only [List.getElem?_cons_succ, List.getElem?_cons_zero, Option.some.injEq, Ob.cells.injEq] at h
    obtain ⟨_, rfl, rfl⟩ := h
    exact ⟨rfl, fun a ha => ⟨0, by simpa using ha, by simp, fun _ _ _ hc => by cases hc⟩⟩
  | j + 2, h => simp at h
theorem bits_shape (bits : List Nat) : ∀ u ∈ (bits.map bitC).flatten, ∃ a, u = V.int .u8 a := by
  intro u hu
  simp only [List.mem_flatten, List.mem_map] at hu
  obtain ⟨r, ⟨b, _, rfl⟩, hu⟩ := hu
  simp at hu
  exact ⟨_, hu⟩
theorem sclone2_run {memo : Memo} (hm : memo 85 = none) {l : List Ob} {vb : V} {bits : List Nat} (h1 : rows l 1 vb = some (bits.map bitC)) (hb : bits.length ≤ 1048576) (n : Nat) (hn : 1 ≤ n) :
    ∃ g v, callN Tryz.prog (memoBase memo) (drawOK Tryz.prog) n 85 [vb] (stL l) = some (v, stL (l ++ g)) ∧ (∀ l' : List Ob, l'.length = l.length → rows (l' ++ g) 1 v = some (bits.map bitC)) ∧ Inv l.length g ∧ BitsOK l.length g v := by
  obtain ⟨n, rfl⟩ : ∃ m, n = m + 1 := ⟨n - 1, by omega⟩
  suffices hs : ∃ v S', callN Tryz.prog (memoBase memo) (drawOK Tryz.prog) (n + 1) 85 [vb] (stL l) = some (v, S') ∧ (∃ g, S' = stL (l ++ g) ∧ (∀ l' : List Ob, l'.length = l.length → rows (l' ++ g) 1 v = some (bits.map bitC)) ∧ Inv l.length g ∧ BitsOK l.length g v) by
    obtain ⟨v, S', h, g, rfl, h2⟩ := hs; exact ⟨g, v, h, h2⟩
  refine run_fn hm Tryz.func85 rfl (by simp [Tryz.f85]) ?_
  refine Ev.seq rfl (Ev.reg' ?_)
  simp (maxSteps := 2000000) only [go_sem, Nat.reduceBEq, Nat.reduceLT, Nat.reduceAdd, Nat.reduceMul, Nat.reduceLeDiff, Nat.reduceEqDiff, decide_true, decide_false, reduceIte, and_true, true_and]
  refine Ev.seq rfl (Ev.seq rfl (Ev.reg' ?_))
  rcases rows_nils h1 with ⟨rfl, h2, h3⟩ | h2
  · simp (maxSteps := 2000000) only [go_sem, Nat.reduceBEq, Nat.reduceLT, Nat.reduceAdd, Nat.reduceMul, Nat.reduceLeDiff, Nat.reduceEqDiff, decide_true, decide_false, reduceIte, and_true, true_and, h2]
    refine Ev.cond' ?_
    simp (maxSteps := 2000000) only [go_sem, Nat.reduceBEq, Nat.reduceLT, Nat.reduceAdd, Nat.reduceMul, Nat.reduceLeDiff, Nat.reduceEqDiff, decide_true, decide_false, reduceIte, and_true, true_and]
    refine Ev.seq rfl (Ev.reg' ?_)
    simp (maxSteps := 2000000) only [go_sem, Nat.reduceBEq, Nat.reduceLT, Nat.reduceAdd, Nat.reduceMul, Nat.reduceLeDiff, Nat.reduceEqDiff, decide_true, decide_false, reduceIte, and_true, true_and]
    refine Ev.ret ?_
    simp (maxSteps := 2000000) only [go_sem, Nat.reduceBEq, Nat.reduceLT, Nat.reduceAdd, Nat.reduceMul, Nat.reduceLeDiff, Nat.reduceEqDiff, decide_true, decide_false, reduceIte, and_true, true_and]
    refine Ret.tmp rfl ?_
    simp (maxSteps := 2000000) only [go_sem, Nat.reduceBEq, Nat.reduceLT, Nat.reduceAdd, Nat.reduceMul, Nat.reduceLeDiff, Nat.reduceEqDiff, decide_true, decide_false, reduceIte, and_true, true_and]
    exact ⟨[], by simp, fun l' _ => by rw [h3]; rfl, Inv.nil _, .inl (by first | rfl | exact h3)⟩
  simp (maxSteps := 2000000) only [go_sem, Nat.reduceBEq, Nat.reduceLT, Nat.reduceAdd, Nat.reduceMul, Nat.reduceLeDiff, Nat.reduceEqDiff, decide_true, decide_false, reduceIte, and_true, true_and, h2]
  refine Ev.cond' ?_
  simp (maxSteps := 2000000) only [go_sem, Nat.reduceBEq, Nat.reduceLT, Nat.reduceAdd, Nat.reduceMul, Nat.reduceLeDiff, Nat.reduceEqDiff, decide_true, decide_false, reduceIte, and_true, true_and]
  refine Ev.skip ?_
  simp (maxSteps := 2000000) only [go_sem, Nat.reduceBEq, Nat.reduceLT, Nat.reduceAdd, Nat.reduceMul, Nat.reduceLeDiff, Nat.reduceEqDiff, decide_true, decide_false, reduceIte, and_true, true_and]
  refine Ev.seq rfl (Ev.reg' ?_)
  cases hbits : bits with
  | nil =>
    rw [hbits] at h1
    have hap := append_none (P := Tryz.prog) Tryz.underlying22 sz73 (l := l ++ [.cells [] 0 []]) (k := l.length) (n := 0) (fz := 0) (c := []) (anc := []) (y := vb) (by rw [gx0]; rfl) rfl (rows_app h1)
    simp (maxSteps := 2000000) only [go_sem, Nat.reduceBEq, Nat.reduceLT, Nat.reduceAdd, Nat.reduceMul, Nat.reduceLeDiff, Nat.reduceEqDiff, decide_true, decide_false, reduceIte, and_true, true_and, Nat.zero_mul, Nat.zero_le, if_true, hap]
    refine Ev.ret (Ret.tmp rfl ?_)
    simp (maxSteps := 2000000) only [go_sem, Nat.reduceBEq, Nat.reduceLT, Nat.reduceAdd, Nat.reduceMul, Nat.reduceLeDiff, Nat.reduceEqDiff, decide_true, decide_false, reduceIte, and_true, true_and]
    exact ⟨_, rfl, fun l' hl => by rw [← hl, rows_ref (c := []) (by rw [gx0]; rfl) (by simp)]; rfl, Inv.one _ _, .inr ⟨0, 0, [], [], rfl, rfl, rfl, by omega, by simp⟩⟩
  | cons b bs =>
    rw [hbits] at h1
    have hap := append_ref (P := Tryz.prog) Tryz.underlying22 sz73 hz73 (l := l ++ [.cells [] 0 []]) (k := l.length) (n := 0) (fz := 0) (c := []) (anc := []) (y := vb) (r := bitC b) (rs := bs.map bitC) (by rw [gx0]; rfl) rfl (rows_app h1) (by rw [hbits] at hb; simp at hb ⊢; omega)
    simp (maxSteps := 2000000) only [go_sem, Nat.reduceBEq, Nat.reduceLT, Nat.reduceAdd, Nat.reduceMul, Nat.reduceLeDiff, Nat.reduceEqDiff, decide_true, decide_false, reduceIte, and_true, true_and, Nat.zero_mul, Nat.zero_le, if_true, hap]
    refine Ev.ret (Ret.tmp rfl ?_)
    simp (maxSteps := 2000000) only [go_sem, Nat.reduceBEq, Nat.reduceLT, Nat.reduceAdd, Nat.reduceMul, Nat.reduceLeDiff, Nat.reduceEqDiff, decide_true, decide_false, reduceIte, and_true, true_and]
    refine ⟨_, rfl, fun l' hl => ?_, Inv.two _ _ _, .inr ⟨1, bs.length + 1, ((b :: bs).map bitC).flatten, [idOf l.length], by simp, by simp, by rw [flatten_len 1 _ (bits_len1 _)]; simp, by rw [hbits] at hb; simpa using hb, bits_shape _⟩⟩
    rw [← hl]
    have := rows_new (l := l' ++ [.stale []]) (sz := 1) (rs := (b :: bs).map bitC) (bits_len1 _) (fz := 0) (anc := [idOf l'.length]) (g := [])
    simpa using this

theorem clone2_run {memo : Memo} (hm47 : memo 47 = none) (hm85 : memo 85 = none) {l : List Ob} {vb : V} {s : Bool} {bits : List Nat} (h1 : rows l 1 vb = some (bits.map bitC)) (hb : bits.length ≤ 1048576) (n : Nat) (hn : 2 ≤ n) :
    ∃ g v, callN Tryz.prog (memoBase memo) (drawOK Tryz.prog) n 47 [.agg [vb, .bool s]] (stL l) = some (.agg [v, .bool s], stL (l ++ g)) ∧ (∀ l' : List Ob, l'.length = l.length → rows (l' ++ g) 1 v = some (bits.map bitC)) ∧ Inv l.length g ∧ BitsOK l.length g v := by
  obtain ⟨n, rfl⟩ : ∃ m, n = m + 1 := ⟨n - 1, by omega⟩
  suffices hs : ∃ u S', callN Tryz.prog (memoBase memo) (drawOK Tryz.prog) (n + 1) 47 [.agg [vb, .bool s]] (stL l) = some (u, S') ∧ (∃ g v, u = .agg [v, .bool s] ∧ S' = stL (l ++ g) ∧ (∀ l' : List Ob, l'.length = l.length → rows (l' ++ g) 1 v = some (bits.map bitC)) ∧ Inv l.length g ∧ BitsOK l.length g v) by
    obtain ⟨u, S', h, g, v, rfl, rfl, h2⟩ := hs; exact ⟨g, v, h, h2⟩
  refine run_fn hm47 Tryz.func47 rfl (by simp [Tryz.f47]) ?_
  have c1 := rows_cell h1
  obtain ⟨g0, v0, hcall, hrow, hI0, hB0⟩ := sclone2_run hm85 (l := l ++ [.cells [vb, .bool s] 0 [], .cells [.nils, .bool false] 0 []]) (rows_app h1) hb n (by omega)
  simp only [List.append_assoc, List.cons_append, List.nil_append] at hcall
  have c2 : v0.isCell = true := rows_cell (hrow _ rfl)
  have c3 := okC_cell c2
  have c4 := cells_cell c2
  refine Ev.seq rfl (Ev.reg' ?_)
  simp (maxSteps := 2000000) only [go_sem, Nat.reduceBEq, Nat.reduceLT, Nat.reduceAdd, Nat.reduceMul, Nat.reduceLeDiff, Nat.reduceEqDiff, decide_true, decide_false, reduceIte, and_true, true_and]
  refine Ev.seq rfl (Ev.regDX rfl (by kernel_rfl) [(4, 2)] (by kernel_rfl) (fun T Z B R htr p hp => ?_) ?_)
  · simp only [List.mem_cons, List.not_mem_nil, or_false] at hp
    subst hp
    refine LookOK.of_load rfl ?_
    have a1 : T 4 6 = .ptr (idOf l.length) 1 := htr.at 4 (by decide) (X := fun t _ => t 6 = .ptr (idOf l.length) 1) (by simp (maxSteps := 2000000) only [go_sem, Nat.reduceBEq, Nat.reduceLT, Nat.reduceAdd, Nat.reduceMul, Nat.reduceLeDiff, Nat.reduceEqDiff, decide_true, decide_false, reduceIte, and_true, true_and, hcall, List.take_succ_cons])
    have a2 : Z 2 = stL (l ++ [.cells [vb, .bool s] 0 [], .cells [.nils, .bool false] 0 []]) := htr.at 2 (by decide) (X := fun _ S => S = stL (l ++ [.cells [vb, .bool s] 0 [], .cells [.nils, .bool false] 0 []])) (by simp (maxSteps := 2000000) only [go_sem, Nat.reduceBEq, Nat.reduceLT, Nat.reduceAdd, Nat.reduceMul, Nat.reduceLeDiff, Nat.reduceEqDiff, decide_true, decide_false, reduceIte, and_true, true_and, hcall, List.take_succ_cons])
    have a3 : Z 3 = stL (l ++ .cells [vb, .bool s] 0 [] :: .cells [.nils, .bool false] 0 [] :: g0) := htr.at 3 (by decide) (X := fun _ S => S = stL (l ++ .cells [vb, .bool s] 0 [] :: .cells [.nils, .bool false] 0 [] :: g0)) (by simp (maxSteps := 2000000) only [go_sem, Nat.reduceBEq, Nat.reduceLT, Nat.reduceAdd, Nat.reduceMul, Nat.reduceLeDiff, Nat.reduceEqDiff, decide_true, decide_false, reduceIte, and_true, true_and, hcall, List.take_succ_cons])
    simp (maxSteps := 2000000) only [go_sem, Nat.reduceBEq, Nat.reduceLT, Nat.reduceAdd, Nat.reduceMul, Nat.reduceLeDiff, Nat.reduceEqDiff, decide_true, decide_false, reduceIte, and_true, true_and, a1, a2, a3]
  simp (maxSteps := 2000000) only [go_sem, Nat.reduceBEq, Nat.reduceLT, Nat.reduceAdd, Nat.reduceMul, Nat.reduceLeDiff, Nat.reduceEqDiff, decide_true, decide_false, reduceIte, and_true, true_and, hcall, c2, c3, c4, over, List.nil_append, Nat.le_refl]
  refine Ev.ret (Ret.cell rfl (v := .agg [v0, .bool s]) (by simp (maxSteps := 2000000) only [go_sem, Nat.reduceBEq, Nat.reduceLT, Nat.reduceAdd, Nat.reduceMul, Nat.reduceLeDiff, Nat.reduceEqDiff, decide_true, decide_false, reduceIte, and_true, true_and]) ?_)
  refine ⟨_, v0, rfl, rfl, fun l' hl => ?_, Inv.cons (Inv.cons (by simpa using hI0)), ?_⟩
  rotate_left
  · exact BitsOK.shift (g0 := [.cells [vb, .bool s] 0 [], .cells [v0, .bool s] 0 []]) (by simpa using hB0)
  have := hrow (l' ++ [.cells [vb, .bool s] 0 [], .cells [v0, .bool s] 0 []]) (by simp [hl])
  simpa using this
end Cm

set_option linter.unusedVariables false
open Go Go.Vm Go.Proofs
namespace Cm
variable [Gl]
def Sub2OK (memo : Memo) (L : List Cst) (x : Ex) : Prop := ∀ (l : List Ob) (c : List V) (kv km ks : Nat) (M : List (V × V)), RdE l x c → Sub l L kv km ks M → wideS x = false → ∀ (n : Nat), 2 * nodes x + 8 ≤ n →
  ∃ g c', callN Tryz.prog (memoBase memo) (drawOK Tryz.prog) n 46 [.agg c, .ptr (idOf kv) 0, .ptr (idOf ks) 0] (stL l) = some (.agg c', stL (l ++ g)) ∧ (∀ l' : List Ob, l'.length = l.length → RdE (l' ++ g) (subst L x) c') ∧ Inv l.length g ∧ ShN l.length g (nodes x) c'
theorem each2_run {memo : Memo} (hm40 : memo 40 = none) {L : List Cst} (args : List Ex) (hsub : ∀ x ∈ args, Sub2OK memo L x) (l : List Ob) (va : V) (rs : List (List V)) (kv km ks : Nat) (M : List (V × V)) (hva : rows l 8 va = some rs) (hrs : RdL l args rs) (hS : Sub l L kv km ks M) (hw : wideSL args = false)
    (hal : args.length ≤ 1048576) (n : Nat) (hn : 2 * nodesL args + 9 ≤ n) :
    ∃ g v rs', callN Tryz.prog (memoBase memo) (drawOK Tryz.prog) n 40 [va, fv kv ks] (stL l) = some (v, stL (l ++ g)) ∧ (∀ l' : List Ob, l'.length = l.length → rows (l' ++ g) 8 v = some rs' ∧ RdL (l' ++ g) (substL L args) rs') ∧ Inv l.length g ∧ ArgsOK l.length g (nodesL args) v := by
  obtain ⟨n, rfl⟩ : ∃ m, n = m + 1 := ⟨n - 1, by omega⟩
  suffices hs : ∃ v S', callN Tryz.prog (memoBase memo) (drawOK Tryz.prog) (n + 1) 40 [va, fv kv ks] (stL l) = some (v, S') ∧ (∃ g rs', S' = stL (l ++ g) ∧ (∀ l' : List Ob, l'.length = l.length → rows (l' ++ g) 8 v = some rs' ∧ RdL (l' ++ g) (substL L args) rs') ∧ Inv l.length g ∧ ArgsOK l.length g (nodesL args) v) by
    obtain ⟨v, S', h, g, rs', rfl, h2⟩ := hs; exact ⟨g, v, rs', h, h2⟩
  refine run_fn hm40 Tryz.func40 rfl (by simp [Tryz.f40]) ?_
  have l1 := rows_len hva
  rw [hrs.len] at l1
  have hmk := mk25 args.length l (by omega)
  have hnl := nodesL_len args
  refine Ev.seq rfl (Ev.reg' ?_)
  simp (maxSteps := 2000000) only [go_sem, Nat.reduceBEq, Nat.reduceLT, Nat.reduceAdd, Nat.reduceMul, Nat.reduceLeDiff, Nat.reduceEqDiff, decide_true, decide_false, reduceIte, and_true, true_and]
  refine Ev.seq rfl (Ev.reg' ?_)
  simp (maxSteps := 2000000) only [go_sem, Nat.reduceBEq, Nat.reduceLT, Nat.reduceAdd, Nat.reduceMul, Nat.reduceLeDiff, Nat.reduceEqDiff, decide_true, decide_false, reduceIte, and_true, true_and, l1, hmk]
  refine Ev.seq rfl (Ev.seq rfl (Ev.reg' ?_))
  simp (maxSteps := 2000000) only [go_sem, Nat.reduceBEq, Nat.reduceLT, Nat.reduceAdd, Nat.reduceMul, Nat.reduceLeDiff, Nat.reduceEqDiff, decide_true, decide_false, reduceIte, and_true, true_and, l1]
  refine Ev.block (Ev.loop (fun k t S => t 1 = fv kv ks ∧ t 5 = .ref 8 (idOf l.length) 0 args.length ∧ t 11 = va ∧ t 12 = .int .i64 (args.length : Int) ∧ ∃ j : Nat, t 13 = .int .i64 (j : Int) ∧ j + k = args.length ∧
    ∃ D g, D.length = j * 8 ∧ S = stL (l ++ .cells (D ++ repl k z27) 0 [] :: g) ∧ (∀ l' : List Ob, l'.length = l.length + 1 → RdL (l' ++ g) (substL L (args.take j)) (chunks 8 j D)) ∧ Inv (l.length + 1) g ∧ ∀ i, i < j → ShN (l.length + 1) g (nodesL args) ((D.drop (i * 8)).take 8)) args.length (by omega) ?_ ?_)
  · simp (maxSteps := 2000000) only [go_sem, Nat.reduceBEq, Nat.reduceLT, Nat.reduceAdd, Nat.reduceMul, Nat.reduceLeDiff, Nat.reduceEqDiff, decide_true, decide_false, reduceIte, and_true, true_and]
    exact ⟨0, rfl, by omega, [], [], rfl, by simp, fun l' _ => rfl, Inv.nil _, fun i hi => by omega⟩
  intro k t S ⟨i1, i5, i11, i12, j, i13, hjk, D, g, hD, iS, hpre, hI, hSh⟩
  subst iS
  refine Ev.seq rfl (Ev.reg' ?_)
  simp (maxSteps := 2000000) only [go_sem, Nat.reduceBEq, Nat.reduceLT, Nat.reduceAdd, Nat.reduceMul, Nat.reduceLeDiff, Nat.reduceEqDiff, decide_true, decide_false, reduceIte, and_true, true_and, i12, i13]
  refine Ev.seq rfl (Ev.cond' ?_)
  simp (maxSteps := 2000000) only [go_sem, Nat.reduceBEq, Nat.reduceLT, Nat.reduceAdd, Nat.reduceMul, Nat.reduceLeDiff, Nat.reduceEqDiff, decide_true, decide_false, reduceIte, and_true, true_and]
  by_cases hj : (j : Int) < (args.length : Int)
  rotate_left
  · have hj' : ¬ j < args.length := fun h => hj (by exact_mod_cast h)
    simp only [hj, decide_false, wpC_false]
    refine Ev.exit ?_
    simp (maxSteps := 2000000) only [go_sem, Nat.reduceBEq, Nat.reduceLT, Nat.reduceAdd, Nat.reduceMul, Nat.reduceLeDiff, Nat.reduceEqDiff, decide_true, decide_false, reduceIte, and_true, true_and]
    refine Ev.seq rfl (Ev.reg' ?_)
    simp (maxSteps := 2000000) only [go_sem, Nat.reduceBEq, Nat.reduceLT, Nat.reduceAdd, Nat.reduceMul, Nat.reduceLeDiff, Nat.reduceEqDiff, decide_true, decide_false, reduceIte, and_true, true_and, i5]
    refine Ev.ret (Ret.tmp rfl ?_)
    simp (maxSteps := 2000000) only [go_sem, Nat.reduceBEq, Nat.reduceLT, Nat.reduceAdd, Nat.reduceMul, Nat.reduceLeDiff, Nat.reduceEqDiff, decide_true, decide_false, reduceIte, and_true, true_and]
    have hk : k = 0 := by omega
    subst hk
    have hjl : j = args.length := by omega
    subst hjl
    refine ⟨_, chunks 8 args.length D, rfl, fun l' hl => ⟨?_, ?_⟩, Inv.cons hI, .inr ⟨0, args.length, D, [], rfl, by simp [repl], hD, hal, fun i hi => ShN.shift (g0 := [.cells (D ++ repl 0 z27) 0 []]) (hSh i hi)⟩⟩
    · rw [← hl, rows_ref (c := D) (by rw [gx0]; simp [repl, obFull]) (by omega), List.drop_zero]
    · have := hpre (l' ++ [.cells D 0 []]) (by simp [hl])
      rw [List.take_length] at this
      simpa [repl] using this
  have hj' : j < args.length := by exact_mod_cast hj
  obtain ⟨y, hy⟩ : ∃ y, args[j]? = some y := ⟨args[j], List.getElem?_eq_getElem hj'⟩
  obtain ⟨cy, hcy, hry⟩ := hrs.get hy
  obtain ⟨k, rfl⟩ : ∃ m, k = m + 1 := ⟨k - 1, by omega⟩
  obtain ⟨a, ra, ha1, ha2⟩ := rows_idx (rows_app (g := .cells (D ++ repl (k + 1) z27) 0 [] :: g) hva) hcy .i64
  have hyn := nodesL_get hy
  have hcy8 := hry.len
  obtain ⟨g2, c', hcall, hres, hI2, hSh2⟩ := hsub y (List.mem_of_getElem? hy) (l ++ .cells (D ++ repl (k + 1) z27) 0 [] :: (g ++ [.cells cy 0 []])) cy kv km ks M hry.app hS.app (wideSL_get hy hw) n (by omega)
  have hc8 := (hres _ rfl).len
  have hix : idxAddr 8 (.ref 8 (idOf l.length) 0 args.length) (.int .i64 (j : Int)) = some (.ptr (idOf l.length) (j * 8)) := by rw [idxAddr_ref, if_pos hj', Nat.zero_add]
  have hov := over_elem (D := D) (c := c') (z := z27) (j := j) (m := k) (es := 8) hD hc8 rfl
  have hle : j * 8 + 8 ≤ D.length + (repl (k + 1) z27).length := by rw [repl_len, hD]; simp only [List.length_cons, List.length_nil]; omega
  have hall : over z27 0 cy = cy := over_all _ _ (by rw [hcy8]; rfl)
  simp only [List.append_assoc, List.cons_append, List.nil_append] at hcall
  simp only [hj, decide_true, wpC_true]
  refine Ev.skip ?_
  simp (maxSteps := 2000000) only [go_sem, Nat.reduceBEq, Nat.reduceLT, Nat.reduceAdd, Nat.reduceMul, Nat.reduceLeDiff, Nat.reduceEqDiff, decide_true, decide_false, reduceIte, and_true, true_and]
  refine Ev.seq rfl (Ev.block (Ev.seq rfl (Ev.reg' ?_)))
  simp (maxSteps := 2000000) only [go_sem, Nat.reduceBEq, Nat.reduceLT, Nat.reduceAdd, Nat.reduceMul, Nat.reduceLeDiff, Nat.reduceEqDiff, decide_true, decide_false, reduceIte, and_true, true_and, i1, i5, i11, i12, i13, ha1, ha2, takeN_app hcy8, hcy8, hall]
  refine Ev.reg' ?_
  simp (maxSteps := 2000000) only [go_sem, Nat.reduceBEq, Nat.reduceLT, Nat.reduceAdd, Nat.reduceMul, Nat.reduceLeDiff, Nat.reduceEqDiff, decide_true, decide_false, reduceIte, and_true, true_and, i1, i5, i11, i12, i13, hcy8, Nat.reduceLeDiff, Nat.le_refl, List.take_of_length_le, hcall, hix, hc8, hle, hov, Nat.zero_le, if_true]
  refine Ev.reg' ?_
  simp (maxSteps := 2000000) only [go_sem, Nat.reduceBEq, Nat.reduceLT, Nat.reduceAdd, Nat.reduceMul, Nat.reduceLeDiff, Nat.reduceEqDiff, decide_true, decide_false, reduceIte, and_true, true_and, i1, i5, i11, i12, i13]
  refine ⟨k, by omega, j + 1, by rw [IntWalk.i64_in _ (by omega)]; rfl, by omega, D ++ c', g ++ .cells cy 0 [] :: g2, by rw [List.length_append, hD, hc8]; omega, by simp, fun l' hl => ?_, ?_, ?_⟩
  rotate_left
  · refine Inv.append hI (Inv.cons ?_)
    have := hI2
    simp only [List.length_append, List.length_cons, List.length_nil] at this
    rw [show l.length + 1 + g.length + 1 = l.length + (g.length + (0 + 1) + 1) by omega]; exact this
  · intro i hi
    rcases Nat.lt_or_ge i j with hij | hij
    · have h1 := (hSh i hij).app (h := .cells cy 0 [] :: g2)
      have e : ((D ++ c').drop (i * 8)).take 8 = (D.drop (i * 8)).take 8 := by
        rw [List.drop_append_of_le_length (by omega), List.take_append_of_le_length (by simp; omega)]
      rw [e]; exact h1
    · obtain rfl : i = j := by omega
      have e : ((D ++ c').drop (i * 8)).take 8 = c' := by
        rw [← hD, List.drop_left, List.take_of_length_le (by omega)]
      rw [e]
      have h1 : ShN (l.length + 1) (g ++ [.cells cy 0 []] ++ g2) (nodes y) c' := ShN.shift (g0 := g ++ [.cells cy 0 []]) (by
        have := hSh2
        simp only [List.length_append, List.length_cons, List.length_nil] at this ⊢
        rw [show l.length + 1 + (g.length + (0 + 1)) = l.length + (g.length + (0 + 1) + 1) by omega]; exact this)
      simpa using h1.le hyn
  have e1 : args.take (j + 1) = args.take j ++ [y] := by rw [List.take_add_one, hy]; rfl
  rw [e1, substL_snoc, chunks_snoc 8 j D c' hD hc8]
  have h1 := (hpre l' hl).app (g := .cells cy 0 [] :: g2)
  have h2 := hres (l' ++ (g ++ [.cells cy 0 []])) (by simp only [List.length_append, List.length_cons, List.length_nil, hl]; omega)
  simp only [List.append_assoc, List.cons_append, List.nil_append] at h1 h2 ⊢
  exact RdL.snoc h2 h1
end Cm

set_option linter.unusedVariables false
open Go Go.Vm Go.Proofs
namespace Cm
variable [Gl]
theorem ArgsOK.shift {m : Nat} {g0 g : List Ob} {n : Nat} {v : V} (hv : ArgsOK (m + g0.length) g n v) : ArgsOK m (g0 ++ g) n v := by
  rcases hv with rfl | ⟨j, k, D, anc, rfl, h1, h2, hk, h3⟩
  · exact .inl rfl
  · exact .inr ⟨g0.length + j, k, D, anc, by rw [Nat.add_assoc], by rw [get_shift]; exact h1, h2, hk, fun i hi => (h3 i hi).shift⟩
set_option maxHeartbeats 2000000 in
theorem subst2_run {memo : Memo} (hm40 : memo 40 = none) (hm46 : memo 46 = none) (hm47 : memo 47 = none) (hm85 : memo 85 = none) (L : List Cst) : ∀ (N : Nat) (x : Ex), nodes x ≤ N → nodes x ≤ 1048576 → Sub2OK memo L x
  | 0, x, hN, _ => by have := nodes_pos x; omega
  | N + 1, .mk op name bits vs args sig wid sg, hN, hbd => by
    intro l c kv km ks M hx hS hw n hn
    obtain ⟨n, rfl⟩ : ∃ m, n = m + 1 := ⟨n - 1, by omega⟩
    obtain ⟨vb, va, rs, rfl, hvb, hva, hrs⟩ := hx
    have hnL : nodes (.mk op name bits vs args sig wid sg) = 1 + nodesL args := by simp only [nodes]
    have hal := nodesL_len args
    have hwL : wideSL args = false ∧ bits.length ≤ 300 := by
      simp only [wideS, Bool.or_eq_false_iff, decide_eq_false_iff_not] at hw
      exact ⟨hw.2, by omega⟩
    suffices hs : ∃ u S', callN Tryz.prog (memoBase memo) (drawOK Tryz.prog) (n + 1) 46 [.agg [.int .u8 (op : Int), .str name, vb, .bool vs, va, .int .i64 sig, .int .i64 wid, .bool sg], .ptr (idOf kv) 0, .ptr (idOf ks) 0] (stL l) = some (u, S') ∧
        (∃ g c', u = .agg c' ∧ S' = stL (l ++ g) ∧ (∀ l' : List Ob, l'.length = l.length → RdE (l' ++ g) (subst L (.mk op name bits vs args sig wid sg)) c') ∧ Inv l.length g ∧ ShN l.length g (nodes (.mk op name bits vs args sig wid sg)) c') by
      obtain ⟨u, S', h, g, c', rfl, rfl, h2⟩ := hs; exact ⟨g, c', h, h2⟩
    refine run_fn hm46 Tryz.func46 rfl (by simp [Tryz.f46]) ?_
    have c1 := rows_cell hvb
    have c2 := rows_cell hva
    have key : ∀ (t : Tm) (o3 : Ob), (∀ m, Inv m [o3]) → t 2 = .ptr (idOf ks) 0 → t 3 = .ptr (idOf l.length) 0 → t 4 = .ptr (idOf (l.length + 1)) 0 → find name L = none ∨ op ≠ 2 →
        Ev Tryz.prog Tryz.f46.ntmps n (callN Tryz.prog (memoBase memo) (drawOK Tryz.prog) n) (sndC (sndC (bodyC Tryz.f46))) t (stL (l ++ [.cells [.int .u8 (op : Int), .str name, vb, .bool vs, va, .int .i64 sig, .int .i64 wid, .bool sg] 0 [], .cells z27 0 [], o3])) (Ret Tryz.prog Tryz.f46 fun u S' => ∃ g c', u = .agg c' ∧ S' = stL (l ++ g) ∧ (∀ l' : List Ob, l'.length = l.length → RdE (l' ++ g) (subst L (.mk op name bits vs args sig wid sg)) c') ∧ Inv l.length g ∧ ShN l.length g (nodes (.mk op name bits vs args sig wid sg)) c') := by
      intro t o3 ho3 i2 i3 i4 hno
      obtain ⟨g1, v1, hc1, hr1, hI1, hB1⟩ := clone2_run hm47 hm85 (l := l ++ [.cells [.int .u8 (op : Int), .str name, vb, .bool vs, va, .int .i64 sig, .int .i64 wid, .bool sg] 0 [], .cells z27 0 [], o3]) (s := vs) (rows_app hvb) (by omega) n (by omega)
      obtain ⟨g2, v2, rs2, hc2, hr2, hI2, hA2⟩ := each2_run hm40 args (fun y hy => subst2_run hm40 hm46 hm47 hm85 L N y (by have := nodesL_mem hy; omega) (by have := nodesL_mem hy; omega)) (l ++ .cells [.int .u8 (op : Int), .str name, vb, .bool vs, va, .int .i64 sig, .int .i64 wid, .bool sg] 0 [] :: .cells z27 0 [] :: o3 :: g1) va rs kv km ks M (rows_app hva) hrs.app hS.app hwL.1 (by omega) n (by omega)
      have hks := get_app (g := .cells [.int .u8 (op : Int), .str name, vb, .bool vs, va, .int .i64 sig, .int .i64 wid, .bool sg] 0 [] :: .cells z27 0 [] :: o3 :: g1) hS.s
      have hks0 := get_app (g := [.cells [.int .u8 (op : Int), .str name, vb, .bool vs, va, .int .i64 sig, .int .i64 wid, .bool sg] 0 [], .cells z27 0 [], o3]) hS.s
      have c3 := rows_cell (hr1 _ rfl)
      have c4 := rows_cell (hr2 _ rfl).1
      simp only [List.append_assoc, List.cons_append, List.nil_append] at hc1 hc2
      refine Ev.seq rfl (Ev.regDX rfl (by kernel_rfl) [(4, 2), (5, 2)] (by kernel_rfl) (fun T Z B R htr p hp => ?_) ?_)
      · have a1 : T 4 26 = .ptr (idOf l.length) 4 := htr.at 4 (by decide) (X := fun t _ => t 26 = .ptr (idOf l.length) 4) (by simp (maxSteps := 2000000) only [go_sem, Nat.reduceBEq, Nat.reduceLT, Nat.reduceAdd, Nat.reduceMul, Nat.reduceLeDiff, Nat.reduceEqDiff, decide_true, decide_false, reduceIte, and_true, true_and, i2, i3, hc1, List.take_succ_cons])
        have a2 : T 5 2 = .ptr (idOf ks) 0 := htr.at 5 (by decide) (X := fun t _ => t 2 = .ptr (idOf ks) 0) (by simp (maxSteps := 2000000) only [go_sem, Nat.reduceBEq, Nat.reduceLT, Nat.reduceAdd, Nat.reduceMul, Nat.reduceLeDiff, Nat.reduceEqDiff, decide_true, decide_false, reduceIte, and_true, true_and, i2, i3, hc1, List.take_succ_cons])
        have a3 : Z 2 = stL (l ++ [.cells [.int .u8 (op : Int), .str name, vb, .bool vs, va, .int .i64 sig, .int .i64 wid, .bool sg] 0 [], .cells z27 0 [], o3]) := htr.at 2 (by decide) (X := fun _ S => S = stL (l ++ [.cells [.int .u8 (op : Int), .str name, vb, .bool vs, va, .int .i64 sig, .int .i64 wid, .bool sg] 0 [], .cells z27 0 [], o3])) (by simp (maxSteps := 2000000) only [go_sem, Nat.reduceBEq, Nat.reduceLT, Nat.reduceAdd, Nat.reduceMul, Nat.reduceLeDiff, Nat.reduceEqDiff, decide_true, decide_false, reduceIte, and_true, true_and, i2, i3, List.take_succ_cons])
        have a4 : Z 3 = stL (l ++ .cells [.int .u8 (op : Int), .str name, vb, .bool vs, va, .int .i64 sig, .int .i64 wid, .bool sg] 0 [] :: .cells z27 0 [] :: o3 :: g1) := htr.at 3 (by decide) (X := fun _ S => S = stL (l ++ .cells [.int .u8 (op : Int), .str name, vb, .bool vs, va, .int .i64 sig, .int .i64 wid, .bool sg] 0 [] :: .cells z27 0 [] :: o3 :: g1)) (by simp (maxSteps := 2000000) only [go_sem, Nat.reduceBEq, Nat.reduceLT, Nat.reduceAdd, Nat.reduceMul, Nat.reduceLeDiff, Nat.reduceEqDiff, decide_true, decide_false, reduceIte, and_true, true_and, i2, i3, hc1, List.take_succ_cons])
        simp only [List.mem_cons, List.not_mem_nil, or_false] at hp
        rcases hp with rfl | rfl
        · refine LookOK.of_load rfl ?_
          simp (maxSteps := 2000000) only [go_sem, Nat.reduceBEq, Nat.reduceLT, Nat.reduceAdd, Nat.reduceMul, Nat.reduceLeDiff, Nat.reduceEqDiff, decide_true, decide_false, reduceIte, and_true, true_and, a1, a3, a4]
        · refine LookOK.of_load rfl ?_
          simp (maxSteps := 2000000) only [go_sem, Nat.reduceBEq, Nat.reduceLT, Nat.reduceAdd, Nat.reduceMul, Nat.reduceLeDiff, Nat.reduceEqDiff, decide_true, decide_false, reduceIte, and_true, true_and, a2, a3, a4, hks, hks0]
      simp (maxSteps := 2000000) only [go_sem, Nat.reduceBEq, Nat.reduceLT, Nat.reduceAdd, Nat.reduceMul, Nat.reduceLeDiff, Nat.reduceEqDiff, decide_true, decide_false, reduceIte, and_true, true_and, i2, i3, i4, hc1, hc2, hks, c3, c4, over]
      refine Ev.seq rfl (Ev.reg' ?_)
      simp (maxSteps := 2000000) only [go_sem, Nat.reduceBEq, Nat.reduceLT, Nat.reduceAdd, Nat.reduceMul, Nat.reduceLeDiff, Nat.reduceEqDiff, decide_true, decide_false, reduceIte, and_true, true_and, i3, i4, over]
      refine Ev.ret (Ret.cell rfl (v := .agg [.int .u8 (op : Int), .str name, v1, .bool vs, v2, .int .i64 sig, .int .i64 wid, .bool sg]) (by simp (maxSteps := 2000000) only [go_sem, Nat.reduceBEq, Nat.reduceLT, Nat.reduceAdd, Nat.reduceMul, Nat.reduceLeDiff, Nat.reduceEqDiff, decide_true, decide_false, reduceIte, and_true, true_and, i4]) ?_)
      refine ⟨_, [.int .u8 (op : Int), .str name, v1, .bool vs, v2, .int .i64 sig, .int .i64 wid, .bool sg], rfl, rfl, fun l' hl => ?_, Inv.cons (Inv.cons (Inv.append (g := [o3]) (ho3 _) ?_)), ?_⟩
      rotate_left
      · have i1 := hI1
        have i2 := hI2
        simp only [List.length_append, List.length_cons, List.length_nil] at i1 i2 ⊢
        refine Inv.append (by rw [show l.length + 1 + 1 + (0 + 1) = l.length + (0 + 1 + 1 + 1) by omega]; exact i1) (by rw [show l.length + 1 + 1 + (0 + 1) + g1.length = l.length + (g1.length + 1 + 1 + 1) by omega]; exact i2)
      · rw [hnL, Nat.add_comm 1]
        refine ⟨_, _, v1, _, v2, _, _, _, rfl, ?_, ?_⟩
        · have := BitsOK.shift (m := l.length) (g0 := [.cells [.int .u8 (op : Int), .str name, v1, .bool vs, v2, .int .i64 sig, .int .i64 wid, .bool sg] 0 [], .cells [.int .u8 (op : Int), .str name, v1, .bool vs, v2, .int .i64 sig, .int .i64 wid, .bool sg] 0 [], o3]) (g := g1) (v := v1) (by simpa using hB1)
          have := BitsOK.app (h := g2) this
          simpa using this
        · have := ArgsOK.shift (m := l.length) (g0 := [.cells [.int .u8 (op : Int), .str name, v1, .bool vs, v2, .int .i64 sig, .int .i64 wid, .bool sg] 0 [], .cells [.int .u8 (op : Int), .str name, v1, .bool vs, v2, .int .i64 sig, .int .i64 wid, .bool sg] 0 [], o3] ++ g1) (g := g2) (v := v2) (n := nodesL args) (by
            have := hA2
            simp only [List.length_append, List.length_cons, List.length_nil] at this ⊢
            rw [show l.length + (0 + 1 + 1 + 1 + g1.length) = l.length + (g1.length + 1 + 1 + 1) by omega]; exact this)
          simpa [ArgsOK] using this
      have e : subst L (.mk op name bits vs args sig wid sg) = .mk op name bits vs (substL L args) sig wid sg := by
        simp only [subst]
        rcases hno with h | h
        · rw [h]; simp
        · simp [h]
      rw [e]
      have h1 := hr1 (l' ++ [.cells [.int .u8 (op : Int), .str name, v1, .bool vs, v2, .int .i64 sig, .int .i64 wid, .bool sg] 0 [], .cells [.int .u8 (op : Int), .str name, v1, .bool vs, v2, .int .i64 sig, .int .i64 wid, .bool sg] 0 [], o3]) (by simp [hl])
      have h2 := hr2 (l' ++ .cells [.int .u8 (op : Int), .str name, v1, .bool vs, v2, .int .i64 sig, .int .i64 wid, .bool sg] 0 [] :: .cells [.int .u8 (op : Int), .str name, v1, .bool vs, v2, .int .i64 sig, .int .i64 wid, .bool sg] 0 [] :: o3 :: g1) (by simp [hl])
      simp only [List.append_assoc, List.cons_append, List.nil_append] at h1 h2 ⊢
      refine ⟨v1, v2, rs2, rfl, ?_, h2.1, h2.2⟩
      have := rows_app (g := g2) h1
      simpa using this
    refine Ev.seq rfl (Ev.reg' ?_)
    simp (maxSteps := 2000000) only [go_sem, Nat.reduceBEq, Nat.reduceLT, Nat.reduceAdd, Nat.reduceMul, Nat.reduceLeDiff, Nat.reduceEqDiff, decide_true, decide_false, reduceIte, and_true, true_and]
    have hS1 := hS.app (g := [.cells [.int .u8 (op : Int), .str name, vb, .bool vs, va, .int .i64 sig, .int .i64 wid, .bool sg] 0 [], .cells z27 0 []])
    have hfind := hS1.ok name
    have hkv := hS1.v
    refine Ev.seq rfl (Ev.seq rfl (Ev.reg' ?_))
    cases hf : find name L with
    | none =>
      simp only [hf] at hfind
      have hlk := look_none hS1.m hfind
      simp (maxSteps := 2000000) only [go_sem, Nat.reduceBEq, Nat.reduceLT, Nat.reduceAdd, Nat.reduceMul, Nat.reduceLeDiff, Nat.reduceEqDiff, decide_true, decide_false, reduceIte, and_true, true_and, hkv, hlk, over_all]
      refine Ev.seq rfl (Ev.reg' ?_)
      simp (maxSteps := 2000000) only [go_sem, Nat.reduceBEq, Nat.reduceLT, Nat.reduceAdd, Nat.reduceMul, Nat.reduceLeDiff, Nat.reduceEqDiff, decide_true, decide_false, reduceIte, and_true, true_and]
      refine Ev.cond' ?_
      simp (maxSteps := 2000000) only [go_sem, Nat.reduceBEq, Nat.reduceLT, Nat.reduceAdd, Nat.reduceMul, Nat.reduceLeDiff, Nat.reduceEqDiff, decide_true, decide_false, reduceIte, and_true, true_and]
      refine Ev.skip ?_
      simp (maxSteps := 2000000) only [go_sem, Nat.reduceBEq, Nat.reduceLT, Nat.reduceAdd, Nat.reduceMul, Nat.reduceLeDiff, Nat.reduceEqDiff, decide_true, decide_false, reduceIte, and_true, true_and]
      refine key _ _ (fun m => Inv.one m _) ?_ ?_ ?_ (.inl hf)
      · simp (maxSteps := 2000000) only [go_sem, Nat.reduceBEq, Nat.reduceLT, Nat.reduceAdd, Nat.reduceMul, Nat.reduceLeDiff, Nat.reduceEqDiff, decide_true, decide_false, reduceIte, and_true, true_and]
      · simp (maxSteps := 2000000) only [go_sem, Nat.reduceBEq, Nat.reduceLT, Nat.reduceAdd, Nat.reduceMul, Nat.reduceLeDiff, Nat.reduceEqDiff, decide_true, decide_false, reduceIte, and_true, true_and]
      · simp (maxSteps := 2000000) only [go_sem, Nat.reduceBEq, Nat.reduceLT, Nat.reduceAdd, Nat.reduceMul, Nat.reduceLeDiff, Nat.reduceEqDiff, decide_true, decide_false, reduceIte, and_true, true_and]
    | some cst =>
      simp only [hf] at hfind
      obtain ⟨hcb, vc, hfm, hvc⟩ := hfind
      have hlk := look_some hS1.m hfm
      have d1 := rows_cell hvc
      simp (maxSteps := 2000000) only [go_sem, Nat.reduceBEq, Nat.reduceLT, Nat.reduceAdd, Nat.reduceMul, Nat.reduceLeDiff, Nat.reduceEqDiff, decide_true, decide_false, reduceIte, and_true, true_and, hkv, hlk, over_all]
      refine Ev.seq rfl (Ev.reg' ?_)
      cases ho : ((op : Int) == 2) with
      | false =>
        simp (maxSteps := 2000000) only [go_sem, Nat.reduceBEq, Nat.reduceLT, Nat.reduceAdd, Nat.reduceMul, Nat.reduceLeDiff, Nat.reduceEqDiff, decide_true, decide_false, reduceIte, and_true, true_and, ho]
        refine Ev.cond' ?_
        simp (maxSteps := 2000000) only [go_sem, Nat.reduceBEq, Nat.reduceLT, Nat.reduceAdd, Nat.reduceMul, Nat.reduceLeDiff, Nat.reduceEqDiff, decide_true, decide_false, reduceIte, and_true, true_and]
        refine Ev.skip ?_
        simp (maxSteps := 2000000) only [go_sem, Nat.reduceBEq, Nat.reduceLT, Nat.reduceAdd, Nat.reduceMul, Nat.reduceLeDiff, Nat.reduceEqDiff, decide_true, decide_false, reduceIte, and_true, true_and]
        refine key _ _ (fun m => Inv.one m _) ?_ ?_ ?_ (.inr ?_)
        · simp (maxSteps := 2000000) only [go_sem, Nat.reduceBEq, Nat.reduceLT, Nat.reduceAdd, Nat.reduceMul, Nat.reduceLeDiff, Nat.reduceEqDiff, decide_true, decide_false, reduceIte, and_true, true_and]
        · simp (maxSteps := 2000000) only [go_sem, Nat.reduceBEq, Nat.reduceLT, Nat.reduceAdd, Nat.reduceMul, Nat.reduceLeDiff, Nat.reduceEqDiff, decide_true, decide_false, reduceIte, and_true, true_and]
        · simp (maxSteps := 2000000) only [go_sem, Nat.reduceBEq, Nat.reduceLT, Nat.reduceAdd, Nat.reduceMul, Nat.reduceLeDiff, Nat.reduceEqDiff, decide_true, decide_false, reduceIte, and_true, true_and]
        · intro e; subst e; simp at ho
      | true =>
        simp (maxSteps := 2000000) only [go_sem, Nat.reduceBEq, Nat.reduceLT, Nat.reduceAdd, Nat.reduceMul, Nat.reduceLeDiff, Nat.reduceEqDiff, decide_true, decide_false, reduceIte, and_true, true_and, ho]
        refine Ev.cond' ?_
        simp (maxSteps := 2000000) only [go_sem, Nat.reduceBEq, Nat.reduceLT, Nat.reduceAdd, Nat.reduceMul, Nat.reduceLeDiff, Nat.reduceEqDiff, decide_true, decide_false, reduceIte, and_true, true_and]
        obtain ⟨g1, v1, hc1, hr1, hI1, hB1⟩ := clone2_run hm47 hm85 (l := l ++ [.cells [.int .u8 (op : Int), .str name, vb, .bool vs, va, .int .i64 sig, .int .i64 wid, .bool sg] 0 [], .cells z27 0 [], .cells [vc, .bool cst.sg] 0 []]) (s := cst.sg) (by simpa using rows_app (g := [.cells [vc, .bool cst.sg] 0 []]) hvc) (by omega) n (by omega)
        have c3 := rows_cell (hr1 _ rfl)
        simp only [List.append_assoc, List.cons_append, List.nil_append] at hc1
        refine Ev.seq rfl (Ev.reg' ?_)
        simp (maxSteps := 2000000) only [go_sem, Nat.reduceBEq, Nat.reduceLT, Nat.reduceAdd, Nat.reduceMul, Nat.reduceLeDiff, Nat.reduceEqDiff, decide_true, decide_false, reduceIte, and_true, true_and, hc1, c3, over]
        refine Ev.ret ?_
        simp (maxSteps := 2000000) only [go_sem, Nat.reduceBEq, Nat.reduceLT, Nat.reduceAdd, Nat.reduceMul, Nat.reduceLeDiff, Nat.reduceEqDiff, decide_true, decide_false, reduceIte, and_true, true_and]
        refine Ret.cell rfl (v := .agg [.int .u8 1, .str [], v1, .bool cst.sg, .nils, .int .i64 0, .int .i64 0, .bool false]) (by simp (maxSteps := 2000000) only [go_sem, Nat.reduceBEq, Nat.reduceLT, Nat.reduceAdd, Nat.reduceMul, Nat.reduceLeDiff, Nat.reduceEqDiff, decide_true, decide_false, reduceIte, and_true, true_and]) ?_
        refine ⟨_, [.int .u8 1, .str [], v1, .bool cst.sg, .nils, .int .i64 0, .int .i64 0, .bool false], rfl, rfl, fun l' hl => ?_, Inv.cons (Inv.cons (Inv.cons ?_)), ?_⟩
        rotate_left
        · have i1 := hI1
          simp only [List.length_append, List.length_cons, List.length_nil] at i1
          rw [show l.length + 1 + 1 + 1 = l.length + (0 + 1 + 1 + 1) by omega]; exact i1
        · rw [hnL, Nat.add_comm 1]
          refine ⟨_, _, v1, _, .nils, _, _, _, rfl, ?_, .inl rfl⟩
          have := BitsOK.shift (m := l.length) (g0 := [.cells [.int .u8 (op : Int), .str name, vb, .bool vs, va, .int .i64 sig, .int .i64 wid, .bool sg] 0 [], .cells [.int .u8 1, .str [], v1, .bool cst.sg, .nils, .int .i64 0, .int .i64 0, .bool false] 0 [], .cells [vc, .bool cst.sg] 0 []]) (g := g1) (v := v1) (by simpa using hB1)
          simpa using this
        have ho2 : op = 2 := by have := eq_of_beq ho; omega
        have e : subst L (.mk op name bits vs args sig wid sg) = .mk 1 [] cst.bits cst.sg [] 0 0 false := by
          simp only [subst, ho2, if_true, hf]
        rw [e]
        have h1 := hr1 (l' ++ [.cells [.int .u8 (op : Int), .str name, vb, .bool vs, va, .int .i64 sig, .int .i64 wid, .bool sg] 0 [], .cells [.int .u8 1, .str [], v1, .bool cst.sg, .nils, .int .i64 0, .int .i64 0, .bool false] 0 [], .cells [vc, .bool cst.sg] 0 []]) (by simp [hl])
        simp only [List.append_assoc, List.cons_append, List.nil_append] at h1
        exact ⟨v1, .nils, [], rfl, h1, rfl, rfl⟩
end Cm

set_option linter.unusedVariables false
open Go Go.Vm Go.Proofs
namespace Cm
variable [Gl]
theorem substituter2_run {memo : Memo} (hm27 : memo 27 = none) (hm45 : memo 45 = none) {l : List Ob} {v : V} {L : List Cst} {rs : List (List V)} (hv : rows l 3 v = some rs) (hL : RdCs l L rs) (hbits : ∀ c ∈ L, c.bits.length ≤ 300) (hlen : L.length ≤ 1048576) (n : Nat) (hn : 3 ≤ n) :
    ∃ g kv km ks M, callN Tryz.prog (memoBase memo) (drawOK Tryz.prog) n 27 [v] (stL l) = some (fv kv ks, stL (l ++ g)) ∧ Sub (l ++ g) L kv km ks M ∧ Inv l.length g := by
  obtain ⟨n, rfl⟩ : ∃ m, n = m + 1 := ⟨n - 1, by omega⟩
  suffices hs : ∃ u S', callN Tryz.prog (memoBase memo) (drawOK Tryz.prog) (n + 1) 27 [v] (stL l) = some (u, S') ∧ (∃ g kv km ks M, u = fv kv ks ∧ S' = stL (l ++ g) ∧ Sub (l ++ g) L kv km ks M ∧ Inv l.length g) by
    obtain ⟨u, S', h, g, kv, km, ks, M, rfl, rfl, h2⟩ := hs; exact ⟨g, kv, km, ks, M, h, h2⟩
  refine run_fn hm27 Tryz.func27 rfl (by simp [Tryz.f27]) ?_
  have hvc := rows_cell hv
  refine Ev.seq rfl (Ev.reg' ?_)
  simp (maxSteps := 2000000) only [go_sem, Nat.reduceBEq, Nat.reduceLT, Nat.reduceAdd, Nat.reduceMul, Nat.reduceLeDiff, Nat.reduceEqDiff, decide_true, decide_false, reduceIte, and_true, true_and]
  refine Ev.seq rfl (Ev.reg' ?_)
  simp (maxSteps := 2000000) only [go_sem, Nat.reduceBEq, Nat.reduceLT, Nat.reduceAdd, Nat.reduceMul, Nat.reduceLeDiff, Nat.reduceEqDiff, decide_true, decide_false, reduceIte, and_true, true_and, over]
  have hff := ff_run hm45 (l ++ [.map [], .cells [.map (idOf l.length)] 0 []]) v hvc n (by omega)
  simp only [List.append_assoc, List.cons_append, List.nil_append] at hff
  refine Ev.seq rfl (Ev.seq rfl (Ev.reg' ?_))
  simp (maxSteps := 2000000) only [go_sem, Nat.reduceBEq, Nat.reduceLT, Nat.reduceAdd, Nat.reduceMul, Nat.reduceLeDiff, Nat.reduceEqDiff, decide_true, decide_false, reduceIte, and_true, true_and, hff]
  refine Ev.block (Ev.backward rfl rfl (h := 84) (p := .ptr (idOf (l.length + 2)) 0) (lv := v) (p0 := 10) (p1 := 11) (m := L.length) (by simp (maxSteps := 2000000) only [go_sem, Nat.reduceBEq, Nat.reduceLT, Nat.reduceAdd, Nat.reduceMul, Nat.reduceLeDiff, Nat.reduceEqDiff, decide_true, decide_false, reduceIte, and_true, true_and]) rfl back84 (by simp only [load_cell agg32]; simp (maxSteps := 2000000) only [go_sem, Nat.reduceBEq, Nat.reduceLT, Nat.reduceAdd, Nat.reduceMul, Nat.reduceLeDiff, Nat.reduceEqDiff, decide_true, decide_false, reduceIte, and_true, true_and]) (by rw [lenSlice_of hv, hL.len]) (by omega)
    (fun k S => ∃ M g, S = stL (l ++ .map M :: .cells [.map (idOf l.length)] 0 [] :: .cells [v] 0 [] :: g) ∧ StrKeys M ∧ MapOK l M (L.drop k) ∧ k ≤ L.length ∧ Inv (l.length + 3) g) ?_ ?_ ?_)
  · exact ⟨[], [], rfl, fun e he => by simp at he, by rw [List.drop_length]; intro name; rfl, Nat.le_refl _, Inv.nil _⟩
  · intro i S ⟨M, g, hS, hk, hM, hi, hI⟩
    subst hS
    obtain ⟨c, hc⟩ : ∃ c, L[i]? = some c := ⟨L[i], List.getElem?_eq_getElem (by omega)⟩
    obtain ⟨row, hrow, vb, rfl, hvb⟩ := hL.get hc
    obtain ⟨a, ra, ha1, ha2⟩ := rows_idx (rows_app (g := .map M :: .cells [.map (idOf l.length)] 0 [] :: .cells [v] 0 [] :: g) hv) hrow .i64
    have c1 := rows_cell hvb
    obtain ⟨M', hset, hk', hM'⟩ := setM_ok M c.name (.agg [vb, .bool c.sg]) hk
    have hup : opMapUpdate Tryz.prog 103 (.map (idOf l.length)) (.str c.name) (.agg [vb, .bool c.sg]) (stL (l ++ .map M :: .cells [.map (idOf l.length)] 0 [] :: .cells [v] 0 [] :: (g ++ [.cells [.str c.name, vb, .bool c.sg] 0 []]))) = some (.any, stL (l ++ .map M' :: .cells [.map (idOf l.length)] 0 [] :: .cells [v] 0 [] :: (g ++ [.cells [.str c.name, vb, .bool c.sg] 0 []]))) := by
      rw [upd103 (by rw [gx0]; rfl) hset, sx0]; rfl
    refine ⟨.agg [.str c.name, vb, .bool c.sg], ?_, ?_⟩
    · simp only [elemAt, load_cell agg32, i66, load_agg agg66 c66]
      simp (maxSteps := 2000000) only [go_sem, Nat.reduceBEq, Nat.reduceLT, Nat.reduceAdd, Nat.reduceMul, Nat.reduceLeDiff, Nat.reduceEqDiff, decide_true, decide_false, reduceIte, and_true, true_and, ha1, ha2, takeN_app rfl]
    refine Ev.reg' ?_
    simp (maxSteps := 2000000) only [go_sem, Nat.reduceBEq, Nat.reduceLT, Nat.reduceAdd, Nat.reduceMul, Nat.reduceLeDiff, Nat.reduceEqDiff, decide_true, decide_false, reduceIte, and_true, true_and, over]
    refine Ev.block (Ev.reg' ?_)
    simp (maxSteps := 2000000) only [go_sem, Nat.reduceBEq, Nat.reduceLT, Nat.reduceAdd, Nat.reduceMul, Nat.reduceLeDiff, Nat.reduceEqDiff, decide_true, decide_false, reduceIte, and_true, true_and, hup]
    refine ⟨M', _, rfl, hk', fun name => ?_, by omega, Inv.append hI (Inv.one _ _)⟩
    rw [find_drop hc name]
    have hb := hbits c (List.mem_of_getElem? hc)
    by_cases hn : c.name = name
    · simp only [hn, if_true]
      exact ⟨hb, vb, by rw [hM', if_pos hn], hvb⟩
    · simp only [hn, if_false]
      have := hM name
      cases e : find name (L.drop (i + 1)) with
      | none => rw [e] at this; simp only [] at this ⊢; rw [hM', if_neg hn]; exact this
      | some d =>
        rw [e] at this
        obtain ⟨h1, vd, h2, h3⟩ := this
        exact ⟨h1, vd, by rw [hM', if_neg hn]; exact h2, h3⟩
  · intro S' ⟨M, g, hS, hk, hM, _, hI⟩
    subst hS
    rw [List.drop_zero] at hM
    simp (maxSteps := 2000000) only [go_sem, Nat.reduceBEq, Nat.reduceLT, Nat.reduceAdd, Nat.reduceMul, Nat.reduceLeDiff, Nat.reduceEqDiff, decide_true, decide_false, reduceIte, and_true, true_and]
    refine Ev.seq rfl (Ev.reg' ?_)
    simp (maxSteps := 2000000) only [go_sem, Nat.reduceBEq, Nat.reduceLT, Nat.reduceAdd, Nat.reduceMul, Nat.reduceLeDiff, Nat.reduceEqDiff, decide_true, decide_false, reduceIte, and_true, true_and]
    refine Ev.seq rfl (Ev.reg' ?_)
    simp (maxSteps := 2000000) only [go_sem, Nat.reduceBEq, Nat.reduceLT, Nat.reduceAdd, Nat.reduceMul, Nat.reduceLeDiff, Nat.reduceEqDiff, decide_true, decide_false, reduceIte, and_true, true_and, over]
    refine Ev.seq rfl (Ev.reg' ?_)
    simp (maxSteps := 2000000) only [go_sem, Nat.reduceBEq, Nat.reduceLT, Nat.reduceAdd, Nat.reduceMul, Nat.reduceLeDiff, Nat.reduceEqDiff, decide_true, decide_false, reduceIte, and_true, true_and]
    refine Ev.ret (Ret.tmp rfl ?_)
    simp (maxSteps := 2000000) only [go_sem, Nat.reduceBEq, Nat.reduceLT, Nat.reduceAdd, Nat.reduceMul, Nat.reduceLeDiff, Nat.reduceEqDiff, decide_true, decide_false, reduceIte, and_true, true_and]
    exact ⟨_, l.length + 1, l.length, _, M, rfl, rfl, ⟨by simp (maxSteps := 2000000) only [go_sem, Nat.reduceBEq, Nat.reduceLT, Nat.reduceAdd, Nat.reduceMul, Nat.reduceLeDiff, Nat.reduceEqDiff, decide_true, decide_false, reduceIte, and_true, true_and], by simp (maxSteps := 2000000) only [go_sem, Nat.reduceBEq, Nat.reduceLT, Nat.reduceAdd, Nat.reduceMul, Nat.reduceLeDiff, Nat.reduceEqDiff, decide_true, decide_false, reduceIte, and_true, true_and], by simp (maxSteps := 2000000) only [go_sem, Nat.reduceBEq, Nat.reduceLT, Nat.reduceAdd, Nat.reduceMul, Nat.reduceLeDiff, Nat.reduceEqDiff, decide_true, decide_false, reduceIte, and_true, true_and], hM.app⟩, Inv.cons' (by intro _ _ _ h; cases h) (Inv.cons (Inv.cons (Inv.append hI (Inv.one _ _))))⟩
theorem Subst2_run {memo : Memo} (hm11 : memo 11 = none) (hm27 : memo 27 = none) (hm40 : memo 40 = none) (hm45 : memo 45 = none) (hm46 : memo 46 = none) (hm47 : memo 47 = none) (hm85 : memo 85 = none) {l : List Ob} {x : Ex} {c : List V} {v : V} {L : List Cst} {rs : List (List V)}
    (hx : RdE l x c) (hv : rows l 3 v = some rs) (hL : RdCs l L rs) (hbits : ∀ c ∈ L, c.bits.length ≤ 300) (hlen : L.length ≤ 1048576) (hw : wideS x = false) (hN : nodes x ≤ 1048576) (n : Nat) (hn : 2 * nodes x + 12 ≤ n) :
    ∃ g c', callN Tryz.prog (memoBase memo) (drawOK Tryz.prog) n 11 [.agg c, v] (stL l) = some (.agg c', stL (l ++ g)) ∧ (∀ l' : List Ob, l'.length = l.length → RdE (l' ++ g) (subst L x) c') ∧ Inv l.length g ∧ ShN l.length g (nodes x) c' := by
  obtain ⟨n, rfl⟩ : ∃ m, n = m + 1 := ⟨n - 1, by omega⟩
  suffices hs : ∃ u S', callN Tryz.prog (memoBase memo) (drawOK Tryz.prog) (n + 1) 11 [.agg c, v] (stL l) = some (u, S') ∧ (∃ g c', u = .agg c' ∧ S' = stL (l ++ g) ∧ (∀ l' : List Ob, l'.length = l.length → RdE (l' ++ g) (subst L x) c') ∧ Inv l.length g ∧ ShN l.length g (nodes x) c') by
    obtain ⟨u, S', h, g, c', rfl, rfl, h2⟩ := hs; exact ⟨g, c', h, h2⟩
  refine run_fn hm11 Tryz.func11 rfl (by simp [Tryz.f11]) ?_
  have hc8 := hx.len
  refine Ev.seq rfl (Ev.reg' ?_)
  simp (maxSteps := 2000000) only [go_sem, Nat.reduceBEq, Nat.reduceLT, Nat.reduceAdd, Nat.reduceMul, Nat.reduceLeDiff, Nat.reduceEqDiff, decide_true, decide_false, reduceIte, and_true, true_and]
  obtain ⟨g1, kv, km, ks, M, hc1, hS1, hI1⟩ := substituter2_run hm27 hm45 (l := l ++ [.cells c 0 [], .cells z27 0 []]) (rows_app hv) hL.app hbits hlen n (by omega)
  obtain ⟨g2, c', hc2, hr2, hI2, hSh2⟩ := subst2_run hm40 hm46 hm47 hm85 L _ x (Nat.le_refl _) hN (l ++ .cells c 0 [] :: .cells z27 0 [] :: g1) c kv km ks M hx.app (by simpa using hS1) hw n (by omega)
  have hd8 := (hr2 _ rfl).len
  simp only [List.append_assoc, List.cons_append, List.nil_append] at hc1 hc2
  have hall : over z27 0 c' = c' := over_all _ _ (by rw [hd8]; rfl)
  refine Ev.seq rfl (Ev.regDX rfl (by kernel_rfl) [(2, 1)] (by kernel_rfl) (fun T Z B R htr p hp => ?_) ?_)
  · have a1 : T 2 2 = .ptr (idOf l.length) 0 := htr.at 2 (by decide) (X := fun t _ => t 2 = .ptr (idOf l.length) 0) (by simp (maxSteps := 2000000) only [go_sem, Nat.reduceBEq, Nat.reduceLT, Nat.reduceAdd, Nat.reduceMul, Nat.reduceLeDiff, Nat.reduceEqDiff, decide_true, decide_false, reduceIte, and_true, true_and, hc1, List.take_succ_cons])
    have a3 : Z 1 = stL (l ++ [.cells c 0 [], .cells z27 0 []]) := htr.at 1 (by decide) (X := fun _ S => S = stL (l ++ [.cells c 0 [], .cells z27 0 []])) (by simp (maxSteps := 2000000) only [go_sem, Nat.reduceBEq, Nat.reduceLT, Nat.reduceAdd, Nat.reduceMul, Nat.reduceLeDiff, Nat.reduceEqDiff, decide_true, decide_false, reduceIte, and_true, true_and, List.take_succ_cons])
    have a4 : Z 2 = stL (l ++ .cells c 0 [] :: .cells z27 0 [] :: g1) := htr.at 2 (by decide) (X := fun _ S => S = stL (l ++ .cells c 0 [] :: .cells z27 0 [] :: g1)) (by simp (maxSteps := 2000000) only [go_sem, Nat.reduceBEq, Nat.reduceLT, Nat.reduceAdd, Nat.reduceMul, Nat.reduceLeDiff, Nat.reduceEqDiff, decide_true, decide_false, reduceIte, and_true, true_and, hc1, List.take_succ_cons])
    simp only [List.mem_cons, List.not_mem_nil, or_false] at hp
    subst hp
    refine LookOK.of_load rfl ?_
    simp (maxSteps := 2000000) only [go_sem, Nat.reduceBEq, Nat.reduceLT, Nat.reduceAdd, Nat.reduceMul, Nat.reduceLeDiff, Nat.reduceEqDiff, decide_true, decide_false, reduceIte, and_true, true_and, a1, a3, a4]
  simp (maxSteps := 2000000) only [go_sem, Nat.reduceBEq, Nat.reduceLT, Nat.reduceAdd, Nat.reduceMul, Nat.reduceLeDiff, Nat.reduceEqDiff, decide_true, decide_false, reduceIte, and_true, true_and, hc1, hc2, hc8, Nat.le_refl, List.take_of_length_le, hd8, hall, if_true]
  refine Ev.ret (Ret.cell rfl (v := .agg c') (by simp (maxSteps := 2000000) only [go_sem, Nat.reduceBEq, Nat.reduceLT, Nat.reduceAdd, Nat.reduceMul, Nat.reduceLeDiff, Nat.reduceEqDiff, decide_true, decide_false, reduceIte, and_true, true_and, hd8, Nat.le_refl, List.take_of_length_le]) ?_)
  refine ⟨_, c', rfl, rfl, fun l' hl => ?_, Inv.cons (Inv.cons (Inv.append (by simpa using hI1) (by have := hI2; simp only [List.length_append, List.length_cons] at this; rw [show l.length + 1 + 1 + g1.length = l.length + (g1.length + 1 + 1) by omega]; exact this))), by simpa using ShN.shift (m := l.length) (g0 := .cells c 0 [] :: .cells c' 0 [] :: g1) (g := g2) (n := nodes x) (c := c') (by have := hSh2; simp only [List.length_append, List.length_cons] at this ⊢; exact this)⟩
  have h1 := hr2 (l' ++ .cells c 0 [] :: .cells c' 0 [] :: g1) (by simp [hl])
  simpa using h1
end Cm

set_option linter.unusedVariables false
open Go Go.Vm Go.Proofs
namespace Cm
variable [Gl]
structure Plain3 (memo : Memo) : Prop where
  f3 : memo 3 = none
  f5 : memo 5 = none
  f6 : memo 6 = none
  f8 : memo 8 = none
  f9 : memo 9 = none
  f10 : memo 10 = none
  f11 : memo 11 = none
  f12 : memo 12 = none
  f13 : memo 13 = none
  f14 : memo 14 = none
  f15 : memo 15 = none
  f25 : memo 25 = none
  f26 : memo 26 = none
  f27 : memo 27 = none
  f28 : memo 28 = none
  f40 : memo 40 = none
  f45 : memo 45 = none
  f46 : memo 46 = none
  f47 : memo 47 = none
  f85 : memo 85 = none
  f7 : ∃ ga, memo 7 = some ga ∧ ga [] = some (.bool true)
set_option maxHeartbeats 4000000 in
theorem match_run {memo : Memo} (hm : Plain3 memo) {l : List Ob} {x : Ex} {c : List V} {v : V} {L1 : List Cst} {rs1 : List (List V)} (hx : RdE l x c) (hv : rows l 3 v = some rs1) (h1 : RdCs l L1 rs1)
    (hN : nodes x < 4611686018427387904) (n : Nat) (hn : nodes x + 3000000 ≤ n) :
    ∃ g, callN Tryz.prog (memoBase memo) (drawOK Tryz.prog) n 3 [.agg c, v] (stL l) = some (.bool true, stL (l ++ g)) := by
  obtain ⟨n, rfl⟩ : ∃ m, n = m + 1 := ⟨n - 1, by omega⟩
  suffices hs : ∃ u S', callN Tryz.prog (memoBase memo) (drawOK Tryz.prog) (n + 1) 3 [.agg c, v] (stL l) = some (u, S') ∧ (u = .bool true ∧ ∃ g, S' = stL (l ++ g)) by
    obtain ⟨u, S', h, rfl, g, rfl⟩ := hs; exact ⟨g, h⟩
  refine run_fn hm.f3 Tryz.func3 rfl (by simp [Tryz.f3]) ?_
  have hc8 := hx.len
  obtain ⟨ga, hga, hga2⟩ := hm.f7
  have aw : ∀ (S : St), callN Tryz.prog (memoBase memo) (drawOK Tryz.prog) n 7 [] S = some (.bool true, S) := fun S => callN_memo hga rfl hga2 n
  have hall : over z27 0 c = c := over_all _ _ (by rw [hc8]; rfl)
  refine Ev.seq rfl (Ev.reg' ?_)
  simp (maxSteps := 2000000) only [go_sem, Nat.reduceBEq, Nat.reduceLT, Nat.reduceAdd, Nat.reduceMul, Nat.reduceLeDiff, Nat.reduceEqDiff, decide_true, decide_false, reduceIte, and_true, true_and]
  obtain ⟨g1, hc1⟩ := long8_run hm.f5 hm.f14 hm.f15 (l := l ++ [.cells c 0 [], .cells c 0 []]) (v := .ref 8 (idOf (l.length + 1)) 0 1) (x := x) (c := c) (by rw [rows_ref (c := c) (by rw [gxs]; rfl) (by omega), List.drop_zero]; simp only [chunks]; rw [List.take_of_length_le (by omega)]) hx.app hN n (by omega)
  obtain ⟨g2, hc2⟩ := long13_run hm.f6 (l := l ++ .cells c 0 [] :: .cells c 0 [] :: g1) (rows_app hv) h1.app n (by omega)
  simp only [List.append_assoc, List.cons_append, List.nil_append] at hc1 hc2
  refine Ev.seq rfl (Ev.seq rfl (Ev.reg' ?_))
  have fin : ∀ (t : Tm) (g : List Ob), Ev Tryz.prog Tryz.f3.ntmps n (callN Tryz.prog (memoBase memo) (drawOK Tryz.prog) n) (.seq (.region 2 (regOps (fstC (thenC (sndC (fstC (sndC (bodyC Tryz.f3))))))) false) .ret) t (stL (l ++ g)) (onNorm (fun t S => Ev Tryz.prog Tryz.f3.ntmps n (callN Tryz.prog (memoBase memo) (drawOK Tryz.prog) n) (sndC (sndC (bodyC Tryz.f3))) t S (Ret Tryz.prog Tryz.f3 fun u S' => u = .bool true ∧ ∃ g, S' = stL (l ++ g))) (Ret Tryz.prog Tryz.f3 fun u S' => u = .bool true ∧ ∃ g, S' = stL (l ++ g))) := by
    intro t g
    refine Ev.seq rfl (Ev.reg' ?_)
    simp (maxSteps := 2000000) only [go_sem, Nat.reduceBEq, Nat.reduceLT, Nat.reduceAdd, Nat.reduceMul, Nat.reduceLeDiff, Nat.reduceEqDiff, decide_true, decide_false, reduceIte, and_true, true_and, aw, regOps, fstC, thenC, sndC, bodyC, Tryz.f3, Option.getD_some]
    refine Ev.ret ?_
    simp (maxSteps := 2000000) only [go_sem, Nat.reduceBEq, Nat.reduceLT, Nat.reduceAdd, Nat.reduceMul, Nat.reduceLeDiff, Nat.reduceEqDiff, decide_true, decide_false, reduceIte, and_true, true_and]
    refine Ret.tmp rfl ?_
    simp (maxSteps := 2000000) only [go_sem, Nat.reduceBEq, Nat.reduceLT, Nat.reduceAdd, Nat.reduceMul, Nat.reduceLeDiff, Nat.reduceEqDiff, decide_true, decide_false, reduceIte, and_true, true_and]
    exact ⟨g, rfl⟩
  cases hA : long8 x with
  | true =>
    simp (maxSteps := 2000000) only [go_sem, Nat.reduceBEq, Nat.reduceLT, Nat.reduceAdd, Nat.reduceMul, Nat.reduceLeDiff, Nat.reduceEqDiff, decide_true, decide_false, reduceIte, and_true, true_and, hc8, Nat.le_refl, List.take_of_length_le, hall, if_true, hc1, hA]
    refine Ev.cond' ?_
    simp (maxSteps := 2000000) only [go_sem, Nat.reduceBEq, Nat.reduceLT, Nat.reduceAdd, Nat.reduceMul, Nat.reduceLeDiff, Nat.reduceEqDiff, decide_true, decide_false, reduceIte, and_true, true_and]
    exact fin _ _
  | false =>
  cases hB : long13 L1 with
  | true =>
    simp (maxSteps := 2000000) only [go_sem, Nat.reduceBEq, Nat.reduceLT, Nat.reduceAdd, Nat.reduceMul, Nat.reduceLeDiff, Nat.reduceEqDiff, decide_true, decide_false, reduceIte, and_true, true_and, hc8, Nat.le_refl, List.take_of_length_le, hall, if_true, hc1, hA, hc2, hB]
    refine Ev.cond' ?_
    simp (maxSteps := 2000000) only [go_sem, Nat.reduceBEq, Nat.reduceLT, Nat.reduceAdd, Nat.reduceMul, Nat.reduceLeDiff, Nat.reduceEqDiff, decide_true, decide_false, reduceIte, and_true, true_and]
    exact fin _ _
  | false =>
  simp (maxSteps := 2000000) only [go_sem, Nat.reduceBEq, Nat.reduceLT, Nat.reduceAdd, Nat.reduceMul, Nat.reduceLeDiff, Nat.reduceEqDiff, decide_true, decide_false, reduceIte, and_true, true_and, hc8, Nat.le_refl, List.take_of_length_le, hall, if_true, hc1, hA, hc2, hB]
  refine Ev.cond' ?_
  simp (maxSteps := 2000000) only [go_sem, Nat.reduceBEq, Nat.reduceLT, Nat.reduceAdd, Nat.reduceMul, Nat.reduceLeDiff, Nat.reduceEqDiff, decide_true, decide_false, reduceIte, and_true, true_and]
  refine Ev.skip ?_
  simp (maxSteps := 2000000) only [go_sem, Nat.reduceBEq, Nat.reduceLT, Nat.reduceAdd, Nat.reduceMul, Nat.reduceLeDiff, Nat.reduceEqDiff, decide_true, decide_false, reduceIte, and_true, true_and]
  clear fin
  obtain ⟨len1, bit1⟩ := long13_false hB
  have hlx : nodes x ≤ 400 ∧ wideS x = false := by
    simp only [long8, Bool.or_eq_false_iff, decide_eq_false_iff_not] at hA
    exact ⟨by omega, hA.2⟩
  obtain ⟨hxn, hxw⟩ := hlx
  generalize hAe : l ++ Ob.cells c 0 [] :: Ob.cells c 0 [] :: (g1 ++ g2) = A
  have hk : ∀ X : List Ob, (A ++ X)[l.length]? = some (.cells c 0 []) := fun X => by rw [← hAe, List.append_assoc, gx0]; rfl
  have hk0 : A[l.length]? = some (.cells c 0 []) := by rw [← hAe, gx0]; rfl
  have hxA : RdE A x c := hAe ▸ hx.app
  have hvA : rows A 3 v = some rs1 := hAe ▸ rows_app hv
  have h1A : RdCs A L1 rs1 := hAe ▸ h1.app
  clear hc1 hc2
  have hsn := subst_nodes L1 x
  have hsw := subst_wide bit1 x hxw
  obtain ⟨p1, u1, ga1, ho1⟩ := given_run hm.f8 (l := A) hvA h1A bit1 (by omega) n (by omega)
  obtain ⟨p2, u2, ga2, ho2⟩ := asRef_run hm.f10 (l := A ++ p1) (rows_app hvA) h1A.app (by omega) n (by omega)
  obtain ⟨qs2, hu2, hq2⟩ := ho2.rd
  obtain ⟨p3, d3, ga3, rd3⟩ := sub9_run hm.f9 hm.f25 hm.f26 L1 bit1 (by omega) _ x (Nat.le_refl _) (by omega) (A ++ p1 ++ p2) c u2 qs2 hxA.app.app hu2 hq2 hxw n (by omega)
  simp only [List.append_assoc] at ga2 ga3
  refine Ev.seq rfl (Ev.reg' ?_)
  simp (maxSteps := 2000000) only [go_sem, Nat.reduceBEq, Nat.reduceLT, Nat.reduceAdd, Nat.reduceMul, Nat.reduceLeDiff, Nat.reduceEqDiff, decide_true, decide_false, reduceIte, and_true, true_and, ga1]
  have hd3 := (rd3 _ rfl).len
  have hall3 : over z27 0 d3 = d3 := over_all _ _ (by rw [hd3]; rfl)
  refine Ev.seq rfl (Ev.regDX rfl (by kernel_rfl) [(0, 2)] (by kernel_rfl) (fun T Z B R htr p hp => ?_) ?_)
  · have a1 : T 0 2 = .ptr (idOf l.length) 0 := htr.at 0 (by decide) (X := fun t _ => t 2 = .ptr (idOf l.length) 0) (by simp (maxSteps := 2000000) only [go_sem, Nat.reduceBEq, Nat.reduceLT, Nat.reduceAdd, Nat.reduceMul, Nat.reduceLeDiff, Nat.reduceEqDiff, decide_true, decide_false, reduceIte, and_true, true_and, List.take_zero])
    have a3 : Z 2 = stL (A ++ p1) := htr.at 2 (by decide) (X := fun _ S => S = stL (A ++ p1)) (by simp (maxSteps := 2000000) only [go_sem, Nat.reduceBEq, Nat.reduceLT, Nat.reduceAdd, Nat.reduceMul, Nat.reduceLeDiff, Nat.reduceEqDiff, decide_true, decide_false, reduceIte, and_true, true_and, hk, hc8, Nat.le_refl, List.take_of_length_le, if_true, List.take_succ_cons])
    have a4 : Z 3 = stL (A ++ (p1 ++ p2)) := htr.at 3 (by decide) (X := fun _ S => S = stL (A ++ (p1 ++ p2))) (by simp (maxSteps := 2000000) only [go_sem, Nat.reduceBEq, Nat.reduceLT, Nat.reduceAdd, Nat.reduceMul, Nat.reduceLeDiff, Nat.reduceEqDiff, decide_true, decide_false, reduceIte, and_true, true_and, hk, hc8, Nat.le_refl, List.take_of_length_le, if_true, ga2, List.take_succ_cons])
    simp only [List.mem_cons, List.not_mem_nil, or_false] at hp
    subst hp
    refine LookOK.of_load rfl ?_
    simp (maxSteps := 2000000) only [go_sem, Nat.reduceBEq, Nat.reduceLT, Nat.reduceAdd, Nat.reduceMul, Nat.reduceLeDiff, Nat.reduceEqDiff, decide_true, decide_false, reduceIte, and_true, true_and, a1, a3, a4, hk]
  simp (maxSteps := 2000000) only [go_sem, Nat.reduceBEq, Nat.reduceLT, Nat.reduceAdd, Nat.reduceMul, Nat.reduceLeDiff, Nat.reduceEqDiff, decide_true, decide_false, reduceIte, and_true, true_and, hk, hc8, Nat.le_refl, List.take_of_length_le, if_true, ga2, ga3, hd3, hall3]
  obtain ⟨qs1, hu1, hq1⟩ := ho1.rd (l' := A) rfl
  have rdw := rd3 _ rfl
  generalize hBe : A ++ (p1 ++ (p2 ++ (p3 ++ [Ob.cells d3 0 []]))) = B
  have kB : ∀ X : List Ob, (B ++ X)[l.length]? = some (.cells c 0 []) := fun X => by rw [← hBe, List.append_assoc, hk]
  have kW : ∀ X : List Ob, (B ++ X)[A.length + (p1.length + (p2.length + p3.length))]? = some (.cells d3 0 []) := fun X => by
    rw [← hBe]; simp (maxSteps := 2000000) only [go_sem, Nat.reduceBEq, Nat.reduceLT, Nat.reduceAdd, Nat.reduceMul, Nat.reduceLeDiff, Nat.reduceEqDiff, decide_true, decide_false, reduceIte, and_true, true_and]
  have hwB : RdE B (subst L1 x) d3 := by
    rw [← hBe]
    have := rdw.app (g := [.cells d3 0 []])
    simpa using this
  have hxB : RdE B x c := hBe ▸ hxA.app
  have huB : rows B 3 u1 = some qs1 := by rw [← hBe]; simpa using rows_app (g := p2 ++ (p3 ++ [Ob.cells d3 0 []])) hu1
  have hqB : RdCs B L1 qs1 := by rw [← hBe]; simpa using hq1.app (g := p2 ++ (p3 ++ [Ob.cells d3 0 []]))
  refine Ev.seq rfl (Ev.seq rfl (Ev.reg' ?_))
  simp (maxSteps := 2000000) only [go_sem, Nat.reduceBEq, Nat.reduceLT, Nat.reduceAdd, Nat.reduceMul, Nat.reduceLeDiff, Nat.reduceEqDiff, decide_true, decide_false, reduceIte, and_true, true_and]
  refine Ev.block (Ev.loop (fun k t S => t 2 = .ptr (idOf l.length) 0 ∧ t 5 = u1 ∧ t 6 = .ptr (idOf (A.length + (p1.length + (p2.length + p3.length)))) 0 ∧ ∃ j : Nat, t 7 = .int .i64 (j : Int) ∧ j + k = 2 ∧ ∃ g, S = stL (B ++ g)) 2 (by omega) ?_ ?_)
  · simp (maxSteps := 2000000) only [go_sem, Nat.reduceBEq, Nat.reduceLT, Nat.reduceAdd, Nat.reduceMul, Nat.reduceLeDiff, Nat.reduceEqDiff, decide_true, decide_false, reduceIte, and_true, true_and]
    exact ⟨0, rfl, by omega, [], by simp⟩
  intro k t S ⟨t2, t5, t6, j, t7, hjk, g, iS⟩
  subst iS
  refine Ev.seq rfl (Ev.seq rfl (Ev.reg' ?_))
  simp (maxSteps := 2000000) only [go_sem, Nat.reduceBEq, Nat.reduceLT, Nat.reduceAdd, Nat.reduceMul, Nat.reduceLeDiff, Nat.reduceEqDiff, decide_true, decide_false, reduceIte, and_true, true_and, t7]
  refine Ev.cond' ?_
  simp (maxSteps := 2000000) only [go_sem, Nat.reduceBEq, Nat.reduceLT, Nat.reduceAdd, Nat.reduceMul, Nat.reduceLeDiff, Nat.reduceEqDiff, decide_true, decide_false, reduceIte, and_true, true_and]
  by_cases hj : (j : Int) < 2
  rotate_left
  · simp only [hj, decide_false, wpC_false]
    refine Ev.exit ?_
    simp (maxSteps := 2000000) only [go_sem, Nat.reduceBEq, Nat.reduceLT, Nat.reduceAdd, Nat.reduceMul, Nat.reduceLeDiff, Nat.reduceEqDiff, decide_true, decide_false, reduceIte, and_true, true_and]
    refine Ev.seq rfl (Ev.reg' ?_)
    simp (maxSteps := 2000000) only [go_sem, Nat.reduceBEq, Nat.reduceLT, Nat.reduceAdd, Nat.reduceMul, Nat.reduceLeDiff, Nat.reduceEqDiff, decide_true, decide_false, reduceIte, and_true, true_and, aw]
    refine Ev.ret (Ret.tmp rfl ?_)
    simp (maxSteps := 2000000) only [go_sem, Nat.reduceBEq, Nat.reduceLT, Nat.reduceAdd, Nat.reduceMul, Nat.reduceLeDiff, Nat.reduceEqDiff, decide_true, decide_false, reduceIte, and_true, true_and]
    refine ⟨.cells c 0 [] :: .cells c 0 [] :: (g1 ++ g2) ++ ((p1 ++ (p2 ++ (p3 ++ [Ob.cells d3 0 []]))) ++ g), ?_⟩
    rw [← hBe, ← hAe]
    simp only [List.append_assoc, List.cons_append, List.nil_append]
  simp only [hj, decide_true, wpC_true]
  refine Ev.skip ?_
  simp (maxSteps := 2000000) only [go_sem, Nat.reduceBEq, Nat.reduceLT, Nat.reduceAdd, Nat.reduceMul, Nat.reduceLeDiff, Nat.reduceEqDiff, decide_true, decide_false, reduceIte, and_true, true_and]
  obtain ⟨y1, d1, sb1, rd1, hI1, hSh1⟩ := Subst2_run hm.f11 hm.f27 hm.f40 hm.f45 hm.f46 hm.f47 hm.f85 (l := B ++ g) hxB.app (rows_app huB) hqB.app bit1 (by omega) hxw (by omega) n (by omega)
  have hd1 := (rd1 _ rfl).len
  have hall1 : over z27 0 d1 = d1 := over_all _ _ (by rw [hd1]; rfl)
  have hbk := bulk_le _ hsw
  obtain ⟨y2, his⟩ := is_run hm.f12 hm.f28 _ (subst L1 x) (Nat.le_refl _) (B ++ g ++ (y1 ++ [.cells d1 0 []])) d1 d3 (by have := (rd1 (B ++ g) rfl).app (g := [.cells d1 0 []]); simpa using this) (by simpa using hwB.app (g := g ++ (y1 ++ [.cells d1 0 []]))) (by omega) n (by omega)
  obtain ⟨y3, y4, u4, hsp, hI3, hL3⟩ := spoil_run hm.f13 _ d1 (B ++ g) y1 (.cells d1 0 [] :: y2) hSh1 hI1 n (by omega)
  simp only [List.append_assoc, List.cons_append, List.nil_append] at sb1 his hsp
  refine Ev.seq rfl (Ev.block (Ev.seq rfl (Ev.reg' ?_)))
  simp (maxSteps := 2000000) only [go_sem, Nat.reduceBEq, Nat.reduceLT, Nat.reduceAdd, Nat.reduceMul, Nat.reduceLeDiff, Nat.reduceEqDiff, decide_true, decide_false, reduceIte, and_true, true_and, t2, t5, t6, kB, hc8, Nat.le_refl, List.take_of_length_le, if_true, sb1, hd1, hall1]
  refine Ev.seq rfl (Ev.seq rfl (Ev.reg' ?_))
  simp (maxSteps := 2000000) only [go_sem, Nat.reduceBEq, Nat.reduceLT, Nat.reduceAdd, Nat.reduceMul, Nat.reduceLeDiff, Nat.reduceEqDiff, decide_true, decide_false, reduceIte, and_true, true_and, t2, t5, t6, kW, hd1, hd3, Nat.le_refl, List.take_of_length_le, if_true, his, Bool.not_true]
  refine Ev.cond' ?_
  simp (maxSteps := 2000000) only [go_sem, Nat.reduceBEq, Nat.reduceLT, Nat.reduceAdd, Nat.reduceMul, Nat.reduceLeDiff, Nat.reduceEqDiff, decide_true, decide_false, reduceIte, and_true, true_and]
  refine Ev.skip ?_
  simp (maxSteps := 2000000) only [go_sem, Nat.reduceBEq, Nat.reduceLT, Nat.reduceAdd, Nat.reduceMul, Nat.reduceLeDiff, Nat.reduceEqDiff, decide_true, decide_false, reduceIte, and_true, true_and]
  refine Ev.reg' ?_
  simp (maxSteps := 2000000) only [go_sem, Nat.reduceBEq, Nat.reduceLT, Nat.reduceAdd, Nat.reduceMul, Nat.reduceLeDiff, Nat.reduceEqDiff, decide_true, decide_false, reduceIte, and_true, true_and, hd1, Nat.le_refl, List.take_of_length_le, if_true, hsp]
  refine Ev.reg' ?_
  simp (maxSteps := 2000000) only [go_sem, Nat.reduceBEq, Nat.reduceLT, Nat.reduceAdd, Nat.reduceMul, Nat.reduceLeDiff, Nat.reduceEqDiff, decide_true, decide_false, reduceIte, and_true, true_and, t2, t5, t6, t7]
  exact ⟨k - 1, by omega, j + 1, by rw [IntWalk.i64_in _ (by omega)]; rfl, by omega, _, rfl⟩
end Cm

