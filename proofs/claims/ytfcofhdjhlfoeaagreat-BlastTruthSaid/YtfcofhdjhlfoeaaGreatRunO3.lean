/- A run under the evaluator, part 3: no statement of its own. -/
import Derived.Test.YtfcofhdjhlfoeaaGreatVm6
import Derived.Test.YtfcofhdjhlfoeaaGreatRunO2
set_option autoImplicit false
set_option maxRecDepth 100000
set_option linter.unusedSectionVars false
set_option linter.unusedVariables false
set_option linter.unusedSimpArgs false
set_option linter.unusedVariables false
open Go Go.Vm Go.Proofs
namespace Bt
variable [Gl]
theorem keyC_all (A : List (Nat × Nat)) : ∀ r ∈ A.map keyC, r.length = 2 := by
  intro r hr
  obtain ⟨b, _, rfl⟩ := List.mem_map.1 hr
  rfl
theorem litC_all (A : List Nat) : ∀ r ∈ A.map litC, r.length = 1 := by
  intro r hr
  obtain ⟨b, _, rfl⟩ := List.mem_map.1 hr
  rfl
section
variable {lo : Nat} {L : List Ob} {k m : Nat} {va : V} {A : List (Nat × Nat)} {o : Option Nat} {xs : List Nat}
theorem graph_run (h : BS lo L k m va A o) (hG : Good 9 A) (hA : A.length ≤ 60) {vl : V} (hv : rows L 1 vl = some (xs.map litC)) (hx : ∀ x ∈ xs, x < 2 * (9 + A.length)) (hl : xs.length ≤ 100) (n : Nat) (hn : 310 ≤ n) :
    ∃ g u w, callS Tryz.prog Sp n 17 [.ptr (idOf k) 0, vl, .nils] (stL L) = some (.tup [.agg (gC u w), .int .i64 0], stL (L ++ g)) ∧ rows (L ++ g) 2 u = some (A.map keyC) ∧ rows (L ++ g) 1 w = some (xs.map litC) := by
  obtain ⟨n, rfl⟩ : ∃ j, n = j + 1 := ⟨n - 1, by omega⟩
  suffices hs : ∃ v S', callS Tryz.prog Sp (n + 1) 17 [.ptr (idOf k) 0, vl, .nils] (stL L) = some (v, S') ∧ ∃ g u w, v = .tup [.agg (gC u w), .int .i64 0] ∧ S' = stL (L ++ g) ∧ rows (L ++ g) 2 u = some (A.map keyC) ∧ rows (L ++ g) 1 w = some (xs.map litC) by
    obtain ⟨v, S', h, g, u, w, rfl, rfl, h1, h2⟩ := hs; exact ⟨g, u, w, h, h1, h2⟩
  refine runS (fun v h => h) Tryz.func17 rfl (by simp [Tryz.f17]) ?_
  have b1 := h.ext [.cells [.int .i64 0, .nils, .nils, .nils] 0 []]
  have z1 : (L ++ [Ob.cells [.int .i64 0, .nils, .nils, .nils] 0 []])[L.length]? = some (.cells [.int .i64 0, .nils, .nils, .nils] 0 []) := by rw [gx0]; rfl
  have k1 := b1.hk
  have hv1 : rows (L ++ [Ob.cells [.int .i64 0, .nils, .nils, .nils] 0 []]) 1 vl = some (xs.map litC) := rows_app hv
  have hl1 : (L ++ [Ob.cells [.int .i64 0, .nils, .nils, .nils] 0 []]).length = L.length + 1 := by simp
  have f1 : ∀ i, i < L.length → (L ++ [Ob.cells [.int .i64 0, .nils, .nils, .nils] 0 []])[i]? = L[i]? := fun i hi => List.getElem?_append_left hi
  have l0 : lenOf .nils = some 0 := rfl
  have ne0 : ((((0 : Nat) : Int)) != 0) = false := rfl
  refine Ev.seq rfl (Ev.reg' ?_)
  simp (maxSteps := 2000000) only [go_sem, Nat.reduceBEq, Nat.reduceLT, Nat.reduceAdd, Nat.reduceMul, Nat.reduceLeDiff, Nat.reduceEqDiff, decide_true, decide_false, reduceIte, and_true, true_and]
  generalize (L ++ [Ob.cells [.int .i64 0, .nils, .nils, .nils] 0 []]) = L1 at b1 z1 k1 hv1 hl1 f1
  have e1 := err_run k1 n (by omega)
  have e2 := cl34_run L1 n (by omega)
  obtain ⟨u, g1, o1, e3, huc, hO1, ho1⟩ := cl35_run b1.ha.rows (keyC_all A) (by simp; omega) n (by omega)
  have hv2 : rows (L1 ++ g1) 1 vl = some (xs.map litC) := rows_app hv1
  obtain ⟨w, g2, o2, e4, hwc, hO2, ho2⟩ := cl36_run hv2 (litC_all xs) (by simp; omega) n (by omega)
  have k2 : (L1 ++ g1)[k]? = _ := (b1.ext g1).hk
  have k3 : (L1 ++ g1 ++ g2)[k]? = _ := ((b1.ext g1).ext g2).hk
  refine Ev.seq rfl (Ev.seq rfl (Ev.reg' ?_))
  simp (maxSteps := 2000000) only [go_sem, Nat.reduceBEq, Nat.reduceLT, Nat.reduceAdd, Nat.reduceMul, Nat.reduceLeDiff, Nat.reduceEqDiff, decide_true, decide_false, reduceIte, and_true, true_and, e1]
  refine Ev.seq rfl (Ev.reg' ?_)
  simp (maxSteps := 2000000) only [go_sem, Nat.reduceBEq, Nat.reduceLT, Nat.reduceAdd, Nat.reduceMul, Nat.reduceLeDiff, Nat.reduceEqDiff, decide_true, decide_false, reduceIte, and_true, true_and]
  refine Ev.cond' ?_
  simp (maxSteps := 2000000) only [go_sem, Nat.reduceBEq, Nat.reduceLT, Nat.reduceAdd, Nat.reduceMul, Nat.reduceLeDiff, Nat.reduceEqDiff, decide_true, decide_false, reduceIte, and_true, true_and]
  refine Ev.skip ?_
  simp (maxSteps := 2000000) only [go_sem, Nat.reduceBEq, Nat.reduceLT, Nat.reduceAdd, Nat.reduceMul, Nat.reduceLeDiff, Nat.reduceEqDiff, decide_true, decide_false, reduceIte, and_true, true_and]
  refine Ev.seq rfl (Ev.seq rfl (Ev.reg' ?_))
  simp (maxSteps := 2000000) only [go_sem, Nat.reduceBEq, Nat.reduceLT, Nat.reduceAdd, Nat.reduceMul, Nat.reduceLeDiff, Nat.reduceEqDiff, decide_true, decide_false, reduceIte, and_true, true_and, k1, l0, ne0]
  refine Ev.cond' ?_
  simp (maxSteps := 2000000) only [go_sem, Nat.reduceBEq, Nat.reduceLT, Nat.reduceAdd, Nat.reduceMul, Nat.reduceLeDiff, Nat.reduceEqDiff, decide_true, decide_false, reduceIte, and_true, true_and]
  refine Ev.skip ?_
  simp (maxSteps := 2000000) only [go_sem, Nat.reduceBEq, Nat.reduceLT, Nat.reduceAdd, Nat.reduceMul, Nat.reduceLeDiff, Nat.reduceEqDiff, decide_true, decide_false, reduceIte, and_true, true_and]
  refine Ev.seq rfl (Ev.regDX rfl (by kernel_rfl) [(3, 5), (3, 10), (3, 12), (9, 5)] (by kernel_rfl) (fun T' Z B R htr p hp => ?_) ?_)
  · have a1 : T' 3 27 = .ptr (idOf k) 1 := htr.at 3 (by decide) (X := fun t _ => t 27 = .ptr (idOf k) 1) (by simp (maxSteps := 2000000) only [go_sem, Nat.reduceBEq, Nat.reduceLT, Nat.reduceAdd, Nat.reduceMul, Nat.reduceLeDiff, Nat.reduceEqDiff, decide_true, decide_false, reduceIte, and_true, true_and, k1])
    have a2 : T' 9 33 = .ptr (idOf k) 3 := htr.at 9 (by decide) (X := fun t _ => t 33 = .ptr (idOf k) 3) (by simp (maxSteps := 2000000) only [go_sem, Nat.reduceBEq, Nat.reduceLT, Nat.reduceAdd, Nat.reduceMul, Nat.reduceLeDiff, Nat.reduceEqDiff, decide_true, decide_false, reduceIte, and_true, true_and, k1, e2])
    have s5 : Z 5 = stL L1 := htr.at 5 (by decide) (X := fun _ S => S = stL L1) (by simp (maxSteps := 2000000) only [go_sem, Nat.reduceBEq, Nat.reduceLT, Nat.reduceAdd, Nat.reduceMul, Nat.reduceLeDiff, Nat.reduceEqDiff, decide_true, decide_false, reduceIte, and_true, true_and, k1, e2])
    have s6 : Z 6 = stL L1 := htr.at 6 (by decide) (X := fun _ S => S = stL L1) (by simp (maxSteps := 2000000) only [go_sem, Nat.reduceBEq, Nat.reduceLT, Nat.reduceAdd, Nat.reduceMul, Nat.reduceLeDiff, Nat.reduceEqDiff, decide_true, decide_false, reduceIte, and_true, true_and, k1, e2])
    have s10 : Z 10 = stL L1 := htr.at 10 (by decide) (X := fun _ S => S = stL L1) (by simp (maxSteps := 2000000) only [go_sem, Nat.reduceBEq, Nat.reduceLT, Nat.reduceAdd, Nat.reduceMul, Nat.reduceLeDiff, Nat.reduceEqDiff, decide_true, decide_false, reduceIte, and_true, true_and, k1, e2])
    have s11 : Z 11 = stL (L1 ++ g1) := htr.at 11 (by decide) (X := fun _ S => S = stL (L1 ++ g1)) (by simp (maxSteps := 2000000) only [go_sem, Nat.reduceBEq, Nat.reduceLT, Nat.reduceAdd, Nat.reduceMul, Nat.reduceLeDiff, Nat.reduceEqDiff, decide_true, decide_false, reduceIte, and_true, true_and, k1, e2, e3])
    have s12 : Z 12 = stL (L1 ++ g1) := htr.at 12 (by decide) (X := fun _ S => S = stL (L1 ++ g1)) (by simp (maxSteps := 2000000) only [go_sem, Nat.reduceBEq, Nat.reduceLT, Nat.reduceAdd, Nat.reduceMul, Nat.reduceLeDiff, Nat.reduceEqDiff, decide_true, decide_false, reduceIte, and_true, true_and, k1, e2, e3])
    have s13 : Z 13 = stL (L1 ++ g1 ++ g2) := htr.at 13 (by decide) (X := fun _ S => S = stL (L1 ++ g1 ++ g2)) (by simp (maxSteps := 2000000) only [go_sem, Nat.reduceBEq, Nat.reduceLT, Nat.reduceAdd, Nat.reduceMul, Nat.reduceLeDiff, Nat.reduceEqDiff, decide_true, decide_false, reduceIte, and_true, true_and, k1, e2, e3, e4])
    simp only [List.mem_cons, List.not_mem_nil, or_false] at hp
    rcases hp with rfl | rfl | rfl | rfl
    · refine LookOK.of_load rfl ?_
      show cellsAt (Z 5) (T' 3 27) = cellsAt (Z 6) (T' 3 27)
      rw [s5, s6]
    · refine LookOK.of_load rfl ?_
      show cellsAt (Z 10) (T' 3 27) = cellsAt (Z 11) (T' 3 27)
      rw [a1, s10, s11]
      exact (cellsAt_app (glt k1)).symm
    · refine LookOK.of_load rfl ?_
      show cellsAt (Z 12) (T' 3 27) = cellsAt (Z 13) (T' 3 27)
      rw [a1, s12, s13]
      exact (cellsAt_app (glt k2)).symm
    · refine LookOK.of_load rfl ?_
      show cellsAt (Z 5) (T' 9 33) = cellsAt (Z 6) (T' 9 33)
      rw [s5, s6]
  have u1 := okC_cell huc
  have u2 := cells_cell huc
  have w1 := okC_cell hwc
  have w2 := cells_cell hwc
  simp (maxSteps := 2000000) only [go_sem, Nat.reduceBEq, Nat.reduceLT, Nat.reduceAdd, Nat.reduceMul, Nat.reduceLeDiff, Nat.reduceEqDiff, decide_true, decide_false, reduceIte, and_true, true_and, k1, k2, k3, e2, e3, e4, u1, u2, w1, w2, over, Nat.zero_le, Nat.le_refl]
  obtain ⟨p, ep⟩ : ∃ p, p = L1.length + (g1.length + g2.length) := ⟨_, rfl⟩
  obtain ⟨M, eM⟩ : ∃ M, M = L1 ++ (g1 ++ (g2 ++ [Ob.cells [.int .i64 8, .nils, u, w] 0 []])) := ⟨_, rfl⟩
  have gp : M[p]? = some (.cells (gC u w) 0 []) := by
    rw [eM, ep, gxs, List.getElem?_append_right (by omega), List.getElem?_append_right (by omega), show g1.length + g2.length - g1.length - g2.length = 0 by omega]; rfl
  have gz : M[L.length]? = some (.cells [.int .i64 0, .nils, .nils, .nils] 0 []) := by rw [eM, List.getElem?_append_left (by omega)]; exact z1
  have lM : L1.length ≤ M.length := by rw [eM]; simp
  have O1 : Own L1.length M 2 u (A.map keyC) o1 := hO1.keep fun j hj => by
    subst hj
    have := hO1.lt
    rw [eM, ← List.append_assoc, List.getElem?_append_left this]
  have O2 : Own L1.length M 1 w (xs.map litC) o2 := (hO2.low (by simp)).keep fun j hj => by
    subst hj
    have := hO2.lt
    rw [eM, ← List.append_assoc, ← List.append_assoc, List.getElem?_append_left this]
  have fM : ∀ i, i < L.length → M[i]? = L[i]? := fun i hi => by rw [eM, List.getElem?_append_left (by omega)]; exact f1 i hi
  rw [← eM, ← ep]
  clear eM ep hO1 hO2 e1 e2 e3 e4 k1 k2 k3 hv2 z1 f1
  obtain ⟨g3, c1⟩ := check_run O1.rows O2.rows hG hA hx hl n (by omega)
  have gp3 : (M ++ g3)[p]? = some (.cells (gC u w) 0 []) := by rw [List.getElem?_append_left (glt gp)]; exact gp
  have gz3 : (M ++ g3)[L.length]? = some (.cells [.int .i64 0, .nils, .nils, .nils] 0 []) := by rw [List.getElem?_append_left (glt gz)]; exact gz
  have O13 : Own L1.length ((M ++ g3).set L.length (.cells (gC u w) 0 [])) 2 u (A.map keyC) o1 := O1.keep fun j hj => by
    subst hj
    have := O1.lt
    have := O1.ge
    rw [List.getElem?_set_ne (by omega), List.getElem?_append_left (by omega)]
  have O23 : Own L1.length ((M ++ g3).set L.length (.cells (gC u w) 0 [])) 1 w (xs.map litC) o2 := O2.keep fun j hj => by
    subst hj
    have := O2.lt
    have := O2.ge
    rw [List.getElem?_set_ne (by omega), List.getElem?_append_left (by omega)]
  have gy : ((M ++ g3).set L.length (.cells (gC u w) 0 []))[L.length]? = some (.cells (gC u w) 0 []) := List.getElem?_set_self (glt gz3)
  obtain ⟨g4, e4⟩ : ∃ g, (M ++ g3).set L.length (.cells (gC u w) 0 []) = L ++ g := app_of fun i hi => by
    rw [List.getElem?_set_ne (by omega), List.getElem?_append_left (by omega)]; exact fM i hi
  refine Ev.seq rfl (Ev.seq rfl (Ev.reg' ?_))
  simp (maxSteps := 2000000) only [go_sem, Nat.reduceBEq, Nat.reduceLT, Nat.reduceAdd, Nat.reduceMul, Nat.reduceLeDiff, Nat.reduceEqDiff, decide_true, decide_false, reduceIte, and_true, true_and, gp, c1]
  refine Ev.seq rfl (Ev.reg' ?_)
  simp (maxSteps := 2000000) only [go_sem, Nat.reduceBEq, Nat.reduceLT, Nat.reduceAdd, Nat.reduceMul, Nat.reduceLeDiff, Nat.reduceEqDiff, decide_true, decide_false, reduceIte, and_true, true_and]
  refine Ev.cond' ?_
  simp (maxSteps := 2000000) only [go_sem, Nat.reduceBEq, Nat.reduceLT, Nat.reduceAdd, Nat.reduceMul, Nat.reduceLeDiff, Nat.reduceEqDiff, decide_true, decide_false, reduceIte, and_true, true_and]
  refine Ev.skip ?_
  simp (maxSteps := 2000000) only [go_sem, Nat.reduceBEq, Nat.reduceLT, Nat.reduceAdd, Nat.reduceMul, Nat.reduceLeDiff, Nat.reduceEqDiff, decide_true, decide_false, reduceIte, and_true, true_and]
  refine Ev.seq rfl (Ev.reg' ?_)
  simp (maxSteps := 2000000) only [go_sem, Nat.reduceBEq, Nat.reduceLT, Nat.reduceAdd, Nat.reduceMul, Nat.reduceLeDiff, Nat.reduceEqDiff, decide_true, decide_false, reduceIte, and_true, true_and, gp3, gz3, over, Nat.zero_le, Nat.le_refl]
  refine Ev.ret ⟨[.agg (gC u w), .int .i64 0], ?_, g4, u, w, rfl, ?_, e4 ▸ O13.rows, e4 ▸ O23.rows⟩
  · show evRes Tryz.prog _ _ Tryz.f17.results.toList = _
    simp only [Tryz.f17, evRes]
    simp (maxSteps := 2000000) only [go_sem, Nat.reduceBEq, Nat.reduceLT, Nat.reduceAdd, Nat.reduceMul, Nat.reduceLeDiff, Nat.reduceEqDiff, decide_true, decide_false, reduceIte, and_true, true_and, gy]
  · rw [← e4]
theorem hasl_run (h : BS lo L k m va A o) (hG : Good 9 A) (hA : A.length ≤ 60) {vl vi vw : V} {x : Nat} (hv : rows L 1 vl = some [litC x]) (hx : x < 2 * (9 + A.length)) {bs : List Bool} (hb : bs.length = 8) (hi : rows L 1 vi = some (bs.map boolC)) {c : Int} (hw : rows L 1 vw = some [[.int .u8 c]]) (hc : c = if of (vals (false :: bs) A) x then 1 else 0) (n : Nat) (hn : 320 ≤ n) :
    ∃ g, callS Tryz.prog Sp n 6 [.ptr (idOf k) 0, vl, vi, vw] (stL L) = some (.bool true, stL (L ++ g)) := by
  obtain ⟨n, rfl⟩ : ∃ j, n = j + 1 := ⟨n - 1, by omega⟩
  suffices hs : ∃ v S', callS Tryz.prog Sp (n + 1) 6 [.ptr (idOf k) 0, vl, vi, vw] (stL L) = some (v, S') ∧ v = .bool true ∧ ∃ g, S' = stL (L ++ g) by
    obtain ⟨v, S', h, rfl, g, rfl⟩ := hs; exact ⟨g, h⟩
  refine runS (fun v h => h) Tryz.func6 rfl (by simp [Tryz.f6]) ?_
  obtain ⟨g1, u, w, e1, ru, rw1⟩ := graph_run (xs := [x]) h hG hA hv (by simpa using hx) (by simp) n (by omega)
  have ru2 : rows (L ++ g1 ++ [Ob.cells (gC u w) 0 []]) 2 u = some (A.map keyC) := rows_app ru
  have rw2 : rows (L ++ g1 ++ [Ob.cells (gC u w) 0 []]) 1 w = some ([x].map litC) := rows_app rw1
  have ri2 : rows (L ++ g1 ++ [Ob.cells (gC u w) 0 []]) 1 vi = some (bs.map boolC) := rows_app (rows_app hi)
  obtain ⟨g2, r, e2, rr⟩ := eval_run ru2 rw2 hG hA (by simpa using hx) (by simp) hb ri2 n (by omega)
  have rw3 : rows (L ++ g1 ++ [Ob.cells (gC u w) 0 []] ++ g2) 1 vw = some [[.int .u8 c]] := rows_app (rows_app (rows_app hw))
  have gM : (L ++ g1 ++ [Ob.cells (gC u w) 0 []])[L.length + g1.length]? = some (.cells (gC u w) 0 []) := by rw [← List.length_append, gx0]; rfl
  obtain ⟨g3, eg⟩ : ∃ g, L ++ g1 ++ [Ob.cells (gC u w) 0 []] ++ g2 = L ++ g := ⟨g1 ++ [Ob.cells (gC u w) 0 []] ++ g2, by simp only [List.append_assoc]⟩
  have uc := rows_cell ru
  have wc := rows_cell rw1
  have u1 := okC_cell uc
  have u2 := cells_cell uc
  have w1 := okC_cell wc
  have w2 := cells_cell wc
  simp only [List.append_assoc, List.cons_append, List.nil_append] at e2 gM rr rw3 eg
  refine Ev.seq rfl (Ev.reg' ?_)
  simp (maxSteps := 2000000) only [go_sem, Nat.reduceBEq, Nat.reduceLT, Nat.reduceAdd, Nat.reduceMul, Nat.reduceLeDiff, Nat.reduceEqDiff, decide_true, decide_false, reduceIte, and_true, true_and]
  refine Ev.seq rfl (Ev.reg' ?_)
  simp (maxSteps := 2000000) only [go_sem, Nat.reduceBEq, Nat.reduceLT, Nat.reduceAdd, Nat.reduceMul, Nat.reduceLeDiff, Nat.reduceEqDiff, decide_true, decide_false, reduceIte, and_true, true_and, e1, u1, u2, w1, w2, over, Nat.zero_le, Nat.le_refl]
  have lr : lenOf r = some 1 := by have := rows_len rr; simpa using this
  have lw : lenOf vw = some 1 := by have := rows_len rw3; simpa using this
  have n00 : ((0 : Int) != 0) = false := rfl
  have n11 : ((((1 : Nat) : Int)) != ((1 : Nat) : Int)) = false := rfl
  refine Ev.seq rfl (Ev.reg' ?_)
  simp (maxSteps := 2000000) only [go_sem, Nat.reduceBEq, Nat.reduceLT, Nat.reduceAdd, Nat.reduceMul, Nat.reduceLeDiff, Nat.reduceEqDiff, decide_true, decide_false, reduceIte, and_true, true_and, gM, e2]
  generalize (L ++ (g1 ++ (Ob.cells [V.int .i64 8, .nils, u, w] 0 [] :: g2))) = M at eg rr rw3
  refine Ev.seq rfl (Ev.seq rfl (Ev.reg' ?_))
  simp (maxSteps := 2000000) only [go_sem, Nat.reduceBEq, Nat.reduceLT, Nat.reduceAdd, Nat.reduceMul, Nat.reduceLeDiff, Nat.reduceEqDiff, decide_true, decide_false, reduceIte, and_true, true_and, lr, lw, n00, n11]
  refine Ev.cond' ?_
  simp (maxSteps := 2000000) only [go_sem, Nat.reduceBEq, Nat.reduceLT, Nat.reduceAdd, Nat.reduceMul, Nat.reduceLeDiff, Nat.reduceEqDiff, decide_true, decide_false, reduceIte, and_true, true_and]
  refine Ev.skip ?_
  simp (maxSteps := 2000000) only [go_sem, Nat.reduceBEq, Nat.reduceLT, Nat.reduceAdd, Nat.reduceMul, Nat.reduceLeDiff, Nat.reduceEqDiff, decide_true, decide_false, reduceIte, and_true, true_and]
  obtain ⟨a1, r1, p1, p2⟩ := rows_idx rr (r := boolC (of (vals (false :: bs) A) x)) (j := 0) rfl .i64
  obtain ⟨a2, r2, q1, q2⟩ := rows_idx rw3 (r := [.int .u8 c]) (j := 0) rfl .i64
  have p1' : idxAddr 1 r (.int .i64 0) = some a1 := p1
  have q1' : idxAddr 1 vw (.int .i64 0) = some a2 := q1
  have c1 : ¬ (c > 1) := by rw [hc]; split <;> omega
  have c2 : (of (vals (false :: bs) A) x == (c == 1)) = true := by
    rw [hc]; cases of (vals (false :: bs) A) x <;> rfl
  refine Ev.seq rfl (Ev.seq rfl (Ev.reg' ?_))
  simp (maxSteps := 2000000) only [go_sem, Nat.reduceBEq, Nat.reduceLT, Nat.reduceAdd, Nat.reduceMul, Nat.reduceLeDiff, Nat.reduceEqDiff, decide_true, decide_false, reduceIte, and_true, true_and]
  have hn1 : 1 < n := by omega
  refine Ev.block (Ev.loop (fun q t S => t 3 = vw ∧ t 11 = r ∧ S = stL M ∧ ((q = 1 ∧ t 14 = .int .i64 0) ∨ (q = 0 ∧ t 14 = .int .i64 1))) 1 hn1 ?_ ?_)
  · simp (maxSteps := 2000000) only [go_sem, Nat.reduceBEq, Nat.reduceLT, Nat.reduceAdd, Nat.reduceMul, Nat.reduceLeDiff, Nat.reduceEqDiff, decide_true, decide_false, reduceIte, and_true, true_and]
    exact .inl trivial
  intro q t S ⟨i3, i11, iS, i14⟩
  subst iS
  rcases i14 with ⟨rfl, i14⟩ | ⟨rfl, i14⟩
  · have lt : (0 : Int) < ((1 : Nat) : Int) := by omega
    refine Ev.seq rfl (Ev.seq rfl (Ev.reg' ?_))
    simp (maxSteps := 2000000) only [go_sem, Nat.reduceBEq, Nat.reduceLT, Nat.reduceAdd, Nat.reduceMul, Nat.reduceLeDiff, Nat.reduceEqDiff, decide_true, decide_false, reduceIte, and_true, true_and, i3, i14, lw, lt]
    refine Ev.cond' ?_
    simp (maxSteps := 2000000) only [go_sem, Nat.reduceBEq, Nat.reduceLT, Nat.reduceAdd, Nat.reduceMul, Nat.reduceLeDiff, Nat.reduceEqDiff, decide_true, decide_false, reduceIte, and_true, true_and]
    refine Ev.skip ?_
    simp (maxSteps := 2000000) only [go_sem, Nat.reduceBEq, Nat.reduceLT, Nat.reduceAdd, Nat.reduceMul, Nat.reduceLeDiff, Nat.reduceEqDiff, decide_true, decide_false, reduceIte, and_true, true_and]
    refine Ev.seq rfl (Ev.block (Ev.seq rfl (Ev.regD0' rfl (by kernel_rfl) (by kernel_rfl) ?_)))
    simp (maxSteps := 2000000) only [go_sem, Nat.reduceBEq, Nat.reduceLT, Nat.reduceAdd, Nat.reduceMul, Nat.reduceLeDiff, Nat.reduceEqDiff, decide_true, decide_false, reduceIte, and_true, true_and, i3, i11, i14, p1', p2, q1', q2, c1, c2]
    refine Ev.cond' ?_
    simp (maxSteps := 2000000) only [go_sem, Nat.reduceBEq, Nat.reduceLT, Nat.reduceAdd, Nat.reduceMul, Nat.reduceLeDiff, Nat.reduceEqDiff, decide_true, decide_false, reduceIte, and_true, true_and]
    refine Ev.skip ?_
    simp (maxSteps := 2000000) only [go_sem, Nat.reduceBEq, Nat.reduceLT, Nat.reduceAdd, Nat.reduceMul, Nat.reduceLeDiff, Nat.reduceEqDiff, decide_true, decide_false, reduceIte, and_true, true_and]
    refine Ev.reg' ?_
    simp (maxSteps := 2000000) only [go_sem, Nat.reduceBEq, Nat.reduceLT, Nat.reduceAdd, Nat.reduceMul, Nat.reduceLeDiff, Nat.reduceEqDiff, decide_true, decide_false, reduceIte, and_true, true_and, i14]
    refine ⟨0, by omega, i3, i11, .inr ⟨rfl, ?_⟩⟩
    rfl
  · have nlt : ¬ ((1 : Int) < ((1 : Nat) : Int)) := by omega
    refine Ev.seq rfl (Ev.seq rfl (Ev.reg' ?_))
    simp (maxSteps := 2000000) only [go_sem, Nat.reduceBEq, Nat.reduceLT, Nat.reduceAdd, Nat.reduceMul, Nat.reduceLeDiff, Nat.reduceEqDiff, decide_true, decide_false, reduceIte, and_true, true_and, i3, i14, lw, nlt]
    refine Ev.cond' ?_
    simp (maxSteps := 2000000) only [go_sem, Nat.reduceBEq, Nat.reduceLT, Nat.reduceAdd, Nat.reduceMul, Nat.reduceLeDiff, Nat.reduceEqDiff, decide_true, decide_false, reduceIte, and_true, true_and]
    refine Ev.exit ?_
    simp (maxSteps := 2000000) only [go_sem, Nat.reduceBEq, Nat.reduceLT, Nat.reduceAdd, Nat.reduceMul, Nat.reduceLeDiff, Nat.reduceEqDiff, decide_true, decide_false, reduceIte, and_true, true_and]
    refine Ev.seq rfl (Ev.reg' ?_)
    simp (maxSteps := 2000000) only [go_sem, Nat.reduceBEq, Nat.reduceLT, Nat.reduceAdd, Nat.reduceMul, Nat.reduceLeDiff, Nat.reduceEqDiff, decide_true, decide_false, reduceIte, and_true, true_and]
    refine Ev.ret (Ret.tmp rfl ?_)
    simp (maxSteps := 2000000) only [go_sem, Nat.reduceBEq, Nat.reduceLT, Nat.reduceAdd, Nat.reduceMul, Nat.reduceLeDiff, Nat.reduceEqDiff, decide_true, decide_false, reduceIte, and_true, true_and]
    exact ⟨g3, by rw [eg]⟩
end
end Bt

set_option linter.unusedVariables false
open Go Go.Vm Go.Proofs
namespace Bt
variable [Gl]
theorem new_run (L : List Ob) (n : Nat) (hn : 1 ≤ n) : callS Tryz.prog Sp n 5 [.int .i64 8, .int .i64 0] (stL L) = some (.tup [.ptr (idOf (L.length + 1)) 0, .int .i64 0], stL (L ++ [.map [], .cells (bc .nils L.length) 0 []])) := by
  obtain ⟨n, rfl⟩ : ∃ j, n = j + 1 := ⟨n - 1, by omega⟩
  suffices hs : ∃ v S', callS Tryz.prog Sp (n + 1) 5 [.int .i64 8, .int .i64 0] (stL L) = some (v, S') ∧ v = .tup [.ptr (idOf (L.length + 1)) 0, .int .i64 0] ∧ S' = stL (L ++ [.map [], .cells (bc .nils L.length) 0 []]) by
    obtain ⟨v, S', h, rfl, rfl⟩ := hs; exact h
  refine runS (fun v h => h) Tryz.func5 rfl (by simp [Tryz.f5]) ?_
  have a1 : ¬ ((8 : Int) < 0) := by omega
  have a2 : ¬ ((0 : Int) < 0) := by omega
  have a3 : ¬ ((8 : Int) > 4096) := by omega
  have a4 : ¬ ((0 : Int) > 4096) := by omega
  have w1 : IntKind.i64.wrap (1 + 8) = 9 := rfl
  have w2 : IntKind.i64.wrap (9 + 0) = 9 := rfl
  have a5 : ¬ ((9 : Int) > 4096) := by omega
  refine Ev.seq rfl (Ev.reg' ?_)
  simp (maxSteps := 2000000) only [go_sem, Nat.reduceBEq, Nat.reduceLT, Nat.reduceAdd, Nat.reduceMul, Nat.reduceLeDiff, Nat.reduceEqDiff, decide_true, decide_false, reduceIte, and_true, true_and]
  refine Ev.seq rfl (Ev.block (Ev.seq rfl (Ev.reg' ?_)))
  simp (maxSteps := 2000000) only [go_sem, Nat.reduceBEq, Nat.reduceLT, Nat.reduceAdd, Nat.reduceMul, Nat.reduceLeDiff, Nat.reduceEqDiff, decide_true, decide_false, reduceIte, and_true, true_and, a1, a2]
  refine Ev.cond' ?_
  simp (maxSteps := 2000000) only [go_sem, Nat.reduceBEq, Nat.reduceLT, Nat.reduceAdd, Nat.reduceMul, Nat.reduceLeDiff, Nat.reduceEqDiff, decide_true, decide_false, reduceIte, and_true, true_and]
  refine Ev.seq rfl (Ev.reg' ?_)
  simp (maxSteps := 2000000) only [go_sem, Nat.reduceBEq, Nat.reduceLT, Nat.reduceAdd, Nat.reduceMul, Nat.reduceLeDiff, Nat.reduceEqDiff, decide_true, decide_false, reduceIte, and_true, true_and, a3, a4, w1, w2, a5]
  refine Ev.cond' ?_
  simp (maxSteps := 2000000) only [go_sem, Nat.reduceBEq, Nat.reduceLT, Nat.reduceAdd, Nat.reduceMul, Nat.reduceLeDiff, Nat.reduceEqDiff, decide_true, decide_false, reduceIte, and_true, true_and]
  refine Ev.skip ?_
  simp (maxSteps := 2000000) only [go_sem, Nat.reduceBEq, Nat.reduceLT, Nat.reduceAdd, Nat.reduceMul, Nat.reduceLeDiff, Nat.reduceEqDiff, decide_true, decide_false, reduceIte, and_true, true_and]
  refine Ev.seq rfl (Ev.reg' ?_)
  have oc : ∀ i, okC (.map i) = true := fun i => okC_cell (isCell_map i)
  have cc : ∀ i, (V.map i).cells = [.map i] := fun i => cells_cell (isCell_map i)
  simp (maxSteps := 2000000) only [go_sem, Nat.reduceBEq, Nat.reduceLT, Nat.reduceAdd, Nat.reduceMul, Nat.reduceLeDiff, Nat.reduceEqDiff, decide_true, decide_false, reduceIte, and_true, true_and, over, Nat.zero_le, Nat.le_refl, oc, cc]
  refine Ev.ret (Ret.tmp2 rfl ?_)
  simp (maxSteps := 2000000) only [go_sem, Nat.reduceBEq, Nat.reduceLT, Nat.reduceAdd, Nat.reduceMul, Nat.reduceLeDiff, Nat.reduceEqDiff, decide_true, decide_false, reduceIte, and_true, true_and]
theorem new_bs (lo : Nat) (L : List Ob) (h : lo ≤ L.length) : BS lo (L ++ [.map [], .cells (bc .nils L.length) 0 []]) (L.length + 1) L.length .nils [] none where
  hk := by rw [gxs]; rfl
  hm := by rw [gx0]; rfl
  ha := Own.nil ..
  no := nofun
  km := by omega
  lo_le := by simp; omega
end Bt

set_option linter.unusedVariables false
open Go Go.Vm Go.Proofs
namespace Bt
variable [Gl]
abbrev u8C (u : Nat) : List V := [.int .u8 (u : Int)]
/-- The store of the law: the empty builder, the literals, the values. -/
structure LI (M : List Ob) (v7 v8 : V) (xs : List Nat) (bs : List Bool) (o7 o8 : Option Nat) : Prop where
  hk : M[1]? = some (.cells (bc .nils 0) 0 [])
  hm : M[0]? = some (.map [])
  len : 2 ≤ M.length
  h7 : Own 2 M 1 v7 (xs.map litC) o7
  h8 : Own 2 M 1 v8 (bs.map boolC) o8
  ne : ∀ j, o7 = some j → o8 ≠ some j
section
variable {M : List Ob} {v7 v8 : V} {xs : List Nat} {bs : List Bool} {o7 o8 : Option Nat}
theorem LI.ext (h : LI M v7 v8 xs bs o7 o8) (X : List Ob) : LI (M ++ X) v7 v8 xs bs o7 o8 where
  hk := by rw [List.getElem?_append_left (by have := h.len; omega)]; exact h.hk
  hm := by rw [List.getElem?_append_left (by have := h.len; omega)]; exact h.hm
  len := by have := h.len; simp; omega
  h7 := h.h7.keep fun j hj => by subst hj; rw [List.getElem?_append_left h.h7.lt]
  h8 := h.h8.keep fun j hj => by subst hj; rw [List.getElem?_append_left h.h8.lt]
  ne := h.ne
theorem LI.toBS (h : LI M v7 v8 xs bs o7 o8) : BS 2 M 1 0 .nils [] none where
  hk := h.hk
  hm := h.hm
  ha := Own.nil ..
  no := nofun
  km := by omega
  lo_le := h.len
theorem LI.push7 (h : LI M v7 v8 xs bs o7 o8) (x : Nat) (hb : xs.length ≤ 1000) : ∃ u M', opAppend2 Tryz.prog 29 v7 (.ref 1 (idOf M.length) 0 1) (stL (M ++ [.cells (litC x) 0 []])) = some (u, stL M') ∧ ∃ o', LI M' u v8 (xs ++ [x]) bs o' o8 := by
  have g := h.ext [.cells (litC x) 0 []]
  obtain ⟨u, M3, hap, huc, hO3, hlen, hkp⟩ := g.h7.push (P := Tryz.prog) Tryz.underlying29 sz32 hz32 g.len (y := .ref 1 (idOf M.length) 0 1) (r := litC x) (by rw [rows_ref (c := litC x) (by rw [gx0]; rfl) (by simp)]; rfl) rfl (by rw [List.length_map]; omega)
  have hl := g.len
  refine ⟨u, M3, hap, _, { hk := ?_, hm := ?_, len := by omega, h7 := by rw [List.map_append]; exact hO3, h8 := ?_, ne := ?_ }⟩
  · rw [hkp 1 (fun e => by have := g.h7; rw [e] at this; have := this.ge; omega) (by omega)]; exact g.hk
  · rw [hkp 0 (fun e => by have := g.h7; rw [e] at this; have := this.ge; omega) (by omega)]; exact g.hm
  · refine g.h8.keep fun j hj => ?_
    subst hj
    exact hkp j (fun e => g.ne _ e rfl) g.h8.lt
  · intro j hj e
    injection hj with hj
    have := g.h8; rw [e] at this; have := this.lt; omega
theorem LI.push8 (h : LI M v7 v8 xs bs o7 o8) (b : Bool) (hb : bs.length ≤ 1000) : ∃ u M', opAppend2 Tryz.prog 30 v8 (.ref 1 (idOf M.length) 0 1) (stL (M ++ [.cells (boolC b) 0 []])) = some (u, stL M') ∧ ∃ o', LI M' v7 u xs (bs ++ [b]) o7 o' := by
  have g := h.ext [.cells (boolC b) 0 []]
  obtain ⟨u, M3, hap, huc, hO3, hlen, hkp⟩ := g.h8.push (P := Tryz.prog) Tryz.underlying30 sz4 hz4 g.len (y := .ref 1 (idOf M.length) 0 1) (r := boolC b) (by rw [rows_ref (c := boolC b) (by rw [gx0]; rfl) (by simp)]; rfl) rfl (by rw [List.length_map]; omega)
  have hl := g.len
  refine ⟨u, M3, hap, _, { hk := ?_, hm := ?_, len := by omega, h8 := by rw [List.map_append]; exact hO3, h7 := ?_, ne := ?_ }⟩
  · rw [hkp 1 (fun e => by have := g.h8; rw [e] at this; have := this.ge; omega) (by omega)]; exact g.hk
  · rw [hkp 0 (fun e => by have := g.h8; rw [e] at this; have := this.ge; omega) (by omega)]; exact g.hm
  · refine g.h7.keep fun j hj => ?_
    subst hj
    exact hkp j (fun e => g.ne _ rfl e) g.h7.lt
  · intro j hj e
    injection e with e
    have := g.h7; rw [hj] at this; have := this.lt; omega
end
def bitAt (x : Int) (j : Nat) : Bool := IntKind.u64.wrap ((BitVec.ofInt 64 (x.fdiv (2 ^ (min j 64))) &&& BitVec.ofInt 64 1).toNat : Int) == 1
theorem bit_run (x : Int) (j : Nat) : binV Tryz.prog .shr 22 (.int .u64 x) (.int .i64 (j : Int)) = some (.int .u64 (x.fdiv (2 ^ (min j 64)))) ∧ binV Tryz.prog .and 22 (.int .u64 (x.fdiv (2 ^ (min j 64)))) (.int .u64 1) = some (.int .u64 (IntKind.u64.wrap ((BitVec.ofInt 64 (x.fdiv (2 ^ (min j 64))) &&& BitVec.ofInt 64 1).toNat : Int))) := ⟨bin_shr .., bin_and ..⟩
theorem rem18 {e : TypeId} (u : Nat) : binV Tryz.prog .rem e (.int .u8 (u : Int)) (.int .u8 18) = some (.int .u8 ((u % 18 : Nat) : Int)) := by
  rw [bin_rem, if_neg (by decide)]
  congr 2
theorem conv5_32 {x : Nat} (h : x < 18) (S : St) : opConv Tryz.prog 5 32 (.int .u8 (x : Int)) S = some (.int .i64 (x : Int)) := by
  simp only [opConv, Tryz.underlying5, Tryz.underlying32]
  rw [IntWalk.i64_in _ (by omega)]
theorem quo2 {e : TypeId} {x : Nat} (h : x < 18) : binV Tryz.prog .quo e (.int .i64 (x : Int)) (.int .i64 2) = some (.int .i64 ((x / 2 : Nat) : Int)) := by
  rw [bin_quo, if_neg (by decide)]
  congr 2
  rw [show ((x : Int)).tdiv 2 = ((x / 2 : Nat) : Int) from rfl, IntWalk.i64_in _ (by omega)]
end Bt

set_option linter.unusedVariables false
open Go Go.Vm Go.Proofs
namespace Bt
variable [Gl]
/-- What is wanted. -/
def wantB (bs : List Bool) (us : List Nat) : Bool := us.any fun u => of (false :: bs) (u % 18)
def want (bs : List Bool) (us : List Nat) : Int := if wantB bs us then 1 else 0
theorem want_snoc (bs : List Bool) (us : List Nat) (u : Nat) : want bs (us ++ [u]) = if of (false :: bs) (u % 18) then 1 else want bs us := by
  unfold want wantB
  rw [List.any_append]
  simp only [List.any_cons, List.any_nil, Bool.or_false]
  cases of (false :: bs) (u % 18) <;> simp
theorem of_ge (bs : List Bool) {l z : Nat} (h : l / 2 = z + 1) (hz : z < bs.length) : of (false :: bs) l = !(bs[z] == (l % 2 == 1)) := by
  unfold of
  rw [h, List.getD_cons_succ, List.getD_eq_getElem?_getD, List.getElem?_eq_getElem hz]
  rfl
theorem li0 : LI [Ob.map [], Ob.cells (bc .nils 0) 0 [], Ob.cells [] 0 []] .nils (.ref 1 (idOf 2) 0 0) [] [] none (some 2) where
  hk := by simp only [List.getElem?_cons_succ, List.getElem?_cons_zero]
  hm := by simp only [List.getElem?_cons_succ, List.getElem?_cons_zero]
  len := by simp
  h7 := Own.nil ..
  h8 := by
    refine ⟨?_, [], ?_, ?_, Nat.le_refl 2, ?_⟩
    · intro r hr; simp at hr
    · simp
    · simp
    · intro a ha; simp at ha
  ne := by intro j hj; cases hj
set_option maxHeartbeats 800000 in
theorem law_kc (hA : KC Tryz.prog Sp 4 []) {x : Int} {vL : V} {us : List Nat} (hr : rows [] 1 vL = some (us.map u8C)) (hcl : clo vL = true) : KC Tryz.prog Sp 3 [.int .u64 x, vL] := by
  obtain ⟨n, hn⟩ : ∃ n, n = 4000 := ⟨_, rfl⟩
  refine kc_of mix Tryz.func3 rfl (by simp [Tryz.f3]) (cloL_of fun v hv => by simp only [List.mem_cons, List.not_mem_nil, or_false] at hv; rcases hv with rfl | rfl; rfl; exact hcl) n ?_
  obtain ⟨v4, hs4, _, c4⟩ := KC.call hA
  have e4 : v4 = .bool true := hs4
  subst e4
  have c4 : ∀ S, callS Tryz.prog Sp n 4 [] S = some (.bool true, S) := fun S => c4 n S
  have ll : lenOf vL = some us.length := by simpa using rows_len hr
  have fz : ∀ S : St, ∃ m v, frz false S.get m (.bool true) = some v ∧ Sp 3 [.int .u64 x, vL] v := fun S => ⟨1, .bool true, frz_bool' .., rfl⟩
  refine Ev.seq rfl (Ev.reg' ?_)
  simp (maxSteps := 2000000) only [go_sem, Nat.reduceBEq, Nat.reduceLT, Nat.reduceAdd, Nat.reduceMul, Nat.reduceLeDiff, Nat.reduceEqDiff, decide_true, decide_false, reduceIte, and_true, true_and]
  refine Ev.seq rfl (Ev.seq rfl (Ev.reg' ?_))
  by_cases h40 : (us.length : Int) > 40
  · simp (maxSteps := 2000000) only [go_sem, Nat.reduceBEq, Nat.reduceLT, Nat.reduceAdd, Nat.reduceMul, Nat.reduceLeDiff, Nat.reduceEqDiff, decide_true, decide_false, reduceIte, and_true, true_and, ll, h40]
    refine Ev.cond' ?_
    simp (maxSteps := 2000000) only [go_sem, Nat.reduceBEq, Nat.reduceLT, Nat.reduceAdd, Nat.reduceMul, Nat.reduceLeDiff, Nat.reduceEqDiff, decide_true, decide_false, reduceIte, and_true, true_and]
    refine Ev.seq rfl (Ev.reg' ?_)
    simp (maxSteps := 2000000) only [go_sem, Nat.reduceBEq, Nat.reduceLT, Nat.reduceAdd, Nat.reduceMul, Nat.reduceLeDiff, Nat.reduceEqDiff, decide_true, decide_false, reduceIte, and_true, true_and, c4]
    refine Ev.ret ?_
    simp (maxSteps := 2000000) only [go_sem, Nat.reduceBEq, Nat.reduceLT, Nat.reduceAdd, Nat.reduceMul, Nat.reduceLeDiff, Nat.reduceEqDiff, decide_true, decide_false, reduceIte, and_true, true_and]
    refine Ret.tmp rfl ?_
    simp (maxSteps := 2000000) only [go_sem, Nat.reduceBEq, Nat.reduceLT, Nat.reduceAdd, Nat.reduceMul, Nat.reduceLeDiff, Nat.reduceEqDiff, decide_true, decide_false, reduceIte, and_true, true_and]
    exact fz _
  have h40' : us.length ≤ 40 := by omega
  simp (maxSteps := 2000000) only [go_sem, Nat.reduceBEq, Nat.reduceLT, Nat.reduceAdd, Nat.reduceMul, Nat.reduceLeDiff, Nat.reduceEqDiff, decide_true, decide_false, reduceIte, and_true, true_and, ll, h40, c4, Bool.not_true]
  refine Ev.cond' ?_
  simp (maxSteps := 2000000) only [go_sem, Nat.reduceBEq, Nat.reduceLT, Nat.reduceAdd, Nat.reduceMul, Nat.reduceLeDiff, Nat.reduceEqDiff, decide_true, decide_false, reduceIte, and_true, true_and]
  refine Ev.skip ?_
  simp (maxSteps := 2000000) only [go_sem, Nat.reduceBEq, Nat.reduceLT, Nat.reduceAdd, Nat.reduceMul, Nat.reduceLeDiff, Nat.reduceEqDiff, decide_true, decide_false, reduceIte, and_true, true_and]
  have nw := new_run [] n (by omega)
  simp only [List.length_nil, Nat.zero_add, List.nil_append] at nw
  refine Ev.seq rfl (Ev.reg' ?_)
  simp (maxSteps := 2000000) only [go_sem, Nat.reduceBEq, Nat.reduceLT, Nat.reduceAdd, Nat.reduceMul, Nat.reduceLeDiff, Nat.reduceEqDiff, decide_true, decide_false, reduceIte, and_true, true_and, nw]
  refine Ev.seq rfl (Ev.seq rfl (Ev.reg' ?_))
  simp (maxSteps := 2000000) only [go_sem, Nat.reduceBEq, Nat.reduceLT, Nat.reduceAdd, Nat.reduceMul, Nat.reduceLeDiff, Nat.reduceEqDiff, decide_true, decide_false, reduceIte, and_true, true_and]
  refine Ev.cond' ?_
  simp (maxSteps := 2000000) only [go_sem, Nat.reduceBEq, Nat.reduceLT, Nat.reduceAdd, Nat.reduceMul, Nat.reduceLeDiff, Nat.reduceEqDiff, decide_true, decide_false, reduceIte, and_true, true_and]
  refine Ev.skip ?_
  simp (maxSteps := 2000000) only [go_sem, Nat.reduceBEq, Nat.reduceLT, Nat.reduceAdd, Nat.reduceMul, Nat.reduceLeDiff, Nat.reduceEqDiff, decide_true, decide_false, reduceIte, and_true, true_and]
  refine Ev.seq rfl (Ev.reg' ?_)
  simp (maxSteps := 2000000) only [go_sem, Nat.reduceBEq, Nat.reduceLT, Nat.reduceAdd, Nat.reduceMul, Nat.reduceLeDiff, Nat.reduceEqDiff, decide_true, decide_false, reduceIte, and_true, true_and]
  refine Ev.seq rfl (Ev.reg' ?_)
  simp (maxSteps := 2000000) only [go_sem, Nat.reduceBEq, Nat.reduceLT, Nat.reduceAdd, Nat.reduceMul, Nat.reduceLeDiff, Nat.reduceEqDiff, decide_true, decide_false, reduceIte, and_true, true_and]
  have hLI := li0
  generalize ([Ob.map [], Ob.cells (bc .nils 0) 0 [], Ob.cells [] 0 []] : List Ob) = M0 at hLI
  refine Ev.seq rfl (Ev.seq rfl (Ev.reg' ?_))
  simp (maxSteps := 2000000) only [go_sem, Nat.reduceBEq, Nat.reduceLT, Nat.reduceAdd, Nat.reduceMul, Nat.reduceLeDiff, Nat.reduceEqDiff, decide_true, decide_false, reduceIte, and_true, true_and]
  have h8 : (8 : Nat) < n := by omega
  refine Ev.block (Ev.loop (fun q t S => t 0 = .int .u64 x ∧ t 1 = vL ∧ t 5 = .ptr (idOf 1) 0 ∧ t 7 = .nils ∧ t 9 = .int .u8 0 ∧ ∃ M bs o8, S = stL M ∧ LI M .nils (t 8) [] bs none o8 ∧ ∃ j : Nat, t 10 = .int .i64 (j : Int) ∧ j + q = 8 ∧ bs.length = j) 8 h8 ?_ ?_)
  · simp (maxSteps := 2000000) only [go_sem, Nat.reduceBEq, Nat.reduceLT, Nat.reduceAdd, Nat.reduceMul, Nat.reduceLeDiff, Nat.reduceEqDiff, decide_true, decide_false, reduceIte, and_true, true_and]
    exact ⟨M0, [], _, rfl, hLI, 0, rfl, by omega, rfl⟩
  clear hLI nw
  clear M0
  intro q t S ⟨i0, i1, i5, i7, i9, M, bs, o8, iS, hL, j, i10, hjq, hbl⟩
  subst iS
  obtain ⟨v8, ev⟩ : ∃ v, v = t 8 := ⟨_, rfl⟩
  rw [← ev] at hL
  have i8 := ev.symm
  refine Ev.seq rfl (Ev.seq rfl (Ev.reg' ?_))
  simp (maxSteps := 2000000) only [go_sem, Nat.reduceBEq, Nat.reduceLT, Nat.reduceAdd, Nat.reduceMul, Nat.reduceLeDiff, Nat.reduceEqDiff, decide_true, decide_false, reduceIte, and_true, true_and, i10]
  refine Ev.cond' ?_
  simp (maxSteps := 2000000) only [go_sem, Nat.reduceBEq, Nat.reduceLT, Nat.reduceAdd, Nat.reduceMul, Nat.reduceLeDiff, Nat.reduceEqDiff, decide_true, decide_false, reduceIte, and_true, true_and]
  by_cases hj : (j : Int) < 8
  · simp only [hj, decide_true, wpC_true]
    refine Ev.skip ?_
    simp (maxSteps := 2000000) only [go_sem, Nat.reduceBEq, Nat.reduceLT, Nat.reduceAdd, Nat.reduceMul, Nat.reduceLeDiff, Nat.reduceEqDiff, decide_true, decide_false, reduceIte, and_true, true_and]
    obtain ⟨b1, b2⟩ := bit_run x j
    obtain ⟨u, M', hap, o', hL'⟩ := hL.push8 (bitAt x j) (by omega)
    simp only [bitAt] at hap
    refine Ev.seq rfl (Ev.block (Ev.reg' ?_))
    simp (maxSteps := 2000000) only [go_sem, Nat.reduceBEq, Nat.reduceLT, Nat.reduceAdd, Nat.reduceMul, Nat.reduceLeDiff, Nat.reduceEqDiff, decide_true, decide_false, reduceIte, and_true, true_and, i8, i0, i10, b1, b2, hap, over, Nat.zero_le, Nat.le_refl]
    refine Ev.reg' ?_
    simp (maxSteps := 2000000) only [go_sem, Nat.reduceBEq, Nat.reduceLT, Nat.reduceAdd, Nat.reduceMul, Nat.reduceLeDiff, Nat.reduceEqDiff, decide_true, decide_false, reduceIte, and_true, true_and, i10]
    exact ⟨q - 1, by omega, i0, i1, i5, i7, i9, M', _, o', rfl, hL', j + 1, by rw [IntWalk.i64_in _ (by omega)]; rfl, by omega, by simp [hbl]⟩
  simp only [hj, decide_false, wpC_false]
  refine Ev.exit ?_
  simp (maxSteps := 2000000) only [go_sem, Nat.reduceBEq, Nat.reduceLT, Nat.reduceAdd, Nat.reduceMul, Nat.reduceLeDiff, Nat.reduceEqDiff, decide_true, decide_false, reduceIte, and_true, true_and]
  have hb8 : bs.length = 8 := by omega
  refine Ev.seq rfl (Ev.seq rfl (Ev.reg' ?_))
  simp (maxSteps := 2000000) only [go_sem, Nat.reduceBEq, Nat.reduceLT, Nat.reduceAdd, Nat.reduceMul, Nat.reduceLeDiff, Nat.reduceEqDiff, decide_true, decide_false, reduceIte, and_true, true_and, i1, ll]
  have hun : us.length < n := by omega
  refine Ev.block (Ev.loop (fun q t S => t 5 = .ptr (idOf 1) 0 ∧ t 8 = v8 ∧ t 41 = vL ∧ t 42 = .int .i64 (us.length : Int) ∧ ∃ M o7, S = stL M ∧ ∃ j : Nat, t 43 = .int .i64 (j : Int) ∧ j + q = us.length ∧ t 9 = .int .u8 (want bs (us.take j)) ∧ LI M (t 7) v8 ((us.take j).map (· % 18)) bs o7 o8) us.length hun ?_ ?_)
  · simp (maxSteps := 2000000) only [go_sem, Nat.reduceBEq, Nat.reduceLT, Nat.reduceAdd, Nat.reduceMul, Nat.reduceLeDiff, Nat.reduceEqDiff, decide_true, decide_false, reduceIte, and_true, true_and]
    exact ⟨i5, i8, M, none, rfl, 0, rfl, by omega, i9, by rw [i7]; exact hL⟩
  clear hL i9 i7 i5 i1 i0 i8 ev hbl hjq i10 hj j M
  intro q t S ⟨i5, i8, i41, i42, M, o7, iS, j, i43, hjq, i9, hL⟩
  subst iS
  obtain ⟨v7, ev⟩ : ∃ v, v = t 7 := ⟨_, rfl⟩
  rw [← ev] at hL
  have i7 := ev.symm
  refine Ev.seq rfl (Ev.reg' ?_)
  simp (maxSteps := 2000000) only [go_sem, Nat.reduceBEq, Nat.reduceLT, Nat.reduceAdd, Nat.reduceMul, Nat.reduceLeDiff, Nat.reduceEqDiff, decide_true, decide_false, reduceIte, and_true, true_and, i42, i43]
  refine Ev.seq rfl (Ev.cond' ?_)
  simp (maxSteps := 2000000) only [go_sem, Nat.reduceBEq, Nat.reduceLT, Nat.reduceAdd, Nat.reduceMul, Nat.reduceLeDiff, Nat.reduceEqDiff, decide_true, decide_false, reduceIte, and_true, true_and]
  by_cases hj : (j : Int) < (us.length : Int)
  · have hj' : j < us.length := by exact_mod_cast hj
    have hxj : us[j]? = some us[j] := List.getElem?_eq_getElem hj'
    obtain ⟨l, el⟩ : ∃ l, l = us[j] % 18 := ⟨_, rfl⟩
    have hl18 : l < 18 := by omega
    obtain ⟨a, ra, ha1, ha2⟩ := rows_idx (rows_app (g := M) hr) (r := u8C us[j]) (j := j) (by rw [List.getElem?_map, hxj]; rfl) .i64
    rw [List.nil_append] at ha2
    obtain ⟨u, M', hap, o', hL'⟩ := hL.push7 l (by simp; omega)
    have est : (us.take (j + 1)).map (· % 18) = (us.take j).map (· % 18) ++ [l] := by
      rw [List.take_add_one, hxj]; simp only [Option.toList, List.map_append, List.map_cons, List.map_nil, ← el]
    rw [← est] at hL'
    have ewt : want bs (us.take (j + 1)) = if of (false :: bs) l then 1 else want bs (us.take j) := by
      rw [List.take_add_one, hxj]
      simp only [Option.toList, want_snoc, ← el]
    have rm := rem18 (e := 5) us[j]
    rw [← el] at rm
    simp only [hj, decide_true, wpC_true]
    refine Ev.skip ?_
    simp (maxSteps := 2000000) only [go_sem, Nat.reduceBEq, Nat.reduceLT, Nat.reduceAdd, Nat.reduceMul, Nat.reduceLeDiff, Nat.reduceEqDiff, decide_true, decide_false, reduceIte, and_true, true_and]
    refine Ev.seq rfl (Ev.block (Ev.seq rfl (Ev.reg' ?_)))
    simp (maxSteps := 2000000) only [go_sem, Nat.reduceBEq, Nat.reduceLT, Nat.reduceAdd, Nat.reduceMul, Nat.reduceLeDiff, Nat.reduceEqDiff, decide_true, decide_false, reduceIte, and_true, true_and, i41, i43, ha1, ha2]
    refine Ev.seq rfl (Ev.reg' ?_)
    simp (maxSteps := 2000000) only [go_sem, Nat.reduceBEq, Nat.reduceLT, Nat.reduceAdd, Nat.reduceMul, Nat.reduceLeDiff, Nat.reduceEqDiff, decide_true, decide_false, reduceIte, and_true, true_and, rm, conv5_32 hl18]
    refine Ev.seq rfl (Ev.reg' ?_)
    simp (maxSteps := 2000000) only [go_sem, Nat.reduceBEq, Nat.reduceLT, Nat.reduceAdd, Nat.reduceMul, Nat.reduceLeDiff, Nat.reduceEqDiff, decide_true, decide_false, reduceIte, and_true, true_and, i7, hap, over, Nat.zero_le, Nat.le_refl]
    refine Ev.seq rfl (Ev.reg' ?_)
    have q1 : ((l : Int) == 1) = decide (l = 1) := ieq l 1
    by_cases l2 : (l : Int) > 1
    · have l2' : 1 < l := by omega
      have q2 : (((l % 2 : Nat) : Int) == 1) = (l % 2 == 1) := by rw [show (1 : Int) = ((1 : Nat) : Int) from rfl, ieq]; rfl
      have ql : decide (l = 1) = false := decide_eq_false (by omega)
      have w1 : IntKind.i64.wrap (((l / 2 : Nat) : Int) - 1) = ((l / 2 - 1 : Nat) : Int) := by rw [IntWalk.i64_in _ (by omega)]; omega
      have hlb : l / 2 - 1 < bs.length := by omega
      obtain ⟨a2, ra2, hb1, hb2⟩ := rows_idx (hL'.h8.rows) (r := boolC bs[l / 2 - 1]) (j := l / 2 - 1) (by rw [List.getElem?_map, List.getElem?_eq_getElem hlb]; rfl) .i64
      have hof := of_ge bs (l := l) (z := l / 2 - 1) (by omega) hlb
      cases hv : (bs[l / 2 - 1] == (l % 2 == 1))
      · rw [hv] at hof
        have hof : of (false :: bs) l = true := hof
        simp (maxSteps := 2000000) only [go_sem, Nat.reduceBEq, Nat.reduceLT, Nat.reduceAdd, Nat.reduceMul, Nat.reduceLeDiff, Nat.reduceEqDiff, decide_true, decide_false, reduceIte, and_true, true_and, l2, i8, quo2 hl18, w1, hb1, hb2, rem2, q2, hv, Bool.not_false]
        refine Ev.cond' ?_
        simp (maxSteps := 2000000) only [go_sem, Nat.reduceBEq, Nat.reduceLT, Nat.reduceAdd, Nat.reduceMul, Nat.reduceLeDiff, Nat.reduceEqDiff, decide_true, decide_false, reduceIte, and_true, true_and]
        refine Ev.reg' ?_
        simp (maxSteps := 2000000) only [go_sem, Nat.reduceBEq, Nat.reduceLT, Nat.reduceAdd, Nat.reduceMul, Nat.reduceLeDiff, Nat.reduceEqDiff, decide_true, decide_false, reduceIte, and_true, true_and]
        refine Ev.reg' ?_
        simp (maxSteps := 2000000) only [go_sem, Nat.reduceBEq, Nat.reduceLT, Nat.reduceAdd, Nat.reduceMul, Nat.reduceLeDiff, Nat.reduceEqDiff, decide_true, decide_false, reduceIte, and_true, true_and, i43]
        refine ⟨q - 1, by omega, i5, i8, i41, i42, M', o', rfl, j + 1, by rw [IntWalk.i64_in _ (by omega)]; rfl, by omega, ?_, hL'⟩
        rw [ewt, hof]
        rfl

      · rw [hv] at hof
        have hof : of (false :: bs) l = false := hof
        simp (maxSteps := 2000000) only [go_sem, Nat.reduceBEq, Nat.reduceLT, Nat.reduceAdd, Nat.reduceMul, Nat.reduceLeDiff, Nat.reduceEqDiff, decide_true, decide_false, reduceIte, and_true, true_and, l2, i8, quo2 hl18, w1, hb1, hb2, rem2, q2, hv, Bool.not_true, q1, ql]
        refine Ev.cond' ?_
        simp (maxSteps := 2000000) only [go_sem, Nat.reduceBEq, Nat.reduceLT, Nat.reduceAdd, Nat.reduceMul, Nat.reduceLeDiff, Nat.reduceEqDiff, decide_true, decide_false, reduceIte, and_true, true_and]
        refine Ev.skip ?_
        simp (maxSteps := 2000000) only [go_sem, Nat.reduceBEq, Nat.reduceLT, Nat.reduceAdd, Nat.reduceMul, Nat.reduceLeDiff, Nat.reduceEqDiff, decide_true, decide_false, reduceIte, and_true, true_and]
        refine Ev.reg' ?_
        simp (maxSteps := 2000000) only [go_sem, Nat.reduceBEq, Nat.reduceLT, Nat.reduceAdd, Nat.reduceMul, Nat.reduceLeDiff, Nat.reduceEqDiff, decide_true, decide_false, reduceIte, and_true, true_and, i43]
        refine ⟨q - 1, by omega, i5, i8, i41, i42, M', o', rfl, j + 1, by rw [IntWalk.i64_in _ (by omega)]; rfl, by omega, ?_, hL'⟩
        rw [ewt, hof]
        exact i9

    · by_cases l1 : l = 1
      · have hof : of (false :: bs) l = true := by rw [l1]; rfl
        have ql : decide (l = 1) = true := decide_eq_true l1
        simp (maxSteps := 2000000) only [go_sem, Nat.reduceBEq, Nat.reduceLT, Nat.reduceAdd, Nat.reduceMul, Nat.reduceLeDiff, Nat.reduceEqDiff, decide_true, decide_false, reduceIte, and_true, true_and, l2, q1, ql]
        refine Ev.cond' ?_
        simp (maxSteps := 2000000) only [go_sem, Nat.reduceBEq, Nat.reduceLT, Nat.reduceAdd, Nat.reduceMul, Nat.reduceLeDiff, Nat.reduceEqDiff, decide_true, decide_false, reduceIte, and_true, true_and]
        refine Ev.reg' ?_
        simp (maxSteps := 2000000) only [go_sem, Nat.reduceBEq, Nat.reduceLT, Nat.reduceAdd, Nat.reduceMul, Nat.reduceLeDiff, Nat.reduceEqDiff, decide_true, decide_false, reduceIte, and_true, true_and]
        refine Ev.reg' ?_
        simp (maxSteps := 2000000) only [go_sem, Nat.reduceBEq, Nat.reduceLT, Nat.reduceAdd, Nat.reduceMul, Nat.reduceLeDiff, Nat.reduceEqDiff, decide_true, decide_false, reduceIte, and_true, true_and, i43]
        refine ⟨q - 1, by omega, i5, i8, i41, i42, M', o', rfl, j + 1, by rw [IntWalk.i64_in _ (by omega)]; rfl, by omega, ?_, hL'⟩
        rw [ewt, hof]
        rfl

      · have hof : of (false :: bs) l = false := by rw [show l = 0 by omega]; rfl
        have ql : decide (l = 1) = false := decide_eq_false l1
        simp (maxSteps := 2000000) only [go_sem, Nat.reduceBEq, Nat.reduceLT, Nat.reduceAdd, Nat.reduceMul, Nat.reduceLeDiff, Nat.reduceEqDiff, decide_true, decide_false, reduceIte, and_true, true_and, l2, q1, ql]
        refine Ev.cond' ?_
        simp (maxSteps := 2000000) only [go_sem, Nat.reduceBEq, Nat.reduceLT, Nat.reduceAdd, Nat.reduceMul, Nat.reduceLeDiff, Nat.reduceEqDiff, decide_true, decide_false, reduceIte, and_true, true_and]
        refine Ev.skip ?_
        simp (maxSteps := 2000000) only [go_sem, Nat.reduceBEq, Nat.reduceLT, Nat.reduceAdd, Nat.reduceMul, Nat.reduceLeDiff, Nat.reduceEqDiff, decide_true, decide_false, reduceIte, and_true, true_and]
        refine Ev.reg' ?_
        simp (maxSteps := 2000000) only [go_sem, Nat.reduceBEq, Nat.reduceLT, Nat.reduceAdd, Nat.reduceMul, Nat.reduceLeDiff, Nat.reduceEqDiff, decide_true, decide_false, reduceIte, and_true, true_and, i43]
        refine ⟨q - 1, by omega, i5, i8, i41, i42, M', o', rfl, j + 1, by rw [IntWalk.i64_in _ (by omega)]; rfl, by omega, ?_, hL'⟩
        rw [ewt, hof]
        exact i9

  simp only [hj, decide_false, wpC_false]
  refine Ev.exit ?_
  simp (maxSteps := 2000000) only [go_sem, Nat.reduceBEq, Nat.reduceLT, Nat.reduceAdd, Nat.reduceMul, Nat.reduceLeDiff, Nat.reduceEqDiff, decide_true, decide_false, reduceIte, and_true, true_and]
  have hje : us.take j = us := List.take_of_length_le (by omega)
  rw [hje] at i9 hL
  obtain ⟨xs, exs⟩ : ∃ xs, xs = us.map (· % 18) := ⟨_, rfl⟩
  rw [← exs] at hL
  have hxs : ∀ x ∈ xs, x < 18 := by
    intro x hx
    rw [exs] at hx
    obtain ⟨u, _, rfl⟩ := List.mem_map.1 hx
    exact Nat.mod_lt _ (by decide)
  have hxl : xs.length ≤ 40 := by rw [exs, List.length_map]; exact h40'
  have nn : ∀ (o : Option Nat) (v : V) (rs : List (List V)), Own 2 M 1 v rs o → ∀ j, o = some j → j ≠ 1 ∧ j ≠ 0 ∧ (none : Option Nat) ≠ some j := by
    intro o v rs h j e
    subst e
    have := h.ge
    exact ⟨by omega, by omega, nofun⟩
  obtain ⟨L', va', ob, et, hB, hK⟩ := truth_run hL.toBS hxs hxl hL.h7 (nn _ _ _ hL.h7) n (by omega)
  obtain ⟨O8, _⟩ := hK.own hL.h8 (nn _ _ _ hL.h8)
  have hv9 : (false :: bs).length = 9 := by simp [hb8]
  obtain ⟨f1, f2, f3, f4⟩ := foldS_ok (v := false :: bs) hv9 rfl xs [] 0 trivial (by simp) hxs
  have fa : of (vals (false :: bs) (foldS [] 0 xs).2) (foldS [] 0 xs).1 = wantB bs us := by
    rw [f1]
    have : of (vals (false :: bs) []) 0 = false := rfl
    rw [this, Bool.false_or, exs, List.any_map]
    rfl
  generalize (foldS [] 0 xs).1 = fx at et f3 fa
  generalize (foldS [] 0 xs).2 = fA at hB f2 f3 f4 fa
  have rA : rows (L' ++ [.cells (litC fx) 0 [], .cells [.int .u8 (want bs us)] 0 []]) 1 (.ref 1 (idOf L'.length) 0 1) = some [litC fx] := by rw [rows_ref (c := litC fx) (by rw [gx0]; rfl) (by simp)]; rfl
  have rW : rows (L' ++ [.cells (litC fx) 0 [], .cells [.int .u8 (want bs us)] 0 []]) 1 (.ref 1 (idOf (L'.length + 1)) 0 1) = some [[.int .u8 (want bs us)]] := by rw [rows_ref (c := [.int .u8 (want bs us)]) (by rw [gxs]; rfl) (by simp)]; rfl
  obtain ⟨g, eh⟩ := hasl_run (hB.ext [.cells (litC fx) 0 [], .cells [.int .u8 (want bs us)] 0 []]) f2 (by simp at f4; omega) rA (by omega) hb8 (rows_app O8.rows) rW (by unfold want; rw [fa]) n (by omega)
  refine Ev.seq rfl (Ev.reg' ?_)
  simp (maxSteps := 2000000) only [go_sem, Nat.reduceBEq, Nat.reduceLT, Nat.reduceAdd, Nat.reduceMul, Nat.reduceLeDiff, Nat.reduceEqDiff, decide_true, decide_false, reduceIte, and_true, true_and, i5, i7, i8, i9, et, over, Nat.zero_le, Nat.le_refl, eh]
  refine Ev.ret (Ret.tmp rfl ?_)
  simp (maxSteps := 2000000) only [go_sem, Nat.reduceBEq, Nat.reduceLT, Nat.reduceAdd, Nat.reduceMul, Nat.reduceLeDiff, Nat.reduceEqDiff, decide_true, decide_false, reduceIte, and_true, true_and]
  exact fz _
end Bt

set_option linter.unusedVariables false
open Go Go.Vm Go.Proofs
namespace Bt
variable [Gl] {H : Type}
theorem cc5 : Tryz.prog.cellsOf 5 = 1 := by kernel_rfl
def tys : List TypeId := [5, 22, 23]
theorem tys_ok : ∀ t ∈ tys, tyOf1 Tryz.prog tys t = true := by
  have h : (tys.all fun t => tyOf1 Tryz.prog tys t) = true := by kernel_rfl
  exact List.all_eq_true.1 h
theorem u8_nat {i : Int} (h : (Lit.int .u8 i).wf = true) : 0 ≤ i := by
  simp only [Lit.wf, Bool.and_eq_true, decide_eq_true_eq] at h
  have h1 : IntKind.u8.min = 0 := rfl
  omega
theorem a22 {n : Nat} {d : DataW H} {c : List V} (h : ArgN Tryz.prog n 22 d c) : ∃ i, c = [.int .u64 i] := by
  cases n with
  | zero => exact h.elim
  | succ n => simp only [ArgN, Tryz.underlying22] at h; obtain ⟨b, _, h, _⟩ := h; exact ⟨_, h⟩
theorem a5 {n : Nat} {d : DataW H} {c : List V} (h : ArgN Tryz.prog n 5 d c) : ∃ i : Nat, c = u8C i := by
  cases n with
  | zero => exact h.elim
  | succ n =>
    simp only [ArgN, Tryz.underlying5] at h
    obtain ⟨b, _, h, hw⟩ := h
    exact ⟨b.toNat, by rw [u8C, Int.toNat_of_nonneg (u8_nat hw)]; exact h⟩
theorem u8_clo (us : List Nat) : ∀ r ∈ us.map u8C, cloL r = true := by
  intro r hr
  obtain ⟨b, _, rfl⟩ := List.mem_map.1 hr
  rfl
theorem a23 {n : Nat} {d : DataW H} {c : List V} (h : ArgN Tryz.prog n 23 d c) : ∃ v, ∃ us : List Nat, c = [v] ∧ rows [] 1 v = some (us.map u8C) ∧ clo v = true := by
  cases n with
  | zero => exact h.elim
  | succ n =>
    simp only [ArgN, Tryz.underlying23, cc5] at h
    rcases h with ⟨_, rfl⟩ | ⟨ds, sp, rs, _, rfl, _, h⟩
    · exact ⟨_, [], rfl, rfl, rfl⟩
    · have : ∃ us : List Nat, rs = us.map u8C := by
        obtain ⟨z, hz⟩ := All2.lift (Q := fun b r => r = u8C b) (fun d r hr => a5 hr.2) h
        exact ⟨z, hz.map_eq⟩
      obtain ⟨us, rfl⟩ := this
      exact ⟨_, us, rfl, rows_imm_agg .., clo_imm_agg (u8_clo us)⟩
end Bt

