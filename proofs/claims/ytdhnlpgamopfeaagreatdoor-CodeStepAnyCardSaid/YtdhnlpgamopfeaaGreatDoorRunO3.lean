/- A run under the evaluator, part 3: no statement of its own. -/
import Derived.Test.YtdhnlpgamopfeaaGreatDoorVm6
import Derived.Test.YtdhnlpgamopfeaaGreatDoorRunO2
set_option autoImplicit false
set_option maxRecDepth 100000
set_option linter.unusedSectionVars false
set_option linter.unusedVariables false
set_option linter.unusedSimpArgs false
set_option linter.unusedVariables false
open Go Go.Vm Go.Proofs
namespace Cs
variable [Gl]
theorem mapq {l g h : List Ob} {a b c d e f : Ob} : l ++ a :: b :: c :: d :: e :: f :: (g ++ h) = (l ++ a :: b :: c :: d :: e :: f :: g) ++ h := by simp
theorem rstep5 {l : List Ob} {n : Nat} {vs vc : V} {A1 A2 : Ob} {T : Th} {slot to : Int} {t : Tm} {R : V → St → Prop} (h0 : RdT (.agg [.int .i64 0, vs, vc]) T) (hS : Small T) (hp : T.pc = 0) (hs : 0 ≤ slot ∧ slot ≤ 4096) (hn : 7000 ≤ n)
    (i5 : t 5 = .ptr (idOf l.length) 0) (i8 : t 8 = .ptr (idOf (l.length + 3)) 0) (i9 : t 9 = .ptr (idOf (l.length + 4)) 0) (i11 : t 11 = .ptr (idOf (l.length + 5)) 0)
    (hR : ∀ (g : List Ob) (u : V), LvT l g (stepS 5 slot to T).1 u → R (.tup [u, effV (stepS 5 slot to T).2.1, .int .i64 0]) (stL (l ++ g))) :
    Ev Tryz.prog Tryz.f8.ntmps n (callS Tryz.prog Sp n) (sndC (sndC (sndC (sndC (bodyC Tryz.f8))))) t (stL (l ++ [.cells [.int .i64 0, vs, vc] 0 [], A1, A2, .cells zT 0 [], .cells zE 0 [], .cells (insC 5 slot to) 0 []])) (Ret Tryz.prog Tryz.f8 R) := by
  obtain ⟨u, g, hc, us, uc, rs, os, oc, rfl, huc, hvc, hO1, hA, hO2, ho1, ho2, hne⟩ := rcopy_run (l := l ++ [.cells [.int .i64 0, vs, vc] 0 [], A1, A2, .cells zT 0 [], .cells zE 0 [], .cells (insC 5 slot to) 0 []]) (k := (-1)) h0 hS (by omega) n (by omega)
  have hpc : (pad (-1) T).pc = 0 := hp
  rw [hpc] at hc
  have hw1 : IntKind.i64.wrap (0 + 1) = 1 := rfl
  simp only [List.append_assoc, List.cons_append, List.nil_append, insC] at hc hO1 hO2
  refine Ev.seq rfl (Ev.reg' ?_)
  simp (maxSteps := 2000000) only [go_sem, Nat.reduceBEq, Nat.reduceLT, Nat.reduceAdd, Nat.reduceMul, Nat.reduceLeDiff, Nat.reduceEqDiff, decide_true, decide_false, reduceIte, and_true, true_and, insC]
  refine Ev.seq rfl (Ev.seq rfl (Ev.reg' ?_))
  simp (maxSteps := 2000000) only [go_sem, Nat.reduceBEq, Nat.reduceLT, Nat.reduceAdd, Nat.reduceMul, Nat.reduceLeDiff, Nat.reduceEqDiff, decide_true, decide_false, reduceIte, and_true, true_and, Int.reduceBEq, i11]
  refine Ev.cond' ?_
  simp (maxSteps := 2000000) only [go_sem, Nat.reduceBEq, Nat.reduceLT, Nat.reduceAdd, Nat.reduceMul, Nat.reduceLeDiff, Nat.reduceEqDiff, decide_true, decide_false, reduceIte, and_true, true_and]
  refine Ev.skip ?_
  simp (maxSteps := 2000000) only [go_sem, Nat.reduceBEq, Nat.reduceLT, Nat.reduceAdd, Nat.reduceMul, Nat.reduceLeDiff, Nat.reduceEqDiff, decide_true, decide_false, reduceIte, and_true, true_and]
  refine Ev.seq rfl (Ev.reg' ?_)
  simp (maxSteps := 2000000) only [go_sem, Nat.reduceBEq, Nat.reduceLT, Nat.reduceAdd, Nat.reduceMul, Nat.reduceLeDiff, Nat.reduceEqDiff, decide_true, decide_false, reduceIte, and_true, true_and, hc, i5, i11, over_all, Nat.zero_le, Nat.le_refl]
  refine Ev.seq rfl (Ev.reg' ?_)
  simp (maxSteps := 2000000) only [go_sem, Nat.reduceBEq, Nat.reduceLT, Nat.reduceAdd, Nat.reduceMul, Nat.reduceLeDiff, Nat.reduceEqDiff, decide_true, decide_false, reduceIte, and_true, true_and, hw1, i5, over, Nat.zero_le, Nat.le_refl]
  refine Ev.seq rfl (Ev.reg' ?_)
  simp (maxSteps := 2000000) only [go_sem, Nat.reduceBEq, Nat.reduceLT, Nat.reduceAdd, Nat.reduceMul, Nat.reduceLeDiff, Nat.reduceEqDiff, decide_true, decide_false, reduceIte, and_true, true_and, over, Nat.zero_le, Nat.le_refl]
  refine Ev.seq rfl (Ev.reg' ?_)
  simp (maxSteps := 2000000) only [go_sem, Nat.reduceBEq, Nat.reduceLT, Nat.reduceAdd, Nat.reduceMul, Nat.reduceLeDiff, Nat.reduceEqDiff, decide_true, decide_false, reduceIte, and_true, true_and]
  refine Ev.seq rfl (Ev.reg' ?_)
  simp (maxSteps := 2000000) only [go_sem, Nat.reduceBEq, Nat.reduceLT, Nat.reduceAdd, Nat.reduceMul, Nat.reduceLeDiff, Nat.reduceEqDiff, decide_true, decide_false, reduceIte, and_true, true_and]
  refine Ev.seq rfl (Ev.seq rfl (Ev.reg' ?_))
  simp (maxSteps := 2000000) only [go_sem, Nat.reduceBEq, Nat.reduceLT, Nat.reduceAdd, Nat.reduceMul, Nat.reduceLeDiff, Nat.reduceEqDiff, decide_true, decide_false, reduceIte, and_true, true_and, Int.reduceBEq, i11]
  refine Ev.cond' ?_
  simp (maxSteps := 2000000) only [go_sem, Nat.reduceBEq, Nat.reduceLT, Nat.reduceAdd, Nat.reduceMul, Nat.reduceLeDiff, Nat.reduceEqDiff, decide_true, decide_false, reduceIte, and_true, true_and]
  refine Ev.skip ?_
  simp (maxSteps := 2000000) only [go_sem, Nat.reduceBEq, Nat.reduceLT, Nat.reduceAdd, Nat.reduceMul, Nat.reduceLeDiff, Nat.reduceEqDiff, decide_true, decide_false, reduceIte, and_true, true_and]
  refine Ev.seq rfl (Ev.seq rfl (Ev.reg' ?_))
  simp (maxSteps := 2000000) only [go_sem, Nat.reduceBEq, Nat.reduceLT, Nat.reduceAdd, Nat.reduceMul, Nat.reduceLeDiff, Nat.reduceEqDiff, decide_true, decide_false, reduceIte, and_true, true_and, Int.reduceBEq, i11]
  refine Ev.cond' ?_
  simp (maxSteps := 2000000) only [go_sem, Nat.reduceBEq, Nat.reduceLT, Nat.reduceAdd, Nat.reduceMul, Nat.reduceLeDiff, Nat.reduceEqDiff, decide_true, decide_false, reduceIte, and_true, true_and]
  refine Ev.skip ?_
  simp (maxSteps := 2000000) only [go_sem, Nat.reduceBEq, Nat.reduceLT, Nat.reduceAdd, Nat.reduceMul, Nat.reduceLeDiff, Nat.reduceEqDiff, decide_true, decide_false, reduceIte, and_true, true_and]
  refine Ev.seq rfl (Ev.seq rfl (Ev.reg' ?_))
  simp (maxSteps := 2000000) only [go_sem, Nat.reduceBEq, Nat.reduceLT, Nat.reduceAdd, Nat.reduceMul, Nat.reduceLeDiff, Nat.reduceEqDiff, decide_true, decide_false, reduceIte, and_true, true_and, Int.reduceBEq, i11]
  refine Ev.cond' ?_
  simp (maxSteps := 2000000) only [go_sem, Nat.reduceBEq, Nat.reduceLT, Nat.reduceAdd, Nat.reduceMul, Nat.reduceLeDiff, Nat.reduceEqDiff, decide_true, decide_false, reduceIte, and_true, true_and]
  refine Ev.skip ?_
  simp (maxSteps := 2000000) only [go_sem, Nat.reduceBEq, Nat.reduceLT, Nat.reduceAdd, Nat.reduceMul, Nat.reduceLeDiff, Nat.reduceEqDiff, decide_true, decide_false, reduceIte, and_true, true_and]
  refine Ev.seq rfl (Ev.seq rfl (Ev.reg' ?_))
  simp (maxSteps := 2000000) only [go_sem, Nat.reduceBEq, Nat.reduceLT, Nat.reduceAdd, Nat.reduceMul, Nat.reduceLeDiff, Nat.reduceEqDiff, decide_true, decide_false, reduceIte, and_true, true_and, Int.reduceBEq, i11]
  refine Ev.block ?_
  iterate 3 (refine Ev.seq rfl (Ev.reg' ?_); simp (maxSteps := 2000000) only [go_sem, Nat.reduceBEq, Nat.reduceLT, Nat.reduceAdd, Nat.reduceMul, Nat.reduceLeDiff, Nat.reduceEqDiff, decide_true, decide_false, reduceIte, and_true, true_and, Int.reduceBEq]; refine Ev.cond' ?_; simp (maxSteps := 2000000) only [go_sem, Nat.reduceBEq, Nat.reduceLT, Nat.reduceAdd, Nat.reduceMul, Nat.reduceLeDiff, Nat.reduceEqDiff, decide_true, decide_false, reduceIte, and_true, true_and])
  refine Ev.reg' ?_
  simp (maxSteps := 2000000) only [go_sem, Nat.reduceBEq, Nat.reduceLT, Nat.reduceAdd, Nat.reduceMul, Nat.reduceLeDiff, Nat.reduceEqDiff, decide_true, decide_false, reduceIte, and_true, true_and, i5, i11, over, Nat.zero_le, Nat.le_refl]

  have hst : stepS 5 slot to T = (⟨to, (pad (-1) T).slots, (pad (-1) T).counts⟩, 1, 0) := by
    unfold stepS
    rw [if_neg (by omega), if_neg (by omega)]
    rfl
  rw [hst] at hR
  simp only at hR
  refine rfin (l := l) (i13 := l.length + (g.length + 1 + 1 + 1 + 1 + 1 + 1)) (i14 := l.length + (g.length + 1 + 1 + 1 + 1 + 1 + 1 + 1)) (pc := to) (us := us) (uc := uc) (rs := rs) (cs := (pad (-1) T).counts.map cntC) (os := os) (oc := oc) (e := [.int .u8 1, .int .i64 0, .nils, .nils, .bool false, .nils, .nils, .str [], .str [], .nils]) ?_ ?_ ?_ ?_ ?_ ?_ ?_ ?_ ?_ rfl (by omega) (by omega) (fun i hi => by rw [List.getElem?_append_left hi]) ?_ ?_ ?_
  · simp (maxSteps := 2000000) only [go_sem, Nat.reduceBEq, Nat.reduceLT, Nat.reduceAdd, Nat.reduceMul, Nat.reduceLeDiff, Nat.reduceEqDiff, decide_true, decide_false, reduceIte, and_true, true_and, i8]
  · simp (maxSteps := 2000000) only [go_sem, Nat.reduceBEq, Nat.reduceLT, Nat.reduceAdd, Nat.reduceMul, Nat.reduceLeDiff, Nat.reduceEqDiff, decide_true, decide_false, reduceIte, and_true, true_and, i9]
  · simp (maxSteps := 2000000) only [go_sem, Nat.reduceBEq, Nat.reduceLT, Nat.reduceAdd, Nat.reduceMul, Nat.reduceLeDiff, Nat.reduceEqDiff, decide_true, decide_false, reduceIte, and_true, true_and]
  · simp (maxSteps := 2000000) only [go_sem, Nat.reduceBEq, Nat.reduceLT, Nat.reduceAdd, Nat.reduceMul, Nat.reduceLeDiff, Nat.reduceEqDiff, decide_true, decide_false, reduceIte, and_true, true_and]
  · simp (maxSteps := 2000000) only [go_sem, Nat.reduceBEq, Nat.reduceLT, Nat.reduceAdd, Nat.reduceMul, Nat.reduceLeDiff, Nat.reduceEqDiff, decide_true, decide_false, reduceIte, and_true, true_and]
  · rw [gxs]; rfl
  · rw [gxs]; rfl
  · rw [gxs]; simp only [List.getElem?_cons_succ, gx0]; rfl
  · rw [gxs]; simp only [List.getElem?_cons_succ, gxs]; rfl
  · exact (hO1.low (by simp)).keep fun k hk => by subst hk; rw [mapq, List.getElem?_append_left hO1.lt]
  · exact (hO2.low (by simp)).keep fun k hk => by subst hk; rw [mapq, List.getElem?_append_left hO2.lt]
  · exact fun g' p1 p2 => hR g' _ ⟨us, uc, rs, os, oc, rfl, huc, hvc, p1, hA, p2, fun j hj => by subst hj; exact p1.ge, fun j hj => by subst hj; exact p2.ge, hne⟩

theorem rstep14 {l : List Ob} {n : Nat} {vs vc : V} {A1 A2 : Ob} {T : Th} {slot to : Int} {t : Tm} {R : V → St → Prop} (h0 : RdT (.agg [.int .i64 0, vs, vc]) T) (hS : Small T) (hp : T.pc = 0) (hs : 0 ≤ slot ∧ slot ≤ 4096) (hn : 7000 ≤ n)
    (i5 : t 5 = .ptr (idOf l.length) 0) (i8 : t 8 = .ptr (idOf (l.length + 3)) 0) (i9 : t 9 = .ptr (idOf (l.length + 4)) 0) (i11 : t 11 = .ptr (idOf (l.length + 5)) 0)
    (hR : ∀ (g : List Ob) (u : V), LvT l g (stepS 14 slot to T).1 u → R (.tup [u, effV (stepS 14 slot to T).2.1, .int .i64 0]) (stL (l ++ g))) :
    Ev Tryz.prog Tryz.f8.ntmps n (callS Tryz.prog Sp n) (sndC (sndC (sndC (sndC (bodyC Tryz.f8))))) t (stL (l ++ [.cells [.int .i64 0, vs, vc] 0 [], A1, A2, .cells zT 0 [], .cells zE 0 [], .cells (insC 14 slot to) 0 []])) (Ret Tryz.prog Tryz.f8 R) := by
  obtain ⟨u, g, hc, us, uc, rs, os, oc, rfl, huc, hvc, hO1, hA, hO2, ho1, ho2, hne⟩ := rcopy_run (l := l ++ [.cells [.int .i64 0, vs, vc] 0 [], A1, A2, .cells zT 0 [], .cells zE 0 [], .cells (insC 14 slot to) 0 []]) (k := (-1)) h0 hS (by omega) n (by omega)
  have hpc : (pad (-1) T).pc = 0 := hp
  rw [hpc] at hc
  have hw1 : IntKind.i64.wrap (0 + 1) = 1 := rfl
  simp only [List.append_assoc, List.cons_append, List.nil_append, insC] at hc hO1 hO2
  refine Ev.seq rfl (Ev.reg' ?_)
  simp (maxSteps := 2000000) only [go_sem, Nat.reduceBEq, Nat.reduceLT, Nat.reduceAdd, Nat.reduceMul, Nat.reduceLeDiff, Nat.reduceEqDiff, decide_true, decide_false, reduceIte, and_true, true_and, insC]
  refine Ev.seq rfl (Ev.seq rfl (Ev.reg' ?_))
  simp (maxSteps := 2000000) only [go_sem, Nat.reduceBEq, Nat.reduceLT, Nat.reduceAdd, Nat.reduceMul, Nat.reduceLeDiff, Nat.reduceEqDiff, decide_true, decide_false, reduceIte, and_true, true_and, Int.reduceBEq, i11]
  refine Ev.cond' ?_
  simp (maxSteps := 2000000) only [go_sem, Nat.reduceBEq, Nat.reduceLT, Nat.reduceAdd, Nat.reduceMul, Nat.reduceLeDiff, Nat.reduceEqDiff, decide_true, decide_false, reduceIte, and_true, true_and]
  refine Ev.skip ?_
  simp (maxSteps := 2000000) only [go_sem, Nat.reduceBEq, Nat.reduceLT, Nat.reduceAdd, Nat.reduceMul, Nat.reduceLeDiff, Nat.reduceEqDiff, decide_true, decide_false, reduceIte, and_true, true_and]
  refine Ev.seq rfl (Ev.reg' ?_)
  simp (maxSteps := 2000000) only [go_sem, Nat.reduceBEq, Nat.reduceLT, Nat.reduceAdd, Nat.reduceMul, Nat.reduceLeDiff, Nat.reduceEqDiff, decide_true, decide_false, reduceIte, and_true, true_and, hc, i5, i11, over_all, Nat.zero_le, Nat.le_refl]
  refine Ev.seq rfl (Ev.reg' ?_)
  simp (maxSteps := 2000000) only [go_sem, Nat.reduceBEq, Nat.reduceLT, Nat.reduceAdd, Nat.reduceMul, Nat.reduceLeDiff, Nat.reduceEqDiff, decide_true, decide_false, reduceIte, and_true, true_and, hw1, i5, over, Nat.zero_le, Nat.le_refl]
  refine Ev.seq rfl (Ev.reg' ?_)
  simp (maxSteps := 2000000) only [go_sem, Nat.reduceBEq, Nat.reduceLT, Nat.reduceAdd, Nat.reduceMul, Nat.reduceLeDiff, Nat.reduceEqDiff, decide_true, decide_false, reduceIte, and_true, true_and, over, Nat.zero_le, Nat.le_refl]
  refine Ev.seq rfl (Ev.reg' ?_)
  simp (maxSteps := 2000000) only [go_sem, Nat.reduceBEq, Nat.reduceLT, Nat.reduceAdd, Nat.reduceMul, Nat.reduceLeDiff, Nat.reduceEqDiff, decide_true, decide_false, reduceIte, and_true, true_and]
  refine Ev.seq rfl (Ev.reg' ?_)
  simp (maxSteps := 2000000) only [go_sem, Nat.reduceBEq, Nat.reduceLT, Nat.reduceAdd, Nat.reduceMul, Nat.reduceLeDiff, Nat.reduceEqDiff, decide_true, decide_false, reduceIte, and_true, true_and]
  refine Ev.seq rfl (Ev.seq rfl (Ev.reg' ?_))
  simp (maxSteps := 2000000) only [go_sem, Nat.reduceBEq, Nat.reduceLT, Nat.reduceAdd, Nat.reduceMul, Nat.reduceLeDiff, Nat.reduceEqDiff, decide_true, decide_false, reduceIte, and_true, true_and, Int.reduceBEq, i11]
  refine Ev.cond' ?_
  simp (maxSteps := 2000000) only [go_sem, Nat.reduceBEq, Nat.reduceLT, Nat.reduceAdd, Nat.reduceMul, Nat.reduceLeDiff, Nat.reduceEqDiff, decide_true, decide_false, reduceIte, and_true, true_and]
  refine Ev.skip ?_
  simp (maxSteps := 2000000) only [go_sem, Nat.reduceBEq, Nat.reduceLT, Nat.reduceAdd, Nat.reduceMul, Nat.reduceLeDiff, Nat.reduceEqDiff, decide_true, decide_false, reduceIte, and_true, true_and]
  refine Ev.seq rfl (Ev.seq rfl (Ev.reg' ?_))
  simp (maxSteps := 2000000) only [go_sem, Nat.reduceBEq, Nat.reduceLT, Nat.reduceAdd, Nat.reduceMul, Nat.reduceLeDiff, Nat.reduceEqDiff, decide_true, decide_false, reduceIte, and_true, true_and, Int.reduceBEq, i11]
  refine Ev.cond' ?_
  simp (maxSteps := 2000000) only [go_sem, Nat.reduceBEq, Nat.reduceLT, Nat.reduceAdd, Nat.reduceMul, Nat.reduceLeDiff, Nat.reduceEqDiff, decide_true, decide_false, reduceIte, and_true, true_and]
  refine Ev.skip ?_
  simp (maxSteps := 2000000) only [go_sem, Nat.reduceBEq, Nat.reduceLT, Nat.reduceAdd, Nat.reduceMul, Nat.reduceLeDiff, Nat.reduceEqDiff, decide_true, decide_false, reduceIte, and_true, true_and]
  refine Ev.seq rfl (Ev.seq rfl (Ev.reg' ?_))
  simp (maxSteps := 2000000) only [go_sem, Nat.reduceBEq, Nat.reduceLT, Nat.reduceAdd, Nat.reduceMul, Nat.reduceLeDiff, Nat.reduceEqDiff, decide_true, decide_false, reduceIte, and_true, true_and, Int.reduceBEq, i11]
  refine Ev.cond' ?_
  simp (maxSteps := 2000000) only [go_sem, Nat.reduceBEq, Nat.reduceLT, Nat.reduceAdd, Nat.reduceMul, Nat.reduceLeDiff, Nat.reduceEqDiff, decide_true, decide_false, reduceIte, and_true, true_and]
  refine Ev.skip ?_
  simp (maxSteps := 2000000) only [go_sem, Nat.reduceBEq, Nat.reduceLT, Nat.reduceAdd, Nat.reduceMul, Nat.reduceLeDiff, Nat.reduceEqDiff, decide_true, decide_false, reduceIte, and_true, true_and]
  refine Ev.seq rfl (Ev.seq rfl (Ev.reg' ?_))
  simp (maxSteps := 2000000) only [go_sem, Nat.reduceBEq, Nat.reduceLT, Nat.reduceAdd, Nat.reduceMul, Nat.reduceLeDiff, Nat.reduceEqDiff, decide_true, decide_false, reduceIte, and_true, true_and, Int.reduceBEq, i11]
  refine Ev.block ?_
  iterate 12 (refine Ev.seq rfl (Ev.reg' ?_); simp (maxSteps := 2000000) only [go_sem, Nat.reduceBEq, Nat.reduceLT, Nat.reduceAdd, Nat.reduceMul, Nat.reduceLeDiff, Nat.reduceEqDiff, decide_true, decide_false, reduceIte, and_true, true_and, Int.reduceBEq]; refine Ev.cond' ?_; simp (maxSteps := 2000000) only [go_sem, Nat.reduceBEq, Nat.reduceLT, Nat.reduceAdd, Nat.reduceMul, Nat.reduceLeDiff, Nat.reduceEqDiff, decide_true, decide_false, reduceIte, and_true, true_and])
  refine Ev.reg' ?_
  simp (maxSteps := 2000000) only [go_sem, Nat.reduceBEq, Nat.reduceLT, Nat.reduceAdd, Nat.reduceMul, Nat.reduceLeDiff, Nat.reduceEqDiff, decide_true, decide_false, reduceIte, and_true, true_and, i5, i11, over, Nat.zero_le, Nat.le_refl]

  have hst : stepS 14 slot to T = (⟨1, (pad (-1) T).slots, (pad (-1) T).counts⟩, 8, 0) := by
    unfold stepS
    rw [if_neg (by omega), if_neg (by omega)]
    rfl
  rw [hst] at hR
  simp only at hR
  refine rfin (l := l) (i13 := l.length + (g.length + 1 + 1 + 1 + 1 + 1 + 1)) (i14 := l.length + (g.length + 1 + 1 + 1 + 1 + 1 + 1 + 1)) (pc := 1) (us := us) (uc := uc) (rs := rs) (cs := (pad (-1) T).counts.map cntC) (os := os) (oc := oc) (e := [.int .u8 8, .int .i64 0, .nils, .nils, .bool false, .nils, .nils, .str [], .str [], .nils]) ?_ ?_ ?_ ?_ ?_ ?_ ?_ ?_ ?_ rfl (by omega) (by omega) (fun i hi => by rw [List.getElem?_append_left hi]) ?_ ?_ ?_
  · simp (maxSteps := 2000000) only [go_sem, Nat.reduceBEq, Nat.reduceLT, Nat.reduceAdd, Nat.reduceMul, Nat.reduceLeDiff, Nat.reduceEqDiff, decide_true, decide_false, reduceIte, and_true, true_and, i8]
  · simp (maxSteps := 2000000) only [go_sem, Nat.reduceBEq, Nat.reduceLT, Nat.reduceAdd, Nat.reduceMul, Nat.reduceLeDiff, Nat.reduceEqDiff, decide_true, decide_false, reduceIte, and_true, true_and, i9]
  · simp (maxSteps := 2000000) only [go_sem, Nat.reduceBEq, Nat.reduceLT, Nat.reduceAdd, Nat.reduceMul, Nat.reduceLeDiff, Nat.reduceEqDiff, decide_true, decide_false, reduceIte, and_true, true_and]
  · simp (maxSteps := 2000000) only [go_sem, Nat.reduceBEq, Nat.reduceLT, Nat.reduceAdd, Nat.reduceMul, Nat.reduceLeDiff, Nat.reduceEqDiff, decide_true, decide_false, reduceIte, and_true, true_and]
  · simp (maxSteps := 2000000) only [go_sem, Nat.reduceBEq, Nat.reduceLT, Nat.reduceAdd, Nat.reduceMul, Nat.reduceLeDiff, Nat.reduceEqDiff, decide_true, decide_false, reduceIte, and_true, true_and]
  · rw [gxs]; rfl
  · rw [gxs]; rfl
  · rw [gxs]; simp only [List.getElem?_cons_succ, gx0]; rfl
  · rw [gxs]; simp only [List.getElem?_cons_succ, gxs]; rfl
  · exact (hO1.low (by simp)).keep fun k hk => by subst hk; rw [mapq, List.getElem?_append_left hO1.lt]
  · exact (hO2.low (by simp)).keep fun k hk => by subst hk; rw [mapq, List.getElem?_append_left hO2.lt]
  · exact fun g' p1 p2 => hR g' _ ⟨us, uc, rs, os, oc, rfl, huc, hvc, p1, hA, p2, fun j hj => by subst hj; exact p1.ge, fun j hj => by subst hj; exact p2.ge, hne⟩

theorem rstep15 {l : List Ob} {n : Nat} {vs vc : V} {A1 A2 : Ob} {T : Th} {slot to : Int} {t : Tm} {R : V → St → Prop} (h0 : RdT (.agg [.int .i64 0, vs, vc]) T) (hS : Small T) (hp : T.pc = 0) (hs : 0 ≤ slot ∧ slot ≤ 4096) (hn : 7000 ≤ n)
    (i5 : t 5 = .ptr (idOf l.length) 0) (i8 : t 8 = .ptr (idOf (l.length + 3)) 0) (i9 : t 9 = .ptr (idOf (l.length + 4)) 0) (i11 : t 11 = .ptr (idOf (l.length + 5)) 0)
    (hR : ∀ (g : List Ob) (u : V), LvT l g (stepS 15 slot to T).1 u → R (.tup [u, effV (stepS 15 slot to T).2.1, .int .i64 0]) (stL (l ++ g))) :
    Ev Tryz.prog Tryz.f8.ntmps n (callS Tryz.prog Sp n) (sndC (sndC (sndC (sndC (bodyC Tryz.f8))))) t (stL (l ++ [.cells [.int .i64 0, vs, vc] 0 [], A1, A2, .cells zT 0 [], .cells zE 0 [], .cells (insC 15 slot to) 0 []])) (Ret Tryz.prog Tryz.f8 R) := by
  obtain ⟨u, g, hc, us, uc, rs, os, oc, rfl, huc, hvc, hO1, hA, hO2, ho1, ho2, hne⟩ := rcopy_run (l := l ++ [.cells [.int .i64 0, vs, vc] 0 [], A1, A2, .cells zT 0 [], .cells zE 0 [], .cells (insC 15 slot to) 0 []]) (k := (-1)) h0 hS (by omega) n (by omega)
  have hpc : (pad (-1) T).pc = 0 := hp
  rw [hpc] at hc
  have hw1 : IntKind.i64.wrap (0 + 1) = 1 := rfl
  simp only [List.append_assoc, List.cons_append, List.nil_append, insC] at hc hO1 hO2
  refine Ev.seq rfl (Ev.reg' ?_)
  simp (maxSteps := 2000000) only [go_sem, Nat.reduceBEq, Nat.reduceLT, Nat.reduceAdd, Nat.reduceMul, Nat.reduceLeDiff, Nat.reduceEqDiff, decide_true, decide_false, reduceIte, and_true, true_and, insC]
  refine Ev.seq rfl (Ev.seq rfl (Ev.reg' ?_))
  simp (maxSteps := 2000000) only [go_sem, Nat.reduceBEq, Nat.reduceLT, Nat.reduceAdd, Nat.reduceMul, Nat.reduceLeDiff, Nat.reduceEqDiff, decide_true, decide_false, reduceIte, and_true, true_and, Int.reduceBEq, i11]
  refine Ev.cond' ?_
  simp (maxSteps := 2000000) only [go_sem, Nat.reduceBEq, Nat.reduceLT, Nat.reduceAdd, Nat.reduceMul, Nat.reduceLeDiff, Nat.reduceEqDiff, decide_true, decide_false, reduceIte, and_true, true_and]
  refine Ev.skip ?_
  simp (maxSteps := 2000000) only [go_sem, Nat.reduceBEq, Nat.reduceLT, Nat.reduceAdd, Nat.reduceMul, Nat.reduceLeDiff, Nat.reduceEqDiff, decide_true, decide_false, reduceIte, and_true, true_and]
  refine Ev.seq rfl (Ev.reg' ?_)
  simp (maxSteps := 2000000) only [go_sem, Nat.reduceBEq, Nat.reduceLT, Nat.reduceAdd, Nat.reduceMul, Nat.reduceLeDiff, Nat.reduceEqDiff, decide_true, decide_false, reduceIte, and_true, true_and, hc, i5, i11, over_all, Nat.zero_le, Nat.le_refl]
  refine Ev.seq rfl (Ev.reg' ?_)
  simp (maxSteps := 2000000) only [go_sem, Nat.reduceBEq, Nat.reduceLT, Nat.reduceAdd, Nat.reduceMul, Nat.reduceLeDiff, Nat.reduceEqDiff, decide_true, decide_false, reduceIte, and_true, true_and, hw1, i5, over, Nat.zero_le, Nat.le_refl]
  refine Ev.seq rfl (Ev.reg' ?_)
  simp (maxSteps := 2000000) only [go_sem, Nat.reduceBEq, Nat.reduceLT, Nat.reduceAdd, Nat.reduceMul, Nat.reduceLeDiff, Nat.reduceEqDiff, decide_true, decide_false, reduceIte, and_true, true_and, over, Nat.zero_le, Nat.le_refl]
  refine Ev.seq rfl (Ev.reg' ?_)
  simp (maxSteps := 2000000) only [go_sem, Nat.reduceBEq, Nat.reduceLT, Nat.reduceAdd, Nat.reduceMul, Nat.reduceLeDiff, Nat.reduceEqDiff, decide_true, decide_false, reduceIte, and_true, true_and]
  refine Ev.seq rfl (Ev.reg' ?_)
  simp (maxSteps := 2000000) only [go_sem, Nat.reduceBEq, Nat.reduceLT, Nat.reduceAdd, Nat.reduceMul, Nat.reduceLeDiff, Nat.reduceEqDiff, decide_true, decide_false, reduceIte, and_true, true_and]
  refine Ev.seq rfl (Ev.seq rfl (Ev.reg' ?_))
  simp (maxSteps := 2000000) only [go_sem, Nat.reduceBEq, Nat.reduceLT, Nat.reduceAdd, Nat.reduceMul, Nat.reduceLeDiff, Nat.reduceEqDiff, decide_true, decide_false, reduceIte, and_true, true_and, Int.reduceBEq, i11]
  refine Ev.cond' ?_
  simp (maxSteps := 2000000) only [go_sem, Nat.reduceBEq, Nat.reduceLT, Nat.reduceAdd, Nat.reduceMul, Nat.reduceLeDiff, Nat.reduceEqDiff, decide_true, decide_false, reduceIte, and_true, true_and]
  refine Ev.skip ?_
  simp (maxSteps := 2000000) only [go_sem, Nat.reduceBEq, Nat.reduceLT, Nat.reduceAdd, Nat.reduceMul, Nat.reduceLeDiff, Nat.reduceEqDiff, decide_true, decide_false, reduceIte, and_true, true_and]
  refine Ev.seq rfl (Ev.seq rfl (Ev.reg' ?_))
  simp (maxSteps := 2000000) only [go_sem, Nat.reduceBEq, Nat.reduceLT, Nat.reduceAdd, Nat.reduceMul, Nat.reduceLeDiff, Nat.reduceEqDiff, decide_true, decide_false, reduceIte, and_true, true_and, Int.reduceBEq, i11]
  refine Ev.cond' ?_
  simp (maxSteps := 2000000) only [go_sem, Nat.reduceBEq, Nat.reduceLT, Nat.reduceAdd, Nat.reduceMul, Nat.reduceLeDiff, Nat.reduceEqDiff, decide_true, decide_false, reduceIte, and_true, true_and]
  refine Ev.skip ?_
  simp (maxSteps := 2000000) only [go_sem, Nat.reduceBEq, Nat.reduceLT, Nat.reduceAdd, Nat.reduceMul, Nat.reduceLeDiff, Nat.reduceEqDiff, decide_true, decide_false, reduceIte, and_true, true_and]
  refine Ev.seq rfl (Ev.seq rfl (Ev.reg' ?_))
  simp (maxSteps := 2000000) only [go_sem, Nat.reduceBEq, Nat.reduceLT, Nat.reduceAdd, Nat.reduceMul, Nat.reduceLeDiff, Nat.reduceEqDiff, decide_true, decide_false, reduceIte, and_true, true_and, Int.reduceBEq, i11]
  refine Ev.cond' ?_
  simp (maxSteps := 2000000) only [go_sem, Nat.reduceBEq, Nat.reduceLT, Nat.reduceAdd, Nat.reduceMul, Nat.reduceLeDiff, Nat.reduceEqDiff, decide_true, decide_false, reduceIte, and_true, true_and]
  refine Ev.skip ?_
  simp (maxSteps := 2000000) only [go_sem, Nat.reduceBEq, Nat.reduceLT, Nat.reduceAdd, Nat.reduceMul, Nat.reduceLeDiff, Nat.reduceEqDiff, decide_true, decide_false, reduceIte, and_true, true_and]
  refine Ev.seq rfl (Ev.seq rfl (Ev.reg' ?_))
  simp (maxSteps := 2000000) only [go_sem, Nat.reduceBEq, Nat.reduceLT, Nat.reduceAdd, Nat.reduceMul, Nat.reduceLeDiff, Nat.reduceEqDiff, decide_true, decide_false, reduceIte, and_true, true_and, Int.reduceBEq, i11]
  refine Ev.block ?_
  iterate 13 (refine Ev.seq rfl (Ev.reg' ?_); simp (maxSteps := 2000000) only [go_sem, Nat.reduceBEq, Nat.reduceLT, Nat.reduceAdd, Nat.reduceMul, Nat.reduceLeDiff, Nat.reduceEqDiff, decide_true, decide_false, reduceIte, and_true, true_and, Int.reduceBEq]; refine Ev.cond' ?_; simp (maxSteps := 2000000) only [go_sem, Nat.reduceBEq, Nat.reduceLT, Nat.reduceAdd, Nat.reduceMul, Nat.reduceLeDiff, Nat.reduceEqDiff, decide_true, decide_false, reduceIte, and_true, true_and])
  refine Ev.seq rfl (Ev.reg' ?_)
  simp (maxSteps := 2000000) only [go_sem, Nat.reduceBEq, Nat.reduceLT, Nat.reduceAdd, Nat.reduceMul, Nat.reduceLeDiff, Nat.reduceEqDiff, decide_true, decide_false, reduceIte, and_true, true_and, i5, i11, over, Nat.zero_le, Nat.le_refl]
  refine Ev.reg' ?_
  simp (maxSteps := 2000000) only [go_sem, Nat.reduceBEq, Nat.reduceLT, Nat.reduceAdd, Nat.reduceMul, Nat.reduceLeDiff, Nat.reduceEqDiff, decide_true, decide_false, reduceIte, and_true, true_and, i5, i11, over, Nat.zero_le, Nat.le_refl]

  have hst : stepS 15 slot to T = (⟨0, (pad (-1) T).slots, (pad (-1) T).counts⟩, 9, 0) := by
    unfold stepS
    rw [if_neg (by omega), if_neg (by omega)]
    rfl
  rw [hst] at hR
  simp only at hR
  refine rfin (l := l) (i13 := l.length + (g.length + 1 + 1 + 1 + 1 + 1 + 1)) (i14 := l.length + (g.length + 1 + 1 + 1 + 1 + 1 + 1 + 1)) (pc := 0) (us := us) (uc := uc) (rs := rs) (cs := (pad (-1) T).counts.map cntC) (os := os) (oc := oc) (e := [.int .u8 9, .int .i64 0, .nils, .nils, .bool false, .nils, .nils, .str [], .str [], .nils]) ?_ ?_ ?_ ?_ ?_ ?_ ?_ ?_ ?_ rfl (by omega) (by omega) (fun i hi => by rw [List.getElem?_append_left hi]) ?_ ?_ ?_
  · simp (maxSteps := 2000000) only [go_sem, Nat.reduceBEq, Nat.reduceLT, Nat.reduceAdd, Nat.reduceMul, Nat.reduceLeDiff, Nat.reduceEqDiff, decide_true, decide_false, reduceIte, and_true, true_and, i8]
  · simp (maxSteps := 2000000) only [go_sem, Nat.reduceBEq, Nat.reduceLT, Nat.reduceAdd, Nat.reduceMul, Nat.reduceLeDiff, Nat.reduceEqDiff, decide_true, decide_false, reduceIte, and_true, true_and, i9]
  · simp (maxSteps := 2000000) only [go_sem, Nat.reduceBEq, Nat.reduceLT, Nat.reduceAdd, Nat.reduceMul, Nat.reduceLeDiff, Nat.reduceEqDiff, decide_true, decide_false, reduceIte, and_true, true_and]
  · simp (maxSteps := 2000000) only [go_sem, Nat.reduceBEq, Nat.reduceLT, Nat.reduceAdd, Nat.reduceMul, Nat.reduceLeDiff, Nat.reduceEqDiff, decide_true, decide_false, reduceIte, and_true, true_and]
  · simp (maxSteps := 2000000) only [go_sem, Nat.reduceBEq, Nat.reduceLT, Nat.reduceAdd, Nat.reduceMul, Nat.reduceLeDiff, Nat.reduceEqDiff, decide_true, decide_false, reduceIte, and_true, true_and]
  · rw [gxs]; rfl
  · rw [gxs]; rfl
  · rw [gxs]; simp only [List.getElem?_cons_succ, gx0]; rfl
  · rw [gxs]; simp only [List.getElem?_cons_succ, gxs]; rfl
  · exact (hO1.low (by simp)).keep fun k hk => by subst hk; rw [mapq, List.getElem?_append_left hO1.lt]
  · exact (hO2.low (by simp)).keep fun k hk => by subst hk; rw [mapq, List.getElem?_append_left hO2.lt]
  · exact fun g' p1 p2 => hR g' _ ⟨us, uc, rs, os, oc, rfl, huc, hvc, p1, hA, p2, fun j hj => by subst hj; exact p1.ge, fun j hj => by subst hj; exact p2.ge, hne⟩

theorem rstep10 {l : List Ob} {n : Nat} {vs vc : V} {A1 A2 : Ob} {T : Th} {slot to : Int} {t : Tm} {R : V → St → Prop} (h0 : RdT (.agg [.int .i64 0, vs, vc]) T) (hS : Small T) (hp : T.pc = 0) (hs : 0 ≤ slot ∧ slot ≤ 4096) (hn : 7000 ≤ n)
    (i5 : t 5 = .ptr (idOf l.length) 0) (i8 : t 8 = .ptr (idOf (l.length + 3)) 0) (i9 : t 9 = .ptr (idOf (l.length + 4)) 0) (i11 : t 11 = .ptr (idOf (l.length + 5)) 0)
    (hR : ∀ (g : List Ob) (u : V), LvT l g (stepS 10 slot to T).1 u → R (.tup [u, effV (stepS 10 slot to T).2.1, .int .i64 0]) (stL (l ++ g))) :
    Ev Tryz.prog Tryz.f8.ntmps n (callS Tryz.prog Sp n) (sndC (sndC (sndC (sndC (bodyC Tryz.f8))))) t (stL (l ++ [.cells [.int .i64 0, vs, vc] 0 [], A1, A2, .cells zT 0 [], .cells zE 0 [], .cells (insC 10 slot to) 0 []])) (Ret Tryz.prog Tryz.f8 R) := by
  obtain ⟨u, g, hc, us, uc, rs, os, oc, rfl, huc, hvc, hO1, hA, hO2, ho1, ho2, hne⟩ := rcopy_run (l := l ++ [.cells [.int .i64 0, vs, vc] 0 [], A1, A2, .cells zT 0 [], .cells zE 0 [], .cells (insC 10 slot to) 0 []]) (k := (-1)) h0 hS (by omega) n (by omega)
  have hpc : (pad (-1) T).pc = 0 := hp
  rw [hpc] at hc
  have hw1 : IntKind.i64.wrap (0 + 1) = 1 := rfl
  simp only [List.append_assoc, List.cons_append, List.nil_append, insC] at hc hO1 hO2
  refine Ev.seq rfl (Ev.reg' ?_)
  simp (maxSteps := 2000000) only [go_sem, Nat.reduceBEq, Nat.reduceLT, Nat.reduceAdd, Nat.reduceMul, Nat.reduceLeDiff, Nat.reduceEqDiff, decide_true, decide_false, reduceIte, and_true, true_and, insC]
  refine Ev.seq rfl (Ev.seq rfl (Ev.reg' ?_))
  simp (maxSteps := 2000000) only [go_sem, Nat.reduceBEq, Nat.reduceLT, Nat.reduceAdd, Nat.reduceMul, Nat.reduceLeDiff, Nat.reduceEqDiff, decide_true, decide_false, reduceIte, and_true, true_and, Int.reduceBEq, i11]
  refine Ev.cond' ?_
  simp (maxSteps := 2000000) only [go_sem, Nat.reduceBEq, Nat.reduceLT, Nat.reduceAdd, Nat.reduceMul, Nat.reduceLeDiff, Nat.reduceEqDiff, decide_true, decide_false, reduceIte, and_true, true_and]
  refine Ev.skip ?_
  simp (maxSteps := 2000000) only [go_sem, Nat.reduceBEq, Nat.reduceLT, Nat.reduceAdd, Nat.reduceMul, Nat.reduceLeDiff, Nat.reduceEqDiff, decide_true, decide_false, reduceIte, and_true, true_and]
  refine Ev.seq rfl (Ev.reg' ?_)
  simp (maxSteps := 2000000) only [go_sem, Nat.reduceBEq, Nat.reduceLT, Nat.reduceAdd, Nat.reduceMul, Nat.reduceLeDiff, Nat.reduceEqDiff, decide_true, decide_false, reduceIte, and_true, true_and, hc, i5, i11, over_all, Nat.zero_le, Nat.le_refl]
  refine Ev.seq rfl (Ev.reg' ?_)
  simp (maxSteps := 2000000) only [go_sem, Nat.reduceBEq, Nat.reduceLT, Nat.reduceAdd, Nat.reduceMul, Nat.reduceLeDiff, Nat.reduceEqDiff, decide_true, decide_false, reduceIte, and_true, true_and, hw1, i5, over, Nat.zero_le, Nat.le_refl]
  refine Ev.seq rfl (Ev.reg' ?_)
  simp (maxSteps := 2000000) only [go_sem, Nat.reduceBEq, Nat.reduceLT, Nat.reduceAdd, Nat.reduceMul, Nat.reduceLeDiff, Nat.reduceEqDiff, decide_true, decide_false, reduceIte, and_true, true_and, over, Nat.zero_le, Nat.le_refl]
  refine Ev.seq rfl (Ev.reg' ?_)
  simp (maxSteps := 2000000) only [go_sem, Nat.reduceBEq, Nat.reduceLT, Nat.reduceAdd, Nat.reduceMul, Nat.reduceLeDiff, Nat.reduceEqDiff, decide_true, decide_false, reduceIte, and_true, true_and]
  refine Ev.seq rfl (Ev.reg' ?_)
  simp (maxSteps := 2000000) only [go_sem, Nat.reduceBEq, Nat.reduceLT, Nat.reduceAdd, Nat.reduceMul, Nat.reduceLeDiff, Nat.reduceEqDiff, decide_true, decide_false, reduceIte, and_true, true_and]
  refine Ev.seq rfl (Ev.seq rfl (Ev.reg' ?_))
  simp (maxSteps := 2000000) only [go_sem, Nat.reduceBEq, Nat.reduceLT, Nat.reduceAdd, Nat.reduceMul, Nat.reduceLeDiff, Nat.reduceEqDiff, decide_true, decide_false, reduceIte, and_true, true_and, Int.reduceBEq, i11]
  refine Ev.cond' ?_
  simp (maxSteps := 2000000) only [go_sem, Nat.reduceBEq, Nat.reduceLT, Nat.reduceAdd, Nat.reduceMul, Nat.reduceLeDiff, Nat.reduceEqDiff, decide_true, decide_false, reduceIte, and_true, true_and]
  refine Ev.skip ?_
  simp (maxSteps := 2000000) only [go_sem, Nat.reduceBEq, Nat.reduceLT, Nat.reduceAdd, Nat.reduceMul, Nat.reduceLeDiff, Nat.reduceEqDiff, decide_true, decide_false, reduceIte, and_true, true_and]
  refine Ev.seq rfl (Ev.seq rfl (Ev.reg' ?_))
  simp (maxSteps := 2000000) only [go_sem, Nat.reduceBEq, Nat.reduceLT, Nat.reduceAdd, Nat.reduceMul, Nat.reduceLeDiff, Nat.reduceEqDiff, decide_true, decide_false, reduceIte, and_true, true_and, Int.reduceBEq, i11]
  refine Ev.cond' ?_
  simp (maxSteps := 2000000) only [go_sem, Nat.reduceBEq, Nat.reduceLT, Nat.reduceAdd, Nat.reduceMul, Nat.reduceLeDiff, Nat.reduceEqDiff, decide_true, decide_false, reduceIte, and_true, true_and]
  refine Ev.skip ?_
  simp (maxSteps := 2000000) only [go_sem, Nat.reduceBEq, Nat.reduceLT, Nat.reduceAdd, Nat.reduceMul, Nat.reduceLeDiff, Nat.reduceEqDiff, decide_true, decide_false, reduceIte, and_true, true_and]
  refine Ev.seq rfl (Ev.seq rfl (Ev.reg' ?_))
  simp (maxSteps := 2000000) only [go_sem, Nat.reduceBEq, Nat.reduceLT, Nat.reduceAdd, Nat.reduceMul, Nat.reduceLeDiff, Nat.reduceEqDiff, decide_true, decide_false, reduceIte, and_true, true_and, Int.reduceBEq, i11]
  refine Ev.cond' ?_
  simp (maxSteps := 2000000) only [go_sem, Nat.reduceBEq, Nat.reduceLT, Nat.reduceAdd, Nat.reduceMul, Nat.reduceLeDiff, Nat.reduceEqDiff, decide_true, decide_false, reduceIte, and_true, true_and]
  refine Ev.skip ?_
  simp (maxSteps := 2000000) only [go_sem, Nat.reduceBEq, Nat.reduceLT, Nat.reduceAdd, Nat.reduceMul, Nat.reduceLeDiff, Nat.reduceEqDiff, decide_true, decide_false, reduceIte, and_true, true_and]
  refine Ev.seq rfl (Ev.seq rfl (Ev.reg' ?_))
  simp (maxSteps := 2000000) only [go_sem, Nat.reduceBEq, Nat.reduceLT, Nat.reduceAdd, Nat.reduceMul, Nat.reduceLeDiff, Nat.reduceEqDiff, decide_true, decide_false, reduceIte, and_true, true_and, Int.reduceBEq, i11]
  refine Ev.block ?_
  iterate 8 (refine Ev.seq rfl (Ev.reg' ?_); simp (maxSteps := 2000000) only [go_sem, Nat.reduceBEq, Nat.reduceLT, Nat.reduceAdd, Nat.reduceMul, Nat.reduceLeDiff, Nat.reduceEqDiff, decide_true, decide_false, reduceIte, and_true, true_and, Int.reduceBEq]; refine Ev.cond' ?_; simp (maxSteps := 2000000) only [go_sem, Nat.reduceBEq, Nat.reduceLT, Nat.reduceAdd, Nat.reduceMul, Nat.reduceLeDiff, Nat.reduceEqDiff, decide_true, decide_false, reduceIte, and_true, true_and])
  refine Ev.regDX rfl (by kernel_rfl) [(1, 3)] (by kernel_rfl) (fun T' Z B R' htr p hp' => ?_) ?_
  · have a1 : T' 1 274 = .ptr (idOf (l.length + 5)) 18 := htr.at 1 (by decide) (X := fun t _ => t 274 = .ptr (idOf (l.length + 5)) 18) (by simp (maxSteps := 2000000) only [go_sem, Nat.reduceBEq, Nat.reduceLT, Nat.reduceAdd, Nat.reduceMul, Nat.reduceLeDiff, Nat.reduceEqDiff, decide_true, decide_false, reduceIte, and_true, true_and, i11])
    have a2 : cellsAt (Z 3) (.ptr (idOf (l.length + 5)) 18) = some ((insC 10 slot to).drop 18) := htr.at 3 (by decide) (X := fun _ S => cellsAt S (.ptr (idOf (l.length + 5)) 18) = some ((insC 10 slot to).drop 18)) (by simp (maxSteps := 2000000) only [go_sem, Nat.reduceBEq, Nat.reduceLT, Nat.reduceAdd, Nat.reduceMul, Nat.reduceLeDiff, Nat.reduceEqDiff, decide_true, decide_false, reduceIte, and_true, true_and, i11, insC])
    have a3 : cellsAt (Z 4) (.ptr (idOf (l.length + 5)) 18) = some ((insC 10 slot to).drop 18) := htr.at 4 (by decide) (X := fun _ S => cellsAt S (.ptr (idOf (l.length + 5)) 18) = some ((insC 10 slot to).drop 18)) (by simp (maxSteps := 2000000) only [go_sem, Nat.reduceBEq, Nat.reduceLT, Nat.reduceAdd, Nat.reduceMul, Nat.reduceLeDiff, Nat.reduceEqDiff, decide_true, decide_false, reduceIte, and_true, true_and, i11, insC, over, Nat.zero_le, Nat.le_refl])
    simp only [List.mem_cons, List.not_mem_nil, or_false] at hp'
    subst hp'
    refine LookOK.of_load rfl ?_
    show cellsAt (Z 3) (T' 1 274) = cellsAt (Z 4) (T' 1 274)
    rw [a1, a2, a3]
  simp (maxSteps := 2000000) only [go_sem, Nat.reduceBEq, Nat.reduceLT, Nat.reduceAdd, Nat.reduceMul, Nat.reduceLeDiff, Nat.reduceEqDiff, decide_true, decide_false, reduceIte, and_true, true_and, i5, i11, over, Nat.zero_le, Nat.le_refl]

  have hst : stepS 10 slot to T = (⟨1, (pad (-1) T).slots, (pad (-1) T).counts⟩, 4, 0) := by
    unfold stepS
    rw [if_neg (by omega), if_neg (by omega)]
    rfl
  rw [hst] at hR
  simp only at hR
  refine rfin (l := l) (i13 := l.length + (g.length + 1 + 1 + 1 + 1 + 1 + 1)) (i14 := l.length + (g.length + 1 + 1 + 1 + 1 + 1 + 1 + 1)) (pc := 1) (us := us) (uc := uc) (rs := rs) (cs := (pad (-1) T).counts.map cntC) (os := os) (oc := oc) (e := [.int .u8 4, .int .i64 0, .nils, .nils, .bool false, .nils, .nils, .str [], .str [], .nils]) ?_ ?_ ?_ ?_ ?_ ?_ ?_ ?_ ?_ rfl (by omega) (by omega) (fun i hi => by rw [List.getElem?_append_left hi]) ?_ ?_ ?_
  · simp (maxSteps := 2000000) only [go_sem, Nat.reduceBEq, Nat.reduceLT, Nat.reduceAdd, Nat.reduceMul, Nat.reduceLeDiff, Nat.reduceEqDiff, decide_true, decide_false, reduceIte, and_true, true_and, i8]
  · simp (maxSteps := 2000000) only [go_sem, Nat.reduceBEq, Nat.reduceLT, Nat.reduceAdd, Nat.reduceMul, Nat.reduceLeDiff, Nat.reduceEqDiff, decide_true, decide_false, reduceIte, and_true, true_and, i9]
  · simp (maxSteps := 2000000) only [go_sem, Nat.reduceBEq, Nat.reduceLT, Nat.reduceAdd, Nat.reduceMul, Nat.reduceLeDiff, Nat.reduceEqDiff, decide_true, decide_false, reduceIte, and_true, true_and]
  · simp (maxSteps := 2000000) only [go_sem, Nat.reduceBEq, Nat.reduceLT, Nat.reduceAdd, Nat.reduceMul, Nat.reduceLeDiff, Nat.reduceEqDiff, decide_true, decide_false, reduceIte, and_true, true_and]
  · simp (maxSteps := 2000000) only [go_sem, Nat.reduceBEq, Nat.reduceLT, Nat.reduceAdd, Nat.reduceMul, Nat.reduceLeDiff, Nat.reduceEqDiff, decide_true, decide_false, reduceIte, and_true, true_and]
  · rw [gxs]; rfl
  · rw [gxs]; rfl
  · rw [gxs]; simp only [List.getElem?_cons_succ, gx0]; rfl
  · rw [gxs]; simp only [List.getElem?_cons_succ, gxs]; rfl
  · exact (hO1.low (by simp)).keep fun k hk => by subst hk; rw [mapq, List.getElem?_append_left hO1.lt]
  · exact (hO2.low (by simp)).keep fun k hk => by subst hk; rw [mapq, List.getElem?_append_left hO2.lt]
  · exact fun g' p1 p2 => hR g' _ ⟨us, uc, rs, os, oc, rfl, huc, hvc, p1, hA, p2, fun j hj => by subst hj; exact p1.ge, fun j hj => by subst hj; exact p2.ge, hne⟩

end Cs

set_option linter.unusedVariables false
open Go Go.Vm Go.Proofs
namespace Cs
variable [Gl]
theorem rstep8 {l : List Ob} {n : Nat} {vs vc : V} {A1 A2 : Ob} {T : Th} {j : Nat} {to : Int} {t : Tm} {R : V → St → Prop} (h0 : RdT (.agg [.int .i64 0, vs, vc]) T) (hS : Small T) (hp : T.pc = 0) (hs : j ≤ 4096) (hn : 7000 ≤ n)
    (i5 : t 5 = .ptr (idOf l.length) 0) (i8 : t 8 = .ptr (idOf (l.length + 3)) 0) (i9 : t 9 = .ptr (idOf (l.length + 4)) 0) (i11 : t 11 = .ptr (idOf (l.length + 5)) 0)
    (hR : ∀ (g : List Ob) (u : V), LvT l g (stepS 8 j to T).1 u → R (.tup [u, effV (stepS 8 j to T).2.1, .int .i64 0]) (stL (l ++ g))) :
    Ev Tryz.prog Tryz.f8.ntmps n (callS Tryz.prog Sp n) (sndC (sndC (sndC (sndC (bodyC Tryz.f8))))) t (stL (l ++ [.cells [.int .i64 0, vs, vc] 0 [], A1, A2, .cells zT 0 [], .cells zE 0 [], .cells (insC 8 j to) 0 []])) (Ret Tryz.prog Tryz.f8 R) := by
  obtain ⟨u, g, hc, us, uc, rs, os, oc, rfl, huc, hvc, hO1, hA, hO2, ho1, ho2, hne⟩ := rcopy_run (l := l ++ [.cells [.int .i64 0, vs, vc] 0 [], A1, A2, .cells zT 0 [], .cells zE 0 [], .cells (insC 8 j to) 0 []]) (k := j) h0 hS (by omega) n (by omega)
  have hpc : (pad j T).pc = 0 := hp
  rw [hpc] at hc
  have hw1 : IntKind.i64.wrap (0 + 1) = 1 := rfl
  simp only [List.append_assoc, List.cons_append, List.nil_append, insC] at hc hO1 hO2
  refine Ev.seq rfl (Ev.reg' ?_)
  simp (maxSteps := 2000000) only [go_sem, Nat.reduceBEq, Nat.reduceLT, Nat.reduceAdd, Nat.reduceMul, Nat.reduceLeDiff, Nat.reduceEqDiff, decide_true, decide_false, reduceIte, and_true, true_and, insC]
  refine Ev.seq rfl (Ev.seq rfl (Ev.reg' ?_))
  simp (maxSteps := 2000000) only [go_sem, Nat.reduceBEq, Nat.reduceLT, Nat.reduceAdd, Nat.reduceMul, Nat.reduceLeDiff, Nat.reduceEqDiff, decide_true, decide_false, reduceIte, and_true, true_and, Int.reduceBEq, i11]
  refine Ev.cond' ?_
  simp (maxSteps := 2000000) only [go_sem, Nat.reduceBEq, Nat.reduceLT, Nat.reduceAdd, Nat.reduceMul, Nat.reduceLeDiff, Nat.reduceEqDiff, decide_true, decide_false, reduceIte, and_true, true_and]
  refine Ev.reg' ?_
  simp (maxSteps := 2000000) only [go_sem, Nat.reduceBEq, Nat.reduceLT, Nat.reduceAdd, Nat.reduceMul, Nat.reduceLeDiff, Nat.reduceEqDiff, decide_true, decide_false, reduceIte, and_true, true_and, i11]
  refine Ev.seq rfl (Ev.reg' ?_)
  simp (maxSteps := 2000000) only [go_sem, Nat.reduceBEq, Nat.reduceLT, Nat.reduceAdd, Nat.reduceMul, Nat.reduceLeDiff, Nat.reduceEqDiff, decide_true, decide_false, reduceIte, and_true, true_and, hc, i5, i11, over_all, Nat.zero_le, Nat.le_refl]
  refine Ev.seq rfl (Ev.reg' ?_)
  simp (maxSteps := 2000000) only [go_sem, Nat.reduceBEq, Nat.reduceLT, Nat.reduceAdd, Nat.reduceMul, Nat.reduceLeDiff, Nat.reduceEqDiff, decide_true, decide_false, reduceIte, and_true, true_and, hw1, i5, over, Nat.zero_le, Nat.le_refl]
  refine Ev.seq rfl (Ev.reg' ?_)
  simp (maxSteps := 2000000) only [go_sem, Nat.reduceBEq, Nat.reduceLT, Nat.reduceAdd, Nat.reduceMul, Nat.reduceLeDiff, Nat.reduceEqDiff, decide_true, decide_false, reduceIte, and_true, true_and, over, Nat.zero_le, Nat.le_refl]
  refine Ev.seq rfl (Ev.reg' ?_)
  simp (maxSteps := 2000000) only [go_sem, Nat.reduceBEq, Nat.reduceLT, Nat.reduceAdd, Nat.reduceMul, Nat.reduceLeDiff, Nat.reduceEqDiff, decide_true, decide_false, reduceIte, and_true, true_and]
  refine Ev.seq rfl (Ev.reg' ?_)
  simp (maxSteps := 2000000) only [go_sem, Nat.reduceBEq, Nat.reduceLT, Nat.reduceAdd, Nat.reduceMul, Nat.reduceLeDiff, Nat.reduceEqDiff, decide_true, decide_false, reduceIte, and_true, true_and]
  refine Ev.seq rfl (Ev.seq rfl (Ev.reg' ?_))
  simp (maxSteps := 2000000) only [go_sem, Nat.reduceBEq, Nat.reduceLT, Nat.reduceAdd, Nat.reduceMul, Nat.reduceLeDiff, Nat.reduceEqDiff, decide_true, decide_false, reduceIte, and_true, true_and, Int.reduceBEq, i11]
  refine Ev.cond' ?_
  simp (maxSteps := 2000000) only [go_sem, Nat.reduceBEq, Nat.reduceLT, Nat.reduceAdd, Nat.reduceMul, Nat.reduceLeDiff, Nat.reduceEqDiff, decide_true, decide_false, reduceIte, and_true, true_and]
  refine Ev.skip ?_
  simp (maxSteps := 2000000) only [go_sem, Nat.reduceBEq, Nat.reduceLT, Nat.reduceAdd, Nat.reduceMul, Nat.reduceLeDiff, Nat.reduceEqDiff, decide_true, decide_false, reduceIte, and_true, true_and]
  refine Ev.seq rfl (Ev.seq rfl (Ev.reg' ?_))
  simp (maxSteps := 2000000) only [go_sem, Nat.reduceBEq, Nat.reduceLT, Nat.reduceAdd, Nat.reduceMul, Nat.reduceLeDiff, Nat.reduceEqDiff, decide_true, decide_false, reduceIte, and_true, true_and, Int.reduceBEq, i11]
  refine Ev.cond' ?_
  simp (maxSteps := 2000000) only [go_sem, Nat.reduceBEq, Nat.reduceLT, Nat.reduceAdd, Nat.reduceMul, Nat.reduceLeDiff, Nat.reduceEqDiff, decide_true, decide_false, reduceIte, and_true, true_and]
  refine Ev.skip ?_
  simp (maxSteps := 2000000) only [go_sem, Nat.reduceBEq, Nat.reduceLT, Nat.reduceAdd, Nat.reduceMul, Nat.reduceLeDiff, Nat.reduceEqDiff, decide_true, decide_false, reduceIte, and_true, true_and]
  refine Ev.seq rfl (Ev.seq rfl (Ev.reg' ?_))
  simp (maxSteps := 2000000) only [go_sem, Nat.reduceBEq, Nat.reduceLT, Nat.reduceAdd, Nat.reduceMul, Nat.reduceLeDiff, Nat.reduceEqDiff, decide_true, decide_false, reduceIte, and_true, true_and, Int.reduceBEq, i11]
  refine Ev.cond' ?_
  simp (maxSteps := 2000000) only [go_sem, Nat.reduceBEq, Nat.reduceLT, Nat.reduceAdd, Nat.reduceMul, Nat.reduceLeDiff, Nat.reduceEqDiff, decide_true, decide_false, reduceIte, and_true, true_and]
  refine Ev.skip ?_
  simp (maxSteps := 2000000) only [go_sem, Nat.reduceBEq, Nat.reduceLT, Nat.reduceAdd, Nat.reduceMul, Nat.reduceLeDiff, Nat.reduceEqDiff, decide_true, decide_false, reduceIte, and_true, true_and]
  refine Ev.seq rfl (Ev.seq rfl (Ev.reg' ?_))
  simp (maxSteps := 2000000) only [go_sem, Nat.reduceBEq, Nat.reduceLT, Nat.reduceAdd, Nat.reduceMul, Nat.reduceLeDiff, Nat.reduceEqDiff, decide_true, decide_false, reduceIte, and_true, true_and, Int.reduceBEq, i11]
  refine Ev.block ?_
  iterate 6 (refine Ev.seq rfl (Ev.reg' ?_); simp (maxSteps := 2000000) only [go_sem, Nat.reduceBEq, Nat.reduceLT, Nat.reduceAdd, Nat.reduceMul, Nat.reduceLeDiff, Nat.reduceEqDiff, decide_true, decide_false, reduceIte, and_true, true_and, Int.reduceBEq]; refine Ev.cond' ?_; simp (maxSteps := 2000000) only [go_sem, Nat.reduceBEq, Nat.reduceLT, Nat.reduceAdd, Nat.reduceMul, Nat.reduceLeDiff, Nat.reduceEqDiff, decide_true, decide_false, reduceIte, and_true, true_and])
  have hjc : j < (pad j T).counts.length := by simp only [pad, List.length_append, List.length_replicate]; omega
  have hjr : j < ((pad j T).counts.map cntC).length := by simpa using hjc
  obtain ⟨k, rfl⟩ : ∃ k, oc = some k := by
    cases oc with
    | some k => exact ⟨k, rfl⟩
    | none => obtain ⟨_, _, e⟩ := hO2; rw [e] at hjr; simp at hjr
  obtain ⟨c, hcj⟩ : ∃ c, (pad j T).counts[j]? = some c := ⟨_, List.getElem?_eq_getElem hjc⟩
  have hgd : (pad j T).counts.getD j 0 = c := by rw [List.getD_eq_getElem?_getD, hcj]; rfl
  have hst : stepS 8 j to T = (if 0 < c then (⟨1, (pad j T).slots, (pad j T).counts.set j (IntKind.i64.wrap (c - 1))⟩, 1, 0) else (⟨to, (pad j T).slots, (pad j T).counts⟩, 1, 0)) := by
    unfold stepS
    rw [if_neg (by omega), if_neg (by omega)]
    simp only [if_true, Int.toNat_natCast, hgd]
    rfl
  rw [hst] at hR
  generalize eL : (l ++ .cells [.int .i64 0, vs, vc] 0 [] :: A1 :: A2 :: .cells zT 0 [] :: .cells zE 0 [] :: .cells [.int .u8 8, .int .u8 0, .int .u8 0, .str [], .nils, .bool false, .nils, .int .i64 0, .int .i64 0, .bool false, .int .u8 0, .str [], .nils, .bool false, .nils, .int .i64 0, .int .i64 0, .bool false, .int .i64 0, .int .i64 to, .int .i64 j, .nils, .nils, .nils, .str [], .str [], .nils] 0 [] :: (g ++ [.cells [.int .i64 1, us, uc] 0 [], .cells [.int .u8 1, .int .i64 0, .nils, .nils, .bool false, .nils, .nils, .str [], .str [], .nils] 0 [], .cells [.nils, .bool false] 0 []]) : List Ob) = L
  have e5 : L[l.length + 5]? = some (.cells [.int .u8 8, .int .u8 0, .int .u8 0, .str [], .nils, .bool false, .nils, .int .i64 0, .int .i64 0, .bool false, .int .u8 0, .str [], .nils, .bool false, .nils, .int .i64 0, .int .i64 0, .bool false, .int .i64 0, .int .i64 to, .int .i64 j, .nils, .nils, .nils, .str [], .str [], .nils] 0 []) := by rw [← eL, gxs]; rfl
  have g6 : L[l.length + 3]? = some (.cells zT 0 []) := by rw [← eL, gxs]; rfl
  have g7 : L[l.length + 4]? = some (.cells zE 0 []) := by rw [← eL, gxs]; rfl
  have g9 : L[l.length + (g.length + 1 + 1 + 1 + 1 + 1 + 1)]? = some (.cells [.int .i64 1, us, uc] 0 []) := by rw [← eL, gxs]; simp only [List.getElem?_cons_succ, gx0]; rfl
  have g10 : L[l.length + (g.length + 1 + 1 + 1 + 1 + 1 + 1 + 1)]? = some (.cells [.int .u8 1, .int .i64 0, .nils, .nils, .bool false, .nils, .nils, .str [], .str [], .nils] 0 []) := by rw [← eL, gxs]; simp only [List.getElem?_cons_succ, gxs]; rfl
  have q1 : Own (l.length + 6) L 2 us rs os := by rw [← eL]; exact (hO1.low (by simp)).keep fun k hk => by subst hk; rw [mapq, List.getElem?_append_left hO1.lt]
  have q2 : Own (l.length + 6) L 1 uc ((pad j T).counts.map cntC) (some k) := by rw [← eL]; exact (hO2.low (by simp)).keep fun k hk => by injection hk with hk; subst hk; rw [mapq, List.getElem?_append_left hO2.lt]
  have nk : l.length + 6 ≤ k ∧ k < l.length + (g.length + 6) := by have h3 := hO2.lt; have := hO2.ge; simp at this h3; omega
  have ns : ∀ q, os = some q → q < l.length + (g.length + 6) := fun q hk => by subst hk; have h3 := hO1.lt; simp at h3; omega
  have hE : idxAddr 1 uc (.int .i64 (j : Int)) = some (.ptr (idOf k) (0 + j * 1)) := q2.addr hjr .i64
  obtain ⟨a, ra, ha1, ha2⟩ := rows_idx q2.rows (r := cntC c) (j := j) (by rw [List.getElem?_map, hcj]; rfl) .i64
  rw [hE] at ha1; injection ha1 with ha1; subst ha1
  rw [cellsAt_ptr] at ha2
  simp only [Nat.zero_add, Nat.mul_one] at hE ha2
  have hcE : ((pad j T).counts.map cntC).set j (cntC (IntKind.i64.wrap (c - 1))) = ((pad j T).counts.set j (IntKind.i64.wrap (c - 1))).map cntC := by rw [List.map_set]
  obtain ⟨i13, ei⟩ : ∃ i, i = l.length + (g.length + 1 + 1 + 1 + 1 + 1 + 1) := ⟨_, rfl⟩
  rw [show l.length + (g.length + 1 + 1 + 1 + 1 + 1 + 1 + 1) = i13 + 1 by omega] at g10 ⊢
  rw [← ei] at g9 ⊢
  have fr : ∀ i, i < l.length → L[i]? = l[i]? := fun i hi => by rw [← eL, List.getElem?_append_left hi]
  refine Ev.seq rfl (Ev.reg' ?_)
  simp (maxSteps := 2000000) only [go_sem, Nat.reduceBEq, Nat.reduceLT, Nat.reduceAdd, Nat.reduceMul, Nat.reduceLeDiff, Nat.reduceEqDiff, decide_true, decide_false, reduceIte, and_true, true_and, g9, e5, i11, hE, ha2]
  refine Ev.cond' ?_
  simp (maxSteps := 2000000) only [go_sem, Nat.reduceBEq, Nat.reduceLT, Nat.reduceAdd, Nat.reduceMul, Nat.reduceLeDiff, Nat.reduceEqDiff, decide_true, decide_false, reduceIte, and_true, true_and]
  by_cases hcp : 0 < c
  · simp only [hcp, decide_true, wpC_true, if_true] at hR ⊢
    obtain ⟨L', hw, hO, hl', hk⟩ := q2.write hjr (r := cntC (IntKind.i64.wrap (c - 1))) rfl
    rw [writeR_ptr] at hw
    simp only [Nat.zero_add, Nat.mul_one] at hw
    refine Ev.reg' ?_
    simp (maxSteps := 2000000) only [go_sem, Nat.reduceBEq, Nat.reduceLT, Nat.reduceAdd, Nat.reduceMul, Nat.reduceLeDiff, Nat.reduceEqDiff, decide_true, decide_false, reduceIte, and_true, true_and, g9, e5, i11, hE, ha2, hw]
    rw [hcE] at hO
    refine rfin (l := l) (L := L') (i13 := i13) (i14 := i13 + 1) (pc := 1) (us := us) (uc := uc) (rs := rs) (cs := ((pad j T).counts.set j (IntKind.i64.wrap (c - 1))).map cntC) (os := os) (oc := some k) (e := [.int .u8 1, .int .i64 0, .nils, .nils, .bool false, .nils, .nils, .str [], .str [], .nils]) ?_ ?_ ?_ ?_ ?_ ?_ ?_ ?_ ?_ rfl (by omega) (by omega) (fun i hi => by rw [hk i (by omega) (.inl (by omega))]; exact fr i hi) ?_ hO ?_
    · simp (maxSteps := 2000000) only [go_sem, Nat.reduceBEq, Nat.reduceLT, Nat.reduceAdd, Nat.reduceMul, Nat.reduceLeDiff, Nat.reduceEqDiff, decide_true, decide_false, reduceIte, and_true, true_and, i8]
    · simp (maxSteps := 2000000) only [go_sem, Nat.reduceBEq, Nat.reduceLT, Nat.reduceAdd, Nat.reduceMul, Nat.reduceLeDiff, Nat.reduceEqDiff, decide_true, decide_false, reduceIte, and_true, true_and, i9]
    · simp (maxSteps := 2000000) only [go_sem, Nat.reduceBEq, Nat.reduceLT, Nat.reduceAdd, Nat.reduceMul, Nat.reduceLeDiff, Nat.reduceEqDiff, decide_true, decide_false, reduceIte, and_true, true_and]
    · simp (maxSteps := 2000000) only [go_sem, Nat.reduceBEq, Nat.reduceLT, Nat.reduceAdd, Nat.reduceMul, Nat.reduceLeDiff, Nat.reduceEqDiff, decide_true, decide_false, reduceIte, and_true, true_and]
    · simp (maxSteps := 2000000) only [go_sem, Nat.reduceBEq, Nat.reduceLT, Nat.reduceAdd, Nat.reduceMul, Nat.reduceLeDiff, Nat.reduceEqDiff, decide_true, decide_false, reduceIte, and_true, true_and]
    · rw [hk _ (by omega) (.inr (by rw [g6]; nofun))]; exact g6
    · rw [hk _ (by omega) (.inr (by rw [g7]; nofun))]; exact g7
    · rw [hk _ (by omega) (.inr (by rw [g9]; nofun))]; exact g9
    · rw [hk _ (by omega) (.inr (by rw [g10]; nofun))]; exact g10
    · refine q1.keep fun q hq => ?_
      have h5 := hne q hq
      subst hq
      obtain ⟨_, anc, _, h6, _⟩ := q1
      rw [hk q (by intro e; exact h5 (by rw [e])) (.inr (by rw [h6]; nofun))]
    · exact fun g' p1 p2 => hR g' _ ⟨us, uc, rs, os, _, rfl, huc, hvc, p1, hA, p2, fun j hj => by subst hj; exact p1.ge, fun j hj => by injection hj with hj; subst hj; exact p2.ge, hne⟩
  · simp only [hcp, decide_false, wpC_false, if_false] at hR ⊢
    refine Ev.reg' ?_
    simp (maxSteps := 2000000) only [go_sem, Nat.reduceBEq, Nat.reduceLT, Nat.reduceAdd, Nat.reduceMul, Nat.reduceLeDiff, Nat.reduceEqDiff, decide_true, decide_false, reduceIte, and_true, true_and, g9, e5, i11, over, Nat.zero_le, Nat.le_refl]
    have k9 := get_lt g9
    have hk : ∀ i, i ≠ i13 → (L.set i13 (.cells [.int .i64 to, us, uc] 0 []))[i]? = L[i]? := fun i hi => List.getElem?_set_ne (fun e => hi e.symm)
    refine rfin (l := l) (i13 := i13) (i14 := i13 + 1) (pc := to) (us := us) (uc := uc) (rs := rs) (cs := (pad j T).counts.map cntC) (os := os) (oc := some k) (e := [.int .u8 1, .int .i64 0, .nils, .nils, .bool false, .nils, .nils, .str [], .str [], .nils]) ?_ ?_ ?_ ?_ ?_ ?_ ?_ ?_ ?_ rfl (by omega) (by omega) (fun i hi => by rw [hk i (by omega)]; exact fr i hi) ?_ ?_ ?_
    · simp (maxSteps := 2000000) only [go_sem, Nat.reduceBEq, Nat.reduceLT, Nat.reduceAdd, Nat.reduceMul, Nat.reduceLeDiff, Nat.reduceEqDiff, decide_true, decide_false, reduceIte, and_true, true_and, i8]
    · simp (maxSteps := 2000000) only [go_sem, Nat.reduceBEq, Nat.reduceLT, Nat.reduceAdd, Nat.reduceMul, Nat.reduceLeDiff, Nat.reduceEqDiff, decide_true, decide_false, reduceIte, and_true, true_and, i9]
    · simp (maxSteps := 2000000) only [go_sem, Nat.reduceBEq, Nat.reduceLT, Nat.reduceAdd, Nat.reduceMul, Nat.reduceLeDiff, Nat.reduceEqDiff, decide_true, decide_false, reduceIte, and_true, true_and]
    · simp (maxSteps := 2000000) only [go_sem, Nat.reduceBEq, Nat.reduceLT, Nat.reduceAdd, Nat.reduceMul, Nat.reduceLeDiff, Nat.reduceEqDiff, decide_true, decide_false, reduceIte, and_true, true_and]
    · simp (maxSteps := 2000000) only [go_sem, Nat.reduceBEq, Nat.reduceLT, Nat.reduceAdd, Nat.reduceMul, Nat.reduceLeDiff, Nat.reduceEqDiff, decide_true, decide_false, reduceIte, and_true, true_and]
    · rw [hk _ (by omega)]; exact g6
    · rw [hk _ (by omega)]; exact g7
    · rw [List.getElem?_set_self k9]
    · rw [hk _ (by omega)]; exact g10
    · exact q1.keep fun q hq => by have := ns q hq; rw [hk q (by omega)]
    · exact q2.keep fun q hq => by injection hq with hq; rw [hk q (by omega)]
    · exact fun g' p1 p2 => hR g' _ ⟨us, uc, rs, os, _, rfl, huc, hvc, p1, hA, p2, fun j hj => by subst hj; exact p1.ge, fun j hj => by injection hj with hj; subst hj; exact p2.ge, hne⟩
end Cs

set_option linter.unusedVariables false
open Go Go.Vm Go.Proofs
namespace Cs
variable [Gl]
/-- The instruction is one that is looked at. -/
theorem refStep_run {l : List Ob} {x t : V} {T : Th} {op slot to : Int} (hx : rows l 27 x = some [insC op slot to]) (h : RdT t T) (hS : Small T) (hop : OpOK op) (n : Nat) (hn : 8000 ≤ n) :
    ∃ u g, callS Tryz.prog Sp n 8 [x, t, .agg [.nils, .nils, .nils, .nils], .agg [.int .i64 0, .nils]] (stL l) = some (.tup [u, effV (stepS op slot to T).2.1, .int .i64 (stepS op slot to T).2.2], stL (l ++ g)) ∧ LvT l g (stepS op slot to T).1 u := by
  obtain ⟨n, rfl⟩ : ∃ m, n = m + 1 := ⟨n - 1, by omega⟩
  suffices hs : ∃ u S', callS Tryz.prog Sp (n + 1) 8 [x, t, .agg [.nils, .nils, .nils, .nils], .agg [.int .i64 0, .nils]] (stL l) = some (u, S') ∧ (∃ u' g, u = .tup [u', effV (stepS op slot to T).2.1, .int .i64 (stepS op slot to T).2.2] ∧ S' = stL (l ++ g) ∧ LvT l g (stepS op slot to T).1 u') by
    obtain ⟨u, S', h, u', g, rfl, rfl, h2⟩ := hs; exact ⟨u', g, h, h2⟩
  have h0 := h
  obtain ⟨vs, vc, rs, rfl, h1, k1, h2, h3, k2⟩ := h
  obtain ⟨lx, a, b, ra, rb, x1, x2, x3, x4⟩ := ins_at hx
  refine runS (fun v h => h) Tryz.func8 rfl (by simp [Tryz.f8]) ?_
  have c1 := rows_cell h1
  have c2 := rows_cell h3
  have c3 := rows_cell hx
  refine Ev.seq rfl (Ev.reg' ?_)
  simp (maxSteps := 2000000) only [go_sem, Nat.reduceBEq, Nat.reduceLT, Nat.reduceAdd, Nat.reduceMul, Nat.reduceLeDiff, Nat.reduceEqDiff, decide_true, decide_false, reduceIte, and_true, true_and]
  refine Ev.seq rfl (Ev.seq rfl (Ev.reg' ?_))
  have bad : (T.pc < 0 ∨ 1 ≤ T.pc ∨ slot < 0 ∨ 4096 < slot) → stepS op slot to T = (tz, 0, 1) := fun h => by unfold stepS; rw [if_pos h]
  by_cases b1 : T.pc < 0
  · rw [bad (.inl b1)]
    simp (maxSteps := 2000000) only [go_sem, Nat.reduceBEq, Nat.reduceLT, Nat.reduceAdd, Nat.reduceMul, Nat.reduceLeDiff, Nat.reduceEqDiff, decide_true, decide_false, reduceIte, and_true, true_and, b1]
    refine Ev.cond' ?_
    simp (maxSteps := 2000000) only [go_sem, Nat.reduceBEq, Nat.reduceLT, Nat.reduceAdd, Nat.reduceMul, Nat.reduceLeDiff, Nat.reduceEqDiff, decide_true, decide_false, reduceIte, and_true, true_and]
    refine Ev.seq rfl (Ev.reg' ?_)
    simp (maxSteps := 2000000) only [go_sem, Nat.reduceBEq, Nat.reduceLT, Nat.reduceAdd, Nat.reduceMul, Nat.reduceLeDiff, Nat.reduceEqDiff, decide_true, decide_false, reduceIte, and_true, true_and, over_all, Nat.zero_le, Nat.le_refl]
    refine Ev.ret ?_
    simp (maxSteps := 2000000) only [go_sem, Nat.reduceBEq, Nat.reduceLT, Nat.reduceAdd, Nat.reduceMul, Nat.reduceLeDiff, Nat.reduceEqDiff, decide_true, decide_false, reduceIte, and_true, true_and]
    refine Ret.cct rfl (u := .agg zT) (v := effV 0) (by simp (maxSteps := 2000000) only [go_sem, Nat.reduceBEq, Nat.reduceLT, Nat.reduceAdd, Nat.reduceMul, Nat.reduceLeDiff, Nat.reduceEqDiff, decide_true, decide_false, reduceIte, and_true, true_and]) (by simp (maxSteps := 2000000) only [go_sem, Nat.reduceBEq, Nat.reduceLT, Nat.reduceAdd, Nat.reduceMul, Nat.reduceLeDiff, Nat.reduceEqDiff, decide_true, decide_false, reduceIte, and_true, true_and]; rfl) ?_
    simp (maxSteps := 2000000) only [go_sem, Nat.reduceBEq, Nat.reduceLT, Nat.reduceAdd, Nat.reduceMul, Nat.reduceLeDiff, Nat.reduceEqDiff, decide_true, decide_false, reduceIte, and_true, true_and]
    exact ⟨_, _, rfl, rfl, lvt_zero ..⟩

  by_cases b2 : 1 ≤ T.pc
  · rw [bad (.inr (.inl b2))]
    have b2' : ((1 : Nat) : Int) ≤ T.pc := b2
    simp (maxSteps := 2000000) only [go_sem, Nat.reduceBEq, Nat.reduceLT, Nat.reduceAdd, Nat.reduceMul, Nat.reduceLeDiff, Nat.reduceEqDiff, decide_true, decide_false, reduceIte, and_true, true_and, b1, b2', lx]
    refine Ev.cond' ?_
    simp (maxSteps := 2000000) only [go_sem, Nat.reduceBEq, Nat.reduceLT, Nat.reduceAdd, Nat.reduceMul, Nat.reduceLeDiff, Nat.reduceEqDiff, decide_true, decide_false, reduceIte, and_true, true_and]
    refine Ev.seq rfl (Ev.reg' ?_)
    simp (maxSteps := 2000000) only [go_sem, Nat.reduceBEq, Nat.reduceLT, Nat.reduceAdd, Nat.reduceMul, Nat.reduceLeDiff, Nat.reduceEqDiff, decide_true, decide_false, reduceIte, and_true, true_and, over_all, Nat.zero_le, Nat.le_refl]
    refine Ev.ret ?_
    simp (maxSteps := 2000000) only [go_sem, Nat.reduceBEq, Nat.reduceLT, Nat.reduceAdd, Nat.reduceMul, Nat.reduceLeDiff, Nat.reduceEqDiff, decide_true, decide_false, reduceIte, and_true, true_and]
    refine Ret.cct rfl (u := .agg zT) (v := effV 0) (by simp (maxSteps := 2000000) only [go_sem, Nat.reduceBEq, Nat.reduceLT, Nat.reduceAdd, Nat.reduceMul, Nat.reduceLeDiff, Nat.reduceEqDiff, decide_true, decide_false, reduceIte, and_true, true_and]) (by simp (maxSteps := 2000000) only [go_sem, Nat.reduceBEq, Nat.reduceLT, Nat.reduceAdd, Nat.reduceMul, Nat.reduceLeDiff, Nat.reduceEqDiff, decide_true, decide_false, reduceIte, and_true, true_and]; rfl) ?_
    simp (maxSteps := 2000000) only [go_sem, Nat.reduceBEq, Nat.reduceLT, Nat.reduceAdd, Nat.reduceMul, Nat.reduceLeDiff, Nat.reduceEqDiff, decide_true, decide_false, reduceIte, and_true, true_and]
    exact ⟨_, _, rfl, rfl, lvt_zero ..⟩

  have hp : T.pc = 0 := by omega
  have n0 : ¬ (0 : Int) < 0 := by omega
  have n1 : ¬ ((1 : Nat) : Int) ≤ 0 := by omega
  rw [hp] at h0 ⊢
  by_cases b3 : slot < 0
  · rw [bad (.inr (.inr (.inl b3)))]
    simp (maxSteps := 2000000) only [go_sem, Nat.reduceBEq, Nat.reduceLT, Nat.reduceAdd, Nat.reduceMul, Nat.reduceLeDiff, Nat.reduceEqDiff, decide_true, decide_false, reduceIte, and_true, true_and, n0, n1, lx, x1, x3, x4, b3]
    refine Ev.cond' ?_
    simp (maxSteps := 2000000) only [go_sem, Nat.reduceBEq, Nat.reduceLT, Nat.reduceAdd, Nat.reduceMul, Nat.reduceLeDiff, Nat.reduceEqDiff, decide_true, decide_false, reduceIte, and_true, true_and]
    refine Ev.seq rfl (Ev.reg' ?_)
    simp (maxSteps := 2000000) only [go_sem, Nat.reduceBEq, Nat.reduceLT, Nat.reduceAdd, Nat.reduceMul, Nat.reduceLeDiff, Nat.reduceEqDiff, decide_true, decide_false, reduceIte, and_true, true_and, over_all, Nat.zero_le, Nat.le_refl]
    refine Ev.ret ?_
    simp (maxSteps := 2000000) only [go_sem, Nat.reduceBEq, Nat.reduceLT, Nat.reduceAdd, Nat.reduceMul, Nat.reduceLeDiff, Nat.reduceEqDiff, decide_true, decide_false, reduceIte, and_true, true_and]
    refine Ret.cct rfl (u := .agg zT) (v := effV 0) (by simp (maxSteps := 2000000) only [go_sem, Nat.reduceBEq, Nat.reduceLT, Nat.reduceAdd, Nat.reduceMul, Nat.reduceLeDiff, Nat.reduceEqDiff, decide_true, decide_false, reduceIte, and_true, true_and]) (by simp (maxSteps := 2000000) only [go_sem, Nat.reduceBEq, Nat.reduceLT, Nat.reduceAdd, Nat.reduceMul, Nat.reduceLeDiff, Nat.reduceEqDiff, decide_true, decide_false, reduceIte, and_true, true_and]; rfl) ?_
    simp (maxSteps := 2000000) only [go_sem, Nat.reduceBEq, Nat.reduceLT, Nat.reduceAdd, Nat.reduceMul, Nat.reduceLeDiff, Nat.reduceEqDiff, decide_true, decide_false, reduceIte, and_true, true_and]
    exact ⟨_, _, rfl, rfl, lvt_zero ..⟩

  by_cases b4 : 4096 < slot
  · rw [bad (.inr (.inr (.inr b4)))]
    simp (maxSteps := 2000000) only [go_sem, Nat.reduceBEq, Nat.reduceLT, Nat.reduceAdd, Nat.reduceMul, Nat.reduceLeDiff, Nat.reduceEqDiff, decide_true, decide_false, reduceIte, and_true, true_and, n0, n1, lx, x1, x3, x4, b3, b4]
    refine Ev.cond' ?_
    simp (maxSteps := 2000000) only [go_sem, Nat.reduceBEq, Nat.reduceLT, Nat.reduceAdd, Nat.reduceMul, Nat.reduceLeDiff, Nat.reduceEqDiff, decide_true, decide_false, reduceIte, and_true, true_and]
    refine Ev.seq rfl (Ev.reg' ?_)
    simp (maxSteps := 2000000) only [go_sem, Nat.reduceBEq, Nat.reduceLT, Nat.reduceAdd, Nat.reduceMul, Nat.reduceLeDiff, Nat.reduceEqDiff, decide_true, decide_false, reduceIte, and_true, true_and, over_all, Nat.zero_le, Nat.le_refl]
    refine Ev.ret ?_
    simp (maxSteps := 2000000) only [go_sem, Nat.reduceBEq, Nat.reduceLT, Nat.reduceAdd, Nat.reduceMul, Nat.reduceLeDiff, Nat.reduceEqDiff, decide_true, decide_false, reduceIte, and_true, true_and]
    refine Ret.cct rfl (u := .agg zT) (v := effV 0) (by simp (maxSteps := 2000000) only [go_sem, Nat.reduceBEq, Nat.reduceLT, Nat.reduceAdd, Nat.reduceMul, Nat.reduceLeDiff, Nat.reduceEqDiff, decide_true, decide_false, reduceIte, and_true, true_and]) (by simp (maxSteps := 2000000) only [go_sem, Nat.reduceBEq, Nat.reduceLT, Nat.reduceAdd, Nat.reduceMul, Nat.reduceLeDiff, Nat.reduceEqDiff, decide_true, decide_false, reduceIte, and_true, true_and]; rfl) ?_
    simp (maxSteps := 2000000) only [go_sem, Nat.reduceBEq, Nat.reduceLT, Nat.reduceAdd, Nat.reduceMul, Nat.reduceLeDiff, Nat.reduceEqDiff, decide_true, decide_false, reduceIte, and_true, true_and]
    exact ⟨_, _, rfl, rfl, lvt_zero ..⟩

  simp (maxSteps := 2000000) only [go_sem, Nat.reduceBEq, Nat.reduceLT, Nat.reduceAdd, Nat.reduceMul, Nat.reduceLeDiff, Nat.reduceEqDiff, decide_true, decide_false, reduceIte, and_true, true_and, n0, n1, lx, x1, x3, x4, b3, b4]
  refine Ev.cond' ?_
  simp (maxSteps := 2000000) only [go_sem, Nat.reduceBEq, Nat.reduceLT, Nat.reduceAdd, Nat.reduceMul, Nat.reduceLeDiff, Nat.reduceEqDiff, decide_true, decide_false, reduceIte, and_true, true_and]
  refine Ev.skip ?_
  simp (maxSteps := 2000000) only [go_sem, Nat.reduceBEq, Nat.reduceLT, Nat.reduceAdd, Nat.reduceMul, Nat.reduceLeDiff, Nat.reduceEqDiff, decide_true, decide_false, reduceIte, and_true, true_and]
  refine Ev.seq rfl (Ev.reg' ?_)
  simp (maxSteps := 2000000) only [go_sem, Nat.reduceBEq, Nat.reduceLT, Nat.reduceAdd, Nat.reduceMul, Nat.reduceLeDiff, Nat.reduceEqDiff, decide_true, decide_false, reduceIte, and_true, true_and, x1, x2, takeN_app (insC_len op slot to), insC, over, Nat.zero_le, Nat.le_refl]
  refine Ev.seq rfl (Ev.seq rfl (Ev.reg' ?_))
  by_cases b5 : op < 1 ∨ 15 < op
  · have hst : stepS op slot to T = (tz, 0, 11) := by unfold stepS; rw [if_neg (by omega), if_pos b5]
    rw [hst]
    rcases Int.lt_or_le op 1 with b6 | b6
    · simp (maxSteps := 2000000) only [go_sem, Nat.reduceBEq, Nat.reduceLT, Nat.reduceAdd, Nat.reduceMul, Nat.reduceLeDiff, Nat.reduceEqDiff, decide_true, decide_false, reduceIte, and_true, true_and, insC, b6]
      refine Ev.cond' ?_
      simp (maxSteps := 2000000) only [go_sem, Nat.reduceBEq, Nat.reduceLT, Nat.reduceAdd, Nat.reduceMul, Nat.reduceLeDiff, Nat.reduceEqDiff, decide_true, decide_false, reduceIte, and_true, true_and]
      refine Ev.seq rfl (Ev.reg' ?_)
      simp (maxSteps := 2000000) only [go_sem, Nat.reduceBEq, Nat.reduceLT, Nat.reduceAdd, Nat.reduceMul, Nat.reduceLeDiff, Nat.reduceEqDiff, decide_true, decide_false, reduceIte, and_true, true_and, over_all, Nat.zero_le, Nat.le_refl]
      refine Ev.ret ?_
      simp (maxSteps := 2000000) only [go_sem, Nat.reduceBEq, Nat.reduceLT, Nat.reduceAdd, Nat.reduceMul, Nat.reduceLeDiff, Nat.reduceEqDiff, decide_true, decide_false, reduceIte, and_true, true_and]
      refine Ret.cct rfl (u := .agg zT) (v := effV 0) (by simp (maxSteps := 2000000) only [go_sem, Nat.reduceBEq, Nat.reduceLT, Nat.reduceAdd, Nat.reduceMul, Nat.reduceLeDiff, Nat.reduceEqDiff, decide_true, decide_false, reduceIte, and_true, true_and]) (by simp (maxSteps := 2000000) only [go_sem, Nat.reduceBEq, Nat.reduceLT, Nat.reduceAdd, Nat.reduceMul, Nat.reduceLeDiff, Nat.reduceEqDiff, decide_true, decide_false, reduceIte, and_true, true_and]; rfl) ?_
      simp (maxSteps := 2000000) only [go_sem, Nat.reduceBEq, Nat.reduceLT, Nat.reduceAdd, Nat.reduceMul, Nat.reduceLeDiff, Nat.reduceEqDiff, decide_true, decide_false, reduceIte, and_true, true_and]
      exact ⟨_, _, rfl, rfl, lvt_zero ..⟩

    · have b7 : ¬ op < 1 := by omega
      have b8 : 15 < op := by omega
      simp (maxSteps := 2000000) only [go_sem, Nat.reduceBEq, Nat.reduceLT, Nat.reduceAdd, Nat.reduceMul, Nat.reduceLeDiff, Nat.reduceEqDiff, decide_true, decide_false, reduceIte, and_true, true_and, insC, b7, b8]
      refine Ev.cond' ?_
      simp (maxSteps := 2000000) only [go_sem, Nat.reduceBEq, Nat.reduceLT, Nat.reduceAdd, Nat.reduceMul, Nat.reduceLeDiff, Nat.reduceEqDiff, decide_true, decide_false, reduceIte, and_true, true_and]
      refine Ev.seq rfl (Ev.reg' ?_)
      simp (maxSteps := 2000000) only [go_sem, Nat.reduceBEq, Nat.reduceLT, Nat.reduceAdd, Nat.reduceMul, Nat.reduceLeDiff, Nat.reduceEqDiff, decide_true, decide_false, reduceIte, and_true, true_and, over_all, Nat.zero_le, Nat.le_refl]
      refine Ev.ret ?_
      simp (maxSteps := 2000000) only [go_sem, Nat.reduceBEq, Nat.reduceLT, Nat.reduceAdd, Nat.reduceMul, Nat.reduceLeDiff, Nat.reduceEqDiff, decide_true, decide_false, reduceIte, and_true, true_and]
      refine Ret.cct rfl (u := .agg zT) (v := effV 0) (by simp (maxSteps := 2000000) only [go_sem, Nat.reduceBEq, Nat.reduceLT, Nat.reduceAdd, Nat.reduceMul, Nat.reduceLeDiff, Nat.reduceEqDiff, decide_true, decide_false, reduceIte, and_true, true_and]) (by simp (maxSteps := 2000000) only [go_sem, Nat.reduceBEq, Nat.reduceLT, Nat.reduceAdd, Nat.reduceMul, Nat.reduceLeDiff, Nat.reduceEqDiff, decide_true, decide_false, reduceIte, and_true, true_and]; rfl) ?_
      simp (maxSteps := 2000000) only [go_sem, Nat.reduceBEq, Nat.reduceLT, Nat.reduceAdd, Nat.reduceMul, Nat.reduceLeDiff, Nat.reduceEqDiff, decide_true, decide_false, reduceIte, and_true, true_and]
      exact ⟨_, _, rfl, rfl, lvt_zero ..⟩

  have b7 : ¬ op < 1 := by omega
  have b8 : ¬ 15 < op := by omega
  simp (maxSteps := 2000000) only [go_sem, Nat.reduceBEq, Nat.reduceLT, Nat.reduceAdd, Nat.reduceMul, Nat.reduceLeDiff, Nat.reduceEqDiff, decide_true, decide_false, reduceIte, and_true, true_and, insC, b7, b8]
  refine Ev.cond' ?_
  simp (maxSteps := 2000000) only [go_sem, Nat.reduceBEq, Nat.reduceLT, Nat.reduceAdd, Nat.reduceMul, Nat.reduceLeDiff, Nat.reduceEqDiff, decide_true, decide_false, reduceIte, and_true, true_and]
  refine Ev.skip ?_
  simp (maxSteps := 2000000) only [go_sem, Nat.reduceBEq, Nat.reduceLT, Nat.reduceAdd, Nat.reduceMul, Nat.reduceLeDiff, Nat.reduceEqDiff, decide_true, decide_false, reduceIte, and_true, true_and]
  have hop' : op = 5 ∨ op = 8 ∨ op = 10 ∨ op = 14 ∨ op = 15 := by unfold OpOK at hop; omega
  have hR : (stepS op slot to T).2.2 = 0 → ∀ (g : List Ob) (u : V), LvT l g (stepS op slot to T).1 u → ∃ u' g', (.tup [u, effV (stepS op slot to T).2.1, .int .i64 0] : V) = .tup [u', effV (stepS op slot to T).2.1, .int .i64 (stepS op slot to T).2.2] ∧ stL (l ++ g) = stL (l ++ g') ∧ LvT l g' (stepS op slot to T).1 u' := by
    intro e0 g u hu
    rw [e0]
    exact ⟨u, g, rfl, rfl, hu⟩
  have hok : ∀ o : Int, o = 5 ∨ o = 10 ∨ o = 14 ∨ o = 15 → (stepS o slot to T).2.2 = 0 := by
    intro o ho
    rcases ho with rfl | rfl | rfl | rfl <;> (unfold stepS; rw [if_neg (by omega), if_neg (by omega)]; rfl)
  have hok8 : (stepS 8 slot to T).2.2 = 0 := by
    unfold stepS
    rw [if_neg (by omega), if_neg (by omega)]
    simp only [if_true]
    split
    · rename_i h; exact absurd h (by omega)
    · split <;> rfl
  have hb : 0 ≤ slot ∧ slot ≤ 4096 := by omega
  rcases hop' with rfl | rfl | rfl | rfl | rfl
  · exact rstep5 h0 hS hp hb (by omega) (by simp (maxSteps := 2000000) only [go_sem, Nat.reduceBEq, Nat.reduceLT, Nat.reduceAdd, Nat.reduceMul, Nat.reduceLeDiff, Nat.reduceEqDiff, decide_true, decide_false, reduceIte, and_true, true_and]) (by simp (maxSteps := 2000000) only [go_sem, Nat.reduceBEq, Nat.reduceLT, Nat.reduceAdd, Nat.reduceMul, Nat.reduceLeDiff, Nat.reduceEqDiff, decide_true, decide_false, reduceIte, and_true, true_and]) (by simp (maxSteps := 2000000) only [go_sem, Nat.reduceBEq, Nat.reduceLT, Nat.reduceAdd, Nat.reduceMul, Nat.reduceLeDiff, Nat.reduceEqDiff, decide_true, decide_false, reduceIte, and_true, true_and]) (by simp (maxSteps := 2000000) only [go_sem, Nat.reduceBEq, Nat.reduceLT, Nat.reduceAdd, Nat.reduceMul, Nat.reduceLeDiff, Nat.reduceEqDiff, decide_true, decide_false, reduceIte, and_true, true_and]) (hR (hok _ (by omega)))
  · obtain ⟨j, rfl⟩ : ∃ j : Nat, slot = (j : Int) := ⟨slot.toNat, by omega⟩
    exact rstep8 h0 hS hp (by omega) (by omega) (by simp (maxSteps := 2000000) only [go_sem, Nat.reduceBEq, Nat.reduceLT, Nat.reduceAdd, Nat.reduceMul, Nat.reduceLeDiff, Nat.reduceEqDiff, decide_true, decide_false, reduceIte, and_true, true_and]) (by simp (maxSteps := 2000000) only [go_sem, Nat.reduceBEq, Nat.reduceLT, Nat.reduceAdd, Nat.reduceMul, Nat.reduceLeDiff, Nat.reduceEqDiff, decide_true, decide_false, reduceIte, and_true, true_and]) (by simp (maxSteps := 2000000) only [go_sem, Nat.reduceBEq, Nat.reduceLT, Nat.reduceAdd, Nat.reduceMul, Nat.reduceLeDiff, Nat.reduceEqDiff, decide_true, decide_false, reduceIte, and_true, true_and]) (by simp (maxSteps := 2000000) only [go_sem, Nat.reduceBEq, Nat.reduceLT, Nat.reduceAdd, Nat.reduceMul, Nat.reduceLeDiff, Nat.reduceEqDiff, decide_true, decide_false, reduceIte, and_true, true_and]) (hR hok8)
  · exact rstep10 h0 hS hp hb (by omega) (by simp (maxSteps := 2000000) only [go_sem, Nat.reduceBEq, Nat.reduceLT, Nat.reduceAdd, Nat.reduceMul, Nat.reduceLeDiff, Nat.reduceEqDiff, decide_true, decide_false, reduceIte, and_true, true_and]) (by simp (maxSteps := 2000000) only [go_sem, Nat.reduceBEq, Nat.reduceLT, Nat.reduceAdd, Nat.reduceMul, Nat.reduceLeDiff, Nat.reduceEqDiff, decide_true, decide_false, reduceIte, and_true, true_and]) (by simp (maxSteps := 2000000) only [go_sem, Nat.reduceBEq, Nat.reduceLT, Nat.reduceAdd, Nat.reduceMul, Nat.reduceLeDiff, Nat.reduceEqDiff, decide_true, decide_false, reduceIte, and_true, true_and]) (by simp (maxSteps := 2000000) only [go_sem, Nat.reduceBEq, Nat.reduceLT, Nat.reduceAdd, Nat.reduceMul, Nat.reduceLeDiff, Nat.reduceEqDiff, decide_true, decide_false, reduceIte, and_true, true_and]) (hR (hok _ (by omega)))
  · exact rstep14 h0 hS hp hb (by omega) (by simp (maxSteps := 2000000) only [go_sem, Nat.reduceBEq, Nat.reduceLT, Nat.reduceAdd, Nat.reduceMul, Nat.reduceLeDiff, Nat.reduceEqDiff, decide_true, decide_false, reduceIte, and_true, true_and]) (by simp (maxSteps := 2000000) only [go_sem, Nat.reduceBEq, Nat.reduceLT, Nat.reduceAdd, Nat.reduceMul, Nat.reduceLeDiff, Nat.reduceEqDiff, decide_true, decide_false, reduceIte, and_true, true_and]) (by simp (maxSteps := 2000000) only [go_sem, Nat.reduceBEq, Nat.reduceLT, Nat.reduceAdd, Nat.reduceMul, Nat.reduceLeDiff, Nat.reduceEqDiff, decide_true, decide_false, reduceIte, and_true, true_and]) (by simp (maxSteps := 2000000) only [go_sem, Nat.reduceBEq, Nat.reduceLT, Nat.reduceAdd, Nat.reduceMul, Nat.reduceLeDiff, Nat.reduceEqDiff, decide_true, decide_false, reduceIte, and_true, true_and]) (hR (hok _ (by omega)))
  · exact rstep15 h0 hS hp hb (by omega) (by simp (maxSteps := 2000000) only [go_sem, Nat.reduceBEq, Nat.reduceLT, Nat.reduceAdd, Nat.reduceMul, Nat.reduceLeDiff, Nat.reduceEqDiff, decide_true, decide_false, reduceIte, and_true, true_and]) (by simp (maxSteps := 2000000) only [go_sem, Nat.reduceBEq, Nat.reduceLT, Nat.reduceAdd, Nat.reduceMul, Nat.reduceLeDiff, Nat.reduceEqDiff, decide_true, decide_false, reduceIte, and_true, true_and]) (by simp (maxSteps := 2000000) only [go_sem, Nat.reduceBEq, Nat.reduceLT, Nat.reduceAdd, Nat.reduceMul, Nat.reduceLeDiff, Nat.reduceEqDiff, decide_true, decide_false, reduceIte, and_true, true_and]) (by simp (maxSteps := 2000000) only [go_sem, Nat.reduceBEq, Nat.reduceLT, Nat.reduceAdd, Nat.reduceMul, Nat.reduceLeDiff, Nat.reduceEqDiff, decide_true, decide_false, reduceIte, and_true, true_and]) (hR (hok _ (by omega)))
end Cs

set_option linter.unusedVariables false
open Go Go.Vm Go.Proofs
namespace Cs
variable [Gl]
/-- A thread that is only read. -/
def RdL (l : List Ob) (v : V) (T : Th) : Prop := ∃ vs vc rs, v = .agg [.int .i64 T.pc, vs, vc] ∧ rows l 2 vs = some rs ∧ All2 RdV rs T.slots ∧ rows l 1 vc = some (T.counts.map cntC)
theorem RdL.app {l g : List Ob} {v : V} {T : Th} (h : RdL l v T) : RdL (l ++ g) v T := by
  obtain ⟨vs, vc, rs, rfl, h1, h2, h3⟩ := h
  exact ⟨vs, vc, rs, rfl, rows_app h1, h2, rows_app h3⟩
theorem LvT.rd {l g : List Ob} {v : V} {T : Th} (h : LvT l g T v) : RdL (l ++ g) v T := by
  obtain ⟨us, uc, rs, os, oc, rfl, h7, h8, h1, h2, h3, h4, h5, h6⟩ := h
  exact ⟨us, uc, rs, rfl, h1.rows, h2, h3.rows⟩
theorem sameThread_run {l : List Ob} {a b : V} {T : Th} (ha : RdL l a T) (hb : RdL l b T) (hS : Small T) (n : Nat) (hn : 6000 ≤ n) :
    ∃ g, callS Tryz.prog Sp n 9 [a, b] (stL l) = some (.bool true, stL (l ++ g)) := by
  obtain ⟨n, rfl⟩ : ∃ m, n = m + 1 := ⟨n - 1, by omega⟩
  suffices hs : ∃ u S', callS Tryz.prog Sp (n + 1) 9 [a, b] (stL l) = some (u, S') ∧ (u = .bool true ∧ ∃ g, S' = stL (l ++ g)) by
    obtain ⟨u, S', h, rfl, g, rfl⟩ := hs; exact ⟨g, h⟩
  obtain ⟨vs, vc, rs, rfl, h1, h2, h3⟩ := ha
  obtain ⟨ws, wc, qs, rfl, g1, g2, g3⟩ := hb
  obtain ⟨s1, s2, s3⟩ := hS
  refine runS (fun v h => h) Tryz.func9 rfl (by simp [Tryz.f9]) ?_
  have c1 := rows_cell h1
  have c2 := rows_cell h3
  have d1 := rows_cell g1
  have d2 := rows_cell g3
  have l1 := rows_len h1
  rw [h2.length] at l1
  have l2 := rows_len g1
  rw [g2.length] at l2
  have l3 := rows_len h3
  have l4 := rows_len g3
  simp only [List.length_map] at l3 l4
  refine Ev.seq rfl (Ev.reg' ?_)
  simp (maxSteps := 2000000) only [go_sem, Nat.reduceBEq, Nat.reduceLT, Nat.reduceAdd, Nat.reduceMul, Nat.reduceLeDiff, Nat.reduceEqDiff, decide_true, decide_false, reduceIte, and_true, true_and]
  refine Ev.seq rfl (Ev.seq rfl (Ev.reg' ?_))
  simp (maxSteps := 2000000) only [go_sem, Nat.reduceBEq, Nat.reduceLT, Nat.reduceAdd, Nat.reduceMul, Nat.reduceLeDiff, Nat.reduceEqDiff, decide_true, decide_false, reduceIte, and_true, true_and, bne_self_eq_false]
  refine Ev.cond' ?_
  simp (maxSteps := 2000000) only [go_sem, Nat.reduceBEq, Nat.reduceLT, Nat.reduceAdd, Nat.reduceMul, Nat.reduceLeDiff, Nat.reduceEqDiff, decide_true, decide_false, reduceIte, and_true, true_and]
  refine Ev.skip ?_
  simp (maxSteps := 2000000) only [go_sem, Nat.reduceBEq, Nat.reduceLT, Nat.reduceAdd, Nat.reduceMul, Nat.reduceLeDiff, Nat.reduceEqDiff, decide_true, decide_false, reduceIte, and_true, true_and]
  refine Ev.seq rfl (Ev.seq rfl (Ev.reg' ?_))
  simp (maxSteps := 2000000) only [go_sem, Nat.reduceBEq, Nat.reduceLT, Nat.reduceAdd, Nat.reduceMul, Nat.reduceLeDiff, Nat.reduceEqDiff, decide_true, decide_false, reduceIte, and_true, true_and]
  refine Ev.block (Ev.loop (fun k t S => t 2 = .ptr (idOf l.length) 0 ∧ t 3 = .ptr (idOf (l.length + 1)) 0 ∧ (∃ g, S = stL (l ++ .cells [.int .i64 T.pc, vs, vc] 0 [] :: .cells [.int .i64 T.pc, ws, wc] 0 [] :: g)) ∧ ∃ j : Nat, t 5 = .int .i64 (j : Int) ∧ j + k = T.slots.length) T.slots.length (by omega) ?_ ?_)
  · simp (maxSteps := 2000000) only [go_sem, Nat.reduceBEq, Nat.reduceLT, Nat.reduceAdd, Nat.reduceMul, Nat.reduceLeDiff, Nat.reduceEqDiff, decide_true, decide_false, reduceIte, and_true, true_and]
    exact ⟨⟨[], rfl⟩, 0, rfl, by omega⟩
  intro k t S ⟨i2, i3, ⟨g, iS⟩, j, i5, hjk⟩
  subst iS
  refine Ev.seq rfl (Ev.seq rfl (Ev.reg' ?_))
  by_cases hj : (j : Int) < (T.slots.length : Int)
  · simp (maxSteps := 2000000) only [go_sem, Nat.reduceBEq, Nat.reduceLT, Nat.reduceAdd, Nat.reduceMul, Nat.reduceLeDiff, Nat.reduceEqDiff, decide_true, decide_false, reduceIte, and_true, true_and, i2, i3, i5, l1, l2, hj]
    refine Ev.cond' ?_
    simp (maxSteps := 2000000) only [go_sem, Nat.reduceBEq, Nat.reduceLT, Nat.reduceAdd, Nat.reduceMul, Nat.reduceLeDiff, Nat.reduceEqDiff, decide_true, decide_false, reduceIte, and_true, true_and]
    refine Ev.skip ?_
    simp (maxSteps := 2000000) only [go_sem, Nat.reduceBEq, Nat.reduceLT, Nat.reduceAdd, Nat.reduceMul, Nat.reduceLeDiff, Nat.reduceEqDiff, decide_true, decide_false, reduceIte, and_true, true_and]
    have hj' : j < T.slots.length := by exact_mod_cast hj
    have hx := List.getElem?_eq_getElem hj'
    obtain ⟨c, hc1, hc2⟩ := all2_get h2 hx
    obtain ⟨d, hd1, hd2⟩ := all2_get g2 hx
    obtain ⟨p, rp, hp1, hp2⟩ := rows_idx (rows_app (g := .cells [.int .i64 T.pc, vs, vc] 0 [] :: .cells [.int .i64 T.pc, ws, wc] 0 [] :: (g ++ [.cells [.nils, .bool false] 0 [], .cells [.nils, .bool false] 0 []])) h1) hc1 .i64
    obtain ⟨q, rq, hq1, hq2⟩ := rows_idx (rows_app (g := .cells [.int .i64 T.pc, vs, vc] 0 [] :: .cells [.int .i64 T.pc, ws, wc] 0 [] :: (g ++ [.cells c 0 [], .cells [.nils, .bool false] 0 []])) g1) hd1 .i64
    obtain ⟨v', hv', hvc, hcall⟩ := (same_kc hc2 hd2 (s3 _ (List.getElem_mem hj'))).call
    obtain rfl := hv' c d _ rfl hc2 hd2
    refine Ev.seq rfl (Ev.block (Ev.seq rfl (Ev.reg' ?_)))
    simp (maxSteps := 2000000) only [go_sem, Nat.reduceBEq, Nat.reduceLT, Nat.reduceAdd, Nat.reduceMul, Nat.reduceLeDiff, Nat.reduceEqDiff, decide_true, decide_false, reduceIte, and_true, true_and]
    refine Ev.seq rfl (Ev.seq rfl (Ev.reg' ?_))
    simp (maxSteps := 2000000) only [go_sem, Nat.reduceBEq, Nat.reduceLT, Nat.reduceAdd, Nat.reduceMul, Nat.reduceLeDiff, Nat.reduceEqDiff, decide_true, decide_false, reduceIte, and_true, true_and, i2, i3, i5, l1, hj]
    refine Ev.cond' ?_
    simp (maxSteps := 2000000) only [go_sem, Nat.reduceBEq, Nat.reduceLT, Nat.reduceAdd, Nat.reduceMul, Nat.reduceLeDiff, Nat.reduceEqDiff, decide_true, decide_false, reduceIte, and_true, true_and]
    refine Ev.reg' ?_
    simp (maxSteps := 2000000) only [go_sem, Nat.reduceBEq, Nat.reduceLT, Nat.reduceAdd, Nat.reduceMul, Nat.reduceLeDiff, Nat.reduceEqDiff, decide_true, decide_false, reduceIte, and_true, true_and, i2, i5, hp1, hp2, takeN_app hc2.len, hc2.len, over, List.append_nil, Nat.zero_le, Nat.le_refl]
    refine Ev.seq rfl (Ev.seq rfl (Ev.reg' ?_))
    simp (maxSteps := 2000000) only [go_sem, Nat.reduceBEq, Nat.reduceLT, Nat.reduceAdd, Nat.reduceMul, Nat.reduceLeDiff, Nat.reduceEqDiff, decide_true, decide_false, reduceIte, and_true, true_and, i2, i3, i5, l2, hj]
    refine Ev.cond' ?_
    simp (maxSteps := 2000000) only [go_sem, Nat.reduceBEq, Nat.reduceLT, Nat.reduceAdd, Nat.reduceMul, Nat.reduceLeDiff, Nat.reduceEqDiff, decide_true, decide_false, reduceIte, and_true, true_and]
    refine Ev.reg' ?_
    simp (maxSteps := 2000000) only [go_sem, Nat.reduceBEq, Nat.reduceLT, Nat.reduceAdd, Nat.reduceMul, Nat.reduceLeDiff, Nat.reduceEqDiff, decide_true, decide_false, reduceIte, and_true, true_and, i3, i5, hq1, hq2, takeN_app hd2.len, hd2.len, over, List.append_nil, Nat.zero_le, Nat.le_refl]
    refine Ev.seq rfl (Ev.reg' ?_)
    simp (maxSteps := 2000000) only [go_sem, Nat.reduceBEq, Nat.reduceLT, Nat.reduceAdd, Nat.reduceMul, Nat.reduceLeDiff, Nat.reduceEqDiff, decide_true, decide_false, reduceIte, and_true, true_and, hc2.len, hd2.len, takeN_some, List.take_of_length_le, Nat.le_refl, hcall]
    refine Ev.cond' ?_
    simp (maxSteps := 2000000) only [go_sem, Nat.reduceBEq, Nat.reduceLT, Nat.reduceAdd, Nat.reduceMul, Nat.reduceLeDiff, Nat.reduceEqDiff, decide_true, decide_false, reduceIte, and_true, true_and, Bool.not_true]
    refine Ev.skip ?_
    simp (maxSteps := 2000000) only [go_sem, Nat.reduceBEq, Nat.reduceLT, Nat.reduceAdd, Nat.reduceMul, Nat.reduceLeDiff, Nat.reduceEqDiff, decide_true, decide_false, reduceIte, and_true, true_and]
    refine Ev.reg' ?_
    simp (maxSteps := 2000000) only [go_sem, Nat.reduceBEq, Nat.reduceLT, Nat.reduceAdd, Nat.reduceMul, Nat.reduceLeDiff, Nat.reduceEqDiff, decide_true, decide_false, reduceIte, and_true, true_and, i2, i3, i5]
    exact ⟨k - 1, by omega, ⟨_, rfl⟩, j + 1, by rw [IntWalk.i64_in _ (by omega)]; rfl, by omega⟩
  · simp (maxSteps := 2000000) only [go_sem, Nat.reduceBEq, Nat.reduceLT, Nat.reduceAdd, Nat.reduceMul, Nat.reduceLeDiff, Nat.reduceEqDiff, decide_true, decide_false, reduceIte, and_true, true_and, i2, i3, i5, l1, l2, hj]
    refine Ev.cond' ?_
    simp (maxSteps := 2000000) only [go_sem, Nat.reduceBEq, Nat.reduceLT, Nat.reduceAdd, Nat.reduceMul, Nat.reduceLeDiff, Nat.reduceEqDiff, decide_true, decide_false, reduceIte, and_true, true_and]
    refine Ev.exit ?_
    simp (maxSteps := 2000000) only [go_sem, Nat.reduceBEq, Nat.reduceLT, Nat.reduceAdd, Nat.reduceMul, Nat.reduceLeDiff, Nat.reduceEqDiff, decide_true, decide_false, reduceIte, and_true, true_and]
    clear hjk hj i5
    refine Ev.seq rfl (Ev.seq rfl (Ev.reg' ?_))
    simp (maxSteps := 2000000) only [go_sem, Nat.reduceBEq, Nat.reduceLT, Nat.reduceAdd, Nat.reduceMul, Nat.reduceLeDiff, Nat.reduceEqDiff, decide_true, decide_false, reduceIte, and_true, true_and]
    refine Ev.block (Ev.loop (fun k t S => t 2 = .ptr (idOf l.length) 0 ∧ t 3 = .ptr (idOf (l.length + 1)) 0 ∧ (∃ g, S = stL (l ++ .cells [.int .i64 T.pc, vs, vc] 0 [] :: .cells [.int .i64 T.pc, ws, wc] 0 [] :: g)) ∧ ∃ j : Nat, t 8 = .int .i64 (j : Int) ∧ j + k = T.counts.length) T.counts.length (by omega) ?_ ?_)
    · simp (maxSteps := 2000000) only [go_sem, Nat.reduceBEq, Nat.reduceLT, Nat.reduceAdd, Nat.reduceMul, Nat.reduceLeDiff, Nat.reduceEqDiff, decide_true, decide_false, reduceIte, and_true, true_and]
      exact ⟨i2, i3, ⟨g, rfl⟩, 0, rfl, by omega⟩
    clear i2 i3 g j k
    intro k t S ⟨i2, i3, ⟨g, iS⟩, j, i8, hjk⟩
    subst iS
    refine Ev.seq rfl (Ev.seq rfl (Ev.reg' ?_))
    by_cases hj : (j : Int) < (T.counts.length : Int)
    · simp (maxSteps := 2000000) only [go_sem, Nat.reduceBEq, Nat.reduceLT, Nat.reduceAdd, Nat.reduceMul, Nat.reduceLeDiff, Nat.reduceEqDiff, decide_true, decide_false, reduceIte, and_true, true_and, i2, i3, i8, l3, l4, hj]
      refine Ev.cond' ?_
      simp (maxSteps := 2000000) only [go_sem, Nat.reduceBEq, Nat.reduceLT, Nat.reduceAdd, Nat.reduceMul, Nat.reduceLeDiff, Nat.reduceEqDiff, decide_true, decide_false, reduceIte, and_true, true_and]
      refine Ev.skip ?_
      simp (maxSteps := 2000000) only [go_sem, Nat.reduceBEq, Nat.reduceLT, Nat.reduceAdd, Nat.reduceMul, Nat.reduceLeDiff, Nat.reduceEqDiff, decide_true, decide_false, reduceIte, and_true, true_and]
      have hj' : j < T.counts.length := by exact_mod_cast hj
      have hx : (T.counts.map cntC)[j]? = some (cntC T.counts[j]) := by rw [List.getElem?_map, List.getElem?_eq_getElem hj']; rfl
      obtain ⟨p, rp, hp1, hp2⟩ := rows_idx (rows_app (g := .cells [.int .i64 T.pc, vs, vc] 0 [] :: .cells [.int .i64 T.pc, ws, wc] 0 [] :: g) h3) hx .i64
      obtain ⟨q, rq, hq1, hq2⟩ := rows_idx (rows_app (g := .cells [.int .i64 T.pc, vs, vc] 0 [] :: .cells [.int .i64 T.pc, ws, wc] 0 [] :: g) g3) hx .i64
      refine Ev.seq rfl (Ev.block (Ev.seq rfl (Ev.reg' ?_)))
      simp (maxSteps := 2000000) only [go_sem, Nat.reduceBEq, Nat.reduceLT, Nat.reduceAdd, Nat.reduceMul, Nat.reduceLeDiff, Nat.reduceEqDiff, decide_true, decide_false, reduceIte, and_true, true_and]
      refine Ev.seq rfl (Ev.seq rfl (Ev.reg' ?_))
      simp (maxSteps := 2000000) only [go_sem, Nat.reduceBEq, Nat.reduceLT, Nat.reduceAdd, Nat.reduceMul, Nat.reduceLeDiff, Nat.reduceEqDiff, decide_true, decide_false, reduceIte, and_true, true_and, i2, i3, i8, l3, hj]
      refine Ev.cond' ?_
      simp (maxSteps := 2000000) only [go_sem, Nat.reduceBEq, Nat.reduceLT, Nat.reduceAdd, Nat.reduceMul, Nat.reduceLeDiff, Nat.reduceEqDiff, decide_true, decide_false, reduceIte, and_true, true_and]
      refine Ev.reg' ?_
      simp (maxSteps := 2000000) only [go_sem, Nat.reduceBEq, Nat.reduceLT, Nat.reduceAdd, Nat.reduceMul, Nat.reduceLeDiff, Nat.reduceEqDiff, decide_true, decide_false, reduceIte, and_true, true_and, i2, i8, hp1, hp2]
      refine Ev.seq rfl (Ev.seq rfl (Ev.reg' ?_))
      simp (maxSteps := 2000000) only [go_sem, Nat.reduceBEq, Nat.reduceLT, Nat.reduceAdd, Nat.reduceMul, Nat.reduceLeDiff, Nat.reduceEqDiff, decide_true, decide_false, reduceIte, and_true, true_and, i2, i3, i8, l4, hj]
      refine Ev.cond' ?_
      simp (maxSteps := 2000000) only [go_sem, Nat.reduceBEq, Nat.reduceLT, Nat.reduceAdd, Nat.reduceMul, Nat.reduceLeDiff, Nat.reduceEqDiff, decide_true, decide_false, reduceIte, and_true, true_and]
      refine Ev.reg' ?_
      simp (maxSteps := 2000000) only [go_sem, Nat.reduceBEq, Nat.reduceLT, Nat.reduceAdd, Nat.reduceMul, Nat.reduceLeDiff, Nat.reduceEqDiff, decide_true, decide_false, reduceIte, and_true, true_and, i3, i8, hq1, hq2]
      refine Ev.seq rfl (Ev.reg' ?_)
      simp (maxSteps := 2000000) only [go_sem, Nat.reduceBEq, Nat.reduceLT, Nat.reduceAdd, Nat.reduceMul, Nat.reduceLeDiff, Nat.reduceEqDiff, decide_true, decide_false, reduceIte, and_true, true_and, bne_self_eq_false]
      refine Ev.cond' ?_
      simp (maxSteps := 2000000) only [go_sem, Nat.reduceBEq, Nat.reduceLT, Nat.reduceAdd, Nat.reduceMul, Nat.reduceLeDiff, Nat.reduceEqDiff, decide_true, decide_false, reduceIte, and_true, true_and]
      refine Ev.skip ?_
      simp (maxSteps := 2000000) only [go_sem, Nat.reduceBEq, Nat.reduceLT, Nat.reduceAdd, Nat.reduceMul, Nat.reduceLeDiff, Nat.reduceEqDiff, decide_true, decide_false, reduceIte, and_true, true_and]
      refine Ev.reg' ?_
      simp (maxSteps := 2000000) only [go_sem, Nat.reduceBEq, Nat.reduceLT, Nat.reduceAdd, Nat.reduceMul, Nat.reduceLeDiff, Nat.reduceEqDiff, decide_true, decide_false, reduceIte, and_true, true_and, i2, i3, i8]
      exact ⟨k - 1, by omega, ⟨g, rfl⟩, j + 1, by rw [IntWalk.i64_in _ (by omega)]; rfl, by omega⟩
    · simp (maxSteps := 2000000) only [go_sem, Nat.reduceBEq, Nat.reduceLT, Nat.reduceAdd, Nat.reduceMul, Nat.reduceLeDiff, Nat.reduceEqDiff, decide_true, decide_false, reduceIte, and_true, true_and, i2, i3, i8, l3, l4, hj]
      refine Ev.cond' ?_
      simp (maxSteps := 2000000) only [go_sem, Nat.reduceBEq, Nat.reduceLT, Nat.reduceAdd, Nat.reduceMul, Nat.reduceLeDiff, Nat.reduceEqDiff, decide_true, decide_false, reduceIte, and_true, true_and]
      refine Ev.exit ?_
      simp (maxSteps := 2000000) only [go_sem, Nat.reduceBEq, Nat.reduceLT, Nat.reduceAdd, Nat.reduceMul, Nat.reduceLeDiff, Nat.reduceEqDiff, decide_true, decide_false, reduceIte, and_true, true_and]
      refine Ev.seq rfl (Ev.reg' ?_)
      simp (maxSteps := 2000000) only [go_sem, Nat.reduceBEq, Nat.reduceLT, Nat.reduceAdd, Nat.reduceMul, Nat.reduceLeDiff, Nat.reduceEqDiff, decide_true, decide_false, reduceIte, and_true, true_and]
      refine Ev.ret (Ret.tmp rfl ?_)
      simp (maxSteps := 2000000) only [go_sem, Nat.reduceBEq, Nat.reduceLT, Nat.reduceAdd, Nat.reduceMul, Nat.reduceLeDiff, Nat.reduceEqDiff, decide_true, decide_false, reduceIte, and_true, true_and]
      exact ⟨_, rfl⟩
end Cs

set_option linter.unusedVariables false
open Go Go.Vm Go.Proofs
namespace Cs
variable [Gl]
theorem nils13_kc : KC Tryz.prog Sp 13 [.nils, .nils] := by
  refine kc_of mix Tryz.func13 rfl (by simp [Tryz.f13]) rfl 5 ?_
  have l0 : lenOf .nils = some 0 := rfl
  refine Ev.seq rfl (Ev.reg' ?_)
  simp (maxSteps := 2000000) only [go_sem, Nat.reduceBEq, Nat.reduceLT, Nat.reduceAdd, Nat.reduceMul, Nat.reduceLeDiff, Nat.reduceEqDiff, decide_true, decide_false, reduceIte, and_true, true_and]
  refine Ev.seq rfl (Ev.seq rfl (Ev.reg' ?_))
  simp (maxSteps := 2000000) only [go_sem, Nat.reduceBEq, Nat.reduceLT, Nat.reduceAdd, Nat.reduceMul, Nat.reduceLeDiff, Nat.reduceEqDiff, decide_true, decide_false, reduceIte, and_true, true_and, l0, bne_self_eq_false]
  refine Ev.cond' ?_
  simp (maxSteps := 2000000) only [go_sem, Nat.reduceBEq, Nat.reduceLT, Nat.reduceAdd, Nat.reduceMul, Nat.reduceLeDiff, Nat.reduceEqDiff, decide_true, decide_false, reduceIte, and_true, true_and]
  refine Ev.skip ?_
  simp (maxSteps := 2000000) only [go_sem, Nat.reduceBEq, Nat.reduceLT, Nat.reduceAdd, Nat.reduceMul, Nat.reduceLeDiff, Nat.reduceEqDiff, decide_true, decide_false, reduceIte, and_true, true_and]
  refine Ev.seq rfl (Ev.seq rfl (Ev.reg' ?_))
  simp (maxSteps := 2000000) only [go_sem, Nat.reduceBEq, Nat.reduceLT, Nat.reduceAdd, Nat.reduceMul, Nat.reduceLeDiff, Nat.reduceEqDiff, decide_true, decide_false, reduceIte, and_true, true_and]
  refine Ev.block (Ev.loop (fun k t S => t 0 = .nils ∧ t 5 = .int .i64 0 ∧ S = stL []) 0 (by omega) ?_ ?_)
  · simp (maxSteps := 2000000) only [go_sem, Nat.reduceBEq, Nat.reduceLT, Nat.reduceAdd, Nat.reduceMul, Nat.reduceLeDiff, Nat.reduceEqDiff, decide_true, decide_false, reduceIte, and_true, true_and]
  intro k t S ⟨i0, i5, iS⟩
  subst iS
  have n0 : ¬ ((0 : Int) < ((0 : Nat) : Int)) := by omega
  refine Ev.seq rfl (Ev.seq rfl (Ev.reg' ?_))
  simp (maxSteps := 2000000) only [go_sem, Nat.reduceBEq, Nat.reduceLT, Nat.reduceAdd, Nat.reduceMul, Nat.reduceLeDiff, Nat.reduceEqDiff, decide_true, decide_false, reduceIte, and_true, true_and, i0, i5, l0, n0]
  refine Ev.cond' ?_
  simp (maxSteps := 2000000) only [go_sem, Nat.reduceBEq, Nat.reduceLT, Nat.reduceAdd, Nat.reduceMul, Nat.reduceLeDiff, Nat.reduceEqDiff, decide_true, decide_false, reduceIte, and_true, true_and]
  refine Ev.exit ?_
  simp (maxSteps := 2000000) only [go_sem, Nat.reduceBEq, Nat.reduceLT, Nat.reduceAdd, Nat.reduceMul, Nat.reduceLeDiff, Nat.reduceEqDiff, decide_true, decide_false, reduceIte, and_true, true_and]
  refine Ev.seq rfl (Ev.reg' ?_)
  simp (maxSteps := 2000000) only [go_sem, Nat.reduceBEq, Nat.reduceLT, Nat.reduceAdd, Nat.reduceMul, Nat.reduceLeDiff, Nat.reduceEqDiff, decide_true, decide_false, reduceIte, and_true, true_and]
  refine Ev.ret (Ret.tmp rfl ?_)
  simp (maxSteps := 2000000) only [go_sem, Nat.reduceBEq, Nat.reduceLT, Nat.reduceAdd, Nat.reduceMul, Nat.reduceLeDiff, Nat.reduceEqDiff, decide_true, decide_false, reduceIte, and_true, true_and]
  exact fin_of (Fz.clo rfl) fun _ => rfl

theorem nils24_kc : KC Tryz.prog Sp 24 [.nils, .nils] := by
  refine kc_of mix Tryz.func24 rfl (by simp [Tryz.f24]) rfl 5 ?_
  have l0 : lenOf .nils = some 0 := rfl
  refine Ev.seq rfl (Ev.reg' ?_)
  simp (maxSteps := 2000000) only [go_sem, Nat.reduceBEq, Nat.reduceLT, Nat.reduceAdd, Nat.reduceMul, Nat.reduceLeDiff, Nat.reduceEqDiff, decide_true, decide_false, reduceIte, and_true, true_and]
  refine Ev.seq rfl (Ev.seq rfl (Ev.reg' ?_))
  simp (maxSteps := 2000000) only [go_sem, Nat.reduceBEq, Nat.reduceLT, Nat.reduceAdd, Nat.reduceMul, Nat.reduceLeDiff, Nat.reduceEqDiff, decide_true, decide_false, reduceIte, and_true, true_and, l0, bne_self_eq_false]
  refine Ev.cond' ?_
  simp (maxSteps := 2000000) only [go_sem, Nat.reduceBEq, Nat.reduceLT, Nat.reduceAdd, Nat.reduceMul, Nat.reduceLeDiff, Nat.reduceEqDiff, decide_true, decide_false, reduceIte, and_true, true_and]
  refine Ev.skip ?_
  simp (maxSteps := 2000000) only [go_sem, Nat.reduceBEq, Nat.reduceLT, Nat.reduceAdd, Nat.reduceMul, Nat.reduceLeDiff, Nat.reduceEqDiff, decide_true, decide_false, reduceIte, and_true, true_and]
  refine Ev.seq rfl (Ev.seq rfl (Ev.reg' ?_))
  simp (maxSteps := 2000000) only [go_sem, Nat.reduceBEq, Nat.reduceLT, Nat.reduceAdd, Nat.reduceMul, Nat.reduceLeDiff, Nat.reduceEqDiff, decide_true, decide_false, reduceIte, and_true, true_and]
  refine Ev.block (Ev.loop (fun k t S => t 0 = .nils ∧ t 5 = .int .i64 0 ∧ S = stL []) 0 (by omega) ?_ ?_)
  · simp (maxSteps := 2000000) only [go_sem, Nat.reduceBEq, Nat.reduceLT, Nat.reduceAdd, Nat.reduceMul, Nat.reduceLeDiff, Nat.reduceEqDiff, decide_true, decide_false, reduceIte, and_true, true_and]
  intro k t S ⟨i0, i5, iS⟩
  subst iS
  have n0 : ¬ ((0 : Int) < ((0 : Nat) : Int)) := by omega
  refine Ev.seq rfl (Ev.seq rfl (Ev.reg' ?_))
  simp (maxSteps := 2000000) only [go_sem, Nat.reduceBEq, Nat.reduceLT, Nat.reduceAdd, Nat.reduceMul, Nat.reduceLeDiff, Nat.reduceEqDiff, decide_true, decide_false, reduceIte, and_true, true_and, i0, i5, l0, n0]
  refine Ev.cond' ?_
  simp (maxSteps := 2000000) only [go_sem, Nat.reduceBEq, Nat.reduceLT, Nat.reduceAdd, Nat.reduceMul, Nat.reduceLeDiff, Nat.reduceEqDiff, decide_true, decide_false, reduceIte, and_true, true_and]
  refine Ev.exit ?_
  simp (maxSteps := 2000000) only [go_sem, Nat.reduceBEq, Nat.reduceLT, Nat.reduceAdd, Nat.reduceMul, Nat.reduceLeDiff, Nat.reduceEqDiff, decide_true, decide_false, reduceIte, and_true, true_and]
  refine Ev.seq rfl (Ev.reg' ?_)
  simp (maxSteps := 2000000) only [go_sem, Nat.reduceBEq, Nat.reduceLT, Nat.reduceAdd, Nat.reduceMul, Nat.reduceLeDiff, Nat.reduceEqDiff, decide_true, decide_false, reduceIte, and_true, true_and]
  refine Ev.ret (Ret.tmp rfl ?_)
  simp (maxSteps := 2000000) only [go_sem, Nat.reduceBEq, Nat.reduceLT, Nat.reduceAdd, Nat.reduceMul, Nat.reduceLeDiff, Nat.reduceEqDiff, decide_true, decide_false, reduceIte, and_true, true_and]
  exact fin_of (Fz.clo rfl) fun _ => rfl

theorem nils25_kc : KC Tryz.prog Sp 25 [.nils, .nils] := by
  refine kc_of mix Tryz.func25 rfl (by simp [Tryz.f25]) rfl 5 ?_
  have l0 : lenOf .nils = some 0 := rfl
  refine Ev.seq rfl (Ev.reg' ?_)
  simp (maxSteps := 2000000) only [go_sem, Nat.reduceBEq, Nat.reduceLT, Nat.reduceAdd, Nat.reduceMul, Nat.reduceLeDiff, Nat.reduceEqDiff, decide_true, decide_false, reduceIte, and_true, true_and]
  refine Ev.seq rfl (Ev.seq rfl (Ev.reg' ?_))
  simp (maxSteps := 2000000) only [go_sem, Nat.reduceBEq, Nat.reduceLT, Nat.reduceAdd, Nat.reduceMul, Nat.reduceLeDiff, Nat.reduceEqDiff, decide_true, decide_false, reduceIte, and_true, true_and, l0, bne_self_eq_false]
  refine Ev.cond' ?_
  simp (maxSteps := 2000000) only [go_sem, Nat.reduceBEq, Nat.reduceLT, Nat.reduceAdd, Nat.reduceMul, Nat.reduceLeDiff, Nat.reduceEqDiff, decide_true, decide_false, reduceIte, and_true, true_and]
  refine Ev.skip ?_
  simp (maxSteps := 2000000) only [go_sem, Nat.reduceBEq, Nat.reduceLT, Nat.reduceAdd, Nat.reduceMul, Nat.reduceLeDiff, Nat.reduceEqDiff, decide_true, decide_false, reduceIte, and_true, true_and]
  refine Ev.seq rfl (Ev.seq rfl (Ev.reg' ?_))
  simp (maxSteps := 2000000) only [go_sem, Nat.reduceBEq, Nat.reduceLT, Nat.reduceAdd, Nat.reduceMul, Nat.reduceLeDiff, Nat.reduceEqDiff, decide_true, decide_false, reduceIte, and_true, true_and]
  refine Ev.block (Ev.loop (fun k t S => t 0 = .nils ∧ t 5 = .int .i64 0 ∧ S = stL []) 0 (by omega) ?_ ?_)
  · simp (maxSteps := 2000000) only [go_sem, Nat.reduceBEq, Nat.reduceLT, Nat.reduceAdd, Nat.reduceMul, Nat.reduceLeDiff, Nat.reduceEqDiff, decide_true, decide_false, reduceIte, and_true, true_and]
  intro k t S ⟨i0, i5, iS⟩
  subst iS
  have n0 : ¬ ((0 : Int) < ((0 : Nat) : Int)) := by omega
  refine Ev.seq rfl (Ev.seq rfl (Ev.reg' ?_))
  simp (maxSteps := 2000000) only [go_sem, Nat.reduceBEq, Nat.reduceLT, Nat.reduceAdd, Nat.reduceMul, Nat.reduceLeDiff, Nat.reduceEqDiff, decide_true, decide_false, reduceIte, and_true, true_and, i0, i5, l0, n0]
  refine Ev.cond' ?_
  simp (maxSteps := 2000000) only [go_sem, Nat.reduceBEq, Nat.reduceLT, Nat.reduceAdd, Nat.reduceMul, Nat.reduceLeDiff, Nat.reduceEqDiff, decide_true, decide_false, reduceIte, and_true, true_and]
  refine Ev.exit ?_
  simp (maxSteps := 2000000) only [go_sem, Nat.reduceBEq, Nat.reduceLT, Nat.reduceAdd, Nat.reduceMul, Nat.reduceLeDiff, Nat.reduceEqDiff, decide_true, decide_false, reduceIte, and_true, true_and]
  refine Ev.seq rfl (Ev.reg' ?_)
  simp (maxSteps := 2000000) only [go_sem, Nat.reduceBEq, Nat.reduceLT, Nat.reduceAdd, Nat.reduceMul, Nat.reduceLeDiff, Nat.reduceEqDiff, decide_true, decide_false, reduceIte, and_true, true_and]
  refine Ev.ret (Ret.tmp rfl ?_)
  simp (maxSteps := 2000000) only [go_sem, Nat.reduceBEq, Nat.reduceLT, Nat.reduceAdd, Nat.reduceMul, Nat.reduceLeDiff, Nat.reduceEqDiff, decide_true, decide_false, reduceIte, and_true, true_and]
  exact fin_of (Fz.clo rfl) fun _ => rfl

theorem sameEffect_kc (k : Int) : KC Tryz.prog Sp 10 [effV k, effV k] := by
  refine kc_of mix Tryz.func10 rfl (by simp [Tryz.f10]) rfl 5 ?_
  have l0 : lenOf .nils = some 0 := rfl
  obtain ⟨v1, hv1, _, hc1⟩ := (nils13_kc).call
  obtain rfl := hv1 rfl
  obtain ⟨v2, hv2, _, hc2⟩ := (nils24_kc).call
  obtain rfl := hv2 rfl
  obtain ⟨v3, hv3, _, hc3⟩ := (nils25_kc).call
  obtain rfl := hv3 rfl
  obtain ⟨v4, hv4, _, hc4⟩ := (same_kc rdv_zero rdv_zero (by simp [vz])).call
  obtain rfl := hv4 _ _ _ rfl rdv_zero rdv_zero
  refine Ev.seq rfl (Ev.reg' ?_)
  simp (maxSteps := 2000000) only [go_sem, Nat.reduceBEq, Nat.reduceLT, Nat.reduceAdd, Nat.reduceMul, Nat.reduceLeDiff, Nat.reduceEqDiff, decide_true, decide_false, reduceIte, and_true, true_and, effV]
  refine Ev.seq rfl (Ev.seq rfl (Ev.reg' ?_))
  simp (maxSteps := 2000000) only [go_sem, Nat.reduceBEq, Nat.reduceLT, Nat.reduceAdd, Nat.reduceMul, Nat.reduceLeDiff, Nat.reduceEqDiff, decide_true, decide_false, reduceIte, and_true, true_and, List.append_eq, l0, bne_self_eq_false, BEq.rfl, Bool.not_true, hc1, hc2, hc3, hc4]
  refine Ev.cond' ?_
  simp (maxSteps := 2000000) only [go_sem, Nat.reduceBEq, Nat.reduceLT, Nat.reduceAdd, Nat.reduceMul, Nat.reduceLeDiff, Nat.reduceEqDiff, decide_true, decide_false, reduceIte, and_true, true_and]
  refine Ev.skip ?_
  simp (maxSteps := 2000000) only [go_sem, Nat.reduceBEq, Nat.reduceLT, Nat.reduceAdd, Nat.reduceMul, Nat.reduceLeDiff, Nat.reduceEqDiff, decide_true, decide_false, reduceIte, and_true, true_and]
  refine Ev.seq rfl (Ev.seq rfl (Ev.reg' ?_))
  simp (maxSteps := 2000000) only [go_sem, Nat.reduceBEq, Nat.reduceLT, Nat.reduceAdd, Nat.reduceMul, Nat.reduceLeDiff, Nat.reduceEqDiff, decide_true, decide_false, reduceIte, and_true, true_and]
  refine Ev.block (Ev.loop (fun j t S => t 2 = .ptr (idOf 0) 0 ∧ t 5 = .int .i64 0 ∧ S = stL [.cells [.int .u8 k, .int .i64 0, .nils, .nils, .bool false, .nils, .nils, .str [], .str [], .nils] 0 [], .cells [.int .u8 k, .int .i64 0, .nils, .nils, .bool false, .nils, .nils, .str [], .str [], .nils] 0 []]) 0 (by omega) ?_ ?_)
  · simp (maxSteps := 2000000) only [go_sem, Nat.reduceBEq, Nat.reduceLT, Nat.reduceAdd, Nat.reduceMul, Nat.reduceLeDiff, Nat.reduceEqDiff, decide_true, decide_false, reduceIte, and_true, true_and]
  intro j t S ⟨i2, i5, iS⟩
  subst iS
  have n0 : ¬ ((0 : Int) < ((0 : Nat) : Int)) := by omega
  refine Ev.seq rfl (Ev.seq rfl (Ev.reg' ?_))
  simp (maxSteps := 2000000) only [go_sem, Nat.reduceBEq, Nat.reduceLT, Nat.reduceAdd, Nat.reduceMul, Nat.reduceLeDiff, Nat.reduceEqDiff, decide_true, decide_false, reduceIte, and_true, true_and, i2, i5, l0, n0]
  refine Ev.cond' ?_
  simp (maxSteps := 2000000) only [go_sem, Nat.reduceBEq, Nat.reduceLT, Nat.reduceAdd, Nat.reduceMul, Nat.reduceLeDiff, Nat.reduceEqDiff, decide_true, decide_false, reduceIte, and_true, true_and]
  refine Ev.exit ?_
  simp (maxSteps := 2000000) only [go_sem, Nat.reduceBEq, Nat.reduceLT, Nat.reduceAdd, Nat.reduceMul, Nat.reduceLeDiff, Nat.reduceEqDiff, decide_true, decide_false, reduceIte, and_true, true_and]
  refine Ev.seq rfl (Ev.reg' ?_)
  simp (maxSteps := 2000000) only [go_sem, Nat.reduceBEq, Nat.reduceLT, Nat.reduceAdd, Nat.reduceMul, Nat.reduceLeDiff, Nat.reduceEqDiff, decide_true, decide_false, reduceIte, and_true, true_and]
  refine Ev.ret (Ret.tmp rfl ?_)
  simp (maxSteps := 2000000) only [go_sem, Nat.reduceBEq, Nat.reduceLT, Nat.reduceAdd, Nat.reduceMul, Nat.reduceLeDiff, Nat.reduceEqDiff, decide_true, decide_false, reduceIte, and_true, true_and]
  exact fin_of (Fz.clo rfl) rfl
end Cs

set_option linter.unusedVariables false
open Go Go.Vm Go.Proofs
namespace Cs
variable [Gl]
theorem pad_small {k : Int} {T : Th} (h : T.slots.length ≤ 20 ∧ T.counts.length ≤ 20 ∧ ∀ x ∈ T.slots, x.1.length ≤ 300) (hk : k ≤ 4096) : Small (pad k T) := by
  refine ⟨by simp [pad]; omega, by simp [pad]; omega, fun x hx => ?_⟩
  simp only [pad] at hx
  rcases List.mem_append.1 hx with e | e
  · exact h.2.2 x e
  · rw [List.eq_of_mem_replicate e]; simp [vz]
theorem step_small {op slot to : Int} {T : Th} (h : T.slots.length ≤ 20 ∧ T.counts.length ≤ 20 ∧ ∀ x ∈ T.slots, x.1.length ≤ 300) : Small (stepS op slot to T).1 := by
  have hz : Small tz := ⟨by simp [tz], by simp [tz], by simp [tz]⟩
  unfold stepS
  split
  · exact hz
  rename_i b
  split
  · exact hz
  have hp := pad_small (k := if op = 8 then slot else -1) h (by split <;> omega)
  generalize pad (if op = 8 then slot else -1) T = U at hp ⊢
  obtain ⟨p1, p2, p3⟩ := hp
  simp only
  split
  · exact ⟨p1, p2, p3⟩
  split
  · split
    · exact ⟨p1, by simpa using p2, p3⟩
    · exact ⟨p1, p2, p3⟩
  split
  · exact ⟨p1, p2, p3⟩
  split
  · exact ⟨p1, p2, p3⟩
  · exact ⟨p1, p2, p3⟩
theorem law_kc {op slot pc to : Int} {h : V} {T : Th} (hT : RdT h T) (ha : KC Tryz.prog Sp 4 []) (hop : 0 ≤ op) : KC Tryz.prog Sp 3 [.int .u8 op, .int .i64 slot, .int .i64 pc, .int .i64 to, h] := by
  have hcl := hT.clo
  have h0 := hT
  obtain ⟨vs, vc, rs, rfl, h1, k1, h2, h3, k2⟩ := hT
  obtain ⟨va, hva, _, haw⟩ := ha.call
  obtain rfl : va = .bool true := hva
  refine kc_of mix Tryz.func3 rfl (by simp [Tryz.f3]) (by simp only [cloL_cons, cloL_nil, clo_int, hcl, Bool.and_true]) 1100000 ?_
  have c1 := rows_cell h1
  have c2 := rows_cell h3
  have l1 := rows_len h1
  rw [h2.length] at l1
  have l2 := rows_len h3
  simp only [List.length_map] at l2
  have fin : ∀ (L : List Ob), ∃ m v, frz false (stL L).get m (.bool true) = some v ∧ Sp 3 [.int .u8 op, .int .i64 slot, .int .i64 pc, .int .i64 to, .agg [.int .i64 T.pc, vs, vc]] v := fun L => fin_of (Fz.clo rfl) rfl
  refine Ev.seq rfl (Ev.reg' ?_)
  simp (maxSteps := 2000000) only [go_sem, Nat.reduceBEq, Nat.reduceLT, Nat.reduceAdd, Nat.reduceMul, Nat.reduceLeDiff, Nat.reduceEqDiff, decide_true, decide_false, reduceIte, and_true, true_and]
  refine Ev.seq rfl (Ev.seq rfl (Ev.reg' ?_))
  by_cases b1 : (20 : Int) < (T.slots.length : Int)
  · simp (maxSteps := 2000000) only [go_sem, Nat.reduceBEq, Nat.reduceLT, Nat.reduceAdd, Nat.reduceMul, Nat.reduceLeDiff, Nat.reduceEqDiff, decide_true, decide_false, reduceIte, and_true, true_and, l1, b1]
    refine Ev.cond' ?_
    simp (maxSteps := 2000000) only [go_sem, Nat.reduceBEq, Nat.reduceLT, Nat.reduceAdd, Nat.reduceMul, Nat.reduceLeDiff, Nat.reduceEqDiff, decide_true, decide_false, reduceIte, and_true, true_and]
    refine Ev.seq rfl (Ev.reg' ?_)
    simp (maxSteps := 2000000) only [go_sem, Nat.reduceBEq, Nat.reduceLT, Nat.reduceAdd, Nat.reduceMul, Nat.reduceLeDiff, Nat.reduceEqDiff, decide_true, decide_false, reduceIte, and_true, true_and, haw]
    refine Ev.ret ?_
    simp (maxSteps := 2000000) only [go_sem, Nat.reduceBEq, Nat.reduceLT, Nat.reduceAdd, Nat.reduceMul, Nat.reduceLeDiff, Nat.reduceEqDiff, decide_true, decide_false, reduceIte, and_true, true_and]
    refine Ret.tmp rfl ?_
    simp (maxSteps := 2000000) only [go_sem, Nat.reduceBEq, Nat.reduceLT, Nat.reduceAdd, Nat.reduceMul, Nat.reduceLeDiff, Nat.reduceEqDiff, decide_true, decide_false, reduceIte, and_true, true_and]
    exact fin _

  by_cases b2 : (20 : Int) < (T.counts.length : Int)
  · simp (maxSteps := 2000000) only [go_sem, Nat.reduceBEq, Nat.reduceLT, Nat.reduceAdd, Nat.reduceMul, Nat.reduceLeDiff, Nat.reduceEqDiff, decide_true, decide_false, reduceIte, and_true, true_and, l1, l2, b1, b2]
    refine Ev.cond' ?_
    simp (maxSteps := 2000000) only [go_sem, Nat.reduceBEq, Nat.reduceLT, Nat.reduceAdd, Nat.reduceMul, Nat.reduceLeDiff, Nat.reduceEqDiff, decide_true, decide_false, reduceIte, and_true, true_and]
    refine Ev.seq rfl (Ev.reg' ?_)
    simp (maxSteps := 2000000) only [go_sem, Nat.reduceBEq, Nat.reduceLT, Nat.reduceAdd, Nat.reduceMul, Nat.reduceLeDiff, Nat.reduceEqDiff, decide_true, decide_false, reduceIte, and_true, true_and, haw]
    refine Ev.ret ?_
    simp (maxSteps := 2000000) only [go_sem, Nat.reduceBEq, Nat.reduceLT, Nat.reduceAdd, Nat.reduceMul, Nat.reduceLeDiff, Nat.reduceEqDiff, decide_true, decide_false, reduceIte, and_true, true_and]
    refine Ret.tmp rfl ?_
    simp (maxSteps := 2000000) only [go_sem, Nat.reduceBEq, Nat.reduceLT, Nat.reduceAdd, Nat.reduceMul, Nat.reduceLeDiff, Nat.reduceEqDiff, decide_true, decide_false, reduceIte, and_true, true_and]
    exact fin _

  by_cases b3 : 0 < op ∧ op ≠ 5 ∧ op ≠ 8 ∧ op ≠ 10 ∧ op < 14
  · obtain ⟨d0, d5, d8, d10, d14⟩ := b3
    have e5 : (op != 5) = true := by simp [d5]
    have e8 : (op != 8) = true := by simp [d8]
    have e10 : (op != 10) = true := by simp [d10]
    simp (maxSteps := 2000000) only [go_sem, Nat.reduceBEq, Nat.reduceLT, Nat.reduceAdd, Nat.reduceMul, Nat.reduceLeDiff, Nat.reduceEqDiff, decide_true, decide_false, reduceIte, and_true, true_and, l1, l2, b1, b2, d0, e5, e8, e10, d14]
    refine Ev.cond' ?_
    simp (maxSteps := 2000000) only [go_sem, Nat.reduceBEq, Nat.reduceLT, Nat.reduceAdd, Nat.reduceMul, Nat.reduceLeDiff, Nat.reduceEqDiff, decide_true, decide_false, reduceIte, and_true, true_and]
    refine Ev.seq rfl (Ev.reg' ?_)
    simp (maxSteps := 2000000) only [go_sem, Nat.reduceBEq, Nat.reduceLT, Nat.reduceAdd, Nat.reduceMul, Nat.reduceLeDiff, Nat.reduceEqDiff, decide_true, decide_false, reduceIte, and_true, true_and, haw]
    refine Ev.ret ?_
    simp (maxSteps := 2000000) only [go_sem, Nat.reduceBEq, Nat.reduceLT, Nat.reduceAdd, Nat.reduceMul, Nat.reduceLeDiff, Nat.reduceEqDiff, decide_true, decide_false, reduceIte, and_true, true_and]
    refine Ret.tmp rfl ?_
    simp (maxSteps := 2000000) only [go_sem, Nat.reduceBEq, Nat.reduceLT, Nat.reduceAdd, Nat.reduceMul, Nat.reduceLeDiff, Nat.reduceEqDiff, decide_true, decide_false, reduceIte, and_true, true_and]
    exact fin _

  have hopk : OpOK op := by unfold OpOK; omega
  have key : ∀ (t : Tm), t 0 = .int .u8 op → t 1 = .int .i64 slot → t 2 = .int .i64 pc → t 3 = .int .i64 to → t 9 = .ptr (idOf 0) 0 →
      Ev Tryz.prog Tryz.f3.ntmps 1100000 (callS Tryz.prog Sp 1100000) (sndC (sndC (bodyC Tryz.f3))) t (stL [.cells [.int .i64 T.pc, vs, vc] 0 []]) (Ret Tryz.prog Tryz.f3 fun u S => ∃ m v, frz false S.get m u = some v ∧ Sp 3 [.int .u8 op, .int .i64 slot, .int .i64 pc, .int .i64 to, .agg [.int .i64 T.pc, vs, vc]] v) := by
    intro t i0 i1 i2 i3 i9
    refine Ev.seq rfl (Ev.seq rfl (Ev.reg' ?_))
    simp (maxSteps := 2000000) only [go_sem, Nat.reduceBEq, Nat.reduceLT, Nat.reduceAdd, Nat.reduceMul, Nat.reduceLeDiff, Nat.reduceEqDiff, decide_true, decide_false, reduceIte, and_true, true_and]
    refine Ev.block (Ev.loop (fun k t S => t 0 = .int .u8 op ∧ t 1 = .int .i64 slot ∧ t 2 = .int .i64 pc ∧ t 3 = .int .i64 to ∧ t 9 = .ptr (idOf 0) 0 ∧ S = stL [.cells [.int .i64 T.pc, vs, vc] 0 []] ∧ ∃ j : Nat, t 11 = .int .i64 (j : Int) ∧ j + k = T.slots.length ∧ ∀ x ∈ T.slots.take j, x.1.length ≤ 300) T.slots.length (by omega) ?_ ?_)
    · simp (maxSteps := 2000000) only [go_sem, Nat.reduceBEq, Nat.reduceLT, Nat.reduceAdd, Nat.reduceMul, Nat.reduceLeDiff, Nat.reduceEqDiff, decide_true, decide_false, reduceIte, and_true, true_and]
      exact ⟨i0, i1, i2, i3, i9, 0, rfl, by omega, by simp⟩
    clear i0 i1 i2 i3 i9
    intro k t S ⟨i0, i1, i2, i3, i9, iS, j, i11, hjk, hA⟩
    subst iS
    refine Ev.seq rfl (Ev.seq rfl (Ev.reg' ?_))
    simp (maxSteps := 2000000) only [go_sem, Nat.reduceBEq, Nat.reduceLT, Nat.reduceAdd, Nat.reduceMul, Nat.reduceLeDiff, Nat.reduceEqDiff, decide_true, decide_false, reduceIte, and_true, true_and, i9, i11, l1]
    refine Ev.cond' ?_
    simp (maxSteps := 2000000) only [go_sem, Nat.reduceBEq, Nat.reduceLT, Nat.reduceAdd, Nat.reduceMul, Nat.reduceLeDiff, Nat.reduceEqDiff, decide_true, decide_false, reduceIte, and_true, true_and]
    by_cases hj : (j : Int) < (T.slots.length : Int)
    · have hj' : j < T.slots.length := by exact_mod_cast hj
      have hx := List.getElem?_eq_getElem hj'
      obtain ⟨c, hc1, hc2⟩ := all2_get h2 hx
      obtain ⟨p, rp, hp1, hp2⟩ := rows_idx (rows_app (g := [.cells [.int .i64 T.pc, vs, vc] 0 []]) h1) hc1 .i64
      simp only [List.nil_append] at hp2
      obtain ⟨vb, rfl, hv1, hv2⟩ := hc2
      have lb := rows_len hv1
      simp only [List.length_map] at lb
      obtain ⟨q, hq1, hq2⟩ := addr_at hp2 (o := 0) (by simp)
      simp only [List.cons_append, List.drop_zero, List.nil_append] at hq2
      simp only [hj, decide_true, wpC_true]
      refine Ev.skip ?_
      simp (maxSteps := 2000000) only [go_sem, Nat.reduceBEq, Nat.reduceLT, Nat.reduceAdd, Nat.reduceMul, Nat.reduceLeDiff, Nat.reduceEqDiff, decide_true, decide_false, reduceIte, and_true, true_and]
      refine Ev.seq rfl (Ev.block (Ev.seq rfl (Ev.reg' ?_)))
      simp (maxSteps := 2000000) only [go_sem, Nat.reduceBEq, Nat.reduceLT, Nat.reduceAdd, Nat.reduceMul, Nat.reduceLeDiff, Nat.reduceEqDiff, decide_true, decide_false, reduceIte, and_true, true_and, i9, i11, hp1, hq1, hq2, lb]
      by_cases hl : (300 : Int) < ((T.slots[j].1.length : Nat) : Int)
      · simp only [hl, decide_true]
        refine Ev.cond' ?_
        simp (maxSteps := 2000000) only [go_sem, Nat.reduceBEq, Nat.reduceLT, Nat.reduceAdd, Nat.reduceMul, Nat.reduceLeDiff, Nat.reduceEqDiff, decide_true, decide_false, reduceIte, and_true, true_and]
        refine Ev.seq rfl (Ev.reg' ?_)
        simp (maxSteps := 2000000) only [go_sem, Nat.reduceBEq, Nat.reduceLT, Nat.reduceAdd, Nat.reduceMul, Nat.reduceLeDiff, Nat.reduceEqDiff, decide_true, decide_false, reduceIte, and_true, true_and, haw]
        refine Ev.ret ?_
        simp (maxSteps := 2000000) only [go_sem, Nat.reduceBEq, Nat.reduceLT, Nat.reduceAdd, Nat.reduceMul, Nat.reduceLeDiff, Nat.reduceEqDiff, decide_true, decide_false, reduceIte, and_true, true_and]
        refine Ret.tmp rfl ?_
        simp (maxSteps := 2000000) only [go_sem, Nat.reduceBEq, Nat.reduceLT, Nat.reduceAdd, Nat.reduceMul, Nat.reduceLeDiff, Nat.reduceEqDiff, decide_true, decide_false, reduceIte, and_true, true_and]
        exact fin _

      · simp only [hl, decide_false]
        refine Ev.cond' ?_
        simp (maxSteps := 2000000) only [go_sem, Nat.reduceBEq, Nat.reduceLT, Nat.reduceAdd, Nat.reduceMul, Nat.reduceLeDiff, Nat.reduceEqDiff, decide_true, decide_false, reduceIte, and_true, true_and]
        refine Ev.skip ?_
        simp (maxSteps := 2000000) only [go_sem, Nat.reduceBEq, Nat.reduceLT, Nat.reduceAdd, Nat.reduceMul, Nat.reduceLeDiff, Nat.reduceEqDiff, decide_true, decide_false, reduceIte, and_true, true_and]
        refine Ev.reg' ?_
        simp (maxSteps := 2000000) only [go_sem, Nat.reduceBEq, Nat.reduceLT, Nat.reduceAdd, Nat.reduceMul, Nat.reduceLeDiff, Nat.reduceEqDiff, decide_true, decide_false, reduceIte, and_true, true_and, i11]
        refine ⟨k - 1, by omega, i0, i1, i2, i3, i9, j + 1, by rw [IntWalk.i64_in _ (by omega)]; rfl, by omega, fun x hx' => ?_⟩
        rw [List.take_add_one, hx] at hx'
        rcases List.mem_append.1 hx' with e | e
        · exact hA x e
        · simp at e; subst e; omega
    · simp only [hj, decide_false, wpC_false]
      refine Ev.exit ?_
      simp (maxSteps := 2000000) only [go_sem, Nat.reduceBEq, Nat.reduceLT, Nat.reduceAdd, Nat.reduceMul, Nat.reduceLeDiff, Nat.reduceEqDiff, decide_true, decide_false, reduceIte, and_true, true_and]
      rw [List.take_of_length_le (by omega)] at hA
      have hTs : T.slots.length ≤ 20 ∧ T.counts.length ≤ 20 ∧ ∀ x ∈ T.slots, x.1.length ≤ 300 := ⟨by omega, by omega, hA⟩
      have hSm : Small T := ⟨by omega, by omega, hA⟩
      have hSm' : Small ⟨pc, T.slots, T.counts⟩ := hSm
      obtain ⟨v1, hv1, _, hc1⟩ := (thread_kc h0 hSm).call
      have hr1 := hv1 _ _ rfl h0
      obtain ⟨v2, hv2, _, hc2⟩ := (placed_kc (pc := pc) hr1).call
      have hr2 := hv2 _ _ _ rfl hr1
      obtain ⟨u1, q1, hc3, hu1⟩ := codeStep_run (l := [.cells [.int .i64 T.pc, vs, vc] 0 [], .cells (insC op slot to) 0 []]) (x := .ref 27 (idOf 1) 0 1) (op := op) (slot := slot) (to := to) (by rw [rows_ref (c := insC op slot to) rfl (by simp [insC])]; rfl) hr2 hSm' hopk 1100000 (by omega)
      obtain ⟨us1, uc1, rfl⟩ := lvt_isAgg hu1
      generalize hst : stepS op slot to ⟨pc, T.slots, T.counts⟩ = st at hc3 hu1
      obtain ⟨U, kk, ee⟩ := st
      simp only [List.cons_append, List.nil_append, insC, effV] at hc3 hu1
      have hr3 : RdT (.agg [.int .i64 pc, vs, vc]) ⟨pc, T.slots, T.counts⟩ := ⟨vs, vc, rs, rfl, h1, k1, h2, h3, k2⟩
      obtain ⟨u2, q2, hc4, hu2⟩ := refStep_run (l := .cells [.int .i64 T.pc, vs, vc] 0 [] :: .cells (insC op slot to) 0 [] :: (q1 ++ [.cells [.int .i64 U.pc, us1, uc1] 0 [], .cells [.int .u8 kk, .int .i64 0, .nils, .nils, .bool false, .nils, .nils, .str [], .str [], .nils] 0 [], .cells (insC op slot to) 0 []])) (x := .ref 27 (idOf (q1.length + 1 + 1 + 1 + 1)) 0 1) (op := op) (slot := slot) (to := to) (by rw [rows_ref (c := insC op slot to) (by simp only [List.getElem?_cons_succ, gxs]; rfl) (by simp [insC])]; rfl) hr3 hSm' hopk 1100000 (by omega)
      rw [hst] at hc4 hu2
      obtain ⟨us2, uc2, rfl⟩ := lvt_isAgg hu2
      simp only [List.append_assoc, List.cons_append, List.nil_append, insC, effV] at hc4 hu2
      refine Ev.seq rfl (Ev.reg' ?_)
      simp (maxSteps := 2000000) only [go_sem, Nat.reduceBEq, Nat.reduceLT, Nat.reduceAdd, Nat.reduceMul, Nat.reduceLeDiff, Nat.reduceEqDiff, decide_true, decide_false, reduceIte, and_true, true_and, i0, i1, i2, i3, i9, hc1, hc2, over, Nat.zero_le, Nat.le_refl, hc3]
      refine Ev.seq rfl (Ev.reg' ?_)
      simp (maxSteps := 2000000) only [go_sem, Nat.reduceBEq, Nat.reduceLT, Nat.reduceAdd, Nat.reduceMul, Nat.reduceLeDiff, Nat.reduceEqDiff, decide_true, decide_false, reduceIte, and_true, true_and, i0, i1, i2, i3, i9, okC_cell c1, okC_cell c2, cells_cell c1, cells_cell c2, over, Nat.zero_le, Nat.le_refl, hc4]
      generalize eL : (.cells [.int .i64 T.pc, vs, vc] 0 [] :: _ : List Ob) = L
      have f12 : L[q1.length + 1 + 1]? = some (.cells [.int .i64 U.pc, us1, uc1] 0 []) := by rw [← eL]; simp only [List.getElem?_cons_succ, gx0]; rfl
      have f13 : L[q1.length + 1 + 1 + 1]? = some (.cells [.int .u8 kk, .int .i64 0, .nils, .nils, .bool false, .nils, .nils, .str [], .str [], .nils] 0 []) := by rw [← eL]; simp only [List.getElem?_cons_succ, gxs]; rfl
      have f15 : L[q1.length + (q2.length + 1 + 1 + 1) + 1 + 1]? = some (.cells [.int .i64 U.pc, us2, uc2] 0 []) := by rw [← eL]; simp only [List.getElem?_cons_succ, gxs, gx0]; rfl
      have f16 : L[q1.length + (q2.length + 1 + 1 + 1 + 1) + 1 + 1]? = some (.cells [.int .u8 kk, .int .i64 0, .nils, .nils, .bool false, .nils, .nils, .str [], .str [], .nils] 0 []) := by rw [← eL]; simp only [List.getElem?_cons_succ, gxs]; rfl
      have hUs : Small U := by
        have := step_small (op := op) (slot := slot) (to := to) (T := ⟨pc, T.slots, T.counts⟩) hTs
        rw [hst] at this; exact this
      have r1 : RdL L (.agg [.int .i64 U.pc, us1, uc1]) U := by rw [← eL]; simpa using hu1.rd.app
      have r2 : RdL L (.agg [.int .i64 U.pc, us2, uc2]) U := by rw [← eL]; simpa using hu2.rd.app
      obtain ⟨g, hse⟩ := sameThread_run r1 r2 hUs 1100000 (by omega)
      obtain ⟨ve, hve, _, hef⟩ := (sameEffect_kc kk).call
      obtain rfl : ve = .bool true := hve
      simp only [effV] at hef
      have f13' : (L ++ g)[q1.length + 1 + 1 + 1]? = some (.cells [.int .u8 kk, .int .i64 0, .nils, .nils, .bool false, .nils, .nils, .str [], .str [], .nils] 0 []) := by rw [List.getElem?_append_left (get_lt f13)]; exact f13
      have f16' : (L ++ g)[q1.length + (q2.length + 1 + 1 + 1 + 1) + 1 + 1]? = some (.cells [.int .u8 kk, .int .i64 0, .nils, .nils, .bool false, .nils, .nils, .str [], .str [], .nils] 0 []) := by rw [List.getElem?_append_left (get_lt f16)]; exact f16
      refine Ev.seq rfl (Ev.reg' ?_)
      simp (maxSteps := 2000000) only [go_sem, Nat.reduceBEq, Nat.reduceLT, Nat.reduceAdd, Nat.reduceMul, Nat.reduceLeDiff, Nat.reduceEqDiff, decide_true, decide_false, reduceIte, and_true, true_and, f12, f13, f15, f16, BEq.rfl, hse, f13', f16', hef, haw]
      refine Ev.ret (Ret.tmp rfl ?_)
      simp (maxSteps := 2000000) only [go_sem, Nat.reduceBEq, Nat.reduceLT, Nat.reduceAdd, Nat.reduceMul, Nat.reduceLeDiff, Nat.reduceEqDiff, decide_true, decide_false, reduceIte, and_true, true_and]
      exact fin _
  rcases hopk with rfl | rfl | rfl | rfl | b4
  · have n0 : ¬ (0 : Int) < 0 := by omega
    simp (maxSteps := 2000000) only [go_sem, Nat.reduceBEq, Nat.reduceLT, Nat.reduceAdd, Nat.reduceMul, Nat.reduceLeDiff, Nat.reduceEqDiff, decide_true, decide_false, reduceIte, and_true, true_and, l1, l2, b1, b2, n0]
    refine Ev.cond' ?_
    simp (maxSteps := 2000000) only [go_sem, Nat.reduceBEq, Nat.reduceLT, Nat.reduceAdd, Nat.reduceMul, Nat.reduceLeDiff, Nat.reduceEqDiff, decide_true, decide_false, reduceIte, and_true, true_and]
    refine Ev.skip ?_
    simp (maxSteps := 2000000) only [go_sem, Nat.reduceBEq, Nat.reduceLT, Nat.reduceAdd, Nat.reduceMul, Nat.reduceLeDiff, Nat.reduceEqDiff, decide_true, decide_false, reduceIte, and_true, true_and]
    exact key _ (by simp (maxSteps := 2000000) only [go_sem, Nat.reduceBEq, Nat.reduceLT, Nat.reduceAdd, Nat.reduceMul, Nat.reduceLeDiff, Nat.reduceEqDiff, decide_true, decide_false, reduceIte, and_true, true_and]) (by simp (maxSteps := 2000000) only [go_sem, Nat.reduceBEq, Nat.reduceLT, Nat.reduceAdd, Nat.reduceMul, Nat.reduceLeDiff, Nat.reduceEqDiff, decide_true, decide_false, reduceIte, and_true, true_and]) (by simp (maxSteps := 2000000) only [go_sem, Nat.reduceBEq, Nat.reduceLT, Nat.reduceAdd, Nat.reduceMul, Nat.reduceLeDiff, Nat.reduceEqDiff, decide_true, decide_false, reduceIte, and_true, true_and]) (by simp (maxSteps := 2000000) only [go_sem, Nat.reduceBEq, Nat.reduceLT, Nat.reduceAdd, Nat.reduceMul, Nat.reduceLeDiff, Nat.reduceEqDiff, decide_true, decide_false, reduceIte, and_true, true_and]) (by simp (maxSteps := 2000000) only [go_sem, Nat.reduceBEq, Nat.reduceLT, Nat.reduceAdd, Nat.reduceMul, Nat.reduceLeDiff, Nat.reduceEqDiff, decide_true, decide_false, reduceIte, and_true, true_and])
  · have n0 : (0 : Int) < 5 := by omega
    simp (maxSteps := 2000000) only [go_sem, Nat.reduceBEq, Nat.reduceLT, Nat.reduceAdd, Nat.reduceMul, Nat.reduceLeDiff, Nat.reduceEqDiff, decide_true, decide_false, reduceIte, and_true, true_and, l1, l2, b1, b2, n0, Int.reduceBNe]
    refine Ev.cond' ?_
    simp (maxSteps := 2000000) only [go_sem, Nat.reduceBEq, Nat.reduceLT, Nat.reduceAdd, Nat.reduceMul, Nat.reduceLeDiff, Nat.reduceEqDiff, decide_true, decide_false, reduceIte, and_true, true_and]
    refine Ev.skip ?_
    simp (maxSteps := 2000000) only [go_sem, Nat.reduceBEq, Nat.reduceLT, Nat.reduceAdd, Nat.reduceMul, Nat.reduceLeDiff, Nat.reduceEqDiff, decide_true, decide_false, reduceIte, and_true, true_and]
    exact key _ (by simp (maxSteps := 2000000) only [go_sem, Nat.reduceBEq, Nat.reduceLT, Nat.reduceAdd, Nat.reduceMul, Nat.reduceLeDiff, Nat.reduceEqDiff, decide_true, decide_false, reduceIte, and_true, true_and]) (by simp (maxSteps := 2000000) only [go_sem, Nat.reduceBEq, Nat.reduceLT, Nat.reduceAdd, Nat.reduceMul, Nat.reduceLeDiff, Nat.reduceEqDiff, decide_true, decide_false, reduceIte, and_true, true_and]) (by simp (maxSteps := 2000000) only [go_sem, Nat.reduceBEq, Nat.reduceLT, Nat.reduceAdd, Nat.reduceMul, Nat.reduceLeDiff, Nat.reduceEqDiff, decide_true, decide_false, reduceIte, and_true, true_and]) (by simp (maxSteps := 2000000) only [go_sem, Nat.reduceBEq, Nat.reduceLT, Nat.reduceAdd, Nat.reduceMul, Nat.reduceLeDiff, Nat.reduceEqDiff, decide_true, decide_false, reduceIte, and_true, true_and]) (by simp (maxSteps := 2000000) only [go_sem, Nat.reduceBEq, Nat.reduceLT, Nat.reduceAdd, Nat.reduceMul, Nat.reduceLeDiff, Nat.reduceEqDiff, decide_true, decide_false, reduceIte, and_true, true_and])
  · have n0 : (0 : Int) < 8 := by omega
    simp (maxSteps := 2000000) only [go_sem, Nat.reduceBEq, Nat.reduceLT, Nat.reduceAdd, Nat.reduceMul, Nat.reduceLeDiff, Nat.reduceEqDiff, decide_true, decide_false, reduceIte, and_true, true_and, l1, l2, b1, b2, n0, Int.reduceBNe]
    refine Ev.cond' ?_
    simp (maxSteps := 2000000) only [go_sem, Nat.reduceBEq, Nat.reduceLT, Nat.reduceAdd, Nat.reduceMul, Nat.reduceLeDiff, Nat.reduceEqDiff, decide_true, decide_false, reduceIte, and_true, true_and]
    refine Ev.skip ?_
    simp (maxSteps := 2000000) only [go_sem, Nat.reduceBEq, Nat.reduceLT, Nat.reduceAdd, Nat.reduceMul, Nat.reduceLeDiff, Nat.reduceEqDiff, decide_true, decide_false, reduceIte, and_true, true_and]
    exact key _ (by simp (maxSteps := 2000000) only [go_sem, Nat.reduceBEq, Nat.reduceLT, Nat.reduceAdd, Nat.reduceMul, Nat.reduceLeDiff, Nat.reduceEqDiff, decide_true, decide_false, reduceIte, and_true, true_and]) (by simp (maxSteps := 2000000) only [go_sem, Nat.reduceBEq, Nat.reduceLT, Nat.reduceAdd, Nat.reduceMul, Nat.reduceLeDiff, Nat.reduceEqDiff, decide_true, decide_false, reduceIte, and_true, true_and]) (by simp (maxSteps := 2000000) only [go_sem, Nat.reduceBEq, Nat.reduceLT, Nat.reduceAdd, Nat.reduceMul, Nat.reduceLeDiff, Nat.reduceEqDiff, decide_true, decide_false, reduceIte, and_true, true_and]) (by simp (maxSteps := 2000000) only [go_sem, Nat.reduceBEq, Nat.reduceLT, Nat.reduceAdd, Nat.reduceMul, Nat.reduceLeDiff, Nat.reduceEqDiff, decide_true, decide_false, reduceIte, and_true, true_and]) (by simp (maxSteps := 2000000) only [go_sem, Nat.reduceBEq, Nat.reduceLT, Nat.reduceAdd, Nat.reduceMul, Nat.reduceLeDiff, Nat.reduceEqDiff, decide_true, decide_false, reduceIte, and_true, true_and])
  · have n0 : (0 : Int) < 10 := by omega
    simp (maxSteps := 2000000) only [go_sem, Nat.reduceBEq, Nat.reduceLT, Nat.reduceAdd, Nat.reduceMul, Nat.reduceLeDiff, Nat.reduceEqDiff, decide_true, decide_false, reduceIte, and_true, true_and, l1, l2, b1, b2, n0, Int.reduceBNe]
    refine Ev.cond' ?_
    simp (maxSteps := 2000000) only [go_sem, Nat.reduceBEq, Nat.reduceLT, Nat.reduceAdd, Nat.reduceMul, Nat.reduceLeDiff, Nat.reduceEqDiff, decide_true, decide_false, reduceIte, and_true, true_and]
    refine Ev.skip ?_
    simp (maxSteps := 2000000) only [go_sem, Nat.reduceBEq, Nat.reduceLT, Nat.reduceAdd, Nat.reduceMul, Nat.reduceLeDiff, Nat.reduceEqDiff, decide_true, decide_false, reduceIte, and_true, true_and]
    exact key _ (by simp (maxSteps := 2000000) only [go_sem, Nat.reduceBEq, Nat.reduceLT, Nat.reduceAdd, Nat.reduceMul, Nat.reduceLeDiff, Nat.reduceEqDiff, decide_true, decide_false, reduceIte, and_true, true_and]) (by simp (maxSteps := 2000000) only [go_sem, Nat.reduceBEq, Nat.reduceLT, Nat.reduceAdd, Nat.reduceMul, Nat.reduceLeDiff, Nat.reduceEqDiff, decide_true, decide_false, reduceIte, and_true, true_and]) (by simp (maxSteps := 2000000) only [go_sem, Nat.reduceBEq, Nat.reduceLT, Nat.reduceAdd, Nat.reduceMul, Nat.reduceLeDiff, Nat.reduceEqDiff, decide_true, decide_false, reduceIte, and_true, true_and]) (by simp (maxSteps := 2000000) only [go_sem, Nat.reduceBEq, Nat.reduceLT, Nat.reduceAdd, Nat.reduceMul, Nat.reduceLeDiff, Nat.reduceEqDiff, decide_true, decide_false, reduceIte, and_true, true_and]) (by simp (maxSteps := 2000000) only [go_sem, Nat.reduceBEq, Nat.reduceLT, Nat.reduceAdd, Nat.reduceMul, Nat.reduceLeDiff, Nat.reduceEqDiff, decide_true, decide_false, reduceIte, and_true, true_and])
  · have d0 : 0 < op := by omega
    have d14 : ¬ op < 14 := by omega
    have e5 : (op != 5) = true := by simp; omega
    have e8 : (op != 8) = true := by simp; omega
    have e10 : (op != 10) = true := by simp; omega
    simp (maxSteps := 2000000) only [go_sem, Nat.reduceBEq, Nat.reduceLT, Nat.reduceAdd, Nat.reduceMul, Nat.reduceLeDiff, Nat.reduceEqDiff, decide_true, decide_false, reduceIte, and_true, true_and, l1, l2, b1, b2, d0, e5, e8, e10, d14]
    refine Ev.cond' ?_
    simp (maxSteps := 2000000) only [go_sem, Nat.reduceBEq, Nat.reduceLT, Nat.reduceAdd, Nat.reduceMul, Nat.reduceLeDiff, Nat.reduceEqDiff, decide_true, decide_false, reduceIte, and_true, true_and]
    refine Ev.skip ?_
    simp (maxSteps := 2000000) only [go_sem, Nat.reduceBEq, Nat.reduceLT, Nat.reduceAdd, Nat.reduceMul, Nat.reduceLeDiff, Nat.reduceEqDiff, decide_true, decide_false, reduceIte, and_true, true_and]
    exact key _ (by simp (maxSteps := 2000000) only [go_sem, Nat.reduceBEq, Nat.reduceLT, Nat.reduceAdd, Nat.reduceMul, Nat.reduceLeDiff, Nat.reduceEqDiff, decide_true, decide_false, reduceIte, and_true, true_and]) (by simp (maxSteps := 2000000) only [go_sem, Nat.reduceBEq, Nat.reduceLT, Nat.reduceAdd, Nat.reduceMul, Nat.reduceLeDiff, Nat.reduceEqDiff, decide_true, decide_false, reduceIte, and_true, true_and]) (by simp (maxSteps := 2000000) only [go_sem, Nat.reduceBEq, Nat.reduceLT, Nat.reduceAdd, Nat.reduceMul, Nat.reduceLeDiff, Nat.reduceEqDiff, decide_true, decide_false, reduceIte, and_true, true_and]) (by simp (maxSteps := 2000000) only [go_sem, Nat.reduceBEq, Nat.reduceLT, Nat.reduceAdd, Nat.reduceMul, Nat.reduceLeDiff, Nat.reduceEqDiff, decide_true, decide_false, reduceIte, and_true, true_and]) (by simp (maxSteps := 2000000) only [go_sem, Nat.reduceBEq, Nat.reduceLT, Nat.reduceAdd, Nat.reduceMul, Nat.reduceLeDiff, Nat.reduceEqDiff, decide_true, decide_false, reduceIte, and_true, true_and])
end Cs

set_option linter.unusedVariables false
open Go Go.Vm Go.Proofs
namespace Cs
variable [Gl] {H : Type}
theorem cc85 : Tryz.prog.cellsOf 85 = 1 := by kernel_rfl
theorem cc29 : Tryz.prog.cellsOf 29 = 2 := by kernel_rfl
theorem cc2 : Tryz.prog.cellsOf 2 = 1 := by kernel_rfl
def tys : List TypeId := [2, 3, 4, 5, 22, 23, 25, 27, 29, 85]
theorem tys_ok : ∀ t ∈ tys, tyOf1 Tryz.prog tys t = true := by
  have h : (tys.all fun t => tyOf1 Tryz.prog tys t) = true := by kernel_rfl
  exact List.all_eq_true.1 h
theorem a4 {n : Nat} {d : DataW H} {c : List V} (h : ArgN Tryz.prog n 4 d c) : ∃ b, c = [.bool b] := by
  cases n with
  | zero => exact h.elim
  | succ n => simp only [ArgN, Tryz.underlying4] at h; obtain ⟨b, _, h⟩ := h; exact ⟨b, h⟩
theorem a3 {n : Nat} {d : DataW H} {c : List V} (h : ArgN Tryz.prog n 3 d c) : ∃ i, c = [.int .i64 i] := by
  cases n with
  | zero => exact h.elim
  | succ n => simp only [ArgN, Tryz.underlying3] at h; obtain ⟨b, _, h, _⟩ := h; exact ⟨_, h⟩
theorem a2 {n : Nat} {d : DataW H} {c : List V} (h : ArgN Tryz.prog n 2 d c) : ∃ i, c = cntC i := by
  cases n with
  | zero => exact h.elim
  | succ n => simp only [ArgN, Tryz.underlying2] at h; obtain ⟨b, _, h, _⟩ := h; exact ⟨_, h⟩
theorem u8_nat {i : Int} (h : (Lit.int .u8 i).wf = true) : 0 ≤ i := by
  simp only [Lit.wf, Bool.and_eq_true, decide_eq_true_eq] at h
  have h1 : IntKind.u8.min = 0 := rfl
  omega
theorem a5 {n : Nat} {d : DataW H} {c : List V} (h : ArgN Tryz.prog n 5 d c) : ∃ i : Int, 0 ≤ i ∧ c = [.int .u8 i] := by
  cases n with
  | zero => exact h.elim
  | succ n => simp only [ArgN, Tryz.underlying5] at h; obtain ⟨b, _, h, hw⟩ := h; exact ⟨b, u8_nat hw, h⟩
theorem a85 {n : Nat} {d : DataW H} {c : List V} (h : ArgN Tryz.prog n 85 d c) : ∃ i : Nat, c = bitC i := by
  cases n with
  | zero => exact h.elim
  | succ n =>
    simp only [ArgN, Tryz.underlying85] at h
    obtain ⟨b, _, h, hw⟩ := h
    exact ⟨b.toNat, by rw [bitC, Int.toNat_of_nonneg (u8_nat hw)]; exact h⟩
theorem a27 {n : Nat} {d : DataW H} {c : List V} (h : ArgN Tryz.prog n 27 d c) : ∃ vb, ∃ bits : List Nat, c = [vb] ∧ rows [] 1 vb = some (bits.map bitC) ∧ clo vb = true := by
  cases n with
  | zero => exact h.elim
  | succ n =>
    simp only [ArgN, Tryz.underlying27, cc85] at h
    rcases h with ⟨_, rfl⟩ | ⟨ds, sp, rs, _, rfl, _, h⟩
    · exact ⟨_, [], rfl, rfl, rfl⟩
    · have : ∃ bits : List Nat, rs = bits.map bitC := by
        obtain ⟨z, hz⟩ := All2.lift (Q := fun b r => r = bitC b) (fun d r hr => a85 hr.2) h
        exact ⟨z, hz.map_eq⟩
      obtain ⟨bits, rfl⟩ := this
      exact ⟨_, bits, rfl, rows_imm_agg .., clo_imm_agg (bits_clo bits)⟩
theorem a23 {n : Nat} {d : DataW H} {c : List V} (h : ArgN Tryz.prog n 23 d c) : ∃ vb, ∃ cs : List Int, c = [vb] ∧ rows [] 1 vb = some (cs.map cntC) ∧ clo vb = true := by
  cases n with
  | zero => exact h.elim
  | succ n =>
    simp only [ArgN, Tryz.underlying23, cc2] at h
    rcases h with ⟨_, rfl⟩ | ⟨ds, sp, rs, _, rfl, _, h⟩
    · exact ⟨_, [], rfl, rfl, rfl⟩
    · have : ∃ cs : List Int, rs = cs.map cntC := by
        obtain ⟨z, hz⟩ := All2.lift (Q := fun b r => r = cntC b) (fun d r hr => a2 hr.2) h
        exact ⟨z, hz.map_eq⟩
      obtain ⟨cs, rfl⟩ := this
      exact ⟨_, cs, rfl, rows_imm_agg .., clo_imm_agg (cnt_clo cs)⟩
theorem all3_2 {R : Field → DataW H → List V → Prop} {f0 f1 : Field} {ds : List (DataW H)} {rs : List (List V)} (h : All3 R [f0, f1] ds rs) : ∃ d0 d1 r0 r1, ds = [d0, d1] ∧ rs = [r0, r1] ∧ R f0 d0 r0 ∧ R f1 d1 r1 := by
  obtain ⟨_, _, _, _, rfl, rfl, h0, h⟩ := h.cons_inv
  obtain ⟨_, _, _, _, rfl, rfl, h1, h⟩ := h.cons_inv
  obtain ⟨rfl, rfl⟩ := h.nil_inv
  exact ⟨_, _, _, _, rfl, rfl, h0, h1⟩
theorem all3_3 {R : Field → DataW H → List V → Prop} {f0 f1 f2 : Field} {ds : List (DataW H)} {rs : List (List V)} (h : All3 R [f0, f1, f2] ds rs) : ∃ d0 d1 d2 r0 r1 r2, ds = [d0, d1, d2] ∧ rs = [r0, r1, r2] ∧ R f0 d0 r0 ∧ R f1 d1 r1 ∧ R f2 d2 r2 := by
  obtain ⟨_, _, _, _, rfl, rfl, h0, h⟩ := h.cons_inv
  obtain ⟨_, _, _, _, rfl, rfl, h1, h⟩ := h.cons_inv
  obtain ⟨_, _, _, _, rfl, rfl, h2, h⟩ := h.cons_inv
  obtain ⟨rfl, rfl⟩ := h.nil_inv
  exact ⟨_, _, _, _, _, _, rfl, rfl, h0, h1, h2⟩
theorem a29 {n : Nat} {d : DataW H} {c : List V} (h : ArgN Tryz.prog n 29 d c) : ∃ x, RdV c x := by
  cases n with
  | zero => exact h.elim
  | succ n =>
    simp only [ArgN, Tryz.underlying29] at h
    obtain ⟨ds, rs, _, rfl, h⟩ := h
    obtain ⟨d0, d1, r0, r1, rfl, rfl, h0, h1⟩ := all3_2 h
    obtain ⟨vb, bits, rfl, h2, h3⟩ := a27 h0
    obtain ⟨b, rfl⟩ := a4 h1
    exact ⟨(bits, b), vb, rfl, h2, h3⟩
theorem a22 {n : Nat} {d : DataW H} {c : List V} (h : ArgN Tryz.prog n 22 d c) : ∃ v rs, ∃ xs : List Vc, c = [v] ∧ rows [] 2 v = some rs ∧ clo v = true ∧ All2 RdV rs xs := by
  cases n with
  | zero => exact h.elim
  | succ n =>
    simp only [ArgN, Tryz.underlying22, cc29] at h
    rcases h with ⟨_, rfl⟩ | ⟨ds, sp, rs, _, rfl, _, h⟩
    · exact ⟨_, [], [], rfl, rfl, rfl, trivial⟩
    · obtain ⟨z, hz⟩ := All2.lift (Q := fun x r => RdV r x) (fun d r hr => a29 hr.2) h
      have hz' : All2 RdV rs z := by
        clear h
        induction z generalizing rs with
        | nil => cases rs with
          | nil => trivial
          | cons _ _ => exact hz.elim
        | cons x z ih => cases rs with
          | nil => exact hz.elim
          | cons r rs => exact ⟨hz.1, ih _ hz.2⟩
      exact ⟨_, rs, z, rfl, rows_imm_agg .., clo_imm_agg (all2_clo hz'), hz'⟩
theorem a25 {n : Nat} {d : DataW H} {c : List V} (h : ArgN Tryz.prog n 25 d c) : ∃ T, RdT (.agg c) T := by
  cases n with
  | zero => exact h.elim
  | succ n =>
    simp only [ArgN, Tryz.underlying25] at h
    obtain ⟨ds, rs, _, rfl, h⟩ := h
    obtain ⟨d0, d1, d2, r0, r1, r2, rfl, rfl, h0, h1, h2⟩ := all3_3 h
    obtain ⟨pc, rfl⟩ := a3 h0
    obtain ⟨vs, ss, xs, rfl, p1, p2, p3⟩ := a22 h1
    obtain ⟨vc, cs, rfl, q1, q2⟩ := a23 h2
    exact ⟨⟨pc, xs, cs⟩, vs, vc, ss, rfl, p1, p2, p3, q1, q2⟩
end Cs

