/- A run under the evaluator, part 2: no statement of its own. -/
import Derived.Test.YtdhnlpgamopfeaaGreatDoorVm6
import Derived.Test.YtdhnlpgamopfeaaGreatDoorRunO1
set_option autoImplicit false
set_option maxRecDepth 100000
set_option linter.unusedSectionVars false
set_option linter.unusedVariables false
set_option linter.unusedSimpArgs false
set_option linter.unusedVariables false
open Go Go.Vm Go.Proofs
namespace Cs
variable [Gl]
theorem Ret.cell2 {P : Program} {fn : Func} {i j : Nat} {ty ty' : TypeId} {u v : V} {t : Tm} {S : St} {R : V → St → Prop} (hr : fn.results.toList = [.cell i ty, .cell j ty']) (hu : opLoad P ty (t i) S = some u) (hv : opLoad P ty' (t j) S = some v) (h : R (.tup [u, v]) S) : Ret P fn R .ret t S := by
  refine ⟨[u, v], ?_, h⟩
  rw [hr]; simp only [evRes, hu, hv]
abbrev zE : List V := [.int .u8 0, .int .i64 0, .nils, .nils, .bool false, .nils, .nils, .str [], .str [], .nils]
/-- The last steps. -/
theorem mfin {n : Nat} {l L : List Ob} {t : Tm} {pc : Int} {us uc : V} {rs cs : List (List V)} {os oc : Option Nat} {e : List V} {i9 i10 : Nat} {R : V → St → Prop}
    (i6 : t 6 = .ptr (idOf (l.length + 3)) 0) (i7 : t 7 = .ptr (idOf (l.length + 4)) 0) (it9 : t 9 = .ptr (idOf i9) 0) (it10 : t 10 = .ptr (idOf i10) 0)
    (g6 : L[l.length + 3]? = some (.cells zT 0 [])) (g7 : L[l.length + 4]? = some (.cells zE 0 [])) (g9 : L[i9]? = some (.cells [.int .i64 pc, us, uc] 0 [])) (g10 : L[i10]? = some (.cells e 0 []))
    (he : e.length = 10) (h9 : l.length + 4 < i9) (h10 : i9 < i10) (fr : ∀ i, i < l.length → L[i]? = l[i]?)
    (hs : Own l.length L 2 us rs os) (hc : Own l.length L 1 uc cs oc) (ns : ∀ k, os = some k → l.length + 4 < k) (nc : ∀ k, oc = some k → l.length + 4 < k)
    (hR : ∀ g, Own l.length (l ++ g) 2 us rs os → Own l.length (l ++ g) 1 uc cs oc → R (.tup [.agg [.int .i64 pc, us, uc], .agg e]) (stL (l ++ g))) :
    Ev Tryz.prog Tryz.f14.ntmps n (callS Tryz.prog Sp n) (sndC (sndC (sndC (sndC (sndC (sndC (sndC (bodyC Tryz.f14)))))))) t (stL L) (Ret Tryz.prog Tryz.f14 R) := by
  have k6 := get_lt g6
  have k7 := get_lt g7
  have k9 := get_lt g9
  have k10 := get_lt g10
  have e6 : ∀ i, l.length + 3 ≠ i → (L.set (l.length + 3) (.cells [.int .i64 pc, us, uc] 0 []))[i]? = L[i]? := fun i hi => List.getElem?_set_ne hi
  have g7' : (L.set (l.length + 3) (.cells [.int .i64 pc, us, uc] 0 []))[l.length + 4]? = some (.cells zE 0 []) := by rw [e6 _ (by omega)]; exact g7
  refine Ev.seq rfl (Ev.regDX rfl (by kernel_rfl) [(1, 2)] (by kernel_rfl) (fun T' Z B R htr p hp => ?_) ?_)
  · have a1 : T' 1 10 = .ptr (idOf i10) 0 := htr.at 1 (by decide) (X := fun t _ => t 10 = .ptr (idOf i10) 0) (by simp (maxSteps := 2000000) only [go_sem, Nat.reduceBEq, Nat.reduceLT, Nat.reduceAdd, Nat.reduceMul, Nat.reduceLeDiff, Nat.reduceEqDiff, decide_true, decide_false, reduceIte, and_true, true_and, it9, it10, g9])
    have a2 : Z 2 = stL L := htr.at 2 (by decide) (X := fun _ S => S = stL L) (by simp (maxSteps := 2000000) only [go_sem, Nat.reduceBEq, Nat.reduceLT, Nat.reduceAdd, Nat.reduceMul, Nat.reduceLeDiff, Nat.reduceEqDiff, decide_true, decide_false, reduceIte, and_true, true_and, it9, it10, g9, g10, he, takeN_some, List.take_of_length_le, Nat.le_refl])
    have a3 : Z 3 = stL (L.set (l.length + 3) (.cells [.int .i64 pc, us, uc] 0 [])) := htr.at 3 (by decide) (X := fun _ S => S = stL (L.set (l.length + 3) (.cells [.int .i64 pc, us, uc] 0 []))) (by simp (maxSteps := 2000000) only [go_sem, Nat.reduceBEq, Nat.reduceLT, Nat.reduceAdd, Nat.reduceMul, Nat.reduceLeDiff, Nat.reduceEqDiff, decide_true, decide_false, reduceIte, and_true, true_and, i6, it9, it10, g6, g9, g10, he, takeN_some, List.take_of_length_le, Nat.le_refl, Nat.zero_le, over_all])
    simp only [List.mem_cons, List.not_mem_nil, or_false] at hp
    subst hp
    refine LookOK.of_load rfl ?_
    simp (maxSteps := 2000000) only [go_sem, Nat.reduceBEq, Nat.reduceLT, Nat.reduceAdd, Nat.reduceMul, Nat.reduceLeDiff, Nat.reduceEqDiff, decide_true, decide_false, reduceIte, and_true, true_and, a1, a2, a3, e6 i10 (by omega)]
  simp (maxSteps := 2000000) only [go_sem, Nat.reduceBEq, Nat.reduceLT, Nat.reduceAdd, Nat.reduceMul, Nat.reduceLeDiff, Nat.reduceEqDiff, decide_true, decide_false, reduceIte, and_true, true_and, i6, i7, it9, it10, g6, g7', g9, g10, he, takeN_some, List.take_of_length_le, Nat.le_refl, Nat.zero_le, over_all]
  have e7 : ∀ i, l.length + 4 ≠ i → ((L.set (l.length + 3) (.cells [.int .i64 pc, us, uc] 0 [])).set (l.length + 4) (.cells e 0 []))[i]? = (L.set (l.length + 3) (.cells [.int .i64 pc, us, uc] 0 []))[i]? := fun i hi => List.getElem?_set_ne hi
  have q6 : ((L.set (l.length + 3) (.cells [.int .i64 pc, us, uc] 0 [])).set (l.length + 4) (.cells e 0 []))[l.length + 3]? = some (.cells [.int .i64 pc, us, uc] 0 []) := by rw [e7 _ (by omega), List.getElem?_set_self k6]
  have q7 : ((L.set (l.length + 3) (.cells [.int .i64 pc, us, uc] 0 [])).set (l.length + 4) (.cells e 0 []))[l.length + 4]? = some (.cells e 0 []) := by rw [List.getElem?_set_self (by simpa using k7)]
  refine Ev.ret (Ret.cell2 rfl (u := .agg [.int .i64 pc, us, uc]) (v := .agg e) (by simp (maxSteps := 2000000) only [go_sem, Nat.reduceBEq, Nat.reduceLT, Nat.reduceAdd, Nat.reduceMul, Nat.reduceLeDiff, Nat.reduceEqDiff, decide_true, decide_false, reduceIte, and_true, true_and, i6, q6]) (by simp (maxSteps := 2000000) only [go_sem, Nat.reduceBEq, Nat.reduceLT, Nat.reduceAdd, Nat.reduceMul, Nat.reduceLeDiff, Nat.reduceEqDiff, decide_true, decide_false, reduceIte, and_true, true_and, i7, q7, he, takeN_some, List.take_of_length_le, Nat.le_refl]) ?_)
  obtain ⟨g, eg⟩ := app_of (l := l) (l' := (L.set (l.length + 3) (.cells [.int .i64 pc, us, uc] 0 [])).set (l.length + 4) (.cells e 0 [])) fun i hi => by rw [e7 _ (by omega), e6 _ (by omega)]; exact fr i hi
  rw [eg]
  refine hR g ?_ ?_
  · rw [← eg]; exact hs.keep fun k hk => by have := ns k hk; rw [e7 _ (by omega), e6 _ (by omega)]
  · rw [← eg]; exact hc.keep fun k hk => by have := nc k hk; rw [e7 _ (by omega), e6 _ (by omega)]
end Cs

set_option linter.unusedVariables false
open Go Go.Vm Go.Proofs
namespace Cs
variable [Gl]
theorem mapp {l g h : List Ob} {a b c d e : Ob} : l ++ a :: b :: c :: d :: e :: (g ++ h) = (l ++ a :: b :: c :: d :: e :: g) ++ h := by simp
theorem mstep5_run {l : List Ob} {t : V} {T : Th} {i : Vm.Id} {o : Nat} {slot to : Int} (h : RdT t T) (hS : Small T) (hp : T.pc = 0) (hs : 0 ≤ slot ∧ slot ≤ 4096) (n : Nat) (hn : 7000 ≤ n) :
    ∃ u g, callS Tryz.prog Sp n 14 [.ptr i o, .agg (insC 5 slot to), t] (stL l) = some (.tup [u, effV (stepS 5 slot to T).2.1], stL (l ++ g)) ∧ (stepS 5 slot to T).2.2 = 0 ∧ LvT l g (stepS 5 slot to T).1 u := by
  obtain ⟨n, rfl⟩ : ∃ m, n = m + 1 := ⟨n - 1, by omega⟩
  suffices hs : ∃ u S', callS Tryz.prog Sp (n + 1) 14 [.ptr i o, .agg (insC 5 slot to), t] (stL l) = some (u, S') ∧ (∃ u' g, u = .tup [u', effV (stepS 5 slot to T).2.1] ∧ S' = stL (l ++ g) ∧ (stepS 5 slot to T).2.2 = 0 ∧ LvT l g (stepS 5 slot to T).1 u') by
    obtain ⟨u, S', h, u', g, rfl, rfl, h2⟩ := hs; exact ⟨u', g, h, h2⟩
  have h0 := h
  obtain ⟨vs, vc, rs0, rfl, h1, k1, h2, h3, k2⟩ := h
  rw [hp] at h0 ⊢
  have c1 := rows_cell h1
  have c2 := rows_cell h3
  obtain ⟨u, g, hc, us, uc, rs, os, oc, rfl, huc, hvc, hO1, hA, hO2, ho1, ho2, hne⟩ := tclone_run (l := l ++ [.cells [.ptr i o] 0 [], .cells (insC 5 slot to) 0 [], .cells [.int .i64 0, vs, vc] 0 [], .cells zT 0 [], .cells [.int .u8 0, .int .i64 0, .nils, .nils, .bool false, .nils, .nils, .str [], .str [], .nils] 0 []]) (k := (-1)) h0 hS (by omega) n (by omega)
  simp only [List.append_assoc, List.cons_append, List.nil_append, insC] at hc hO1 hO2
  refine runS (fun v h => h) Tryz.func14 rfl (by simp [Tryz.f14]) ?_
  have hpc : (pad (-1) T).pc = 0 := hp
  rw [hpc] at hc
  refine Ev.seq rfl (Ev.reg' ?_)
  simp (maxSteps := 2000000) only [go_sem, Nat.reduceBEq, Nat.reduceLT, Nat.reduceAdd, Nat.reduceMul, Nat.reduceLeDiff, Nat.reduceEqDiff, decide_true, decide_false, reduceIte, and_true, true_and, insC]
  refine Ev.seq rfl (Ev.reg' ?_)
  simp (maxSteps := 2000000) only [go_sem, Nat.reduceBEq, Nat.reduceLT, Nat.reduceAdd, Nat.reduceMul, Nat.reduceLeDiff, Nat.reduceEqDiff, decide_true, decide_false, reduceIte, and_true, true_and]
  refine Ev.seq rfl (Ev.seq rfl (Ev.reg' ?_))
  simp (maxSteps := 2000000) only [go_sem, Nat.reduceBEq, Nat.reduceLT, Nat.reduceAdd, Nat.reduceMul, Nat.reduceLeDiff, Nat.reduceEqDiff, decide_true, decide_false, reduceIte, and_true, true_and, Int.reduceBEq]
  refine Ev.cond' ?_
  simp (maxSteps := 2000000) only [go_sem, Nat.reduceBEq, Nat.reduceLT, Nat.reduceAdd, Nat.reduceMul, Nat.reduceLeDiff, Nat.reduceEqDiff, decide_true, decide_false, reduceIte, and_true, true_and]
  refine Ev.skip ?_
  simp (maxSteps := 2000000) only [go_sem, Nat.reduceBEq, Nat.reduceLT, Nat.reduceAdd, Nat.reduceMul, Nat.reduceLeDiff, Nat.reduceEqDiff, decide_true, decide_false, reduceIte, and_true, true_and]
  refine Ev.seq rfl (Ev.reg' ?_)
  simp (maxSteps := 2000000) only [go_sem, Nat.reduceBEq, Nat.reduceLT, Nat.reduceAdd, Nat.reduceMul, Nat.reduceLeDiff, Nat.reduceEqDiff, decide_true, decide_false, reduceIte, and_true, true_and, hc, over_all, Nat.zero_le, Nat.le_refl]
  refine Ev.seq rfl (Ev.reg' ?_)
  simp (maxSteps := 2000000) only [go_sem, Nat.reduceBEq, Nat.reduceLT, Nat.reduceAdd, Nat.reduceMul, Nat.reduceLeDiff, Nat.reduceEqDiff, decide_true, decide_false, reduceIte, and_true, true_and, over, Nat.zero_le, Nat.le_refl]
  refine Ev.seq rfl (Ev.reg' ?_)
  simp (maxSteps := 2000000) only [go_sem, Nat.reduceBEq, Nat.reduceLT, Nat.reduceAdd, Nat.reduceMul, Nat.reduceLeDiff, Nat.reduceEqDiff, decide_true, decide_false, reduceIte, and_true, true_and, over_all, Nat.zero_le, Nat.le_refl]
  refine Ev.seq rfl (Ev.seq rfl (Ev.reg' ?_))
  simp (maxSteps := 2000000) only [go_sem, Nat.reduceBEq, Nat.reduceLT, Nat.reduceAdd, Nat.reduceMul, Nat.reduceLeDiff, Nat.reduceEqDiff, decide_true, decide_false, reduceIte, and_true, true_and]
  refine Ev.block ?_
  iterate 5 (refine Ev.seq rfl (Ev.reg' ?_); simp (maxSteps := 2000000) only [go_sem, Nat.reduceBEq, Nat.reduceLT, Nat.reduceAdd, Nat.reduceMul, Nat.reduceLeDiff, Nat.reduceEqDiff, decide_true, decide_false, reduceIte, and_true, true_and, Int.reduceBEq]; refine Ev.cond' ?_; simp (maxSteps := 2000000) only [go_sem, Nat.reduceBEq, Nat.reduceLT, Nat.reduceAdd, Nat.reduceMul, Nat.reduceLeDiff, Nat.reduceEqDiff, decide_true, decide_false, reduceIte, and_true, true_and])
  refine Ev.reg' ?_
  simp (maxSteps := 2000000) only [go_sem, Nat.reduceBEq, Nat.reduceLT, Nat.reduceAdd, Nat.reduceMul, Nat.reduceLeDiff, Nat.reduceEqDiff, decide_true, decide_false, reduceIte, and_true, true_and, over, Nat.zero_le, Nat.le_refl]
  have hst : stepS 5 slot to T = (⟨to, (pad (-1) T).slots, (pad (-1) T).counts⟩, 1, 0) := by
    unfold stepS
    rw [if_neg (by omega), if_neg (by omega)]
    rfl
  rw [hst]
  refine mfin (l := l) (i9 := l.length + (g.length + 1 + 1 + 1 + 1 + 1)) (i10 := l.length + (g.length + 1 + 1 + 1 + 1 + 1 + 1)) (pc := to) (us := us) (uc := uc) (rs := rs) (cs := (pad (-1) T).counts.map cntC) (os := os) (oc := oc) (e := [.int .u8 1, .int .i64 0, .nils, .nils, .bool false, .nils, .nils, .str [], .str [], .nils]) ?_ ?_ ?_ ?_ ?_ ?_ ?_ ?_ rfl (by omega) (by omega) (fun i hi => by rw [List.getElem?_append_left hi]) ?_ ?_ (fun k hk => by have := ho1 k hk; simp at this; omega) (fun k hk => by have := ho2 k hk; simp at this; omega) ?_
  · simp (maxSteps := 2000000) only [go_sem, Nat.reduceBEq, Nat.reduceLT, Nat.reduceAdd, Nat.reduceMul, Nat.reduceLeDiff, Nat.reduceEqDiff, decide_true, decide_false, reduceIte, and_true, true_and]
  · simp (maxSteps := 2000000) only [go_sem, Nat.reduceBEq, Nat.reduceLT, Nat.reduceAdd, Nat.reduceMul, Nat.reduceLeDiff, Nat.reduceEqDiff, decide_true, decide_false, reduceIte, and_true, true_and]
  · simp (maxSteps := 2000000) only [go_sem, Nat.reduceBEq, Nat.reduceLT, Nat.reduceAdd, Nat.reduceMul, Nat.reduceLeDiff, Nat.reduceEqDiff, decide_true, decide_false, reduceIte, and_true, true_and]
  · simp (maxSteps := 2000000) only [go_sem, Nat.reduceBEq, Nat.reduceLT, Nat.reduceAdd, Nat.reduceMul, Nat.reduceLeDiff, Nat.reduceEqDiff, decide_true, decide_false, reduceIte, and_true, true_and]
  · rw [gxs]; rfl
  · rw [gxs]; rfl
  · rw [gxs]; simp only [List.getElem?_cons_succ, gx0]; rfl
  · rw [gxs]; simp only [List.getElem?_cons_succ, gxs]; rfl
  · exact (hO1.low (by simp)).keep fun k hk => by subst hk; rw [mapp, List.getElem?_append_left hO1.lt]
  · exact (hO2.low (by simp)).keep fun k hk => by subst hk; rw [mapp, List.getElem?_append_left hO2.lt]
  · intro g' q1 q2
    exact ⟨_, g', rfl, rfl, rfl, us, uc, rs, os, oc, rfl, huc, hvc, q1, hA, q2, fun j hj => by subst hj; exact q1.ge, fun j hj => by subst hj; exact q2.ge, hne⟩

theorem mstep10_run {l : List Ob} {t : V} {T : Th} {i : Vm.Id} {o : Nat} {slot to : Int} (h : RdT t T) (hS : Small T) (hp : T.pc = 0) (hs : 0 ≤ slot ∧ slot ≤ 4096) (n : Nat) (hn : 7000 ≤ n) :
    ∃ u g, callS Tryz.prog Sp n 14 [.ptr i o, .agg (insC 10 slot to), t] (stL l) = some (.tup [u, effV (stepS 10 slot to T).2.1], stL (l ++ g)) ∧ (stepS 10 slot to T).2.2 = 0 ∧ LvT l g (stepS 10 slot to T).1 u := by
  obtain ⟨n, rfl⟩ : ∃ m, n = m + 1 := ⟨n - 1, by omega⟩
  suffices hs : ∃ u S', callS Tryz.prog Sp (n + 1) 14 [.ptr i o, .agg (insC 10 slot to), t] (stL l) = some (u, S') ∧ (∃ u' g, u = .tup [u', effV (stepS 10 slot to T).2.1] ∧ S' = stL (l ++ g) ∧ (stepS 10 slot to T).2.2 = 0 ∧ LvT l g (stepS 10 slot to T).1 u') by
    obtain ⟨u, S', h, u', g, rfl, rfl, h2⟩ := hs; exact ⟨u', g, h, h2⟩
  have h0 := h
  obtain ⟨vs, vc, rs0, rfl, h1, k1, h2, h3, k2⟩ := h
  rw [hp] at h0 ⊢
  have c1 := rows_cell h1
  have c2 := rows_cell h3
  obtain ⟨u, g, hc, us, uc, rs, os, oc, rfl, huc, hvc, hO1, hA, hO2, ho1, ho2, hne⟩ := tclone_run (l := l ++ [.cells [.ptr i o] 0 [], .cells (insC 10 slot to) 0 [], .cells [.int .i64 0, vs, vc] 0 [], .cells zT 0 [], .cells [.int .u8 0, .int .i64 0, .nils, .nils, .bool false, .nils, .nils, .str [], .str [], .nils] 0 []]) (k := (-1)) h0 hS (by omega) n (by omega)
  simp only [List.append_assoc, List.cons_append, List.nil_append, insC] at hc hO1 hO2
  refine runS (fun v h => h) Tryz.func14 rfl (by simp [Tryz.f14]) ?_
  have hpc : (pad (-1) T).pc = 0 := hp
  rw [hpc] at hc
  refine Ev.seq rfl (Ev.reg' ?_)
  simp (maxSteps := 2000000) only [go_sem, Nat.reduceBEq, Nat.reduceLT, Nat.reduceAdd, Nat.reduceMul, Nat.reduceLeDiff, Nat.reduceEqDiff, decide_true, decide_false, reduceIte, and_true, true_and, insC]
  refine Ev.seq rfl (Ev.reg' ?_)
  simp (maxSteps := 2000000) only [go_sem, Nat.reduceBEq, Nat.reduceLT, Nat.reduceAdd, Nat.reduceMul, Nat.reduceLeDiff, Nat.reduceEqDiff, decide_true, decide_false, reduceIte, and_true, true_and]
  refine Ev.seq rfl (Ev.seq rfl (Ev.reg' ?_))
  simp (maxSteps := 2000000) only [go_sem, Nat.reduceBEq, Nat.reduceLT, Nat.reduceAdd, Nat.reduceMul, Nat.reduceLeDiff, Nat.reduceEqDiff, decide_true, decide_false, reduceIte, and_true, true_and, Int.reduceBEq]
  refine Ev.cond' ?_
  simp (maxSteps := 2000000) only [go_sem, Nat.reduceBEq, Nat.reduceLT, Nat.reduceAdd, Nat.reduceMul, Nat.reduceLeDiff, Nat.reduceEqDiff, decide_true, decide_false, reduceIte, and_true, true_and]
  refine Ev.skip ?_
  simp (maxSteps := 2000000) only [go_sem, Nat.reduceBEq, Nat.reduceLT, Nat.reduceAdd, Nat.reduceMul, Nat.reduceLeDiff, Nat.reduceEqDiff, decide_true, decide_false, reduceIte, and_true, true_and]
  refine Ev.seq rfl (Ev.reg' ?_)
  simp (maxSteps := 2000000) only [go_sem, Nat.reduceBEq, Nat.reduceLT, Nat.reduceAdd, Nat.reduceMul, Nat.reduceLeDiff, Nat.reduceEqDiff, decide_true, decide_false, reduceIte, and_true, true_and, hc, over_all, Nat.zero_le, Nat.le_refl]
  refine Ev.seq rfl (Ev.reg' ?_)
  simp (maxSteps := 2000000) only [go_sem, Nat.reduceBEq, Nat.reduceLT, Nat.reduceAdd, Nat.reduceMul, Nat.reduceLeDiff, Nat.reduceEqDiff, decide_true, decide_false, reduceIte, and_true, true_and, over, Nat.zero_le, Nat.le_refl]
  refine Ev.seq rfl (Ev.reg' ?_)
  simp (maxSteps := 2000000) only [go_sem, Nat.reduceBEq, Nat.reduceLT, Nat.reduceAdd, Nat.reduceMul, Nat.reduceLeDiff, Nat.reduceEqDiff, decide_true, decide_false, reduceIte, and_true, true_and, over_all, Nat.zero_le, Nat.le_refl]
  refine Ev.seq rfl (Ev.seq rfl (Ev.reg' ?_))
  simp (maxSteps := 2000000) only [go_sem, Nat.reduceBEq, Nat.reduceLT, Nat.reduceAdd, Nat.reduceMul, Nat.reduceLeDiff, Nat.reduceEqDiff, decide_true, decide_false, reduceIte, and_true, true_and]
  refine Ev.block ?_
  iterate 10 (refine Ev.seq rfl (Ev.reg' ?_); simp (maxSteps := 2000000) only [go_sem, Nat.reduceBEq, Nat.reduceLT, Nat.reduceAdd, Nat.reduceMul, Nat.reduceLeDiff, Nat.reduceEqDiff, decide_true, decide_false, reduceIte, and_true, true_and, Int.reduceBEq]; refine Ev.cond' ?_; simp (maxSteps := 2000000) only [go_sem, Nat.reduceBEq, Nat.reduceLT, Nat.reduceAdd, Nat.reduceMul, Nat.reduceLeDiff, Nat.reduceEqDiff, decide_true, decide_false, reduceIte, and_true, true_and])
  refine Ev.reg' ?_
  simp (maxSteps := 2000000) only [go_sem, Nat.reduceBEq, Nat.reduceLT, Nat.reduceAdd, Nat.reduceMul, Nat.reduceLeDiff, Nat.reduceEqDiff, decide_true, decide_false, reduceIte, and_true, true_and, over, Nat.zero_le, Nat.le_refl]
  have hst : stepS 10 slot to T = (⟨1, (pad (-1) T).slots, (pad (-1) T).counts⟩, 4, 0) := by
    unfold stepS
    rw [if_neg (by omega), if_neg (by omega)]
    rfl
  rw [hst]
  refine mfin (l := l) (i9 := l.length + (g.length + 1 + 1 + 1 + 1 + 1)) (i10 := l.length + (g.length + 1 + 1 + 1 + 1 + 1 + 1)) (pc := 1) (us := us) (uc := uc) (rs := rs) (cs := (pad (-1) T).counts.map cntC) (os := os) (oc := oc) (e := [.int .u8 4, .int .i64 0, .nils, .nils, .bool false, .nils, .nils, .str [], .str [], .nils]) ?_ ?_ ?_ ?_ ?_ ?_ ?_ ?_ rfl (by omega) (by omega) (fun i hi => by rw [List.getElem?_append_left hi]) ?_ ?_ (fun k hk => by have := ho1 k hk; simp at this; omega) (fun k hk => by have := ho2 k hk; simp at this; omega) ?_
  · simp (maxSteps := 2000000) only [go_sem, Nat.reduceBEq, Nat.reduceLT, Nat.reduceAdd, Nat.reduceMul, Nat.reduceLeDiff, Nat.reduceEqDiff, decide_true, decide_false, reduceIte, and_true, true_and]
  · simp (maxSteps := 2000000) only [go_sem, Nat.reduceBEq, Nat.reduceLT, Nat.reduceAdd, Nat.reduceMul, Nat.reduceLeDiff, Nat.reduceEqDiff, decide_true, decide_false, reduceIte, and_true, true_and]
  · simp (maxSteps := 2000000) only [go_sem, Nat.reduceBEq, Nat.reduceLT, Nat.reduceAdd, Nat.reduceMul, Nat.reduceLeDiff, Nat.reduceEqDiff, decide_true, decide_false, reduceIte, and_true, true_and]
  · simp (maxSteps := 2000000) only [go_sem, Nat.reduceBEq, Nat.reduceLT, Nat.reduceAdd, Nat.reduceMul, Nat.reduceLeDiff, Nat.reduceEqDiff, decide_true, decide_false, reduceIte, and_true, true_and]
  · rw [gxs]; rfl
  · rw [gxs]; rfl
  · rw [gxs]; simp only [List.getElem?_cons_succ, gx0]; rfl
  · rw [gxs]; simp only [List.getElem?_cons_succ, gxs]; rfl
  · exact (hO1.low (by simp)).keep fun k hk => by subst hk; rw [mapp, List.getElem?_append_left hO1.lt]
  · exact (hO2.low (by simp)).keep fun k hk => by subst hk; rw [mapp, List.getElem?_append_left hO2.lt]
  · intro g' q1 q2
    exact ⟨_, g', rfl, rfl, rfl, us, uc, rs, os, oc, rfl, huc, hvc, q1, hA, q2, fun j hj => by subst hj; exact q1.ge, fun j hj => by subst hj; exact q2.ge, hne⟩

theorem mstep14_run {l : List Ob} {t : V} {T : Th} {i : Vm.Id} {o : Nat} {slot to : Int} (h : RdT t T) (hS : Small T) (hp : T.pc = 0) (hs : 0 ≤ slot ∧ slot ≤ 4096) (n : Nat) (hn : 7000 ≤ n) :
    ∃ u g, callS Tryz.prog Sp n 14 [.ptr i o, .agg (insC 14 slot to), t] (stL l) = some (.tup [u, effV (stepS 14 slot to T).2.1], stL (l ++ g)) ∧ (stepS 14 slot to T).2.2 = 0 ∧ LvT l g (stepS 14 slot to T).1 u := by
  obtain ⟨n, rfl⟩ : ∃ m, n = m + 1 := ⟨n - 1, by omega⟩
  suffices hs : ∃ u S', callS Tryz.prog Sp (n + 1) 14 [.ptr i o, .agg (insC 14 slot to), t] (stL l) = some (u, S') ∧ (∃ u' g, u = .tup [u', effV (stepS 14 slot to T).2.1] ∧ S' = stL (l ++ g) ∧ (stepS 14 slot to T).2.2 = 0 ∧ LvT l g (stepS 14 slot to T).1 u') by
    obtain ⟨u, S', h, u', g, rfl, rfl, h2⟩ := hs; exact ⟨u', g, h, h2⟩
  have h0 := h
  obtain ⟨vs, vc, rs0, rfl, h1, k1, h2, h3, k2⟩ := h
  rw [hp] at h0 ⊢
  have c1 := rows_cell h1
  have c2 := rows_cell h3
  obtain ⟨u, g, hc, us, uc, rs, os, oc, rfl, huc, hvc, hO1, hA, hO2, ho1, ho2, hne⟩ := tclone_run (l := l ++ [.cells [.ptr i o] 0 [], .cells (insC 14 slot to) 0 [], .cells [.int .i64 0, vs, vc] 0 [], .cells zT 0 [], .cells [.int .u8 0, .int .i64 0, .nils, .nils, .bool false, .nils, .nils, .str [], .str [], .nils] 0 []]) (k := (-1)) h0 hS (by omega) n (by omega)
  simp only [List.append_assoc, List.cons_append, List.nil_append, insC] at hc hO1 hO2
  refine runS (fun v h => h) Tryz.func14 rfl (by simp [Tryz.f14]) ?_
  have hpc : (pad (-1) T).pc = 0 := hp
  rw [hpc] at hc
  refine Ev.seq rfl (Ev.reg' ?_)
  simp (maxSteps := 2000000) only [go_sem, Nat.reduceBEq, Nat.reduceLT, Nat.reduceAdd, Nat.reduceMul, Nat.reduceLeDiff, Nat.reduceEqDiff, decide_true, decide_false, reduceIte, and_true, true_and, insC]
  refine Ev.seq rfl (Ev.reg' ?_)
  simp (maxSteps := 2000000) only [go_sem, Nat.reduceBEq, Nat.reduceLT, Nat.reduceAdd, Nat.reduceMul, Nat.reduceLeDiff, Nat.reduceEqDiff, decide_true, decide_false, reduceIte, and_true, true_and]
  refine Ev.seq rfl (Ev.seq rfl (Ev.reg' ?_))
  simp (maxSteps := 2000000) only [go_sem, Nat.reduceBEq, Nat.reduceLT, Nat.reduceAdd, Nat.reduceMul, Nat.reduceLeDiff, Nat.reduceEqDiff, decide_true, decide_false, reduceIte, and_true, true_and, Int.reduceBEq]
  refine Ev.cond' ?_
  simp (maxSteps := 2000000) only [go_sem, Nat.reduceBEq, Nat.reduceLT, Nat.reduceAdd, Nat.reduceMul, Nat.reduceLeDiff, Nat.reduceEqDiff, decide_true, decide_false, reduceIte, and_true, true_and]
  refine Ev.skip ?_
  simp (maxSteps := 2000000) only [go_sem, Nat.reduceBEq, Nat.reduceLT, Nat.reduceAdd, Nat.reduceMul, Nat.reduceLeDiff, Nat.reduceEqDiff, decide_true, decide_false, reduceIte, and_true, true_and]
  refine Ev.seq rfl (Ev.reg' ?_)
  simp (maxSteps := 2000000) only [go_sem, Nat.reduceBEq, Nat.reduceLT, Nat.reduceAdd, Nat.reduceMul, Nat.reduceLeDiff, Nat.reduceEqDiff, decide_true, decide_false, reduceIte, and_true, true_and, hc, over_all, Nat.zero_le, Nat.le_refl]
  refine Ev.seq rfl (Ev.reg' ?_)
  simp (maxSteps := 2000000) only [go_sem, Nat.reduceBEq, Nat.reduceLT, Nat.reduceAdd, Nat.reduceMul, Nat.reduceLeDiff, Nat.reduceEqDiff, decide_true, decide_false, reduceIte, and_true, true_and, over, Nat.zero_le, Nat.le_refl]
  refine Ev.seq rfl (Ev.reg' ?_)
  simp (maxSteps := 2000000) only [go_sem, Nat.reduceBEq, Nat.reduceLT, Nat.reduceAdd, Nat.reduceMul, Nat.reduceLeDiff, Nat.reduceEqDiff, decide_true, decide_false, reduceIte, and_true, true_and, over_all, Nat.zero_le, Nat.le_refl]
  refine Ev.seq rfl (Ev.seq rfl (Ev.reg' ?_))
  simp (maxSteps := 2000000) only [go_sem, Nat.reduceBEq, Nat.reduceLT, Nat.reduceAdd, Nat.reduceMul, Nat.reduceLeDiff, Nat.reduceEqDiff, decide_true, decide_false, reduceIte, and_true, true_and]
  refine Ev.block ?_
  iterate 14 (refine Ev.seq rfl (Ev.reg' ?_); simp (maxSteps := 2000000) only [go_sem, Nat.reduceBEq, Nat.reduceLT, Nat.reduceAdd, Nat.reduceMul, Nat.reduceLeDiff, Nat.reduceEqDiff, decide_true, decide_false, reduceIte, and_true, true_and, Int.reduceBEq]; refine Ev.cond' ?_; simp (maxSteps := 2000000) only [go_sem, Nat.reduceBEq, Nat.reduceLT, Nat.reduceAdd, Nat.reduceMul, Nat.reduceLeDiff, Nat.reduceEqDiff, decide_true, decide_false, reduceIte, and_true, true_and])
  refine Ev.reg' ?_
  simp (maxSteps := 2000000) only [go_sem, Nat.reduceBEq, Nat.reduceLT, Nat.reduceAdd, Nat.reduceMul, Nat.reduceLeDiff, Nat.reduceEqDiff, decide_true, decide_false, reduceIte, and_true, true_and, over, Nat.zero_le, Nat.le_refl]
  have hst : stepS 14 slot to T = (⟨1, (pad (-1) T).slots, (pad (-1) T).counts⟩, 8, 0) := by
    unfold stepS
    rw [if_neg (by omega), if_neg (by omega)]
    rfl
  rw [hst]
  refine mfin (l := l) (i9 := l.length + (g.length + 1 + 1 + 1 + 1 + 1)) (i10 := l.length + (g.length + 1 + 1 + 1 + 1 + 1 + 1)) (pc := 1) (us := us) (uc := uc) (rs := rs) (cs := (pad (-1) T).counts.map cntC) (os := os) (oc := oc) (e := [.int .u8 8, .int .i64 0, .nils, .nils, .bool false, .nils, .nils, .str [], .str [], .nils]) ?_ ?_ ?_ ?_ ?_ ?_ ?_ ?_ rfl (by omega) (by omega) (fun i hi => by rw [List.getElem?_append_left hi]) ?_ ?_ (fun k hk => by have := ho1 k hk; simp at this; omega) (fun k hk => by have := ho2 k hk; simp at this; omega) ?_
  · simp (maxSteps := 2000000) only [go_sem, Nat.reduceBEq, Nat.reduceLT, Nat.reduceAdd, Nat.reduceMul, Nat.reduceLeDiff, Nat.reduceEqDiff, decide_true, decide_false, reduceIte, and_true, true_and]
  · simp (maxSteps := 2000000) only [go_sem, Nat.reduceBEq, Nat.reduceLT, Nat.reduceAdd, Nat.reduceMul, Nat.reduceLeDiff, Nat.reduceEqDiff, decide_true, decide_false, reduceIte, and_true, true_and]
  · simp (maxSteps := 2000000) only [go_sem, Nat.reduceBEq, Nat.reduceLT, Nat.reduceAdd, Nat.reduceMul, Nat.reduceLeDiff, Nat.reduceEqDiff, decide_true, decide_false, reduceIte, and_true, true_and]
  · simp (maxSteps := 2000000) only [go_sem, Nat.reduceBEq, Nat.reduceLT, Nat.reduceAdd, Nat.reduceMul, Nat.reduceLeDiff, Nat.reduceEqDiff, decide_true, decide_false, reduceIte, and_true, true_and]
  · rw [gxs]; rfl
  · rw [gxs]; rfl
  · rw [gxs]; simp only [List.getElem?_cons_succ, gx0]; rfl
  · rw [gxs]; simp only [List.getElem?_cons_succ, gxs]; rfl
  · exact (hO1.low (by simp)).keep fun k hk => by subst hk; rw [mapp, List.getElem?_append_left hO1.lt]
  · exact (hO2.low (by simp)).keep fun k hk => by subst hk; rw [mapp, List.getElem?_append_left hO2.lt]
  · intro g' q1 q2
    exact ⟨_, g', rfl, rfl, rfl, us, uc, rs, os, oc, rfl, huc, hvc, q1, hA, q2, fun j hj => by subst hj; exact q1.ge, fun j hj => by subst hj; exact q2.ge, hne⟩

theorem mstep15_run {l : List Ob} {t : V} {T : Th} {i : Vm.Id} {o : Nat} {slot to : Int} (h : RdT t T) (hS : Small T) (hp : T.pc = 0) (hs : 0 ≤ slot ∧ slot ≤ 4096) (n : Nat) (hn : 7000 ≤ n) :
    ∃ u g, callS Tryz.prog Sp n 14 [.ptr i o, .agg (insC 15 slot to), t] (stL l) = some (.tup [u, effV (stepS 15 slot to T).2.1], stL (l ++ g)) ∧ (stepS 15 slot to T).2.2 = 0 ∧ LvT l g (stepS 15 slot to T).1 u := by
  obtain ⟨n, rfl⟩ : ∃ m, n = m + 1 := ⟨n - 1, by omega⟩
  suffices hs : ∃ u S', callS Tryz.prog Sp (n + 1) 14 [.ptr i o, .agg (insC 15 slot to), t] (stL l) = some (u, S') ∧ (∃ u' g, u = .tup [u', effV (stepS 15 slot to T).2.1] ∧ S' = stL (l ++ g) ∧ (stepS 15 slot to T).2.2 = 0 ∧ LvT l g (stepS 15 slot to T).1 u') by
    obtain ⟨u, S', h, u', g, rfl, rfl, h2⟩ := hs; exact ⟨u', g, h, h2⟩
  have h0 := h
  obtain ⟨vs, vc, rs0, rfl, h1, k1, h2, h3, k2⟩ := h
  rw [hp] at h0 ⊢
  have c1 := rows_cell h1
  have c2 := rows_cell h3
  obtain ⟨u, g, hc, us, uc, rs, os, oc, rfl, huc, hvc, hO1, hA, hO2, ho1, ho2, hne⟩ := tclone_run (l := l ++ [.cells [.ptr i o] 0 [], .cells (insC 15 slot to) 0 [], .cells [.int .i64 0, vs, vc] 0 [], .cells zT 0 [], .cells [.int .u8 0, .int .i64 0, .nils, .nils, .bool false, .nils, .nils, .str [], .str [], .nils] 0 []]) (k := (-1)) h0 hS (by omega) n (by omega)
  simp only [List.append_assoc, List.cons_append, List.nil_append, insC] at hc hO1 hO2
  refine runS (fun v h => h) Tryz.func14 rfl (by simp [Tryz.f14]) ?_
  have hpc : (pad (-1) T).pc = 0 := hp
  rw [hpc] at hc
  refine Ev.seq rfl (Ev.reg' ?_)
  simp (maxSteps := 2000000) only [go_sem, Nat.reduceBEq, Nat.reduceLT, Nat.reduceAdd, Nat.reduceMul, Nat.reduceLeDiff, Nat.reduceEqDiff, decide_true, decide_false, reduceIte, and_true, true_and, insC]
  refine Ev.seq rfl (Ev.reg' ?_)
  simp (maxSteps := 2000000) only [go_sem, Nat.reduceBEq, Nat.reduceLT, Nat.reduceAdd, Nat.reduceMul, Nat.reduceLeDiff, Nat.reduceEqDiff, decide_true, decide_false, reduceIte, and_true, true_and]
  refine Ev.seq rfl (Ev.seq rfl (Ev.reg' ?_))
  simp (maxSteps := 2000000) only [go_sem, Nat.reduceBEq, Nat.reduceLT, Nat.reduceAdd, Nat.reduceMul, Nat.reduceLeDiff, Nat.reduceEqDiff, decide_true, decide_false, reduceIte, and_true, true_and, Int.reduceBEq]
  refine Ev.cond' ?_
  simp (maxSteps := 2000000) only [go_sem, Nat.reduceBEq, Nat.reduceLT, Nat.reduceAdd, Nat.reduceMul, Nat.reduceLeDiff, Nat.reduceEqDiff, decide_true, decide_false, reduceIte, and_true, true_and]
  refine Ev.skip ?_
  simp (maxSteps := 2000000) only [go_sem, Nat.reduceBEq, Nat.reduceLT, Nat.reduceAdd, Nat.reduceMul, Nat.reduceLeDiff, Nat.reduceEqDiff, decide_true, decide_false, reduceIte, and_true, true_and]
  refine Ev.seq rfl (Ev.reg' ?_)
  simp (maxSteps := 2000000) only [go_sem, Nat.reduceBEq, Nat.reduceLT, Nat.reduceAdd, Nat.reduceMul, Nat.reduceLeDiff, Nat.reduceEqDiff, decide_true, decide_false, reduceIte, and_true, true_and, hc, over_all, Nat.zero_le, Nat.le_refl]
  refine Ev.seq rfl (Ev.reg' ?_)
  simp (maxSteps := 2000000) only [go_sem, Nat.reduceBEq, Nat.reduceLT, Nat.reduceAdd, Nat.reduceMul, Nat.reduceLeDiff, Nat.reduceEqDiff, decide_true, decide_false, reduceIte, and_true, true_and, over, Nat.zero_le, Nat.le_refl]
  refine Ev.seq rfl (Ev.reg' ?_)
  simp (maxSteps := 2000000) only [go_sem, Nat.reduceBEq, Nat.reduceLT, Nat.reduceAdd, Nat.reduceMul, Nat.reduceLeDiff, Nat.reduceEqDiff, decide_true, decide_false, reduceIte, and_true, true_and, over_all, Nat.zero_le, Nat.le_refl]
  refine Ev.seq rfl (Ev.seq rfl (Ev.reg' ?_))
  simp (maxSteps := 2000000) only [go_sem, Nat.reduceBEq, Nat.reduceLT, Nat.reduceAdd, Nat.reduceMul, Nat.reduceLeDiff, Nat.reduceEqDiff, decide_true, decide_false, reduceIte, and_true, true_and]
  refine Ev.block ?_
  iterate 15 (refine Ev.seq rfl (Ev.reg' ?_); simp (maxSteps := 2000000) only [go_sem, Nat.reduceBEq, Nat.reduceLT, Nat.reduceAdd, Nat.reduceMul, Nat.reduceLeDiff, Nat.reduceEqDiff, decide_true, decide_false, reduceIte, and_true, true_and, Int.reduceBEq]; refine Ev.cond' ?_; simp (maxSteps := 2000000) only [go_sem, Nat.reduceBEq, Nat.reduceLT, Nat.reduceAdd, Nat.reduceMul, Nat.reduceLeDiff, Nat.reduceEqDiff, decide_true, decide_false, reduceIte, and_true, true_and])
  refine Ev.seq rfl (Ev.reg' ?_)
  simp (maxSteps := 2000000) only [go_sem, Nat.reduceBEq, Nat.reduceLT, Nat.reduceAdd, Nat.reduceMul, Nat.reduceLeDiff, Nat.reduceEqDiff, decide_true, decide_false, reduceIte, and_true, true_and, over, Nat.zero_le, Nat.le_refl]
  refine Ev.reg' ?_
  simp (maxSteps := 2000000) only [go_sem, Nat.reduceBEq, Nat.reduceLT, Nat.reduceAdd, Nat.reduceMul, Nat.reduceLeDiff, Nat.reduceEqDiff, decide_true, decide_false, reduceIte, and_true, true_and, over, Nat.zero_le, Nat.le_refl]
  have hst : stepS 15 slot to T = (⟨0, (pad (-1) T).slots, (pad (-1) T).counts⟩, 9, 0) := by
    unfold stepS
    rw [if_neg (by omega), if_neg (by omega)]
    rfl
  rw [hst]
  refine mfin (l := l) (i9 := l.length + (g.length + 1 + 1 + 1 + 1 + 1)) (i10 := l.length + (g.length + 1 + 1 + 1 + 1 + 1 + 1)) (pc := 0) (us := us) (uc := uc) (rs := rs) (cs := (pad (-1) T).counts.map cntC) (os := os) (oc := oc) (e := [.int .u8 9, .int .i64 0, .nils, .nils, .bool false, .nils, .nils, .str [], .str [], .nils]) ?_ ?_ ?_ ?_ ?_ ?_ ?_ ?_ rfl (by omega) (by omega) (fun i hi => by rw [List.getElem?_append_left hi]) ?_ ?_ (fun k hk => by have := ho1 k hk; simp at this; omega) (fun k hk => by have := ho2 k hk; simp at this; omega) ?_
  · simp (maxSteps := 2000000) only [go_sem, Nat.reduceBEq, Nat.reduceLT, Nat.reduceAdd, Nat.reduceMul, Nat.reduceLeDiff, Nat.reduceEqDiff, decide_true, decide_false, reduceIte, and_true, true_and]
  · simp (maxSteps := 2000000) only [go_sem, Nat.reduceBEq, Nat.reduceLT, Nat.reduceAdd, Nat.reduceMul, Nat.reduceLeDiff, Nat.reduceEqDiff, decide_true, decide_false, reduceIte, and_true, true_and]
  · simp (maxSteps := 2000000) only [go_sem, Nat.reduceBEq, Nat.reduceLT, Nat.reduceAdd, Nat.reduceMul, Nat.reduceLeDiff, Nat.reduceEqDiff, decide_true, decide_false, reduceIte, and_true, true_and]
  · simp (maxSteps := 2000000) only [go_sem, Nat.reduceBEq, Nat.reduceLT, Nat.reduceAdd, Nat.reduceMul, Nat.reduceLeDiff, Nat.reduceEqDiff, decide_true, decide_false, reduceIte, and_true, true_and]
  · rw [gxs]; rfl
  · rw [gxs]; rfl
  · rw [gxs]; simp only [List.getElem?_cons_succ, gx0]; rfl
  · rw [gxs]; simp only [List.getElem?_cons_succ, gxs]; rfl
  · exact (hO1.low (by simp)).keep fun k hk => by subst hk; rw [mapp, List.getElem?_append_left hO1.lt]
  · exact (hO2.low (by simp)).keep fun k hk => by subst hk; rw [mapp, List.getElem?_append_left hO2.lt]
  · intro g' q1 q2
    exact ⟨_, g', rfl, rfl, rfl, us, uc, rs, os, oc, rfl, huc, hvc, q1, hA, q2, fun j hj => by subst hj; exact q1.ge, fun j hj => by subst hj; exact q2.ge, hne⟩

end Cs

set_option linter.unusedVariables false
open Go Go.Vm Go.Proofs
namespace Cs
variable [Gl]
theorem mstep8_run {l : List Ob} {t : V} {T : Th} {i : Vm.Id} {o : Nat} {slot to : Int} (h : RdT t T) (hS : Small T) (hp : T.pc = 0) (hs : 0 ≤ slot ∧ slot ≤ 4096) (n : Nat) (hn : 7000 ≤ n) :
    ∃ u g, callS Tryz.prog Sp n 14 [.ptr i o, .agg (insC 8 slot to), t] (stL l) = some (.tup [u, effV (stepS 8 slot to T).2.1], stL (l ++ g)) ∧ (stepS 8 slot to T).2.2 = 0 ∧ LvT l g (stepS 8 slot to T).1 u := by
  obtain ⟨n, rfl⟩ : ∃ m, n = m + 1 := ⟨n - 1, by omega⟩
  obtain ⟨j, rfl⟩ : ∃ j : Nat, slot = (j : Int) := ⟨slot.toNat, by omega⟩
  suffices hs : ∃ u S', callS Tryz.prog Sp (n + 1) 14 [.ptr i o, .agg (insC 8 j to), t] (stL l) = some (u, S') ∧ (∃ u' g, u = .tup [u', effV (stepS 8 j to T).2.1] ∧ S' = stL (l ++ g) ∧ (stepS 8 j to T).2.2 = 0 ∧ LvT l g (stepS 8 j to T).1 u') by
    obtain ⟨u, S', h, u', g, rfl, rfl, h2⟩ := hs; exact ⟨u', g, h, h2⟩
  have h0 := h
  obtain ⟨vs, vc, rs0, rfl, h1, k1, h2, h3, k2⟩ := h
  rw [hp] at h0 ⊢
  have c1 := rows_cell h1
  have c2 := rows_cell h3
  obtain ⟨u, g, hc, us, uc, rs, os, oc, rfl, huc, hvc, hO1, hA, hO2, ho1, ho2, hne⟩ := tclone_run (l := l ++ [.cells [.ptr i o] 0 [], .cells (insC 8 j to) 0 [], .cells [.int .i64 0, vs, vc] 0 [], .cells zT 0 [], .cells zE 0 []]) (k := j) h0 hS (by omega) n (by omega)
  simp only [List.append_assoc, List.cons_append, List.nil_append, insC] at hc hO1 hO2
  refine runS (fun v h => h) Tryz.func14 rfl (by simp [Tryz.f14]) ?_
  have hpc : (pad j T).pc = 0 := hp
  rw [hpc] at hc
  refine Ev.seq rfl (Ev.reg' ?_)
  simp (maxSteps := 2000000) only [go_sem, Nat.reduceBEq, Nat.reduceLT, Nat.reduceAdd, Nat.reduceMul, Nat.reduceLeDiff, Nat.reduceEqDiff, decide_true, decide_false, reduceIte, and_true, true_and, insC]
  refine Ev.seq rfl (Ev.reg' ?_)
  simp (maxSteps := 2000000) only [go_sem, Nat.reduceBEq, Nat.reduceLT, Nat.reduceAdd, Nat.reduceMul, Nat.reduceLeDiff, Nat.reduceEqDiff, decide_true, decide_false, reduceIte, and_true, true_and]
  refine Ev.seq rfl (Ev.seq rfl (Ev.reg' ?_))
  simp (maxSteps := 2000000) only [go_sem, Nat.reduceBEq, Nat.reduceLT, Nat.reduceAdd, Nat.reduceMul, Nat.reduceLeDiff, Nat.reduceEqDiff, decide_true, decide_false, reduceIte, and_true, true_and, Int.reduceBEq]
  refine Ev.cond' ?_
  simp (maxSteps := 2000000) only [go_sem, Nat.reduceBEq, Nat.reduceLT, Nat.reduceAdd, Nat.reduceMul, Nat.reduceLeDiff, Nat.reduceEqDiff, decide_true, decide_false, reduceIte, and_true, true_and]
  refine Ev.reg' ?_
  simp (maxSteps := 2000000) only [go_sem, Nat.reduceBEq, Nat.reduceLT, Nat.reduceAdd, Nat.reduceMul, Nat.reduceLeDiff, Nat.reduceEqDiff, decide_true, decide_false, reduceIte, and_true, true_and]
  refine Ev.seq rfl (Ev.reg' ?_)
  simp (maxSteps := 2000000) only [go_sem, Nat.reduceBEq, Nat.reduceLT, Nat.reduceAdd, Nat.reduceMul, Nat.reduceLeDiff, Nat.reduceEqDiff, decide_true, decide_false, reduceIte, and_true, true_and, hc, over_all, Nat.zero_le, Nat.le_refl]
  have hw1 : IntKind.i64.wrap (0 + 1) = 1 := rfl
  refine Ev.seq rfl (Ev.reg' ?_)
  simp (maxSteps := 2000000) only [go_sem, Nat.reduceBEq, Nat.reduceLT, Nat.reduceAdd, Nat.reduceMul, Nat.reduceLeDiff, Nat.reduceEqDiff, decide_true, decide_false, reduceIte, and_true, true_and, over, hw1, Nat.zero_le, Nat.le_refl]
  refine Ev.seq rfl (Ev.reg' ?_)
  simp (maxSteps := 2000000) only [go_sem, Nat.reduceBEq, Nat.reduceLT, Nat.reduceAdd, Nat.reduceMul, Nat.reduceLeDiff, Nat.reduceEqDiff, decide_true, decide_false, reduceIte, and_true, true_and, over, Nat.zero_le, Nat.le_refl]
  refine Ev.seq rfl (Ev.seq rfl (Ev.reg' ?_))
  simp (maxSteps := 2000000) only [go_sem, Nat.reduceBEq, Nat.reduceLT, Nat.reduceAdd, Nat.reduceMul, Nat.reduceLeDiff, Nat.reduceEqDiff, decide_true, decide_false, reduceIte, and_true, true_and]
  refine Ev.block ?_
  iterate 8 (refine Ev.seq rfl (Ev.reg' ?_); simp (maxSteps := 2000000) only [go_sem, Nat.reduceBEq, Nat.reduceLT, Nat.reduceAdd, Nat.reduceMul, Nat.reduceLeDiff, Nat.reduceEqDiff, decide_true, decide_false, reduceIte, and_true, true_and, Int.reduceBEq]; refine Ev.cond' ?_; simp (maxSteps := 2000000) only [go_sem, Nat.reduceBEq, Nat.reduceLT, Nat.reduceAdd, Nat.reduceMul, Nat.reduceLeDiff, Nat.reduceEqDiff, decide_true, decide_false, reduceIte, and_true, true_and])
  have hlen : (pad j T).counts.length = T.counts.length + ((j : Int) + 1).toNat - T.counts.length ∨ True := .inr trivial
  have hjc : j < (pad j T).counts.length := by simp only [pad, List.length_append, List.length_replicate]; omega
  have hjr : j < ((pad j T).counts.map cntC).length := by simpa using hjc
  obtain ⟨k, rfl⟩ : ∃ k, oc = some k := by
    cases oc with
    | some k => exact ⟨k, rfl⟩
    | none => obtain ⟨_, _, e⟩ := hO2; rw [e] at hjr; simp at hjr
  obtain ⟨c, hcj⟩ : ∃ c, (pad j T).counts[j]? = some c := ⟨_, List.getElem?_eq_getElem hjc⟩
  have hgd : (pad j T).counts.getD j 0 = c := by rw [List.getD_eq_getElem?_getD, hcj]; rfl
  have hst : stepS 8 j to T = (if 0 < c then (⟨1, (pad j T).slots, (pad j T).counts.set j (IntKind.i64.wrap (c - 1))⟩, 1, 0) else (⟨to, (pad j T).slots, (pad j T).counts⟩, 1, 0)) := by
    unfold stepS
    rw [if_neg (by omega), if_neg (by omega)]
    simp only [if_true, Int.toNat_natCast, hgd]
    rfl
  obtain ⟨i9, e9⟩ : ∃ i, i = l.length + (g.length + 1 + 1 + 1 + 1 + 1) := ⟨_, rfl⟩
  obtain ⟨L, eL⟩ : ∃ L, L = l ++ .cells [.ptr i o] 0 [] :: .cells [.int .u8 8, .int .u8 0, .int .u8 0, .str [], .nils, .bool false, .nils, .int .i64 0, .int .i64 0, .bool false, .int .u8 0, .str [], .nils, .bool false, .nils, .int .i64 0, .int .i64 0, .bool false, .int .i64 0, .int .i64 to, .int .i64 j, .nils, .nils, .nils, .str [], .str [], .nils] 0 [] :: .cells [.int .i64 0, vs, vc] 0 [] :: .cells zT 0 [] :: .cells zE 0 [] :: (g ++ [.cells [.int .i64 1, us, uc] 0 [], .cells [.int .u8 1, .int .i64 0, .nils, .nils, .bool false, .nils, .nils, .str [], .str [], .nils] 0 []]) := ⟨_, rfl⟩
  have g4 : L[l.length + 1]? = some (.cells [.int .u8 8, .int .u8 0, .int .u8 0, .str [], .nils, .bool false, .nils, .int .i64 0, .int .i64 0, .bool false, .int .u8 0, .str [], .nils, .bool false, .nils, .int .i64 0, .int .i64 0, .bool false, .int .i64 0, .int .i64 to, .int .i64 j, .nils, .nils, .nils, .str [], .str [], .nils] 0 []) := by rw [eL, gxs]; rfl
  have g6 : L[l.length + 3]? = some (.cells zT 0 []) := by rw [eL, gxs]; rfl
  have g7 : L[l.length + 4]? = some (.cells zE 0 []) := by rw [eL, gxs]; rfl
  have g9 : L[i9]? = some (.cells [.int .i64 1, us, uc] 0 []) := by rw [eL, e9, gxs]; simp only [List.getElem?_cons_succ, gx0]; rfl
  have g10 : L[i9 + 1]? = some (.cells [.int .u8 1, .int .i64 0, .nils, .nils, .bool false, .nils, .nils, .str [], .str [], .nils] 0 []) := by rw [eL, e9, Nat.add_assoc, gxs]; simp only [List.getElem?_cons_succ, gxs]; rfl
  have fr : ∀ i, i < l.length → L[i]? = l[i]? := fun i hi => by rw [eL, List.getElem?_append_left hi]
  have q1 : Own l.length L 2 us rs os := by rw [eL]; exact (hO1.low (by simp)).keep fun k hk => by subst hk; rw [mapp, List.getElem?_append_left hO1.lt]
  have q2 : Own l.length L 1 uc ((pad j T).counts.map cntC) (some k) := by rw [eL]; exact (hO2.low (by simp)).keep fun k hk => by injection hk with hk; subst hk; rw [mapp, List.getElem?_append_left hO2.lt]
  have ns : ∀ q, os = some q → l.length + 4 < q ∧ q < i9 := fun q hk => by subst hk; have := ho1 q rfl; have h3 := hO1.lt; simp at this h3; omega
  have nc : l.length + 4 < k ∧ k < i9 := by have := ho2 k rfl; have h3 := hO2.lt; simp at this h3; omega
  have hE : idxAddr 1 uc (.int .i64 (j : Int)) = some (.ptr (idOf k) (0 + j * 1)) := q2.addr hjr .i64
  obtain ⟨a, ra, ha1, ha2⟩ := rows_idx q2.rows (r := cntC c) (j := j) (by rw [List.getElem?_map, hcj]; rfl) .i64
  rw [hE] at ha1; injection ha1 with ha1; subst ha1
  rw [cellsAt_ptr] at ha2
  rw [show l.length + (g.length + 1 + 1 + 1 + 1 + 1 + 1) = i9 + 1 by omega, ← e9]
  rw [show (l ++ _ :: _ :: _ :: _ :: _ :: (g ++ _) : List Ob) = L from eL.symm]
  simp only [Nat.zero_add, Nat.mul_one] at hE ha2
  have hcE : ((pad j T).counts.map cntC).set j (cntC (IntKind.i64.wrap (c - 1))) = ((pad j T).counts.set j (IntKind.i64.wrap (c - 1))).map cntC := by rw [List.map_set]
  rw [hst]
  refine Ev.seq rfl (Ev.reg' ?_)
  simp (maxSteps := 2000000) only [go_sem, Nat.reduceBEq, Nat.reduceLT, Nat.reduceAdd, Nat.reduceMul, Nat.reduceLeDiff, Nat.reduceEqDiff, decide_true, decide_false, reduceIte, and_true, true_and, g9, g4, hE, ha2]
  refine Ev.cond' ?_
  simp (maxSteps := 2000000) only [go_sem, Nat.reduceBEq, Nat.reduceLT, Nat.reduceAdd, Nat.reduceMul, Nat.reduceLeDiff, Nat.reduceEqDiff, decide_true, decide_false, reduceIte, and_true, true_and]
  by_cases hcp : 0 < c
  · simp only [hcp, decide_true, wpC_true, if_true]
    obtain ⟨L', hw, hO, hl', hk⟩ := q2.write hjr (r := cntC (IntKind.i64.wrap (c - 1))) rfl
    rw [writeR_ptr] at hw
    simp only [Nat.zero_add, Nat.mul_one] at hw
    refine Ev.reg' ?_
    simp (maxSteps := 2000000) only [go_sem, Nat.reduceBEq, Nat.reduceLT, Nat.reduceAdd, Nat.reduceMul, Nat.reduceLeDiff, Nat.reduceEqDiff, decide_true, decide_false, reduceIte, and_true, true_and, g9, g4, hE, ha2, hw]
    rw [hcE] at hO
    refine mfin (l := l) (L := L') (i9 := i9) (i10 := i9 + 1) (pc := 1) (us := us) (uc := uc) (rs := rs) (cs := ((pad j T).counts.set j (IntKind.i64.wrap (c - 1))).map cntC) (os := os) (oc := some k) (e := [.int .u8 1, .int .i64 0, .nils, .nils, .bool false, .nils, .nils, .str [], .str [], .nils]) ?_ ?_ ?_ ?_ ?_ ?_ ?_ ?_ rfl (by omega) (by omega) ?_ ?_ hO (fun k hk => (ns k hk).1) (fun q hk => by injection hk with hk; omega) ?_
    · simp (maxSteps := 2000000) only [go_sem, Nat.reduceBEq, Nat.reduceLT, Nat.reduceAdd, Nat.reduceMul, Nat.reduceLeDiff, Nat.reduceEqDiff, decide_true, decide_false, reduceIte, and_true, true_and]
    · simp (maxSteps := 2000000) only [go_sem, Nat.reduceBEq, Nat.reduceLT, Nat.reduceAdd, Nat.reduceMul, Nat.reduceLeDiff, Nat.reduceEqDiff, decide_true, decide_false, reduceIte, and_true, true_and]
    · simp (maxSteps := 2000000) only [go_sem, Nat.reduceBEq, Nat.reduceLT, Nat.reduceAdd, Nat.reduceMul, Nat.reduceLeDiff, Nat.reduceEqDiff, decide_true, decide_false, reduceIte, and_true, true_and]
    · simp (maxSteps := 2000000) only [go_sem, Nat.reduceBEq, Nat.reduceLT, Nat.reduceAdd, Nat.reduceMul, Nat.reduceLeDiff, Nat.reduceEqDiff, decide_true, decide_false, reduceIte, and_true, true_and]
    · rw [hk _ (by omega) (.inr (by rw [g6]; nofun))]; exact g6
    · rw [hk _ (by omega) (.inr (by rw [g7]; nofun))]; exact g7
    · rw [hk _ (by omega) (.inr (by rw [g9]; nofun))]; exact g9
    · rw [hk _ (by omega) (.inr (by rw [g10]; nofun))]; exact g10
    · intro i hi; rw [hk i (by omega) (.inl hi)]; exact fr i hi
    · refine q1.keep fun q hq => ?_
      have h5 := hne q hq
      subst hq
      obtain ⟨_, anc, _, h6, _⟩ := q1
      rw [hk q (by intro e; exact h5 (by rw [e])) (.inr (by rw [h6]; nofun))]
    · intro g' p1 p2
      exact ⟨_, g', rfl, rfl, us, uc, rs, os, some k, rfl, huc, hvc, p1, hA, p2, fun j hj => by subst hj; exact p1.ge, fun j hj => by injection hj with hj; subst hj; exact p2.ge, hne⟩
  · simp only [hcp, decide_false, wpC_false, if_false]
    refine Ev.reg' ?_
    simp (maxSteps := 2000000) only [go_sem, Nat.reduceBEq, Nat.reduceLT, Nat.reduceAdd, Nat.reduceMul, Nat.reduceLeDiff, Nat.reduceEqDiff, decide_true, decide_false, reduceIte, and_true, true_and, g9, g4, over, Nat.zero_le, Nat.le_refl]
    have k9 := get_lt g9
    have hk : ∀ i, i ≠ i9 → (L.set i9 (.cells [.int .i64 to, us, uc] 0 []))[i]? = L[i]? := fun i hi => List.getElem?_set_ne (fun e => hi e.symm)
    refine mfin (l := l) (i9 := i9) (i10 := i9 + 1) (pc := to) (us := us) (uc := uc) (rs := rs) (cs := (pad j T).counts.map cntC) (os := os) (oc := some k) (e := [.int .u8 1, .int .i64 0, .nils, .nils, .bool false, .nils, .nils, .str [], .str [], .nils]) ?_ ?_ ?_ ?_ ?_ ?_ ?_ ?_ rfl (by omega) (by omega) ?_ ?_ ?_ (fun k hk => (ns k hk).1) (fun q hk => by injection hk with hk; omega) ?_
    · simp (maxSteps := 2000000) only [go_sem, Nat.reduceBEq, Nat.reduceLT, Nat.reduceAdd, Nat.reduceMul, Nat.reduceLeDiff, Nat.reduceEqDiff, decide_true, decide_false, reduceIte, and_true, true_and]
    · simp (maxSteps := 2000000) only [go_sem, Nat.reduceBEq, Nat.reduceLT, Nat.reduceAdd, Nat.reduceMul, Nat.reduceLeDiff, Nat.reduceEqDiff, decide_true, decide_false, reduceIte, and_true, true_and]
    · simp (maxSteps := 2000000) only [go_sem, Nat.reduceBEq, Nat.reduceLT, Nat.reduceAdd, Nat.reduceMul, Nat.reduceLeDiff, Nat.reduceEqDiff, decide_true, decide_false, reduceIte, and_true, true_and]
    · simp (maxSteps := 2000000) only [go_sem, Nat.reduceBEq, Nat.reduceLT, Nat.reduceAdd, Nat.reduceMul, Nat.reduceLeDiff, Nat.reduceEqDiff, decide_true, decide_false, reduceIte, and_true, true_and]
    · rw [hk _ (by omega)]; exact g6
    · rw [hk _ (by omega)]; exact g7
    · rw [List.getElem?_set_self k9]
    · rw [hk _ (by omega)]; exact g10
    · intro i hi; rw [hk i (by omega)]; exact fr i hi
    · exact q1.keep fun q hq => by rw [hk q (by have := ns q hq; omega)]
    · exact q2.keep fun q hq => by injection hq with hq; rw [hk q (by omega)]
    · intro g' p1 p2
      exact ⟨_, g', rfl, rfl, us, uc, rs, os, some k, rfl, huc, hvc, p1, hA, p2, fun j hj => by subst hj; exact p1.ge, fun j hj => by injection hj with hj; subst hj; exact p2.ge, hne⟩
end Cs

set_option linter.unusedVariables false
open Go Go.Vm Go.Proofs
namespace Cs
variable [Gl]
theorem mstep_all {op : Int} (hop : op = 5 ∨ op = 8 ∨ op = 10 ∨ op = 14 ∨ op = 15) {l : List Ob} {t : V} {T : Th} {i : Vm.Id} {o : Nat} {slot to : Int} (h : RdT t T) (hS : Small T) (hp : T.pc = 0) (hs : 0 ≤ slot ∧ slot ≤ 4096) (n : Nat) (hn : 7000 ≤ n) :
    ∃ u g, callS Tryz.prog Sp n 14 [.ptr i o, .agg (insC op slot to), t] (stL l) = some (.tup [u, effV (stepS op slot to T).2.1], stL (l ++ g)) ∧ (stepS op slot to T).2.2 = 0 ∧ LvT l g (stepS op slot to T).1 u := by
  rcases hop with rfl | rfl | rfl | rfl | rfl
  · exact mstep5_run h hS hp hs n hn
  · exact mstep8_run h hS hp hs n hn
  · exact mstep10_run h hS hp hs n hn
  · exact mstep14_run h hS hp hs n hn
  · exact mstep15_run h hS hp hs n hn
theorem all2_clo : ∀ {rs : List (List V)} {xs : List Vc}, All2 RdV rs xs → ∀ r ∈ rs, cloL r = true
  | [], _, _, _, h => absurd h List.not_mem_nil
  | c :: rs, x :: xs, h, r, hr => by
    rcases List.mem_cons.1 hr with e | e
    · rw [e]; exact h.1.clo
    · exact all2_clo h.2 r e
  | _ :: _, [], h, _, _ => h.elim
/-- A live thread, frozen, after changes elsewhere. -/
theorem lvt_fz {l g L : List Ob} {T : Th} {u : V} (h : LvT l g T u) (hL : ∀ i, l.length ≤ i → i < (l ++ g).length → L[i]? = (l ++ g)[i]?) : ∃ v', Fz L 3 u v' ∧ RdT v' T := by
  obtain ⟨us, uc, rs, os, oc, rfl, _, _, h1, h2, h3, h4, h5, _⟩ := h
  have k1 : Own l.length L 2 us rs os := h1.keep fun k hk => by subst hk; exact hL k (h4 k rfl) h1.lt
  have k2 : Own l.length L 1 uc (T.counts.map cntC) oc := h3.keep fun k hk => by subst hk; exact hL k (h5 k rfl) h3.lt
  obtain ⟨v1, a1, a2, a3⟩ := k1.fz (all2_clo h2)
  obtain ⟨v2, b1, b2, b3⟩ := k2.fz (cnt_clo _)
  exact ⟨.agg [.int .i64 T.pc, v1, v2], Fz.agg (k := 2) ⟨(Fz.clo rfl).mono (by omega), a1, b1, trivial⟩, v1, v2, rs, rfl, a2, a3, h2, b2, b3⟩
theorem lvt_isAgg {l g : List Ob} {T : Th} {u : V} (h : LvT l g T u) : ∃ us uc, u = .agg [.int .i64 T.pc, us, uc] := by
  obtain ⟨us, uc, rs, os, oc, rfl, _⟩ := h; exact ⟨us, uc, rfl⟩
theorem pad_neg (T : Th) : pad (-1) T = T := by simp [pad]
theorem thread_kc {t : V} {T : Th} (h : RdT t T) (hS : Small T) : KC Tryz.prog Sp 7 [t] := by
  have hcl := h.clo
  have h0 := h
  obtain ⟨vs, vc, rs, rfl, h1, k1, h2, h3, k2⟩ := h
  refine kc_of mix Tryz.func7 rfl (by simp [Tryz.f7]) (by simp only [cloL_cons, cloL_nil, hcl, Bool.and_true]) 7000 ?_
  have c1 := rows_cell h1
  have c2 := rows_cell h3
  obtain ⟨u, g, hc, hu⟩ := rcopy_run (l := [.cells [.int .i64 T.pc, vs, vc] 0 [], .cells zT 0 []]) (k := -1) h0 hS (by omega) 7000 (by omega)
  rw [pad_neg] at hu
  obtain ⟨us, uc, rfl⟩ := lvt_isAgg hu
  simp only [List.cons_append, List.nil_append] at hc
  refine Ev.seq rfl (Ev.reg' ?_)
  simp (maxSteps := 2000000) only [go_sem, Nat.reduceBEq, Nat.reduceLT, Nat.reduceAdd, Nat.reduceMul, Nat.reduceLeDiff, Nat.reduceEqDiff, decide_true, decide_false, reduceIte, and_true, true_and]
  refine Ev.seq rfl (Ev.reg' ?_)
  simp (maxSteps := 2000000) only [go_sem, Nat.reduceBEq, Nat.reduceLT, Nat.reduceAdd, Nat.reduceMul, Nat.reduceLeDiff, Nat.reduceEqDiff, decide_true, decide_false, reduceIte, and_true, true_and, hc, over_all, Nat.zero_le, Nat.le_refl]
  refine Ev.ret (Ret.cell rfl (v := .agg [.int .i64 T.pc, us, uc]) (by simp (maxSteps := 2000000) only [go_sem, Nat.reduceBEq, Nat.reduceLT, Nat.reduceAdd, Nat.reduceMul, Nat.reduceLeDiff, Nat.reduceEqDiff, decide_true, decide_false, reduceIte, and_true, true_and]) ?_)
  obtain ⟨v', f1, f2⟩ := lvt_fz (L := .cells [.int .i64 T.pc, vs, vc] 0 [] :: .cells [.int .i64 T.pc, us, uc] 0 [] :: g) hu (fun i hi _ => by
    obtain ⟨i, rfl⟩ : ∃ j, i = j + 2 := ⟨i - 2, by simp at hi; omega⟩
    rfl)
  refine fin_of f1 fun t' T' e hT => ?_
  injection e with e; subst e
  rw [hT.inj h0]; exact f2
theorem placed_kc {t : V} {T : Th} {pc : Int} (h : RdT t T) : KC Tryz.prog Sp 6 [t, .int .i64 pc] := by
  have hcl := h.clo
  have h0 := h
  obtain ⟨vs, vc, rs, rfl, h1, k1, h2, h3, k2⟩ := h
  refine kc_of mix Tryz.func6 rfl (by simp [Tryz.f6]) (by simp only [cloL_cons, cloL_nil, clo_int, hcl, Bool.and_true]) 5 ?_
  have c1 := rows_cell h1
  have c2 := rows_cell h3
  refine Ev.seq rfl (Ev.reg' ?_)
  simp (maxSteps := 2000000) only [go_sem, Nat.reduceBEq, Nat.reduceLT, Nat.reduceAdd, Nat.reduceMul, Nat.reduceLeDiff, Nat.reduceEqDiff, decide_true, decide_false, reduceIte, and_true, true_and]
  refine Ev.seq rfl (Ev.reg' ?_)
  simp (maxSteps := 2000000) only [go_sem, Nat.reduceBEq, Nat.reduceLT, Nat.reduceAdd, Nat.reduceMul, Nat.reduceLeDiff, Nat.reduceEqDiff, decide_true, decide_false, reduceIte, and_true, true_and, over, Nat.zero_le, Nat.le_refl]
  refine Ev.seq rfl (Ev.reg' ?_)
  simp (maxSteps := 2000000) only [go_sem, Nat.reduceBEq, Nat.reduceLT, Nat.reduceAdd, Nat.reduceMul, Nat.reduceLeDiff, Nat.reduceEqDiff, decide_true, decide_false, reduceIte, and_true, true_and, over_all, Nat.zero_le, Nat.le_refl]
  refine Ev.ret (Ret.cell rfl (v := .agg [.int .i64 pc, vs, vc]) (by simp (maxSteps := 2000000) only [go_sem, Nat.reduceBEq, Nat.reduceLT, Nat.reduceAdd, Nat.reduceMul, Nat.reduceLeDiff, Nat.reduceEqDiff, decide_true, decide_false, reduceIte, and_true, true_and]) ?_)
  have hr : RdT (.agg [.int .i64 pc, vs, vc]) ⟨pc, T.slots, T.counts⟩ := ⟨vs, vc, rs, rfl, h1, k1, h2, h3, k2⟩
  refine fin_of (Fz.clo hr.clo) fun t' T' pc' e hT => ?_
  simp only [List.cons.injEq, V.int.injEq, and_true, true_and] at e
  obtain ⟨rfl, rfl⟩ := e
  rw [hT.inj h0]; exact hr
end Cs

set_option linter.unusedVariables false
open Go Go.Vm Go.Proofs
namespace Cs
variable [Gl]
theorem Ret.cct {P : Program} {fn : Func} {i j k : Nat} {ty ty' : TypeId} {u v : V} {t : Tm} {S : St} {R : V → St → Prop} (hr : fn.results.toList = [.cell i ty, .cell j ty', .tmp k]) (hu : opLoad P ty (t i) S = some u) (hv : opLoad P ty' (t j) S = some v) (h : R (.tup [u, v, t k]) S) : Ret P fn R .ret t S := by
  refine ⟨[u, v, t k], ?_, h⟩
  rw [hr]; simp only [evRes, hu, hv]
theorem rdt_zero : RdT (.agg zT) tz := ⟨.nils, .nils, [], rfl, rfl, rfl, trivial, rfl, rfl⟩
theorem lvt_zero (l g : List Ob) : LvT l g tz (.agg zT) := ⟨.nils, .nils, [], none, none, rfl, rfl, rfl, Own.nil .., trivial, Own.nil .., nofun, nofun, nofun⟩
theorem lvt_move {l l' g g' : List Ob} {T : Th} {u : V} (h : LvT l g T u) (hl : l'.length ≤ l.length) (hL : ∀ i, l.length ≤ i → i < (l ++ g).length → (l' ++ g')[i]? = (l ++ g)[i]?) : LvT l' g' T u := by
  obtain ⟨us, uc, rs, os, oc, rfl, h7, h8, h1, h2, h3, h4, h5, h6⟩ := h
  refine ⟨us, uc, rs, os, oc, rfl, h7, h8, ?_, h2, ?_, fun j hj => by have := h4 j hj; omega, fun j hj => by have := h5 j hj; omega, h6⟩
  · exact (h1.low hl).keep fun k hk => by subst hk; exact hL k (h4 k rfl) h1.lt
  · exact (h3.low hl).keep fun k hk => by subst hk; exact hL k (h5 k rfl) h3.lt
/-- Where the one instruction lies. -/
theorem ins_at {l : List Ob} {x : V} {op slot to : Int} (hx : rows l 27 x = some [insC op slot to]) : lenOf x = some 1 ∧ ∃ a b ra rb, idxAddr 27 x (.int .i64 0) = some a ∧ (∀ g, cellsAt (stL (l ++ g)) a = some (insC op slot to ++ ra)) ∧ addrAdd 20 a = some b ∧ ∀ g, cellsAt (stL (l ++ g)) b = some (.int .i64 slot :: rb) := by
  refine ⟨rows_len hx, ?_⟩
  obtain ⟨a, ra, h1, h2⟩ := rows_idx hx (j := 0) (r := insC op slot to) rfl .i64
  obtain ⟨b, h3, h4⟩ := addr_at h2 (o := 20) (by simp [insC])
  exact ⟨a, b, ra, _, h1, fun g => cellsAt_mono h2, h3, fun g => cellsAt_mono h4⟩
theorem nilCk (i : Vm.Id) (o : Nat) : opNilCheck (.ptr i o) = some (.ptr i o) := (rfl)
theorem insC_len (op slot to : Int) : (insC op slot to).length = 27 := rfl
/-- The instruction is one that is looked at. -/
theorem codeStep_run {l : List Ob} {x t : V} {T : Th} {op slot to : Int} (hx : rows l 27 x = some [insC op slot to]) (h : RdT t T) (hS : Small T) (hop : OpOK op) (n : Nat) (hn : 8000 ≤ n) :
    ∃ u g, callS Tryz.prog Sp n 5 [x, t, .agg [.nils, .nils, .nils, .nils], .agg [.int .i64 0, .nils]] (stL l) = some (.tup [u, effV (stepS op slot to T).2.1, .int .i64 (stepS op slot to T).2.2], stL (l ++ g)) ∧ LvT l g (stepS op slot to T).1 u := by
  obtain ⟨n, rfl⟩ : ∃ m, n = m + 1 := ⟨n - 1, by omega⟩
  suffices hs : ∃ u S', callS Tryz.prog Sp (n + 1) 5 [x, t, .agg [.nils, .nils, .nils, .nils], .agg [.int .i64 0, .nils]] (stL l) = some (u, S') ∧ (∃ u' g, u = .tup [u', effV (stepS op slot to T).2.1, .int .i64 (stepS op slot to T).2.2] ∧ S' = stL (l ++ g) ∧ LvT l g (stepS op slot to T).1 u') by
    obtain ⟨u, S', h, u', g, rfl, rfl, h2⟩ := hs; exact ⟨u', g, h, h2⟩
  have h0 := h
  obtain ⟨vs, vc, rs, rfl, h1, k1, h2, h3, k2⟩ := h
  obtain ⟨lx, a, b, ra, rb, x1, x2, x3, x4⟩ := ins_at hx
  refine runS (fun v h => h) Tryz.func5 rfl (by simp [Tryz.f5]) ?_
  have c1 := rows_cell h1
  have c2 := rows_cell h3
  have c3 := rows_cell hx
  refine Ev.seq rfl (Ev.reg' ?_)
  simp (maxSteps := 2000000) only [go_sem, Nat.reduceBEq, Nat.reduceLT, Nat.reduceAdd, Nat.reduceMul, Nat.reduceLeDiff, Nat.reduceEqDiff, decide_true, decide_false, reduceIte, and_true, true_and]
  refine Ev.seq rfl (Ev.seq rfl (Ev.reg' ?_))
  have bad : (T.pc < 0 ∨ 1 ≤ T.pc ∨ slot < 0 ∨ 4096 < slot) → stepS op slot to T = (tz, 0, 1) := fun h => by unfold stepS; rw [if_pos h]
  by_cases b1 : T.pc < 0
  · rw [bad (.inl b1)]
    simp (maxSteps := 2000000) only [go_sem, Nat.reduceBEq, Nat.reduceLT, Nat.reduceAdd, Nat.reduceMul, Nat.reduceLeDiff, Nat.reduceEqDiff, decide_true, decide_false, reduceIte, and_true, true_and, b1]
    refine Ev.cond' ?_
    simp (maxSteps := 2000000) only [go_sem, Nat.reduceBEq, Nat.reduceLT, Nat.reduceAdd, Nat.reduceMul, Nat.reduceLeDiff, Nat.reduceEqDiff, decide_true, decide_false, reduceIte, and_true, true_and]
    refine Ev.seq rfl (Ev.reg' ?_)
    simp (maxSteps := 2000000) only [go_sem, Nat.reduceBEq, Nat.reduceLT, Nat.reduceAdd, Nat.reduceMul, Nat.reduceLeDiff, Nat.reduceEqDiff, decide_true, decide_false, reduceIte, and_true, true_and, over_all, Nat.zero_le, Nat.le_refl]
    refine Ev.ret ?_
    simp (maxSteps := 2000000) only [go_sem, Nat.reduceBEq, Nat.reduceLT, Nat.reduceAdd, Nat.reduceMul, Nat.reduceLeDiff, Nat.reduceEqDiff, decide_true, decide_false, reduceIte, and_true, true_and]
    refine Ret.cct rfl (u := .agg zT) (v := effV 0) (by simp (maxSteps := 2000000) only [go_sem, Nat.reduceBEq, Nat.reduceLT, Nat.reduceAdd, Nat.reduceMul, Nat.reduceLeDiff, Nat.reduceEqDiff, decide_true, decide_false, reduceIte, and_true, true_and]) (by simp (maxSteps := 2000000) only [go_sem, Nat.reduceBEq, Nat.reduceLT, Nat.reduceAdd, Nat.reduceMul, Nat.reduceLeDiff, Nat.reduceEqDiff, decide_true, decide_false, reduceIte, and_true, true_and]; rfl) ?_
    simp (maxSteps := 2000000) only [go_sem, Nat.reduceBEq, Nat.reduceLT, Nat.reduceAdd, Nat.reduceMul, Nat.reduceLeDiff, Nat.reduceEqDiff, decide_true, decide_false, reduceIte, and_true, true_and]
    exact ⟨_, _, rfl, rfl, lvt_zero ..⟩

  by_cases b2 : 1 ≤ T.pc
  · rw [bad (.inr (.inl b2))]
    have b2' : ((1 : Nat) : Int) ≤ T.pc := b2
    simp (maxSteps := 2000000) only [go_sem, Nat.reduceBEq, Nat.reduceLT, Nat.reduceAdd, Nat.reduceMul, Nat.reduceLeDiff, Nat.reduceEqDiff, decide_true, decide_false, reduceIte, and_true, true_and, b1, b2', lx]
    refine Ev.cond' ?_
    simp (maxSteps := 2000000) only [go_sem, Nat.reduceBEq, Nat.reduceLT, Nat.reduceAdd, Nat.reduceMul, Nat.reduceLeDiff, Nat.reduceEqDiff, decide_true, decide_false, reduceIte, and_true, true_and]
    refine Ev.seq rfl (Ev.reg' ?_)
    simp (maxSteps := 2000000) only [go_sem, Nat.reduceBEq, Nat.reduceLT, Nat.reduceAdd, Nat.reduceMul, Nat.reduceLeDiff, Nat.reduceEqDiff, decide_true, decide_false, reduceIte, and_true, true_and, over_all, Nat.zero_le, Nat.le_refl]
    refine Ev.ret ?_
    simp (maxSteps := 2000000) only [go_sem, Nat.reduceBEq, Nat.reduceLT, Nat.reduceAdd, Nat.reduceMul, Nat.reduceLeDiff, Nat.reduceEqDiff, decide_true, decide_false, reduceIte, and_true, true_and]
    refine Ret.cct rfl (u := .agg zT) (v := effV 0) (by simp (maxSteps := 2000000) only [go_sem, Nat.reduceBEq, Nat.reduceLT, Nat.reduceAdd, Nat.reduceMul, Nat.reduceLeDiff, Nat.reduceEqDiff, decide_true, decide_false, reduceIte, and_true, true_and]) (by simp (maxSteps := 2000000) only [go_sem, Nat.reduceBEq, Nat.reduceLT, Nat.reduceAdd, Nat.reduceMul, Nat.reduceLeDiff, Nat.reduceEqDiff, decide_true, decide_false, reduceIte, and_true, true_and]; rfl) ?_
    simp (maxSteps := 2000000) only [go_sem, Nat.reduceBEq, Nat.reduceLT, Nat.reduceAdd, Nat.reduceMul, Nat.reduceLeDiff, Nat.reduceEqDiff, decide_true, decide_false, reduceIte, and_true, true_and]
    exact ⟨_, _, rfl, rfl, lvt_zero ..⟩

  have hp : T.pc = 0 := by omega
  have n0 : ¬ (0 : Int) < 0 := by omega
  have n1 : ¬ ((1 : Nat) : Int) ≤ 0 := by omega
  rw [hp] at h0 ⊢
  by_cases b3 : slot < 0
  · rw [bad (.inr (.inr (.inl b3)))]
    simp (maxSteps := 2000000) only [go_sem, Nat.reduceBEq, Nat.reduceLT, Nat.reduceAdd, Nat.reduceMul, Nat.reduceLeDiff, Nat.reduceEqDiff, decide_true, decide_false, reduceIte, and_true, true_and, n0, n1, lx, x1, x3, x4, b3]
    refine Ev.cond' ?_
    simp (maxSteps := 2000000) only [go_sem, Nat.reduceBEq, Nat.reduceLT, Nat.reduceAdd, Nat.reduceMul, Nat.reduceLeDiff, Nat.reduceEqDiff, decide_true, decide_false, reduceIte, and_true, true_and]
    refine Ev.seq rfl (Ev.reg' ?_)
    simp (maxSteps := 2000000) only [go_sem, Nat.reduceBEq, Nat.reduceLT, Nat.reduceAdd, Nat.reduceMul, Nat.reduceLeDiff, Nat.reduceEqDiff, decide_true, decide_false, reduceIte, and_true, true_and, over_all, Nat.zero_le, Nat.le_refl]
    refine Ev.ret ?_
    simp (maxSteps := 2000000) only [go_sem, Nat.reduceBEq, Nat.reduceLT, Nat.reduceAdd, Nat.reduceMul, Nat.reduceLeDiff, Nat.reduceEqDiff, decide_true, decide_false, reduceIte, and_true, true_and]
    refine Ret.cct rfl (u := .agg zT) (v := effV 0) (by simp (maxSteps := 2000000) only [go_sem, Nat.reduceBEq, Nat.reduceLT, Nat.reduceAdd, Nat.reduceMul, Nat.reduceLeDiff, Nat.reduceEqDiff, decide_true, decide_false, reduceIte, and_true, true_and]) (by simp (maxSteps := 2000000) only [go_sem, Nat.reduceBEq, Nat.reduceLT, Nat.reduceAdd, Nat.reduceMul, Nat.reduceLeDiff, Nat.reduceEqDiff, decide_true, decide_false, reduceIte, and_true, true_and]; rfl) ?_
    simp (maxSteps := 2000000) only [go_sem, Nat.reduceBEq, Nat.reduceLT, Nat.reduceAdd, Nat.reduceMul, Nat.reduceLeDiff, Nat.reduceEqDiff, decide_true, decide_false, reduceIte, and_true, true_and]
    exact ⟨_, _, rfl, rfl, lvt_zero ..⟩

  by_cases b4 : 4096 < slot
  · rw [bad (.inr (.inr (.inr b4)))]
    simp (maxSteps := 2000000) only [go_sem, Nat.reduceBEq, Nat.reduceLT, Nat.reduceAdd, Nat.reduceMul, Nat.reduceLeDiff, Nat.reduceEqDiff, decide_true, decide_false, reduceIte, and_true, true_and, n0, n1, lx, x1, x3, x4, b3, b4]
    refine Ev.cond' ?_
    simp (maxSteps := 2000000) only [go_sem, Nat.reduceBEq, Nat.reduceLT, Nat.reduceAdd, Nat.reduceMul, Nat.reduceLeDiff, Nat.reduceEqDiff, decide_true, decide_false, reduceIte, and_true, true_and]
    refine Ev.seq rfl (Ev.reg' ?_)
    simp (maxSteps := 2000000) only [go_sem, Nat.reduceBEq, Nat.reduceLT, Nat.reduceAdd, Nat.reduceMul, Nat.reduceLeDiff, Nat.reduceEqDiff, decide_true, decide_false, reduceIte, and_true, true_and, over_all, Nat.zero_le, Nat.le_refl]
    refine Ev.ret ?_
    simp (maxSteps := 2000000) only [go_sem, Nat.reduceBEq, Nat.reduceLT, Nat.reduceAdd, Nat.reduceMul, Nat.reduceLeDiff, Nat.reduceEqDiff, decide_true, decide_false, reduceIte, and_true, true_and]
    refine Ret.cct rfl (u := .agg zT) (v := effV 0) (by simp (maxSteps := 2000000) only [go_sem, Nat.reduceBEq, Nat.reduceLT, Nat.reduceAdd, Nat.reduceMul, Nat.reduceLeDiff, Nat.reduceEqDiff, decide_true, decide_false, reduceIte, and_true, true_and]) (by simp (maxSteps := 2000000) only [go_sem, Nat.reduceBEq, Nat.reduceLT, Nat.reduceAdd, Nat.reduceMul, Nat.reduceLeDiff, Nat.reduceEqDiff, decide_true, decide_false, reduceIte, and_true, true_and]; rfl) ?_
    simp (maxSteps := 2000000) only [go_sem, Nat.reduceBEq, Nat.reduceLT, Nat.reduceAdd, Nat.reduceMul, Nat.reduceLeDiff, Nat.reduceEqDiff, decide_true, decide_false, reduceIte, and_true, true_and]
    exact ⟨_, _, rfl, rfl, lvt_zero ..⟩

  simp (maxSteps := 2000000) only [go_sem, Nat.reduceBEq, Nat.reduceLT, Nat.reduceAdd, Nat.reduceMul, Nat.reduceLeDiff, Nat.reduceEqDiff, decide_true, decide_false, reduceIte, and_true, true_and, n0, n1, lx, x1, x3, x4, b3, b4]
  refine Ev.cond' ?_
  simp (maxSteps := 2000000) only [go_sem, Nat.reduceBEq, Nat.reduceLT, Nat.reduceAdd, Nat.reduceMul, Nat.reduceLeDiff, Nat.reduceEqDiff, decide_true, decide_false, reduceIte, and_true, true_and]
  refine Ev.skip ?_
  simp (maxSteps := 2000000) only [go_sem, Nat.reduceBEq, Nat.reduceLT, Nat.reduceAdd, Nat.reduceMul, Nat.reduceLeDiff, Nat.reduceEqDiff, decide_true, decide_false, reduceIte, and_true, true_and]
  refine Ev.seq rfl (Ev.reg' ?_)
  simp (maxSteps := 2000000) only [go_sem, Nat.reduceBEq, Nat.reduceLT, Nat.reduceAdd, Nat.reduceMul, Nat.reduceLeDiff, Nat.reduceEqDiff, decide_true, decide_false, reduceIte, and_true, true_and, x1, x2, takeN_app (insC_len op slot to), insC, over, Nat.zero_le, Nat.le_refl]
  refine Ev.seq rfl (Ev.seq rfl (Ev.reg' ?_))
  by_cases b5 : op < 1 ∨ 15 < op
  · have hst : stepS op slot to T = (tz, 0, 11) := by unfold stepS; rw [if_neg (by omega), if_pos b5]
    rw [hst]
    rcases Int.lt_or_le op 1 with b6 | b6
    · simp (maxSteps := 2000000) only [go_sem, Nat.reduceBEq, Nat.reduceLT, Nat.reduceAdd, Nat.reduceMul, Nat.reduceLeDiff, Nat.reduceEqDiff, decide_true, decide_false, reduceIte, and_true, true_and, insC, b6]
      refine Ev.cond' ?_
      simp (maxSteps := 2000000) only [go_sem, Nat.reduceBEq, Nat.reduceLT, Nat.reduceAdd, Nat.reduceMul, Nat.reduceLeDiff, Nat.reduceEqDiff, decide_true, decide_false, reduceIte, and_true, true_and]
      refine Ev.seq rfl (Ev.reg' ?_)
      simp (maxSteps := 2000000) only [go_sem, Nat.reduceBEq, Nat.reduceLT, Nat.reduceAdd, Nat.reduceMul, Nat.reduceLeDiff, Nat.reduceEqDiff, decide_true, decide_false, reduceIte, and_true, true_and, over_all, Nat.zero_le, Nat.le_refl]
      refine Ev.ret ?_
      simp (maxSteps := 2000000) only [go_sem, Nat.reduceBEq, Nat.reduceLT, Nat.reduceAdd, Nat.reduceMul, Nat.reduceLeDiff, Nat.reduceEqDiff, decide_true, decide_false, reduceIte, and_true, true_and]
      refine Ret.cct rfl (u := .agg zT) (v := effV 0) (by simp (maxSteps := 2000000) only [go_sem, Nat.reduceBEq, Nat.reduceLT, Nat.reduceAdd, Nat.reduceMul, Nat.reduceLeDiff, Nat.reduceEqDiff, decide_true, decide_false, reduceIte, and_true, true_and]) (by simp (maxSteps := 2000000) only [go_sem, Nat.reduceBEq, Nat.reduceLT, Nat.reduceAdd, Nat.reduceMul, Nat.reduceLeDiff, Nat.reduceEqDiff, decide_true, decide_false, reduceIte, and_true, true_and]; rfl) ?_
      simp (maxSteps := 2000000) only [go_sem, Nat.reduceBEq, Nat.reduceLT, Nat.reduceAdd, Nat.reduceMul, Nat.reduceLeDiff, Nat.reduceEqDiff, decide_true, decide_false, reduceIte, and_true, true_and]
      exact ⟨_, _, rfl, rfl, lvt_zero ..⟩

    · have b7 : ¬ op < 1 := by omega
      have b8 : 15 < op := by omega
      simp (maxSteps := 2000000) only [go_sem, Nat.reduceBEq, Nat.reduceLT, Nat.reduceAdd, Nat.reduceMul, Nat.reduceLeDiff, Nat.reduceEqDiff, decide_true, decide_false, reduceIte, and_true, true_and, insC, b7, b8]
      refine Ev.cond' ?_
      simp (maxSteps := 2000000) only [go_sem, Nat.reduceBEq, Nat.reduceLT, Nat.reduceAdd, Nat.reduceMul, Nat.reduceLeDiff, Nat.reduceEqDiff, decide_true, decide_false, reduceIte, and_true, true_and]
      refine Ev.seq rfl (Ev.reg' ?_)
      simp (maxSteps := 2000000) only [go_sem, Nat.reduceBEq, Nat.reduceLT, Nat.reduceAdd, Nat.reduceMul, Nat.reduceLeDiff, Nat.reduceEqDiff, decide_true, decide_false, reduceIte, and_true, true_and, over_all, Nat.zero_le, Nat.le_refl]
      refine Ev.ret ?_
      simp (maxSteps := 2000000) only [go_sem, Nat.reduceBEq, Nat.reduceLT, Nat.reduceAdd, Nat.reduceMul, Nat.reduceLeDiff, Nat.reduceEqDiff, decide_true, decide_false, reduceIte, and_true, true_and]
      refine Ret.cct rfl (u := .agg zT) (v := effV 0) (by simp (maxSteps := 2000000) only [go_sem, Nat.reduceBEq, Nat.reduceLT, Nat.reduceAdd, Nat.reduceMul, Nat.reduceLeDiff, Nat.reduceEqDiff, decide_true, decide_false, reduceIte, and_true, true_and]) (by simp (maxSteps := 2000000) only [go_sem, Nat.reduceBEq, Nat.reduceLT, Nat.reduceAdd, Nat.reduceMul, Nat.reduceLeDiff, Nat.reduceEqDiff, decide_true, decide_false, reduceIte, and_true, true_and]; rfl) ?_
      simp (maxSteps := 2000000) only [go_sem, Nat.reduceBEq, Nat.reduceLT, Nat.reduceAdd, Nat.reduceMul, Nat.reduceLeDiff, Nat.reduceEqDiff, decide_true, decide_false, reduceIte, and_true, true_and]
      exact ⟨_, _, rfl, rfl, lvt_zero ..⟩

  have b7 : ¬ op < 1 := by omega
  have b8 : ¬ 15 < op := by omega
  simp (maxSteps := 2000000) only [go_sem, Nat.reduceBEq, Nat.reduceLT, Nat.reduceAdd, Nat.reduceMul, Nat.reduceLeDiff, Nat.reduceEqDiff, decide_true, decide_false, reduceIte, and_true, true_and, insC, b7, b8]
  refine Ev.cond' ?_
  simp (maxSteps := 2000000) only [go_sem, Nat.reduceBEq, Nat.reduceLT, Nat.reduceAdd, Nat.reduceMul, Nat.reduceLeDiff, Nat.reduceEqDiff, decide_true, decide_false, reduceIte, and_true, true_and]
  refine Ev.skip ?_
  simp (maxSteps := 2000000) only [go_sem, Nat.reduceBEq, Nat.reduceLT, Nat.reduceAdd, Nat.reduceMul, Nat.reduceLeDiff, Nat.reduceEqDiff, decide_true, decide_false, reduceIte, and_true, true_and]
  have hop' : op = 5 ∨ op = 8 ∨ op = 10 ∨ op = 14 ∨ op = 15 := by unfold OpOK at hop; omega
  obtain ⟨u, g, hc, he0, hu⟩ := mstep_all hop' (l := l ++ [.cells [.int .i64 0, vs, vc] 0 [], .cells [.nils, .nils, .nils, .nils] 0 [], .cells [.int .i64 0, .nils] 0 [], .cells zT 0 [], .cells zE 0 [], .cells (insC op slot to) 0 [], .cells [.nils, .nils, .nils, .nils, .int .i64 0, .nils, .int .i64 0] 0 []]) (i := idOf (l.length + 6)) (o := 0) (slot := slot) (to := to) h0 hS hp ⟨by omega, by omega⟩ n (by omega)
  obtain ⟨us, uc, rfl⟩ := lvt_isAgg hu
  rw [he0]
  generalize hst : stepS op slot to T = st at he0 hu hc ⊢
  obtain ⟨U, kk, ee⟩ := st
  simp only [List.append_assoc, List.cons_append, List.nil_append, insC, effV] at hc
  simp only at hu ⊢
  refine Ev.seq rfl (Ev.reg' ?_)
  simp (maxSteps := 2000000) only [go_sem, Nat.reduceBEq, Nat.reduceLT, Nat.reduceAdd, Nat.reduceMul, Nat.reduceLeDiff, Nat.reduceEqDiff, decide_true, decide_false, reduceIte, and_true, true_and, over]
  refine Ev.seq rfl (Ev.reg' ?_)
  simp (maxSteps := 2000000) only [go_sem, Nat.reduceBEq, Nat.reduceLT, Nat.reduceAdd, Nat.reduceMul, Nat.reduceLeDiff, Nat.reduceEqDiff, decide_true, decide_false, reduceIte, and_true, true_and, hc, over_all, Nat.zero_le, Nat.le_refl]
  refine Ev.seq rfl (Ev.seq rfl (Ev.reg' ?_))
  simp (maxSteps := 2000000) only [go_sem, Nat.reduceBEq, Nat.reduceLT, Nat.reduceAdd, Nat.reduceMul, Nat.reduceLeDiff, Nat.reduceEqDiff, decide_true, decide_false, reduceIte, and_true, true_and, nilCk, bne_self_eq_false]
  refine Ev.cond' ?_
  simp (maxSteps := 2000000) only [go_sem, Nat.reduceBEq, Nat.reduceLT, Nat.reduceAdd, Nat.reduceMul, Nat.reduceLeDiff, Nat.reduceEqDiff, decide_true, decide_false, reduceIte, and_true, true_and]
  refine Ev.skip ?_
  simp (maxSteps := 2000000) only [go_sem, Nat.reduceBEq, Nat.reduceLT, Nat.reduceAdd, Nat.reduceMul, Nat.reduceLeDiff, Nat.reduceEqDiff, decide_true, decide_false, reduceIte, and_true, true_and]
  simp only [insC] at hu
  clear hc h0 b1 b2 b3 b4 b5 b7 b8
  generalize Ob.cells [.int .i64 0, vs, vc] 0 [] = A0 at hu ⊢
  generalize Ob.cells [.nils, .nils, .nils, .nils] 0 [] = A1 at hu ⊢
  generalize Ob.cells [.int .i64 0, .nils] 0 [] = A2 at hu ⊢
  generalize Ob.cells [.int .u8 op, .int .u8 0, .int .u8 0, .str [], .nils, .bool false, .nils, .int .i64 0, .int .i64 0, .bool false, .int .u8 0, .str [], .nils, .bool false, .nils, .int .i64 0, .int .i64 0, .bool false, .int .i64 0, .int .i64 to, .int .i64 slot, .nils, .nils, .nils, .str [], .str [], .nils] 0 [] = A5 at hu ⊢
  generalize Ob.cells [.nils, .nils, .nils, .nils, .int .i64 0, .nils, .int .i64 0] 0 [] = A6 at hu ⊢
  refine Ev.seq rfl (Ev.regDX rfl (by kernel_rfl) [(1, 2)] (by kernel_rfl) (fun T' Z B R htr p hp => ?_) ?_)
  · have a1 : T' 1 14 = .ptr (idOf (l.length + (g.length + 1 + 1 + 1 + 1 + 1 + 1 + 1 + 1))) 0 := htr.at 1 (by decide) (X := fun t _ => t 14 = .ptr (idOf (l.length + (g.length + 1 + 1 + 1 + 1 + 1 + 1 + 1 + 1))) 0) (by simp (maxSteps := 2000000) only [go_sem, Nat.reduceBEq, Nat.reduceLT, Nat.reduceAdd, Nat.reduceMul, Nat.reduceLeDiff, Nat.reduceEqDiff, decide_true, decide_false, reduceIte, and_true, true_and])
    have a2 : Z 2 = stL (l ++ A0 :: A1 :: A2 :: .cells zT 0 [] :: .cells zE 0 [] :: A5 :: A6 :: (g ++ [.cells [.int .i64 U.pc, us, uc] 0 [], .cells [.int .u8 kk, .int .i64 0, .nils, .nils, .bool false, .nils, .nils, .str [], .str [], .nils] 0 []])) := htr.at 2 (by decide) (X := fun _ S => S = stL (l ++ A0 :: A1 :: A2 :: .cells zT 0 [] :: .cells zE 0 [] :: A5 :: A6 :: (g ++ [.cells [.int .i64 U.pc, us, uc] 0 [], .cells [.int .u8 kk, .int .i64 0, .nils, .nils, .bool false, .nils, .nils, .str [], .str [], .nils] 0 []]))) (by simp (maxSteps := 2000000) only [go_sem, Nat.reduceBEq, Nat.reduceLT, Nat.reduceAdd, Nat.reduceMul, Nat.reduceLeDiff, Nat.reduceEqDiff, decide_true, decide_false, reduceIte, and_true, true_and])
    have a3 : Z 3 = stL (l ++ A0 :: A1 :: A2 :: .cells [.int .i64 U.pc, us, uc] 0 [] :: .cells zE 0 [] :: A5 :: A6 :: (g ++ [.cells [.int .i64 U.pc, us, uc] 0 [], .cells [.int .u8 kk, .int .i64 0, .nils, .nils, .bool false, .nils, .nils, .str [], .str [], .nils] 0 []])) := htr.at 3 (by decide) (X := fun _ S => S = stL (l ++ A0 :: A1 :: A2 :: .cells [.int .i64 U.pc, us, uc] 0 [] :: .cells zE 0 [] :: A5 :: A6 :: (g ++ [.cells [.int .i64 U.pc, us, uc] 0 [], .cells [.int .u8 kk, .int .i64 0, .nils, .nils, .bool false, .nils, .nils, .str [], .str [], .nils] 0 []]))) (by simp (maxSteps := 2000000) only [go_sem, Nat.reduceBEq, Nat.reduceLT, Nat.reduceAdd, Nat.reduceMul, Nat.reduceLeDiff, Nat.reduceEqDiff, decide_true, decide_false, reduceIte, and_true, true_and, Nat.zero_le, Nat.le_refl, over_all])
    simp only [List.mem_cons, List.not_mem_nil, or_false] at hp
    subst hp
    refine LookOK.of_load rfl ?_
    simp (maxSteps := 2000000) only [go_sem, Nat.reduceBEq, Nat.reduceLT, Nat.reduceAdd, Nat.reduceMul, Nat.reduceLeDiff, Nat.reduceEqDiff, decide_true, decide_false, reduceIte, and_true, true_and, a1, a2, a3]
  simp (maxSteps := 2000000) only [go_sem, Nat.reduceBEq, Nat.reduceLT, Nat.reduceAdd, Nat.reduceMul, Nat.reduceLeDiff, Nat.reduceEqDiff, decide_true, decide_false, reduceIte, and_true, true_and, Nat.zero_le, Nat.le_refl, over_all]
  refine Ev.ret (Ret.cct rfl (u := .agg [.int .i64 U.pc, us, uc]) (v := effV kk) (by simp (maxSteps := 2000000) only [go_sem, Nat.reduceBEq, Nat.reduceLT, Nat.reduceAdd, Nat.reduceMul, Nat.reduceLeDiff, Nat.reduceEqDiff, decide_true, decide_false, reduceIte, and_true, true_and]) (by simp (maxSteps := 2000000) only [go_sem, Nat.reduceBEq, Nat.reduceLT, Nat.reduceAdd, Nat.reduceMul, Nat.reduceLeDiff, Nat.reduceEqDiff, decide_true, decide_false, reduceIte, and_true, true_and]; rfl) ?_)
  simp (maxSteps := 2000000) only [go_sem, Nat.reduceBEq, Nat.reduceLT, Nat.reduceAdd, Nat.reduceMul, Nat.reduceLeDiff, Nat.reduceEqDiff, decide_true, decide_false, reduceIte, and_true, true_and]
  have h7 : ∀ i, (l ++ [A0, A1, A2, .cells zT 0 [], .cells zE 0 [], A5, A6]).length ≤ i → i < ((l ++ [A0, A1, A2, .cells zT 0 [], .cells zE 0 [], A5, A6]) ++ g).length → (l ++ A0 :: A1 :: A2 :: .cells [.int .i64 U.pc, us, uc] 0 [] :: .cells [.int .u8 kk, .int .i64 0, .nils, .nils, .bool false, .nils, .nils, .str [], .str [], .nils] 0 [] :: A5 :: A6 :: (g ++ [.cells [.int .i64 U.pc, us, uc] 0 [], .cells [.int .u8 kk, .int .i64 0, .nils, .nils, .bool false, .nils, .nils, .str [], .str [], .nils] 0 []]))[i]? = ((l ++ [A0, A1, A2, .cells zT 0 [], .cells zE 0 [], A5, A6]) ++ g)[i]? := by
    intro i h1 h2
    obtain ⟨i, rfl⟩ : ∃ j, i = l.length + (j + 7) := ⟨i - l.length - 7, by simp at h1; omega⟩
    simp at h2
    simp only [List.append_assoc, List.cons_append, List.nil_append, gxs, List.getElem?_cons_succ]
    rw [List.getElem?_append_left (by omega)]
  refine ⟨_, _, rfl, rfl, ?_⟩
  exact lvt_move hu (by simp) h7
end Cs

set_option linter.unusedVariables false
open Go Go.Vm Go.Proofs
namespace Cs
variable [Gl]
/-- The last steps of the reference. -/
theorem rfin {n : Nat} {l L : List Ob} {t : Tm} {pc : Int} {us uc : V} {rs cs : List (List V)} {os oc : Option Nat} {e : List V} {i13 i14 : Nat} {R : V → St → Prop}
    (i8 : t 8 = .ptr (idOf (l.length + 3)) 0) (i9 : t 9 = .ptr (idOf (l.length + 4)) 0) (it13 : t 13 = .ptr (idOf i13) 0) (it14 : t 14 = .ptr (idOf i14) 0) (i15 : t 15 = .int .i64 0)
    (g6 : L[l.length + 3]? = some (.cells zT 0 [])) (g7 : L[l.length + 4]? = some (.cells zE 0 [])) (g9 : L[i13]? = some (.cells [.int .i64 pc, us, uc] 0 [])) (g10 : L[i14]? = some (.cells e 0 []))
    (he : e.length = 10) (h9 : l.length + 4 < i13) (h10 : i13 < i14)
    (fr : ∀ i, i < l.length → L[i]? = l[i]?) (hs : Own (l.length + 6) L 2 us rs os) (hc : Own (l.length + 6) L 1 uc cs oc)
    (hR : ∀ g, Own l.length (l ++ g) 2 us rs os → Own l.length (l ++ g) 1 uc cs oc → R (.tup [.agg [.int .i64 pc, us, uc], .agg e, .int .i64 0]) (stL (l ++ g))) :
    Ev Tryz.prog Tryz.f8.ntmps n (callS Tryz.prog Sp n) (sndC (sndC (sndC (sndC (sndC (sndC (sndC (sndC (sndC (sndC (sndC (sndC (sndC (sndC (sndC (bodyC Tryz.f8)))))))))))))))) t (stL L) (Ret Tryz.prog Tryz.f8 R) := by
  have k6 := get_lt g6
  have k7 := get_lt g7
  have k9 := get_lt g9
  have k10 := get_lt g10
  have e6 : ∀ i, l.length + 3 ≠ i → (L.set (l.length + 3) (.cells [.int .i64 pc, us, uc] 0 []))[i]? = L[i]? := fun i hi => List.getElem?_set_ne hi
  have g7' : (L.set (l.length + 3) (.cells [.int .i64 pc, us, uc] 0 []))[l.length + 4]? = some (.cells zE 0 []) := by rw [e6 _ (by omega)]; exact g7
  refine Ev.seq rfl (Ev.seq rfl (Ev.reg' ?_))
  simp (maxSteps := 2000000) only [go_sem, Nat.reduceBEq, Nat.reduceLT, Nat.reduceAdd, Nat.reduceMul, Nat.reduceLeDiff, Nat.reduceEqDiff, decide_true, decide_false, reduceIte, and_true, true_and, i15, bne_self_eq_false]
  refine Ev.cond' ?_
  simp (maxSteps := 2000000) only [go_sem, Nat.reduceBEq, Nat.reduceLT, Nat.reduceAdd, Nat.reduceMul, Nat.reduceLeDiff, Nat.reduceEqDiff, decide_true, decide_false, reduceIte, and_true, true_and]
  refine Ev.skip ?_
  simp (maxSteps := 2000000) only [go_sem, Nat.reduceBEq, Nat.reduceLT, Nat.reduceAdd, Nat.reduceMul, Nat.reduceLeDiff, Nat.reduceEqDiff, decide_true, decide_false, reduceIte, and_true, true_and]
  refine Ev.seq rfl (Ev.regDX rfl (by kernel_rfl) [(1, 2)] (by kernel_rfl) (fun T' Z B R htr p hp => ?_) ?_)
  · have a1 : T' 1 14 = .ptr (idOf i14) 0 := htr.at 1 (by decide) (X := fun t _ => t 14 = .ptr (idOf i14) 0) (by simp (maxSteps := 2000000) only [go_sem, Nat.reduceBEq, Nat.reduceLT, Nat.reduceAdd, Nat.reduceMul, Nat.reduceLeDiff, Nat.reduceEqDiff, decide_true, decide_false, reduceIte, and_true, true_and, it13, it14, g9])
    have a2 : Z 2 = stL L := htr.at 2 (by decide) (X := fun _ S => S = stL L) (by simp (maxSteps := 2000000) only [go_sem, Nat.reduceBEq, Nat.reduceLT, Nat.reduceAdd, Nat.reduceMul, Nat.reduceLeDiff, Nat.reduceEqDiff, decide_true, decide_false, reduceIte, and_true, true_and, it13, it14, g9, g10, he, takeN_some, List.take_of_length_le, Nat.le_refl])
    have a3 : Z 3 = stL (L.set (l.length + 3) (.cells [.int .i64 pc, us, uc] 0 [])) := htr.at 3 (by decide) (X := fun _ S => S = stL (L.set (l.length + 3) (.cells [.int .i64 pc, us, uc] 0 []))) (by simp (maxSteps := 2000000) only [go_sem, Nat.reduceBEq, Nat.reduceLT, Nat.reduceAdd, Nat.reduceMul, Nat.reduceLeDiff, Nat.reduceEqDiff, decide_true, decide_false, reduceIte, and_true, true_and, i8, it13, it14, g6, g9, g10, he, takeN_some, List.take_of_length_le, Nat.le_refl, Nat.zero_le, over_all])
    simp only [List.mem_cons, List.not_mem_nil, or_false] at hp
    subst hp
    refine LookOK.of_load rfl ?_
    simp (maxSteps := 2000000) only [go_sem, Nat.reduceBEq, Nat.reduceLT, Nat.reduceAdd, Nat.reduceMul, Nat.reduceLeDiff, Nat.reduceEqDiff, decide_true, decide_false, reduceIte, and_true, true_and, a1, a2, a3, e6 i14 (by omega)]
  simp (maxSteps := 2000000) only [go_sem, Nat.reduceBEq, Nat.reduceLT, Nat.reduceAdd, Nat.reduceMul, Nat.reduceLeDiff, Nat.reduceEqDiff, decide_true, decide_false, reduceIte, and_true, true_and, i8, i9, it13, it14, g6, g7', g9, g10, he, takeN_some, List.take_of_length_le, Nat.le_refl, Nat.zero_le, over_all]
  have e7 : ∀ i, l.length + 4 ≠ i → ((L.set (l.length + 3) (.cells [.int .i64 pc, us, uc] 0 [])).set (l.length + 4) (.cells e 0 []))[i]? = (L.set (l.length + 3) (.cells [.int .i64 pc, us, uc] 0 []))[i]? := fun i hi => List.getElem?_set_ne hi
  have q6 : ((L.set (l.length + 3) (.cells [.int .i64 pc, us, uc] 0 [])).set (l.length + 4) (.cells e 0 []))[l.length + 3]? = some (.cells [.int .i64 pc, us, uc] 0 []) := by rw [e7 _ (by omega), List.getElem?_set_self k6]
  have q7 : ((L.set (l.length + 3) (.cells [.int .i64 pc, us, uc] 0 [])).set (l.length + 4) (.cells e 0 []))[l.length + 4]? = some (.cells e 0 []) := by rw [List.getElem?_set_self (by simpa using k7)]
  refine Ev.ret (Ret.cct rfl (u := .agg [.int .i64 pc, us, uc]) (v := .agg e) (by simp (maxSteps := 2000000) only [go_sem, Nat.reduceBEq, Nat.reduceLT, Nat.reduceAdd, Nat.reduceMul, Nat.reduceLeDiff, Nat.reduceEqDiff, decide_true, decide_false, reduceIte, and_true, true_and, i8, q6]) (by simp (maxSteps := 2000000) only [go_sem, Nat.reduceBEq, Nat.reduceLT, Nat.reduceAdd, Nat.reduceMul, Nat.reduceLeDiff, Nat.reduceEqDiff, decide_true, decide_false, reduceIte, and_true, true_and, i9, q7, he, takeN_some, List.take_of_length_le, Nat.le_refl]) ?_)
  simp (maxSteps := 2000000) only [go_sem, Nat.reduceBEq, Nat.reduceLT, Nat.reduceAdd, Nat.reduceMul, Nat.reduceLeDiff, Nat.reduceEqDiff, decide_true, decide_false, reduceIte, and_true, true_and]
  obtain ⟨g, eg⟩ := app_of (l := l) (l' := (L.set (l.length + 3) (.cells [.int .i64 pc, us, uc] 0 [])).set (l.length + 4) (.cells e 0 [])) fun i hi => by rw [e7 _ (by omega), e6 _ (by omega)]; exact fr i hi
  rw [eg]
  refine hR g ?_ ?_
  · rw [← eg]; exact (hs.low (by omega)).keep fun k hk => by subst hk; have := hs.ge; rw [e7 _ (by omega), e6 _ (by omega)]
  · rw [← eg]; exact (hc.low (by omega)).keep fun k hk => by subst hk; have := hc.ge; rw [e7 _ (by omega), e6 _ (by omega)]
end Cs

