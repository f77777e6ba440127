/- A run under the evaluator, part 2: no statement of its own. -/
import Derived.Test.YtncjlehibolekaaGreatDoorVm6
import Derived.Test.YtncjlehibolekaaGreatDoorRunO1
import Derived.Test.YtncjlehibolekaaGreatDoorRows
set_option autoImplicit false
set_option maxRecDepth 100000
set_option linter.unusedSectionVars false
set_option linter.unusedVariables false
set_option linter.unusedSimpArgs false
set_option linter.unusedVariables false
open Go Go.Vm Go.Proofs
namespace Cm
variable [Gl]
def StrKeys (M : List (V × V)) : Prop := ∀ e ∈ M, ∃ s, e.1 = .str s
theorem eqS_str (a b : List Nat) : eqS (.str a) (.str b) = some (a == b) := rfl
theorem setM_ok : ∀ (M : List (V × V)) (a : List Nat) (v : V), StrKeys M → ∃ M', setM eqS (.str a) v M = some M' ∧ StrKeys M' ∧ ∀ b, findM eqS (.str b) M' = if a = b then some (some v) else findM eqS (.str b) M
  | [], a, v, _ => by
    refine ⟨[(.str a, v)], rfl, fun e he => ⟨a, by simp at he; rw [he]⟩, fun b => ?_⟩
    simp only [findM, eqS_str]
    by_cases h : a = b
    · subst h; simp
    · have : (b == a) = false := by simp; exact fun e => h e.symm
      simp [this, h]
  | e :: r, a, v, hk => by
    obtain ⟨k, w⟩ := e
    obtain ⟨s, hs⟩ := hk (k, w) (by simp)
    simp only at hs; subst hs
    have hk' : StrKeys r := fun e he => hk e (by simp [he])
    by_cases h : a = s
    · subst h
      refine ⟨(.str a, v) :: r, by simp [setM, eqS_str], fun e he => ?_, fun b => ?_⟩
      · rcases List.mem_cons.1 he with e1 | e1
        · rw [e1]; exact ⟨a, rfl⟩
        · exact hk' e e1
      · simp only [findM, eqS_str]
        by_cases hb : a = b
        · subst hb; simp
        · have : (b == a) = false := by simp; exact fun e => hb e.symm
          simp [this, hb]
    · obtain ⟨M', h1, h2, h3⟩ := setM_ok r a v hk'
      have hf : (a == s) = false := by simp [h]
      refine ⟨(.str s, w) :: M', by simp [setM, eqS_str, hf, h1], fun e he => ?_, fun b => ?_⟩
      · rcases List.mem_cons.1 he with e1 | e1
        · rw [e1]; exact ⟨s, rfl⟩
        · exact h2 e e1
      · simp only [findM, eqS_str, h3 b]
        by_cases hb : b = s
        · subst hb; simp [h]
        · have : (b == s) = false := by simp [hb]
          simp [this]
theorem upd103 {l : List Ob} {k : Nat} {M M' : List (V × V)} {a : List Nat} {v : V} (hm : l[k]? = some (.map M)) (h : setM eqS (.str a) v M = some M') : opMapUpdate Tryz.prog 103 (.map (idOf k)) (.str a) v (stL l) = some (.any, stL (l.set k (.map M'))) := by
  have h : setM (eqOf Tryz.prog (.plain .string)) (.str a) v M = some M' := h
  have hk := (List.getElem?_eq_some_iff.1 hm).1
  simp only [opMapUpdate, simple103, keyFit, stL_get, hm, Option.getD_some, h, if_true, stL_set l k _ hk]
theorem lenSlice_of {l : List Ob} {es : Nat} {v : V} {rs : List (List V)} (h : rows l es v = some rs) : lenSlice v = some rs.length := by
  have := rows_len h
  cases v <;> first | exact this | (simp only [rows] at h; cases h)
theorem back84 : backOf Tryz.prog 84 = some (32, 66) := by kernel_rfl
theorem agg66 : isAggT Tryz.prog 66 = some true := by kernel_rfl
theorem agg32 : isAggT Tryz.prog 32 = some false := by kernel_rfl
theorem c66 : Tryz.prog.cellsOf 66 = 3 := by kernel_rfl
theorem i66 (x i : V) : opIndexAddr Tryz.prog 32 x i = idxAddr 3 x i := indexAddr_eq Tryz.underlying32 (by kernel_rfl) x i
theorem ff_run {memo : Memo} (hm45 : memo 45 = none) (l : List Ob) (v : V) (hc : v.isCell = true) (n : Nat) (hn : 1 ≤ n) : callN Tryz.prog (memoBase memo) (drawOK Tryz.prog) n 45 [v] (stL l) = some (.fn 84 [] [.ptr (idOf l.length) 0], stL (l ++ [.cells [v] 0 []])) := by
  obtain ⟨n, rfl⟩ : ∃ m, n = m + 1 := ⟨n - 1, by omega⟩
  suffices hs : ∃ u S', callN Tryz.prog (memoBase memo) (drawOK Tryz.prog) (n + 1) 45 [v] (stL l) = some (u, S') ∧ (u = .fn 84 [] [.ptr (idOf l.length) 0] ∧ S' = stL (l ++ [.cells [v] 0 []])) by
    obtain ⟨u, S', h, rfl, rfl⟩ := hs; exact h
  refine run_fn hm45 Tryz.func45 rfl (by simp [Tryz.f45]) ?_
  have c1 := okC_cell hc
  have c2 := cells_cell hc
  refine Ev.seq rfl (Ev.reg' ?_)
  simp (maxSteps := 2000000) only [go_sem, Nat.reduceBEq, Nat.reduceLT, Nat.reduceAdd, Nat.reduceMul, Nat.reduceLeDiff, Nat.reduceEqDiff, decide_true, decide_false, reduceIte, and_true, true_and, c1, c2]
  refine Ev.seq rfl (Ev.reg' ?_)
  simp (maxSteps := 2000000) only [go_sem, Nat.reduceBEq, Nat.reduceLT, Nat.reduceAdd, Nat.reduceMul, Nat.reduceLeDiff, Nat.reduceEqDiff, decide_true, decide_false, reduceIte, and_true, true_and]
  refine Ev.ret (Ret.tmp rfl ?_)
  simp (maxSteps := 2000000) only [go_sem, Nat.reduceBEq, Nat.reduceLT, Nat.reduceAdd, Nat.reduceMul, Nat.reduceLeDiff, Nat.reduceEqDiff, decide_true, decide_false, reduceIte, and_true, true_and]
theorem find_drop {L : List Cst} {i : Nat} {c : Cst} (h : L[i]? = some c) (name : List Nat) : find name (L.drop i) = if c.name = name then some c else find name (L.drop (i + 1)) := by
  have hl := (List.getElem?_eq_some_iff.1 h).1
  have e : L[i] = c := (List.getElem?_eq_some_iff.1 h).2
  rw [List.drop_eq_getElem_cons hl, e]
  rfl
theorem substituter_run {memo : Memo} (hm27 : memo 27 = none) (hm45 : memo 45 = none) {l : List Ob} {v : V} {L : List Cst} {rs : List (List V)} (hv : rows l 3 v = some rs) (hL : RdCs l L rs) (hbits : ∀ c ∈ L, c.bits.length ≤ 300) (hlen : L.length ≤ 1048576) (n : Nat) (hn : 3 ≤ n) :
    ∃ g kv km ks M, callN Tryz.prog (memoBase memo) (drawOK Tryz.prog) n 27 [v] (stL l) = some (fv kv ks, stL (l ++ g)) ∧ Sub (l ++ g) L kv km ks M := by
  obtain ⟨n, rfl⟩ : ∃ m, n = m + 1 := ⟨n - 1, by omega⟩
  suffices hs : ∃ u S', callN Tryz.prog (memoBase memo) (drawOK Tryz.prog) (n + 1) 27 [v] (stL l) = some (u, S') ∧ (∃ g kv km ks M, u = fv kv ks ∧ S' = stL (l ++ g) ∧ Sub (l ++ g) L kv km ks M) by
    obtain ⟨u, S', h, g, kv, km, ks, M, rfl, rfl, h2⟩ := hs; exact ⟨g, kv, km, ks, M, h, h2⟩
  refine run_fn hm27 Tryz.func27 rfl (by simp [Tryz.f27]) ?_
  have hvc := rows_cell hv
  refine Ev.seq rfl (Ev.reg' ?_)
  simp (maxSteps := 2000000) only [go_sem, Nat.reduceBEq, Nat.reduceLT, Nat.reduceAdd, Nat.reduceMul, Nat.reduceLeDiff, Nat.reduceEqDiff, decide_true, decide_false, reduceIte, and_true, true_and]
  refine Ev.seq rfl (Ev.reg' ?_)
  simp (maxSteps := 2000000) only [go_sem, Nat.reduceBEq, Nat.reduceLT, Nat.reduceAdd, Nat.reduceMul, Nat.reduceLeDiff, Nat.reduceEqDiff, decide_true, decide_false, reduceIte, and_true, true_and, over]
  have hff := ff_run hm45 (l ++ [.map [], .cells [.map (idOf l.length)] 0 []]) v hvc n (by omega)
  simp only [List.append_assoc, List.cons_append, List.nil_append] at hff
  refine Ev.seq rfl (Ev.seq rfl (Ev.reg' ?_))
  simp (maxSteps := 2000000) only [go_sem, Nat.reduceBEq, Nat.reduceLT, Nat.reduceAdd, Nat.reduceMul, Nat.reduceLeDiff, Nat.reduceEqDiff, decide_true, decide_false, reduceIte, and_true, true_and, hff]
  refine Ev.block (Ev.backward rfl rfl (h := 84) (p := .ptr (idOf (l.length + 2)) 0) (lv := v) (p0 := 10) (p1 := 11) (m := L.length) (by simp (maxSteps := 2000000) only [go_sem, Nat.reduceBEq, Nat.reduceLT, Nat.reduceAdd, Nat.reduceMul, Nat.reduceLeDiff, Nat.reduceEqDiff, decide_true, decide_false, reduceIte, and_true, true_and]) rfl back84 (by simp only [load_cell agg32]; simp (maxSteps := 2000000) only [go_sem, Nat.reduceBEq, Nat.reduceLT, Nat.reduceAdd, Nat.reduceMul, Nat.reduceLeDiff, Nat.reduceEqDiff, decide_true, decide_false, reduceIte, and_true, true_and]) (by rw [lenSlice_of hv, hL.len]) (by omega)
    (fun k S => ∃ M g, S = stL (l ++ .map M :: .cells [.map (idOf l.length)] 0 [] :: .cells [v] 0 [] :: g) ∧ StrKeys M ∧ MapOK l M (L.drop k) ∧ k ≤ L.length) ?_ ?_ ?_)
  · exact ⟨[], [], rfl, fun e he => by simp at he, by rw [List.drop_length]; intro name; rfl, Nat.le_refl _⟩
  · intro i S ⟨M, g, hS, hk, hM, hi⟩
    subst hS
    obtain ⟨c, hc⟩ : ∃ c, L[i]? = some c := ⟨L[i], List.getElem?_eq_getElem (by omega)⟩
    obtain ⟨row, hrow, vb, rfl, hvb⟩ := hL.get hc
    obtain ⟨a, ra, ha1, ha2⟩ := rows_idx (rows_app (g := .map M :: .cells [.map (idOf l.length)] 0 [] :: .cells [v] 0 [] :: g) hv) hrow .i64
    have c1 := rows_cell hvb
    obtain ⟨M', hset, hk', hM'⟩ := setM_ok M c.name (.agg [vb, .bool c.sg]) hk
    have hup : opMapUpdate Tryz.prog 103 (.map (idOf l.length)) (.str c.name) (.agg [vb, .bool c.sg]) (stL (l ++ .map M :: .cells [.map (idOf l.length)] 0 [] :: .cells [v] 0 [] :: (g ++ [.cells [.str c.name, vb, .bool c.sg] 0 []]))) = some (.any, stL (l ++ .map M' :: .cells [.map (idOf l.length)] 0 [] :: .cells [v] 0 [] :: (g ++ [.cells [.str c.name, vb, .bool c.sg] 0 []]))) := by
      rw [upd103 (by rw [gx0]; rfl) hset, sx0]; rfl
    refine ⟨.agg [.str c.name, vb, .bool c.sg], ?_, ?_⟩
    · simp only [elemAt, load_cell agg32, i66, load_agg agg66 c66]
      simp (maxSteps := 2000000) only [go_sem, Nat.reduceBEq, Nat.reduceLT, Nat.reduceAdd, Nat.reduceMul, Nat.reduceLeDiff, Nat.reduceEqDiff, decide_true, decide_false, reduceIte, and_true, true_and, ha1, ha2, takeN_app rfl]
    refine Ev.reg' ?_
    simp (maxSteps := 2000000) only [go_sem, Nat.reduceBEq, Nat.reduceLT, Nat.reduceAdd, Nat.reduceMul, Nat.reduceLeDiff, Nat.reduceEqDiff, decide_true, decide_false, reduceIte, and_true, true_and, over]
    refine Ev.block (Ev.reg' ?_)
    simp (maxSteps := 2000000) only [go_sem, Nat.reduceBEq, Nat.reduceLT, Nat.reduceAdd, Nat.reduceMul, Nat.reduceLeDiff, Nat.reduceEqDiff, decide_true, decide_false, reduceIte, and_true, true_and, hup]
    refine ⟨M', _, rfl, hk', fun name => ?_, by omega⟩
    rw [find_drop hc name]
    have hb := hbits c (List.mem_of_getElem? hc)
    by_cases hn : c.name = name
    · simp only [hn, if_true]
      exact ⟨hb, vb, by rw [hM', if_pos hn], hvb⟩
    · simp only [hn, if_false]
      have := hM name
      cases e : find name (L.drop (i + 1)) with
      | none => rw [e] at this; simp only [] at this ⊢; rw [hM', if_neg hn]; exact this
      | some d =>
        rw [e] at this
        obtain ⟨h1, vd, h2, h3⟩ := this
        exact ⟨h1, vd, by rw [hM', if_neg hn]; exact h2, h3⟩
  · intro S' ⟨M, g, hS, hk, hM, _⟩
    subst hS
    rw [List.drop_zero] at hM
    simp (maxSteps := 2000000) only [go_sem, Nat.reduceBEq, Nat.reduceLT, Nat.reduceAdd, Nat.reduceMul, Nat.reduceLeDiff, Nat.reduceEqDiff, decide_true, decide_false, reduceIte, and_true, true_and]
    refine Ev.seq rfl (Ev.reg' ?_)
    simp (maxSteps := 2000000) only [go_sem, Nat.reduceBEq, Nat.reduceLT, Nat.reduceAdd, Nat.reduceMul, Nat.reduceLeDiff, Nat.reduceEqDiff, decide_true, decide_false, reduceIte, and_true, true_and]
    refine Ev.seq rfl (Ev.reg' ?_)
    simp (maxSteps := 2000000) only [go_sem, Nat.reduceBEq, Nat.reduceLT, Nat.reduceAdd, Nat.reduceMul, Nat.reduceLeDiff, Nat.reduceEqDiff, decide_true, decide_false, reduceIte, and_true, true_and, over]
    refine Ev.seq rfl (Ev.reg' ?_)
    simp (maxSteps := 2000000) only [go_sem, Nat.reduceBEq, Nat.reduceLT, Nat.reduceAdd, Nat.reduceMul, Nat.reduceLeDiff, Nat.reduceEqDiff, decide_true, decide_false, reduceIte, and_true, true_and]
    refine Ev.ret (Ret.tmp rfl ?_)
    simp (maxSteps := 2000000) only [go_sem, Nat.reduceBEq, Nat.reduceLT, Nat.reduceAdd, Nat.reduceMul, Nat.reduceLeDiff, Nat.reduceEqDiff, decide_true, decide_false, reduceIte, and_true, true_and]
    exact ⟨_, l.length + 1, l.length, _, M, rfl, rfl, ⟨by simp (maxSteps := 2000000) only [go_sem, Nat.reduceBEq, Nat.reduceLT, Nat.reduceAdd, Nat.reduceMul, Nat.reduceLeDiff, Nat.reduceEqDiff, decide_true, decide_false, reduceIte, and_true, true_and], by simp (maxSteps := 2000000) only [go_sem, Nat.reduceBEq, Nat.reduceLT, Nat.reduceAdd, Nat.reduceMul, Nat.reduceLeDiff, Nat.reduceEqDiff, decide_true, decide_false, reduceIte, and_true, true_and], by simp (maxSteps := 2000000) only [go_sem, Nat.reduceBEq, Nat.reduceLT, Nat.reduceAdd, Nat.reduceMul, Nat.reduceLeDiff, Nat.reduceEqDiff, decide_true, decide_false, reduceIte, and_true, true_and], hM.app⟩⟩
end Cm

set_option linter.unusedVariables false
open Go Go.Vm Go.Proofs
namespace Cm
variable [Gl]
theorem Subst_run {memo : Memo} (hm11 : memo 11 = none) (hm27 : memo 27 = none) (hm40 : memo 40 = none) (hm45 : memo 45 = none) (hm46 : memo 46 = none) (hm47 : memo 47 = none) (hm85 : memo 85 = none) {l : List Ob} {x : Ex} {c : List V} {v : V} {L : List Cst} {rs : List (List V)}
    (hx : RdE l x c) (hv : rows l 3 v = some rs) (hL : RdCs l L rs) (hbits : ∀ c ∈ L, c.bits.length ≤ 300) (hlen : L.length ≤ 1048576) (hw : wideS x = false) (hN : nodes x ≤ 1048576) (n : Nat) (hn : 2 * nodes x + 12 ≤ n) :
    ∃ g c', callN Tryz.prog (memoBase memo) (drawOK Tryz.prog) n 11 [.agg c, v] (stL l) = some (.agg c', stL (l ++ g)) ∧ ∀ l' : List Ob, l'.length = l.length → RdE (l' ++ g) (subst L x) c' := by
  obtain ⟨n, rfl⟩ : ∃ m, n = m + 1 := ⟨n - 1, by omega⟩
  suffices hs : ∃ u S', callN Tryz.prog (memoBase memo) (drawOK Tryz.prog) (n + 1) 11 [.agg c, v] (stL l) = some (u, S') ∧ (∃ g c', u = .agg c' ∧ S' = stL (l ++ g) ∧ ∀ l' : List Ob, l'.length = l.length → RdE (l' ++ g) (subst L x) c') by
    obtain ⟨u, S', h, g, c', rfl, rfl, h2⟩ := hs; exact ⟨g, c', h, h2⟩
  refine run_fn hm11 Tryz.func11 rfl (by simp [Tryz.f11]) ?_
  have hc8 := hx.len
  refine Ev.seq rfl (Ev.reg' ?_)
  simp (maxSteps := 2000000) only [go_sem, Nat.reduceBEq, Nat.reduceLT, Nat.reduceAdd, Nat.reduceMul, Nat.reduceLeDiff, Nat.reduceEqDiff, decide_true, decide_false, reduceIte, and_true, true_and]
  obtain ⟨g1, kv, km, ks, M, hc1, hS1⟩ := substituter_run hm27 hm45 (l := l ++ [.cells c 0 [], .cells z27 0 []]) (rows_app hv) hL.app hbits hlen n (by omega)
  obtain ⟨g2, c', hc2, hr2⟩ := subst_run hm40 hm46 hm47 hm85 L _ x (Nat.le_refl _) hN (l ++ .cells c 0 [] :: .cells z27 0 [] :: g1) c kv km ks M hx.app (by simpa using hS1) hw n (by omega)
  have hd8 := (hr2 _ rfl).len
  simp only [List.append_assoc, List.cons_append, List.nil_append] at hc1 hc2
  have hall : over z27 0 c' = c' := over_all _ _ (by rw [hd8]; rfl)
  refine Ev.seq rfl (Ev.regDX rfl (by kernel_rfl) [(2, 1)] (by kernel_rfl) (fun T Z B R htr p hp => ?_) ?_)
  · have a1 : T 2 2 = .ptr (idOf l.length) 0 := htr.at 2 (by decide) (X := fun t _ => t 2 = .ptr (idOf l.length) 0) (by simp (maxSteps := 2000000) only [go_sem, Nat.reduceBEq, Nat.reduceLT, Nat.reduceAdd, Nat.reduceMul, Nat.reduceLeDiff, Nat.reduceEqDiff, decide_true, decide_false, reduceIte, and_true, true_and, hc1, List.take_succ_cons])
    have a3 : Z 1 = stL (l ++ [.cells c 0 [], .cells z27 0 []]) := htr.at 1 (by decide) (X := fun _ S => S = stL (l ++ [.cells c 0 [], .cells z27 0 []])) (by simp (maxSteps := 2000000) only [go_sem, Nat.reduceBEq, Nat.reduceLT, Nat.reduceAdd, Nat.reduceMul, Nat.reduceLeDiff, Nat.reduceEqDiff, decide_true, decide_false, reduceIte, and_true, true_and, List.take_succ_cons])
    have a4 : Z 2 = stL (l ++ .cells c 0 [] :: .cells z27 0 [] :: g1) := htr.at 2 (by decide) (X := fun _ S => S = stL (l ++ .cells c 0 [] :: .cells z27 0 [] :: g1)) (by simp (maxSteps := 2000000) only [go_sem, Nat.reduceBEq, Nat.reduceLT, Nat.reduceAdd, Nat.reduceMul, Nat.reduceLeDiff, Nat.reduceEqDiff, decide_true, decide_false, reduceIte, and_true, true_and, hc1, List.take_succ_cons])
    simp only [List.mem_cons, List.not_mem_nil, or_false] at hp
    subst hp
    refine LookOK.of_load rfl ?_
    simp (maxSteps := 2000000) only [go_sem, Nat.reduceBEq, Nat.reduceLT, Nat.reduceAdd, Nat.reduceMul, Nat.reduceLeDiff, Nat.reduceEqDiff, decide_true, decide_false, reduceIte, and_true, true_and, a1, a3, a4]
  simp (maxSteps := 2000000) only [go_sem, Nat.reduceBEq, Nat.reduceLT, Nat.reduceAdd, Nat.reduceMul, Nat.reduceLeDiff, Nat.reduceEqDiff, decide_true, decide_false, reduceIte, and_true, true_and, hc1, hc2, hc8, Nat.le_refl, List.take_of_length_le, hd8, hall, if_true]
  refine Ev.ret (Ret.cell rfl (v := .agg c') (by simp (maxSteps := 2000000) only [go_sem, Nat.reduceBEq, Nat.reduceLT, Nat.reduceAdd, Nat.reduceMul, Nat.reduceLeDiff, Nat.reduceEqDiff, decide_true, decide_false, reduceIte, and_true, true_and, hd8, Nat.le_refl, List.take_of_length_le]) ?_)
  refine ⟨_, c', rfl, rfl, fun l' hl => ?_⟩
  have h1 := hr2 (l' ++ .cells c 0 [] :: .cells c' 0 [] :: g1) (by simp [hl])
  simpa using h1
end Cm

set_option linter.unusedVariables false
open Go Go.Vm Go.Proofs
namespace Cm
variable [Gl]
/-- Bits appended to an empty row that is new. -/
theorem bits_app (L : List Ob) {vb : V} {bits : List Nat} (h1 : rows L 1 vb = some (bits.map bitC)) (hb : bits.length ≤ 1048576) :
    ∃ g1 w, opAppend2 Tryz.prog 22 (.ref 1 (idOf L.length) 0 0) vb (stL (L ++ [.cells [] 0 []])) = some (w, stL (L ++ g1)) ∧ w.isCell = true ∧ ∀ l' : List Ob, l'.length = L.length → rows (l' ++ g1) 1 w = some (bits.map bitC) := by
  cases bits with
  | nil =>
    have hap := append_none (P := Tryz.prog) Tryz.underlying22 sz73 (l := L ++ [.cells [] 0 []]) (k := L.length) (n := 0) (fz := 0) (c := []) (anc := []) (y := vb) (by rw [gx0]; rfl) rfl (rows_app h1)
    exact ⟨_, _, hap, isCell_ref .., fun l' hl => by rw [← hl, rows_ref (c := []) (by rw [gx0]; rfl) (by simp)]; rfl⟩
  | cons b bs =>
    have hap := append_ref (P := Tryz.prog) Tryz.underlying22 sz73 hz73 (l := L ++ [.cells [] 0 []]) (k := L.length) (n := 0) (fz := 0) (c := []) (anc := []) (y := vb) (r := bitC b) (rs := bs.map bitC) (by rw [gx0]; rfl) rfl (rows_app h1) (by simp at hb ⊢; omega)
    rw [sx0] at hap
    simp only [List.set_cons_zero, List.append_assoc, List.cons_append, List.nil_append] at hap
    refine ⟨_, _, hap, isCell_ref .., fun l' hl => ?_⟩
    have := rows_new (l := l' ++ [.stale []]) (sz := 1) (rs := (b :: bs).map bitC) (bits_len1 _) (fz := 0) (anc := [idOf L.length]) (g := [])
    rw [← hl]
    simpa [hl] using this
/-- A list of constants of one's own. -/
def OwnC (m : Nat) (g : List Ob) (v : V) (xs : List Cst) : Prop :=
  (v = .nils ∧ xs = []) ∨ ∃ j D fz anc, v = .ref 3 (idOf (m + j)) 0 xs.length ∧ g[j]? = some (.cells D fz anc) ∧ D.length = xs.length * 3 ∧ ∀ l' : List Ob, l'.length = m → RdCs (l' ++ g) xs (chunks 3 xs.length D)
theorem RdC.congr {l m : List Ob} (h : ∀ (i : Nat), obFull l[i]? = obFull m[i]?) {x : Cst} {c : List V} (hx : RdC l x c) : RdC m x c := by
  obtain ⟨vb, h1, h2⟩ := hx; exact ⟨vb, h1, by rw [← rows_congr h]; exact h2⟩
theorem RdCs.congr {l m : List Ob} (h : ∀ (i : Nat), obFull l[i]? = obFull m[i]?) : ∀ {xs : List Cst} {rs : List (List V)}, RdCs l xs rs → RdCs m xs rs
  | [], _, hx => hx
  | _ :: _, _, ⟨c, q, h1, h2, h3⟩ => ⟨c, q, h1, h2.congr h, h3.congr h⟩
theorem RdCs.snoc {l : List Ob} {x : Cst} {c : List V} (hx : RdC l x c) : ∀ {xs : List Cst} {rs : List (List V)}, RdCs l xs rs → RdCs l (xs ++ [x]) (rs ++ [c])
  | [], rs, h => by have h : rs = [] := h; subst h; exact ⟨c, [], rfl, hx, rfl⟩
  | y :: r, rs, ⟨d, q, h1, h2, h3⟩ => by subst h1; exact ⟨d, q ++ [c], rfl, h2, RdCs.snoc hx h3⟩
theorem RdC.len {l : List Ob} {x : Cst} {c : List V} (h : RdC l x c) : c.length = 3 := by obtain ⟨vb, h1, _⟩ := h; subst h1; rfl
theorem hz66 : Tryz.prog.bytesOf 66 ≤ 2 ^ 16 ∧ (zeroOf Tryz.prog 66).map List.length = some 3 := of_decide_eq_true bytes66
/-- One more. -/
theorem own_app {l g1 : List Ob} {g : List Ob} {v w : V} {xs : List Cst} {x : Cst} (ho : OwnC l.length g v xs) (hb : xs.length ≤ 1048576) (hc : w.isCell = true) (hr : ∀ l' : List Ob, l'.length = l.length + g.length → rows (l' ++ g1) 1 w = some (x.bits.map bitC)) :
    ∃ g' u, opAppend2 Tryz.prog 32 v (.ref 3 (idOf (l.length + (g.length + g1.length))) 0 1) (stL (l ++ (g ++ (g1 ++ [.cells [.str x.name, w, .bool x.sg] 0 []])))) = some (u, stL (l ++ g')) ∧ u.isCell = true ∧ OwnC l.length g' u (xs ++ [x]) := by
  have hy : rows (l ++ (g ++ (g1 ++ [.cells [.str x.name, w, .bool x.sg] 0 []]))) 3 (.ref 3 (idOf (l.length + (g.length + g1.length))) 0 1) = some [[.str x.name, w, .bool x.sg]] := by
    rw [rows_ref (c := [.str x.name, w, .bool x.sg]) (by rw [gxs, gxs, gx0]; rfl) (by simp)]; rfl
  rcases ho with ⟨rfl, rfl⟩ | ⟨j, D, fz, anc, rfl, hg, hD, hpre⟩
  · have hap := append_nils (P := Tryz.prog) Tryz.underlying32 (by kernel_rfl) hz66 hy (by simp)
    simp only [List.append_assoc] at hap
    refine ⟨_, _, hap, isCell_ref .., .inr ⟨g.length + (g1.length + 1), [.str x.name, w, .bool x.sg], 0, [], ?_, ?_, rfl, fun l' hl => ?_⟩⟩
    · simp only [List.length_append, List.length_cons, List.length_nil]
    · rw [gxs, gxs]; simp
    · refine ⟨_, [], rfl, ⟨w, rfl, ?_⟩, rfl⟩
      have := rows_app (g := [.cells [.str x.name, w, .bool x.sg] 0 [], .cells [.str x.name, w, .bool x.sg] 0 []]) (hr (l' ++ g) (by simp [hl]))
      simpa using this
  · have hj : j < g.length := (List.getElem?_eq_some_iff.1 hg).1
    have hap := append_ref (P := Tryz.prog) Tryz.underlying32 (by kernel_rfl) hz66 (l := l ++ (g ++ (g1 ++ [.cells [.str x.name, w, .bool x.sg] 0 []]))) (k := l.length + j) (n := xs.length) (fz := fz) (c := D) (anc := anc) (by rw [gxs, List.getElem?_append_left hj]; exact hg) hD hy (by simp; omega)
    rw [sxs, List.set_append_left _ _ hj] at hap
    simp only [List.append_assoc] at hap
    have hfull : ∀ (l' : List Ob) (r : List Ob) (i : Nat), obFull (l' ++ (g ++ r))[i]? = obFull (l' ++ (g.set j (.stale D) ++ r))[i]? := by
      intro l' r i
      rw [← List.set_append_left _ _ hj, ← sxs, full_stale (by rw [gxs, List.getElem?_append_left hj, hg]; rfl)]
    refine ⟨_, _, hap, isCell_ref .., .inr ⟨g.length + (g1.length + 1), D ++ [.str x.name, w, .bool x.sg], fz, idOf (l.length + j) :: anc, ?_, ?_, ?_, fun l' hl => ?_⟩⟩
    · simp only [List.length_append, List.length_cons, List.length_nil]
    · rw [show g.length + (g1.length + 1) = (g.set j (.stale D)).length + (g1.length + 1) by simp, gxs, gxs]; simp
    · simp only [List.length_append, List.length_cons, List.length_nil, hD]; omega
    · have e : (xs ++ [x]).length = xs.length + 1 := by simp
      rw [e, chunks_snoc 3 xs.length D _ hD rfl]
      have h1 := (hpre l' hl).app (g := g1 ++ ([.cells [.str x.name, w, .bool x.sg] 0 []] ++ [.cells (D ++ [[.str x.name, w, .bool x.sg]].flatten) fz (idOf (l.length + j) :: anc)]))
      rw [List.append_assoc] at h1
      have h2 : RdC (l' ++ (g ++ (g1 ++ ([.cells [.str x.name, w, .bool x.sg] 0 []] ++ [.cells (D ++ [[.str x.name, w, .bool x.sg]].flatten) fz (idOf (l.length + j) :: anc)])))) x [.str x.name, w, .bool x.sg] := by
        refine ⟨w, rfl, ?_⟩
        have := rows_app (g := [.cells [.str x.name, w, .bool x.sg] 0 []] ++ [.cells (D ++ [[.str x.name, w, .bool x.sg]].flatten) fz (idOf (l.length + j) :: anc)]) (hr (l' ++ g) (by simp [hl]))
        simpa using this
      have h3 := (RdCs.snoc h2 h1).congr (hfull l' _)
      simpa using h3
end Cm

set_option linter.unusedVariables false
open Go Go.Vm Go.Proofs
namespace Cm
variable [Gl]
theorem OwnC.cell {m : Nat} {g : List Ob} {v : V} {xs : List Cst} (h : OwnC m g v xs) : v.isCell = true := by
  rcases h with ⟨rfl, _⟩ | ⟨j, D, fz, anc, rfl, _⟩
  · rfl
  · rfl
theorem given_run {memo : Memo} (hm8 : memo 8 = none) {l : List Ob} {v : V} {xs : List Cst} {rs : List (List V)} (hv : rows l 3 v = some rs) (hx : RdCs l xs rs) (hbits : ∀ c ∈ xs, c.bits.length ≤ 300) (hlen : xs.length ≤ 1048576) (n : Nat) (hn : xs.length + 3 ≤ n) :
    ∃ g u, callN Tryz.prog (memoBase memo) (drawOK Tryz.prog) n 8 [v] (stL l) = some (u, stL (l ++ g)) ∧ OwnC l.length g u xs := by
  obtain ⟨n, rfl⟩ : ∃ m, n = m + 1 := ⟨n - 1, by omega⟩
  suffices hs : ∃ u S', callN Tryz.prog (memoBase memo) (drawOK Tryz.prog) (n + 1) 8 [v] (stL l) = some (u, S') ∧ (∃ g, S' = stL (l ++ g) ∧ OwnC l.length g u xs) by
    obtain ⟨u, S', h, g, rfl, h2⟩ := hs; exact ⟨g, u, h, h2⟩
  refine run_fn hm8 Tryz.func8 rfl (by simp [Tryz.f8]) ?_
  have l1 := rows_len hv
  rw [hx.len] at l1
  refine Ev.seq rfl (Ev.reg' ?_)
  simp (maxSteps := 2000000) only [go_sem, Nat.reduceBEq, Nat.reduceLT, Nat.reduceAdd, Nat.reduceMul, Nat.reduceLeDiff, Nat.reduceEqDiff, decide_true, decide_false, reduceIte, and_true, true_and]
  refine Ev.seq rfl (Ev.reg' ?_)
  simp (maxSteps := 2000000) only [go_sem, Nat.reduceBEq, Nat.reduceLT, Nat.reduceAdd, Nat.reduceMul, Nat.reduceLeDiff, Nat.reduceEqDiff, decide_true, decide_false, reduceIte, and_true, true_and]
  refine Ev.seq rfl (Ev.seq rfl (Ev.reg' ?_))
  simp (maxSteps := 2000000) only [go_sem, Nat.reduceBEq, Nat.reduceLT, Nat.reduceAdd, Nat.reduceMul, Nat.reduceLeDiff, Nat.reduceEqDiff, decide_true, decide_false, reduceIte, and_true, true_and]
  refine Ev.block (Ev.loop (fun k t S => t 0 = v ∧ ∃ j : Nat, t 4 = .int .i64 (j : Int) ∧ j + k = xs.length ∧ ∃ g u, t 3 = u ∧ S = stL (l ++ g) ∧ OwnC l.length g u (xs.take j)) xs.length (by omega) ?_ ?_)
  · simp (maxSteps := 2000000) only [go_sem, Nat.reduceBEq, Nat.reduceLT, Nat.reduceAdd, Nat.reduceMul, Nat.reduceLeDiff, Nat.reduceEqDiff, decide_true, decide_false, reduceIte, and_true, true_and]
    exact ⟨0, rfl, by omega, [], .nils, rfl, by simp, .inl ⟨rfl, by simp⟩⟩
  intro k t S ⟨i0, j, i4, hjk, g, u, i3, iS, hO⟩
  subst iS
  refine Ev.seq rfl (Ev.seq rfl (Ev.reg' ?_))
  simp (maxSteps := 2000000) only [go_sem, Nat.reduceBEq, Nat.reduceLT, Nat.reduceAdd, Nat.reduceMul, Nat.reduceLeDiff, Nat.reduceEqDiff, decide_true, decide_false, reduceIte, and_true, true_and, i0, i4, l1]
  refine Ev.cond' ?_
  simp (maxSteps := 2000000) only [go_sem, Nat.reduceBEq, Nat.reduceLT, Nat.reduceAdd, Nat.reduceMul, Nat.reduceLeDiff, Nat.reduceEqDiff, decide_true, decide_false, reduceIte, and_true, true_and]
  by_cases hj : (j : Int) < (xs.length : Int)
  rotate_left
  · have hj' : ¬ j < xs.length := fun h => hj (by exact_mod_cast h)
    simp only [hj, decide_false, wpC_false]
    refine Ev.exit ?_
    simp (maxSteps := 2000000) only [go_sem, Nat.reduceBEq, Nat.reduceLT, Nat.reduceAdd, Nat.reduceMul, Nat.reduceLeDiff, Nat.reduceEqDiff, decide_true, decide_false, reduceIte, and_true, true_and]
    refine Ev.seq rfl (Ev.reg' ?_)
    simp (maxSteps := 2000000) only [go_sem, Nat.reduceBEq, Nat.reduceLT, Nat.reduceAdd, Nat.reduceMul, Nat.reduceLeDiff, Nat.reduceEqDiff, decide_true, decide_false, reduceIte, and_true, true_and, i3]
    refine Ev.ret (Ret.tmp rfl ?_)
    simp (maxSteps := 2000000) only [go_sem, Nat.reduceBEq, Nat.reduceLT, Nat.reduceAdd, Nat.reduceMul, Nat.reduceLeDiff, Nat.reduceEqDiff, decide_true, decide_false, reduceIte, and_true, true_and]
    rw [List.take_of_length_le (by omega)] at hO
    exact ⟨g, rfl, hO⟩
  have hj' : j < xs.length := by exact_mod_cast hj
  obtain ⟨y, hy⟩ : ∃ y, xs[j]? = some y := ⟨xs[j], List.getElem?_eq_getElem hj'⟩
  obtain ⟨cy, hcy, vb, rfl, hvb⟩ := hx.get hy
  obtain ⟨a, ra, ha1, ha2⟩ := rows_idx hv hcy .i64
  obtain ⟨b1, hb1, hb2⟩ := addr_at ha2 (o := 0) (by simp)
  obtain ⟨d1, hd1, hd2⟩ := addr_at ha2 (o := 1) (by simp)
  obtain ⟨e1, he1, he2⟩ := addr_at hd2 (o := 0) (by simp)
  obtain ⟨f1, hf1, hf2⟩ := addr_at hd2 (o := 1) (by simp)
  simp only [List.cons_append, List.drop_zero, List.drop_succ_cons, List.nil_append] at hb2 he2 hf2
  have hyb := hbits y (List.mem_of_getElem? hy)
  obtain ⟨g1, w, hap1, hwc, hwr⟩ := bits_app (l ++ g) (rows_app (g := g) hvb) (by omega)
  obtain ⟨g2, u2, hap2, huc, hO2⟩ := own_app (x := y) hO (by simp; omega) hwc (by simpa using hwr)
  simp only [List.append_assoc, List.length_append] at hap1
  have c1 := okC_cell hwc
  have c2 := cells_cell hwc
  have m0 := cellsAt_mono (g := g) hb2
  have m1 := cellsAt_mono (g := g ++ [.cells [] 0 []]) hb2
  have m2 := cellsAt_mono (g := g ++ [.cells [] 0 []]) he2
  have m3 := cellsAt_mono (g := g ++ g1) hf2
  have m4 := cellsAt_mono (g := g ++ g1) hb2
  have m5 := cellsAt_mono (g := g ++ [.cells [] 0 []]) hf2
  simp only [hj, decide_true, wpC_true]
  refine Ev.skip ?_
  simp (maxSteps := 2000000) only [go_sem, Nat.reduceBEq, Nat.reduceLT, Nat.reduceAdd, Nat.reduceMul, Nat.reduceLeDiff, Nat.reduceEqDiff, decide_true, decide_false, reduceIte, and_true, true_and]
  have e1' : xs.take (j + 1) = xs.take j ++ [y] := by rw [List.take_add_one, hy]; rfl
  refine Ev.seq rfl (Ev.block (Ev.regDX rfl (by kernel_rfl) [(5, 13), (19, 13)] (by kernel_rfl) (fun T Z B R htr p hp => ?_) ?_))
  · have a1 : T 5 15 = b1 := htr.at 5 (by decide) (X := fun t _ => t 15 = b1) (by simp (maxSteps := 2000000) only [go_sem, Nat.reduceBEq, Nat.reduceLT, Nat.reduceAdd, Nat.reduceMul, Nat.reduceLeDiff, Nat.reduceEqDiff, decide_true, decide_false, reduceIte, and_true, true_and, i0, i3, i4, ha1, hb1, List.take_succ_cons])
    have a2 : T 19 29 = f1 := htr.at 19 (by decide) (X := fun t _ => t 29 = f1) (by simp (maxSteps := 2000000) only [go_sem, Nat.reduceBEq, Nat.reduceLT, Nat.reduceAdd, Nat.reduceMul, Nat.reduceLeDiff, Nat.reduceEqDiff, decide_true, decide_false, reduceIte, and_true, true_and, i0, i3, i4, ha1, hb1, m0, m1, hd1, he1, m2, hf1, hap1, Nat.zero_mul, Nat.zero_le, if_true, List.take_succ_cons])
    have a3 : Z 13 = stL (l ++ (g ++ [.cells [] 0 []])) := htr.at 13 (by decide) (X := fun _ S => S = stL (l ++ (g ++ [.cells [] 0 []]))) (by simp (maxSteps := 2000000) only [go_sem, Nat.reduceBEq, Nat.reduceLT, Nat.reduceAdd, Nat.reduceMul, Nat.reduceLeDiff, Nat.reduceEqDiff, decide_true, decide_false, reduceIte, and_true, true_and, i0, i3, i4, ha1, hb1, m0, m1, hd1, he1, m2, Nat.zero_mul, Nat.zero_le, if_true, List.take_succ_cons])
    have a4 : Z 14 = stL (l ++ (g ++ g1)) := htr.at 14 (by decide) (X := fun _ S => S = stL (l ++ (g ++ g1))) (by simp (maxSteps := 2000000) only [go_sem, Nat.reduceBEq, Nat.reduceLT, Nat.reduceAdd, Nat.reduceMul, Nat.reduceLeDiff, Nat.reduceEqDiff, decide_true, decide_false, reduceIte, and_true, true_and, i0, i3, i4, ha1, hb1, m0, m1, hd1, he1, m2, hap1, Nat.zero_mul, Nat.zero_le, if_true, List.take_succ_cons])
    simp only [List.mem_cons, List.not_mem_nil, or_false] at hp
    rcases hp with rfl | rfl
    · refine LookOK.of_load rfl ?_
      simp (maxSteps := 2000000) only [go_sem, Nat.reduceBEq, Nat.reduceLT, Nat.reduceAdd, Nat.reduceMul, Nat.reduceLeDiff, Nat.reduceEqDiff, decide_true, decide_false, reduceIte, and_true, true_and, a1, a3, a4, m1, m4]
    · refine LookOK.of_load rfl ?_
      simp (maxSteps := 2000000) only [go_sem, Nat.reduceBEq, Nat.reduceLT, Nat.reduceAdd, Nat.reduceMul, Nat.reduceLeDiff, Nat.reduceEqDiff, decide_true, decide_false, reduceIte, and_true, true_and, a2, a3, a4, m5, m3]
  simp (maxSteps := 2000000) only [go_sem, Nat.reduceBEq, Nat.reduceLT, Nat.reduceAdd, Nat.reduceMul, Nat.reduceLeDiff, Nat.reduceEqDiff, decide_true, decide_false, reduceIte, and_true, true_and, i0, i3, i4, ha1, hb1, m0, m1, hd1, he1, m2, hf1, m3, hap1, c1, c2, over, Nat.zero_mul, Nat.one_mul, Nat.zero_le, if_true, hap2]
  refine Ev.reg' ?_
  simp (maxSteps := 2000000) only [go_sem, Nat.reduceBEq, Nat.reduceLT, Nat.reduceAdd, Nat.reduceMul, Nat.reduceLeDiff, Nat.reduceEqDiff, decide_true, decide_false, reduceIte, and_true, true_and, i0, i4]
  exact ⟨k - 1, by omega, j + 1, by rw [IntWalk.i64_in _ (by omega)]; rfl, by omega, g2, u2, rfl, rfl, by rw [e1']; exact hO2⟩
end Cm

set_option linter.unusedVariables false
open Go Go.Vm Go.Proofs
namespace Cm
/-! ### the plain law -/
theorem find_app (name : List Nat) : ∀ (L M : List Cst), find name (L ++ M) = match find name L with | some c => some c | none => find name M
  | [], M => rfl
  | c :: r, M => by
    by_cases h : c.name = name
    · simp [find, h]
    · simp only [List.cons_append, find, h, if_false]; exact find_app name r M
mutual
theorem subst_subst (L M : List Cst) : ∀ (x : Ex), subst M (subst L x) = subst (L ++ M) x
  | .mk op name bits vs args sig wid sg => by
    have ih := substL_substL L M args
    by_cases h : op = 2
    · simp only [subst, h, if_true, find_app]
      cases hf : find name L with
      | some c => simp [subst, substL]
      | none => simp only [subst, if_true, ih]
    · simp only [subst, h, if_false, ih]
theorem substL_substL (L M : List Cst) : ∀ (xs : List Ex), substL M (substL L xs) = substL (L ++ M) xs
  | [] => rfl
  | x :: r => by simp only [substL, subst_subst L M x, substL_substL L M r]
end
theorem find_mem {name : List Nat} : ∀ {L : List Cst} {c : Cst}, find name L = some c → c ∈ L
  | [], c, h => by cases h
  | d :: r, c, h => by
    by_cases hd : d.name = name
    · simp only [find, hd, if_true] at h; injection h with h; subst h; simp
    · simp only [find, hd, if_false] at h; exact List.mem_cons_of_mem _ (find_mem h)
mutual
theorem subst_wide {L : List Cst} (hb : ∀ c ∈ L, c.bits.length ≤ 300) : ∀ (x : Ex), wideS x = false → wideS (subst L x) = false
  | .mk op name bits vs args sig wid sg, h => by
    have hh := h
    simp only [wideS, Bool.or_eq_false_iff, decide_eq_false_iff_not] at hh
    simp only [subst]
    split
    · rename_i c e
      have hm : c ∈ L := by
        by_cases h2 : op = 2
        · simp only [h2, if_true] at e; exact find_mem e
        · simp [h2] at e
      have := hb c hm
      simp only [wideS, wideSL, Bool.or_eq_false_iff, decide_eq_false_iff_not, List.length_nil]
      exact ⟨⟨by omega, by omega⟩, trivial⟩
    · simp only [wideS, Bool.or_eq_false_iff, decide_eq_false_iff_not]
      exact ⟨hh.1, substL_wide hb args hh.2⟩
theorem substL_wide {L : List Cst} (hb : ∀ c ∈ L, c.bits.length ≤ 300) : ∀ (xs : List Ex), wideSL xs = false → wideSL (substL L xs) = false
  | [], _ => rfl
  | x :: r, h => by
    simp only [wideSL, Bool.or_eq_false_iff] at h
    simp only [substL, wideSL, Bool.or_eq_false_iff]
    exact ⟨subst_wide hb x h.1, substL_wide hb r h.2⟩
end
mutual
theorem subst_nodes (L : List Cst) : ∀ (x : Ex), nodes (subst L x) ≤ nodes x
  | .mk op name bits vs args sig wid sg => by
    have := substL_nodes L args
    simp only [subst]
    split
    · simp only [nodes, nodesL]; omega
    · simp only [nodes]; omega
theorem substL_nodes (L : List Cst) : ∀ (xs : List Ex), nodesL (substL L xs) ≤ nodesL xs
  | [] => Nat.le_refl _
  | x :: r => by have := subst_nodes L x; have := substL_nodes L r; simp only [substL, nodesL]; omega
end
mutual
theorem bulk_le : ∀ (x : Ex), wideS x = false → bulk x + 1 ≤ 506 * nodes x
  | .mk op name bits vs args sig wid sg, h => by
    simp only [wideS, Bool.or_eq_false_iff, decide_eq_false_iff_not] at h
    have := bulkL_le args h.2
    simp only [bulk, nodes]; omega
theorem bulkL_le : ∀ (xs : List Ex), wideSL xs = false → bulkL xs ≤ 506 * nodesL xs
  | [], _ => by simp [bulkL]
  | x :: r, h => by
    simp only [wideSL, Bool.or_eq_false_iff] at h
    have := bulk_le x h.1
    have := bulkL_le r h.2
    simp only [bulkL, nodesL]; omega
end
/-! ### lists of one's own, put together -/
theorem chunks_app (es : Nat) : ∀ (n m : Nat) (D E : List V), D.length = n * es → chunks es (n + m) (D ++ E) = chunks es n D ++ chunks es m E
  | 0, m, D, E, h => by
    have : D = [] := List.eq_nil_of_length_eq_zero (by omega)
    subst this; simp [chunks]
  | n + 1, m, D, E, h => by
    have e : (n + 1) * es = es + n * es := by rw [Nat.add_mul]; omega
    have hle : es ≤ D.length := by omega
    rw [show n + 1 + m = (n + m) + 1 by omega, chunks, List.take_append_of_le_length hle, List.drop_append_of_le_length hle, chunks_app es n m (D.drop es) E (by simp; omega)]
    rfl
theorem RdCs.cat {l : List Ob} : ∀ {xs ys : List Cst} {rs qs : List (List V)}, RdCs l xs rs → RdCs l ys qs → RdCs l (xs ++ ys) (rs ++ qs)
  | [], ys, rs, qs, h, h' => by have h : rs = [] := h; subst h; exact h'
  | x :: r, ys, rs, qs, ⟨c, q, h1, h2, h3⟩, h' => by subst h1; exact ⟨c, q ++ qs, rfl, h2, h3.cat h'⟩
variable [Gl]
theorem RdCs.lens {l : List Ob} : ∀ {xs : List Cst} {rs : List (List V)}, RdCs l xs rs → ∀ r ∈ rs, r.length = 3
  | [], rs, h, r, hr => by have h : rs = [] := h; subst h; simp at hr
  | x :: xs, rs, ⟨c, q, h1, h2, h3⟩, r, hr => by
    subst h1
    rcases List.mem_cons.1 hr with e | e
    · rw [e]; exact h2.len
    · exact h3.lens r e
theorem OwnC.rd {m : Nat} {g : List Ob} {v : V} {xs : List Cst} (h : OwnC m g v xs) {l' : List Ob} (hl : l'.length = m) : ∃ rs, rows (l' ++ g) 3 v = some rs ∧ RdCs (l' ++ g) xs rs := by
  rcases h with ⟨rfl, rfl⟩ | ⟨j, D, fz, anc, rfl, hg, hD, hpre⟩
  · exact ⟨[], rfl, rfl⟩
  · refine ⟨_, ?_, hpre l' hl⟩
    rw [← hl, rows_ref (c := D) (by rw [gxs, hg]; rfl) (by omega), List.drop_zero]
theorem own_cat {l g h : List Ob} {u w : V} {xs ys : List Cst} {rs2 : List (List V)} (ho : OwnC l.length g u xs) (hxl : xs.length ≤ 1048576) (hyl : ys.length ≤ 1048576) (hw : rows (l ++ (g ++ h)) 3 w = some rs2) (hy : RdCs (l ++ (g ++ h)) ys rs2) :
    ∃ g' r, opAppend2 Tryz.prog 32 u w (stL (l ++ (g ++ h))) = some (r, stL (l ++ g')) ∧ ∃ rs, rows (l ++ g') 3 r = some rs ∧ RdCs (l ++ g') (xs ++ ys) rs := by
  have hlen := hy.len
  rcases ho with ⟨rfl, rfl⟩ | ⟨j, D, fz, anc, rfl, hg, hD, hpre⟩
  · cases rs2 with
    | nil =>
      refine ⟨_, _, append_nils0 (P := Tryz.prog) Tryz.underlying32 (by kernel_rfl) hw, [], rfl, by simpa using hy⟩
    | cons r rs =>
      have hap := append_nils (P := Tryz.prog) Tryz.underlying32 (by kernel_rfl) hz66 hw (by simp at hlen; omega)
      simp only [List.append_assoc] at hap
      refine ⟨_, _, hap, r :: rs, ?_, ?_⟩
      · have := rows_new (l := l ++ (g ++ h)) (sz := 3) (rs := r :: rs) hy.lens (fz := 0) (anc := []) (g := [])
        simpa using this
      · have := hy.app (g := [.cells (r :: rs).flatten 0 []])
        simpa using this
  · have hj : j < g.length := (List.getElem?_eq_some_iff.1 hg).1
    have hk : (l ++ (g ++ h))[l.length + j]? = some (.cells D fz anc) := by rw [gxs, List.getElem?_append_left hj]; exact hg
    have hx : RdCs (l ++ (g ++ h)) xs (chunks 3 xs.length D) := by have := (hpre l rfl).app (g := h); simpa using this
    cases rs2 with
    | nil =>
      have hyn : ys = [] := List.eq_nil_of_length_eq_zero (by simpa using hlen.symm)
      subst hyn
      refine ⟨_, _, append_none (P := Tryz.prog) Tryz.underlying32 (by kernel_rfl) hk hD hw, _, ?_, by simpa using hx⟩
      rw [rows_ref (c := D) (by rw [hk]; rfl) (by omega), List.drop_zero]
    | cons r rs =>
      have hap := append_ref (P := Tryz.prog) Tryz.underlying32 (by kernel_rfl) hz66 hk hD hw (by simp at hlen; omega)
      have hfull := full_stale (l := l ++ (g ++ h)) (k := l.length + j) (c := D) (by rw [hk]; rfl)
      rw [sxs] at hap hfull
      rw [List.append_assoc] at hap
      refine ⟨_, _, hap, chunks 3 xs.length D ++ (r :: rs), ?_, ?_⟩
      · have e : (l ++ (g ++ h)).length = (l ++ (g ++ h).set j (.stale D)).length := by simp
        rw [e, ← List.append_assoc, rows_ref (c := D ++ (r :: rs).flatten) (by rw [gx0]; rfl) (by rw [List.length_append, hD, flatten_len 3 _ hy.lens]; simp only [List.length_cons]; omega), List.drop_zero]
        have := chunks_app 3 xs.length (rs.length + 1) D (r :: rs).flatten hD
        rw [this]
        have h2 := chunks_of 3 (r :: rs) hy.lens
        simp only [List.length_cons] at h2
        rw [h2]
      · have h1 := ((hx.cat hy).congr fun i => (hfull i).symm).app (g := [.cells (D ++ (r :: rs).flatten) fz (idOf (l.length + j) :: anc)])
        simpa using h1
end Cm

set_option linter.unusedVariables false
open Go Go.Vm Go.Proofs
namespace Cm
variable [Gl]
structure Plain (memo : Memo) : Prop where
  f5 : memo 5 = none
  f6 : memo 6 = none
  f8 : memo 8 = none
  f11 : memo 11 = none
  f12 : memo 12 = none
  f14 : memo 14 = none
  f15 : memo 15 = none
  f27 : memo 27 = none
  f28 : memo 28 = none
  f40 : memo 40 = none
  f45 : memo 45 = none
  f46 : memo 46 = none
  f47 : memo 47 = none
  f85 : memo 85 = none
  f4 : memo 4 = none
  f7 : ∃ ga, memo 7 = some ga ∧ ga [] = some (.bool true)
theorem long13_false {xs : List Cst} (h : long13 xs = false) : xs.length ≤ 300 ∧ ∀ c ∈ xs, c.bits.length ≤ 300 := by
  simp only [long13, Bool.or_eq_false_iff, decide_eq_false_iff_not, List.any_eq_false, Bool.or_eq_true, decide_eq_true_eq] at h
  refine ⟨by omega, fun c hc => ?_⟩
  have := h.2 c hc
  omega
set_option maxHeartbeats 4000000 in
theorem compose_run {memo : Memo} (hm : Plain memo) {l : List Ob} {x : Ex} {c : List V} {v w : V} {L1 L2 : List Cst} {rs1 rs2 : List (List V)} (hx : RdE l x c) (hv : rows l 3 v = some rs1) (h1 : RdCs l L1 rs1) (hw : rows l 3 w = some rs2) (h2 : RdCs l L2 rs2)
    (hN : nodes x < 4611686018427387904) (n : Nat) (hn : nodes x + 1000000 ≤ n) :
    ∃ g, callN Tryz.prog (memoBase memo) (drawOK Tryz.prog) n 4 [.agg c, v, w] (stL l) = some (.bool true, stL (l ++ g)) := by
  obtain ⟨n, rfl⟩ : ∃ m, n = m + 1 := ⟨n - 1, by omega⟩
  suffices hs : ∃ u S', callN Tryz.prog (memoBase memo) (drawOK Tryz.prog) (n + 1) 4 [.agg c, v, w] (stL l) = some (u, S') ∧ (u = .bool true ∧ ∃ g, S' = stL (l ++ g)) by
    obtain ⟨u, S', h, rfl, g, rfl⟩ := hs; exact ⟨g, h⟩
  refine run_fn hm.f4 Tryz.func4 rfl (by simp [Tryz.f4]) ?_
  have hc8 := hx.len
  obtain ⟨ga, hga, hga2⟩ := hm.f7
  have aw : ∀ (S : St), callN Tryz.prog (memoBase memo) (drawOK Tryz.prog) n 7 [] S = some (.bool true, S) := fun S => callN_memo hga rfl hga2 n
  have hall : over z27 0 c = c := over_all _ _ (by rw [hc8]; rfl)
  refine Ev.seq rfl (Ev.reg' ?_)
  simp (maxSteps := 2000000) only [go_sem, Nat.reduceBEq, Nat.reduceLT, Nat.reduceAdd, Nat.reduceMul, Nat.reduceLeDiff, Nat.reduceEqDiff, decide_true, decide_false, reduceIte, and_true, true_and]
  obtain ⟨g1, hc1⟩ := long8_run hm.f5 hm.f14 hm.f15 (l := l ++ [.cells c 0 [], .cells c 0 []]) (v := .ref 8 (idOf (l.length + 1)) 0 1) (x := x) (c := c) (by rw [rows_ref (c := c) (by rw [gxs]; rfl) (by omega), List.drop_zero]; simp only [chunks]; rw [List.take_of_length_le (by omega)]) hx.app hN n (by omega)
  obtain ⟨g2, hc2⟩ := long13_run hm.f6 (l := l ++ .cells c 0 [] :: .cells c 0 [] :: g1) (rows_app hv) h1.app n (by omega)
  obtain ⟨g3, hc3⟩ := long13_run hm.f6 (l := l ++ .cells c 0 [] :: .cells c 0 [] :: (g1 ++ g2)) (rows_app hw) h2.app n (by omega)
  simp only [List.append_assoc, List.cons_append, List.nil_append] at hc1 hc2 hc3
  refine Ev.seq rfl (Ev.seq rfl (Ev.reg' ?_))
  have fin : ∀ (t : Tm) (g : List Ob), Ev Tryz.prog Tryz.f4.ntmps n (callN Tryz.prog (memoBase memo) (drawOK Tryz.prog) n) (.seq (.region 2 (regOps (fstC (thenC (sndC (fstC (sndC (bodyC Tryz.f4))))))) false) .ret) t (stL (l ++ g)) (onNorm (fun t S => Ev Tryz.prog Tryz.f4.ntmps n (callN Tryz.prog (memoBase memo) (drawOK Tryz.prog) n) (sndC (sndC (bodyC Tryz.f4))) t S (Ret Tryz.prog Tryz.f4 fun u S' => u = .bool true ∧ ∃ g, S' = stL (l ++ g))) (Ret Tryz.prog Tryz.f4 fun u S' => u = .bool true ∧ ∃ g, S' = stL (l ++ g))) := by
    intro t g
    refine Ev.seq rfl (Ev.reg' ?_)
    simp (maxSteps := 2000000) only [go_sem, Nat.reduceBEq, Nat.reduceLT, Nat.reduceAdd, Nat.reduceMul, Nat.reduceLeDiff, Nat.reduceEqDiff, decide_true, decide_false, reduceIte, and_true, true_and, aw, regOps, fstC, thenC, sndC, bodyC, Tryz.f4, Option.getD_some]
    refine Ev.ret ?_
    simp (maxSteps := 2000000) only [go_sem, Nat.reduceBEq, Nat.reduceLT, Nat.reduceAdd, Nat.reduceMul, Nat.reduceLeDiff, Nat.reduceEqDiff, decide_true, decide_false, reduceIte, and_true, true_and]
    refine Ret.tmp rfl ?_
    simp (maxSteps := 2000000) only [go_sem, Nat.reduceBEq, Nat.reduceLT, Nat.reduceAdd, Nat.reduceMul, Nat.reduceLeDiff, Nat.reduceEqDiff, decide_true, decide_false, reduceIte, and_true, true_and]
    exact ⟨g, rfl⟩
  cases hA : long8 x with
  | true =>
    simp (maxSteps := 2000000) only [go_sem, Nat.reduceBEq, Nat.reduceLT, Nat.reduceAdd, Nat.reduceMul, Nat.reduceLeDiff, Nat.reduceEqDiff, decide_true, decide_false, reduceIte, and_true, true_and, hc8, Nat.le_refl, List.take_of_length_le, hall, if_true, hc1, hA]
    refine Ev.cond' ?_
    simp (maxSteps := 2000000) only [go_sem, Nat.reduceBEq, Nat.reduceLT, Nat.reduceAdd, Nat.reduceMul, Nat.reduceLeDiff, Nat.reduceEqDiff, decide_true, decide_false, reduceIte, and_true, true_and]
    exact fin _ _
  | false =>
  cases hB : long13 L1 with
  | true =>
    simp (maxSteps := 2000000) only [go_sem, Nat.reduceBEq, Nat.reduceLT, Nat.reduceAdd, Nat.reduceMul, Nat.reduceLeDiff, Nat.reduceEqDiff, decide_true, decide_false, reduceIte, and_true, true_and, hc8, Nat.le_refl, List.take_of_length_le, hall, if_true, hc1, hA, hc2, hB]
    refine Ev.cond' ?_
    simp (maxSteps := 2000000) only [go_sem, Nat.reduceBEq, Nat.reduceLT, Nat.reduceAdd, Nat.reduceMul, Nat.reduceLeDiff, Nat.reduceEqDiff, decide_true, decide_false, reduceIte, and_true, true_and]
    exact fin _ _
  | false =>
  cases hC : long13 L2 with
  | true =>
    simp (maxSteps := 2000000) only [go_sem, Nat.reduceBEq, Nat.reduceLT, Nat.reduceAdd, Nat.reduceMul, Nat.reduceLeDiff, Nat.reduceEqDiff, decide_true, decide_false, reduceIte, and_true, true_and, hc8, Nat.le_refl, List.take_of_length_le, hall, if_true, hc1, hA, hc2, hB, hc3, hC]
    refine Ev.cond' ?_
    simp (maxSteps := 2000000) only [go_sem, Nat.reduceBEq, Nat.reduceLT, Nat.reduceAdd, Nat.reduceMul, Nat.reduceLeDiff, Nat.reduceEqDiff, decide_true, decide_false, reduceIte, and_true, true_and]
    exact fin _ _
  | false =>
  simp (maxSteps := 2000000) only [go_sem, Nat.reduceBEq, Nat.reduceLT, Nat.reduceAdd, Nat.reduceMul, Nat.reduceLeDiff, Nat.reduceEqDiff, decide_true, decide_false, reduceIte, and_true, true_and, hc8, Nat.le_refl, List.take_of_length_le, hall, if_true, hc1, hA, hc2, hB, hc3, hC, aw, Bool.not_true]
  refine Ev.cond' ?_
  simp (maxSteps := 2000000) only [go_sem, Nat.reduceBEq, Nat.reduceLT, Nat.reduceAdd, Nat.reduceMul, Nat.reduceLeDiff, Nat.reduceEqDiff, decide_true, decide_false, reduceIte, and_true, true_and]
  refine Ev.skip ?_
  simp (maxSteps := 2000000) only [go_sem, Nat.reduceBEq, Nat.reduceLT, Nat.reduceAdd, Nat.reduceMul, Nat.reduceLeDiff, Nat.reduceEqDiff, decide_true, decide_false, reduceIte, and_true, true_and]
  clear fin
  obtain ⟨len1, bit1⟩ := long13_false hB
  obtain ⟨len2, bit2⟩ := long13_false hC
  have hlx : nodes x ≤ 400 ∧ wideS x = false := by
    simp only [long8, Bool.or_eq_false_iff, decide_eq_false_iff_not] at hA
    exact ⟨by omega, hA.2⟩
  obtain ⟨hxn, hxw⟩ := hlx
  generalize hAe : l ++ Ob.cells c 0 [] :: Ob.cells c 0 [] :: (g1 ++ (g2 ++ g3)) = A
  have hk : ∀ X : List Ob, (A ++ X)[l.length]? = some (.cells c 0 []) := fun X => by rw [← hAe, List.append_assoc, gx0]; rfl
  have hk0 : A[l.length]? = some (.cells c 0 []) := by rw [← hAe, gx0]; rfl
  have hxA : RdE A x c := hAe ▸ hx.app
  have hvA : rows A 3 v = some rs1 := hAe ▸ rows_app hv
  have hwA : rows A 3 w = some rs2 := hAe ▸ rows_app hw
  have h1A : RdCs A L1 rs1 := hAe ▸ h1.app
  have h2A : RdCs A L2 rs2 := hAe ▸ h2.app
  clear hc1 hc2 hc3
  have hsn := subst_nodes L1 x
  have hsw := subst_wide bit1 x hxw
  -- the first
  obtain ⟨p1, u1, ga1, ho1⟩ := given_run hm.f8 (l := A) hvA h1A bit1 (by omega) n (by omega)
  obtain ⟨qs1, hu1, hq1⟩ := ho1.rd (l' := A) rfl
  obtain ⟨q1, d1, sb1, rd1⟩ := Subst_run hm.f11 hm.f27 hm.f40 hm.f45 hm.f46 hm.f47 hm.f85 (l := A ++ p1) hxA.app hu1 hq1 bit1 (by omega) hxw (by omega) n (by omega)
  obtain ⟨p2, u2, ga2, ho2⟩ := given_run hm.f8 (l := A ++ (p1 ++ q1)) (rows_app hwA) h2A.app bit2 (by omega) n (by omega)
  obtain ⟨qs2, hu2, hq2⟩ := ho2.rd (l' := A ++ (p1 ++ q1)) rfl
  obtain ⟨q2, d2, sb2, rd2⟩ := Subst_run hm.f11 hm.f27 hm.f40 hm.f45 hm.f46 hm.f47 hm.f85 (l := A ++ (p1 ++ (q1 ++ p2))) (x := subst L1 x) (c := d1) (by have := (rd1 (A ++ p1) rfl).app (g := p2); simpa using this) (by simpa using hu2) (by simpa using hq2) bit2 (by omega) hsw (by omega) n (by omega)
  have rdy := rd2 _ rfl
  have hd2 := rdy.len
  have hd1 := (rd1 _ rfl).len
  simp only [List.append_assoc, List.cons_append, List.nil_append] at sb1 ga2 sb2 rdy
  have hall2 : over z27 0 d2 = d2 := over_all _ _ (by rw [hd2]; rfl)
  refine Ev.seq rfl (Ev.regDX rfl (by kernel_rfl) [(0, 2)] (by kernel_rfl) (fun T Z B R htr p hp => ?_) ?_)
  · have a1 : T 0 3 = .ptr (idOf l.length) 0 := htr.at 0 (by decide) (X := fun t _ => t 3 = .ptr (idOf l.length) 0) (by simp (maxSteps := 2000000) only [go_sem, Nat.reduceBEq, Nat.reduceLT, Nat.reduceAdd, Nat.reduceMul, Nat.reduceLeDiff, Nat.reduceEqDiff, decide_true, decide_false, reduceIte, and_true, true_and, List.take_zero])
    have a3 : Z 2 = stL A := htr.at 2 (by decide) (X := fun _ S => S = stL A) (by simp (maxSteps := 2000000) only [go_sem, Nat.reduceBEq, Nat.reduceLT, Nat.reduceAdd, Nat.reduceMul, Nat.reduceLeDiff, Nat.reduceEqDiff, decide_true, decide_false, reduceIte, and_true, true_and, hk0, hc8, Nat.le_refl, List.take_of_length_le, if_true, List.take_succ_cons])
    have a4 : Z 3 = stL (A ++ p1) := htr.at 3 (by decide) (X := fun _ S => S = stL (A ++ p1)) (by simp (maxSteps := 2000000) only [go_sem, Nat.reduceBEq, Nat.reduceLT, Nat.reduceAdd, Nat.reduceMul, Nat.reduceLeDiff, Nat.reduceEqDiff, decide_true, decide_false, reduceIte, and_true, true_and, hk0, hc8, Nat.le_refl, List.take_of_length_le, if_true, ga1, List.take_succ_cons])
    simp only [List.mem_cons, List.not_mem_nil, or_false] at hp
    subst hp
    refine LookOK.of_load rfl ?_
    simp (maxSteps := 2000000) only [go_sem, Nat.reduceBEq, Nat.reduceLT, Nat.reduceAdd, Nat.reduceMul, Nat.reduceLeDiff, Nat.reduceEqDiff, decide_true, decide_false, reduceIte, and_true, true_and, a1, a3, a4, hk, hk0]
  simp (maxSteps := 2000000) only [go_sem, Nat.reduceBEq, Nat.reduceLT, Nat.reduceAdd, Nat.reduceMul, Nat.reduceLeDiff, Nat.reduceEqDiff, decide_true, decide_false, reduceIte, and_true, true_and, hk0, hc8, Nat.le_refl, List.take_of_length_le, if_true, ga1, sb1, ga2, sb2, hd2, hall2]
  generalize hBe : A ++ (p1 ++ (q1 ++ (p2 ++ (q2 ++ [Ob.cells d2 0 []])))) = B
  have kB : ∀ X : List Ob, (B ++ X)[l.length]? = some (.cells c 0 []) := fun X => by rw [← hBe, List.append_assoc, hk]
  have kB0 : B[l.length]? = some (.cells c 0 []) := by rw [← hBe, hk]
  have kY : ∀ X : List Ob, (B ++ X)[A.length + (p1.length + (q1.length + (p2.length + q2.length)))]? = some (.cells d2 0 []) := fun X => by
    rw [← hBe]; simp (maxSteps := 2000000) only [go_sem, Nat.reduceBEq, Nat.reduceLT, Nat.reduceAdd, Nat.reduceMul, Nat.reduceLeDiff, Nat.reduceEqDiff, decide_true, decide_false, reduceIte, and_true, true_and]
  have rdB : RdE B (subst L2 (subst L1 x)) d2 := by
    rw [← hBe]
    have := rdy.app (g := [.cells d2 0 []])
    simpa using this
  have appB : ∀ {X : List Ob}, A ++ X = B → True := fun _ => trivial
  have hxB : RdE B x c := hBe ▸ hxA.app
  have hvB : rows B 3 v = some rs1 := hBe ▸ rows_app hvA
  have hwB : rows B 3 w = some rs2 := hBe ▸ rows_app hwA
  have h1B : RdCs B L1 rs1 := hBe ▸ h1A.app
  have h2B : RdCs B L2 rs2 := hBe ▸ h2A.app
  -- the second
  obtain ⟨p3, v1, ga3, ho3⟩ := given_run hm.f8 (l := B) hvB h1B bit1 (by omega) n (by omega)
  obtain ⟨p4, v2, ga4, ho4⟩ := given_run hm.f8 (l := B ++ p3) (rows_app hwB) h2B.app bit2 (by omega) n (by omega)
  obtain ⟨qs4, hu4, hq4⟩ := ho4.rd (l' := B ++ p3) rfl
  obtain ⟨g', r, hcat, rs, hrs, hrd⟩ := own_cat (l := B) (g := p3) (h := p4) (w := v2) (ys := L2) ho3 (by omega) (by omega) (by simpa using hu4) (by simpa using hq4)
  obtain ⟨q5, d5, sb5, rd5⟩ := Subst_run hm.f11 hm.f27 hm.f40 hm.f45 hm.f46 hm.f47 hm.f85 (l := B ++ g') hxB.app hrs hrd (fun c hc => by rcases List.mem_append.1 hc with h | h; exact bit1 c h; exact bit2 c h) (by simp; omega) hxw (by omega) n (by omega)
  have rdz := rd5 _ rfl
  have hd5 := rdz.len
  simp only [List.append_assoc, List.cons_append, List.nil_append] at ga4 sb5 rdz
  have hall5 : over z27 0 d5 = d5 := over_all _ _ (by rw [hd5]; rfl)
  refine Ev.seq rfl (Ev.regDX rfl (by kernel_rfl) [(0, 2), (0, 4), (0, 5)] (by kernel_rfl) (fun T Z B' R htr p hp => ?_) ?_)
  · have a1 : T 0 3 = .ptr (idOf l.length) 0 := htr.at 0 (by decide) (X := fun t _ => t 3 = .ptr (idOf l.length) 0) (by simp (maxSteps := 2000000) only [go_sem, Nat.reduceBEq, Nat.reduceLT, Nat.reduceAdd, Nat.reduceMul, Nat.reduceLeDiff, Nat.reduceEqDiff, decide_true, decide_false, reduceIte, and_true, true_and, List.take_zero])
    have a2 : Z 2 = stL B := htr.at 2 (by decide) (X := fun _ S => S = stL B) (by simp (maxSteps := 2000000) only [go_sem, Nat.reduceBEq, Nat.reduceLT, Nat.reduceAdd, Nat.reduceMul, Nat.reduceLeDiff, Nat.reduceEqDiff, decide_true, decide_false, reduceIte, and_true, true_and, kB0, hc8, Nat.le_refl, List.take_of_length_le, if_true, List.take_succ_cons])
    have a3 : Z 3 = stL (B ++ p3) := htr.at 3 (by decide) (X := fun _ S => S = stL (B ++ p3)) (by simp (maxSteps := 2000000) only [go_sem, Nat.reduceBEq, Nat.reduceLT, Nat.reduceAdd, Nat.reduceMul, Nat.reduceLeDiff, Nat.reduceEqDiff, decide_true, decide_false, reduceIte, and_true, true_and, kB0, hc8, Nat.le_refl, List.take_of_length_le, if_true, ga3, List.take_succ_cons])
    have a4 : Z 4 = stL (B ++ p3) := htr.at 4 (by decide) (X := fun _ S => S = stL (B ++ p3)) (by simp (maxSteps := 2000000) only [go_sem, Nat.reduceBEq, Nat.reduceLT, Nat.reduceAdd, Nat.reduceMul, Nat.reduceLeDiff, Nat.reduceEqDiff, decide_true, decide_false, reduceIte, and_true, true_and, kB0, hc8, Nat.le_refl, List.take_of_length_le, if_true, ga3, List.take_succ_cons])
    have a5 : Z 5 = stL (B ++ (p3 ++ p4)) := htr.at 5 (by decide) (X := fun _ S => S = stL (B ++ (p3 ++ p4))) (by simp (maxSteps := 2000000) only [go_sem, Nat.reduceBEq, Nat.reduceLT, Nat.reduceAdd, Nat.reduceMul, Nat.reduceLeDiff, Nat.reduceEqDiff, decide_true, decide_false, reduceIte, and_true, true_and, kB0, hc8, Nat.le_refl, List.take_of_length_le, if_true, ga3, ga4, List.take_succ_cons])
    have a6 : Z 6 = stL (B ++ g') := htr.at 6 (by decide) (X := fun _ S => S = stL (B ++ g')) (by simp (maxSteps := 2000000) only [go_sem, Nat.reduceBEq, Nat.reduceLT, Nat.reduceAdd, Nat.reduceMul, Nat.reduceLeDiff, Nat.reduceEqDiff, decide_true, decide_false, reduceIte, and_true, true_and, kB0, hc8, Nat.le_refl, List.take_of_length_le, if_true, ga3, ga4, hcat, List.take_succ_cons])
    simp only [List.mem_cons, List.not_mem_nil, or_false] at hp
    rcases hp with rfl | rfl | rfl
    · refine LookOK.of_load rfl ?_
      simp (maxSteps := 2000000) only [go_sem, Nat.reduceBEq, Nat.reduceLT, Nat.reduceAdd, Nat.reduceMul, Nat.reduceLeDiff, Nat.reduceEqDiff, decide_true, decide_false, reduceIte, and_true, true_and, a1, a2, a3, kB, kB0]
    · refine LookOK.of_load rfl ?_
      simp (maxSteps := 2000000) only [go_sem, Nat.reduceBEq, Nat.reduceLT, Nat.reduceAdd, Nat.reduceMul, Nat.reduceLeDiff, Nat.reduceEqDiff, decide_true, decide_false, reduceIte, and_true, true_and, a1, a4, a5, kB, kB0]
    · refine LookOK.of_load rfl ?_
      simp (maxSteps := 2000000) only [go_sem, Nat.reduceBEq, Nat.reduceLT, Nat.reduceAdd, Nat.reduceMul, Nat.reduceLeDiff, Nat.reduceEqDiff, decide_true, decide_false, reduceIte, and_true, true_and, a1, a5, a6, kB, kB0]
  simp (maxSteps := 2000000) only [go_sem, Nat.reduceBEq, Nat.reduceLT, Nat.reduceAdd, Nat.reduceMul, Nat.reduceLeDiff, Nat.reduceEqDiff, decide_true, decide_false, reduceIte, and_true, true_and, kB0, hc8, Nat.le_refl, List.take_of_length_le, if_true, ga3, ga4, hcat, sb5, hd5, hall5]
  have hsw2 := subst_wide (L := L1 ++ L2) (fun c hc => by rcases List.mem_append.1 hc with h | h; exact bit1 c h; exact bit2 c h) x hxw
  have hbk := bulk_le _ hsw2
  have hnn := subst_nodes (L1 ++ L2) x
  rw [subst_subst] at rdB
  obtain ⟨g6, his⟩ := is_run hm.f12 hm.f28 _ (subst (L1 ++ L2) x) (Nat.le_refl _) (B ++ (g' ++ (q5 ++ [.cells d5 0 []]))) d2 d5 rdB.app (by have := rdz.app (g := [.cells d5 0 []]); simpa using this) (by omega) n (by omega)
  simp only [List.append_assoc, List.cons_append, List.nil_append] at his
  refine Ev.seq rfl (Ev.reg' ?_)
  simp (maxSteps := 2000000) only [go_sem, Nat.reduceBEq, Nat.reduceLT, Nat.reduceAdd, Nat.reduceMul, Nat.reduceLeDiff, Nat.reduceEqDiff, decide_true, decide_false, reduceIte, and_true, true_and, kY, hd2, hd5, Nat.le_refl, List.take_of_length_le, if_true, his]
  refine Ev.ret (Ret.tmp rfl ?_)
  simp (maxSteps := 2000000) only [go_sem, Nat.reduceBEq, Nat.reduceLT, Nat.reduceAdd, Nat.reduceMul, Nat.reduceLeDiff, Nat.reduceEqDiff, decide_true, decide_false, reduceIte, and_true, true_and]
  refine ⟨.cells c 0 [] :: .cells c 0 [] :: (g1 ++ (g2 ++ g3)) ++ ((p1 ++ (q1 ++ (p2 ++ (q2 ++ [Ob.cells d2 0 []])))) ++ (g' ++ (q5 ++ .cells d5 0 [] :: g6))), ?_⟩
  rw [← hBe, ← hAe]
  simp only [List.append_assoc, List.cons_append, List.nil_append]
end Cm

set_option linter.unusedVariables false
open Go Go.Vm Go.Proofs
namespace Cm
variable [Gl] {H : Type}
open Go.Proofs.YtncjlehibolekaaGreatDoor.Rows (uptoBulk uptoBulkAll)
theorem c73 : Tryz.prog.cellsOf 73 = 1 := by kernel_rfl
theorem c46 : Tryz.prog.cellsOf 46 = 3 := by kernel_rfl
theorem c27 : Tryz.prog.cellsOf 27 = 8 := by kernel_rfl
def tys : List TypeId := [3, 4, 5, 9, 22, 24, 25, 27, 28, 46, 73]
theorem tys_ok : ∀ t ∈ tys, tyOf1 Tryz.prog tys t = true := by
  have h : (tys.all fun t => tyOf1 Tryz.prog tys t) = true := by kernel_rfl
  exact List.all_eq_true.1 h
theorem a4 {n : Nat} {d : DataW H} {c : List V} (h : ArgN Tryz.prog n 4 d c) : ∃ b, c = [.bool b] := by
  cases n with
  | zero => exact h.elim
  | succ n => simp only [ArgN, Tryz.underlying4] at h; obtain ⟨b, _, h⟩ := h; exact ⟨b, h⟩
theorem a9 {n : Nat} {d : DataW H} {c : List V} (h : ArgN Tryz.prog n 9 d c) : ∃ s, c = [.str s] := by
  cases n with
  | zero => exact h.elim
  | succ n => simp only [ArgN, Tryz.underlying9] at h; obtain ⟨b, _, h, _⟩ := h; exact ⟨_, h⟩
theorem a3 {n : Nat} {d : DataW H} {c : List V} (h : ArgN Tryz.prog n 3 d c) : ∃ i, c = [.int .i64 i] := by
  cases n with
  | zero => exact h.elim
  | succ n => simp only [ArgN, Tryz.underlying3] at h; obtain ⟨b, _, h, _⟩ := h; exact ⟨_, h⟩
theorem u8_nat {i : Int} (h : (Lit.int .u8 i).wf = true) : ((i.toNat : Nat) : Int) = i := by
  simp only [Lit.wf, Bool.and_eq_true, decide_eq_true_eq] at h
  have h1 : IntKind.u8.min = 0 := rfl
  omega
theorem a5 {n : Nat} {d : DataW H} {c : List V} (h : ArgN Tryz.prog n 5 d c) : ∃ i : Nat, c = [.int .u8 (i : Int)] := by
  cases n with
  | zero => exact h.elim
  | succ n => simp only [ArgN, Tryz.underlying5] at h; obtain ⟨b, _, h, hw⟩ := h; exact ⟨b.toNat, by rw [u8_nat hw]; exact h⟩
theorem a73 {n : Nat} {d : DataW H} {c : List V} (h : ArgN Tryz.prog n 73 d c) : ∃ i : Nat, c = bitC i := by
  cases n with
  | zero => exact h.elim
  | succ n => simp only [ArgN, Tryz.underlying73] at h; obtain ⟨b, _, h, hw⟩ := h; exact ⟨b.toNat, by rw [bitC, u8_nat hw]; exact h⟩
theorem rows_agg (es : Nat) (rs : List (List V)) : rows [] es (.imm es (rs.map .agg)) = some rs := by
  simp only [rows, if_true, List.map_map]
  congr 1
  induction rs with
  | nil => rfl
  | cons r rs ih => simp only [List.map_cons, ih]; rfl
theorem a22 {n : Nat} {d : DataW H} {c : List V} (h : ArgN Tryz.prog n 22 d c) : ∃ vb, ∃ bits : List Nat, c = [vb] ∧ rows [] 1 vb = some (bits.map bitC) := by
  cases n with
  | zero => exact h.elim
  | succ n =>
    simp only [ArgN, Tryz.underlying22, c73] at h
    rcases h with ⟨_, rfl⟩ | ⟨ds, sp, rs, _, rfl, _, h⟩
    · exact ⟨_, [], rfl, rfl⟩
    · have : ∃ bits : List Nat, rs = bits.map bitC := by
        obtain ⟨z, hz⟩ := All2.lift (Q := fun b r => r = bitC b) (fun d r hr => a73 hr.2) h
        exact ⟨z, hz.map_eq⟩
      obtain ⟨bits, hb⟩ := this
      exact ⟨_, bits, rfl, by rw [rows_agg, hb]⟩
theorem all3_2 {R : Field → DataW H → List V → Prop} {f0 f1 : Field} {ds : List (DataW H)} {rs : List (List V)} (h : All3 R [f0, f1] ds rs) : ∃ d0 d1 r0 r1, ds = [d0, d1] ∧ rs = [r0, r1] ∧ R f0 d0 r0 ∧ R f1 d1 r1 := by
  obtain ⟨_, _, _, _, rfl, rfl, h0, h⟩ := h.cons_inv
  obtain ⟨_, _, _, _, rfl, rfl, h1, h⟩ := h.cons_inv
  obtain ⟨rfl, rfl⟩ := h.nil_inv
  exact ⟨_, _, _, _, rfl, rfl, h0, h1⟩
theorem all3_7 {R : Field → DataW H → List V → Prop} {f0 f1 f2 f3 f4 f5 f6 : Field} {ds : List (DataW H)} {rs : List (List V)} (h : All3 R [f0, f1, f2, f3, f4, f5, f6] ds rs) : ∃ d0 d1 d2 d3 d4 d5 d6 r0 r1 r2 r3 r4 r5 r6, ds = [d0, d1, d2, d3, d4, d5, d6] ∧ rs = [r0, r1, r2, r3, r4, r5, r6] ∧ R f0 d0 r0 ∧ R f1 d1 r1 ∧ R f2 d2 r2 ∧ R f3 d3 r3 ∧ R f4 d4 r4 ∧ R f5 d5 r5 ∧ R f6 d6 r6 := by
  obtain ⟨_, _, _, _, rfl, rfl, h0, h⟩ := h.cons_inv
  obtain ⟨_, _, _, _, rfl, rfl, h1, h⟩ := h.cons_inv
  obtain ⟨_, _, _, _, rfl, rfl, h2, h⟩ := h.cons_inv
  obtain ⟨_, _, _, _, rfl, rfl, h3, h⟩ := h.cons_inv
  obtain ⟨_, _, _, _, rfl, rfl, h4, h⟩ := h.cons_inv
  obtain ⟨_, _, _, _, rfl, rfl, h5, h⟩ := h.cons_inv
  obtain ⟨_, _, _, _, rfl, rfl, h6, h⟩ := h.cons_inv
  obtain ⟨rfl, rfl⟩ := h.nil_inv
  exact ⟨_, _, _, _, _, _, _, _, _, _, _, _, _, _, rfl, rfl, h0, h1, h2, h3, h4, h5, h6⟩
theorem a24 {n : Nat} {d : DataW H} {c : List V} (h : ArgN Tryz.prog n 24 d c) : ∃ vb, ∃ bits : List Nat, ∃ sg, c = [vb, .bool sg] ∧ rows [] 1 vb = some (bits.map bitC) := by
  cases n with
  | zero => exact h.elim
  | succ n =>
    simp only [ArgN, Tryz.underlying24] at h
    obtain ⟨ds, rs, _, rfl, h⟩ := h
    obtain ⟨d0, d1, r0, r1, rfl, rfl, h0, h1⟩ := all3_2 h
    obtain ⟨vb, bits, rfl, hb⟩ := a22 h0
    obtain ⟨sg, rfl⟩ := a4 h1
    exact ⟨vb, bits, sg, rfl, hb⟩
theorem a46 {n : Nat} {d : DataW H} {c : List V} (h : ArgN Tryz.prog n 46 d c) : ∃ x, RdC [] x c := by
  cases n with
  | zero => exact h.elim
  | succ n =>
    simp only [ArgN, Tryz.underlying46] at h
    obtain ⟨ds, rs, _, rfl, h⟩ := h
    obtain ⟨d0, d1, r0, r1, rfl, rfl, h0, h1⟩ := all3_2 h
    obtain ⟨s, rfl⟩ := a9 h0
    obtain ⟨vb, bits, sg, rfl, hb⟩ := a24 h1
    exact ⟨⟨s, bits, sg⟩, vb, rfl, hb⟩
theorem a28L {n : Nat} : ∀ {ds : List (DataW H)} {rs : List (List V)}, All2 (fun d r => r.length = 3 ∧ ArgN Tryz.prog n 46 d r) ds rs → ∃ L, RdCs [] L rs
  | [], [], _ => ⟨[], rfl⟩
  | d :: ds, r :: rs, h => by
    obtain ⟨b, hb⟩ := a46 h.1.2
    obtain ⟨bs, hbs⟩ := a28L h.2
    exact ⟨b :: bs, r, rs, rfl, hb, hbs⟩
  | [], _ :: _, h => h.elim
  | _ :: _, [], h => h.elim
theorem a25L {n : Nat} (rec : ∀ (d : DataW H) (c : List V), ArgN Tryz.prog n 27 d c → ∃ x, RdE [] x c ∧ nodes x ≤ uptoBulk d) : ∀ {ds : List (DataW H)} {rs : List (List V)}, All2 (fun d r => r.length = 8 ∧ ArgN Tryz.prog n 27 d r) ds rs → ∃ args, RdL [] args rs ∧ nodesL args ≤ uptoBulkAll ds
  | [], [], _ => ⟨[], rfl, Nat.zero_le _⟩
  | d :: ds, r :: rs, h => by
    obtain ⟨b, hb, hn⟩ := rec d r h.1.2
    obtain ⟨bs, hbs, hns⟩ := a25L rec h.2
    exact ⟨b :: bs, ⟨r, rs, rfl, hb, hbs⟩, by simp only [nodesL, uptoBulkAll]; omega⟩
  | [], _ :: _, h => h.elim
  | _ :: _, [], h => h.elim
theorem a28 {n : Nat} {d : DataW H} {c : List V} (h : ArgN Tryz.prog n 28 d c) : ∃ v L rs, c = [v] ∧ rows [] 3 v = some rs ∧ RdCs [] L rs := by
  cases n with
  | zero => exact h.elim
  | succ n =>
    simp only [ArgN, Tryz.underlying28, c46] at h
    rcases h with ⟨_, rfl⟩ | ⟨ds, sp, rs, _, rfl, _, h⟩
    · exact ⟨_, [], [], rfl, rfl, rfl⟩
    · have : ∃ L, RdCs [] L rs := a28L h
      obtain ⟨L, hL⟩ := this
      exact ⟨_, L, rs, rfl, rows_agg 3 rs, hL⟩
theorem a27 : ∀ (n : Nat) (d : DataW H) (c : List V), ArgN Tryz.prog n 27 d c → ∃ x, RdE [] x c ∧ nodes x ≤ uptoBulk d
  | 0, d, c, h => h.elim
  | 1, d, c, h => by
    simp only [ArgN, Tryz.underlying27] at h
    obtain ⟨ds, rs, rfl, rfl, h⟩ := h
    obtain ⟨d0, d1, d2, d3, d4, d5, d6, r0, r1, r2, r3, r4, r5, r6, rfl, rfl, h0, h1, h2, h3, h4, h5, h6⟩ := all3_7 h
    exact h0.elim
  | n + 2, d, c, h => by
    rw [ArgN, Tryz.underlying27] at h
    obtain ⟨ds, rs, rfl, rfl, h⟩ := h
    obtain ⟨d0, d1, d2, d3, d4, d5, d6, r0, r1, r2, r3, r4, r5, r6, rfl, rfl, h0, h1, h2, h3, h4, h5, h6⟩ := all3_7 h
    obtain ⟨op, rfl⟩ := a5 h0
    obtain ⟨name, rfl⟩ := a9 h1
    obtain ⟨vb, bits, vs, rfl, hb⟩ := a24 h2
    obtain ⟨sig, rfl⟩ := a3 h4
    obtain ⟨wid, rfl⟩ := a3 h5
    obtain ⟨sg, rfl⟩ := a4 h6
    have : ∃ va args rs, r3 = [va] ∧ rows [] 8 va = some rs ∧ RdL [] args rs ∧ nodesL args ≤ uptoBulk d3 := by
      replace h3 : ArgN Tryz.prog (n + 1) 25 d3 r3 := h3
      rw [ArgN, Tryz.underlying25] at h3
      simp only [c27] at h3
      rcases h3 with ⟨_, rfl⟩ | ⟨ds, sp, rs, rfl, rfl, _, h⟩
      · exact ⟨_, [], [], rfl, rfl, rfl, Nat.zero_le _⟩
      · have := a25L (a27 n) h
        obtain ⟨args, ha, hn⟩ := this
        exact ⟨_, args, rs, rfl, rows_agg 8 rs, ha, by simp only [uptoBulk]; omega⟩
    obtain ⟨va, args, rs, rfl, hr, hl, hn⟩ := this
    exact ⟨.mk op name bits vs args sig wid sg, ⟨vb, va, rs, rfl, hb, hr, hl⟩, by simp only [nodes, uptoBulk, uptoBulkAll]; omega⟩
end Cm

