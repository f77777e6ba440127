/- A run under the evaluator, part 2: no statement of its own. -/
import Derived.Test.YtfcofhdjhlfoeaaGreatVm6
import Derived.Test.YtfcofhdjhlfoeaaGreatRunO1
set_option autoImplicit false
set_option maxRecDepth 100000
set_option linter.unusedSectionVars false
set_option linter.unusedVariables false
set_option linter.unusedSimpArgs false
set_option linter.unusedVariables false
open Go Go.Vm Go.Proofs
namespace Bt
variable [Gl]
theorem shr1u {e : TypeId} {x : Nat} : binV Tryz.prog .shr e (.int .i64 (x : Int)) (.int .u64 1) = some (.int .i64 ((x / 2 : Nat) : Int)) := by
  have := bin_shr (P := Tryz.prog) e .i64 .u64 (x : Int) 1
  rw [show ((1 : Nat) : Int) = 1 from rfl] at this
  rw [this]; congr 2
  show ((x : Int)).fdiv (2 ^ (min 1 64)) = _
  simp [Int.fdiv_eq_ediv_of_nonneg]
theorem own_new (l : List Ob) (es : Nat) : Own l.length (l ++ [.cells [] 0 []]) es (.ref es (idOf l.length) 0 0) [] (some l.length) := ⟨nofun, [], rfl, by rw [gx0]; rfl, Nat.le_refl _, fun a ha => absurd ha List.not_mem_nil⟩
theorem hz32 : Tryz.prog.bytesOf 32 ≤ 2 ^ 16 ∧ (zeroOf Tryz.prog 32).map List.length = some 1 := of_decide_eq_true bytes32
theorem hz4 : Tryz.prog.bytesOf 4 ≤ 2 ^ 16 ∧ (zeroOf Tryz.prog 4).map List.length = some 1 := of_decide_eq_true bytes4
theorem cl35_run {l : List Ob} {y : V} {rs : List (List V)} (hy : rows l 2 y = some rs) (hr : ∀ r ∈ rs, r.length = 2) (hb : rs.length ≤ 16777216) (n : Nat) (hn : 1 ≤ n) :
    ∃ u g o, callS Tryz.prog Sp n 35 [y] (stL l) = some (u, stL (l ++ g)) ∧ u.isCell = true ∧ Own l.length (l ++ g) 2 u rs o ∧ ∀ k, o = some k → l.length ≤ k := by
  obtain ⟨n, rfl⟩ : ∃ m, n = m + 1 := ⟨n - 1, by omega⟩
  suffices hs : ∃ u S', callS Tryz.prog Sp (n + 1) 35 [y] (stL l) = some (u, S') ∧ (∃ g o, S' = stL (l ++ g) ∧ u.isCell = true ∧ Own l.length (l ++ g) 2 u rs o ∧ ∀ k, o = some k → l.length ≤ k) by
    obtain ⟨u, S', h, g, o, rfl, h2⟩ := hs; exact ⟨u, g, o, h, h2⟩
  refine runS (fun v h => h) Tryz.func35 rfl (by simp [Tryz.f35]) ?_
  refine Ev.seq rfl (Ev.reg' ?_)
  simp (maxSteps := 2000000) only [go_sem, Nat.reduceBEq, Nat.reduceLT, Nat.reduceAdd, Nat.reduceMul, Nat.reduceLeDiff, Nat.reduceEqDiff, decide_true, decide_false, reduceIte, and_true, true_and]
  refine Ev.seq rfl (Ev.seq rfl (Ev.reg' ?_))
  rcases rows_nils hy with ⟨rfl, h2, rfl⟩ | h2
  · simp (maxSteps := 2000000) only [go_sem, Nat.reduceBEq, Nat.reduceLT, Nat.reduceAdd, Nat.reduceMul, Nat.reduceLeDiff, Nat.reduceEqDiff, decide_true, decide_false, reduceIte, and_true, true_and, h2]
    refine Ev.cond' ?_
    simp (maxSteps := 2000000) only [go_sem, Nat.reduceBEq, Nat.reduceLT, Nat.reduceAdd, Nat.reduceMul, Nat.reduceLeDiff, Nat.reduceEqDiff, decide_true, decide_false, reduceIte, and_true, true_and]
    refine Ev.seq rfl (Ev.reg' ?_)
    simp (maxSteps := 2000000) only [go_sem, Nat.reduceBEq, Nat.reduceLT, Nat.reduceAdd, Nat.reduceMul, Nat.reduceLeDiff, Nat.reduceEqDiff, decide_true, decide_false, reduceIte, and_true, true_and]
    refine Ev.ret ?_
    simp (maxSteps := 2000000) only [go_sem, Nat.reduceBEq, Nat.reduceLT, Nat.reduceAdd, Nat.reduceMul, Nat.reduceLeDiff, Nat.reduceEqDiff, decide_true, decide_false, reduceIte, and_true, true_and]
    refine Ret.tmp rfl ?_
    simp (maxSteps := 2000000) only [go_sem, Nat.reduceBEq, Nat.reduceLT, Nat.reduceAdd, Nat.reduceMul, Nat.reduceLeDiff, Nat.reduceEqDiff, decide_true, decide_false, reduceIte, and_true, true_and]
    exact ⟨[], none, by simp, Own.nil .., nofun⟩
  simp (maxSteps := 2000000) only [go_sem, Nat.reduceBEq, Nat.reduceLT, Nat.reduceAdd, Nat.reduceMul, Nat.reduceLeDiff, Nat.reduceEqDiff, decide_true, decide_false, reduceIte, and_true, true_and, h2]
  refine Ev.cond' ?_
  simp (maxSteps := 2000000) only [go_sem, Nat.reduceBEq, Nat.reduceLT, Nat.reduceAdd, Nat.reduceMul, Nat.reduceLeDiff, Nat.reduceEqDiff, decide_true, decide_false, reduceIte, and_true, true_and]
  refine Ev.skip ?_
  simp (maxSteps := 2000000) only [go_sem, Nat.reduceBEq, Nat.reduceLT, Nat.reduceAdd, Nat.reduceMul, Nat.reduceLeDiff, Nat.reduceEqDiff, decide_true, decide_false, reduceIte, and_true, true_and]
  obtain ⟨u, l', o', hap, huc, hO, hlen, ho', hk⟩ := (own_new l 2).fill (P := Tryz.prog) Tryz.underlying65 sz103 hz103 (by simp) (rows_app hy) hr hb
  obtain ⟨g, rfl⟩ := app_of (l := l) (l' := l') fun i hi => by
    rw [hk i (by intro e; injection e with e; omega) (by simp; omega), List.getElem?_append_left hi]
  refine Ev.seq rfl (Ev.reg' ?_)
  simp (maxSteps := 2000000) only [go_sem, Nat.reduceBEq, Nat.reduceLT, Nat.reduceAdd, Nat.reduceMul, Nat.reduceLeDiff, Nat.reduceEqDiff, decide_true, decide_false, reduceIte, and_true, true_and, Nat.zero_mul, Nat.zero_le, if_true, hap]
  refine Ev.ret (Ret.tmp rfl ?_)
  simp (maxSteps := 2000000) only [go_sem, Nat.reduceBEq, Nat.reduceLT, Nat.reduceAdd, Nat.reduceMul, Nat.reduceLeDiff, Nat.reduceEqDiff, decide_true, decide_false, reduceIte, and_true, true_and]
  refine ⟨g, o', rfl, huc, hO, fun k hk => ?_⟩
  subst hk
  rcases ho' with e | e
  · injection e with e; omega
  · injection e with e; rw [List.length_append] at e; omega

theorem cl36_run {l : List Ob} {y : V} {rs : List (List V)} (hy : rows l 1 y = some rs) (hr : ∀ r ∈ rs, r.length = 1) (hb : rs.length ≤ 16777216) (n : Nat) (hn : 1 ≤ n) :
    ∃ u g o, callS Tryz.prog Sp n 36 [y] (stL l) = some (u, stL (l ++ g)) ∧ u.isCell = true ∧ Own l.length (l ++ g) 1 u rs o ∧ ∀ k, o = some k → l.length ≤ k := by
  obtain ⟨n, rfl⟩ : ∃ m, n = m + 1 := ⟨n - 1, by omega⟩
  suffices hs : ∃ u S', callS Tryz.prog Sp (n + 1) 36 [y] (stL l) = some (u, S') ∧ (∃ g o, S' = stL (l ++ g) ∧ u.isCell = true ∧ Own l.length (l ++ g) 1 u rs o ∧ ∀ k, o = some k → l.length ≤ k) by
    obtain ⟨u, S', h, g, o, rfl, h2⟩ := hs; exact ⟨u, g, o, h, h2⟩
  refine runS (fun v h => h) Tryz.func36 rfl (by simp [Tryz.f36]) ?_
  refine Ev.seq rfl (Ev.reg' ?_)
  simp (maxSteps := 2000000) only [go_sem, Nat.reduceBEq, Nat.reduceLT, Nat.reduceAdd, Nat.reduceMul, Nat.reduceLeDiff, Nat.reduceEqDiff, decide_true, decide_false, reduceIte, and_true, true_and]
  refine Ev.seq rfl (Ev.seq rfl (Ev.reg' ?_))
  rcases rows_nils hy with ⟨rfl, h2, rfl⟩ | h2
  · simp (maxSteps := 2000000) only [go_sem, Nat.reduceBEq, Nat.reduceLT, Nat.reduceAdd, Nat.reduceMul, Nat.reduceLeDiff, Nat.reduceEqDiff, decide_true, decide_false, reduceIte, and_true, true_and, h2]
    refine Ev.cond' ?_
    simp (maxSteps := 2000000) only [go_sem, Nat.reduceBEq, Nat.reduceLT, Nat.reduceAdd, Nat.reduceMul, Nat.reduceLeDiff, Nat.reduceEqDiff, decide_true, decide_false, reduceIte, and_true, true_and]
    refine Ev.seq rfl (Ev.reg' ?_)
    simp (maxSteps := 2000000) only [go_sem, Nat.reduceBEq, Nat.reduceLT, Nat.reduceAdd, Nat.reduceMul, Nat.reduceLeDiff, Nat.reduceEqDiff, decide_true, decide_false, reduceIte, and_true, true_and]
    refine Ev.ret ?_
    simp (maxSteps := 2000000) only [go_sem, Nat.reduceBEq, Nat.reduceLT, Nat.reduceAdd, Nat.reduceMul, Nat.reduceLeDiff, Nat.reduceEqDiff, decide_true, decide_false, reduceIte, and_true, true_and]
    refine Ret.tmp rfl ?_
    simp (maxSteps := 2000000) only [go_sem, Nat.reduceBEq, Nat.reduceLT, Nat.reduceAdd, Nat.reduceMul, Nat.reduceLeDiff, Nat.reduceEqDiff, decide_true, decide_false, reduceIte, and_true, true_and]
    exact ⟨[], none, by simp, Own.nil .., nofun⟩
  simp (maxSteps := 2000000) only [go_sem, Nat.reduceBEq, Nat.reduceLT, Nat.reduceAdd, Nat.reduceMul, Nat.reduceLeDiff, Nat.reduceEqDiff, decide_true, decide_false, reduceIte, and_true, true_and, h2]
  refine Ev.cond' ?_
  simp (maxSteps := 2000000) only [go_sem, Nat.reduceBEq, Nat.reduceLT, Nat.reduceAdd, Nat.reduceMul, Nat.reduceLeDiff, Nat.reduceEqDiff, decide_true, decide_false, reduceIte, and_true, true_and]
  refine Ev.skip ?_
  simp (maxSteps := 2000000) only [go_sem, Nat.reduceBEq, Nat.reduceLT, Nat.reduceAdd, Nat.reduceMul, Nat.reduceLeDiff, Nat.reduceEqDiff, decide_true, decide_false, reduceIte, and_true, true_and]
  obtain ⟨u, l', o', hap, huc, hO, hlen, ho', hk⟩ := (own_new l 1).fill (P := Tryz.prog) Tryz.underlying29 sz32 hz32 (by simp) (rows_app hy) hr hb
  obtain ⟨g, rfl⟩ := app_of (l := l) (l' := l') fun i hi => by
    rw [hk i (by intro e; injection e with e; omega) (by simp; omega), List.getElem?_append_left hi]
  refine Ev.seq rfl (Ev.reg' ?_)
  simp (maxSteps := 2000000) only [go_sem, Nat.reduceBEq, Nat.reduceLT, Nat.reduceAdd, Nat.reduceMul, Nat.reduceLeDiff, Nat.reduceEqDiff, decide_true, decide_false, reduceIte, and_true, true_and, Nat.zero_mul, Nat.zero_le, if_true, hap]
  refine Ev.ret (Ret.tmp rfl ?_)
  simp (maxSteps := 2000000) only [go_sem, Nat.reduceBEq, Nat.reduceLT, Nat.reduceAdd, Nat.reduceMul, Nat.reduceLeDiff, Nat.reduceEqDiff, decide_true, decide_false, reduceIte, and_true, true_and]
  refine ⟨g, o', rfl, huc, hO, fun k hk => ?_⟩
  subst hk
  rcases ho' with e | e
  · injection e with e; omega
  · injection e with e; rw [List.length_append] at e; omega

theorem cl34_run (l : List Ob) (n : Nat) (hn : 1 ≤ n) : callS Tryz.prog Sp n 34 [.nils] (stL l) = some (.nils, stL l) := by
  obtain ⟨n, rfl⟩ : ∃ m, n = m + 1 := ⟨n - 1, by omega⟩
  suffices hs : ∃ u S', callS Tryz.prog Sp (n + 1) 34 [.nils] (stL l) = some (u, S') ∧ (u = .nils ∧ S' = stL l) by
    obtain ⟨_, _, h, rfl, rfl⟩ := hs; exact h
  refine runS (fun v h => h) Tryz.func34 rfl (by simp [Tryz.f34]) ?_
  have h2 : isNils .nils = some true := rfl
  refine Ev.seq rfl (Ev.reg' ?_)
  simp (maxSteps := 2000000) only [go_sem, Nat.reduceBEq, Nat.reduceLT, Nat.reduceAdd, Nat.reduceMul, Nat.reduceLeDiff, Nat.reduceEqDiff, decide_true, decide_false, reduceIte, and_true, true_and]
  refine Ev.seq rfl (Ev.seq rfl (Ev.reg' ?_))
  simp (maxSteps := 2000000) only [go_sem, Nat.reduceBEq, Nat.reduceLT, Nat.reduceAdd, Nat.reduceMul, Nat.reduceLeDiff, Nat.reduceEqDiff, decide_true, decide_false, reduceIte, and_true, true_and, h2]
  refine Ev.cond' ?_
  simp (maxSteps := 2000000) only [go_sem, Nat.reduceBEq, Nat.reduceLT, Nat.reduceAdd, Nat.reduceMul, Nat.reduceLeDiff, Nat.reduceEqDiff, decide_true, decide_false, reduceIte, and_true, true_and]
  refine Ev.seq rfl (Ev.reg' ?_)
  simp (maxSteps := 2000000) only [go_sem, Nat.reduceBEq, Nat.reduceLT, Nat.reduceAdd, Nat.reduceMul, Nat.reduceLeDiff, Nat.reduceEqDiff, decide_true, decide_false, reduceIte, and_true, true_and]
  refine Ev.ret ?_
  simp (maxSteps := 2000000) only [go_sem, Nat.reduceBEq, Nat.reduceLT, Nat.reduceAdd, Nat.reduceMul, Nat.reduceLeDiff, Nat.reduceEqDiff, decide_true, decide_false, reduceIte, and_true, true_and]
  refine Ret.tmp rfl ?_
  simp (maxSteps := 2000000) only [go_sem, Nat.reduceBEq, Nat.reduceLT, Nat.reduceAdd, Nat.reduceMul, Nat.reduceLeDiff, Nat.reduceEqDiff, decide_true, decide_false, reduceIte, and_true, true_and]
theorem LookOK.of_lenSl {P : Program} {call : CallF} {ops : Array Oper} {T : Nat → Tm} {Z : Nat → St} {B : Nat → Bool} {p : Nat × Nat} {d : Option Nat} {x : Operand} {e el : TypeId} {ty : TypeId} {pos : String} {af : Array Edge} {g : Option (Nat × Bool)} (he : P.underlying e = some (.slice el)) (hi : ops[p.1]? = some ⟨d, .call ⟨.builtin .len, #[x], #[e]⟩, ty, pos, af, g⟩) : LookOK P call ops T Z B p := by
  intro oi oc h1 _ _ _ v
  rw [hi] at h1; injection h1 with h1; subst h1
  rw [e_lenSl he, e_lenSl he]
  cases lenOf (opd (T p.1) x) <;> simp [lenR]
abbrev boolC (b : Bool) : List V := [.bool b]
abbrev gC (va vo : V) : List V := [.int .i64 8, .nils, va, vo]
section
variable {L : List Ob} {va vo : V}
theorem first_run (h1 : va.isCell = true) (h2 : vo.isCell = true) (n : Nat) (hn : 1 ≤ n) : callS Tryz.prog Sp n 75 [.agg (gC va vo)] (stL L) = some (.int .i64 9, stL (L ++ [.cells (gC va vo) 0 []])) := by
  obtain ⟨n, rfl⟩ : ∃ m, n = m + 1 := ⟨n - 1, by omega⟩
  suffices hs : ∃ u S', callS Tryz.prog Sp (n + 1) 75 [.agg (gC va vo)] (stL L) = some (u, S') ∧ (u = .int .i64 9 ∧ S' = stL (L ++ [.cells (gC va vo) 0 []])) by
    obtain ⟨_, _, h, rfl, rfl⟩ := hs; exact h
  refine runS (fun v h => h) Tryz.func75 rfl (by simp [Tryz.f75]) ?_
  have w1 : IntKind.i64.wrap (1 + 8) = 9 := rfl
  have w2 : IntKind.i64.wrap (9 + ((0 : Nat) : Int)) = 9 := rfl
  have l0 : lenOf .nils = some 0 := rfl
  refine Ev.seq rfl (Ev.reg' ?_)
  simp (maxSteps := 2000000) only [go_sem, Nat.reduceBEq, Nat.reduceLT, Nat.reduceAdd, Nat.reduceMul, Nat.reduceLeDiff, Nat.reduceEqDiff, decide_true, decide_false, reduceIte, and_true, true_and]
  refine Ev.seq rfl (Ev.reg' ?_)
  simp (maxSteps := 2000000) only [go_sem, Nat.reduceBEq, Nat.reduceLT, Nat.reduceAdd, Nat.reduceMul, Nat.reduceLeDiff, Nat.reduceEqDiff, decide_true, decide_false, reduceIte, and_true, true_and, w1, w2, l0]
  refine Ev.ret (Ret.tmp rfl ?_)
  simp (maxSteps := 2000000) only [go_sem, Nat.reduceBEq, Nat.reduceLT, Nat.reduceAdd, Nat.reduceMul, Nat.reduceLeDiff, Nat.reduceEqDiff, decide_true, decide_false, reduceIte, and_true, true_and]
theorem size_run (h1 : va.isCell = true) (h2 : vo.isCell = true) {c : Nat} (hc : lenOf va = some c) (hb : c ≤ 1000) (n : Nat) (hn : 2 ≤ n) : callS Tryz.prog Sp n 73 [.agg (gC va vo)] (stL L) = some (.int .i64 ((9 + c : Nat) : Int), stL (L ++ [.cells (gC va vo) 0 [], .cells (gC va vo) 0 []])) := by
  obtain ⟨n, rfl⟩ : ∃ m, n = m + 1 := ⟨n - 1, by omega⟩
  suffices hs : ∃ u S', callS Tryz.prog Sp (n + 1) 73 [.agg (gC va vo)] (stL L) = some (u, S') ∧ (u = .int .i64 ((9 + c : Nat) : Int) ∧ S' = stL (L ++ [.cells (gC va vo) 0 [], .cells (gC va vo) 0 []])) by
    obtain ⟨_, _, h, rfl, rfl⟩ := hs; exact h
  refine runS (fun v h => h) Tryz.func73 rfl (by simp [Tryz.f73]) ?_
  have r1 := first_run (L := L ++ [.cells (gC va vo) 0 []]) h1 h2 n (by omega)
  have w3 : IntKind.i64.wrap (9 + (c : Int)) = ((9 + c : Nat) : Int) := by rw [IntWalk.i64_in _ (by omega)]; omega
  simp only [List.append_assoc, List.cons_append, List.nil_append] at r1
  refine Ev.seq rfl (Ev.reg' ?_)
  simp (maxSteps := 2000000) only [go_sem, Nat.reduceBEq, Nat.reduceLT, Nat.reduceAdd, Nat.reduceMul, Nat.reduceLeDiff, Nat.reduceEqDiff, decide_true, decide_false, reduceIte, and_true, true_and]
  refine Ev.seq rfl (Ev.regDX rfl (by kernel_rfl) [(3, 1), (4, 1)] (by kernel_rfl) (fun T' Z B R htr p hp => ?_) ?_)
  · have a1 : T' 3 5 = .ptr (idOf L.length) 2 := htr.at 3 (by decide) (X := fun t _ => t 5 = .ptr (idOf L.length) 2) (by simp (maxSteps := 2000000) only [go_sem, Nat.reduceBEq, Nat.reduceLT, Nat.reduceAdd, Nat.reduceMul, Nat.reduceLeDiff, Nat.reduceEqDiff, decide_true, decide_false, reduceIte, and_true, true_and, r1])
    have a2 : cellsAt (Z 1) (.ptr (idOf L.length) 2) = some [va, vo] := htr.at 1 (by decide) (X := fun _ S => cellsAt S (.ptr (idOf L.length) 2) = some [va, vo]) (by simp (maxSteps := 2000000) only [go_sem, Nat.reduceBEq, Nat.reduceLT, Nat.reduceAdd, Nat.reduceMul, Nat.reduceLeDiff, Nat.reduceEqDiff, decide_true, decide_false, reduceIte, and_true, true_and, r1])
    have a3 : cellsAt (Z 2) (.ptr (idOf L.length) 2) = some [va, vo] := htr.at 2 (by decide) (X := fun _ S => cellsAt S (.ptr (idOf L.length) 2) = some [va, vo]) (by simp (maxSteps := 2000000) only [go_sem, Nat.reduceBEq, Nat.reduceLT, Nat.reduceAdd, Nat.reduceMul, Nat.reduceLeDiff, Nat.reduceEqDiff, decide_true, decide_false, reduceIte, and_true, true_and, r1])
    simp only [List.mem_cons, List.not_mem_nil, or_false] at hp
    rcases hp with rfl | rfl
    · refine LookOK.of_load rfl ?_
      show cellsAt (Z 1) (T' 3 5) = cellsAt (Z 2) (T' 3 5)
      rw [a1, a2, a3]
    · exact LookOK.of_lenSl Tryz.underlying65 rfl
  simp (maxSteps := 2000000) only [go_sem, Nat.reduceBEq, Nat.reduceLT, Nat.reduceAdd, Nat.reduceMul, Nat.reduceLeDiff, Nat.reduceEqDiff, decide_true, decide_false, reduceIte, and_true, true_and, r1, hc, w3]
  refine Ev.ret (Ret.tmp rfl ?_)
  simp (maxSteps := 2000000) only [go_sem, Nat.reduceBEq, Nat.reduceLT, Nat.reduceAdd, Nat.reduceMul, Nat.reduceLeDiff, Nat.reduceEqDiff, decide_true, decide_false, reduceIte, and_true, true_and]
theorem within_run {x c : Nat} (h : x < 2 * c) (hc : c ≤ 1000) (n : Nat) (hn : 1 ≤ n) : callS Tryz.prog Sp n 74 [.int .i64 (x : Int), .int .i64 (c : Int)] (stL L) = some (.bool true, stL L) := by
  obtain ⟨n, rfl⟩ : ∃ m, n = m + 1 := ⟨n - 1, by omega⟩
  suffices hs : ∃ u S', callS Tryz.prog Sp (n + 1) 74 [.int .i64 (x : Int), .int .i64 (c : Int)] (stL L) = some (u, S') ∧ (u = .bool true ∧ S' = stL L) by
    obtain ⟨_, _, h, rfl, rfl⟩ := hs; exact h
  refine runS (fun v h => h) Tryz.func74 rfl (by simp [Tryz.f74]) ?_
  have b0 : (0 : Int) ≤ (x : Int) := by omega
  have w1 : IntKind.i64.wrap (2 * (c : Int)) = ((2 * c : Nat) : Int) := by rw [IntWalk.i64_in _ (by omega)]; omega
  have b1 : (x : Int) < ((2 * c : Nat) : Int) := by omega
  refine Ev.seq rfl (Ev.reg' ?_)
  simp (maxSteps := 2000000) only [go_sem, Nat.reduceBEq, Nat.reduceLT, Nat.reduceAdd, Nat.reduceMul, Nat.reduceLeDiff, Nat.reduceEqDiff, decide_true, decide_false, reduceIte, and_true, true_and]
  refine Ev.seq rfl (Ev.reg' ?_)
  simp (maxSteps := 2000000) only [go_sem, Nat.reduceBEq, Nat.reduceLT, Nat.reduceAdd, Nat.reduceMul, Nat.reduceLeDiff, Nat.reduceEqDiff, decide_true, decide_false, reduceIte, and_true, true_and, b0, w1, b1]
  refine Ev.ret (Ret.tmp rfl ?_)
  simp (maxSteps := 2000000) only [go_sem, Nat.reduceBEq, Nat.reduceLT, Nat.reduceAdd, Nat.reduceMul, Nat.reduceLeDiff, Nat.reduceEqDiff, decide_true, decide_false, reduceIte, and_true, true_and]
theorem of_run {v : V} {vs : List Bool} (hv : rows L 1 v = some (vs.map boolC)) {x : Nat} (hx : x / 2 < vs.length) (hb : x < 256) (n : Nat) (hn : 1 ≤ n) : callS Tryz.prog Sp n 77 [v, .int .i64 (x : Int)] (stL L) = some (.bool (of vs x), stL L) := by
  obtain ⟨n, rfl⟩ : ∃ m, n = m + 1 := ⟨n - 1, by omega⟩
  suffices hs : ∃ u S', callS Tryz.prog Sp (n + 1) 77 [v, .int .i64 (x : Int)] (stL L) = some (u, S') ∧ (u = .bool (of vs x) ∧ S' = stL L) by
    obtain ⟨_, _, h, rfl, rfl⟩ := hs; exact h
  refine runS (fun v h => h) Tryz.func77 rfl (by simp [Tryz.f77]) ?_
  obtain ⟨a, ra, ha1, ha2⟩ := rows_idx hv (r := boolC vs[x / 2]) (j := x / 2) (by rw [List.getElem?_map, List.getElem?_eq_getElem hx]; rfl) .i64
  have q1 : (((x % 2 : Nat) : Int) == 1) = (x % 2 == 1) := by rw [show (1 : Int) = ((1 : Nat) : Int) from rfl, ieq]; rfl
  have e : of vs x = !(vs[x / 2] == (x % 2 == 1)) := by
    unfold of
    rw [List.getD_eq_getElem?_getD, List.getElem?_eq_getElem hx]; rfl
  refine Ev.seq rfl (Ev.reg' ?_)
  simp (maxSteps := 2000000) only [go_sem, Nat.reduceBEq, Nat.reduceLT, Nat.reduceAdd, Nat.reduceMul, Nat.reduceLeDiff, Nat.reduceEqDiff, decide_true, decide_false, reduceIte, and_true, true_and]
  refine Ev.seq rfl (Ev.reg' ?_)
  simp (maxSteps := 2000000) only [go_sem, Nat.reduceBEq, Nat.reduceLT, Nat.reduceAdd, Nat.reduceMul, Nat.reduceLeDiff, Nat.reduceEqDiff, decide_true, decide_false, reduceIte, and_true, true_and, shr1, shr1u, and1 hb, ha1, ha2, q1]
  refine Ev.ret (Ret.tmp rfl ?_)
  simp (maxSteps := 2000000) only [go_sem, Nat.reduceBEq, Nat.reduceLT, Nat.reduceAdd, Nat.reduceMul, Nat.reduceLeDiff, Nat.reduceEqDiff, decide_true, decide_false, reduceIte, and_true, true_and, e]
end
end Bt

set_option linter.unusedVariables false
open Go Go.Vm Go.Proofs
namespace Bt
variable [Gl]
/-- The store behind L with the box of the graph at its end. -/
def Bx (L M : List Ob) (c : List V) : Prop := (∀ i, i < L.length → M[i]? = L[i]?) ∧ M[L.length]? = some (.cells c 0 [])
section
variable {L M : List Ob} {c : List V}
theorem Bx.mk0 (L : List Ob) (c : List V) : Bx L (L ++ [.cells c 0 []]) c := ⟨fun i hi => List.getElem?_append_left hi, by rw [gx0]; rfl⟩
theorem Bx.lt (h : Bx L M c) : L.length < M.length := glt h.2
theorem Bx.ext (h : Bx L M c) (X : List Ob) : Bx L (M ++ X) c := ⟨fun i hi => by rw [List.getElem?_append_left (by have := h.lt; omega)]; exact h.1 i hi, by rw [List.getElem?_append_left h.lt]; exact h.2⟩
theorem Bx.rows (h : Bx L M c) {e : Nat} {v : V} {rs : List (List V)} (hr : rows L e v = some rs) : Vm.rows M e v = some rs := by
  obtain ⟨g, rfl⟩ := app_of h.1
  exact rows_app hr
theorem Bx.app (h : Bx L M c) : ∃ g, M = L ++ g := app_of h.1
end
section
variable {L : List Ob} {va vo : V} {A : List (Nat × Nat)} {xs : List Nat}
theorem check_run (ha : rows L 2 va = some (A.map keyC)) (ho : rows L 1 vo = some (xs.map litC)) (hG : Good 9 A) (hA : A.length ≤ 60) (hx : ∀ x ∈ xs, x < 2 * (9 + A.length)) (hl : xs.length ≤ 100) (n : Nat) (hn : 300 ≤ n) :
    ∃ g, callS Tryz.prog Sp n 37 [.agg (gC va vo)] (stL L) = some (.int .i64 0, stL (L ++ g)) := by
  obtain ⟨n, rfl⟩ : ∃ m, n = m + 1 := ⟨n - 1, by omega⟩
  suffices hs : ∃ u S', callS Tryz.prog Sp (n + 1) 37 [.agg (gC va vo)] (stL L) = some (u, S') ∧ (u = .int .i64 0 ∧ ∃ M, S' = stL M ∧ Bx L M (gC va vo)) by
    obtain ⟨_, _, h, rfl, M, rfl, hM⟩ := hs
    obtain ⟨g, rfl⟩ := hM.app
    exact ⟨g, h⟩
  refine runS (fun v h => h) Tryz.func37 rfl (by simp [Tryz.f37]) ?_
  have h1 := rows_cell ha
  have h2 := rows_cell ho
  have la : lenOf va = some A.length := by simpa using rows_len ha
  have lo : lenOf vo = some xs.length := by simpa using rows_len ho
  have l0 : lenOf .nils = some 0 := rfl
  have sr : ∀ M, callS Tryz.prog Sp n 73 [.agg (gC va vo)] (stL M) = some (.int .i64 ((9 + A.length : Nat) : Int), stL (M ++ [.cells (gC va vo) 0 [], .cells (gC va vo) 0 []])) := fun M => size_run h1 h2 la (by omega) n (by omega)
  have fr : ∀ M, callS Tryz.prog Sp n 75 [.agg (gC va vo)] (stL M) = some (.int .i64 9, stL (M ++ [.cells (gC va vo) 0 []])) := fun M => first_run h1 h2 n (by omega)
  have c8 : ¬ ((8 : Int) < 0) := by omega
  have c8' : ¬ ((8 : Int) > 4096) := by omega
  have cA : ¬ (((9 + A.length : Nat) : Int) > 4096) := by omega
  have cx : ¬ (((xs.length : Nat) : Int) > 4096) := by omega
  have b0 := Bx.mk0 L (gC va vo)
  have g0 := b0.2
  refine Ev.seq rfl (Ev.reg' ?_)
  simp (maxSteps := 2000000) only [go_sem, Nat.reduceBEq, Nat.reduceLT, Nat.reduceAdd, Nat.reduceMul, Nat.reduceLeDiff, Nat.reduceEqDiff, decide_true, decide_false, reduceIte, and_true, true_and]
  refine Ev.seq rfl (Ev.block (Ev.seq rfl (Ev.reg' ?_)))
  simp (maxSteps := 2000000) only [go_sem, Nat.reduceBEq, Nat.reduceLT, Nat.reduceAdd, Nat.reduceMul, Nat.reduceLeDiff, Nat.reduceEqDiff, decide_true, decide_false, reduceIte, and_true, true_and, g0, c8]
  refine Ev.cond' ?_
  simp (maxSteps := 2000000) only [go_sem, Nat.reduceBEq, Nat.reduceLT, Nat.reduceAdd, Nat.reduceMul, Nat.reduceLeDiff, Nat.reduceEqDiff, decide_true, decide_false, reduceIte, and_true, true_and]
  refine Ev.seq rfl (Ev.reg' ?_)
  have g0' : ∀ X, (L ++ [Ob.cells (gC va vo) 0 []] ++ X)[L.length]? = some (.cells (gC va vo) 0 []) := fun X => (b0.ext X).2
  simp only [List.append_assoc, List.cons_append, List.nil_append] at g0'
  simp (maxSteps := 2000000) only [go_sem, Nat.reduceBEq, Nat.reduceLT, Nat.reduceAdd, Nat.reduceMul, Nat.reduceLeDiff, Nat.reduceEqDiff, decide_true, decide_false, reduceIte, and_true, true_and, g0, g0', c8', sr, cA, lo, cx]
  refine Ev.cond' ?_
  simp (maxSteps := 2000000) only [go_sem, Nat.reduceBEq, Nat.reduceLT, Nat.reduceAdd, Nat.reduceMul, Nat.reduceLeDiff, Nat.reduceEqDiff, decide_true, decide_false, reduceIte, and_true, true_and]
  refine Ev.skip ?_
  simp (maxSteps := 2000000) only [go_sem, Nat.reduceBEq, Nat.reduceLT, Nat.reduceAdd, Nat.reduceMul, Nat.reduceLeDiff, Nat.reduceEqDiff, decide_true, decide_false, reduceIte, and_true, true_and]
  have b1 := b0.ext [.cells (gC va vo) 0 [], .cells (gC va vo) 0 []]
  simp only [List.append_assoc, List.cons_append, List.nil_append] at b1
  have g1 := b1.2
  refine Ev.seq rfl (Ev.reg' ?_)
  simp (maxSteps := 2000000) only [go_sem, Nat.reduceBEq, Nat.reduceLT, Nat.reduceAdd, Nat.reduceMul, Nat.reduceLeDiff, Nat.reduceEqDiff, decide_true, decide_false, reduceIte, and_true, true_and]
  refine Ev.seq rfl (Ev.seq rfl (Ev.reg' ?_))
  simp (maxSteps := 2000000) only [go_sem, Nat.reduceBEq, Nat.reduceLT, Nat.reduceAdd, Nat.reduceMul, Nat.reduceLeDiff, Nat.reduceEqDiff, decide_true, decide_false, reduceIte, and_true, true_and, g1, la]
  refine Ev.block (Ev.loop (fun q t S => t 1 = .ptr (idOf L.length) 0 ∧ t 3 = .fn 74 [] [] ∧ t 31 = va ∧ t 32 = .int .i64 (A.length : Int) ∧ ∃ M, S = stL M ∧ Bx L M (gC va vo) ∧ ∃ j : Nat, t 33 = .int .i64 (j : Int) ∧ j + q = A.length) A.length (by omega) ?_ ?_)
  · simp (maxSteps := 2000000) only [go_sem, Nat.reduceBEq, Nat.reduceLT, Nat.reduceAdd, Nat.reduceMul, Nat.reduceLeDiff, Nat.reduceEqDiff, decide_true, decide_false, reduceIte, and_true, true_and]
    exact ⟨_, rfl, b1, 0, rfl, by omega⟩
  intro q t S ⟨i1, i3, i31, i32, M, iS, hB, j, i33, hjq⟩
  subst iS
  refine Ev.seq rfl (Ev.reg' ?_)
  simp (maxSteps := 2000000) only [go_sem, Nat.reduceBEq, Nat.reduceLT, Nat.reduceAdd, Nat.reduceMul, Nat.reduceLeDiff, Nat.reduceEqDiff, decide_true, decide_false, reduceIte, and_true, true_and, i32, i33]
  refine Ev.seq rfl (Ev.cond' ?_)
  simp (maxSteps := 2000000) only [go_sem, Nat.reduceBEq, Nat.reduceLT, Nat.reduceAdd, Nat.reduceMul, Nat.reduceLeDiff, Nat.reduceEqDiff, decide_true, decide_false, reduceIte, and_true, true_and]
  by_cases hj : (j : Int) < (A.length : Int)
  · have hj' : j < A.length := by exact_mod_cast hj
    have hxj : A[j]? = some A[j] := List.getElem?_eq_getElem hj'
    obtain ⟨q1, q2⟩ := good_get hG hxj
    obtain ⟨a, ra, ha1, ha2⟩ := rows_idx (hB.rows ha) (r := keyC A[j]) (j := j) (by rw [List.getElem?_map, hxj]; rfl) .i64
    simp only [keyC] at ha2
    have w1 : IntKind.i64.wrap (9 + (j : Int)) = ((9 + j : Nat) : Int) := by rw [IntWalk.i64_in _ (by omega)]; omega
    have wi1 : ∀ M, callS Tryz.prog Sp n 74 [.int .i64 ((A[j].1 : Nat) : Int), .int .i64 ((9 + j : Nat) : Int)] (stL M) = some (.bool true, stL M) := fun M => within_run (by omega) (by omega) n (by omega)
    have wi2 : ∀ M, callS Tryz.prog Sp n 74 [.int .i64 ((A[j].2 : Nat) : Int), .int .i64 ((9 + j : Nat) : Int)] (stL M) = some (.bool true, stL M) := fun M => within_run (by omega) (by omega) n (by omega)
    have b2 := hB.ext [.cells [.int .i64 ((A[j].1 : Nat) : Int), .int .i64 ((A[j].2 : Nat) : Int)] 0 []]
    have g2 := b2.2
    have b3 := b2.ext [.cells (gC va vo) 0 []]
    simp only [List.append_assoc, List.cons_append, List.nil_append] at b3
    simp only [hj, decide_true, wpC_true]
    refine Ev.skip ?_
    simp (maxSteps := 2000000) only [go_sem, Nat.reduceBEq, Nat.reduceLT, Nat.reduceAdd, Nat.reduceMul, Nat.reduceLeDiff, Nat.reduceEqDiff, decide_true, decide_false, reduceIte, and_true, true_and]
    have rp : repl 2 [V.int .i64 0] = [.int .i64 0, .int .i64 0] := rfl
    refine Ev.seq rfl (Ev.block (Ev.seq rfl (Ev.reg' ?_)))
    simp (maxSteps := 2000000) only [go_sem, Nat.reduceBEq, Nat.reduceLT, Nat.reduceAdd, Nat.reduceMul, Nat.reduceLeDiff, Nat.reduceEqDiff, decide_true, decide_false, reduceIte, and_true, true_and, i31, i33, ha1, ha2, rp, over, Nat.zero_le, Nat.le_refl]
    refine Ev.seq rfl (Ev.reg' ?_)
    simp (maxSteps := 2000000) only [go_sem, Nat.reduceBEq, Nat.reduceLT, Nat.reduceAdd, Nat.reduceMul, Nat.reduceLeDiff, Nat.reduceEqDiff, decide_true, decide_false, reduceIte, and_true, true_and, i1, g2, fr, w1]
    refine Ev.seq rfl (Ev.reg' ?_)
    simp (maxSteps := 2000000) only [go_sem, Nat.reduceBEq, Nat.reduceLT, Nat.reduceAdd, Nat.reduceMul, Nat.reduceLeDiff, Nat.reduceEqDiff, decide_true, decide_false, reduceIte, and_true, true_and, i3, wi1, wi2, Bool.not_true]
    refine Ev.cond' ?_
    simp (maxSteps := 2000000) only [go_sem, Nat.reduceBEq, Nat.reduceLT, Nat.reduceAdd, Nat.reduceMul, Nat.reduceLeDiff, Nat.reduceEqDiff, decide_true, decide_false, reduceIte, and_true, true_and]
    refine Ev.skip ?_
    simp (maxSteps := 2000000) only [go_sem, Nat.reduceBEq, Nat.reduceLT, Nat.reduceAdd, Nat.reduceMul, Nat.reduceLeDiff, Nat.reduceEqDiff, decide_true, decide_false, reduceIte, and_true, true_and]
    refine Ev.reg' ?_
    simp (maxSteps := 2000000) only [go_sem, Nat.reduceBEq, Nat.reduceLT, Nat.reduceAdd, Nat.reduceMul, Nat.reduceLeDiff, Nat.reduceEqDiff, decide_true, decide_false, reduceIte, and_true, true_and, i33]
    exact ⟨q - 1, by omega, i1, i3, i31, i32, _, rfl, b3, j + 1, by rw [IntWalk.i64_in _ (by omega)]; rfl, by omega⟩
  simp only [hj, decide_false, wpC_false]
  refine Ev.exit ?_
  simp (maxSteps := 2000000) only [go_sem, Nat.reduceBEq, Nat.reduceLT, Nat.reduceAdd, Nat.reduceMul, Nat.reduceLeDiff, Nat.reduceEqDiff, decide_true, decide_false, reduceIte, and_true, true_and]
  have g3 := hB.2
  refine Ev.seq rfl (Ev.seq rfl (Ev.reg' ?_))
  simp (maxSteps := 2000000) only [go_sem, Nat.reduceBEq, Nat.reduceLT, Nat.reduceAdd, Nat.reduceMul, Nat.reduceLeDiff, Nat.reduceEqDiff, decide_true, decide_false, reduceIte, and_true, true_and, i1, g3, l0]
  have z0 : ¬ ((0 : Int) < ((0 : Nat) : Int)) := by omega
  refine Ev.block (Ev.loop (fun q t S => t 1 = .ptr (idOf L.length) 0 ∧ t 3 = .fn 74 [] [] ∧ t 59 = .int .i64 ((0 : Nat) : Int) ∧ t 60 = .int .i64 0 ∧ S = stL M) 0 (by omega) ?_ ?_)
  · simp (maxSteps := 2000000) only [go_sem, Nat.reduceBEq, Nat.reduceLT, Nat.reduceAdd, Nat.reduceMul, Nat.reduceLeDiff, Nat.reduceEqDiff, decide_true, decide_false, reduceIte, and_true, true_and]
    exact ⟨i1, i3⟩
  intro q t S ⟨i1, i3, i59, i60, iS⟩
  subst iS
  refine Ev.seq rfl (Ev.reg' ?_)
  simp (maxSteps := 2000000) only [go_sem, Nat.reduceBEq, Nat.reduceLT, Nat.reduceAdd, Nat.reduceMul, Nat.reduceLeDiff, Nat.reduceEqDiff, decide_true, decide_false, reduceIte, and_true, true_and, i59, i60, z0]
  refine Ev.seq rfl (Ev.cond' ?_)
  simp (maxSteps := 2000000) only [go_sem, Nat.reduceBEq, Nat.reduceLT, Nat.reduceAdd, Nat.reduceMul, Nat.reduceLeDiff, Nat.reduceEqDiff, decide_true, decide_false, reduceIte, and_true, true_and]
  refine Ev.exit ?_
  simp (maxSteps := 2000000) only [go_sem, Nat.reduceBEq, Nat.reduceLT, Nat.reduceAdd, Nat.reduceMul, Nat.reduceLeDiff, Nat.reduceEqDiff, decide_true, decide_false, reduceIte, and_true, true_and]
  refine Ev.seq rfl (Ev.seq rfl (Ev.reg' ?_))
  simp (maxSteps := 2000000) only [go_sem, Nat.reduceBEq, Nat.reduceLT, Nat.reduceAdd, Nat.reduceMul, Nat.reduceLeDiff, Nat.reduceEqDiff, decide_true, decide_false, reduceIte, and_true, true_and, i1, g3, lo]
  refine Ev.block (Ev.loop (fun q t S => t 1 = .ptr (idOf L.length) 0 ∧ t 3 = .fn 74 [] [] ∧ t 78 = vo ∧ t 79 = .int .i64 (xs.length : Int) ∧ ∃ M, S = stL M ∧ Bx L M (gC va vo) ∧ ∃ j : Nat, t 80 = .int .i64 (j : Int) ∧ j + q = xs.length) xs.length (by omega) ?_ ?_)
  · simp (maxSteps := 2000000) only [go_sem, Nat.reduceBEq, Nat.reduceLT, Nat.reduceAdd, Nat.reduceMul, Nat.reduceLeDiff, Nat.reduceEqDiff, decide_true, decide_false, reduceIte, and_true, true_and]
    exact ⟨i1, i3, M, rfl, hB, 0, rfl, by omega⟩
  clear hB g3 hjq hj i33 j i31 i32 i59 i60
  clear M
  intro q t S ⟨i1, i3, i78, i79, M, iS, hB, j, i80, hjq⟩
  subst iS
  refine Ev.seq rfl (Ev.reg' ?_)
  simp (maxSteps := 2000000) only [go_sem, Nat.reduceBEq, Nat.reduceLT, Nat.reduceAdd, Nat.reduceMul, Nat.reduceLeDiff, Nat.reduceEqDiff, decide_true, decide_false, reduceIte, and_true, true_and, i79, i80]
  refine Ev.seq rfl (Ev.cond' ?_)
  simp (maxSteps := 2000000) only [go_sem, Nat.reduceBEq, Nat.reduceLT, Nat.reduceAdd, Nat.reduceMul, Nat.reduceLeDiff, Nat.reduceEqDiff, decide_true, decide_false, reduceIte, and_true, true_and]
  by_cases hj : (j : Int) < (xs.length : Int)
  · have hj' : j < xs.length := by exact_mod_cast hj
    have hxj : xs[j]? = some xs[j] := List.getElem?_eq_getElem hj'
    have hxb := hx xs[j] (List.getElem_mem hj')
    obtain ⟨a, ra, ha1, ha2⟩ := rows_idx (hB.rows ho) (r := litC xs[j]) (j := j) (by rw [List.getElem?_map, hxj]; rfl) .i64
    have wi1 : ∀ M, callS Tryz.prog Sp n 74 [.int .i64 ((xs[j] : Nat) : Int), .int .i64 ((9 + A.length : Nat) : Int)] (stL M) = some (.bool true, stL M) := fun M => within_run (by omega) (by omega) n (by omega)
    have g2 := hB.2
    have b3 := hB.ext [.cells (gC va vo) 0 [], .cells (gC va vo) 0 []]
    simp only [hj, decide_true, wpC_true]
    refine Ev.skip ?_
    simp (maxSteps := 2000000) only [go_sem, Nat.reduceBEq, Nat.reduceLT, Nat.reduceAdd, Nat.reduceMul, Nat.reduceLeDiff, Nat.reduceEqDiff, decide_true, decide_false, reduceIte, and_true, true_and]
    refine Ev.seq rfl (Ev.block (Ev.seq rfl (Ev.reg' ?_)))
    simp (maxSteps := 2000000) only [go_sem, Nat.reduceBEq, Nat.reduceLT, Nat.reduceAdd, Nat.reduceMul, Nat.reduceLeDiff, Nat.reduceEqDiff, decide_true, decide_false, reduceIte, and_true, true_and, i78, i80, ha1, ha2]
    refine Ev.seq rfl (Ev.reg' ?_)
    simp (maxSteps := 2000000) only [go_sem, Nat.reduceBEq, Nat.reduceLT, Nat.reduceAdd, Nat.reduceMul, Nat.reduceLeDiff, Nat.reduceEqDiff, decide_true, decide_false, reduceIte, and_true, true_and, i1, i3, g2, sr, wi1, Bool.not_true]
    refine Ev.cond' ?_
    simp (maxSteps := 2000000) only [go_sem, Nat.reduceBEq, Nat.reduceLT, Nat.reduceAdd, Nat.reduceMul, Nat.reduceLeDiff, Nat.reduceEqDiff, decide_true, decide_false, reduceIte, and_true, true_and]
    refine Ev.skip ?_
    simp (maxSteps := 2000000) only [go_sem, Nat.reduceBEq, Nat.reduceLT, Nat.reduceAdd, Nat.reduceMul, Nat.reduceLeDiff, Nat.reduceEqDiff, decide_true, decide_false, reduceIte, and_true, true_and]
    refine Ev.reg' ?_
    simp (maxSteps := 2000000) only [go_sem, Nat.reduceBEq, Nat.reduceLT, Nat.reduceAdd, Nat.reduceMul, Nat.reduceLeDiff, Nat.reduceEqDiff, decide_true, decide_false, reduceIte, and_true, true_and, i80]
    exact ⟨q - 1, by omega, i1, i3, i78, i79, _, rfl, b3, j + 1, by rw [IntWalk.i64_in _ (by omega)]; rfl, by omega⟩
  simp only [hj, decide_false, wpC_false]
  refine Ev.exit ?_
  simp (maxSteps := 2000000) only [go_sem, Nat.reduceBEq, Nat.reduceLT, Nat.reduceAdd, Nat.reduceMul, Nat.reduceLeDiff, Nat.reduceEqDiff, decide_true, decide_false, reduceIte, and_true, true_and]
  refine Ev.seq rfl (Ev.reg' ?_)
  simp (maxSteps := 2000000) only [go_sem, Nat.reduceBEq, Nat.reduceLT, Nat.reduceAdd, Nat.reduceMul, Nat.reduceLeDiff, Nat.reduceEqDiff, decide_true, decide_false, reduceIte, and_true, true_and]
  refine Ev.ret (Ret.tmp rfl ?_)
  simp (maxSteps := 2000000) only [go_sem, Nat.reduceBEq, Nat.reduceLT, Nat.reduceAdd, Nat.reduceMul, Nat.reduceLeDiff, Nat.reduceEqDiff, decide_true, decide_false, reduceIte, and_true, true_and]
  exact ⟨M, rfl, hB⟩
end
end Bt

set_option linter.unusedVariables false
open Go Go.Vm Go.Proofs
namespace Bt
variable [Gl]
theorem mk158 (n : Nat) (l : List Ob) (h1 : 1 ≤ n) (h : n ≤ 16777216) : opMakeSlice Tryz.prog 158 (.int .i64 1) (.int .i64 (n : Int)) (stL l) = some (.ref 1 (idOf l.length) 0 1, stL (l ++ [.cells [.bool false] 0 []])) := by
  have hb := hz4.1
  have a1 : asIdx (.int .i64 1) = some 1 := rfl
  simp only [opMakeSlice, Tryz.underlying158, zero4, sz4, asIdx_nat, a1]
  rw [if_pos ⟨h1, h, hb, rfl⟩, opRow_stL, repl_one]
theorem boolC_len (rs : List Bool) : ∀ r ∈ rs.map boolC, r.length = 1 := by
  intro r hr
  obtain ⟨b, _, rfl⟩ := List.mem_map.1 hr
  rfl
theorem flat_bool : ∀ rs : List Bool, (rs.map boolC).flatten.length = rs.length
  | [] => rfl
  | b :: rs => by simp only [List.map_cons, List.flatten_cons, List.length_append, flat_bool rs, List.length_cons]; simp; omega
section
variable {L : List Ob} {va vo : V} {A : List (Nat × Nat)} {xs : List Nat}
theorem all_run (ha : rows L 2 va = some (A.map keyC)) (ho : rows L 1 vo = some (xs.map litC)) (hG : Good 9 A) (hA : A.length ≤ 60) {vi : V} {bs : List Bool} (hb : bs.length = 8) (hi : rows L 1 vi = some (bs.map boolC)) (n : Nat) (hn : 300 ≤ n) :
    ∃ g v, callS Tryz.prog Sp n 76 [.agg (gC va vo), vi, .nils] (stL L) = some (v, stL (L ++ g)) ∧ rows (L ++ g) 1 v = some ((vals (false :: bs) A).map boolC) := by
  obtain ⟨n, rfl⟩ : ∃ m, n = m + 1 := ⟨n - 1, by omega⟩
  suffices hs : ∃ u S', callS Tryz.prog Sp (n + 1) 76 [.agg (gC va vo), vi, .nils] (stL L) = some (u, S') ∧ ∃ M, S' = stL M ∧ Bx L M (gC va vo) ∧ rows M 1 u = some ((vals (false :: bs) A).map boolC) by
    obtain ⟨u, _, h, M, rfl, hM, hr⟩ := hs
    obtain ⟨g, rfl⟩ := hM.app
    exact ⟨g, u, h, hr⟩
  refine runS (fun v h => h) Tryz.func76 rfl (by simp [Tryz.f76]) ?_
  have h1 := rows_cell ha
  have h2 := rows_cell ho
  have la : lenOf va = some A.length := by simpa using rows_len ha
  have sr : ∀ M, callS Tryz.prog Sp n 73 [.agg (gC va vo)] (stL M) = some (.int .i64 ((9 + A.length : Nat) : Int), stL (M ++ [.cells (gC va vo) 0 [], .cells (gC va vo) 0 []])) := fun M => size_run h1 h2 la (by omega) n (by omega)
  have b0 := Bx.mk0 L (gC va vo)
  have g0 := b0.2
  have b1 := b0.ext [.cells (gC va vo) 0 [], .cells (gC va vo) 0 []]
  have mk := mk158 (9 + A.length) (L ++ [.cells (gC va vo) 0 []] ++ [.cells (gC va vo) 0 [], .cells (gC va vo) 0 []]) (by omega) (by omega)
  simp only [List.append_assoc, List.cons_append, List.nil_append] at b1 mk
  have e3 : (L ++ [Ob.cells (gC va vo) 0 [], .cells (gC va vo) 0 [], .cells (gC va vo) 0 []]).length = L.length + 3 := by simp
  rw [e3] at mk
  have b2 := b1.ext [.cells [.bool false] 0 []]
  simp only [List.append_assoc, List.cons_append, List.nil_append] at b2
  have m3 : (L ++ [Ob.cells (gC va vo) 0 [], .cells (gC va vo) 0 [], .cells (gC va vo) 0 [], .cells [.bool false] 0 []])[L.length + 3]? = some (.cells [.bool false] 0 []) := by rw [gxs]; rfl
  refine Ev.seq rfl (Ev.reg' ?_)
  simp (maxSteps := 2000000) only [go_sem, Nat.reduceBEq, Nat.reduceLT, Nat.reduceAdd, Nat.reduceMul, Nat.reduceLeDiff, Nat.reduceEqDiff, decide_true, decide_false, reduceIte, and_true, true_and]
  refine Ev.seq rfl (Ev.reg' ?_)
  simp (maxSteps := 2000000) only [go_sem, Nat.reduceBEq, Nat.reduceLT, Nat.reduceAdd, Nat.reduceMul, Nat.reduceLeDiff, Nat.reduceEqDiff, decide_true, decide_false, reduceIte, and_true, true_and, g0, sr, mk]
  clear b0 g0 b1 mk e3
  generalize (L ++ [Ob.cells (gC va vo) 0 [], .cells (gC va vo) 0 [], .cells (gC va vo) 0 [], .cells [.bool false] 0 []]) = M at b2 m3
  have hbi := b2.rows hi
  obtain ⟨c, r, rfl⟩ : ∃ c r, bs = c :: r := by
    cases bs with
    | nil => cases hb
    | cons c r => exact ⟨c, r, rfl⟩
  simp only [List.length_cons] at hb
  have ap := append_ref (P := Tryz.prog) Tryz.underlying158 sz4 hz4 (l := M) (k := L.length + 3) (n := 1) (c := [.bool false]) m3 rfl hbi (by simp; omega)
  obtain ⟨fl, efl⟩ : ∃ fl, fl = [.bool false] ++ (boolC c :: r.map boolC).flatten := ⟨_, rfl⟩
  rw [List.length_map, show r.length = 7 by omega, ← efl] at ap
  have lfl : fl.length = 9 * 1 := by have := flat_bool r; rw [efl]; simp only [List.length_append, List.flatten_cons, List.length_cons, List.length_nil, this]; omega
  have hm3 : L.length + 3 < M.length := glt m3
  have b3 : Bx L (M.set (L.length + 3) (.stale [.bool false]) ++ [.cells fl 0 [idOf (L.length + 3)]]) (gC va vo) := by
    refine ⟨fun i hi => ?_, ?_⟩
    · rw [List.getElem?_append_left (by simp; omega), List.getElem?_set_ne (by omega)]; exact b2.1 i hi
    · rw [List.getElem?_append_left (by simp; omega), List.getElem?_set_ne (by omega)]; exact b2.2
  have ow : Own (L.length + 1) (M.set (L.length + 3) (.stale [.bool false]) ++ [.cells fl 0 [idOf (L.length + 3)]]) 1 (.ref 1 (idOf M.length) 0 9) ((vals (false :: c :: r) (A.take 0)).map boolC) (some M.length) := by
    refine ⟨boolC_len _, [idOf (L.length + 3)], ?_, ?_, by omega, fun a ha => ⟨_, by simpa using ha, by omega, hm3⟩⟩
    · simp only [List.take_zero, vals, List.length_map, List.length_cons, show r.length = 7 by omega]
    · rw [List.getElem?_append_right (by simp), efl]; simp [vals]
  have an := append_none (P := Tryz.prog) Tryz.underlying158 sz4 (l := M.set (L.length + 3) (.stale [.bool false]) ++ [.cells fl 0 [idOf (L.length + 3)]]) (k := M.length) (n := 9) (y := .nils) (fz := 0) (c := fl) (anc := [idOf (L.length + 3)]) (by rw [List.getElem?_append_right (by simp)]; simp) lfl rfl
  refine Ev.seq rfl (Ev.reg' ?_)
  simp only [Nat.reduceAdd] at ap
  simp (maxSteps := 2000000) only [go_sem, Nat.reduceBEq, Nat.reduceLT, Nat.reduceAdd, Nat.reduceMul, Nat.reduceLeDiff, Nat.reduceEqDiff, decide_true, decide_false, reduceIte, and_true, true_and, ap, an]
  have g3 := b3.2
  refine Ev.seq rfl (Ev.seq rfl (Ev.reg' ?_))
  simp (maxSteps := 2000000) only [go_sem, Nat.reduceBEq, Nat.reduceLT, Nat.reduceAdd, Nat.reduceMul, Nat.reduceLeDiff, Nat.reduceEqDiff, decide_true, decide_false, reduceIte, and_true, true_and, g3, la]
  generalize (M.set (L.length + 3) (.stale [.bool false]) ++ [.cells fl 0 [idOf (L.length + 3)]]) = M2 at b3 ow g3
  refine Ev.block (Ev.loop (fun q t S => t 3 = .ptr (idOf L.length) 0 ∧ t 19 = va ∧ t 20 = .int .i64 (A.length : Int) ∧ ∃ M o, S = stL M ∧ Bx L M (gC va vo) ∧ ∃ j : Nat, t 21 = .int .i64 (j : Int) ∧ j + q = A.length ∧ Own (L.length + 1) M 1 (t 7) ((vals (false :: c :: r) (A.take j)).map boolC) o) A.length (by omega) ?_ ?_)
  · simp (maxSteps := 2000000) only [go_sem, Nat.reduceBEq, Nat.reduceLT, Nat.reduceAdd, Nat.reduceMul, Nat.reduceLeDiff, Nat.reduceEqDiff, decide_true, decide_false, reduceIte, and_true, true_and]
    exact ⟨M2, _, rfl, b3, 0, rfl, by omega, ow⟩
  clear ow b3 g3 M2 an hm3 lfl efl ap fl hbi m3 b2 M
  intro q t S ⟨i3, i19, i20, M, o, iS, hB, j, i21, hjq, hO⟩
  subst iS
  obtain ⟨v, ev⟩ : ∃ v, v = t 7 := ⟨_, rfl⟩
  rw [← ev] at hO
  have i7 := ev.symm
  refine Ev.seq rfl (Ev.reg' ?_)
  simp (maxSteps := 2000000) only [go_sem, Nat.reduceBEq, Nat.reduceLT, Nat.reduceAdd, Nat.reduceMul, Nat.reduceLeDiff, Nat.reduceEqDiff, decide_true, decide_false, reduceIte, and_true, true_and, i20, i21]
  refine Ev.seq rfl (Ev.cond' ?_)
  simp (maxSteps := 2000000) only [go_sem, Nat.reduceBEq, Nat.reduceLT, Nat.reduceAdd, Nat.reduceMul, Nat.reduceLeDiff, Nat.reduceEqDiff, decide_true, decide_false, reduceIte, and_true, true_and]
  by_cases hj : (j : Int) < (A.length : Int)
  · have hj' : j < A.length := by exact_mod_cast hj
    have hxj : A[j]? = some A[j] := List.getElem?_eq_getElem hj'
    obtain ⟨q1, q2⟩ := good_get hG hxj
    obtain ⟨a, ra, ha1, ha2⟩ := rows_idx (hB.rows ha) (r := keyC A[j]) (j := j) (by rw [List.getElem?_map, hxj]; rfl) .i64
    simp only [keyC] at ha2
    have b2 := hB.ext [.cells (keyC A[j]) 0 []]
    have O2 : Own (L.length + 1) (M ++ [.cells (keyC A[j]) 0 []]) 1 v ((vals (false :: c :: r) (A.take j)).map boolC) o := hO.keep fun k hk => by subst hk; rw [List.getElem?_append_left hO.lt]
    have mk2 : (M ++ [.cells (keyC A[j]) 0 []])[M.length]? = some (.cells (keyC A[j]) 0 []) := by rw [gx0]; rfl
    simp only [hj, decide_true, wpC_true]
    refine Ev.skip ?_
    simp (maxSteps := 2000000) only [go_sem, Nat.reduceBEq, Nat.reduceLT, Nat.reduceAdd, Nat.reduceMul, Nat.reduceLeDiff, Nat.reduceEqDiff, decide_true, decide_false, reduceIte, and_true, true_and]
    have rp : repl 2 [V.int .i64 0] = [.int .i64 0, .int .i64 0] := rfl
    refine Ev.seq rfl (Ev.block (Ev.seq rfl (Ev.reg' ?_)))
    simp (maxSteps := 2000000) only [go_sem, Nat.reduceBEq, Nat.reduceLT, Nat.reduceAdd, Nat.reduceMul, Nat.reduceLeDiff, Nat.reduceEqDiff, decide_true, decide_false, reduceIte, and_true, true_and, i19, i21, ha1, ha2, rp, over, Nat.zero_le, Nat.le_refl]
    simp only [keyC] at b2 O2 mk2
    generalize (M ++ [Ob.cells [V.int .i64 ((A[j].1 : Nat) : Int), V.int .i64 ((A[j].2 : Nat) : Int)] 0 []]) = M2 at b2 O2 mk2
    have hlv : (vals (false :: c :: r) (A.take j)).length = 9 + j := by rw [vals_len, List.length_take]; simp only [List.length_cons]; omega
    have hlr := O2.rows
    have of1 := of_run hlr (x := A[j].1) (by omega) (by omega) n (by omega)
    have of2 := of_run hlr (x := A[j].2) (by omega) (by omega) n (by omega)
    have hb3 := b2.ext [.cells (boolC (of (vals (false :: c :: r) (A.take j)) A[j].1 && of (vals (false :: c :: r) (A.take j)) A[j].2)) 0 []]
    have O3 : Own (L.length + 1) (M2 ++ [.cells (boolC (of (vals (false :: c :: r) (A.take j)) A[j].1 && of (vals (false :: c :: r) (A.take j)) A[j].2)) 0 []]) 1 v ((vals (false :: c :: r) (A.take j)).map boolC) o := O2.keep fun k hk => by subst hk; rw [List.getElem?_append_left O2.lt]
    obtain ⟨u, M3, hap, huc, hO3, hlen, hkp⟩ := O3.push (P := Tryz.prog) Tryz.underlying158 sz4 hz4 (by have := hb3.lt; omega) (y := .ref 1 (idOf M2.length) 0 1) (r := boolC (of (vals (false :: c :: r) (A.take j)) A[j].1 && of (vals (false :: c :: r) (A.take j)) A[j].2)) (by rw [rows_ref (c := boolC (of (vals (false :: c :: r) (A.take j)) A[j].1 && of (vals (false :: c :: r) (A.take j)) A[j].2)) (by rw [gx0]; rfl) (by simp)]; rfl) rfl (by rw [List.length_map, hlv]; omega)
    have b4 : Bx L M3 (gC va vo) := by
      have := hb3.lt
      refine ⟨fun i hi => ?_, ?_⟩
      · rw [hkp i (fun e => by rw [e] at O3; have := O3.ge; omega) (by omega)]; exact hb3.1 i hi
      · rw [hkp _ (fun e => by rw [e] at O3; have := O3.ge; omega) (by omega)]; exact hb3.2
    have est : (vals (false :: c :: r) (A.take (j + 1))).map boolC = (vals (false :: c :: r) (A.take j)).map boolC ++ [boolC (of (vals (false :: c :: r) (A.take j)) A[j].1 && of (vals (false :: c :: r) (A.take j)) A[j].2)] := by
      rw [List.take_add_one, hxj]
      simp only [Option.toList, vals_snoc, step, List.map_append, List.map_cons, List.map_nil]
    rw [← est] at hO3
    refine Ev.reg' ?_
    cases h1 : of (vals (false :: c :: r) (A.take j)) A[j].1
    · rw [h1] at of1 hap
      simp only [Bool.false_and] at hap
      simp (maxSteps := 2000000) only [go_sem, Nat.reduceBEq, Nat.reduceLT, Nat.reduceAdd, Nat.reduceMul, Nat.reduceLeDiff, Nat.reduceEqDiff, decide_true, decide_false, reduceIte, and_true, true_and, i7, mk2, of1, hap, over, Nat.zero_le, Nat.le_refl, Nat.zero_mul, Nat.one_mul]
      refine Ev.reg' ?_
      simp (maxSteps := 2000000) only [go_sem, Nat.reduceBEq, Nat.reduceLT, Nat.reduceAdd, Nat.reduceMul, Nat.reduceLeDiff, Nat.reduceEqDiff, decide_true, decide_false, reduceIte, and_true, true_and, i21]
      exact ⟨q - 1, by omega, i3, i19, i20, M3, _, rfl, b4, j + 1, by rw [IntWalk.i64_in _ (by omega)]; rfl, by omega, hO3⟩
    · rw [h1] at of1 hap
      simp only [Bool.true_and] at hap
      simp (maxSteps := 2000000) only [go_sem, Nat.reduceBEq, Nat.reduceLT, Nat.reduceAdd, Nat.reduceMul, Nat.reduceLeDiff, Nat.reduceEqDiff, decide_true, decide_false, reduceIte, and_true, true_and, i7, mk2, of1, of2, hap, over, Nat.zero_le, Nat.le_refl, Nat.zero_mul, Nat.one_mul]
      refine Ev.reg' ?_
      simp (maxSteps := 2000000) only [go_sem, Nat.reduceBEq, Nat.reduceLT, Nat.reduceAdd, Nat.reduceMul, Nat.reduceLeDiff, Nat.reduceEqDiff, decide_true, decide_false, reduceIte, and_true, true_and, i21]
      exact ⟨q - 1, by omega, i3, i19, i20, M3, _, rfl, b4, j + 1, by rw [IntWalk.i64_in _ (by omega)]; rfl, by omega, hO3⟩
  simp only [hj, decide_false, wpC_false]
  refine Ev.exit ?_
  simp (maxSteps := 2000000) only [go_sem, Nat.reduceBEq, Nat.reduceLT, Nat.reduceAdd, Nat.reduceMul, Nat.reduceLeDiff, Nat.reduceEqDiff, decide_true, decide_false, reduceIte, and_true, true_and]
  refine Ev.seq rfl (Ev.reg' ?_)
  simp (maxSteps := 2000000) only [go_sem, Nat.reduceBEq, Nat.reduceLT, Nat.reduceAdd, Nat.reduceMul, Nat.reduceLeDiff, Nat.reduceEqDiff, decide_true, decide_false, reduceIte, and_true, true_and, i7]
  refine Ev.ret (Ret.tmp rfl ?_)
  simp (maxSteps := 2000000) only [go_sem, Nat.reduceBEq, Nat.reduceLT, Nat.reduceAdd, Nat.reduceMul, Nat.reduceLeDiff, Nat.reduceEqDiff, decide_true, decide_false, reduceIte, and_true, true_and]
  rw [List.take_of_length_le (by omega)] at hO
  exact ⟨M, rfl, hB, hO.rows⟩
theorem ends_run (ha : rows L 2 va = some (A.map keyC)) (ho : rows L 1 vo = some (xs.map litC)) (hl : xs.length ≤ 100) {vv : V} {vs : List Bool} (hx : ∀ x ∈ xs, x / 2 < vs.length ∧ x < 256) (hv : rows L 1 vv = some (vs.map boolC)) (n : Nat) (hn : 300 ≤ n) :
    ∃ g v, callS Tryz.prog Sp n 39 [.agg (gC va vo), vv] (stL L) = some (.tup [v, .nils], stL (L ++ g)) ∧ rows (L ++ g) 1 v = some ((xs.map (of vs)).map boolC) := by
  obtain ⟨n, rfl⟩ : ∃ m, n = m + 1 := ⟨n - 1, by omega⟩
  suffices hs : ∃ u S', callS Tryz.prog Sp (n + 1) 39 [.agg (gC va vo), vv] (stL L) = some (u, S') ∧ ∃ M v, u = .tup [v, .nils] ∧ S' = stL M ∧ Bx L M (gC va vo) ∧ rows M 1 v = some ((xs.map (of vs)).map boolC) by
    obtain ⟨u, _, h, M, v, rfl, rfl, hM, hr⟩ := hs
    obtain ⟨g, rfl⟩ := hM.app
    exact ⟨g, v, h, hr⟩
  refine runS (fun v h => h) Tryz.func39 rfl (by simp [Tryz.f39]) ?_
  have h1 := rows_cell ha
  have h2 := rows_cell ho
  have lo : lenOf vo = some xs.length := by simpa using rows_len ho
  have l0 : lenOf .nils = some 0 := rfl
  have b0 := Bx.mk0 L (gC va vo)
  have g0 := b0.2
  refine Ev.seq rfl (Ev.reg' ?_)
  simp (maxSteps := 2000000) only [go_sem, Nat.reduceBEq, Nat.reduceLT, Nat.reduceAdd, Nat.reduceMul, Nat.reduceLeDiff, Nat.reduceEqDiff, decide_true, decide_false, reduceIte, and_true, true_and]
  refine Ev.seq rfl (Ev.seq rfl (Ev.reg' ?_))
  simp (maxSteps := 2000000) only [go_sem, Nat.reduceBEq, Nat.reduceLT, Nat.reduceAdd, Nat.reduceMul, Nat.reduceLeDiff, Nat.reduceEqDiff, decide_true, decide_false, reduceIte, and_true, true_and, g0, lo]
  refine Ev.block (Ev.loop (fun q t S => t 2 = .ptr (idOf L.length) 0 ∧ t 1 = vv ∧ t 5 = .nils ∧ t 11 = vo ∧ t 12 = .int .i64 (xs.length : Int) ∧ ∃ M o, S = stL M ∧ Bx L M (gC va vo) ∧ ∃ j : Nat, t 13 = .int .i64 (j : Int) ∧ j + q = xs.length ∧ Own (L.length + 1) M 1 (t 4) (((xs.take j).map (of vs)).map boolC) o) xs.length (by omega) ?_ ?_)
  · simp (maxSteps := 2000000) only [go_sem, Nat.reduceBEq, Nat.reduceLT, Nat.reduceAdd, Nat.reduceMul, Nat.reduceLeDiff, Nat.reduceEqDiff, decide_true, decide_false, reduceIte, and_true, true_and]
    exact ⟨_, none, rfl, b0, 0, rfl, by omega, Own.nil ..⟩
  clear g0 b0
  intro q t S ⟨i2, i1, i5, i11, i12, M, o, iS, hB, j, i13, hjq, hO⟩
  subst iS
  obtain ⟨v, ev⟩ : ∃ v, v = t 4 := ⟨_, rfl⟩
  rw [← ev] at hO
  have i4 := ev.symm
  refine Ev.seq rfl (Ev.reg' ?_)
  simp (maxSteps := 2000000) only [go_sem, Nat.reduceBEq, Nat.reduceLT, Nat.reduceAdd, Nat.reduceMul, Nat.reduceLeDiff, Nat.reduceEqDiff, decide_true, decide_false, reduceIte, and_true, true_and, i12, i13]
  refine Ev.seq rfl (Ev.cond' ?_)
  simp (maxSteps := 2000000) only [go_sem, Nat.reduceBEq, Nat.reduceLT, Nat.reduceAdd, Nat.reduceMul, Nat.reduceLeDiff, Nat.reduceEqDiff, decide_true, decide_false, reduceIte, and_true, true_and]
  by_cases hj : (j : Int) < (xs.length : Int)
  · have hj' : j < xs.length := by exact_mod_cast hj
    have hxj : xs[j]? = some xs[j] := List.getElem?_eq_getElem hj'
    obtain ⟨q1, q2⟩ := hx xs[j] (List.getElem_mem hj')
    obtain ⟨a, ra, ha1, ha2⟩ := rows_idx (hB.rows ho) (r := litC xs[j]) (j := j) (by rw [List.getElem?_map, hxj]; rfl) .i64
    have of1 := of_run (hB.rows hv) (x := xs[j]) q1 q2 n (by omega)
    have hb3 := hB.ext [.cells (boolC (of vs xs[j])) 0 []]
    have O3 : Own (L.length + 1) (M ++ [.cells (boolC (of vs xs[j])) 0 []]) 1 v (((xs.take j).map (of vs)).map boolC) o := hO.keep fun k hk => by subst hk; rw [List.getElem?_append_left hO.lt]
    obtain ⟨u, M3, hap, huc, hO3, hlen, hkp⟩ := O3.push (P := Tryz.prog) Tryz.underlying30 sz4 hz4 (by have := hb3.lt; omega) (y := .ref 1 (idOf M.length) 0 1) (r := boolC (of vs xs[j])) (by rw [rows_ref (c := boolC (of vs xs[j])) (by rw [gx0]; rfl) (by simp)]; rfl) rfl (by simp only [List.length_map, List.length_take]; omega)
    have b4 : Bx L M3 (gC va vo) := by
      have := hb3.lt
      refine ⟨fun i hi => ?_, ?_⟩
      · rw [hkp i (fun e => by rw [e] at O3; have := O3.ge; omega) (by omega)]; exact hb3.1 i hi
      · rw [hkp _ (fun e => by rw [e] at O3; have := O3.ge; omega) (by omega)]; exact hb3.2
    have est : ((xs.take (j + 1)).map (of vs)).map boolC = ((xs.take j).map (of vs)).map boolC ++ [boolC (of vs xs[j])] := by
      rw [List.take_add_one, hxj]
      simp only [Option.toList, List.map_append, List.map_cons, List.map_nil]
    rw [← est] at hO3
    simp only [hj, decide_true, wpC_true]
    refine Ev.skip ?_
    simp (maxSteps := 2000000) only [go_sem, Nat.reduceBEq, Nat.reduceLT, Nat.reduceAdd, Nat.reduceMul, Nat.reduceLeDiff, Nat.reduceEqDiff, decide_true, decide_false, reduceIte, and_true, true_and]
    refine Ev.seq rfl (Ev.block (Ev.seq rfl (Ev.reg' ?_)))
    simp (maxSteps := 2000000) only [go_sem, Nat.reduceBEq, Nat.reduceLT, Nat.reduceAdd, Nat.reduceMul, Nat.reduceLeDiff, Nat.reduceEqDiff, decide_true, decide_false, reduceIte, and_true, true_and, i11, i13, ha1, ha2]
    refine Ev.reg' ?_
    simp (maxSteps := 2000000) only [go_sem, Nat.reduceBEq, Nat.reduceLT, Nat.reduceAdd, Nat.reduceMul, Nat.reduceLeDiff, Nat.reduceEqDiff, decide_true, decide_false, reduceIte, and_true, true_and, i4, i1, of1, hap, over, Nat.zero_le, Nat.le_refl]
    refine Ev.reg' ?_
    simp (maxSteps := 2000000) only [go_sem, Nat.reduceBEq, Nat.reduceLT, Nat.reduceAdd, Nat.reduceMul, Nat.reduceLeDiff, Nat.reduceEqDiff, decide_true, decide_false, reduceIte, and_true, true_and, i13]
    exact ⟨q - 1, by omega, i2, i1, i5, i11, i12, M3, _, rfl, b4, j + 1, by rw [IntWalk.i64_in _ (by omega)]; rfl, by omega, hO3⟩
  simp only [hj, decide_false, wpC_false]
  refine Ev.exit ?_
  simp (maxSteps := 2000000) only [go_sem, Nat.reduceBEq, Nat.reduceLT, Nat.reduceAdd, Nat.reduceMul, Nat.reduceLeDiff, Nat.reduceEqDiff, decide_true, decide_false, reduceIte, and_true, true_and]
  rw [List.take_of_length_le (by omega)] at hO
  have g3 := hB.2
  refine Ev.seq rfl (Ev.seq rfl (Ev.reg' ?_))
  simp (maxSteps := 2000000) only [go_sem, Nat.reduceBEq, Nat.reduceLT, Nat.reduceAdd, Nat.reduceMul, Nat.reduceLeDiff, Nat.reduceEqDiff, decide_true, decide_false, reduceIte, and_true, true_and, i2, g3, l0]
  have z0 : ¬ ((0 : Int) < ((0 : Nat) : Int)) := by omega
  refine Ev.block (Ev.loop (fun q t S => t 4 = v ∧ t 5 = .nils ∧ t 26 = .int .i64 ((0 : Nat) : Int) ∧ t 27 = .int .i64 0 ∧ S = stL M) 0 (by omega) ?_ ?_)
  · simp (maxSteps := 2000000) only [go_sem, Nat.reduceBEq, Nat.reduceLT, Nat.reduceAdd, Nat.reduceMul, Nat.reduceLeDiff, Nat.reduceEqDiff, decide_true, decide_false, reduceIte, and_true, true_and]
    exact ⟨i4, i5⟩
  clear i4 ev
  intro q t' S ⟨i4, i5, i26, i27, iS⟩
  subst iS
  refine Ev.seq rfl (Ev.reg' ?_)
  simp (maxSteps := 2000000) only [go_sem, Nat.reduceBEq, Nat.reduceLT, Nat.reduceAdd, Nat.reduceMul, Nat.reduceLeDiff, Nat.reduceEqDiff, decide_true, decide_false, reduceIte, and_true, true_and, i26, i27, z0]
  refine Ev.seq rfl (Ev.cond' ?_)
  simp (maxSteps := 2000000) only [go_sem, Nat.reduceBEq, Nat.reduceLT, Nat.reduceAdd, Nat.reduceMul, Nat.reduceLeDiff, Nat.reduceEqDiff, decide_true, decide_false, reduceIte, and_true, true_and]
  refine Ev.exit ?_
  simp (maxSteps := 2000000) only [go_sem, Nat.reduceBEq, Nat.reduceLT, Nat.reduceAdd, Nat.reduceMul, Nat.reduceLeDiff, Nat.reduceEqDiff, decide_true, decide_false, reduceIte, and_true, true_and]
  refine Ev.seq rfl (Ev.reg' ?_)
  simp (maxSteps := 2000000) only [go_sem, Nat.reduceBEq, Nat.reduceLT, Nat.reduceAdd, Nat.reduceMul, Nat.reduceLeDiff, Nat.reduceEqDiff, decide_true, decide_false, reduceIte, and_true, true_and, i4, i5]
  refine Ev.ret (Ret.tmp2 rfl ?_)
  simp (maxSteps := 2000000) only [go_sem, Nat.reduceBEq, Nat.reduceLT, Nat.reduceAdd, Nat.reduceMul, Nat.reduceLeDiff, Nat.reduceEqDiff, decide_true, decide_false, reduceIte, and_true, true_and]
  exact ⟨M, v, rfl, rfl, hB, hO.rows⟩
theorem values_run (ha : rows L 2 va = some (A.map keyC)) (ho : rows L 1 vo = some (xs.map litC)) (hG : Good 9 A) (hA : A.length ≤ 60) (hx : ∀ x ∈ xs, x < 2 * (9 + A.length)) (hl : xs.length ≤ 100) {vi : V} {bs : List Bool} (hb : bs.length = 8) (hi : rows L 1 vi = some (bs.map boolC)) (n : Nat) (hn : 301 ≤ n) :
    ∃ g v, callS Tryz.prog Sp n 38 [.agg (gC va vo), vi, .nils] (stL L) = some (.tup [v, .int .i64 0], stL (L ++ g)) ∧ rows (L ++ g) 1 v = some ((vals (false :: bs) A).map boolC) := by
  obtain ⟨n, rfl⟩ : ∃ m, n = m + 1 := ⟨n - 1, by omega⟩
  suffices hs : ∃ u S', callS Tryz.prog Sp (n + 1) 38 [.agg (gC va vo), vi, .nils] (stL L) = some (u, S') ∧ ∃ g v, u = .tup [v, .int .i64 0] ∧ S' = stL (L ++ g) ∧ rows (L ++ g) 1 v = some ((vals (false :: bs) A).map boolC) by
    obtain ⟨u, _, h, g, v, rfl, rfl, hr⟩ := hs
    exact ⟨g, v, h, hr⟩
  refine runS (fun v h => h) Tryz.func38 rfl (by simp [Tryz.f38]) ?_
  have h1 := rows_cell ha
  have h2 := rows_cell ho
  have li : lenOf vi = some 8 := by have := rows_len hi; rw [List.length_map, hb] at this; exact this
  have l0 : lenOf .nils = some 0 := rfl
  have b0 := Bx.mk0 L (gC va vo)
  obtain ⟨g1, c1⟩ := check_run (b0.rows ha) (b0.rows ho) hG hA hx hl n (by omega)
  have b1 := b0.ext g1
  have k0 := b0.2
  have k1 := b1.2
  obtain ⟨g2, v, c2, hr⟩ := all_run (b1.rows ha) (b1.rows ho) hG hA hb (b1.rows hi) n (by omega)
  have b2 := b1.ext g2
  obtain ⟨g3, e3⟩ := b2.app
  rw [e3] at hr c2
  generalize L ++ [Ob.cells (gC va vo) 0 []] ++ g1 = M at c1 c2 k1
  refine Ev.seq rfl (Ev.reg' ?_)
  simp (maxSteps := 2000000) only [go_sem, Nat.reduceBEq, Nat.reduceLT, Nat.reduceAdd, Nat.reduceMul, Nat.reduceLeDiff, Nat.reduceEqDiff, decide_true, decide_false, reduceIte, and_true, true_and]
  refine Ev.seq rfl (Ev.seq rfl (Ev.reg' ?_))
  simp (maxSteps := 2000000) only [go_sem, Nat.reduceBEq, Nat.reduceLT, Nat.reduceAdd, Nat.reduceMul, Nat.reduceLeDiff, Nat.reduceEqDiff, decide_true, decide_false, reduceIte, and_true, true_and, k0, c1]
  refine Ev.seq rfl (Ev.reg' ?_)
  simp (maxSteps := 2000000) only [go_sem, Nat.reduceBEq, Nat.reduceLT, Nat.reduceAdd, Nat.reduceMul, Nat.reduceLeDiff, Nat.reduceEqDiff, decide_true, decide_false, reduceIte, and_true, true_and]
  refine Ev.cond' ?_
  simp (maxSteps := 2000000) only [go_sem, Nat.reduceBEq, Nat.reduceLT, Nat.reduceAdd, Nat.reduceMul, Nat.reduceLeDiff, Nat.reduceEqDiff, decide_true, decide_false, reduceIte, and_true, true_and]
  refine Ev.skip ?_
  simp (maxSteps := 2000000) only [go_sem, Nat.reduceBEq, Nat.reduceLT, Nat.reduceAdd, Nat.reduceMul, Nat.reduceLeDiff, Nat.reduceEqDiff, decide_true, decide_false, reduceIte, and_true, true_and]
  refine Ev.seq rfl (Ev.seq rfl (Ev.reg' ?_))
  have ne8 : ((((8 : Nat) : Int)) != 8) = false := rfl
  have ne0 : ((((0 : Nat) : Int)) != ((0 : Nat) : Int)) = false := rfl
  simp (maxSteps := 2000000) only [go_sem, Nat.reduceBEq, Nat.reduceLT, Nat.reduceAdd, Nat.reduceMul, Nat.reduceLeDiff, Nat.reduceEqDiff, decide_true, decide_false, reduceIte, and_true, true_and, k1, li, l0, ne8, ne0]
  refine Ev.cond' ?_
  simp (maxSteps := 2000000) only [go_sem, Nat.reduceBEq, Nat.reduceLT, Nat.reduceAdd, Nat.reduceMul, Nat.reduceLeDiff, Nat.reduceEqDiff, decide_true, decide_false, reduceIte, and_true, true_and]
  refine Ev.skip ?_
  simp (maxSteps := 2000000) only [go_sem, Nat.reduceBEq, Nat.reduceLT, Nat.reduceAdd, Nat.reduceMul, Nat.reduceLeDiff, Nat.reduceEqDiff, decide_true, decide_false, reduceIte, and_true, true_and]
  refine Ev.seq rfl (Ev.reg' ?_)
  simp (maxSteps := 2000000) only [go_sem, Nat.reduceBEq, Nat.reduceLT, Nat.reduceAdd, Nat.reduceMul, Nat.reduceLeDiff, Nat.reduceEqDiff, decide_true, decide_false, reduceIte, and_true, true_and, k1, c2]
  refine Ev.ret (Ret.tmp2 rfl ?_)
  simp (maxSteps := 2000000) only [go_sem, Nat.reduceBEq, Nat.reduceLT, Nat.reduceAdd, Nat.reduceMul, Nat.reduceLeDiff, Nat.reduceEqDiff, decide_true, decide_false, reduceIte, and_true, true_and]
  exact ⟨g3, v, rfl, rfl, hr⟩
theorem eval_run (ha : rows L 2 va = some (A.map keyC)) (ho : rows L 1 vo = some (xs.map litC)) (hG : Good 9 A) (hA : A.length ≤ 60) (hx : ∀ x ∈ xs, x < 2 * (9 + A.length)) (hl : xs.length ≤ 100) {vi : V} {bs : List Bool} (hb : bs.length = 8) (hi : rows L 1 vi = some (bs.map boolC)) (n : Nat) (hn : 302 ≤ n) :
    ∃ g v, callS Tryz.prog Sp n 18 [.agg (gC va vo), vi, .nils] (stL L) = some (.tup [v, .nils, .int .i64 0], stL (L ++ g)) ∧ rows (L ++ g) 1 v = some ((xs.map (of (vals (false :: bs) A))).map boolC) := by
  obtain ⟨n, rfl⟩ : ∃ m, n = m + 1 := ⟨n - 1, by omega⟩
  suffices hs : ∃ u S', callS Tryz.prog Sp (n + 1) 18 [.agg (gC va vo), vi, .nils] (stL L) = some (u, S') ∧ ∃ g v, u = .tup [v, .nils, .int .i64 0] ∧ S' = stL (L ++ g) ∧ rows (L ++ g) 1 v = some ((xs.map (of (vals (false :: bs) A))).map boolC) by
    obtain ⟨u, _, h, g, v, rfl, rfl, hr⟩ := hs
    exact ⟨g, v, h, hr⟩
  refine runS (fun v h => h) Tryz.func18 rfl (by simp [Tryz.f18]) ?_
  have h1 := rows_cell ha
  have h2 := rows_cell ho
  have b0 := Bx.mk0 L (gC va vo)
  obtain ⟨g1, w, c1, hw⟩ := values_run (b0.rows ha) (b0.rows ho) hG hA hx hl hb (b0.rows hi) n (by omega)
  have b1 := b0.ext g1
  have k0 := b0.2
  have k1 := b1.2
  obtain ⟨g2, v, c2, hr⟩ := ends_run (b1.rows ha) (b1.rows ho) hl (vv := w) (vs := vals (false :: bs) A) (fun x hxx => by have := hx x hxx; rw [vals_len]; simp only [List.length_cons]; omega) hw n (by omega)
  have b2 := b1.ext g2
  obtain ⟨g3, e3⟩ := b2.app
  rw [e3] at hr c2
  generalize L ++ [Ob.cells (gC va vo) 0 []] ++ g1 = M at c1 c2 k1
  refine Ev.seq rfl (Ev.reg' ?_)
  simp (maxSteps := 2000000) only [go_sem, Nat.reduceBEq, Nat.reduceLT, Nat.reduceAdd, Nat.reduceMul, Nat.reduceLeDiff, Nat.reduceEqDiff, decide_true, decide_false, reduceIte, and_true, true_and]
  refine Ev.seq rfl (Ev.reg' ?_)
  simp (maxSteps := 2000000) only [go_sem, Nat.reduceBEq, Nat.reduceLT, Nat.reduceAdd, Nat.reduceMul, Nat.reduceLeDiff, Nat.reduceEqDiff, decide_true, decide_false, reduceIte, and_true, true_and, k0, c1]
  refine Ev.seq rfl (Ev.seq rfl (Ev.reg' ?_))
  simp (maxSteps := 2000000) only [go_sem, Nat.reduceBEq, Nat.reduceLT, Nat.reduceAdd, Nat.reduceMul, Nat.reduceLeDiff, Nat.reduceEqDiff, decide_true, decide_false, reduceIte, and_true, true_and]
  refine Ev.cond' ?_
  simp (maxSteps := 2000000) only [go_sem, Nat.reduceBEq, Nat.reduceLT, Nat.reduceAdd, Nat.reduceMul, Nat.reduceLeDiff, Nat.reduceEqDiff, decide_true, decide_false, reduceIte, and_true, true_and]
  refine Ev.skip ?_
  simp (maxSteps := 2000000) only [go_sem, Nat.reduceBEq, Nat.reduceLT, Nat.reduceAdd, Nat.reduceMul, Nat.reduceLeDiff, Nat.reduceEqDiff, decide_true, decide_false, reduceIte, and_true, true_and]
  refine Ev.seq rfl (Ev.reg' ?_)
  simp (maxSteps := 2000000) only [go_sem, Nat.reduceBEq, Nat.reduceLT, Nat.reduceAdd, Nat.reduceMul, Nat.reduceLeDiff, Nat.reduceEqDiff, decide_true, decide_false, reduceIte, and_true, true_and, k1, c2]
  refine Ev.seq rfl (Ev.reg' ?_)
  simp (maxSteps := 2000000) only [go_sem, Nat.reduceBEq, Nat.reduceLT, Nat.reduceAdd, Nat.reduceMul, Nat.reduceLeDiff, Nat.reduceEqDiff, decide_true, decide_false, reduceIte, and_true, true_and]
  refine Ev.ret ⟨[v, .nils, .int .i64 0], ?_, g3, v, rfl, rfl, hr⟩
  show evRes Tryz.prog _ _ Tryz.f18.results.toList = _
  simp only [Tryz.f18, evRes]
  simp (maxSteps := 2000000) only [go_sem, Nat.reduceBEq, Nat.reduceLT, Nat.reduceAdd, Nat.reduceMul, Nat.reduceLeDiff, Nat.reduceEqDiff, decide_true, decide_false, reduceIte, and_true, true_and]
end
end Bt

