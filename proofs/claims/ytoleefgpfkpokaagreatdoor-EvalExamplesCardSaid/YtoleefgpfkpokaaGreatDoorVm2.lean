import Derived.Test.YtoleefgpfkpokaaGreatDoorVm1
import Derived.Laws.BytesString
import Derived.WideKeyRuns
set_option autoImplicit false
set_option linter.unusedSectionVars false
set_option linter.unusedVariables false
set_option linter.unusedSimpArgs false
namespace Go.Vm
variable [Gl]
open Go.RowKit

section
variable {P : Program} {Γ : Ctx} {S S' : St} {w : World} {t : Tm} {a : Act} {o : Oper} {v : V} {call : CallF}

theorem writeAt_spec (hm : Mem Γ S w) {x : V} {ux : Value} {vs : List V} {us : List Value} (hx : Rel Γ x ux) (h : writeAt S x vs = some S') (hr : RelL Γ vs us) (hone : ∀ u ∈ us, Value.oneCell' u = true) :
    ∃ b off w', ux = .pointer (some ⟨b, off, none⟩) ∧ (storeCells ⟨b, off, none⟩ us).run P w = .ok () w' ∧ Step Γ S w Γ S' w' := by
  unfold writeAt at h
  split at h
  · rename_i id off
    split at h
    · rename_i l fz anc hs
      split at h
      · rename_i hc
        obtain ⟨c1, c2, c3⟩ := hc
        injection h with h; subst h
        cases hx with
        | ptr _ _ b hφ =>
          obtain ⟨c, el, h1, h2, h4, h5, h6⟩ := hm.row id b l fz anc hφ hs
          have hl := hr.length
          obtain ⟨w', g1, g2, g3, g4, g5, g6, g7⟩ := run_storeCells_row (P := P) us w 0 off b c el h1 hone (by omega)
          simp only [Nat.add_zero] at g2
          exact ⟨b, off, w', rfl, g1, Step.write hm hφ hs c1 c2 c3 h1 hr hone g2 g3 g4 g5 g6 g7⟩
      · cases h
    · cases h
  · cases h

theorem run_store_op (hm : Mem Γ S w) (ht : TR Γ t a) {ty : TypeId} {x y : Operand} (hop : o.op = .store ty x y) (h : opStore P ty (opd t x) (opd t y) S = some (v, S')) :
    ∃ w', (execOp a.eval o).run P w = .ok .skip w' ∧ Step Γ S w Γ S' w' ∧ v = .any := by
  unfold opStore at h
  have hx := rel_opd ht x
  have hy := rel_opd ht y
  split at h
  · rename_i hag
    obtain ⟨h1, h2⟩ := run_isAgg' hag w
    split at h
    · rename_i vs hvs
      split at h
      · rename_i hlen
        split at h
        · rename_i S1 hw
          injection h with h; injection h with e1 e2; subst e1; subst e2
          rw [hvs] at hy
          generalize hev : a.eval y = uy at hy
          cases hy with
          | agg _ us hr hone =>
            obtain ⟨b, off, w', g1, g2, g3⟩ := writeAt_spec (P := P) hm hx hw hr hone
            refine ⟨w', ?_, g3, rfl⟩
            have hsz : us.size = P.cellsOf ty := by rw [← hlen, hr.length]; simp
            simp [execOp, hop, Instr.storeAt, Instr.sureAddr, g1, storeVar, hev, Value.cells, hsz, h2, g2]
        · cases h
      · cases h
    · cases h
  · rename_i hag
    obtain ⟨h1, h2⟩ := run_isAgg' hag w
    split at h
    · rename_i hc
      obtain ⟨c1, c2⟩ := hc
      split at h
      · rename_i S1 hw
        injection h with h; injection h with e1 e2; subst e1; subst e2
        obtain ⟨o1, o2⟩ := hy.one_cell c1
        obtain ⟨b, off, w', g1, g2, g3⟩ := writeAt_spec (P := P) hm hx hw (.cons _ _ _ _ hy .nil) (by intro u hu; simp at hu; subst hu; exact o1)
        refine ⟨w', ?_, g3, rfl⟩
        simp [execOp, hop, Instr.storeAt, Instr.sureAddr, g1, storeVar, o2, h2, c2, g2]
      · cases h
    · cases h
  · cases h

/-! append -/
/-- What is appended, read in any world whose old cells are as they were. -/
theorem src_rel (hm : Mem Γ S w) {y : V} {uy : Value} {sz m : Nat} {new : List V} (hy : Rel Γ y uy) (h : srcCells sz S y = some (m, new)) :
    (Builtin.lenOf uy).run P w = .ok m w ∧ ∃ us : List Value, RelL Γ new us ∧ (∀ u ∈ us, Value.oneCell' u = true) ∧ us.length = m * sz ∧ (Builtin.firstCells sz m uy).run P w = .ok us.toArray w ∧
      (Builtin.firstCells sz m uy).run P w.drew = .ok us.toArray w.drew := by
  unfold srcCells at h
  split at h
  · injection h with h; injection h with e1 e2; subst e1; subst e2
    cases hy with
    | nils => exact ⟨rfl, [], .nil, by simp, by simp, by simp [Builtin.firstCells], by simp [Builtin.firstCells]⟩
  · rename_i e id off n
    cases hy with
    | ref _ _ _ off' _ cap b hφ hes hc hn ho =>
      have go : ∀ l, (∃ us, RelL Γ l us ∧ (∀ (j : Nat) (u : Value), us[j]? = some u → w.cell? ⟨b, j, none⟩ = some u) ∧ ∀ u ∈ us, Value.oneCell' u = true) →
          (if off + n * sz ≤ l.length ∧ e = sz then some (n, (l.drop off).take (n * sz)) else none) = some (m, new) →
          (Builtin.lenOf (.slice (some ⟨b, off', none⟩) n cap)).run P w = .ok m w ∧ ∃ us : List Value, RelL Γ new us ∧ (∀ u ∈ us, Value.oneCell' u = true) ∧ us.length = m * sz ∧
            (Builtin.firstCells sz m (.slice (some ⟨b, off', none⟩) n cap)).run P w = .ok us.toArray w ∧ (Builtin.firstCells sz m (.slice (some ⟨b, off', none⟩) n cap)).run P w.drew = .ok us.toArray w.drew := by
        intro l ⟨us, r1, r2, r3⟩ hif
        split at hif
        · rename_i hcond
          obtain ⟨c1, c2⟩ := hcond
          injection hif with hif; injection hif with e1 e2; subst e1; subst e2
          have hul := r1.length
          have hlen : ((us.drop off).take (n * sz)).length = n * sz := by simp; omega
          have hcells : ∀ (j : Nat) (u : Value), ((us.drop off).take (n * sz))[j]? = some u → w.cell? ((⟨b, off', none⟩ : Addr).add j) = some u := by
            intro j u hu
            have hj : j < n * sz := by
              rcases Nat.lt_or_ge j (n * sz) with hh | hh
              · exact hh
              · rw [List.getElem?_eq_none (by omega)] at hu; cases hu
            have hoff : off' = off := by
              rcases ho with ho | ho
              · exact ho
              · have : n = 0 := by omega
                subst this; simp at hj
            rw [Addr_add, hoff]
            rw [List.getElem?_take, if_pos hj, List.getElem?_drop] at hu
            exact r2 _ u hu
          refine ⟨by simp [Builtin.lenOf], _, (r1.drop off).take _, fun u hu => r3 u (List.mem_of_mem_drop (List.mem_of_mem_take hu)), hlen, ?_, ?_⟩
          · exact run_firstCells_some (P := P) w sz n _ n cap _ hlen hcells
          · exact run_firstCells_some (P := P) w.drew sz n _ n cap _ hlen (by simpa using hcells)
        · cases hif
      split at h
      · rename_i l fz anc hs
        obtain ⟨c, el, h1, h2, h4, h5, h6⟩ := hm.row id b l fz anc hφ hs
        refine go l ⟨_, h5, fun j u hj => ?_, fun u hu => h6 u (List.mem_of_mem_take hu)⟩ h
        simp only [World.cell?, h1, Option.isSome_none, Bool.false_eq_true, if_false]
        rw [List.getElem?_take] at hj
        split at hj
        · simpa using hj
        · cases hj
      · rename_i l hs
        exact go l (hm.old id b l hφ hs) h
      · cases h
  · rename_i e l
    split at h
    · rename_i he
      subst he
      injection h with h; injection h with e1 e2; subst e1; subst e2
      cases hy with
      | imz _ a =>
        exact ⟨by simp [Builtin.lenOf], [], .nil, (fun u hu => by cases hu), (by simp), run_firstCells_some (P := P) w e _ _ _ 0 [] (by simp) (fun j u hu => by simp at hu), run_firstCells_some (P := P) w.drew e _ _ _ 0 [] (by simp) (fun j u hu => by simp at hu)⟩
      | imm _ _ b off n cap hE hn hcp =>
        obtain ⟨hM, hfl⟩ := hE.flat
        subst hn
        have key : ∀ (cs : List V) (off : Nat), RelM Γ cs b off → ∃ us, RelL Γ cs us ∧ (∀ (j : Nat) (x : Value), us[j]? = some x → w.cell? ⟨b, off + j, none⟩ = some x) ∧ ∀ x ∈ us, Value.oneCell' x = true := by
          intro cs off hM
          obtain ⟨b', off', us, q1, q2, q3, q4⟩ := cellsAt_mem (v := .ipt cs) (u := .pointer (some ⟨b, off, none⟩)) hm (.ipt cs b off hM) rfl
          injection q1 with q1; injection q1 with q1; injection q1 with q1 q1' q1''; subst q1; subst q1'
          exact ⟨us, q2, q3, q4⟩
        obtain ⟨us, r1, r2, r3⟩ := key _ off hM
        have hul : us.length = l.length * e := by rw [← r1.length, hfl]
        have hcells : ∀ (j : Nat) (u : Value), us[j]? = some u → w.cell? ((⟨b, off, none⟩ : Addr).add j) = some u := by
          intro j u hu; rw [Addr_add]; exact r2 j u hu
        exact ⟨by simp [Builtin.lenOf], us, r1, r3, hul, run_firstCells_some (P := P) w e _ _ _ cap us hul hcells, run_firstCells_some (P := P) w.drew e _ _ _ cap us hul (by simpa using hcells)⟩
    · cases h
  · rename_i s
    split at h
    · rename_i he
      subst he
      injection h with h; injection h with e1 e2; subst e1; subst e2
      cases hy with
      | str b _ hb =>
        have hlen : b.size = s.length := by rw [← hb]; simp
        have hrun : ∀ (w' : World), (Builtin.firstCells 1 s.length (.string b)).run P w' = .ok (b.data.toList.map fun x => Value.int .u8 x.toNat).toArray w' := by
          intro w'
          simp only [Builtin.firstCells, Sem.run_pure]
          congr 1
          apply Array.ext'
          rw [← hlen]
          have : (b.extract 0 b.size).data = b.data := by
            rw [ByteArray.data_extract]
            have : b.size = b.data.size := rfl
            rw [this, Array.extract_size]
          rw [this]
          simp
        refine ⟨by simp [Builtin.lenOf, hlen], _, ?_, ?_, ?_, hrun w, hrun _⟩
        · rw [← hb]
          generalize b.data.toList = q
          induction q with
          | nil => exact .nil
          | cons x xs ih => exact .cons _ _ _ _ (.int _ _) ih
        · intro u hu
          simp only [List.mem_map] at hu
          obtain ⟨x, _, e⟩ := hu
          subst e; rfl
        · simp [hlen]
    · cases h
  · cases h

theorem not_int {d' : TypeDesc} (hint : ∀ k, d' ≠ .int k) : (match d' with | TypeDesc.int _ => true | _ => false) = false := by
  cases d' <;> first | rfl | exact absurd rfl (hint _)
/-- An append, taken apart: within the capacity. -/
theorem run_app_in {ts : Array TypeId} {rt ty ty' el : TypeId} {d' : TypeDesc} {base : Option Addr} {n cap sz m : Nat} {uy : Value} {us : List Value} (ea0 : ts[0]? = some ty) (ea1 : ts[1]? = some ty')
    (hu : P.underlying ty = some (.slice el)) (hd : P.underlying ty' = some d') (hint : ∀ k, d' ≠ .int k) (hs : (sizeOf el).run P w = .ok sz w) (hlen : (Builtin.lenOf uy).run P w = .ok m w)
    (hf : (Builtin.firstCells sz m uy).run P w = .ok us.toArray w) (hroom : n + m ≤ cap) :
    (Builtin.append_ ts rt #[.slice base n cap, uy]).run P w =
      ((match base with | some ad => storeCells (ad.add (n * sz)) us | none => pure () : Sem Unit).run P w).andThen fun _ w' => .ok (.slice base (n + m) cap) w' := by
  have hz := not_int hint
  cases base <;> simp only [Builtin.append_, ea0, ea1, List.getElem?_toArray, List.getElem?_cons_zero, List.getElem?_cons_succ, Sem.run_bind, run_underlying hu, Result.andThen_ok, run_underlying hd, hs, hz, Bool.not_false, if_true, Bool.false_eq_true, if_false, hlen, hroom, hf, Sem.run_pure, ↓reduceIte]
/-- An append, taken apart: in a new row. -/
theorem run_app_grow {ts : Array TypeId} {rt ty ty' el : TypeId} {d' : TypeDesc} {base : Option Addr} {n cap sz m : Nat} {uy : Value} {us os : List Value} {inf : TypeInfo} {zv : Value} (ea0 : ts[0]? = some ty) (ea1 : ts[1]? = some ty')
    (hu : P.underlying ty = some (.slice el)) (hd : P.underlying ty' = some d') (hint : ∀ k, d' ≠ .int k) (hs : (sizeOf el).run P w = .ok sz w) (hlen : (Builtin.lenOf uy).run P w = .ok m w)
    (hf : (Builtin.firstCells sz m uy).run P w.drew = .ok us.toArray w.drew) (hfo : (Builtin.firstCells sz n (.slice base n cap)).run P w.drew = .ok os.toArray w.drew) (hi : P.info? el = some inf) (hzv : inf.zero = some zv)
    (hby : inf.bytes ≤ 2 ^ 16) (hmax : n + m ≤ maxRow) (hroom : ¬ n + m ≤ cap) :
    (Builtin.append_ ts rt #[.slice base n cap, uy]).run P w =
      .ok (.slice (some ⟨w.heap.size, 0, none⟩) (n + m) (grownCap w (n + m) cap el))
        (w.drew.alloc (.cells (os ++ us ++ (Builtin.zeroCells zv.cells (grownCap w (n + m) cap el - (n + m))).toList).toArray el)) := by
  have hz := not_int hint
  have hti : ∀ (w' : World), (typeInfo el).run P w' = .ok inf w' := fun w' => by simp [typeInfo, hi]
  have hfz : ∀ (w' : World), (zeroValue el).run P w' = .ok zv w' := fun w' => by simp [zeroValue, typeInfo, hi, hzv]
  unfold maxRow at hmax
  have f1 : ¬ (2 ^ 48 < Builtin.nextslicecap (n + m) cap * inf.bytes) := by
    have h3 := nextslicecap_le (need := n + m) (old := cap) (by omega)
    have : Builtin.nextslicecap (n + m) cap * inf.bytes ≤ (2 * 16777216) * 65536 := Nat.mul_le_mul (by omega) (by omega)
    omega
  have f2 : ¬ (((n + m : Nat) : Int) > IntKind.i64.max) := by
    have : IntKind.i64.max = 9223372036854775807 := rfl
    omega
  have e0 : (os ++ us ++ (Builtin.zeroCells zv.cells (grownCap w (n + m) cap el - (n + m))).toList).toArray = os.toArray ++ us.toArray ++ Builtin.zeroCells zv.cells (grownCap w (n + m) cap el - (n + m)) := by
    apply Array.ext'; simp
  rw [e0]
  simp only [Builtin.append_, ea0, ea1, List.getElem?_toArray, List.getElem?_cons_zero, List.getElem?_cons_succ, Sem.run_bind, run_underlying hu, Result.andThen_ok, run_underlying hd, hs, hz, Bool.not_false, if_true, Bool.false_eq_true, if_false, hlen, hroom, hti, f1, f2, false_and, gt_iff_lt, ↓reduceIte,
    run_choose, Question.forced, World.drew_eq, run_askRoom, hf, hfo, hfz, newRow, run_newObj, Sem.run_pure, World.alloc_eq, Sem.run_ite, false_or, Bool.false_or, or_false, and_false]
  rfl

theorem comes_append (hm : Mem Γ S w) (ht : TR Γ t a) {c : Call} {x y : Operand} {ty ty' : TypeId} {d' : TypeDesc} (hop : o.op = .call c) (hc : c.callee = .builtin .append) (hargs : c.args.toList = [x, y]) (htys : c.argTypes.toList = [ty, ty'])
    (hd : P.underlying ty' = some d') (hint : ∀ k, d' ≠ .int k) (h : opAppend P ty (opd t x) (opd t y) S = some (v, S')) : Comes' P Γ S w a o v S' := by
  have hexec : ∀ w' u, (Builtin.append_ c.argTypes o.type #[a.eval x, a.eval y]).run P w = .ok u w' → (execOp a.eval o).run P w = .ok (.value u) w' := by
    intro w' u hr
    have e1 : c.args.map a.eval = #[a.eval x, a.eval y] := by
      apply Array.ext'; simp [hargs]
    simp [execOp, hop, resolve, hc, invoke, builtin, e1, hr]
  have ea0 : c.argTypes[0]? = some ty := by rw [← Array.getElem?_toList, htys]; rfl
  have ea1 : c.argTypes[1]? = some ty' := by rw [← Array.getElem?_toList, htys]; rfl
  have hx := rel_opd ht x
  have hy := rel_opd ht y
  generalize hev : a.eval x = ux at hx hexec
  generalize opd t x = vx at h hx
  unfold opAppend at h
  split at h
  rotate_left
  · cases h
  rename_i el hu
  split at h
  · cases h
  rename_i sz hsz
  have hs := run_szT hsz w
  split at h
  · cases h
  · -- nothing is appended
    rename_i hsrc
    obtain ⟨hlen, us, r1, r2, r3, r4, r5⟩ := src_rel (P := P) hm hy hsrc
    have hnil : us = [] := List.eq_nil_of_length_eq_zero (by simpa using r3)
    subst hnil
    have fin : ∀ base n cap, ux = .slice base n cap → n ≤ cap → Comes' P Γ S w a o vx S := by
      intro base n cap q1 q2
      refine ⟨Γ, w, ux, hexec _ _ ?_, .refl hm, hx⟩
      subst q1
      rw [run_app_in ea0 ea1 hu hd hint hs hlen r4 (by omega)]
      cases base <;> simp [storeCells]
    cases hx <;> simp only [] at h <;> try (cases h; done)
    · injection h with h; injection h with e1 e2; subst e1; subst e2
      exact fin _ _ _ rfl (Nat.le_refl _)
    · injection h with h; injection h with e1 e2; subst e1; subst e2
      exact fin _ _ _ rfl (by assumption)
    · injection h with h; injection h with e1 e2; subst e1; subst e2
      exact fin _ _ _ rfl (Nat.le_refl _)
    · injection h with h; injection h with e1 e2; subst e1; subst e2
      exact fin _ _ _ rfl (by assumption)
  · rename_i m new hsrc
    obtain ⟨hlen, us, r1, r2, r3, r4, r5⟩ := src_rel (P := P) (m := m + 1) hm hy hsrc
    split at h
    rotate_left
    · cases h
    rename_i hcond
    obtain ⟨hby, hzz⟩ := hcond
    obtain ⟨z, hz, hzl⟩ := Option.map_eq_some_iff.1 hzz
    obtain ⟨inf, zv, hi, hzv, hzr, hzone⟩ := zeroOf_spec (Γ := Γ) hz
    have hzvl : zv.cells.toList.length = sz := by rw [← hzl]; exact hzr.length.symm
    have hflat : ∀ (k : Nat), (List.replicate k zv.cells.toList).flatten.length = k * sz := by
      intro k; rw [List.length_flatten]; simp only [List.map_replicate, List.sum_replicate_nat, hzvl]
    have hbytes : P.bytesOf el = inf.bytes := by simp [Program.bytesOf, hi]
    rw [hbytes] at hby
    have hzc : ∀ (n : Nat), (Builtin.zeroCells zv.cells n).toList = (List.replicate n zv.cells.toList).flatten := fun n => madeCells_toList zv.cells n
    have hst0 : Step Γ S w Γ S w.drew := Step.of_heap hm rfl rfl rfl rfl
    cases hx <;> simp only [] at h <;> try (cases h; done)
    case nils =>
      split at h
      rotate_left
      · cases h
      rename_i hmax
      split at h
      rotate_left
      · cases h
      rename_i i S1 hnew
      injection h with h; injection h with e1 e2; subst e1; subst e2
      obtain ⟨Γ', hst, hφ, hes, hbs⟩ := Step.alloc (w := w.drew) (rest := (Builtin.zeroCells zv.cells (grownCap w (0 + (m + 1)) 0 el - (0 + (m + 1)))).toList) (el := el) (es := sz) hst0.mem hnew (Nat.zero_le _) r1 (by
        intro u hu
        rcases List.mem_append.1 hu with hu | hu
        · exact r2 u hu
        · rw [hzc] at hu; exact one_repl hzone _ u hu)
      have hcap : 0 + (m + 1) ≤ grownCap w (0 + (m + 1)) 0 el := by unfold grownCap; simp [Question.cut]
      have hrun := run_app_grow (rt := o.type) (os := []) (base := none) (n := 0) (cap := 0) ea0 ea1 hu hd hint hs hlen r5 (by simp [Builtin.firstCells]) hi hzv hby (by simpa using hmax) (by omega)
      simp only [List.nil_append] at hrun
      refine ⟨Γ', _, _, hexec _ _ hrun, hst0.trans hst, ?_⟩
      simp only [Nat.zero_add] at hcap hbs ⊢
      refine .ref _ _ _ _ _ _ _ hφ hes ?_ hcap (.inl rfl)
      show 0 + _ ≤ Γ'.bs w.drew.heap.size
      rw [hbs, List.length_append, r3, hzc, hflat, ← Nat.add_mul]
      simp only [Nat.zero_add]
      exact Nat.mul_le_mul_right _ (by omega)
    case ref es id off off' n cap b hφ hes hbound hn ho =>
      split at h
      rotate_left
      · cases h
      rename_i l fz anc hs0
      split at h
      rotate_left
      · cases h
      rename_i hc2
      obtain ⟨c1, c2, c3, c4⟩ := hc2
      subst c1; subst c2
      split at h
      rotate_left
      · cases h
      rename_i i S1 hnew
      injection h with h; injection h with e1 e2; subst e1; subst e2
      obtain ⟨c, el0, h1, h2, h4, h5, h6⟩ := hm.row id b l fz anc hφ hs0
      by_cases hroom : n + (m + 1) ≤ cap
      · -- in place
        have ho' : off' = 0 := by rcases ho with ho | ho <;> omega
        subst ho'
        have hmul : (n + (m + 1)) * es ≤ cap * es := Nat.mul_le_mul_right _ hroom
        have hmul2 : (n + (m + 1)) * es = n * es + (m + 1) * es := Nat.add_mul _ _ _
        obtain ⟨w', g1, g2, g3, g4, g5, g6, g7⟩ := run_storeCells_row (P := P) us w 0 (n * es) b c el0 h1 r2 (by omega)
        simp only [Nat.add_zero] at g2
        rw [← c3] at g2
        have hrl := r1.length
        obtain ⟨Γ', hst, q1, q2, q3⟩ := Step.appendIn hm hφ hs0 hnew h1 (by omega) r1 r2 g2 g3 g4 g5 g6 g7
        refine ⟨Γ', w', .slice (some ⟨b, 0, none⟩) (n + (m + 1)) cap, hexec _ _ ?_, hst, .ref _ _ _ _ _ _ _ q1 (q2.trans hes) (by rw [q3]; exact hbound) hroom (.inl rfl)⟩
        rw [run_app_in ea0 ea1 hu hd hint hs hlen r4 hroom]
        simp only [Addr_add, Nat.zero_add, g1, Result.andThen_ok]
      · -- in a new row
        have hstale := Step.stale hst0.mem hφ hs0
        have hold : ∀ (w' : World), w'.heap = w.heap → (Builtin.firstCells es n (.slice (some ⟨b, off', none⟩) n cap)).run P w' = .ok (c.toList.take l.length).toArray w' := by
          intro w' hw'
          have hh : w'.heap[b]? = some (.cells c el0 (0, 0)) := by rw [hw']; exact h1
          have hlen2 : (c.toList.take l.length).length = n * es := by simp; omega
          refine run_firstCells_some (P := P) w' es n ⟨b, off', none⟩ n cap _ hlen2 (fun j u hj => ?_)
          have hjl : j < n * es := by
            rcases Nat.lt_or_ge j (n * es) with hh | hh
            · exact hh
            · rw [List.getElem?_eq_none (by omega)] at hj; cases hj
          have hoff : off' = 0 := by
            rcases ho with ho | ho
            · exact ho
            · have : n = 0 := by omega
              subst this; simp at hjl
          rw [Addr_add, hoff]
          simp only [World.cell?, hh, Option.isSome_none, Bool.false_eq_true, if_false]
          rw [List.getElem?_take] at hj
          split at hj
          · simpa using hj
          · cases hj
        have hrun := run_app_grow (rt := o.type) ea0 ea1 hu hd hint hs hlen r5 (hold w.drew rfl) hi hzv hby c4 hroom
        have hfzl := (hm.frz id b l fz anc hφ hs0).1
        obtain ⟨Γ', hst, hφ', hes', hbs⟩ := Step.alloc (w := w.drew) (us := c.toList.take l.length ++ us) (rest := (Builtin.zeroCells zv.cells (grownCap w (n + (m + 1)) cap el - (n + (m + 1)))).toList) (el := el) (es := es) hstale.mem hnew
          (by simp; omega) (h5.append r1) (by
            intro u hu
            rcases List.mem_append.1 hu with hu | hu
            · rcases List.mem_append.1 hu with hu | hu
              · exact h6 u (List.mem_of_mem_take hu)
              · exact r2 u hu
            · rw [hzc] at hu; exact one_repl hzone _ u hu)
        have hcap : n + (m + 1) ≤ grownCap w (n + (m + 1)) cap el := by unfold grownCap; simp [Question.cut]
        refine ⟨Γ', _, _, hexec _ _ hrun, (hst0.trans hstale).trans hst, .ref _ _ _ _ _ _ _ hφ' hes' ?_ hcap (.inl rfl)⟩
        show 0 + _ ≤ Γ'.bs w.drew.heap.size
        rw [hbs, List.length_append, List.length_append, r3, hzc, hflat]
        have hlen2 : (c.toList.take l.length).length = n * es := by simp; omega
        rw [hlen2, ← Nat.add_mul, ← Nat.add_mul]
        simp only [Nat.zero_add]
        exact Nat.mul_le_mul_right _ (by omega)

theorem cut_step (hm : Mem Γ S w) {x : V} {u : Value} (hx : Rel Γ x u) {S1 : St} (h : cutX x S = some S1) : Step Γ S w Γ S1 w := by
  unfold cutX at h
  split at h
  · rename_i es id off n
    split at h
    · cases h
    · rename_i l fz hs
      split at h
      · injection h with h; subst h; exact .refl hm
      · split at h
        · rename_i hf
          injection h with h; subst h
          cases hx with
          | ref _ _ _ off' _ cap b hφ he hcp hn ho => exact Step.cut hm hφ hs hf
        · injection h with h; subst h; exact .refl hm
    · injection h with h; subst h; exact .refl hm
  · injection h with h; subst h; exact .refl hm
theorem comes_append2 (hm : Mem Γ S w) (ht : TR Γ t a) {c : Call} {x y : Operand} {ty ty' : TypeId} {d' : TypeDesc} (hop : o.op = .call c) (hc : c.callee = .builtin .append) (hargs : c.args.toList = [x, y]) (htys : c.argTypes.toList = [ty, ty'])
    (hd : P.underlying ty' = some d') (hint : ∀ k, d' ≠ .int k) (h : opAppend2 P ty (opd t x) (opd t y) S = some (v, S')) : Comes' P Γ S w a o v S' := by
  unfold opAppend2 at h
  split at h
  rotate_left
  · cases h
  rename_i S1 hS
  have hst := cut_step hm (rel_opd ht x) hS
  obtain ⟨Γ', w', u, h1, h2, h3⟩ := comes_append hst.mem ht hop hc hargs htys hd hint h
  exact ⟨Γ', w', u, h1, hst.trans h2, h3⟩
/-- Zeros appended to nothing, taken apart. -/
theorem run_app_zeros {ts : Array TypeId} {rt ty ty' el : TypeId} {k' ki : IntKind} {m sz : Nat} {inf : TypeInfo} {zv : Value} (ea0 : ts[0]? = some ty) (ea1 : ts[1]? = some ty')
    (hu : P.underlying ty = some (.slice el)) (hd : P.underlying ty' = some (.int k')) (hs : (sizeOf el).run P w = .ok sz w) (hsz : 0 < sz) (hi : P.info? el = some inf) (hzv : inf.zero = some zv)
    (hby : inf.bytes ≤ 2 ^ 16) (hmax : m + 1 ≤ maxRow) :
    (Builtin.append_ ts rt #[.slice none 0 0, .int ki ((m + 1 : Nat) : Int)]).run P w =
      .ok (.slice (some ⟨w.heap.size, 0, none⟩) (0 + (m + 1)) (grownCap w (0 + (m + 1)) 0 el))
        (w.drew.alloc (.cells ((Builtin.zeroCells zv.cells (m + 1)).toList ++ (Builtin.zeroCells zv.cells (grownCap w (0 + (m + 1)) 0 el - (0 + (m + 1)))).toList).toArray el)) := by
  have hti : ∀ (w' : World), (typeInfo el).run P w' = .ok inf w' := fun w' => by simp [typeInfo, hi]
  have hfz : ∀ (w' : World), (zeroValue el).run P w' = .ok zv w' := fun w' => by simp [zeroValue, typeInfo, hi, hzv]
  unfold maxRow at hmax
  have f1 : ¬ (2 ^ 48 < Builtin.nextslicecap (0 + (m + 1)) 0 * inf.bytes) := by
    have h3 := nextslicecap_le (need := 0 + (m + 1)) (old := 0) (by omega)
    have : Builtin.nextslicecap (0 + (m + 1)) 0 * inf.bytes ≤ (2 * 16777216) * 65536 := Nat.mul_le_mul (by omega) (by omega)
    omega
  have f2 : ¬ (((0 + (m + 1) : Nat) : Int) > IntKind.i64.max) := by
    have : IntKind.i64.max = 9223372036854775807 := rfl
    omega
  have f3 : IntKind.i64.wrap ((m + 1 : Nat) : Int) = ((m + 1 : Nat) : Int) := wrap_small _ (by omega) (by omega)
  have f4 : ¬ (((m + 1 : Nat) : Int) < 0) := by omega
  have f5 : ¬ (((m + 1 : Nat) : Int) * (inf.bytes : Int) > 2 ^ 48) := by
    have : (m + 1) * inf.bytes ≤ 16777216 * 65536 := Nat.mul_le_mul (by omega) (by omega)
    omega
  have f6 : ¬ ((m + 1) * sz = 0) := by
    have := Nat.mul_pos (show 0 < m + 1 by omega) hsz
    omega
  have f7 : ¬ (0 + (m + 1) ≤ 0) := by omega
  have f8 : Int.toNat ((m + 1 : Nat) : Int) = m + 1 := Int.toNat_natCast _
  have e0 : ((Builtin.zeroCells zv.cells (m + 1)).toList ++ (Builtin.zeroCells zv.cells (grownCap w (0 + (m + 1)) 0 el - (0 + (m + 1)))).toList).toArray = #[] ++ Builtin.zeroCells zv.cells (m + 1) ++ Builtin.zeroCells zv.cells (grownCap w (0 + (m + 1)) 0 el - (0 + (m + 1))) := by
    apply Array.ext'; simp
  rw [e0]
  simp only [Builtin.append_, ea0, ea1, List.getElem?_toArray, List.getElem?_cons_zero, List.getElem?_cons_succ, Sem.run_bind, run_underlying hu, Result.andThen_ok, run_underlying hd, hs, asInt, asIntOf, Bool.not_false, Bool.not_true, if_true, Bool.false_eq_true, if_false, f3, f4, f5, f6, f7, f8, hti, f1, f2, false_and, gt_iff_lt, ↓reduceIte,
    run_choose, Question.forced, World.drew_eq, run_askRoom, Builtin.firstCells, hfz, newRow, run_newObj, Sem.run_pure, World.alloc_eq, Sem.run_ite, false_or, Bool.false_or, or_false, and_false, true_or, and_true]
  rfl
theorem comes_appendN (hm : Mem Γ S w) (ht : TR Γ t a) {c : Call} {x y : Operand} {ty ty' : TypeId} {k' : IntKind} (hop : o.op = .call c) (hc : c.callee = .builtin .append) (hargs : c.args.toList = [x, y]) (htys : c.argTypes.toList = [ty, ty'])
    (hd : P.underlying ty' = some (.int k')) (h : opAppendN P ty (opd t x) (opd t y) S = some (v, S')) : Comes' P Γ S w a o v S' := by
  have hexec : ∀ w' u, (Builtin.append_ c.argTypes o.type #[a.eval x, a.eval y]).run P w = .ok u w' → (execOp a.eval o).run P w = .ok (.value u) w' := by
    intro w' u hr
    have e1 : c.args.map a.eval = #[a.eval x, a.eval y] := by
      apply Array.ext'; simp [hargs]
    simp [execOp, hop, resolve, hc, invoke, builtin, e1, hr]
  have ea0 : c.argTypes[0]? = some ty := by rw [← Array.getElem?_toList, htys]; rfl
  have ea1 : c.argTypes[1]? = some ty' := by rw [← Array.getElem?_toList, htys]; rfl
  have hx := rel_opd ht x
  have hy := rel_opd ht y
  generalize hev : a.eval x = ux at hx hexec
  generalize hevy : a.eval y = uy at hy hexec
  generalize opd t x = vx at h hx
  generalize opd t y = vy at h hy
  unfold opAppendN at h
  split at h
  rotate_left
  · cases h
  rename_i el hu
  split at h
  rotate_left
  · cases h
  rename_i z sz m hz hsz hm1
  split at h
  rotate_left
  · cases h
  rename_i hcond
  obtain ⟨hmax, hby, hzl, hpos⟩ := hcond
  split at h
  rotate_left
  · cases h
  rename_i i S1 hnew
  injection h with h; injection h with e1 e2; subst e1; subst e2
  obtain ⟨ki, ey⟩ := asIdx_rel hy hm1
  subst ey
  cases hx
  have hs := run_szT hsz w
  obtain ⟨inf, zv, hi, hzv, hzr, hzone⟩ := zeroOf_spec (Γ := Γ) hz
  have hzvl : zv.cells.toList.length = sz := by rw [← hzl]; exact hzr.length.symm
  have hflat : ∀ (k : Nat), (List.replicate k zv.cells.toList).flatten.length = k * sz := by
    intro k; rw [List.length_flatten]; simp only [List.map_replicate, List.sum_replicate_nat, hzvl]
  have hbytes : P.bytesOf el = inf.bytes := by simp [Program.bytesOf, hi]
  rw [hbytes] at hby
  have hzc : ∀ (n : Nat), (Builtin.zeroCells zv.cells n).toList = (List.replicate n zv.cells.toList).flatten := fun n => madeCells_toList zv.cells n
  have hst0 : Step Γ S w Γ S w.drew := Step.of_heap hm rfl rfl rfl rfl
  have r1 : RelL Γ (repl (m + 1) z) (Builtin.zeroCells zv.cells (m + 1)).toList := by rw [hzc]; exact hzr.repl (m + 1)
  obtain ⟨Γ', hst, hφ, hes, hbs⟩ := Step.alloc (w := w.drew) (rest := (Builtin.zeroCells zv.cells (grownCap w (0 + (m + 1)) 0 el - (0 + (m + 1)))).toList) (el := el) (es := sz) hst0.mem hnew (Nat.zero_le _) r1 (by
    intro u hu
    rcases List.mem_append.1 hu with hu | hu
    · rw [hzc] at hu; exact one_repl hzone _ u hu
    · rw [hzc] at hu; exact one_repl hzone _ u hu)
  have hcap : 0 + (m + 1) ≤ grownCap w (0 + (m + 1)) 0 el := by unfold grownCap; simp [Question.cut]
  have hrun := run_app_zeros (rt := o.type) (ki := ki) ea0 ea1 hu hd hs hpos hi hzv hby hmax
  refine ⟨Γ', _, _, hexec _ _ hrun, hst0.trans hst, ?_⟩
  simp only [Nat.zero_add] at hcap hbs ⊢
  refine .ref _ _ _ _ _ _ _ hφ hes ?_ hcap (.inl rfl)
  show 0 + _ ≤ Γ'.bs w.drew.heap.size
  rw [hbs, List.length_append, hzc, hzc, hflat, hflat, ← Nat.add_mul]
  simp only [Nat.zero_add]
  exact Nat.mul_le_mul_right _ (by omega)

/-! conversions -/
theorem toBytes_rel : ∀ {cs : List V} {us : List Value} {l : List Nat}, RelL Γ cs us → toBytes cs = some l → ∃ ns : List Int, us = ns.map (Value.int .u8) ∧ l = ns.map Int.toNat ∧ ∀ n ∈ ns, 0 ≤ n ∧ n < 256
  | [], us, l, h, hl => by
    cases h
    injection hl with hl; subst hl
    exact ⟨[], rfl, rfl, by simp⟩
  | v :: cs, us, l, h, hl => by
    cases h with
    | cons _ u _ us' hu hs =>
      cases v <;> try (simp [toBytes] at hl; done)
      rename_i k n
      cases k <;> try (simp [toBytes] at hl; done)
      simp only [toBytes] at hl
      split at hl
      · rename_i hn
        split at hl
        · rename_i l' hl'
          injection hl with hl; subst hl
          obtain ⟨ns, e1, e2, e3⟩ := toBytes_rel hs hl'
          cases hu
          exact ⟨n :: ns, by simp [e1], by simp [e2], fun m hm => by
            rcases List.mem_cons.1 hm with h | h
            · subst h; exact hn
            · exact e3 m h⟩
        · cases hl
      · cases hl
theorem push_bytes : ∀ (ns : List Int) (s : ByteArray), (∀ n ∈ ns, 0 ≤ n ∧ n < 256) → (ns.foldl (fun r n => r.push (UInt8.ofNat n.toNat)) s).data.toList.map UInt8.toNat = s.data.toList.map UInt8.toNat ++ ns.map Int.toNat
  | [], s, _ => by simp
  | n :: ns, s, h => by
    rw [List.foldl_cons, push_bytes ns _ fun m hm => h m (by simp [hm])]
    have hn := h n (by simp)
    have : n.toNat % 256 = n.toNat := by omega
    simp [ByteArray.push, this]
theorem gives_convert (hm : Mem Γ S w) (ht : TR Γ t a) {src dst : TypeId} {x : Operand} (hop : o.op = .convert src dst x) (h : opConv P src dst (opd t x) S = some v) : Gives P Γ w a o v := by
  have hx := rel_opd ht x
  have key : ∃ y, (convert src dst (a.eval x)).run P w = .ok y w ∧ Rel Γ v y := by
    unfold opConv at h
    split at h
    · rename_i k1 k2 h1 h2
      generalize a.eval x = u at hx
      split at h
      · rename_i k n hv
        rw [hv] at hx
        injection h with h; subst h
        cases hx
        exact ⟨_, by simp [convert, run_underlying h1, run_underlying h2, Conv.intToInt], .int _ _⟩
      · cases h
    · rename_i e h1 h2
      split at h
      · rename_i he
        unfold bytesAt at h
        split at h
        · cases h
        · rename_i hns
          split at h
          · rename_i m cs hsrc
            split at h
            · rename_i l hl
              injection h with h; subst h
              obtain ⟨g1, us, g2, g3, g4, g5, _⟩ := src_rel (P := P) hm hx hsrc
              obtain ⟨ns, e1, e2, e3⟩ := toBytes_rel g2 hl
              have go : ∀ (ad : Option Addr) (len cap : Nat), a.eval x = .slice ad len cap → ∃ y, (convert src dst (a.eval x)).run P w = .ok y w ∧ Rel Γ (.str l) y := by
                intro ad len cap hv
                rw [hv] at g1 g5 ⊢
                rw [run_convert_bytes_string w src dst e ad len cap h1 he h2]
                cases ad with
                | none =>
                  refine ⟨.string .empty, by simp [Conv.bytesToString, Sem.run_pure], .str _ _ ?_⟩
                  have hu0 : us = [] := by
                    simp [Builtin.firstCells] at g5
                    exact g5
                  subst hu0
                  cases ns with
                  | nil => simp [e2]
                  | cons _ _ => simp at e1
                | some ad =>
                  have hlen : len = m := by simpa [Builtin.lenOf] using g1
                  subst hlen
                  refine ⟨_, run_bytesToString w ad len cap ns ?_, .str _ _ ?_⟩
                  · simp only [Builtin.firstCells, Nat.mul_one] at g5
                    rw [← e1]; exact g5
                  · rw [push_bytes ns _ e3, e2]; simp
              cases hv : opd t x with
              | nils => rw [hv] at hx; generalize hu : a.eval x = u at hx; cases hx; exact hu ▸ go _ _ _ hu
              | ref e' id off n => rw [hv] at hx; generalize hu : a.eval x = u at hx; cases hx; exact hu ▸ go _ _ _ hu
              | imm e' l' => rw [hv] at hx; generalize hu : a.eval x = u at hx; cases hx <;> exact hu ▸ go _ _ _ hu
              | str s => exact absurd hv (hns s)
              | _ => rw [hv] at hsrc; cases hsrc
            · cases h
          · cases h
      · cases h
    · cases h
  obtain ⟨y, hr, hv⟩ := key
  exact ⟨y, by simp [execOp, hop, hr], hv⟩
end
end Go.Vm

namespace Go.Vm
variable [Gl]
open Go.RowKit

theorem RelP.mono {Γ Γ' : Ctx} (hle : Γ.le Γ') {n : Nat} {l : List (V × V)} {q : List MapEntry} (h : RelP Γ n l q) : RelP Γ' n l q := by
  induction h with
  | nil n => exact .nil n
  | cons n k v e l es hk hv hb hs ih => exact .cons n k v e l es (hk.mono hle) (hv.mono hle) hb ih

/-- A new map. -/
theorem Step.allocMap {Γ : Ctx} {S S' : St} {w : World} (hm : Mem Γ S w) {i : Id} (hn : S.new (.map []) = some (i, S')) :
    ∃ Γ', Step Γ S w Γ' S' (w.alloc (.map #[] 0)) ∧ Γ'.φ i = some w.heap.size := by
  obtain ⟨hf, hg⟩ := St.new_eq hn
  have hi : Γ.φ i = none := by
    cases h : Γ.φ i with
    | none => rfl
    | some b => exact absurd hf (hm.alive i b h)
  let Γ' : Ctx := { φ := fun j => if j = i then some w.heap.size else Γ.φ j, bs := Γ.bs, es := Γ.es, μ := Γ.μ }
  have hne : ∀ (j : Id) (b : Nat), Γ.φ j = some b → j ≠ i := fun j b h e => by rw [e, hi] at h; cases h
  have hle : Γ.le Γ' := {
    φ := fun j b h => by simp only [Γ', if_neg (hne j b h)]; exact h
    bs := fun j b h => rfl
    es := fun j b h => rfl
    μ := fun _ _ _ h => h }
  have hold : ∀ (j : Id) (b : Nat), Γ'.φ j = some b → (j = i ∧ b = w.heap.size) ∨ (j ≠ i ∧ Γ.φ j = some b) := by
    intro j b h
    by_cases e : j = i
    · left; simp only [Γ', e, if_true, Option.some.injEq] at h; exact ⟨e, h.symm⟩
    · right; simp only [Γ', e, if_false] at h; exact ⟨e, h⟩
  have hcell : ∀ (a : Addr), a.block < w.heap.size → (w.alloc (.map #[] 0)).cell? a = w.cell? a := fun a h => World.cell?_alloc_lt w _ a h
  have hheap : ∀ (b : Nat), b < w.heap.size → (w.alloc (.map #[] 0)).heap[b]? = w.heap[b]? := fun b h => Below.heap_alloc w _ b h
  refine ⟨Γ', ?_, by simp [Γ']⟩
  exact {
    le := hle
    os := rfl
    tape := rfl
    output := rfl
    size := by simp
    frame := fun b hb _ => hheap b hb
    pend := fun j h1 h2 => by
      have : j ≠ i := fun e => by rw [e, hf] at h2; cases h2
      exact ⟨by rw [hg, if_neg this], by simp only [Γ', if_neg this]; exact h1⟩
    own := fun j b h1 hb => by
      rcases hold j b h1 with ⟨_, e⟩ | ⟨e, h⟩
      · omega
      · exact .inl ⟨h, fun h2 => by rw [hg, if_neg e] at h2; exact h2⟩
    mu := fun _ _ _ h => .inl h
    fz := fun a => by
      by_cases e : a.block = w.heap.size
      · have e1 : (w.alloc (.map #[] 0)).heap[a.block]? = some (.map #[] 0) := by rw [e]; exact (MapKept.heap_alloc w _).1
        have e2 : w.heap[a.block]? = none := by rw [e]; simp
        simp [World.frozen?, e1, e2]
      · have e1 : (w.alloc (.map #[] 0)).heap[a.block]? = w.heap[a.block]? := by
          rcases Nat.lt_or_ge a.block w.heap.size with h | h
          · exact hheap _ h
          · rw [Array.getElem?_eq_none h, Array.getElem?_eq_none (by simp; omega)]
        simp only [World.frozen?, e1]
    mem := {
      glb := fun g => (hm.glb g).mono hle
      fro := fun b o u hu => by
        have h := hm.fro b o u hu
        rw [hcell _ (World.block_lt_of_cell? w _ h)]; exact h
      lt := fun j b h => by
        rcases hold j b h with ⟨_, e⟩ | ⟨_, h⟩
        · simp [e]
        · have := hm.lt j b h; simp; omega
      alive := fun j b h => by
        rw [hg]
        rcases hold j b h with ⟨e, _⟩ | ⟨e, h⟩
        · rw [if_pos e]; simp
        · rw [if_neg e]; exact hm.alive j b h
      row := fun j b l fz anc h hs => by
        rw [hg] at hs
        rcases hold j b h with ⟨e, eb⟩ | ⟨e, h⟩
        · rw [if_pos e] at hs; cases hs
        · rw [if_neg e] at hs
          obtain ⟨c, el', h1, h2, h4, h5, h6⟩ := hm.row j b l fz anc h hs
          exact ⟨c, el', by rw [hheap b (hm.lt j b h)]; exact h1, h2, h4, h5.mono hle, h6⟩
      frz := fun j b l fz anc h hs => by
        rw [hg] at hs
        rcases hold j b h with ⟨e, eb⟩ | ⟨e, h⟩
        · rw [if_pos e] at hs; cases hs
        · rw [if_neg e] at hs; exact hm.frz j b l fz anc h hs
      old := fun j b l h hs => by
        rw [hg] at hs
        rcases hold j b h with ⟨e, eb⟩ | ⟨e, h⟩
        · rw [if_pos e] at hs; cases hs
        · rw [if_neg e] at hs
          obtain ⟨vs, h1, h2, h3⟩ := hm.old j b l h hs
          exact ⟨vs, h1.mono hle, fun k u hk => by rw [hcell _ (hm.lt j b h)]; exact h2 k u hk, h3⟩
      one := fun j j' b h h' hl hl' => by
        rw [hg] at hl hl'
        rcases hold j b h with ⟨e, eb⟩ | ⟨e, h⟩
        · rcases hold j' b h' with ⟨e', _⟩ | ⟨e', h'⟩
          · rw [e, e']
          · have := hm.lt j' b h'; omega
        · rcases hold j' b h' with ⟨e', eb'⟩ | ⟨e', h'⟩
          · have := hm.lt j b h; omega
          · rw [if_neg e] at hl; rw [if_neg e'] at hl'; exact hm.one j j' b h h' hl hl'
      anc := fun j b l fz anc j' l' h hs h' hs' => by
        rw [hg] at hs hs'
        rcases hold j' b h' with ⟨e', eb'⟩ | ⟨e', h'⟩
        · rw [if_pos e'] at hs'; cases hs'
        · rw [if_neg e'] at hs'
          rcases hold j b h with ⟨e, eb⟩ | ⟨e, h⟩
          · have := hm.lt j' b h'; omega
          · rw [if_neg e] at hs; exact hm.anc j b l fz anc j' l' h hs h' hs'
      map := fun j b l h hs => by
        rw [hg] at hs
        rcases hold j b h with ⟨e, eb⟩ | ⟨e, h⟩
        · rw [if_pos e] at hs; injection hs with hs; subst hs; subst eb
          exact ⟨#[], (MapKept.heap_alloc w _).1, .nil 0⟩
        · rw [if_neg e] at hs
          obtain ⟨es', h1, h2⟩ := hm.map j b l h hs
          exact ⟨es', by rw [hheap b (hm.lt j b h)]; exact h1, h2.mono hle⟩
      mst := fun j j' b l l' h hs h' hs' => by
        rw [hg] at hs hs'
        rcases hold j' b h' with ⟨e', eb'⟩ | ⟨e', h'⟩
        · rw [if_pos e'] at hs'; cases hs'
        · rw [if_neg e'] at hs'
          rcases hold j b h with ⟨e, eb⟩ | ⟨e, h⟩
          · have := hm.lt j' b h'; omega
          · rw [if_neg e] at hs; exact hm.mst j j' b l l' h hs h' hs' } }

/-- A map is written. -/
theorem Step.setMap {Γ : Ctx} {S : St} {w w' : World} (hm : Mem Γ S w) {id : Id} {b : Nat} {l l' : List (V × V)} {es es' : Array MapEntry} (hφ : Γ.φ id = some b) (hs : S.get id = .map l)
    (hb : w.heap[b]? = some (.map es es.size)) (hb' : w'.heap[b]? = some (.map es' es'.size)) (hr : RelP Γ 0 l' es'.toList)
    (hother : ∀ (k : Nat), k ≠ b → w'.heap[k]? = w.heap[k]?) (hsize : w'.heap.size = w.heap.size) (hos : w'.os = w.os) (htape : w'.tape = w.tape) (hout : w'.output = w.output) :
    Step Γ S w Γ (S.set id (.map l')) w' := by
  have hget : ∀ j, (S.set id (.map l')).get j = if j = id then .map l' else S.get j := fun j => rfl
  have hcell : ∀ (a : Addr), w'.cell? a = w.cell? a := by
    intro a
    by_cases ha : a.block = b
    · simp only [World.cell?, ha, hb', hb]
    · simp only [World.cell?, hother a.block ha]
  have hlive : ∀ j, ((S.set id (.map l')).get j).live = (S.get j).live := by
    intro j; rw [hget]; split
    · rename_i e; rw [e, hs]; rfl
    · rfl
  have hkb : ∀ j k, Γ.φ j = some k → j ≠ id → (S.get j).live = true → k ≠ b := fun j k h hj hl e => hj (hm.one j id k h (e ▸ hφ) hl (by rw [hs]; rfl))
  refine { le := .refl Γ, os := hos, tape := htape, output := hout, size := by rw [hsize]; exact Nat.le_refl _, frame := ?frame, pend := ?pend, own := ?own, mu := fun _ _ _ h => .inl h, fz := ?fz, mem := ?mem }
  case fz =>
    intro a
    by_cases e : a.block = b
    · simp [World.frozen?, e, hb, hb']
    · simp only [World.frozen?, hother a.block e]
  case frame =>
    intro k hk hn
    refine hother k (fun e => ?_)
    have := hn id (e ▸ hφ)
    rw [hs] at this; cases this
  case pend =>
    intro j h1 h2
    have hj : j ≠ id := fun e => by rw [e, hφ] at h1; cases h1
    exact ⟨by rw [hget, if_neg hj], h1⟩
  case own => exact fun j k h1 _ => .inl ⟨h1, fun h2 => by rw [hlive] at h2; exact h2⟩
  case mem =>
    exact {
      glb := hm.glb
      fro := fun k o u hu => by rw [hcell]; exact hm.fro k o u hu
      lt := fun j k h => by rw [hsize]; exact hm.lt j k h
      alive := fun j k h => by
        rw [hget]; split
        · simp
        · exact hm.alive j k h
      row := fun j k l1 fz anc h hs' => by
        rw [hget] at hs'
        by_cases hj : j = id
        · rw [if_pos hj] at hs'; cases hs'
        · rw [if_neg hj] at hs'
          obtain ⟨c, el, g1, g2, g4, g5, g6⟩ := hm.row j k l1 fz anc h hs'
          exact ⟨c, el, by rw [hother k (hkb j k h hj (by rw [hs']; rfl))]; exact g1, g2, g4, g5, g6⟩
      frz := fun j k l1 fz anc h hs' => by
        rw [hget] at hs'
        by_cases hj : j = id
        · rw [if_pos hj] at hs'; cases hs'
        · rw [if_neg hj] at hs'; exact hm.frz j k l1 fz anc h hs'
      old := fun j k l1 h hs' => by
        rw [hget] at hs'
        by_cases hj : j = id
        · rw [if_pos hj] at hs'; cases hs'
        · rw [if_neg hj] at hs'
          obtain ⟨vs', g1, g2, g3⟩ := hm.old j k l1 h hs'
          exact ⟨vs', g1, fun i u hi => by rw [hcell]; exact g2 i u hi, g3⟩
      one := fun j j' k h h' hl hl' => by rw [hlive] at hl hl'; exact hm.one j j' k h h' hl hl'
      anc := fun j k l1 fz anc j' l2 h hs' h' hs'' => by
        rw [hget] at hs' hs''
        by_cases hj' : j' = id
        · rw [if_pos hj'] at hs''; cases hs''
        · by_cases hj : j = id
          · rw [if_pos hj] at hs'; cases hs'
          · rw [if_neg hj'] at hs''; rw [if_neg hj] at hs'; exact hm.anc j k l1 fz anc j' l2 h hs' h' hs''
      map := fun j k l1 h hs' => by
        rw [hget] at hs'
        by_cases hj : j = id
        · rw [if_pos hj] at hs'; injection hs' with hs'; subst hs'; subst hj
          rw [hφ] at h; injection h with h; subst h
          exact ⟨es', hb', hr⟩
        · rw [if_neg hj] at hs'
          obtain ⟨q, g1, g2⟩ := hm.map j k l1 h hs'
          exact ⟨q, by rw [hother k (hkb j k h hj (by rw [hs']; rfl))]; exact g1, g2⟩
      mst := fun j j' k l1 l2 h hs' h' hs'' => by
        rw [hget] at hs' hs''
        by_cases hj' : j' = id
        · rw [if_pos hj'] at hs''; cases hs''
        · rw [if_neg hj'] at hs''
          by_cases hj : j = id
          · subst hj; exact hm.mst j j' k l l2 h hs h' hs''
          · rw [if_neg hj] at hs'; exact hm.mst j j' k l1 l2 h hs' h' hs'' }

section
variable {P : Program} {Γ : Ctx} {S S' : St} {w : World} {t : Tm} {a : Act} {o : Oper} {v : V} {call : CallF}

theorem cutV_rel {k : Nat} {y y' : V} {uy : Value} (hy : Rel Γ y uy) (h : cutV k y = some y') : ∃ base m cap, uy = .slice base m cap ∧ Rel Γ y' (.slice base (Nat.min m k) cap) := by
  cases hy <;> simp only [cutV] at h <;> try (cases h; done)
  case nils => injection h with h; subst h; exact ⟨none, 0, 0, rfl, by rw [show Nat.min 0 k = 0 from Nat.zero_min k]; exact .nils⟩
  case imm e l b off n cap hE hn hc =>
    injection h with h; subst h
    refine ⟨_, _, _, rfl, .imm e _ b off _ cap (hE.take k) ?_ ?_⟩
    · rw [List.length_take, hn]; exact Nat.min_comm _ _
    · exact Nat.le_trans (Nat.min_le_left _ _) hc
  case imz e a => injection h with h; subst h; exact ⟨some a, 0, 0, rfl, by rw [show Nat.min 0 k = 0 from Nat.zero_min k]; simpa using Rel.imz e a⟩
  case ref e id off off' n cap b hφ he hc hn ho =>
    injection h with h; subst h
    refine ⟨_, _, _, rfl, ?_⟩
    have : (if n ≤ k then n else k) = Nat.min n k := by
      show _ = min n k
      rw [Nat.min_def]
    rw [this]
    exact .ref e id off off' _ cap b hφ he hc (Nat.le_trans (Nat.min_le_left _ _) hn) ho
theorem firstCells_len (sz k m m' cap : Nat) (base : Option Addr) : Builtin.firstCells sz k (.slice base m cap) = Builtin.firstCells sz k (.slice base m' cap) := by
  cases base <;> rfl

theorem comes_copy (hm : Mem Γ S w) (ht : TR Γ t a) {c : Call} {x y : Operand} {ty : TypeId} {r : List TypeId} (hop : o.op = .call c) (hc : c.callee = .builtin .copy) (hargs : c.args.toList = [x, y]) (htys : c.argTypes.toList = ty :: r)
    (h : opCopy P ty (opd t x) (opd t y) S = some (v, S')) : Comes' P Γ S w a o v S' := by
  have hexec : ∀ w' u, (Builtin.copy_ c.argTypes o.type #[a.eval x, a.eval y]).run P w = .ok u w' → (execOp a.eval o).run P w = .ok (.value u) w' := by
    intro w' u hr
    have e1 : c.args.map a.eval = #[a.eval x, a.eval y] := by
      apply Array.ext'; simp [hargs]
    simp [execOp, hop, resolve, hc, invoke, builtin, e1, hr]
  have ea0 : c.argTypes[0]? = some ty := by rw [← Array.getElem?_toList, htys]; rfl
  have hx := rel_opd ht x
  have hy := rel_opd ht y
  generalize hev : a.eval x = ux at hx hexec
  generalize hevy : a.eval y = uy at hy hexec
  generalize opd t x = vx at h hx
  generalize opd t y = vy at h hy
  unfold opCopy at h
  split at h
  rotate_left
  · cases h
  rename_i el hu
  split at h
  rotate_left
  · cases h
  rename_i sz e id off n hsz
  have hs := run_szT hsz w
  split at h
  rotate_left
  · cases h
  rename_i y' hcut
  obtain ⟨base, m, cap, e1, hy'⟩ := cutV_rel hy hcut
  subst e1
  cases hx with
  | ref _ _ _ off' _ cap' b hφ he hcp hn ho =>
    have run : ∀ (k : Nat) (us : List Value) (w' : World), Nat.min m n = k → (Builtin.firstCells sz k (.slice base m cap)).run P w = .ok us.toArray w → (storeCells ⟨b, off', none⟩ us).run P w = .ok () w' →
        (Builtin.copy_ c.argTypes o.type #[.slice (some ⟨b, off', none⟩) n cap', .slice base m cap]).run P w = .ok (.int .i64 k) w' := by
      intro k us w' hk hf hst
      simp [Builtin.copy_, ea0, run_underlying hu, Builtin.lenOf, hs, hk, hf, hst, goInt]
    split at h
    · rename_i new hsrc
      injection h with h; injection h with e1 e2; subst e1; subst e2
      obtain ⟨h1, us, h2, h3, h4, h5, _⟩ := src_rel (P := P) hm hy' hsrc
      have hk : Nat.min m n = 0 := by simpa [Builtin.lenOf] using h1
      have hus : us = [] := by apply List.eq_nil_of_length_eq_zero; omega
      subst hus
      refine ⟨Γ, w, .int .i64 0, hexec _ _ (run 0 [] w hk (by rw [firstCells_len sz 0 m (Nat.min m n)]; exact h5) ?_), .refl hm, .int _ _⟩
      simp [storeCells]
    · rename_i k new hsrc
      split at h
      rotate_left
      · cases h
      rename_i S1 hw
      injection h with h; injection h with e1 e2; subst e1; subst e2
      obtain ⟨h1, us, h2, h3, h4, h5, _⟩ := src_rel (P := P) hm hy' hsrc
      have hk : Nat.min m n = k + 1 := by simpa [Builtin.lenOf] using h1
      have hoff : off' = off := by
        rcases ho with ho | ho
        · exact ho
        · have := Nat.min_le_right m n
          have h9 : Nat.min m n ≤ n := this
          omega
      subst hoff
      obtain ⟨b', o', w', g1, g2, g3⟩ := writeAt_spec (P := P) hm (.ptr id off' b hφ) hw h2 h3
      injection g1 with g1; injection g1 with g1; injection g1 with g1 g1' _; subst g1; subst g1'
      exact ⟨Γ, w', _, hexec _ _ (run (k + 1) us w' hk (by rw [firstCells_len sz (k + 1) m (Nat.min m n)]; exact h5) g2), g3, .int _ _⟩
    · cases h

theorem comes_clear (hm : Mem Γ S w) (ht : TR Γ t a) {c : Call} {x : Operand} {ty : TypeId} (hop : o.op = .call c) (hc : c.callee = .builtin .clear) (hargs : c.args.toList = [x]) (htys : c.argTypes.toList = [ty])
    (h : opClear P ty (opd t x) S = some (v, S')) : Comes' P Γ S w a o v S' := by
  have hexec : ∀ w' u, (Builtin.clear_ c.argTypes o.type #[a.eval x]).run P w = .ok u w' → (execOp a.eval o).run P w = .ok (.value u) w' := by
    intro w' u hr
    have e1 : c.args.map a.eval = #[a.eval x] := by
      apply Array.ext'; simp [hargs]
    simp [execOp, hop, resolve, hc, invoke, builtin, e1, hr]
  have ea0 : c.argTypes[0]? = some ty := by rw [← Array.getElem?_toList, htys]; rfl
  have hx := rel_opd ht x
  generalize hev : a.eval x = ux at hx hexec
  generalize opd t x = vx at h hx
  unfold opClear at h
  split at h
  rotate_left
  · cases h
  rename_i el hu
  split at h
  · injection h with h; injection h with e1 e2; subst e1; subst e2
    cases hx
    exact ⟨Γ, w, .tuple #[], hexec _ _ (by simp [Builtin.clear_, ea0, run_underlying hu]), .refl hm, .tup _ _ .nil⟩
  · injection h with h; injection h with e1 e2; subst e1; subst e2
    cases hx
    exact ⟨Γ, w, .tuple #[], hexec _ _ (by simp [Builtin.clear_, ea0, run_underlying hu]), .refl hm, .tup _ _ .nil⟩
  · rename_i e id off n
    split at h
    rotate_left
    · cases h
    rename_i z hz
    split at h
    rotate_left
    · cases h
    rename_i S1 hw
    injection h with h; injection h with e1 e2; subst e1; subst e2
    obtain ⟨inf, zv, hi, hzv, hr, hone⟩ := zeroOf_spec (Γ := Γ) hz
    have hzc : ∀ (n : Nat), (Builtin.zeroCells zv.cells n).toList = (List.replicate n zv.cells.toList).flatten := fun n => madeCells_toList zv.cells n
    cases hx with
    | ref _ _ _ off' _ cap' b hφ he hcp hn ho =>
      have hoff : off' = off := by
        rcases ho with ho | ho
        · exact ho
        · omega
      subst hoff
      obtain ⟨b', o', w', g1, g2, g3⟩ := writeAt_spec (P := P) hm (.ptr id off' b hφ) hw (hr.repl (n + 1)) (one_repl hone _)
      injection g1 with g1; injection g1 with g1; injection g1 with g1 g1' _; subst g1; subst g1'
      refine ⟨Γ, w', .tuple #[], hexec _ _ ?_, g3, .tup _ _ .nil⟩
      rw [← hzc] at g2
      simp [Builtin.clear_, ea0, run_underlying hu, zeroValue, typeInfo, hi, hzv, g2]
  · cases h
theorem comes_makeMap (hm : Mem Γ S w) {ty : TypeId} (hop : o.op = .makeMap ty none) (h : opMakeMap S = some (v, S')) : Comes' P Γ S w a o v S' := by
  unfold opMakeMap at h
  split at h
  · rename_i i S1 hn
    injection h with h; injection h with e1 e2; subst e1; subst e2
    obtain ⟨Γ', hst, hφ⟩ := Step.allocMap hm hn
    refine ⟨Γ', _, .map (some w.heap.size), ?_, hst, .map i _ hφ⟩
    simp [execOp, hop, Instr.makeMap]
  · cases h

theorem simpleK_eq {ty : TypeId} {kk : KeyKind} {el : TypeId} (h : simpleK P ty = some (kk, el)) : ∃ kt, P.underlying ty = some (.map kt el) ∧
    ((∃ d, kk = .plain d ∧ P.underlying kt = some d ∧ ((∃ k, d = .int k) ∨ d = .string ∨ d = .bool)) ∨ (∃ fs, kk = .str kt fs.size ∧ P.underlying kt = some (.struct fs) ∧ keyFs P fs.toList 0 = true)) := by
  unfold simpleK at h
  split at h
  · rename_i kt el' hu
    split at h
    · rename_i k hk; injection h with h; injection h with e1 e2; subst e1; subst e2; exact ⟨kt, hu, .inl ⟨_, rfl, hk, by simp⟩⟩
    · rename_i hk; injection h with h; injection h with e1 e2; subst e1; subst e2; exact ⟨kt, hu, .inl ⟨_, rfl, hk, by simp⟩⟩
    · rename_i hk; injection h with h; injection h with e1 e2; subst e1; subst e2; exact ⟨kt, hu, .inl ⟨_, rfl, hk, by simp⟩⟩
    · rename_i fs hk
      split at h
      · rename_i hc
        injection h with h; injection h with e1 e2; subst e1; subst e2
        exact ⟨kt, hu, .inr ⟨fs, rfl, hk, hc.1⟩⟩
      · cases h
    · cases h
  · cases h
theorem keyEq_now {d : TypeDesc} {x y : V} {ux uy : Value} {b : Bool} (h : keyEq d x y = some b) (hx : Rel Γ x ux) (hy : Rel Γ y uy) : Instr.sameNow d ux uy = some b := by
  unfold keyEq at h
  split at h <;> try (cases h; done)
  · cases hx <;> cases hy <;> simp only [scalarEq] at h <;> try (cases h; done)
    split at h
    · rename_i e; subst e; simpa [Instr.sameNow] using h
    · cases h
  · cases hx <;> cases hy <;> simp only [scalarEq] at h <;> try (cases h; done)
    rename_i s1 l1 h1 s2 l2 h2
    subst h1; subst h2
    rw [map_toNat_inj] at h
    simp only [Instr.sameNow]
    injection h with h
    rw [← h]
    congr 1
    rw [Bool.eq_iff_iff]
    simp only [beq_iff_eq]
    constructor
    · intro e
      have e' : (s1.data == s2.data) = true := e
      rw [eq_of_beq e']
    · intro e
      show (s1.data == s2.data) = true
      rw [Array.toList_inj.1 e]
      simp
  · cases hx <;> cases hy <;> simp only [scalarEq] at h <;> try (cases h; done)
    simpa [Instr.sameNow] using h


/-! ### places -/
/-- Where the key lies. -/
def findPos (eq : V → V → Option Bool) (k : V) : List (V × V) → Option (Option Nat)
  | [] => some none
  | e :: es => match eq k e.1 with
    | some true => some (some 0)
    | some false => match findPos eq k es with
      | some (some j) => some (some (j + 1))
      | some none => some none
      | none => none
    | none => none
theorem findM_pos {eq : V → V → Option Bool} {k : V} : ∀ (l : List (V × V)) (r : Option V), findM eq k l = some r → (findPos eq k l = some none ∧ r = none) ∨ ∃ j e, findPos eq k l = some (some j) ∧ l[j]? = some e ∧ r = some e.2
  | [], r, h => by simp only [findM, Option.some.injEq] at h; exact .inl ⟨rfl, h.symm⟩
  | e :: es, r, h => by
    simp only [findM] at h
    split at h
    · rename_i hq; injection h with h; exact .inr ⟨0, e, by simp only [findPos, hq], rfl, h.symm⟩
    · rename_i hq
      rcases findM_pos es r h with ⟨h1, h2⟩ | ⟨j, e', h1, h2, h3⟩
      · exact .inl ⟨by simp only [findPos, hq, h1], h2⟩
      · exact .inr ⟨j + 1, e', by simp only [findPos, hq, h1], by simpa using h2, h3⟩
    · cases h
theorem setM_pos {eq : V → V → Option Bool} {k v : V} : ∀ (l l' : List (V × V)), setM eq k v l = some l' → (findPos eq k l = some none ∧ l' = l ++ [(k, v)]) ∨ ∃ j e, findPos eq k l = some (some j) ∧ l[j]? = some e ∧ l' = l.set j (k, v)
  | [], l', h => by simp only [setM, Option.some.injEq] at h; exact .inl ⟨rfl, h.symm⟩
  | e :: es, l', h => by
    simp only [setM] at h
    split at h
    · rename_i hq; injection h with h; exact .inr ⟨0, e, by simp only [findPos, hq], rfl, h.symm⟩
    · rename_i hq
      split at h
      · rename_i l1 hl
        injection h with h; subst h
        rcases setM_pos es l1 hl with ⟨h1, h2⟩ | ⟨j, e', h1, h2, h3⟩
        · exact .inl ⟨by simp only [findPos, hq, h1], by rw [h2]; rfl⟩
        · exact .inr ⟨j + 1, e', by simp only [findPos, hq, h1], by simpa using h2, by rw [h3]; rfl⟩
      · cases h
    · cases h
theorem entryM_pos {eq : V → V → Option Bool} {k z : V} : ∀ (l l' : List (V × V)) (v : V) (i : Nat), entryM eq k z l = some (l', v, i) →
    (findPos eq k l = some none ∧ l' = l ++ [(k, z)] ∧ v = z ∧ i = l.length) ∨ ∃ e, findPos eq k l = some (some i) ∧ l[i]? = some e ∧ l' = l.set i (k, e.2) ∧ v = e.2
  | [], l', v, i, h => by simp only [entryM, Option.some.injEq, Prod.mk.injEq] at h; obtain ⟨h1, h2, h3⟩ := h; exact .inl ⟨rfl, h1.symm, h2.symm, h3.symm⟩
  | e :: es, l', v, i, h => by
    simp only [entryM] at h
    split at h
    · rename_i hq
      simp only [Option.some.injEq, Prod.mk.injEq] at h; obtain ⟨h1, h2, h3⟩ := h; subst h3
      exact .inr ⟨e, by simp only [findPos, hq], rfl, h1.symm, h2.symm⟩
    · rename_i hq
      split at h
      · rename_i l1 v1 i1 hl
        simp only [Option.some.injEq, Prod.mk.injEq] at h; obtain ⟨h1, h2, h3⟩ := h; subst h1; subst h2; subst h3
        rcases entryM_pos es l1 v1 i1 hl with ⟨g1, g2, g3, g4⟩ | ⟨e', g1, g2, g3, g4⟩
        · exact .inl ⟨by simp only [findPos, hq, g1], by rw [g2]; rfl, g3, by rw [g4]; rfl⟩
        · exact .inr ⟨e', by simp only [findPos, hq, g1], by simpa using g2, by rw [g3]; rfl, g4⟩
      · cases h
    · cases h
theorem RelP.get {n : Nat} {l : List (V × V)} {es : List MapEntry} (h : RelP Γ n l es) : ∀ {j : Nat} {e : V × V}, l[j]? = some e → ∃ u, es[j]? = some u ∧ Rel Γ e.1 u.key ∧ Rel Γ e.2 u.val ∧ u.born = n + j := by
  induction h with
  | nil n => intro j e h; simp at h
  | cons n k v e l es hk hv hb hs ih =>
    intro j e' h
    cases j with
    | zero => simp at h; subst h; exact ⟨e, rfl, hk, hv, hb⟩
    | succ j =>
      obtain ⟨u, h1, h2, h3, h4⟩ := ih (by simpa using h)
      exact ⟨u, by simpa using h1, h2, h3, by omega⟩
theorem RelP.length {n : Nat} {l : List (V × V)} {es : List MapEntry} (h : RelP Γ n l es) : l.length = es.length := by
  induction h with
  | nil => rfl
  | cons _ _ _ _ _ _ _ _ _ _ ih => simp [ih]
theorem RelP.push {n : Nat} {l : List (V × V)} {es : List MapEntry} (h : RelP Γ n l es) {k x : V} {uk ux : Value} (hk : Rel Γ k uk) (hx : Rel Γ x ux) : RelP Γ n (l ++ [(k, x)]) (es ++ [{ key := uk, val := ux, born := n + es.length }]) := by
  induction h with
  | nil n => exact .cons n _ _ _ _ _ hk hx rfl (.nil _)
  | cons n k' v' e l es hk' hv' hb hs ih =>
    refine .cons n _ _ _ _ _ hk' hv' hb ?_
    rw [show n + (e :: es).length = n + 1 + es.length by simp; omega]
    exact ih
theorem RelP.set {n : Nat} {l : List (V × V)} {es : List MapEntry} (h : RelP Γ n l es) {k x : V} {uk ux : Value} (hk : Rel Γ k uk) (hx : Rel Γ x ux) : ∀ {j : Nat} {e : MapEntry}, es[j]? = some e → RelP Γ n (l.set j (k, x)) (es.set j { e with key := uk, val := ux }) := by
  induction h with
  | nil n => intro j e h; simp at h
  | cons n k' v' e l es hk' hv' hb hs ih =>
    intro j e' h
    cases j with
    | zero => simp at h; subst h; exact .cons n _ _ _ _ _ hk hx hb hs
    | succ j => exact .cons n _ _ _ _ _ hk' hv' hb (ih (by simpa using h))

/-! ### the model's search -/
theorem pos_now {d : TypeDesc} {k : V} {uk : Value} (hk : Rel Γ k uk) : ∀ (l : List (V × V)) (es : List MapEntry) (n i : Nat) (r : Option Nat), RelP Γ n l es → findPos (eqOf P (.plain d)) k l = some r →
    match r with
    | none => Instr.findNow d uk es i = some none
    | some j => ∃ e, es[j]? = some e ∧ Instr.findNow d uk es i = some (some (i + j, e.val)) ∧ Instr.sameNow d uk e.key = some true
  | [], _, _, i, r, .nil n, h => by
    simp only [findPos, Option.some.injEq] at h; subst h; rfl
  | (k', v') :: l, _, _, i, r, .cons n _ _ e _ es hk' hv' hb hs, h => by
    simp only [findPos] at h
    split at h
    · rename_i hq
      injection h with h; subst h
      exact ⟨e, rfl, by simp only [Instr.findNow, keyEq_now hq hk hk']; rfl, keyEq_now hq hk hk'⟩
    · rename_i hq
      have e1 : Instr.findNow d uk (e :: es) i = Instr.findNow d uk es (i + 1) := by simp only [Instr.findNow, keyEq_now hq hk hk']
      split at h
      · rename_i j hj
        injection h with h; subst h
        obtain ⟨e', h1, h2, h3⟩ := pos_now hk l es (n + 1) (i + 1) _ hs hj
        exact ⟨e', by simpa using h1, by rw [e1, h2]; congr 3; omega, h3⟩
      · rename_i hj
        injection h with h; subst h
        have := pos_now hk l es (n + 1) (i + 1) _ hs hj
        show Instr.findNow d uk (e :: es) i = some none
        rw [e1]; exact this
      · cases h
    · cases h
theorem eqOf_run {kt : TypeId} {m : Nat} {x y : V} {b : Bool} {ux uy : Value} (h : eqOf P (.str kt m) x y = some b) (hx : Rel Γ x ux) (hy : Rel Γ y uy) : (Op.equal kt ux uy).run P w = .ok b w := by
  simp only [eqOf] at h
  split at h
  · split at h
    · exact run_eql_of h hx hy
    · cases h
  · cases h
theorem fieldsEq_same : ∀ (fs : List Field) (i : Nat) (xs ys : List V) (ax ay : List Value), keyFs P fs i = true → fieldsEq P fs xs ys = some true → RelL Γ xs ax → RelL Γ ys ay → xs.length = i + fs.length → ys.length = i + fs.length →
    ∀ j, i ≤ j → j < i + fs.length → ∃ kd z, ax[j]? = some (.int kd z) ∧ ay[j]? = some (.int kd z)
  | [], i, xs, ys, ax, ay, _, _, _, _, _, _, j, h1, h2 => by simp at h2; omega
  | f :: fs, i, xs, ys, ax, ay, hk, he, hx, hy, lx, ly, j, h1, h2 => by
    simp only [keyFs, Bool.and_eq_true, decide_eq_true_eq] at hk
    obtain ⟨⟨⟨k1, k2⟩, k3⟩, k4⟩ := hk
    unfold fieldsEq at he
    rw [if_neg k1] at he
    split at he
    · rename_i desc x y hu hxx hyy
      split at he
      · rename_i htrue
        by_cases hj : j = i
        · subst hj
          rw [k2] at hxx hyy
          obtain ⟨ux, g1, g2⟩ := hx.get hxx
          obtain ⟨uy, g3, g4⟩ := hy.get hyy
          rw [hu] at k3
          cases desc <;> simp only [] at k3 <;> try (cases k3; done)
          cases g2 <;> cases g4 <;> simp only [scalarEq] at htrue <;> try (cases htrue; done)
          split at htrue
          · rename_i e; subst e
            injection htrue with htrue
            simp at htrue
            subst htrue
            exact ⟨_, _, g1, g3⟩
          · cases htrue
        · exact fieldsEq_same fs (i + 1) xs ys ax ay k4 he hx hy (by simp at lx; omega) (by simp at ly; omega) j (by omega) (by simp at h2; omega)
      · cases he
      · cases he
    · cases he
theorem sameBits_of {n : Nat} : ∀ (a b : List Value), a.length = b.length → (∀ j, j < a.length → ∃ kd z, a[j]? = some (.int kd z) ∧ b[j]? = some (.int kd z)) → (a.zip b).all (fun (x, y) => Instr.sameBits n x y) = true
  | [], b, _, _ => by simp
  | x :: a, [], h, _ => by simp at h
  | x :: a, y :: b, h, hh => by
    obtain ⟨kd, z, h1, h2⟩ := hh 0 (by simp)
    simp at h1 h2
    subst h1; subst h2
    simp only [List.zip_cons_cons, List.all_cons, Bool.and_eq_true]
    refine ⟨?_, sameBits_of a b (by simpa using h) fun j hj => by simpa using hh (j + 1) (by simpa using hj)⟩
    cases n <;> simp [Instr.sameBits]
theorem str_bits {kt : TypeId} {fs : Array Field} {x y : V} {ux uy : Value} (hu : P.underlying kt = some (.struct fs)) (hf : keyFs P fs.toList 0 = true) (h : eqOf P (.str kt fs.size) x y = some true) (hx : Rel Γ x ux) (hy : Rel Γ y uy) :
    Instr.sameBits 10000 uy ux = true := by
  simp only [eqOf] at h
  split at h
  · rename_i xs ys
    split at h
    · rename_i hc
      obtain ⟨c1, c2⟩ := hc
      cases hx with
      | agg _ ax hrx _ =>
        cases hy with
        | agg _ ay hry _ =>
          unfold typedEq at h
          rw [hu] at h
          simp only [] at h
          split at h
          · cases h
          · have key := fieldsEq_same fs.toList 0 xs ys ax.toList ay.toList hf h hrx hry (by simpa using c1) (by simpa using c2)
            have l1 := hrx.length
            have l2 := hry.length
            have l1' : ax.size = fs.size := by rw [← c1, l1]; simp
            have l2' : ay.size = fs.size := by rw [← c2, l2]; simp
            rw [Instr.sameBits]
            rw [Bool.and_eq_true]
            refine ⟨by rw [l1', l2']; simp, sameBits_of _ _ (by simp [l1', l2']) fun j hj => ?_⟩
            obtain ⟨kd, z, g1, g2⟩ := key j (Nat.zero_le _) (by simp at hj ⊢; omega)
            exact ⟨kd, z, g2, g1⟩
    · cases h
  · cases h
theorem pos_ask {kt : TypeId} {m : Nat} {k : V} {uk : Value} (hk : Rel Γ k uk) : ∀ (l : List (V × V)) (es : List MapEntry) (n i : Nat) (r : Option Nat), RelP Γ n l es → findPos (eqOf P (.str kt m)) k l = some r →
    match r with
    | none => (Instr.findAsking kt uk es i).run P w = .ok none w
    | some j => ∃ e x, es[j]? = some e ∧ (Instr.findAsking kt uk es i).run P w = .ok (some (i + j, e.val)) w ∧ eqOf P (.str kt m) k x = some true ∧ Rel Γ x e.key
  | [], _, _, i, r, .nil n, h => by
    simp only [findPos, Option.some.injEq] at h; subst h; simp [Instr.findAsking]
  | (k', v') :: l, _, _, i, r, .cons n _ _ e _ es hk' hv' hb hs, h => by
    simp only [findPos] at h
    split at h
    · rename_i hq
      injection h with h; subst h
      exact ⟨e, k', rfl, by simp [Instr.findAsking, eqOf_run (w := w) hq hk hk'], hq, hk'⟩
    · rename_i hq
      have e1 : (Instr.findAsking kt uk (e :: es) i).run P w = (Instr.findAsking kt uk es (i + 1)).run P w := by simp [Instr.findAsking, eqOf_run (w := w) hq hk hk']
      split at h
      · rename_i j hj
        injection h with h; subst h
        obtain ⟨e', x, h1, h2, h3⟩ := pos_ask hk l es (n + 1) (i + 1) _ hs hj
        exact ⟨e', x, by simpa using h1, by rw [e1, h2]; congr 3; omega, h3⟩
      · rename_i hj
        injection h with h; subst h
        have := pos_ask hk l es (n + 1) (i + 1) _ hs hj
        show (Instr.findAsking kt uk (e :: es) i).run P w = .ok none w
        rw [e1]; exact this
      · cases h
    · cases h

theorem run_checkPlain {kt : TypeId} {d : TypeDesc} {uk : Value} {b : Bool} (hu : P.underlying kt = some d) (hd : (∃ k, d = .int k) ∨ d = .string ∨ d = .bool) : (Instr.checkKey b 10000 kt uk).run P w = .ok () w := by
  rw [Instr.checkKey]
  rcases hd with ⟨k, rfl⟩ | rfl | rfl <;> simp [run_underlying hu]
theorem sameNow_bits {d : TypeDesc} {x y : Value} (h : Instr.sameNow d x y = some true) : Instr.sameBits 10000 y x = true := by
  unfold Instr.sameNow at h
  split at h
  · split at h
    · rename_i e; subst e
      injection h with h
      simp [Instr.sameBits] at h ⊢
      exact h.symm
    · cases h
  · rename_i x y
    injection h with h
    have h' : (x.data == y.data) = true := h
    have : x = y := ByteArray.ext (eq_of_beq h')
    subst this
    exact h
  · injection h with h
    simp [Instr.sameBits] at h ⊢
    exact h.symm
  · cases h

theorem run_checkStr {kt : TypeId} {fs : Array Field} (hu : P.underlying kt = some (.struct fs)) (hf : keyFs P fs.toList 0 = true) {cs : Array Value} (hl : cs.size = fs.size) (b : Bool) : (Instr.checkKey b 10000 kt (.agg cs)).run P w = .ok () w := by
  rw [Instr.checkKey]
  simp only [Sem.run_bind, run_underlying hu, Result.andThen_ok]
  rw [← Array.forIn_toList]
  have hl' : 0 + fs.toList.length ≤ cs.size := by simp [hl]
  generalize fs.toList = L at hf hl'
  generalize 0 = i at hf hl'
  induction L generalizing i with
  | nil => simp
  | cons f L ih =>
    simp only [keyFs, Bool.and_eq_true, decide_eq_true_eq] at hf
    obtain ⟨⟨⟨k1, k2⟩, k3⟩, k4⟩ := hf
    have hlt : i < cs.size := by simp at hl'; omega
    cases hd : P.underlying f.type with
    | none => rw [hd] at k3; cases k3
    | some desc =>
      rw [hd] at k3
      cases desc <;> simp only [] at k3 <;> try (cases k3; done)
      rename_i kd
      have ha : (isAgg f.type).run P w = .ok false w := by
        unfold isAgg
        rw [Sem.run_bind, run_underlying hd w, Result.andThen_ok]; rfl
      have hux : cs[f.offset]? = some cs[i] := by rw [k2]; simp [hlt]
      have p1 : (Go.part f.type cs f.offset).run P w = .ok cs[i] w := by simp [Go.part, ha, hux]
      have p2 : (Instr.checkKey b 9999 f.type cs[i]).run P w = .ok () w := by
        rw [Instr.checkKey]
        simp [run_underlying hd]
      simp only [List.forIn_cons, Sem.run_bind, k1, ne_eq, not_false_eq_true, if_true, Result.andThen_ok, p1, p2, Sem.run_pure]
      exact ih (i + 1) k4 (by simp at hl'; omega)

theorem mapCells_rel (hm : Mem Γ S w) {x : V} {ux : Value} {l : List (V × V)} (hx : Rel Γ x ux) (h : mapCells S x = some l) :
    (ux = .map none ∧ l = []) ∨ ∃ b es, ux = .map (some b) ∧ w.heap[b]? = some (.map es es.size) ∧ RelP Γ 0 l es.toList := by
  cases hx <;> simp only [mapCells] at h <;> try (cases h; done)
  · injection h with h; exact .inl ⟨rfl, h.symm⟩
  · rename_i id b hφ
    split at h
    · rename_i l' hs
      injection h with h; subst h
      obtain ⟨es, h1, h2⟩ := hm.map id b _ hφ hs
      exact .inr ⟨b, es, rfl, h1, h2⟩
    · cases h

theorem run_getMap {b : Nat} {es : Array MapEntry} {c : Nat} (h : w.heap[b]? = some (.map es c)) : (getObj b).run P w = .ok (.map es c) w := by
  simp [getObj, Sem.run, h]

/-- What the model finds. -/
theorem find_run {ty : TypeId} {kk : KeyKind} {el : TypeId} (hs : simpleK P ty = some (kk, el)) {k : V} {uk : Value} (hk : Rel Γ k uk) (hfit : keyFit kk k = true) :
    ∃ kt, P.underlying ty = some (.map kt el) ∧ (∀ b, (Instr.checkKey b 10000 kt uk).run P w = .ok () w) ∧ ∀ (l : List (V × V)) (es : List MapEntry) (r : Option Nat), RelP Γ 0 l es → findPos (eqOf P kk) k l = some r →
      match r with
      | none => (Instr.findKey kt uk es).run P w = .ok none w
      | some j => ∃ e, es[j]? = some e ∧ (Instr.findKey kt uk es).run P w = .ok (some (j, e.val)) w ∧ Instr.sameBits 10000 e.key uk = true := by
  obtain ⟨kt, hu, ⟨d, e1, hd, hdd⟩ | ⟨fs, e1, hd, hf⟩⟩ := simpleK_eq hs
  · subst e1
    refine ⟨kt, hu, fun b => run_checkPlain hd hdd, fun l es r hr hp => ?_⟩
    have := pos_now hk l es 0 0 r hr hp
    cases r with
    | none =>
      show (Instr.findKey kt uk es).run P w = .ok none w
      have h : Instr.findNow d uk es 0 = some none := this
      simp [Instr.findKey, run_underlying hd, h]
    | some j =>
      obtain ⟨e, g1, g2, g3⟩ := this
      refine ⟨e, g1, ?_, sameNow_bits g3⟩
      simp [Instr.findKey, run_underlying hd, g2]
  · subst e1
    have hagg : ∃ xs cs, k = .agg xs ∧ uk = .agg cs ∧ cs.size = fs.size := by
      cases k <;> simp only [keyFit] at hfit <;> try (cases hfit; done)
      rename_i xs
      cases hk with
      | agg _ cs hr _ =>
        have := hr.length
        have hx : xs.length = fs.size := of_decide_eq_true hfit
        exact ⟨xs, cs, rfl, rfl, by rw [← hx, this]; simp⟩
    obtain ⟨xs, cs, e2, e3, hsz⟩ := hagg
    refine ⟨kt, hu, fun b => by rw [e3]; exact run_checkStr hd hf hsz b, fun l es r hr hp => ?_⟩
    have hfk : (Instr.findKey kt uk es).run P w = (Instr.findAsking kt uk es).run P w := run_findKey_eq w (by rw [hd]) uk es
    have := pos_ask (w := w) hk l es 0 0 r hr hp
    cases r with
    | none =>
      show (Instr.findKey kt uk es).run P w = .ok none w
      rw [hfk]; exact this
    | some j =>
      obtain ⟨e, x, g1, g2, g3, g4⟩ := this
      refine ⟨e, g1, by rw [hfk, g2, Nat.zero_add], str_bits hd hf g3 hk g4⟩
theorem run_zeroV {el : TypeId} {z : V} (hz : zeroV P el = some z) : ∃ zv, (zeroValue el).run P w = .ok zv w ∧ Rel Γ z zv := by
  unfold zeroV at hz
  split at hz
  · rename_i inf hinf
    split at hz
    · rename_i zv hzv
      injection hz with hz; subst hz
      exact ⟨zv, by simp [zeroValue, typeInfo, hinf, hzv], rel_ofValue Γ zv⟩
    · cases hz
  · cases hz
theorem gives_lookup (hm : Mem Γ S w) (ht : TR Γ t a) {ty : TypeId} {x i : Operand} {ok : Bool} (hop : o.op = .lookup ty x i ok) (h : opLookup P ty (opd t x) (opd t i) ok S = some v) : Gives P Γ w a o v := by
  have hx := rel_opd ht x
  have hi := rel_opd ht i
  unfold opLookup at h
  split at h
  rotate_left
  · cases h
  rename_i kk el hsk
  split at h
  rotate_left
  · cases h
  rename_i hfit
  obtain ⟨kt, hu, hck, hfind⟩ := find_run (w := w) hsk hi hfit
  split at h
  rotate_left
  · cases h
  rename_i l hl
  obtain ⟨es, hmap, hrp⟩ : ∃ es : List MapEntry, ((a.eval x = .map none ∧ es = []) ∨ ∃ b q, a.eval x = .map (some b) ∧ w.heap[b]? = some (.map q q.size) ∧ q.toList = es) ∧ RelP Γ 0 l es := by
    rcases mapCells_rel hm hx hl with ⟨e1, e2⟩ | ⟨b, q, e1, e2, e3⟩
    · exact ⟨[], .inl ⟨e1, rfl⟩, e2 ▸ .nil 0⟩
    · exact ⟨q.toList, .inr ⟨b, q, e1, e2, rfl⟩, e3⟩
  -- the model's steps
  have hexec : ∀ (r : Option (Nat × Value)) (u : Value) (bb : Bool), (Instr.findKey kt (a.eval i) es).run P w = .ok r w → (match r with | some (_, v) => u = v ∧ bb = true | none => (zeroValue el).run P w = .ok u w ∧ bb = false) →
      (execOp a.eval o).run P w = .ok (.value (if ok then .tuple #[u, .bool bb] else u)) w := by
    intro r u bb hrk hr
    rcases hmap with ⟨e1, e2⟩ | ⟨b, q, e1, e2, e3⟩
    · subst e2
      cases r with
      | none => simp [execOp, hop, Instr.lookup, run_underlying hu, e1, hck, hrk, hr.1, hr.2]
      | some p => simp [execOp, hop, Instr.lookup, run_underlying hu, e1, hck, hrk, hr.1, hr.2]
    · subst e3
      cases r with
      | none => simp [execOp, hop, Instr.lookup, run_underlying hu, e1, run_getMap e2, hck, hrk, hr.1, hr.2]
      | some p => simp [execOp, hop, Instr.lookup, run_underlying hu, e1, run_getMap e2, hck, hrk, hr.1, hr.2]
  split at h
  · rename_i v' hf
    injection h with h; subst h
    rcases findM_pos l _ hf with ⟨_, e⟩ | ⟨j, e, g1, g2, g3⟩
    · cases e
    · injection g3 with g3; subst g3
      obtain ⟨u, q1, q2, _⟩ := hfind l es _ hrp g1
      obtain ⟨u', q3, _, q4, _⟩ := hrp.get g2
      rw [q1] at q3; injection q3 with q3; subst q3
      refine ⟨_, hexec _ u.val true q2 ⟨rfl, rfl⟩, ?_⟩
      cases ok
      · exact q4
      · exact .tup _ _ (.cons _ _ _ _ q4 (.cons _ _ _ _ (.bool _) .nil))
  · rename_i hf
    rcases findM_pos l _ hf with ⟨g1, _⟩ | ⟨j, e, _, _, g3⟩
    rotate_left
    · cases g3
    have hrk : (Instr.findKey kt (a.eval i) es).run P w = .ok none w := hfind l es _ hrp g1
    split at h
    · rename_i z hz
      injection h with h; subst h
      obtain ⟨zv, q1, q2⟩ := run_zeroV (w := w) (Γ := Γ) hz
      refine ⟨_, hexec none zv false hrk ⟨q1, rfl⟩, ?_⟩
      cases ok
      · exact q2
      · exact .tup _ _ (.cons _ _ _ _ q2 (.cons _ _ _ _ (.bool _) .nil))
    · cases h
  · cases h

/-- A map is written. -/
theorem map_written (hm : Mem Γ S w) {id : Id} {b : Nat} {l l' : List (V × V)} {es es' : Array MapEntry} (hφ : Γ.φ id = some b) (hs : S.get id = .map l) (hb : w.heap[b]? = some (.map es es.size)) (hr : RelP Γ 0 l' es'.toList) :
    Step Γ S w Γ (S.set id (.map l')) { w with heap := w.heap.setIfInBounds b (.map es' es'.size) } := by
  have hlt : b < w.heap.size := hm.lt id b hφ
  refine Step.setMap hm hφ hs hb ?_ hr ?_ (by simp) rfl rfl rfl
  · simp [hlt]
  · intro j hj
    simp only [Array.getElem?_setIfInBounds]
    rw [if_neg (fun e => hj e.symm)]
theorem modify_list {es : Array MapEntry} {j : Nat} {e : MapEntry} (h : es[j]? = some e) (f : MapEntry → MapEntry) : (es.modify j f).toList = es.toList.set j (f e) := by
  have hj : j < es.size := (Array.getElem?_eq_some_iff.1 h).1
  have he : es[j] = e := by have := Array.getElem?_eq_getElem hj; rw [this] at h; injection h
  rw [← he]
  apply List.ext_getElem?
  intro i
  simp only [Array.getElem?_toList, Array.getElem?_modify, List.getElem?_set, Array.length_toList]
  by_cases hij : j = i
  · subst hij; simp [hj]
  · simp [hij]

theorem run_mapUpdate (hm : Mem Γ S w) (ht : TR Γ t a) {ty : TypeId} {m k x : Operand} (hop : o.op = .mapUpdate ty m k x) (h : opMapUpdate P ty (opd t m) (opd t k) (opd t x) S = some (v, S')) :
    ∃ w', (execOp a.eval o).run P w = .ok .skip w' ∧ Step Γ S w Γ S' w' ∧ v = .any := by
  have hmm := rel_opd ht m
  have hk := rel_opd ht k
  have hx := rel_opd ht x
  unfold opMapUpdate at h
  split at h
  rotate_left
  · cases h
  rename_i id hid
  split at h
  rotate_left
  · cases h
  rename_i kk el hsk
  split at h
  rotate_left
  · cases h
  rename_i hfit
  obtain ⟨kt, hu, hck, hfind⟩ := find_run (w := w) hsk hk hfit
  split at h
  rotate_left
  · cases h
  rename_i l hs
  split at h
  rotate_left
  · cases h
  rename_i l' hl'
  injection h with h; injection h with e1 e2; subst e1; subst e2
  rw [hid] at hmm
  generalize hev : a.eval m = um at hmm
  cases hmm with
  | map _ b hφ =>
    obtain ⟨es, g1, g2⟩ := hm.map id b l hφ hs
    rcases setM_pos l l' hl' with ⟨q1, q2⟩ | ⟨j, e, q1, q2, q3⟩
    · have hrk : (Instr.findKey kt (a.eval k) es.toList).run P w = .ok none w := hfind l es.toList _ g2 q1
      have hset := MapKept.run_setObj_map (P := P) (Obj.map (es.push { key := a.eval k, val := a.eval x, born := es.size }) (es.size + 1)) g1
      refine ⟨_, ?_, map_written hm hφ hs g1 (es' := es.push { key := a.eval k, val := a.eval x, born := es.size }) ?_, rfl⟩
      · simp [execOp, hop, hev, Instr.mapUpdate, run_underlying hu, run_getMap g1, hck, hrk, hset]
      · rw [q2]; simpa using g2.push hk hx
    · obtain ⟨u, r1, r2, r3⟩ := hfind l es.toList _ g2 q1
      have hj : es[j]? = some u := by simpa using r1
      have hset := MapKept.run_setObj_map (P := P) (Obj.map (es.modify j fun e => { e with key := a.eval k, val := a.eval x }) es.size) g1
      refine ⟨_, ?_, map_written hm hφ hs g1 (es' := es.modify j fun e => { e with key := a.eval k, val := a.eval x }) ?_, rfl⟩
      · simp [execOp, hop, hev, Instr.mapUpdate, run_underlying hu, run_getMap g1, hck, r2, hj, Instr.keyThatStays, r3, hset]
      · rw [modify_list hj, q3]; exact g2.set hk hx r1
theorem run_mapEntry (hm : Mem Γ S w) (ht : TR Γ t a) {ty : TypeId} {m k : Operand} (hop : o.op = .mapEntry ty m k) (h : opMapEntry P ty (opd t m) (opd t k) S = some (v, S')) :
    Comes' P Γ S w a o v S' := by
  have hmm := rel_opd ht m
  have hk := rel_opd ht k
  unfold opMapEntry at h
  split at h
  rotate_left
  · cases h
  rename_i id hid
  split at h
  rotate_left
  · cases h
  rename_i kk el hsk
  split at h
  rotate_left
  · cases h
  rename_i hfit
  obtain ⟨kt, hu, hck, hfind⟩ := find_run (w := w) hsk hk hfit
  split at h
  rotate_left
  · cases h
  rename_i z hz
  obtain ⟨zv, z1, z2⟩ := run_zeroV (w := w) (Γ := Γ) hz
  split at h
  rotate_left
  · cases h
  rename_i l hs
  split at h
  rotate_left
  · cases h
  rename_i l' v' i hl'
  injection h with h; injection h with e1 e2; subst e1; subst e2
  rw [hid] at hmm
  generalize hev : a.eval m = um at hmm
  cases hmm with
  | map _ b hφ =>
    obtain ⟨es, g1, g2⟩ := hm.map id b l hφ hs
    rcases entryM_pos l l' v' i hl' with ⟨q1, q2, q3, q4⟩ | ⟨e, q1, q2, q3, q4⟩
    · have hrk : (Instr.findKey kt (a.eval k) es.toList).run P w = .ok none w := hfind l es.toList _ g2 q1
      have hset := MapKept.run_setObj_map (P := P) (Obj.map (es.push { key := a.eval k, val := zv, born := es.size }) (es.size + 1)) g1
      have hlen : l.length = es.size := by have := g2.length; simpa using this
      refine ⟨Γ, _, .tuple #[zv, goInt es.size], ?_, map_written hm hφ hs g1 (es' := es.push { key := a.eval k, val := zv, born := es.size }) ?_, ?_⟩
      · simp [execOp, hop, hev, Instr.mapEntry, run_underlying hu, run_getMap g1, hck, hrk, z1, hset]
      · rw [q2]; simpa using g2.push hk z2
      · rw [q3, q4, hlen]; exact .tup _ _ (.cons _ _ _ _ z2 (.cons _ _ _ _ (.int _ _) .nil))
    · obtain ⟨u, r1, r2, r3⟩ := hfind l es.toList _ g2 q1
      obtain ⟨u', p1, _, p2, p3⟩ := g2.get q2
      rw [r1] at p1; injection p1 with p1; subst p1
      have hj : es[i]? = some u := by simpa using r1
      have hset := MapKept.run_setObj_map (P := P) (Obj.map (es.modify i fun e => { e with key := a.eval k }) es.size) g1
      refine ⟨Γ, _, .tuple #[u.val, goInt u.born], ?_, map_written hm hφ hs g1 (es' := es.modify i fun e => { e with key := a.eval k }) ?_, ?_⟩
      · simp [execOp, hop, hev, Instr.mapEntry, run_underlying hu, run_getMap g1, hck, r2, hj, Instr.keyThatStays, r3, hset]
      · rw [modify_list hj, q3]
        have := g2.set hk p2 r1
        exact this
      · rw [q4, p3, Nat.zero_add]; exact .tup _ _ (.cons _ _ _ _ p2 (.cons _ _ _ _ (.int _ _) .nil))
theorem RelP.findIdx {l : List (V × V)} {es : List MapEntry} : ∀ {n : Nat}, RelP Γ n l es → ∀ {j : Nat}, j < es.length → es.findIdx? (fun e => (e.born : Int) == ((n + j : Nat) : Int)) = some j := by
  intro n h
  induction h with
  | nil n => intro j hj; simp at hj
  | cons n k v e l es hk hv hb hs ih =>
    intro j hj
    cases j with
    | zero => simp [List.findIdx?_cons, hb]
    | succ j =>
      have := ih (j := j) (by simpa using hj)
      rw [List.findIdx?_cons]
      have hne : ((e.born : Int) == ((n + (j + 1) : Nat) : Int)) = false := by rw [hb]; simp; omega
      rw [hne]
      have e2 : (n + 1 + j : Nat) = n + (j + 1) := by omega
      rw [e2] at this
      simp only [Bool.false_eq_true, if_false]
      rw [this]; rfl
theorem run_entryStore (hm : Mem Γ S w) (ht : TR Γ t a) {ty : TypeId} {m i x : Operand} (hop : o.op = .entryStore ty m i x) (h : opEntryStore (opd t m) (opd t i) (opd t x) S = some (v, S')) :
    ∃ w', (execOp a.eval o).run P w = .ok .skip w' ∧ Step Γ S w Γ S' w' ∧ v = .any := by
  have hmm := rel_opd ht m
  have hx := rel_opd ht x
  unfold opEntryStore at h
  split at h
  rotate_left
  · cases h
  rename_i id hid
  split at h
  rotate_left
  · cases h
  rename_i l n hs hn
  split at h
  rotate_left
  · cases h
  rename_i e he
  injection h with h; injection h with e1 e2; subst e1; subst e2
  obtain ⟨kd, ei⟩ := asIdx_rel (rel_opd ht i) hn
  rw [hid] at hmm
  generalize hev : a.eval m = um at hmm
  cases hmm with
  | map _ b hφ =>
    obtain ⟨es, g1, g2⟩ := hm.map id b l hφ hs
    obtain ⟨u, p1, p2, p3, p4⟩ := g2.get he
    have hj : es[n]? = some u := by simpa using p1
    have hlt : n < es.toList.length := by have := (List.getElem?_eq_some_iff.1 p1).1; exact this
    have hfi : es.findIdx? (fun e => (e.born : Int) == (n : Int)) = some n := by
      have := g2.findIdx hlt
      rw [Nat.zero_add] at this
      rw [← this]
      cases es
      simp only [List.findIdx?_toArray]
    have hset := MapKept.run_setObj_map (P := P) (Obj.map (es.modify n fun e => { e with val := a.eval x }) es.size) g1
    refine ⟨_, ?_, map_written hm hφ hs g1 (es' := es.modify n fun e => { e with val := a.eval x }) ?_, rfl⟩
    · simp [execOp, hop, hev, Instr.entryStore, run_getMap g1, ei, asInt, asIntOf, hfi, hset]
    · rw [modify_list hj]
      exact g2.set p2 hx p1
end
end Go.Vm

namespace Go.Vm
variable [Gl]
open Go.RowKit

def Enters (P : Program) (f : FuncId) : Prop := ∃ fn, P.funcs[f]? = some fn ∧ fn.body.isSome = true ∧ (fn.name == "runtime.NumGoroutine") = false
/-- What calls may be relied on. -/
def CallOK (P : Program) (call : CallF) : Prop :=
  ∀ (f : FuncId) (args : List V) (S : St) (r : V) (S' : St), call f args S = some (r, S') → Enters P f ∧
    ∀ (Γ : Ctx) (w : World) (us : Array Value), Mem Γ S w → RelL Γ args us.toList →
      Calls P f us w fun e w' => ∃ Γ' u, e = .returned u ∧ Step Γ S w Γ' S' w' ∧ Rel Γ' r u

section
variable {P : Program} {Γ : Ctx} {S S' : St} {w : World} {t : Tm} {a : Act} {o : Oper} {v : V} {call : CallF}

theorem ret1_eq {x : Option V} (h : ret1 x S = some (v, S')) : x = some v ∧ S' = S := by
  unfold ret1 at h
  split at h
  · injection h with h; injection h with h1 h2; exact ⟨by rw [h1], h2.symm⟩
  · cases h

theorem gives_len (hm : Mem Γ S w) (ht : TR Γ t a) {c : Call} {x : Operand} {ty : TypeId} (hop : o.op = .call c) (hc : c.callee = .builtin .len) (hargs : c.args.toList = [x]) (htys : c.argTypes.toList = [ty])
    (h : (match P.underlying ty with
        | some .string => (match opd t x with | .str s => some (.int .i64 s.length, S) | _ => none)
        | some (.slice _) => (match opd t x with | .str _ => none | .nilm => none | .map _ => none | v => ret1 (opLen v S) S)
        | some (.map ..) => (match opd t x with | .nilm => some (.int .i64 0, S) | .map i => ret1 (opLen (.map i) S) S | _ => none)
        | _ => none : R) = some (v, S')) : Gives P Γ w a o v ∧ S' = S := by
  have hexec : ∀ u, (Builtin.len_ c.argTypes o.type #[a.eval x]).run P w = .ok u w → (execOp a.eval o).run P w = .ok (.value u) w := by
    intro u hr
    have e1 : c.args.map a.eval = #[a.eval x] := by apply Array.ext'; simp [hargs]
    simp [execOp, hop, resolve, hc, invoke, builtin, e1, hr]
  have ea0 : c.argTypes[0]? = some ty := by rw [← Array.getElem?_toList, htys]; rfl
  have hx := rel_opd ht x
  generalize hev : a.eval x = ux at hx hexec
  generalize opd t x = vx at h hx
  split at h
  · rename_i hu
    cases hx <;> simp only [] at h <;> try (cases h; done)
    injection h with h; injection h with e1 e2; subst e1; subst e2
    rename_i s l hl
    refine ⟨⟨.int .i64 s.size, hexec _ (by simp [Builtin.len_, ea0, run_underlying hu, goInt]), ?_⟩, rfl⟩
    have : s.size = l.length := by rw [← hl]; simp
    rw [this]; exact .int _ _
  · rename_i el hu
    have go : ∀ base n cap, ux = .slice base n cap → (∃ m, lenV vx = some m ∧ m = n) → ret1 (opLen vx S) S = some (v, S') → (∀ i, vx ≠ .map i) → vx ≠ .nilm → Gives P Γ w a o v ∧ S' = S := by
      intro base n cap q1 ⟨m, q2, q3⟩ q4 q5 q6
      obtain ⟨e1, e2⟩ := ret1_eq q4
      subst q3
      refine ⟨⟨.int .i64 m, hexec _ (by rw [q1]; simp [Builtin.len_, ea0, run_underlying hu, goInt]), ?_⟩, e2⟩
      have : opLen vx S = some (.int .i64 m) := by
        unfold opLen
        split
        · exact absurd rfl q6
        · exact absurd rfl (q5 _)
        · rw [q2]
      rw [this] at e1; injection e1 with e1; subst e1; exact .int _ _
    cases hx <;> simp only [] at h <;> first
      | (cases h; done)
      | exact go _ _ _ rfl ⟨_, rfl, rfl⟩ h (by simp) (by simp)
      | (rename_i hn _; exact go _ _ _ rfl ⟨_, rfl, hn.symm⟩ h (by simp) (by simp))
      | (obtain ⟨e1, _⟩ := ret1_eq h; simp [opLen, lenV] at e1)
  · rename_i k el hu
    cases hx <;> simp only [] at h <;> try (cases h; done)
    · injection h with h; injection h with e1 e2; subst e1; subst e2
      exact ⟨⟨.int .i64 0, hexec _ (by simp [Builtin.len_, ea0, run_underlying hu, goInt]), .int _ _⟩, rfl⟩
    · rename_i id b hφ
      obtain ⟨e1, e2⟩ := ret1_eq h
      simp only [opLen] at e1
      cases hs : S.get id with
      | map l =>
        rw [hs] at e1; injection e1 with e1; subst e1
        obtain ⟨es, h1, h2⟩ := hm.map id b l hφ hs
        have hlen : l.length = es.size := by
          have : ∀ (n : Nat) (l : List (V × V)) (q : List MapEntry), RelP Γ n l q → l.length = q.length := by
            intro n l q hq
            induction hq with
            | nil => rfl
            | cons _ _ _ _ _ _ _ _ _ _ ih => simp [ih]
          have := this 0 l es.toList h2
          simpa using this
        refine ⟨⟨.int .i64 es.size, hexec _ ?_, by rw [hlen]; exact .int _ _⟩, e2⟩
        have hgo : (getObj b).run P w = .ok (.map es es.size) w := by
          simp [getObj, Sem.run, h1]
        simp [Builtin.len_, ea0, run_underlying hu, goInt, hgo]
      | free => rw [hs] at e1; cases e1
      | dead => rw [hs] at e1; cases e1
      | cells _ _ _ => rw [hs] at e1; cases e1
      | stale _ => rw [hs] at e1; cases e1
  · cases h

theorem gives_cap (ht : TR Γ t a) {c : Call} {x : Operand} {ty : TypeId} (hop : o.op = .call c) (hc : c.callee = .builtin .cap) (hargs : c.args.toList = [x]) (htys : c.argTypes.toList = [ty]) (h : opCap P ty (opd t x) = some v) : Gives P Γ w a o v := by
  have hx := rel_opd ht x
  have ea0 : c.argTypes[0]? = some ty := by rw [← Array.getElem?_toList, htys]; rfl
  have e1 : c.args.map a.eval = #[a.eval x] := by
    apply Array.ext'; simp [hargs]
  generalize hev : a.eval x = ux at hx e1
  generalize opd t x = vx at h hx
  unfold opCap at h
  split at h
  · rename_i el hu
    injection h with h; subst h
    cases hx
    refine ⟨.int .i64 0, ?_, .int _ _⟩
    simp [execOp, hop, resolve, hc, invoke, builtin, e1, Builtin.cap_, ea0, run_underlying hu, goInt]
  · cases h
theorem gives_max (ht : TR Γ t a) {c : Call} {x : V} {r : List V} (hop : o.op = .call c) (hc : c.callee = .builtin .max) (hargs : c.args.toList.map (opd t) = x :: r) (h : maxL x r = some v)
    (hint : r ≠ [] ∨ ∃ k n, x = .int k n) : Gives P Γ w a o v := by
  have hr := rel_opds ht c.args.toList
  rw [hargs] at hr
  generalize hus : c.args.toList.map a.eval = us at hr
  cases hr with
  | cons _ u _ us' hx hs =>
    obtain ⟨y, h1, h2⟩ := maxL_rel (P := P) (w := w) r x us' u v h hx hs hint
    refine ⟨y, ?_, h2⟩
    have e1 : (c.args.map a.eval).toList = u :: us' := by rw [Array.toList_map]; exact hus
    simp [execOp, hop, resolve, hc, invoke, builtin, Builtin.max_, hus, h1]
theorem gives_min (ht : TR Γ t a) {c : Call} {x : V} {r : List V} (hop : o.op = .call c) (hc : c.callee = .builtin .min) (hargs : c.args.toList.map (opd t) = x :: r) (h : minL x r = some v)
    (hint : r ≠ [] ∨ ∃ k n, x = .int k n) : Gives P Γ w a o v := by
  have hr := rel_opds ht c.args.toList
  rw [hargs] at hr
  generalize hus : c.args.toList.map a.eval = us at hr
  cases hr with
  | cons _ u _ us' hx hs =>
    obtain ⟨y, h1, h2⟩ := minL_rel (P := P) (w := w) r x us' u v h hx hs hint
    refine ⟨y, ?_, h2⟩
    simp [execOp, hop, resolve, hc, invoke, builtin, Builtin.min_, hus, h1]

theorem wp_call (hcall : CallOK P call) (hm : Mem Γ S w) (ht : TR Γ t a) {c : Call} {x : Operand} {f : FuncId} {first caps : List V} (hop : o.op = .call c) (hc : c.callee = .value x)
    (hf : opd t x = .fn f first caps) (h : call f (first ++ c.args.toList.map (opd t) ++ caps) S = some (v, S')) {rn : Option Nat} {K : Act → World → Prop} {Q : Exit → Act → World → Prop}
    (hK : ∀ Γ' u w', Step Γ S w Γ' S' w' → Rel Γ' v u → K (a.put o.dst u) w') : o.wpIn (Wr rn) 0 P a w K Q := by
  have hx := rel_opd ht x
  rw [hf] at hx
  generalize hev : a.eval x = ux at hx
  cases hx with
  | fn _ _ _ uf uc h1 h2 =>
    obtain ⟨⟨fn, e1, e2, e3⟩, hcalls⟩ := hcall f _ S v S' h
    have hargs := rel_opds ht c.args.toList
    have hrel : RelL Γ (first ++ c.args.toList.map (opd t) ++ caps) (uf ++ c.args.map a.eval ++ uc).toList := by
      simp only [Array.toList_append, Array.toList_map]
      exact (h1.append hargs).append h2
    have hC := hcalls Γ w (uf ++ c.args.map a.eval ++ uc) hm hrel
    have hbody : fn.body ≠ none := fun hb => by rw [hb] at e2; cases e2
    have hexec : (execOp a.eval o).run P w = .ok (.enter f (uf ++ c.args.map a.eval ++ uc)) w := by
      have e3' : ¬ fn.name = "runtime.NumGoroutine" := by simpa using e3
      simp [execOp, hop, resolve, hc, hev, Deferred.ofValue, invoke, callFunc, e1, e3', hbody]
    refine ⟨fun _ _ => trivial, ?_⟩
    rw [Oper.semAt_eq _ _ _ (by rw [hop]; nofun), hexec, Oper.uponIn_enter]
    refine ⟨nofun, ?_⟩
    have hC' : CallsIn (Wr rn) (0 - 1) P f (uf ++ c.args.map a.eval ++ uc) w fun e w' => ∃ Γ' u, e = .returned u ∧ Step Γ S w Γ' S' w' ∧ Rel Γ' v u := by
      cases rn with
      | none => exact callsIn_wide.2 hC
      | some l => exact CallsIn.inRound l (callsIn_wide.2 hC)
    refine hC'.mono ?_
    rintro e w' ⟨Γ', u, rfl, hst, hr⟩
    exact hK Γ' u w' hst hr

theorem opAlloc_eq {cs : List V} (h : opAlloc cs S = some (v, S')) : ∃ i, S.new (.cells cs 0 []) = some (i, S') ∧ v = .ptr i 0 := by
  unfold opAlloc at h
  split at h
  · rename_i i S1 hn; injection h with h; injection h with e1 e2; subst e2; exact ⟨i, hn, e1.symm⟩
  · cases h
theorem opRow_eq {sz n : Nat} {cs : List V} (h : opRow sz n cs S = some (v, S')) : ∃ i, S.new (.cells cs 0 []) = some (i, S') ∧ v = .ref sz i 0 n := by
  unfold opRow at h
  split at h
  · rename_i i S1 hn; injection h with h; injection h with e1 e2; subst e2; exact ⟨i, hn, e1.symm⟩
  · cases h
theorem op_sound (hcall : CallOK P call) (h : evOp P call o t S = some (v, S')) (hm : Mem Γ S w) (ht : TR Γ t a) {rn : Option Nat} {K : Act → World → Prop} {Q : Exit → Act → World → Prop}
    (hK : ∀ Γ' u w', Step Γ S w Γ' S' w' → Rel Γ' v u → K (a.put o.dst u) w') : o.wpIn (Wr rn) 0 P a w K Q := by
  have hnd : ∀ c, o.op ≠ .defer c := fun c hc => by simp only [evOp, hc] at h; cases h
  have fin : Comes' P Γ S w a o v S' → o.wpIn (Wr rn) 0 P a w K Q := fun ⟨Γ', w', u, h1, h2, h3⟩ => wp_value hnd h1 (hK Γ' u w' h2 h3)
  have finG : Gives P Γ w a o v → S' = S → o.wpIn (Wr rn) 0 P a w K Q := fun hg e => fin (by subst e; exact hg.comes hm)
  cases hop : o.op <;> simp only [evOp, hop] at h <;> try (cases h; done)
  case move x => injection h with h; injection h with e1 e2; subst e1; exact finG (gives_move ht (.inl hop)) e2.symm
  case assign x => injection h with h; injection h with e1 e2; subst e1; exact finG (gives_move ht (.inr hop)) e2.symm
  case pick c x y => obtain ⟨e1, e2⟩ := ret1_eq h; exact finG (gives_pick ht hop e1) e2
  case alloc ty =>
    split at h
    · rename_i z hz
      obtain ⟨i, hn, e⟩ := opAlloc_eq h
      exact fin (e ▸ (arun_alloc hop hz).comes hm hn)
    · cases h
  case box ty x =>
    split at h
    · cases h
    · cases h
    · rename_i h1 h2
      obtain ⟨i, hn, e⟩ := opAlloc_eq h
      exact fin (e ▸ (arun_box ht hop h1 h2).comes hm hn)
  case build ty ps =>
    split at h
    · rename_i z place hz hp
      obtain ⟨e1, e2⟩ := ret1_eq h
      obtain ⟨cs, e3, e4⟩ := Option.map_eq_some_iff.1 e1
      subst e4
      exact finG (gives_build ht hop hz hp e3) e2
    · cases h
  case buildSlice ty n ps =>
    split at h
    · rename_i el hu
      split at h
      · rename_i z sz hz hsz
        split at h
        · rename_i hc
          obtain ⟨c1, c2⟩ := hc
          split at h
          · rename_i cs hf
            obtain ⟨i, hn, e⟩ := opRow_eq h
            exact fin (e ▸ (arun_buildSlice ht hop hu hz hsz c1 c2 hf).comes hm hn)
          · cases h
        · cases h
      · cases h
    · cases h
  case load ty x => obtain ⟨e1, e2⟩ := ret1_eq h; exact finG (gives_load hm ht hop e1) e2
  case store ty x y =>
    obtain ⟨w', h1, h2, h3⟩ := run_store_op (P := P) hm ht hop h
    exact wp_skip' hnd h1 (hK Γ undef w' h2 (h3 ▸ .any _))
  case nilCheck x => obtain ⟨e1, e2⟩ := ret1_eq h; exact finG (gives_nilCheck ht hop e1) e2
  case binOp op ty x y ty' => obtain ⟨e1, e2⟩ := ret1_eq h; exact finG (gives_binOp ht hop e1) e2
  case unOp op ty x => obtain ⟨e1, e2⟩ := ret1_eq h; exact finG (gives_unOp ht hop e1) e2
  case convert src dst x => obtain ⟨e1, e2⟩ := ret1_eq h; exact finG (gives_convert hm ht hop e1) e2
  case makeFunc fn x y =>
    cases fn <;> simp only [] at h <;> try (cases h; done)
    injection h with h; injection h with e1 e2; subst e1
    exact finG (gives_makeFunc ht hop) e2.symm
  case slice ty x lo hi mx =>
    cases mx with
    | none => simp only [] at h; obtain ⟨e1, e2⟩ := ret1_eq h; exact finG (gives_slice ht hop e1) e2
    | some mx => simp only [] at h; obtain ⟨e1, e2⟩ := ret1_eq h; exact finG (gives_slice3 ht hop e1) e2
  case fieldAddr s x f => obtain ⟨e1, e2⟩ := ret1_eq h; exact finG (gives_fieldAddr ht hop e1) e2
  case field s x f => obtain ⟨e1, e2⟩ := ret1_eq h; exact finG (gives_field ht hop e1) e2
  case indexAddr ty x i => obtain ⟨e1, e2⟩ := ret1_eq h; exact finG (gives_indexAddr ht hop e1) e2
  case index ty x i => obtain ⟨e1, e2⟩ := ret1_eq h; exact finG (gives_index ht hop e1) e2
  case makeSlice ty l c =>
    unfold opMakeSlice at h
    split at h
    · rename_i el hu
      split at h
      · rename_i z sz n m hz hsz hl hc
        split at h
        · rename_i hcond
          obtain ⟨c1, c2, c3, c4⟩ := hcond
          obtain ⟨i, hn, e⟩ := opRow_eq h
          exact fin (e ▸ (arun_makeSlice ht hop hu hz hsz hl hc c1 c2 c3 c4).comes hm hn)
        · cases h
      · cases h
    · cases h
  case extract x i => obtain ⟨e1, e2⟩ := ret1_eq h; exact finG (gives_extract ht hop e1) e2
  case makeMap ty r =>
    cases r <;> simp only [] at h <;> try (cases h; done)
    exact fin (comes_makeMap hm hop h)
  case lookup ty x i ok => obtain ⟨e1, e2⟩ := ret1_eq h; exact finG (gives_lookup hm ht hop e1) e2
  case mapUpdate ty m k x =>
    obtain ⟨w', h1, h2, h3⟩ := run_mapUpdate (P := P) hm ht hop h
    exact wp_skip' hnd h1 (hK Γ undef w' h2 (h3 ▸ .any _))
  case mapEntry ty m k => exact fin (run_mapEntry hm ht hop h)
  case entryStore ty m i x =>
    obtain ⟨w', h1, h2, h3⟩ := run_entryStore (P := P) hm ht hop h
    exact wp_skip' hnd h1 (hK Γ undef w' h2 (h3 ▸ .any _))
  case call c =>
    cases hc : c.callee with
    | invoke r m => rw [hc] at h; cases h
    | value x =>
      rw [hc] at h
      simp only [] at h
      split at h
      · rename_i f first caps hf; exact wp_call hcall hm ht hop hc hf h hK
      · cases h
    | builtin b =>
      rw [hc] at h
      cases b <;> simp only [] at h <;> try (cases h; done)
      case len =>
        split at h
        · rename_i x ty hargs htys
          obtain ⟨g1, g2⟩ := gives_len hm ht hop hc hargs htys h
          exact finG g1 g2
        · cases h
      case append =>
        split at h
        · rename_i x y ty ty' hargs htys
          split at h
          · rename_i k' hd
            exact fin (comes_appendN hm ht hop hc hargs htys hd h)
          · rename_i d' hni hd
            exact fin (comes_append2 hm ht hop hc hargs htys hd (fun k e => hni k e) h)
          · cases h
        · cases h
      case cap =>
        split at h
        · rename_i x ty hargs htys
          obtain ⟨e1, e2⟩ := ret1_eq h
          exact finG (gives_cap ht hop hc hargs htys e1) e2
        · cases h
      case copy =>
        split at h
        · rename_i x y ty r hargs htys
          exact fin (comes_copy hm ht hop hc hargs htys h)
        · cases h
      case clear =>
        split at h
        · rename_i x ty hargs htys
          exact fin (comes_clear hm ht hop hc hargs htys h)
        · cases h
      case max =>
        split at h
        · rename_i k n r hargs
          obtain ⟨e1, e2⟩ := ret1_eq h
          exact finG (gives_max ht hop hc hargs e1 (.inr ⟨_, _, rfl⟩)) e2
        · cases h
      case min =>
        split at h
        · rename_i k n r hargs
          obtain ⟨e1, e2⟩ := ret1_eq h
          exact finG (gives_min ht hop hc hargs e1 (.inr ⟨_, _, rfl⟩)) e2
        · cases h
end
end Go.Vm

namespace Go.Vm
variable [Gl]
open Go.RowKit

inductive Cls where
  | P | L | A | E
  deriving DecidableEq
/-- What an operation does with the store: nothing, reads one object, makes one row, anything. -/
def clsOf (o : Oper) : Cls :=
  match o.op with
  | .move _ | .assign _ | .pick .. | .build .. | .nilCheck _ | .binOp .. | .unOp .. | .makeFunc .. | .slice .. | .fieldAddr .. | .field .. | .indexAddr .. | .index .. | .extract .. => .P
  | .load .. => .L
  | .convert .. => .L
  | .lookup .. => .L
  | .alloc .. | .box .. | .buildSlice .. | .makeSlice .. => .A
  | .call c => match c.callee with
    | .builtin .max | .builtin .min | .builtin .cap => .P
    | .builtin .len => .L
    | _ => .E
  | _ => .E
def Ob.look : Ob → Option (List V ⊕ List (V × V))
  | .cells l _ _ => some (.inl l)
  | .stale l => some (.inl l)
  | .map l => some (.inr l)
  | _ => none
/-- The object that an operation reads. -/
def readId (o : Oper) (t : Tm) : Option Id :=
  match o.op with
  | .load _ x => match opd t x with
    | .ptr id _ => some id
    | _ => none
  | .convert _ _ x => match opd t x with
    | .ref _ id _ _ => some id
    | _ => none
  | .lookup _ x _ _ => match opd t x with
    | .map id => some id
    | _ => none
  | .call c => match c.args.toList with
    | [x] => match opd t x with
      | .map id => some id
      | _ => none
    | _ => none
  | _ => none

section
variable {P : Program} {Γ : Ctx} {S S' S2 : St} {w : World} {t t' : Tm} {a : Act} {o : Oper} {v : V} {call : CallF}

theorem ret1_any {x : Option V} (h : ret1 x S = some (v, S')) : S' = S ∧ ∀ S2, ret1 x S2 = some (v, S2) := by
  obtain ⟨e1, e2⟩ := ret1_eq h
  exact ⟨e2, fun S2 => by rw [e1]; rfl⟩

theorem P_spec (hc : clsOf o = .P) (h : evOp P call o t S = some (v, S')) : S' = S ∧ ∀ S2, evOp P call o t S2 = some (v, S2) := by
  cases hop : o.op <;> simp only [clsOf, hop] at hc <;> try (cases hc; done)
  case move x => simp only [evOp, hop] at h ⊢; injection h with h; injection h with e1 e2; exact ⟨e2.symm, fun S2 => by rw [e1]⟩
  case assign x => simp only [evOp, hop] at h ⊢; injection h with h; injection h with e1 e2; exact ⟨e2.symm, fun S2 => by rw [e1]⟩
  case makeFunc fn x y =>
    simp only [evOp, hop] at h ⊢
    cases fn <;> simp only [] at h ⊢ <;> try (cases h; done)
    injection h with h; injection h with e1 e2; exact ⟨e2.symm, fun S2 => by rw [e1]⟩
  case slice ty x lo hi mx =>
    simp only [evOp, hop] at h ⊢
    cases mx <;> simp only [] at h ⊢ <;> exact ret1_any h
  case build ty ps =>
    simp only [evOp, hop] at h ⊢
    split at h
    · exact ret1_any h
    · cases h
  case call c =>
    cases hcc : c.callee with
    | value x => rw [hcc] at hc; cases hc
    | invoke x m => rw [hcc] at hc; cases hc
    | builtin b =>
      rw [hcc] at hc
      cases b <;> simp only [] at hc <;> try (cases hc; done)
      case cap =>
        simp only [evOp, hop, hcc] at h ⊢
        split at h
        · exact ret1_any h
        · cases h
      all_goals
        simp only [evOp, hop, hcc] at h ⊢
        split at h
        · rename_i k n r hargs
          exact ret1_any h
        · cases h
  all_goals (simp only [evOp, hop] at h ⊢; exact ret1_any h)

theorem cellsAt_look {x : V} (hr : ∀ id off, x = .ptr id off → (S2.get id).look = (S.get id).look) : cellsAt S2 x = cellsAt S x := by
  cases x <;> simp only [cellsAt]
  case ptr id off =>
    have := hr id off rfl
    cases h1 : S.get id <;> cases h2 : S2.get id <;> rw [h1, h2] at this <;> simp only [Ob.look] at this <;> simp_all
theorem opConv_look {a b : TypeId} {x : V} (hr : ∀ e id off n, x = .ref e id off n → (S2.get id).look = (S.get id).look) : opConv P a b x S2 = opConv P a b x S := by
  have h : srcCells 1 S2 x = srcCells 1 S x := by
    cases x <;> simp only [srcCells]
    case ref e id off n =>
      have := hr e id off n rfl
      cases h1 : S.get id <;> cases h2 : S2.get id <;> rw [h1, h2] at this <;> simp only [Ob.look] at this <;> simp_all
  have hb : bytesAt S2 x = bytesAt S x := by
    cases x <;> simp only [bytesAt] <;> simp only [h]
  unfold opConv
  rw [hb]
theorem mapCells_look {x : V} (hr : ∀ id, x = .map id → (S2.get id).look = (S.get id).look) : mapCells S2 x = mapCells S x := by
  cases x <;> simp only [mapCells]
  case map id =>
    have := hr id rfl
    cases h1 : S.get id <;> cases h2 : S2.get id <;> rw [h1, h2] at this <;> simp only [Ob.look] at this <;> simp_all
theorem opLookup_cells {ty : TypeId} {x i : V} {ok : Bool} (h : mapCells S2 x = mapCells S x) : opLookup P ty x i ok S2 = opLookup P ty x i ok S := by
  unfold opLookup
  rw [h]
theorem L_spec (hc : clsOf o = .L) (h : evOp P call o t S = some (v, S')) : S' = S ∧ ∀ S2, (∀ id, readId o t = some id → (S2.get id).look = (S.get id).look) → evOp P call o t S2 = some (v, S2) := by
  cases hop : o.op <;> simp only [clsOf, hop] at hc <;> try (cases hc; done)
  case load ty x =>
    simp only [evOp, hop] at h ⊢
    obtain ⟨e1, e2⟩ := ret1_eq h
    refine ⟨e2, fun S2 hr => ?_⟩
    have : opLoad P ty (opd t x) S2 = opLoad P ty (opd t x) S := by
      unfold opLoad
      rw [cellsAt_look (S := S) (S2 := S2) fun id off e => hr id (by simp [readId, hop, e])]
    rw [this, e1]; rfl
  case convert a b x =>
    simp only [evOp, hop] at h ⊢
    obtain ⟨e1, e2⟩ := ret1_eq h
    refine ⟨e2, fun S2 hr => ?_⟩
    rw [opConv_look (S := S) (S2 := S2) fun e id off n he => hr id (by simp [readId, hop, he]), e1]; rfl
  case lookup ty x i ok =>
    simp only [evOp, hop] at h ⊢
    obtain ⟨e1, e2⟩ := ret1_eq h
    refine ⟨e2, fun S2 hr => ?_⟩
    rw [opLookup_cells (S := S) (S2 := S2) (mapCells_look fun id he => hr id (by simp [readId, hop, he])), e1]; rfl
  case call c =>
    cases hcc : c.callee with
    | value x => rw [hcc] at hc; cases hc
    | invoke x m => rw [hcc] at hc; cases hc
    | builtin b =>
      rw [hcc] at hc
      cases b <;> simp only [] at hc <;> try (cases hc; done)
      simp only [evOp, hop, hcc] at h ⊢
      split at h
      · rename_i x ty hargs htys
        split at h
        · rename_i hu
          split at h
          · injection h with h; injection h with e1 e2; exact ⟨e2.symm, fun S2 _ => by rw [e1]⟩
          · cases h
        · rename_i el hu
          split at h
          · cases h
          · cases h
          · cases h
          · rename_i hn1 hn2 hn3
            obtain ⟨e1, e2⟩ := ret1_eq h
            refine ⟨e2, fun S2 _ => ?_⟩
            have : opLen (opd t x) S2 = opLen (opd t x) S := by
              unfold opLen
              cases hx : opd t x <;> first | rfl | exact absurd hx (hn3 _)
            rw [this, e1]; rfl
        · rename_i k el hu
          split at h
          · injection h with h; injection h with e1 e2; exact ⟨e2.symm, fun S2 _ => by rw [e1]⟩
          · rename_i i hx
            obtain ⟨e1, e2⟩ := ret1_eq h
            refine ⟨e2, fun S2 hr => ?_⟩
            have hl := hr i (by simp [readId, hop, hargs, hx])
            have : opLen (.map i) S2 = opLen (.map i) S := by
              simp only [opLen]
              cases h1 : S.get i <;> cases h2 : S2.get i <;> rw [h1, h2] at hl <;> simp only [Ob.look] at hl <;> simp_all
            rw [this, e1]; rfl
          · cases h
        · cases h
      · cases h

theorem A_spec (hc : clsOf o = .A) (h : evOp P call o t S = some (v, S')) :
    ∃ cs av i, S.new (.cells cs 0 []) = some (i, S') ∧ v = av i ∧ ∀ (Γ : Ctx) (w : World) (a : Act), (TR Γ t a) → AllocRun P Γ w a o cs av := by
  cases hop : o.op <;> simp only [clsOf, hop] at hc <;> try (cases hc; done)
  case alloc ty =>
    simp only [evOp, hop] at h
    split at h
    · rename_i z hz
      obtain ⟨i, hn, e⟩ := opAlloc_eq h
      exact ⟨z, _, i, hn, e, fun Γ w a ht => arun_alloc hop hz⟩
    · cases h
  case box ty x =>
    simp only [evOp, hop] at h
    split at h
    · cases h
    · cases h
    · rename_i h1 h2
      obtain ⟨i, hn, e⟩ := opAlloc_eq h
      exact ⟨_, _, i, hn, e, fun Γ w a ht => arun_box ht hop h1 h2⟩
  case buildSlice ty n ps =>
    simp only [evOp, hop] at h
    split at h
    · rename_i el hu
      split at h
      · rename_i z sz hz hsz
        split at h
        · rename_i hc
          obtain ⟨c1, c2⟩ := hc
          split at h
          · rename_i cs hf
            obtain ⟨i, hn, e⟩ := opRow_eq h
            exact ⟨_, fun i => .ref sz i 0 n, i, hn, e, fun Γ w a ht => arun_buildSlice ht hop hu hz hsz c1 c2 hf⟩
          · cases h
        · cases h
      · cases h
    · cases h
  case makeSlice ty l c =>
    simp only [evOp, hop] at h
    unfold opMakeSlice at h
    split at h
    · rename_i el hu
      split at h
      · rename_i z sz n m hz hsz hl hc
        split at h
        · rename_i hcond
          obtain ⟨c1, c2, c3, c4⟩ := hcond
          obtain ⟨i, hn, e⟩ := opRow_eq h
          exact ⟨_, fun i => .ref sz i 0 n, i, hn, e, fun Γ w a ht => arun_makeSlice ht hop hu hz hsz hl hc c1 c2 c3 c4⟩
        · cases h
      · cases h
    · cases h
  case call c =>
    cases hcc : c.callee with
    | value x => rw [hcc] at hc; cases hc
    | invoke x m => rw [hcc] at hc; cases hc
    | builtin b => rw [hcc] at hc; cases b <;> cases hc

theorem fill_congr {place : Nat → Option (Nat × Nat)} : ∀ (ps : List (Nat × Operand)) (z : List V), (∀ p ∈ ps, opd t p.2 = opd t' p.2) → fill place t ps z = fill place t' ps z
  | [], z, _ => rfl
  | (i, x) :: ps, z, h => by
    have hx := h (i, x) (by simp)
    simp only at hx
    have ih := fun z' => fill_congr (place := place) ps z' fun p hp => h p (by simp [hp])
    simp only [fill, hx, ih]
theorem map_congr {l : List Operand} (h : ∀ x ∈ l, opd t x = opd t' x) : l.map (opd t) = l.map (opd t') := List.map_congr_left h
theorem evOp_congr (h : ∀ x ∈ o.op.operands.toList, opd t x = opd t' x) : evOp P call o t S = evOp P call o t' S := by
  cases hop : o.op <;> rw [hop] at h <;> simp only [evOp, hop]
  case move x => rw [h x (by simp [Op.operands])]
  case assign x => rw [h x (by simp [Op.operands])]
  case pick c x y => rw [h c (by simp [Op.operands]), h x (by simp [Op.operands]), h y (by simp [Op.operands])]
  case box ty x => rw [h x (by simp [Op.operands])]
  case build ty ps =>
    have : ∀ z place, fill place t ps.toList z = fill place t' ps.toList z := fun z place => fill_congr _ _ fun p hp => h p.2 (by simp only [Op.operands]; exact List.mem_map.2 ⟨p, hp, rfl⟩)
    simp only [this]
  case buildSlice ty n ps =>
    have : ∀ z place, fill place t ps.toList z = fill place t' ps.toList z := fun z place => fill_congr _ _ fun p hp => h p.2 (by simp only [Op.operands]; exact List.mem_map.2 ⟨p, hp, rfl⟩)
    simp only [this]
  case load ty x => rw [h x (by simp [Op.operands])]
  case store ty x y => rw [h x (by simp [Op.operands]), h y (by simp [Op.operands])]
  case nilCheck x => rw [h x (by simp [Op.operands])]
  case binOp op ty x y ty' => rw [h x (by simp [Op.operands]), h y (by simp [Op.operands])]
  case unOp op ty x => rw [h x (by simp [Op.operands])]
  case convert s d x => rw [h x (by simp [Op.operands])]
  case makeFunc fn x y =>
    cases fn <;> simp only []
    rw [map_congr (l := x.toList) fun z hz => h z (by simp [Op.operands]; left; simpa using hz), map_congr (l := y.toList) fun z hz => h z (by simp [Op.operands]; right; simpa using hz)]
  case slice ty x lo hi mx =>
    have hx := h x (by simp [Op.operands])
    have hlo : ∀ d, bound d t lo = bound d t' lo := by
      intro d; cases lo with
      | none => rfl
      | some y => simp only [bound]; rw [h y (by simp [Op.operands])]
    have hhi : ∀ d, bound d t hi = bound d t' hi := by
      intro d; cases hi with
      | none => rfl
      | some y => simp only [bound]; rw [h y (by simp [Op.operands])]
    cases mx with
    | none => simp only [opSlice, hx, hlo, hhi]
    | some mx =>
      have hmx := h mx (by simp [Op.operands])
      have hh : ∀ y, hi = some y → opd t y = opd t' y := fun y e => h y (by simp [Op.operands, e])
      cases hi with
      | none => simp only [opSlice3]; rw [hx]; cases opd t' x <;> rfl
      | some y => simp only [opSlice3, hx, hlo, hmx]; cases opd t' x <;> simp only [hh y rfl]
  case fieldAddr s x f => rw [h x (by simp [Op.operands])]
  case field s x f => rw [h x (by simp [Op.operands])]
  case indexAddr ty x i => rw [h x (by simp [Op.operands]), h i (by simp [Op.operands])]
  case index ty x i => rw [h x (by simp [Op.operands]), h i (by simp [Op.operands])]
  case makeSlice ty l c => rw [h l (by simp [Op.operands]), h c (by simp [Op.operands])]
  case extract x i => rw [h x (by simp [Op.operands])]
  case makeMap ty r => cases r <;> rfl
  case lookup ty x i ok => rw [h x (by simp [Op.operands]), h i (by simp [Op.operands])]
  case mapEntry ty m k => rw [h m (by simp [Op.operands]), h k (by simp [Op.operands])]
  case entryStore ty m i x => rw [h m (by simp [Op.operands]), h i (by simp [Op.operands]), h x (by simp [Op.operands])]
  case mapUpdate ty m k x => rw [h m (by simp [Op.operands]), h k (by simp [Op.operands]), h x (by simp [Op.operands])]
  case call c =>
    have hargs : ∀ x ∈ c.args.toList, opd t x = opd t' x := fun x hx => h x (by simp [Op.operands, Call.operands]; right; simpa using hx)
    have hmap := map_congr hargs
    cases hcc : c.callee with
    | value x => simp only []; rw [h x (by simp [Op.operands, Call.operands, hcc]), hmap]
    | invoke x m => rfl
    | builtin b =>
      cases b <;> simp only [hmap]
      case len =>
        cases hal : c.args.toList with
        | nil => rfl
        | cons x r =>
          rw [hal] at hargs
          cases r with
          | cons _ _ => rfl
          | nil =>
            cases c.argTypes.toList with
            | nil => rfl
            | cons ty r => cases r with
              | nil => simp only []; rw [hargs x (by simp)]
              | cons _ _ => rfl
      case cap =>
        cases hal : c.args.toList with
        | nil => rfl
        | cons x r =>
          rw [hal] at hargs
          cases r with
          | nil =>
            have e1 := hargs x (by simp)
            rcases c.argTypes.toList with _ | ⟨ty, _ | ⟨_, _⟩⟩ <;> simp only [] <;> rw [e1]
          | cons y r => rfl
      case append =>
        cases hal : c.args.toList with
        | nil => rfl
        | cons x r =>
          rw [hal] at hargs
          cases r with
          | nil => rfl
          | cons y r => cases r with
            | nil =>
              have e1 := hargs x (by simp)
              have e2 := hargs y (by simp)
              rcases c.argTypes.toList with _ | ⟨ty, _ | ⟨ty', _ | ⟨_, _⟩⟩⟩ <;> simp only [] <;> rw [e1, e2]
            | cons _ _ => rfl
      case clear =>
        cases hal : c.args.toList with
        | nil => rfl
        | cons x r =>
          rw [hal] at hargs
          cases r with
          | nil =>
            have e1 := hargs x (by simp)
            rcases c.argTypes.toList with _ | ⟨ty, _ | ⟨_, _⟩⟩ <;> simp only [] <;> rw [e1]
          | cons y r => rfl
      case copy =>
        cases hal : c.args.toList with
        | nil => rfl
        | cons x r =>
          rw [hal] at hargs
          cases r with
          | nil => rfl
          | cons y r => cases r with
            | nil =>
              have e1 := hargs x (by simp)
              have e2 := hargs y (by simp)
              rcases c.argTypes.toList with _ | ⟨ty, _⟩ <;> simp only [] <;> rw [e1, e2]
            | cons _ _ => rfl

theorem new_get {ob : Ob} {i : Id} (h : S.new ob = some (i, S')) (id : Id) : S.get id ≠ .free → S'.get id ≠ .free := by
  obtain ⟨h1, h2⟩ := St.new_eq h
  intro hn
  rw [h2]
  split
  · rename_i e; rw [e, h1] at hn; exact absurd rfl hn
  · exact hn
end
end Go.Vm

namespace Go.Vm
variable [Gl]
open Go.RowKit

/-- What is there stays there. -/
def Nf (S S' : St) : Prop := ∀ id, S.get id ≠ .free → S'.get id ≠ .free
theorem Nf.refl (S : St) : Nf S S := fun _ h => h
theorem Nf.trans {S S1 S2 : St} (h : Nf S S1) (k : Nf S1 S2) : Nf S S2 := fun id e => k id (h id e)
def CallNf (call : CallF) : Prop := ∀ (f : FuncId) (args : List V) (S : St) (r : V) (S' : St), call f args S = some (r, S') → Nf S S'

section
variable {P : Program} {S S' : St} {t t' : Tm} {o : Oper} {v : V} {call : CallF} {nt : Nat} {ops : Array Oper}

theorem killAll_nf : ∀ (l : List Id) (S : St), Nf S (killAll l S) := by
  intro l S id h
  rcases killAll_get S l id with e | ⟨e, _, _⟩
  · rw [e]; exact h
  · rw [e]; simp
theorem set_nf (S : St) (i : Id) (o : Ob) (ho : o ≠ .free) : Nf S (S.set i o) := by
  intro id h
  rw [St.get_set]
  split
  · exact ho
  · exact h
theorem writeAt_nf {x : V} {vs : List V} (h : writeAt S x vs = some S') : Nf S S' := by
  unfold writeAt at h
  split at h
  · split at h
    · split at h
      · injection h with h; subst h
        exact (killAll_nf _ S).trans (set_nf _ _ _ (by simp))
      · cases h
    · cases h
  · cases h
theorem opAppend_nf {ty : TypeId} {x y : V} (h : opAppend P ty x y S = some (v, S')) : Nf S S' := by
  unfold opAppend at h
  split at h
  · split at h
    · cases h
    · split at h
      · cases h
      · split at h <;> first
          | (injection h with h; injection h with _ h; subst h; exact .refl _)
          | cases h
      · split at h
        · split at h
          · split at h
            · split at h
              · rename_i hn; injection h with h; injection h with _ h; subst h; exact new_get hn
              · cases h
            · cases h
          · split at h
            · split at h
              · split at h
                · rename_i hn; injection h with h; injection h with _ h; subst h
                  exact (set_nf S _ _ (by simp)).trans (new_get hn)
                · cases h
              · cases h
            · cases h
          · cases h
        · cases h
  · cases h
theorem opMapUpdate_nf {ty : TypeId} {m k x : V} (h : opMapUpdate P ty m k x S = some (v, S')) : Nf S S' := by
  unfold opMapUpdate at h
  split at h <;> try (cases h; done)
  split at h <;> try (cases h; done)
  split at h <;> try (cases h; done)
  split at h <;> try (cases h; done)
  split at h <;> try (cases h; done)
  injection h with h; injection h with _ h; subst h
  exact set_nf _ _ _ (by simp)
theorem opMapEntry_nf {ty : TypeId} {m k : V} (h : opMapEntry P ty m k S = some (v, S')) : Nf S S' := by
  unfold opMapEntry at h
  split at h <;> try (cases h; done)
  split at h <;> try (cases h; done)
  split at h <;> try (cases h; done)
  split at h <;> try (cases h; done)
  split at h <;> try (cases h; done)
  split at h <;> try (cases h; done)
  injection h with h; injection h with _ h; subst h
  exact set_nf _ _ _ (by simp)
theorem opEntryStore_nf {m i x : V} (h : opEntryStore m i x S = some (v, S')) : Nf S S' := by
  unfold opEntryStore at h
  split at h <;> try (cases h; done)
  split at h <;> try (cases h; done)
  split at h <;> try (cases h; done)
  injection h with h; injection h with _ h; subst h
  exact set_nf _ _ _ (by simp)
theorem cutX_nf {x : V} {S1 : St} (h : cutX x S = some S1) : Nf S S1 := by
  unfold cutX at h
  split at h
  · split at h
    · cases h
    · split at h
      · injection h with h; subst h; exact .refl _
      · split at h
        · injection h with h; subst h; exact set_nf _ _ _ (by simp)
        · injection h with h; subst h; exact .refl _
    · injection h with h; subst h; exact .refl _
  · injection h with h; subst h; exact .refl _
theorem opAppend2_nf {ty : TypeId} {x y : V} (h : opAppend2 P ty x y S = some (v, S')) : Nf S S' := by
  unfold opAppend2 at h
  split at h
  · rename_i hc; exact (cutX_nf hc).trans (opAppend_nf h)
  · cases h
theorem opAppendN_nf {ty : TypeId} {x y : V} (h : opAppendN P ty x y S = some (v, S')) : Nf S S' := by
  unfold opAppendN at h
  split at h <;> try (cases h; done)
  split at h <;> try (cases h; done)
  split at h <;> try (cases h; done)
  split at h
  · rename_i hn; injection h with h; injection h with _ h; subst h; exact new_get hn
  · cases h
theorem opCopy_nf {ty : TypeId} {x y : V} (h : opCopy P ty x y S = some (v, S')) : Nf S S' := by
  unfold opCopy at h
  split at h <;> try (cases h; done)
  split at h <;> try (cases h; done)
  split at h <;> try (cases h; done)
  split at h <;> try (cases h; done)
  · injection h with h; injection h with _ h; subst h; exact .refl _
  · split at h
    · rename_i hw; injection h with h; injection h with _ h; subst h; exact writeAt_nf hw
    · cases h
theorem opClear_nf {ty : TypeId} {x : V} (h : opClear P ty x S = some (v, S')) : Nf S S' := by
  unfold opClear at h
  split at h <;> try (cases h; done)
  split at h <;> try (cases h; done)
  · injection h with h; injection h with _ h; subst h; exact .refl _
  · injection h with h; injection h with _ h; subst h; exact .refl _
  · split at h <;> try (cases h; done)
    split at h
    · rename_i hw; injection h with h; injection h with _ h; subst h; exact writeAt_nf hw
    · cases h
theorem evOp_nf (hcall : CallNf call) (h : evOp P call o t S = some (v, S')) : Nf S S' := by
  cases hc : clsOf o with
  | P => rw [(P_spec hc h).1]; exact .refl _
  | L => rw [(L_spec hc h).1]; exact .refl _
  | A => obtain ⟨_, _, _, hn, _⟩ := A_spec hc h; exact new_get hn
  | E =>
    cases hop : o.op <;> simp only [clsOf, hop] at hc <;> try (cases hc; done)
    case store ty x y =>
      simp only [evOp, hop] at h
      unfold opStore at h
      split at h
      · split at h
        · split at h
          · split at h
            · rename_i hw; injection h with h; injection h with _ h; subst h; exact writeAt_nf hw
            · cases h
          · cases h
        · cases h
      · split at h
        · split at h
          · rename_i hw; injection h with h; injection h with _ h; subst h; exact writeAt_nf hw
          · cases h
        · cases h
      · cases h
    case call c =>
      simp only [evOp, hop] at h
      cases hcc : c.callee with
      | invoke r m => rw [hcc] at h; cases h
      | value x =>
        rw [hcc] at h
        simp only [] at h
        split at h
        · exact hcall _ _ _ _ _ h
        · cases h
      | builtin b =>
        rw [hcc] at h hc
        cases b <;> simp only [] at h hc <;> try (first | (cases h; done) | (cases hc; done))
        case append =>
          split at h
          · split at h
            · exact opAppendN_nf h
            · exact opAppend2_nf h
            · cases h
          · cases h
        case copy =>
          split at h
          · exact opCopy_nf h
          · cases h
        case clear =>
          split at h
          · exact opClear_nf h
          · cases h
    case makeMap ty r =>
      simp only [evOp, hop] at h
      cases r <;> simp only [] at h <;> try (cases h; done)
      unfold opMakeMap at h
      split at h
      · rename_i hn; injection h with h; injection h with _ h; subst h; exact new_get hn
      · cases h
    case mapUpdate ty m k x => simp only [evOp, hop] at h; exact opMapUpdate_nf h
    case mapEntry ty m k => simp only [evOp, hop] at h; exact opMapEntry_nf h
    case entryStore ty m i x => simp only [evOp, hop] at h; exact opEntryStore_nf h
    all_goals (simp only [evOp, hop] at h; try (cases h; done))
theorem evOps_nf (hcall : CallNf call) : ∀ (l : List Oper) {t : Tm} {S : St}, evOps P nt call ops l t S = some (t', S') → Nf S S'
  | [], t, S, h => by simp only [evOps, Option.some.injEq, Prod.mk.injEq] at h; obtain ⟨_, e⟩ := h; subst e; exact .refl _
  | o :: r, t, S, h => by
    unfold evOps at h
    split at h
    · split at h
      · rename_i he; exact (evOp_nf hcall he).trans (evOps_nf hcall r h)
      · cases h
    · exact evOps_nf hcall r h
    · cases h
theorem amb2_eq {f : Tm → St → RC} {x y : Option (Tm × St)} {s : Sig} {t' : Tm} {S S' : St} (h : amb2 S f x y = some (s, t', S')) :
    ∃ t A u B ta Aa tb Bb, x = some (t, A) ∧ y = some (u, B) ∧ f t A = some (.norm, ta, Aa) ∧ f u B = some (.norm, tb, Bb) ∧ MergeOK S Aa Bb ∧ s = .norm ∧ t' = mergeT ta tb ∧ S' = mergeS Aa Bb := by
  unfold amb2 at h
  split at h
  · rename_i t A u B
    unfold merge2 at h
    split at h
    · rename_i ta Aa tb Bb h1 h2
      split at h
      · rename_i hm
        simp only [Option.some.injEq, Prod.mk.injEq] at h
        obtain ⟨e1, e2, e3⟩ := h
        exact ⟨t, A, u, B, ta, Aa, tb, Bb, rfl, rfl, h1, h2, hm, e1.symm, e2.symm, e3.symm⟩
      · cases h
    · cases h
  · cases h
theorem mergeD_cases (a b : Ob) : mergeD a b = .dead ∨ ∃ l fz anc anc', a = .cells l fz anc ∧ b = .cells l fz anc' ∧ mergeD a b = .cells l fz (anc ++ anc') := by
  unfold mergeD
  split
  · rename_i l fz anc l' fz' anc'
    split
    · rename_i h; obtain ⟨h1, h2⟩ := h; subst h1; subst h2; exact .inr ⟨l, fz, anc, anc', rfl, rfl, rfl⟩
    · exact .inl rfl
  · exact .inl rfl
theorem mergeOb_self (a : Ob) : mergeOb a a = a := by simp [mergeOb]
theorem mergeS_free {S A B : St} (hm : MergeOK S A B) (id : Id) : (mergeS A B).get id = .free ↔ A.get id = .free := by
  simp only [mergeS, mergeOb]
  split
  · exact Iff.rfl
  · rename_i hne
    constructor
    · intro h
      rcases mergeD_cases (A.get id) (B.get id) with e | ⟨l, fz, anc, anc', _, _, e⟩ <;> rw [e] at h <;> cases h
    · intro h; exact absurd (h.trans ((hm.2 id).1.1 h).symm) hne
theorem rangeB_eq {g : V} {ps : List Nat} {t t' : Tm} {S S' : St} {f : Nat → Nat → V → V → St → Option (Sig × St)} {s : Sig} (h : rangeB P g ps t S f = some (s, t', S')) :
    ∃ j p p0 p1 sl el l m, g = .fn j [] [p] ∧ ps = [p0, p1] ∧ backOf P j = some (sl, el) ∧ opLoad P sl p S = some l ∧ lenSlice l = some m ∧ m ≤ maxRow ∧ t' = t ∧ backN P sl el p (f p0 p1) m S = some (s, S') := by
  unfold rangeB at h
  split at h
  · rename_i j p p0 p1
    split at h
    · rename_i sl el hb
      split at h
      · rename_i l hl
        split at h
        · rename_i m hm
          split at h
          · rename_i hle
            split at h
            · rename_i s1 S1 hk
              simp only [Option.some.injEq, Prod.mk.injEq] at h
              obtain ⟨e1, e2, e3⟩ := h; subst e1; subst e2; subst e3
              exact ⟨j, p, p0, p1, sl, el, l, m, rfl, rfl, hb, hl, hm, hle, rfl, hk⟩
            · cases h
          · cases h
        · cases h
      · cases h
    · cases h
  · cases h
theorem backN_nf {sl el : TypeId} {p : V} {f : V → V → St → Option (Sig × St)} (hf : ∀ i v S s S', f i v S = some (s, S') → Nf S S') : ∀ (i : Nat) {S : St} {s : Sig} {S' : St}, backN P sl el p f i S = some (s, S') → Nf S S'
  | 0, S, s, S', h => by simp only [backN, Option.some.injEq, Prod.mk.injEq] at h; obtain ⟨_, e⟩ := h; subst e; exact .refl _
  | i + 1, S, s, S', h => by
    simp only [backN] at h
    split at h
    · split at h
      · rename_i h1; exact (hf _ _ _ _ _ h1).trans (backN_nf hf i h)
      · exact hf _ _ _ _ _ h
    · cases h
theorem round2_eq {fa fb : Tm → St → RC} {p0 p1 : Nat} {i v : V} {S S' : St} {s : Sig} (h : round2 nt fa fb p0 p1 t i v S = some (s, S')) :
    ∃ t1 S1 t2, fa (putT nt (putT nt t (some p0) i) (some p1) v) S = some (.norm, t1, S1) ∧ fb t1 S1 = some (s, t2, S') := by
  unfold round2 at h
  split at h
  · rename_i t1 S1 h1
    split at h
    · rename_i s2 t2 S2 h2
      simp only [Option.some.injEq, Prod.mk.injEq] at h
      obtain ⟨e1, e2⟩ := h; subst e1; subst e2
      exact ⟨t1, S1, t2, h1, h2⟩
    · cases h
  · cases h
theorem evC_nf {okR : CallF → Nat → Array Oper → Tm → St → Prop} (hcall : CallNf call) {n : Nat} : ∀ (c : Code) {t : Tm} {S : St} {s : Sig} {t' : Tm} {S' : St}, evC P okR nt call n c t S = some (s, t', S') → Nf S S'
  | .skip, t, S, s, t', S', h => by simp only [evC, Option.some.injEq, Prod.mk.injEq] at h; obtain ⟨_, _, e⟩ := h; subst e; exact .refl _
  | .exit _, t, S, s, t', S', h => by simp only [evC, Option.some.injEq, Prod.mk.injEq] at h; obtain ⟨_, _, e⟩ := h; subst e; exact .refl _
  | .ret, t, S, s, t', S', h => by simp only [evC, Option.some.injEq, Prod.mk.injEq] at h; obtain ⟨_, _, e⟩ := h; subst e; exact .refl _
  | .region _ ops _, t, S, s, t', S', h => by
    simp only [evC] at h
    split at h
    · split at h
      · obtain ⟨t1, A, u, B, ta, Aa, tb, Bb, e1, e2, h1, h2, hm, _, _, e5⟩ := amb2_eq h
        subst e5
        simp only [Option.some.injEq, Prod.mk.injEq] at h1
        obtain ⟨_, _, h1⟩ := h1; subst h1
        intro id hid hf
        rw [mergeS_free hm] at hf
        exact evOps_nf hcall _ e1 id hid hf
      · cases h
    split at h
    · cases h
    · split at h
      · rename_i he
        simp only [Option.some.injEq, Prod.mk.injEq] at h; obtain ⟨_, _, e⟩ := h; subst e
        exact evOps_nf hcall _ he
      · cases h
  | .seq a b, t, S, s, t', S', h => by
    simp only [evC] at h
    split at h
    · rename_i ops l1 l2 _
      obtain ⟨t1, A, u, B, ta, Aa, tb, Bb, e1, e2, h1, h2, hm, _, _, e5⟩ := amb2_eq h
      subst e5
      intro id hid hf
      rw [mergeS_free hm] at hf
      exact evC_nf hcall b h1 id (evOps_nf hcall _ e1 id hid) hf
    · split at h
      · rename_i h1; exact (evC_nf hcall a h1).trans (evC_nf hcall b h)
      · exact evC_nf hcall a h
  | .cond c a b, t, S, s, t', S', h => by
    simp only [evC] at h
    split at h
    · exact evC_nf hcall a h
    · exact evC_nf hcall b h
    · cases h
  | .block id b, t, S, s, t', S', h => by
    simp only [evC] at h
    split at h
    · rename_i h1
      split at h <;> (simp only [Option.some.injEq, Prod.mk.injEq] at h; obtain ⟨_, _, e⟩ := h; subst e; exact evC_nf hcall b h1)
    · exact evC_nf hcall b h
  | .loop b, t, S, s, t', S', h => by
    simp only [evC] at h
    suffices hl : ∀ (k : Nat) {t : Tm} {S : St} {s : Sig} {t' : Tm} {S' : St}, loopN (evC P okR nt call n b) k t S = some (s, t', S') → Nf S S' from hl n h
    intro k
    induction k with
    | zero => intro t S s t' S' h; cases h
    | succ k ih =>
      intro t S s t' S' h
      simp only [loopN] at h
      split at h
      · rename_i h1; exact (evC_nf hcall b h1).trans (ih h)
      · exact evC_nf hcall b h
  | .rangeFunc g ps x y, t, S, s, t', S', h => by
    simp only [evC] at h
    split at h
    · obtain ⟨j, p, p0, p1, sl, el, l, m, _, _, _, _, _, _, _, hk⟩ := rangeB_eq h
      refine backN_nf (fun i v S s S' hr => ?_) m hk
      obtain ⟨t1, S1, t2, h1, h2⟩ := round2_eq hr
      exact (evC_nf hcall x h1).trans (evC_nf hcall y h2)
    · cases h
  | .scope _, t, S, s, t', S', h => by simp [evC] at h
  | .label _, t, S, s, t', S', h => by simp [evC] at h
  | .goto _, t, S, s, t', S', h => by simp [evC] at h
  | .refuse _, t, S, s, t', S', h => by simp [evC] at h
theorem callN_nf {base : AskF} (hb : CallNf (ansOf base)) {okR : CallF → Nat → Array Oper → Tm → St → Prop} : ∀ (n : Nat), CallNf (callN P base okR n)
  | 0 => fun f args S r S' h => hb f args S r S' h
  | n + 1 => fun f args S r S' h => by
    simp only [callN] at h
    split at h
    · rename_i r0 h0; exact hb f args S r S' (by simp only [ansOf, h0]; exact h)
    · split at h
      · cases h
      · split at h
        · cases h
        · split at h
          · cases h
          · split at h
            · cases h
            · cases h
            · rename_i he
              split at h
              · injection h with h; injection h with _ e; subst e; exact evC_nf (callN_nf hb n) _ he
              · cases h
end
end Go.Vm

namespace Go.Vm
variable [Gl]
open Go.RowKit

/-- X holds what S holds, and rows besides that the run from S to S' does not come to. -/
structure Ext (S S' X : St) : Prop where
  nx : X.nx = S.nx
  same : ∀ id, S.get id ≠ .free → X.get id = S.get id
  more : ∀ id, S.get id = .free → X.get id ≠ .free → (X.get id).live = true ∧ S'.get id = .free
structure Post (S' X X' : St) : Prop where
  nx : X'.nx = S'.nx
  same : ∀ id, S'.get id ≠ .free → X'.get id = S'.get id
  more : ∀ id, S'.get id = .free → X'.get id = X.get id
def CallMono (call : CallF) : Prop := ∀ (f : FuncId) (args : List V) (S : St) (r : V) (S' : St), call f args S = some (r, S') → ∀ X, Ext S S' X → ∃ X', call f args X = some (r, X') ∧ Post S' X X'

/-- Whether the base answers does not depend on the store. -/
def AskMono (base : AskF) : Prop := ∀ (f : FuncId) (args : List V) (S : St) (r : V) (S' : St), base f args S = some (some (r, S')) → ∀ X, Ext S S' X → ∃ X', base f args X = some (some (r, X')) ∧ Post S' X X'
def AskSame (base : AskF) : Prop := ∀ (f : FuncId) (args : List V) (S S' X : St), base f args S = none → Ext S S' X → base f args X = none
theorem Ext.first {S S1 S2 X : St} (h : Ext S S2 X) (hn : Nf S1 S2) : Ext S S1 X := by
  refine ⟨h.nx, h.same, fun id h1 h2 => ⟨(h.more id h1 h2).1, ?_⟩⟩
  have := (h.more id h1 h2).2
  exact Classical.byContradiction fun hc => hn id hc this
theorem Ext.second {S S1 S2 X X1 : St} (h : Ext S S2 X) (hn : Nf S S1) (hp : Post S1 X X1) : Ext S1 S2 X1 := by
  refine ⟨hp.nx, hp.same, fun id h1 h2 => ?_⟩
  rw [hp.more id h1] at h2 ⊢
  have h0 : S.get id = .free := Classical.byContradiction fun hc => hn id hc h1
  exact h.more id h0 h2
theorem Post.trans {S1 S2 X X1 X2 : St} (h : Post S1 X X1) (k : Post S2 X1 X2) (hn : Nf S1 S2) : Post S2 X X2 := by
  refine ⟨k.nx, k.same, fun id h1 => ?_⟩
  rw [k.more id h1]
  exact h.more id (Classical.byContradiction fun hc => hn id hc h1)
theorem Post.refl {S X : St} (h : Ext S S X) : Post S X X := ⟨h.nx, h.same, fun _ _ => rfl⟩

section
variable {P : Program} {S S' X : St} {t t' : Tm} {o : Oper} {v : V} {call : CallF} {nt : Nat} {ops : Array Oper}

theorem new_mono {ob : Ob} {i : Id} (h : S.new ob = some (i, S')) (hob : ob ≠ .free) (hx : Ext S S' X) : ∃ X', X.new ob = some (i, X') ∧ Post S' X X' := by
  unfold St.new at h
  split at h
  · rename_i hf
    split at h
    · rename_i n hn
      injection h with h; injection h with e1 e2
      have hxf : X.get S.nx = .free := by
        refine Classical.byContradiction fun hc => ?_
        have := (hx.more _ hf hc).2
        rw [← e2] at this
        simp at this
        exact hob this
      refine ⟨{ get := fun j => if j = S.nx then ob else X.get j, nx := n }, ?_, ?_⟩
      · unfold St.new
        rw [hx.nx, hxf]
        simp only [hn]
        rw [e1]
      · subst e2
        refine ⟨rfl, fun id h1 => ?_, fun id h1 => ?_⟩
        · simp only [] at h1 ⊢
          split
          · rfl
          · rename_i hne; rw [if_neg hne] at h1; exact hx.same id h1
        · simp only [] at h1 ⊢
          split
          · rename_i he; rw [if_pos he] at h1; exact absurd h1 hob
          · rfl
    · cases h
  · cases h
theorem set_mono {i : Id} {ob : Ob} (hob : ob ≠ .free) (hx : Ext S S X) : Post (S.set i ob) X (X.set i ob) := by
  refine ⟨hx.nx, fun id h1 => ?_, fun id h1 => ?_⟩
  · rw [St.get_set] at h1 ⊢
    rw [St.get_set]
    split
    · rfl
    · rename_i hne; rw [if_neg hne] at h1; exact hx.same id h1
  · rw [St.get_set] at h1 ⊢
    split
    · rename_i he; rw [if_pos he] at h1; exact absurd h1 hob
    · rfl
theorem killAll_mono : ∀ (l : List Id) (S X : St), Ext S S X → Post (killAll l S) X (killAll l X)
  | [], S, X, h => .refl h
  | i :: r, S, X, h => by
    simp only [killAll]
    cases hs : S.get i with
    | stale x =>
      have hx : X.get i = .stale x := by rw [h.same i (by rw [hs]; simp), hs]
      rw [hx]
      simp only []
      have hp := set_mono (i := i) (ob := .dead) (by simp) h
      have hn : Nf S (S.set i .dead) := set_nf S i .dead (by simp)
      have h0 : Ext S (S.set i .dead) X := by
        refine ⟨h.nx, h.same, fun id h1 h2 => ⟨(h.more id h1 h2).1, ?_⟩⟩
        rw [St.get_set]
        split
        · rename_i e; rw [e, hs] at h1; cases h1
        · exact h1
      have h1 : Ext (S.set i .dead) (S.set i .dead) (X.set i .dead) := h0.second hn hp
      exact hp.trans (killAll_mono r _ _ h1) (killAll_nf r _)
    | free =>
      have hx : ∀ x, X.get i ≠ .stale x := by
        intro x hc
        have := (h.more i hs (by rw [hc]; simp)).1
        rw [hc] at this; cases this
      cases hq : X.get i <;> first | exact killAll_mono r _ _ h | exact absurd hq (hx _)
    | dead => rw [h.same i (by rw [hs]; simp), hs]; exact killAll_mono r _ _ h
    | cells _ _ _ => rw [h.same i (by rw [hs]; simp), hs]; exact killAll_mono r _ _ h
    | map _ => rw [h.same i (by rw [hs]; simp), hs]; exact killAll_mono r _ _ h
theorem writeAt_mono {x : V} {vs : List V} (h : writeAt S x vs = some S') (hx : Ext S S' X) : ∃ X', writeAt X x vs = some X' ∧ Post S' X X' := by
  have hnf := writeAt_nf h
  have hxs : Ext S S X := hx.first hnf
  unfold writeAt at h
  split at h
  · rename_i id off
    split at h
    · rename_i l fz anc hs
      split at h
      · rename_i hc
        injection h with h; subst h
        have hX : X.get id = .cells l fz anc := by rw [hx.same id (by rw [hs]; simp), hs]
        refine ⟨(killAll anc X).set id (.cells (over l off vs) fz []), ?_, ?_⟩
        · simp only [writeAt, hX]; rw [if_pos hc]
        · have hp := killAll_mono anc S X hxs
          have hk : (killAll anc S).get id ≠ .free := killAll_nf anc S id (by rw [hs]; simp)
          have h1 : Ext S (killAll anc S) X := hx.first (set_nf _ _ _ (by simp))
          have h2 : Ext (killAll anc S) (killAll anc S) (killAll anc X) := h1.second (killAll_nf anc S) hp
          exact hp.trans (set_mono (by simp) h2) (set_nf _ _ _ (by simp))
      · cases h
    · cases h
  · cases h
theorem srcCells_mono {sz : Nat} {y : V} {r : Nat × List V} (h : srcCells sz S y = some r) (hx : Ext S S' X) : srcCells sz X y = some r := by
  unfold srcCells at h ⊢
  split at h <;> try (exact h)
  · rename_i e id off n
    split at h
    · rename_i l fz anc hs; simp only [hx.same id (by rw [hs]; simp), hs]; exact h
    · rename_i l hs; simp only [hx.same id (by rw [hs]; simp), hs]; exact h
    · cases h
theorem opAppend_mono {ty : TypeId} {x y : V} (h : opAppend P ty x y S = some (v, S')) (hx : Ext S S' X) : ∃ X', opAppend P ty x y X = some (v, X') ∧ Post S' X X' := by
  unfold opAppend at h
  split at h
  rotate_left
  · cases h
  rename_i el hu
  split at h
  · cases h
  rename_i sz hsz
  split at h
  · cases h
  · rename_i l0 hsrc
    have hsx := srcCells_mono hsrc hx
    split at h <;> first
      | (injection h with h; injection h with e1 e2; subst e1; subst e2
         exact ⟨X, by unfold opAppend; simp only [hu, hsz, hsx], .refl hx⟩)
      | cases h
  · rename_i m new hsrc
    have hsx := srcCells_mono hsrc hx
    split at h
    rotate_left
    · cases h
    rename_i hcond
    split at h
    · split at h
      rotate_left
      · cases h
      rename_i hmax
      split at h
      rotate_left
      · cases h
      rename_i i S1 hn
      injection h with h; injection h with e1 e2; subst e1; subst e2
      obtain ⟨X', hxn, hp⟩ := new_mono hn (by simp) hx
      exact ⟨X', by unfold opAppend; simp only [hu, hsz, hsx, if_pos hcond, if_pos hmax, hxn], hp⟩
    · rename_i es id off n
      split at h
      rotate_left
      · cases h
      rename_i l fz anc hs
      split at h
      rotate_left
      · cases h
      rename_i hc2
      split at h
      rotate_left
      · cases h
      rename_i i S1 hn
      injection h with h; injection h with e1 e2; subst e1; subst e2
      have hX : X.get id = .cells l fz anc := by rw [hx.same id (by rw [hs]; simp), hs]
      have n1 : Nf S (S.set id (.stale l)) := set_nf _ _ _ (by simp)
      have n2 : Nf (S.set id (.stale l)) S1 := new_get hn
      have h0 : Ext S S X := hx.first (n1.trans n2)
      have hp := set_mono (i := id) (ob := .stale l) (by simp) h0
      have h1 : Ext (S.set id (.stale l)) S1 (X.set id (.stale l)) := hx.second n1 hp
      obtain ⟨X', hxn, hp2⟩ := new_mono hn (by simp) h1
      exact ⟨X', by unfold opAppend; simp only [hu, hsz, hsx, if_pos hcond, hX, if_pos hc2, hxn], hp.trans hp2 n2⟩
    · cases h

theorem cutX_mono {x : V} {S1 : St} (h : cutX x S = some S1) (hx : Ext S S1 X) : ∃ X1, cutX x X = some X1 ∧ Post S1 X X1 := by
  cases x with
  | ref es id off n =>
    simp only [cutX] at h ⊢
    cases hs : S.get id with
    | free => rw [hs] at h; cases h
    | cells l fz anc =>
      have hX : X.get id = .cells l fz anc := by rw [hx.same id (by rw [hs]; simp), hs]
      rw [hs] at h
      rw [hX]
      cases anc with
      | cons _ _ => injection h with h; subst h; exact ⟨X, rfl, .refl hx⟩
      | nil =>
        simp only [] at h ⊢
        split at h
        · rename_i hc; injection h with h; subst h; exact ⟨X, by rw [if_pos hc], .refl hx⟩
        · rename_i hc
          rw [if_neg hc]
          split at h
          · rename_i hf
            injection h with h; subst h
            have h0 : Ext S S X := hx.first (set_nf _ _ _ (by simp))
            exact ⟨_, by rw [if_pos hf], set_mono (by simp) h0⟩
          · rename_i hf; injection h with h; subst h; exact ⟨X, by rw [if_neg hf], .refl hx⟩
    | dead =>
      have hX : X.get id = .dead := by rw [hx.same id (by rw [hs]; simp), hs]
      rw [hs] at h; rw [hX]
      injection h with h; subst h; exact ⟨X, rfl, .refl hx⟩
    | stale l =>
      have hX : X.get id = .stale l := by rw [hx.same id (by rw [hs]; simp), hs]
      rw [hs] at h; rw [hX]
      injection h with h; subst h; exact ⟨X, rfl, .refl hx⟩
    | map l =>
      have hX : X.get id = .map l := by rw [hx.same id (by rw [hs]; simp), hs]
      rw [hs] at h; rw [hX]
      injection h with h; subst h; exact ⟨X, rfl, .refl hx⟩
  | _ => injection h with h; subst h; exact ⟨X, rfl, .refl hx⟩
theorem opAppend2_mono {ty : TypeId} {x y : V} (h : opAppend2 P ty x y S = some (v, S')) (hx : Ext S S' X) : ∃ X', opAppend2 P ty x y X = some (v, X') ∧ Post S' X X' := by
  unfold opAppend2 at h
  split at h
  · rename_i S1 hc
    have n1 := cutX_nf hc
    have n2 := opAppend_nf h
    obtain ⟨X1, q1, p1⟩ := cutX_mono hc (hx.first n2)
    obtain ⟨X2, q2, p2⟩ := opAppend_mono h (hx.second n1 p1)
    exact ⟨X2, by unfold opAppend2; simp only [q1, q2], p1.trans p2 n2⟩
  · cases h
theorem opAppendN_mono {ty : TypeId} {x y : V} (h : opAppendN P ty x y S = some (v, S')) (hx : Ext S S' X) : ∃ X', opAppendN P ty x y X = some (v, X') ∧ Post S' X X' := by
  unfold opAppendN at h
  split at h <;> try (cases h; done)
  rename_i el hu
  split at h <;> try (cases h; done)
  rename_i z sz m hz hsz hm
  split at h <;> try (cases h; done)
  rename_i hc
  split at h
  · rename_i i S1 hn
    injection h with h; injection h with e1 e2; subst e1; subst e2
    obtain ⟨X', hxn, hp⟩ := new_mono hn (by simp) hx
    exact ⟨X', by unfold opAppendN; simp only [hu, hz, hsz, hm, if_pos hc, hxn], hp⟩
  · cases h
theorem mapCells_mono {x : V} {l : List (V × V)} (h : mapCells S x = some l) (hx : Ext S S' X) : mapCells X x = some l := by
  unfold mapCells at h ⊢
  split at h <;> try (exact h)
  rename_i id
  split at h
  · rename_i l' hs; simp only [hx.same id (by rw [hs]; simp), hs]; exact h
  · cases h
theorem opLookup_mono {ty : TypeId} {x i : V} {ok : Bool} (h : opLookup P ty x i ok S = some v) (hx : Ext S S' X) : opLookup P ty x i ok X = some v := by
  unfold opLookup at h ⊢
  split at h
  · split at h
    · rename_i hf
      rw [if_pos hf]
      split at h
      · rename_i l hl
        simp only [mapCells_mono hl hx]; exact h
      · cases h
    · cases h
  · cases h
theorem opMapUpdate_mono {ty : TypeId} {m k x : V} (h : opMapUpdate P ty m k x S = some (v, S')) (hx : Ext S S' X) : ∃ X', opMapUpdate P ty m k x X = some (v, X') ∧ Post S' X X' := by
  have hnf := opMapUpdate_nf h
  have hxs : Ext S S X := hx.first hnf
  unfold opMapUpdate at h
  split at h <;> try (cases h; done)
  rename_i id
  split at h <;> try (cases h; done)
  rename_i d el hd
  split at h <;> try (cases h; done)
  rename_i hf
  split at h <;> try (cases h; done)
  rename_i l hs
  split at h <;> try (cases h; done)
  rename_i l' hl
  injection h with h; injection h with e1 e2; subst e1; subst e2
  have hX : X.get id = .map l := by rw [hx.same id (by rw [hs]; simp), hs]
  exact ⟨X.set id (.map l'), by unfold opMapUpdate; simp only [hd, if_pos hf, hX, hl], set_mono (by simp) hxs⟩
theorem opMapEntry_mono {ty : TypeId} {m k : V} (h : opMapEntry P ty m k S = some (v, S')) (hx : Ext S S' X) : ∃ X', opMapEntry P ty m k X = some (v, X') ∧ Post S' X X' := by
  have hnf := opMapEntry_nf h
  have hxs : Ext S S X := hx.first hnf
  unfold opMapEntry at h
  split at h <;> try (cases h; done)
  rename_i id
  split at h <;> try (cases h; done)
  rename_i d el hd
  split at h <;> try (cases h; done)
  rename_i hf
  split at h <;> try (cases h; done)
  rename_i z hz
  split at h <;> try (cases h; done)
  rename_i l hs
  split at h <;> try (cases h; done)
  rename_i l' v' i hl
  injection h with h; injection h with e1 e2; subst e1; subst e2
  have hX : X.get id = .map l := by rw [hx.same id (by rw [hs]; simp), hs]
  exact ⟨X.set id (.map l'), by unfold opMapEntry; simp only [hd, if_pos hf, hz, hX, hl], set_mono (by simp) hxs⟩
theorem opEntryStore_mono {m i x : V} (h : opEntryStore m i x S = some (v, S')) (hx : Ext S S' X) : ∃ X', opEntryStore m i x X = some (v, X') ∧ Post S' X X' := by
  have hnf := opEntryStore_nf h
  have hxs : Ext S S X := hx.first hnf
  unfold opEntryStore at h
  split at h <;> try (cases h; done)
  rename_i id
  split at h <;> try (cases h; done)
  rename_i l n hs hn
  split at h <;> try (cases h; done)
  rename_i e he
  injection h with h; injection h with e1 e2; subst e1; subst e2
  have hX : X.get id = .map l := by rw [hx.same id (by rw [hs]; simp), hs]
  exact ⟨X.set id (.map (l.set n (e.1, x))), by unfold opEntryStore; simp only [hX, hn, he], set_mono (by simp) hxs⟩
theorem opCopy_mono {ty : TypeId} {x y : V} (h : opCopy P ty x y S = some (v, S')) (hx : Ext S S' X) : ∃ X', opCopy P ty x y X = some (v, X') ∧ Post S' X X' := by
  unfold opCopy at h
  split at h <;> try (cases h; done)
  rename_i el hu
  split at h <;> try (cases h; done)
  rename_i sz e id off n hsz
  split at h <;> try (cases h; done)
  rename_i y' hc
  split at h <;> try (cases h; done)
  · rename_i l0 hsrc
    injection h with h; injection h with e1 e2; subst e1; subst e2
    exact ⟨X, by unfold opCopy; simp only [hu, hsz, hc, srcCells_mono hsrc hx], .refl hx⟩
  · rename_i k new hsrc
    split at h
    · rename_i S1 hw
      injection h with h; injection h with e1 e2; subst e1; subst e2
      obtain ⟨X', h1, h2⟩ := writeAt_mono hw hx
      exact ⟨X', by unfold opCopy; simp only [hu, hsz, hc, srcCells_mono hsrc hx, h1], h2⟩
    · cases h

theorem opClear_mono {ty : TypeId} {x : V} (h : opClear P ty x S = some (v, S')) (hx : Ext S S' X) : ∃ X', opClear P ty x X = some (v, X') ∧ Post S' X X' := by
  unfold opClear at h
  split at h <;> try (cases h; done)
  rename_i el hu
  split at h <;> try (cases h; done)
  · injection h with h; injection h with e1 e2; subst e1; subst e2
    exact ⟨X, by unfold opClear; simp only [hu], .refl hx⟩
  · injection h with h; injection h with e1 e2; subst e1; subst e2
    exact ⟨X, by unfold opClear; simp only [hu], .refl hx⟩
  · split at h <;> try (cases h; done)
    rename_i z hz
    split at h
    · rename_i S1 hw
      injection h with h; injection h with e1 e2; subst e1; subst e2
      obtain ⟨X', h1, h2⟩ := writeAt_mono hw hx
      exact ⟨X', by unfold opClear; simp only [hu, hz, h1], h2⟩
    · cases h
theorem look_same {id : Id} (hx : Ext S S' X) (h : (S.get id).look ≠ none) : (X.get id).look = (S.get id).look := by
  rw [hx.same id (fun e => h (by rw [e]; rfl))]
theorem readId_look (hc : clsOf o = .L) (h : evOp P call o t S = some (v, S')) {id : Id} (hr : readId o t = some id) : (S.get id).look ≠ none := by
  cases hop : o.op <;> simp only [clsOf, hop] at hc <;> try (cases hc; done)
  case load ty x =>
    simp only [evOp, hop] at h
    simp only [readId, hop] at hr
    obtain ⟨e1, _⟩ := ret1_eq h
    split at hr
    · rename_i id' off hx
      injection hr with hr; subst hr
      unfold opLoad at e1
      rw [hx] at e1
      simp only [cellsAt] at e1
      intro hn
      cases hs : S.get id' <;> rw [hs] at hn e1 <;> simp [Ob.look] at hn <;> (cases isAggT P ty <;> simp at e1)
    · cases hr
  case convert a b x =>
    simp only [evOp, hop] at h
    simp only [readId, hop] at hr
    obtain ⟨e1, _⟩ := ret1_eq h
    split at hr
    · rename_i e id' off n hx
      injection hr with hr; subst hr
      unfold opConv at e1
      rw [hx] at e1
      intro hn
      have hs : srcCells 1 S (.ref e id' off n) = none := by
        simp only [srcCells]
        cases hs : S.get id' <;> rw [hs] at hn <;> simp [Ob.look] at hn <;> rfl
      have hb : bytesAt S (.ref e id' off n) = none := by simp only [bytesAt]; simp only [hs]
      rw [hb] at e1
      split at e1 <;> try (cases e1; done)
      split at e1 <;> cases e1
    · cases hr
  case lookup ty x i ok =>
    simp only [evOp, hop] at h
    simp only [readId, hop] at hr
    obtain ⟨e1, _⟩ := ret1_eq h
    split at hr
    · rename_i id' hx
      injection hr with hr; subst hr
      unfold opLookup at e1
      rw [hx] at e1
      intro hn
      have hmc : mapCells S (.map id') = none := by
        simp only [mapCells]
        cases hs : S.get id' <;> rw [hs] at hn <;> simp [Ob.look] at hn <;> rfl
      rw [hmc] at e1
      split at e1
      · split at e1 <;> cases e1
      · cases e1
    · cases hr
  case call c =>
    cases hcc : c.callee with
    | value x => rw [hcc] at hc; cases hc
    | invoke x m => rw [hcc] at hc; cases hc
    | builtin b =>
      rw [hcc] at hc
      cases b <;> simp only [] at hc <;> try (cases hc; done)
      simp only [evOp, hop, hcc] at h
      simp only [readId, hop] at hr
      split at hr
      · rename_i x hargs
        split at hr
        · rename_i id' hx
          injection hr with hr; subst hr
          rw [hargs] at h
          intro hn
          have hno : opLen (.map id') S = none := by
            simp only [opLen]
            cases hs : S.get id' <;> rw [hs] at hn <;> simp [Ob.look] at hn <;> rfl
          generalize c.argTypes.toList = tys at h
          rcases tys with _ | ⟨ty, _ | ⟨_, _⟩⟩ <;> (try (cases h; done))
          simp only [hx] at h
          split at h <;> try (cases h; done)
          rw [hno] at h; cases h
        · cases hr
      · cases hr

theorem evOp_mono (hcall : CallMono call) (h : evOp P call o t S = some (v, S')) (hx : Ext S S' X) : ∃ X', evOp P call o t X = some (v, X') ∧ Post S' X X' := by
  cases hc : clsOf o with
  | P => obtain ⟨e, h2⟩ := P_spec hc h; subst e; exact ⟨X, h2 X, .refl hx⟩
  | L =>
    obtain ⟨e, h2⟩ := L_spec hc h; subst e
    exact ⟨X, h2 X fun id hr => look_same hx (readId_look hc h hr), .refl hx⟩
  | A =>
    cases hop : o.op <;> simp only [clsOf, hop] at hc <;> try (cases hc; done)
    case alloc ty =>
      simp only [evOp, hop] at h ⊢
      split at h
      · obtain ⟨i, hn, e⟩ := opAlloc_eq h
        obtain ⟨X', hxn, hp⟩ := new_mono hn (by simp) hx
        exact ⟨X', by simp only [opAlloc, hxn, e], hp⟩
      · cases h
    case box ty x =>
      simp only [evOp, hop] at h ⊢
      split at h
      · cases h
      · cases h
      · obtain ⟨i, hn, e⟩ := opAlloc_eq h
        obtain ⟨X', hxn, hp⟩ := new_mono hn (by simp) hx
        exact ⟨X', by simp only [opAlloc, hxn, e], hp⟩
    case buildSlice ty n ps =>
      simp only [evOp, hop] at h ⊢
      split at h
      · split at h
        · split at h
          · rename_i hcc
            split at h
            · obtain ⟨i, hn, e⟩ := opRow_eq h
              obtain ⟨X', hxn, hp⟩ := new_mono hn (by simp) hx
              exact ⟨X', by simp only [if_pos hcc, opRow, hxn, e], hp⟩
            · cases h
          · cases h
        · cases h
      · cases h
    case makeSlice ty l c =>
      simp only [evOp, hop] at h ⊢
      unfold opMakeSlice at h ⊢
      split at h
      · rename_i el hu
        split at h
        · rename_i z sz n m hz hsz hl hc
          split at h
          · rename_i hcc
            obtain ⟨i, hn, e⟩ := opRow_eq h
            obtain ⟨X', hxn, hp⟩ := new_mono hn (by simp) hx
            exact ⟨X', by simp only [if_pos hcc, opRow, hxn, e], hp⟩
          · cases h
        · cases h
      · cases h
    case call c =>
      cases hcc : c.callee with
      | value x => rw [hcc] at hc; cases hc
      | invoke x m => rw [hcc] at hc; cases hc
      | builtin b => rw [hcc] at hc; cases b <;> cases hc
  | E =>
    cases hop : o.op <;> simp only [clsOf, hop] at hc <;> try (cases hc; done)
    case store ty x y =>
      simp only [evOp, hop] at h ⊢
      unfold opStore at h ⊢
      split at h
      · split at h
        · split at h
          · rename_i hcc
            split at h
            · rename_i hw; injection h with h; injection h with e1 e2; subst e1; subst e2
              obtain ⟨X', h1, h2⟩ := writeAt_mono hw hx
              exact ⟨X', by simp only [if_pos hcc, h1], h2⟩
            · cases h
          · cases h
        · cases h
      · split at h
        · rename_i hcc
          split at h
          · rename_i hw; injection h with h; injection h with e1 e2; subst e1; subst e2
            obtain ⟨X', h1, h2⟩ := writeAt_mono hw hx
            exact ⟨X', by simp only [if_pos hcc, h1], h2⟩
          · cases h
        · cases h
      · cases h
    case call c =>
      simp only [evOp, hop] at h ⊢
      cases hcc : c.callee with
      | invoke r m => rw [hcc] at h; cases h
      | value x =>
        rw [hcc] at h
        simp only [] at h ⊢
        split at h
        · exact hcall _ _ _ _ _ h X hx
        · cases h
      | builtin b =>
        rw [hcc] at h hc
        cases b <;> simp only [] at h hc ⊢ <;> try (first | (cases h; done) | (cases hc; done))
        case append =>
          split at h
          · split at h
            · exact opAppendN_mono h hx
            · exact opAppend2_mono h hx
            · cases h
          · cases h
        case copy =>
          split at h
          · exact opCopy_mono h hx
          · cases h
        case clear =>
          split at h
          · exact opClear_mono h hx
          · cases h
    case makeMap ty r =>
      simp only [evOp, hop] at h ⊢
      cases r <;> simp only [] at h ⊢ <;> try (cases h; done)
      unfold opMakeMap at h ⊢
      split at h
      · rename_i i S1 hn; injection h with h; injection h with e1 e2; subst e1; subst e2
        obtain ⟨X', hxn, hp⟩ := new_mono hn (by simp) hx
        exact ⟨X', by simp only [hxn], hp⟩
      · cases h
    case mapUpdate ty m k x =>
      simp only [evOp, hop] at h ⊢
      exact opMapUpdate_mono h hx
    case mapEntry ty m k =>
      simp only [evOp, hop] at h ⊢
      exact opMapEntry_mono h hx
    case entryStore ty m i x =>
      simp only [evOp, hop] at h ⊢
      exact opEntryStore_mono h hx
    all_goals (simp only [evOp, hop] at h; try (cases h; done))
theorem evOps_mono (hcall : CallMono call) (hnf : CallNf call) : ∀ (l : List Oper) {t : Tm} {S X : St}, evOps P nt call ops l t S = some (t', S') → Ext S S' X → ∃ X', evOps P nt call ops l t X = some (t', X') ∧ Post S' X X'
  | [], t, S, X, h, hx => by
    simp only [evOps, Option.some.injEq, Prod.mk.injEq] at h ⊢
    obtain ⟨e1, e2⟩ := h; subst e1; subst e2; exact ⟨X, ⟨rfl, rfl⟩, .refl hx⟩
  | o :: r, t, S, X, h, hx => by
    unfold evOps at h ⊢
    split at h
    · rename_i hw
      split at h
      · rename_i v S1 he
        have n1 := evOp_nf hnf he
        have n2 := evOps_nf hnf r h
        obtain ⟨X1, h1, p1⟩ := evOp_mono hcall he (hx.first n2)
        obtain ⟨X2, h2, p2⟩ := evOps_mono hcall hnf r h (hx.second n1 p1)
        exact ⟨X2, by simp only [h1, h2], p1.trans p2 n2⟩
      · cases h
    · rename_i hw
      obtain ⟨X2, h2, p2⟩ := evOps_mono hcall hnf r h hx
      exact ⟨X2, by simp only [h2], p2⟩
    · cases h
variable (P) in
def OkMono (okR : CallF → Nat → Array Oper → Tm → St → Prop) : Prop :=
  ∀ (call : CallF), CallMono call → CallNf call → ∀ (nt : Nat) (ops : Array Oper) (t t' : Tm) (S S' X : St), okR call nt ops t S → evOps P nt call ops ops.toList t S = some (t', S') → Ext S S' X → okR call nt ops t X
theorem opLoad_mono {ty : TypeId} {x v : V} (h : opLoad P ty x S = some v) (hx : Ext S S' X) : opLoad P ty x X = some v := by
  rw [← h]
  unfold opLoad
  cases hq : x with
  | ptr id off =>
    have : cellsAt X (.ptr id off) = cellsAt S (.ptr id off) := by
      refine cellsAt_look fun i o e => ?_
      injection e with e1 e2; subst e1
      refine look_same hx fun hn => ?_
      rw [hq] at h
      unfold opLoad at h
      have hnone : cellsAt S (.ptr id off) = none := by
        unfold cellsAt
        cases hs : S.get id <;> rw [hs] at hn <;> simp [Ob.look] at hn <;> simp [hs]
      rw [hnone] at h
      cases hq : isAggT P ty with
      | none => rw [hq] at h; cases h
      | some b => rw [hq] at h; cases b <;> cases h
    rw [this]
  | _ => rfl
theorem elemAt_mono {sl el : TypeId} {p v : V} {i : Nat} (h : elemAt P sl el p i S = some v) (hx : Ext S S' X) : elemAt P sl el p i X = some v := by
  unfold elemAt at h ⊢
  split at h
  · rename_i x hl
    rw [opLoad_mono hl hx]
    simp only []
    split at h
    · rename_i a ha
      exact opLoad_mono h hx
    · cases h
  · cases h
theorem backN_mono {sl el : TypeId} {p : V} {f : V → V → St → Option (Sig × St)} (hnf : ∀ i v S s S', f i v S = some (s, S') → Nf S S')
    (hf : ∀ i v S s S' X, f i v S = some (s, S') → Ext S S' X → ∃ X', f i v X = some (s, X') ∧ Post S' X X') :
    ∀ (i : Nat) {S X : St} {s : Sig} {S' : St}, backN P sl el p f i S = some (s, S') → Ext S S' X → ∃ X', backN P sl el p f i X = some (s, X') ∧ Post S' X X'
  | 0, S, X, s, S', h, hx => by
    simp only [backN, Option.some.injEq, Prod.mk.injEq] at h ⊢
    obtain ⟨e1, e⟩ := h; subst e; exact ⟨X, ⟨e1, rfl⟩, .refl hx⟩
  | i + 1, S, X, s, S', h, hx => by
    simp only [backN] at h ⊢
    split at h
    · rename_i v hv
      rw [elemAt_mono hv hx]
      simp only []
      split at h
      · rename_i S1 h1
        have n1 := hnf _ _ _ _ _ h1
        have n2 := backN_nf hnf i h
        obtain ⟨X1, q1, p1⟩ := hf _ _ _ _ _ X h1 (hx.first n2)
        obtain ⟨X2, q2, p2⟩ := backN_mono hnf hf i h (hx.second n1 p1)
        exact ⟨X2, by simp only [q1, q2], p1.trans p2 n2⟩
      · rename_i hn
        obtain ⟨X1, q1, p1⟩ := hf _ _ _ _ _ X h hx
        refine ⟨X1, ?_, p1⟩
        rw [q1]
        cases s with
        | norm => exact absurd h (hn _)
        | exit _ => rfl
        | ret => rfl
    · cases h
theorem merge_ext {S A B X : St} (hm : MergeOK S A B) (hx : Ext S (mergeS A B) X) : Ext S A X ∧ Ext S B X :=
  ⟨⟨hx.nx, hx.same, fun id g1 g2 => ⟨(hx.more id g1 g2).1, (mergeS_free hm id).1 (hx.more id g1 g2).2⟩⟩,
   ⟨hx.nx, hx.same, fun id g1 g2 => ⟨(hx.more id g1 g2).1, (hm.2 id).1.1 ((mergeS_free hm id).1 (hx.more id g1 g2).2)⟩⟩⟩
theorem merge_mono {S Aa Bb X Xa Xb : St} (hm : MergeOK S Aa Bb) (hx : Ext S (mergeS Aa Bb) X) (pa : Post Aa X Xa) (pb : Post Bb X Xb) : MergeOK X Xa Xb ∧ Post (mergeS Aa Bb) X (mergeS Xa Xb) := by
  have key : ∀ id, (Aa.get id = .free ∧ Bb.get id = .free ∧ Xa.get id = X.get id ∧ Xb.get id = X.get id) ∨ (Aa.get id ≠ .free ∧ Xa.get id = Aa.get id ∧ Xb.get id = Bb.get id) := by
    intro id
    by_cases hf : Aa.get id = .free
    · have hf2 := (hm.2 id).1.1 hf
      exact .inl ⟨hf, hf2, pa.more id hf, pb.more id hf2⟩
    · exact .inr ⟨hf, pa.same id hf, pb.same id fun e => hf ((hm.2 id).1.2 e)⟩
  refine ⟨⟨by rw [pa.nx, pb.nx, hm.1], fun id => ?_⟩, ⟨by simp only [mergeS]; exact pa.nx, fun id hid => ?_, fun id hid => ?_⟩⟩
  · rcases key id with ⟨f1, f2, g1, g2⟩ | ⟨f1, g1, g2⟩
    · rw [g1, g2]; exact ⟨Iff.rfl, fun _ => Iff.rfl⟩
    · rw [g1, g2]
      refine ⟨(hm.2 id).1, fun hl => ?_⟩
      by_cases hs : S.get id = .free
      · by_cases hX : X.get id = .free
        · rw [hX] at hl; cases hl
        · exact absurd ((mergeS_free hm id).1 (hx.more id hs hX).2) f1
      · rw [hx.same id hs] at hl ⊢
        exact (hm.2 id).2 hl
  · have hne : Aa.get id ≠ .free := fun e => hid ((mergeS_free hm id).2 e)
    rcases key id with ⟨f1, _⟩ | ⟨_, g1, g2⟩
    · exact absurd f1 hne
    · show mergeOb (Xa.get id) (Xb.get id) = mergeOb (Aa.get id) (Bb.get id)
      rw [g1, g2]
  · have hf := (mergeS_free hm id).1 hid
    rcases key id with ⟨_, _, g1, g2⟩ | ⟨f1, _⟩
    · show mergeOb (Xa.get id) (Xb.get id) = _
      rw [g1, g2, mergeOb_self]
    · exact absurd hf f1
theorem evC_mono {okR : CallF → Nat → Array Oper → Tm → St → Prop} (hok : OkMono P okR) (hcall : CallMono call) (hnf : CallNf call) {n : Nat} : ∀ (c : Code) {t : Tm} {S X : St} {s : Sig} {t' : Tm} {S' : St},
    evC P okR nt call n c t S = some (s, t', S') → Ext S S' X → ∃ X', evC P okR nt call n c t X = some (s, t', X') ∧ Post S' X X'
  | .skip, t, S, X, s, t', S', h, hx => by simp only [evC, Option.some.injEq, Prod.mk.injEq] at h ⊢; obtain ⟨e1, e2, e⟩ := h; subst e; exact ⟨X, ⟨e1, e2, rfl⟩, .refl hx⟩
  | .exit _, t, S, X, s, t', S', h, hx => by simp only [evC, Option.some.injEq, Prod.mk.injEq] at h ⊢; obtain ⟨e1, e2, e⟩ := h; subst e; exact ⟨X, ⟨e1, e2, rfl⟩, .refl hx⟩
  | .ret, t, S, X, s, t', S', h, hx => by simp only [evC, Option.some.injEq, Prod.mk.injEq] at h ⊢; obtain ⟨e1, e2, e⟩ := h; subst e; exact ⟨X, ⟨e1, e2, rfl⟩, .refl hx⟩
  | .region _ ops draw, t, S, X, s, t', S', h, hx => by
    simp only [evC] at h ⊢
    split at h
    · rename_i o1 o2 hs
      split at h
      · rename_i hd
        obtain ⟨t1, A, u, B, ta, Aa, tb, Bb, e1, e2, h1, h2, hm, e3, e4, e5⟩ := amb2_eq h
        subst e3; subst e4; subst e5
        simp only [Option.some.injEq, Prod.mk.injEq, true_and] at h1 h2
        obtain ⟨f1, f2⟩ := h1; subst f1; subst f2
        obtain ⟨f1, f2⟩ := h2; subst f1; subst f2
        obtain ⟨xa, xb⟩ := merge_ext hm hx
        obtain ⟨Xa, q1, pa⟩ := evOps_mono hcall hnf _ e1 xa
        obtain ⟨Xb, q3, pb⟩ := evOps_mono hcall hnf _ e2 xb
        obtain ⟨hmX, hp⟩ := merge_mono hm hx pa pb
        refine ⟨mergeS Xa Xb, ?_, hp⟩
        rw [if_pos ⟨hok call hcall hnf nt o1 t _ S _ X hd.1 e1 xa, hok call hcall hnf nt o2 t _ S _ X hd.2 e2 xb⟩]
        simp only [q1, q3, amb2, merge2, if_pos hmX]
      · cases h
    split at h
    · cases h
    · rename_i hd
      split at h
      · rename_i t1 S1 he
        simp only [Option.some.injEq, Prod.mk.injEq] at h; obtain ⟨e1, e2, e⟩ := h; subst e1; subst e2; subst e
        obtain ⟨X', h1, h2⟩ := evOps_mono hcall hnf _ he hx
        refine ⟨X', ?_, h2⟩
        rw [if_neg]
        · rw [h1]
        · rintro ⟨hdr, hno⟩
          refine hno (hok call hcall hnf nt ops t _ S _ X ?_ he hx)
          exact Classical.byContradiction fun hc => hd ⟨hdr, hc⟩
      · cases h
  | .seq a b, t, S, X, s, t', S', h, hx => by
    simp only [evC] at h ⊢
    split at h
    · rename_i ops l1 l2 ha
      obtain ⟨t1, A, u, B, ta, Aa, tb, Bb, e1, e2, h1, h2, hm, e3, e4, e5⟩ := amb2_eq h
      subst e3; subst e4; subst e5
      have n1 := evC_nf hnf b h1
      have n2 := evC_nf hnf b h2
      obtain ⟨xa, xb⟩ := merge_ext hm hx
      obtain ⟨X1, q1, p1⟩ := evOps_mono hcall hnf _ e1 (xa.first n1)
      obtain ⟨Xa, q2, p2⟩ := evC_mono hok hcall hnf b h1 (xa.second (evOps_nf hnf _ e1) p1)
      obtain ⟨X2, q3, p3⟩ := evOps_mono hcall hnf _ e2 (xb.first n2)
      obtain ⟨Xb, q4, p4⟩ := evC_mono hok hcall hnf b h2 (xb.second (evOps_nf hnf _ e2) p3)
      obtain ⟨hmX, hp⟩ := merge_mono hm hx (p1.trans p2 n1) (p3.trans p4 n2)
      refine ⟨mergeS Xa Xb, ?_, hp⟩
      simp only [ha, q1, q3, amb2, q2, q4, merge2, if_pos hmX]
    · rename_i ha
      split at h
      · rename_i t1 S1 h1
        have n1 := evC_nf hnf a h1
        have n2 := evC_nf hnf b h
        obtain ⟨X1, q1, p1⟩ := evC_mono hok hcall hnf a h1 (hx.first n2)
        obtain ⟨X2, q2, p2⟩ := evC_mono hok hcall hnf b h (hx.second n1 p1)
        exact ⟨X2, by simp only [q1, q2], p1.trans p2 n2⟩
      · rename_i hn
        obtain ⟨X1, q1, p1⟩ := evC_mono hok hcall hnf a h hx
        refine ⟨X1, ?_, p1⟩
        rw [q1]
        cases s with
        | norm => exact absurd h (hn _ _)
        | exit _ => rfl
        | ret => rfl
  | .cond c a b, t, S, X, s, t', S', h, hx => by
    simp only [evC] at h ⊢
    split at h
    · exact evC_mono hok hcall hnf a h hx
    · exact evC_mono hok hcall hnf b h hx
    · cases h
  | .block id b, t, S, X, s, t', S', h, hx => by
    simp only [evC] at h ⊢
    split at h
    · rename_i i t1 S1 h1
      split at h
      · rename_i hi
        simp only [Option.some.injEq, Prod.mk.injEq] at h; obtain ⟨e1, e2, e⟩ := h; subst e1; subst e2; subst e
        obtain ⟨X1, q1, p1⟩ := evC_mono hok hcall hnf b h1 hx
        exact ⟨X1, by simp only [q1, if_pos hi], p1⟩
      · rename_i hi
        simp only [Option.some.injEq, Prod.mk.injEq] at h; obtain ⟨e1, e2, e⟩ := h; subst e1; subst e2; subst e
        obtain ⟨X1, q1, p1⟩ := evC_mono hok hcall hnf b h1 hx
        exact ⟨X1, by simp only [q1, if_neg hi], p1⟩
    · rename_i hn
      obtain ⟨X1, q1, p1⟩ := evC_mono hok hcall hnf b h hx
      refine ⟨X1, ?_, p1⟩
      rw [q1]
      cases s with
      | norm => rfl
      | exit _ => exact absurd h (hn _ _ _)
      | ret => rfl
  | .loop b, t, S, X, s, t', S', h, hx => by
    simp only [evC] at h ⊢
    suffices hl : ∀ (k : Nat) {t : Tm} {S X : St} {s : Sig} {t' : Tm} {S' : St}, loopN (evC P okR nt call n b) k t S = some (s, t', S') → Ext S S' X → ∃ X', loopN (evC P okR nt call n b) k t X = some (s, t', X') ∧ Post S' X X' from hl n h hx
    have hlnf : ∀ (k : Nat) {t : Tm} {S : St} {s : Sig} {t' : Tm} {S' : St}, loopN (evC P okR nt call n b) k t S = some (s, t', S') → Nf S S' := by
      intro k
      induction k with
      | zero => intro t S s t' S' h; cases h
      | succ k ih =>
        intro t S s t' S' h
        simp only [loopN] at h
        split at h
        · rename_i h1; exact (evC_nf hnf b h1).trans (ih h)
        · exact evC_nf hnf b h
    intro k
    induction k with
    | zero => intro t S X s t' S' h; cases h
    | succ k ih =>
      intro t S X s t' S' h hx
      simp only [loopN] at h ⊢
      split at h
      · rename_i t1 S1 h1
        have n1 := evC_nf hnf b h1
        have n2 := hlnf k h
        obtain ⟨X1, q1, p1⟩ := evC_mono hok hcall hnf b h1 (hx.first n2)
        obtain ⟨X2, q2, p2⟩ := ih h (hx.second n1 p1)
        exact ⟨X2, by simp only [q1, q2], p1.trans p2 n2⟩
      · rename_i hn
        obtain ⟨X1, q1, p1⟩ := evC_mono hok hcall hnf b h hx
        refine ⟨X1, ?_, p1⟩
        rw [q1]
        cases s with
        | norm => exact absurd h (hn _ _)
        | exit _ => rfl
        | ret => rfl
  | .rangeFunc g ps x y, t, S, X, s, t', S', h, hx => by
    simp only [evC] at h ⊢
    split at h
    · rename_i hc
      rw [if_pos hc]
      obtain ⟨j, p, p0, p1, sl, el, l, m, e1, e2, e3, e4, e5, e6, e7, hk⟩ := rangeB_eq h
      subst e7
      have hnr : ∀ (i v : V) (S : St) (s : Sig) (S' : St), round2 nt (evC P okR nt call n x) (evC P okR nt call n y) p0 p1 t' i v S = some (s, S') → Nf S S' := by
        intro i v S s S' hr
        obtain ⟨t1, S1, t2, h1, h2⟩ := round2_eq hr
        exact (evC_nf hnf x h1).trans (evC_nf hnf y h2)
      obtain ⟨X', q1, q2⟩ := backN_mono hnr (fun i v S s S' X hr hx => by
        obtain ⟨t1, S1, t2, h1, h2⟩ := round2_eq hr
        have n1 := evC_nf hnf x h1
        have n2 := evC_nf hnf y h2
        obtain ⟨X1, q1, p1⟩ := evC_mono hok hcall hnf x h1 (hx.first n2)
        obtain ⟨X2, q2, p2⟩ := evC_mono hok hcall hnf y h2 (hx.second n1 p1)
        exact ⟨X2, by simp only [round2, q1, q2], p1.trans p2 n2⟩) m hk hx
      exact ⟨X', by simp only [rangeB, e1, e2, e3, opLoad_mono e4 hx, e5, if_pos e6, q1], q2⟩
    · cases h
  | .scope _, t, S, X, s, t', S', h, hx => by simp [evC] at h
  | .label _, t, S, X, s, t', S', h, hx => by simp [evC] at h
  | .goto _, t, S, X, s, t', S', h, hx => by simp [evC] at h
  | .refuse _, t, S, X, s, t', S', h, hx => by simp [evC] at h
theorem evRes_mono (hx : Ext S S X) : ∀ (l : List ResultVar) {vs : List V}, evRes P t S l = some vs → evRes P t X l = some vs
  | [], vs, h => h
  | .tmp i :: r, vs, h => by
    simp only [evRes] at h ⊢
    split at h
    · rename_i us hr
      rw [evRes_mono hx r hr]; exact h
    · cases h
  | .cell x ty :: r, vs, h => by
    simp only [evRes] at h ⊢
    split at h
    · rename_i v us hv hr
      rw [evRes_mono hx r hr]
      have : opLoad P ty (t x) X = some v := by
        rw [← hv]
        unfold opLoad
        cases hq : t x with
        | ptr id off =>
          have : cellsAt X (.ptr id off) = cellsAt S (.ptr id off) := by
            refine cellsAt_look fun i o e => ?_
            injection e with e1 e2; subst e1
            refine look_same hx fun hn => ?_
            rw [hq] at hv
            unfold opLoad at hv
            have hnone : cellsAt S (.ptr id off) = none := by
              unfold cellsAt
              cases hs : S.get id <;> rw [hs] at hn <;> simp [Ob.look] at hn <;> simp [hs]
            rw [hnone] at hv
            cases hq : isAggT P ty with
            | none => rw [hq] at hv; cases hv
            | some b => rw [hq] at hv; cases b <;> cases hv
          rw [this]
        | _ => rfl
      rw [this]; exact h
    · cases h
theorem AskMono.ans {base : AskF} (h : AskMono base) : CallMono (ansOf base) := by
  intro f args S r S' he X hx
  simp only [ansOf] at he ⊢
  split at he
  · rename_i r0 h0
    subst he
    obtain ⟨X', h1, h2⟩ := h f args S r S' h0 X hx
    exact ⟨X', by rw [h1], h2⟩
  · cases he
theorem callN_mono {base : AskF} (hb : CallNf (ansOf base)) (hbm : AskMono base) (hbs : AskSame base) {okR : CallF → Nat → Array Oper → Tm → St → Prop} (hok : OkMono P okR) : ∀ (n : Nat), CallMono (callN P base okR n)
  | 0 => fun f args S r S' h X hx => hbm.ans f args S r S' h X hx
  | n + 1 => fun f args S r S' h X hx => by
    simp only [callN] at h ⊢
    split at h
    · rename_i r0 h0
      subst h
      obtain ⟨X', h1, h2⟩ := hbm f args S r S' h0 X hx
      exact ⟨X', by rw [h1], h2⟩
    · rename_i h0
      rw [hbs f args S S' X h0 hx]
      simp only []
      split at h
      · cases h
      · split at h
        · cases h
        · split at h
          · cases h
          · rename_i hc
            simp only [if_neg hc]
            split at h
            · cases h
            · cases h
            · rename_i s t1 S1 hs he
              split at h
              · rename_i vs hres
                injection h with h; injection h with e1 e2; subst e1; subst e2
                obtain ⟨X1, q1, p1⟩ := evC_mono hok (callN_mono hb hbm hbs hok n) (callN_nf hb n) _ he hx
                have hx1 : Ext S1 S1 X1 := hx.second (evC_nf (callN_nf hb n) _ he) p1
                refine ⟨X1, ?_, p1⟩
                rw [q1]
                cases s with
                | exit id => exact (hs id rfl).elim
                | norm => simp only [evRes_mono hx1 _ hres]
                | ret => simp only [evRes_mono hx1 _ hres]
              · cases h
end
end Go.Vm

namespace Go.Vm
variable [Gl]
open Go.RowKit

/-- The frame. -/
structure TmRel (ds : List Deferred) (Γ : Ctx) (nt : Nat) (t : Tm) (a : Act) : Prop where
  size : a.tmps.size = nt
  rel : TR Γ t a
  defers : a.defers = ds

section
variable {P : Program} {Γ Γ' : Ctx} {S S' : St} {w w' : World} {t t' : Tm} {a : Act} {o : Oper} {v : V} {call : CallF} {nt : Nat} {ops : Array Oper} {ds : List Deferred}

theorem TmRel.mono (h : TmRel ds Γ nt t a) (hle : Γ.le Γ') : TmRel ds Γ' nt t a := ⟨h.size, ⟨fun i => (h.rel.tmp i).mono hle, fun g => (h.rel.glb g).mono hle⟩, h.defers⟩
theorem TmRel.put (h : TmRel ds Γ nt t a) (d : Option Nat) {v : V} {u : Value} (hr : Rel Γ v u) : TmRel ds Γ nt (putT nt t d v) (a.put d u) := by
  cases d with
  | none => exact h
  | some d =>
    refine ⟨by simp [Act.put, h.size], ⟨fun i => ?_, h.rel.glb⟩, h.defers⟩
    simp only [putT, Act.put]
    by_cases hd : d < nt
    · rw [if_pos hd]
      by_cases hi : i = d
      · subst hi
        simp only [if_true]
        have : (a.tmps.setIfInBounds i u).getD i undef = u := by
          simp [Array.getD_eq_getD_getElem?, Array.getElem?_setIfInBounds, h.size, hd]
        rw [this]; exact hr
      · rw [if_neg hi]
        have : (a.tmps.setIfInBounds d u).getD i undef = a.tmps.getD i undef := by
          simp [Array.getD_eq_getD_getElem?, Array.getElem?_setIfInBounds_ne (Ne.symm hi)]
        rw [this]; exact h.rel.tmp i
    · rw [if_neg hd]
      have : a.tmps.setIfInBounds d u = a.tmps := by
        rw [Array.setIfInBounds_eq_of_size_le (by rw [h.size]; omega)]
      rw [this]; exact h.rel.tmp i

theorem wanted_rel (h : TmRel ds Γ nt t a) {b : Bool} (hw : wanted ops o t = some b) : Region.wanted o (yielded ops a.tmps) = b := by
  unfold wanted at hw
  unfold Region.wanted
  cases hg : o.guard with
  | none => rw [hg] at hw; simpa using hw
  | some p =>
    obtain ⟨j, want⟩ := p
    rw [hg] at hw
    simp only [] at hw ⊢
    split at hw
    · rename_i d hd
      split at hw
      · rename_i c hc
        injection hw with hw; subst hw
        have hr := h.rel.tmp d
        rw [hc] at hr
        generalize hu : a.tmps.getD d undef = u at hr
        cases hr
        have hy : yielded ops a.tmps j = some c := by
          unfold yielded
          rw [hd]
          have : a.tmps[d]? = some (.bool c) := by
            rw [Array.getD_eq_getD_getElem?] at hu
            cases hq : a.tmps[d]? with
            | none => rw [hq] at hu; cases hu
            | some x => rw [hq] at hu; simp at hu; rw [hu]
          simp [this]
        rw [hy]
        cases c <;> cases want <;> rfl
      · rename_i vs hc
        injection hw with hw; subst hw
        have hr := h.rel.tmp d
        rw [hc] at hr
        generalize hu : a.tmps.getD d undef = u at hr
        cases hr
        rename_i arr harr
        have hy : yielded ops a.tmps j = none := by
          unfold yielded
          rw [hd]
          cases hq : a.tmps[d]? with
          | none => simp [hq]
          | some x =>
            rw [Array.getD_eq_getD_getElem?, hq] at hu
            simp at hu
            simp [hq, hu]
        rw [hy]
        rfl
      · cases hw
    · cases hw

/-- One operation of a region. -/
theorem wpOp_sound (hcall : CallOK P call) {i : Nat} (hi : ops[i]? = some o) (hm : Mem Γ S w) (ht : TmRel ds Γ nt t a) {rn : Option Nat} {Q : Exit → Act → World → Prop} {K : Act → World → Prop} {b : Bool} (hw : wanted ops o t = some b)
    (h : if b then evOp P call o t S = some (v, S') else (v = .un ∧ S' = S))
    (hK : ∀ Γ' a' w', Step Γ S w Γ' S' w' → TmRel ds Γ' nt (putT nt t o.dst v) a' → K a' w') : wpOpIn (Wr rn) 0 P ops Q i K a w := by
  unfold wpOpIn
  rw [hi]
  have hww := wanted_rel (ops := ops) ht hw
  simp only [hww]
  cases b with
  | true =>
    simp only [if_true] at h ⊢
    exact op_sound hcall h hm ht.rel fun Γ' u w' hst hr => hK Γ' _ w' hst ((ht.mono hst.le).put _ hr)
  | false =>
    simp only [if_false, Bool.false_eq_true] at h ⊢
    obtain ⟨e1, e2⟩ := h
    subst e1; subst e2
    exact ⟨fun _ _ => trivial, hK Γ _ w (.refl hm) (ht.put _ (.tup _ _ .nil))⟩

theorem evOps_cons_eq {r : List Oper} {q : Option (Tm × St)} (h : evOps P nt call ops (o :: r) t S = q) {z : Tm × St} (hq : q = some z) :
    ∃ b v S1, wanted ops o t = some b ∧ (if b then evOp P call o t S = some (v, S1) else (v = .un ∧ S1 = S)) ∧ evOps P nt call ops r (putT nt t o.dst v) S1 = some z := by
  subst hq
  unfold evOps at h
  split at h
  · rename_i hw
    split at h
    · rename_i v S1 he; exact ⟨true, v, S1, hw, by simpa using he, h⟩
    · cases h
  · rename_i hw; exact ⟨false, .un, S, hw, by simp, h⟩
  · cases h

theorem region_sound (hcall : CallOK P call) {rn : Option Nat} {Q : Exit → Act → World → Prop} : ∀ (l : List Oper) (k : Nat) {Γ : Ctx} {t : Tm} {S : St} {a : Act} {w : World} {t' : Tm} {S' : St}, (∀ j, l[j]? = ops[k + j]?) → k + l.length = ops.size →
    evOps P nt call ops l t S = some (t', S') → Mem Γ S w → TmRel ds Γ nt t a → (∀ Γ' a' w', Step Γ S w Γ' S' w' → TmRel ds Γ' nt t' a' → Q .normal a' w') →
    wpOpsIn (Wr rn) 0 P ops Q (List.range' k l.length) a w
  | [], k, Γ, t, S, a, w, t', S', _, _, h, hm, ht, hQ => by
    simp only [evOps, Option.some.injEq, Prod.mk.injEq] at h
    obtain ⟨e1, e2⟩ := h; subst e1; subst e2
    simp only [List.length_nil, List.range'_zero, wpOpsIn]
    exact hQ Γ a w (.refl hm) ht
  | o :: r, k, Γ, t, S, a, w, t', S', hl, hsz, h, hm, ht, hQ => by
    obtain ⟨b, v, S1, hw, he, hr⟩ := evOps_cons_eq h rfl
    have hi : ops[k]? = some o := by rw [← Nat.add_zero k, ← hl 0]; rfl
    simp only [List.length_cons, List.range'_succ]
    rw [wpOpsIn_cons]
    refine wpOp_sound hcall hi hm ht hw he fun Γ1 a1 w1 hst htr => ?_
    refine region_sound hcall r (k + 1) (fun j => ?_) (by simp at hsz; omega) hr hst.mem htr fun Γ2 a2 w2 hst2 htr2 => hQ Γ2 a2 w2 (hst.trans hst2) htr2
    have := hl (j + 1)
    simp only [List.getElem?_cons_succ] at this
    rw [this]; congr 1; omega

/-! ### a drawn bool -/
/-- Less is known: the object is dead, or has more elders. -/
def Weak (a b : Ob) : Prop := b = a ∨ b = .dead ∨ ∃ l fz anc anc', a = .cells l fz anc ∧ b = .cells l fz anc' ∧ ∀ x ∈ anc, x ∈ anc'
theorem Weak.live {a b : Ob} (h : Weak a b) (hl : b.live = true) : a.live = true := by
  rcases h with e | e | ⟨l, fz, anc, anc', e1, e2, _⟩
  · rw [← e]; exact hl
  · rw [e] at hl; cases hl
  · rw [e1]; rfl
theorem Weak.cells {a b : Ob} (h : Weak a b) {l : List V} {fz : Nat} {anc : List Id} (hb : b = .cells l fz anc) : ∃ anc0, a = .cells l fz anc0 ∧ ∀ x ∈ anc0, x ∈ anc := by
  rcases h with e | e | ⟨l', fz', anc1, anc', e1, e2, e3⟩
  · exact ⟨anc, by rw [← e]; exact hb, fun _ h => h⟩
  · rw [e] at hb; cases hb
  · rw [e2] at hb; injection hb with h1 h2 h3; subst h1; subst h2; subst h3; exact ⟨anc1, e1, e3⟩
theorem Weak.stale {a b : Ob} (h : Weak a b) {l : List V} (hb : b = .stale l) : a = .stale l := by
  rcases h with e | e | ⟨l', fz', anc1, anc', e1, e2, e3⟩
  · rw [← e]; exact hb
  · rw [e] at hb; cases hb
  · rw [e2] at hb; cases hb
theorem Weak.map {a b : Ob} (h : Weak a b) {l : List (V × V)} (hb : b = .map l) : a = .map l := by
  rcases h with e | e | ⟨l', fz', anc1, anc', e1, e2, e3⟩
  · rw [← e]; exact hb
  · rw [e] at hb; cases hb
  · rw [e2] at hb; cases hb
theorem Mem.weaken {S1 S2 : St} (h : Mem Γ S1 w) (hs : ∀ id, Weak (S1.get id) (S2.get id)) : Mem Γ S2 w where
  glb := h.glb
  fro := h.fro
  lt := h.lt
  alive id b hb := by
    rcases hs id with e | e | ⟨l, fz, anc, anc', e1, e2, _⟩
    · rw [e]; exact h.alive id b hb
    · rw [e]; nofun
    · rw [e2]; nofun
  row id b l fz anc hb he := by obtain ⟨anc0, e, _⟩ := (hs id).cells he; exact h.row id b l fz anc0 hb e
  frz id b l fz anc hb he := by obtain ⟨anc0, e, _⟩ := (hs id).cells he; exact h.frz id b l fz anc0 hb e
  old id b l hb he := h.old id b l hb ((hs id).stale he)
  one id id' b h1 h2 h3 h4 := h.one id id' b h1 h2 ((hs id).live h3) ((hs id').live h4)
  anc id b l fz anc id' l' h1 h2 h3 h4 := by
    obtain ⟨anc0, e, hsub⟩ := (hs id).cells h2
    obtain ⟨g1, g2⟩ := h.anc id b l fz anc0 id' l' h1 e h3 ((hs id').stale h4)
    exact ⟨hsub _ g1, g2⟩
  map id b l hb he := h.map id b l hb ((hs id).map he)
  mst id id' b l l' h1 h2 h3 h4 := h.mst id id' b l l' h1 ((hs id).map h2) h3 ((hs id').stale h4)
theorem Step.weaken {S1 S2 : St} (h : Step Γ S w Γ' S1 w') (hs : ∀ id, Weak (S1.get id) (S2.get id)) (hp : ∀ id, (S.get id).live = true → S1.get id = S.get id → S2.get id = S1.get id) : Step Γ S w Γ' S2 w' where
  le := h.le
  mem := h.mem.weaken hs
  os := h.os
  tape := h.tape
  output := h.output
  size := h.size
  frame := h.frame
  pend id h1 h2 := by
    obtain ⟨e1, e2⟩ := h.pend id h1 h2
    exact ⟨by rw [hp id h2 e1, e1], e2⟩
  own id b h1 hb := by
    rcases h.own id b h1 hb with ⟨e1, e2⟩ | e
    · exact .inl ⟨e1, fun hl => e2 ((hs id).live hl)⟩
    · exact .inr e
  mu := h.mu
  fz := h.fz
theorem live_eq (o : Ob) : o.isLive = o.live := by cases o <;> rfl
theorem merge_left {A B : St} (hm : MergeOK S A B) (id : Id) : Weak (A.get id) ((mergeS A B).get id) ∧ ((S.get id).live = true → A.get id = S.get id → (mergeS A B).get id = A.get id) := by
  refine ⟨?_, fun hl he => ?_⟩
  · simp only [mergeS, mergeOb]; split
    · exact .inl rfl
    · rcases mergeD_cases (A.get id) (B.get id) with e | ⟨l, fz, anc, anc', e1, _, e⟩
      · exact .inr (.inl e)
      · exact .inr (.inr ⟨l, fz, anc, anc ++ anc', e1, e, fun x h => List.mem_append_left _ h⟩)
  · have hb := ((hm.2 id).2 (by rw [live_eq]; exact hl)).1 he
    simp only [mergeS, mergeOb]
    rw [if_pos (by rw [he, hb])]
theorem merge_right {A B : St} (hm : MergeOK S A B) (id : Id) : Weak (B.get id) ((mergeS A B).get id) ∧ ((S.get id).live = true → B.get id = S.get id → (mergeS A B).get id = B.get id) := by
  refine ⟨?_, fun hl he => ?_⟩
  · simp only [mergeS, mergeOb]; split
    · rename_i e; exact .inl e
    · rcases mergeD_cases (A.get id) (B.get id) with e | ⟨l, fz, anc, anc', _, e1, e⟩
      · exact .inr (.inl e)
      · exact .inr (.inr ⟨l, fz, anc', anc ++ anc', e1, e, fun x h => List.mem_append_right _ h⟩)
  · have ha := ((hm.2 id).2 (by rw [live_eq]; exact hl)).2 he
    simp only [mergeS, mergeOb]
    rw [if_pos (by rw [he, ha]), ha, he]
theorem TmRel.weaken {t u : Tm} (h : TmRel ds Γ nt t a) (hs : ∀ i, u i = t i ∨ u i = .any) : TmRel ds Γ nt u a :=
  ⟨h.size, ⟨fun i => by
    rcases hs i with e | e
    · rw [e]; exact h.rel.tmp i
    · rw [e]; exact .any _, h.rel.glb⟩, h.defers⟩
theorem mergeT_left (t u : Tm) (i : Nat) : mergeT t u i = t i ∨ mergeT t u i = .any := by
  simp only [mergeT]; split
  · exact .inl rfl
  · exact .inr rfl
theorem mergeT_right (t u : Tm) (i : Nat) : mergeT t u i = u i ∨ mergeT t u i = .any := by
  simp only [mergeT]; split
  · rename_i e; exact .inl e
  · exact .inr rfl

theorem bindOn_mem {o : Oper} {i : Nat} : i ∈ bindOn o ↔ ∃ e ∈ o.after, Region.binds .any e = true ∧ e.on = i := by
  simp only [bindOn, List.mem_map, List.mem_filter]
  constructor
  · rintro ⟨e, ⟨h1, h2⟩, h3⟩; exact ⟨e, by simpa using h1, h2, h3⟩
  · rintro ⟨e, h1, h2, h3⟩; exact ⟨e, ⟨by simpa using h1, h2⟩, h3⟩
/-- The region's runs: in the one order or in the other. -/
theorem amb_region (hcall : CallOK P call) {rn : Option Nat} {Q : Exit → Act → World → Prop} {o0 o1 o2 o3 : Oper} (hops : ops.toList = [o0, o1, o2, o3]) (hb : ambB o0 o1 o2 o3 = true) {t1 t2 : Tm} {S1 S2 : St}
    (h1 : evOps P nt call ops [o0, o1, o2, o3] t S = some (t1, S1)) (h2 : evOps P nt call ops [o0, o2, o1, o3] t S = some (t2, S2)) (hm : Mem Γ S w) (ht : TmRel ds Γ nt t a)
    (hQ1 : ∀ Γ' a' w', Step Γ S w Γ' S1 w' → TmRel ds Γ' nt t1 a' → Q .normal a' w') (hQ2 : ∀ Γ' a' w', Step Γ S w Γ' S2 w' → TmRel ds Γ' nt t2 a' → Q .normal a' w') :
    wpAnyIn (Wr rn) 0 P .any ops Q ops.size (Array.replicate ops.size false) a w := by
  have hsz : ops.size = 4 := by rw [← Array.length_toList, hops]; rfl
  have g0 : ops[0]? = some o0 := by rw [← Array.getElem?_toList, hops]; rfl
  have g1 : ops[1]? = some o1 := by rw [← Array.getElem?_toList, hops]; rfl
  have g2 : ops[2]? = some o2 := by rw [← Array.getElem?_toList, hops]; rfl
  have g3 : ops[3]? = some o3 := by rw [← Array.getElem?_toList, hops]; rfl
  have glt : ∀ {j : Nat} {o : Oper}, ops[j]? = some o → j < 4 := fun h => by have := (Array.getElem?_eq_some_iff.1 h).1; omega
  simp only [ambB, Bool.and_eq_true, List.isEmpty_iff, Bool.not_eq_true', List.all_eq_true, beq_iff_eq, decide_eq_true_eq, List.contains_eq_mem, decide_eq_true_eq] at hb
  obtain ⟨⟨⟨b0, b1a, b1⟩, b2a, b2⟩, ⟨b31, b32⟩, b3⟩ := hb
  have w1 : ∃ e ∈ o1.after, Region.binds .any e = true ∧ e.on = 0 := by
    cases hq : bindOn o1 with
    | nil => rw [hq] at b1a; cases b1a
    | cons x r => have hx := b1 x (by rw [hq]; simp); exact bindOn_mem.1 (by rw [hq, ← hx]; simp)
  have w2 : ∃ e ∈ o2.after, Region.binds .any e = true ∧ e.on = 0 := by
    cases hq : bindOn o2 with
    | nil => rw [hq] at b2a; cases b2a
    | cons x r => have hx := b2 x (by rw [hq]; simp); exact bindOn_mem.1 (by rw [hq, ← hx]; simp)
  have w31 := bindOn_mem.1 b31
  have w32 := bindOn_mem.1 b32
  -- what can be taken behind what has been taken
  have rdy : ∀ (l : Array Bool) (j : Nat), j ∈ Region.ready .any ops l ↔ l.getD j true = false ∧ ∃ o, ops[j]? = some o ∧ ∀ i ∈ bindOn o, l.getD i false = true := by
    intro l j
    rw [mem_ready]
    constructor
    · rintro ⟨x, o, y, z⟩
      exact ⟨x, o, y, fun i hi => by obtain ⟨e, e1, e2, e3⟩ := bindOn_mem.1 hi; rw [← e3]; exact z e e1 e2⟩
    · rintro ⟨x, o, y, z⟩
      exact ⟨x, o, y, fun e e1 e2 => z e.on (bindOn_mem.2 ⟨e, e1, e2, rfl⟩)⟩
  have ready : ∀ (b0' b1' b2' b3' : Bool) (j : Nat), j ∈ Region.ready .any ops #[b0', b1', b2', b3'] ↔
      (j = 0 ∧ b0' = false) ∨ (j = 1 ∧ b1' = false ∧ b0' = true) ∨ (j = 2 ∧ b2' = false ∧ b0' = true) ∨ (j = 3 ∧ b3' = false ∧ ∀ i ∈ bindOn o3, (#[b0', b1', b2', b3'] : Array Bool).getD i false = true) := by
    intro c0 c1 c2 c3 j
    rw [rdy]
    constructor
    · rintro ⟨x, o, y, z⟩
      have := glt y
      match j, this with
      | 0, _ => exact .inl ⟨rfl, by simpa using x⟩
      | 1, _ =>
        rw [g1] at y; injection y with y; subst y
        exact .inr (.inl ⟨rfl, by simpa using x, by simpa using z 0 (bindOn_mem.2 w1)⟩)
      | 2, _ =>
        rw [g2] at y; injection y with y; subst y
        exact .inr (.inr (.inl ⟨rfl, by simpa using x, by simpa using z 0 (bindOn_mem.2 w2)⟩))
      | 3, _ =>
        rw [g3] at y; injection y with y; subst y
        exact .inr (.inr (.inr ⟨rfl, by simpa using x, z⟩))
    · rintro (⟨rfl, e⟩ | ⟨rfl, e, e'⟩ | ⟨rfl, e, e'⟩ | ⟨rfl, e, e'⟩)
      · exact ⟨by simpa using e, o0, g0, fun i hi => by rw [b0] at hi; simp at hi⟩
      · exact ⟨by simpa using e, o1, g1, fun i hi => by rw [b1 i hi]; simpa using e'⟩
      · exact ⟨by simpa using e, o2, g2, fun i hi => by rw [b2 i hi]; simpa using e'⟩
      · exact ⟨by simpa using e, o3, g3, e'⟩
  have full : ∀ i ∈ bindOn o3, (#[true, true, true, false] : Array Bool).getD i false = true := by
    intro i hi
    have := b3 i hi
    match i, this with
    | 0, _ => rfl
    | 1, _ => rfl
    | 2, _ => rfl
  have not3 : ∀ (c1 c2 : Bool), c1 = false ∨ c2 = false → ¬ ∀ i ∈ bindOn o3, (#[true, c1, c2, false] : Array Bool).getD i false = true := by
    intro c1 c2 hc h
    rcases hc with hc | hc
    · have := h 1 b31; simp [hc] at this
    · have := h 2 b32; simp [hc] at this
  have not3' : ¬ ∀ i ∈ bindOn o3, (#[false, false, false, false] : Array Bool).getD i false = true := by
    intro h; have := h 1 b31; simp at this
  have hrep : Array.replicate ops.size false = #[false, false, false, false] := by rw [hsz]; rfl
  rw [hrep, hsz]
  -- the decomposition of both orders
  obtain ⟨c0, v0, A0, x0, y0, z0⟩ := evOps_cons_eq h1 rfl
  obtain ⟨c1, v1, A1, x1, y1, z1⟩ := evOps_cons_eq z0 rfl
  obtain ⟨c2, v2, A2, x2, y2, z2⟩ := evOps_cons_eq z1 rfl
  obtain ⟨c3, v3, A3, x3, y3, z3⟩ := evOps_cons_eq z2 rfl
  obtain ⟨d0, u0, D0, p0, q0, r0⟩ := evOps_cons_eq h2 rfl
  obtain ⟨d1, u1, D1, p1, q1, r1⟩ := evOps_cons_eq r0 rfl
  obtain ⟨d2, u2, D2, p2, q2, r2⟩ := evOps_cons_eq r1 rfl
  obtain ⟨d3, u3, D3, p3, q3, r3⟩ := evOps_cons_eq r2 rfl
  simp only [evOps, Option.some.injEq, Prod.mk.injEq] at z3 r3
  rw [x0] at p0; injection p0 with p0; subst p0
  have hv : u0 = v0 ∧ D0 = A0 := by
    cases c0 with
    | true => simp only [if_true] at y0 q0; rw [y0] at q0; injection q0 with q0; injection q0 with q1 q2; exact ⟨q1.symm, q2.symm⟩
    | false => simp only [Bool.false_eq_true, if_false] at y0 q0; exact ⟨by rw [q0.1, y0.1], by rw [q0.2, y0.2]⟩
  obtain ⟨hv1, hv2⟩ := hv
  subst hv1; subst hv2
  refine ⟨fun h => ?_, fun i hi => ?_⟩
  · have := (ready false false false false 0).2 (.inl ⟨rfl, rfl⟩); rw [h] at this; simp at this
  rw [ready] at hi
  rcases hi with ⟨rfl, _⟩ | ⟨rfl, _, e⟩ | ⟨rfl, _, e⟩ | ⟨rfl, _, e⟩
  rotate_left
  · cases e
  · cases e
  · exact absurd e not3'
  refine wpOp_sound hcall g0 hm ht x0 y0 fun Γ0 a0 w0 st0 tr0 => ?_
  show wpAnyIn (Wr rn) 0 P .any ops Q 3 #[true, false, false, false] a0 w0
  refine ⟨fun h => ?_, fun i hi => ?_⟩
  · have := (ready true false false false 1).2 (.inr (.inl ⟨rfl, rfl, rfl⟩)); rw [h] at this; simp at this
  rw [ready] at hi
  rcases hi with ⟨rfl, e⟩ | ⟨rfl, _, _⟩ | ⟨rfl, _, _⟩ | ⟨rfl, _, e⟩
  · cases e
  · refine wpOp_sound hcall g1 st0.mem tr0 x1 y1 fun Γ1 a1 w1 st1 tr1 => ?_
    show wpAnyIn (Wr rn) 0 P .any ops Q 2 #[true, true, false, false] a1 w1
    refine ⟨fun h => ?_, fun i hi => ?_⟩
    · have := (ready true true false false 2).2 (.inr (.inr (.inl ⟨rfl, rfl, rfl⟩))); rw [h] at this; simp at this
    rw [ready] at hi
    rcases hi with ⟨rfl, e⟩ | ⟨rfl, e, _⟩ | ⟨rfl, _, _⟩ | ⟨rfl, _, e⟩
    · cases e
    · cases e
    · refine wpOp_sound hcall g2 st1.mem tr1 x2 y2 fun Γ2 a2 w2 st2 tr2 => ?_
      show wpAnyIn (Wr rn) 0 P .any ops Q 1 #[true, true, true, false] a2 w2
      refine ⟨fun h => ?_, fun i hi => ?_⟩
      · have := (ready true true true false 3).2 (.inr (.inr (.inr ⟨rfl, rfl, full⟩))); rw [h] at this; simp at this
      rw [ready] at hi
      rcases hi with ⟨rfl, e⟩ | ⟨rfl, e, _⟩ | ⟨rfl, e, _⟩ | ⟨rfl, _, _⟩
      · cases e
      · cases e
      · cases e
      · refine wpOp_sound hcall g3 st2.mem tr2 x3 y3 fun Γ3 a3 w3 st3 tr3 => ?_
        show wpAnyIn (Wr rn) 0 P .any ops Q 0 #[true, true, true, true] a3 w3
        refine ⟨?_, hQ1 Γ3 a3 w3 (z3.2 ▸ ((st0.trans st1).trans st2).trans st3) (z3.1 ▸ tr3)⟩
        rw [List.eq_nil_iff_forall_not_mem]
        intro j hj
        rw [ready] at hj
        rcases hj with ⟨rfl, e⟩ | ⟨rfl, e, _⟩ | ⟨rfl, e, _⟩ | ⟨rfl, e, _⟩ <;> cases e
    · exact absurd e (not3 true false (.inr rfl))
  · refine wpOp_sound hcall g2 st0.mem tr0 p1 q1 fun Γ1 a1 w1 st1 tr1 => ?_
    show wpAnyIn (Wr rn) 0 P .any ops Q 2 #[true, false, true, false] a1 w1
    refine ⟨fun h => ?_, fun i hi => ?_⟩
    · have := (ready true false true false 1).2 (.inr (.inl ⟨rfl, rfl, rfl⟩)); rw [h] at this; simp at this
    rw [ready] at hi
    rcases hi with ⟨rfl, e⟩ | ⟨rfl, _, _⟩ | ⟨rfl, e, _⟩ | ⟨rfl, _, e⟩
    · cases e
    · refine wpOp_sound hcall g1 st1.mem tr1 p2 q2 fun Γ2 a2 w2 st2 tr2 => ?_
      show wpAnyIn (Wr rn) 0 P .any ops Q 1 #[true, true, true, false] a2 w2
      refine ⟨fun h => ?_, fun i hi => ?_⟩
      · have := (ready true true true false 3).2 (.inr (.inr (.inr ⟨rfl, rfl, full⟩))); rw [h] at this; simp at this
      rw [ready] at hi
      rcases hi with ⟨rfl, e⟩ | ⟨rfl, e, _⟩ | ⟨rfl, e, _⟩ | ⟨rfl, _, _⟩
      · cases e
      · cases e
      · cases e
      · refine wpOp_sound hcall g3 st2.mem tr2 p3 q3 fun Γ3 a3 w3 st3 tr3 => ?_
        show wpAnyIn (Wr rn) 0 P .any ops Q 0 #[true, true, true, true] a3 w3
        refine ⟨?_, hQ2 Γ3 a3 w3 (r3.2 ▸ ((st0.trans st1).trans st2).trans st3) (r3.1 ▸ tr3)⟩
        rw [List.eq_nil_iff_forall_not_mem]
        intro j hj
        rw [ready] at hj
        rcases hj with ⟨rfl, e⟩ | ⟨rfl, e, _⟩ | ⟨rfl, e, _⟩ | ⟨rfl, e, _⟩ <;> cases e
    · cases e
    · exact absurd e (not3 false true (.inl rfl))
  · exact absurd e (not3 false false (.inl rfl))

def exitOf : Sig → Exit
  | .norm => .normal
  | .exit id => .exit id
  | .ret => .ret

variable (P) in
/-- What is asked of the condition on drawn regions. -/
def DrawSound (okR : CallF → Nat → Array Oper → Tm → St → Prop) : Prop :=
  ∀ (call : CallF), CallOK P call → CallNf call → CallMono call → ∀ (nt : Nat) (ds : List Deferred) (ops : Array Oper) (Γ : Ctx) (t t' : Tm) (S S' : St) (a : Act) (w : World) (rn : Option Nat) (Q : Exit → Act → World → Prop), okR call nt ops t S →
    evOps P nt call ops ops.toList t S = some (t', S') → Mem Γ S w → TmRel ds Γ nt t a → (∀ Γ' a' w', Step Γ S w Γ' S' w' → TmRel ds Γ' nt t' a' → Q .normal a' w') →
    wpAnyIn (Wr rn) 0 P .any ops Q ops.size (Array.replicate ops.size false) a { w with drawn := w.drawn + 1 }

end
end Go.Vm

