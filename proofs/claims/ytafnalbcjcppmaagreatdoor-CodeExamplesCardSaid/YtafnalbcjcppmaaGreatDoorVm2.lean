import Derived.Test.YtafnalbcjcppmaaGreatDoorVm1
import Derived.Orders
set_option autoImplicit false
set_option linter.unusedSectionVars false
set_option linter.unusedVariables false
set_option linter.unusedSimpArgs false
namespace Go.Vm
variable [Gl]
open Go.RowKit

def Enters (P : Program) (f : FuncId) : Prop := ∃ fn, P.funcs[f]? = some fn ∧ fn.body.isSome = true ∧ (fn.name == "runtime.NumGoroutine") = false
/-- What calls may be relied on. -/
def CallOK (P : Program) (call : CallF) : Prop :=
  ∀ (f : FuncId) (args : List V) (S : St) (r : V) (S' : St), call f args S = some (r, S') → Enters P f ∧
    ∀ (Γ : Ctx) (w : World) (us : Array Value), Mem Γ S w → RelL Γ args us.toList →
      Calls P f us w fun e w' => ∃ Γ' u, e = .returned u ∧ Step Γ S w Γ' S' w' ∧ Rel Γ' r u

section
variable {P : Program} {Γ : Ctx} {S S' : St} {w : World} {t : Tm} {a : Act} {o : Oper} {v : V} {call : CallF}

theorem ret1_eq {x : Option V} (h : ret1 x S = some (v, S')) : x = some v ∧ S' = S := by
  unfold ret1 at h
  split at h
  · injection h with h; injection h with h1 h2; exact ⟨by rw [h1], h2.symm⟩
  · cases h

theorem gives_len (hm : Mem Γ S w) (ht : TR Γ t a) {c : Call} {x : Operand} {ty : TypeId} (hop : o.op = .call c) (hc : c.callee = .builtin .len) (hargs : c.args.toList = [x]) (htys : c.argTypes.toList = [ty])
    (h : (match P.underlying ty with
        | some .string => (match opd t x with | .str s => some (.int .i64 s.length, S) | _ => none)
        | some (.slice _) => (match opd t x with | .str _ => none | .nilm => none | .map _ => none | v => ret1 (opLen v S) S)
        | some (.map ..) => (match opd t x with | .nilm => some (.int .i64 0, S) | .map i => ret1 (opLen (.map i) S) S | _ => none)
        | _ => none : R) = some (v, S')) : Gives P Γ w a o v ∧ S' = S := by
  have hexec : ∀ u, (Builtin.len_ c.argTypes o.type #[a.eval x]).run P w = .ok u w → (execOp a.eval o).run P w = .ok (.value u) w := by
    intro u hr
    have e1 : c.args.map a.eval = #[a.eval x] := by apply Array.ext'; simp [hargs]
    simp [execOp, hop, resolve, hc, invoke, builtin, e1, hr]
  have ea0 : c.argTypes[0]? = some ty := by rw [← Array.getElem?_toList, htys]; rfl
  have hx := rel_opd ht x
  generalize hev : a.eval x = ux at hx hexec
  generalize opd t x = vx at h hx
  split at h
  · rename_i hu
    cases hx <;> simp only [] at h <;> try (cases h; done)
    injection h with h; injection h with e1 e2; subst e1; subst e2
    rename_i s l hl
    refine ⟨⟨.int .i64 s.size, hexec _ (by simp [Builtin.len_, ea0, run_underlying hu, goInt]), ?_⟩, rfl⟩
    have : s.size = l.length := by rw [← hl]; simp
    rw [this]; exact .int _ _
  · rename_i el hu
    have go : ∀ base n cap, ux = .slice base n cap → (∃ m, lenV vx = some m ∧ m = n) → ret1 (opLen vx S) S = some (v, S') → (∀ i, vx ≠ .map i) → vx ≠ .nilm → Gives P Γ w a o v ∧ S' = S := by
      intro base n cap q1 ⟨m, q2, q3⟩ q4 q5 q6
      obtain ⟨e1, e2⟩ := ret1_eq q4
      subst q3
      refine ⟨⟨.int .i64 m, hexec _ (by rw [q1]; simp [Builtin.len_, ea0, run_underlying hu, goInt]), ?_⟩, e2⟩
      have : opLen vx S = some (.int .i64 m) := by
        unfold opLen
        split
        · exact absurd rfl q6
        · exact absurd rfl (q5 _)
        · rw [q2]
      rw [this] at e1; injection e1 with e1; subst e1; exact .int _ _
    cases hx <;> simp only [] at h <;> first
      | (cases h; done)
      | exact go _ _ _ rfl ⟨_, rfl, rfl⟩ h (by simp) (by simp)
      | (rename_i hn _; exact go _ _ _ rfl ⟨_, rfl, hn.symm⟩ h (by simp) (by simp))
      | (obtain ⟨e1, _⟩ := ret1_eq h; simp [opLen, lenV] at e1)
  · rename_i k el hu
    cases hx <;> simp only [] at h <;> try (cases h; done)
    · injection h with h; injection h with e1 e2; subst e1; subst e2
      exact ⟨⟨.int .i64 0, hexec _ (by simp [Builtin.len_, ea0, run_underlying hu, goInt]), .int _ _⟩, rfl⟩
    · rename_i id b hφ
      obtain ⟨e1, e2⟩ := ret1_eq h
      simp only [opLen] at e1
      cases hs : S.get id with
      | map l =>
        rw [hs] at e1; injection e1 with e1; subst e1
        obtain ⟨es, h1, h2⟩ := hm.map id b l hφ hs
        have hlen : l.length = es.size := by
          have : ∀ (n : Nat) (l : List (V × V)) (q : List MapEntry), RelP Γ n l q → l.length = q.length := by
            intro n l q hq
            induction hq with
            | nil => rfl
            | cons _ _ _ _ _ _ _ _ _ _ ih => simp [ih]
          have := this 0 l es.toList h2
          simpa using this
        refine ⟨⟨.int .i64 es.size, hexec _ ?_, by rw [hlen]; exact .int _ _⟩, e2⟩
        have hgo : (getObj b).run P w = .ok (.map es es.size) w := by
          simp [getObj, Sem.run, h1]
        simp [Builtin.len_, ea0, run_underlying hu, goInt, hgo]
      | free => rw [hs] at e1; cases e1
      | dead => rw [hs] at e1; cases e1
      | cells _ _ _ => rw [hs] at e1; cases e1
      | stale _ => rw [hs] at e1; cases e1
  · cases h

theorem gives_max (ht : TR Γ t a) {c : Call} {x : V} {r : List V} (hop : o.op = .call c) (hc : c.callee = .builtin .max) (hargs : c.args.toList.map (opd t) = x :: r) (h : maxL x r = some v)
    (hint : r ≠ [] ∨ ∃ k n, x = .int k n) : Gives P Γ w a o v := by
  have hr := rel_opds ht c.args.toList
  rw [hargs] at hr
  generalize hus : c.args.toList.map a.eval = us at hr
  cases hr with
  | cons _ u _ us' hx hs =>
    obtain ⟨y, h1, h2⟩ := maxL_rel (P := P) (w := w) r x us' u v h hx hs hint
    refine ⟨y, ?_, h2⟩
    have e1 : (c.args.map a.eval).toList = u :: us' := by rw [Array.toList_map]; exact hus
    simp [execOp, hop, resolve, hc, invoke, builtin, Builtin.max_, hus, h1]
theorem gives_min (ht : TR Γ t a) {c : Call} {x : V} {r : List V} (hop : o.op = .call c) (hc : c.callee = .builtin .min) (hargs : c.args.toList.map (opd t) = x :: r) (h : minL x r = some v)
    (hint : r ≠ [] ∨ ∃ k n, x = .int k n) : Gives P Γ w a o v := by
  have hr := rel_opds ht c.args.toList
  rw [hargs] at hr
  generalize hus : c.args.toList.map a.eval = us at hr
  cases hr with
  | cons _ u _ us' hx hs =>
    obtain ⟨y, h1, h2⟩ := minL_rel (P := P) (w := w) r x us' u v h hx hs hint
    refine ⟨y, ?_, h2⟩
    simp [execOp, hop, resolve, hc, invoke, builtin, Builtin.min_, hus, h1]

theorem wp_call (hcall : CallOK P call) (hm : Mem Γ S w) (ht : TR Γ t a) {c : Call} {x : Operand} {f : FuncId} {first caps : List V} (hop : o.op = .call c) (hc : c.callee = .value x)
    (hf : opd t x = .fn f first caps) (h : call f (first ++ c.args.toList.map (opd t) ++ caps) S = some (v, S')) {rn : Option Nat} {K : Act → World → Prop} {Q : Exit → Act → World → Prop}
    (hK : ∀ Γ' u w', Step Γ S w Γ' S' w' → Rel Γ' v u → K (a.put o.dst u) w') : o.wpIn (Wr rn) 0 P a w K Q := by
  have hx := rel_opd ht x
  rw [hf] at hx
  generalize hev : a.eval x = ux at hx
  cases hx with
  | fn _ _ _ uf uc h1 h2 =>
    obtain ⟨⟨fn, e1, e2, e3⟩, hcalls⟩ := hcall f _ S v S' h
    have hargs := rel_opds ht c.args.toList
    have hrel : RelL Γ (first ++ c.args.toList.map (opd t) ++ caps) (uf ++ c.args.map a.eval ++ uc).toList := by
      simp only [Array.toList_append, Array.toList_map]
      exact (h1.append hargs).append h2
    have hC := hcalls Γ w (uf ++ c.args.map a.eval ++ uc) hm hrel
    have hbody : fn.body ≠ none := fun hb => by rw [hb] at e2; cases e2
    have hexec : (execOp a.eval o).run P w = .ok (.enter f (uf ++ c.args.map a.eval ++ uc)) w := by
      have e3' : ¬ fn.name = "runtime.NumGoroutine" := by simpa using e3
      simp [execOp, hop, resolve, hc, hev, Deferred.ofValue, invoke, callFunc, e1, e3', hbody]
    refine ⟨fun _ _ => trivial, ?_⟩
    rw [Oper.semAt_eq _ _ _ (by rw [hop]; nofun), hexec, Oper.uponIn_enter]
    refine ⟨nofun, ?_⟩
    have hC' : CallsIn (Wr rn) (0 - 1) P f (uf ++ c.args.map a.eval ++ uc) w fun e w' => ∃ Γ' u, e = .returned u ∧ Step Γ S w Γ' S' w' ∧ Rel Γ' v u := by
      cases rn with
      | none => exact callsIn_wide.2 hC
      | some l => exact CallsIn.inRound l (callsIn_wide.2 hC)
    refine hC'.mono ?_
    rintro e w' ⟨Γ', u, rfl, hst, hr⟩
    exact hK Γ' u w' hst hr

theorem opAlloc_eq {cs : List V} (h : opAlloc cs S = some (v, S')) : ∃ i, S.new (.cells cs 0 []) = some (i, S') ∧ v = .ptr i 0 := by
  unfold opAlloc at h
  split at h
  · rename_i i S1 hn; injection h with h; injection h with e1 e2; subst e2; exact ⟨i, hn, e1.symm⟩
  · cases h
theorem opRow_eq {sz n : Nat} {cs : List V} (h : opRow sz n cs S = some (v, S')) : ∃ i, S.new (.cells cs 0 []) = some (i, S') ∧ v = .ref sz i 0 n := by
  unfold opRow at h
  split at h
  · rename_i i S1 hn; injection h with h; injection h with e1 e2; subst e2; exact ⟨i, hn, e1.symm⟩
  · cases h
theorem op_sound (hcall : CallOK P call) (h : evOp P call o t S = some (v, S')) (hm : Mem Γ S w) (ht : TR Γ t a) {rn : Option Nat} {K : Act → World → Prop} {Q : Exit → Act → World → Prop}
    (hK : ∀ Γ' u w', Step Γ S w Γ' S' w' → Rel Γ' v u → K (a.put o.dst u) w') : o.wpIn (Wr rn) 0 P a w K Q := by
  have hnd : ∀ c, o.op ≠ .defer c := fun c hc => by simp only [evOp, hc] at h; cases h
  have fin : Comes' P Γ S w a o v S' → o.wpIn (Wr rn) 0 P a w K Q := fun ⟨Γ', w', u, h1, h2, h3⟩ => wp_value hnd h1 (hK Γ' u w' h2 h3)
  have finG : Gives P Γ w a o v → S' = S → o.wpIn (Wr rn) 0 P a w K Q := fun hg e => fin (by subst e; exact hg.comes hm)
  cases hop : o.op <;> simp only [evOp, hop] at h <;> try (cases h; done)
  case move x => injection h with h; injection h with e1 e2; subst e1; exact finG (gives_move ht (.inl hop)) e2.symm
  case assign x => injection h with h; injection h with e1 e2; subst e1; exact finG (gives_move ht (.inr hop)) e2.symm
  case pick c x y => obtain ⟨e1, e2⟩ := ret1_eq h; exact finG (gives_pick ht hop e1) e2
  case alloc ty =>
    split at h
    · rename_i z hz
      obtain ⟨i, hn, e⟩ := opAlloc_eq h
      exact fin (e ▸ (arun_alloc hop hz).comes hm hn)
    · cases h
  case box ty x =>
    split at h
    · cases h
    · cases h
    · rename_i h1 h2
      obtain ⟨i, hn, e⟩ := opAlloc_eq h
      exact fin (e ▸ (arun_box ht hop h1 h2).comes hm hn)
  case build ty ps =>
    split at h
    · rename_i z place hz hp
      obtain ⟨e1, e2⟩ := ret1_eq h
      obtain ⟨cs, e3, e4⟩ := Option.map_eq_some_iff.1 e1
      subst e4
      exact finG (gives_build ht hop hz hp e3) e2
    · cases h
  case buildSlice ty n ps =>
    split at h
    · rename_i el hu
      split at h
      · rename_i z sz hz hsz
        split at h
        · rename_i hc
          obtain ⟨c1, c2⟩ := hc
          split at h
          · rename_i cs hf
            obtain ⟨i, hn, e⟩ := opRow_eq h
            exact fin (e ▸ (arun_buildSlice ht hop hu hz hsz c1 c2 hf).comes hm hn)
          · cases h
        · cases h
      · cases h
    · cases h
  case load ty x => obtain ⟨e1, e2⟩ := ret1_eq h; exact finG (gives_load hm ht hop e1) e2
  case store ty x y =>
    obtain ⟨w', h1, h2, h3⟩ := run_store_op (P := P) hm ht hop h
    exact wp_skip' hnd h1 (hK Γ undef w' h2 (h3 ▸ .any _))
  case nilCheck x => obtain ⟨e1, e2⟩ := ret1_eq h; exact finG (gives_nilCheck ht hop e1) e2
  case binOp op ty x y ty' => obtain ⟨e1, e2⟩ := ret1_eq h; exact finG (gives_binOp ht hop e1) e2
  case unOp op ty x => obtain ⟨e1, e2⟩ := ret1_eq h; exact finG (gives_unOp ht hop e1) e2
  case convert src dst x => obtain ⟨e1, e2⟩ := ret1_eq h; exact finG (gives_convert hm ht hop e1) e2
  case makeFunc fn x y =>
    cases fn <;> simp only [] at h <;> try (cases h; done)
    injection h with h; injection h with e1 e2; subst e1
    exact finG (gives_makeFunc ht hop) e2.symm
  case slice ty x lo hi mx =>
    cases mx <;> simp only [] at h <;> try (cases h; done)
    obtain ⟨e1, e2⟩ := ret1_eq h; exact finG (gives_slice ht hop e1) e2
  case fieldAddr s x f => obtain ⟨e1, e2⟩ := ret1_eq h; exact finG (gives_fieldAddr ht hop e1) e2
  case field s x f => obtain ⟨e1, e2⟩ := ret1_eq h; exact finG (gives_field ht hop e1) e2
  case indexAddr ty x i => obtain ⟨e1, e2⟩ := ret1_eq h; exact finG (gives_indexAddr ht hop e1) e2
  case index ty x i => obtain ⟨e1, e2⟩ := ret1_eq h; exact finG (gives_index ht hop e1) e2
  case makeSlice ty l c =>
    unfold opMakeSlice at h
    split at h
    · rename_i el hu
      split at h
      · rename_i z sz n m hz hsz hl hc
        split at h
        · rename_i hcond
          obtain ⟨c1, c2, c3, c4⟩ := hcond
          obtain ⟨i, hn, e⟩ := opRow_eq h
          exact fin (e ▸ (arun_makeSlice ht hop hu hz hsz hl hc c1 c2 c3 c4).comes hm hn)
        · cases h
      · cases h
    · cases h
  case extract x i => obtain ⟨e1, e2⟩ := ret1_eq h; exact finG (gives_extract ht hop e1) e2
  case makeMap ty r =>
    cases r <;> simp only [] at h <;> try (cases h; done)
    exact fin (comes_makeMap hm hop h)
  case lookup ty x i ok => obtain ⟨e1, e2⟩ := ret1_eq h; exact finG (gives_lookup hm ht hop e1) e2
  case mapUpdate ty m k x =>
    obtain ⟨w', h1, h2, h3⟩ := run_mapUpdate (P := P) hm ht hop h
    exact wp_skip' hnd h1 (hK Γ undef w' h2 (h3 ▸ .any _))
  case call c =>
    cases hc : c.callee with
    | invoke r m => rw [hc] at h; cases h
    | value x =>
      rw [hc] at h
      simp only [] at h
      split at h
      · rename_i f first caps hf; exact wp_call hcall hm ht hop hc hf h hK
      · cases h
    | builtin b =>
      rw [hc] at h
      cases b <;> simp only [] at h <;> try (cases h; done)
      case len =>
        split at h
        · rename_i x ty hargs htys
          obtain ⟨g1, g2⟩ := gives_len hm ht hop hc hargs htys h
          exact finG g1 g2
        · cases h
      case append =>
        split at h
        · rename_i x y ty ty' hargs htys
          split at h
          · cases h
          · rename_i d' hni hd
            exact fin (comes_append hm ht hop hc hargs htys hd (fun k e => hni k e) h)
          · cases h
        · cases h
      case copy =>
        split at h
        · rename_i x y ty r hargs htys
          exact fin (comes_copy hm ht hop hc hargs htys h)
        · cases h
      case max =>
        split at h
        · rename_i k n r hargs
          obtain ⟨e1, e2⟩ := ret1_eq h
          exact finG (gives_max ht hop hc hargs e1 (.inr ⟨_, _, rfl⟩)) e2
        · cases h
      case min =>
        split at h
        · rename_i k n r hargs
          obtain ⟨e1, e2⟩ := ret1_eq h
          exact finG (gives_min ht hop hc hargs e1 (.inr ⟨_, _, rfl⟩)) e2
        · cases h
end
end Go.Vm

namespace Go.Vm
variable [Gl]
open Go.RowKit

inductive Cls where
  | P | L | A | E
  deriving DecidableEq
/-- What an operation does with the store: nothing, reads one object, makes one row, anything. -/
def clsOf (o : Oper) : Cls :=
  match o.op with
  | .move _ | .assign _ | .pick .. | .build .. | .nilCheck _ | .binOp .. | .unOp .. | .makeFunc .. | .slice .. | .fieldAddr .. | .field .. | .indexAddr .. | .index .. | .extract .. => .P
  | .load .. => .L
  | .convert .. => .L
  | .alloc .. | .box .. | .buildSlice .. | .makeSlice .. => .A
  | .call c => match c.callee with
    | .builtin .max | .builtin .min => .P
    | .builtin .len => .L
    | _ => .E
  | _ => .E
def Ob.look : Ob → Option (List V ⊕ List (V × V))
  | .cells l _ _ => some (.inl l)
  | .stale l => some (.inl l)
  | .map l => some (.inr l)
  | _ => none
/-- The object that an operation reads. -/
def readId (o : Oper) (t : Tm) : Option Id :=
  match o.op with
  | .load _ x => match opd t x with
    | .ptr id _ => some id
    | _ => none
  | .convert _ _ x => match opd t x with
    | .ref _ id _ _ => some id
    | _ => none
  | .call c => match c.args.toList with
    | [x] => match opd t x with
      | .map id => some id
      | _ => none
    | _ => none
  | _ => none

section
variable {P : Program} {Γ : Ctx} {S S' S2 : St} {w : World} {t t' : Tm} {a : Act} {o : Oper} {v : V} {call : CallF}

theorem ret1_any {x : Option V} (h : ret1 x S = some (v, S')) : S' = S ∧ ∀ S2, ret1 x S2 = some (v, S2) := by
  obtain ⟨e1, e2⟩ := ret1_eq h
  exact ⟨e2, fun S2 => by rw [e1]; rfl⟩

theorem P_spec (hc : clsOf o = .P) (h : evOp P call o t S = some (v, S')) : S' = S ∧ ∀ S2, evOp P call o t S2 = some (v, S2) := by
  cases hop : o.op <;> simp only [clsOf, hop] at hc <;> try (cases hc; done)
  case move x => simp only [evOp, hop] at h ⊢; injection h with h; injection h with e1 e2; exact ⟨e2.symm, fun S2 => by rw [e1]⟩
  case assign x => simp only [evOp, hop] at h ⊢; injection h with h; injection h with e1 e2; exact ⟨e2.symm, fun S2 => by rw [e1]⟩
  case makeFunc fn x y =>
    simp only [evOp, hop] at h ⊢
    cases fn <;> simp only [] at h ⊢ <;> try (cases h; done)
    injection h with h; injection h with e1 e2; exact ⟨e2.symm, fun S2 => by rw [e1]⟩
  case slice ty x lo hi mx =>
    simp only [evOp, hop] at h ⊢
    cases mx <;> simp only [] at h ⊢ <;> try (cases h; done)
    exact ret1_any h
  case build ty ps =>
    simp only [evOp, hop] at h ⊢
    split at h
    · exact ret1_any h
    · cases h
  case call c =>
    cases hcc : c.callee with
    | value x => rw [hcc] at hc; cases hc
    | invoke x m => rw [hcc] at hc; cases hc
    | builtin b =>
      rw [hcc] at hc
      cases b <;> simp only [] at hc <;> try (cases hc; done)
      all_goals
        simp only [evOp, hop, hcc] at h ⊢
        split at h
        · rename_i k n r hargs
          exact ret1_any h
        · cases h
  all_goals (simp only [evOp, hop] at h ⊢; exact ret1_any h)

theorem cellsAt_look {x : V} (hr : ∀ id off, x = .ptr id off → (S2.get id).look = (S.get id).look) : cellsAt S2 x = cellsAt S x := by
  cases x <;> simp only [cellsAt]
  case ptr id off =>
    have := hr id off rfl
    cases h1 : S.get id <;> cases h2 : S2.get id <;> rw [h1, h2] at this <;> simp only [Ob.look] at this <;> simp_all
theorem opConv_look {a b : TypeId} {x : V} (hr : ∀ e id off n, x = .ref e id off n → (S2.get id).look = (S.get id).look) : opConv P a b x S2 = opConv P a b x S := by
  have h : srcCells 1 S2 x = srcCells 1 S x := by
    cases x <;> simp only [srcCells]
    case ref e id off n =>
      have := hr e id off n rfl
      cases h1 : S.get id <;> cases h2 : S2.get id <;> rw [h1, h2] at this <;> simp only [Ob.look] at this <;> simp_all
  have hb : bytesAt S2 x = bytesAt S x := by
    cases x <;> simp only [bytesAt] <;> simp only [h]
  unfold opConv
  rw [hb]
theorem L_spec (hc : clsOf o = .L) (h : evOp P call o t S = some (v, S')) : S' = S ∧ ∀ S2, (∀ id, readId o t = some id → (S2.get id).look = (S.get id).look) → evOp P call o t S2 = some (v, S2) := by
  cases hop : o.op <;> simp only [clsOf, hop] at hc <;> try (cases hc; done)
  case load ty x =>
    simp only [evOp, hop] at h ⊢
    obtain ⟨e1, e2⟩ := ret1_eq h
    refine ⟨e2, fun S2 hr => ?_⟩
    have : opLoad P ty (opd t x) S2 = opLoad P ty (opd t x) S := by
      unfold opLoad
      rw [cellsAt_look (S := S) (S2 := S2) fun id off e => hr id (by simp [readId, hop, e])]
    rw [this, e1]; rfl
  case convert a b x =>
    simp only [evOp, hop] at h ⊢
    obtain ⟨e1, e2⟩ := ret1_eq h
    refine ⟨e2, fun S2 hr => ?_⟩
    rw [opConv_look (S := S) (S2 := S2) fun e id off n he => hr id (by simp [readId, hop, he]), e1]; rfl
  case call c =>
    cases hcc : c.callee with
    | value x => rw [hcc] at hc; cases hc
    | invoke x m => rw [hcc] at hc; cases hc
    | builtin b =>
      rw [hcc] at hc
      cases b <;> simp only [] at hc <;> try (cases hc; done)
      simp only [evOp, hop, hcc] at h ⊢
      split at h
      · rename_i x ty hargs htys
        split at h
        · rename_i hu
          split at h
          · injection h with h; injection h with e1 e2; exact ⟨e2.symm, fun S2 _ => by rw [e1]⟩
          · cases h
        · rename_i el hu
          split at h
          · cases h
          · cases h
          · cases h
          · rename_i hn1 hn2 hn3
            obtain ⟨e1, e2⟩ := ret1_eq h
            refine ⟨e2, fun S2 _ => ?_⟩
            have : opLen (opd t x) S2 = opLen (opd t x) S := by
              unfold opLen
              cases hx : opd t x <;> first | rfl | exact absurd hx (hn3 _)
            rw [this, e1]; rfl
        · rename_i k el hu
          split at h
          · injection h with h; injection h with e1 e2; exact ⟨e2.symm, fun S2 _ => by rw [e1]⟩
          · rename_i i hx
            obtain ⟨e1, e2⟩ := ret1_eq h
            refine ⟨e2, fun S2 hr => ?_⟩
            have hl := hr i (by simp [readId, hop, hargs, hx])
            have : opLen (.map i) S2 = opLen (.map i) S := by
              simp only [opLen]
              cases h1 : S.get i <;> cases h2 : S2.get i <;> rw [h1, h2] at hl <;> simp only [Ob.look] at hl <;> simp_all
            rw [this, e1]; rfl
          · cases h
        · cases h
      · cases h

theorem A_spec (hc : clsOf o = .A) (h : evOp P call o t S = some (v, S')) :
    ∃ cs av i, S.new (.cells cs 0 []) = some (i, S') ∧ v = av i ∧ ∀ (Γ : Ctx) (w : World) (a : Act), (TR Γ t a) → AllocRun P Γ w a o cs av := by
  cases hop : o.op <;> simp only [clsOf, hop] at hc <;> try (cases hc; done)
  case alloc ty =>
    simp only [evOp, hop] at h
    split at h
    · rename_i z hz
      obtain ⟨i, hn, e⟩ := opAlloc_eq h
      exact ⟨z, _, i, hn, e, fun Γ w a ht => arun_alloc hop hz⟩
    · cases h
  case box ty x =>
    simp only [evOp, hop] at h
    split at h
    · cases h
    · cases h
    · rename_i h1 h2
      obtain ⟨i, hn, e⟩ := opAlloc_eq h
      exact ⟨_, _, i, hn, e, fun Γ w a ht => arun_box ht hop h1 h2⟩
  case buildSlice ty n ps =>
    simp only [evOp, hop] at h
    split at h
    · rename_i el hu
      split at h
      · rename_i z sz hz hsz
        split at h
        · rename_i hc
          obtain ⟨c1, c2⟩ := hc
          split at h
          · rename_i cs hf
            obtain ⟨i, hn, e⟩ := opRow_eq h
            exact ⟨_, fun i => .ref sz i 0 n, i, hn, e, fun Γ w a ht => arun_buildSlice ht hop hu hz hsz c1 c2 hf⟩
          · cases h
        · cases h
      · cases h
    · cases h
  case makeSlice ty l c =>
    simp only [evOp, hop] at h
    unfold opMakeSlice at h
    split at h
    · rename_i el hu
      split at h
      · rename_i z sz n m hz hsz hl hc
        split at h
        · rename_i hcond
          obtain ⟨c1, c2, c3, c4⟩ := hcond
          obtain ⟨i, hn, e⟩ := opRow_eq h
          exact ⟨_, fun i => .ref sz i 0 n, i, hn, e, fun Γ w a ht => arun_makeSlice ht hop hu hz hsz hl hc c1 c2 c3 c4⟩
        · cases h
      · cases h
    · cases h
  case call c =>
    cases hcc : c.callee with
    | value x => rw [hcc] at hc; cases hc
    | invoke x m => rw [hcc] at hc; cases hc
    | builtin b => rw [hcc] at hc; cases b <;> cases hc

theorem fill_congr {place : Nat → Option (Nat × Nat)} : ∀ (ps : List (Nat × Operand)) (z : List V), (∀ p ∈ ps, opd t p.2 = opd t' p.2) → fill place t ps z = fill place t' ps z
  | [], z, _ => rfl
  | (i, x) :: ps, z, h => by
    have hx := h (i, x) (by simp)
    simp only at hx
    have ih := fun z' => fill_congr (place := place) ps z' fun p hp => h p (by simp [hp])
    simp only [fill, hx, ih]
theorem map_congr {l : List Operand} (h : ∀ x ∈ l, opd t x = opd t' x) : l.map (opd t) = l.map (opd t') := List.map_congr_left h
theorem evOp_congr (h : ∀ x ∈ o.op.operands.toList, opd t x = opd t' x) : evOp P call o t S = evOp P call o t' S := by
  cases hop : o.op <;> rw [hop] at h <;> simp only [evOp, hop]
  case move x => rw [h x (by simp [Op.operands])]
  case assign x => rw [h x (by simp [Op.operands])]
  case pick c x y => rw [h c (by simp [Op.operands]), h x (by simp [Op.operands]), h y (by simp [Op.operands])]
  case box ty x => rw [h x (by simp [Op.operands])]
  case build ty ps =>
    have : ∀ z place, fill place t ps.toList z = fill place t' ps.toList z := fun z place => fill_congr _ _ fun p hp => h p.2 (by simp only [Op.operands]; exact List.mem_map.2 ⟨p, hp, rfl⟩)
    simp only [this]
  case buildSlice ty n ps =>
    have : ∀ z place, fill place t ps.toList z = fill place t' ps.toList z := fun z place => fill_congr _ _ fun p hp => h p.2 (by simp only [Op.operands]; exact List.mem_map.2 ⟨p, hp, rfl⟩)
    simp only [this]
  case load ty x => rw [h x (by simp [Op.operands])]
  case store ty x y => rw [h x (by simp [Op.operands]), h y (by simp [Op.operands])]
  case nilCheck x => rw [h x (by simp [Op.operands])]
  case binOp op ty x y ty' => rw [h x (by simp [Op.operands]), h y (by simp [Op.operands])]
  case unOp op ty x => rw [h x (by simp [Op.operands])]
  case convert s d x => rw [h x (by simp [Op.operands])]
  case makeFunc fn x y =>
    cases fn <;> simp only []
    rw [map_congr (l := x.toList) fun z hz => h z (by simp [Op.operands]; left; simpa using hz), map_congr (l := y.toList) fun z hz => h z (by simp [Op.operands]; right; simpa using hz)]
  case slice ty x lo hi mx =>
    have hx := h x (by simp [Op.operands])
    have hlo : ∀ d, bound d t lo = bound d t' lo := by
      intro d; cases lo with
      | none => rfl
      | some y => simp only [bound]; rw [h y (by simp [Op.operands])]
    have hhi : ∀ d, bound d t hi = bound d t' hi := by
      intro d; cases hi with
      | none => rfl
      | some y => simp only [bound]; rw [h y (by simp [Op.operands])]
    cases mx <;> simp only [opSlice, hx, hlo, hhi]
  case fieldAddr s x f => rw [h x (by simp [Op.operands])]
  case field s x f => rw [h x (by simp [Op.operands])]
  case indexAddr ty x i => rw [h x (by simp [Op.operands]), h i (by simp [Op.operands])]
  case index ty x i => rw [h x (by simp [Op.operands]), h i (by simp [Op.operands])]
  case makeSlice ty l c => rw [h l (by simp [Op.operands]), h c (by simp [Op.operands])]
  case extract x i => rw [h x (by simp [Op.operands])]
  case makeMap ty r => cases r <;> rfl
  case lookup ty x i ok => rw [h x (by simp [Op.operands]), h i (by simp [Op.operands])]
  case mapUpdate ty m k x => rw [h m (by simp [Op.operands]), h k (by simp [Op.operands]), h x (by simp [Op.operands])]
  case call c =>
    have hargs : ∀ x ∈ c.args.toList, opd t x = opd t' x := fun x hx => h x (by simp [Op.operands, Call.operands]; right; simpa using hx)
    have hmap := map_congr hargs
    cases hcc : c.callee with
    | value x => simp only []; rw [h x (by simp [Op.operands, Call.operands, hcc]), hmap]
    | invoke x m => rfl
    | builtin b =>
      cases b <;> simp only [hmap]
      case len =>
        cases hal : c.args.toList with
        | nil => rfl
        | cons x r =>
          rw [hal] at hargs
          cases r with
          | cons _ _ => rfl
          | nil =>
            cases c.argTypes.toList with
            | nil => rfl
            | cons ty r => cases r with
              | nil => simp only []; rw [hargs x (by simp)]
              | cons _ _ => rfl
      case append =>
        cases hal : c.args.toList with
        | nil => rfl
        | cons x r =>
          rw [hal] at hargs
          cases r with
          | nil => rfl
          | cons y r => cases r with
            | nil =>
              have e1 := hargs x (by simp)
              have e2 := hargs y (by simp)
              rcases c.argTypes.toList with _ | ⟨ty, _ | ⟨ty', _ | ⟨_, _⟩⟩⟩ <;> simp only [] <;> rw [e1, e2]
            | cons _ _ => rfl
      case copy =>
        cases hal : c.args.toList with
        | nil => rfl
        | cons x r =>
          rw [hal] at hargs
          cases r with
          | nil => rfl
          | cons y r => cases r with
            | nil =>
              have e1 := hargs x (by simp)
              have e2 := hargs y (by simp)
              rcases c.argTypes.toList with _ | ⟨ty, _⟩ <;> simp only [] <;> rw [e1, e2]
            | cons _ _ => rfl

theorem new_get {ob : Ob} {i : Id} (h : S.new ob = some (i, S')) (id : Id) : S.get id ≠ .free → S'.get id ≠ .free := by
  obtain ⟨h1, h2⟩ := St.new_eq h
  intro hn
  rw [h2]
  split
  · rename_i e; rw [e, h1] at hn; exact absurd rfl hn
  · exact hn
end
end Go.Vm

namespace Go.Vm
variable [Gl]
open Go.RowKit

/-- What is there stays there. -/
def Nf (S S' : St) : Prop := ∀ id, S.get id ≠ .free → S'.get id ≠ .free
theorem Nf.refl (S : St) : Nf S S := fun _ h => h
theorem Nf.trans {S S1 S2 : St} (h : Nf S S1) (k : Nf S1 S2) : Nf S S2 := fun id e => k id (h id e)
def CallNf (call : CallF) : Prop := ∀ (f : FuncId) (args : List V) (S : St) (r : V) (S' : St), call f args S = some (r, S') → Nf S S'

section
variable {P : Program} {S S' : St} {t t' : Tm} {o : Oper} {v : V} {call : CallF} {nt : Nat} {ops : Array Oper}

theorem killAll_nf : ∀ (l : List Id) (S : St), Nf S (killAll l S) := by
  intro l S id h
  rcases killAll_get S l id with e | ⟨e, _, _⟩
  · rw [e]; exact h
  · rw [e]; simp
theorem set_nf (S : St) (i : Id) (o : Ob) (ho : o ≠ .free) : Nf S (S.set i o) := by
  intro id h
  rw [St.get_set]
  split
  · exact ho
  · exact h
theorem writeAt_nf {x : V} {vs : List V} (h : writeAt S x vs = some S') : Nf S S' := by
  unfold writeAt at h
  split at h
  · split at h
    · split at h
      · injection h with h; subst h
        exact (killAll_nf _ S).trans (set_nf _ _ _ (by simp))
      · cases h
    · cases h
  · cases h
theorem opAppend_nf {ty : TypeId} {x y : V} (h : opAppend P ty x y S = some (v, S')) : Nf S S' := by
  unfold opAppend at h
  split at h
  · split at h
    · cases h
    · split at h
      · cases h
      · split at h <;> first
          | (injection h with h; injection h with _ h; subst h; exact .refl _)
          | cases h
      · split at h
        · split at h
          · split at h
            · split at h
              · rename_i hn; injection h with h; injection h with _ h; subst h; exact new_get hn
              · cases h
            · cases h
          · split at h
            · split at h
              · split at h
                · rename_i hn; injection h with h; injection h with _ h; subst h
                  exact (set_nf S _ _ (by simp)).trans (new_get hn)
                · cases h
              · cases h
            · cases h
          · cases h
        · cases h
  · cases h
theorem opMapUpdate_nf {ty : TypeId} {m k x : V} (h : opMapUpdate P ty m k x S = some (v, S')) : Nf S S' := by
  unfold opMapUpdate at h
  split at h <;> try (cases h; done)
  split at h <;> try (cases h; done)
  split at h <;> try (cases h; done)
  split at h <;> try (cases h; done)
  injection h with h; injection h with _ h; subst h
  exact set_nf _ _ _ (by simp)
theorem opCopy_nf {ty : TypeId} {x y : V} (h : opCopy P ty x y S = some (v, S')) : Nf S S' := by
  unfold opCopy at h
  split at h <;> try (cases h; done)
  split at h <;> try (cases h; done)
  split at h <;> try (cases h; done)
  split at h <;> try (cases h; done)
  · injection h with h; injection h with _ h; subst h; exact .refl _
  · split at h
    · rename_i hw; injection h with h; injection h with _ h; subst h; exact writeAt_nf hw
    · cases h
theorem evOp_nf (hcall : CallNf call) (h : evOp P call o t S = some (v, S')) : Nf S S' := by
  cases hc : clsOf o with
  | P => rw [(P_spec hc h).1]; exact .refl _
  | L => rw [(L_spec hc h).1]; exact .refl _
  | A => obtain ⟨_, _, _, hn, _⟩ := A_spec hc h; exact new_get hn
  | E =>
    cases hop : o.op <;> simp only [clsOf, hop] at hc <;> try (cases hc; done)
    case store ty x y =>
      simp only [evOp, hop] at h
      unfold opStore at h
      split at h
      · split at h
        · split at h
          · split at h
            · rename_i hw; injection h with h; injection h with _ h; subst h; exact writeAt_nf hw
            · cases h
          · cases h
        · cases h
      · split at h
        · split at h
          · rename_i hw; injection h with h; injection h with _ h; subst h; exact writeAt_nf hw
          · cases h
        · cases h
      · cases h
    case call c =>
      simp only [evOp, hop] at h
      cases hcc : c.callee with
      | invoke r m => rw [hcc] at h; cases h
      | value x =>
        rw [hcc] at h
        simp only [] at h
        split at h
        · exact hcall _ _ _ _ _ h
        · cases h
      | builtin b =>
        rw [hcc] at h hc
        cases b <;> simp only [] at h hc <;> try (first | (cases h; done) | (cases hc; done))
        case append =>
          split at h
          · split at h
            · cases h
            · exact opAppend_nf h
            · cases h
          · cases h
        case copy =>
          split at h
          · exact opCopy_nf h
          · cases h
    case makeMap ty r =>
      simp only [evOp, hop] at h
      cases r <;> simp only [] at h <;> try (cases h; done)
      unfold opMakeMap at h
      split at h
      · rename_i hn; injection h with h; injection h with _ h; subst h; exact new_get hn
      · cases h
    case lookup ty x i ok => simp only [evOp, hop] at h; rw [(ret1_eq h).2]; exact .refl _
    case mapUpdate ty m k x => simp only [evOp, hop] at h; exact opMapUpdate_nf h
    all_goals (simp only [evOp, hop] at h; try (cases h; done))
theorem evOps_nf (hcall : CallNf call) : ∀ (l : List Oper) {t : Tm} {S : St}, evOps P nt call ops l t S = some (t', S') → Nf S S'
  | [], t, S, h => by simp only [evOps, Option.some.injEq, Prod.mk.injEq] at h; obtain ⟨_, e⟩ := h; subst e; exact .refl _
  | o :: r, t, S, h => by
    unfold evOps at h
    split at h
    · split at h
      · rename_i he; exact (evOp_nf hcall he).trans (evOps_nf hcall r h)
      · cases h
    · exact evOps_nf hcall r h
    · cases h
theorem amb2_eq {f : Tm → St → RC} {x y : Option (Tm × St)} {s : Sig} {t' : Tm} {S S' : St} (h : amb2 S f x y = some (s, t', S')) :
    ∃ t A u B ta Aa tb Bb, x = some (t, A) ∧ y = some (u, B) ∧ f t A = some (.norm, ta, Aa) ∧ f u B = some (.norm, tb, Bb) ∧ MergeOK S Aa Bb ∧ s = .norm ∧ t' = mergeT ta tb ∧ S' = mergeS Aa Bb := by
  unfold amb2 at h
  split at h
  · rename_i t A u B
    unfold merge2 at h
    split at h
    · rename_i ta Aa tb Bb h1 h2
      split at h
      · rename_i hm
        simp only [Option.some.injEq, Prod.mk.injEq] at h
        obtain ⟨e1, e2, e3⟩ := h
        exact ⟨t, A, u, B, ta, Aa, tb, Bb, rfl, rfl, h1, h2, hm, e1.symm, e2.symm, e3.symm⟩
      · cases h
    · cases h
  · cases h
theorem mergeD_cases (a b : Ob) : mergeD a b = .dead ∨ ∃ l fz anc anc', a = .cells l fz anc ∧ b = .cells l fz anc' ∧ mergeD a b = .cells l fz (anc ++ anc') := by
  unfold mergeD
  split
  · rename_i l fz anc l' fz' anc'
    split
    · rename_i h; obtain ⟨h1, h2⟩ := h; subst h1; subst h2; exact .inr ⟨l, fz, anc, anc', rfl, rfl, rfl⟩
    · exact .inl rfl
  · exact .inl rfl
theorem mergeOb_self (a : Ob) : mergeOb a a = a := by simp [mergeOb]
theorem mergeS_free {S A B : St} (hm : MergeOK S A B) (id : Id) : (mergeS A B).get id = .free ↔ A.get id = .free := by
  simp only [mergeS, mergeOb]
  split
  · exact Iff.rfl
  · rename_i hne
    constructor
    · intro h
      rcases mergeD_cases (A.get id) (B.get id) with e | ⟨l, fz, anc, anc', _, _, e⟩ <;> rw [e] at h <;> cases h
    · intro h; exact absurd (h.trans ((hm.2 id).1.1 h).symm) hne
theorem evC_nf {okR : CallF → Nat → Array Oper → Tm → St → Prop} (hcall : CallNf call) {n : Nat} : ∀ (c : Code) {t : Tm} {S : St} {s : Sig} {t' : Tm} {S' : St}, evC P okR nt call n c t S = some (s, t', S') → Nf S S'
  | .skip, t, S, s, t', S', h => by simp only [evC, Option.some.injEq, Prod.mk.injEq] at h; obtain ⟨_, _, e⟩ := h; subst e; exact .refl _
  | .exit _, t, S, s, t', S', h => by simp only [evC, Option.some.injEq, Prod.mk.injEq] at h; obtain ⟨_, _, e⟩ := h; subst e; exact .refl _
  | .ret, t, S, s, t', S', h => by simp only [evC, Option.some.injEq, Prod.mk.injEq] at h; obtain ⟨_, _, e⟩ := h; subst e; exact .refl _
  | .region _ ops _, t, S, s, t', S', h => by
    simp only [evC] at h
    split at h
    · cases h
    · split at h
      · rename_i he
        simp only [Option.some.injEq, Prod.mk.injEq] at h; obtain ⟨_, _, e⟩ := h; subst e
        exact evOps_nf hcall _ he
      · cases h
  | .seq a b, t, S, s, t', S', h => by
    simp only [evC] at h
    split at h
    · rename_i ops l1 l2 _
      obtain ⟨t1, A, u, B, ta, Aa, tb, Bb, e1, e2, h1, h2, hm, _, _, e5⟩ := amb2_eq h
      subst e5
      intro id hid hf
      rw [mergeS_free hm] at hf
      exact evC_nf hcall b h1 id (evOps_nf hcall _ e1 id hid) hf
    · split at h
      · rename_i h1; exact (evC_nf hcall a h1).trans (evC_nf hcall b h)
      · exact evC_nf hcall a h
  | .cond c a b, t, S, s, t', S', h => by
    simp only [evC] at h
    split at h
    · exact evC_nf hcall a h
    · exact evC_nf hcall b h
    · cases h
  | .block id b, t, S, s, t', S', h => by
    simp only [evC] at h
    split at h
    · rename_i h1
      split at h <;> (simp only [Option.some.injEq, Prod.mk.injEq] at h; obtain ⟨_, _, e⟩ := h; subst e; exact evC_nf hcall b h1)
    · exact evC_nf hcall b h
  | .loop b, t, S, s, t', S', h => by
    simp only [evC] at h
    suffices hl : ∀ (k : Nat) {t : Tm} {S : St} {s : Sig} {t' : Tm} {S' : St}, loopN (evC P okR nt call n b) k t S = some (s, t', S') → Nf S S' from hl n h
    intro k
    induction k with
    | zero => intro t S s t' S' h; cases h
    | succ k ih =>
      intro t S s t' S' h
      simp only [loopN] at h
      split at h
      · rename_i h1; exact (evC_nf hcall b h1).trans (ih h)
      · exact evC_nf hcall b h
  | .rangeFunc _ _ _ _, t, S, s, t', S', h => by simp [evC] at h
  | .scope _, t, S, s, t', S', h => by simp [evC] at h
  | .label _, t, S, s, t', S', h => by simp [evC] at h
  | .goto _, t, S, s, t', S', h => by simp [evC] at h
  | .refuse _, t, S, s, t', S', h => by simp [evC] at h
theorem callN_nf {base : AskF} (hb : CallNf (ansOf base)) {okR : CallF → Nat → Array Oper → Tm → St → Prop} : ∀ (n : Nat), CallNf (callN P base okR n)
  | 0 => fun f args S r S' h => hb f args S r S' h
  | n + 1 => fun f args S r S' h => by
    simp only [callN] at h
    split at h
    · rename_i r0 h0; exact hb f args S r S' (by simp only [ansOf, h0]; exact h)
    · split at h
      · cases h
      · split at h
        · cases h
        · split at h
          · cases h
          · split at h
            · cases h
            · cases h
            · rename_i he
              split at h
              · injection h with h; injection h with _ e; subst e; exact evC_nf (callN_nf hb n) _ he
              · cases h
end
end Go.Vm

namespace Go.Vm
variable [Gl]
open Go.RowKit

/-- X holds what S holds, and rows besides that the run from S to S' does not come to. -/
structure Ext (S S' X : St) : Prop where
  nx : X.nx = S.nx
  same : ∀ id, S.get id ≠ .free → X.get id = S.get id
  more : ∀ id, S.get id = .free → X.get id ≠ .free → (X.get id).live = true ∧ S'.get id = .free
structure Post (S' X X' : St) : Prop where
  nx : X'.nx = S'.nx
  same : ∀ id, S'.get id ≠ .free → X'.get id = S'.get id
  more : ∀ id, S'.get id = .free → X'.get id = X.get id
def CallMono (call : CallF) : Prop := ∀ (f : FuncId) (args : List V) (S : St) (r : V) (S' : St), call f args S = some (r, S') → ∀ X, Ext S S' X → ∃ X', call f args X = some (r, X') ∧ Post S' X X'

/-- Whether the base answers does not depend on the store. -/
def AskMono (base : AskF) : Prop := ∀ (f : FuncId) (args : List V) (S : St) (r : V) (S' : St), base f args S = some (some (r, S')) → ∀ X, Ext S S' X → ∃ X', base f args X = some (some (r, X')) ∧ Post S' X X'
def AskSame (base : AskF) : Prop := ∀ (f : FuncId) (args : List V) (S S' X : St), base f args S = none → Ext S S' X → base f args X = none
theorem Ext.first {S S1 S2 X : St} (h : Ext S S2 X) (hn : Nf S1 S2) : Ext S S1 X := by
  refine ⟨h.nx, h.same, fun id h1 h2 => ⟨(h.more id h1 h2).1, ?_⟩⟩
  have := (h.more id h1 h2).2
  exact Classical.byContradiction fun hc => hn id hc this
theorem Ext.second {S S1 S2 X X1 : St} (h : Ext S S2 X) (hn : Nf S S1) (hp : Post S1 X X1) : Ext S1 S2 X1 := by
  refine ⟨hp.nx, hp.same, fun id h1 h2 => ?_⟩
  rw [hp.more id h1] at h2 ⊢
  have h0 : S.get id = .free := Classical.byContradiction fun hc => hn id hc h1
  exact h.more id h0 h2
theorem Post.trans {S1 S2 X X1 X2 : St} (h : Post S1 X X1) (k : Post S2 X1 X2) (hn : Nf S1 S2) : Post S2 X X2 := by
  refine ⟨k.nx, k.same, fun id h1 => ?_⟩
  rw [k.more id h1]
  exact h.more id (Classical.byContradiction fun hc => hn id hc h1)
theorem Post.refl {S X : St} (h : Ext S S X) : Post S X X := ⟨h.nx, h.same, fun _ _ => rfl⟩

section
variable {P : Program} {S S' X : St} {t t' : Tm} {o : Oper} {v : V} {call : CallF} {nt : Nat} {ops : Array Oper}

theorem new_mono {ob : Ob} {i : Id} (h : S.new ob = some (i, S')) (hob : ob ≠ .free) (hx : Ext S S' X) : ∃ X', X.new ob = some (i, X') ∧ Post S' X X' := by
  unfold St.new at h
  split at h
  · rename_i hf
    split at h
    · rename_i n hn
      injection h with h; injection h with e1 e2
      have hxf : X.get S.nx = .free := by
        refine Classical.byContradiction fun hc => ?_
        have := (hx.more _ hf hc).2
        rw [← e2] at this
        simp at this
        exact hob this
      refine ⟨{ get := fun j => if j = S.nx then ob else X.get j, nx := n }, ?_, ?_⟩
      · unfold St.new
        rw [hx.nx, hxf]
        simp only [hn]
        rw [e1]
      · subst e2
        refine ⟨rfl, fun id h1 => ?_, fun id h1 => ?_⟩
        · simp only [] at h1 ⊢
          split
          · rfl
          · rename_i hne; rw [if_neg hne] at h1; exact hx.same id h1
        · simp only [] at h1 ⊢
          split
          · rename_i he; rw [if_pos he] at h1; exact absurd h1 hob
          · rfl
    · cases h
  · cases h
theorem set_mono {i : Id} {ob : Ob} (hob : ob ≠ .free) (hx : Ext S S X) : Post (S.set i ob) X (X.set i ob) := by
  refine ⟨hx.nx, fun id h1 => ?_, fun id h1 => ?_⟩
  · rw [St.get_set] at h1 ⊢
    rw [St.get_set]
    split
    · rfl
    · rename_i hne; rw [if_neg hne] at h1; exact hx.same id h1
  · rw [St.get_set] at h1 ⊢
    split
    · rename_i he; rw [if_pos he] at h1; exact absurd h1 hob
    · rfl
theorem killAll_mono : ∀ (l : List Id) (S X : St), Ext S S X → Post (killAll l S) X (killAll l X)
  | [], S, X, h => .refl h
  | i :: r, S, X, h => by
    simp only [killAll]
    cases hs : S.get i with
    | stale x =>
      have hx : X.get i = .stale x := by rw [h.same i (by rw [hs]; simp), hs]
      rw [hx]
      simp only []
      have hp := set_mono (i := i) (ob := .dead) (by simp) h
      have hn : Nf S (S.set i .dead) := set_nf S i .dead (by simp)
      have h0 : Ext S (S.set i .dead) X := by
        refine ⟨h.nx, h.same, fun id h1 h2 => ⟨(h.more id h1 h2).1, ?_⟩⟩
        rw [St.get_set]
        split
        · rename_i e; rw [e, hs] at h1; cases h1
        · exact h1
      have h1 : Ext (S.set i .dead) (S.set i .dead) (X.set i .dead) := h0.second hn hp
      exact hp.trans (killAll_mono r _ _ h1) (killAll_nf r _)
    | free =>
      have hx : ∀ x, X.get i ≠ .stale x := by
        intro x hc
        have := (h.more i hs (by rw [hc]; simp)).1
        rw [hc] at this; cases this
      cases hq : X.get i <;> first | exact killAll_mono r _ _ h | exact absurd hq (hx _)
    | dead => rw [h.same i (by rw [hs]; simp), hs]; exact killAll_mono r _ _ h
    | cells _ _ _ => rw [h.same i (by rw [hs]; simp), hs]; exact killAll_mono r _ _ h
    | map _ => rw [h.same i (by rw [hs]; simp), hs]; exact killAll_mono r _ _ h
theorem writeAt_mono {x : V} {vs : List V} (h : writeAt S x vs = some S') (hx : Ext S S' X) : ∃ X', writeAt X x vs = some X' ∧ Post S' X X' := by
  have hnf := writeAt_nf h
  have hxs : Ext S S X := hx.first hnf
  unfold writeAt at h
  split at h
  · rename_i id off
    split at h
    · rename_i l fz anc hs
      split at h
      · rename_i hc
        injection h with h; subst h
        have hX : X.get id = .cells l fz anc := by rw [hx.same id (by rw [hs]; simp), hs]
        refine ⟨(killAll anc X).set id (.cells (over l off vs) fz []), ?_, ?_⟩
        · simp only [writeAt, hX]; rw [if_pos hc]
        · have hp := killAll_mono anc S X hxs
          have hk : (killAll anc S).get id ≠ .free := killAll_nf anc S id (by rw [hs]; simp)
          have h1 : Ext S (killAll anc S) X := hx.first (set_nf _ _ _ (by simp))
          have h2 : Ext (killAll anc S) (killAll anc S) (killAll anc X) := h1.second (killAll_nf anc S) hp
          exact hp.trans (set_mono (by simp) h2) (set_nf _ _ _ (by simp))
      · cases h
    · cases h
  · cases h
theorem srcCells_mono {sz : Nat} {y : V} {r : Nat × List V} (h : srcCells sz S y = some r) (hx : Ext S S' X) : srcCells sz X y = some r := by
  unfold srcCells at h ⊢
  split at h <;> try (exact h)
  · rename_i e id off n
    split at h
    · rename_i l fz anc hs; simp only [hx.same id (by rw [hs]; simp), hs]; exact h
    · rename_i l hs; simp only [hx.same id (by rw [hs]; simp), hs]; exact h
    · cases h
theorem opAppend_mono {ty : TypeId} {x y : V} (h : opAppend P ty x y S = some (v, S')) (hx : Ext S S' X) : ∃ X', opAppend P ty x y X = some (v, X') ∧ Post S' X X' := by
  unfold opAppend at h
  split at h
  rotate_left
  · cases h
  rename_i el hu
  split at h
  · cases h
  rename_i sz hsz
  split at h
  · cases h
  · rename_i l0 hsrc
    have hsx := srcCells_mono hsrc hx
    split at h <;> first
      | (injection h with h; injection h with e1 e2; subst e1; subst e2
         exact ⟨X, by unfold opAppend; simp only [hu, hsz, hsx], .refl hx⟩)
      | cases h
  · rename_i m new hsrc
    have hsx := srcCells_mono hsrc hx
    split at h
    rotate_left
    · cases h
    rename_i hcond
    split at h
    · split at h
      rotate_left
      · cases h
      rename_i hmax
      split at h
      rotate_left
      · cases h
      rename_i i S1 hn
      injection h with h; injection h with e1 e2; subst e1; subst e2
      obtain ⟨X', hxn, hp⟩ := new_mono hn (by simp) hx
      exact ⟨X', by unfold opAppend; simp only [hu, hsz, hsx, if_pos hcond, if_pos hmax, hxn], hp⟩
    · rename_i es id off n
      split at h
      rotate_left
      · cases h
      rename_i l fz anc hs
      split at h
      rotate_left
      · cases h
      rename_i hc2
      split at h
      rotate_left
      · cases h
      rename_i i S1 hn
      injection h with h; injection h with e1 e2; subst e1; subst e2
      have hX : X.get id = .cells l fz anc := by rw [hx.same id (by rw [hs]; simp), hs]
      have n1 : Nf S (S.set id (.stale l)) := set_nf _ _ _ (by simp)
      have n2 : Nf (S.set id (.stale l)) S1 := new_get hn
      have h0 : Ext S S X := hx.first (n1.trans n2)
      have hp := set_mono (i := id) (ob := .stale l) (by simp) h0
      have h1 : Ext (S.set id (.stale l)) S1 (X.set id (.stale l)) := hx.second n1 hp
      obtain ⟨X', hxn, hp2⟩ := new_mono hn (by simp) h1
      exact ⟨X', by unfold opAppend; simp only [hu, hsz, hsx, if_pos hcond, hX, if_pos hc2, hxn], hp.trans hp2 n2⟩
    · cases h

theorem mapCells_mono {x : V} {l : List (V × V)} (h : mapCells S x = some l) (hx : Ext S S' X) : mapCells X x = some l := by
  unfold mapCells at h ⊢
  split at h <;> try (exact h)
  rename_i id
  split at h
  · rename_i l' hs; simp only [hx.same id (by rw [hs]; simp), hs]; exact h
  · cases h
theorem opLookup_mono {ty : TypeId} {x i : V} {ok : Bool} (h : opLookup P ty x i ok S = some v) (hx : Ext S S' X) : opLookup P ty x i ok X = some v := by
  unfold opLookup at h ⊢
  split at h
  · split at h
    · rename_i l hl
      simp only [mapCells_mono hl hx]; exact h
    · cases h
  · cases h
theorem opMapUpdate_mono {ty : TypeId} {m k x : V} (h : opMapUpdate P ty m k x S = some (v, S')) (hx : Ext S S' X) : ∃ X', opMapUpdate P ty m k x X = some (v, X') ∧ Post S' X X' := by
  have hnf := opMapUpdate_nf h
  have hxs : Ext S S X := hx.first hnf
  unfold opMapUpdate at h
  split at h <;> try (cases h; done)
  rename_i id
  split at h <;> try (cases h; done)
  rename_i d el hd
  split at h <;> try (cases h; done)
  rename_i l hs
  split at h <;> try (cases h; done)
  rename_i l' hl
  injection h with h; injection h with e1 e2; subst e1; subst e2
  have hX : X.get id = .map l := by rw [hx.same id (by rw [hs]; simp), hs]
  exact ⟨X.set id (.map l'), by unfold opMapUpdate; simp only [hd, hX, hl], set_mono (by simp) hxs⟩
theorem opCopy_mono {ty : TypeId} {x y : V} (h : opCopy P ty x y S = some (v, S')) (hx : Ext S S' X) : ∃ X', opCopy P ty x y X = some (v, X') ∧ Post S' X X' := by
  unfold opCopy at h
  split at h <;> try (cases h; done)
  rename_i el hu
  split at h <;> try (cases h; done)
  rename_i sz e id off n hsz
  split at h <;> try (cases h; done)
  rename_i y' hc
  split at h <;> try (cases h; done)
  · rename_i l0 hsrc
    injection h with h; injection h with e1 e2; subst e1; subst e2
    exact ⟨X, by unfold opCopy; simp only [hu, hsz, hc, srcCells_mono hsrc hx], .refl hx⟩
  · rename_i k new hsrc
    split at h
    · rename_i S1 hw
      injection h with h; injection h with e1 e2; subst e1; subst e2
      obtain ⟨X', h1, h2⟩ := writeAt_mono hw hx
      exact ⟨X', by unfold opCopy; simp only [hu, hsz, hc, srcCells_mono hsrc hx, h1], h2⟩
    · cases h

theorem look_same {id : Id} (hx : Ext S S' X) (h : (S.get id).look ≠ none) : (X.get id).look = (S.get id).look := by
  rw [hx.same id (fun e => h (by rw [e]; rfl))]
theorem readId_look (hc : clsOf o = .L) (h : evOp P call o t S = some (v, S')) {id : Id} (hr : readId o t = some id) : (S.get id).look ≠ none := by
  cases hop : o.op <;> simp only [clsOf, hop] at hc <;> try (cases hc; done)
  case load ty x =>
    simp only [evOp, hop] at h
    simp only [readId, hop] at hr
    obtain ⟨e1, _⟩ := ret1_eq h
    split at hr
    · rename_i id' off hx
      injection hr with hr; subst hr
      unfold opLoad at e1
      rw [hx] at e1
      simp only [cellsAt] at e1
      intro hn
      cases hs : S.get id' <;> rw [hs] at hn e1 <;> simp [Ob.look] at hn <;> (cases isAggT P ty <;> simp at e1)
    · cases hr
  case convert a b x =>
    simp only [evOp, hop] at h
    simp only [readId, hop] at hr
    obtain ⟨e1, _⟩ := ret1_eq h
    split at hr
    · rename_i e id' off n hx
      injection hr with hr; subst hr
      unfold opConv at e1
      rw [hx] at e1
      intro hn
      have hs : srcCells 1 S (.ref e id' off n) = none := by
        simp only [srcCells]
        cases hs : S.get id' <;> rw [hs] at hn <;> simp [Ob.look] at hn <;> rfl
      have hb : bytesAt S (.ref e id' off n) = none := by simp only [bytesAt]; simp only [hs]
      rw [hb] at e1
      split at e1 <;> try (cases e1; done)
      split at e1 <;> cases e1
    · cases hr
  case call c =>
    cases hcc : c.callee with
    | value x => rw [hcc] at hc; cases hc
    | invoke x m => rw [hcc] at hc; cases hc
    | builtin b =>
      rw [hcc] at hc
      cases b <;> simp only [] at hc <;> try (cases hc; done)
      simp only [evOp, hop, hcc] at h
      simp only [readId, hop] at hr
      split at hr
      · rename_i x hargs
        split at hr
        · rename_i id' hx
          injection hr with hr; subst hr
          rw [hargs] at h
          intro hn
          have hno : opLen (.map id') S = none := by
            simp only [opLen]
            cases hs : S.get id' <;> rw [hs] at hn <;> simp [Ob.look] at hn <;> rfl
          generalize c.argTypes.toList = tys at h
          rcases tys with _ | ⟨ty, _ | ⟨_, _⟩⟩ <;> (try (cases h; done))
          simp only [hx] at h
          split at h <;> try (cases h; done)
          rw [hno] at h; cases h
        · cases hr
      · cases hr

theorem evOp_mono (hcall : CallMono call) (h : evOp P call o t S = some (v, S')) (hx : Ext S S' X) : ∃ X', evOp P call o t X = some (v, X') ∧ Post S' X X' := by
  cases hc : clsOf o with
  | P => obtain ⟨e, h2⟩ := P_spec hc h; subst e; exact ⟨X, h2 X, .refl hx⟩
  | L =>
    obtain ⟨e, h2⟩ := L_spec hc h; subst e
    exact ⟨X, h2 X fun id hr => look_same hx (readId_look hc h hr), .refl hx⟩
  | A =>
    cases hop : o.op <;> simp only [clsOf, hop] at hc <;> try (cases hc; done)
    case alloc ty =>
      simp only [evOp, hop] at h ⊢
      split at h
      · obtain ⟨i, hn, e⟩ := opAlloc_eq h
        obtain ⟨X', hxn, hp⟩ := new_mono hn (by simp) hx
        exact ⟨X', by simp only [opAlloc, hxn, e], hp⟩
      · cases h
    case box ty x =>
      simp only [evOp, hop] at h ⊢
      split at h
      · cases h
      · cases h
      · obtain ⟨i, hn, e⟩ := opAlloc_eq h
        obtain ⟨X', hxn, hp⟩ := new_mono hn (by simp) hx
        exact ⟨X', by simp only [opAlloc, hxn, e], hp⟩
    case buildSlice ty n ps =>
      simp only [evOp, hop] at h ⊢
      split at h
      · split at h
        · split at h
          · rename_i hcc
            split at h
            · obtain ⟨i, hn, e⟩ := opRow_eq h
              obtain ⟨X', hxn, hp⟩ := new_mono hn (by simp) hx
              exact ⟨X', by simp only [if_pos hcc, opRow, hxn, e], hp⟩
            · cases h
          · cases h
        · cases h
      · cases h
    case makeSlice ty l c =>
      simp only [evOp, hop] at h ⊢
      unfold opMakeSlice at h ⊢
      split at h
      · rename_i el hu
        split at h
        · rename_i z sz n m hz hsz hl hc
          split at h
          · rename_i hcc
            obtain ⟨i, hn, e⟩ := opRow_eq h
            obtain ⟨X', hxn, hp⟩ := new_mono hn (by simp) hx
            exact ⟨X', by simp only [if_pos hcc, opRow, hxn, e], hp⟩
          · cases h
        · cases h
      · cases h
    case call c =>
      cases hcc : c.callee with
      | value x => rw [hcc] at hc; cases hc
      | invoke x m => rw [hcc] at hc; cases hc
      | builtin b => rw [hcc] at hc; cases b <;> cases hc
  | E =>
    cases hop : o.op <;> simp only [clsOf, hop] at hc <;> try (cases hc; done)
    case store ty x y =>
      simp only [evOp, hop] at h ⊢
      unfold opStore at h ⊢
      split at h
      · split at h
        · split at h
          · rename_i hcc
            split at h
            · rename_i hw; injection h with h; injection h with e1 e2; subst e1; subst e2
              obtain ⟨X', h1, h2⟩ := writeAt_mono hw hx
              exact ⟨X', by simp only [if_pos hcc, h1], h2⟩
            · cases h
          · cases h
        · cases h
      · split at h
        · rename_i hcc
          split at h
          · rename_i hw; injection h with h; injection h with e1 e2; subst e1; subst e2
            obtain ⟨X', h1, h2⟩ := writeAt_mono hw hx
            exact ⟨X', by simp only [if_pos hcc, h1], h2⟩
          · cases h
        · cases h
      · cases h
    case call c =>
      simp only [evOp, hop] at h ⊢
      cases hcc : c.callee with
      | invoke r m => rw [hcc] at h; cases h
      | value x =>
        rw [hcc] at h
        simp only [] at h ⊢
        split at h
        · exact hcall _ _ _ _ _ h X hx
        · cases h
      | builtin b =>
        rw [hcc] at h hc
        cases b <;> simp only [] at h hc ⊢ <;> try (first | (cases h; done) | (cases hc; done))
        case append =>
          split at h
          · split at h
            · cases h
            · obtain ⟨X', h1, h2⟩ := opAppend_mono h hx
              exact ⟨X', h1, h2⟩
            · cases h
          · cases h
        case copy =>
          split at h
          · exact opCopy_mono h hx
          · cases h
    case makeMap ty r =>
      simp only [evOp, hop] at h ⊢
      cases r <;> simp only [] at h ⊢ <;> try (cases h; done)
      unfold opMakeMap at h ⊢
      split at h
      · rename_i i S1 hn; injection h with h; injection h with e1 e2; subst e1; subst e2
        obtain ⟨X', hxn, hp⟩ := new_mono hn (by simp) hx
        exact ⟨X', by simp only [hxn], hp⟩
      · cases h
    case lookup ty x i ok =>
      simp only [evOp, hop] at h ⊢
      obtain ⟨e1, e2⟩ := ret1_eq h
      subst e2
      exact ⟨X, by rw [opLookup_mono e1 hx]; rfl, .refl hx⟩
    case mapUpdate ty m k x =>
      simp only [evOp, hop] at h ⊢
      exact opMapUpdate_mono h hx
    all_goals (simp only [evOp, hop] at h; try (cases h; done))
theorem evOps_mono (hcall : CallMono call) (hnf : CallNf call) : ∀ (l : List Oper) {t : Tm} {S X : St}, evOps P nt call ops l t S = some (t', S') → Ext S S' X → ∃ X', evOps P nt call ops l t X = some (t', X') ∧ Post S' X X'
  | [], t, S, X, h, hx => by
    simp only [evOps, Option.some.injEq, Prod.mk.injEq] at h ⊢
    obtain ⟨e1, e2⟩ := h; subst e1; subst e2; exact ⟨X, ⟨rfl, rfl⟩, .refl hx⟩
  | o :: r, t, S, X, h, hx => by
    unfold evOps at h ⊢
    split at h
    · rename_i hw
      split at h
      · rename_i v S1 he
        have n1 := evOp_nf hnf he
        have n2 := evOps_nf hnf r h
        obtain ⟨X1, h1, p1⟩ := evOp_mono hcall he (hx.first n2)
        obtain ⟨X2, h2, p2⟩ := evOps_mono hcall hnf r h (hx.second n1 p1)
        exact ⟨X2, by simp only [h1, h2], p1.trans p2 n2⟩
      · cases h
    · rename_i hw
      obtain ⟨X2, h2, p2⟩ := evOps_mono hcall hnf r h hx
      exact ⟨X2, by simp only [h2], p2⟩
    · cases h
variable (P) in
def OkMono (okR : CallF → Nat → Array Oper → Tm → St → Prop) : Prop :=
  ∀ (call : CallF), CallMono call → CallNf call → ∀ (nt : Nat) (ops : Array Oper) (t t' : Tm) (S S' X : St), okR call nt ops t S → evOps P nt call ops ops.toList t S = some (t', S') → Ext S S' X → okR call nt ops t X
theorem evC_mono {okR : CallF → Nat → Array Oper → Tm → St → Prop} (hok : OkMono P okR) (hcall : CallMono call) (hnf : CallNf call) {n : Nat} : ∀ (c : Code) {t : Tm} {S X : St} {s : Sig} {t' : Tm} {S' : St},
    evC P okR nt call n c t S = some (s, t', S') → Ext S S' X → ∃ X', evC P okR nt call n c t X = some (s, t', X') ∧ Post S' X X'
  | .skip, t, S, X, s, t', S', h, hx => by simp only [evC, Option.some.injEq, Prod.mk.injEq] at h ⊢; obtain ⟨e1, e2, e⟩ := h; subst e; exact ⟨X, ⟨e1, e2, rfl⟩, .refl hx⟩
  | .exit _, t, S, X, s, t', S', h, hx => by simp only [evC, Option.some.injEq, Prod.mk.injEq] at h ⊢; obtain ⟨e1, e2, e⟩ := h; subst e; exact ⟨X, ⟨e1, e2, rfl⟩, .refl hx⟩
  | .ret, t, S, X, s, t', S', h, hx => by simp only [evC, Option.some.injEq, Prod.mk.injEq] at h ⊢; obtain ⟨e1, e2, e⟩ := h; subst e; exact ⟨X, ⟨e1, e2, rfl⟩, .refl hx⟩
  | .region _ ops draw, t, S, X, s, t', S', h, hx => by
    simp only [evC] at h ⊢
    split at h
    · cases h
    · rename_i hd
      split at h
      · rename_i t1 S1 he
        simp only [Option.some.injEq, Prod.mk.injEq] at h; obtain ⟨e1, e2, e⟩ := h; subst e1; subst e2; subst e
        obtain ⟨X', h1, h2⟩ := evOps_mono hcall hnf _ he hx
        refine ⟨X', ?_, h2⟩
        rw [if_neg]
        · rw [h1]
        · rintro ⟨hdr, hno⟩
          refine hno (hok call hcall hnf nt ops t _ S _ X ?_ he hx)
          exact Classical.byContradiction fun hc => hd ⟨hdr, hc⟩
      · cases h
  | .seq a b, t, S, X, s, t', S', h, hx => by
    simp only [evC] at h ⊢
    split at h
    · rename_i ops l1 l2 ha
      obtain ⟨t1, A, u, B, ta, Aa, tb, Bb, e1, e2, h1, h2, hm, e3, e4, e5⟩ := amb2_eq h
      subst e3; subst e4; subst e5
      have n1 := evC_nf hnf b h1
      have n2 := evC_nf hnf b h2
      have xa : Ext S Aa X := ⟨hx.nx, hx.same, fun id g1 g2 => ⟨(hx.more id g1 g2).1, (mergeS_free hm id).1 (hx.more id g1 g2).2⟩⟩
      have xb : Ext S Bb X := ⟨hx.nx, hx.same, fun id g1 g2 => ⟨(hx.more id g1 g2).1, (hm.2 id).1.1 ((mergeS_free hm id).1 (hx.more id g1 g2).2)⟩⟩
      obtain ⟨X1, q1, p1⟩ := evOps_mono hcall hnf _ e1 (xa.first n1)
      obtain ⟨Xa, q2, p2⟩ := evC_mono hok hcall hnf b h1 (xa.second (evOps_nf hnf _ e1) p1)
      obtain ⟨X2, q3, p3⟩ := evOps_mono hcall hnf _ e2 (xb.first n2)
      obtain ⟨Xb, q4, p4⟩ := evC_mono hok hcall hnf b h2 (xb.second (evOps_nf hnf _ e2) p3)
      have pa := p1.trans p2 n1
      have pb := p3.trans p4 n2
      have key : ∀ id, (Aa.get id = .free ∧ Bb.get id = .free ∧ Xa.get id = X.get id ∧ Xb.get id = X.get id) ∨ (Aa.get id ≠ .free ∧ Xa.get id = Aa.get id ∧ Xb.get id = Bb.get id) := by
        intro id
        by_cases hf : Aa.get id = .free
        · have hf2 := (hm.2 id).1.1 hf
          exact .inl ⟨hf, hf2, pa.more id hf, pb.more id hf2⟩
        · exact .inr ⟨hf, pa.same id hf, pb.same id fun e => hf ((hm.2 id).1.2 e)⟩
      have hmX : MergeOK X Xa Xb := by
        refine ⟨by rw [pa.nx, pb.nx, hm.1], fun id => ?_⟩
        rcases key id with ⟨f1, f2, g1, g2⟩ | ⟨f1, g1, g2⟩
        · rw [g1, g2]; exact ⟨Iff.rfl, fun _ => Iff.rfl⟩
        · rw [g1, g2]
          refine ⟨(hm.2 id).1, fun hl => ?_⟩
          by_cases hs : S.get id = .free
          · by_cases hX : X.get id = .free
            · rw [hX] at hl; cases hl
            · exact absurd ((mergeS_free hm id).1 (hx.more id hs hX).2) f1
          · rw [hx.same id hs] at hl ⊢
            exact (hm.2 id).2 hl
      refine ⟨mergeS Xa Xb, ?_, ⟨by simp only [mergeS]; exact pa.nx, fun id hid => ?_, fun id hid => ?_⟩⟩
      · simp only [ha, q1, q3, amb2, q2, q4, merge2, if_pos hmX]
      · have hne : Aa.get id ≠ .free := fun e => hid ((mergeS_free hm id).2 e)
        rcases key id with ⟨f1, _⟩ | ⟨_, g1, g2⟩
        · exact absurd f1 hne
        · show mergeOb (Xa.get id) (Xb.get id) = mergeOb (Aa.get id) (Bb.get id)
          rw [g1, g2]
      · have hf := (mergeS_free hm id).1 hid
        rcases key id with ⟨_, _, g1, g2⟩ | ⟨f1, _⟩
        · show mergeOb (Xa.get id) (Xb.get id) = _
          rw [g1, g2, mergeOb_self]
        · exact absurd hf f1
    · rename_i ha
      split at h
      · rename_i t1 S1 h1
        have n1 := evC_nf hnf a h1
        have n2 := evC_nf hnf b h
        obtain ⟨X1, q1, p1⟩ := evC_mono hok hcall hnf a h1 (hx.first n2)
        obtain ⟨X2, q2, p2⟩ := evC_mono hok hcall hnf b h (hx.second n1 p1)
        exact ⟨X2, by simp only [q1, q2], p1.trans p2 n2⟩
      · rename_i hn
        obtain ⟨X1, q1, p1⟩ := evC_mono hok hcall hnf a h hx
        refine ⟨X1, ?_, p1⟩
        rw [q1]
        cases s with
        | norm => exact absurd h (hn _ _)
        | exit _ => rfl
        | ret => rfl
  | .cond c a b, t, S, X, s, t', S', h, hx => by
    simp only [evC] at h ⊢
    split at h
    · exact evC_mono hok hcall hnf a h hx
    · exact evC_mono hok hcall hnf b h hx
    · cases h
  | .block id b, t, S, X, s, t', S', h, hx => by
    simp only [evC] at h ⊢
    split at h
    · rename_i i t1 S1 h1
      split at h
      · rename_i hi
        simp only [Option.some.injEq, Prod.mk.injEq] at h; obtain ⟨e1, e2, e⟩ := h; subst e1; subst e2; subst e
        obtain ⟨X1, q1, p1⟩ := evC_mono hok hcall hnf b h1 hx
        exact ⟨X1, by simp only [q1, if_pos hi], p1⟩
      · rename_i hi
        simp only [Option.some.injEq, Prod.mk.injEq] at h; obtain ⟨e1, e2, e⟩ := h; subst e1; subst e2; subst e
        obtain ⟨X1, q1, p1⟩ := evC_mono hok hcall hnf b h1 hx
        exact ⟨X1, by simp only [q1, if_neg hi], p1⟩
    · rename_i hn
      obtain ⟨X1, q1, p1⟩ := evC_mono hok hcall hnf b h hx
      refine ⟨X1, ?_, p1⟩
      rw [q1]
      cases s with
      | norm => rfl
      | exit _ => exact absurd h (hn _ _ _)
      | ret => rfl
  | .loop b, t, S, X, s, t', S', h, hx => by
    simp only [evC] at h ⊢
    suffices hl : ∀ (k : Nat) {t : Tm} {S X : St} {s : Sig} {t' : Tm} {S' : St}, loopN (evC P okR nt call n b) k t S = some (s, t', S') → Ext S S' X → ∃ X', loopN (evC P okR nt call n b) k t X = some (s, t', X') ∧ Post S' X X' from hl n h hx
    have hlnf : ∀ (k : Nat) {t : Tm} {S : St} {s : Sig} {t' : Tm} {S' : St}, loopN (evC P okR nt call n b) k t S = some (s, t', S') → Nf S S' := by
      intro k
      induction k with
      | zero => intro t S s t' S' h; cases h
      | succ k ih =>
        intro t S s t' S' h
        simp only [loopN] at h
        split at h
        · rename_i h1; exact (evC_nf hnf b h1).trans (ih h)
        · exact evC_nf hnf b h
    intro k
    induction k with
    | zero => intro t S X s t' S' h; cases h
    | succ k ih =>
      intro t S X s t' S' h hx
      simp only [loopN] at h ⊢
      split at h
      · rename_i t1 S1 h1
        have n1 := evC_nf hnf b h1
        have n2 := hlnf k h
        obtain ⟨X1, q1, p1⟩ := evC_mono hok hcall hnf b h1 (hx.first n2)
        obtain ⟨X2, q2, p2⟩ := ih h (hx.second n1 p1)
        exact ⟨X2, by simp only [q1, q2], p1.trans p2 n2⟩
      · rename_i hn
        obtain ⟨X1, q1, p1⟩ := evC_mono hok hcall hnf b h hx
        refine ⟨X1, ?_, p1⟩
        rw [q1]
        cases s with
        | norm => exact absurd h (hn _ _)
        | exit _ => rfl
        | ret => rfl
  | .rangeFunc _ _ _ _, t, S, X, s, t', S', h, hx => by simp [evC] at h
  | .scope _, t, S, X, s, t', S', h, hx => by simp [evC] at h
  | .label _, t, S, X, s, t', S', h, hx => by simp [evC] at h
  | .goto _, t, S, X, s, t', S', h, hx => by simp [evC] at h
  | .refuse _, t, S, X, s, t', S', h, hx => by simp [evC] at h
theorem evRes_mono (hx : Ext S S X) : ∀ (l : List ResultVar) {vs : List V}, evRes P t S l = some vs → evRes P t X l = some vs
  | [], vs, h => h
  | .tmp i :: r, vs, h => by
    simp only [evRes] at h ⊢
    split at h
    · rename_i us hr
      rw [evRes_mono hx r hr]; exact h
    · cases h
  | .cell x ty :: r, vs, h => by
    simp only [evRes] at h ⊢
    split at h
    · rename_i v us hv hr
      rw [evRes_mono hx r hr]
      have : opLoad P ty (t x) X = some v := by
        rw [← hv]
        unfold opLoad
        cases hq : t x with
        | ptr id off =>
          have : cellsAt X (.ptr id off) = cellsAt S (.ptr id off) := by
            refine cellsAt_look fun i o e => ?_
            injection e with e1 e2; subst e1
            refine look_same hx fun hn => ?_
            rw [hq] at hv
            unfold opLoad at hv
            have hnone : cellsAt S (.ptr id off) = none := by
              unfold cellsAt
              cases hs : S.get id <;> rw [hs] at hn <;> simp [Ob.look] at hn <;> simp [hs]
            rw [hnone] at hv
            cases hq : isAggT P ty with
            | none => rw [hq] at hv; cases hv
            | some b => rw [hq] at hv; cases b <;> cases hv
          rw [this]
        | _ => rfl
      rw [this]; exact h
    · cases h
theorem AskMono.ans {base : AskF} (h : AskMono base) : CallMono (ansOf base) := by
  intro f args S r S' he X hx
  simp only [ansOf] at he ⊢
  split at he
  · rename_i r0 h0
    subst he
    obtain ⟨X', h1, h2⟩ := h f args S r S' h0 X hx
    exact ⟨X', by rw [h1], h2⟩
  · cases he
theorem callN_mono {base : AskF} (hb : CallNf (ansOf base)) (hbm : AskMono base) (hbs : AskSame base) {okR : CallF → Nat → Array Oper → Tm → St → Prop} (hok : OkMono P okR) : ∀ (n : Nat), CallMono (callN P base okR n)
  | 0 => fun f args S r S' h X hx => hbm.ans f args S r S' h X hx
  | n + 1 => fun f args S r S' h X hx => by
    simp only [callN] at h ⊢
    split at h
    · rename_i r0 h0
      subst h
      obtain ⟨X', h1, h2⟩ := hbm f args S r S' h0 X hx
      exact ⟨X', by rw [h1], h2⟩
    · rename_i h0
      rw [hbs f args S S' X h0 hx]
      simp only []
      split at h
      · cases h
      · split at h
        · cases h
        · split at h
          · cases h
          · rename_i hc
            simp only [if_neg hc]
            split at h
            · cases h
            · cases h
            · rename_i s t1 S1 hs he
              split at h
              · rename_i vs hres
                injection h with h; injection h with e1 e2; subst e1; subst e2
                obtain ⟨X1, q1, p1⟩ := evC_mono hok (callN_mono hb hbm hbs hok n) (callN_nf hb n) _ he hx
                have hx1 : Ext S1 S1 X1 := hx.second (evC_nf (callN_nf hb n) _ he) p1
                refine ⟨X1, ?_, p1⟩
                rw [q1]
                cases s with
                | exit id => exact (hs id rfl).elim
                | norm => simp only [evRes_mono hx1 _ hres]
                | ret => simp only [evRes_mono hx1 _ hres]
              · cases h
end
end Go.Vm

namespace Go.Vm
variable [Gl]
open Go.RowKit

/-- The frame. -/
structure TmRel (Γ : Ctx) (nt : Nat) (t : Tm) (a : Act) : Prop where
  size : a.tmps.size = nt
  rel : TR Γ t a
  defers : a.defers = []

section
variable {P : Program} {Γ Γ' : Ctx} {S S' : St} {w w' : World} {t t' : Tm} {a : Act} {o : Oper} {v : V} {call : CallF} {nt : Nat} {ops : Array Oper}

theorem TmRel.mono (h : TmRel Γ nt t a) (hle : Γ.le Γ') : TmRel Γ' nt t a := ⟨h.size, ⟨fun i => (h.rel.tmp i).mono hle, fun g => (h.rel.glb g).mono hle⟩, h.defers⟩
theorem TmRel.put (h : TmRel Γ nt t a) (d : Option Nat) {v : V} {u : Value} (hr : Rel Γ v u) : TmRel Γ nt (putT nt t d v) (a.put d u) := by
  cases d with
  | none => exact h
  | some d =>
    refine ⟨by simp [Act.put, h.size], ⟨fun i => ?_, h.rel.glb⟩, h.defers⟩
    simp only [putT, Act.put]
    by_cases hd : d < nt
    · rw [if_pos hd]
      by_cases hi : i = d
      · subst hi
        simp only [if_true]
        have : (a.tmps.setIfInBounds i u).getD i undef = u := by
          simp [Array.getD_eq_getD_getElem?, Array.getElem?_setIfInBounds, h.size, hd]
        rw [this]; exact hr
      · rw [if_neg hi]
        have : (a.tmps.setIfInBounds d u).getD i undef = a.tmps.getD i undef := by
          simp [Array.getD_eq_getD_getElem?, Array.getElem?_setIfInBounds_ne (Ne.symm hi)]
        rw [this]; exact h.rel.tmp i
    · rw [if_neg hd]
      have : a.tmps.setIfInBounds d u = a.tmps := by
        rw [Array.setIfInBounds_eq_of_size_le (by rw [h.size]; omega)]
      rw [this]; exact h.rel.tmp i

theorem wanted_rel (h : TmRel Γ nt t a) {b : Bool} (hw : wanted ops o t = some b) : Region.wanted o (yielded ops a.tmps) = b := by
  unfold wanted at hw
  unfold Region.wanted
  cases hg : o.guard with
  | none => rw [hg] at hw; simpa using hw
  | some p =>
    obtain ⟨j, want⟩ := p
    rw [hg] at hw
    simp only [] at hw ⊢
    split at hw
    · rename_i d hd
      split at hw
      · rename_i c hc
        injection hw with hw; subst hw
        have hr := h.rel.tmp d
        rw [hc] at hr
        generalize hu : a.tmps.getD d undef = u at hr
        cases hr
        have hy : yielded ops a.tmps j = some c := by
          unfold yielded
          rw [hd]
          have : a.tmps[d]? = some (.bool c) := by
            rw [Array.getD_eq_getD_getElem?] at hu
            cases hq : a.tmps[d]? with
            | none => rw [hq] at hu; cases hu
            | some x => rw [hq] at hu; simp at hu; rw [hu]
          simp [this]
        rw [hy]
        cases c <;> cases want <;> rfl
      · rename_i vs hc
        injection hw with hw; subst hw
        have hr := h.rel.tmp d
        rw [hc] at hr
        generalize hu : a.tmps.getD d undef = u at hr
        cases hr
        rename_i arr harr
        have hy : yielded ops a.tmps j = none := by
          unfold yielded
          rw [hd]
          cases hq : a.tmps[d]? with
          | none => simp [hq]
          | some x =>
            rw [Array.getD_eq_getD_getElem?, hq] at hu
            simp at hu
            simp [hq, hu]
        rw [hy]
        rfl
      · cases hw
    · cases hw

/-- One operation of a region. -/
theorem wpOp_sound (hcall : CallOK P call) {i : Nat} (hi : ops[i]? = some o) (hm : Mem Γ S w) (ht : TmRel Γ nt t a) {rn : Option Nat} {Q : Exit → Act → World → Prop} {K : Act → World → Prop} {b : Bool} (hw : wanted ops o t = some b)
    (h : if b then evOp P call o t S = some (v, S') else (v = .un ∧ S' = S))
    (hK : ∀ Γ' a' w', Step Γ S w Γ' S' w' → TmRel Γ' nt (putT nt t o.dst v) a' → K a' w') : wpOpIn (Wr rn) 0 P ops Q i K a w := by
  unfold wpOpIn
  rw [hi]
  have hww := wanted_rel (ops := ops) ht hw
  simp only [hww]
  cases b with
  | true =>
    simp only [if_true] at h ⊢
    exact op_sound hcall h hm ht.rel fun Γ' u w' hst hr => hK Γ' _ w' hst ((ht.mono hst.le).put _ hr)
  | false =>
    simp only [if_false, Bool.false_eq_true] at h ⊢
    obtain ⟨e1, e2⟩ := h
    subst e1; subst e2
    exact ⟨fun _ _ => trivial, hK Γ _ w (.refl hm) (ht.put _ (.tup _ _ .nil))⟩

theorem evOps_cons_eq {r : List Oper} {q : Option (Tm × St)} (h : evOps P nt call ops (o :: r) t S = q) {z : Tm × St} (hq : q = some z) :
    ∃ b v S1, wanted ops o t = some b ∧ (if b then evOp P call o t S = some (v, S1) else (v = .un ∧ S1 = S)) ∧ evOps P nt call ops r (putT nt t o.dst v) S1 = some z := by
  subst hq
  unfold evOps at h
  split at h
  · rename_i hw
    split at h
    · rename_i v S1 he; exact ⟨true, v, S1, hw, by simpa using he, h⟩
    · cases h
  · rename_i hw; exact ⟨false, .un, S, hw, by simp, h⟩
  · cases h

theorem region_sound (hcall : CallOK P call) {rn : Option Nat} {Q : Exit → Act → World → Prop} : ∀ (l : List Oper) (k : Nat) {Γ : Ctx} {t : Tm} {S : St} {a : Act} {w : World} {t' : Tm} {S' : St}, (∀ j, l[j]? = ops[k + j]?) → k + l.length = ops.size →
    evOps P nt call ops l t S = some (t', S') → Mem Γ S w → TmRel Γ nt t a → (∀ Γ' a' w', Step Γ S w Γ' S' w' → TmRel Γ' nt t' a' → Q .normal a' w') →
    wpOpsIn (Wr rn) 0 P ops Q (List.range' k l.length) a w
  | [], k, Γ, t, S, a, w, t', S', _, _, h, hm, ht, hQ => by
    simp only [evOps, Option.some.injEq, Prod.mk.injEq] at h
    obtain ⟨e1, e2⟩ := h; subst e1; subst e2
    simp only [List.length_nil, List.range'_zero, wpOpsIn]
    exact hQ Γ a w (.refl hm) ht
  | o :: r, k, Γ, t, S, a, w, t', S', hl, hsz, h, hm, ht, hQ => by
    obtain ⟨b, v, S1, hw, he, hr⟩ := evOps_cons_eq h rfl
    have hi : ops[k]? = some o := by rw [← Nat.add_zero k, ← hl 0]; rfl
    simp only [List.length_cons, List.range'_succ]
    rw [wpOpsIn_cons]
    refine wpOp_sound hcall hi hm ht hw he fun Γ1 a1 w1 hst htr => ?_
    refine region_sound hcall r (k + 1) (fun j => ?_) (by simp at hsz; omega) hr hst.mem htr fun Γ2 a2 w2 hst2 htr2 => hQ Γ2 a2 w2 (hst.trans hst2) htr2
    have := hl (j + 1)
    simp only [List.getElem?_cons_succ] at this
    rw [this]; congr 1; omega

/-! ### a drawn bool -/
/-- Less is known: the object is dead, or has more elders. -/
def Weak (a b : Ob) : Prop := b = a ∨ b = .dead ∨ ∃ l fz anc anc', a = .cells l fz anc ∧ b = .cells l fz anc' ∧ ∀ x ∈ anc, x ∈ anc'
theorem Weak.live {a b : Ob} (h : Weak a b) (hl : b.live = true) : a.live = true := by
  rcases h with e | e | ⟨l, fz, anc, anc', e1, e2, _⟩
  · rw [← e]; exact hl
  · rw [e] at hl; cases hl
  · rw [e1]; rfl
theorem Weak.cells {a b : Ob} (h : Weak a b) {l : List V} {fz : Nat} {anc : List Id} (hb : b = .cells l fz anc) : ∃ anc0, a = .cells l fz anc0 ∧ ∀ x ∈ anc0, x ∈ anc := by
  rcases h with e | e | ⟨l', fz', anc1, anc', e1, e2, e3⟩
  · exact ⟨anc, by rw [← e]; exact hb, fun _ h => h⟩
  · rw [e] at hb; cases hb
  · rw [e2] at hb; injection hb with h1 h2 h3; subst h1; subst h2; subst h3; exact ⟨anc1, e1, e3⟩
theorem Weak.stale {a b : Ob} (h : Weak a b) {l : List V} (hb : b = .stale l) : a = .stale l := by
  rcases h with e | e | ⟨l', fz', anc1, anc', e1, e2, e3⟩
  · rw [← e]; exact hb
  · rw [e] at hb; cases hb
  · rw [e2] at hb; cases hb
theorem Weak.map {a b : Ob} (h : Weak a b) {l : List (V × V)} (hb : b = .map l) : a = .map l := by
  rcases h with e | e | ⟨l', fz', anc1, anc', e1, e2, e3⟩
  · rw [← e]; exact hb
  · rw [e] at hb; cases hb
  · rw [e2] at hb; cases hb
theorem Mem.weaken {S1 S2 : St} (h : Mem Γ S1 w) (hs : ∀ id, Weak (S1.get id) (S2.get id)) : Mem Γ S2 w where
  glb := h.glb
  fro := h.fro
  lt := h.lt
  alive id b hb := by
    rcases hs id with e | e | ⟨l, fz, anc, anc', e1, e2, _⟩
    · rw [e]; exact h.alive id b hb
    · rw [e]; nofun
    · rw [e2]; nofun
  row id b l fz anc hb he := by obtain ⟨anc0, e, _⟩ := (hs id).cells he; exact h.row id b l fz anc0 hb e
  frz id b l fz anc hb he := by obtain ⟨anc0, e, _⟩ := (hs id).cells he; exact h.frz id b l fz anc0 hb e
  old id b l hb he := h.old id b l hb ((hs id).stale he)
  one id id' b h1 h2 h3 h4 := h.one id id' b h1 h2 ((hs id).live h3) ((hs id').live h4)
  anc id b l fz anc id' l' h1 h2 h3 h4 := by
    obtain ⟨anc0, e, hsub⟩ := (hs id).cells h2
    obtain ⟨g1, g2⟩ := h.anc id b l fz anc0 id' l' h1 e h3 ((hs id').stale h4)
    exact ⟨hsub _ g1, g2⟩
  map id b l hb he := h.map id b l hb ((hs id).map he)
  mst id id' b l l' h1 h2 h3 h4 := h.mst id id' b l l' h1 ((hs id).map h2) h3 ((hs id').stale h4)
theorem Step.weaken {S1 S2 : St} (h : Step Γ S w Γ' S1 w') (hs : ∀ id, Weak (S1.get id) (S2.get id)) (hp : ∀ id, (S.get id).live = true → S1.get id = S.get id → S2.get id = S1.get id) : Step Γ S w Γ' S2 w' where
  le := h.le
  mem := h.mem.weaken hs
  os := h.os
  tape := h.tape
  output := h.output
  size := h.size
  frame := h.frame
  pend id h1 h2 := by
    obtain ⟨e1, e2⟩ := h.pend id h1 h2
    exact ⟨by rw [hp id h2 e1, e1], e2⟩
  own id b h1 hb := by
    rcases h.own id b h1 hb with ⟨e1, e2⟩ | e
    · exact .inl ⟨e1, fun hl => e2 ((hs id).live hl)⟩
    · exact .inr e
  mu := h.mu
  fz := h.fz
theorem live_eq (o : Ob) : o.isLive = o.live := by cases o <;> rfl
theorem merge_left {A B : St} (hm : MergeOK S A B) (id : Id) : Weak (A.get id) ((mergeS A B).get id) ∧ ((S.get id).live = true → A.get id = S.get id → (mergeS A B).get id = A.get id) := by
  refine ⟨?_, fun hl he => ?_⟩
  · simp only [mergeS, mergeOb]; split
    · exact .inl rfl
    · rcases mergeD_cases (A.get id) (B.get id) with e | ⟨l, fz, anc, anc', e1, _, e⟩
      · exact .inr (.inl e)
      · exact .inr (.inr ⟨l, fz, anc, anc ++ anc', e1, e, fun x h => List.mem_append_left _ h⟩)
  · have hb := ((hm.2 id).2 (by rw [live_eq]; exact hl)).1 he
    simp only [mergeS, mergeOb]
    rw [if_pos (by rw [he, hb])]
theorem merge_right {A B : St} (hm : MergeOK S A B) (id : Id) : Weak (B.get id) ((mergeS A B).get id) ∧ ((S.get id).live = true → B.get id = S.get id → (mergeS A B).get id = B.get id) := by
  refine ⟨?_, fun hl he => ?_⟩
  · simp only [mergeS, mergeOb]; split
    · rename_i e; exact .inl e
    · rcases mergeD_cases (A.get id) (B.get id) with e | ⟨l, fz, anc, anc', _, e1, e⟩
      · exact .inr (.inl e)
      · exact .inr (.inr ⟨l, fz, anc', anc ++ anc', e1, e, fun x h => List.mem_append_right _ h⟩)
  · have ha := ((hm.2 id).2 (by rw [live_eq]; exact hl)).2 he
    simp only [mergeS, mergeOb]
    rw [if_pos (by rw [he, ha]), ha, he]
theorem TmRel.weaken {t u : Tm} (h : TmRel Γ nt t a) (hs : ∀ i, u i = t i ∨ u i = .any) : TmRel Γ nt u a :=
  ⟨h.size, ⟨fun i => by
    rcases hs i with e | e
    · rw [e]; exact h.rel.tmp i
    · rw [e]; exact .any _, h.rel.glb⟩, h.defers⟩
theorem mergeT_left (t u : Tm) (i : Nat) : mergeT t u i = t i ∨ mergeT t u i = .any := by
  simp only [mergeT]; split
  · exact .inl rfl
  · exact .inr rfl
theorem mergeT_right (t u : Tm) (i : Nat) : mergeT t u i = u i ∨ mergeT t u i = .any := by
  simp only [mergeT]; split
  · rename_i e; exact .inl e
  · exact .inr rfl

theorem bindOn_mem {o : Oper} {i : Nat} : i ∈ bindOn o ↔ ∃ e ∈ o.after, Region.binds .any e = true ∧ e.on = i := by
  simp only [bindOn, List.mem_map, List.mem_filter]
  constructor
  · rintro ⟨e, ⟨h1, h2⟩, h3⟩; exact ⟨e, by simpa using h1, h2, h3⟩
  · rintro ⟨e, h1, h2, h3⟩; exact ⟨e, ⟨by simpa using h1, h2⟩, h3⟩
/-- The region's runs: in the one order or in the other. -/
theorem amb_region (hcall : CallOK P call) {rn : Option Nat} {Q : Exit → Act → World → Prop} {o0 o1 o2 o3 : Oper} (hops : ops.toList = [o0, o1, o2, o3]) (hb : ambB o0 o1 o2 o3 = true) {t1 t2 : Tm} {S1 S2 : St}
    (h1 : evOps P nt call ops [o0, o1, o2, o3] t S = some (t1, S1)) (h2 : evOps P nt call ops [o0, o2, o1, o3] t S = some (t2, S2)) (hm : Mem Γ S w) (ht : TmRel Γ nt t a)
    (hQ1 : ∀ Γ' a' w', Step Γ S w Γ' S1 w' → TmRel Γ' nt t1 a' → Q .normal a' w') (hQ2 : ∀ Γ' a' w', Step Γ S w Γ' S2 w' → TmRel Γ' nt t2 a' → Q .normal a' w') :
    wpAnyIn (Wr rn) 0 P .any ops Q ops.size (Array.replicate ops.size false) a w := by
  have hsz : ops.size = 4 := by rw [← Array.length_toList, hops]; rfl
  have g0 : ops[0]? = some o0 := by rw [← Array.getElem?_toList, hops]; rfl
  have g1 : ops[1]? = some o1 := by rw [← Array.getElem?_toList, hops]; rfl
  have g2 : ops[2]? = some o2 := by rw [← Array.getElem?_toList, hops]; rfl
  have g3 : ops[3]? = some o3 := by rw [← Array.getElem?_toList, hops]; rfl
  have glt : ∀ {j : Nat} {o : Oper}, ops[j]? = some o → j < 4 := fun h => by have := (Array.getElem?_eq_some_iff.1 h).1; omega
  simp only [ambB, Bool.and_eq_true, List.isEmpty_iff, Bool.not_eq_true', List.all_eq_true, beq_iff_eq, decide_eq_true_eq, List.contains_eq_mem, decide_eq_true_eq] at hb
  obtain ⟨⟨⟨b0, b1a, b1⟩, b2a, b2⟩, ⟨b31, b32⟩, b3⟩ := hb
  have w1 : ∃ e ∈ o1.after, Region.binds .any e = true ∧ e.on = 0 := by
    cases hq : bindOn o1 with
    | nil => rw [hq] at b1a; cases b1a
    | cons x r => have hx := b1 x (by rw [hq]; simp); exact bindOn_mem.1 (by rw [hq, ← hx]; simp)
  have w2 : ∃ e ∈ o2.after, Region.binds .any e = true ∧ e.on = 0 := by
    cases hq : bindOn o2 with
    | nil => rw [hq] at b2a; cases b2a
    | cons x r => have hx := b2 x (by rw [hq]; simp); exact bindOn_mem.1 (by rw [hq, ← hx]; simp)
  have w31 := bindOn_mem.1 b31
  have w32 := bindOn_mem.1 b32
  -- what can be taken behind what has been taken
  have rdy : ∀ (l : Array Bool) (j : Nat), j ∈ Region.ready .any ops l ↔ l.getD j true = false ∧ ∃ o, ops[j]? = some o ∧ ∀ i ∈ bindOn o, l.getD i false = true := by
    intro l j
    rw [mem_ready]
    constructor
    · rintro ⟨x, o, y, z⟩
      exact ⟨x, o, y, fun i hi => by obtain ⟨e, e1, e2, e3⟩ := bindOn_mem.1 hi; rw [← e3]; exact z e e1 e2⟩
    · rintro ⟨x, o, y, z⟩
      exact ⟨x, o, y, fun e e1 e2 => z e.on (bindOn_mem.2 ⟨e, e1, e2, rfl⟩)⟩
  have ready : ∀ (b0' b1' b2' b3' : Bool) (j : Nat), j ∈ Region.ready .any ops #[b0', b1', b2', b3'] ↔
      (j = 0 ∧ b0' = false) ∨ (j = 1 ∧ b1' = false ∧ b0' = true) ∨ (j = 2 ∧ b2' = false ∧ b0' = true) ∨ (j = 3 ∧ b3' = false ∧ ∀ i ∈ bindOn o3, (#[b0', b1', b2', b3'] : Array Bool).getD i false = true) := by
    intro c0 c1 c2 c3 j
    rw [rdy]
    constructor
    · rintro ⟨x, o, y, z⟩
      have := glt y
      match j, this with
      | 0, _ => exact .inl ⟨rfl, by simpa using x⟩
      | 1, _ =>
        rw [g1] at y; injection y with y; subst y
        exact .inr (.inl ⟨rfl, by simpa using x, by simpa using z 0 (bindOn_mem.2 w1)⟩)
      | 2, _ =>
        rw [g2] at y; injection y with y; subst y
        exact .inr (.inr (.inl ⟨rfl, by simpa using x, by simpa using z 0 (bindOn_mem.2 w2)⟩))
      | 3, _ =>
        rw [g3] at y; injection y with y; subst y
        exact .inr (.inr (.inr ⟨rfl, by simpa using x, z⟩))
    · rintro (⟨rfl, e⟩ | ⟨rfl, e, e'⟩ | ⟨rfl, e, e'⟩ | ⟨rfl, e, e'⟩)
      · exact ⟨by simpa using e, o0, g0, fun i hi => by rw [b0] at hi; simp at hi⟩
      · exact ⟨by simpa using e, o1, g1, fun i hi => by rw [b1 i hi]; simpa using e'⟩
      · exact ⟨by simpa using e, o2, g2, fun i hi => by rw [b2 i hi]; simpa using e'⟩
      · exact ⟨by simpa using e, o3, g3, e'⟩
  have full : ∀ i ∈ bindOn o3, (#[true, true, true, false] : Array Bool).getD i false = true := by
    intro i hi
    have := b3 i hi
    match i, this with
    | 0, _ => rfl
    | 1, _ => rfl
    | 2, _ => rfl
  have not3 : ∀ (c1 c2 : Bool), c1 = false ∨ c2 = false → ¬ ∀ i ∈ bindOn o3, (#[true, c1, c2, false] : Array Bool).getD i false = true := by
    intro c1 c2 hc h
    rcases hc with hc | hc
    · have := h 1 b31; simp [hc] at this
    · have := h 2 b32; simp [hc] at this
  have not3' : ¬ ∀ i ∈ bindOn o3, (#[false, false, false, false] : Array Bool).getD i false = true := by
    intro h; have := h 1 b31; simp at this
  have hrep : Array.replicate ops.size false = #[false, false, false, false] := by rw [hsz]; rfl
  rw [hrep, hsz]
  -- the decomposition of both orders
  obtain ⟨c0, v0, A0, x0, y0, z0⟩ := evOps_cons_eq h1 rfl
  obtain ⟨c1, v1, A1, x1, y1, z1⟩ := evOps_cons_eq z0 rfl
  obtain ⟨c2, v2, A2, x2, y2, z2⟩ := evOps_cons_eq z1 rfl
  obtain ⟨c3, v3, A3, x3, y3, z3⟩ := evOps_cons_eq z2 rfl
  obtain ⟨d0, u0, D0, p0, q0, r0⟩ := evOps_cons_eq h2 rfl
  obtain ⟨d1, u1, D1, p1, q1, r1⟩ := evOps_cons_eq r0 rfl
  obtain ⟨d2, u2, D2, p2, q2, r2⟩ := evOps_cons_eq r1 rfl
  obtain ⟨d3, u3, D3, p3, q3, r3⟩ := evOps_cons_eq r2 rfl
  simp only [evOps, Option.some.injEq, Prod.mk.injEq] at z3 r3
  rw [x0] at p0; injection p0 with p0; subst p0
  have hv : u0 = v0 ∧ D0 = A0 := by
    cases c0 with
    | true => simp only [if_true] at y0 q0; rw [y0] at q0; injection q0 with q0; injection q0 with q1 q2; exact ⟨q1.symm, q2.symm⟩
    | false => simp only [Bool.false_eq_true, if_false] at y0 q0; exact ⟨by rw [q0.1, y0.1], by rw [q0.2, y0.2]⟩
  obtain ⟨hv1, hv2⟩ := hv
  subst hv1; subst hv2
  refine ⟨fun h => ?_, fun i hi => ?_⟩
  · have := (ready false false false false 0).2 (.inl ⟨rfl, rfl⟩); rw [h] at this; simp at this
  rw [ready] at hi
  rcases hi with ⟨rfl, _⟩ | ⟨rfl, _, e⟩ | ⟨rfl, _, e⟩ | ⟨rfl, _, e⟩
  rotate_left
  · cases e
  · cases e
  · exact absurd e not3'
  refine wpOp_sound hcall g0 hm ht x0 y0 fun Γ0 a0 w0 st0 tr0 => ?_
  show wpAnyIn (Wr rn) 0 P .any ops Q 3 #[true, false, false, false] a0 w0
  refine ⟨fun h => ?_, fun i hi => ?_⟩
  · have := (ready true false false false 1).2 (.inr (.inl ⟨rfl, rfl, rfl⟩)); rw [h] at this; simp at this
  rw [ready] at hi
  rcases hi with ⟨rfl, e⟩ | ⟨rfl, _, _⟩ | ⟨rfl, _, _⟩ | ⟨rfl, _, e⟩
  · cases e
  · refine wpOp_sound hcall g1 st0.mem tr0 x1 y1 fun Γ1 a1 w1 st1 tr1 => ?_
    show wpAnyIn (Wr rn) 0 P .any ops Q 2 #[true, true, false, false] a1 w1
    refine ⟨fun h => ?_, fun i hi => ?_⟩
    · have := (ready true true false false 2).2 (.inr (.inr (.inl ⟨rfl, rfl, rfl⟩))); rw [h] at this; simp at this
    rw [ready] at hi
    rcases hi with ⟨rfl, e⟩ | ⟨rfl, e, _⟩ | ⟨rfl, _, _⟩ | ⟨rfl, _, e⟩
    · cases e
    · cases e
    · refine wpOp_sound hcall g2 st1.mem tr1 x2 y2 fun Γ2 a2 w2 st2 tr2 => ?_
      show wpAnyIn (Wr rn) 0 P .any ops Q 1 #[true, true, true, false] a2 w2
      refine ⟨fun h => ?_, fun i hi => ?_⟩
      · have := (ready true true true false 3).2 (.inr (.inr (.inr ⟨rfl, rfl, full⟩))); rw [h] at this; simp at this
      rw [ready] at hi
      rcases hi with ⟨rfl, e⟩ | ⟨rfl, e, _⟩ | ⟨rfl, e, _⟩ | ⟨rfl, _, _⟩
      · cases e
      · cases e
      · cases e
      · refine wpOp_sound hcall g3 st2.mem tr2 x3 y3 fun Γ3 a3 w3 st3 tr3 => ?_
        show wpAnyIn (Wr rn) 0 P .any ops Q 0 #[true, true, true, true] a3 w3
        refine ⟨?_, hQ1 Γ3 a3 w3 (z3.2 ▸ ((st0.trans st1).trans st2).trans st3) (z3.1 ▸ tr3)⟩
        rw [List.eq_nil_iff_forall_not_mem]
        intro j hj
        rw [ready] at hj
        rcases hj with ⟨rfl, e⟩ | ⟨rfl, e, _⟩ | ⟨rfl, e, _⟩ | ⟨rfl, e, _⟩ <;> cases e
    · exact absurd e (not3 true false (.inr rfl))
  · refine wpOp_sound hcall g2 st0.mem tr0 p1 q1 fun Γ1 a1 w1 st1 tr1 => ?_
    show wpAnyIn (Wr rn) 0 P .any ops Q 2 #[true, false, true, false] a1 w1
    refine ⟨fun h => ?_, fun i hi => ?_⟩
    · have := (ready true false true false 1).2 (.inr (.inl ⟨rfl, rfl, rfl⟩)); rw [h] at this; simp at this
    rw [ready] at hi
    rcases hi with ⟨rfl, e⟩ | ⟨rfl, _, _⟩ | ⟨rfl, e, _⟩ | ⟨rfl, _, e⟩
    · cases e
    · refine wpOp_sound hcall g1 st1.mem tr1 p2 q2 fun Γ2 a2 w2 st2 tr2 => ?_
      show wpAnyIn (Wr rn) 0 P .any ops Q 1 #[true, true, true, false] a2 w2
      refine ⟨fun h => ?_, fun i hi => ?_⟩
      · have := (ready true true true false 3).2 (.inr (.inr (.inr ⟨rfl, rfl, full⟩))); rw [h] at this; simp at this
      rw [ready] at hi
      rcases hi with ⟨rfl, e⟩ | ⟨rfl, e, _⟩ | ⟨rfl, e, _⟩ | ⟨rfl, _, _⟩
      · cases e
      · cases e
      · cases e
      · refine wpOp_sound hcall g3 st2.mem tr2 p3 q3 fun Γ3 a3 w3 st3 tr3 => ?_
        show wpAnyIn (Wr rn) 0 P .any ops Q 0 #[true, true, true, true] a3 w3
        refine ⟨?_, hQ2 Γ3 a3 w3 (r3.2 ▸ ((st0.trans st1).trans st2).trans st3) (r3.1 ▸ tr3)⟩
        rw [List.eq_nil_iff_forall_not_mem]
        intro j hj
        rw [ready] at hj
        rcases hj with ⟨rfl, e⟩ | ⟨rfl, e, _⟩ | ⟨rfl, e, _⟩ | ⟨rfl, e, _⟩ <;> cases e
    · cases e
    · exact absurd e (not3 false true (.inl rfl))
  · exact absurd e (not3 false false (.inl rfl))

def exitOf : Sig → Exit
  | .norm => .normal
  | .exit id => .exit id
  | .ret => .ret

variable (P) in
/-- What is asked of the condition on drawn regions. -/
def DrawSound (okR : CallF → Nat → Array Oper → Tm → St → Prop) : Prop :=
  ∀ (call : CallF), CallOK P call → CallNf call → CallMono call → ∀ (nt : Nat) (id : Nat) (ops : Array Oper) (Γ : Ctx) (t t' : Tm) (S S' : St) (a : Act) (w : World) (rn : Option Nat) (Q : Exit → Act → World → Prop), okR call nt ops t S →
    evOps P nt call ops ops.toList t S = some (t', S') → Mem Γ S w → TmRel Γ nt t a → (∀ Γ' a' w', Step Γ S w Γ' S' w' → TmRel Γ' nt t' a' → Q .normal a' w') →
    (Code.region id ops true).wpIn (Wr rn) 0 P Q a w

theorem evC_sound (hmix : P.follows .mixedOrders = true) {okR : CallF → Nat → Array Oper → Tm → St → Prop} (hdraw : DrawSound P okR) (hcall : CallOK P call) (hnf : CallNf call) (hmo : CallMono call) {n : Nat} {rn : Option Nat} : ∀ (c : Code) {Γ : Ctx} {t : Tm} {S : St} {a : Act} {w : World} {s : Sig} {t' : Tm} {S' : St} {Q : Exit → Act → World → Prop},
    evC P okR nt call n c t S = some (s, t', S') → Mem Γ S w → TmRel Γ nt t a → (∀ Γ' a' w', Step Γ S w Γ' S' w' → TmRel Γ' nt t' a' → Q (exitOf s) a' w') → c.wpIn (Wr rn) 0 P Q a w
  | .skip, Γ, t, S, a, w, s, t', S', Q, h, hm, ht, hQ => by
    simp only [evC, Option.some.injEq, Prod.mk.injEq] at h
    obtain ⟨e1, e2, e3⟩ := h; subst e1; subst e2; subst e3
    exact wpIn_skip (hQ Γ a w (.refl hm) ht)
  | .region id ops draw, Γ, t, S, a, w, s, t', S', Q, h, hm, ht, hQ => by
    simp only [evC] at h
    split at h
    · cases h
    · rename_i hc
      split at h
      · rename_i t1 S1 he
        simp only [Option.some.injEq, Prod.mk.injEq] at h
        obtain ⟨e1, e2, e3⟩ := h; subst e1; subst e2; subst e3
        cases draw with
        | false =>
          refine wpIn_region ?_
          have := region_sound (rn := rn) (Q := Q) hcall ops.toList 0 (fun j => by simp) (by simp) he hm ht hQ
          simpa [List.range_eq_range'] using this
        | true =>
          have hok : okR call nt ops t S := Classical.byContradiction fun hn => hc ⟨rfl, hn⟩
          exact hdraw call hcall hnf hmo nt id ops Γ t t1 S S1 a w rn Q hok he hm ht hQ
      · cases h
  | .seq x y, Γ, t, S, a, w, s, t', S', Q, h, hm, ht, hQ => by
    simp only [evC] at h
    split at h
    · rename_i ops l1 l2 ha
      obtain ⟨t1, A, u, B, ta, Aa, tb, Bb, e1, e2, h1, h2, hmg, e3, e4, e5⟩ := amb2_eq h
      subst e3; subst e4; subst e5
      unfold ambOps at ha
      split at ha
      · rename_i id ops0
        split at ha
        · rename_i o0 o1 o2 o3 hops
          split at ha
          · rename_i hb
            simp only [Option.some.injEq, Prod.mk.injEq] at ha
            obtain ⟨f1, f2, f3⟩ := ha
            subst f1; subst f2; subst f3
            refine wpIn_seq (wpIn_region_any hmix ?_)
            have hw : Step Γ S w Γ S { w with drawn := w.drawn + 1 } := .of_heap hm rfl rfl rfl rfl
            refine amb_region hcall hops hb e1 e2 hw.mem ht (fun Γ1 a1 w1 hst htr => ?_) (fun Γ1 a1 w1 hst htr => ?_)
            · refine evC_sound hmix hdraw hcall hnf hmo y h1 hst.mem htr fun Γ2 a2 w2 hst2 htr2 => ?_
              exact hQ Γ2 a2 w2 (((hw.trans hst).trans hst2).weaken (fun id => (merge_left hmg id).1) (fun id => (merge_left hmg id).2)) (htr2.weaken (mergeT_left ta tb))
            · refine evC_sound hmix hdraw hcall hnf hmo y h2 hst.mem htr fun Γ2 a2 w2 hst2 htr2 => ?_
              exact hQ Γ2 a2 w2 (((hw.trans hst).trans hst2).weaken (fun id => (merge_right hmg id).1) (fun id => (merge_right hmg id).2)) (htr2.weaken (mergeT_right ta tb))
          · cases ha
        · cases ha
      · cases ha
    split at h
    · rename_i t1 S1 h1
      refine wpIn_seq (evC_sound hmix hdraw hcall hnf hmo x h1 hm ht fun Γ1 a1 w1 hst htr => ?_)
      exact evC_sound hmix hdraw hcall hnf hmo y h hst.mem htr fun Γ2 a2 w2 hst2 htr2 => hQ Γ2 a2 w2 (hst.trans hst2) htr2
    · rename_i hn
      refine wpIn_seq (evC_sound hmix hdraw hcall hnf hmo x h hm ht fun Γ1 a1 w1 hst htr => ?_)
      have hq := hQ Γ1 a1 w1 hst htr
      cases s with
      | norm => exact absurd h (hn _ _)
      | exit id => exact hq
      | ret => exact hq
  | .cond c x y, Γ, t, S, a, w, s, t', S', Q, h, hm, ht, hQ => by
    simp only [evC] at h
    have hc := rel_opd ht.rel c
    split at h
    · rename_i hv
      rw [hv] at hc
      generalize hu : a.eval c = u at hc
      cases hc
      exact wpIn_cond_true hu (evC_sound hmix hdraw hcall hnf hmo x h hm ht hQ)
    · rename_i hv
      rw [hv] at hc
      generalize hu : a.eval c = u at hc
      cases hc
      exact wpIn_cond_false hu (evC_sound hmix hdraw hcall hnf hmo y h hm ht hQ)
    · cases h
  | .block id b, Γ, t, S, a, w, s, t', S', Q, h, hm, ht, hQ => by
    simp only [evC] at h
    split at h
    · rename_i i t1 S1 h1
      refine wpIn_block (evC_sound hmix hdraw hcall hnf hmo b h1 hm ht fun Γ1 a1 w1 hst htr => ?_)
      split at h
      · rename_i hid
        simp only [Option.some.injEq, Prod.mk.injEq] at h
        obtain ⟨e1, e2, e3⟩ := h; subst e1; subst e2; subst e3
        simp only [exitOf, Exit.inBlock, hid, if_true]
        exact hQ Γ1 a1 w1 hst htr
      · rename_i hid
        simp only [Option.some.injEq, Prod.mk.injEq] at h
        obtain ⟨e1, e2, e3⟩ := h; subst e1; subst e2; subst e3
        simp only [exitOf, Exit.inBlock, hid, if_false]
        exact hQ Γ1 a1 w1 hst htr
    · rename_i hn
      refine wpIn_block (evC_sound hmix hdraw hcall hnf hmo b h hm ht fun Γ1 a1 w1 hst htr => ?_)
      have hq := hQ Γ1 a1 w1 hst htr
      cases s with
      | norm => exact hq
      | exit id' => exact absurd h (hn _ _ _)
      | ret => exact hq
  | .loop b, Γ, t, S, a, w, s, t', S', Q, h, hm, ht, hQ => by
    simp only [evC] at h
    suffices hl : ∀ (k : Nat) {Γ : Ctx} {t : Tm} {S : St} {a : Act} {w : World} {s : Sig} {t' : Tm} {S' : St}, loopN (evC P okR nt call n b) k t S = some (s, t', S') → Mem Γ S w → TmRel Γ nt t a →
        (∀ Γ' a' w', Step Γ S w Γ' S' w' → TmRel Γ' nt t' a' → Q (exitOf s) a' w') → Code.roundsIn (Wr rn) 0 P b Q k a w from wpIn_loop_rounds n (hl n h hm ht hQ)
    intro k
    induction k with
    | zero => intro Γ t S a w s t' S' h; cases h
    | succ k ih =>
      intro Γ t S a w s t' S' h hm ht hQ
      rw [roundsIn_succ]
      simp only [loopN] at h
      split at h
      · rename_i t1 S1 h1
        refine evC_sound hmix hdraw hcall hnf hmo b h1 hm ht fun Γ1 a1 w1 hst htr => ?_
        exact ih h hst.mem htr fun Γ2 a2 w2 hst2 htr2 => hQ Γ2 a2 w2 (hst.trans hst2) htr2
      · rename_i hn
        refine evC_sound hmix hdraw hcall hnf hmo b h hm ht fun Γ1 a1 w1 hst htr => ?_
        have hq := hQ Γ1 a1 w1 hst htr
        cases s with
        | norm => exact absurd h (hn _ _)
        | exit id => exact hq
        | ret => exact hq
  | .exit id, Γ, t, S, a, w, s, t', S', Q, h, hm, ht, hQ => by
    simp only [evC, Option.some.injEq, Prod.mk.injEq] at h
    obtain ⟨e1, e2, e3⟩ := h; subst e1; subst e2; subst e3
    exact wpIn_exit (hQ Γ a w (.refl hm) ht)
  | .ret, Γ, t, S, a, w, s, t', S', Q, h, hm, ht, hQ => by
    simp only [evC, Option.some.injEq, Prod.mk.injEq] at h
    obtain ⟨e1, e2, e3⟩ := h; subst e1; subst e2; subst e3
    exact wpIn_ret (hQ Γ a w (.refl hm) ht)
  | .rangeFunc _ _ _ _, Γ, t, S, a, w, s, t', S', Q, h, hm, ht, hQ => by simp [evC] at h
  | .scope _, Γ, t, S, a, w, s, t', S', Q, h, hm, ht, hQ => by simp [evC] at h
  | .label _, Γ, t, S, a, w, s, t', S', Q, h, hm, ht, hQ => by simp [evC] at h
  | .goto _, Γ, t, S, a, w, s, t', S', Q, h, hm, ht, hQ => by simp [evC] at h
  | .refuse _, Γ, t, S, a, w, s, t', S', Q, h, hm, ht, hQ => by simp [evC] at h

def resSem (tmps : Array Value) : ResultVar → Sem Value
  | .tmp t => pure (tmps.getD t undef)
  | .cell a t => do loadVar t (← asAddr (tmps.getD a undef))
theorem results_eq (fn : Func) (tmps : Array Value) : results fn tmps = (fn.results.mapM (resSem tmps) >>= fun vs => pure (if h : vs.size = 1 then vs[0] else .tuple vs)) := rfl
theorem evRes_sound (hm : Mem Γ S w) (ht : TmRel Γ nt t a) : ∀ (l : List ResultVar) (vs : List V), evRes P t S l = some vs →
    ∃ us, (l.mapM (resSem a.tmps)).run P w = .ok us w ∧ RelL Γ vs us
  | [], vs, h => by simp [evRes] at h; subst h; exact ⟨[], by simp, .nil⟩
  | .tmp i :: l, vs, h => by
    simp only [evRes] at h
    split at h
    · rename_i vs' h1
      injection h with h; subst h
      obtain ⟨us, h2, h3⟩ := evRes_sound hm ht l vs' h1
      exact ⟨a.tmps.getD i undef :: us, by simp only [List.mapM_cons, resSem, Sem.run_bind, Sem.run_pure, Result.andThen_ok, h2], .cons _ _ _ _ (ht.rel.tmp i) h3⟩
    · cases h
  | .cell p ty :: l, vs, h => by
    simp only [evRes] at h
    split at h
    · rename_i v vs' h0 h1
      injection h with h; subst h
      obtain ⟨us, h2, h3⟩ := evRes_sound hm ht l vs' h1
      obtain ⟨x, b, off, e, h4, h5⟩ := run_load_rel (P := P) hm (ht.rel.tmp p) h0
      refine ⟨x :: us, ?_, .cons _ _ _ _ h5 h3⟩
      simp only [List.mapM_cons, resSem, Sem.run_bind, e, asAddr, Sem.run_pure, Result.andThen_ok, h4, h2]
    · cases h

theorem callN_sound (hmix : P.follows .mixedOrders = true) {base : AskF} (hbo : CallOK P (ansOf base)) (hbn : CallNf (ansOf base)) (hbm : AskMono base) (hbs : AskSame base) {okR : CallF → Nat → Array Oper → Tm → St → Prop} (hdraw : DrawSound P okR) (hok : OkMono P okR) : ∀ (n : Nat), CallOK P (callN P base okR n)
  | 0 => fun f args S r S' h => hbo f args S r S' h
  | n + 1 => fun f args S r S' h => by
    have ih := callN_sound hmix hbo hbn hbm hbs hdraw hok n
    simp only [callN] at h
    split at h
    · rename_i r0 h0; exact hbo f args S r S' (by simp only [ansOf, h0]; exact h)
    rename_i h0
    clear h0
    cases hf : P.funcs[f]? with
    | none => rw [hf] at h; cases h
    | some fn =>
      rw [hf] at h
      simp only [] at h
      cases hb : fn.body with
      | none => rw [hb] at h; cases h
      | some b =>
        rw [hb] at h
        simp only [] at h
        split at h
        · cases h
        · rename_i hc
          have hname : ¬ fn.name = "runtime.NumGoroutine" := fun e => hc (.inl e)
          have hlen : args.length ≤ fn.ntmps := Nat.le_of_not_lt fun e => hc (.inr e)
          refine ⟨⟨fn, hf, by rw [hb]; rfl, by simpa using hname⟩, fun Γ w us hm hr => ?_⟩
          have hus : us.size = args.length := by have := hr.length; simpa using this.symm
          have ht : TmRel Γ fn.ntmps (initT args) { tmps := us ++ Array.replicate (fn.ntmps - us.size) undef, defers := [] } := by
            refine ⟨by simp; omega, ⟨fun i => ?_, hm.glb⟩, rfl⟩
            unfold initT
            by_cases hi : i < args.length
            · obtain ⟨u, hu, hrel⟩ := hr.get (i := i) (v := args[i]) (by simp [hi])
              have e1 : args.getD i .any = args[i] := by simp [List.getD, hi]
              have e2 : (us ++ Array.replicate (fn.ntmps - us.size) undef).getD i undef = u := by
                have hu' : us[i]? = some u := by simpa using hu
                rw [Array.getD_eq_getD_getElem?, Array.getElem?_append_left (by omega), hu']; rfl
              rw [e1, e2]; exact hrel
            · have e1 : args.getD i .any = .any := by simp [List.getD, List.getElem?_eq_none (Nat.le_of_not_lt hi)]
              rw [e1]; exact .any _
          refine calls_of_wp hf hb ?_
          split at h
          · cases h
          · cases h
          · rename_i s t1 S1 hne he
            split at h
            · rename_i vs hvs
              injection h with h; injection h with e1 e2; subst e1; subst e2
              refine (wpIn_wide (n := 0)).1 ?_
              refine evC_sound (rn := none) hmix hdraw ih (callN_nf hbn n) (callN_mono hbn hbm hbs hok n) b he hm ht fun Γ1 a1 w1 hst htr => ?_
              obtain ⟨ux, h1, h2⟩ := evRes_sound (P := P) hst.mem htr fn.results.toList vs hvs
              have hres : ∃ u, (results fn a1.tmps).run P w1 = .ok u w1 ∧ Rel Γ1 (one vs) u := by
                have hrun : (fn.results.mapM (resSem a1.tmps)).run P w1 = .ok ux.toArray w1 := by
                  rw [Array.mapM_eq_mapM_toList]
                  rw [Sem.run_map, h1]; rfl
                refine ⟨if h : ux.toArray.size = 1 then ux.toArray[0] else .tuple ux.toArray, ?_, ?_⟩
                · rw [results_eq, Sem.run_bind, hrun]; rfl
                · cases h2 with
                  | nil => simp only [one]; exact .tup _ _ .nil
                  | cons v u vs' us' hv hs =>
                    cases hs with
                    | nil => simpa [one] using hv
                    | cons v2 u2 vs2 us2 hv2 hs2 =>
                      simp only [one, List.size_toArray, List.length_cons]
                      rw [dif_neg (by omega)]
                      exact .tup _ _ (.cons _ _ _ _ hv (.cons _ _ _ _ hv2 hs2))
              obtain ⟨u, h3, h4⟩ := hres
              cases s with
              | exit id => exact (hne _ rfl).elim
              | norm => exact ⟨htr.defers, u, h3, Γ1, u, rfl, hst, h4⟩
              | ret => exact ⟨htr.defers, u, h3, Γ1, u, rfl, hst, h4⟩
            · cases h
end
end Go.Vm

namespace Go.Vm
variable [Gl]
open Go.RowKit

/-- i waits for j. -/
def Waits (ops : Array Oper) (j i : Nat) : Prop := ∃ o, ops[i]? = some o ∧ ∃ e ∈ o.after, Region.binds .any e = true ∧ e.on = j
inductive Bef (ops : Array Oper) : Nat → Nat → Prop
  | edge {j i : Nat} (h : Waits ops j i) : Bef ops j i
  | trans {j k i : Nat} (h : Bef ops j k) (e : Waits ops k i) : Bef ops j i
structure OrdOK (ops : Array Oper) : Prop where
  back : ∀ (j i : Nat), Waits ops j i → j < i
  apart : ∀ (i j : Nat) (oi oj : Oper), ops[i]? = some oi → ops[j]? = some oj → i < j → ¬ Bef ops i j → oi.apart ops oj = true

section
variable {P : Program} {call : CallF} {nt : Nat} {ops : Array Oper} {t : Tm} {S : St}

theorem OrdOK.lt (h : OrdOK ops) {j i : Nat} (b : Bef ops j i) : j < i := by
  induction b with
  | edge e => exact h.back _ _ e
  | trans _ e ih => exact Nat.lt_trans ih (h.back _ _ e)
theorem OrdOK.cross (h : OrdOK ops) {i j : Nat} {oi oj : Oper} (hi : ops[i]? = some oi) (hj : ops[j]? = some oj) (hne : i ≠ j) (h1 : ¬ Bef ops i j) (h2 : ¬ Bef ops j i) :
    (∀ d, oi.dst = some d → d ∉ oj.looksAt ops) ∧ (∀ d, oi.dst = some d → oj.dst ≠ some d) ∧ (∀ d, oj.dst = some d → d ∉ oi.looksAt ops) := by
  rcases Nat.lt_or_gt_of_ne hne with hl | hl
  · exact Oper.apart_spec (h.apart i j oi oj hi hj hl h1)
  · obtain ⟨a, b, c⟩ := Oper.apart_spec (h.apart j i oj oi hj hi hl h2)
    exact ⟨c, fun d hd e => b d e hd, a⟩

/-- A run in the order of the text. -/
structure Tr (P : Program) (nt : Nat) (call : CallF) (ops : Array Oper) (t : Tm) (S : St) (T : Nat → Tm) (Z : Nat → St) (B : Nat → Bool) (R : Nat → V) : Prop where
  t0 : T 0 = t
  z0 : Z 0 = S
  want : ∀ (i : Nat) (o : Oper), ops[i]? = some o → wanted ops o (T i) = some (B i)
  run : ∀ (i : Nat) (o : Oper), ops[i]? = some o → if B i then evOp P call o (T i) (Z i) = some (R i, Z (i + 1)) else R i = .un ∧ Z (i + 1) = Z i
  put : ∀ (i : Nat) (o : Oper), ops[i]? = some o → T (i + 1) = putT nt (T i) o.dst (R i)

theorem tr_from : ∀ (l : List Oper) (k : Nat) (t : Tm) (S : St) {t' : Tm} {S' : St}, evOps P nt call ops l t S = some (t', S') →
    ∃ (T : Nat → Tm) (Z : Nat → St) (B : Nat → Bool) (R : Nat → V), T k = t ∧ Z k = S ∧ T (k + l.length) = t' ∧ Z (k + l.length) = S' ∧
      ∀ (j : Nat) (o : Oper), l[j]? = some o → wanted ops o (T (k + j)) = some (B (k + j)) ∧
        (if B (k + j) then evOp P call o (T (k + j)) (Z (k + j)) = some (R (k + j), Z (k + j + 1)) else R (k + j) = .un ∧ Z (k + j + 1) = Z (k + j)) ∧ T (k + j + 1) = putT nt (T (k + j)) o.dst (R (k + j))
  | [], k, t, S, t', S', h => by
    simp only [evOps, Option.some.injEq, Prod.mk.injEq] at h
    exact ⟨fun _ => t, fun _ => S, fun _ => true, fun _ => .any, rfl, rfl, h.1, h.2, fun j o hj => by simp at hj⟩
  | o :: r, k, t, S, t', S', h => by
    obtain ⟨b, v, S1, hw, he, hr⟩ := evOps_cons_eq h rfl
    obtain ⟨T, Z, B, R, h1, h2, h3, h4, h5⟩ := tr_from r (k + 1) _ _ hr
    refine ⟨fun j => if j = k then t else T j, fun j => if j = k then S else Z j, fun j => if j = k then b else B j, fun j => if j = k then v else R j, by simp, by simp, ?_, ?_, ?_⟩
    · have e : k + (o :: r).length = k + 1 + r.length := by simp; omega
      simp only [e]
      rw [if_neg (by omega)]; exact h3
    · have e : k + (o :: r).length = k + 1 + r.length := by simp; omega
      simp only [e]
      rw [if_neg (by omega)]; exact h4
    · intro j o' hj
      cases j with
      | zero =>
        simp only [List.getElem?_cons_zero, Option.some.injEq] at hj
        subst hj
        have n1 : ¬ (k + 1 = k) := by omega
        simp only [Nat.add_zero, if_true, n1, if_false, h1, h2]
        exact ⟨hw, he, trivial⟩
      | succ j =>
        simp only [List.getElem?_cons_succ] at hj
        have := h5 j o' hj
        have e : k + (j + 1) = k + 1 + j := by omega
        have n1 : ¬ (k + 1 + j = k) := by omega
        have n2 : ¬ (k + 1 + j + 1 = k) := by omega
        simp only [e, n1, n2, if_false]
        exact this
theorem tr_exists {t' : Tm} {S' : St} (h : evOps P nt call ops ops.toList t S = some (t', S')) :
    ∃ (T : Nat → Tm) (Z : Nat → St) (B : Nat → Bool) (R : Nat → V), Tr P nt call ops t S T Z B R ∧ T ops.size = t' ∧ Z ops.size = S' := by
  obtain ⟨T, Z, B, R, h1, h2, h3, h4, h5⟩ := tr_from ops.toList 0 t S h
  simp only [Nat.zero_add, Array.length_toList, Array.getElem?_toList] at h3 h4 h5
  exact ⟨T, Z, B, R, ⟨h1, h2, fun i o hi => (h5 i o hi).1, fun i o hi => (h5 i o hi).2.1, fun i o hi => (h5 i o hi).2.2⟩, h3, h4⟩

/-- What must hold in a run. -/
structure DynOK (P : Program) (call : CallF) (ops : Array Oper) (T : Nat → Tm) (Z : Nat → St) (B : Nat → Bool) : Prop where
  eff : ∀ (i j : Nat) (oi oj : Oper), ops[i]? = some oi → ops[j]? = some oj → i < j → clsOf oi = .E → clsOf oj = .E → B i = true → B j = true → Bef ops i j
  look : ∀ (i c : Nat) (oi oc : Oper), ops[i]? = some oi → ops[c]? = some oc → clsOf oi = .L → clsOf oc = .E → B i = true → B c = true → ¬ Bef ops i c → ¬ Bef ops c i →
    ∀ (v : V), evOp P call oi (T i) (Z c) = some (v, Z c) ↔ evOp P call oi (T i) (Z (c + 1)) = some (v, Z (c + 1))

/-! ### temporaries -/
def dstAt (ops : Array Oper) (j : Nat) : Option Nat := (ops[j]?).bind (·.dst)
def lastDef (ops : Array Oper) (L : Nat → Bool) (x : Nat) : Nat → Option Nat
  | 0 => none
  | n + 1 => if L n = true ∧ dstAt ops n = some x then some n else lastDef ops L x n
def tmL (ops : Array Oper) (nt : Nat) (t : Tm) (R : Nat → V) (L : Nat → Bool) : Tm := fun x => if x < nt then match lastDef ops L x ops.size with
  | some j => R j
  | none => t x else t x
theorem lastDef_congr {L L' : Nat → Bool} {x : Nat} : ∀ (n : Nat), (∀ j < n, dstAt ops j = some x → L j = L' j) → lastDef ops L x n = lastDef ops L' x n
  | 0, _ => rfl
  | n + 1, h => by
    simp only [lastDef]
    rw [lastDef_congr n fun j hj => h j (by omega)]
    by_cases hd : dstAt ops n = some x
    · rw [h n (by omega) hd]
    · simp [hd]
theorem tmL_congr {R : Nat → V} {L L' : Nat → Bool} {x : Nat} (h : ∀ j < ops.size, dstAt ops j = some x → L j = L' j) : tmL ops nt t R L x = tmL ops nt t R L' x := by
  unfold tmL
  rw [lastDef_congr _ h]
theorem lastDef_top {L : Nat → Bool} {x i : Nat} : ∀ (n : Nat), i < n → L i = true → dstAt ops i = some x → (∀ j < n, i < j → dstAt ops j = some x → L j = false) → lastDef ops L x n = some i
  | 0, h, _, _, _ => by omega
  | n + 1, h, hL, hd, hn => by
    simp only [lastDef]
    by_cases e : n = i
    · subst e; simp [hL, hd]
    · have : ¬ (L n = true ∧ dstAt ops n = some x) := fun ⟨a, b⟩ => by
        rw [hn n (by omega) (by omega) b] at a; cases a
      rw [if_neg this]
      exact lastDef_top n (by omega) hL hd fun j hj => hn j (by omega)
theorem lastDef_none {L : Nat → Bool} {x : Nat} : ∀ (n : Nat), (∀ j < n, dstAt ops j = some x → L j = false) → lastDef ops L x n = none
  | 0, _ => rfl
  | n + 1, h => by
    simp only [lastDef]
    have : ¬ (L n = true ∧ dstAt ops n = some x) := fun ⟨a, b⟩ => by rw [h n (by omega) b] at a; cases a
    rw [if_neg this]
    exact lastDef_none n fun j hj => h j (by omega)
/-- One more. -/
theorem tmL_put {R : Nat → V} {L L' : Nat → Bool} {i : Nat} {o : Oper} (hi : ops[i]? = some o) (hL : ∀ j, L' j = (L j || j == i)) (hlast : ∀ j < ops.size, i < j → o.dst ≠ none → dstAt ops j = o.dst → L j = false) :
    tmL ops nt t R L' = putT nt (tmL ops nt t R L) o.dst (R i) := by
  have hlt : i < ops.size := (Array.getElem?_eq_some_iff.1 hi).1
  have hda : dstAt ops i = o.dst := by simp [dstAt, hi]
  funext x
  by_cases hx : o.dst = some x
  · have e1 : putT nt (tmL ops nt t R L) o.dst (R i) x = if x < nt then R i else tmL ops nt t R L x := by
      rw [hx]; simp only [putT]; split <;> simp
    rw [e1]
    unfold tmL
    by_cases hn : x < nt
    · simp only [if_pos hn]
      rw [lastDef_top (i := i) _ hlt (by simp [hL]) (by rw [hda, hx]) fun j hj hij hd => by
        rw [hL, hlast j hj hij (by rw [hx]; simp) (by rw [hd, hx])]; simp; omega]
    · simp only [if_neg hn]
  · have e1 : putT nt (tmL ops nt t R L) o.dst (R i) x = tmL ops nt t R L x := by
      cases hd : o.dst with
      | none => rfl
      | some d =>
        simp only [putT]
        split
        · have : x ≠ d := fun e => hx (by rw [hd, e])
          simp [this]
        · rfl
    rw [e1]
    refine tmL_congr fun j _ hd => ?_
    rw [hL]
    have : j ≠ i := fun e => by subst e; rw [hda] at hd; exact hx hd
    simp [this]
theorem Tr.tm {T : Nat → Tm} {Z : Nat → St} {B : Nat → Bool} {R : Nat → V} (h : Tr P nt call ops t S T Z B R) : ∀ (i : Nat), i ≤ ops.size → T i = tmL ops nt t R (fun j => decide (j < i))
  | 0, _ => by
    rw [h.t0]
    funext x
    unfold tmL
    rw [lastDef_none _ fun j _ _ => by simp]
    split <;> rfl
  | i + 1, hi => by
    have hsome : ops[i]? = some ops[i] := Array.getElem?_eq_getElem (by omega)
    rw [h.put i _ hsome, h.tm i (by omega)]
    refine (tmL_put hsome (fun j => ?_) fun j _ hij _ _ => by simp; omega).symm
    have : (decide (j < i + 1) : Bool) = (decide (j < i) || j == i) := by
      by_cases h1 : j < i
      · have : j < i + 1 := by omega
        simp [h1, this]
      · by_cases h2 : j = i
        · simp [h2]
        · have : ¬ j < i + 1 := by omega
          simp [h1, h2, this]
    exact this

/-- What a listed set must be like. -/
def Down (ops : Array Oper) (L : Nat → Bool) : Prop := ∀ (j i : Nat), Waits ops j i → L i = true → L j = true
theorem Down.bef {L : Nat → Bool} (h : Down ops L) {j i : Nat} (b : Bef ops j i) : L i = true → L j = true := by
  induction b with
  | edge e => exact h _ _ e
  | trans _ e ih => exact fun hi => ih (h _ _ e hi)
theorem Down.ready {L : Nat → Bool} (h : Down ops L) {i : Nat} (hr : ∀ j, Waits ops j i → L j = true) {j : Nat} (b : Bef ops j i) : L j = true := by
  cases b with
  | edge e => exact hr _ e
  | trans b e => exact h.bef b (hr _ e)

theorem opd_congr {t t' : Tm} (x : Operand) (h : ∀ d, x = .tmp d → t d = t' d) : opd t x = opd t' x := by
  cases x <;> first | rfl | exact h _ rfl
theorem wanted_congr {o : Oper} {t t' : Tm} (h : ∀ d ∈ o.looksAt ops, t d = t' d) : wanted ops o t = wanted ops o t' := by
  unfold wanted
  cases hg : o.guard with
  | none => rfl
  | some p =>
    obtain ⟨j, b⟩ := p
    simp only []
    cases hd : (ops[j]?).bind (·.dst) with
    | none => rfl
    | some d =>
      simp only []
      rw [h d (by simp [Oper.looksAt, hg, hd])]
theorem evOp_look {o : Oper} {t t' : Tm} (h : ∀ d ∈ o.looksAt ops, t d = t' d) (S : St) : evOp P call o t S = evOp P call o t' S :=
  evOp_congr fun x hx => opd_congr x fun d hd => h d (by subst hd; exact List.mem_append_left _ (List.mem_filterMap.2 ⟨.tmp d, hx, rfl⟩))
/-- What a ready operation sees. -/
theorem tmL_sees (ho : OrdOK ops) {R : Nat → V} {L : Nat → Bool} {i : Nat} {o : Oper} (hi : ops[i]? = some o) (hd : Down ops L) (hr : ∀ j, Waits ops j i → L j = true) (hun : L i = false) :
    ∀ d ∈ o.looksAt ops, tmL ops nt t R L d = tmL ops nt t R (fun j => decide (j < i)) d := by
  intro d hd'
  refine tmL_congr fun j hj hdst => ?_
  have hoj : ops[j]? = some ops[j] := Array.getElem?_eq_getElem hj
  have hdj : ops[j].dst = some d := by simpa [dstAt, hoj] using hdst
  by_cases e : j = i
  · subst e; simp [hun]
  have hord : Bef ops j i ∨ Bef ops i j := by
    refine Classical.byContradiction fun hc => ?_
    have h1 : ¬ Bef ops j i := fun h => hc (.inl h)
    have h2 : ¬ Bef ops i j := fun h => hc (.inr h)
    exact (ho.cross hoj hi e h1 h2).1 d hdj hd'
  rcases hord with b | b
  · rw [hd.ready hr b]
    have := ho.lt b
    simp [this]
  · have hj' : L j = false := by
      cases hl : L j with
      | false => rfl
      | true => rw [hd.bef b hl] at hun; cases hun
    have := ho.lt b
    rw [hj']
    have h3 : ¬ j < i := by omega
    simp [h3]
theorem tmL_last (ho : OrdOK ops) {L : Nat → Bool} {i : Nat} {o : Oper} (hi : ops[i]? = some o) (hd : Down ops L) (hun : L i = false) :
    ∀ j < ops.size, i < j → o.dst ≠ none → dstAt ops j = o.dst → L j = false := by
  intro j hj hij hne hdst
  have hoj : ops[j]? = some ops[j] := Array.getElem?_eq_getElem hj
  cases hod : o.dst with
  | none => exact absurd hod hne
  | some d =>
    have hdj : ops[j].dst = some d := by rw [hod] at hdst; simpa [dstAt, hoj] using hdst
    have hb : Bef ops i j := by
      refine Classical.byContradiction fun hc => ?_
      have h2 : ¬ Bef ops j i := fun h => by have := ho.lt h; omega
      exact (ho.cross hi hoj (by omega) hc h2).2.1 d hod hdj
    cases hl : L j with
    | false => rfl
    | true => rw [hd.bef hb hl] at hun; cases hun
end
end Go.Vm

namespace Go.Vm
variable [Gl]
open Go.RowKit

section
variable {P : Program} {call : CallF} {nt : Nat} {ops : Array Oper} {t : Tm} {S : St} {T : Nat → Tm} {Z : Nat → St} {B : Nat → Bool} {R : Nat → V}

/-- A row-making operation that is done. -/
def IsA (ops : Array Oper) (B : Nat → Bool) (j : Nat) : Prop := ∃ o, ops[j]? = some o ∧ clsOf o = .A ∧ B j = true
theorem Tr.nf1 (h : Tr P nt call ops t S T Z B R) (hnf : CallNf call) {i : Nat} (hi : i < ops.size) : Nf (Z i) (Z (i + 1)) := by
  have hs : ops[i]? = some ops[i] := Array.getElem?_eq_getElem hi
  have := h.run i _ hs
  cases hb : B i with
  | true => rw [hb] at this; exact evOp_nf hnf (by simpa using this)
  | false => rw [hb] at this; simp at this; rw [this.2]; exact .refl _
theorem Tr.nf (h : Tr P nt call ops t S T Z B R) (hnf : CallNf call) {i : Nat} : ∀ (k : Nat), i + k ≤ ops.size → Nf (Z i) (Z (i + k))
  | 0, _ => .refl _
  | k + 1, hk => (h.nf hnf k (by omega)).trans (h.nf1 hnf (by omega))
theorem Tr.nf' (h : Tr P nt call ops t S T Z B R) (hnf : CallNf call) {i j : Nat} (hij : i ≤ j) (hj : j ≤ ops.size) : Nf (Z i) (Z j) := by
  have := h.nf hnf (i := i) (j - i) (by omega)
  rwa [Nat.add_sub_cancel' hij] at this
/-- The row that a row-making operation makes. -/
theorem Tr.made (h : Tr P nt call ops t S T Z B R) {j : Nat} (ha : IsA ops B j) : ∃ cs, (Z j).new (.cells cs 0 []) = some ((Z j).nx, Z (j + 1)) ∧ (Z j).get (Z j).nx = .free ∧ ∀ id, (Z (j + 1)).get id = if id = (Z j).nx then .cells cs 0 [] else (Z j).get id := by
  obtain ⟨o, hs, hc, hb⟩ := ha
  have hr := h.run j o hs
  rw [hb] at hr
  obtain ⟨cs, av, i, hn, _, _⟩ := A_spec hc (by simpa using hr)
  have hi : i = (Z j).nx := by
    unfold St.new at hn
    split at hn
    · split at hn
      · injection hn with hn; injection hn with e _; exact e.symm
      · cases hn
    · cases hn
  subst hi
  obtain ⟨h1, h2⟩ := St.new_eq hn
  exact ⟨cs, hn, h1, h2⟩
open Classical in
/-- The rows that the region will have made. -/
noncomputable def preX (ops : Array Oper) (Z : Nat → St) (B : Nat → Bool) (id : Id) : Ob :=
  if h : ∃ j, IsA ops B j ∧ (Z j).nx = id then (Z (h.choose + 1)).get id else .free
open Classical in
noncomputable def hatS (ops : Array Oper) (Z : Nat → St) (B : Nat → Bool) (e : Nat) : St :=
  { get := fun id => match (Z e).get id with | .free => preX ops Z B id | o => o, nx := (Z e).nx }
theorem hat_live {e : Nat} {id : Id} (h : (Z e).get id ≠ .free) : (hatS ops Z B e).get id = (Z e).get id := by
  unfold hatS
  simp only []
theorem hat_free {e : Nat} {id : Id} (h : (Z e).get id = .free) : (hatS ops Z B e).get id = preX ops Z B id := by
  unfold hatS; simp only [h]
theorem Tr.inj (h : Tr P nt call ops t S T Z B R) (hnf : CallNf call) {i j : Nat} (hi : IsA ops B i) (hj : IsA ops B j) (e : (Z i).nx = (Z j).nx) : i = j := by
  have key : ∀ i j, IsA ops B i → IsA ops B j → (Z i).nx = (Z j).nx → i < j → False := by
    intro i j hi hj e hl
    obtain ⟨cs, _, _, h2⟩ := h.made hi
    obtain ⟨_, _, h3, _⟩ := h.made hj
    have hjs : j < ops.size := by obtain ⟨o, ho, _⟩ := hj; exact (Array.getElem?_eq_some_iff.1 ho).1
    have := h.nf' hnf (i := i + 1) (j := j) hl (by omega) (Z i).nx (by rw [h2]; simp)
    rw [e] at this
    exact this h3
  rcases Nat.lt_trichotomy i j with hl | hl | hl
  · exact (key i j hi hj e hl).elim
  · exact hl
  · exact (key j i hj hi e.symm hl).elim
theorem Tr.preX_eq (h : Tr P nt call ops t S T Z B R) (hnf : CallNf call) {j : Nat} (hj : IsA ops B j) : preX ops Z B (Z j).nx = (Z (j + 1)).get (Z j).nx := by
  unfold preX
  have hex : ∃ k, IsA ops B k ∧ (Z k).nx = (Z j).nx := ⟨j, hj, rfl⟩
  rw [dif_pos hex]
  have := h.inj hnf hex.choose_spec.1 hj hex.choose_spec.2
  rw [this]
theorem preX_some {id : Id} (h : preX ops Z B id ≠ .free) : ∃ j, IsA ops B j ∧ (Z j).nx = id := by
  refine Classical.byContradiction fun hc => h ?_
  unfold preX
  rw [dif_neg hc]

/-- What a load sees. -/
def Sees (P : Program) (call : CallF) (o : Oper) (t : Tm) (v : V) (S : St) : Prop := evOp P call o t S = some (v, S)
theorem Sees.congr {o : Oper} {t : Tm} {v : V} {S S2 : St} (hc : clsOf o = .L) (h : Sees P call o t v S) (hr : ∀ id, readId o t = some id → (S2.get id).look = (S.get id).look) : Sees P call o t v S2 := (L_spec hc h).2 S2 hr
theorem Sees.live {o : Oper} {t : Tm} {v : V} {S : St} {id : Id} (hc : clsOf o = .L) (h : Sees P call o t v S) (hr : readId o t = some id) : S.get id ≠ .free := fun e => readId_look hc h hr (by rw [e]; rfl)
/-- Between two points of the text: no effect changes what the load sees. -/
def Quiet (P : Program) (call : CallF) (ops : Array Oper) (B : Nat → Bool) (Z : Nat → St) (ol : Oper) (tl : Tm) (v : V) (i j : Nat) : Prop :=
  ∀ c, i ≤ c → c < j → ∀ o, ops[c]? = some o → clsOf o = .E → B c = true → (Sees P call ol tl v (Z c) ↔ Sees P call ol tl v (Z (c + 1)))
variable {ol : Oper} {tl : Tm} {v : V}
theorem Tr.see1 (h : Tr P nt call ops t S T Z B R) (hl : clsOf ol = .L) {c : Nat} (hc : c < ops.size) (hq : ∀ o, ops[c]? = some o → clsOf o = .E → B c = true → (Sees P call ol tl v (Z c) ↔ Sees P call ol tl v (Z (c + 1))))
    (hA : ∀ id, readId ol tl = some id → IsA ops B c → (Z c).nx ≠ id) : Sees P call ol tl v (Z c) ↔ Sees P call ol tl v (Z (c + 1)) := by
  have hs : ops[c]? = some ops[c] := Array.getElem?_eq_getElem hc
  have hr := h.run c _ hs
  cases hb : B c with
  | false => rw [hb] at hr; simp at hr; rw [hr.2]
  | true =>
    rw [hb] at hr
    simp only [if_true] at hr
    cases hcl : clsOf ops[c] with
    | P => rw [(P_spec hcl hr).1]
    | L => rw [(L_spec hcl hr).1]
    | E => exact hq _ hs hcl hb
    | A =>
      have ha : IsA ops B c := ⟨_, hs, hcl, hb⟩
      obtain ⟨_, _, _, h2⟩ := h.made ha
      have e : ∀ id, readId ol tl = some id → ((Z (c + 1)).get id).look = ((Z c).get id).look := fun id hid => by
        rw [h2, if_neg (fun e => hA id hid ha e.symm)]
      exact ⟨fun h1 => h1.congr hl e, fun h1 => h1.congr hl fun id hid => (e id hid).symm⟩
theorem Tr.see (h : Tr P nt call ops t S T Z B R) (hl : clsOf ol = .L) {i : Nat} : ∀ (k : Nat), i + k ≤ ops.size → Quiet P call ops B Z ol tl v i (i + k) → (∀ c, i ≤ c → c < i + k → ∀ id, readId ol tl = some id → IsA ops B c → (Z c).nx ≠ id) →
    (Sees P call ol tl v (Z i) ↔ Sees P call ol tl v (Z (i + k)))
  | 0, _, _, _ => Iff.rfl
  | k + 1, hk, hq, hA =>
    (h.see hl k (by omega) (fun c h1 h2 => hq c h1 (by omega)) fun c h1 h2 => hA c h1 (by omega)).trans
      (h.see1 hl (c := i + k) (by omega) (hq (i + k) (by omega) (by omega)) (hA (i + k) (by omega) (by omega)))
/-- What a load sees in the store of the effects. -/
theorem Tr.sees (h : Tr P nt call ops t S T Z B R) (hnf : CallNf call) (hl : clsOf ol = .L) {i e : Nat} (hi : i ≤ ops.size) (he : e ≤ ops.size) (hv : Sees P call ol tl v (Z i))
    (hq1 : i ≤ e → Quiet P call ops B Z ol tl v i e) (hq2 : e ≤ i → Quiet P call ops B Z ol tl v e i) : Sees P call ol tl v (hatS ops Z B e) := by
  rcases Nat.le_total i e with hie | hie
  · have hA : ∀ c, i ≤ c → c < i + (e - i) → ∀ id, readId ol tl = some id → IsA ops B c → (Z c).nx ≠ id := by
      intro c h1 h2 id hid ha e1
      obtain ⟨_, _, h3, _⟩ := h.made ha
      rw [e1] at h3
      exact h.nf' hnf h1 (by omega) id (hv.live hl hid) h3
    have := (h.see hl (i := i) (e - i) (by omega) (by rw [Nat.add_sub_cancel' hie]; exact hq1 hie) hA).1 hv
    rw [Nat.add_sub_cancel' hie] at this
    exact this.congr hl fun id hid => by rw [hat_live (this.live hl hid)]
  · by_cases hA : ∃ c, e ≤ c ∧ c < i ∧ IsA ops B c ∧ readId ol tl = some (Z c).nx
    · obtain ⟨c, h1, h2, ha, h3⟩ := hA
      obtain ⟨cs, _, h4, h5⟩ := h.made ha
      have hz : (Z e).get (Z c).nx = .free := Classical.byContradiction fun hc => h.nf' hnf h1 (by omega) _ hc h4
      have h6 := (h.see hl (ol := ol) (tl := tl) (v := v) (i := c + 1) (i - (c + 1)) (by omega) (by rw [Nat.add_sub_cancel' h2]; exact fun c' h1' h2' => hq2 hie c' (by omega) (by omega)) fun c' h1' h2' id hid ha' e' => by
        rw [h3] at hid; injection hid with hid
        have := h.inj hnf ha' ha (by rw [e', hid])
        omega).2 (by rw [Nat.add_sub_cancel' h2]; exact hv)
      refine h6.congr hl fun id hid => ?_
      rw [h3] at hid; injection hid with hid; subst hid
      rw [hat_free hz, h.preX_eq hnf ha]
    · have := (h.see hl (ol := ol) (tl := tl) (v := v) (i := e) (i - e) (by omega) (by rw [Nat.add_sub_cancel' hie]; exact hq2 hie) fun c h1 h2 id hid ha e1 => hA ⟨c, h1, by omega, ha, by rw [hid, e1]⟩).2 (by rw [Nat.add_sub_cancel' hie]; exact hv)
      exact this.congr hl fun id hid => by rw [hat_live (this.live hl hid)]
/-- The store of the effects, where no effect lies between. -/
theorem Tr.hat_same (h : Tr P nt call ops t S T Z B R) (hnf : CallNf call) {e : Nat} : ∀ (k : Nat), e + k ≤ ops.size → (∀ c, e ≤ c → c < e + k → ∀ o, ops[c]? = some o → clsOf o = .E → B c = true → False) →
    ∀ id, (hatS ops Z B (e + k)).get id = (hatS ops Z B e).get id
  | 0, _, _, id => rfl
  | k + 1, hk, hq, id => by
    rw [← h.hat_same hnf k (by omega) (fun c h1 h2 => hq c h1 (by omega)) id]
    have hc : e + k < ops.size := by omega
    have hs : ops[e + k]? = some ops[e + k] := Array.getElem?_eq_getElem hc
    have hr := h.run (e + k) _ hs
    have same : Z (e + k + 1) = Z (e + k) → (hatS ops Z B (e + (k + 1))).get id = (hatS ops Z B (e + k)).get id := by
      intro e1
      show (hatS ops Z B (e + k + 1)).get id = _
      unfold hatS; rw [e1]
    cases hb : B (e + k) with
    | false => rw [hb] at hr; simp at hr; exact same hr.2
    | true =>
      rw [hb] at hr
      simp only [if_true] at hr
      cases hcl : clsOf ops[e + k] with
      | P => exact same (P_spec hcl hr).1
      | L => exact same (L_spec hcl hr).1
      | E => exact (hq (e + k) (by omega) (by omega) _ hs hcl hb).elim
      | A =>
        have ha : IsA ops B (e + k) := ⟨_, hs, hcl, hb⟩
        obtain ⟨cs, _, h1, h2⟩ := h.made ha
        by_cases hid : id = (Z (e + k)).nx
        · have h3 : (Z (e + k + 1)).get id = .cells cs 0 [] := by rw [h2, if_pos hid]
          show (hatS ops Z B (e + k + 1)).get id = _
          rw [hat_live (by rw [h3]; simp), hat_free (by rw [hid]; exact h1), hid, h.preX_eq hnf ha]
        · show (hatS ops Z B (e + k + 1)).get id = _
          unfold hatS
          simp only [h2, if_neg hid]
/-- And an effect. -/
theorem Tr.hat_ext (h : Tr P nt call ops t S T Z B R) (hnf : CallNf call) {i : Nat} {o : Oper} (hi : ops[i]? = some o) (hc : clsOf o = .E) : Ext (Z i) (Z (i + 1)) (hatS ops Z B i) := by
  refine ⟨rfl, fun id h1 => hat_live h1, fun id h1 h2 => ?_⟩
  rw [hat_free h1] at h2 ⊢
  obtain ⟨j, ha, e⟩ := preX_some h2
  subst e
  rw [h.preX_eq hnf ha] at h2 ⊢
  obtain ⟨cs, _, h3, h4⟩ := h.made ha
  refine ⟨by rw [h4, if_pos rfl]; rfl, ?_⟩
  have hj : j < ops.size := by obtain ⟨o, ho, _⟩ := ha; exact (Array.getElem?_eq_some_iff.1 ho).1
  have hne : j ≠ i := by
    intro e; subst e
    obtain ⟨o', ho', hc', _⟩ := ha
    rw [hi] at ho'; injection ho' with ho'; subst ho'; rw [hc] at hc'; cases hc'
  have hil : i < ops.size := (Array.getElem?_eq_some_iff.1 hi).1
  have hij : i < j := by
    refine Classical.byContradiction fun hc => ?_
    have := h.nf' hnf (i := j + 1) (j := i) (by omega) (by omega) (Z j).nx (by rw [h4, if_pos rfl]; simp)
    exact this h1
  exact Classical.byContradiction fun hc => h.nf' hnf (i := i + 1) (j := j) hij (by omega) _ hc h3
theorem Tr.hat_post (h : Tr P nt call ops t S T Z B R) (hnf : CallNf call) {i : Nat} {X' : St} (hi : i < ops.size) (hp : Post (Z (i + 1)) (hatS ops Z B i) X') : ∀ id, X'.get id = (hatS ops Z B (i + 1)).get id := by
  intro id
  by_cases hz : (Z (i + 1)).get id = .free
  · rw [hp.more id hz, hat_free hz]
    exact hat_free (Classical.byContradiction fun hc => h.nf1 hnf hi id hc hz)
  · rw [hp.same id hz, hat_live hz]
end
end Go.Vm

namespace Go.Vm
variable [Gl]
open Go.RowKit

section
variable {P : Program} {call : CallF} {nt : Nat} {ops : Array Oper} {t : Tm} {S S1 S2 : St} {T : Nat → Tm} {Z : Nat → St} {B : Nat → Bool} {R : Nat → V} {Γ Γ' Γ0 : Ctx} {w w' w0 : World}

theorem Mem.swap (h : Mem Γ S1 w) (hs : ∀ (id : Id) (b : Nat), Γ.φ id = some b → S2.get id = S1.get id) : Mem Γ S2 w where
  glb := h.glb
  fro := h.fro
  lt := h.lt
  alive id b hb := by rw [hs id b hb]; exact h.alive id b hb
  row id b l fz anc hb hq := h.row id b l fz anc hb (by rw [← hs id b hb]; exact hq)
  frz id b l fz anc hb hq := h.frz id b l fz anc hb (by rw [← hs id b hb]; exact hq)
  old id b l hb hq := h.old id b l hb (by rw [← hs id b hb]; exact hq)
  one id id' b h1 h2 h3 h4 := h.one id id' b h1 h2 (by rw [← hs id b h1]; exact h3) (by rw [← hs id' b h2]; exact h4)
  anc id b l fz anc id' l' h1 h2 h3 h4 := h.anc id b l fz anc id' l' h1 (by rw [← hs id b h1]; exact h2) h3 (by rw [← hs id' b h3]; exact h4)
  map id b l hb hq := h.map id b l hb (by rw [← hs id b hb]; exact hq)
  mst id id' b l l' h1 h2 h3 h4 := h.mst id id' b l l' h1 (by rw [← hs id b h1]; exact h2) h3 (by rw [← hs id' b h3]; exact h4)
theorem Step.swap (h : Step Γ S w Γ' S1 w') (hs : ∀ (id : Id) (b : Nat), Γ'.φ id = some b → S2.get id = S1.get id) (hp : ∀ (id : Id), Γ.φ id = none → (S.get id).live = true → S2.get id = S1.get id) : Step Γ S w Γ' S2 w' where
  le := h.le
  mem := h.mem.swap hs
  os := h.os
  tape := h.tape
  output := h.output
  size := h.size
  frame := h.frame
  pend id h1 h2 := by
    obtain ⟨e1, e2⟩ := h.pend id h1 h2
    exact ⟨by rw [hp id h1 h2]; exact e1, e2⟩
  own id b h1 h2 := by
    rcases h.own id b h1 h2 with ⟨e1, e2⟩ | e
    · exact .inl ⟨e1, fun h3 => e2 (by rw [← hs id b h1]; exact h3)⟩
    · exact .inr e
  mu := h.mu
  fz := h.fz

/-- How many are not listed. -/
def unl (L : Nat → Bool) : Nat → Nat
  | 0 => 0
  | n + 1 => unl L n + if L n then 0 else 1
theorem unl_zero {L : Nat → Bool} : ∀ (n : Nat), unl L n = 0 → ∀ j < n, L j = true
  | 0, _, j, hj => by omega
  | n + 1, h, j, hj => by
    simp only [unl] at h
    cases hl : L n with
    | false => rw [hl] at h; simp at h
    | true =>
      by_cases e : j = n
      · rw [e]; exact hl
      · exact unl_zero n (by omega) j (by omega)
theorem unl_same {L L' : Nat → Bool} : ∀ (n : Nat), (∀ j < n, L' j = L j) → unl L' n = unl L n
  | 0, _ => rfl
  | n + 1, h => by simp only [unl, h n (by omega), unl_same n fun j hj => h j (by omega)]
theorem unl_put {L L' : Nat → Bool} {i : Nat} (hL : ∀ j, L' j = (L j || j == i)) (hi : L i = false) : ∀ (n : Nat), i < n → unl L' n + 1 = unl L n
  | 0, h => by omega
  | n + 1, h => by
    simp only [unl]
    by_cases e : i = n
    · subst e
      rw [unl_same (L := L) (L' := L') i fun j hj => by
        rw [hL]; have : (j == i) = false := by simp; omega
        simp [this]]
      simp [hL, hi]
    · have ih := unl_put hL hi n (by omega)
      have : L' n = L n := by
        rw [hL]; have : (n == i) = false := by simp; omega
        simp [this]
      rw [this]; omega

structure Inv (P : Program) (call : CallF) (nt : Nat) (ops : Array Oper) (t : Tm) (S : St) (T : Nat → Tm) (Z : Nat → St) (B : Nat → Bool) (R : Nat → V) (Γ0 : Ctx) (w0 : World) (L : Nat → Bool) (e : Nat) (Γ : Ctx) (a : Act) (w : World) : Prop where
  he : e ≤ ops.size
  hE : ∀ (c : Nat) (o : Oper), ops[c]? = some o → clsOf o = .E → B c = true → (L c = true ↔ c < e)
  st : Step Γ0 S w0 Γ (hatS ops Z B e) w
  un : ∀ (j : Nat), IsA ops B j → L j = false → Γ.φ (Z j).nx = none ∧ (hatS ops Z B e).get (Z j).nx = (Z (j + 1)).get (Z j).nx
  tm : TmRel Γ nt (tmL ops nt t R L) a
  down : Down ops L

variable {L L' : Nat → Bool} {e e' i : Nat} {o : Oper} {a a' : Act}
/-- The invariant behind an operation. -/
theorem Inv.next (h : Inv P call nt ops t S T Z B R Γ0 w0 L e Γ a w) (ho : OrdOK ops) (hi : ops[i]? = some o) (hL : ∀ j, L' j = (L j || j == i)) (hun : L i = false) (hr : ∀ j, Waits ops j i → L j = true)
    (he' : e' ≤ ops.size) (hE' : ∀ (c : Nat) (o : Oper), ops[c]? = some o → clsOf o = .E → B c = true → (L' c = true ↔ c < e'))
    (st : Step Γ0 S w0 Γ' (hatS ops Z B e') w')
    (un : ∀ (j : Nat), IsA ops B j → L j = false → j ≠ i → Γ'.φ (Z j).nx = none ∧ (hatS ops Z B e').get (Z j).nx = (hatS ops Z B e).get (Z j).nx)
    (tm : TmRel Γ' nt (putT nt (tmL ops nt t R L) o.dst (R i)) a') : Inv P call nt ops t S T Z B R Γ0 w0 L' e' Γ' a' w' := by
  refine ⟨he', hE', st, fun j ha hl => ?_, ?_, ?_⟩
  · rw [hL] at hl
    simp only [Bool.or_eq_false_iff, beq_eq_false_iff_ne] at hl
    obtain ⟨h1, h2⟩ := un j ha hl.1 hl.2
    exact ⟨h1, h2.trans (h.un j ha hl.1).2⟩
  · rw [tmL_put hi hL (tmL_last ho hi h.down hun)]; exact tm
  · intro j k hw hk
    rw [hL] at hk ⊢
    simp only [Bool.or_eq_true, beq_iff_eq] at hk ⊢
    rcases hk with hk | hk
    · exact .inl (h.down j k hw hk)
    · subst hk; exact .inl (hr j hw)
theorem Inv.quietE (h : Inv P call nt ops t S T Z B R Γ0 w0 L e Γ a w) (hi : ops[i]? = some o) (hL : ∀ j, L' j = (L j || j == i)) (hn : clsOf o = .E → B i = true → False) :
    ∀ (c : Nat) (o : Oper), ops[c]? = some o → clsOf o = .E → B c = true → (L' c = true ↔ c < e) := by
  intro c oc hc hcl hb
  have : c ≠ i := by
    intro e; subst e
    rw [hi] at hc; injection hc with hc; subst hc
    exact hn hcl hb
  rw [hL]
  have h2 : (c == i) = false := by simpa using this
  rw [h2, Bool.or_false]
  exact h.hE c oc hc hcl hb
theorem Inv.pendA (h : Inv P call nt ops t S T Z B R Γ0 w0 L e Γ a w) (htr : Tr P nt call ops t S T Z B R) {j : Nat} (ha : IsA ops B j) (hl : L j = false) : Γ.φ (Z j).nx = none ∧ ((hatS ops Z B e).get (Z j).nx).live = true := by
  obtain ⟨h1, h2⟩ := h.un j ha hl
  obtain ⟨cs, _, _, h3⟩ := htr.made ha
  exact ⟨h1, by rw [h2, h3, if_pos rfl]; rfl⟩

/-- One operation that is ready. -/
theorem Inv.op (h : Inv P call nt ops t S T Z B R Γ0 w0 L e Γ a w) (ho : OrdOK ops) (htr : Tr P nt call ops t S T Z B R) (hdy : DynOK P call ops T Z B) (hcall : CallOK P call) (hnf : CallNf call) (hmo : CallMono call)
    (hi : ops[i]? = some o) (hL : ∀ j, L' j = (L j || j == i)) (hun : L i = false) (hr : ∀ j, Waits ops j i → L j = true) {rn : Option Nat} {Q : Exit → Act → World → Prop} {K : Act → World → Prop}
    (hK : ∀ e' Γ' a' w', Inv P call nt ops t S T Z B R Γ0 w0 L' e' Γ' a' w' → K a' w') : wpOpIn (Wr rn) 0 P ops Q i K a w := by
  have hil : i < ops.size := (Array.getElem?_eq_some_iff.1 hi).1
  have hsee : ∀ d ∈ o.looksAt ops, tmL ops nt t R L d = T i d := by
    rw [htr.tm i (by omega)]
    exact tmL_sees ho hi h.down hr hun
  have hw : wanted ops o (tmL ops nt t R L) = some (B i) := by rw [wanted_congr hsee]; exact htr.want i o hi
  have hww := wanted_rel (ops := ops) h.tm hw
  unfold wpOpIn
  rw [hi]
  simp only [hww]
  have hrun := htr.run i o hi
  cases hb : B i with
  | false =>
    rw [hb] at hrun
    simp only [Bool.false_eq_true, if_false] at hrun ⊢
    refine ⟨fun _ _ => trivial, ?_⟩
    refine hK e Γ _ w (h.next ho hi hL hun hr h.he (h.quietE hi hL fun _ hc => by rw [hb] at hc; cases hc) h.st (fun j ha hl _ => ⟨(h.un j ha hl).1, rfl⟩) ?_)
    rw [hrun.1]
    exact h.tm.put _ (.tup _ _ .nil)
  | true =>
    rw [hb] at hrun
    simp only [if_true] at hrun ⊢
    cases hcl : clsOf o with
    | P =>
      obtain ⟨_, hsp⟩ := P_spec hcl hrun
      have hev : evOp P call o (tmL ops nt t R L) (hatS ops Z B e) = some (R i, hatS ops Z B e) := by rw [evOp_look hsee]; exact hsp _
      refine op_sound hcall hev h.st.mem h.tm.rel fun Γ' u w' hst hrel => ?_
      refine hK e Γ' _ w' (h.next ho hi hL hun hr h.he (h.quietE hi hL fun hc => by rw [hcl] at hc; cases hc) (h.st.trans hst) (fun j ha hl _ => ?_) ((h.tm.mono hst.le).put _ hrel))
      obtain ⟨h1, h2⟩ := h.pendA htr ha hl
      exact ⟨(hst.pend _ h1 h2).2, rfl⟩
    | L =>
      have hi1 : Z (i + 1) = Z i := (L_spec hcl hrun).1
      have hsee1 : Sees P call o (T i) (R i) (Z i) := by unfold Sees; rw [hrun, hi1]
      have hev : evOp P call o (tmL ops nt t R L) (hatS ops Z B e) = some (R i, hatS ops Z B e) := by
        rw [evOp_look hsee]
        refine htr.sees hnf hcl (by omega) h.he hsee1 (fun hle c h1 h2 oc hoc hce hbc => ?_) (fun hle c h1 h2 oc hoc hce hbc => ?_)
        · have hlc : L c = true := (h.hE c oc hoc hce hbc).2 h2
          refine hdy.look i c o oc hi hoc hcl hce hb hbc (fun hbef => ?_) (fun hbef => ?_) (R i)
          · rw [h.down.bef hbef hlc] at hun; cases hun
          · have := ho.lt hbef; omega
        · have hlc : L c = false := by
            cases hq : L c with
            | false => rfl
            | true => have := (h.hE c oc hoc hce hbc).1 hq; omega
          refine hdy.look i c o oc hi hoc hcl hce hb hbc (fun hbef => ?_) (fun hbef => ?_) (R i)
          · have := ho.lt hbef; omega
          · rw [h.down.ready hr hbef] at hlc; cases hlc
      refine op_sound hcall hev h.st.mem h.tm.rel fun Γ' u w' hst hrel => ?_
      refine hK e Γ' _ w' (h.next ho hi hL hun hr h.he (h.quietE hi hL fun hc => by rw [hcl] at hc; cases hc) (h.st.trans hst) (fun j ha hl _ => ?_) ((h.tm.mono hst.le).put _ hrel))
      obtain ⟨h1, h2⟩ := h.pendA htr ha hl
      exact ⟨(hst.pend _ h1 h2).2, rfl⟩
    | A =>
      have ha : IsA ops B i := ⟨o, hi, hcl, hb⟩
      have hev : evOp P call o (tmL ops nt t R L) (Z i) = some (R i, Z (i + 1)) := by rw [evOp_look hsee]; exact hrun
      obtain ⟨cs, av, i', hn, hv, har⟩ := A_spec hcl hev
      obtain ⟨cs', hn', hfree, hget⟩ := htr.made ha
      have hnx : i' = (Z i).nx ∧ ∃ n, (Z i).nx.next = some n := by
        unfold St.new at hn
        split at hn
        · split at hn
          · rename_i n hn2
            injection hn with hn; injection hn with e1 _; exact ⟨e1.symm, n, hn2⟩
          · cases hn
        · cases hn
      obtain ⟨e1, n, hnext⟩ := hnx
      subst e1
      obtain ⟨h1, h2⟩ := h.un i ha hun
      have hcell : (hatS ops Z B e).get (Z i).nx = .cells cs 0 [] := by
        rw [h2]
        obtain ⟨_, h3⟩ := St.new_eq hn
        rw [h3, if_pos rfl]
      let M : St := { get := fun id => if id = (Z i).nx then .free else (hatS ops Z B e).get id, nx := (Z i).nx }
      have hM : M.new (.cells cs 0 []) = some ((Z i).nx, { get := fun j => if j = (Z i).nx then .cells cs 0 [] else M.get j, nx := n }) := by
        unfold St.new
        simp only [M, if_true, hnext]
      have hSf : S.get (Z i).nx = .free := by
        refine Classical.byContradiction fun hc => ?_
        have := htr.nf' hnf (i := 0) (j := i) (by omega) (by omega) (Z i).nx (by rw [htr.z0]; exact hc)
        exact this hfree
      have hstM : Step Γ0 S w0 Γ M w := by
        refine h.st.swap (fun id b hb => ?_) (fun id _ hl => ?_)
        · have : id ≠ (Z i).nx := fun e => by rw [e, h1] at hb; cases hb
          simp only [M, if_neg this]
        · have : id ≠ (Z i).nx := fun e => by rw [e, hSf] at hl; cases hl
          simp only [M, if_neg this]
      obtain ⟨Γ', w', u, hex, hst, hrel⟩ := (har Γ w a h.tm.rel).comes hstM.mem hM
      have hback : ∀ id, (hatS ops Z B e).get id = (if id = (Z i).nx then .cells cs 0 [] else M.get id) := by
        intro id
        by_cases hid : id = (Z i).nx
        · rw [if_pos hid, hid, hcell]
        · rw [if_neg hid]; simp only [M, if_neg hid]
      refine wp_value (fun c hc => by simp only [clsOf, hc] at hcl; cases hcl) hex (hK e Γ' _ w' (h.next ho hi hL hun hr h.he (h.quietE hi hL fun hc => by rw [hcl] at hc; cases hc) ((hstM.trans hst).swap (fun id _ _ => hback id) (fun id _ _ => hback id)) (fun j hj hl hne => ?_) ((h.tm.mono hst.le).put _ (hv ▸ hrel))))
      obtain ⟨h3, h4⟩ := h.pendA htr hj hl
      have hid : (Z j).nx ≠ (Z i).nx := fun e => hne (htr.inj hnf hj ha e)
      exact ⟨(hst.pend _ h3 (by simp only [M, if_neg hid]; exact h4)).2, rfl⟩
    | E =>
      -- all effects before it have been, none behind it
      have hei : e ≤ i := by
        refine Nat.le_of_not_lt fun hc => ?_
        rw [(h.hE i o hi hcl hb).2 hc] at hun; cases hun
      have hnone : ∀ c, e ≤ c → c < e + (i - e) → ∀ o, ops[c]? = some o → clsOf o = .E → B c = true → False := by
        intro c h1 h2 oc hoc hce hbc
        have := h.down.ready hr (hdy.eff c i oc o hoc hi (by omega) hce hcl hbc hb)
        have := (h.hE c oc hoc hce hbc).1 this
        omega
      have hsame := htr.hat_same hnf (e := e) (i - e) (by omega) hnone
      rw [Nat.add_sub_cancel' hei] at hsame
      have hev : evOp P call o (tmL ops nt t R L) (Z i) = some (R i, Z (i + 1)) := by rw [evOp_look hsee]; exact hrun
      obtain ⟨X', hX, hpost⟩ := evOp_mono hmo hev (htr.hat_ext hnf hi hcl)
      have hst0 : Step Γ0 S w0 Γ (hatS ops Z B i) w := h.st.swap (fun id _ _ => hsame id) (fun id _ _ => hsame id)
      refine op_sound hcall hX hst0.mem h.tm.rel fun Γ' u w' hst hrel => ?_
      have hXe := htr.hat_post hnf hil hpost
      refine hK (i + 1) Γ' _ w' (h.next ho hi hL hun hr (by omega) (fun c oc hoc hce hbc => ?_) ((hst0.trans hst).swap (fun id _ _ => (hXe id).symm) (fun id _ _ => (hXe id).symm)) (fun j hj hl _ => ?_) ((h.tm.mono hst.le).put _ hrel))
      · rw [hL]
        rcases Nat.lt_trichotomy c i with hl | hl | hl
        · have := h.down.ready hr (hdy.eff c i oc o hoc hi hl hce hcl hbc hb)
          simp [this]; omega
        · subst hl; simp
        · have hbef := hdy.eff i c o oc hi hoc hl hcl hce hb hbc
          have hlc : L c = false := by
            cases hq : L c with
            | false => rfl
            | true => rw [h.down.bef hbef hq] at hun; cases hun
          simp [hlc]; omega
      · obtain ⟨h1, h2⟩ := h.pendA htr hj hl
        rw [← hsame] at h2
        obtain ⟨h3, h4⟩ := hst.pend _ h1 h2
        refine ⟨h4, ?_⟩
        rw [← hXe, h3, hsame]

theorem Inv.all (h : Inv P call nt ops t S T Z B R Γ0 w0 L e Γ a w) (htr : Tr P nt call ops t S T Z B R) (hnf : CallNf call) (hall : ∀ j < ops.size, L j = true) : Step Γ0 S w0 Γ (Z ops.size) w ∧ TmRel Γ nt (T ops.size) a := by
  have hsame := htr.hat_same hnf (e := e) (ops.size - e) (by have := h.he; omega) fun c h1 h2 o hc hcl hb => by
    have := (h.hE c o hc hcl hb).1 (hall c (by have := h.he; omega))
    omega
  rw [Nat.add_sub_cancel' h.he] at hsame
  have hZ : ∀ id, (Z ops.size).get id = (hatS ops Z B e).get id := by
    intro id
    rw [← hsame]
    by_cases hz : (Z ops.size).get id = .free
    · rw [hat_free hz]
      refine hz.trans (Eq.symm (Classical.byContradiction fun hc => ?_))
      obtain ⟨j, ha, e⟩ := preX_some hc
      obtain ⟨cs, _, _, h3⟩ := htr.made ha
      have hj : j < ops.size := by obtain ⟨o, ho, _⟩ := ha; exact (Array.getElem?_eq_some_iff.1 ho).1
      have := htr.nf' hnf (i := j + 1) (j := ops.size) hj (Nat.le_refl _) id (by rw [h3, if_pos e.symm]; simp)
      exact this hz
    · rw [hat_live hz]
  refine ⟨h.st.swap (fun id _ _ => hZ id) (fun id _ _ => hZ id), ?_⟩
  have : T ops.size = tmL ops nt t R L := by
    rw [htr.tm _ (Nat.le_refl _)]
    funext x
    exact tmL_congr fun j hj _ => by rw [hall j hj]; simp [hj]
  rw [this]; exact h.tm

theorem wpAny_inv (ho : OrdOK ops) (htr : Tr P nt call ops t S T Z B R) (hdy : DynOK P call ops T Z B) (hcall : CallOK P call) (hnf : CallNf call) (hmo : CallMono call) {rn : Option Nat} {Q : Exit → Act → World → Prop}
    (hQ : ∀ Γ' a' w', Step Γ0 S w0 Γ' (Z ops.size) w' → TmRel Γ' nt (T ops.size) a' → Q .normal a' w') : ∀ (fuel : Nat) (listed : Array Bool) {e : Nat} {Γ : Ctx} {a : Act} {w : World}, listed.size = ops.size →
    Inv P call nt ops t S T Z B R Γ0 w0 (fun j => listed.getD j false) e Γ a w → unl (fun j => listed.getD j false) ops.size ≤ fuel → wpAnyIn (Wr rn) 0 P .any ops Q fuel listed a w := by
  have hsome : ∀ (listed : Array Bool) (j : Nat), listed.size = ops.size → j < ops.size → listed.getD j true = listed.getD j false := by
    intro listed j h1 h2
    simp [Array.getD, h1, h2]
  have hdone : ∀ (listed : Array Bool) {e : Nat} {Γ : Ctx} {a : Act} {w : World}, listed.size = ops.size → Inv P call nt ops t S T Z B R Γ0 w0 (fun j => listed.getD j false) e Γ a w → Region.ready .any ops listed = [] → Q .normal a w := by
    intro listed e Γ a w hsz hinv hready
    have hall : ∀ j < ops.size, listed.getD j false = true := by
      intro j
      induction j using Nat.strongRecOn with
      | _ j ih =>
        intro hj
        refine Classical.byContradiction fun hc => ?_
        have hmem : j ∈ Region.ready .any ops listed := by
          refine mem_ready.2 ⟨by rw [hsome listed j hsz hj]; simpa using hc, ops[j], Array.getElem?_eq_getElem hj, fun ed hed hb => ?_⟩
          have hlt := ho.back ed.on j ⟨ops[j], Array.getElem?_eq_getElem hj, ed, hed, hb, rfl⟩
          exact ih ed.on hlt (by omega)
        rw [hready] at hmem; cases hmem
    obtain ⟨h1, h2⟩ := hinv.all htr hnf hall
    exact hQ Γ a w h1 h2
  intro fuel
  induction fuel with
  | zero =>
    intro listed e Γ a w hsz hinv hf
    have hall := unl_zero ops.size (by omega : unl (fun j => listed.getD j false) ops.size = 0)
    have hready : Region.ready .any ops listed = [] := by
      cases hq : Region.ready .any ops listed with
      | nil => rfl
      | cons j r =>
        have hm : j ∈ Region.ready .any ops listed := by rw [hq]; simp
        obtain ⟨h1, o, h2, _⟩ := mem_ready.1 hm
        have hj := (Array.getElem?_eq_some_iff.1 h2).1
        have h4 : listed.getD j false = true := hall j hj
        rw [hsome listed j hsz hj, h4] at h1; cases h1
    exact ⟨hready, hdone listed hsz hinv hready⟩
  | succ fuel ih =>
    intro listed e Γ a w hsz hinv hf
    refine ⟨hdone listed hsz hinv, fun i hi => ?_⟩
    obtain ⟨h1, o, h2, h3⟩ := mem_ready.1 hi
    have hil := (Array.getElem?_eq_some_iff.1 h2).1
    rw [hsome listed i hsz hil] at h1
    have hL : ∀ j, (listed.setIfInBounds i true).getD j false = (listed.getD j false || j == i) := by
      intro j
      by_cases e : j = i
      · subst e; simp [hsz, hil]
      · have hb : (j == i) = false := by simpa using e
        rw [getD_set_ne false (Ne.symm e), hb, Bool.or_false]
    refine hinv.op ho htr hdy hcall hnf hmo h2 hL h1 (fun j hw => ?_) fun e' Γ' a' w' hinv' => ih _ (by simpa using hsz) hinv' ?_
    · obtain ⟨o', ho', ed, hed, hb, heq⟩ := hw
      rw [h2] at ho'; injection ho' with ho'; subst ho'
      rw [← heq]; exact h3 ed hed hb
    · have := unl_put hL h1 ops.size hil
      omega

variable (P) in
/-- Drawn regions whose order has no effect. -/
def drawOK (call : CallF) (nt : Nat) (ops : Array Oper) (t : Tm) (S : St) : Prop :=
  OrdOK ops ∧ ∃ (T : Nat → Tm) (Z : Nat → St) (B : Nat → Bool) (R : Nat → V), Tr P nt call ops t S T Z B R ∧ DynOK P call ops T Z B

theorem Tr.ends (h : Tr P nt call ops t S T Z B R) : evOps P nt call ops ops.toList t S = some (T ops.size, Z ops.size) := by
  have key : ∀ (l : List Oper) (k : Nat), (∀ j, l[j]? = ops[k + j]?) → k + l.length = ops.size → evOps P nt call ops l (T k) (Z k) = some (T ops.size, Z ops.size) := by
    intro l
    induction l with
    | nil => intro k _ hk; simp at hk; subst hk; rfl
    | cons o r ih =>
      intro k hl hk
      have hi : ops[k]? = some o := by rw [← Nat.add_zero k, ← hl 0]; rfl
      have hr := ih (k + 1) (fun j => by
        have := hl (j + 1)
        simp only [List.getElem?_cons_succ] at this
        rw [this]; congr 1; omega) (by simp at hk; omega)
      have h1 := h.want k o hi
      have h2 := h.run k o hi
      have h3 := h.put k o hi
      unfold evOps
      rw [h1]
      cases hb : B k with
      | true =>
        rw [hb] at h2
        simp only [if_true] at h2
        simp only [h2, ← h3]; exact hr
      | false =>
        rw [hb] at h2
        simp only [Bool.false_eq_true, if_false] at h2
        obtain ⟨r1, r2⟩ := h2
        rw [r1] at h3
        rw [r2, h3] at hr
        exact hr
  have := key ops.toList 0 (fun j => by simp) (by simp)
  rwa [h.t0, h.z0] at this
theorem hat_zero (h : Tr P nt call ops t S T Z B R) {id : Id} (hs : S.get id ≠ .free) : (hatS ops Z B 0).get id = S.get id := by
  have := hat_live (ops := ops) (B := B) (Z := Z) (e := 0) (id := id) (by rw [h.z0]; exact hs)
  rw [this, h.z0]
theorem drawSound (hmix : P.follows .mixedOrders = true) : DrawSound P (drawOK P) := by
  intro call hcall hnf hmo nt id ops Γ t t' S S' a w rn Q hok hev hm ht hQ
  obtain ⟨ho, T, Z, B, R, htr, hdy⟩ := hok
  have hends := htr.ends
  rw [hev] at hends
  injection hends with hends; injection hends with e1 e2
  refine wpIn_region_any hmix ?_
  have hw : Step Γ S w Γ S { w with drawn := w.drawn + 1 } := .of_heap hm rfl rfl rfl rfl
  refine wpAny_inv (Γ0 := Γ) (w0 := w) ho htr hdy hcall hnf hmo (fun Γ' a' w' h1 h2 => hQ Γ' a' w' (e2 ▸ h1) (e1 ▸ h2)) ops.size (Array.replicate ops.size false) (e := 0) (Γ := Γ) (by simp) ?_ ?_
  · have hL : ∀ j, (Array.replicate ops.size false).getD j false = false := by
      intro j
      simp only [Array.getD]
      split <;> simp
    refine ⟨Nat.zero_le _, fun c o _ _ _ => by simp only [hL]; simp, ?_, fun j ha _ => ?_, ?_, fun j i _ hl => by simp only [hL] at hl; cases hl⟩
    · refine hw.swap (fun i b hb => hat_zero htr (hm.alive i b hb)) (fun i _ hl => hat_zero htr fun e => by rw [e] at hl; cases hl)
    · obtain ⟨cs, _, h1, h2⟩ := htr.made ha
      have hj : j < ops.size := by obtain ⟨o, ho, _⟩ := ha; exact (Array.getElem?_eq_some_iff.1 ho).1
      have hSf : S.get (Z j).nx = .free := by
        refine Classical.byContradiction fun hc => ?_
        exact htr.nf' hnf (i := 0) (j := j) (by omega) (by omega) (Z j).nx (by rw [htr.z0]; exact hc) h1
      refine ⟨?_, ?_⟩
      · cases hq : Γ.φ (Z j).nx with
        | none => rfl
        | some b => exact absurd hSf (hm.alive _ b hq)
      · rw [hat_free (by rw [htr.z0]; exact hSf), htr.preX_eq hnf ha]
    · have : tmL ops nt t R (fun j => (Array.replicate ops.size false).getD j false) = t := by
        have h0 := htr.tm 0 (Nat.zero_le _)
        rw [htr.t0] at h0
        refine Eq.trans ?_ h0.symm
        funext x
        refine tmL_congr fun j _ _ => by simp only [hL]; simp
      rw [this]; exact ht
  · have : ∀ n, unl (fun j => (Array.replicate ops.size false).getD j false) n ≤ n := by
      intro n
      induction n with
      | zero => exact Nat.le_refl _
      | succ n ih => simp only [unl]; split <;> omega
    exact this _
end
end Go.Vm

namespace Go.Vm
variable [Gl]
open Go.RowKit

section
variable {P : Program} {call : CallF} {nt : Nat} {ops : Array Oper} {t : Tm} {S X : St} {T T' : Nat → Tm} {Z Z' : Nat → St} {B B' : Nat → Bool} {R R' : Nat → V}

theorem Tr.mono (h : Tr P nt call ops t S T Z B R) (k : Tr P nt call ops t X T' Z' B' R') (hmo : CallMono call) (hnf : CallNf call) (hx : Ext S (Z ops.size) X) :
    ∀ (i : Nat), i ≤ ops.size → T' i = T i ∧ Post (Z i) X (Z' i) ∧ Ext (Z i) (Z ops.size) (Z' i)
  | 0, _ => by
    rw [h.t0, k.t0, h.z0, k.z0]
    exact ⟨rfl, ⟨hx.nx, hx.same, fun _ _ => rfl⟩, hx⟩
  | i + 1, hi => by
    obtain ⟨e1, p, x⟩ := h.mono k hmo hnf hx i (by omega)
    have hs : ops[i]? = some ops[i] := Array.getElem?_eq_getElem (by omega)
    have hb : B' i = B i := by
      have h1 := h.want i _ hs
      have h2 := k.want i _ hs
      rw [e1, h1] at h2; injection h2 with h2; exact h2.symm
    have h1 := h.run i _ hs
    have h2 := k.run i _ hs
    have n1 : Nf (Z i) (Z (i + 1)) := h.nf1 hnf (by omega)
    have n2 : Nf (Z (i + 1)) (Z ops.size) := h.nf' hnf hi (Nat.le_refl _)
    rw [k.put i _ hs, h.put i _ hs, e1]
    rw [hb, e1] at h2
    cases hq : B i with
    | false =>
      rw [hq] at h1 h2
      simp only [Bool.false_eq_true, if_false] at h1 h2
      rw [h1.1, h1.2, h2.1, h2.2]
      exact ⟨rfl, p, x⟩
    | true =>
      rw [hq] at h1 h2
      simp only [if_true] at h1 h2
      obtain ⟨X1, q1, q2⟩ := evOp_mono hmo h1 (x.first n2)
      rw [q1] at h2; injection h2 with h2; injection h2 with h3 h4
      rw [← h3, ← h4]
      refine ⟨rfl, p.trans q2 n1, x.second n1 q2⟩
theorem drawMono : OkMono P (drawOK P) := by
  intro call hmo hnf nt ops t t' S S' X hok hev hx
  obtain ⟨ho, T, Z, B, R, htr, hdy⟩ := hok
  have hends := htr.ends
  rw [hev] at hends
  injection hends with hends; injection hends with e1 e2
  obtain ⟨X', hX, _⟩ := evOps_mono hmo hnf _ hev hx
  obtain ⟨T', Z', B', R', htr', _, _⟩ := tr_exists hX
  have hm := htr.mono htr' hmo hnf (e2 ▸ hx)
  refine ⟨ho, T', Z', B', R', htr', ?_⟩
  have hB : ∀ (i : Nat) (o : Oper), ops[i]? = some o → B' i = B i := by
    intro i o hi
    have hil := (Array.getElem?_eq_some_iff.1 hi).1
    have h1 := htr.want i o hi
    have h2 := htr'.want i o hi
    rw [(hm i (by omega)).1, h1] at h2; injection h2 with h2; exact h2.symm
  refine ⟨fun i j oi oj hi hj hlt c1 c2 b1 b2 => ?_, fun i c oi oc hi hc c1 c2 b1 b2 n1 n2 v => ?_⟩
  · rw [hB i oi hi] at b1; rw [hB j oj hj] at b2
    exact hdy.eff i j oi oj hi hj hlt c1 c2 b1 b2
  · rw [hB i oi hi] at b1; rw [hB c oc hc] at b2
    have hil := (Array.getElem?_eq_some_iff.1 hi).1
    have hcl := (Array.getElem?_eq_some_iff.1 hc).1
    rw [(hm i (by omega)).1]
    have hl := hdy.look i c oi oc hi hc c1 c2 b1 b2 n1 n2 v
    obtain ⟨_, p1, x1⟩ := hm c (by omega)
    obtain ⟨_, p2, x2⟩ := hm (c + 1) (by omega)
    cases hid : readId oi (T i) with
    | none =>
      have go : ∀ (S1 S2 : St), evOp P call oi (T i) S1 = some (v, S1) → evOp P call oi (T i) S2 = some (v, S2) := fun S1 S2 h1 =>
        (L_spec c1 h1).2 S2 fun id hq => by rw [hid] at hq; cases hq
      exact ⟨go _ _, go _ _⟩
    | some id =>
      have go : ∀ (S1 S2 : St), (S2.get id).look = (S1.get id).look → evOp P call oi (T i) S1 = some (v, S1) → evOp P call oi (T i) S2 = some (v, S2) := fun S1 S2 he h1 =>
        (L_spec c1 h1).2 S2 fun id' hq => by rw [hid] at hq; injection hq with hq; subst hq; exact he
      by_cases hz : (Z c).get id = .free
      · by_cases hz2 : (Z (c + 1)).get id = .free
        · have e : (Z' (c + 1)).get id = (Z' c).get id := by rw [p1.more id hz, p2.more id hz2]
          exact ⟨go _ _ (by rw [e]), go _ _ (by rw [e])⟩
        · have hx : X.get id = .free := by
            refine Classical.byContradiction fun hc => ?_
            have := (x1.more id hz (by rw [p1.more id hz]; exact hc)).2
            exact htr.nf' hnf (i := c + 1) (j := ops.size) hcl (Nat.le_refl _) id hz2 this
          have e1 : (Z' c).get id = .free := by rw [p1.more id hz, hx]
          refine ⟨fun h1 => absurd (by rw [e1]; rfl) (readId_look c1 h1 hid), fun h1 => ?_⟩
          have h2 := go _ (Z (c + 1)) (by rw [p2.same id hz2]) h1
          exact absurd (by rw [hz]; rfl) (readId_look c1 (hl.2 h2) hid)
      · have hz2 : (Z (c + 1)).get id ≠ .free := htr.nf1 hnf hcl id hz
        have e1 := p1.same id hz
        have e2 := p2.same id hz2
        exact ⟨fun h1 => go _ _ (by rw [e2]) (hl.1 (go _ _ (by rw [e1]) h1)), fun h1 => go _ _ (by rw [e1]) (hl.2 (go _ _ (by rw [e2]) h1))⟩
end

/-- Known answers that may be relied on. -/
structure BaseOK (P : Program) (base : AskF) : Prop where
  ok : CallOK P (ansOf base)
  nf : CallNf (ansOf base)
  mono : AskMono base
  same : AskSame base
theorem calls_ok {P : Program} (hmix : P.follows .mixedOrders = true) {base : AskF} (hb : BaseOK P base) (n : Nat) : CallOK P (callN P base (drawOK P) n) :=
  callN_sound hmix hb.ok hb.nf hb.mono hb.same (drawSound hmix) drawMono n
def noBase : AskF := fun _ _ _ => none
theorem noBase_ok (P : Program) : BaseOK P noBase :=
  ⟨fun _ _ _ _ _ h => by simp [ansOf, noBase] at h, fun _ _ _ _ _ h => by simp [ansOf, noBase] at h, fun _ _ _ _ _ h => by simp [noBase] at h, fun _ _ _ _ _ _ _ => rfl⟩
end Go.Vm

/-! Calls whose answers are known: they are asked for by values without objects. -/
namespace Go.Vm
variable [Gl]
open Go.RowKit

def frzL (F : V → Option V) : List V → Option (List V)
  | [] => some []
  | v :: r => match F v, frzL F r with
    | some a, some b => some (a :: b)
    | _, _ => none
/-- The elements of a row. -/
def frzE (F : V → Option V) (es : Nat) : Nat → List V → Option (List V)
  | 0, _ => some []
  | n + 1, l => if es ≤ l.length then match frzL F (l.take es), frzE F es n (l.drop es) with
      | some c, some r => some (.agg c :: r)
      | _, _ => none
    else none
def frzI (F : V → Option V) : List V → Option (List V)
  | [] => some []
  | v :: r => match frzL F v.cells, frzI F r with
    | some c, some r => some (.agg c :: r)
    | _, _ => none
/-- A value without objects that reads as this one does now. -/
def frz (g : Id → Ob) : Nat → V → Option V
  | 0, _ => none
  | n + 1, v => match v with
    | .bool b => some (.bool b)
    | .int k i => some (.int k i)
    | .str s => some (.str s)
    | .nilp => some .nilp
    | .nils => some .nils
    | .nilf => some .nilf
    | .nilm => some .nilm
    | .ptr id off => match g id with
      | .cells l _ _ => match frzL (frz g n) (l.drop off) with
        | some c => some (.ipt c)
        | none => none
      | _ => none
    | .ref es id off len => match g id with
      | .cells l _ _ => match frzE (frz g n) es len (l.drop off) with
        | some c => some (.imm es c)
        | none => none
      | .stale l => match frzE (frz g n) es len (l.drop off) with
        | some c => some (.imm es c)
        | none => none
      | _ => none
    | .ipt c => match frzL (frz g n) c with
      | some c => some (.ipt c)
      | none => none
    | .imm es l => match frzI (frz g n) l with
      | some l => some (.imm es l)
      | none => none
    | .fn f a c => match frzL (frz g n) a, frzL (frz g n) c with
      | some a, some c => some (.fn f a c)
      | _, _ => none
    | .agg c => match frzL (frz g n) c with
      | some c => some (.agg c)
      | none => none
    | _ => none
def frzAll (g : Id → Ob) : List V → Option (List V) := frzL (frz g 40)

/-- All that lies in memory, never to be written. -/
def Ctx.still (w : World) (Γ : Ctx) : Ctx := { φ := fun _ => none, bs := Γ.bs, es := Γ.es, μ := fun b o => w.cell? ⟨b, o, none⟩ }
def st0 : St := ⟨fun _ => .free, ⟨.q0, .q0, .q0, .q0, .q0, .q0, .q0, .q0⟩⟩
section
variable {Γ : Ctx} {S : St} {w : World} {F : V → Option V}
theorem relM_still : ∀ {cs : List V} {us : List Value} {b off : Nat}, RelL (Γ.still w) cs us → (∀ (j : Nat) (x : Value), us[j]? = some x → w.cell? ⟨b, off + j, none⟩ = some x) → (∀ x ∈ us, Value.oneCell' x = true) → RelM (Γ.still w) cs b off
  | [], us, b, off, _, _, _ => .nil b off
  | v :: vs, us, b, off, h, hc, ho => by
    cases h with
    | cons _ u _ us' hu hs =>
      refine .cons v u vs b off ?_ hu (ho u (by simp)) (relM_still hs (fun j x hx => ?_) fun x hx => ho x (by simp [hx]))
      · have := hc 0 u rfl
        show w.cell? ⟨b, off, none⟩ = some u
        simpa using this
      · have := hc (j + 1) x (by simpa using hx)
        rw [show off + 1 + j = off + (j + 1) by omega]; exact this
variable (hF : ∀ (v : V) (u : Value) (v' : V), Rel Γ v u → F v = some v' → Rel (Γ.still w) v' u)
include hF
theorem frzL_rel : ∀ {cs cs' : List V} {us : List Value}, RelL Γ cs us → frzL F cs = some cs' → RelL (Γ.still w) cs' us ∧ cs'.length = cs.length
  | [], cs', us, h, hf => by
    cases h
    injection hf with hf; subst hf
    exact ⟨.nil, rfl⟩
  | v :: vs, cs', us, h, hf => by
    cases h with
    | cons _ u _ us' hu hs =>
      simp only [frzL] at hf
      split at hf
      · rename_i a b ha hb
        injection hf with hf; subst hf
        obtain ⟨h1, h2⟩ := frzL_rel hs hb
        exact ⟨.cons a u b us' (hF v u a hu ha) h1, by simp [h2]⟩
      · cases hf
theorem frzE_rel {es b : Nat} : ∀ {n : Nat} {l r : List V} {us : List Value} {off : Nat}, RelL Γ l us → (∀ (j : Nat) (x : Value), us[j]? = some x → w.cell? ⟨b, off + j, none⟩ = some x) → (∀ x ∈ us, Value.oneCell' x = true) →
    frzE F es n l = some r → RelE (Γ.still w) es r b off ∧ r.length = n
  | 0, l, r, us, off, h, hc, ho, hf => by
    injection hf with hf; subst hf
    exact ⟨.nil es b off, rfl⟩
  | n + 1, l, r, us, off, h, hc, ho, hf => by
    simp only [frzE] at hf
    split at hf
    · rename_i hl
      split at hf
      · rename_i c r' h1 h2
        injection hf with hf; subst hf
        obtain ⟨a1, a2⟩ := frzL_rel hF (h.take es) h1
        obtain ⟨b1, b2⟩ := frzE_rel (off := off + es) (h.drop es) (fun j x hx => by
          rw [List.getElem?_drop] at hx
          have := hc (es + j) x hx
          rw [show off + es + j = off + (es + j) by omega]; exact this) (fun x hx => ho x (List.mem_of_mem_drop hx)) h2
        refine ⟨.cons es (.agg c) c r' b off rfl (by rw [a2, List.length_take]; omega) (relM_still a1 (fun j x hx => ?_) fun x hx => ho x (List.mem_of_mem_take hx)) b1, by simp [b2]⟩
        rw [List.getElem?_take] at hx
        split at hx
        · exact hc j x hx
        · cases hx
      · cases hf
    · cases hf
theorem frzI_rel (hm : Mem Γ S w) {es b : Nat} : ∀ {l r : List V} {off : Nat}, RelE Γ es l b off → frzI F l = some r → RelE (Γ.still w) es r b off ∧ r.length = l.length
  | [], r, off, h, hf => by
    injection hf with hf; subst hf
    exact ⟨.nil es b off, rfl⟩
  | v :: vs, r, off, h, hf => by
    simp only [frzI] at hf
    split at hf
    · rename_i c r' h1 h2
      injection hf with hf; subst hf
      cases h with
      | cons _ _ cs _ _ _ hv hl hM hs =>
        obtain ⟨b1, b2⟩ := frzI_rel hm hs h2
        obtain ⟨b', off', us, e1, e2, e3, e4⟩ := cellsAt_mem hm (v := .ipt v.cells) (cs := v.cells) (.ipt v.cells b off (by rw [hv]; exact hM)) rfl
        injection e1 with e1; injection e1 with e1; injection e1 with e1 e5; subst e1; subst e5
        obtain ⟨a1, a2⟩ := frzL_rel hF e2 h1
        exact ⟨.cons es (.agg c) c r' b off rfl (by rw [a2, hv, hl]) (relM_still a1 e3 e4) b1, by simp [b2]⟩
    · cases hf
end
theorem frz_rel {Γ : Ctx} {S : St} {w : World} (hm : Mem Γ S w) : ∀ (n : Nat) (v : V) (u : Value) (v' : V), Rel Γ v u → frz S.get n v = some v' → Rel (Γ.still w) v' u
  | 0, _, _, _, _, h => by cases h
  | n + 1, v, u, v', hr, h => by
    have ih := frz_rel hm n
    cases hr <;> simp only [frz] at h <;> try (cases h; done)
    case bool b => injection h with h; subst h; exact .bool b
    case int k i => injection h with h; subst h; exact .int k i
    case str s l hs => injection h with h; subst h; exact .str s l hs
    case nilp => injection h with h; subst h; exact .nilp
    case nils => injection h with h; subst h; exact .nils
    case nilf => injection h with h; subst h; exact .nilf
    case nilm => injection h with h; subst h; exact .nilm
    case ptr id off b hφ =>
      cases hs : S.get id with
      | cells l fz anc =>
        simp only [hs] at h
        split at h
        · rename_i c hc
          injection h with h; subst h
          obtain ⟨b', off', us, e1, e2, e3, e4⟩ := cellsAt_mem hm (v := .ptr id off) (cs := l.drop off) (.ptr id off b hφ) (by simp only [cellsAt, hs])
          injection e1 with e1; injection e1 with e1; injection e1 with e1 e5; subst e1; subst e5
          exact .ipt c b off (relM_still (frzL_rel ih e2 hc).1 e3 e4)
        · cases h
      | _ => simp only [hs] at h; cases h
    case ipt cs b off hM =>
      split at h
      · rename_i c hc
        injection h with h; subst h
        obtain ⟨b', off', us, e1, e2, e3, e4⟩ := cellsAt_mem hm (v := .ipt cs) (cs := cs) (.ipt cs b off hM) rfl
        injection e1 with e1; injection e1 with e1; injection e1 with e1 e5; subst e1; subst e5
        exact .ipt c b off (relM_still (frzL_rel ih e2 hc).1 e3 e4)
      · cases h
    case imm es l b off n' cap hE hn hc =>
      split at h
      · rename_i r hr
        injection h with h; subst h
        obtain ⟨a1, a2⟩ := frzI_rel ih hm hE hr
        exact .imm es r b off n' cap a1 (by rw [a2]; exact hn) hc
      · cases h
    case ref es id off off' len cap b hφ he hc hn ho =>
      have key : ∀ (l : List V), cellsAt S (.ptr id off) = some (l.drop off) → ∀ r, frzE (frz S.get n) es len (l.drop off) = some r → Rel (Γ.still w) (.imm es r) (.slice (some ⟨b, off', none⟩) len cap) := by
        intro l hl r hr
        obtain ⟨b', o', us, e1, e2, e3, e4⟩ := cellsAt_mem hm (v := .ptr id off) (cs := l.drop off) (.ptr id off b hφ) hl
        injection e1 with e1; injection e1 with e1; injection e1 with e1 e5; subst e1; subst e5
        obtain ⟨a1, a2⟩ := frzE_rel ih e2 e3 e4 hr
        refine .imm es r b off' len cap ?_ a2.symm hn
        rcases ho with ho | ho
        · rw [ho]; exact a1
        · have : r = [] := by
            cases r with
            | nil => rfl
            | cons _ _ => simp at a2; omega
          subst this; exact .nil es b off'
      cases hs : S.get id with
      | cells l fz anc =>
        simp only [hs] at h
        split at h
        · rename_i r hr; injection h with h; subst h; exact key l (by simp only [cellsAt, hs]) r hr
        · cases h
      | stale l =>
        simp only [hs] at h
        split at h
        · rename_i r hr; injection h with h; subst h; exact key l (by simp only [cellsAt, hs]) r hr
        · cases h
      | _ => simp only [hs] at h; cases h
    case fn f x y a c h1 h2 =>
      split at h
      · rename_i x' y' e1 e2
        injection h with h; subst h
        exact .fn f x' y' a c (frzL_rel ih h1 e1).1 (frzL_rel ih h2 e2).1
      · cases h
    case agg x a hx hc =>
      split at h
      · rename_i c hc'
        injection h with h; subst h
        exact .agg c a (frzL_rel ih hx hc').1 hc
      · cases h
theorem frzAll_rel {Γ : Ctx} {S : St} {w : World} (hm : Mem Γ S w) {args key : List V} {us : List Value} (hr : RelL Γ args us) (h : frzAll S.get args = some key) : RelL (Γ.still w) key us :=
  (frzL_rel (fun v u v' => frz_rel hm 40 v u v') hr h).1

/-! a larger store freezes alike -/
theorem frzL_congr {F G : V → Option V} (h : ∀ v v', F v = some v' → G v = some v') : ∀ {l r : List V}, frzL F l = some r → frzL G l = some r
  | [], _, e => e
  | v :: l, r, e => by
    simp only [frzL] at e ⊢
    split at e
    · rename_i a b ha hb
      rw [h v a ha, frzL_congr h hb]; exact e
    · cases e
theorem frzE_congr {F G : V → Option V} (h : ∀ v v', F v = some v' → G v = some v') {es : Nat} : ∀ {n : Nat} {l r : List V}, frzE F es n l = some r → frzE G es n l = some r
  | 0, _, _, e => e
  | n + 1, l, r, e => by
    simp only [frzE] at e ⊢
    split at e
    · rename_i hl
      rw [if_pos hl]
      split at e
      · rename_i a b ha hb
        rw [frzL_congr h ha, frzE_congr h hb]; exact e
      · cases e
    · cases e
theorem frzI_congr {F G : V → Option V} (h : ∀ v v', F v = some v' → G v = some v') : ∀ {l r : List V}, frzI F l = some r → frzI G l = some r
  | [], _, e => e
  | v :: l, r, e => by
    simp only [frzI] at e ⊢
    split at e
    · rename_i a b ha hb
      rw [frzL_congr h ha, frzI_congr h hb]; exact e
    · cases e
theorem frz_congr {g g' : Id → Ob} (h : ∀ id, g id ≠ .free → g' id = g id) : ∀ (n : Nat) (v v' : V), frz g n v = some v' → frz g' n v = some v'
  | 0, _, _, e => e
  | n + 1, v, v', e => by
    have ih := frz_congr h n
    cases v <;> simp only [frz] at e ⊢ <;> try exact e
    case ptr id off =>
      cases hg : g id with
      | cells l fz anc =>
        rw [h id (by rw [hg]; nofun), hg]
        simp only [hg] at e ⊢
        split at e
        · rename_i c hc; rw [frzL_congr ih hc]; exact e
        · cases e
      | _ => simp only [hg] at e; cases e
    case ref es id off len =>
      cases hg : g id with
      | cells l fz anc =>
        rw [h id (by rw [hg]; nofun), hg]
        simp only [hg] at e ⊢
        split at e
        · rename_i c hc; rw [frzE_congr ih hc]; exact e
        · cases e
      | stale l =>
        rw [h id (by rw [hg]; nofun), hg]
        simp only [hg] at e ⊢
        split at e
        · rename_i c hc; rw [frzE_congr ih hc]; exact e
        · cases e
      | _ => simp only [hg] at e; cases e
    case ipt c =>
      split at e
      · rename_i c hc; rw [frzL_congr ih hc]; exact e
      · cases e
    case imm es l =>
      split at e
      · rename_i c hc; rw [frzI_congr ih hc]; exact e
      · cases e
    case fn f a c =>
      split at e
      · rename_i a' c' ha hc; rw [frzL_congr ih ha, frzL_congr ih hc]; exact e
      · cases e
    case agg c =>
      split at e
      · rename_i c hc; rw [frzL_congr ih hc]; exact e
      · cases e
theorem frzAll_congr {S X : St} (h : ∀ id, S.get id ≠ .free → X.get id = S.get id) {args key : List V} (e : frzAll S.get args = some key) : frzAll X.get args = some key :=
  frzL_congr (fun v v' => frz_congr h 40 v v') e

/-! ### known answers -/
/-- Values that say nothing of memory. -/
def V.flat : V → Bool
  | .bool _ | .int .. | .str _ | .nilp | .nils | .nilf | .nilm => true
  | .agg c => c.all fun v => match v with | .bool _ | .int .. | .str _ | .nilp | .nils | .nilf | .nilm => true | _ => false
  | .tup c => c.all fun v => match v with
    | .bool _ | .int .. | .str _ | .nilp | .nils | .nilf | .nilm => true
    | .agg c => c.all fun v => match v with | .bool _ | .int .. | .str _ | .nilp | .nils | .nilf | .nilm => true | _ => false
    | _ => false
  | _ => false
theorem relL_flat {Γ Γ' : Ctx} {p : V → Bool} (h : ∀ v u, p v = true → Rel Γ v u → Rel Γ' v u) : ∀ {c : List V} {us : List Value}, c.all p = true → RelL Γ c us → RelL Γ' c us
  | [], _, _, hr => by cases hr; exact .nil
  | v :: c, us, hc, hr => by
    cases hr with
    | cons _ u _ us' hu hs =>
      simp only [List.all_cons, Bool.and_eq_true] at hc
      exact .cons v u c us' (h v u hc.1 hu) (relL_flat h hc.2 hs)
theorem rel_flat0 {Γ Γ' : Ctx} {v : V} {u : Value} (h : (match v with | .bool _ | .int .. | .str _ | .nilp | .nils | .nilf | .nilm => true | _ => false) = true) (hr : Rel Γ v u) : Rel Γ' v u := by
  cases hr <;> first | (cases h; done) | skip
  case bool b => exact .bool b
  case int k i => exact .int k i
  case str s l hs => exact .str s l hs
  case nilp => exact .nilp
  case nils => exact .nils
  case nilf => exact .nilf
  case nilm => exact .nilm
theorem rel_flat1 {Γ Γ' : Ctx} {v : V} {u : Value} (h : (match v with
    | .bool _ | .int .. | .str _ | .nilp | .nils | .nilf | .nilm => true
    | .agg c => c.all fun v => match v with | .bool _ | .int .. | .str _ | .nilp | .nils | .nilf | .nilm => true | _ => false
    | _ => false) = true) (hr : Rel Γ v u) : Rel Γ' v u := by
  cases v with
  | agg c => cases hr with | agg _ a hx hc => exact .agg c a (relL_flat (fun v u => rel_flat0) h hx) hc
  | bool b => exact rel_flat0 rfl hr
  | int k n => exact rel_flat0 rfl hr
  | str s => exact rel_flat0 rfl hr
  | nilp => exact rel_flat0 rfl hr
  | nils => exact rel_flat0 rfl hr
  | nilf => exact rel_flat0 rfl hr
  | nilm => exact rel_flat0 rfl hr
  | _ => cases h
theorem rel_flat {Γ Γ' : Ctx} {v : V} {u : Value} (h : v.flat = true) (hr : Rel Γ v u) : Rel Γ' v u := by
  cases v with
  | tup c => cases hr with | tup _ a hx => exact .tup c a (relL_flat (fun v u => rel_flat1) h hx)
  | agg c => exact rel_flat1 h hr
  | bool b => exact rel_flat0 rfl hr
  | int k n => exact rel_flat0 rfl hr
  | str s => exact rel_flat0 rfl hr
  | nilp => exact rel_flat0 rfl hr
  | nils => exact rel_flat0 rfl hr
  | nilf => exact rel_flat0 rfl hr
  | nilm => exact rel_flat0 rfl hr
  | _ => cases h

theorem Mem.still {Γ : Ctx} {S : St} {w : World} (hm : Mem Γ S w) : Mem (Γ.still w) st0 w where
  glb g := by
    have hg := hm.glb g
    rcases Gl.flat g with h | ⟨cs, h, hf⟩
    · rw [h]; exact .any _
    · rw [h] at hg ⊢
      obtain ⟨b, off, us, e1, e2, e3, e4⟩ := cellsAt_mem hm (v := .ipt cs) (cs := cs) hg rfl
      rw [e1]
      exact .ipt cs b off (relM_still (relL_flat (fun v u hv hr => rel_flat0 (by cases v <;> first | rfl | cases hv) hr) hf e2) e3 e4)
  fro b o u h := h
  lt id b h := by cases h
  alive id b h := by cases h
  row id b l fz anc h := by cases h
  frz id b l fz anc h := by cases h
  old id b l h := by cases h
  one id id' b h := by cases h
  anc id b l fz anc id' l' h := by cases h
  map id b l h := by cases h
  mst id id' b l l' h := by cases h
abbrev Memo : Type := FuncId → Option (List V → Option V)
/-- Known answers as calls to be asked. -/
def memoBase (memo : Memo) : AskF := fun f args S => match memo f with
  | none => none
  | some g => match frzAll S.get args with
    | none => some none
    | some key => match g key with
      | none => none
      | some v => some (some (v, S))
/-- The answers are those of runs from the empty store. -/
def Known (P : Program) (f : FuncId) (key : List V) (v : V) : Prop :=
  v.flat = true ∧ ∃ (base : AskF) (n : Nat) (S1 : St), BaseOK P base ∧ callN P base (drawOK P) n f key st0 = some (v, S1)
def MemoOK (P : Program) (memo : Memo) : Prop :=
  ∀ (f : FuncId) (g : List V → Option V) (key : List V) (v : V), memo f = some g → g key = some v → Known P f key v

theorem cell_kept {w w' : World} (h : ∀ b, b < w.heap.size → w'.heap[b]? = w.heap[b]?) {b o : Nat} {u : Value} (hu : w.cell? ⟨b, o, none⟩ = some u) : w'.cell? ⟨b, o, none⟩ = some u := by
  have hb : b < w.heap.size := by
    refine Nat.lt_of_not_le fun hn => ?_
    simp [World.cell?, Array.getElem?_eq_none hn] at hu
  simp only [World.cell?] at hu ⊢
  rw [h b hb]; exact hu
theorem Mem.grow {Γ : Ctx} {S : St} {w w' : World} (hm : Mem Γ S w) (h : ∀ b, b < w.heap.size → w'.heap[b]? = w.heap[b]?) (hs : w.heap.size ≤ w'.heap.size) : Mem Γ S w' where
  glb := hm.glb
  fro b o u hu := cell_kept h (hm.fro b o u hu)
  lt id b hb := Nat.lt_of_lt_of_le (hm.lt id b hb) hs
  alive := hm.alive
  row id b l fz anc hb he := by unfold RowAt; rw [h b (hm.lt id b hb)]; exact hm.row id b l fz anc hb he
  frz := hm.frz
  old id b l hb he := by
    obtain ⟨us, h1, h2, h3⟩ := hm.old id b l hb he
    exact ⟨us, h1, fun j u hj => cell_kept h (h2 j u hj), h3⟩
  one := hm.one
  anc := hm.anc
  map id b l hb he := by unfold MapAt; rw [h b (hm.lt id b hb)]; exact hm.map id b l hb he
  mst := hm.mst
theorem memo_ok {P : Program} (hmix : P.follows .mixedOrders = true) {memo : Memo} (h : MemoOK P memo) : BaseOK P (memoBase memo) where
  ok := by
    intro f args S r S' he
    simp only [ansOf, memoBase] at he
    cases hm : memo f with
    | none => simp only [hm] at he; cases he
    | some g =>
      simp only [hm] at he
      cases hk : frzAll S.get args with
      | none => simp only [hk] at he; cases he
      | some key =>
        simp only [hk] at he
        cases hg : g key with
        | none => simp only [hg] at he; cases he
        | some v =>
          simp only [hg] at he
          injection he with he; injection he with e1 e2; subst e1; subst e2
          obtain ⟨hfl, base, n, S1, hb, hc⟩ := h f g key v hm hg
          obtain ⟨he1, he2⟩ := calls_ok hmix hb n f key st0 v S1 hc
          refine ⟨he1, fun Γ w us hmem hrel cs => ?_⟩
          obtain ⟨e, w', fr, ⟨Γ', u, hu, hst, hr⟩, hrest⟩ := he2 (Γ.still w) w us hmem.still (frzAll_rel hmem hrel hk) cs
          have hkeep : ∀ b, b < w.heap.size → w'.heap[b]? = w.heap[b]? := fun b hb => hst.frame b hb (fun id hid => by cases hid)
          refine ⟨e, w', fr, ⟨Γ, u, hu, ?_, rel_flat hfl hr⟩, hrest⟩
          exact { le := .refl Γ, mem := hmem.grow hkeep hst.size, os := hst.os, tape := hst.tape, output := hst.output, size := hst.size, frame := fun b hb _ => hkeep b hb, pend := fun id h1 h2 => ⟨rfl, h1⟩, own := fun id b h1 _ => .inl ⟨h1, fun h => h⟩, mu := rfl, fz := hst.fz }
  nf := by
    intro f args S r S' he
    simp only [ansOf, memoBase] at he
    split at he
    · rename_i r0 h0
      subst he
      split at h0
      · cases h0
      · split at h0
        · cases h0
        · split at h0
          · cases h0
          · injection h0 with h0; injection h0 with h0; injection h0 with _ e2; subst e2; exact .refl _
    · cases he
  mono := by
    intro f args S r S' he X hx
    simp only [memoBase] at he ⊢
    split at he
    · cases he
    · split at he
      · cases he
      · rename_i key hk
        split at he
        · cases he
        · rename_i v hv
          injection he with he; injection he with he; injection he with e1 e2; subst e1; subst e2
          refine ⟨X, ?_, .refl hx⟩
          rw [frzAll_congr hx.same hk]
          simp only [hv]
  same := by
    intro f args S S' X he hx
    cases h0 : memo f with
    | none => simp only [memoBase, h0]
    | some g =>
      cases hk : frzAll S.get args with
      | none => simp only [memoBase, h0, hk] at he; cases he
      | some key =>
        cases hv : g key with
        | none => simp only [memoBase, h0, frzAll_congr hx.same hk, hv]
        | some v => simp only [memoBase, h0, hk, hv] at he; cases he
end Go.Vm

/-! Trees for the kernel. -/
namespace Go.Vm

structure N4 (α : Type) where
  a : α
  b : α
  c : α
  d : α
section
variable {α : Type}
noncomputable def N4.at (s : Sel) (n : N4 α) : α :=
  @Sel.rec (fun _ => N4 α → α) (fun n => n.a) (fun n => n.b) (fun n => n.c) (fun n => n.d) s n
def N4.upd (s : Sel) (f : α → α) (n : N4 α) : N4 α := match s with
  | .q0 => ⟨f n.a, n.b, n.c, n.d⟩
  | .q1 => ⟨n.a, f n.b, n.c, n.d⟩
  | .q2 => ⟨n.a, n.b, f n.c, n.d⟩
  | .q3 => ⟨n.a, n.b, n.c, f n.d⟩
theorem N4.at_upd (s r : Sel) (f : α → α) (n : N4 α) : (n.upd s f).at r = if r = s then f (n.at r) else n.at r := by
  cases s <;> cases r <;> rfl
/-- The last level. -/
noncomputable def N4.put (s : Sel) (o : α) (n : N4 α) (k : N4 α → Bool) : Bool :=
  @N4.rec α (fun _ => Sel → α → (N4 α → Bool) → Bool)
    (fun a b c d s o k => @Sel.rec (fun _ => α → α → α → α → α → (N4 α → Bool) → Bool)
      (fun _ b c d o k => k ⟨o, b, c, d⟩)
      (fun a _ c d o k => k ⟨a, o, c, d⟩)
      (fun a b _ d o k => k ⟨a, b, o, d⟩)
      (fun a b c _ o k => k ⟨a, b, c, o⟩) s a b c d o k) n s o k
/-- A level. -/
noncomputable def N4.go (s : Sel) (f : α → (α → Bool) → Bool) (n : N4 α) (k : N4 α → Bool) : Bool :=
  @N4.rec α (fun _ => Sel → (α → (α → Bool) → Bool) → (N4 α → Bool) → Bool)
    (fun a b c d s f k => @Sel.rec (fun _ => α → α → α → α → (α → (α → Bool) → Bool) → (N4 α → Bool) → Bool)
      (fun a b c d f k => f a fun x => k ⟨x, b, c, d⟩)
      (fun a b c d f k => f b fun x => k ⟨a, x, c, d⟩)
      (fun a b c d f k => f c fun x => k ⟨a, b, x, d⟩)
      (fun a b c d f k => f d fun x => k ⟨a, b, c, x⟩) s a b c d f k) n s f k
theorem N4.put_eq (s : Sel) (o : α) (n : N4 α) (k : N4 α → Bool) : n.put s o k = k (n.upd s fun _ => o) := by
  cases n; cases s <;> rfl
theorem N4.go_eq (s : Sel) (f : α → (α → Bool) → Bool) (g : α → α) (h : ∀ a k, f a k = k (g a)) (n : N4 α) (k : N4 α → Bool) : n.go s f k = k (n.upd s g) := by
  cases n; cases s <;> simp [N4.go, N4.upd, h]
end

/-! ### the store -/
abbrev L1 : Type := N4 Ob
abbrev L2 : Type := N4 L1
abbrev L3 : Type := N4 L2
abbrev L4 : Type := N4 L3
abbrev L5 : Type := N4 L4
abbrev L6 : Type := N4 L5
abbrev L7 : Type := N4 L6
abbrev L8 : Type := N4 L7
noncomputable def getO (i : Id) (t : L8) : Ob :=
  @Id.rec (fun _ => L8 → Ob) (fun d0 d1 d2 d3 d4 d5 d6 d7 t => ((((((((t.at d0).at d1).at d2).at d3).at d4).at d5).at d6).at d7)) i t
def setO (i : Id) (o : Ob) (t : L8) : L8 :=
  t.upd i.d0 fun t => t.upd i.d1 fun t => t.upd i.d2 fun t => t.upd i.d3 fun t => t.upd i.d4 fun t => t.upd i.d5 fun t => t.upd i.d6 fun t => t.upd i.d7 fun _ => o
noncomputable def putO (i : Id) (o : Ob) (t : L8) (k : L8 → Bool) : Bool :=
  @Id.rec (fun _ => Ob → L8 → (L8 → Bool) → Bool) (fun d0 d1 d2 d3 d4 d5 d6 d7 o t k =>
    t.go d0 (fun t k => t.go d1 (fun t k => t.go d2 (fun t k => t.go d3 (fun t k => t.go d4 (fun t k => t.go d5 (fun t k => t.go d6 (fun t k => t.put d7 o k) k) k) k) k) k) k) k) i o t k
/-- f does what g says. -/
def Good {α : Type} (f : α → (α → Bool) → Bool) (g : α → α) : Prop := ∀ a k, f a k = k (g a)
theorem Good.put {α : Type} (s : Sel) (o : α) : Good (fun (t : N4 α) k => t.put s o k) (fun t => t.upd s fun _ => o) := fun t k => N4.put_eq s o t k
theorem Good.go {α : Type} {f : α → (α → Bool) → Bool} {g : α → α} (h : Good f g) (s : Sel) : Good (fun (t : N4 α) k => t.go s f k) (fun t => t.upd s g) := fun t k => N4.go_eq s f g h t k
theorem putO_eq (i : Id) (o : Ob) (t : L8) (k : L8 → Bool) : putO i o t k = k (setO i o t) := by
  cases i with
  | mk d0 d1 d2 d3 d4 d5 d6 d7 => exact (((((((Good.put d7 o).go d6).go d5).go d4).go d3).go d2).go d1).go d0 t k
theorem getO_setO (i j : Id) (o : Ob) (t : L8) : getO j (setO i o t) = if j = i then o else getO j t := by
  cases i with
  | mk d0 d1 d2 d3 d4 d5 d6 d7 =>
    cases j with
    | mk e0 e1 e2 e3 e4 e5 e6 e7 =>
      simp only [getO, setO, N4.at_upd]
      by_cases h0 : e0 = d0
      rotate_left
      · simp [N4.at_upd, h0]
      subst h0
      by_cases h1 : e1 = d1
      rotate_left
      · simp [N4.at_upd, h1]
      subst h1
      by_cases h2 : e2 = d2
      rotate_left
      · simp [N4.at_upd, h2]
      subst h2
      by_cases h3 : e3 = d3
      rotate_left
      · simp [N4.at_upd, h3]
      subst h3
      by_cases h4 : e4 = d4
      rotate_left
      · simp [N4.at_upd, h4]
      subst h4
      by_cases h5 : e5 = d5
      rotate_left
      · simp [N4.at_upd, h5]
      subst h5
      by_cases h6 : e6 = d6
      rotate_left
      · simp [N4.at_upd, h6]
      subst h6
      by_cases h7 : e7 = d7
      rotate_left
      · simp [N4.at_upd, h7]
      subst h7
      simp [N4.at_upd]
def e1 : L1 := ⟨.free, .free, .free, .free⟩
def e2 : L2 := ⟨e1, e1, e1, e1⟩
def e3 : L3 := ⟨e2, e2, e2, e2⟩
def e4 : L4 := ⟨e3, e3, e3, e3⟩
def e5 : L5 := ⟨e4, e4, e4, e4⟩
def e6 : L6 := ⟨e5, e5, e5, e5⟩
def e7 : L7 := ⟨e6, e6, e6, e6⟩
def e8 : L8 := ⟨e7, e7, e7, e7⟩
theorem getO_empty (i : Id) : getO i e8 = .free := by
  have at_all : ∀ {α : Type} (s : Sel) (x : α), N4.at s ⟨x, x, x, x⟩ = x := by intro α s x; cases s <;> rfl
  cases i with
  | mk d0 d1 d2 d3 d4 d5 d6 d7 => simp only [getO, e8, e7, e6, e5, e4, e3, e2, e1, at_all]

structure KS where
  t : L8
  nx : Id
noncomputable def KS.abs (s : KS) : St := ⟨fun i => getO i s.t, s.nx⟩
theorem KS.abs_set (t : L8) (n : Id) (i : Id) (o : Ob) : (KS.abs ⟨setO i o t, n⟩) = (KS.abs ⟨t, n⟩).set i o := by
  unfold KS.abs St.set
  congr
  funext j
  exact getO_setO i j o t
def id0 : Id := ⟨.q0, .q0, .q0, .q0, .q0, .q0, .q0, .q0⟩
def ks0 : KS := ⟨e8, id0⟩

/-- The next name. -/
noncomputable def nextK (i : Id) (k : Id → Bool) : Bool :=
  @Id.rec (fun _ => (Id → Bool) → Bool) (fun d0 d1 d2 d3 d4 d5 d6 d7 k =>
    @Sel.rec (fun _ => Sel → Sel → Sel → Sel → Sel → Sel → Sel → (Id → Bool) → Bool)
      (fun d0 d1 d2 d3 d4 d5 d6 k => k ⟨d0, d1, d2, d3, d4, d5, d6, .q1⟩)
      (fun d0 d1 d2 d3 d4 d5 d6 k => k ⟨d0, d1, d2, d3, d4, d5, d6, .q2⟩)
      (fun d0 d1 d2 d3 d4 d5 d6 k => k ⟨d0, d1, d2, d3, d4, d5, d6, .q3⟩)
      (fun d0 d1 d2 d3 d4 d5 d6 k => @Option.rec Id (fun _ => (Id → Bool) → Bool) (fun _ => false) (fun j k => k j) (Id.next ⟨d0, d1, d2, d3, d4, d5, d6, .q3⟩) k) d7 d0 d1 d2 d3 d4 d5 d6 k) i k
theorem nextK_some {i : Id} {k : Id → Bool} (h : nextK i k = true) : ∃ j, i.next = some j ∧ k j = true := by
  cases i with
  | mk d0 d1 d2 d3 d4 d5 d6 d7 =>
    cases d7 with
    | q0 => exact ⟨_, rfl, h⟩
    | q1 => exact ⟨_, rfl, h⟩
    | q2 => exact ⟨_, rfl, h⟩
    | q3 =>
      cases hn : Id.next ⟨d0, d1, d2, d3, d4, d5, d6, .q3⟩ with
      | none => simp only [nextK, hn] at h; cases h
      | some j => simp only [nextK, hn] at h; exact ⟨j, rfl, h⟩
end Go.Vm

