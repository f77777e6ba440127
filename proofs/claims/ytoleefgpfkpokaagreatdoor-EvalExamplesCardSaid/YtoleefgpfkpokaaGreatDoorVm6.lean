import Derived.Test.YtoleefgpfkpokaaGreatDoorVm1
import Derived.Test.YtoleefgpfkpokaaGreatDoorVm2
import Derived.Test.YtoleefgpfkpokaaGreatDoorVm3
import Derived.Test.YtoleefgpfkpokaaGreatDoorVm4
import Derived.Test.YtoleefgpfkpokaaGreatDoorVm5
import Derived.Attr
import Derived.IntWalk
import Derived.ChangeArms
import Derived.OpenShut
import Derived.DataReads
import Derived.WideShapes
import Derived.ChangeReads
import Derived.ReadAgain
import Derived.ChangeBears
set_option autoImplicit false
set_option linter.unusedSectionVars false
set_option linter.unusedVariables false
set_option linter.unusedSimpArgs false
/-! Rewriting rules for open runs. -/
namespace Go.Vm
def wp {α : Type} (r : Option α) (k : α → Prop) : Prop := match r with
  | some a => k a
  | none => False
theorem wp_some {α : Type} (a : α) (k : α → Prop) : wp (some a) k = k a := (rfl)
theorem wp_none {α : Type} (k : α → Prop) : wp none k = False := (rfl)
theorem wp_map {α β : Type} (r : Option α) (f : α → β) (k : β → Prop) : wp (r.map f) k = wp r fun a => k (f a) := by cases r <;> rfl
theorem wp_ite {α : Type} {c : Prop} [Decidable c] (a : α) (k : α → Prop) : wp (if c then some a else none) k = (c ∧ k a) := by
  by_cases h : c <;> simp [h, wp]
theorem wp_ite' {α : Type} {c : Prop} [Decidable c] (r : Option α) (k : α → Prop) : wp (if c then r else none) k = (c ∧ wp r k) := by
  by_cases h : c <;> simp [h, wp]
theorem wp_ex {α : Type} {r : Option α} {k : α → Prop} (h : wp r k) : ∃ a, r = some a ∧ k a := by
  cases r with
  | none => exact h.elim
  | some a => exact ⟨a, rfl, h⟩
@[congr] theorem wp_congr {α : Type} {r r' : Option α} {k : α → Prop} (h : r = r') : wp r k = wp r' k := by rw [h]
/-- The one or the other; only the condition is looked at. -/
def cnd (b : Bool) (p q : Prop) : Prop := match b with
  | true => p
  | false => q
theorem cnd_true (p q : Prop) : cnd true p q = p := (rfl)
theorem cnd_false (p q : Prop) : cnd false p q = q := (rfl)
@[congr] theorem cnd_congr {b b' : Bool} {p q : Prop} (h : b = b') : cnd b p q = cnd b' p q := by rw [h]
def wpR (r : R) (k : V → St → Prop) : Prop := match r with
  | some (v, S) => k v S
  | none => False
@[congr] theorem wpR_congr {r r' : R} {k : V → St → Prop} (h : r = r') : wpR r k = wpR r' k := by rw [h]
theorem wpR_some (v : V) (S : St) (k : V → St → Prop) : wpR (some (v, S)) k = k v S := (rfl)
theorem wpR_ret1 (r : Option V) (S : St) (k : V → St → Prop) : wpR (ret1 r S) k = wp r fun v => k v S := by cases r <;> rfl
theorem wpR_ite {c : Prop} [Decidable c] (r : R) (k : V → St → Prop) : wpR (if c then r else none) k = (c ∧ wpR r k) := by
  by_cases h : c <;> simp [h, wpR]
def wpO (r : Option (Tm × St)) (K : Tm → St → Prop) : Prop := match r with
  | some (t, S) => K t S
  | none => False
def wpB (v : V) (k : Bool → Prop) : Prop := match v with
  | .bool b => k b
  | _ => False
@[congr] theorem wpB_congr {v v' : V} {k : Bool → Prop} (h : v = v') : wpB v k = wpB v' k := by rw [h]
theorem wpB_bool (b : Bool) (k : Bool → Prop) : wpB (.bool b) k = k b := (rfl)

/-! ### temporaries -/
def upd (t : Tm) (d : Nat) (v : V) : Tm := fun i => if i = d then v else t i
theorem upd_same (t : Tm) (d : Nat) (v : V) : upd t d v d = v := by simp [upd]
theorem upd_ne {t : Tm} {d i : Nat} {v : V} (h : (i == d) = false) : upd t d v i = t i := by
  have : i ≠ d := by simpa using h
  simp [upd, this]
theorem putT_upd {nt : Nat} {t : Tm} {d : Nat} {v : V} (h : d < nt) : putT nt t (some d) v = upd t d v := by
  simp only [putT, if_pos h]; rfl
theorem initT_get (l : List V) (i : Nat) : initT l i = l.getD i .any := (rfl)
theorem putT_same {nt : Nat} {t : Tm} {d : Nat} {v : V} (h : d < nt) : putT nt t (some d) v d = v := by
  simp [putT, h]
theorem putT_ne {nt : Nat} {t : Tm} {d i : Nat} {v : V} (h : (i == d) = false) : putT nt t (some d) v i = t i := by
  have : i ≠ d := by simpa using h
  simp only [putT]
  split <;> simp [this]
theorem putT_none (nt : Nat) (t : Tm) (v : V) : putT nt t none v = t := (rfl)

/-! ### values -/
theorem opPick_true (a b : V) : opPick (.bool true) a b = some a := (rfl)
theorem opPick_false (a b : V) : opPick (.bool false) a b = some b := (rfl)
theorem opAlloc_stL (z : List V) (l : List Ob) : opAlloc z (stL l) = some (.ptr (idOf l.length) 0, stL (l ++ [.cells z 0 []])) := by
  simp only [opAlloc, stL_new]
theorem opRow_stL (es m : Nat) (z : List V) (l : List Ob) : opRow es m z (stL l) = some (.ref es (idOf l.length) 0 m, stL (l ++ [.cells z 0 []])) := by
  simp only [opRow, stL_new]
theorem opMakeMap_stL (l : List Ob) : opMakeMap (stL l) = some (.map (idOf l.length), stL (l ++ [.map []])) := by
  simp only [opMakeMap, stL_new]
def okC : V → Bool
  | .any | .tup _ => false
  | _ => true
def boxR (v : V) (S : St) : R := match v with
  | .any => none
  | .tup _ => none
  | v => opAlloc v.cells S
theorem okC_agg (l : List V) : okC (.agg l) = true := by cases (0 : Nat) <;> rfl
theorem okC_bool (b : Bool) : okC (.bool b) = true := by cases (0 : Nat) <;> rfl
theorem okC_int (k : IntKind) (n : Int) : okC (.int k n) = true := by cases (0 : Nat) <;> rfl
theorem okC_str (s : List Nat) : okC (.str s) = true := by cases (0 : Nat) <;> rfl
theorem okC_imm (e : Nat) (l : List V) : okC (.imm e l) = true := by cases (0 : Nat) <;> rfl
theorem okC_ref (e : Nat) (i : Id) (o n : Nat) : okC (.ref e i o n) = true := by cases (0 : Nat) <;> rfl
theorem okC_ptr (i : Id) (o : Nat) : okC (.ptr i o) = true := by cases (0 : Nat) <;> rfl
theorem okC_nils : okC .nils = true := by cases (0 : Nat) <;> rfl
theorem boxR_ok {v : V} (h : okC v = true) (l : List Ob) : boxR v (stL l) = some (.ptr (idOf l.length) 0, stL (l ++ [.cells v.cells 0 []])) := by
  have : boxR v (stL l) = opAlloc v.cells (stL l) := by cases v <;> first | rfl | cases h
  rw [this, opAlloc_stL]
def hd1 : Option (List V) → Option V
  | some (x :: _) => some x
  | _ => none
theorem hd1_cons (x : V) (r : List V) : hd1 (some (x :: r)) = some x := (rfl)
def takeN (n : Nat) : Option (List V) → Option V
  | some cs => if n ≤ cs.length then some (.agg (cs.take n)) else none
  | none => none
theorem takeN_some (n : Nat) (cs : List V) : takeN n (some cs) = if n ≤ cs.length then some (.agg (cs.take n)) else none := (rfl)
def obCells (off : Nat) : Option Ob → Option (List V)
  | some (.cells c _ _) => some (c.drop off)
  | some (.stale c) => some (c.drop off)
  | _ => none
theorem obCells_cells (off : Nat) (c : List V) (fz : Nat) (anc : List Id) : obCells off (some (.cells c fz anc)) = some (c.drop off) := (rfl)
theorem cellsAt_ptr (l : List Ob) (k off : Nat) : cellsAt (stL l) (.ptr (idOf k) off) = obCells off l[k]? := by
  simp only [cellsAt, stL_get]
  cases h : l[k]? with
  | none => rfl
  | some o => cases o <;> rfl
theorem cellsAt_ipt (S : St) (cs : List V) : cellsAt S (.ipt cs) = some cs := (rfl)
section
variable {P : Program} {S : St}
theorem load_cell {e : TypeId} (h : isAggT P e = some false) (a : V) (S : St) : opLoad P e a S = hd1 (cellsAt S a) := by
  simp only [opLoad, h]
  cases cellsAt S a with
  | none => rfl
  | some cs => cases cs <;> rfl
theorem load_agg {e : TypeId} {m : Nat} (h : isAggT P e = some true) (hm : P.cellsOf e = m) (a : V) (S : St) : opLoad P e a S = takeN m (cellsAt S a) := by
  simp only [opLoad, h, hm]
  cases cellsAt S a <;> rfl
def writeR (S : St) (a : V) (vs : List V) : R := match writeAt S a vs with
  | some S => some (.any, S)
  | none => none
def stC (a x : V) (S : St) : R := if x.isCell = true then writeR S a [x] else none
theorem store_cell {e : TypeId} (h : isAggT P e = some false) (hm : P.cellsOf e = 1) (a x : V) (S : St) : opStore P e a x S = stC a x S := by
  simp only [opStore, h, hm, and_true]; rfl
def aggLen (m : Nat) : V → Option (List V)
  | .agg vs => if vs.length = m then some vs else none
  | _ => none
theorem aggLen_agg (m : Nat) (vs : List V) : aggLen m (.agg vs) = if vs.length = m then some vs else none := (rfl)
def stA (m : Nat) (a x : V) (S : St) : R := match aggLen m x with
  | some vs => writeR S a vs
  | none => none
theorem stA_agg (m : Nat) (a : V) (vs : List V) (S : St) : stA m a (.agg vs) S = if vs.length = m then writeR S a vs else none := by
  by_cases h : vs.length = m <;> simp [stA, aggLen, h]
theorem store_agg {e : TypeId} {m : Nat} (h : isAggT P e = some true) (hm : P.cellsOf e = m) (a x : V) (S : St) : opStore P e a x S = stA m a x S := by
  simp only [opStore, h, hm]
  cases x <;> simp only [aggLen, stA]
  split <;> rfl
/-- What is written into an object. -/
def wrX (l : List Ob) (k off : Nat) (vs : List V) : Option Ob → R
  | some (.cells c fz []) => if fz ≤ off ∧ off + vs.length ≤ c.length then some (.any, stL (l.set k (.cells (over c off vs) fz []))) else none
  | some (.cells c fz anc) => if fz ≤ off ∧ off + vs.length ≤ c.length ∧ idOf k ∉ anc then some (.any, (killAll anc (stL l)).set (idOf k) (.cells (over c off vs) fz [])) else none
  | _ => none
theorem wrX_nil (l : List Ob) (k off : Nat) (vs : List V) (c : List V) (fz : Nat) : wrX l k off vs (some (.cells c fz [])) = if fz ≤ off ∧ off + vs.length ≤ c.length then some (.any, stL (l.set k (.cells (over c off vs) fz []))) else none := rfl
theorem writeR_ptr (l : List Ob) (k off : Nat) (vs : List V) : writeR (stL l) (.ptr (idOf k) off) vs = wrX l k off vs l[k]? := by
  cases hl : l[k]? with
  | none => simp only [writeR, writeAt, stL_get, hl]; rfl
  | some o =>
    have hk : k < l.length := (List.getElem?_eq_some_iff.1 hl).1
    cases o with
    | cells c fz anc =>
      cases anc with
      | nil =>
        simp only [writeR, writeAt, stL_get, hl, Option.getD_some, List.not_mem_nil, not_false_eq_true, and_true, killAll, wrX]
        split
        · rename_i h1
          split at h1
          · rename_i h2
            injection h1 with h1
            rw [if_pos h2, ← h1, stL_set l k _ hk]
          · cases h1
        · rename_i h1
          split at h1
          · cases h1
          · rename_i h2; rw [if_neg h2]
      | cons i r =>
        simp only [writeR, writeAt, stL_get, hl, Option.getD_some, wrX]
        split
        · rename_i h1
          split at h1
          · rename_i h2
            injection h1 with h1
            rw [if_pos h2, h1]
          · cases h1
        · rename_i h1
          split at h1
          · cases h1
          · rename_i h2; rw [if_neg h2]
    | _ => simp only [writeR, writeAt, stL_get, hl]; rfl
theorem stC_eq {a x : V} {S : St} (h : x.isCell = true) : stC a x S = writeR S a [x] := by simp only [stC, h, if_true]
theorem isCell_bool (b : Bool) : V.isCell (.bool b) = true := by cases (0 : Nat) <;> rfl
theorem isCell_int (k : IntKind) (n : Int) : V.isCell (.int k n) = true := by cases (0 : Nat) <;> rfl
theorem isCell_str (s : List Nat) : V.isCell (.str s) = true := by cases (0 : Nat) <;> rfl
theorem isCell_imm (e : Nat) (l : List V) : V.isCell (.imm e l) = true := by cases (0 : Nat) <;> rfl
theorem isCell_ref (e : Nat) (i : Id) (o n : Nat) : V.isCell (.ref e i o n) = true := by cases (0 : Nat) <;> rfl
theorem isCell_ptr (i : Id) (o : Nat) : V.isCell (.ptr i o) = true := by cases (0 : Nat) <;> rfl
theorem isCell_nils : V.isCell .nils = true := by cases (0 : Nat) <;> rfl
theorem isCell_fn (f : FuncId) (a b : List V) : V.isCell (.fn f a b) = true := by cases (0 : Nat) <;> rfl
theorem isCell_map (i : Id) : V.isCell (.map i) = true := by cases (0 : Nat) <;> rfl
theorem okC_cell {v : V} (h : v.isCell = true) : okC v = true := by cases v <;> first | rfl | cases h
theorem cells_cell {v : V} (h : v.isCell = true) : v.cells = [v] := by cases v <;> first | rfl | cases h
theorem cells_agg (c : List V) : V.cells (.agg c) = c := (rfl)
theorem cells_bool (b : Bool) : V.cells (.bool b) = [.bool b] := (rfl)
theorem cells_int (k : IntKind) (n : Int) : V.cells (.int k n) = [.int k n] := (rfl)
theorem cells_str (s : List Nat) : V.cells (.str s) = [.str s] := (rfl)
theorem cells_nils : V.cells .nils = [.nils] := (rfl)
theorem cells_imm (e : Nat) (l : List V) : V.cells (.imm e l) = [.imm e l] := (rfl)
theorem cells_ref (e : Nat) (i : Id) (o n : Nat) : V.cells (.ref e i o n) = [.ref e i o n] := (rfl)
theorem cells_ptr (i : Id) (o : Nat) : V.cells (.ptr i o) = [.ptr i o] := (rfl)
def plL (l : List (Nat × Nat)) : Nat → Option (Nat × Nat) := fun i => l.toArray[i]?
theorem plL_at (l : List (Nat × Nat)) (i : Nat) : plL l i = l[i]? := by simp [plL]
theorem over_all (l vs : List V) (h : vs.length = l.length) : over l 0 vs = vs := by
  simp [over, h]
theorem addrAdd_ptr (off o : Nat) (i : Id) : addrAdd off (.ptr i o) = some (.ptr i (o + off)) := (rfl)
theorem addrAdd_ipt (off : Nat) (cs : List V) : addrAdd off (.ipt cs) = if off ≤ cs.length then some (.ipt (cs.drop off)) else none := (rfl)
def idxAddr (sz : Nat) (x i : V) : Option V := match asIdx i with
  | some i => match x with
    | .ref es id off n => if i < n ∧ es = sz then some (.ptr id (off + i * sz)) else none
    | .imm es l => if es = sz then (match l[i]? with
      | some v => some (.ipt v.cells)
      | none => none) else none
    | _ => none
  | none => none
theorem indexAddr_eq {e el : TypeId} {sz : Nat} (he : P.underlying e = some (.slice el)) (hs : szT P el = some sz) (x i : V) : opIndexAddr P e x i = idxAddr sz x i := by
  simp only [opIndexAddr, he, idxAddr]
  cases asIdx i with
  | none => rfl
  | some i =>
    simp only [hs]
    cases x <;> rfl
theorem asIdx_nat (k : IntKind) (j : Nat) : asIdx (.int k (j : Int)) = some j := by
  simp [asIdx]
theorem idxAddr_imm (es : Nat) (l : List V) (k : IntKind) (j : Nat) : idxAddr es (.imm es l) (.int k (j : Int)) = (l[j]?).map fun v => .ipt v.cells := by
  simp only [idxAddr, asIdx_nat, if_true]
  cases l[j]? <;> rfl
theorem idxAddr_ref (es : Nat) (i : Id) (off n : Nat) (k : IntKind) (j : Nat) : idxAddr es (.ref es i off n) (.int k (j : Int)) = if j < n then some (.ptr i (off + j * es)) else none := by
  simp only [idxAddr, asIdx_nat, and_true]
/-! numbers -/
theorem bin_lss (e : TypeId) (k : IntKind) (a b : Int) : binV P .lss e (.int k a) (.int k b) = some (.bool (decide (a < b))) := by simp [binV, intV]
theorem bin_leq (e : TypeId) (k : IntKind) (a b : Int) : binV P .leq e (.int k a) (.int k b) = some (.bool (decide (a ≤ b))) := by simp [binV, intV]
theorem bin_gtr (e : TypeId) (k : IntKind) (a b : Int) : binV P .gtr e (.int k a) (.int k b) = some (.bool (decide (b < a))) := by simp [binV, intV]
theorem bin_geq (e : TypeId) (k : IntKind) (a b : Int) : binV P .geq e (.int k a) (.int k b) = some (.bool (decide (b ≤ a))) := by simp [binV, intV]
theorem bin_eql (e : TypeId) (k : IntKind) (a b : Int) : binV P .eql e (.int k a) (.int k b) = some (.bool (a == b)) := by simp [binV, intV]
theorem bin_neq (e : TypeId) (k : IntKind) (a b : Int) : binV P .neq e (.int k a) (.int k b) = some (.bool (a != b)) := by simp [binV, intV]
theorem bin_add (e : TypeId) (k : IntKind) (a b : Int) : binV P .add e (.int k a) (.int k b) = some (.int k (k.wrap (a + b))) := by simp [binV, intV]
theorem bin_sub (e : TypeId) (k : IntKind) (a b : Int) : binV P .sub e (.int k a) (.int k b) = some (.int k (k.wrap (a - b))) := by simp [binV, intV]
theorem bin_mul (e : TypeId) (k : IntKind) (a b : Int) : binV P .mul e (.int k a) (.int k b) = some (.int k (k.wrap (a * b))) := by simp [binV, intV]
theorem bin_seql (e : TypeId) (a b : List Nat) : binV P .eql e (.str a) (.str b) = some (.bool (a == b)) := (rfl)
theorem bin_sneq (e : TypeId) (a b : List Nat) : binV P .neq e (.str a) (.str b) = some (.bool (!(a == b))) := (rfl)
theorem bin_beql {e : TypeId} (he : P.underlying e = some .bool) (a b : Bool) : binV P .eql e (.bool a) (.bool b) = some (.bool (a == b)) := by simp [binV, eqV, typedEq, he, scalarEq]
theorem bin_bneq {e : TypeId} (he : P.underlying e = some .bool) (a b : Bool) : binV P .neq e (.bool a) (.bool b) = some (.bool (!(a == b))) := by simp [binV, eqV, typedEq, he, scalarEq]
def isNils : V → Option Bool
  | .nils => some true
  | .imm .. => some false
  | .ref .. => some false
  | _ => none
theorem bin_nils {e el : TypeId} (he : P.underlying e = some (.slice el)) (x : V) : binV P .eql e x .nils = (isNils x).map V.bool := by
  cases x <;> simp [binV, eqV, typedEq, he, scalarEq, isNils]
theorem un_not (b : Bool) : unV .not (.bool b) = some (.bool (!b)) := (rfl)
theorem maxL_two (k : IntKind) (a b : Int) : maxL (.int k a) [.int k b] = some (.int k (if b > a then b else a)) := (rfl)
theorem opExtract_tup (l : List V) (i : Nat) : opExtract (.tup l) i = l[i]? := (rfl)
end
variable [Gl]

section
variable {P : Program} {nt n : Nat} {call : CallF} {t : Tm} {S : St} {Q : Sig → Tm → St → Prop} {K : Tm → St → Prop} {k : V → St → Prop}

/-! ### regions -/
theorem Ev.reg' {id : Nat} {ops : Array Oper} (h : wpO (evOps P nt call ops ops.toList t S) (Q .norm)) : Ev P nt n call (.region id ops false) t S Q := by
  cases hr : evOps P nt call ops ops.toList t S with
  | none => rw [hr] at h; exact h.elim
  | some r => obtain ⟨t', S'⟩ := r; rw [hr] at h; exact Ev.reg ⟨t', S', hr, h⟩
theorem Ev.regD0' {id : Nat} {ops : Array Oper} (hs : splitOf true ops = none) (ho : ordB ops = true) (hp : lkPairs ops = []) (h : wpO (evOps P nt call ops ops.toList t S) (Q .norm)) : Ev P nt n call (.region id ops true) t S Q := by
  cases hr : evOps P nt call ops ops.toList t S with
  | none => rw [hr] at h; exact h.elim
  | some r => obtain ⟨t', S'⟩ := r; rw [hr] at h; exact Ev.regD0 hs ho hp ⟨t', S', hr, h⟩
variable {ops : Array Oper} {d : Option Nat} {op : Op} {ty : TypeId} {pos : String} {af : Array Edge} {r : List Oper} {g : Option (Nat × Bool)}
/-- What follows an operation. -/
def wpK (x : R) (P : Program) (nt : Nat) (call : CallF) (ops : Array Oper) (r : List Oper) (d : Option Nat) (t : Tm) (K : Tm → St → Prop) : Prop := match x with
  | some (v, S) => wpO (evOps P nt call ops r (putT nt t d v) S) K
  | none => False
theorem wpK_some (v : V) : wpK (some (v, S)) P nt call ops r d t K = wpO (evOps P nt call ops r (putT nt t d v) S) K := (rfl)
theorem w_nil : wpO (evOps P nt call ops [] t S) K = K t S := (rfl)
theorem w_cons : wpO (evOps P nt call ops (⟨d, op, ty, pos, af, none⟩ :: r) t S) K = wpK (evOp P call ⟨d, op, ty, pos, af, none⟩ t S) P nt call ops r d t K := by
  simp only [evOps, wanted, wpK]
  cases evOp P call ⟨d, op, ty, pos, af, none⟩ t S <;> rfl
/-- A guarded operation: what its guard says. -/
def gdV (b : Bool) (v : V) : Option Bool := match v with
  | .bool c => some (c == b)
  | .tup _ => some false
  | _ => none
theorem gdV_tt : gdV true (.bool true) = some true := (rfl)
theorem gdV_tf : gdV true (.bool false) = some false := (rfl)
theorem gdV_ft : gdV false (.bool true) = some false := (rfl)
theorem gdV_ff : gdV false (.bool false) = some true := (rfl)
theorem gdV_un (b : Bool) : gdV b .un = some false := (rfl)
theorem gdV_tup (b : Bool) (l : List V) : gdV b (.tup l) = some false := (rfl)
/-- Where the operation that a guard names puts what it gives. -/
def dstOf' (ops : Array Oper) (j : Nat) : Option Nat := (ops[j]?).bind (·.dst)
theorem dstOf'_mk (l : List Oper) (j : Nat) : dstOf' l.toArray j = (l[j]?).bind (·.dst) := by simp [dstOf']
theorem bind_some' {α β : Type} (a : α) (f : α → Option β) : (some a).bind f = f a := (rfl)
def gdAt (t : Tm) (b : Bool) : Option Nat → Option Bool
  | some x => gdV b (t x)
  | none => none
theorem gdAt_some (b : Bool) (x : Nat) : gdAt t b (some x) = gdV b (t x) := (rfl)
/-- What follows a guard. -/
def wpG (c : Option Bool) (P : Program) (nt : Nat) (call : CallF) (ops : Array Oper) (o : Oper) (r : List Oper) (t : Tm) (S : St) (K : Tm → St → Prop) : Prop := match c with
  | some true => wpK (evOp P call o t S) P nt call ops r o.dst t K
  | some false => wpO (evOps P nt call ops r (putT nt t o.dst .un) S) K
  | none => False
theorem wpG_true {gd : Option (Nat × Bool)} : wpG (some true) P nt call ops ⟨d, op, ty, pos, af, gd⟩ r t S K = wpK (evOp P call ⟨d, op, ty, pos, af, gd⟩ t S) P nt call ops r d t K := (rfl)
theorem wpG_false {gd : Option (Nat × Bool)} : wpG (some false) P nt call ops ⟨d, op, ty, pos, af, gd⟩ r t S K = wpO (evOps P nt call ops r (putT nt t d .un) S) K := (rfl)
theorem w_gd {j : Nat} {b : Bool} : wpO (evOps P nt call ops (⟨d, op, ty, pos, af, some (j, b)⟩ :: r) t S) K = wpG (gdAt t b (dstOf' ops j)) P nt call ops ⟨d, op, ty, pos, af, some (j, b)⟩ r t S K := by
  simp only [evOps, wanted]
  unfold dstOf'
  cases hj : (ops[j]?).bind (·.dst) with
  | none => rfl
  | some x =>
    simp only [gdAt]
    cases hx : t x <;> simp only [gdV] <;> try rfl
    case bool c =>
      cases hc : (c == b)
      · rfl
      · simp only [wpG, wpK]
        cases evOp P call ⟨d, op, ty, pos, af, some (j, b)⟩ t S <;> rfl

/-! ### operations -/
theorem ret1_some (v : V) : ret1 (some v) S = some (v, S) := (rfl)
theorem e_move {x : Operand} : evOp P call ⟨d, .move x, ty, pos, af, g⟩ t S = some (opd t x, S) := (rfl)
theorem e_assign {x : Operand} : evOp P call ⟨d, .assign x, ty, pos, af, g⟩ t S = some (opd t x, S) := (rfl)
theorem e_pick {c a b : Operand} : evOp P call ⟨d, .pick c a b, ty, pos, af, g⟩ t S = ret1 (opPick (opd t c) (opd t a) (opd t b)) S := (rfl)
def allocT (z : Option (List V)) (S : St) : R := match z with
  | some z => opAlloc z S
  | none => none
theorem allocT_some (z : List V) : allocT (some z) S = opAlloc z S := (rfl)
theorem e_alloc {e : TypeId} : evOp P call ⟨d, .alloc e, ty, pos, af, g⟩ t S = allocT (zeroOf P e) S := by
  simp only [evOp, allocT]; cases zeroOf P e <;> rfl
theorem e_box {e : TypeId} {x : Operand} : evOp P call ⟨d, .box e x, ty, pos, af, g⟩ t S = boxR (opd t x) S := by
  simp only [evOp, boxR]
  cases opd t x <;> rfl
def buildV (z : Option (List V)) (pl : Option (Nat → Option (Nat × Nat))) (t : Tm) (ps : List (Nat × Operand)) : Option V := match z, pl with
  | some z, some pl => (fill pl t ps z).map .agg
  | _, _ => none
theorem buildV_some (z : List V) (pl : Nat → Option (Nat × Nat)) (ps : List (Nat × Operand)) : buildV (some z) (some pl) t ps = (fill pl t ps z).map .agg := (rfl)
theorem e_build {e : TypeId} {ps : Array (Nat × Operand)} : evOp P call ⟨d, .build e ps, ty, pos, af, g⟩ t S = ret1 (buildV (zeroOf P e) (placesOf P e) t ps.toList) S := by
  simp only [evOp]
  cases zeroOf P e with
  | none => rfl
  | some z => cases placesOf P e <;> rfl
def buildS (z : Option (List V)) (sz : Option Nat) (m : Nat) (t : Tm) (ps : List (Nat × Operand)) (S : St) : R := match z, sz with
  | some z, some sz => if z.length = sz ∧ m * sz ≤ 16777216 then (match fill (fun i => some (i * sz, sz)) t ps (repl m z) with
    | some cs => opRow sz m cs S
    | none => none) else none
  | _, _ => none
def rowT (sz m : Nat) (c : Option (List V)) (S : St) : R := match c with
  | some cs => opRow sz m cs S
  | none => none
theorem rowT_some (sz m : Nat) (cs : List V) : rowT sz m (some cs) S = opRow sz m cs S := (rfl)
theorem buildS_some (z : List V) (sz m : Nat) (ps : List (Nat × Operand)) : buildS (some z) (some sz) m t ps S = if z.length = sz ∧ m * sz ≤ 16777216 then rowT sz m (fill (fun i => some (i * sz, sz)) t ps (repl m z)) S else none := (rfl)
theorem e_buildSlice {e : TypeId} {m : Nat} {ps : Array (Nat × Operand)} {el : TypeId} (he : P.underlying e = some (.slice el)) : evOp P call ⟨d, .buildSlice e m ps, ty, pos, af, g⟩ t S = buildS (zeroOf P el) (szT P el) m t ps.toList S := by
  simp only [evOp, he, buildS]
  cases zeroOf P el with
  | none => cases szT P el <;> rfl
  | some z => cases szT P el <;> rfl
theorem e_load {e : TypeId} {a : Operand} : evOp P call ⟨d, .load e a, ty, pos, af, g⟩ t S = ret1 (opLoad P e (opd t a) S) S := (rfl)
theorem e_store {e : TypeId} {a x : Operand} : evOp P call ⟨d, .store e a x, ty, pos, af, g⟩ t S = opStore P e (opd t a) (opd t x) S := (rfl)
theorem e_nilCheck {x : Operand} : evOp P call ⟨d, .nilCheck x, ty, pos, af, g⟩ t S = ret1 (opNilCheck (opd t x)) S := (rfl)
theorem e_bin {b : BinOp} {e e' : TypeId} {x y : Operand} : evOp P call ⟨d, .binOp b e x y e', ty, pos, af, g⟩ t S = ret1 (binV P b e (opd t x) (opd t y)) S := (rfl)
theorem e_un {b : UnOp} {e : TypeId} {x : Operand} : evOp P call ⟨d, .unOp b e x, ty, pos, af, g⟩ t S = ret1 (unV b (opd t x)) S := (rfl)
theorem e_convert {a b : TypeId} {x : Operand} : evOp P call ⟨d, .convert a b x, ty, pos, af, g⟩ t S = ret1 (opConv P a b (opd t x) S) S := (rfl)
theorem e_makeFunc {f : FuncId} {a b : Array Operand} : evOp P call ⟨d, .makeFunc (.func f) a b, ty, pos, af, g⟩ t S = some (.fn f (a.toList.map (opd t)) (b.toList.map (opd t)), S) := (rfl)
theorem e_slice {e : TypeId} {x : Operand} {lo hi : Option Operand} : evOp P call ⟨d, .slice e x lo hi none, ty, pos, af, g⟩ t S = ret1 (opSlice P e (opd t x) lo hi t) S := (rfl)
theorem e_fieldAddr {e : TypeId} {x : Operand} {f : Nat} : evOp P call ⟨d, .fieldAddr e x f, ty, pos, af, g⟩ t S = ret1 (opFieldAddr P e (opd t x) f) S := (rfl)
theorem e_field {e : TypeId} {x : Operand} {f : Nat} : evOp P call ⟨d, .field e x f, ty, pos, af, g⟩ t S = ret1 (opField P e (opd t x) f) S := (rfl)
theorem e_indexAddr {e : TypeId} {x i : Operand} : evOp P call ⟨d, .indexAddr e x i, ty, pos, af, g⟩ t S = ret1 (opIndexAddr P e (opd t x) (opd t i)) S := (rfl)
theorem e_index {e : TypeId} {x i : Operand} : evOp P call ⟨d, .index e x i, ty, pos, af, g⟩ t S = ret1 (opIndex P e (opd t x) (opd t i)) S := (rfl)
theorem e_makeSlice {e : TypeId} {l c : Operand} : evOp P call ⟨d, .makeSlice e l c, ty, pos, af, g⟩ t S = opMakeSlice P e (opd t l) (opd t c) S := (rfl)
theorem e_extract {x : Operand} {i : Nat} : evOp P call ⟨d, .extract x i, ty, pos, af, g⟩ t S = ret1 (opExtract (opd t x) i) S := (rfl)
theorem e_makeMap {e : TypeId} : evOp P call ⟨d, .makeMap e none, ty, pos, af, g⟩ t S = opMakeMap S := (rfl)
theorem e_lookup {e : TypeId} {x i : Operand} {b : Bool} : evOp P call ⟨d, .lookup e x i b, ty, pos, af, g⟩ t S = ret1 (opLookup P e (opd t x) (opd t i) b S) S := (rfl)
theorem e_mapUpdate {e : TypeId} {m x y : Operand} : evOp P call ⟨d, .mapUpdate e m x y, ty, pos, af, g⟩ t S = opMapUpdate P e (opd t m) (opd t x) (opd t y) S := (rfl)
theorem e_callF {f : FuncId} {args : Array Operand} {ts : Array TypeId} : evOp P call ⟨d, .call ⟨.value (.func f), args, ts⟩, ty, pos, af, g⟩ t S = call f (args.toList.map (opd t)) S := by
  simp only [evOp, opd, List.nil_append, List.append_nil]
def callV (call : CallF) (v : V) (args : List V) (S : St) : R := match v with
  | .fn f first caps => call f (first ++ args ++ caps) S
  | _ => none
theorem callV_fn (f : FuncId) (a b args : List V) : callV call (.fn f a b) args S = call f (a ++ args ++ b) S := (rfl)
theorem e_callT {i : Nat} {args : Array Operand} {ts : Array TypeId} : evOp P call ⟨d, .call ⟨.value (.tmp i), args, ts⟩, ty, pos, af, g⟩ t S = callV call (t i) (args.toList.map (opd t)) S := by
  simp only [evOp, opd, callV]
  cases t i <;> rfl
def lenOf : V → Option Nat
  | .nils => some 0
  | .imm _ l => some l.length
  | .ref _ _ _ n => some n
  | _ => none
def lenR (n : Option Nat) (S : St) : R := match n with
  | some n => some (.int .i64 n, S)
  | none => none
theorem lenR_some (n : Nat) : lenR (some n) S = some (.int .i64 n, S) := (rfl)
theorem e_lenSl {x : Operand} {e el : TypeId} (he : P.underlying e = some (.slice el)) : evOp P call ⟨d, .call ⟨.builtin .len, #[x], #[e]⟩, ty, pos, af, g⟩ t S = lenR (lenOf (opd t x)) S := by
  simp only [evOp, he]
  cases opd t x <;> rfl
def lenStr : V → Option Nat
  | .str s => some s.length
  | _ => none
theorem lenStr_str (s : List Nat) : lenStr (.str s) = some s.length := (rfl)
theorem e_lenStr {x : Operand} {e : TypeId} (he : P.underlying e = some .string) : evOp P call ⟨d, .call ⟨.builtin .len, #[x], #[e]⟩, ty, pos, af, g⟩ t S = lenR (lenStr (opd t x)) S := by
  simp only [evOp, he]
  cases opd t x <;> rfl
theorem e_append {x y : Operand} {e e' el : TypeId} (he : P.underlying e' = some (.slice el)) : evOp P call ⟨d, .call ⟨.builtin .append, #[x, y], #[e, e']⟩, ty, pos, af, g⟩ t S = opAppend2 P e (opd t x) (opd t y) S := by
  simp only [evOp, he]
def maxV2 (x y : V) : Option V := match x with
  | .int k n => maxL (.int k n) [y]
  | _ => none
theorem maxV2_int (k : IntKind) (a b : Int) : maxV2 (.int k a) (.int k b) = some (.int k (if b > a then b else a)) := (rfl)
theorem e_max2 {x y : Operand} {ts : Array TypeId} : evOp P call ⟨d, .call ⟨.builtin .max, #[x, y], ts⟩, ty, pos, af, g⟩ t S = ret1 (maxV2 (opd t x) (opd t y)) S := by
  simp only [evOp, List.map_cons, List.map_nil, maxV2]
  cases opd t x <;> rfl
theorem e_copy {x y : Operand} {e e' : TypeId} : evOp P call ⟨d, .call ⟨.builtin .copy, #[x, y], #[e, e']⟩, ty, pos, af, g⟩ t S = opCopy P e (opd t x) (opd t y) S := (rfl)
/-- A condition. -/
def wpC (v : V) (P : Program) (nt n : Nat) (call : CallF) (a b : Code) (t : Tm) (S : St) (Q : Sig → Tm → St → Prop) : Prop := match v with
  | .bool true => Ev P nt n call a t S Q
  | .bool false => Ev P nt n call b t S Q
  | _ => False
theorem wpC_true {a b : Code} : wpC (.bool true) P nt n call a b t S Q = Ev P nt n call a t S Q := (rfl)
theorem wpC_false {a b : Code} : wpC (.bool false) P nt n call a b t S Q = Ev P nt n call b t S Q := (rfl)
theorem Ev.cond' {c : Operand} {a b : Code} (h : wpC (opd t c) P nt n call a b t S Q) : Ev P nt n call (.cond c a b) t S Q := by
  generalize hv : opd t c = v at h
  cases v <;> try exact h.elim
  case bool x => cases x <;> exact Ev.cond hv h
end
section
variable {P : Program} {t : Tm}
def fillS (os : Option (Nat × Nat)) (v : V) (pl : Nat → Option (Nat × Nat)) (t : Tm) (r : List (Nat × Operand)) (z : List V) : Option (List V) := match os with
  | some (o, s) => if okC v = true ∧ v.cells.length = s ∧ o + v.cells.length ≤ z.length then fill pl t r (over z o v.cells) else none
  | none => none
theorem fillS_some (o s : Nat) (v : V) (pl : Nat → Option (Nat × Nat)) (r : List (Nat × Operand)) (z : List V) : fillS (some (o, s)) v pl t r z = if okC v = true ∧ v.cells.length = s ∧ o + v.cells.length ≤ z.length then fill pl t r (over z o v.cells) else none := (rfl)
theorem fill_cons {pl : Nat → Option (Nat × Nat)} {i : Nat} {x : Operand} {r : List (Nat × Operand)} {z : List V} : fill pl t ((i, x) :: r) z = fillS (pl i) (opd t x) pl t r z := by
  simp only [fill]
  cases pl i with
  | none => rfl
  | some os =>
    obtain ⟨o, s⟩ := os
    simp only [fillS]
    cases opd t x <;> simp only [okC, Bool.false_eq_true, false_and, true_and, if_false]
theorem fill_nil (pl : Nat → Option (Nat × Nat)) (t : Tm) (z : List V) : fill pl t [] z = some z := (rfl)
end

theorem repl_zero (z : List V) : repl 0 z = [] := by simp [repl]
theorem repl_one (z : List V) : repl 1 z = z := by simp [repl]
/-! ### ends -/
section
variable {P : Program} {t : Tm} {S : St} {R : V → St → Prop}
theorem Ret.tmp {fn : Func} {i : Nat} (hr : fn.results.toList = [.tmp i]) (h : R (t i) S) : Ret P fn R .ret t S := by
  refine ⟨[t i], ?_, h⟩
  rw [hr]; rfl
theorem Ret.tmpN {fn : Func} {i : Nat} (hr : fn.results.toList = [.tmp i]) (h : R (t i) S) : Ret P fn R .norm t S := by
  refine ⟨[t i], ?_, h⟩
  rw [hr]; rfl
theorem Ret.tmp2 {fn : Func} {i j : Nat} (hr : fn.results.toList = [.tmp i, .tmp j]) (h : R (.tup [t i, t j]) S) : Ret P fn R .ret t S := by
  refine ⟨[t i, t j], ?_, h⟩
  rw [hr]; rfl
theorem Ret.cell {fn : Func} {i : Nat} {ty : TypeId} {v : V} (hr : fn.results.toList = [.cell i ty]) (hv : opLoad P ty (t i) S = some v) (h : R v S) : Ret P fn R .ret t S := by
  refine ⟨[v], ?_, h⟩
  rw [hr]; simp only [evRes, hv]
theorem frz_bool' (nw : Bool) (g : Id → Ob) (n : Nat) (b : Bool) : frz nw g (n + 1) (.bool b) = some (.bool b) := by
  cases nw
  · exact frz_clo (by cases (0 : Nat) <;> rfl)
  · rw [frz_ne (by simp)]; rfl
theorem frz_int' (nw : Bool) (g : Id → Ob) (n : Nat) (k : IntKind) (i : Int) : frz nw g (n + 1) (.int k i) = some (.int k i) := by
  cases nw
  · exact frz_clo (by cases (0 : Nat) <;> rfl)
  · rw [frz_ne (by simp)]; rfl
theorem onNorm_norm (K : Tm → St → Prop) (Q : Sig → Tm → St → Prop) (t : Tm) (S : St) : onNorm K Q .norm t S = K t S := (rfl)
theorem onNorm_ret (K : Tm → St → Prop) (Q : Sig → Tm → St → Prop) (t : Tm) (S : St) : onNorm K Q .ret t S = Q .ret t S := (rfl)
theorem onNorm_exit (K : Tm → St → Prop) (Q : Sig → Tm → St → Prop) (i : Nat) (t : Tm) (S : St) : onNorm K Q (.exit i) t S = Q (.exit i) t S := (rfl)
theorem onExit_norm (i : Nat) (Q : Sig → Tm → St → Prop) (t : Tm) (S : St) : onExit i Q .norm t S = Q .norm t S := (rfl)
theorem onExit_ret (i : Nat) (Q : Sig → Tm → St → Prop) (t : Tm) (S : St) : onExit i Q .ret t S = Q .ret t S := (rfl)
theorem onExit_self (i : Nat) (Q : Sig → Tm → St → Prop) (t : Tm) (S : St) : onExit i Q (.exit i) t S = Q .norm t S := by simp [onExit]
theorem onExit_ne {i j : Nat} (h : j ≠ i) (Q : Sig → Tm → St → Prop) (t : Tm) (S : St) : onExit i Q (.exit j) t S = Q (.exit j) t S := by simp [onExit, h]
end

attribute [go_sem ↓] w_nil w_cons w_gd wpK_some wpG_true wpG_false wpC_true wpC_false
attribute [go_sem] opd ofValue cells_agg cells_bool cells_int cells_str cells_nils cells_imm cells_ref cells_ptr okC_agg okC_bool okC_int okC_str okC_imm okC_ref okC_ptr okC_nils boxR_ok putT_same putT_ne putT_none initT_get gdV_tt gdV_tf gdV_ft gdV_ff gdV_un gdV_tup dstOf'_mk bind_some' gdAt_some ret1_some allocT_some buildV_some buildS_some rowT_some opPick_true opPick_false opAlloc_stL opRow_stL opMakeMap_stL fillS_some fill_cons fill_nil hd1_cons takeN_some obCells_cells cellsAt_ptr cellsAt_ipt stA_agg stC_eq isCell_bool isCell_int isCell_str isCell_imm isCell_ref isCell_ptr isCell_nils isCell_fn isCell_map plL_at writeR_ptr wrX_nil addrAdd_ptr addrAdd_ipt idxAddr_imm idxAddr_ref bin_lss bin_leq bin_gtr bin_geq bin_eql bin_neq bin_add bin_sub bin_mul bin_seql bin_sneq un_not maxL_two maxV2_int opExtract_tup callV_fn frz_bool' frz_int' onNorm_norm onNorm_ret onNorm_exit onExit_norm onExit_ret onExit_self lenR_some lenStr_str e_move e_assign e_pick e_alloc e_box e_build e_load e_store e_nilCheck e_bin e_un e_convert e_makeFunc e_slice e_fieldAddr e_field e_indexAddr e_index e_makeSlice e_extract e_makeMap e_lookup e_mapUpdate e_callF e_callT e_max2 e_copy repl_zero repl_one
attribute [go_sem] List.getD_cons_zero List.getD_cons_succ List.length_nil List.length_cons List.nil_append List.cons_append List.getElem?_cons_zero List.getElem?_cons_succ List.drop_zero List.drop_succ_cons List.take_zero List.take_succ_cons List.map_cons List.map_nil Nat.zero_add Option.map_some
end Go.Vm

/-! Slices, wherever they lie; stores that have grown. -/
namespace Go.Vm

/-! ### grown lists -/
section
variable {α : Type}
theorem gx0 (l m : List α) : (l ++ m)[l.length]? = m[0]? := by
  rw [List.getElem?_append_right (Nat.le_refl _), Nat.sub_self]
theorem gxs (l m : List α) (j : Nat) : (l ++ m)[l.length + j]? = m[j]? := by
  rw [List.getElem?_append_right (Nat.le_add_right _ _), Nat.add_sub_cancel_left]
theorem sx0 (l m : List α) (o : α) : (l ++ m).set l.length o = l ++ m.set 0 o := by
  rw [List.set_append_right _ _ (Nat.le_refl _), Nat.sub_self]
theorem sxs (l m : List α) (j : Nat) (o : α) : (l ++ m).set (l.length + j) o = l ++ m.set j o := by
  rw [List.set_append_right _ _ (Nat.le_add_right _ _), Nat.add_sub_cancel_left]
end
attribute [go_sem] gx0 gxs sx0 sxs List.set_cons_zero List.set_cons_succ List.length_append List.append_assoc List.length_map

/-- Parts of code. -/
def sndC : Code → Code
  | .seq _ b => b
  | c => c
def fstC : Code → Code
  | .seq a _ => a
  | c => c
def thenC : Code → Code
  | .cond _ a _ => a
  | c => c
def regOps : Code → Array Oper
  | .region _ o _ => o
  | _ => #[]
def bodyC (f : Func) : Code := f.body.getD .skip
/-! ### rows -/
def chunks (es : Nat) : Nat → List V → List (List V)
  | 0, _ => []
  | n + 1, l => l.take es :: chunks es n (l.drop es)
theorem chunks_len (es : Nat) : ∀ (n : Nat) (l : List V), (chunks es n l).length = n
  | 0, _ => rfl
  | n + 1, l => by simp [chunks, chunks_len es n]
theorem chunks_get (es : Nat) : ∀ (n : Nat) (l : List V) (j : Nat), j < n → (chunks es n l)[j]? = some ((l.drop (j * es)).take es)
  | 0, _, _, h => by omega
  | n + 1, l, 0, _ => by simp [chunks]
  | n + 1, l, j + 1, h => by
    simp only [chunks, List.getElem?_cons_succ]
    rw [chunks_get es n (l.drop es) j (by omega), List.drop_drop]
    congr 3
    rw [Nat.add_mul]; omega
/-- What an object holds. -/
def obFull : Option Ob → Option (List V)
  | some (.cells c _ _) => some c
  | some (.stale c) => some c
  | _ => none
theorem obFull_cells (c : List V) (fz : Nat) (anc : List Id) : obFull (some (.cells c fz anc)) = some c := (rfl)
theorem obCells_full {off : Nat} {o : Option Ob} {c : List V} (h : obFull o = some c) : obCells off o = some (c.drop off) := by
  cases o with
  | none => cases h
  | some o => cases o <;> simp only [obFull] at h <;> first | (injection h with h; subst h; rfl) | (cases h)
/-- The elements of a slice: their cells. -/
def rows (l : List Ob) (es : Nat) : V → Option (List (List V))
  | .nils => some []
  | .imm e vs => if e = es then some (vs.map V.cells) else none
  | .ref e i off n => if e = es then (match obFull l[i.num]? with
    | some c => if off + n * es ≤ c.length then some (chunks es n (c.drop off)) else none
    | none => none) else none
  | _ => none
theorem rows_nil (l : List Ob) (es : Nat) : rows l es .nils = some [] := (rfl)
theorem rows_ref {l : List Ob} {es k off n : Nat} {c : List V} (h : obFull l[k]? = some c) (hn : off + n * es ≤ c.length) : rows l es (.ref es (idOf k) off n) = some (chunks es n (c.drop off)) := by
  simp only [rows, num_idOf, h, if_true, if_pos hn]
theorem rows_len {l : List Ob} {es : Nat} {v : V} {rs : List (List V)} (h : rows l es v = some rs) : lenOf v = some rs.length := by
  cases v <;> simp only [rows] at h <;> try (cases h; done)
  case nils => injection h with h; subst h; rfl
  case imm e vs =>
    split at h
    · injection h with h; subst h; simp [lenOf]
    · cases h
  case ref e i off n =>
    split at h
    · split at h
      · split at h
        · injection h with h; subst h; simp [lenOf, chunks_len]
        · cases h
      · cases h
    · cases h
theorem rows_cell {l : List Ob} {es : Nat} {v : V} {rs : List (List V)} (h : rows l es v = some rs) : v.isCell = true := by
  cases v <;> first | rfl | (simp only [rows] at h; cases h)
theorem rows_nils {l : List Ob} {es : Nat} {v : V} {rs : List (List V)} (h : rows l es v = some rs) : (v = .nils ∧ isNils v = some true ∧ rs = []) ∨ isNils v = some false := by
  cases v <;> first | exact .inr rfl | (refine .inl ⟨rfl, rfl, ?_⟩; injection h with h; exact h.symm) | (simp only [rows] at h; cases h)
theorem lt_of_full {l : List Ob} {k : Nat} {cs : List V} (h : obFull l[k]? = some cs) : k < l.length := by
  refine Nat.lt_of_not_le fun hn => ?_
  rw [List.getElem?_eq_none hn] at h; cases h
theorem rows_app {l g : List Ob} {es : Nat} {v : V} {rs : List (List V)} (h : rows l es v = some rs) : rows (l ++ g) es v = some rs := by
  cases v <;> simp only [rows] at h ⊢ <;> try exact h
  case ref e i off n =>
    split at h
    · rename_i he
      rw [if_pos he]
      split at h
      · rename_i cs hc
        rw [List.getElem?_append_left (lt_of_full hc), hc]; exact h
      · cases h
    · cases h
theorem cellsAt_ptr' (l : List Ob) (i : Id) (off : Nat) : cellsAt (stL l) (.ptr i off) = obCells off l[i.num]? := by
  rw [← idOf_num i, cellsAt_ptr, num_idOf]
theorem obCells_drop {off j : Nat} {o : Option Ob} {cs : List V} (h : obCells off o = some cs) : obCells (off + j) o = some (cs.drop j) := by
  cases o with
  | none => cases h
  | some o =>
    cases o <;> simp only [obCells] at h ⊢ <;> try (cases h; done)
    all_goals (injection h with h; subst h; rw [List.drop_drop])
/-- The address of an element, and what lies there. -/
theorem rows_idx {l : List Ob} {es : Nat} {v : V} {rs : List (List V)} (h : rows l es v = some rs) {j : Nat} {r : List V} (hr : rs[j]? = some r) (k : IntKind) : ∃ a rest, idxAddr es v (.int k (j : Int)) = some a ∧ cellsAt (stL l) a = some (r ++ rest) := by
  cases v <;> simp only [rows] at h <;> try (cases h; done)
  case nils => injection h with h; subst h; simp at hr
  case imm e vs =>
    split at h
    · rename_i he; subst he
      injection h with h; subst h
      rw [idxAddr_imm]
      rw [List.getElem?_map] at hr
      cases hv : vs[j]? with
      | none => rw [hv] at hr; cases hr
      | some x => rw [hv] at hr; injection hr with hr; subst hr; exact ⟨_, [], rfl, by rw [List.append_nil]; rfl⟩
    · cases h
  case ref e i off n =>
    split at h
    · rename_i he; subst he
      split at h
      · rename_i cs hc
        split at h
        · rename_i hle
          injection h with h; subst h
          have hj : j < n := by
            have := (List.getElem?_eq_some_iff.1 hr).1
            rwa [chunks_len] at this
          rw [chunks_get _ _ _ _ hj] at hr
          injection hr with hr
          refine ⟨.ptr i (off + j * e), ((cs.drop off).drop (j * e)).drop e, by rw [idxAddr_ref, if_pos hj], ?_⟩
          rw [cellsAt_ptr', obCells_drop (obCells_full hc), ← hr, List.take_append_drop]
        · cases h
      · cases h
    · cases h
theorem chunks_flat (es : Nat) : ∀ (n : Nat) (l : List V), n * es ≤ l.length → (chunks es n l).flatten = l.take (n * es)
  | 0, l, _ => by simp [chunks]
  | n + 1, l, h => by
    have e : (n + 1) * es = es + n * es := by rw [Nat.add_mul]; omega
    simp only [chunks, List.flatten_cons]
    rw [chunks_flat es n (l.drop es) (by simp; omega), e, List.take_add]
/-- What is appended. -/
theorem rows_src {l : List Ob} {es : Nat} {v : V} {rs : List (List V)} (h : rows l es v = some rs) : srcCells es (stL l) v = some (rs.length, rs.flatten) := by
  cases v <;> simp only [rows] at h <;> try (cases h; done)
  case nils => injection h with h; subst h; rfl
  case imm e vs =>
    split at h
    · rename_i he; subst he
      injection h with h; subst h
      simp [srcCells, Vm.flat, List.flatMap]
    · cases h
  case ref e i off n =>
    split at h
    · rename_i he; subst he
      split at h
      · rename_i cs hc
        split at h
        · rename_i hle
          injection h with h; subst h
          have hf : (chunks e n (cs.drop off)).flatten = (cs.drop off).take (n * e) := chunks_flat e n _ (by simp; omega)
          have hg : (stL l).get i = l[i.num]?.getD .free := rfl
          simp only [srcCells, hg]
          cases ho : l[i.num]? with
          | none => rw [ho] at hc; cases hc
          | some o =>
            rw [ho] at hc
            cases o <;> simp only [obFull] at hc <;> try (cases hc; done)
            all_goals
              injection hc with hc; subst hc
              simp only [Option.getD_some]
              rw [if_pos ⟨hle, trivial⟩, chunks_len, hf]
        · cases h
      · cases h
    · cases h
theorem rows_congr {l m : List Ob} (h : ∀ (i : Nat), obFull l[i]? = obFull m[i]?) (es : Nat) (v : V) : rows l es v = rows m es v := by
  cases v <;> simp only [rows]
  rw [h]
theorem full_stale {l : List Ob} {k : Nat} {c : List V} (h : obFull l[k]? = some c) (i : Nat) : obFull (l.set k (.stale c))[i]? = obFull l[i]? := by
  have hk := lt_of_full h
  by_cases e : i = k
  · subst e; rw [List.getElem?_set_self hk, h]; rfl
  · rw [List.getElem?_set_ne (by omega)]
theorem cellsAt_mono {l g : List Ob} {a : V} {cs : List V} (h : cellsAt (stL l) a = some cs) : cellsAt (stL (l ++ g)) a = some cs := by
  cases a <;> try (cases h; done)
  case ptr i off =>
    rw [cellsAt_ptr'] at h ⊢
    cases ho : l[i.num]? with
    | none => rw [ho] at h; cases h
    | some o => rw [List.getElem?_append_left (List.getElem?_eq_some_iff.1 ho).1]; exact h
  case ipt c => exact h
section
variable {P : Program}
/-- append to a row of one's own. -/
theorem append_ref {ty el : TypeId} {sz : Nat} (he : P.underlying ty = some (.slice el)) (hs : szT P el = some sz) (hz : P.bytesOf el ≤ 2 ^ 16 ∧ (zeroOf P el).map List.length = some sz) {l : List Ob} {k n fz : Nat} {c : List V} {anc : List Id} {y : V} {r : List V} {rs : List (List V)}
    (hk : l[k]? = some (.cells c fz anc)) (hc : c.length = n * sz) (hy : rows l sz y = some (r :: rs)) (hb : n + (rs.length + 1) ≤ 16777216) :
    opAppend2 P ty (.ref sz (idOf k) 0 n) y (stL l) = some (.ref sz (idOf l.length) 0 (n + (rs.length + 1)), stL (l.set k (.stale c) ++ [.cells (c ++ (r :: rs).flatten) fz (idOf k :: anc)])) := by
  have hlt : k < l.length := (List.getElem?_eq_some_iff.1 hk).1
  have hcut : cutX (.ref sz (idOf k) 0 n) (stL l) = some (stL l) := by
    simp only [cutX, stL_get, hk, Option.getD_some]
    cases anc with
    | nil => simp only [hc, if_true]
    | cons _ _ => rfl
  simp only [opAppend2, hcut, opAppend, he, hs, rows_src hy, List.length_cons, hz, and_self, if_true, stL_get, hk, Option.getD_some]
  rw [if_pos ⟨trivial, trivial, hc, hb⟩, stL_set l k _ hlt, stL_new]
  simp
theorem append_none {ty el : TypeId} {sz : Nat} (he : P.underlying ty = some (.slice el)) (hs : szT P el = some sz) {l : List Ob} {k n fz : Nat} {c : List V} {anc : List Id} {y : V}
    (hk : l[k]? = some (.cells c fz anc)) (hc : c.length = n * sz) (hy : rows l sz y = some []) :
    opAppend2 P ty (.ref sz (idOf k) 0 n) y (stL l) = some (.ref sz (idOf k) 0 n, stL l) := by
  have hcut : cutX (.ref sz (idOf k) 0 n) (stL l) = some (stL l) := by
    simp only [cutX, stL_get, hk, Option.getD_some]
    cases anc with
    | nil => simp only [hc, if_true]
    | cons _ _ => rfl
  simp only [opAppend2, hcut, opAppend, he, hs, rows_src hy, List.length_nil]
/-- append to nothing. -/
theorem append_nils {ty el : TypeId} {sz : Nat} (he : P.underlying ty = some (.slice el)) (hs : szT P el = some sz) (hz : P.bytesOf el ≤ 2 ^ 16 ∧ (zeroOf P el).map List.length = some sz) {l : List Ob} {y : V} {r : List V} {rs : List (List V)}
    (hy : rows l sz y = some (r :: rs)) (hb : rs.length + 1 ≤ 16777216) :
    opAppend2 P ty .nils y (stL l) = some (.ref sz (idOf l.length) 0 (rs.length + 1), stL (l ++ [.cells (r :: rs).flatten 0 []])) := by
  simp only [opAppend2, cutX, opAppend, he, hs, rows_src hy, List.length_cons, hz, and_self, if_true]
  rw [if_pos (show rs.length + 1 ≤ maxRow from hb), stL_new]
theorem append_nils0 {ty el : TypeId} {sz : Nat} (he : P.underlying ty = some (.slice el)) (hs : szT P el = some sz) {l : List Ob} {y : V} (hy : rows l sz y = some []) : opAppend2 P ty .nils y (stL l) = some (.nils, stL l) := by
  simp only [opAppend2, cutX, opAppend, he, hs, rows_src hy, List.length_nil]
end
/-- Rows out of cells of equal length. -/
theorem chunks_of (es : Nat) : ∀ (rs : List (List V)), (∀ r ∈ rs, r.length = es) → chunks es rs.length rs.flatten = rs
  | [], _ => rfl
  | r :: rs, h => by
    have h1 := h r (by simp)
    simp only [List.length_cons, chunks, List.flatten_cons]
    rw [show es = r.length from h1.symm, List.take_left, List.drop_left, h1, chunks_of es rs fun x hx => h x (by simp [hx])]
theorem flatten_len (es : Nat) : ∀ (rs : List (List V)), (∀ r ∈ rs, r.length = es) → rs.flatten.length = rs.length * es
  | [], _ => by simp
  | r :: rs, h => by
    simp only [List.flatten_cons, List.length_append, List.length_cons]
    rw [h r (by simp), flatten_len es rs fun x hx => h x (by simp [hx]), Nat.add_mul]; omega
/-- A part of what lies behind an address. -/
theorem addr_at {l : List Ob} {a : V} {cs : List V} {o : Nat} (h : cellsAt (stL l) a = some cs) (ho : o ≤ cs.length) : ∃ b, addrAdd o a = some b ∧ cellsAt (stL l) b = some (cs.drop o) := by
  cases a <;> try (cases h; done)
  case ptr i off =>
    rw [cellsAt_ptr'] at h
    refine ⟨.ptr i (off + o), rfl, ?_⟩
    rw [cellsAt_ptr', obCells_drop h]
  case ipt c =>
    injection h with h; subst h
    exact ⟨.ipt (c.drop o), by simp [addrAdd, ho], rfl⟩
theorem hd1_app (x : V) (r : List V) : hd1 (some ([x] ++ r)) = some x := rfl
theorem takeN_app {n : Nat} {r rest : List V} (h : r.length = n) : takeN n (some (r ++ rest)) = some (.agg r) := by
  subst h
  simp [takeN]
/-- An unknown call that is known to end so. -/
theorem wpR_of {r : R} {k : V → St → Prop} {v : V} {S : St} (h : r = some (v, S)) (hk : k v S) : wpR r k := by rw [h]; exact hk
section
variable [Gl] {P : Program} {nt n : Nat} {call : CallF} {t t' : Tm} {S S' : St} {ops : Array Oper} {T : Nat → Tm} {Z : Nat → St} {B : Nat → Bool} {R : Nat → V}
theorem Tr.pre (h : Tr P nt call ops t S T Z B R) : ∀ (k : Nat), k ≤ ops.size → evOps P nt call ops (ops.toList.take k) t S = some (T k, Z k) := by
  have key : ∀ (m k : Nat), k + m ≤ ops.size → evOps P nt call ops ((ops.toList.drop k).take m) (T k) (Z k) = some (T (k + m), Z (k + m)) := by
    intro m
    induction m with
    | zero => intro k _; simp [evOps]
    | succ m ih =>
      intro k hk
      have hlt : k < ops.toList.length := by simp; omega
      have hi : ops[k]? = some (ops.toList[k]) := by simp
      rw [List.drop_eq_getElem_cons hlt, List.take_succ_cons]
      have h1 := h.want k _ hi
      have h2 := h.run k _ hi
      have h3 := h.put k _ hi
      have h4 := ih (k + 1) (by omega)
      rw [show k + (m + 1) = k + 1 + m by omega]
      unfold evOps
      rw [h1]
      cases hb : B k with
      | true =>
        rw [hb] at h2
        simp only [if_true] at h2
        simp only [h2, ← h3]; exact h4
      | false =>
        rw [hb] at h2
        simp only [Bool.false_eq_true, if_false] at h2
        simp only []
        rw [← h2.1, ← h3, ← h2.2]; exact h4
  intro k hk
  have := key k 0 (by omega)
  simpa [h.t0, h.z0] using this
/-- What holds behind the first k operations. -/
theorem Tr.at (h : Tr P nt call ops t S T Z B R) (k : Nat) (hk : k ≤ ops.size) {X : Tm → St → Prop} (hx : wpO (evOps P nt call ops (ops.toList.take k) t S) X) : X (T k) (Z k) := by
  rw [h.pre k hk] at hx; exact hx
theorem LookOK.of_load {p : Nat × Nat} {d : Option Nat} {e : TypeId} {x : Operand} {ty : TypeId} {pos : String} {af : Array Edge} {g : Option (Nat × Bool)} (hi : ops[p.1]? = some ⟨d, .load e x, ty, pos, af, g⟩) (h : cellsAt (Z p.2) (opd (T p.1) x) = cellsAt (Z (p.2 + 1)) (opd (T p.1) x)) : LookOK P call ops T Z B p := by
  intro oi oc h1 _ _ _ v
  rw [hi] at h1; injection h1 with h1; subst h1
  have e : opLoad P e (opd (T p.1) x) (Z p.2) = opLoad P e (opd (T p.1) x) (Z (p.2 + 1)) := by simp only [opLoad, h]
  simp only [evOp, e]
  cases opLoad P _ (opd (T p.1) x) (Z (p.2 + 1)) <;> simp [ret1]
theorem Ev.regDX {Q : Sig → Tm → St → Prop} {id : Nat} (hs : splitOf true ops = none) (ho : ordB ops = true) (ps : List (Nat × Nat)) (hp : lkPairs ops = ps) (hl : ∀ T Z B R, Tr P nt call ops t S T Z B R → ∀ p ∈ ps, LookOK P call ops T Z B p)
    (h : wpO (evOps P nt call ops ops.toList t S) (Q .norm)) : Ev P nt n call (.region id ops true) t S Q := by
  cases hr : evOps P nt call ops ops.toList t S with
  | none => rw [hr] at h; exact h.elim
  | some r => obtain ⟨t', S'⟩ := r; rw [hr] at h; exact Ev.regD hs (drawOK_of ho hp hr hl) ⟨t', S', hr, h⟩
theorem cellsAt_app {l g : List Ob} {k off : Nat} (hk : k < l.length) : cellsAt (stL (l ++ g)) (.ptr (idOf k) off) = cellsAt (stL l) (.ptr (idOf k) off) := by
  rw [cellsAt_ptr, cellsAt_ptr, List.getElem?_append_left hk]
theorem run_fn {memo : Memo} {f : FuncId} {fn : Func} {b : Code} {args : List V} {S : St} {n : Nat} {R : V → St → Prop} (hm : memo f = none) (hf : P.funcs[f]? = some fn) (hb : fn.body = some b) (hn : ¬ (fn.name = "runtime.NumGoroutine" ∨ fn.ntmps < args.length))
    (h : Ev P fn.ntmps n (callN P (memoBase memo) (drawOK P) n) b (initT args) S (Ret P fn R)) : ∃ v S', callN P (memoBase memo) (drawOK P) (n + 1) f args S = some (v, S') ∧ R v S' :=
  callN_run hf hb hn (by unfold Unasked; rw [hm]; trivial) h
end
/-! ### a range over what slices.Backward returns -/
section
variable [Gl] {P : Program} {nt n : Nat} {call : CallF} {t : Tm} {S : St} {Q : Sig → Tm → St → Prop}
theorem Ev.backward {g : Operand} {ps : Array Nat} {x y : Code} {h : FuncId} {p lv : V} {p0 p1 m : Nat} {sl el : TypeId} (hx : noRF x = true) (hy : noRF y = true) (hg : opd t g = .fn h [] [p]) (hps : ps.toList = [p0, p1]) (hb : backOf P h = some (sl, el)) (hl : opLoad P sl p S = some lv) (hm : lenSlice lv = some m) (hmm : m ≤ 16777216)
    (I : Nat → St → Prop) (h0 : I m S)
    (step : ∀ i S, I (i + 1) S → ∃ v, elemAt P sl el p i S = some v ∧ Ev P nt n call x (putT nt (putT nt t (some p0) (.int .i64 i)) (some p1) v) S (onNorm (fun t' S' => Ev P nt n call y t' S' fun s _ S2 => s = .norm ∧ I i S2) fun _ _ _ => False))
    (hQ : ∀ S', I 0 S' → Q .norm t S') : Ev P nt n call (.rangeFunc g ps x y) t S Q := by
  have key : ∀ (m : Nat) (S : St), I m S → ∃ S', backN P sl el p (round2 nt (evC P (drawOK P) nt call n x) (evC P (drawOK P) nt call n y) p0 p1 t) m S = some (.norm, S') ∧ I 0 S' := by
    intro m
    induction m with
    | zero => intro S hI; exact ⟨S, rfl, hI⟩
    | succ i ih =>
      intro S hI
      obtain ⟨v, h1, s, t1, S1, h2, h3⟩ := step i S hI
      cases s with
      | exit j => exact h3.elim
      | ret => exact h3.elim
      | norm =>
        obtain ⟨s2, t2, S2, h4, h5, h6⟩ := h3
        subst h5
        obtain ⟨S', h7, h8⟩ := ih S2 h6
        refine ⟨S', ?_, h8⟩
        simp only [backN, h1, round2, h2, h4, h7]
  obtain ⟨S', h1, h2⟩ := key m S h0
  refine ⟨.norm, t, S', ?_, hQ S' h2⟩
  simp only [evC, hx, hy, and_self, if_true, rangeB, hg, hps, hb, hl, hm]
  rw [if_pos (show m ≤ maxRow from hmm), h1]
end
end Go.Vm

/-! What arguments without pointers read as, and the abstract values that stand for them. -/
namespace Go.Vm
variable [Gl]
open Go.RowKit Go.WideShapes

def All2 {α β : Type} (R : α → β → Prop) : List α → List β → Prop
  | [], [] => True
  | a :: as, b :: bs => R a b ∧ All2 R as bs
  | _, _ => False
def All3 {α β γ : Type} (R : α → β → γ → Prop) : List α → List β → List γ → Prop
  | [], [], [] => True
  | a :: as, b :: bs, c :: cs => R a b c ∧ All3 R as bs cs
  | _, _, _ => False
theorem All2.length {α β : Type} {R : α → β → Prop} : ∀ {x : List α} {y : List β}, All2 R x y → x.length = y.length
  | [], [], _ => rfl
  | _ :: _, _ :: _, h => by simp [All2.length h.2]
  | [], _ :: _, h => h.elim
  | _ :: _, [], h => h.elim

theorem All3.cons_inv {α β γ : Type} {R : α → β → γ → Prop} {a : α} {as : List α} : ∀ {bs : List β} {cs : List γ}, All3 R (a :: as) bs cs → ∃ b bs' c cs', bs = b :: bs' ∧ cs = c :: cs' ∧ R a b c ∧ All3 R as bs' cs'
  | b :: bs, c :: cs, h => ⟨b, bs, c, cs, rfl, rfl, h.1, h.2⟩
  | [], _, h => h.elim
  | _ :: _, [], h => h.elim
theorem All3.nil_inv {α β γ : Type} {R : α → β → γ → Prop} : ∀ {bs : List β} {cs : List γ}, All3 R ([] : List α) bs cs → bs = [] ∧ cs = []
  | [], [], _ => ⟨rfl, rfl⟩
  | _ :: _, [], h => h.elim
  | [], _ :: _, h => h.elim
  | _ :: _, _ :: _, h => h.elim
theorem All2.lift {α β γ : Type} {R : α → β → Prop} {Q : γ → β → Prop} (h : ∀ a b, R a b → ∃ c, Q c b) : ∀ {x : List α} {y : List β}, All2 R x y → ∃ z, All2 Q z y
  | [], [], _ => ⟨[], trivial⟩
  | a :: x, b :: y, hx => by
    obtain ⟨c, hc⟩ := h a b hx.1
    obtain ⟨z, hz⟩ := All2.lift h hx.2
    exact ⟨c :: z, hc, hz⟩
  | [], _ :: _, h => h.elim
  | _ :: _, [], h => h.elim
theorem All2.map_eq {α β : Type} {f : α → β} : ∀ {x : List α} {y : List β}, All2 (fun a b => b = f a) x y → y = x.map f
  | [], [], _ => rfl
  | a :: x, b :: y, h => by rw [h.1, All2.map_eq h.2]; rfl
  | [], _ :: _, h => h.elim
  | _ :: _, [], h => h.elim

/-- The cells c stand for what reads as d, at the type t. -/
def ArgN {H : Type} (P : Program) : Nat → TypeId → DataW H → List V → Prop
  | 0, _, _, _ => False
  | n + 1, t, d, c => match P.underlying t with
    | some .bool => ∃ b, d = .lit (.bool b) ∧ c = [.bool b]
    | some (.int k) => ∃ i, d = .lit (.int k i) ∧ c = [.int k i] ∧ (Lit.int k i).wf = true
    | some .string => ∃ bs : List UInt8, d = .lit (.string bs) ∧ c = [.str (bs.map UInt8.toNat)] ∧ bs.length ≤ maxLen
    | some (.slice e) => (d = .nil ∧ c = [.nils]) ∨ ∃ ds sp rs, d = .slice ds sp ∧ c = [.imm (P.cellsOf e) (rs.map .agg)] ∧ ds.length ≤ maxLen ∧ All2 (fun d r => r.length = P.cellsOf e ∧ ArgN P n e d r) ds rs
    | some (.struct fs) => ∃ ds rs, d = .agg ds ∧ c = rs.flatten ∧ All3 (fun f d r => ArgN P n (Field.type f) d r) fs.toList ds rs
    | _ => False

def fits (P : Program) : List Field → Nat → Nat → Bool
  | [], o, tot => o == tot
  | f :: r, o, tot => f.offset == o && fits P r (o + P.cellsOf f.type) tot
def tyOf1 (P : Program) (S : List TypeId) (t : TypeId) : Bool :=
  match P.underlying t with
  | some .bool | some (.int _) | some .string => true
  | some (.slice e) => S.contains e && decide (0 < P.cellsOf e)
  | some (.struct fs) => fits P fs.toList 0 (P.cellsOf t) && fs.toList.all fun f => S.contains f.type
  | _ => false

theorem relM_mk {Γ : Ctx} : ∀ {c : List V} {cs : List Value} {b o : Nat}, RelL Γ c cs → (∀ (j : Nat) (u : Value), cs[j]? = some u → Γ.μ b (o + j) = some u) → (∀ u ∈ cs, Value.oneCell' u = true) → RelM Γ c b o
  | [], _, b, o, _, _, _ => .nil b o
  | v :: c, cs, b, o, h, hj, h1 => by
    cases h with
    | cons _ u _ us hu hs =>
      refine .cons v u c b o (by simpa using hj 0 u rfl) hu (h1 u (by simp)) (relM_mk hs (fun j x hx => ?_) (fun x hx => h1 x (by simp [hx])))
      have := hj (j + 1) x (by simpa using hx)
      rw [show o + 1 + j = o + (j + 1) by omega]; exact this

section
variable {H : Type} {enc : TypeId × Value → H} {P : Program} {w : World} {held : Bool}

theorem elems_arg {es n : Nat} {e : TypeId} (hes : P.cellsOf e = es) (ih : ∀ (cs : List Value) (x : DataW H × List MemPlace), cs.length = es → DataW.trod enc P w 0 (fun _ => true) held n e cs = some x → ∃ c, RelL (stillW w) c cs ∧ (∀ u ∈ cs, Value.oneCell' u = true) ∧ ArgN P n e x.1 c) {b : Nat} :
    ∀ (elems : List (DataW H × List MemPlace)) (o : Nat), (∀ i, i < elems.length → (w.cells? 0 ((⟨b, o, none⟩ : Addr).add (i * es)) es).bind (DataW.trod enc P w 0 (fun _ => true) held n e) = elems[i]?) →
      ∃ rs : List (List V), RelE (stillW w) es (rs.map .agg) b o ∧ All2 (fun d r => r.length = es ∧ ArgN P n e d r) (elems.map (·.1)) rs
  | [], o, _ => ⟨[], .nil es b o, trivial⟩
  | x :: r, o, h => by
    have h0 := h 0 (by simp)
    simp only [Nat.zero_mul, List.getElem?_cons_zero] at h0
    obtain ⟨cs, hc1, hc2⟩ := Option.bind_eq_some_iff.1 h0
    obtain ⟨_, hl, hcell⟩ := World.cells?_some hc1
    obtain ⟨c, q1, q2, q3⟩ := ih cs x hl hc2
    obtain ⟨rs, p1, p2⟩ := elems_arg hes ih r (o + es) (fun i hi => by
      have := h (i + 1) (by simpa using hi)
      rw [List.getElem?_cons_succ] at this
      rw [← this]
      congr 2
      simp only [Addr_add]
      congr 1
      rw [Nat.add_mul]; omega)
    have hcl : c.length = es := by rw [q1.length, hl]
    refine ⟨c :: rs, ?_, ⟨hcl, q3⟩, p2⟩
    refine .cons es (.agg c) c _ b o rfl hcl (relM_mk q1 (fun j u hu => ?_) q2) p1
    have hj : j < es := by
      rw [← hl]; exact (List.getElem?_eq_some_iff.1 hu).1
    have := hcell j hj
    rw [hu] at this
    show w.cell? ⟨b, o + j, none⟩ = some u
    simpa [Addr_add] using this

theorem fields_arg {S : List TypeId} {n : Nat} {cs : List Value} (ih : ∀ (t : TypeId) (cs : List Value) (x : DataW H × List MemPlace), t ∈ S → DataW.trod enc P w 0 (fun _ => true) held n t cs = some x → ∃ c, RelL (stillW w) c cs ∧ (∀ u ∈ cs, Value.oneCell' u = true) ∧ ArgN P n t x.1 c) :
    ∀ (fs : List Field) (xs : List (DataW H × List MemPlace)) (o : Nat), fits P fs o cs.length = true → (∀ f ∈ fs, Field.type f ∈ S) → xs.length = fs.length →
      (∀ (i : Nat) (f : Field), fs[i]? = some f → DataW.trod enc P w 0 (fun _ => true) held n f.type ((cs.drop f.offset).take (P.cellsOf f.type)) = xs[i]?) →
      ∃ rs : List (List V), RelL (stillW w) rs.flatten (cs.drop o) ∧ (∀ u ∈ cs.drop o, Value.oneCell' u = true) ∧ All3 (fun f d r => ArgN P n (Field.type f) d r) fs (xs.map (·.1)) rs
  | [], [], o, h, _, _, _ => by
    simp only [fits, beq_iff_eq] at h
    subst h
    exact ⟨[], by simpa using RelL.nil, by simp, trivial⟩
  | [], _ :: _, _, _, _, h, _ => by simp at h
  | _ :: _, [], _, _, _, h, _ => by simp at h
  | f :: fs, x :: xs, o, h, hS, hl, hx => by
    simp only [fits, Bool.and_eq_true, beq_iff_eq] at h
    obtain ⟨h1, h2⟩ := h
    obtain ⟨rs, p1, p2, p3⟩ := fields_arg ih fs xs _ h2 (fun g hg => hS g (by simp [hg])) (by simpa using hl) (fun i g hg => by simpa using hx (i + 1) g (by simpa using hg))
    have h0 := hx 0 f rfl
    rw [h1] at h0
    obtain ⟨c, q1, q2, q3⟩ := ih f.type _ x (hS f (by simp)) h0
    have hsp : cs.drop o = (cs.drop o).take (P.cellsOf f.type) ++ cs.drop (o + P.cellsOf f.type) := by
      rw [← List.drop_drop, List.take_append_drop]
    refine ⟨c :: rs, ?_, ?_, q3, p3⟩
    · rw [hsp]
      simpa using q1.append p1
    · rw [hsp]
      intro u hu
      rcases List.mem_append.1 hu with hu | hu
      · exact q2 u hu
      · exact p2 u hu

theorem argN {S : List TypeId} (hS : ∀ t ∈ S, tyOf1 P S t = true) : ∀ (n : Nat) (t : TypeId) (cs : List Value) (x : DataW H × List MemPlace), t ∈ S → DataW.trod enc P w 0 (fun _ => true) held n t cs = some x →
    ∃ c, RelL (stillW w) c cs ∧ (∀ u ∈ cs, Value.oneCell' u = true) ∧ ArgN P n t x.1 c
  | 0, t, cs, x, _, h => by simp [DataW.trod] at h
  | n + 1, t, cs, x, ht, h => by
    have hty := hS t ht
    unfold tyOf1 at hty
    split at hty
    · rename_i hu
      obtain ⟨b, rfl, rfl⟩ := DataW.trod_bool hu h
      refine ⟨[.bool b], .cons _ _ _ _ (.bool b) .nil, by simp [Value.oneCell'], ?_⟩
      simp only [ArgN, hu]
      exact ⟨b, rfl, rfl⟩
    · rename_i k hu
      obtain ⟨i, rfl, rfl, hw⟩ := DataW.trod_int hu h
      refine ⟨[.int k i], .cons _ _ _ _ (.int k i) .nil, by simp [Value.oneCell'], ?_⟩
      simp only [ArgN, hu]
      exact ⟨i, rfl, rfl, hw⟩
    · rename_i hu
      obtain ⟨s, rfl, rfl, hs⟩ := DataW.trod_string hu h
      refine ⟨[.str (s.data.toList.map UInt8.toNat)], .cons _ _ _ _ (.str s _ rfl) .nil, by simp [Value.oneCell'], ?_⟩
      simp only [ArgN, hu]
      exact ⟨_, rfl, rfl, by simpa using hs⟩
    · rename_i e hu
      simp only [Bool.and_eq_true, List.contains_iff_mem, decide_eq_true_eq] at hty
      obtain ⟨he, hpos⟩ := hty
      rcases DataW.trod_slice hu h with ⟨rfl, rfl⟩ | ⟨a, len, cap, elems, rest, m, hm, rfl, rfl, _, hlc, hcap, hlen, hel, hsp, _⟩
      · refine ⟨[.nils], .cons _ _ _ _ .nils .nil, by simp [Value.oneCell'], ?_⟩
        simp only [ArgN, hu]
        exact .inl (by simp)
      · injection hm with hm
        subst hm
        obtain ⟨hr, hrest⟩ := hsp rfl
        obtain ⟨b, off, sp⟩ := a
        have hone : ∀ u ∈ [Value.slice (some ⟨b, off, sp⟩) len cap], Value.oneCell' u = true := by simp [Value.oneCell']
        cases sp with
        | some s =>
          have none0 : w.cells? 0 ((⟨b, off, some s⟩ : Addr).add (0 * P.cellsOf e)) (P.cellsOf e) = none := by
            cases hc : w.cells? 0 ((⟨b, off, some s⟩ : Addr).add (0 * P.cellsOf e)) (P.cellsOf e) with
            | none => rfl
            | some cs' =>
              obtain ⟨_, hl, hcell⟩ := World.cells?_some hc
              have h0 := hcell 0 hpos
              have e0 : ((⟨b, off, some s⟩ : Addr).add (0 * P.cellsOf e)).add 0 = ⟨b, off, some s⟩ := by simp [Addr.add]
              rw [e0] at h0
              have hn : w.cell? ⟨b, off, some s⟩ = none := by
                unfold World.cell?
                split <;> simp
              rw [hn] at h0
              have := List.getElem?_eq_none_iff.1 h0.symm
              omega
          have hl0 : len = 0 := by
            rcases Nat.eq_zero_or_pos len with h0 | h0
            · exact h0
            · have := hel 0 h0
              rw [none0, List.getElem?_eq_getElem (by omega)] at this
              cases this
          subst hl0
          have hc0 : cap = 0 := by
            rcases Nat.eq_zero_or_pos cap with h0 | h0
            · exact h0
            · have := hrest 0 (by omega)
              rw [show (0 + 0) * P.cellsOf e = 0 * P.cellsOf e by omega, none0, List.getElem?_eq_getElem (by omega)] at this
              cases this
          subst hc0
          obtain rfl : elems = [] := List.eq_nil_of_length_eq_zero hlen
          refine ⟨[.imm (P.cellsOf e) []], .cons _ _ _ _ (.imz _ _) .nil, hone, ?_⟩
          simp only [ArgN, hu]
          exact .inr ⟨[], rest.map (·.1), [], by simp, by simp, by simp, by simp [All2]⟩
        | none =>
          obtain ⟨rs, p1, p2⟩ := elems_arg (w := w) (enc := enc) (held := held) rfl (fun cs x _ hx => argN hS n e cs x he hx) elems off (fun i hi => hel i (by omega))
          have hrl : rs.length = elems.length := by have := p2.length; simpa using this.symm
          refine ⟨[.imm (P.cellsOf e) (rs.map .agg)], .cons _ _ _ _ (.imm _ _ b off len cap p1 (by simp [hrl, hlen]) hlc) .nil, hone, ?_⟩
          simp only [ArgN, hu]
          exact .inr ⟨_, _, rs, rfl, rfl, by simp [hlen]; omega, p2⟩
    · rename_i fs hu
      simp only [Bool.and_eq_true, List.all_eq_true, List.contains_iff_mem] at hty
      obtain ⟨xs, m, hm, rfl, hl, hxl, hx⟩ := DataW.trod_struct hu h
      injection hm with hm
      subst hm
      obtain ⟨rs, p1, p2, p3⟩ := fields_arg (w := w) (enc := enc) (held := held) (cs := cs) (argN hS n) fs.toList xs 0 (by rw [hl]; exact hty.1) hty.2 (by simpa using hxl) (fun i f hf => hx i f (by simpa using hf))
      refine ⟨rs.flatten, by simpa using p1, by simpa using p2, ?_⟩
      simp only [ArgN, hu]
      exact ⟨_, rs, rfl, rfl, p3⟩
    · cases hty

/-- An argument. -/
theorem argV {S : List TypeId} (hS : ∀ t ∈ S, tyOf1 P S t = true) {t : TypeId} {u : Value} {d : DataW H} {ps : List MemPlace} (ht : t ∈ S) {r : Reach} {base : Nat} (hv : Value.okWide P w r base t u) (h : DataW.Trod enc P w 0 (fun _ => true) held t u d ps) :
    ∃ (n : Nat) (c : List V) (v : V), ArgN P n t d c ∧ Rel (stillW w) v u ∧ (match P.underlying t with | some (.struct _) => v = .agg c | _ => c = [v]) := by
  obtain ⟨n, h⟩ := h
  obtain ⟨c, h1, h2, h3⟩ := argN hS n t _ _ ht h
  have hty := hS t ht
  unfold tyOf1 at hty
  refine ⟨n, c, ?_⟩
  have one : ∀ {u : Value}, u.cells = #[u] → RelL (stillW w) c u.cells.toList → ∃ v, Rel (stillW w) v u ∧ c = [v] := by
    intro u he hr
    rw [he] at hr
    cases hr with
    | cons v _ vs _ hv hs => cases hs; exact ⟨v, hv, rfl⟩
  split at hty
  · rename_i hu
    obtain ⟨b, rfl⟩ := okWide_bool hu hv
    obtain ⟨v, q1, q2⟩ := one rfl h1
    exact ⟨v, h3, q1, by simp only [hu]; exact q2⟩
  · rename_i k hu
    obtain ⟨b, rfl⟩ := okWide_int hu hv
    obtain ⟨v, q1, q2⟩ := one rfl h1
    exact ⟨v, h3, q1, by simp only [hu]; exact q2⟩
  · rename_i hu
    obtain ⟨b, rfl⟩ := okWide_string hu hv
    obtain ⟨v, q1, q2⟩ := one rfl h1
    exact ⟨v, h3, q1, by simp only [hu]; exact q2⟩
  · rename_i e hu
    obtain ⟨a, l, k, rfl⟩ := okWide_slice hu hv
    obtain ⟨v, q1, q2⟩ := one rfl h1
    exact ⟨v, h3, q1, by simp only [hu]; exact q2⟩
  · rename_i fs hu
    obtain ⟨cs, rfl, _⟩ := okWide_struct hu hv
    exact ⟨.agg c, h3, .agg c cs h1 h2, by simp only [hu]⟩
  · cases hty
end
end Go.Vm

/-! From a run under the evaluator to the row: the walk, and the arguments read again behind it. -/
namespace Go.Vm
variable [Gl]
open Go.RowKit

/-- A call that answers true. -/
theorem walk_run {P : Program} (hmix : P.follows .mixedOrders = true) {memo : Memo} (hm : MemoOK P memo) {f : FuncId} {n : Nat} {xs : List V} {S1 : St} (hc : callN P (memoBase memo) (drawOK P) n f xs (stL []) = some (.bool true, S1)) {w : World} (hg : ∀ (g : Nat), Rel (stillW w) (Gl.gl g) (.pointer (some ⟨g, 0, none⟩))) {args : Array Value} (ha : RelL (stillW w) xs args.toList) :
    Calls P f args w fun e w' => e = .returned (.bool true) ∧ Grown w w' ∧ ∀ b, b < w.heap.size → w'.heap[b]? = w.heap[b]? := by
  rw [← st0_eq] at hc
  obtain ⟨_, h⟩ := calls_ok hmix (memo_ok hmix hm) n f xs st0 _ S1 hc
  refine (h (stillW w) w args (Mem.stillW hg) ha).mono fun e w' ⟨Γ', u, hu, hst, hrel⟩ => ?_
  have hkeep : ∀ b, b < w.heap.size → w'.heap[b]? = w.heap[b]? := fun b hb => hst.frame b hb (fun id hid => by cases hid)
  refine ⟨?_, ⟨World.keptBut_none_iff.2 ⟨hst.os, hst.output, hkeep⟩, hst.fz, hst.size⟩, hkeep⟩
  cases hrel; exact hu
section
variable {H : Type} {enc : TypeId × Value → H} {P : Program} {W W' : World}
theorem trodAll_carry {base : Nat} {sp : Nat → Bool} {held : Bool} : ∀ {ts : List TypeId} {vs : List Value} {ds : List (DataW H)} {ps : List MemPlace}, DataW.TrodAll enc P W base sp held ts vs ds ps → (∀ p ∈ ps, W.sameAt W' p) → DataW.TrodAll enc P W' base sp held ts vs ds ps
  | [], [], [], _, h, _ => h
  | _ :: _, _ :: _, _ :: _, _, ⟨p, q, ⟨n, h1⟩, h2, e⟩, hs =>
    ⟨p, q, ⟨n, DataW.trod_carry n _ _ _ h1 (fun x hx => hs x (by rw [e]; exact List.mem_append_left _ hx))⟩, trodAll_carry h2 (fun x hx => hs x (by rw [e]; exact List.mem_append_right _ hx)), e⟩
theorem args_again (hl : laidOutB P = true) (hm : mapsRowed P = true) (hz : ((List.range P.types.size).all fun t => match P.underlying t with | some (.slice e) => decide (0 < P.cellsOf e) | _ => true) = true) {ts : List TypeId} (hts : ∀ t ∈ ts, t < P.types.size) {vs : List Value} {ds : List (DataW H)} {ps : List MemPlace}
    (hA : DataW.TrodAll enc P W 0 (fun _ => true) true ts vs ds ps) (hlt : ∀ p ∈ ps, p.block < W.heap.size) (hkeep : ∀ b, b < W.heap.size → W'.heap[b]? = W.heap[b]?) (sp : Nat → Bool) (hs : ∀ p ∈ ps, sp p.block = true) : DataW.TrodAll enc P W' 0 sp true ts vs ds ps := by
  refine (trodAll_carry hA fun p hp => ?_).respare (kids_rows hl hm) (slices_full_of P hz) hts hs
  have := hkeep _ (hlt p hp)
  cases p with
  | cell b off => show W'.cell? _ = W.cell? _; simp only [World.cell?]; rw [show W'.heap[b]? = W.heap[b]? from this]
  | map b => exact this
end
end Go.Vm

/-! Answers for arguments without objects: they may hold what the arguments hold. All of them at once, with what is said of them. -/
namespace Go.Vm
variable [Gl]
theorem cloL_all {l : List V} : cloL l = true ↔ ∀ v ∈ l, clo v = true := ⟨cloL_mem, cloL_of⟩
theorem frzL_out {F : V → Option V} (h : ∀ v v', F v = some v' → clo v' = true) : ∀ {l r : List V}, frzL F l = some r → cloL r = true
  | [], r, e => by injection e with e; subst e; rfl
  | v :: l, r, e => by
    simp only [frzL] at e
    split at e
    · rename_i a b ha hb
      injection e with e; subst e
      rw [cloL_cons, h v a ha, frzL_out h hb]; rfl
    · cases e
theorem clo_aggL {c : List V} (h : cloL c = true) : clo (.agg c) = true := h
theorem frzE_out {F : V → Option V} (h : ∀ v v', F v = some v' → clo v' = true) {es : Nat} : ∀ {n : Nat} {l r : List V}, frzE F es n l = some r → cloL r = true
  | 0, l, r, e => by injection e with e; subst e; rfl
  | n + 1, l, r, e => by
    simp only [frzE] at e
    split at e
    · split at e
      · rename_i c r' h1 h2
        injection e with e; subst e
        rw [cloL_cons, clo_aggL (frzL_out h h1), frzE_out h h2]; rfl
      · cases e
    · cases e
theorem frzI_out {F : V → Option V} (h : ∀ v v', F v = some v' → clo v' = true) : ∀ {l r : List V}, frzI F l = some r → cloL r = true
  | [], r, e => by injection e with e; subst e; rfl
  | v :: l, r, e => by
    simp only [frzI] at e
    split at e
    · rename_i c r' h1 h2
      injection e with e; subst e
      rw [cloL_cons, clo_aggL (frzL_out h h1), frzI_out h h2]; rfl
    · cases e
theorem frz_out {nw : Bool} {g : Id → Ob} : ∀ (n : Nat) (v v' : V), frz nw g n v = some v' → clo v' = true
  | 0, _, _, e => by cases e
  | n + 1, v, v', e => by
    have ih := frz_out (nw := nw) (g := g) n
    rcases frz_eq e with ⟨e1, e2, e3⟩ | ⟨hne, e2⟩
    · subst e3; exact e2
    replace e := e2
    clear e2 hne
    cases v <;> simp only [frzB] at e <;> try (cases e; done)
    case bool => injection e with e; subst e; rfl
    case int => injection e with e; subst e; rfl
    case str => injection e with e; subst e; rfl
    case nilp => injection e with e; subst e; rfl
    case nils => injection e with e; subst e; rfl
    case nilf => injection e with e; subst e; rfl
    case nilm => injection e with e; subst e; rfl
    case ptr id off =>
      split at e
      · split at e
        · rename_i c hc; injection e with e; subst e; exact frzL_out ih hc
        · cases e
      · cases e
    case ref es id off len =>
      split at e
      · split at e
        · rename_i c hc; injection e with e; subst e; exact frzE_out ih hc
        · cases e
      · split at e
        · rename_i c hc; injection e with e; subst e; exact frzE_out ih hc
        · cases e
      · cases e
    case ipt c =>
      split at e
      · rename_i c hc; injection e with e; subst e; exact frzL_out ih hc
      · cases e
    case imm es l =>
      split at e
      · rename_i c hc; injection e with e; subst e; exact frzI_out ih hc
      · cases e
    case fn f a c =>
      split at e
      · rename_i a' c' h1 h2; injection e with e; subst e; rw [clo_fn, frzL_out ih h1, frzL_out ih h2]; rfl
      · cases e
    case agg c =>
      split at e
      · rename_i c hc; injection e with e; subst e; exact frzL_out ih hc
      · cases e
    case tup c =>
      split at e
      · rename_i c hc; injection e with e; subst e; exact frzL_out ih hc
      · cases e

/-- What a run from the empty store gives. -/
def KnownC (P : Program) (f : FuncId) (args : List V) (v : V) : Prop :=
  cloL args = true ∧ ∃ (base : AskF) (n m : Nat) (u : V) (S1 : St), BaseOK P base ∧ callN P base (drawOK P) n f args st0 = some (u, S1) ∧ frz false S1.get m u = some v
theorem KnownC.clo {P : Program} {f : FuncId} {args : List V} {v : V} (h : KnownC P f args v) : clo v = true := by
  obtain ⟨_, base, n, m, u, S1, _, _, h⟩ := h
  exact frz_out _ _ _ h
theorem knownC_of {P : Program} {f : FuncId} {args : List V} {v : V} (hf : args.all V.flat = true) (hc : cloL args = true) (h : Known P f args v) : KnownC P f args v := by
  obtain ⟨base, n, m, u, S1, h1, h2, h3⟩ := h
  rw [hf] at h3
  exact ⟨hc, base, n, m, u, S1, h1, h2, h3⟩
abbrev MemoC : Type := FuncId → List V → Option V
def MemoCOK (P : Program) (memo : MemoC) : Prop := ∀ (f : FuncId) (args : List V) (v : V), memo f args = some v → KnownC P f args v
def askO (v : Option V) (S : St) : Option R := match v with
  | some v => some (some (v, S))
  | none => none
def askC (memo : MemoC) : AskF := fun f args S => askO (memo f args) S
/-- The frozen cells alone. -/
def Ctx.cold (Γ : Ctx) : Ctx := { φ := fun _ => none, bs := Γ.bs, es := Γ.es, μ := Γ.μ }
theorem Mem.cold {Γ : Ctx} {S : St} {w : World} (hm : Mem Γ S w) : Mem Γ.cold st0 w where
  glb g := by
    have hg := hm.glb g
    rcases Gl.flat g with h | ⟨cs, h, hf⟩
    · rw [h]; exact .any _
    · rw [h] at hg ⊢
      refine Rel.clo (Γ := Γ) (Γt := Γ.cold) (fun b o u hu => hu) hg ?_
      refine cloL_of fun v hv => ?_
      have := List.all_eq_true.1 hf v hv
      cases v <;> first | rfl | cases this
  fro := hm.fro
  lt id b h := by cases h
  alive id b h := by cases h
  row id b l fz anc h := by cases h
  frz id b l fz anc h := by cases h
  old id b l h := by cases h
  one id id' b h := by cases h
  anc id b l fz anc id' l' h := by cases h
  map id b l h := by cases h
  mst id id' b l l' h := by cases h
theorem askC_ok {P : Program} (hmix : P.follows .mixedOrders = true) {memo : MemoC} (h : MemoCOK P memo) : BaseOK P (askC memo) where
  ok := by
    intro f args S r S' he
    simp only [ansOf, askC] at he
    cases hm : memo f args with
    | none => simp only [hm, askO] at he; cases he
    | some v =>
      simp only [hm, askO] at he
      injection he with he; injection he with e1 e2; subst e1; subst e2
      obtain ⟨hcl, base, n, m, u0, S1, hb, hc, hfz⟩ := h f args v hm
      obtain ⟨he1, he2⟩ := calls_ok hmix hb n f args st0 u0 S1 hc
      refine ⟨he1, fun Γ w us hmem hrel cs => ?_⟩
      have hms : Mem Γ.cold st0 w := hmem.cold
      have hrs : RelL Γ.cold args us.toList := RelL.clo (Γ := Γ) (Γt := Γ.cold) (fun b o u hu => hu) hrel hcl
      have hφs : ∀ (id : Id), Γ.cold.φ id = none := fun _ => rfl
      obtain ⟨e, w', fr, ⟨Γ', u, hu, hst, hr⟩, hrest⟩ := he2 Γ.cold w us hms hrs cs
      have hkeep : ∀ b, b < w.heap.size → w'.heap[b]? = w.heap[b]? := fun b hb => hst.frame b hb (fun id hid => by rw [hφs] at hid; cases hid)
      have hle : Γ.le (Γ.newer w w') := Ctx.newer_le hmem
      have hrel' : Rel (Γ.newer w w') v u := frz_rel (nw := false) (Γt := Γ.newer w w') (B := fun b o => w.heap.size ≤ b ∨ ∃ u, Γ.μ b o = some u)
        (fun b o u hb h => by
          show (if b < w.heap.size then _ else _) = _
          split
          · rename_i hlt
            rcases hb with hb | ⟨u', hu'⟩
            · omega
            · have h1 := cell_kept hkeep (hmem.fro _ _ _ hu')
              rw [h1] at h; injection h with h; subst h; exact hu'
          · exact h) hst.mem
        (fun id b hid o => by
          refine .inl (Nat.le_of_not_lt fun hlt => ?_)
          rcases hst.own id b hid hlt with ⟨e, _⟩ | ⟨_, id0, e, _⟩ <;> (rw [hφs] at e; cases e))
        (fun _ b o u hu => by
          rcases hst.mu b o u hu with e | e
          · exact .inr ⟨u, e⟩
          · exact .inl e) m u0 u v hr hfz
      refine ⟨e, w', fr, ⟨Γ.newer w w', u, hu, ?_, hrel'⟩, hrest⟩
      exact { le := hle, mem := hmem.newer hkeep hst.size, os := hst.os, tape := hst.tape, output := hst.output, size := hst.size, frame := fun b hb _ => hkeep b hb, pend := fun id h1 h2 => ⟨rfl, h1⟩, own := fun id b h1 _ => .inl ⟨h1, fun h => h⟩, mu := fun b o u hu => (Ctx.newer_mu hu), fz := hst.fz }
  nf := by
    intro f args S r S' he
    simp only [ansOf, askC] at he
    cases hm : memo f args with
    | none => simp only [hm, askO] at he; cases he
    | some v =>
      simp only [hm, askO] at he
      injection he with he; injection he with _ e2; subst e2; exact .refl _
  mono := by
    intro f args S r S' he X hx
    simp only [askC] at he ⊢
    cases hm : memo f args with
    | none => simp only [hm, askO] at he; cases he
    | some v =>
      simp only [hm, askO] at he
      injection he with he; injection he with he; injection he with e1 e2; subst e1; subst e2
      exact ⟨X, rfl, .refl hx⟩
  same := by
    intro f args S S' X he hx
    simp only [askC] at he ⊢
    cases hm : memo f args with
    | none => rfl
    | some v => simp only [hm, askO] at he; cases he

/-! ### all answers of which something is said -/
abbrev SpecF : Type := FuncId → List V → V → Prop
/-- There is an answer of which it holds. -/
def KC (P : Program) (Sp : SpecF) (f : FuncId) (args : List V) : Prop := ∃ v, KnownC P f args v ∧ Sp f args v
open Classical in
noncomputable def memoS (P : Program) (Sp : SpecF) : MemoC := fun f args => if h : KC P Sp f args then some (Classical.choose h) else none
theorem memoS_ok (P : Program) (Sp : SpecF) : MemoCOK P (memoS P Sp) := by
  intro f args v h
  unfold memoS at h
  split at h
  · rename_i hk
    injection h with h; subst h
    exact (Classical.choose_spec hk).1
  · cases h
noncomputable abbrev callS (P : Program) (Sp : SpecF) (n : Nat) : CallF := callN P (askC (memoS P Sp)) (drawOK P) n
section
variable {P : Program} {Sp : SpecF} {f : FuncId} {args : List V}
theorem KC.call (h : KC P Sp f args) : ∃ v, Sp f args v ∧ clo v = true ∧ ∀ (n : Nat) (S : St), callS P Sp n f args S = some (v, S) := by
  have hm : memoS P Sp f args = some (Classical.choose h) := by unfold memoS; rw [dif_pos h]
  have hs := Classical.choose_spec h
  refine ⟨_, hs.2, hs.1.clo, fun n S => ?_⟩
  cases n with
  | zero => simp only [callS, callN, ansOf, askC, hm, askO]
  | succ n => simp only [callS, callN, askC, hm, askO]
theorem kc_of (hmix : P.follows .mixedOrders = true) {fn : Func} {b : Code} (hf : P.funcs[f]? = some fn) (hb : fn.body = some b) (hn : ¬ (fn.name = "runtime.NumGoroutine" ∨ fn.ntmps < args.length)) (hc : cloL args = true) (n : Nat)
    (h : Ev P fn.ntmps n (callS P Sp n) b (initT args) (stL []) (Ret P fn fun u S => ∃ m v, frz false S.get m u = some v ∧ Sp f args v)) : KC P Sp f args := by
  refine Classical.byContradiction fun hno => ?_
  have hm : memoS P Sp f args = none := by unfold memoS; rw [dif_neg hno]
  obtain ⟨s, t1, S1, h1, h2⟩ := h
  have key : ∀ vs, evRes P t1 S1 fn.results.toList = some vs → (∀ i, s ≠ .exit i) → callN P (askC (memoS P Sp)) (drawOK P) (n + 1) f args (stL []) = some (one vs, S1) := by
    intro vs hvs hs
    simp only [callN, askC, hm, askO, hf, hb, if_neg hn, h1]
    cases s with
    | exit i => exact absurd rfl (hs i)
    | norm => simp only [hvs]
    | ret => simp only [hvs]
  have fin : ∀ vs, evRes P t1 S1 fn.results.toList = some vs → (∀ i, s ≠ .exit i) → (∃ m v, frz false S1.get m (one vs) = some v ∧ Sp f args v) → False := by
    intro vs hvs hs ⟨m, v, h3, h4⟩
    exact hno ⟨v, ⟨hc, _, _, m, _, S1, askC_ok hmix (memoS_ok P Sp), key vs hvs hs, h3⟩, h4⟩
  cases s with
  | exit i => exact h2.elim
  | norm => obtain ⟨vs, h3, h4⟩ := h2; exact fin vs h3 nofun h4
  | ret => obtain ⟨vs, h3, h4⟩ := h2; exact fin vs h3 nofun h4
end
end Go.Vm

/-! Helpers for runs from the empty store. -/
namespace Go.Vm
variable [Gl]
section
variable {P : Program} {Sp : SpecF} {f : FuncId} {args : List V}
/-- A call of which nothing is said is run. -/
theorem runS {fn : Func} {b : Code} {S : St} {n : Nat} {R : V → St → Prop} (hno : ∀ v, ¬ Sp f args v) (hf : P.funcs[f]? = some fn) (hb : fn.body = some b) (hn : ¬ (fn.name = "runtime.NumGoroutine" ∨ fn.ntmps < args.length))
    (h : Ev P fn.ntmps n (callS P Sp n) b (initT args) S (Ret P fn R)) : ∃ v S', callS P Sp (n + 1) f args S = some (v, S') ∧ R v S' := by
  have hm : memoS P Sp f args = none := by
    unfold memoS
    rw [dif_neg]
    rintro ⟨v, _, h⟩
    exact hno v h
  obtain ⟨s, t1, S1, h1, h2⟩ := h
  have key : ∀ vs, evRes P t1 S1 fn.results.toList = some vs → (∀ i, s ≠ .exit i) → callN P (askC (memoS P Sp)) (drawOK P) (n + 1) f args S = some (one vs, S1) := by
    intro vs hvs hs
    simp only [callN, askC, hm, askO, hf, hb, if_neg hn, h1]
    cases s with
    | exit i => exact absurd rfl (hs i)
    | norm => simp only [hvs]
    | ret => simp only [hvs]
  cases s with
  | exit i => exact h2.elim
  | norm => obtain ⟨vs, h3, h4⟩ := h2; exact ⟨_, _, key vs h3 nofun, h4⟩
  | ret => obtain ⟨vs, h3, h4⟩ := h2; exact ⟨_, _, key vs h3 nofun, h4⟩
/-- What is said of a call from elsewhere. -/
theorem kc_known {v : V} (h : Known P f args v) (hf : args.all V.flat = true) (hc : cloL args = true) (hs : Sp f args v) : KC P Sp f args := ⟨v, knownC_of hf hc h, hs⟩
end

/-! ### freezing -/
def Fz (l : List Ob) (k : Nat) (v v' : V) : Prop := ∀ m, k ≤ m → frz false (stL l).get m v = some v'
theorem Fz.mono {l : List Ob} {k j : Nat} {v v' : V} (h : Fz l k v v') (hkj : k ≤ j) : Fz l j v v' := fun m hm => h m (by omega)
theorem Fz.clo {l : List Ob} {v : V} (h : Vm.clo v = true) : Fz l 1 v v := fun m hm => by
  obtain ⟨m, rfl⟩ : ∃ k, m = k + 1 := ⟨m - 1, by omega⟩
  exact frz_clo h
theorem Fz.same {l : List Ob} {k : Nat} {v v' : V} (h : Fz l k v v') (hc : Vm.clo v = true) : v' = v := by
  have h1 := h (k + 1) (by omega)
  rw [frz_clo hc] at h1
  injection h1 with h1; exact h1.symm
theorem frzL_of {l : List Ob} {k m : Nat} (hm : k ≤ m) : ∀ {c c' : List V}, All2 (Fz l k) c c' → frzL (frz false (stL l).get m) c = some c'
  | [], [], _ => rfl
  | v :: c, v' :: c', h => by
    simp only [frzL, h.1 m hm, frzL_of hm h.2]
  | [], _ :: _, h => h.elim
  | _ :: _, [], h => h.elim
theorem fzL_same {l : List Ob} {k : Nat} : ∀ {c c' : List V}, All2 (Fz l k) c c' → cloL c = true → c' = c
  | [], [], _, _ => rfl
  | v :: c, v' :: c', h, hc => by
    rw [cloL_cons, Bool.and_eq_true] at hc
    rw [h.1.same hc.1, fzL_same h.2 hc.2]
  | [], _ :: _, h, _ => h.elim
  | _ :: _, [], h, _ => h.elim
theorem Fz.agg {l : List Ob} {k : Nat} {c c' : List V} (h : All2 (Fz l k) c c') : Fz l (k + 1) (.agg c) (.agg c') := fun m hm => by
  obtain ⟨m, rfl⟩ : ∃ k, m = k + 1 := ⟨m - 1, by omega⟩
  by_cases hc : cloL c = true
  · rw [fzL_same h hc]; exact frz_clo hc
  · rw [frz_ne (v := .agg c) (fun e => hc e.2)]
    simp only [frzB, frzL_of (by omega : k ≤ m) h]
theorem Fz.tup {l : List Ob} {k : Nat} {c c' : List V} (h : All2 (Fz l k) c c') : Fz l (k + 1) (.tup c) (.tup c') := fun m hm => by
  obtain ⟨m, rfl⟩ : ∃ k, m = k + 1 := ⟨m - 1, by omega⟩
  by_cases hc : cloL c = true
  · rw [fzL_same h hc]; exact frz_clo hc
  · rw [frz_ne (v := .tup c) (fun e => hc e.2)]
    simp only [frzB, frzL_of (by omega : k ≤ m) h]
theorem cloL_take {l : List V} {n : Nat} (h : cloL l = true) : cloL (l.take n) = true := cloL_of fun v hv => cloL_mem h v (List.mem_of_mem_take hv)
theorem cloL_drop {l : List V} {n : Nat} (h : cloL l = true) : cloL (l.drop n) = true := cloL_of fun v hv => cloL_mem h v (List.mem_of_mem_drop hv)
theorem cloL_app {l m : List V} (h : cloL l = true) (h' : cloL m = true) : cloL (l ++ m) = true := cloL_of fun v hv => by
  rcases List.mem_append.1 hv with e | e
  · exact cloL_mem h v e
  · exact cloL_mem h' v e
theorem cloL_flatten {rs : List (List V)} (h : ∀ r ∈ rs, cloL r = true) : cloL rs.flatten = true := cloL_of fun v hv => by
  obtain ⟨r, hr, hv⟩ := List.mem_flatten.1 hv
  exact cloL_mem (h r hr) v hv
theorem frzL_clo {g : Id → Ob} {m : Nat} {c : List V} (h : cloL c = true) : frzL (frz false g (m + 1)) c = some c := by
  induction c with
  | nil => rfl
  | cons v r ih =>
    rw [cloL_cons, Bool.and_eq_true] at h
    simp only [frzL, frz_clo h.1, ih h.2]
theorem frzE_clo {g : Id → Ob} {m es : Nat} : ∀ {n : Nat} {c : List V}, cloL c = true → n * es ≤ c.length → frzE (frz false g (m + 1)) es n c = some ((chunks es n c).map .agg)
  | 0, c, _, _ => rfl
  | n + 1, c, h, hn => by
    have e : (n + 1) * es = es + n * es := by rw [Nat.add_mul]; omega
    simp only [frzE, chunks, List.map_cons]
    rw [if_pos (by omega), frzL_clo (cloL_take h), frzE_clo (cloL_drop h) (by simp; omega)]
theorem Fz.ref {l : List Ob} {es k n : Nat} {c : List V} (hk : obFull l[k]? = some c) (h : cloL c = true) (hn : n * es ≤ c.length) : Fz l 2 (.ref es (idOf k) 0 n) (.imm es ((chunks es n c).map .agg)) := fun m hm => by
  obtain ⟨m, rfl⟩ : ∃ k, m = k + 1 + 1 := ⟨m - 2, by omega⟩
  rw [frz_ne (fun e => by cases e.2)]
  have hg : (stL l).get (idOf k) = l[k]?.getD .free := by rw [stL_get]
  simp only [frzB, hg]
  cases ho : l[k]? with
  | none => rw [ho] at hk; cases hk
  | some o =>
    rw [ho] at hk
    cases o <;> simp only [obFull] at hk <;> try (cases hk; done)
    all_goals
      injection hk with hk; subst hk
      simp only [Option.getD_some, List.drop_zero, frzE_clo h hn]
theorem rows_imm_agg (l : List Ob) (es : Nat) (rs : List (List V)) : rows l es (.imm es (rs.map .agg)) = some rs := by
  simp only [rows, if_true, List.map_map]
  congr 1
  induction rs with
  | nil => rfl
  | cons r rs ih => simp only [List.map_cons, ih]; rfl
theorem clo_imm_agg {es : Nat} {rs : List (List V)} (h : ∀ r ∈ rs, cloL r = true) : Vm.clo (.imm es (rs.map .agg)) = true := by
  show cloL (rs.map .agg) = true
  refine cloL_of fun v hv => ?_
  obtain ⟨r, hr, rfl⟩ := List.mem_map.1 hv
  exact h r hr

/-! ### rows of one's own -/
/-- The value is a row of elements that lies in the o-th object and may be appended to. -/
def Own (lo : Nat) (l : List Ob) (es : Nat) (v : V) (rs : List (List V)) (o : Option Nat) : Prop := (∀ r ∈ rs, r.length = es) ∧ match o with
  | none => v = .nils ∧ rs = []
  | some k => ∃ anc, v = .ref es (idOf k) 0 rs.length ∧ l[k]? = some (.cells rs.flatten 0 anc) ∧ lo ≤ k ∧ ∀ a ∈ anc, ∃ i, a = idOf i ∧ lo ≤ i ∧ i < k
theorem Own.nil (lo : Nat) (l : List Ob) (es : Nat) : Own lo l es .nils [] none := ⟨nofun, rfl, rfl⟩
theorem Own.low {lo lo' : Nat} {l : List Ob} {es : Nat} {v : V} {rs : List (List V)} {o : Option Nat} (h : Own lo l es v rs o) (hl : lo' ≤ lo) : Own lo' l es v rs o := by
  cases o with
  | none => exact h
  | some k =>
    obtain ⟨h1, anc, h2, h3, h4, h5⟩ := h
    exact ⟨h1, anc, h2, h3, by omega, fun a ha => by obtain ⟨i, e, q1, q2⟩ := h5 a ha; exact ⟨i, e, by omega, q2⟩⟩
theorem Own.ge {lo : Nat} {l : List Ob} {es : Nat} {v : V} {rs : List (List V)} {k : Nat} (h : Own lo l es v rs (some k)) : lo ≤ k := by
  obtain ⟨_, _, _, _, h, _⟩ := h; exact h
theorem Own.keep {lo : Nat} {l l' : List Ob} {es : Nat} {v : V} {rs : List (List V)} {o : Option Nat} (h : Own lo l es v rs o) (hk : ∀ k, o = some k → l'[k]? = l[k]?) : Own lo l' es v rs o := by
  cases o with
  | none => exact h
  | some k =>
    obtain ⟨h1, anc, h2, h3, h4⟩ := h
    exact ⟨h1, anc, h2, by rw [hk k rfl]; exact h3, h4⟩
theorem Own.lt {lo : Nat} {l : List Ob} {es : Nat} {v : V} {rs : List (List V)} {k : Nat} (h : Own lo l es v rs (some k)) : k < l.length := by
  obtain ⟨h1, anc, h2, h3, _⟩ := h
  exact (List.getElem?_eq_some_iff.1 h3).1
theorem Own.cell {lo : Nat} {l : List Ob} {es : Nat} {v : V} {rs : List (List V)} {o : Option Nat} (h : Own lo l es v rs o) : v.isCell = true := by
  cases o with
  | none => obtain ⟨_, rfl, _⟩ := h; rfl
  | some k => obtain ⟨_, anc, rfl, _⟩ := h; exact isCell_ref ..
theorem Own.rows {lo : Nat} {l : List Ob} {es : Nat} {v : V} {rs : List (List V)} {o : Option Nat} (h : Own lo l es v rs o) : Vm.rows l es v = some rs := by
  cases o with
  | none => obtain ⟨_, rfl, rfl⟩ := h; rfl
  | some k =>
    obtain ⟨h1, anc, rfl, h3, h4, h5⟩ := h
    rw [rows_ref (c := rs.flatten) (by rw [h3]; rfl) (by rw [flatten_len es rs h1]; omega), List.drop_zero, chunks_of es rs h1]
theorem Own.fz {lo : Nat} {l : List Ob} {es : Nat} {v : V} {rs : List (List V)} {o : Option Nat} (h : Own lo l es v rs o) (hc : ∀ r ∈ rs, cloL r = true) : ∃ v', Fz l 2 v v' ∧ Vm.rows [] es v' = some rs ∧ Vm.clo v' = true := by
  cases o with
  | none => obtain ⟨_, rfl, rfl⟩ := h; exact ⟨.nils, (Fz.clo rfl).mono (by omega), rfl, rfl⟩
  | some k =>
    obtain ⟨h1, anc, rfl, h3, h4, h5⟩ := h
    have hl := flatten_len es rs h1
    refine ⟨_, Fz.ref (c := rs.flatten) (by rw [h3]; rfl) (cloL_flatten hc) (by omega), ?_, ?_⟩
    · rw [chunks_of es rs h1]; exact rows_imm_agg ..
    · rw [chunks_of es rs h1]; exact clo_imm_agg hc
theorem anc_in {lo k n : Nat} {anc : List Id} (h4 : lo ≤ k) (hk : k < n) (h5 : ∀ a ∈ anc, ∃ i, a = idOf i ∧ lo ≤ i ∧ i < k) : ∀ a ∈ idOf k :: anc, ∃ i, a = idOf i ∧ lo ≤ i ∧ i < n := by
  intro a ha
  rcases List.mem_cons.1 ha with e | e
  · exact ⟨k, e, h4, hk⟩
  · obtain ⟨i, e, q1, q2⟩ := h5 a e; exact ⟨i, e, q1, by omega⟩
/-- One more, that lies in the last object. -/
theorem Own.push {P : Program} {ty el : TypeId} {sz : Nat} (he : P.underlying ty = some (.slice el)) (hs : szT P el = some sz) (hz : P.bytesOf el ≤ 2 ^ 16 ∧ (zeroOf P el).map List.length = some sz) {lo : Nat} {l : List Ob} (hlo : lo ≤ l.length) {v y : V} {rs : List (List V)} {o : Option Nat} (h : Own lo l sz v rs o) {r : List V}
    (hy : Vm.rows l sz y = some [r]) (hr : r.length = sz) (hb : rs.length + 1 ≤ 16777216) :
    ∃ u l', opAppend2 P ty v y (stL l) = some (u, stL l') ∧ u.isCell = true ∧ Own lo l' sz u (rs ++ [r]) (some l.length) ∧ l'.length = l.length + 1 ∧ ∀ i, o ≠ some i → i < l.length → l'[i]? = l[i]? := by
  have hall : ∀ x ∈ rs ++ [r], x.length = sz := by
    intro x hx
    rcases List.mem_append.1 hx with e | e
    · exact h.1 x e
    · rw [List.mem_singleton.1 e]; exact hr
  cases o with
  | none =>
    obtain ⟨_, rfl, rfl⟩ := h
    refine ⟨_, _, append_nils he hs hz hy (by simp), isCell_ref .., ⟨hall, [], ?_, ?_, hlo, fun a ha => absurd ha List.not_mem_nil⟩, ?_, ?_⟩
    · simp
    · simp
    · simp
    · intro i _ hi; rw [List.getElem?_append_left hi]
  | some k =>
    obtain ⟨h1, anc, rfl, h3, h4, h5⟩ := h
    have hk := (List.getElem?_eq_some_iff.1 h3).1
    have hl := flatten_len sz rs h1
    refine ⟨_, _, append_ref he hs hz h3 hl hy (by simpa using hb), isCell_ref .., ⟨hall, idOf k :: anc, ?_, ?_, hlo, anc_in h4 hk h5⟩, ?_, ?_⟩
    · simp
    · rw [List.getElem?_append_right (by simp)]; simp
    · simp
    · intro i hi hlt
      rw [List.getElem?_append_left (by simpa using hlt), List.getElem?_set_ne (fun e => hi (by rw [e]))]
/-- A whole slice appended to an empty row. -/
theorem Own.fill {P : Program} {ty el : TypeId} {sz : Nat} (he : P.underlying ty = some (.slice el)) (hs : szT P el = some sz) (hz : P.bytesOf el ≤ 2 ^ 16 ∧ (zeroOf P el).map List.length = some sz) {lo : Nat} {l : List Ob} (hlo : lo ≤ l.length) {v y : V} {o : Option Nat} (h : Own lo l sz v [] o) {rs : List (List V)}
    (hy : Vm.rows l sz y = some rs) (hr : ∀ r ∈ rs, r.length = sz) (hb : rs.length ≤ 16777216) :
    ∃ u l' o', opAppend2 P ty v y (stL l) = some (u, stL l') ∧ u.isCell = true ∧ Own lo l' sz u rs o' ∧ l.length ≤ l'.length ∧ (o' = o ∨ o' = some l.length) ∧ ∀ i, o ≠ some i → i < l.length → l'[i]? = l[i]? := by
  cases rs with
  | nil =>
    cases o with
    | none =>
      obtain ⟨_, rfl, _⟩ := h
      exact ⟨_, _, none, append_nils0 he hs hy, isCell_nils, Own.nil .., by omega, .inl rfl, fun i _ _ => rfl⟩
    | some k =>
      have h0 := h
      obtain ⟨h1, anc, rfl, h3, h4, h5⟩ := h
      exact ⟨_, _, some k, append_none he hs h3 (by simp) hy, isCell_ref .., h0, by omega, .inl rfl, fun i _ _ => rfl⟩
  | cons r rs =>
    cases o with
    | none =>
      obtain ⟨_, rfl, _⟩ := h
      refine ⟨_, _, some l.length, append_nils he hs hz hy (by simpa using hb), isCell_ref .., ⟨hr, [], ?_, ?_, hlo, fun a ha => absurd ha List.not_mem_nil⟩, by simp, .inr rfl, ?_⟩
      · simp
      · simp
      · intro i _ hi; rw [List.getElem?_append_left hi]
    | some k =>
      obtain ⟨h1, anc, rfl, h3, h4, h5⟩ := h
      have hk := (List.getElem?_eq_some_iff.1 h3).1
      refine ⟨_, _, some l.length, append_ref he hs hz h3 (by simp) hy (by simpa using hb), isCell_ref .., ⟨hr, idOf k :: anc, ?_, ?_, hlo, anc_in h4 hk h5⟩, by simp, .inr rfl, ?_⟩
      · simp
      · rw [List.getElem?_append_right (by simp)]; simp
      · intro i hi hlt
        rw [List.getElem?_append_left (by simpa using hlt), List.getElem?_set_ne (fun e => hi (by rw [e]))]
theorem killAll_stL {lo k : Nat} : ∀ (anc : List Id) (l : List Ob), (∀ a ∈ anc, ∃ i, a = idOf i ∧ lo ≤ i ∧ i < k) → k ≤ l.length → ∃ l1, killAll anc (stL l) = stL l1 ∧ l1.length = l.length ∧ ∀ i, l1[i]? = l[i]? ∨ (lo ≤ i ∧ i < k ∧ (∃ c, l[i]? = some (.stale c)) ∧ l1[i]? = some .dead)
  | [], l, _, _ => ⟨l, rfl, rfl, fun i => .inl rfl⟩
  | a :: r, l, ha, hk => by
    obtain ⟨i, rfl, h1, h2⟩ := ha a (by simp)
    have hr : ∀ a ∈ r, ∃ i, a = idOf i ∧ lo ≤ i ∧ i < k := fun a h => ha a (by simp [h])
    have hi : l[i]? = some l[i] := List.getElem?_eq_getElem (by omega)
    by_cases hs : ∃ c, l[i] = .stale c
    · obtain ⟨c, hc⟩ := hs
      simp only [killAll, stL_get, hi, Option.getD_some, hc]
      rw [stL_set _ _ _ (by omega)]
      obtain ⟨l1, q1, q2, q3⟩ := killAll_stL r (l.set i .dead) hr (by simpa using hk)
      refine ⟨l1, q1, by simpa using q2, fun j => ?_⟩
      rcases q3 j with e | ⟨e1, e2, ⟨c', e3⟩, e4⟩
      · by_cases hj : i = j
        · subst hj
          rw [List.getElem?_set_self (by omega)] at e
          exact .inr ⟨h1, h2, ⟨c, by rw [hi, hc]⟩, e⟩
        · rw [List.getElem?_set_ne hj] at e; exact .inl e
      · by_cases hj : i = j
        · subst hj
          rw [List.getElem?_set_self (by omega)] at e3; cases e3
        · rw [List.getElem?_set_ne hj] at e3; exact .inr ⟨e1, e2, ⟨c', e3⟩, e4⟩
    · have e : killAll (idOf i :: r) (stL l) = killAll r (stL l) := by
        simp only [killAll, stL_get, hi, Option.getD_some]
        cases ho : l[i] <;> first | rfl | exact absurd ⟨_, ho⟩ hs
      rw [e]
      exact killAll_stL r l hr hk
theorem over_flatten {es : Nat} : ∀ {rs : List (List V)} {j : Nat} {r : List V}, (∀ x ∈ rs, x.length = es) → j < rs.length → r.length = es → over rs.flatten (j * es) r = (rs.set j r).flatten
  | [], j, r, _, h, _ => by simp at h
  | x :: rs, 0, r, hx, _, hr => by
    have := hx x (by simp)
    simp [over, ← hr, this ▸ hr]
  | x :: rs, j + 1, r, hx, h, hr => by
    have h0 := hx x (by simp)
    have ih := over_flatten (rs := rs) (j := j) (r := r) (fun y hy => hx y (by simp [hy])) (by simpa using h) hr
    have e : (j + 1) * es = x.length + j * es := by rw [Nat.add_mul, h0]; omega
    simp only [List.set_cons_succ, List.flatten_cons]
    rw [← ih]
    simp only [over, e, List.take_append, List.drop_append]
    have e1 : List.take (x.length + j * es) x = x := List.take_of_length_le (by omega)
    have e2 : List.drop (x.length + j * es + r.length) x = [] := List.drop_of_length_le (by omega)
    rw [e1, e2, show x.length + j * es - x.length = j * es by omega, show x.length + j * es + r.length - x.length = j * es + r.length by omega]
    simp
theorem Own.addr {lo : Nat} {l : List Ob} {es : Nat} {v : V} {rs : List (List V)} {k : Nat} (h : Own lo l es v rs (some k)) {j : Nat} (hj : j < rs.length) (kd : IntKind) : idxAddr es v (.int kd (j : Int)) = some (.ptr (idOf k) (0 + j * es)) := by
  obtain ⟨_, _, rfl, _⟩ := h
  rw [idxAddr_ref, if_pos hj]
/-- An element is written. -/
theorem Own.write {lo : Nat} {l : List Ob} {es : Nat} {v : V} {rs : List (List V)} {k : Nat} (h : Own lo l es v rs (some k)) {j : Nat} (hj : j < rs.length) {r : List V} (hr : r.length = es) :
    ∃ l', writeR (stL l) (.ptr (idOf k) (0 + j * es)) r = some (.any, stL l') ∧ Own lo l' es v (rs.set j r) (some k) ∧ l'.length = l.length ∧ ∀ i, i ≠ k → (i < lo ∨ ∀ c, l[i]? ≠ some (.stale c)) → l'[i]? = l[i]? := by
  have hlt := h.lt
  obtain ⟨h1, anc, rfl, h3, h4, h5⟩ := h
  have hfl := flatten_len es rs h1
  have hle : j * es + es ≤ rs.length * es := by rw [← Nat.succ_mul]; exact Nat.mul_le_mul_right _ hj
  obtain ⟨l1, q1, q2, q3⟩ := killAll_stL anc l h5 (by omega)
  have hn : idOf k ∉ anc := fun hm => by
    obtain ⟨i, e, _, e2⟩ := h5 _ hm
    have := idOf_inj.1 e
    omega
  have hw : writeR (stL l) (.ptr (idOf k) (0 + j * es)) r = some (.any, stL (l1.set k (.cells (over rs.flatten (0 + j * es) r) 0 []))) := by
    simp only [writeR, writeAt, stL_get, h3, Option.getD_some]
    rw [if_pos ⟨Nat.zero_le _, by omega, hn⟩, q1, stL_set _ _ _ (by omega)]
  refine ⟨_, hw, ⟨?_, [], ?_, ?_, h4, fun a ha => absurd ha List.not_mem_nil⟩, by simpa using q2, ?_⟩
  · intro x hx
    rcases List.mem_or_eq_of_mem_set hx with e | e
    · exact h1 x e
    · rw [e]; exact hr
  · simp
  · rw [List.getElem?_set_self (by omega), Nat.zero_add, over_flatten h1 hj hr]
  · intro i hi hs
    rw [List.getElem?_set_ne (fun e => hi e.symm)]
    rcases q3 i with e | ⟨e1, _, ⟨c, e3⟩, _⟩
    · exact e
    · rcases hs with e | e
      · omega
      · exact absurd e3 (e c)
/-- What lies before is kept. -/
theorem app_of {l l' : List Ob} (h : ∀ i, i < l.length → l'[i]? = l[i]?) : ∃ g, l' = l ++ g := by
  refine ⟨l'.drop l.length, ?_⟩
  apply List.ext_getElem?
  intro i
  by_cases hi : i < l.length
  · rw [List.getElem?_append_left hi, h i hi]
  · rw [List.getElem?_append_right (by omega), List.getElem?_drop]
    congr 1; omega
/-- The walk of a law of which it is said that it answers true. -/
theorem walk_kc {P : Program} (hmix : P.follows .mixedOrders = true) {Sp : SpecF} {f : FuncId} {xs : List V} (h : KC P Sp f xs) (hs : ∀ v, Sp f xs v → v = .bool true) {w : World} (hg : ∀ (g : Nat), Rel (stillW w) (Gl.gl g) (.pointer (some ⟨g, 0, none⟩))) {args : Array Value} (ha : RelL (stillW w) xs args.toList) :
    Calls P f args w fun e w' => e = .returned (.bool true) ∧ RowKit.Grown w w' ∧ ∀ b, b < w.heap.size → w'.heap[b]? = w.heap[b]? := by
  obtain ⟨v, ⟨_, base, n, m, u0, S1, hb, hc, hf⟩, hv⟩ := h
  have := hs v hv
  subst this
  have := frz_bool hf
  subst this
  obtain ⟨_, h⟩ := calls_ok hmix hb n f xs st0 _ S1 hc
  refine (h (stillW w) w args (Mem.stillW hg) ha).mono fun e w' ⟨Γ', u, hu, hst, hrel⟩ => ?_
  have hkeep : ∀ b, b < w.heap.size → w'.heap[b]? = w.heap[b]? := fun b hb => hst.frame b hb (fun id hid => by cases hid)
  refine ⟨?_, ⟨World.keptBut_none_iff.2 ⟨hst.os, hst.output, hkeep⟩, hst.fz, hst.size⟩, hkeep⟩
  cases hrel; exact hu
end Go.Vm

/-! More rewriting rules: maps, numbers. -/
namespace Go.Vm
variable [Gl]
section
variable {P : Program} {call : CallF} {t : Tm} {S : St} {d : Option Nat} {ty : TypeId} {pos : String} {af : Array Edge} {g : Option (Nat × Bool)}
theorem e_mapEntry {e : TypeId} {m k : Operand} : evOp P call ⟨d, .mapEntry e m k, ty, pos, af, g⟩ t S = opMapEntry P e (opd t m) (opd t k) S := (rfl)
theorem e_entryStore {e : TypeId} {m i x : Operand} : evOp P call ⟨d, .entryStore e m i x, ty, pos, af, g⟩ t S = opEntryStore (opd t m) (opd t i) (opd t x) S := (rfl)
def minV2 (x y : V) : Option V := match x with
  | .int k n => minL (.int k n) [y]
  | _ => none
theorem minV2_int (k : IntKind) (a b : Int) : minV2 (.int k a) (.int k b) = some (.int k (if b < a then b else a)) := (rfl)
theorem e_min2 {x y : Operand} {ts : Array TypeId} : evOp P call ⟨d, .call ⟨.builtin .min, #[x, y], ts⟩, ty, pos, af, g⟩ t S = ret1 (minV2 (opd t x) (opd t y)) S := by
  simp only [evOp, List.map_cons, List.map_nil, minV2]
  cases opd t x <;> rfl
end
theorem nilCheck_ptr (i : Id) (o : Nat) : opNilCheck (.ptr i o) = some (.ptr i o) := (rfl)
section
variable {P : Program}
theorem bin_pnil {e el : TypeId} (he : P.underlying e = some (.pointer el)) (i : Id) (o : Nat) : binV P .eql e (.ptr i o) .nilp = some (.bool false) := by simp [binV, eqV, typedEq, he, scalarEq]
theorem bin_rem (e : TypeId) (k : IntKind) (a b : Int) : binV P .rem e (.int k a) (.int k b) = if b = 0 then none else some (.int k (a.tmod b)) := by simp [binV, intV]
theorem bin_quo (e : TypeId) (k : IntKind) (a b : Int) : binV P .quo e (.int k a) (.int k b) = if b = 0 then none else some (.int k (k.wrap (a.tdiv b))) := by simp [binV, intV]
theorem bin_and (e : TypeId) (k : IntKind) (a b : Int) : binV P .and e (.int k a) (.int k b) = some (.int k (k.wrap (BitVec.ofInt k.bits a &&& BitVec.ofInt k.bits b).toNat)) := by simp [binV, intV]
theorem bin_xor (e : TypeId) (k : IntKind) (a b : Int) : binV P .xor e (.int k a) (.int k b) = some (.int k (k.wrap (BitVec.ofInt k.bits a ^^^ BitVec.ofInt k.bits b).toNat)) := by simp [binV, intV]
theorem bin_shr (e : TypeId) (k j : IntKind) (a : Int) (b : Nat) : binV P .shr e (.int k a) (.int j (b : Int)) = some (.int k (a.fdiv (2 ^ (min b k.bits)))) := by
  simp [binV, shiftV]
end
attribute [go_sem] e_mapEntry e_entryStore e_min2 minV2_int nilCheck_ptr
end Go.Vm

