import Derived.Test.YtoleefgpfkpokaaGreatDoorVm1
import Derived.Test.YtoleefgpfkpokaaGreatDoorVm2
import Derived.OrdersIn
import Derived.RangeFuncRecord
import Derived.RangeFuncLeaves
import Derived.RangeFuncOwn
import Derived.Orders
set_option autoImplicit false
set_option linter.unusedSectionVars false
set_option linter.unusedVariables false
set_option linter.unusedSimpArgs false
/-! A drawn region in another order. -/
namespace Go.Vm
variable [Gl]

/-- How many are not listed. -/
def unl (L : Nat → Bool) : Nat → Nat
  | 0 => 0
  | n + 1 => unl L n + if L n then 0 else 1
theorem unl_zero {L : Nat → Bool} : ∀ (n : Nat), unl L n = 0 → ∀ j < n, L j = true
  | 0, _, j, hj => by omega
  | n + 1, h, j, hj => by
    simp only [unl] at h
    cases hl : L n with
    | false => rw [hl] at h; simp at h
    | true =>
      by_cases e : j = n
      · rw [e]; exact hl
      · exact unl_zero n (by omega) j (by omega)
theorem unl_same {L L' : Nat → Bool} : ∀ (n : Nat), (∀ j < n, L' j = L j) → unl L' n = unl L n
  | 0, _ => rfl
  | n + 1, h => by simp only [unl, h n (by omega), unl_same n fun j hj => h j (by omega)]
theorem unl_put {L L' : Nat → Bool} {i : Nat} (hL : ∀ j, L' j = (L j || j == i)) (hi : L i = false) : ∀ (n : Nat), i < n → unl L' n + 1 = unl L n
  | 0, h => by omega
  | n + 1, h => by
    simp only [unl]
    by_cases e : i = n
    · subst e
      rw [unl_same (L := L) (L' := L') i fun j hj => by
        rw [hL]; have : (j == i) = false := by simp; omega
        simp [this]]
      simp [hL, hi]
    · have ih := unl_put hL hi n (by omega)
      have : L' n = L n := by
        rw [hL]; have : (n == i) = false := by simp; omega
        simp [this]
      rw [this]; omega


section
variable {F : Fence} {n : Nat} {P : Program} {ops ops' : Array Oper} {Q : Exit → Act → World → Prop} {md : Region.Mode} {ρ σ : Nat → Nat} {x y : Nat}

/-- An order that may be drawn. -/
def Valid (md : Region.Mode) (ops : Array Oper) : Array Bool → List Nat → Prop
  | L, [] => Region.ready md ops L = []
  | L, i :: r => i ∈ Region.ready md ops L ∧ Valid md ops (L.setIfInBounds i true) r
theorem Valid.run : ∀ (ord : List Nat) (fuel : Nat) (L : Array Bool) (a : Act) (w : World), Valid md ops L ord → wpAnyIn F n P md ops Q fuel L a w → wpOpsIn F n P ops Q ord a w
  | [], 0, L, a, w, hv, h => h.2
  | [], fuel + 1, L, a, w, hv, h => h.1 hv
  | i :: r, 0, L, a, w, hv, h => by
    have := hv.1
    rw [h.1] at this; cases this
  | i :: r, fuel + 1, L, a, w, hv, h => by
    rw [wpOpsIn_cons]
    exact wpOpIn_mono (fun a w h => Valid.run r fuel _ a w hv.2 h) (h.2 i hv.1)
theorem ready_lt {k : Nat} {L : Array Bool} (h : k ∈ Region.ready md ops L) : k < ops.size := by
  obtain ⟨_, o, h, _⟩ := mem_ready.1 h
  exact (Array.getElem?_eq_some_iff.1 h).1
theorem set_getD {L : Array Bool} {k : Nat} (hk : k < L.size) (j : Nat) (d : Bool) : (L.setIfInBounds k true).getD j d = (L.getD j d || j == k) := by
  by_cases e : j = k
  · subst e; simp [hk]
  · have hb : (j == k) = false := by simpa using e
    rw [getD_set_ne d (Ne.symm e), hb, Bool.or_false]
theorem go_valid : ∀ (fuel t : Nat) (L : Array Bool), L.size = ops.size → unl (fun j => L.getD j true) ops.size ≤ fuel → Valid md ops L (Region.linearise.go md ops fuel t L [])
  | 0, t, L, hs, hf => by
    simp only [Region.linearise.go, List.reverse_nil, Valid]
    cases hr : Region.ready md ops L with
    | nil => rfl
    | cons k r =>
      have hm : k ∈ Region.ready md ops L := by rw [hr]; simp
      have h1 := (mem_ready.1 hm).1
      have h2 : L.getD k true = true := unl_zero (L := fun j => L.getD j true) ops.size (by omega) k (ready_lt hm)
      rw [h2] at h1; cases h1
  | fuel + 1, t, L, hs, hf => by
    simp only [Region.linearise.go]
    change Valid md ops L (match (Region.ready md ops L)[t % (Region.ready md ops L).length]? with
      | some i => Region.linearise.go md ops fuel (t / (Region.ready md ops L).length) (L.setIfInBounds i true) [i]
      | none => [].reverse)
    cases hi : (Region.ready md ops L)[t % (Region.ready md ops L).length]? with
    | none =>
      show Region.ready md ops L = []
      cases hr : Region.ready md ops L with
      | nil => rfl
      | cons x xs =>
        rw [hr] at hi
        have hlt : t % (x :: xs).length < (x :: xs).length := Nat.mod_lt _ (by simp)
        simp at hi
        simp at hlt
        omega
    | some i =>
      have hm := List.mem_of_getElem? hi
      simp only []
      rw [linearise_go_acc, List.reverse_singleton, List.singleton_append]
      have hlt := ready_lt hm
      refine ⟨hm, go_valid fuel _ _ (by simpa using hs) ?_⟩
      have := unl_put (L := fun j => L.getD j true) (L' := fun j => (L.setIfInBounds i true).getD j true) (i := i) (fun j => set_getD (by omega) j true) (mem_ready.1 hm).1 ops.size hlt
      omega

/-- The same operations in other places; the x-th waits for the y-th too. -/
structure Prm (ops ops' : Array Oper) (ρ : Nat → Nat) (x y : Nat) : Prop where
  size : ops'.size = ops.size
  inj : ∀ a b, ρ a = ρ b → a = b
  sur : ∀ m, ∃ k, ρ k = m
  lt : ∀ k, ρ k < ops.size ↔ k < ops.size
  get : ∀ k o, ops[k]? = some o → ops'[ρ k]? = some (renO ρ (if k = x then some y else none) o)
/-- The y-th comes before the x-th, if the x-th comes. -/
def ibf (y x : Nat) : List Nat → Bool
  | [] => true
  | k :: r => if k = y then true else if k = x then false else ibf y x r
theorem ibf_swap : ∀ (l : List Nat), ibf y x l = false → ibf x y l = true
  | [], h => by cases h
  | k :: r, h => by
    simp only [ibf] at h ⊢
    by_cases h1 : k = y
    · simp [h1] at h
    · by_cases h2 : k = x
      · simp [h2]
      · simp only [h1, h2, if_false] at h ⊢
        exact ibf_swap r h
theorem Prm.out (h : Prm ops ops' ρ x y) {k : Nat} (hk : ops[k]? = none) : ops'[ρ k]? = none := by
  rw [Array.getElem?_eq_none_iff] at hk ⊢
  rw [h.size]
  have := h.lt k
  omega
theorem mem_renO {z : Option Nat} {o : Oper} {e : Edge} : e ∈ (renO ρ z o).after ↔ (∃ y, z = some y ∧ e = ⟨ρ y, .data⟩) ∨ ∃ e', e' ∈ o.after ∧ renE ρ e' = e := by
  simp only [renO, List.mem_toArray, List.mem_append, List.mem_map, Array.mem_toList_iff]
  cases z <;> simp
theorem binds_ren {e : Edge} : Region.binds md (renE ρ e) = Region.binds md e := rfl
theorem Prm.valid (h : Prm ops ops' ρ x y) : ∀ (ord : List Nat) (L L2 : Array Bool), L.size = ops.size → L2.size = ops.size → (∀ k d, L2.getD (ρ k) d = L.getD k d) → Valid .any ops L ord → (L.getD y false = true ∨ ibf y x ord = true) → x ≠ y →
    Valid .any ops' L2 (ord.map ρ)
  | [], L, L2, hs, hs2, hL, hv, hc, hne => by
    show Region.ready .any ops' L2 = []
    have hv : Region.ready .any ops L = [] := hv
    cases hr : Region.ready .any ops' L2 with
    | nil => rfl
    | cons m r =>
      have hm : m ∈ Region.ready .any ops' L2 := by rw [hr]; simp
      obtain ⟨k, rfl⟩ := h.sur m
      obtain ⟨h1, o', h2, h3⟩ := mem_ready.1 hm
      cases ho : ops[k]? with
      | none => rw [h.out ho] at h2; cases h2
      | some o =>
        rw [h.get k o ho] at h2; injection h2 with h2; subst h2
        have : k ∈ Region.ready .any ops L := mem_ready.2 ⟨by rw [← hL]; exact h1, o, ho, fun e he hb => by
          rw [← hL]; exact h3 (renE ρ e) (mem_renO.2 (.inr ⟨e, he, rfl⟩)) hb⟩
        rw [hv] at this; cases this
  | k :: r, L, L2, hs, hs2, hL, hv, hc, hne => by
    obtain ⟨hk, hv⟩ := hv
    have hlt := ready_lt hk
    obtain ⟨h1, o, ho, h3⟩ := mem_ready.1 hk
    have hlt2 : ρ k < L2.size := by rw [hs2]; exact (h.lt k).2 hlt
    refine ⟨mem_ready.2 ⟨by rw [hL]; exact h1, _, h.get k o ho, fun e he hb => ?_⟩, ?_⟩
    · rcases mem_renO.1 he with ⟨y', hz, rfl⟩ | ⟨e', he', rfl⟩
      · by_cases hx : k = x
        · rw [if_pos hx] at hz; injection hz with hz; subst hz
          show L2.getD (ρ y) false = true
          rw [hL]
          rcases hc with hc | hc
          · exact hc
          · simp only [ibf] at hc
            rw [if_neg (fun e => hne (hx ▸ e)), if_pos hx] at hc; cases hc
        · rw [if_neg hx] at hz; cases hz
      · show L2.getD (ρ e'.on) false = true
        rw [hL]; exact h3 e' he' hb
    · refine h.valid r _ _ (by simpa using hs) (by simpa using hs2) (fun m d => ?_) hv ?_ hne
      · rw [set_getD hlt2, set_getD (by omega), hL]
        congr 1
        by_cases e : m = k
        · subst e; rw [beq_self_eq_true, beq_self_eq_true]
        · have h1 : ρ m ≠ ρ k := fun e' => e (h.inj _ _ e')
          have h2 : (ρ m == ρ k) = false := by simpa using h1
          have h3 : (m == k) = false := by simpa using e
          rw [h2, h3]
      · rw [set_getD (by omega)]
        rcases hc with hc | hc
        · left; rw [hc]; rfl
        · simp only [ibf] at hc
          by_cases hy : k = y
          · left; subst hy; simp
          · rw [if_neg hy] at hc
            by_cases hx : k = x
            · rw [if_pos hx] at hc; cases hc
            · rw [if_neg hx] at hc; exact .inr hc
theorem Prm.yielded (h : Prm ops ops' ρ x y) (tm : Array Value) (j : Nat) : yielded ops' tm (ρ j) = yielded ops tm j := by
  unfold Go.yielded
  cases ho : ops[j]? with
  | none => rw [h.out ho]
  | some o => rw [h.get j o ho]; rfl
theorem Prm.run (h : Prm ops ops' ρ x y) : ∀ (ord : List Nat) (a : Act) (w : World), wpOpsIn F n P ops' Q (ord.map ρ) a w → wpOpsIn F n P ops Q ord a w
  | [], a, w, hw => hw
  | k :: r, a, w, hw => by
    simp only [List.map_cons, wpOpsIn] at hw ⊢
    cases ho : ops[k]? with
    | none => rw [h.out ho] at hw; exact h.run r a w hw
    | some o =>
      rw [h.get k o ho] at hw
      simp only [] at hw ⊢
      have hwant : Region.wanted (renO ρ (if k = x then some y else none) o) (Go.yielded ops' a.tmps) = Region.wanted o (Go.yielded ops a.tmps) := by
        unfold Region.wanted renO
        cases hg : o.guard with
        | none => rfl
        | some g =>
          obtain ⟨j, b⟩ := g
          simp only [h.yielded]
      rw [hwant] at hw
      split
      · rename_i hq
        rw [if_pos hq] at hw
        exact Oper.wpIn_mono (o := o) (fun a w h' => h.run r a w h') hw
      · rename_i hq
        rw [if_neg hq] at hw
        exact ⟨hw.1, h.run r _ w hw.2⟩

theorem prm_ok {d : Oper} (hinv : ∀ k, σ (ρ k) = k) (hsur : ∀ m, ρ (σ m) = m) (hlt : ∀ k, ρ k < ops.size ↔ k < ops.size) : Prm ops (prm ρ σ x y ops d) ρ x y where
  size := by simp [prm]
  inj a b e := by rw [← hinv a, e, hinv]
  sur m := ⟨σ m, hsur m⟩
  lt := hlt
  get k o ho := by
    have hk := (Array.getElem?_eq_some_iff.1 ho).1
    have hr := (hlt k).2 hk
    unfold prm
    rw [List.getElem?_toArray, List.getElem?_map, List.getElem?_range hr]
    simp only [Option.map_some, hinv]
    rw [List.getD_eq_getElem?_getD, Array.getElem?_toList, ho]
    rfl
theorem splitOf_ok {draw : Bool} {o1 o2 : Array Oper} (h : splitOf draw ops = some (o1, o2)) : draw = true ∧ ∃ (i j : Nat), i < j ∧ Prm ops o1 id j i ∧ Prm ops o2 (shR i j) i j := by
  unfold splitOf at h
  split at h
  · cases h
  · split at h
    · split at h
      · rename_i i j d _ _ _ hc
        injection h with h; injection h with e1 e2
        subst e1; subst e2
        refine ⟨rfl, i, j, hc.1, prm_ok (fun _ => rfl) (fun _ => rfl) (fun _ => Iff.rfl), prm_ok (fun k => ?_) (fun m => ?_) (fun k => ?_)⟩
        · unfold shR shL; repeat' split
          all_goals omega
        · unfold shR shL; repeat' split
          all_goals omega
        · unfold shR; repeat' split
          all_goals omega
      · cases h
    · cases h
/-- Both orders of the two stores. -/
theorem split_region (hmix : P.follows .mixedOrders = true) {draw : Bool} {id : Nat} {o1 o2 : Array Oper} (hs : splitOf draw ops = some (o1, o2)) {a : Act} {w : World}
    (h1 : wpAnyIn F n P .any o1 Q o1.size (Array.replicate o1.size false) a { w with drawn := w.drawn + 1 })
    (h2 : wpAnyIn F n P .any o2 Q o2.size (Array.replicate o2.size false) a { w with drawn := w.drawn + 1 }) : (Code.region id ops draw).wpIn F n P Q a w := by
  obtain ⟨hd, i, j, hij, p1, p2⟩ := splitOf_ok hs
  subst hd
  refine wpIn_region_draw fun t => ?_
  simp only [Region.schedule, hmix, Bool.true_or, if_true, Region.linearise]
  have hrep : ∀ (m k : Nat) (d d' : Bool), m = ops.size → (Array.replicate m false).getD k d = if k < ops.size then false else d := by
    intro m k d _ hm
    subst hm
    simp only [Array.getD_eq_getD_getElem?, Array.getElem?_replicate]
    split <;> rfl
  have hv : Valid .any ops (Array.replicate ops.size false) (Region.linearise.go .any ops ops.size t (Array.replicate ops.size false) []) := by
    refine go_valid _ _ _ (by simp) ?_
    have : ∀ (L : Nat → Bool) (m : Nat), unl L m ≤ m := by
      intro L m
      induction m with
      | zero => exact Nat.le_refl _
      | succ m ih => simp only [unl]; split <;> omega
    exact this _ _
  generalize Region.linearise.go .any ops ops.size t (Array.replicate ops.size false) [] = ord at hv ⊢
  cases hb : ibf i j ord with
  | true =>
    refine p1.run ord a _ (Valid.run _ _ _ _ _ (p1.valid ord _ (Array.replicate o1.size false) (by simp) (by simp [p1.size]) (fun k d => ?_) hv (.inr hb) (by omega)) h1)
    rw [hrep _ _ d d p1.size, hrep _ _ d d rfl]; rfl
  | false =>
    refine p2.run ord a _ (Valid.run _ _ _ _ _ (p2.valid ord _ (Array.replicate o2.size false) (by simp) (by simp [p2.size]) (fun k d => ?_) hv (.inr (ibf_swap ord hb)) (by omega)) h2)
    rw [hrep _ _ d d p2.size, hrep _ _ d d rfl]
    have := p2.lt k
    by_cases hk : k < ops.size
    · rw [if_pos hk, if_pos (this.2 hk)]
    · rw [if_neg hk, if_neg (fun h => hk (this.1 h))]
end
end Go.Vm

/-! A range over what slices.Backward returns. -/
namespace Go.Vm
variable [Gl]
open Go.RowKit

/-! ### blocks that are no objects -/
section
variable {Γ Γ' : Ctx} {S S' : St} {w w1 w2 : World}
theorem Mem.aside (h : Mem Γ S w1) (hs : w1.heap.size ≤ w2.heap.size) (hφ : ∀ (b : Nat) (id : Id), Γ.φ id = some b → w2.heap[b]? = w1.heap[b]?) (hc : ∀ (a : Addr) (u : Value), w1.cell? a = some u → w2.cell? a = some u) : Mem Γ S w2 where
  glb := h.glb
  fro b o u hu := hc _ _ (h.fro b o u hu)
  lt id b hb := Nat.lt_of_lt_of_le (h.lt id b hb) hs
  alive := h.alive
  row id b l fz anc hb he := by unfold RowAt; rw [hφ b id hb]; exact h.row id b l fz anc hb he
  frz := h.frz
  old id b l hb he := by
    obtain ⟨us, h1, h2, h3⟩ := h.old id b l hb he
    exact ⟨us, h1, fun j u hj => hc _ _ (h2 j u hj), h3⟩
  one := h.one
  anc := h.anc
  map id b l hb he := by unfold MapAt; rw [hφ b id hb]; exact h.map id b l hb he
  mst := h.mst
theorem Step.aside (h : Step Γ S w Γ' S' w1) (hs : w1.heap.size ≤ w2.heap.size) (hφ : ∀ (b : Nat) (id : Id), Γ'.φ id = some b → w2.heap[b]? = w1.heap[b]?) (hc : ∀ (a : Addr) (u : Value), w1.cell? a = some u → w2.cell? a = some u)
    (hb : ∀ (b : Nat), b < w.heap.size → w2.heap[b]? = w1.heap[b]?) (ho : w2.os = w1.os) (ht : w2.tape = w1.tape) (hu : w2.output = w1.output) (hf : ∀ (a : Addr), w2.frozen? a = w1.frozen? a) : Step Γ S w Γ' S' w2 where
  le := h.le
  mem := h.mem.aside hs hφ hc
  os := ho.trans h.os
  tape := ht.trans h.tape
  output := hu.trans h.output
  size := Nat.le_trans h.size hs
  frame b h1 h2 := (hb b h1).trans (h.frame b h1 h2)
  pend := h.pend
  own := h.own
  mu := h.mu
  fz a := (hf a).trans (h.fz a)
theorem cell_none {w : World} {a : Addr} {o : Obj} (h : w.heap[a.block]? = some o) (ho : o.isCells = false) : w.cell? a = none := by
  cases o <;> first | (cases ho; done) | simp [World.cell?, h]
theorem frozen_none {w : World} {a : Addr} {o : Obj} (h : w.heap[a.block]? = some o) (ho : o.isCells = false) : w.frozen? a = false := by
  cases o <;> first | (cases ho; done) | simp [World.frozen?, h]
theorem Step.put (h : Step Γ S w Γ' S' w1) {r : Nat} {o o' : Obj} (hr : w.heap.size ≤ r) (hφ : ∀ (id : Id), Γ'.φ id ≠ some r) (h1 : w1.heap[r]? = some o) (ho : o.isCells = false) (ho' : o'.isCells = false) : Step Γ S w Γ' S' (w1.putObj r o') := by
  have hlt : r < w1.heap.size := (Array.getElem?_eq_some_iff.1 h1).1
  have hoth : ∀ b, b ≠ r → (w1.putObj r o').heap[b]? = w1.heap[b]? := fun b hb => World.putObj_heap_other hb
  have hsame : (w1.putObj r o').heap[r]? = some o' := World.putObj_heap_same hlt
  refine h.aside (by simp) (fun b id hb => hoth b (fun e => hφ id (e ▸ hb))) (fun a u hu => ?_) (fun b hb => hoth b (by omega)) rfl rfl rfl (fun a => ?_)
  · by_cases e : a.block = r
    · rw [cell_none (by rw [e]; exact h1) ho] at hu; cases hu
    · rw [← hu]; simp only [World.cell?, hoth _ e]
  · by_cases e : a.block = r
    · rw [frozen_none (w := w1.putObj r o') (by rw [e]; exact hsame) ho', frozen_none (w := w1) (by rw [e]; exact h1) ho]
    · simp only [World.frozen?, hoth _ e]
theorem Step.lay (h : Step Γ S w Γ' S' w1) (o : Obj) (ho : o.isCells = false) : Step Γ S w Γ' S' (w1.alloc o) := by
  have hold : ∀ b, b < w1.heap.size → (w1.alloc o).heap[b]? = w1.heap[b]? := fun b hb => Below.heap_alloc w1 _ b hb
  refine h.aside (by simp) (fun b id hb => hold b (h.mem.lt id b hb)) (fun a u hu => ?_) (fun b hb => hold b (Nat.lt_of_lt_of_le hb h.size)) rfl rfl rfl (fun a => ?_)
  · rw [World.cell?_alloc_lt w1 _ a (World.block_lt_of_cell? w1 _ hu)]; exact hu
  · rcases Nat.lt_or_ge a.block w1.heap.size with hl | hl
    · simp only [World.frozen?, hold _ hl]
    · by_cases e : a.block = w1.heap.size
      · rw [frozen_none (by rw [e]; exact World.alloc_heap_new w1 o) ho]
        simp only [World.frozen?, Array.getElem?_eq_none hl]
      · simp only [World.frozen?]
        rw [Array.getElem?_eq_none hl, Array.getElem?_eq_none (by simp; omega)]

/-- A block that is no object of the store's. -/
structure Rec (Γ : Ctx) (w : World) (r : Nat) (o : Obj) : Prop where
  heap : w.heap[r]? = some o
  off : ∀ (id : Id), Γ.φ id ≠ some r
theorem Rec.lt {r : Nat} {o : Obj} (h : Rec Γ w r o) : r < w.heap.size := (Array.getElem?_eq_some_iff.1 h.heap).1
theorem Rec.step {w' : World} {r : Nat} {o : Obj} (h : Rec Γ w r o) (hst : Step Γ S w Γ' S' w') : Rec Γ' w' r o where
  heap := (hst.frame r h.lt fun id hid => absurd hid (h.off id)).trans h.heap
  off id hid := by
    rcases hst.own id r hid h.lt with ⟨e, _⟩ | ⟨_, id0, e, _⟩
    · exact h.off _ e
    · exact h.off _ e
theorem Rec.other {r k : Nat} {o o' : Obj} (h : Rec Γ w r o) (hne : r ≠ k) : Rec Γ (w.putObj k o') r o := ⟨(World.putObj_heap_other hne).trans h.heap, h.off⟩
theorem Rec.put {r : Nat} {o o' : Obj} (h : Rec Γ w r o) : Rec Γ (w.putObj r o') r o' := ⟨World.putObj_heap_same h.lt, h.off⟩

abbrev mark (r : Nat) : Deferred := { target := .collected r, args := #[] }
/-- The marks of an activation that began when the heap had b0 blocks. -/
def Marks (Γ : Ctx) (w : World) (b0 : Nat) (ds : List Deferred) : Prop :=
  b0 ≤ w.heap.size ∧ ∃ rs : List Nat, ds = rs.map mark ∧ rs.Nodup ∧ ∀ r ∈ rs, b0 ≤ r ∧ Rec Γ w r (.deferred (some []))
theorem Marks.nil {b0 : Nat} (h : b0 ≤ w.heap.size) : Marks Γ w b0 [] := ⟨h, [], rfl, .nil, fun _ h => by cases h⟩
theorem Marks.step {w' : World} {b0 : Nat} {ds : List Deferred} (h : Marks Γ w b0 ds) (hst : Step Γ S w Γ' S' w') : Marks Γ' w' b0 ds := by
  obtain ⟨h0, rs, h1, h2, h3⟩ := h
  exact ⟨Nat.le_trans h0 hst.size, rs, h1, h2, fun r hr => ⟨(h3 r hr).1, (h3 r hr).2.step hst⟩⟩
theorem Marks.cons {w' : World} {b0 D : Nat} {ds : List Deferred} (h : Marks Γ w b0 ds) (hst : Step Γ S w Γ' S' w') (hD : w.heap.size ≤ D) (hr : Rec Γ' w' D (.deferred (some []))) : Marks Γ' w' b0 (mark D :: ds) := by
  obtain ⟨h0, rs, h1, h2, h3⟩ := h
  refine ⟨Nat.le_trans h0 hst.size, D :: rs, by rw [h1]; rfl, List.nodup_cons.2 ⟨fun hm => ?_, h2⟩, fun r hm => ?_⟩
  · have := (h3 D hm).2.lt; omega
  · rcases List.mem_cons.1 hm with e | e
    · subst e; exact ⟨by omega, hr⟩
    · exact ⟨(h3 r e).1, (h3 r e).2.step hst⟩
end

/-! ### the end of a function -/
section
variable {P : Program} {Γ Γ' : Ctx} {S S' : St} {w w1 : World}
theorem leaves_marks {fn : Func} {tmps : Array Value} {Rr : Ending → World → Prop} (hres : ∀ w2, Step Γ S w Γ' S' w2 → ∃ u, (results fn tmps).run P w2 = .ok u w2 ∧ Rr (.returned u) w2) :
    ∀ (rs : List Nat) {w1 : World}, Step Γ S w Γ' S' w1 → rs.Nodup → (∀ r ∈ rs, w.heap.size ≤ r ∧ Rec Γ' w1 r (.deferred (some []))) → LeavesInM (Wr none) 0 P fn tmps Rr (rs.map mark) .returning w1
  | [], w1, hst, _, _ => hres w1 hst
  | r :: rs, w1, hst, hn, hr => by
    obtain ⟨h1, h2⟩ := hr r (by simp)
    obtain ⟨n1, n2⟩ := List.nodup_cons.1 hn
    refine ⟨nofun, .inl ⟨r, _, rfl, run_takeDeferred h2.heap, ?_⟩⟩
    refine leaves_marks hres rs (hst.put h1 h2.off h2.heap rfl rfl) n2 fun k hk => ⟨(hr k (by simp [hk])).1, (hr k (by simp [hk])).2.other fun e => n1 (e ▸ hk)⟩
end

/-! ### the checks -/
section
variable {P : Program} {o : Oper} {d a b : Nat} {t : TypeId}
theorem chkLoad_eq (h : chkLoad o d a = some t) : o.op = .load t (.tmp a) ∧ o.dst = some d ∧ o.guard = none := by
  unfold chkLoad at h
  split at h
  · rename_i t' x e
    split at h
    · rename_i hc; obtain ⟨h1, h2, h3⟩ := hc; injection h with h; subst h; subst h2; exact ⟨e, h1, h3⟩
    · cases h
  · cases h
theorem chkMove_eq (h : chkMove o d a = true) : o.op = .move (.tmp a) ∧ o.dst = some d ∧ o.guard = none := by
  unfold chkMove at h
  split at h
  · rename_i x e; obtain ⟨h1, h2, h3⟩ := of_decide_eq_true h; subst h2; exact ⟨e, h1, h3⟩
  · cases h
theorem chkAsg_eq (h : chkAsg o d a = true) : o.op = .assign (.tmp a) ∧ o.dst = some d ∧ o.guard = none := by
  unfold chkAsg at h
  split at h
  · rename_i x e; obtain ⟨h1, h2, h3⟩ := of_decide_eq_true h; subst h2; exact ⟨e, h1, h3⟩
  · cases h
theorem chkBin_eq {op : BinOp} {k : Int} (h : chkBin o d op a k = true) : ∃ ty ty', o.op = .binOp op ty (.tmp a) (.const (.int .i64 k)) ty' ∧ o.dst = some d ∧ o.guard = none := by
  unfold chkBin at h
  split at h
  · rename_i p ty x z ty' e; obtain ⟨h1, h2, h3, h4, h5⟩ := of_decide_eq_true h; subst h2; subst h3; subst h4; exact ⟨_, _, e, h1, h5⟩
  · cases h
theorem chkNot_eq (h : chkNot o d a = true) : ∃ ty, o.op = .unOp .not ty (.tmp a) ∧ o.dst = some d ∧ o.guard = none := by
  unfold chkNot at h
  split at h
  · rename_i ty x e; obtain ⟨h1, h2, h3⟩ := of_decide_eq_true h; subst h2; exact ⟨_, e, h1, h3⟩
  · cases h
theorem chkIx_eq (h : chkIx o d t a b = true) : o.op = .indexAddr t (.tmp a) (.tmp b) ∧ o.dst = some d ∧ o.guard = none := by
  unfold chkIx at h
  split at h
  · rename_i t' x y e; obtain ⟨h1, h2, h3, h4, h5⟩ := of_decide_eq_true h; subst h2; subst h3; subst h4; exact ⟨e, h1, h5⟩
  · cases h
theorem chkLen_eq (h : chkLen o d a t = true) : ∃ c, o.op = .call c ∧ c.callee = .builtin .len ∧ c.args.toList = [.tmp a] ∧ c.argTypes.toList = [t] ∧ o.dst = some d ∧ o.guard = none := by
  unfold chkLen at h
  split at h
  · rename_i c e
    split at h
    · rename_i x t' e1 e2 e3; obtain ⟨h1, h2, h3, h4⟩ := of_decide_eq_true h; subst h2; subst h3; exact ⟨c, e, e1, e2, e3, h1, h4⟩
    · cases h
  · cases h
theorem chkYld_eq {f : Nat} (h : chkYld o d f a b = true) : ∃ c, o.op = .call c ∧ c.callee = .value (.tmp f) ∧ c.args.toList = [.tmp a, .tmp b] ∧ o.dst = some d ∧ o.guard = none := by
  unfold chkYld at h
  split at h
  · rename_i c e
    split at h
    · rename_i g x y e1 e2; obtain ⟨h1, h2, h3, h4, h5⟩ := of_decide_eq_true h; subst h2; subst h3; subst h4; exact ⟨c, e, e1, e2, h1, h5⟩
    · cases h
  · cases h

/-- The code, read. -/
structure BackCode (c : Code) (sl el : TypeId) : Prop where
  shape : ∃ i0 i1 i2 i3 k0 k2 r0 r1 r2 r3 a0 a1 a2 a3 b0 b1 c0 c1 c2 c3 c4 c5 c6 c7 d0 d1 d2,
    c = .seq (.region i0 r0 false) (.block k0 (.loop (.seq (.seq (.region i1 r1 false) (.cond (.tmp 8) .skip (.exit k0))) (.seq (.block k2 (.seq (.region i3 r3 false) (.cond (.tmp 18) .ret .skip))) (.region i2 r2 false))))) ∧
    r0.toList = [a0, a1, a2, a3] ∧ r1.toList = [b0, b1] ∧ r3.toList = [c0, c1, c2, c3, c4, c5, c6, c7] ∧ r2.toList = [d0, d1, d2] ∧
    chkLoad a0 4 1 = some sl ∧ chkLoad c5 16 15 = some el ∧ chkLen a1 5 4 sl = true ∧ chkBin a2 6 .sub 5 1 = true ∧ chkAsg a3 3 6 = true ∧ chkMove b0 7 3 = true ∧ chkBin b1 8 .geq 7 0 = true ∧ chkMove c0 11 0 = true ∧ chkMove c1 12 3 = true ∧
    chkLoad c2 13 1 = some sl ∧ chkMove c3 14 3 = true ∧ chkIx c4 15 sl 13 14 = true ∧ chkYld c6 17 11 12 16 = true ∧ chkNot c7 18 17 = true ∧ chkMove d0 9 3 = true ∧ chkBin d1 10 .sub 9 1 = true ∧ chkAsg d2 3 10 = true
theorem backCode_eq {c : Code} {sl el : TypeId} (h : backCode c = some (sl, el)) : BackCode c sl el := by
  unfold backCode at h
  split at h
  · rename_i i0 r0 k0 i1 r1 x8 k1 k2 i3 r3 x18 i2 r2
    split at h
    · rename_i hc
      obtain ⟨e1, e2, e3⟩ := hc; subst e1; subst e2; subst e3
      split at h
      · rename_i a0 a1 a2 a3 b0 b1 h0 h1
        split at h
        · rename_i c0 c1 c2 c3 c4 c5 c6 c7 d0 d1 d2 h3 h2
          split at h
          · rename_i sl' el' g1 g2
            split at h
            · rename_i hb
              simp only [Option.some.injEq, Prod.mk.injEq] at h
              obtain ⟨e1, e2⟩ := h; subst e1; subst e2
              simp only [Bool.and_eq_true, decide_eq_true_eq] at hb
              obtain ⟨⟨⟨⟨⟨⟨⟨⟨⟨⟨⟨⟨⟨⟨q1, q2⟩, q3⟩, q4⟩, q5⟩, q6⟩, q7⟩, q8⟩, q9⟩, q10⟩, q11⟩, q12⟩, q13⟩, q14⟩, q15⟩ := hb
              exact ⟨_, _, _, _, _, _, _, _, _, _, _, _, _, _, _, _, _, _, _, _, _, _, _, _, _, _, _, rfl, h0, h1, h3, h2, g1, g2, q1, q2, q3, q4, q5, q6, q7, q8, q9, q10, q11, q12, q13, q14, q15⟩
            · cases h
          · cases h
        · cases h
      · cases h
    · cases h
  · cases h
theorem backOf_eq {f : FuncId} {sl el : TypeId} (h : backOf P f = some (sl, el)) :
    ∃ fn b e, P.funcs[f]? = some fn ∧ fn.body = some b ∧ BackCode b sl el ∧ P.underlying sl = some (.slice e) ∧ fn.ntmps = 19 ∧ fn.results.toList = [] ∧ (fn.name == "runtime.NumGoroutine") = false := by
  unfold backOf at h
  split at h
  · rename_i fn hf
    split at h
    · rename_i b hb
      split at h
      · rename_i sl' el' hc
        split at h
        · rename_i e hu
          split at h
          · rename_i hq
            obtain ⟨q1, q2, q3⟩ := hq
            simp only [Option.some.injEq, Prod.mk.injEq] at h
            obtain ⟨e1, e2⟩ := h; subst e1; subst e2
            exact ⟨fn, b, e, hf, hb, backCode_eq hc, hu, q1, by simpa using q2, q3⟩
          · cases h
        · cases h
      · cases h
    · cases h
  · cases h
end
end Go.Vm

/-! The walk of what slices.Backward returns. -/
namespace Go.Vm
variable [Gl]
open Go.RowKit

def noCall : CallF := fun _ _ _ => none
theorem noCall_ok (P : Program) : CallOK P noCall := fun _ _ _ _ _ h => by cases h

section
variable {P : Program} {Γ Γ' : Ctx} {S S' : St} {w w' : World} {t t' : Tm} {a : Act} {o : Oper} {v : V} {nt : Nat} {ops : Array Oper} {ds : List Deferred} {r : List Oper} {q : Option (Tm × St)}

theorem reg_wp {rn : Option Nat} {Q : Exit → Act → World → Prop} {id : Nat} (he : evOps P nt noCall ops ops.toList t S = some (t', S')) (hm : Mem Γ S w) (ht : TmRel ds Γ nt t a)
    (hQ : ∀ Γ' a' w', Step Γ S w Γ' S' w' → TmRel ds Γ' nt t' a' → Q .normal a' w') : (Code.region id ops false).wpIn (Wr rn) 0 P Q a w := by
  refine wpIn_region ?_
  have := region_sound (rn := rn) (Q := Q) (noCall_ok P) ops.toList 0 (fun j => by simp) (by simp) he hm ht hQ
  simpa [List.range_eq_range'] using this
/-- Some operations of a region, ahead of others. -/
theorem ops_wp {rn : Option Nat} {Q : Exit → Act → World → Prop} {rest : List Nat} : ∀ (l : List Oper) (k : Nat) {Γ : Ctx} {t : Tm} {S : St} {a : Act} {w : World} {t' : Tm} {S' : St}, (∀ j o, l[j]? = some o → ops[k + j]? = some o) →
    evOps P nt noCall ops l t S = some (t', S') → Mem Γ S w → TmRel ds Γ nt t a → (∀ Γ' a' w', Step Γ S w Γ' S' w' → TmRel ds Γ' nt t' a' → wpOpsIn (Wr rn) 0 P ops Q rest a' w') →
    wpOpsIn (Wr rn) 0 P ops Q (List.range' k l.length ++ rest) a w
  | [], k, Γ, t, S, a, w, t', S', _, h, hm, ht, hQ => by
    simp only [evOps, Option.some.injEq, Prod.mk.injEq] at h
    obtain ⟨e1, e2⟩ := h; subst e1; subst e2
    exact hQ Γ a w (.refl hm) ht
  | o :: l, k, Γ, t, S, a, w, t', S', hl, h, hm, ht, hQ => by
    obtain ⟨b, v, S1, hw, he, hr⟩ := evOps_cons_eq h rfl
    have hi : ops[k]? = some o := hl 0 o rfl
    simp only [List.length_cons, List.range'_succ, List.cons_append]
    rw [wpOpsIn_cons]
    refine wpOp_sound (noCall_ok P) hi hm ht hw he fun Γ1 a1 w1 hst htr => ?_
    refine ops_wp l (k + 1) (fun j o' hj => ?_) hr hst.mem htr fun Γ2 a2 w2 hst2 htr2 => hQ Γ2 a2 w2 (hst.trans hst2) htr2
    have := hl (j + 1) o' (by simpa using hj)
    rw [show k + 1 + j = k + (j + 1) by omega]; exact this

theorem evOps_cons {S1 : St} {d : Nat} (hg : o.guard = none) (hd : o.dst = some d) (he : evOp P noCall o t S = some (v, S1)) (hr : evOps P nt noCall ops r (putT nt t (some d) v) S1 = q) : evOps P nt noCall ops (o :: r) t S = q := by
  unfold evOps
  simp only [wanted, hg, he, hd]
  exact hr
variable {d x y : Nat} {ty el : TypeId}
theorem st_load (h : chkLoad o d x = some ty) (hl : opLoad P ty (t x) S = some v) (hr : evOps P nt noCall ops r (putT nt t (some d) v) S = q) : evOps P nt noCall ops (o :: r) t S = q := by
  obtain ⟨h1, h2, h3⟩ := chkLoad_eq h
  exact evOps_cons h3 h2 (by simp only [evOp, h1, opd, hl]; rfl) hr
theorem st_move (h : chkMove o d x = true) (hr : evOps P nt noCall ops r (putT nt t (some d) (t x)) S = q) : evOps P nt noCall ops (o :: r) t S = q := by
  obtain ⟨h1, h2, h3⟩ := chkMove_eq h
  exact evOps_cons h3 h2 (by simp only [evOp, h1, opd]) hr
theorem st_asg (h : chkAsg o d x = true) (hr : evOps P nt noCall ops r (putT nt t (some d) (t x)) S = q) : evOps P nt noCall ops (o :: r) t S = q := by
  obtain ⟨h1, h2, h3⟩ := chkAsg_eq h
  exact evOps_cons h3 h2 (by simp only [evOp, h1, opd]) hr
theorem st_bin {op : BinOp} {k z : Int} (h : chkBin o d op x k = true) (hv : t x = .int .i64 z) (hop : op = .sub ∨ op = .geq) (hi : intV op .i64 z k = some v) (hr : evOps P nt noCall ops r (putT nt t (some d) v) S = q) : evOps P nt noCall ops (o :: r) t S = q := by
  obtain ⟨ty, ty', h1, h2, h3⟩ := chkBin_eq h
  refine evOps_cons h3 h2 ?_ hr
  simp only [evOp, h1, opd, hv, ofValue]
  rcases hop with e | e <;> subst e <;> simp only [binV, if_true, hi] <;> rfl
theorem st_not {b : Bool} (h : chkNot o d x = true) (hv : t x = .bool b) (hr : evOps P nt noCall ops r (putT nt t (some d) (.bool !b)) S = q) : evOps P nt noCall ops (o :: r) t S = q := by
  obtain ⟨ty, h1, h2, h3⟩ := chkNot_eq h
  exact evOps_cons h3 h2 (by simp only [evOp, h1, opd, hv, unV]; rfl) hr
theorem st_ix (h : chkIx o d ty x y = true) (hv : opIndexAddr P ty (t x) (t y) = some v) (hr : evOps P nt noCall ops r (putT nt t (some d) v) S = q) : evOps P nt noCall ops (o :: r) t S = q := by
  obtain ⟨h1, h2, h3⟩ := chkIx_eq h
  exact evOps_cons h3 h2 (by simp only [evOp, h1, opd, hv]; rfl) hr
theorem st_len {m : Nat} (h : chkLen o d x ty = true) (hu : P.underlying ty = some (.slice el)) (hv : lenSlice (t x) = some m) (hr : evOps P nt noCall ops r (putT nt t (some d) (.int .i64 m)) S = q) : evOps P nt noCall ops (o :: r) t S = q := by
  obtain ⟨c, h1, h2, h3, h4, h5, h6⟩ := chkLen_eq h
  refine evOps_cons h6 h5 ?_ hr
  simp only [evOp, h1, h2, h3, h4, hu, opd]
  cases hx : t x <;> rw [hx] at hv <;> simp only [lenSlice] at hv <;> first
    | (cases hv; done)
    | (injection hv with hv; subst hv; rfl)
theorem wrap_near {z : Int} (h1 : -1 ≤ z) (h2 : z ≤ 16777216) : IntKind.i64.wrap z = z := by
  simp [IntKind.wrap, IntKind.bits, IntKind.signed]; omega
theorem sub_one {z : Int} (h1 : 0 ≤ z) (h2 : z ≤ 16777216) : intV .sub .i64 z 1 = some (.int .i64 (z - 1)) := by
  simp only [intV, wrap_near (show -1 ≤ z - 1 by omega) (by omega)]

/-! ### the loop -/
def Sig.isNorm : Sig → Bool
  | .norm => true
  | _ => false
structure Lp (Γ0 : Ctx) (S0 : St) (w0 : World) (L D : Nat) (o : Obj) (Γ1 : Ctx) (S1 : St) (w1 : World) : Prop where
  st : Step Γ0 S0 w0 Γ1 S1 w1
  rl : Rec Γ1 w1 L o
  rd : Rec Γ1 w1 D (.deferred (some []))
  hl : w0.heap.size ≤ L
  ne : D ≠ L
variable {Γ0 Γ1 Γ2 : Ctx} {S0 S1 S2 : St} {w0 w1 w2 : World} {L D : Nat} {ob ob' : Obj}
theorem Lp.step (h : Lp Γ0 S0 w0 L D ob Γ1 S1 w1) (k : Step Γ1 S1 w1 Γ2 S2 w2) : Lp Γ0 S0 w0 L D ob Γ2 S2 w2 := ⟨h.st.trans k, h.rl.step k, h.rd.step k, h.hl, h.ne⟩
theorem Lp.put (h : Lp Γ0 S0 w0 L D ob Γ1 S1 w1) (ho : ob.isCells = false) (ho' : ob'.isCells = false) : Lp Γ0 S0 w0 L D ob' Γ1 S1 (w1.putObj L ob') :=
  ⟨h.st.put h.hl h.rl.off h.rl.heap ho ho', h.rl.put, h.rd.other h.ne, h.hl, h.ne⟩

/-- What a round is asked for. -/
def RoundOK (P : Program) (Γ0 : Ctx) (S0 : St) (w0 : World) (L D : Nat) (recS : Sig → Obj) (f2 : V → V → St → Option (Sig × St)) : Prop :=
  ∀ (i v : V) (S1 : St) (s : Sig) (S2 : St) (Γ1 : Ctx) (w1 : World) (ui uv : Value), f2 i v S1 = some (s, S2) → Lp Γ0 S0 w0 L D (recS .norm) Γ1 S1 w1 → Rel Γ1 i ui → Rel Γ1 v uv →
    ∃ fn' tmps as bd, (Instr.yield L #[ui, uv]).run P w1 = .ok (.round L fn' tmps as bd) w1 ∧
      RoundIn (Wr none) 0 P L fn' tmps as bd w1 fun e w2 => e = .returned (.bool s.isNorm) ∧ ∃ Γ2, Γ1.le Γ2 ∧ Lp Γ0 S0 w0 L D (recS s) Γ2 S2 w2

theorem putT_at {d : Nat} (hd : d < nt) (i : Nat) : putT nt t (some d) v i = if i = d then v else t i := by
  simp only [putT, if_pos hd]
theorem TmRel.init {args : List V} {us : Array Value} (hm : Mem Γ S w) (hr : RelL Γ args us.toList) (hlen : args.length ≤ nt) : TmRel [] Γ nt (initT args) { tmps := us ++ Array.replicate (nt - us.size) undef, defers := [] } := by
  have hus : us.size = args.length := by have := hr.length; simpa using this.symm
  refine ⟨by simp; omega, ⟨fun i => ?_, hm.glb⟩, rfl⟩
  unfold initT
  by_cases hi : i < args.length
  · obtain ⟨u, hu, hrel⟩ := hr.get (i := i) (v := args[i]) (by simp [hi])
    have e1 : args.getD i .any = args[i] := by simp [List.getD, hi]
    have e2 : (us ++ Array.replicate (nt - us.size) undef).getD i undef = u := by
      have hu' : us[i]? = some u := by simpa using hu
      rw [Array.getD_eq_getD_getElem?, Array.getElem?_append_left (by omega), hu']; rfl
    rw [e1, e2]; exact hrel
  · have e1 : args.getD i .any = .any := by simp [List.getD, List.getElem?_eq_none (Nat.le_of_not_lt hi)]
    rw [e1]; exact .any _

/-- The call of yield. -/
theorem yield_wp {recS : Sig → Obj} {f2 : V → V → St → Option (Sig × St)} (hround : RoundOK P Γ0 S0 w0 L D recS f2) (hy : chkYld o 17 11 12 16 = true) {i : Nat} (hi : ops[i]? = some o) {s : Sig} {Q : Exit → Act → World → Prop} {K : Act → World → Prop}
    (hl : Lp Γ0 S0 w0 L D (recS .norm) Γ1 S1 w1) (ht : TmRel ds Γ1 19 t a) (h11 : t 11 = .yld L) (hf : f2 (t 12) (t 16) S1 = some (s, S2))
    (hK : ∀ Γ2 a' w2, Γ1.le Γ2 → Lp Γ0 S0 w0 L D (recS s) Γ2 S2 w2 → TmRel ds Γ2 19 (putT 19 t (some 17) (.bool s.isNorm)) a' → K a' w2) : wpOpIn (Wr none) 0 P ops Q i K a w1 := by
  obtain ⟨c, h1, h2, h3, h4, h5⟩ := chkYld_eq hy
  unfold wpOpIn
  rw [hi]
  have hw : Region.wanted o (yielded ops a.tmps) = true := by simp [Region.wanted, h5]
  simp only [hw, if_true]
  have g11 := rel_opd ht.rel (.tmp 11)
  have g12 := rel_opd ht.rel (.tmp 12)
  have g16 := rel_opd ht.rel (.tmp 16)
  simp only [opd, h11] at g11
  simp only [opd] at g12 g16
  obtain ⟨fn', tmps, as, bd, hrun, hR⟩ := hround _ _ _ _ _ _ _ _ _ hf hl g12 g16
  have e11 : a.eval (.tmp 11) = .func (.yield L) #[] #[] := by
    generalize hu : a.eval (.tmp 11) = u at g11
    cases g11; rfl
  have hargs : c.args.map a.eval = #[a.eval (.tmp 12), a.eval (.tmp 16)] := by apply Array.ext'; simp [h3]
  have hexec : (execOp a.eval o).run P w1 = .ok (.round L fn' tmps as bd) w1 := by
    simp [execOp, h1, resolve, h2, e11, Deferred.ofValue, invoke, hargs, callFunc, hrun]
  refine ⟨fun _ _ => trivial, ?_⟩
  rw [Oper.semAt_eq _ _ _ (by rw [h1]; nofun), hexec, Oper.uponIn_round]
  refine ⟨nofun, ?_⟩
  refine RoundIn.mono (n := 0 - 1) hR ?_
  rintro e w2 ⟨rfl, Γ2, hle, hl2⟩
  show K (a.put o.dst (.bool s.isNorm)) w2
  rw [h4]
  exact hK Γ2 _ w2 hle hl2 ((ht.mono hle).put (some 17) (Rel.bool (Γ := Γ2) s.isNorm))

/-- The rounds from i - 1 down, at the loop's head. -/
theorem loop_walk {sl el e' : TypeId} {p : V} {recS : Sig → Obj} {f2 : V → V → St → Option (Sig × St)} (hround : RoundOK P Γ0 S0 w0 L D recS f2) (hu : P.underlying sl = some (.slice e'))
    {i1 i2 i3 k0 k2 : Nat} {r1 r2 r3 : Array Oper} {b0 b1 c0 c1 c2 c3 c4 c5 c6 c7 d0 d1 d2 : Oper}
    (hr1 : r1.toList = [b0, b1]) (hr3 : r3.toList = [c0, c1, c2, c3, c4, c5, c6, c7]) (hr2 : r2.toList = [d0, d1, d2])
    (hb0 : chkMove b0 7 3 = true) (hb1 : chkBin b1 8 .geq 7 0 = true) (hc0 : chkMove c0 11 0 = true) (hc1 : chkMove c1 12 3 = true) (hc2 : chkLoad c2 13 1 = some sl) (hc3 : chkMove c3 14 3 = true) (hc4 : chkIx c4 15 sl 13 14 = true)
    (hc5 : chkLoad c5 16 15 = some el) (hc6 : chkYld c6 17 11 12 16 = true) (hc7 : chkNot c7 18 17 = true) (hd0 : chkMove d0 9 3 = true) (hd1 : chkBin d1 10 .sub 9 1 = true) (hd2 : chkAsg d2 3 10 = true)
    {Q : Exit → Act → World → Prop} {s : Sig} {S2 : St} :
    ∀ (i : Nat) {Γ1 : Ctx} {S1 : St} {t : Tm} {a : Act} {w1 : World}, i ≤ maxRow → backN P sl el p f2 i S1 = some (s, S2) → Lp Γ0 S0 w0 L D (recS .norm) Γ1 S1 w1 → TmRel [] Γ1 19 t a → t 0 = .yld L → t 1 = p → t 3 = .int .i64 ((i : Int) - 1) →
      (∀ Γ2 a2 w2, Γ1.le Γ2 → Lp Γ0 S0 w0 L D (recS s) Γ2 S2 w2 → TmRel [] Γ2 19 t a2 ∨ True → a2.defers = [] → Q (if s.isNorm then .exit k0 else .ret) a2 w2) →
      Code.roundsIn (Wr none) 0 P (.seq (.seq (.region i1 r1 false) (.cond (.tmp 8) .skip (.exit k0))) (.seq (.block k2 (.seq (.region i3 r3 false) (.cond (.tmp 18) .ret .skip))) (.region i2 r2 false))) Q (i + 1) a w1
  | 0, Γ1, S1, t, a, w1, _, hk, hl, ht, t0, t1, t3, hQ => by
    simp only [backN, Option.some.injEq, Prod.mk.injEq] at hk
    obtain ⟨e1, e2⟩ := hk; subst e1; subst e2
    rw [roundsIn_succ]
    refine wpIn_seq (wpIn_seq (reg_wp (t' := putT 19 (putT 19 t (some 7) (t 3)) (some 8) (.bool false)) (S' := S1) ?_ hl.st.mem ht fun Γ2 a2 w2 hst htr => ?_))
    · rw [hr1]
      refine st_move hb0 (st_bin (z := -1) hb1 ?_ (.inr rfl) (by simp [intV]) rfl)
      rw [putT_at (by decide)]; simp [t3]
    · have g := rel_opd htr.rel (.tmp 8)
      simp only [opd, putT_at (show 8 < 19 by decide), if_true] at g
      have hc : a2.eval (.tmp 8) = .bool false := by
        generalize a2.eval (.tmp 8) = u at g
        cases g; rfl
      exact wpIn_cond_false hc (wpIn_exit (hQ Γ2 a2 w2 hst.le (hl.step hst) (.inr trivial) htr.defers))
  | i + 1, Γ1, S1, t, a, w1, hi, hk, hl, ht, t0, t1, t3, hQ => by
    have t3 : t 3 = .int .i64 (i : Int) := by rw [t3]; congr 1; omega
    have hi' : (i : Int) ≤ 16777216 := by have : i + 1 ≤ 16777216 := hi; omega
    simp only [backN] at hk
    split at hk
    rotate_left
    · cases hk
    rename_i v hv
    unfold elemAt at hv
    split at hv
    rotate_left
    · cases hv
    rename_i x hx
    split at hv
    rotate_left
    · cases hv
    rename_i ad had
    rw [roundsIn_succ]
    refine wpIn_seq (wpIn_seq (reg_wp (t' := putT 19 (putT 19 t (some 7) (t 3)) (some 8) (.bool true)) (S' := S1) ?_ hl.st.mem ht fun Γ2 a2 w2 hst htr => ?_))
    · rw [hr1]
      refine st_move hb0 (st_bin (z := (i : Int)) hb1 ?_ (.inr rfl) (by simp [intV]) rfl)
      rw [putT_at (by decide)]; simp [t3]
    have hl2 := hl.step hst
    have g := rel_opd htr.rel (.tmp 8)
    simp only [opd, putT_at (show 8 < 19 by decide), if_true] at g
    have hc : a2.eval (.tmp 8) = .bool true := by
      generalize a2.eval (.tmp 8) = u at g
      cases g; rfl
    refine wpIn_cond_true hc (wpIn_skip (wpIn_seq (wpIn_block (wpIn_seq (wpIn_region ?_)))))
    have hsz : r3.size = 8 := by rw [← Array.length_toList, hr3]; rfl
    have hat : ∀ (j : Nat) (o : Oper), [c0, c1, c2, c3, c4, c5, c6, c7][j]? = some o → r3[j]? = some o := by
      intro j o h; rw [← Array.getElem?_toList, hr3]; exact h
    rw [hsz, show List.range 8 = List.range' 0 6 ++ [6, 7] from rfl]
    obtain ⟨tA, htA⟩ : ∃ tA, tA = putT 19 (putT 19 t (some 7) (t 3)) (some 8) (.bool true) := ⟨_, rfl⟩
    rw [← htA] at htr
    have A0 : tA 0 = .yld L := by rw [htA, putT_at (by decide), if_neg (by decide), putT_at (by decide), if_neg (by decide), t0]
    have A1 : tA 1 = p := by rw [htA, putT_at (by decide), if_neg (by decide), putT_at (by decide), if_neg (by decide), t1]
    have A3 : tA 3 = .int .i64 (i : Int) := by rw [htA, putT_at (by decide), if_neg (by decide), putT_at (by decide), if_neg (by decide), t3]
    refine ops_wp (t' := putT 19 (putT 19 (putT 19 (putT 19 (putT 19 (putT 19 tA (some 11) (.yld L)) (some 12) (.int .i64 i)) (some 13) x) (some 14) (.int .i64 i)) (some 15) ad) (some 16) v) (S' := S1)
      [c0, c1, c2, c3, c4, c5] 0 (fun j o h => ?_) ?_ hl2.st.mem htr fun Γ3 a3 w3 hst3 htr3 => ?_
    · rw [Nat.zero_add]
      refine hat j o ?_
      have hj : j < 6 := by simpa using (List.getElem?_eq_some_iff.1 h).1
      rw [← h]
      match j, hj with
      | 0, _ => rfl
      | 1, _ => rfl
      | 2, _ => rfl
      | 3, _ => rfl
      | 4, _ => rfl
      | 5, _ => rfl
    · refine st_move hc0 ?_
      rw [A0]
      refine st_move hc1 ?_
      rw [putT_at (by decide), if_neg (by decide), A3]
      refine st_load (v := x) hc2 ?_ ?_
      · rw [putT_at (by decide), if_neg (by decide), putT_at (by decide), if_neg (by decide), A1]; exact hx
      refine st_move hc3 ?_
      rw [putT_at (by decide), if_neg (by decide), putT_at (by decide), if_neg (by decide), putT_at (by decide), if_neg (by decide), A3]
      refine st_ix (v := ad) hc4 ?_ (st_load (v := v) hc5 ?_ rfl)
      · rw [putT_at (by decide), if_neg (by decide), putT_at (by decide), if_pos rfl, putT_at (by decide), if_pos rfl]; exact had
      · rw [putT_at (by decide), if_pos rfl]; exact hv
    obtain ⟨tB, htB⟩ : ∃ tB, tB = putT 19 (putT 19 (putT 19 (putT 19 (putT 19 (putT 19 tA (some 11) (.yld L)) (some 12) (.int .i64 i)) (some 13) x) (some 14) (.int .i64 i)) (some 15) ad) (some 16) v := ⟨_, rfl⟩
    rw [← htB] at htr3
    have far : ∀ j, j ≠ 11 → j ≠ 12 → j ≠ 13 → j ≠ 14 → j ≠ 15 → j ≠ 16 → tB j = tA j := by
      intro j h1 h2 h3 h4 h5 h6
      rw [htB]
      simp only [putT_at (show 11 < 19 by decide), putT_at (show 12 < 19 by decide), putT_at (show 13 < 19 by decide), putT_at (show 14 < 19 by decide), putT_at (show 15 < 19 by decide), putT_at (show 16 < 19 by decide), h1, h2, h3, h4, h5, h6, if_false]
    have B11 : tB 11 = .yld L := by
      rw [htB]
      simp [putT_at (nt := 19)]
    have B12 : tB 12 = .int .i64 i := by
      rw [htB]
      simp [putT_at (nt := 19)]
    have B16 : tB 16 = v := by
      rw [htB]
      simp [putT_at (nt := 19)]
    have hl3 := hl2.step hst3
    rw [wpOpsIn_cons]
    have hy6 : r3[6]? = some c6 := hat 6 c6 rfl
    -- what the round answers
    obtain ⟨s1, S3, hf2, hrest⟩ : ∃ s1 S3, f2 (.int .i64 i) v S1 = some (s1, S3) ∧ ((s1 = .norm ∧ backN P sl el p f2 i S3 = some (s, S2)) ∨ (s1.isNorm = false ∧ s1 = s ∧ S3 = S2)) := by
      split at hk
      · rename_i S3 h1; exact ⟨.norm, S3, h1, .inl ⟨rfl, hk⟩⟩
      · rename_i hn
        refine ⟨s, S2, hk, .inr ⟨?_, rfl, rfl⟩⟩
        cases s with
        | norm => exact absurd hk (hn _)
        | exit _ => rfl
        | ret => rfl
    refine yield_wp hround hc6 hy6 hl3 htr3 B11 (by rw [B12, B16]; exact hf2) fun Γ4 a4 w4 hle4 hl4 htr4 => ?_
    refine ops_wp (rest := []) (t' := putT 19 (putT 19 tB (some 17) (.bool s1.isNorm)) (some 18) (.bool !s1.isNorm)) (S' := S3) [c7] 7 (fun j o h => ?_) (st_not hc7 ?_ rfl) hl4.st.mem htr4 fun Γ5 a5 w5 hst5 htr5 => ?_
    · have hj : j < 1 := by simpa using (List.getElem?_eq_some_iff.1 h).1
      have : j = 0 := by omega
      subst this
      rw [← h]; exact hat 7 c7 rfl
    · rw [putT_at (by decide), if_pos rfl]
    have hl5 := hl4.step hst5
    have hle5 : Γ1.le Γ5 := ((hst.le.trans hst3.le).trans hle4).trans hst5.le
    show Exit.then _ _ .normal a5 w5
    have g := rel_opd htr5.rel (.tmp 18)
    simp only [opd, putT_at (show 18 < 19 by decide), if_true] at g
    have hc : a5.eval (.tmp 18) = .bool !s1.isNorm := by
      generalize a5.eval (.tmp 18) = u at g
      cases g; rfl
    rcases hrest with ⟨e1, hrest⟩ | ⟨e1, e2, e3⟩
    · subst e1
      refine wpIn_cond_false hc (wpIn_skip ?_)
      refine reg_wp (t' := putT 19 (putT 19 (putT 19 (putT 19 (putT 19 tB (some 17) (.bool true)) (some 18) (.bool false)) (some 9) (.int .i64 i)) (some 10) (.int .i64 ((i : Int) - 1))) (some 3) (.int .i64 ((i : Int) - 1))) (S' := S3) ?_ hl5.st.mem htr5 fun Γ6 a6 w6 hst6 htr6 => ?_
      · rw [hr2]
        have B3 : (putT 19 (putT 19 tB (some 17) (.bool true)) (some 18) (.bool false)) 3 = .int .i64 i := by
          rw [putT_at (by decide), if_neg (by decide), putT_at (by decide), if_neg (by decide), far 3 (by decide) (by decide) (by decide) (by decide) (by decide) (by decide), A3]
        refine st_move hd0 ?_
        show evOps P 19 noCall r2 [d1, d2] (putT 19 _ (some 9) ((putT 19 (putT 19 tB (some 17) (.bool true)) (some 18) (.bool false)) 3)) S3 = _
        rw [B3]
        refine st_bin (z := (i : Int)) hd1 ?_ (.inl rfl) (sub_one (by omega) hi') (st_asg hd2 ?_)
        · rw [putT_at (by decide), if_pos rfl]
        · simp only [evOps, putT_at (show 10 < 19 by decide), if_true]; rfl
      · refine loop_walk hround hu hr1 hr3 hr2 hb0 hb1 hc0 hc1 hc2 hc3 hc4 hc5 hc6 hc7 hd0 hd1 hd2 i (by omega) hrest (hl5.step hst6) htr6 ?_ ?_ ?_ fun Γ7 a7 w7 hle7 hl7 _ hd7 => hQ Γ7 a7 w7 ((hle5.trans hst6.le).trans hle7) hl7 (.inr trivial) hd7
        · simp only [putT_at (show 3 < 19 by decide), putT_at (show 10 < 19 by decide), putT_at (show 9 < 19 by decide), putT_at (show 18 < 19 by decide), putT_at (show 17 < 19 by decide)]
          simp [far 0 (by decide) (by decide) (by decide) (by decide) (by decide) (by decide), A0]
        · simp only [putT_at (show 3 < 19 by decide), putT_at (show 10 < 19 by decide), putT_at (show 9 < 19 by decide), putT_at (show 18 < 19 by decide), putT_at (show 17 < 19 by decide)]
          simp [far 1 (by decide) (by decide) (by decide) (by decide) (by decide) (by decide), A1]
        · rw [putT_at (by decide), if_pos rfl]
    · subst e2; subst e3
      rw [e1] at hc
      refine wpIn_cond_true hc (wpIn_ret ?_)
      have := hQ Γ5 a5 w5 hle5 hl5 (.inr trivial) htr5.defers
      rw [e1] at this
      exact this

theorem back_calls {f : FuncId} {sl el : TypeId} (hb : backOf P f = some (sl, el)) {recS : Sig → Obj} {f2 : V → V → St → Option (Sig × St)} (hround : RoundOK P Γ0 S0 w0 L D recS f2) {m : Nat} {s : Sig} {p l : V} {up : Value}
    (hl : opLoad P sl p S1 = some l) (hlen : lenSlice l = some m) (hm : m ≤ maxRow) (hk : backN P sl el p f2 m S1 = some (s, S2)) (hst : Lp Γ0 S0 w0 L D (recS .norm) Γ1 S1 w1) (hp : Rel Γ1 p up) :
    CallsIn (Wr none) 0 P f (#[.func (.yield L) #[] #[]] ++ #[up]) w1 fun e w2 => (∃ v, e = .returned v) ∧ ∃ Γ2, Γ1.le Γ2 ∧ Lp Γ0 S0 w0 L D (recS s) Γ2 S2 w2 := by
  obtain ⟨fn, b, e', hf, hbody, hcode, hu, hnt, hres, hname⟩ := backOf_eq hb
  obtain ⟨i0, i1, i2, i3, k0, k2, r0, r1, r2, r3, a0, a1, a2, a3, b0, b1, c0, c1, c2, c3, c4, c5, c6, c7, d0, d1, d2, hshape, hr0, hr1, hr3, hr2, ha0, hc5, ha1, ha2, ha3, hb0, hb1, hc0, hc1, hc2, hc3, hc4, hc6, hc7, hd0, hd1, hd2⟩ := hcode.shape
  subst hshape
  refine callsIn_of_wp_marks hf hbody trivial ?_
  have ht : TmRel [] Γ1 19 (initT [.yld L, p]) { tmps := (#[.func (.yield L) #[] #[]] ++ #[up]) ++ Array.replicate (fn.ntmps - (#[.func (.yield L) #[] #[]] ++ #[up] : Array Value).size) undef, defers := [] } := by
    rw [hnt]
    exact TmRel.init hst.st.mem (.cons _ _ _ _ (.yld L) (.cons _ _ _ _ hp .nil)) (by simp)
  refine wpIn_seq (reg_wp (t' := putT 19 (putT 19 (putT 19 (putT 19 (initT [.yld L, p]) (some 4) l) (some 5) (.int .i64 m)) (some 6) (.int .i64 ((m : Int) - 1))) (some 3) (.int .i64 ((m : Int) - 1))) (S' := S1) ?_ hst.st.mem ht fun Γ3 a4 w3 hst3 htr => ?_)
  · rw [hr0]
    refine st_load (v := l) ha0 hl (st_len (m := m) ha1 hu ?_ (st_bin (z := (m : Int)) ha2 ?_ (.inl rfl) (sub_one (by omega) (by have : m ≤ 16777216 := hm; omega)) (st_asg ha3 ?_)))
    · rw [putT_at (by decide), if_pos rfl]; exact hlen
    · rw [putT_at (by decide), if_pos rfl]
    · simp only [evOps, putT_at (show 6 < 19 by decide), if_true]
  · refine wpIn_block (wpIn_loop_rounds (m + 1) (loop_walk hround hu hr1 hr3 hr2 hb0 hb1 hc0 hc1 hc2 hc3 hc4 hc5 hc6 hc7 hd0 hd1 hd2 m hm hk (hst.step hst3) htr ?_ ?_ ?_ fun Γ4 a5 w4 hle hl4 _ hd => ?_))
    · simp only [putT_at (show 3 < 19 by decide), putT_at (show 4 < 19 by decide), putT_at (show 5 < 19 by decide), putT_at (show 6 < 19 by decide)]
      rfl
    · simp only [putT_at (show 3 < 19 by decide), putT_at (show 4 < 19 by decide), putT_at (show 5 < 19 by decide), putT_at (show 6 < 19 by decide)]
      rfl
    · rw [putT_at (by decide), if_pos rfl]
    · have hrun : (results fn a5.tmps).run P w4 = .ok (.tuple #[]) w4 := by
        have : fn.results = #[] := by apply Array.ext'; simpa using hres
        simp [results, this]
      have fin : LeavesInM (Wr none) 0 P fn a5.tmps (fun e w2 => (∃ v, e = .returned v) ∧ ∃ Γ2, Γ1.le Γ2 ∧ Lp Γ0 S0 w0 L D (recS s) Γ2 S2 w2) a5.defers .returning w4 := by
        rw [hd]
        exact ⟨_, hrun, ⟨_, rfl⟩, Γ4, hst3.le.trans hle, hl4⟩
      cases hs : s.isNorm with
      | true => simp only [Exit.inBlock, if_true]; exact fin
      | false => exact fin
end
end Go.Vm

/-! The statement. -/
namespace Go.Vm
variable [Gl]
open Go.RowKit

section
variable {P : Program} {Γ Γ' : Ctx} {S S' : St} {w w' : World} {t t' : Tm} {a : Act} {nt : Nat} {ds : List Deferred}

/-- What is asked of the code in a round. -/
def CodeOK (P : Program) (nt : Nat) (c : Code) (f : Tm → St → RC) : Prop :=
  ∀ (l : Nat) (Γ : Ctx) (t : Tm) (S : St) (a : Act) (w : World) (s : Sig) (t' : Tm) (S' : St) (ds : List Deferred) (Q : Exit → Act → World → Prop), f t S = some (s, t', S') → Mem Γ S w → TmRel ds Γ nt t a → Marks Γ w 0 ds →
    (∀ Γ' a' w' ds', Step Γ S w Γ' S' w' → TmRel ds' Γ' nt t' a' → Marks Γ' w' 0 ds' → Q (exitOf s) a' w') → c.wpIn (Wr (some l)) 0 P Q a w

theorem rangeFunc_sound {g : Operand} {ps : Array Tmp} {x y : Code} {fa fb : Tm → St → RC} (hx : CodeOK P nt x fa) (hy : CodeOK P nt y fb) {b0 : Nat} {s : Sig} {Q : Exit → Act → World → Prop}
    (h : rangeB P (opd t g) ps.toList t S (fun p0 p1 => round2 nt fa fb p0 p1 t) = some (s, t', S')) (hm : Mem Γ S w) (ht : TmRel ds Γ nt t a) (hk : Marks Γ w b0 ds)
    (hQ : ∀ Γ' a' w' ds', Step Γ S w Γ' S' w' → TmRel ds' Γ' nt t' a' → Marks Γ' w' b0 ds' → Q (exitOf s) a' w') : (Code.rangeFunc g ps x y).wpIn (Wr none) 0 P Q a w := by
  obtain ⟨j, p, p0, p1, sl, el, l, m, e1, e2, e3, e4, e5, e6, e7, hb⟩ := rangeB_eq h
  subst e7
  have hps : ps = #[p0, p1] := by apply Array.ext'; simpa using e2
  subst hps
  -- the function that is ranged over
  have hg := rel_opd ht.rel g
  rw [e1] at hg
  obtain ⟨up, hup, hp⟩ : ∃ up, a.eval g = .func (.func j) #[] #[up] ∧ Rel Γ p up := by
    generalize a.eval g = u at hg
    cases hg with
    | fn _ _ _ ua uc h1 h2 =>
      have q1 : ua = #[] := by apply Array.ext'; generalize ua.toList = l1 at h1; cases h1; rfl
      obtain ⟨up, q2, q3⟩ : ∃ up, uc = #[up] ∧ Rel Γ p up := by
        cases uc with
        | mk l2 =>
          cases h2 with
          | cons _ up _ _ h3 h4 => cases h4; exact ⟨up, rfl, h3⟩
      exact ⟨up, by rw [q1, q2], q3⟩
  obtain ⟨fnj, bj, ej, hfj, hbj, _, _, _, _, hnj⟩ := backOf_eq e3
  refine wpIn_rangeFunc ?_
  intro fid hfid
  obtain ⟨rc, hrc⟩ : ∃ rc : LoopState → Option Code → Loop, rc = fun st pe => { state := st, pending := pe, fn := fid, tmps := a.tmps, params := #[p0, p1], assign := x, body := y, defers := w.heap.size } := ⟨_, rfl⟩
  obtain ⟨W1, hW1⟩ : ∃ W1, (w.alloc (.deferred (some []))).alloc (.loop (rc .ready none)) = W1 := ⟨_, rfl⟩
  obtain ⟨recS, hrecS⟩ : ∃ recS : Sig → Obj, recS = fun s => match s with | .norm => .loop (rc .ready none) | .exit id => .loop (rc .done (some (.exit id))) | .ret => .loop (rc .done (some .ret)) := ⟨_, rfl⟩
  have hcells : ∀ s, (recS s).isCells = false := by intro s; rw [hrecS]; cases s <;> rfl
  have hst1 : Step Γ S w Γ S W1 := by rw [← hW1]; exact ((Step.refl hm).lay _ rfl).lay _ rfl
  have hsz1 : (w.alloc (.deferred (some []))).heap.size = w.heap.size + 1 := by simp
  have off : ∀ (k : Nat), w.heap.size ≤ k → ∀ (id : Id), Γ.φ id ≠ some k := fun k hk id hid => by have := hm.lt id k hid; omega
  have hrl : Rec Γ W1 (w.heap.size + 1) (recS .norm) := by
    refine ⟨?_, off _ (by omega)⟩
    rw [← hW1, hrecS]
    have := World.alloc_heap_new (w.alloc (.deferred (some []))) (.loop (rc .ready none))
    rwa [hsz1] at this
  have hrd : Rec Γ W1 w.heap.size (.deferred (some [])) := by
    refine ⟨?_, off _ (Nat.le_refl _)⟩
    rw [← hW1]
    exact (Below.heap_alloc _ _ _ (by simp)).trans (World.alloc_heap_new w _)
  have hlp : Lp Γ S w (w.heap.size + 1) w.heap.size (recS .norm) Γ S W1 := ⟨hst1, hrl, hrd, by omega, by omega⟩
  -- a round
  have hround : RoundOK P Γ S w (w.heap.size + 1) w.heap.size recS (round2 nt fa fb p0 p1 t') := by
    intro i v S1 s1 S2 Γ1 w1 ui uv hf hl hri hrv
    obtain ⟨t1, S3, t2, h1, h2⟩ := round2_eq hf
    have hh : w1.heap[w.heap.size + 1]? = some (.loop (rc .ready none)) := by have := hl.rl.heap; rw [hrecS] at this; exact this
    have hy0 : (Instr.yield (w.heap.size + 1) #[ui, uv]).run P w1 = .ok (.round (w.heap.size + 1) fid ((a.tmps.setIfInBounds p0 ui).setIfInBounds p1 uv) x y) w1 := by
      have := run_yield (P := P) (args := #[ui, uv]) hh (by rw [hrc]; rfl)
      rw [hrc] at this
      rw [this]
      simp
    refine ⟨_, _, _, _, hy0, roundIn_of_wpIn trivial ?_⟩
    have htr : TmRel [] Γ1 nt (putT nt (putT nt t' (some p0) i) (some p1) v) { tmps := (a.tmps.setIfInBounds p0 ui).setIfInBounds p1 uv, defers := [] } := by
      have h0 : TmRel [] Γ1 nt t' { tmps := a.tmps, defers := [] } := by
        have := ht.mono hl.st.le
        exact ⟨this.size, ⟨this.rel.tmp, this.rel.glb⟩, rfl⟩
      exact (h0.put (some p0) hri).put (some p1) hrv
    refine hx _ _ _ _ _ _ _ _ _ _ _ h1 hl.st.mem htr (.nil (Nat.zero_le _)) fun Γ2 a2 w2 ds2 hst2 htr2 hk2 => ?_
    have hl2 := hl.step hst2
    have hh2 : w2.heap[w.heap.size + 1]? = some (.loop (rc .ready none)) := by have := hl2.rl.heap; rw [hrecS] at this; exact this
    refine ⟨_, run_beginRound hh2 (by rw [hrc]), ?_⟩
    have hl3 := hl2.put (ob' := .loop { rc .ready none with state := .busy }) (hcells _) rfl
    have hk3 : Marks Γ2 (w2.putObj (w.heap.size + 1) (.loop { rc .ready none with state := .busy })) 0 ds2 := by
      obtain ⟨q0, rs, q1, q2, q3⟩ := hk2
      refine ⟨Nat.zero_le _, rs, q1, q2, fun r hr => ⟨Nat.zero_le _, (q3 r hr).2.other fun e => ?_⟩⟩
      have := (q3 r hr).2.heap
      rw [e, hh2] at this; cases this
    refine hy _ _ _ _ _ _ _ _ _ _ _ h2 hl3.st.mem ⟨htr2.size, htr2.rel, htr2.defers⟩ hk3 fun Γ4 a4 w4 ds4 hst4 htr4 hk4 => ?_
    have hl4 := hl3.step hst4
    have fin : ∀ (jump : Option Code) (o' : Obj), recS s1 = o' → o' = .loop (rc (if jump.isNone then .ready else .done) jump) → s1.isNorm = jump.isNone →
        ∃ v w', (Instr.endRound (w.heap.size + 1) jump).run P w4 = .ok v w' ∧ (Ending.returned v = .returned (.bool s1.isNorm) ∧ ∃ Γ2, Γ1.le Γ2 ∧ Lp Γ S w (w.heap.size + 1) w.heap.size (recS s1) Γ2 S2 w') := by
      intro jump o' q1 q2 q3
      have hrun := run_endRound (P := P) jump hl4.rl.heap
      refine ⟨_, _, hrun, by rw [q3], Γ4, hst2.le.trans hst4.le, ?_⟩
      have := hl4.put (ob' := .loop (rc (if jump.isNone then .ready else .done) jump)) rfl rfl
      rw [q1, q2]
      rw [hrc] at this ⊢
      exact this
    cases s1 with
    | norm => exact fin none _ rfl (by rw [hrecS]; rfl) rfl
    | exit id => exact fin (some (.exit id)) _ rfl (by rw [hrecS]; rfl) rfl
    | ret => exact fin (some .ret) _ rfl (by rw [hrecS]; rfl) rfl
  have hexec : (invoke (.fn (.func j) #[up]) #[.func (.yield (w.heap.size + 1)) #[] #[]]).run P W1 = .ok (.enter j (#[.func (.yield (w.heap.size + 1)) #[] #[]] ++ #[up])) W1 := by
    have hbody : fnj.body ≠ none := by rw [hbj]; nofun
    have e3' : ¬ fnj.name = "runtime.NumGoroutine" := by simpa using hnj
    simp [invoke, callFunc, hfj, e3', hbody]
  refine ⟨w.heap.size + 1, [mark w.heap.size], W1, { target := .fn (.func j) #[up], args := #[.func (.yield (w.heap.size + 1)) #[] #[]] }, W1, j, _, W1, ?_, ?_, fun _ _ => trivial, hexec, nofun, ?_⟩
  · rw [← hW1, hrc]; exact run_enterLoop_outer _ _ _ _ _
  · simp only [resolve, hup]
    simp [Deferred.ofValue]
    rfl
  · refine CallsIn.mono (n := 0 - 1) (back_calls e3 hround e4 e5 e6 hb hlp hp) ?_
    rintro e w2 ⟨⟨v, rfl⟩, Γ2, _, hl2⟩
    have done : ∀ (rr : Loop), recS s = .loop rr → rr.state ≠ .busy → ∃ w₄, (Instr.endLoop (w.heap.size + 1)).run P w2 = .ok rr.pending w₄ ∧ Q (exitOf s) { a with defers := [mark w.heap.size] ++ a.defers } w₄ := by
      intro rr q1 q2
      refine ⟨_, run_endLoop (P := P) (q1 ▸ hl2.rl.heap) q2, ?_⟩
      have hl3 := hl2.put (ob' := .loop { rr with state := .exhausted }) (hcells s) rfl
      refine hQ Γ2 _ _ (mark w.heap.size :: ds) hl3.st ?_ (hk.cons hl3.st (Nat.le_refl _) hl3.rd)
      have h0 := ht.mono hl3.st.le
      exact ⟨h0.size, ⟨h0.rel.tmp, h0.rel.glb⟩, by rw [← ht.defers]; rfl⟩
    cases s with
    | norm =>
      obtain ⟨w4, q1, q2⟩ := done (rc .ready none) (by rw [hrecS]) (by rw [hrc]; nofun)
      refine ⟨none, w4, ?_, q2⟩
      rw [q1, hrc]
    | exit id =>
      obtain ⟨w4, q1, q2⟩ := done (rc .done (some (.exit id))) (by rw [hrecS]) (by rw [hrc]; nofun)
      refine ⟨some (.exit id), w4, ?_, wpIn_exit q2⟩
      rw [q1, hrc]
    | ret =>
      obtain ⟨w4, q1, q2⟩ := done (rc .done (some .ret)) (by rw [hrecS]) (by rw [hrc]; nofun)
      refine ⟨some .ret, w4, ?_, wpIn_ret q2⟩
      rw [q1, hrc]
end
end Go.Vm

namespace Go.Vm
variable [Gl]
open Go.RowKit

section
variable {P : Program} {Γ Γ' : Ctx} {S S' : St} {w w' : World} {t t' : Tm} {a : Act} {o : Oper} {v : V} {call : CallF} {nt : Nat} {ops : Array Oper} {ds : List Deferred}

theorem noRF_seq {rn : Option Nat} {x y : Code} (h : rn = none ∨ noRF (.seq x y) = true) : (rn = none ∨ noRF x = true) ∧ (rn = none ∨ noRF y = true) := by
  rcases h with e | e
  · exact ⟨.inl e, .inl e⟩
  · simp only [noRF, Bool.and_eq_true] at e; exact ⟨.inr e.1, .inr e.2⟩
theorem noRF_cond {rn : Option Nat} {c : Operand} {x y : Code} (h : rn = none ∨ noRF (.cond c x y) = true) : (rn = none ∨ noRF x = true) ∧ (rn = none ∨ noRF y = true) := by
  rcases h with e | e
  · exact ⟨.inl e, .inl e⟩
  · simp only [noRF, Bool.and_eq_true] at e; exact ⟨.inr e.1, .inr e.2⟩
theorem noRF_block {rn : Option Nat} {id : Nat} {x : Code} (h : rn = none ∨ noRF (.block id x) = true) : rn = none ∨ noRF x = true := h
theorem noRF_loop {rn : Option Nat} {x : Code} (h : rn = none ∨ noRF (.loop x) = true) : rn = none ∨ noRF x = true := h
theorem evC_sound (hmix : P.follows .mixedOrders = true) {okR : CallF → Nat → Array Oper → Tm → St → Prop} (hdraw : DrawSound P okR) (hcall : CallOK P call) (hnf : CallNf call) (hmo : CallMono call) {n : Nat} : ∀ (c : Code) {rn : Option Nat} {b0 : Nat} {ds : List Deferred} {Γ : Ctx} {t : Tm} {S : St} {a : Act} {w : World} {s : Sig} {t' : Tm} {S' : St} {Q : Exit → Act → World → Prop},
    (rn = none ∨ noRF c = true) → evC P okR nt call n c t S = some (s, t', S') → Mem Γ S w → TmRel ds Γ nt t a → Marks Γ w b0 ds → (∀ Γ' a' w' ds', Step Γ S w Γ' S' w' → TmRel ds' Γ' nt t' a' → Marks Γ' w' b0 ds' → Q (exitOf s) a' w') → c.wpIn (Wr rn) 0 P Q a w
  | .skip, rn, b0, ds, Γ, t, S, a, w, s, t', S', Q, hrf, h, hm, ht, hk, hQ => by
    simp only [evC, Option.some.injEq, Prod.mk.injEq] at h
    obtain ⟨e1, e2, e3⟩ := h; subst e1; subst e2; subst e3
    exact wpIn_skip (hQ Γ a w ds (.refl hm) ht hk)
  | .region id ops draw, rn, b0, ds, Γ, t, S, a, w, s, t', S', Q, hrf, h, hm, ht, hk, hQ => by
    simp only [evC] at h
    split at h
    · rename_i o1 o2 hs
      split at h
      · rename_i hc
        obtain ⟨t1, A, u, B, ta, Aa, tb, Bb, e1, e2, h1, h2, hmg, e3, e4, e5⟩ := amb2_eq h
        subst e3; subst e4; subst e5
        simp only [Option.some.injEq, Prod.mk.injEq, true_and] at h1 h2
        obtain ⟨f1, f2⟩ := h1; subst f1; subst f2
        obtain ⟨f1, f2⟩ := h2; subst f1; subst f2
        refine split_region hmix hs ?_ ?_
        · refine hdraw call hcall hnf hmo nt ds o1 Γ t _ S _ a w rn Q hc.1 e1 hm ht fun Γ2 a2 w2 hst2 htr2 => ?_
          exact hQ Γ2 a2 w2 ds (hst2.weaken (fun id => (merge_left hmg id).1) (fun id => (merge_left hmg id).2)) (htr2.weaken (mergeT_left t1 u)) (hk.step hst2)
        · refine hdraw call hcall hnf hmo nt ds o2 Γ t _ S _ a w rn Q hc.2 e2 hm ht fun Γ2 a2 w2 hst2 htr2 => ?_
          exact hQ Γ2 a2 w2 ds (hst2.weaken (fun id => (merge_right hmg id).1) (fun id => (merge_right hmg id).2)) (htr2.weaken (mergeT_right t1 u)) (hk.step hst2)
      · cases h
    split at h
    · cases h
    · rename_i hc
      split at h
      · rename_i t1 S1 he
        simp only [Option.some.injEq, Prod.mk.injEq] at h
        obtain ⟨e1, e2, e3⟩ := h; subst e1; subst e2; subst e3
        cases draw with
        | false =>
          refine wpIn_region ?_
          have := region_sound (rn := rn) (Q := Q) hcall ops.toList 0 (fun j => by simp) (by simp) he hm ht (fun Γ' a' w' hst htr => hQ Γ' a' w' ds hst htr (hk.step hst))
          simpa [List.range_eq_range'] using this
        | true =>
          have hok : okR call nt ops t S := Classical.byContradiction fun hn => hc ⟨rfl, hn⟩
          exact wpIn_region_any hmix <| hdraw call hcall hnf hmo nt ds ops Γ t t1 S S1 a w rn Q hok he hm ht (fun Γ' a' w' hst htr => hQ Γ' a' w' ds hst htr (hk.step hst))
      · cases h
  | .seq x y, rn, b0, ds, Γ, t, S, a, w, s, t', S', Q, hrf, h, hm, ht, hk, hQ => by
    simp only [evC] at h
    split at h
    · rename_i ops l1 l2 ha
      obtain ⟨t1, A, u, B, ta, Aa, tb, Bb, e1, e2, h1, h2, hmg, e3, e4, e5⟩ := amb2_eq h
      subst e3; subst e4; subst e5
      unfold ambOps at ha
      split at ha
      · rename_i id ops0
        split at ha
        · rename_i o0 o1 o2 o3 hops
          split at ha
          · rename_i hb
            simp only [Option.some.injEq, Prod.mk.injEq] at ha
            obtain ⟨f1, f2, f3⟩ := ha
            subst f1; subst f2; subst f3
            refine wpIn_seq (wpIn_region_any hmix ?_)
            have hw : Step Γ S w Γ S { w with drawn := w.drawn + 1 } := .of_heap hm rfl rfl rfl rfl
            refine amb_region hcall hops hb e1 e2 hw.mem ht (fun Γ1 a1 w1 hst htr => ?_) (fun Γ1 a1 w1 hst htr => ?_)
            · refine evC_sound hmix hdraw hcall hnf hmo y (noRF_seq hrf).2 h1 hst.mem htr ((hk.step hw).step hst) fun Γ2 a2 w2 ds2 hst2 htr2 hk2 => ?_
              exact hQ Γ2 a2 w2 ds2 (((hw.trans hst).trans hst2).weaken (fun id => (merge_left hmg id).1) (fun id => (merge_left hmg id).2)) (htr2.weaken (mergeT_left ta tb)) hk2
            · refine evC_sound hmix hdraw hcall hnf hmo y (noRF_seq hrf).2 h2 hst.mem htr ((hk.step hw).step hst) fun Γ2 a2 w2 ds2 hst2 htr2 hk2 => ?_
              exact hQ Γ2 a2 w2 ds2 (((hw.trans hst).trans hst2).weaken (fun id => (merge_right hmg id).1) (fun id => (merge_right hmg id).2)) (htr2.weaken (mergeT_right ta tb)) hk2
          · cases ha
        · cases ha
      · cases ha
    split at h
    · rename_i t1 S1 h1
      refine wpIn_seq (evC_sound hmix hdraw hcall hnf hmo x (noRF_seq hrf).1 h1 hm ht hk fun Γ1 a1 w1 ds1 hst htr hk1 => ?_)
      exact evC_sound hmix hdraw hcall hnf hmo y (noRF_seq hrf).2 h hst.mem htr hk1 fun Γ2 a2 w2 ds2 hst2 htr2 hk2 => hQ Γ2 a2 w2 ds2 (hst.trans hst2) htr2 hk2
    · rename_i hn
      refine wpIn_seq (evC_sound hmix hdraw hcall hnf hmo x (noRF_seq hrf).1 h hm ht hk fun Γ1 a1 w1 ds1 hst htr hk1 => ?_)
      have hq := hQ Γ1 a1 w1 ds1 hst htr hk1
      cases s with
      | norm => exact absurd h (hn _ _)
      | exit id => exact hq
      | ret => exact hq
  | .cond c x y, rn, b0, ds, Γ, t, S, a, w, s, t', S', Q, hrf, h, hm, ht, hk, hQ => by
    simp only [evC] at h
    have hc := rel_opd ht.rel c
    split at h
    · rename_i hv
      rw [hv] at hc
      generalize hu : a.eval c = u at hc
      cases hc
      exact wpIn_cond_true hu (evC_sound hmix hdraw hcall hnf hmo x (noRF_cond hrf).1 h hm ht hk hQ)
    · rename_i hv
      rw [hv] at hc
      generalize hu : a.eval c = u at hc
      cases hc
      exact wpIn_cond_false hu (evC_sound hmix hdraw hcall hnf hmo y (noRF_cond hrf).2 h hm ht hk hQ)
    · cases h
  | .block id b, rn, b0, ds, Γ, t, S, a, w, s, t', S', Q, hrf, h, hm, ht, hk, hQ => by
    simp only [evC] at h
    split at h
    · rename_i i t1 S1 h1
      refine wpIn_block (evC_sound hmix hdraw hcall hnf hmo b (noRF_block hrf) h1 hm ht hk fun Γ1 a1 w1 ds1 hst htr hk1 => ?_)
      split at h
      · rename_i hid
        simp only [Option.some.injEq, Prod.mk.injEq] at h
        obtain ⟨e1, e2, e3⟩ := h; subst e1; subst e2; subst e3
        simp only [exitOf, Exit.inBlock, hid, if_true]
        exact hQ Γ1 a1 w1 ds1 hst htr hk1
      · rename_i hid
        simp only [Option.some.injEq, Prod.mk.injEq] at h
        obtain ⟨e1, e2, e3⟩ := h; subst e1; subst e2; subst e3
        simp only [exitOf, Exit.inBlock, hid, if_false]
        exact hQ Γ1 a1 w1 ds1 hst htr hk1
    · rename_i hn
      refine wpIn_block (evC_sound hmix hdraw hcall hnf hmo b (noRF_block hrf) h hm ht hk fun Γ1 a1 w1 ds1 hst htr hk1 => ?_)
      have hq := hQ Γ1 a1 w1 ds1 hst htr hk1
      cases s with
      | norm => exact hq
      | exit id' => exact absurd h (hn _ _ _)
      | ret => exact hq
  | .loop b, rn, b0, ds, Γ, t, S, a, w, s, t', S', Q, hrf, h, hm, ht, hk, hQ => by
    simp only [evC] at h
    suffices hl : ∀ (k : Nat) {ds : List Deferred} {Γ : Ctx} {t : Tm} {S : St} {a : Act} {w : World} {s : Sig} {t' : Tm} {S' : St}, loopN (evC P okR nt call n b) k t S = some (s, t', S') → Mem Γ S w → TmRel ds Γ nt t a → Marks Γ w b0 ds →
        (∀ Γ' a' w' ds', Step Γ S w Γ' S' w' → TmRel ds' Γ' nt t' a' → Marks Γ' w' b0 ds' → Q (exitOf s) a' w') → Code.roundsIn (Wr rn) 0 P b Q k a w from wpIn_loop_rounds n (hl n h hm ht hk hQ)
    intro k
    induction k with
    | zero => intro ds Γ t S a w s t' S' h; cases h
    | succ k ih =>
      intro ds Γ t S a w s t' S' h hm ht hk hQ
      rw [roundsIn_succ]
      simp only [loopN] at h
      split at h
      · rename_i t1 S1 h1
        refine evC_sound hmix hdraw hcall hnf hmo b (noRF_loop hrf) h1 hm ht hk fun Γ1 a1 w1 ds1 hst htr hk1 => ?_
        exact ih h hst.mem htr hk1 fun Γ2 a2 w2 ds2 hst2 htr2 hk2 => hQ Γ2 a2 w2 ds2 (hst.trans hst2) htr2 hk2
      · rename_i hn
        refine evC_sound hmix hdraw hcall hnf hmo b (noRF_loop hrf) h hm ht hk fun Γ1 a1 w1 ds1 hst htr hk1 => ?_
        have hq := hQ Γ1 a1 w1 ds1 hst htr hk1
        cases s with
        | norm => exact absurd h (hn _ _)
        | exit id => exact hq
        | ret => exact hq
  | .exit id, rn, b0, ds, Γ, t, S, a, w, s, t', S', Q, hrf, h, hm, ht, hk, hQ => by
    simp only [evC, Option.some.injEq, Prod.mk.injEq] at h
    obtain ⟨e1, e2, e3⟩ := h; subst e1; subst e2; subst e3
    exact wpIn_exit (hQ Γ a w ds (.refl hm) ht hk)
  | .ret, rn, b0, ds, Γ, t, S, a, w, s, t', S', Q, hrf, h, hm, ht, hk, hQ => by
    simp only [evC, Option.some.injEq, Prod.mk.injEq] at h
    obtain ⟨e1, e2, e3⟩ := h; subst e1; subst e2; subst e3
    exact wpIn_ret (hQ Γ a w ds (.refl hm) ht hk)
  | .rangeFunc g ps x y, rn, b0, ds, Γ, t, S, a, w, s, t', S', Q, hrf, h, hm, ht, hk, hQ => by
    have hrn : rn = none := by rcases hrf with e | e; exact e; cases e
    subst hrn
    simp only [evC] at h
    split at h
    · rename_i hc
      exact rangeFunc_sound (fa := evC P okR nt call n x) (fb := evC P okR nt call n y)
        (fun l Γ t S a w s t' S' ds Q h hm ht hk hQ => evC_sound hmix hdraw hcall hnf hmo x (.inr hc.1) h hm ht hk hQ)
        (fun l Γ t S a w s t' S' ds Q h hm ht hk hQ => evC_sound hmix hdraw hcall hnf hmo y (.inr hc.2) h hm ht hk hQ) h hm ht hk hQ
    · cases h
  | .scope _, rn, b0, ds, Γ, t, S, a, w, s, t', S', Q, hrf, h, hm, ht, hk, hQ => by simp [evC] at h
  | .label _, rn, b0, ds, Γ, t, S, a, w, s, t', S', Q, hrf, h, hm, ht, hk, hQ => by simp [evC] at h
  | .goto _, rn, b0, ds, Γ, t, S, a, w, s, t', S', Q, hrf, h, hm, ht, hk, hQ => by simp [evC] at h
  | .refuse _, rn, b0, ds, Γ, t, S, a, w, s, t', S', Q, hrf, h, hm, ht, hk, hQ => by simp [evC] at h

def resSem (tmps : Array Value) : ResultVar → Sem Value
  | .tmp t => pure (tmps.getD t undef)
  | .cell a t => do loadVar t (← asAddr (tmps.getD a undef))
theorem results_eq (fn : Func) (tmps : Array Value) : results fn tmps = (fn.results.mapM (resSem tmps) >>= fun vs => pure (if h : vs.size = 1 then vs[0] else .tuple vs)) := rfl
theorem evRes_sound (hm : Mem Γ S w) (ht : TmRel ds Γ nt t a) : ∀ (l : List ResultVar) (vs : List V), evRes P t S l = some vs →
    ∃ us, (l.mapM (resSem a.tmps)).run P w = .ok us w ∧ RelL Γ vs us
  | [], vs, h => by simp [evRes] at h; subst h; exact ⟨[], by simp, .nil⟩
  | .tmp i :: l, vs, h => by
    simp only [evRes] at h
    split at h
    · rename_i vs' h1
      injection h with h; subst h
      obtain ⟨us, h2, h3⟩ := evRes_sound hm ht l vs' h1
      exact ⟨a.tmps.getD i undef :: us, by simp only [List.mapM_cons, resSem, Sem.run_bind, Sem.run_pure, Result.andThen_ok, h2], .cons _ _ _ _ (ht.rel.tmp i) h3⟩
    · cases h
  | .cell p ty :: l, vs, h => by
    simp only [evRes] at h
    split at h
    · rename_i v vs' h0 h1
      injection h with h; subst h
      obtain ⟨us, h2, h3⟩ := evRes_sound hm ht l vs' h1
      obtain ⟨x, b, off, e, h4, h5⟩ := run_load_rel (P := P) hm (ht.rel.tmp p) h0
      refine ⟨x :: us, ?_, .cons _ _ _ _ h5 h3⟩
      simp only [List.mapM_cons, resSem, Sem.run_bind, e, asAddr, Sem.run_pure, Result.andThen_ok, h4, h2]
    · cases h

theorem callN_sound (hmix : P.follows .mixedOrders = true) {base : AskF} (hbo : CallOK P (ansOf base)) (hbn : CallNf (ansOf base)) (hbm : AskMono base) (hbs : AskSame base) {okR : CallF → Nat → Array Oper → Tm → St → Prop} (hdraw : DrawSound P okR) (hok : OkMono P okR) : ∀ (n : Nat), CallOK P (callN P base okR n)
  | 0 => fun f args S r S' h => hbo f args S r S' h
  | n + 1 => fun f args S r S' h => by
    have ih := callN_sound hmix hbo hbn hbm hbs hdraw hok n
    simp only [callN] at h
    split at h
    · rename_i r0 h0; exact hbo f args S r S' (by simp only [ansOf, h0]; exact h)
    rename_i h0
    clear h0
    cases hf : P.funcs[f]? with
    | none => rw [hf] at h; cases h
    | some fn =>
      rw [hf] at h
      simp only [] at h
      cases hb : fn.body with
      | none => rw [hb] at h; cases h
      | some b =>
        rw [hb] at h
        simp only [] at h
        split at h
        · cases h
        · rename_i hc
          have hname : ¬ fn.name = "runtime.NumGoroutine" := fun e => hc (.inl e)
          have hlen : args.length ≤ fn.ntmps := Nat.le_of_not_lt fun e => hc (.inr e)
          refine ⟨⟨fn, hf, by rw [hb]; rfl, by simpa using hname⟩, fun Γ w us hm hr => ?_⟩
          have hus : us.size = args.length := by have := hr.length; simpa using this.symm
          have ht : TmRel [] Γ fn.ntmps (initT args) { tmps := us ++ Array.replicate (fn.ntmps - us.size) undef, defers := [] } := TmRel.init hm hr hlen
          split at h
          · cases h
          · cases h
          · rename_i s t1 S1 hne he
            split at h
            · rename_i vs hvs
              injection h with h; injection h with e1 e2; subst e1; subst e2
              refine callsIn_wide.1 (callsIn_of_wp_marks (F := Wr none) (n := 0) hf hb trivial ?_)
              refine evC_sound (rn := none) (b0 := w.heap.size) hmix hdraw ih (callN_nf hbn n) (callN_mono hbn hbm hbs hok n) b (.inl rfl) he hm ht (.nil (Nat.le_refl _)) fun Γ1 a1 w1 ds1 hst htr hk1 => ?_
              obtain ⟨_, rs, q1, q2, q3⟩ := hk1
              have hleave : LeavesInM (Wr none) 0 P fn a1.tmps (fun e w' => ∃ Γ' u, e = .returned u ∧ Step Γ S w Γ' S1 w' ∧ Rel Γ' (one vs) u) a1.defers .returning w1 := by
                rw [htr.defers, q1]
                refine leaves_marks (fun w2 hst2 => ?_) rs hst q2 q3
                obtain ⟨ux, h1, h2⟩ := evRes_sound (P := P) hst2.mem htr fn.results.toList vs hvs
                have hrun : (fn.results.mapM (resSem a1.tmps)).run P w2 = .ok ux.toArray w2 := by
                  rw [Array.mapM_eq_mapM_toList]
                  rw [Sem.run_map, h1]; rfl
                refine ⟨if h : ux.toArray.size = 1 then ux.toArray[0] else .tuple ux.toArray, ?_, Γ1, _, rfl, hst2, ?_⟩
                · rw [results_eq, Sem.run_bind, hrun]; rfl
                · cases h2 with
                  | nil => simp only [one]; exact .tup _ _ .nil
                  | cons v u vs' us' hv hs =>
                    cases hs with
                    | nil => simpa [one] using hv
                    | cons v2 u2 vs2 us2 hv2 hs2 =>
                      simp only [one, List.size_toArray, List.length_cons]
                      rw [dif_neg (by omega)]
                      exact .tup _ _ (.cons _ _ _ _ hv (.cons _ _ _ _ hv2 hs2))
              cases s with
              | exit id => exact (hne _ rfl).elim
              | norm => exact hleave
              | ret => exact hleave
            · cases h
end
end Go.Vm

namespace Go.Vm
variable [Gl]
open Go.RowKit

/-- i waits for j. -/
def Waits (ops : Array Oper) (j i : Nat) : Prop := ∃ o, ops[i]? = some o ∧ ∃ e ∈ o.after, Region.binds .any e = true ∧ e.on = j
inductive Bef (ops : Array Oper) : Nat → Nat → Prop
  | edge {j i : Nat} (h : Waits ops j i) : Bef ops j i
  | trans {j k i : Nat} (h : Bef ops j k) (e : Waits ops k i) : Bef ops j i
structure OrdOK (ops : Array Oper) : Prop where
  back : ∀ (j i : Nat), Waits ops j i → j < i
  apart : ∀ (i j : Nat) (oi oj : Oper), ops[i]? = some oi → ops[j]? = some oj → i < j → ¬ Bef ops i j → oi.apart ops oj = true

section
variable {P : Program} {call : CallF} {nt : Nat} {ops : Array Oper} {t : Tm} {S : St}

theorem OrdOK.lt (h : OrdOK ops) {j i : Nat} (b : Bef ops j i) : j < i := by
  induction b with
  | edge e => exact h.back _ _ e
  | trans _ e ih => exact Nat.lt_trans ih (h.back _ _ e)
theorem OrdOK.cross (h : OrdOK ops) {i j : Nat} {oi oj : Oper} (hi : ops[i]? = some oi) (hj : ops[j]? = some oj) (hne : i ≠ j) (h1 : ¬ Bef ops i j) (h2 : ¬ Bef ops j i) :
    (∀ d, oi.dst = some d → d ∉ oj.looksAt ops) ∧ (∀ d, oi.dst = some d → oj.dst ≠ some d) ∧ (∀ d, oj.dst = some d → d ∉ oi.looksAt ops) := by
  rcases Nat.lt_or_gt_of_ne hne with hl | hl
  · exact Oper.apart_spec (h.apart i j oi oj hi hj hl h1)
  · obtain ⟨a, b, c⟩ := Oper.apart_spec (h.apart j i oj oi hj hi hl h2)
    exact ⟨c, fun d hd e => b d e hd, a⟩

/-- A run in the order of the text. -/
structure Tr (P : Program) (nt : Nat) (call : CallF) (ops : Array Oper) (t : Tm) (S : St) (T : Nat → Tm) (Z : Nat → St) (B : Nat → Bool) (R : Nat → V) : Prop where
  t0 : T 0 = t
  z0 : Z 0 = S
  want : ∀ (i : Nat) (o : Oper), ops[i]? = some o → wanted ops o (T i) = some (B i)
  run : ∀ (i : Nat) (o : Oper), ops[i]? = some o → if B i then evOp P call o (T i) (Z i) = some (R i, Z (i + 1)) else R i = .un ∧ Z (i + 1) = Z i
  put : ∀ (i : Nat) (o : Oper), ops[i]? = some o → T (i + 1) = putT nt (T i) o.dst (R i)

theorem tr_from : ∀ (l : List Oper) (k : Nat) (t : Tm) (S : St) {t' : Tm} {S' : St}, evOps P nt call ops l t S = some (t', S') →
    ∃ (T : Nat → Tm) (Z : Nat → St) (B : Nat → Bool) (R : Nat → V), T k = t ∧ Z k = S ∧ T (k + l.length) = t' ∧ Z (k + l.length) = S' ∧
      ∀ (j : Nat) (o : Oper), l[j]? = some o → wanted ops o (T (k + j)) = some (B (k + j)) ∧
        (if B (k + j) then evOp P call o (T (k + j)) (Z (k + j)) = some (R (k + j), Z (k + j + 1)) else R (k + j) = .un ∧ Z (k + j + 1) = Z (k + j)) ∧ T (k + j + 1) = putT nt (T (k + j)) o.dst (R (k + j))
  | [], k, t, S, t', S', h => by
    simp only [evOps, Option.some.injEq, Prod.mk.injEq] at h
    exact ⟨fun _ => t, fun _ => S, fun _ => true, fun _ => .any, rfl, rfl, h.1, h.2, fun j o hj => by simp at hj⟩
  | o :: r, k, t, S, t', S', h => by
    obtain ⟨b, v, S1, hw, he, hr⟩ := evOps_cons_eq h rfl
    obtain ⟨T, Z, B, R, h1, h2, h3, h4, h5⟩ := tr_from r (k + 1) _ _ hr
    refine ⟨fun j => if j = k then t else T j, fun j => if j = k then S else Z j, fun j => if j = k then b else B j, fun j => if j = k then v else R j, by simp, by simp, ?_, ?_, ?_⟩
    · have e : k + (o :: r).length = k + 1 + r.length := by simp; omega
      simp only [e]
      rw [if_neg (by omega)]; exact h3
    · have e : k + (o :: r).length = k + 1 + r.length := by simp; omega
      simp only [e]
      rw [if_neg (by omega)]; exact h4
    · intro j o' hj
      cases j with
      | zero =>
        simp only [List.getElem?_cons_zero, Option.some.injEq] at hj
        subst hj
        have n1 : ¬ (k + 1 = k) := by omega
        simp only [Nat.add_zero, if_true, n1, if_false, h1, h2]
        exact ⟨hw, he, trivial⟩
      | succ j =>
        simp only [List.getElem?_cons_succ] at hj
        have := h5 j o' hj
        have e : k + (j + 1) = k + 1 + j := by omega
        have n1 : ¬ (k + 1 + j = k) := by omega
        have n2 : ¬ (k + 1 + j + 1 = k) := by omega
        simp only [e, n1, n2, if_false]
        exact this
theorem tr_exists {t' : Tm} {S' : St} (h : evOps P nt call ops ops.toList t S = some (t', S')) :
    ∃ (T : Nat → Tm) (Z : Nat → St) (B : Nat → Bool) (R : Nat → V), Tr P nt call ops t S T Z B R ∧ T ops.size = t' ∧ Z ops.size = S' := by
  obtain ⟨T, Z, B, R, h1, h2, h3, h4, h5⟩ := tr_from ops.toList 0 t S h
  simp only [Nat.zero_add, Array.length_toList, Array.getElem?_toList] at h3 h4 h5
  exact ⟨T, Z, B, R, ⟨h1, h2, fun i o hi => (h5 i o hi).1, fun i o hi => (h5 i o hi).2.1, fun i o hi => (h5 i o hi).2.2⟩, h3, h4⟩

/-- What must hold in a run. -/
structure DynOK (P : Program) (call : CallF) (ops : Array Oper) (T : Nat → Tm) (Z : Nat → St) (B : Nat → Bool) : Prop where
  eff : ∀ (i j : Nat) (oi oj : Oper), ops[i]? = some oi → ops[j]? = some oj → i < j → clsOf oi = .E → clsOf oj = .E → B i = true → B j = true → Bef ops i j
  look : ∀ (i c : Nat) (oi oc : Oper), ops[i]? = some oi → ops[c]? = some oc → clsOf oi = .L → clsOf oc = .E → B i = true → B c = true → ¬ Bef ops i c → ¬ Bef ops c i →
    ∀ (v : V), evOp P call oi (T i) (Z c) = some (v, Z c) ↔ evOp P call oi (T i) (Z (c + 1)) = some (v, Z (c + 1))

/-! ### temporaries -/
def dstAt (ops : Array Oper) (j : Nat) : Option Nat := (ops[j]?).bind (·.dst)
def lastDef (ops : Array Oper) (L : Nat → Bool) (x : Nat) : Nat → Option Nat
  | 0 => none
  | n + 1 => if L n = true ∧ dstAt ops n = some x then some n else lastDef ops L x n
def tmL (ops : Array Oper) (nt : Nat) (t : Tm) (R : Nat → V) (L : Nat → Bool) : Tm := fun x => if x < nt then match lastDef ops L x ops.size with
  | some j => R j
  | none => t x else t x
theorem lastDef_congr {L L' : Nat → Bool} {x : Nat} : ∀ (n : Nat), (∀ j < n, dstAt ops j = some x → L j = L' j) → lastDef ops L x n = lastDef ops L' x n
  | 0, _ => rfl
  | n + 1, h => by
    simp only [lastDef]
    rw [lastDef_congr n fun j hj => h j (by omega)]
    by_cases hd : dstAt ops n = some x
    · rw [h n (by omega) hd]
    · simp [hd]
theorem tmL_congr {R : Nat → V} {L L' : Nat → Bool} {x : Nat} (h : ∀ j < ops.size, dstAt ops j = some x → L j = L' j) : tmL ops nt t R L x = tmL ops nt t R L' x := by
  unfold tmL
  rw [lastDef_congr _ h]
theorem lastDef_top {L : Nat → Bool} {x i : Nat} : ∀ (n : Nat), i < n → L i = true → dstAt ops i = some x → (∀ j < n, i < j → dstAt ops j = some x → L j = false) → lastDef ops L x n = some i
  | 0, h, _, _, _ => by omega
  | n + 1, h, hL, hd, hn => by
    simp only [lastDef]
    by_cases e : n = i
    · subst e; simp [hL, hd]
    · have : ¬ (L n = true ∧ dstAt ops n = some x) := fun ⟨a, b⟩ => by
        rw [hn n (by omega) (by omega) b] at a; cases a
      rw [if_neg this]
      exact lastDef_top n (by omega) hL hd fun j hj => hn j (by omega)
theorem lastDef_none {L : Nat → Bool} {x : Nat} : ∀ (n : Nat), (∀ j < n, dstAt ops j = some x → L j = false) → lastDef ops L x n = none
  | 0, _ => rfl
  | n + 1, h => by
    simp only [lastDef]
    have : ¬ (L n = true ∧ dstAt ops n = some x) := fun ⟨a, b⟩ => by rw [h n (by omega) b] at a; cases a
    rw [if_neg this]
    exact lastDef_none n fun j hj => h j (by omega)
/-- One more. -/
theorem tmL_put {R : Nat → V} {L L' : Nat → Bool} {i : Nat} {o : Oper} (hi : ops[i]? = some o) (hL : ∀ j, L' j = (L j || j == i)) (hlast : ∀ j < ops.size, i < j → o.dst ≠ none → dstAt ops j = o.dst → L j = false) :
    tmL ops nt t R L' = putT nt (tmL ops nt t R L) o.dst (R i) := by
  have hlt : i < ops.size := (Array.getElem?_eq_some_iff.1 hi).1
  have hda : dstAt ops i = o.dst := by simp [dstAt, hi]
  funext x
  by_cases hx : o.dst = some x
  · have e1 : putT nt (tmL ops nt t R L) o.dst (R i) x = if x < nt then R i else tmL ops nt t R L x := by
      rw [hx]; simp only [putT]; split <;> simp
    rw [e1]
    unfold tmL
    by_cases hn : x < nt
    · simp only [if_pos hn]
      rw [lastDef_top (i := i) _ hlt (by simp [hL]) (by rw [hda, hx]) fun j hj hij hd => by
        rw [hL, hlast j hj hij (by rw [hx]; simp) (by rw [hd, hx])]; simp; omega]
    · simp only [if_neg hn]
  · have e1 : putT nt (tmL ops nt t R L) o.dst (R i) x = tmL ops nt t R L x := by
      cases hd : o.dst with
      | none => rfl
      | some d =>
        simp only [putT]
        split
        · have : x ≠ d := fun e => hx (by rw [hd, e])
          simp [this]
        · rfl
    rw [e1]
    refine tmL_congr fun j _ hd => ?_
    rw [hL]
    have : j ≠ i := fun e => by subst e; rw [hda] at hd; exact hx hd
    simp [this]
theorem Tr.tm {T : Nat → Tm} {Z : Nat → St} {B : Nat → Bool} {R : Nat → V} (h : Tr P nt call ops t S T Z B R) : ∀ (i : Nat), i ≤ ops.size → T i = tmL ops nt t R (fun j => decide (j < i))
  | 0, _ => by
    rw [h.t0]
    funext x
    unfold tmL
    rw [lastDef_none _ fun j _ _ => by simp]
    split <;> rfl
  | i + 1, hi => by
    have hsome : ops[i]? = some ops[i] := Array.getElem?_eq_getElem (by omega)
    rw [h.put i _ hsome, h.tm i (by omega)]
    refine (tmL_put hsome (fun j => ?_) fun j _ hij _ _ => by simp; omega).symm
    have : (decide (j < i + 1) : Bool) = (decide (j < i) || j == i) := by
      by_cases h1 : j < i
      · have : j < i + 1 := by omega
        simp [h1, this]
      · by_cases h2 : j = i
        · simp [h2]
        · have : ¬ j < i + 1 := by omega
          simp [h1, h2, this]
    exact this

/-- What a listed set must be like. -/
def Down (ops : Array Oper) (L : Nat → Bool) : Prop := ∀ (j i : Nat), Waits ops j i → L i = true → L j = true
theorem Down.bef {L : Nat → Bool} (h : Down ops L) {j i : Nat} (b : Bef ops j i) : L i = true → L j = true := by
  induction b with
  | edge e => exact h _ _ e
  | trans _ e ih => exact fun hi => ih (h _ _ e hi)
theorem Down.ready {L : Nat → Bool} (h : Down ops L) {i : Nat} (hr : ∀ j, Waits ops j i → L j = true) {j : Nat} (b : Bef ops j i) : L j = true := by
  cases b with
  | edge e => exact hr _ e
  | trans b e => exact h.bef b (hr _ e)

theorem opd_congr {t t' : Tm} (x : Operand) (h : ∀ d, x = .tmp d → t d = t' d) : opd t x = opd t' x := by
  cases x <;> first | rfl | exact h _ rfl
theorem wanted_congr {o : Oper} {t t' : Tm} (h : ∀ d ∈ o.looksAt ops, t d = t' d) : wanted ops o t = wanted ops o t' := by
  unfold wanted
  cases hg : o.guard with
  | none => rfl
  | some p =>
    obtain ⟨j, b⟩ := p
    simp only []
    cases hd : (ops[j]?).bind (·.dst) with
    | none => rfl
    | some d =>
      simp only []
      rw [h d (by simp [Oper.looksAt, hg, hd])]
theorem evOp_look {o : Oper} {t t' : Tm} (h : ∀ d ∈ o.looksAt ops, t d = t' d) (S : St) : evOp P call o t S = evOp P call o t' S :=
  evOp_congr fun x hx => opd_congr x fun d hd => h d (by subst hd; exact List.mem_append_left _ (List.mem_filterMap.2 ⟨.tmp d, hx, rfl⟩))
/-- What a ready operation sees. -/
theorem tmL_sees (ho : OrdOK ops) {R : Nat → V} {L : Nat → Bool} {i : Nat} {o : Oper} (hi : ops[i]? = some o) (hd : Down ops L) (hr : ∀ j, Waits ops j i → L j = true) (hun : L i = false) :
    ∀ d ∈ o.looksAt ops, tmL ops nt t R L d = tmL ops nt t R (fun j => decide (j < i)) d := by
  intro d hd'
  refine tmL_congr fun j hj hdst => ?_
  have hoj : ops[j]? = some ops[j] := Array.getElem?_eq_getElem hj
  have hdj : ops[j].dst = some d := by simpa [dstAt, hoj] using hdst
  by_cases e : j = i
  · subst e; simp [hun]
  have hord : Bef ops j i ∨ Bef ops i j := by
    refine Classical.byContradiction fun hc => ?_
    have h1 : ¬ Bef ops j i := fun h => hc (.inl h)
    have h2 : ¬ Bef ops i j := fun h => hc (.inr h)
    exact (ho.cross hoj hi e h1 h2).1 d hdj hd'
  rcases hord with b | b
  · rw [hd.ready hr b]
    have := ho.lt b
    simp [this]
  · have hj' : L j = false := by
      cases hl : L j with
      | false => rfl
      | true => rw [hd.bef b hl] at hun; cases hun
    have := ho.lt b
    rw [hj']
    have h3 : ¬ j < i := by omega
    simp [h3]
theorem tmL_last (ho : OrdOK ops) {L : Nat → Bool} {i : Nat} {o : Oper} (hi : ops[i]? = some o) (hd : Down ops L) (hun : L i = false) :
    ∀ j < ops.size, i < j → o.dst ≠ none → dstAt ops j = o.dst → L j = false := by
  intro j hj hij hne hdst
  have hoj : ops[j]? = some ops[j] := Array.getElem?_eq_getElem hj
  cases hod : o.dst with
  | none => exact absurd hod hne
  | some d =>
    have hdj : ops[j].dst = some d := by rw [hod] at hdst; simpa [dstAt, hoj] using hdst
    have hb : Bef ops i j := by
      refine Classical.byContradiction fun hc => ?_
      have h2 : ¬ Bef ops j i := fun h => by have := ho.lt h; omega
      exact (ho.cross hi hoj (by omega) hc h2).2.1 d hod hdj
    cases hl : L j with
    | false => rfl
    | true => rw [hd.bef hb hl] at hun; cases hun
end
end Go.Vm

namespace Go.Vm
variable [Gl]
open Go.RowKit

section
variable {P : Program} {call : CallF} {nt : Nat} {ops : Array Oper} {t : Tm} {S : St} {T : Nat → Tm} {Z : Nat → St} {B : Nat → Bool} {R : Nat → V}

/-- A row-making operation that is done. -/
def IsA (ops : Array Oper) (B : Nat → Bool) (j : Nat) : Prop := ∃ o, ops[j]? = some o ∧ clsOf o = .A ∧ B j = true
theorem Tr.nf1 (h : Tr P nt call ops t S T Z B R) (hnf : CallNf call) {i : Nat} (hi : i < ops.size) : Nf (Z i) (Z (i + 1)) := by
  have hs : ops[i]? = some ops[i] := Array.getElem?_eq_getElem hi
  have := h.run i _ hs
  cases hb : B i with
  | true => rw [hb] at this; exact evOp_nf hnf (by simpa using this)
  | false => rw [hb] at this; simp at this; rw [this.2]; exact .refl _
theorem Tr.nf (h : Tr P nt call ops t S T Z B R) (hnf : CallNf call) {i : Nat} : ∀ (k : Nat), i + k ≤ ops.size → Nf (Z i) (Z (i + k))
  | 0, _ => .refl _
  | k + 1, hk => (h.nf hnf k (by omega)).trans (h.nf1 hnf (by omega))
theorem Tr.nf' (h : Tr P nt call ops t S T Z B R) (hnf : CallNf call) {i j : Nat} (hij : i ≤ j) (hj : j ≤ ops.size) : Nf (Z i) (Z j) := by
  have := h.nf hnf (i := i) (j - i) (by omega)
  rwa [Nat.add_sub_cancel' hij] at this
/-- The row that a row-making operation makes. -/
theorem Tr.made (h : Tr P nt call ops t S T Z B R) {j : Nat} (ha : IsA ops B j) : ∃ cs, (Z j).new (.cells cs 0 []) = some ((Z j).nx, Z (j + 1)) ∧ (Z j).get (Z j).nx = .free ∧ ∀ id, (Z (j + 1)).get id = if id = (Z j).nx then .cells cs 0 [] else (Z j).get id := by
  obtain ⟨o, hs, hc, hb⟩ := ha
  have hr := h.run j o hs
  rw [hb] at hr
  obtain ⟨cs, av, i, hn, _, _⟩ := A_spec hc (by simpa using hr)
  have hi : i = (Z j).nx := by
    unfold St.new at hn
    split at hn
    · split at hn
      · injection hn with hn; injection hn with e _; exact e.symm
      · cases hn
    · cases hn
  subst hi
  obtain ⟨h1, h2⟩ := St.new_eq hn
  exact ⟨cs, hn, h1, h2⟩
open Classical in
/-- The rows that the region will have made. -/
noncomputable def preX (ops : Array Oper) (Z : Nat → St) (B : Nat → Bool) (id : Id) : Ob :=
  if h : ∃ j, IsA ops B j ∧ (Z j).nx = id then (Z (h.choose + 1)).get id else .free
open Classical in
noncomputable def hatS (ops : Array Oper) (Z : Nat → St) (B : Nat → Bool) (e : Nat) : St :=
  { get := fun id => match (Z e).get id with | .free => preX ops Z B id | o => o, nx := (Z e).nx }
theorem hat_live {e : Nat} {id : Id} (h : (Z e).get id ≠ .free) : (hatS ops Z B e).get id = (Z e).get id := by
  unfold hatS
  simp only []
theorem hat_free {e : Nat} {id : Id} (h : (Z e).get id = .free) : (hatS ops Z B e).get id = preX ops Z B id := by
  unfold hatS; simp only [h]
theorem Tr.inj (h : Tr P nt call ops t S T Z B R) (hnf : CallNf call) {i j : Nat} (hi : IsA ops B i) (hj : IsA ops B j) (e : (Z i).nx = (Z j).nx) : i = j := by
  have key : ∀ i j, IsA ops B i → IsA ops B j → (Z i).nx = (Z j).nx → i < j → False := by
    intro i j hi hj e hl
    obtain ⟨cs, _, _, h2⟩ := h.made hi
    obtain ⟨_, _, h3, _⟩ := h.made hj
    have hjs : j < ops.size := by obtain ⟨o, ho, _⟩ := hj; exact (Array.getElem?_eq_some_iff.1 ho).1
    have := h.nf' hnf (i := i + 1) (j := j) hl (by omega) (Z i).nx (by rw [h2]; simp)
    rw [e] at this
    exact this h3
  rcases Nat.lt_trichotomy i j with hl | hl | hl
  · exact (key i j hi hj e hl).elim
  · exact hl
  · exact (key j i hj hi e.symm hl).elim
theorem Tr.preX_eq (h : Tr P nt call ops t S T Z B R) (hnf : CallNf call) {j : Nat} (hj : IsA ops B j) : preX ops Z B (Z j).nx = (Z (j + 1)).get (Z j).nx := by
  unfold preX
  have hex : ∃ k, IsA ops B k ∧ (Z k).nx = (Z j).nx := ⟨j, hj, rfl⟩
  rw [dif_pos hex]
  have := h.inj hnf hex.choose_spec.1 hj hex.choose_spec.2
  rw [this]
theorem preX_some {id : Id} (h : preX ops Z B id ≠ .free) : ∃ j, IsA ops B j ∧ (Z j).nx = id := by
  refine Classical.byContradiction fun hc => h ?_
  unfold preX
  rw [dif_neg hc]

/-- What a load sees. -/
def Sees (P : Program) (call : CallF) (o : Oper) (t : Tm) (v : V) (S : St) : Prop := evOp P call o t S = some (v, S)
theorem Sees.congr {o : Oper} {t : Tm} {v : V} {S S2 : St} (hc : clsOf o = .L) (h : Sees P call o t v S) (hr : ∀ id, readId o t = some id → (S2.get id).look = (S.get id).look) : Sees P call o t v S2 := (L_spec hc h).2 S2 hr
theorem Sees.live {o : Oper} {t : Tm} {v : V} {S : St} {id : Id} (hc : clsOf o = .L) (h : Sees P call o t v S) (hr : readId o t = some id) : S.get id ≠ .free := fun e => readId_look hc h hr (by rw [e]; rfl)
/-- Between two points of the text: no effect changes what the load sees. -/
def Quiet (P : Program) (call : CallF) (ops : Array Oper) (B : Nat → Bool) (Z : Nat → St) (ol : Oper) (tl : Tm) (v : V) (i j : Nat) : Prop :=
  ∀ c, i ≤ c → c < j → ∀ o, ops[c]? = some o → clsOf o = .E → B c = true → (Sees P call ol tl v (Z c) ↔ Sees P call ol tl v (Z (c + 1)))
variable {ol : Oper} {tl : Tm} {v : V}
theorem Tr.see1 (h : Tr P nt call ops t S T Z B R) (hl : clsOf ol = .L) {c : Nat} (hc : c < ops.size) (hq : ∀ o, ops[c]? = some o → clsOf o = .E → B c = true → (Sees P call ol tl v (Z c) ↔ Sees P call ol tl v (Z (c + 1))))
    (hA : ∀ id, readId ol tl = some id → IsA ops B c → (Z c).nx ≠ id) : Sees P call ol tl v (Z c) ↔ Sees P call ol tl v (Z (c + 1)) := by
  have hs : ops[c]? = some ops[c] := Array.getElem?_eq_getElem hc
  have hr := h.run c _ hs
  cases hb : B c with
  | false => rw [hb] at hr; simp at hr; rw [hr.2]
  | true =>
    rw [hb] at hr
    simp only [if_true] at hr
    cases hcl : clsOf ops[c] with
    | P => rw [(P_spec hcl hr).1]
    | L => rw [(L_spec hcl hr).1]
    | E => exact hq _ hs hcl hb
    | A =>
      have ha : IsA ops B c := ⟨_, hs, hcl, hb⟩
      obtain ⟨_, _, _, h2⟩ := h.made ha
      have e : ∀ id, readId ol tl = some id → ((Z (c + 1)).get id).look = ((Z c).get id).look := fun id hid => by
        rw [h2, if_neg (fun e => hA id hid ha e.symm)]
      exact ⟨fun h1 => h1.congr hl e, fun h1 => h1.congr hl fun id hid => (e id hid).symm⟩
theorem Tr.see (h : Tr P nt call ops t S T Z B R) (hl : clsOf ol = .L) {i : Nat} : ∀ (k : Nat), i + k ≤ ops.size → Quiet P call ops B Z ol tl v i (i + k) → (∀ c, i ≤ c → c < i + k → ∀ id, readId ol tl = some id → IsA ops B c → (Z c).nx ≠ id) →
    (Sees P call ol tl v (Z i) ↔ Sees P call ol tl v (Z (i + k)))
  | 0, _, _, _ => Iff.rfl
  | k + 1, hk, hq, hA =>
    (h.see hl k (by omega) (fun c h1 h2 => hq c h1 (by omega)) fun c h1 h2 => hA c h1 (by omega)).trans
      (h.see1 hl (c := i + k) (by omega) (hq (i + k) (by omega) (by omega)) (hA (i + k) (by omega) (by omega)))
/-- What a load sees in the store of the effects. -/
theorem Tr.sees (h : Tr P nt call ops t S T Z B R) (hnf : CallNf call) (hl : clsOf ol = .L) {i e : Nat} (hi : i ≤ ops.size) (he : e ≤ ops.size) (hv : Sees P call ol tl v (Z i))
    (hq1 : i ≤ e → Quiet P call ops B Z ol tl v i e) (hq2 : e ≤ i → Quiet P call ops B Z ol tl v e i) : Sees P call ol tl v (hatS ops Z B e) := by
  rcases Nat.le_total i e with hie | hie
  · have hA : ∀ c, i ≤ c → c < i + (e - i) → ∀ id, readId ol tl = some id → IsA ops B c → (Z c).nx ≠ id := by
      intro c h1 h2 id hid ha e1
      obtain ⟨_, _, h3, _⟩ := h.made ha
      rw [e1] at h3
      exact h.nf' hnf h1 (by omega) id (hv.live hl hid) h3
    have := (h.see hl (i := i) (e - i) (by omega) (by rw [Nat.add_sub_cancel' hie]; exact hq1 hie) hA).1 hv
    rw [Nat.add_sub_cancel' hie] at this
    exact this.congr hl fun id hid => by rw [hat_live (this.live hl hid)]
  · by_cases hA : ∃ c, e ≤ c ∧ c < i ∧ IsA ops B c ∧ readId ol tl = some (Z c).nx
    · obtain ⟨c, h1, h2, ha, h3⟩ := hA
      obtain ⟨cs, _, h4, h5⟩ := h.made ha
      have hz : (Z e).get (Z c).nx = .free := Classical.byContradiction fun hc => h.nf' hnf h1 (by omega) _ hc h4
      have h6 := (h.see hl (ol := ol) (tl := tl) (v := v) (i := c + 1) (i - (c + 1)) (by omega) (by rw [Nat.add_sub_cancel' h2]; exact fun c' h1' h2' => hq2 hie c' (by omega) (by omega)) fun c' h1' h2' id hid ha' e' => by
        rw [h3] at hid; injection hid with hid
        have := h.inj hnf ha' ha (by rw [e', hid])
        omega).2 (by rw [Nat.add_sub_cancel' h2]; exact hv)
      refine h6.congr hl fun id hid => ?_
      rw [h3] at hid; injection hid with hid; subst hid
      rw [hat_free hz, h.preX_eq hnf ha]
    · have := (h.see hl (ol := ol) (tl := tl) (v := v) (i := e) (i - e) (by omega) (by rw [Nat.add_sub_cancel' hie]; exact hq2 hie) fun c h1 h2 id hid ha e1 => hA ⟨c, h1, by omega, ha, by rw [hid, e1]⟩).2 (by rw [Nat.add_sub_cancel' hie]; exact hv)
      exact this.congr hl fun id hid => by rw [hat_live (this.live hl hid)]
/-- The store of the effects, where no effect lies between. -/
theorem Tr.hat_same (h : Tr P nt call ops t S T Z B R) (hnf : CallNf call) {e : Nat} : ∀ (k : Nat), e + k ≤ ops.size → (∀ c, e ≤ c → c < e + k → ∀ o, ops[c]? = some o → clsOf o = .E → B c = true → False) →
    ∀ id, (hatS ops Z B (e + k)).get id = (hatS ops Z B e).get id
  | 0, _, _, id => rfl
  | k + 1, hk, hq, id => by
    rw [← h.hat_same hnf k (by omega) (fun c h1 h2 => hq c h1 (by omega)) id]
    have hc : e + k < ops.size := by omega
    have hs : ops[e + k]? = some ops[e + k] := Array.getElem?_eq_getElem hc
    have hr := h.run (e + k) _ hs
    have same : Z (e + k + 1) = Z (e + k) → (hatS ops Z B (e + (k + 1))).get id = (hatS ops Z B (e + k)).get id := by
      intro e1
      show (hatS ops Z B (e + k + 1)).get id = _
      unfold hatS; rw [e1]
    cases hb : B (e + k) with
    | false => rw [hb] at hr; simp at hr; exact same hr.2
    | true =>
      rw [hb] at hr
      simp only [if_true] at hr
      cases hcl : clsOf ops[e + k] with
      | P => exact same (P_spec hcl hr).1
      | L => exact same (L_spec hcl hr).1
      | E => exact (hq (e + k) (by omega) (by omega) _ hs hcl hb).elim
      | A =>
        have ha : IsA ops B (e + k) := ⟨_, hs, hcl, hb⟩
        obtain ⟨cs, _, h1, h2⟩ := h.made ha
        by_cases hid : id = (Z (e + k)).nx
        · have h3 : (Z (e + k + 1)).get id = .cells cs 0 [] := by rw [h2, if_pos hid]
          show (hatS ops Z B (e + k + 1)).get id = _
          rw [hat_live (by rw [h3]; simp), hat_free (by rw [hid]; exact h1), hid, h.preX_eq hnf ha]
        · show (hatS ops Z B (e + k + 1)).get id = _
          unfold hatS
          simp only [h2, if_neg hid]
/-- And an effect. -/
theorem Tr.hat_ext (h : Tr P nt call ops t S T Z B R) (hnf : CallNf call) {i : Nat} {o : Oper} (hi : ops[i]? = some o) (hc : clsOf o = .E) : Ext (Z i) (Z (i + 1)) (hatS ops Z B i) := by
  refine ⟨rfl, fun id h1 => hat_live h1, fun id h1 h2 => ?_⟩
  rw [hat_free h1] at h2 ⊢
  obtain ⟨j, ha, e⟩ := preX_some h2
  subst e
  rw [h.preX_eq hnf ha] at h2 ⊢
  obtain ⟨cs, _, h3, h4⟩ := h.made ha
  refine ⟨by rw [h4, if_pos rfl]; rfl, ?_⟩
  have hj : j < ops.size := by obtain ⟨o, ho, _⟩ := ha; exact (Array.getElem?_eq_some_iff.1 ho).1
  have hne : j ≠ i := by
    intro e; subst e
    obtain ⟨o', ho', hc', _⟩ := ha
    rw [hi] at ho'; injection ho' with ho'; subst ho'; rw [hc] at hc'; cases hc'
  have hil : i < ops.size := (Array.getElem?_eq_some_iff.1 hi).1
  have hij : i < j := by
    refine Classical.byContradiction fun hc => ?_
    have := h.nf' hnf (i := j + 1) (j := i) (by omega) (by omega) (Z j).nx (by rw [h4, if_pos rfl]; simp)
    exact this h1
  exact Classical.byContradiction fun hc => h.nf' hnf (i := i + 1) (j := j) hij (by omega) _ hc h3
theorem Tr.hat_post (h : Tr P nt call ops t S T Z B R) (hnf : CallNf call) {i : Nat} {X' : St} (hi : i < ops.size) (hp : Post (Z (i + 1)) (hatS ops Z B i) X') : ∀ id, X'.get id = (hatS ops Z B (i + 1)).get id := by
  intro id
  by_cases hz : (Z (i + 1)).get id = .free
  · rw [hp.more id hz, hat_free hz]
    exact hat_free (Classical.byContradiction fun hc => h.nf1 hnf hi id hc hz)
  · rw [hp.same id hz, hat_live hz]
end
end Go.Vm

namespace Go.Vm
variable [Gl]
open Go.RowKit

section
variable {P : Program} {call : CallF} {nt : Nat} {ops : Array Oper} {t : Tm} {S S1 S2 : St} {T : Nat → Tm} {Z : Nat → St} {B : Nat → Bool} {R : Nat → V} {Γ Γ' Γ0 : Ctx} {w w' w0 : World} {ds : List Deferred}

theorem Mem.swap (h : Mem Γ S1 w) (hs : ∀ (id : Id) (b : Nat), Γ.φ id = some b → S2.get id = S1.get id) : Mem Γ S2 w where
  glb := h.glb
  fro := h.fro
  lt := h.lt
  alive id b hb := by rw [hs id b hb]; exact h.alive id b hb
  row id b l fz anc hb hq := h.row id b l fz anc hb (by rw [← hs id b hb]; exact hq)
  frz id b l fz anc hb hq := h.frz id b l fz anc hb (by rw [← hs id b hb]; exact hq)
  old id b l hb hq := h.old id b l hb (by rw [← hs id b hb]; exact hq)
  one id id' b h1 h2 h3 h4 := h.one id id' b h1 h2 (by rw [← hs id b h1]; exact h3) (by rw [← hs id' b h2]; exact h4)
  anc id b l fz anc id' l' h1 h2 h3 h4 := h.anc id b l fz anc id' l' h1 (by rw [← hs id b h1]; exact h2) h3 (by rw [← hs id' b h3]; exact h4)
  map id b l hb hq := h.map id b l hb (by rw [← hs id b hb]; exact hq)
  mst id id' b l l' h1 h2 h3 h4 := h.mst id id' b l l' h1 (by rw [← hs id b h1]; exact h2) h3 (by rw [← hs id' b h3]; exact h4)
theorem Step.swap (h : Step Γ S w Γ' S1 w') (hs : ∀ (id : Id) (b : Nat), Γ'.φ id = some b → S2.get id = S1.get id) (hp : ∀ (id : Id), Γ.φ id = none → (S.get id).live = true → S2.get id = S1.get id) : Step Γ S w Γ' S2 w' where
  le := h.le
  mem := h.mem.swap hs
  os := h.os
  tape := h.tape
  output := h.output
  size := h.size
  frame := h.frame
  pend id h1 h2 := by
    obtain ⟨e1, e2⟩ := h.pend id h1 h2
    exact ⟨by rw [hp id h1 h2]; exact e1, e2⟩
  own id b h1 h2 := by
    rcases h.own id b h1 h2 with ⟨e1, e2⟩ | e
    · exact .inl ⟨e1, fun h3 => e2 (by rw [← hs id b h1]; exact h3)⟩
    · exact .inr e
  mu := h.mu
  fz := h.fz

structure Inv (ds : List Deferred) (P : Program) (call : CallF) (nt : Nat) (ops : Array Oper) (t : Tm) (S : St) (T : Nat → Tm) (Z : Nat → St) (B : Nat → Bool) (R : Nat → V) (Γ0 : Ctx) (w0 : World) (L : Nat → Bool) (e : Nat) (Γ : Ctx) (a : Act) (w : World) : Prop where
  he : e ≤ ops.size
  hE : ∀ (c : Nat) (o : Oper), ops[c]? = some o → clsOf o = .E → B c = true → (L c = true ↔ c < e)
  st : Step Γ0 S w0 Γ (hatS ops Z B e) w
  un : ∀ (j : Nat), IsA ops B j → L j = false → Γ.φ (Z j).nx = none ∧ (hatS ops Z B e).get (Z j).nx = (Z (j + 1)).get (Z j).nx
  tm : TmRel ds Γ nt (tmL ops nt t R L) a
  down : Down ops L

variable {L L' : Nat → Bool} {e e' i : Nat} {o : Oper} {a a' : Act}
/-- The invariant behind an operation. -/
theorem Inv.next (h : Inv ds P call nt ops t S T Z B R Γ0 w0 L e Γ a w) (ho : OrdOK ops) (hi : ops[i]? = some o) (hL : ∀ j, L' j = (L j || j == i)) (hun : L i = false) (hr : ∀ j, Waits ops j i → L j = true)
    (he' : e' ≤ ops.size) (hE' : ∀ (c : Nat) (o : Oper), ops[c]? = some o → clsOf o = .E → B c = true → (L' c = true ↔ c < e'))
    (st : Step Γ0 S w0 Γ' (hatS ops Z B e') w')
    (un : ∀ (j : Nat), IsA ops B j → L j = false → j ≠ i → Γ'.φ (Z j).nx = none ∧ (hatS ops Z B e').get (Z j).nx = (hatS ops Z B e).get (Z j).nx)
    (tm : TmRel ds Γ' nt (putT nt (tmL ops nt t R L) o.dst (R i)) a') : Inv ds P call nt ops t S T Z B R Γ0 w0 L' e' Γ' a' w' := by
  refine ⟨he', hE', st, fun j ha hl => ?_, ?_, ?_⟩
  · rw [hL] at hl
    simp only [Bool.or_eq_false_iff, beq_eq_false_iff_ne] at hl
    obtain ⟨h1, h2⟩ := un j ha hl.1 hl.2
    exact ⟨h1, h2.trans (h.un j ha hl.1).2⟩
  · rw [tmL_put hi hL (tmL_last ho hi h.down hun)]; exact tm
  · intro j k hw hk
    rw [hL] at hk ⊢
    simp only [Bool.or_eq_true, beq_iff_eq] at hk ⊢
    rcases hk with hk | hk
    · exact .inl (h.down j k hw hk)
    · subst hk; exact .inl (hr j hw)
theorem Inv.quietE (h : Inv ds P call nt ops t S T Z B R Γ0 w0 L e Γ a w) (hi : ops[i]? = some o) (hL : ∀ j, L' j = (L j || j == i)) (hn : clsOf o = .E → B i = true → False) :
    ∀ (c : Nat) (o : Oper), ops[c]? = some o → clsOf o = .E → B c = true → (L' c = true ↔ c < e) := by
  intro c oc hc hcl hb
  have : c ≠ i := by
    intro e; subst e
    rw [hi] at hc; injection hc with hc; subst hc
    exact hn hcl hb
  rw [hL]
  have h2 : (c == i) = false := by simpa using this
  rw [h2, Bool.or_false]
  exact h.hE c oc hc hcl hb
theorem Inv.pendA (h : Inv ds P call nt ops t S T Z B R Γ0 w0 L e Γ a w) (htr : Tr P nt call ops t S T Z B R) {j : Nat} (ha : IsA ops B j) (hl : L j = false) : Γ.φ (Z j).nx = none ∧ ((hatS ops Z B e).get (Z j).nx).live = true := by
  obtain ⟨h1, h2⟩ := h.un j ha hl
  obtain ⟨cs, _, _, h3⟩ := htr.made ha
  exact ⟨h1, by rw [h2, h3, if_pos rfl]; rfl⟩

/-- One operation that is ready. -/
theorem Inv.op (h : Inv ds P call nt ops t S T Z B R Γ0 w0 L e Γ a w) (ho : OrdOK ops) (htr : Tr P nt call ops t S T Z B R) (hdy : DynOK P call ops T Z B) (hcall : CallOK P call) (hnf : CallNf call) (hmo : CallMono call)
    (hi : ops[i]? = some o) (hL : ∀ j, L' j = (L j || j == i)) (hun : L i = false) (hr : ∀ j, Waits ops j i → L j = true) {rn : Option Nat} {Q : Exit → Act → World → Prop} {K : Act → World → Prop}
    (hK : ∀ e' Γ' a' w', Inv ds P call nt ops t S T Z B R Γ0 w0 L' e' Γ' a' w' → K a' w') : wpOpIn (Wr rn) 0 P ops Q i K a w := by
  have hil : i < ops.size := (Array.getElem?_eq_some_iff.1 hi).1
  have hsee : ∀ d ∈ o.looksAt ops, tmL ops nt t R L d = T i d := by
    rw [htr.tm i (by omega)]
    exact tmL_sees ho hi h.down hr hun
  have hw : wanted ops o (tmL ops nt t R L) = some (B i) := by rw [wanted_congr hsee]; exact htr.want i o hi
  have hww := wanted_rel (ops := ops) h.tm hw
  unfold wpOpIn
  rw [hi]
  simp only [hww]
  have hrun := htr.run i o hi
  cases hb : B i with
  | false =>
    rw [hb] at hrun
    simp only [Bool.false_eq_true, if_false] at hrun ⊢
    refine ⟨fun _ _ => trivial, ?_⟩
    refine hK e Γ _ w (h.next ho hi hL hun hr h.he (h.quietE hi hL fun _ hc => by rw [hb] at hc; cases hc) h.st (fun j ha hl _ => ⟨(h.un j ha hl).1, rfl⟩) ?_)
    rw [hrun.1]
    exact h.tm.put _ (.tup _ _ .nil)
  | true =>
    rw [hb] at hrun
    simp only [if_true] at hrun ⊢
    cases hcl : clsOf o with
    | P =>
      obtain ⟨_, hsp⟩ := P_spec hcl hrun
      have hev : evOp P call o (tmL ops nt t R L) (hatS ops Z B e) = some (R i, hatS ops Z B e) := by rw [evOp_look hsee]; exact hsp _
      refine op_sound hcall hev h.st.mem h.tm.rel fun Γ' u w' hst hrel => ?_
      refine hK e Γ' _ w' (h.next ho hi hL hun hr h.he (h.quietE hi hL fun hc => by rw [hcl] at hc; cases hc) (h.st.trans hst) (fun j ha hl _ => ?_) ((h.tm.mono hst.le).put _ hrel))
      obtain ⟨h1, h2⟩ := h.pendA htr ha hl
      exact ⟨(hst.pend _ h1 h2).2, rfl⟩
    | L =>
      have hi1 : Z (i + 1) = Z i := (L_spec hcl hrun).1
      have hsee1 : Sees P call o (T i) (R i) (Z i) := by unfold Sees; rw [hrun, hi1]
      have hev : evOp P call o (tmL ops nt t R L) (hatS ops Z B e) = some (R i, hatS ops Z B e) := by
        rw [evOp_look hsee]
        refine htr.sees hnf hcl (by omega) h.he hsee1 (fun hle c h1 h2 oc hoc hce hbc => ?_) (fun hle c h1 h2 oc hoc hce hbc => ?_)
        · have hlc : L c = true := (h.hE c oc hoc hce hbc).2 h2
          refine hdy.look i c o oc hi hoc hcl hce hb hbc (fun hbef => ?_) (fun hbef => ?_) (R i)
          · rw [h.down.bef hbef hlc] at hun; cases hun
          · have := ho.lt hbef; omega
        · have hlc : L c = false := by
            cases hq : L c with
            | false => rfl
            | true => have := (h.hE c oc hoc hce hbc).1 hq; omega
          refine hdy.look i c o oc hi hoc hcl hce hb hbc (fun hbef => ?_) (fun hbef => ?_) (R i)
          · have := ho.lt hbef; omega
          · rw [h.down.ready hr hbef] at hlc; cases hlc
      refine op_sound hcall hev h.st.mem h.tm.rel fun Γ' u w' hst hrel => ?_
      refine hK e Γ' _ w' (h.next ho hi hL hun hr h.he (h.quietE hi hL fun hc => by rw [hcl] at hc; cases hc) (h.st.trans hst) (fun j ha hl _ => ?_) ((h.tm.mono hst.le).put _ hrel))
      obtain ⟨h1, h2⟩ := h.pendA htr ha hl
      exact ⟨(hst.pend _ h1 h2).2, rfl⟩
    | A =>
      have ha : IsA ops B i := ⟨o, hi, hcl, hb⟩
      have hev : evOp P call o (tmL ops nt t R L) (Z i) = some (R i, Z (i + 1)) := by rw [evOp_look hsee]; exact hrun
      obtain ⟨cs, av, i', hn, hv, har⟩ := A_spec hcl hev
      obtain ⟨cs', hn', hfree, hget⟩ := htr.made ha
      have hnx : i' = (Z i).nx ∧ ∃ n, (Z i).nx.next = some n := by
        unfold St.new at hn
        split at hn
        · split at hn
          · rename_i n hn2
            injection hn with hn; injection hn with e1 _; exact ⟨e1.symm, n, hn2⟩
          · cases hn
        · cases hn
      obtain ⟨e1, n, hnext⟩ := hnx
      subst e1
      obtain ⟨h1, h2⟩ := h.un i ha hun
      have hcell : (hatS ops Z B e).get (Z i).nx = .cells cs 0 [] := by
        rw [h2]
        obtain ⟨_, h3⟩ := St.new_eq hn
        rw [h3, if_pos rfl]
      let M : St := { get := fun id => if id = (Z i).nx then .free else (hatS ops Z B e).get id, nx := (Z i).nx }
      have hM : M.new (.cells cs 0 []) = some ((Z i).nx, { get := fun j => if j = (Z i).nx then .cells cs 0 [] else M.get j, nx := n }) := by
        unfold St.new
        simp only [M, if_true, hnext]
      have hSf : S.get (Z i).nx = .free := by
        refine Classical.byContradiction fun hc => ?_
        have := htr.nf' hnf (i := 0) (j := i) (by omega) (by omega) (Z i).nx (by rw [htr.z0]; exact hc)
        exact this hfree
      have hstM : Step Γ0 S w0 Γ M w := by
        refine h.st.swap (fun id b hb => ?_) (fun id _ hl => ?_)
        · have : id ≠ (Z i).nx := fun e => by rw [e, h1] at hb; cases hb
          simp only [M, if_neg this]
        · have : id ≠ (Z i).nx := fun e => by rw [e, hSf] at hl; cases hl
          simp only [M, if_neg this]
      obtain ⟨Γ', w', u, hex, hst, hrel⟩ := (har Γ w a h.tm.rel).comes hstM.mem hM
      have hback : ∀ id, (hatS ops Z B e).get id = (if id = (Z i).nx then .cells cs 0 [] else M.get id) := by
        intro id
        by_cases hid : id = (Z i).nx
        · rw [if_pos hid, hid, hcell]
        · rw [if_neg hid]; simp only [M, if_neg hid]
      refine wp_value (fun c hc => by simp only [clsOf, hc] at hcl; cases hcl) hex (hK e Γ' _ w' (h.next ho hi hL hun hr h.he (h.quietE hi hL fun hc => by rw [hcl] at hc; cases hc) ((hstM.trans hst).swap (fun id _ _ => hback id) (fun id _ _ => hback id)) (fun j hj hl hne => ?_) ((h.tm.mono hst.le).put _ (hv ▸ hrel))))
      obtain ⟨h3, h4⟩ := h.pendA htr hj hl
      have hid : (Z j).nx ≠ (Z i).nx := fun e => hne (htr.inj hnf hj ha e)
      exact ⟨(hst.pend _ h3 (by simp only [M, if_neg hid]; exact h4)).2, rfl⟩
    | E =>
      -- all effects before it have been, none behind it
      have hei : e ≤ i := by
        refine Nat.le_of_not_lt fun hc => ?_
        rw [(h.hE i o hi hcl hb).2 hc] at hun; cases hun
      have hnone : ∀ c, e ≤ c → c < e + (i - e) → ∀ o, ops[c]? = some o → clsOf o = .E → B c = true → False := by
        intro c h1 h2 oc hoc hce hbc
        have := h.down.ready hr (hdy.eff c i oc o hoc hi (by omega) hce hcl hbc hb)
        have := (h.hE c oc hoc hce hbc).1 this
        omega
      have hsame := htr.hat_same hnf (e := e) (i - e) (by omega) hnone
      rw [Nat.add_sub_cancel' hei] at hsame
      have hev : evOp P call o (tmL ops nt t R L) (Z i) = some (R i, Z (i + 1)) := by rw [evOp_look hsee]; exact hrun
      obtain ⟨X', hX, hpost⟩ := evOp_mono hmo hev (htr.hat_ext hnf hi hcl)
      have hst0 : Step Γ0 S w0 Γ (hatS ops Z B i) w := h.st.swap (fun id _ _ => hsame id) (fun id _ _ => hsame id)
      refine op_sound hcall hX hst0.mem h.tm.rel fun Γ' u w' hst hrel => ?_
      have hXe := htr.hat_post hnf hil hpost
      refine hK (i + 1) Γ' _ w' (h.next ho hi hL hun hr (by omega) (fun c oc hoc hce hbc => ?_) ((hst0.trans hst).swap (fun id _ _ => (hXe id).symm) (fun id _ _ => (hXe id).symm)) (fun j hj hl _ => ?_) ((h.tm.mono hst.le).put _ hrel))
      · rw [hL]
        rcases Nat.lt_trichotomy c i with hl | hl | hl
        · have := h.down.ready hr (hdy.eff c i oc o hoc hi hl hce hcl hbc hb)
          simp [this]; omega
        · subst hl; simp
        · have hbef := hdy.eff i c o oc hi hoc hl hcl hce hb hbc
          have hlc : L c = false := by
            cases hq : L c with
            | false => rfl
            | true => rw [h.down.bef hbef hq] at hun; cases hun
          simp [hlc]; omega
      · obtain ⟨h1, h2⟩ := h.pendA htr hj hl
        rw [← hsame] at h2
        obtain ⟨h3, h4⟩ := hst.pend _ h1 h2
        refine ⟨h4, ?_⟩
        rw [← hXe, h3, hsame]

theorem Inv.all (h : Inv ds P call nt ops t S T Z B R Γ0 w0 L e Γ a w) (htr : Tr P nt call ops t S T Z B R) (hnf : CallNf call) (hall : ∀ j < ops.size, L j = true) : Step Γ0 S w0 Γ (Z ops.size) w ∧ TmRel ds Γ nt (T ops.size) a := by
  have hsame := htr.hat_same hnf (e := e) (ops.size - e) (by have := h.he; omega) fun c h1 h2 o hc hcl hb => by
    have := (h.hE c o hc hcl hb).1 (hall c (by have := h.he; omega))
    omega
  rw [Nat.add_sub_cancel' h.he] at hsame
  have hZ : ∀ id, (Z ops.size).get id = (hatS ops Z B e).get id := by
    intro id
    rw [← hsame]
    by_cases hz : (Z ops.size).get id = .free
    · rw [hat_free hz]
      refine hz.trans (Eq.symm (Classical.byContradiction fun hc => ?_))
      obtain ⟨j, ha, e⟩ := preX_some hc
      obtain ⟨cs, _, _, h3⟩ := htr.made ha
      have hj : j < ops.size := by obtain ⟨o, ho, _⟩ := ha; exact (Array.getElem?_eq_some_iff.1 ho).1
      have := htr.nf' hnf (i := j + 1) (j := ops.size) hj (Nat.le_refl _) id (by rw [h3, if_pos e.symm]; simp)
      exact this hz
    · rw [hat_live hz]
  refine ⟨h.st.swap (fun id _ _ => hZ id) (fun id _ _ => hZ id), ?_⟩
  have : T ops.size = tmL ops nt t R L := by
    rw [htr.tm _ (Nat.le_refl _)]
    funext x
    exact tmL_congr fun j hj _ => by rw [hall j hj]; simp [hj]
  rw [this]; exact h.tm

theorem wpAny_inv (ho : OrdOK ops) (htr : Tr P nt call ops t S T Z B R) (hdy : DynOK P call ops T Z B) (hcall : CallOK P call) (hnf : CallNf call) (hmo : CallMono call) {rn : Option Nat} {Q : Exit → Act → World → Prop}
    (hQ : ∀ Γ' a' w', Step Γ0 S w0 Γ' (Z ops.size) w' → TmRel ds Γ' nt (T ops.size) a' → Q .normal a' w') : ∀ (fuel : Nat) (listed : Array Bool) {e : Nat} {Γ : Ctx} {a : Act} {w : World}, listed.size = ops.size →
    Inv ds P call nt ops t S T Z B R Γ0 w0 (fun j => listed.getD j false) e Γ a w → unl (fun j => listed.getD j false) ops.size ≤ fuel → wpAnyIn (Wr rn) 0 P .any ops Q fuel listed a w := by
  have hsome : ∀ (listed : Array Bool) (j : Nat), listed.size = ops.size → j < ops.size → listed.getD j true = listed.getD j false := by
    intro listed j h1 h2
    simp [Array.getD, h1, h2]
  have hdone : ∀ (listed : Array Bool) {e : Nat} {Γ : Ctx} {a : Act} {w : World}, listed.size = ops.size → Inv ds P call nt ops t S T Z B R Γ0 w0 (fun j => listed.getD j false) e Γ a w → Region.ready .any ops listed = [] → Q .normal a w := by
    intro listed e Γ a w hsz hinv hready
    have hall : ∀ j < ops.size, listed.getD j false = true := by
      intro j
      induction j using Nat.strongRecOn with
      | _ j ih =>
        intro hj
        refine Classical.byContradiction fun hc => ?_
        have hmem : j ∈ Region.ready .any ops listed := by
          refine mem_ready.2 ⟨by rw [hsome listed j hsz hj]; simpa using hc, ops[j], Array.getElem?_eq_getElem hj, fun ed hed hb => ?_⟩
          have hlt := ho.back ed.on j ⟨ops[j], Array.getElem?_eq_getElem hj, ed, hed, hb, rfl⟩
          exact ih ed.on hlt (by omega)
        rw [hready] at hmem; cases hmem
    obtain ⟨h1, h2⟩ := hinv.all htr hnf hall
    exact hQ Γ a w h1 h2
  intro fuel
  induction fuel with
  | zero =>
    intro listed e Γ a w hsz hinv hf
    have hall := unl_zero ops.size (by omega : unl (fun j => listed.getD j false) ops.size = 0)
    have hready : Region.ready .any ops listed = [] := by
      cases hq : Region.ready .any ops listed with
      | nil => rfl
      | cons j r =>
        have hm : j ∈ Region.ready .any ops listed := by rw [hq]; simp
        obtain ⟨h1, o, h2, _⟩ := mem_ready.1 hm
        have hj := (Array.getElem?_eq_some_iff.1 h2).1
        have h4 : listed.getD j false = true := hall j hj
        rw [hsome listed j hsz hj, h4] at h1; cases h1
    exact ⟨hready, hdone listed hsz hinv hready⟩
  | succ fuel ih =>
    intro listed e Γ a w hsz hinv hf
    refine ⟨hdone listed hsz hinv, fun i hi => ?_⟩
    obtain ⟨h1, o, h2, h3⟩ := mem_ready.1 hi
    have hil := (Array.getElem?_eq_some_iff.1 h2).1
    rw [hsome listed i hsz hil] at h1
    have hL : ∀ j, (listed.setIfInBounds i true).getD j false = (listed.getD j false || j == i) := by
      intro j
      by_cases e : j = i
      · subst e; simp [hsz, hil]
      · have hb : (j == i) = false := by simpa using e
        rw [getD_set_ne false (Ne.symm e), hb, Bool.or_false]
    refine hinv.op ho htr hdy hcall hnf hmo h2 hL h1 (fun j hw => ?_) fun e' Γ' a' w' hinv' => ih _ (by simpa using hsz) hinv' ?_
    · obtain ⟨o', ho', ed, hed, hb, heq⟩ := hw
      rw [h2] at ho'; injection ho' with ho'; subst ho'
      rw [← heq]; exact h3 ed hed hb
    · have := unl_put hL h1 ops.size hil
      omega

variable (P) in
/-- Drawn regions whose order has no effect. -/
def drawOK (call : CallF) (nt : Nat) (ops : Array Oper) (t : Tm) (S : St) : Prop :=
  OrdOK ops ∧ ∃ (T : Nat → Tm) (Z : Nat → St) (B : Nat → Bool) (R : Nat → V), Tr P nt call ops t S T Z B R ∧ DynOK P call ops T Z B

theorem Tr.ends (h : Tr P nt call ops t S T Z B R) : evOps P nt call ops ops.toList t S = some (T ops.size, Z ops.size) := by
  have key : ∀ (l : List Oper) (k : Nat), (∀ j, l[j]? = ops[k + j]?) → k + l.length = ops.size → evOps P nt call ops l (T k) (Z k) = some (T ops.size, Z ops.size) := by
    intro l
    induction l with
    | nil => intro k _ hk; simp at hk; subst hk; rfl
    | cons o r ih =>
      intro k hl hk
      have hi : ops[k]? = some o := by rw [← Nat.add_zero k, ← hl 0]; rfl
      have hr := ih (k + 1) (fun j => by
        have := hl (j + 1)
        simp only [List.getElem?_cons_succ] at this
        rw [this]; congr 1; omega) (by simp at hk; omega)
      have h1 := h.want k o hi
      have h2 := h.run k o hi
      have h3 := h.put k o hi
      unfold evOps
      rw [h1]
      cases hb : B k with
      | true =>
        rw [hb] at h2
        simp only [if_true] at h2
        simp only [h2, ← h3]; exact hr
      | false =>
        rw [hb] at h2
        simp only [Bool.false_eq_true, if_false] at h2
        obtain ⟨r1, r2⟩ := h2
        rw [r1] at h3
        rw [r2, h3] at hr
        exact hr
  have := key ops.toList 0 (fun j => by simp) (by simp)
  rwa [h.t0, h.z0] at this
theorem hat_zero (h : Tr P nt call ops t S T Z B R) {id : Id} (hs : S.get id ≠ .free) : (hatS ops Z B 0).get id = S.get id := by
  have := hat_live (ops := ops) (B := B) (Z := Z) (e := 0) (id := id) (by rw [h.z0]; exact hs)
  rw [this, h.z0]
theorem drawSound (hmix : P.follows .mixedOrders = true) : DrawSound P (drawOK P) := by
  intro call hcall hnf hmo nt ds ops Γ t t' S S' a w rn Q hok hev hm ht hQ
  obtain ⟨ho, T, Z, B, R, htr, hdy⟩ := hok
  have hends := htr.ends
  rw [hev] at hends
  injection hends with hends; injection hends with e1 e2
  have hw : Step Γ S w Γ S { w with drawn := w.drawn + 1 } := .of_heap hm rfl rfl rfl rfl
  refine wpAny_inv (Γ0 := Γ) (w0 := w) ho htr hdy hcall hnf hmo (fun Γ' a' w' h1 h2 => hQ Γ' a' w' (e2 ▸ h1) (e1 ▸ h2)) ops.size (Array.replicate ops.size false) (e := 0) (Γ := Γ) (by simp) ?_ ?_
  · have hL : ∀ j, (Array.replicate ops.size false).getD j false = false := by
      intro j
      simp only [Array.getD]
      split <;> simp
    refine ⟨Nat.zero_le _, fun c o _ _ _ => by simp only [hL]; simp, ?_, fun j ha _ => ?_, ?_, fun j i _ hl => by simp only [hL] at hl; cases hl⟩
    · refine hw.swap (fun i b hb => hat_zero htr (hm.alive i b hb)) (fun i _ hl => hat_zero htr fun e => by rw [e] at hl; cases hl)
    · obtain ⟨cs, _, h1, h2⟩ := htr.made ha
      have hj : j < ops.size := by obtain ⟨o, ho, _⟩ := ha; exact (Array.getElem?_eq_some_iff.1 ho).1
      have hSf : S.get (Z j).nx = .free := by
        refine Classical.byContradiction fun hc => ?_
        exact htr.nf' hnf (i := 0) (j := j) (by omega) (by omega) (Z j).nx (by rw [htr.z0]; exact hc) h1
      refine ⟨?_, ?_⟩
      · cases hq : Γ.φ (Z j).nx with
        | none => rfl
        | some b => exact absurd hSf (hm.alive _ b hq)
      · rw [hat_free (by rw [htr.z0]; exact hSf), htr.preX_eq hnf ha]
    · have : tmL ops nt t R (fun j => (Array.replicate ops.size false).getD j false) = t := by
        have h0 := htr.tm 0 (Nat.zero_le _)
        rw [htr.t0] at h0
        refine Eq.trans ?_ h0.symm
        funext x
        refine tmL_congr fun j _ _ => by simp only [hL]; simp
      rw [this]; exact ht
  · have : ∀ n, unl (fun j => (Array.replicate ops.size false).getD j false) n ≤ n := by
      intro n
      induction n with
      | zero => exact Nat.le_refl _
      | succ n ih => simp only [unl]; split <;> omega
    exact this _
end
end Go.Vm

namespace Go.Vm
variable [Gl]
open Go.RowKit

section
variable {P : Program} {call : CallF} {nt : Nat} {ops : Array Oper} {t : Tm} {S X : St} {T T' : Nat → Tm} {Z Z' : Nat → St} {B B' : Nat → Bool} {R R' : Nat → V}

theorem Tr.mono (h : Tr P nt call ops t S T Z B R) (k : Tr P nt call ops t X T' Z' B' R') (hmo : CallMono call) (hnf : CallNf call) (hx : Ext S (Z ops.size) X) :
    ∀ (i : Nat), i ≤ ops.size → T' i = T i ∧ Post (Z i) X (Z' i) ∧ Ext (Z i) (Z ops.size) (Z' i)
  | 0, _ => by
    rw [h.t0, k.t0, h.z0, k.z0]
    exact ⟨rfl, ⟨hx.nx, hx.same, fun _ _ => rfl⟩, hx⟩
  | i + 1, hi => by
    obtain ⟨e1, p, x⟩ := h.mono k hmo hnf hx i (by omega)
    have hs : ops[i]? = some ops[i] := Array.getElem?_eq_getElem (by omega)
    have hb : B' i = B i := by
      have h1 := h.want i _ hs
      have h2 := k.want i _ hs
      rw [e1, h1] at h2; injection h2 with h2; exact h2.symm
    have h1 := h.run i _ hs
    have h2 := k.run i _ hs
    have n1 : Nf (Z i) (Z (i + 1)) := h.nf1 hnf (by omega)
    have n2 : Nf (Z (i + 1)) (Z ops.size) := h.nf' hnf hi (Nat.le_refl _)
    rw [k.put i _ hs, h.put i _ hs, e1]
    rw [hb, e1] at h2
    cases hq : B i with
    | false =>
      rw [hq] at h1 h2
      simp only [Bool.false_eq_true, if_false] at h1 h2
      rw [h1.1, h1.2, h2.1, h2.2]
      exact ⟨rfl, p, x⟩
    | true =>
      rw [hq] at h1 h2
      simp only [if_true] at h1 h2
      obtain ⟨X1, q1, q2⟩ := evOp_mono hmo h1 (x.first n2)
      rw [q1] at h2; injection h2 with h2; injection h2 with h3 h4
      rw [← h3, ← h4]
      refine ⟨rfl, p.trans q2 n1, x.second n1 q2⟩
theorem drawMono : OkMono P (drawOK P) := by
  intro call hmo hnf nt ops t t' S S' X hok hev hx
  obtain ⟨ho, T, Z, B, R, htr, hdy⟩ := hok
  have hends := htr.ends
  rw [hev] at hends
  injection hends with hends; injection hends with e1 e2
  obtain ⟨X', hX, _⟩ := evOps_mono hmo hnf _ hev hx
  obtain ⟨T', Z', B', R', htr', _, _⟩ := tr_exists hX
  have hm := htr.mono htr' hmo hnf (e2 ▸ hx)
  refine ⟨ho, T', Z', B', R', htr', ?_⟩
  have hB : ∀ (i : Nat) (o : Oper), ops[i]? = some o → B' i = B i := by
    intro i o hi
    have hil := (Array.getElem?_eq_some_iff.1 hi).1
    have h1 := htr.want i o hi
    have h2 := htr'.want i o hi
    rw [(hm i (by omega)).1, h1] at h2; injection h2 with h2; exact h2.symm
  refine ⟨fun i j oi oj hi hj hlt c1 c2 b1 b2 => ?_, fun i c oi oc hi hc c1 c2 b1 b2 n1 n2 v => ?_⟩
  · rw [hB i oi hi] at b1; rw [hB j oj hj] at b2
    exact hdy.eff i j oi oj hi hj hlt c1 c2 b1 b2
  · rw [hB i oi hi] at b1; rw [hB c oc hc] at b2
    have hil := (Array.getElem?_eq_some_iff.1 hi).1
    have hcl := (Array.getElem?_eq_some_iff.1 hc).1
    rw [(hm i (by omega)).1]
    have hl := hdy.look i c oi oc hi hc c1 c2 b1 b2 n1 n2 v
    obtain ⟨_, p1, x1⟩ := hm c (by omega)
    obtain ⟨_, p2, x2⟩ := hm (c + 1) (by omega)
    cases hid : readId oi (T i) with
    | none =>
      have go : ∀ (S1 S2 : St), evOp P call oi (T i) S1 = some (v, S1) → evOp P call oi (T i) S2 = some (v, S2) := fun S1 S2 h1 =>
        (L_spec c1 h1).2 S2 fun id hq => by rw [hid] at hq; cases hq
      exact ⟨go _ _, go _ _⟩
    | some id =>
      have go : ∀ (S1 S2 : St), (S2.get id).look = (S1.get id).look → evOp P call oi (T i) S1 = some (v, S1) → evOp P call oi (T i) S2 = some (v, S2) := fun S1 S2 he h1 =>
        (L_spec c1 h1).2 S2 fun id' hq => by rw [hid] at hq; injection hq with hq; subst hq; exact he
      by_cases hz : (Z c).get id = .free
      · by_cases hz2 : (Z (c + 1)).get id = .free
        · have e : (Z' (c + 1)).get id = (Z' c).get id := by rw [p1.more id hz, p2.more id hz2]
          exact ⟨go _ _ (by rw [e]), go _ _ (by rw [e])⟩
        · have hx : X.get id = .free := by
            refine Classical.byContradiction fun hc => ?_
            have := (x1.more id hz (by rw [p1.more id hz]; exact hc)).2
            exact htr.nf' hnf (i := c + 1) (j := ops.size) hcl (Nat.le_refl _) id hz2 this
          have e1 : (Z' c).get id = .free := by rw [p1.more id hz, hx]
          refine ⟨fun h1 => absurd (by rw [e1]; rfl) (readId_look c1 h1 hid), fun h1 => ?_⟩
          have h2 := go _ (Z (c + 1)) (by rw [p2.same id hz2]) h1
          exact absurd (by rw [hz]; rfl) (readId_look c1 (hl.2 h2) hid)
      · have hz2 : (Z (c + 1)).get id ≠ .free := htr.nf1 hnf hcl id hz
        have e1 := p1.same id hz
        have e2 := p2.same id hz2
        exact ⟨fun h1 => go _ _ (by rw [e2]) (hl.1 (go _ _ (by rw [e1]) h1)), fun h1 => go _ _ (by rw [e1]) (hl.2 (go _ _ (by rw [e2]) h1))⟩
end

/-- Known answers that may be relied on. -/
structure BaseOK (P : Program) (base : AskF) : Prop where
  ok : CallOK P (ansOf base)
  nf : CallNf (ansOf base)
  mono : AskMono base
  same : AskSame base
theorem calls_ok {P : Program} (hmix : P.follows .mixedOrders = true) {base : AskF} (hb : BaseOK P base) (n : Nat) : CallOK P (callN P base (drawOK P) n) :=
  callN_sound hmix hb.ok hb.nf hb.mono hb.same (drawSound hmix) drawMono n
def noBase : AskF := fun _ _ _ => none
theorem noBase_ok (P : Program) : BaseOK P noBase :=
  ⟨fun _ _ _ _ _ h => by simp [ansOf, noBase] at h, fun _ _ _ _ _ h => by simp [ansOf, noBase] at h, fun _ _ _ _ _ h => by simp [noBase] at h, fun _ _ _ _ _ _ _ => rfl⟩
end Go.Vm

/-! Calls whose answers are known: they are asked for by values without objects. -/
namespace Go.Vm
variable [Gl]
open Go.RowKit

def frzL (F : V → Option V) : List V → Option (List V)
  | [] => some []
  | v :: r => match F v, frzL F r with
    | some a, some b => some (a :: b)
    | _, _ => none
/-- The elements of a row. -/
def frzE (F : V → Option V) (es : Nat) : Nat → List V → Option (List V)
  | 0, _ => some []
  | n + 1, l => if es ≤ l.length then match frzL F (l.take es), frzE F es n (l.drop es) with
      | some c, some r => some (.agg c :: r)
      | _, _ => none
    else none
def frzI (F : V → Option V) : List V → Option (List V)
  | [] => some []
  | v :: r => match frzL F v.cells, frzI F r with
    | some c, some r => some (.agg c :: r)
    | _, _ => none
/-- No objects within. -/
noncomputable def clo (v : V) : Bool :=
  @V.rec (fun _ => Bool) (fun _ => Bool) false (fun _ => true) (fun _ _ => true) (fun _ => true) true (fun _ _ => false) (fun _ ih => ih) true (fun _ _ ih => ih) (fun _ _ _ _ => false) (fun _ _ _ i j => @Bool.rec (fun _ => Bool) false j i) true (fun _ ih => ih) (fun _ ih => ih) true (fun _ => false) (fun _ => false) true (fun _ _ i j => @Bool.rec (fun _ => Bool) false j i) v
noncomputable def cloL (l : List V) : Bool :=
  @V.rec_1 (fun _ => Bool) (fun _ => Bool) false (fun _ => true) (fun _ _ => true) (fun _ => true) true (fun _ _ => false) (fun _ ih => ih) true (fun _ _ ih => ih) (fun _ _ _ _ => false) (fun _ _ _ i j => @Bool.rec (fun _ => Bool) false j i) true (fun _ ih => ih) (fun _ ih => ih) true (fun _ => false) (fun _ => false) true (fun _ _ i j => @Bool.rec (fun _ => Bool) false j i) l
theorem cloL_cons {v : V} {l : List V} : cloL (v :: l) = (clo v && cloL l) := by
  show @Bool.rec (fun _ => Bool) false (cloL l) (clo v) = _
  cases clo v <;> rfl
theorem clo_fn {f : FuncId} {a c : List V} : clo (.fn f a c) = (cloL a && cloL c) := by
  show @Bool.rec (fun _ => Bool) false (cloL c) (cloL a) = _
  cases cloL a <;> rfl
theorem cloL_mem {l : List V} (h : cloL l = true) : ∀ v ∈ l, clo v = true := by
  induction l with
  | nil => intro v hv; simp at hv
  | cons x r ih =>
    rw [cloL_cons, Bool.and_eq_true] at h
    intro v hv
    rcases List.mem_cons.1 hv with e | e
    · rw [e]; exact h.1
    · exact ih h.2 v e
theorem cloL_of {l : List V} (h : ∀ v ∈ l, clo v = true) : cloL l = true := by
  induction l with
  | nil => rfl
  | cons x r ih => rw [cloL_cons, h x (by simp), ih fun v hv => h v (by simp [hv])]; rfl
theorem clo_cells {v : V} (h : clo v = true) : cloL v.cells = true := by
  cases v <;> first | exact h | (cases h; done) | (show cloL [_] = true; rw [cloL_cons, h]; rfl)
def frzB (nw : Bool) (g : Id → Ob) (F : V → Option V) (v : V) : Option V := match v with
    | .bool b => some (.bool b)
    | .int k i => some (.int k i)
    | .str s => some (.str s)
    | .nilp => some .nilp
    | .nils => some .nils
    | .nilf => some .nilf
    | .nilm => some .nilm
    | .ptr id off => match g id with
      | .cells l _ _ => match frzL F (l.drop off) with
        | some c => some (.ipt c)
        | none => none
      | _ => none
    | .ref es id off len => match g id with
      | .cells l _ _ => match frzE F es len (l.drop off) with
        | some c => some (.imm es c)
        | none => none
      | .stale l => match frzE F es len (l.drop off) with
        | some c => some (.imm es c)
        | none => none
      | _ => none
    | .ipt c => match nw, frzL F c with
      | false, some c => some (.ipt c)
      | _, _ => none
    | .imm es l => match nw, frzI F l with
      | false, some l => some (.imm es l)
      | _, _ => none
    | .fn f a c => match frzL F a, frzL F c with
      | some a, some c => some (.fn f a c)
      | _, _ => none
    | .agg c => match frzL F c with
      | some c => some (.agg c)
      | none => none
    | .tup c => match frzL F c with
      | some c => some (.tup c)
      | none => none
    | _ => none
/-- A value without objects that reads as this one does now; nw: it may hold nothing that is not the store's. -/
noncomputable def frz (nw : Bool) (g : Id → Ob) : Nat → V → Option V
  | 0, _ => none
  | n + 1, v => match nw, clo v with
    | false, true => some v
    | _, _ => frzB nw g (frz nw g n) v
theorem frz_clo {g : Id → Ob} {n : Nat} {v : V} (h : clo v = true) : frz false g (n + 1) v = some v := by
  simp only [frz, h]
theorem frz_ne {nw : Bool} {g : Id → Ob} {n : Nat} {v : V} (h : ¬ (nw = false ∧ clo v = true)) : frz nw g (n + 1) v = frzB nw g (frz nw g n) v := by
  cases nw with
  | true => rfl
  | false =>
    cases hc : clo v with
    | true => exact absurd ⟨rfl, hc⟩ h
    | false => simp only [frz, hc]
theorem frz_eq {nw : Bool} {g : Id → Ob} {n : Nat} {v v' : V} (h : frz nw g (n + 1) v = some v') : (nw = false ∧ clo v = true ∧ v' = v) ∨ (¬ (nw = false ∧ clo v = true) ∧ frzB nw g (frz nw g n) v = some v') := by
  by_cases hc : nw = false ∧ clo v = true
  · obtain ⟨e, hc⟩ := hc
    subst e
    rw [frz_clo hc] at h; injection h with h; exact .inl ⟨rfl, hc, h.symm⟩
  · rw [frz_ne hc] at h; exact .inr ⟨hc, h⟩
noncomputable def frzAll (g : Id → Ob) : List V → Option (List V) := frzL (frz false g 40)

/-- All that lies in memory, never to be written. -/
def Ctx.still (w : World) (Γ : Ctx) : Ctx := { φ := fun _ => none, bs := Γ.bs, es := Γ.es, μ := fun b o => w.cell? ⟨b, o, none⟩ }
def st0 : St := ⟨fun _ => .free, ⟨.q0, .q0, .q0, .q0, .q0, .q0, .q0, .q0, 0⟩⟩
section
variable {Γ Γt : Ctx} {S : St} {w : World} {F : V → Option V} {B : Nat → Nat → Prop} (hT : ∀ (b o : Nat) (u : Value), B b o → w.cell? ⟨b, o, none⟩ = some u → Γt.μ b o = some u)
include hT
theorem relM_still : ∀ {cs : List V} {us : List Value} {b off : Nat}, (∀ j, j < us.length → B b (off + j)) → RelL Γt cs us → (∀ (j : Nat) (x : Value), us[j]? = some x → w.cell? ⟨b, off + j, none⟩ = some x) → (∀ x ∈ us, Value.oneCell' x = true) → RelM Γt cs b off
  | [], us, b, off, _, _, _, _ => .nil b off
  | v :: vs, us, b, off, hb, h, hc, ho => by
    cases h with
    | cons _ u _ us' hu hs =>
      refine .cons v u vs b off ?_ hu (ho u (by simp)) (relM_still (fun j hj => by have := hb (j + 1) (by simpa using hj); rw [show off + 1 + j = off + (j + 1) by omega]; exact this) hs (fun j x hx => ?_) fun x hx => ho x (by simp [hx]))
      · have := hc 0 u rfl
        exact hT b off u (by simpa using hb 0 (by simp)) (by simpa using this)
      · have := hc (j + 1) x (by simpa using hx)
        rw [show off + 1 + j = off + (j + 1) by omega]; exact this
variable (hF : ∀ (v : V) (u : Value) (v' : V), Rel Γ v u → F v = some v' → Rel Γt v' u)
include hF
theorem frzL_rel : ∀ {cs cs' : List V} {us : List Value}, RelL Γ cs us → frzL F cs = some cs' → RelL Γt cs' us ∧ cs'.length = cs.length
  | [], cs', us, h, hf => by
    cases h
    injection hf with hf; subst hf
    exact ⟨.nil, rfl⟩
  | v :: vs, cs', us, h, hf => by
    cases h with
    | cons _ u _ us' hu hs =>
      simp only [frzL] at hf
      split at hf
      · rename_i a b ha hb
        injection hf with hf; subst hf
        obtain ⟨h1, h2⟩ := frzL_rel hs hb
        exact ⟨.cons a u b us' (hF v u a hu ha) h1, by simp [h2]⟩
      · cases hf
theorem frzE_rel {es b : Nat} : ∀ {n : Nat} {l r : List V} {us : List Value} {off : Nat}, (∀ j, j < us.length → B b (off + j)) → RelL Γ l us → (∀ (j : Nat) (x : Value), us[j]? = some x → w.cell? ⟨b, off + j, none⟩ = some x) → (∀ x ∈ us, Value.oneCell' x = true) →
    frzE F es n l = some r → RelE Γt es r b off ∧ r.length = n
  | 0, l, r, us, off, hb, h, hc, ho, hf => by
    injection hf with hf; subst hf
    exact ⟨.nil es b off, rfl⟩
  | n + 1, l, r, us, off, hb, h, hc, ho, hf => by
    simp only [frzE] at hf
    split at hf
    · rename_i hl
      split at hf
      · rename_i c r' h1 h2
        injection hf with hf; subst hf
        obtain ⟨a1, a2⟩ := frzL_rel hT hF (h.take es) h1
        obtain ⟨b1, b2⟩ := frzE_rel (off := off + es) (us := us.drop es) (fun j hj => by have := hb (es + j) (by simp at hj; omega); rw [show off + es + j = off + (es + j) by omega]; exact this) (h.drop es) (fun j x hx => by
          rw [List.getElem?_drop] at hx
          have := hc (es + j) x hx
          rw [show off + es + j = off + (es + j) by omega]; exact this) (fun x hx => ho x (List.mem_of_mem_drop hx)) h2
        refine ⟨.cons es (.agg c) c r' b off rfl (by rw [a2, List.length_take]; omega) (relM_still hT (fun j hj => hb j (by simp at hj; omega)) a1 (fun j x hx => ?_) fun x hx => ho x (List.mem_of_mem_take hx)) b1, by simp [b2]⟩
        rw [List.getElem?_take] at hx
        split at hx
        · exact hc j x hx
        · cases hx
      · cases hf
    · cases hf
theorem frzI_rel (hm : Mem Γ S w) (hμ : ∀ (b o : Nat) (u : Value), Γ.μ b o = some u → B b o) {es b : Nat} : ∀ {l r : List V} {off : Nat}, RelE Γ es l b off → frzI F l = some r → RelE Γt es r b off ∧ r.length = l.length
  | [], r, off, h, hf => by
    injection hf with hf; subst hf
    exact ⟨.nil es b off, rfl⟩
  | v :: vs, r, off, h, hf => by
    simp only [frzI] at hf
    split at hf
    · rename_i c r' h1 h2
      injection hf with hf; subst hf
      cases h with
      | cons _ _ cs _ _ _ hv hl hM hs =>
        obtain ⟨b1, b2⟩ := frzI_rel hm hμ hs h2
        obtain ⟨b', off', us, e1, e2, e3, e4⟩ := cellsAt_mem hm (v := .ipt v.cells) (cs := v.cells) (.ipt v.cells b off (by rw [hv]; exact hM)) rfl
        injection e1 with e1; injection e1 with e1; injection e1 with e1 e5; subst e1; subst e5
        obtain ⟨a1, a2⟩ := frzL_rel hT hF e2 h1
        refine ⟨.cons es (.agg c) c r' b off rfl (by rw [a2, hv, hl]) (relM_still hT (fun j hj => ?_) a1 e3 e4) b1, by simp [b2]⟩
        have hj' : j < v.cells.length := by rw [e2.length]; exact hj
        obtain ⟨u, hu, _⟩ := RelM.get (x := v.cells) (by rw [hv]; exact hM) (i := j) (v := v.cells[j]) (by simp [hj'])
        exact hμ _ _ u hu
    · cases hf
end
section
variable {Γ Γt : Ctx} (hμ : ∀ (b o : Nat) (u : Value), Γ.μ b o = some u → Γt.μ b o = some u)
include hμ
mutual
theorem Rel.clo : ∀ {v : V} {u : Value}, Rel Γ v u → Vm.clo v = true → Rel Γt v u
  | _, _, .any u, _ => .any u
  | _, _, .bool b, _ => .bool b
  | _, _, .int k n, _ => .int k n
  | _, _, .str s l h, _ => .str s l h
  | _, _, .nilp, _ => .nilp
  | _, _, .ptr id off b h, hc => by cases hc
  | _, _, .ipt cs b off h, hc => .ipt cs b off (RelM.clo h hc)
  | _, _, .nils, _ => .nils
  | _, _, .imm es l b off n cap h hn hcp, hc => .imm es l b off n cap (RelE.clo h hc) hn hcp
  | _, _, .imz es a, _ => .imz es a
  | _, _, .ref es id off off' n cap b h he hc' hn ho, hc => by cases hc
  | _, _, .fn f x y a c h1 h2, hc => .fn f x y a c (RelL.clo h1 (by rw [clo_fn, Bool.and_eq_true] at hc; exact hc.1)) (RelL.clo h2 (by rw [clo_fn, Bool.and_eq_true] at hc; exact hc.2))
  | _, _, .nilf, _ => .nilf
  | _, _, .agg x a h hcl, hc => .agg x a (RelL.clo h hc) hcl
  | _, _, .tup x a h, hc => .tup x a (RelL.clo h hc)
  | _, _, .nilm, _ => .nilm
  | _, _, .map id b h, hc => by cases hc
  | _, _, .yld l, hc => by cases hc
theorem RelL.clo : ∀ {v : List V} {u : List Value}, RelL Γ v u → cloL v = true → RelL Γt v u
  | _, _, .nil, _ => .nil
  | _, _, .cons v u vs us h hs, hc => .cons v u vs us (Rel.clo h (by rw [cloL_cons, Bool.and_eq_true] at hc; exact hc.1)) (RelL.clo hs (by rw [cloL_cons, Bool.and_eq_true] at hc; exact hc.2))
theorem RelM.clo : ∀ {v : List V} {b o : Nat}, RelM Γ v b o → cloL v = true → RelM Γt v b o
  | _, _, _, .nil b o, _ => .nil b o
  | _, _, _, .cons v u vs b o hu h hcl hs, hc => .cons v u vs b o (hμ b o u hu) (Rel.clo h (by rw [cloL_cons, Bool.and_eq_true] at hc; exact hc.1)) hcl (RelM.clo hs (by rw [cloL_cons, Bool.and_eq_true] at hc; exact hc.2))
theorem RelE.clo : ∀ {es : Nat} {v : List V} {b o : Nat}, RelE Γ es v b o → cloL v = true → RelE Γt es v b o
  | _, _, _, _, .nil es b o, _ => .nil es b o
  | _, _, _, _, .cons es v cs vs b o hv hl h hs, hc => .cons es v cs vs b o hv hl (RelM.clo h (by rw [cloL_cons, Bool.and_eq_true] at hc; rw [← hv]; exact clo_cells hc.1)) (RelE.clo hs (by rw [cloL_cons, Bool.and_eq_true] at hc; exact hc.2))
end
end
theorem frz_rel {Γ Γt : Ctx} {S : St} {w : World} {B : Nat → Nat → Prop} (hT : ∀ (b o : Nat) (u : Value), B b o → w.cell? ⟨b, o, none⟩ = some u → Γt.μ b o = some u) (hm : Mem Γ S w) {nw : Bool} (hφ' : ∀ (id : Id) (b : Nat), Γ.φ id = some b → ∀ o, B b o) (hI : nw = false → ∀ (b o : Nat) (u : Value), Γ.μ b o = some u → B b o) : ∀ (n : Nat) (v : V) (u : Value) (v' : V), Rel Γ v u → frz nw S.get n v = some v' → Rel Γt v' u
  | 0, _, _, _, _, h => by cases h
  | n + 1, v, u, v', hr, h => by
    have ih := frz_rel hT hm hφ' hI n
    rcases frz_eq h with ⟨e1, e2, e3⟩ | ⟨hne, h2⟩
    · subst e3; exact Rel.clo (fun b o u hu => hT b o u (hI e1 b o u hu) (hm.fro b o u hu)) hr e2
    replace h := h2
    clear h2 hne
    cases hr <;> simp only [frzB] at h <;> try (cases h; done)
    case bool b => injection h with h; subst h; exact .bool b
    case int k i => injection h with h; subst h; exact .int k i
    case str s l hs => injection h with h; subst h; exact .str s l hs
    case nilp => injection h with h; subst h; exact .nilp
    case nils => injection h with h; subst h; exact .nils
    case nilf => injection h with h; subst h; exact .nilf
    case nilm => injection h with h; subst h; exact .nilm
    case ptr id off b hφ =>
      cases hs : S.get id with
      | cells l fz anc =>
        simp only [hs] at h
        split at h
        · rename_i c hc
          injection h with h; subst h
          obtain ⟨b', off', us, e1, e2, e3, e4⟩ := cellsAt_mem hm (v := .ptr id off) (cs := l.drop off) (.ptr id off b hφ) (by simp only [cellsAt, hs])
          injection e1 with e1; injection e1 with e1; injection e1 with e1 e5; subst e1; subst e5
          exact .ipt c b off (relM_still hT (fun j _ => hφ' _ _ hφ _) (frzL_rel hT ih e2 hc).1 e3 e4)
        · cases h
      | _ => simp only [hs] at h; cases h
    case ipt cs b off hM =>
      split at h
      · rename_i c hc
        injection h with h; subst h
        obtain ⟨b', off', us, e1, e2, e3, e4⟩ := cellsAt_mem hm (v := .ipt cs) (cs := cs) (.ipt cs b off hM) rfl
        injection e1 with e1; injection e1 with e1; injection e1 with e1 e5; subst e1; subst e5
        refine .ipt c b off (relM_still hT (fun j hj => ?_) (frzL_rel hT ih e2 hc).1 e3 e4)
        have hj' : j < cs.length := by rw [e2.length]; exact hj
        obtain ⟨u, hu, _⟩ := hM.get (i := j) (v := cs[j]) (by simp [hj'])
        exact hI rfl _ _ u hu
      · cases h
    case imz es a =>
      simp only [frzI] at h
      split at h
      · rename_i l hw
        injection hw with hw; subst hw
        injection h with h; subst h
        exact .imz es a
      · cases h
    case imm es l b off n' cap hE hn hc =>
      split at h
      · rename_i r hr
        injection h with h; subst h
        obtain ⟨a1, a2⟩ := frzI_rel hT ih hm (hI rfl) hE hr
        exact .imm es r b off n' cap a1 (by rw [a2]; exact hn) hc
      · cases h
    case ref es id off off' len cap b hφ he hc hn ho =>
      have key : ∀ (l : List V), cellsAt S (.ptr id off) = some (l.drop off) → ∀ r, frzE (frz nw S.get n) es len (l.drop off) = some r → Rel Γt (.imm es r) (.slice (some ⟨b, off', none⟩) len cap) := by
        intro l hl r hr
        obtain ⟨b', o', us, e1, e2, e3, e4⟩ := cellsAt_mem hm (v := .ptr id off) (cs := l.drop off) (.ptr id off b hφ) hl
        injection e1 with e1; injection e1 with e1; injection e1 with e1 e5; subst e1; subst e5
        obtain ⟨a1, a2⟩ := frzE_rel hT ih (fun j _ => hφ' _ _ hφ _) e2 e3 e4 hr
        refine .imm es r b off' len cap ?_ a2.symm hn
        rcases ho with ho | ho
        · rw [ho]; exact a1
        · have : r = [] := by
            cases r with
            | nil => rfl
            | cons _ _ => simp at a2; omega
          subst this; exact .nil es b off'
      cases hs : S.get id with
      | cells l fz anc =>
        simp only [hs] at h
        split at h
        · rename_i r hr; injection h with h; subst h; exact key l (by simp only [cellsAt, hs]) r hr
        · cases h
      | stale l =>
        simp only [hs] at h
        split at h
        · rename_i r hr; injection h with h; subst h; exact key l (by simp only [cellsAt, hs]) r hr
        · cases h
      | _ => simp only [hs] at h; cases h
    case fn f x y a c h1 h2 =>
      split at h
      · rename_i x' y' e1 e2
        injection h with h; subst h
        exact .fn f x' y' a c (frzL_rel hT ih h1 e1).1 (frzL_rel hT ih h2 e2).1
      · cases h
    case agg x a hx hc =>
      split at h
      · rename_i c hc'
        injection h with h; subst h
        exact .agg c a (frzL_rel hT ih hx hc').1 hc
      · cases h
    case tup x a hx =>
      split at h
      · rename_i c hc'
        injection h with h; subst h
        exact .tup c a (frzL_rel hT ih hx hc').1
      · cases h
theorem frzAll_rel {Γ : Ctx} {S : St} {w : World} (hm : Mem Γ S w) {args key : List V} {us : List Value} (hr : RelL Γ args us) (h : frzAll S.get args = some key) : RelL (Γ.still w) key us :=
  (frzL_rel (B := fun _ _ => True) (fun b o u _ h => h) (fun v u v' => frz_rel (B := fun _ _ => True) (fun b o u _ h => h) hm (fun _ _ _ _ => trivial) (fun _ _ _ _ _ => trivial) 40 v u v') hr h).1

/-! a larger store freezes alike -/
theorem frzL_congr {F G : V → Option V} (h : ∀ v v', F v = some v' → G v = some v') : ∀ {l r : List V}, frzL F l = some r → frzL G l = some r
  | [], _, e => e
  | v :: l, r, e => by
    simp only [frzL] at e ⊢
    split at e
    · rename_i a b ha hb
      rw [h v a ha, frzL_congr h hb]; exact e
    · cases e
theorem frzE_congr {F G : V → Option V} (h : ∀ v v', F v = some v' → G v = some v') {es : Nat} : ∀ {n : Nat} {l r : List V}, frzE F es n l = some r → frzE G es n l = some r
  | 0, _, _, e => e
  | n + 1, l, r, e => by
    simp only [frzE] at e ⊢
    split at e
    · rename_i hl
      rw [if_pos hl]
      split at e
      · rename_i a b ha hb
        rw [frzL_congr h ha, frzE_congr h hb]; exact e
      · cases e
    · cases e
theorem frzI_congr {F G : V → Option V} (h : ∀ v v', F v = some v' → G v = some v') : ∀ {l r : List V}, frzI F l = some r → frzI G l = some r
  | [], _, e => e
  | v :: l, r, e => by
    simp only [frzI] at e ⊢
    split at e
    · rename_i a b ha hb
      rw [frzL_congr h ha, frzI_congr h hb]; exact e
    · cases e
theorem frz_congr {nw : Bool} {g g' : Id → Ob} (h : ∀ id, g id ≠ .free → g' id = g id) : ∀ (n : Nat) (v v' : V), frz nw g n v = some v' → frz nw g' n v = some v'
  | 0, _, _, e => e
  | n + 1, v, v', e => by
    have ih := frz_congr (nw := nw) h n
    rcases frz_eq e with ⟨e1, e2, e3⟩ | ⟨hne, e2⟩
    · subst e1; subst e3; exact frz_clo e2
    rw [frz_ne hne]
    replace e := e2
    clear e2 hne
    cases v <;> simp only [frzB] at e ⊢ <;> try exact e
    case ptr id off =>
      cases hg : g id with
      | cells l fz anc =>
        rw [h id (by rw [hg]; nofun), hg]
        simp only [hg] at e ⊢
        split at e
        · rename_i c hc; rw [frzL_congr ih hc]; exact e
        · cases e
      | _ => simp only [hg] at e; cases e
    case ref es id off len =>
      cases hg : g id with
      | cells l fz anc =>
        rw [h id (by rw [hg]; nofun), hg]
        simp only [hg] at e ⊢
        split at e
        · rename_i c hc; rw [frzE_congr ih hc]; exact e
        · cases e
      | stale l =>
        rw [h id (by rw [hg]; nofun), hg]
        simp only [hg] at e ⊢
        split at e
        · rename_i c hc; rw [frzE_congr ih hc]; exact e
        · cases e
      | _ => simp only [hg] at e; cases e
    case ipt c =>
      split at e
      · rename_i c hc; rw [frzL_congr ih hc]; exact e
      · cases e
    case imm es l =>
      split at e
      · rename_i c hc; rw [frzI_congr ih hc]; exact e
      · cases e
    case fn f a c =>
      split at e
      · rename_i a' c' ha hc; rw [frzL_congr ih ha, frzL_congr ih hc]; exact e
      · cases e
    case agg c =>
      split at e
      · rename_i c hc; rw [frzL_congr ih hc]; exact e
      · cases e
    case tup c =>
      split at e
      · rename_i c hc; rw [frzL_congr ih hc]; exact e
      · cases e
theorem frzAll_congr {S X : St} (h : ∀ id, S.get id ≠ .free → X.get id = S.get id) {args key : List V} (e : frzAll S.get args = some key) : frzAll X.get args = some key :=
  frzL_congr (fun v v' => frz_congr h 40 v v') e

/-! ### known answers -/
/-- Values that say nothing of memory. -/
def V.flat : V → Bool
  | .bool _ | .int .. | .str _ | .nilp | .nils | .nilf | .nilm => true
  | .agg c => c.all fun v => match v with | .bool _ | .int .. | .str _ | .nilp | .nils | .nilf | .nilm => true | _ => false
  | .tup c => c.all fun v => match v with
    | .bool _ | .int .. | .str _ | .nilp | .nils | .nilf | .nilm => true
    | .agg c => c.all fun v => match v with | .bool _ | .int .. | .str _ | .nilp | .nils | .nilf | .nilm => true | _ => false
    | _ => false
  | _ => false
theorem relL_flat {Γ Γ' : Ctx} {p : V → Bool} (h : ∀ v u, p v = true → Rel Γ v u → Rel Γ' v u) : ∀ {c : List V} {us : List Value}, c.all p = true → RelL Γ c us → RelL Γ' c us
  | [], _, _, hr => by cases hr; exact .nil
  | v :: c, us, hc, hr => by
    cases hr with
    | cons _ u _ us' hu hs =>
      simp only [List.all_cons, Bool.and_eq_true] at hc
      exact .cons v u c us' (h v u hc.1 hu) (relL_flat h hc.2 hs)
theorem rel_flat0 {Γ Γ' : Ctx} {v : V} {u : Value} (h : (match v with | .bool _ | .int .. | .str _ | .nilp | .nils | .nilf | .nilm => true | _ => false) = true) (hr : Rel Γ v u) : Rel Γ' v u := by
  cases hr <;> first | (cases h; done) | skip
  case bool b => exact .bool b
  case int k i => exact .int k i
  case str s l hs => exact .str s l hs
  case nilp => exact .nilp
  case nils => exact .nils
  case nilf => exact .nilf
  case nilm => exact .nilm
theorem rel_flat1 {Γ Γ' : Ctx} {v : V} {u : Value} (h : (match v with
    | .bool _ | .int .. | .str _ | .nilp | .nils | .nilf | .nilm => true
    | .agg c => c.all fun v => match v with | .bool _ | .int .. | .str _ | .nilp | .nils | .nilf | .nilm => true | _ => false
    | _ => false) = true) (hr : Rel Γ v u) : Rel Γ' v u := by
  cases v with
  | agg c => cases hr with | agg _ a hx hc => exact .agg c a (relL_flat (fun v u => rel_flat0) h hx) hc
  | bool b => exact rel_flat0 rfl hr
  | int k n => exact rel_flat0 rfl hr
  | str s => exact rel_flat0 rfl hr
  | nilp => exact rel_flat0 rfl hr
  | nils => exact rel_flat0 rfl hr
  | nilf => exact rel_flat0 rfl hr
  | nilm => exact rel_flat0 rfl hr
  | _ => cases h
theorem rel_flat {Γ Γ' : Ctx} {v : V} {u : Value} (h : v.flat = true) (hr : Rel Γ v u) : Rel Γ' v u := by
  cases v with
  | tup c => cases hr with | tup _ a hx => exact .tup c a (relL_flat (fun v u => rel_flat1) h hx)
  | agg c => exact rel_flat1 h hr
  | bool b => exact rel_flat0 rfl hr
  | int k n => exact rel_flat0 rfl hr
  | str s => exact rel_flat0 rfl hr
  | nilp => exact rel_flat0 rfl hr
  | nils => exact rel_flat0 rfl hr
  | nilf => exact rel_flat0 rfl hr
  | nilm => exact rel_flat0 rfl hr
  | _ => cases h

theorem Mem.still {Γ : Ctx} {S : St} {w : World} (hm : Mem Γ S w) : Mem (Γ.still w) st0 w where
  glb g := by
    have hg := hm.glb g
    rcases Gl.flat g with h | ⟨cs, h, hf⟩
    · rw [h]; exact .any _
    · rw [h] at hg ⊢
      obtain ⟨b, off, us, e1, e2, e3, e4⟩ := cellsAt_mem hm (v := .ipt cs) (cs := cs) hg rfl
      rw [e1]
      exact .ipt cs b off (relM_still (B := fun _ _ => True) (fun b o u _ h => h) (fun _ _ => trivial) (relL_flat (fun v u hv hr => rel_flat0 (by cases v <;> first | rfl | cases hv) hr) hf e2) e3 e4)
  fro b o u h := h
  lt id b h := by cases h
  alive id b h := by cases h
  row id b l fz anc h := by cases h
  frz id b l fz anc h := by cases h
  old id b l h := by cases h
  one id id' b h := by cases h
  anc id b l fz anc id' l' h := by cases h
  map id b l h := by cases h
  mst id id' b l l' h := by cases h
open Classical in
/-- The package-level variables alone. -/
noncomputable def Ctx.bare (w : World) (Γ : Ctx) : Ctx := { φ := fun _ => none, bs := Γ.bs, es := Γ.es, μ := fun b o => if (∃ cs, Gl.gl b = .ipt cs ∧ o < cs.length) then w.cell? ⟨b, o, none⟩ else none }
theorem relM_of {Γ : Ctx} {b : Nat} : ∀ (cs : List V) (o : Nat), (∀ (i : Nat) (v : V), cs[i]? = some v → ∃ u, Γ.μ b (o + i) = some u ∧ Rel Γ v u ∧ u.oneCell' = true) → RelM Γ cs b o
  | [], o, _ => .nil b o
  | v :: cs, o, h => by
    obtain ⟨u, h1, h2, h3⟩ := h 0 v rfl
    refine .cons v u cs b o h1 h2 h3 (relM_of cs (o + 1) fun i x hx => ?_)
    have := h (i + 1) x (by simpa using hx)
    rw [show o + 1 + i = o + (i + 1) by omega]; exact this
theorem Mem.bare {Γ : Ctx} {S : St} {w : World} (hm : Mem Γ S w) : Mem (Γ.bare w) st0 w where
  glb g := by
    have hg := hm.glb g
    rcases Gl.flat g with h | ⟨cs, h, hf⟩
    · rw [h]; exact .any _
    · rw [h] at hg ⊢
      cases hg with
      | ipt _ _ _ hM =>
        refine .ipt cs g 0 (relM_of cs 0 fun i v hv => ?_)
        obtain ⟨u, h1, h2, h3⟩ := hM.get hv
        have hlt : i < cs.length := (List.getElem?_eq_some_iff.1 hv).1
        refine ⟨u, ?_, rel_flat0 (by have := List.all_eq_true.1 hf v (List.mem_of_getElem? hv); cases v <;> first | rfl | cases this) h2, h3⟩
        rw [Nat.zero_add] at h1 ⊢
        show (open Classical in if (∃ cs, Gl.gl g = .ipt cs ∧ i < cs.length) then w.cell? ⟨g, i, none⟩ else none) = some u
        rw [if_pos ⟨cs, h, hlt⟩]
        exact hm.fro _ _ _ h1
  fro b o u h := by
    have h : (open Classical in if (∃ cs, Gl.gl b = .ipt cs ∧ o < cs.length) then w.cell? ⟨b, o, none⟩ else none) = some u := h
    split at h
    · exact h
    · cases h
  lt id b h := by cases h
  alive id b h := by cases h
  row id b l fz anc h := by cases h
  frz id b l fz anc h := by cases h
  old id b l h := by cases h
  one id id' b h := by cases h
  anc id b l fz anc id' l' h := by cases h
  map id b l h := by cases h
  mst id id' b l l' h := by cases h
abbrev Memo : Type := FuncId → Option (List V → Option V)
/-- Known answers as calls to be asked. -/
noncomputable def memoBase (memo : Memo) : AskF := fun f args S => match memo f with
  | none => none
  | some g => match frzAll S.get args with
    | none => some none
    | some key => match g key with
      | none => none
      | some v => some (some (v, S))
/-- The answers are those of runs from the empty store. -/
def Known (P : Program) (f : FuncId) (key : List V) (v : V) : Prop :=
  ∃ (base : AskF) (n m : Nat) (u : V) (S1 : St), BaseOK P base ∧ callN P base (drawOK P) n f key st0 = some (u, S1) ∧ frz (!key.all V.flat) S1.get m u = some v
def MemoOK (P : Program) (memo : Memo) : Prop :=
  ∀ (f : FuncId) (g : List V → Option V) (key : List V) (v : V), memo f = some g → g key = some v → Known P f key v

theorem cell_kept {w w' : World} (h : ∀ b, b < w.heap.size → w'.heap[b]? = w.heap[b]?) {b o : Nat} {u : Value} (hu : w.cell? ⟨b, o, none⟩ = some u) : w'.cell? ⟨b, o, none⟩ = some u := by
  have hb : b < w.heap.size := by
    refine Nat.lt_of_not_le fun hn => ?_
    simp [World.cell?, Array.getElem?_eq_none hn] at hu
  simp only [World.cell?] at hu ⊢
  rw [h b hb]; exact hu
theorem Mem.grow {Γ : Ctx} {S : St} {w w' : World} (hm : Mem Γ S w) (h : ∀ b, b < w.heap.size → w'.heap[b]? = w.heap[b]?) (hs : w.heap.size ≤ w'.heap.size) : Mem Γ S w' where
  glb := hm.glb
  fro b o u hu := cell_kept h (hm.fro b o u hu)
  lt id b hb := Nat.lt_of_lt_of_le (hm.lt id b hb) hs
  alive := hm.alive
  row id b l fz anc hb he := by unfold RowAt; rw [h b (hm.lt id b hb)]; exact hm.row id b l fz anc hb he
  frz := hm.frz
  old id b l hb he := by
    obtain ⟨us, h1, h2, h3⟩ := hm.old id b l hb he
    exact ⟨us, h1, fun j u hj => cell_kept h (h2 j u hj), h3⟩
  one := hm.one
  anc := hm.anc
  map id b l hb he := by unfold MapAt; rw [h b (hm.lt id b hb)]; exact hm.map id b l hb he
  mst := hm.mst
/-- What has been laid since w is never to be written. -/
def Ctx.newer (w w' : World) (Γ : Ctx) : Ctx := { φ := Γ.φ, bs := Γ.bs, es := Γ.es, μ := fun b o => if b < w.heap.size then Γ.μ b o else w'.cell? ⟨b, o, none⟩ }
theorem Ctx.newer_mu {Γ : Ctx} {w w' : World} {b o : Nat} {u : Value} (h : (Γ.newer w w').μ b o = some u) : Γ.μ b o = some u ∨ w.heap.size ≤ b := by
  have h : (if b < w.heap.size then Γ.μ b o else w'.cell? ⟨b, o, none⟩) = some u := h
  split at h
  · exact .inl h
  · exact .inr (by omega)
theorem Ctx.newer_le {Γ : Ctx} {S : St} {w w' : World} (hm : Mem Γ S w) : Γ.le (Γ.newer w w') := ⟨fun _ _ h => h, fun _ _ _ => rfl, fun _ _ _ => rfl, fun b o u h => by
  have hb : b < w.heap.size := World.block_lt_of_cell? w ⟨b, o, none⟩ (hm.fro b o u h)
  show (if b < w.heap.size then _ else _) = _
  rw [if_pos hb]; exact h⟩
theorem Mem.newer {Γ : Ctx} {S : St} {w w' : World} (hm : Mem Γ S w) (h : ∀ b, b < w.heap.size → w'.heap[b]? = w.heap[b]?) (hs : w.heap.size ≤ w'.heap.size) : Mem (Γ.newer w w') S w' := by
  have hle := Ctx.newer_le (w' := w') hm
  have g := hm.grow h hs
  exact {
    glb := fun k => (g.glb k).mono hle
    fro := fun b o u hu => by
      have hu : (if b < w.heap.size then Γ.μ b o else w'.cell? ⟨b, o, none⟩) = some u := hu
      split at hu
      · exact g.fro b o u hu
      · exact hu
    lt := g.lt
    alive := g.alive
    row := fun id b l fz anc hb he => by
      obtain ⟨c, el, q1, q2, q3, q4, q5⟩ := g.row id b l fz anc hb he
      exact ⟨c, el, q1, q2, q3, q4.mono hle, q5⟩
    frz := fun id b l fz anc hb he => by
      obtain ⟨q1, q2⟩ := g.frz id b l fz anc hb he
      refine ⟨q1, fun o ho => ?_⟩
      show (if b < w.heap.size then _ else _) = _
      rw [if_pos (hm.lt id b hb)]; exact q2 o ho
    old := fun id b l hb he => by
      obtain ⟨us, q1, q2, q3⟩ := g.old id b l hb he
      exact ⟨us, q1.mono hle, q2, q3⟩
    one := g.one
    anc := g.anc
    map := fun id b l hb he => by
      obtain ⟨es, q1, q2⟩ := g.map id b l hb he
      exact ⟨es, q1, q2.mono hle⟩
    mst := g.mst }
theorem memo_ok {P : Program} (hmix : P.follows .mixedOrders = true) {memo : Memo} (h : MemoOK P memo) : BaseOK P (memoBase memo) where
  ok := by
    intro f args S r S' he
    simp only [ansOf, memoBase] at he
    cases hm : memo f with
    | none => simp only [hm] at he; cases he
    | some g =>
      simp only [hm] at he
      cases hk : frzAll S.get args with
      | none => simp only [hk] at he; cases he
      | some key =>
        simp only [hk] at he
        cases hg : g key with
        | none => simp only [hg] at he; cases he
        | some v =>
          simp only [hg] at he
          injection he with he; injection he with e1 e2; subst e1; subst e2
          obtain ⟨base, n, m, u0, S1, hb, hc, hfz⟩ := h f g key v hm hg
          obtain ⟨he1, he2⟩ := calls_ok hmix hb n f key st0 u0 S1 hc
          refine ⟨he1, fun Γ w us hmem hrel cs => ?_⟩
          obtain ⟨Γs, hms, hrs, hφs, hcase⟩ : ∃ Γs, Mem Γs st0 w ∧ RelL Γs key us.toList ∧ (∀ (id : Id), Γs.φ id = none) ∧ (key.all V.flat = true → ∀ (b o : Nat) (u : Value), Γs.μ b o = some u → Γ.μ b o = some u) := by
            have hrk := frzAll_rel hmem hrel hk
            cases hfl : key.all V.flat with
            | false => exact ⟨Γ.still w, hmem.still, hrk, fun _ => rfl, nofun⟩
            | true =>
              refine ⟨Γ.bare w, hmem.bare, relL_flat (fun v u hv hr => rel_flat hv hr) hfl hrk, fun _ => rfl, fun _ b o u hu => ?_⟩
              have hu : (open Classical in if (∃ cs, Gl.gl b = .ipt cs ∧ o < cs.length) then w.cell? ⟨b, o, none⟩ else none) = some u := hu
              split at hu
              · rename_i hex
                obtain ⟨cs, e1, e2⟩ := hex
                have hg := hmem.glb b
                rw [e1] at hg
                cases hg with
                | ipt _ _ _ hM =>
                  obtain ⟨u', q1, _⟩ := hM.get (i := o) (v := cs[o]) (by simp [e2])
                  rw [Nat.zero_add] at q1
                  have := hmem.fro _ _ _ q1
                  rw [this] at hu; injection hu with hu; subst hu; exact q1
              · cases hu
          obtain ⟨e, w', fr, ⟨Γ', u, hu, hst, hr⟩, hrest⟩ := he2 Γs w us hms hrs cs
          have hkeep : ∀ b, b < w.heap.size → w'.heap[b]? = w.heap[b]? := fun b hb => hst.frame b hb (fun id hid => by rw [hφs] at hid; cases hid)
          have hle : Γ.le (Γ.newer w w') := Ctx.newer_le hmem
          have hrel' : Rel (Γ.newer w w') v u := frz_rel (nw := !key.all V.flat) (Γt := Γ.newer w w') (B := fun b o => w.heap.size ≤ b ∨ ∃ u, Γ.μ b o = some u)
            (fun b o u hb h => by
              show (if b < w.heap.size then _ else _) = _
              split
              · rename_i hlt
                rcases hb with hb | ⟨u', hu'⟩
                · omega
                · have h1 := cell_kept hkeep (hmem.fro _ _ _ hu')
                  rw [h1] at h; injection h with h; subst h; exact hu'
              · exact h) hst.mem
            (fun id b hid o => by
              refine .inl (Nat.le_of_not_lt fun hlt => ?_)
              rcases hst.own id b hid hlt with ⟨e, _⟩ | ⟨_, id0, e, _⟩ <;> (rw [hφs] at e; cases e))
            (fun hn b o u hu => by
              rcases hst.mu b o u hu with e | e
              · exact .inr ⟨u, hcase (by simpa using hn) b o u e⟩
              · exact .inl e) m u0 u v hr hfz
          refine ⟨e, w', fr, ⟨Γ.newer w w', u, hu, ?_, hrel'⟩, hrest⟩
          exact { le := hle, mem := hmem.newer hkeep hst.size, os := hst.os, tape := hst.tape, output := hst.output, size := hst.size, frame := fun b hb _ => hkeep b hb, pend := fun id h1 h2 => ⟨rfl, h1⟩, own := fun id b h1 _ => .inl ⟨h1, fun h => h⟩, mu := fun b o u hu => (Ctx.newer_mu hu), fz := hst.fz }
  nf := by
    intro f args S r S' he
    simp only [ansOf, memoBase] at he
    split at he
    · rename_i r0 h0
      subst he
      split at h0
      · cases h0
      · split at h0
        · cases h0
        · split at h0
          · cases h0
          · injection h0 with h0; injection h0 with h0; injection h0 with _ e2; subst e2; exact .refl _
    · cases he
  mono := by
    intro f args S r S' he X hx
    simp only [memoBase] at he ⊢
    split at he
    · cases he
    · split at he
      · cases he
      · rename_i key hk
        split at he
        · cases he
        · rename_i v hv
          injection he with he; injection he with he; injection he with e1 e2; subst e1; subst e2
          refine ⟨X, ?_, .refl hx⟩
          rw [frzAll_congr hx.same hk]
          simp only [hv]
  same := by
    intro f args S S' X he hx
    cases h0 : memo f with
    | none => simp only [memoBase, h0]
    | some g =>
      cases hk : frzAll S.get args with
      | none => simp only [memoBase, h0, hk] at he; cases he
      | some key =>
        cases hv : g key with
        | none => simp only [memoBase, h0, frzAll_congr hx.same hk, hv]
        | some v => simp only [memoBase, h0, hk, hv] at he; cases he
end Go.Vm

/-! Trees for the kernel. -/
namespace Go.Vm

structure N4 (α : Type) where
  a : α
  b : α
  c : α
  d : α
section
variable {α : Type}
noncomputable def N4.at (s : Sel) (n : N4 α) : α :=
  @Sel.rec (fun _ => N4 α → α) (fun n => n.a) (fun n => n.b) (fun n => n.c) (fun n => n.d) s n
def N4.upd (s : Sel) (f : α → α) (n : N4 α) : N4 α := match s with
  | .q0 => ⟨f n.a, n.b, n.c, n.d⟩
  | .q1 => ⟨n.a, f n.b, n.c, n.d⟩
  | .q2 => ⟨n.a, n.b, f n.c, n.d⟩
  | .q3 => ⟨n.a, n.b, n.c, f n.d⟩
theorem N4.at_upd (s r : Sel) (f : α → α) (n : N4 α) : (n.upd s f).at r = if r = s then f (n.at r) else n.at r := by
  cases s <;> cases r <;> rfl
/-- The last level. -/
noncomputable def N4.put (s : Sel) (o : α) (n : N4 α) (k : N4 α → Bool) : Bool :=
  @N4.rec α (fun _ => Sel → α → (N4 α → Bool) → Bool)
    (fun a b c d s o k => @Sel.rec (fun _ => α → α → α → α → α → (N4 α → Bool) → Bool)
      (fun _ b c d o k => k ⟨o, b, c, d⟩)
      (fun a _ c d o k => k ⟨a, o, c, d⟩)
      (fun a b _ d o k => k ⟨a, b, o, d⟩)
      (fun a b c _ o k => k ⟨a, b, c, o⟩) s a b c d o k) n s o k
/-- A level. -/
noncomputable def N4.go (s : Sel) (f : α → (α → Bool) → Bool) (n : N4 α) (k : N4 α → Bool) : Bool :=
  @N4.rec α (fun _ => Sel → (α → (α → Bool) → Bool) → (N4 α → Bool) → Bool)
    (fun a b c d s f k => @Sel.rec (fun _ => α → α → α → α → (α → (α → Bool) → Bool) → (N4 α → Bool) → Bool)
      (fun a b c d f k => f a fun x => k ⟨x, b, c, d⟩)
      (fun a b c d f k => f b fun x => k ⟨a, x, c, d⟩)
      (fun a b c d f k => f c fun x => k ⟨a, b, x, d⟩)
      (fun a b c d f k => f d fun x => k ⟨a, b, c, x⟩) s a b c d f k) n s f k
theorem N4.put_eq (s : Sel) (o : α) (n : N4 α) (k : N4 α → Bool) : n.put s o k = k (n.upd s fun _ => o) := by
  cases n; cases s <;> rfl
theorem N4.go_eq (s : Sel) (f : α → (α → Bool) → Bool) (g : α → α) (h : ∀ a k, f a k = k (g a)) (n : N4 α) (k : N4 α → Bool) : n.go s f k = k (n.upd s g) := by
  cases n; cases s <;> simp [N4.go, N4.upd, h]
end

/-! ### the store -/
abbrev L1 : Type := N4 Ob
abbrev L2 : Type := N4 L1
abbrev L3 : Type := N4 L2
abbrev L4 : Type := N4 L3
abbrev L5 : Type := N4 L4
abbrev L6 : Type := N4 L5
abbrev L7 : Type := N4 L6
abbrev M8 : Type := N4 L7
/-- A store: a tree for the names of the first page, a list for the others. -/
structure L8 where
  t : M8
  x : List (Id × Ob)
def lookX (i : Id) : List (Id × Ob) → Ob
  | [] => .free
  | e :: r => if i = e.1 then e.2 else lookX i r
noncomputable def getO (i : Id) (t : L8) : Ob :=
  @Id.rec (fun _ => L8 → Ob) (fun d0 d1 d2 d3 d4 d5 d6 d7 pg t => @Nat.rec (fun _ => L8 → Ob) (fun t => (((((((t.t.at d0).at d1).at d2).at d3).at d4).at d5).at d6).at d7) (fun _ _ t => lookX i t.x) pg t) i t
def setO (i : Id) (o : Ob) (t : L8) : L8 := match i.pg with
  | 0 => ⟨t.t.upd i.d0 fun t => t.upd i.d1 fun t => t.upd i.d2 fun t => t.upd i.d3 fun t => t.upd i.d4 fun t => t.upd i.d5 fun t => t.upd i.d6 fun t => t.upd i.d7 fun _ => o, t.x⟩
  | _ + 1 => ⟨t.t, (i, o) :: t.x⟩
noncomputable def putO (i : Id) (o : Ob) (t : L8) (k : L8 → Bool) : Bool :=
  @L8.rec (fun _ => Id → Ob → (L8 → Bool) → Bool) (fun t x i o k => @Id.rec (fun _ => Ob → M8 → List (Id × Ob) → (L8 → Bool) → Bool) (fun d0 d1 d2 d3 d4 d5 d6 d7 pg o t x k =>
    @Nat.rec (fun _ => Ob → M8 → List (Id × Ob) → (L8 → Bool) → Bool)
      (fun o t x k => t.go d0 (fun t k => t.go d1 (fun t k => t.go d2 (fun t k => t.go d3 (fun t k => t.go d4 (fun t k => t.go d5 (fun t k => t.go d6 (fun t k => t.put d7 o k) k) k) k) k) k) k) fun t => k ⟨t, x⟩)
      (fun _ _ o t x k => k ⟨t, (i, o) :: x⟩) pg o t x k) i o t x k) t i o k
/-- f does what g says. -/
def Good {α : Type} (f : α → (α → Bool) → Bool) (g : α → α) : Prop := ∀ a k, f a k = k (g a)
theorem Good.put {α : Type} (s : Sel) (o : α) : Good (fun (t : N4 α) k => t.put s o k) (fun t => t.upd s fun _ => o) := fun t k => N4.put_eq s o t k
theorem Good.go {α : Type} {f : α → (α → Bool) → Bool} {g : α → α} (h : Good f g) (s : Sel) : Good (fun (t : N4 α) k => t.go s f k) (fun t => t.upd s g) := fun t k => N4.go_eq s f g h t k
theorem putO_eq (i : Id) (o : Ob) (t : L8) (k : L8 → Bool) : putO i o t k = k (setO i o t) := by
  cases i with
  | mk d0 d1 d2 d3 d4 d5 d6 d7 pg =>
    cases t with
    | mk t x =>
      cases pg with
      | zero => exact (((((((Good.put d7 o).go d6).go d5).go d4).go d3).go d2).go d1).go d0 t (fun t => k ⟨t, x⟩)
      | succ pg => rfl
noncomputable def atM (d0 d1 d2 d3 d4 d5 d6 d7 : Sel) (t : M8) : Ob := (((((((t.at d0).at d1).at d2).at d3).at d4).at d5).at d6).at d7
def updM (d0 d1 d2 d3 d4 d5 d6 d7 : Sel) (o : Ob) (t : M8) : M8 := t.upd d0 fun t => t.upd d1 fun t => t.upd d2 fun t => t.upd d3 fun t => t.upd d4 fun t => t.upd d5 fun t => t.upd d6 fun t => t.upd d7 fun _ => o
theorem getO_setO (i j : Id) (o : Ob) (t : L8) : getO j (setO i o t) = if j = i then o else getO j t := by
  cases i with
  | mk d0 d1 d2 d3 d4 d5 d6 d7 pg =>
    cases j with
    | mk e0 e1 e2 e3 e4 e5 e6 e7 qg =>
      cases pg with
      | succ pg =>
        cases qg with
        | zero => rw [if_neg (by simp)]; rfl
        | succ qg =>
          show lookX _ (_ :: t.x) = _
          rw [lookX]; rfl
      | zero =>
      cases qg with
      | succ qg => rw [if_neg (by simp)]; rfl
      | zero =>
      show atM e0 e1 e2 e3 e4 e5 e6 e7 (updM d0 d1 d2 d3 d4 d5 d6 d7 o t.t) = if _ then o else atM e0 e1 e2 e3 e4 e5 e6 e7 t.t
      simp only [atM, updM, N4.at_upd]
      by_cases h0 : e0 = d0
      rotate_left
      · simp [N4.at_upd, h0]
      subst h0
      by_cases h1 : e1 = d1
      rotate_left
      · simp [N4.at_upd, h1]
      subst h1
      by_cases h2 : e2 = d2
      rotate_left
      · simp [N4.at_upd, h2]
      subst h2
      by_cases h3 : e3 = d3
      rotate_left
      · simp [N4.at_upd, h3]
      subst h3
      by_cases h4 : e4 = d4
      rotate_left
      · simp [N4.at_upd, h4]
      subst h4
      by_cases h5 : e5 = d5
      rotate_left
      · simp [N4.at_upd, h5]
      subst h5
      by_cases h6 : e6 = d6
      rotate_left
      · simp [N4.at_upd, h6]
      subst h6
      by_cases h7 : e7 = d7
      rotate_left
      · simp [N4.at_upd, h7]
      subst h7
      simp [N4.at_upd]
def e1 : L1 := ⟨.free, .free, .free, .free⟩
def e2 : L2 := ⟨e1, e1, e1, e1⟩
def e3 : L3 := ⟨e2, e2, e2, e2⟩
def e4 : L4 := ⟨e3, e3, e3, e3⟩
def e5 : L5 := ⟨e4, e4, e4, e4⟩
def e6 : L6 := ⟨e5, e5, e5, e5⟩
def e7 : L7 := ⟨e6, e6, e6, e6⟩
def e8 : L8 := ⟨⟨e7, e7, e7, e7⟩, []⟩
theorem getO_empty (i : Id) : getO i e8 = .free := by
  have at_all : ∀ {α : Type} (s : Sel) (x : α), N4.at s ⟨x, x, x, x⟩ = x := by intro α s x; cases s <;> rfl
  cases i with
  | mk d0 d1 d2 d3 d4 d5 d6 d7 pg =>
    cases pg with
    | zero =>
      show atM d0 d1 d2 d3 d4 d5 d6 d7 ⟨e7, e7, e7, e7⟩ = .free
      simp only [atM, e7, e6, e5, e4, e3, e2, e1, at_all]
    | succ pg => rfl

structure KS where
  t : L8
  nx : Id
noncomputable def KS.abs (s : KS) : St := ⟨fun i => getO i s.t, s.nx⟩
theorem KS.abs_set (t : L8) (n : Id) (i : Id) (o : Ob) : (KS.abs ⟨setO i o t, n⟩) = (KS.abs ⟨t, n⟩).set i o := by
  unfold KS.abs St.set
  congr
  funext j
  exact getO_setO i j o t
def id0 : Id := ⟨.q0, .q0, .q0, .q0, .q0, .q0, .q0, .q0, 0⟩
def ks0 : KS := ⟨e8, id0⟩

/-- The next name. -/
noncomputable def nextK (i : Id) (k : Id → Bool) : Bool :=
  @Id.rec (fun _ => (Id → Bool) → Bool) (fun d0 d1 d2 d3 d4 d5 d6 d7 pg k =>
    @Sel.rec (fun _ => Sel → Sel → Sel → Sel → Sel → Sel → Sel → Nat → (Id → Bool) → Bool)
      (fun d0 d1 d2 d3 d4 d5 d6 pg k => k ⟨d0, d1, d2, d3, d4, d5, d6, .q1, pg⟩)
      (fun d0 d1 d2 d3 d4 d5 d6 pg k => k ⟨d0, d1, d2, d3, d4, d5, d6, .q2, pg⟩)
      (fun d0 d1 d2 d3 d4 d5 d6 pg k => k ⟨d0, d1, d2, d3, d4, d5, d6, .q3, pg⟩)
      (fun d0 d1 d2 d3 d4 d5 d6 pg k => @Option.rec Id (fun _ => (Id → Bool) → Bool) (fun _ => false) (fun j k => k j) (Id.next ⟨d0, d1, d2, d3, d4, d5, d6, .q3, pg⟩) k) d7 d0 d1 d2 d3 d4 d5 d6 pg k) i k
theorem nextK_some {i : Id} {k : Id → Bool} (h : nextK i k = true) : ∃ j, i.next = some j ∧ k j = true := by
  cases i with
  | mk d0 d1 d2 d3 d4 d5 d6 d7 pg =>
    cases d7 with
    | q0 => exact ⟨_, rfl, h⟩
    | q1 => exact ⟨_, rfl, h⟩
    | q2 => exact ⟨_, rfl, h⟩
    | q3 =>
      cases hn : Id.next ⟨d0, d1, d2, d3, d4, d5, d6, .q3, pg⟩ with
      | none => simp only [nextK, hn] at h; cases h
      | some j => simp only [nextK, hn] at h; exact ⟨j, rfl, h⟩
end Go.Vm

