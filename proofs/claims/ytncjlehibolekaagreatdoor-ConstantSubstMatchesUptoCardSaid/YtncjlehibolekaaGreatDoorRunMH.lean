/- The contract of ConstantSubstMatches, lifted: no statement of its own. -/
import Derived.Test.YtncjlehibolekaaGreatDoorRows
import Derived.Test.YtncjlehibolekaaGreatDoorCards
import Derived.Test.YtncjlehibolekaaGreatDoorTie
import Derived.WalkKit
import Derived.ProofKit
import Derived.OpenShut
import Derived.LaidMore
import Derived.Stop.Joined
import Derived.Lib.LaidTab
import Derived.Stop.LaidErr
import Derived.MakeChecks
import Derived.Deep.DeepWitnessRowRef
import Derived.Test.YtncjlehibolekaaGreatDoorVm6
import Derived.Test.YtncjlehibolekaaGreatDoorRunMF
import Derived.Test.YtncjlehibolekaaGreatDoorRunC
import Derived.Test.YtncjlehibolekaaGreatDoorRunO3
set_option autoImplicit false
set_option linter.unusedVariables false
set_option linter.unusedSimpArgs false
set_option linter.unusedSectionVars false
namespace Go.Proofs.YtncjlehibolekaaGreatDoor.Run
open Go Go.Vm Go.ChangeShapes Go.WideShapes Go.ChangeAt Go.RowKit Cm
open Go.Proofs.YtncjlehibolekaaGreatDoor

noncomputable def memoA : Memo := fun f => if f = 7 then some (fun k => match k with | [] => some (.bool true) | _ => none) else none
theorem memoA_ok : MemoOK Tryz.prog memoA := by
  intro f g key v h hk
  unfold memoA at h
  split at h
  · rename_i hf
    subst hf
    injection h with h; subst h
    cases key with
    | nil => injection hk with hk; subst hk; exact examples_known
    | cons _ _ => cases hk
  · cases h
theorem memoA_plain : Cm.Plain3 memoA := by
  constructor <;> first | rfl | exact ⟨_, rfl, rfl⟩
set_option maxRecDepth 100000 in
theorem contract (H : Type) (enc : TypeId × Value → H) (W : World) (base : Nat) (args : Array Value) (ds gs : List (DataW H)) (before : List MemPlace)
    (hval : ∀ (j : Nat) t v, Tryz.f3.params[j]? = some t → args[j]? = some v → Value.okWide Tryz.prog W .any base t v)
    (hW : DataW.Whole enc Tryz.prog Tryz.f3.params.toList Rows.constantSubstMatchesSpec.vars false W args.toList ds gs before) (hL : laidMetH Tryz.prog laid4 W) (hs : Rows.uptoBulkAll (ds ++ gs) ≤ 1048576) :
    Calls Tryz.prog 3 args W fun e W' => ∃ v, e = .returned v ∧ Rows.constantSubstMatchesSpec.post enc Tryz.prog Tryz.f3 false true false false W args v W' := by
  have hW' := hW
  have hlt : ∀ p ∈ before, p.block < W.heap.size := hW.lt
  obtain ⟨p, q, hA0, hV, rfl, hfz, hnd⟩ := hW
  have hA : DataW.TrodAll enc Tryz.prog W 0 (fun _ => true) true Tryz.f3.params.toList args.toList ds p := hA0
  obtain ⟨rfl, rfl⟩ := trodVars_none hV
  have hAA := hA
  simp only [List.append_nil] at hW' hlt hs
  clear hA0
  rw [Tryz.params3] at hA hval
  obtain ⟨v0, vs0, d0, ds0, p0, q0, hargs, rfl, rfl, h0, r0⟩ := trodAll_cons hA
  obtain ⟨v1, vs1, d1, ds1, p1, q1, rfl, rfl, rfl, h1, r1⟩ := trodAll_cons r0
  obtain ⟨rfl, rfl, rfl⟩ := trodAll_nil r1
  obtain rfl : args = #[v0, v1] := by cases args; simp_all
  obtain ⟨n0, c0, u0, a0, b0, e0⟩ := argV Cm.tys_ok (t := 27) (by simp [Cm.tys]) (hval 0 27 v0 rfl rfl) h0
  simp only [Tryz.underlying27] at e0
  subst e0
  obtain ⟨n1, c1, u1, a1, b1, e1⟩ := argV Cm.tys_ok (t := 28) (by simp [Cm.tys]) (hval 1 28 v1 rfl rfl) h1
  simp only [Tryz.underlying28] at e1
  subst e1
  obtain ⟨x, hx, hn⟩ := Cm.a27 n0 d0 c0 a0
  obtain ⟨w1, L1, rs1, hv1, hr1, hL1⟩ := Cm.a28 a1
  injection hv1 with hv1; subst hv1
  have hnb : Cm.nodes x ≤ 1048576 := by simp only [Rows.uptoBulkAll] at hs; omega
  obtain ⟨g, hrun⟩ := Cm.match_run memoA_plain (l := []) hx hr1 hL1 (by omega) (Cm.nodes x + 3000000) (Nat.le_refl _)
  refine (walk_run mix memoA_ok hrun (globs hL) (.cons _ _ _ _ b0 (.cons _ _ _ _ b1 .nil))).mono fun e W' ⟨he, hg, hkeep⟩ => ?_
  subst he
  exact ⟨_, rfl, post_of_same (pv := []) hW' (fun _ _ _ => (trodAll_cons_mk (shut_bool Tryz.underlying4 _) trodAll_mk0)) (fun sp hsp => args_again r_out r_maps r_full r_types hAA hlt hkeep sp hsp) (fun _ _ => rfl) (by simp)
    (hg.frame _) hg.2.1 (ok_one (by kernel_rfl) rfl (okWide_bool_mk Tryz.underlying4 _))⟩

def wArgs : Array Value := #[.agg #[.int .u8 0, .string ⟨#[]⟩, .slice none 0 0, .bool false, .slice none 0 0, .int .i64 0, .int .i64 0, .bool false], .slice none 0 0]
theorem w_reads (os : Os) {H : Type} (enc : TypeId × Value → H) : ∃ places, DataW.whole enc Tryz.prog ((World.doorLaid Tryz.prog 400 os).forCall (fun _ _ => 0) ⟨#[], wArgs, []⟩).memory Tryz.f3.params.toList Rows.constantSubstMatchesSpec.vars false wArgs.toList 8
    = some ([.agg [.lit (.int .u8 0), .lit (.string []), .agg [.nil, .lit (.bool false)], .nil, .lit (.int .i64 0), .lit (.int .i64 0), .lit (.bool false)], .nil], [], places) := ⟨[], by kernel_rfl⟩
set_option maxRecDepth 100000 in
theorem lifted (os : Os) (started : os.Started) (H : Type) (enc : TypeId × Value → H) (F : Stop.Interp) :
    ReturnsInHanded {} Tryz.checked os 3 .any ((Rows.OpenSpec.upto Rows.constantSubstMatchesSpec).preRow enc Tryz.prog Tryz.f3 Rows.constantSubstMatchesUptoRow.domain false Rows.constantSubstMatchesUptoRow.laid) (((Rows.OpenSpec.upto Rows.constantSubstMatchesSpec).at F).post enc Tryz.prog Tryz.f3 false true false false) := by
  obtain ⟨places, hx⟩ := w_reads os enc
  refine returnsInHanded_of_row (C := Tryz.checked) (s := Rows.OpenSpec.upto Rows.constantSubstMatchesSpec) own started (by kernel_rfl) Tryz.func3
    (witness_row_atRef (enc := enc) (C := Tryz.checked) false (World.doorLaid Tryz.prog 400 os) wArgs rfl (by kernel_rfl) (by kernel_rfl) (by kernel_rfl)
      (OpenSpec.preRow_of_cond 8 hx (by kernel_rfl) (fun k hk => by cases hk; kernel_rfl) (by kernel_rfl) (door_met os wArgs))) ?_
  intro W base args ds gs before hval hW _ hcond _ hL _ _
  exact contract H enc W base args ds gs before hval hW hL (of_decide_eq_true (hcond _ rfl))
end Go.Proofs.YtncjlehibolekaaGreatDoor.Run
