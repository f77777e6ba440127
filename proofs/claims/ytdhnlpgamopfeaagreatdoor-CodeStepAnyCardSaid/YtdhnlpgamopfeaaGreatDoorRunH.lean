/- The contract of CodeStepAny, lifted: no statement of its own. -/
import Derived.Test.YtdhnlpgamopfeaaGreatDoorRows
import Derived.Test.YtdhnlpgamopfeaaGreatDoorCards
import Derived.Test.YtdhnlpgamopfeaaGreatDoorTie
import Derived.WalkKit
import Derived.ProofKit
import Derived.OpenShut
import Derived.LaidMore
import Derived.Stop.Joined
import Derived.Lib.LaidTab
import Derived.Stop.LaidErr
import Derived.MakeChecks
import Derived.Test.YtdhnlpgamopfeaaGreatDoorVm6
import Derived.Test.YtdhnlpgamopfeaaGreatDoorRunA
import Derived.Deep.DeepWitnessRowRef
import Derived.Test.YtdhnlpgamopfeaaGreatDoorRunF
import Derived.Test.YtdhnlpgamopfeaaGreatDoorRunC
import Derived.Test.YtdhnlpgamopfeaaGreatDoorRunO3
set_option autoImplicit false
set_option linter.unusedVariables false
set_option linter.unusedSimpArgs false
set_option linter.unusedSectionVars false
namespace Go.Proofs.YtdhnlpgamopfeaaGreatDoor.Run
open Go Go.Vm Go.ChangeShapes Go.WideShapes Go.ChangeAt Go.RowKit
open Go.Proofs.YtdhnlpgamopfeaaGreatDoor

theorem awake_kc : KC Tryz.prog Cs.Sp 4 [] := kc_known examples_known rfl rfl rfl
set_option maxRecDepth 100000 in
theorem contract (H : Type) (enc : TypeId × Value → H) (W : World) (base : Nat) (args : Array Value) (ds gs : List (DataW H)) (before : List MemPlace)
    (hval : ∀ (j : Nat) t v, Tryz.f3.params[j]? = some t → args[j]? = some v → Value.okWide Tryz.prog W .any base t v)
    (hW : DataW.Whole enc Tryz.prog Tryz.f3.params.toList Rows.codeStepAnySpec.vars false W args.toList ds gs before) (hL : laidMetH Tryz.prog laid4 W) :
    Calls Tryz.prog 3 args W fun e W' => ∃ v, e = .returned v ∧ Rows.codeStepAnySpec.post enc Tryz.prog Tryz.f3 false true false false W args v W' := by
  have hW' := hW
  have hlt : ∀ p ∈ before, p.block < W.heap.size := hW.lt
  obtain ⟨p, q, hA0, hV, rfl, hfz, hnd⟩ := hW
  have hA : DataW.TrodAll enc Tryz.prog W 0 (fun _ => true) true Tryz.f3.params.toList args.toList ds p := hA0
  obtain ⟨rfl, rfl⟩ := trodVars_none hV
  have hAA := hA
  simp only [List.append_nil] at hW' hlt
  clear hA0
  rw [Tryz.params3] at hA hval
  obtain ⟨v0, vs0, d0, ds0, p0, q0, hargs, rfl, rfl, h0, r0⟩ := trodAll_cons hA
  obtain ⟨v1, vs1, d1, ds1, p1, q1, rfl, rfl, rfl, h1, r1⟩ := trodAll_cons r0
  obtain ⟨v2, vs2, d2, ds2, p2, q2, rfl, rfl, rfl, h2, r2⟩ := trodAll_cons r1
  obtain ⟨v3, vs3, d3, ds3, p3, q3, rfl, rfl, rfl, h3, r3⟩ := trodAll_cons r2
  obtain ⟨v4, vs4, d4, ds4, p4, q4, rfl, rfl, rfl, h4, r4⟩ := trodAll_cons r3
  obtain ⟨rfl, rfl, rfl⟩ := trodAll_nil r4
  obtain rfl : args = #[v0, v1, v2, v3, v4] := by cases args; simp_all
  obtain ⟨n0, c0, u0, a0, b0, e0⟩ := argV Cs.tys_ok (t := 5) (by simp [Cs.tys]) (hval 0 5 v0 rfl rfl) h0
  simp only [Tryz.underlying5] at e0
  obtain ⟨n1, c1, u1, a1, b1, e1⟩ := argV Cs.tys_ok (t := 3) (by simp [Cs.tys]) (hval 1 3 v1 rfl rfl) h1
  simp only [Tryz.underlying3] at e1
  obtain ⟨n2, c2, u2, a2, b2, e2⟩ := argV Cs.tys_ok (t := 3) (by simp [Cs.tys]) (hval 2 3 v2 rfl rfl) h2
  simp only [Tryz.underlying3] at e2
  obtain ⟨n3, c3, u3, a3, b3, e3⟩ := argV Cs.tys_ok (t := 3) (by simp [Cs.tys]) (hval 3 3 v3 rfl rfl) h3
  simp only [Tryz.underlying3] at e3
  obtain ⟨n4, c4, u4, a4, b4, e4⟩ := argV Cs.tys_ok (t := 25) (by simp [Cs.tys]) (hval 4 25 v4 rfl rfl) h4
  simp only [Tryz.underlying25] at e4
  subst e4
  obtain ⟨op, hop, hc0⟩ := Cs.a5 a0
  rw [hc0] at e0; injection e0 with e0; subst e0
  obtain ⟨slot, hc1⟩ := Cs.a3 a1
  rw [hc1] at e1; injection e1 with e1; subst e1
  obtain ⟨pc, hc2⟩ := Cs.a3 a2
  rw [hc2] at e2; injection e2 with e2; subst e2
  obtain ⟨to, hc3⟩ := Cs.a3 a3
  rw [hc3] at e3; injection e3 with e3; subst e3
  obtain ⟨T, hT⟩ := Cs.a25 a4
  refine (walk_kc Cs.mix (Cs.law_kc hT awake_kc hop) (fun v h => h) (globs hL) (.cons _ _ _ _ b0 (.cons _ _ _ _ b1 (.cons _ _ _ _ b2 (.cons _ _ _ _ b3 (.cons _ _ _ _ b4 .nil)))))).mono fun e W' ⟨he, hg, hkeep⟩ => ?_
  subst he
  exact ⟨_, rfl, post_of_same (pv := []) hW' (fun _ _ _ => (trodAll_cons_mk (shut_bool Tryz.underlying4 _) trodAll_mk0)) (fun sp hsp => args_again r_out r_maps r_full r_types hAA hlt hkeep sp hsp) (fun _ _ => rfl) (by simp)
    (hg.frame _) hg.2.1 (ok_one (by kernel_rfl) rfl (okWide_bool_mk Tryz.underlying4 _))⟩

def wArgs : Array Value := #[.int .u8 0, .int .i64 0, .int .i64 0, .int .i64 0, .agg #[.int .i64 0, .slice none 0 0, .slice none 0 0]]
set_option maxRecDepth 100000 in
theorem lifted (os : Os) (started : os.Started) (H : Type) (enc : TypeId × Value → H) :
    ReturnsInHanded {} Tryz.checked os 3 .any (fun w args => (Rows.codeStepAnySpec.pre enc Tryz.prog Tryz.f3 [] false w args ∧ laidMetH Tryz.prog laid4 w) ∧ sizedMet enc Tryz.prog Tryz.f3 (OpenSpec.ofChange Rows.codeStepAnySpec) false w args)
      (Rows.codeStepAnySpec.post enc Tryz.prog Tryz.f3 false true false false) := by
  refine returnsInHanded_of_change_and (C := Tryz.checked) (X := fun w _ => laidMetH Tryz.prog laid4 w) (fun _ _ _ hh h => h.of_heap hh) own started (by kernel_rfl) Tryz.func3
    (ChangeSpec.witness_shaped (enc := enc) (C := Tryz.checked) (os := os) (X := fun w _ => laidMetH Tryz.prog laid4 w) false (World.doorLaid Tryz.prog 400 os) wArgs 8 rfl (World.shaped_of_RefB (by kernel_rfl) (by kernel_rfl)) (by kernel_rfl) (by kernel_rfl) (by kernel_rfl) (door_met os _)) ?_
  intro W base args ds gs before hval hW _ _ hL _
  exact contract H enc W base args ds gs before hval hW hL
end Go.Proofs.YtdhnlpgamopfeaaGreatDoor.Run
