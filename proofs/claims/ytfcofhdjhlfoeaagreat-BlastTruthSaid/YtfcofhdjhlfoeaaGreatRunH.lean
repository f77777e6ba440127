/- The contract of BlastTruth, lifted: no statement of its own. -/
import Derived.Test.YtfcofhdjhlfoeaaGreatRows
import Derived.WalkKit
import Derived.ProofKit
import Derived.OpenShut
import Derived.Test.YtfcofhdjhlfoeaaGreatVm6
import Derived.Test.YtfcofhdjhlfoeaaGreatRunA
import Derived.Test.YtfcofhdjhlfoeaaGreatRunF
import Derived.Test.YtfcofhdjhlfoeaaGreatRunC
import Derived.Test.YtfcofhdjhlfoeaaGreatRunO3
set_option autoImplicit false
set_option linter.unusedVariables false
set_option linter.unusedSimpArgs false
set_option linter.unusedSectionVars false
namespace Go.Proofs.YtfcofhdjhlfoeaaGreat.Run
open Go Go.Vm Go.ChangeShapes Go.WideShapes Go.ChangeAt Go.RowKit
open Go.Proofs.YtfcofhdjhlfoeaaGreat

theorem awake_kc : KC Tryz.prog Bt.Sp 4 [] := kc_known examples_known rfl rfl rfl
set_option maxRecDepth 100000 in
theorem contract (H : Type) (enc : TypeId × Value → H) (W : World) (base : Nat) (args : Array Value) (ds gs : List (DataW H)) (before : List MemPlace)
    (hval : ∀ (j : Nat) t v, Tryz.f3.params[j]? = some t → args[j]? = some v → Value.okWide Tryz.prog W .any base t v)
    (hW : DataW.Whole enc Tryz.prog Tryz.f3.params.toList Rows.blastTruthSpec.vars false W args.toList ds gs before) :
    Calls Tryz.prog 3 args W fun e W' => ∃ v, e = .returned v ∧ Rows.blastTruthSpec.post enc Tryz.prog Tryz.f3 false true false false W args v W' := by
  have hW' := hW
  have hlt : ∀ p ∈ before, p.block < W.heap.size := hW.lt
  obtain ⟨p, q, hA0, hV, rfl, hfz, hnd⟩ := hW
  have hA : DataW.TrodAll enc Tryz.prog W 0 (fun _ => true) true Tryz.f3.params.toList args.toList ds p := hA0
  obtain ⟨rfl, rfl⟩ := trodVars_none hV
  have hAA := hA
  simp only [List.append_nil] at hW' hlt
  clear hA0
  rw [Tryz.params3] at hA hval
  obtain ⟨v0, vs0, d0, ds0, p0, q0, hargs, rfl, rfl, h0, r0⟩ := trodAll_cons hA
  obtain ⟨v1, vs1, d1, ds1, p1, q1, rfl, rfl, rfl, h1, r1⟩ := trodAll_cons r0
  obtain ⟨rfl, rfl, rfl⟩ := trodAll_nil r1
  obtain rfl : args = #[v0, v1] := by cases args; simp_all
  obtain ⟨n0, c0, u0, a0, b0, e0⟩ := argV Bt.tys_ok (t := 22) (by simp [Bt.tys]) (hval 0 22 v0 rfl rfl) h0
  simp only [Tryz.underlying22] at e0
  obtain ⟨n1, c1, u1, a1, b1, e1⟩ := argV Bt.tys_ok (t := 23) (by simp [Bt.tys]) (hval 1 23 v1 rfl rfl) h1
  simp only [Tryz.underlying23] at e1
  obtain ⟨x, hc0⟩ := Bt.a22 a0
  rw [hc0] at e0; injection e0 with e0; subst e0
  obtain ⟨vL, us, hc1, hr, hcl⟩ := Bt.a23 a1
  rw [hc1] at e1; injection e1 with e1; subst e1
  refine (walk_kc Bt.mix (Bt.law_kc awake_kc hr hcl) (fun v h => h) globs (.cons _ _ _ _ b0 (.cons _ _ _ _ b1 .nil))).mono fun e W' ⟨he, hg, hkeep⟩ => ?_
  subst he
  exact ⟨_, rfl, post_of_same (pv := []) hW' (fun _ _ _ => (trodAll_cons_mk (shut_bool Tryz.underlying4 _) trodAll_mk0)) (fun sp hsp => args_again r_out r_maps r_full r_types hAA hlt hkeep sp hsp) (fun _ _ => rfl) (by simp)
    (hg.frame _) hg.2.1 (ok_one (by kernel_rfl) rfl (okWide_bool_mk Tryz.underlying4 _))⟩

set_option maxRecDepth 100000 in
theorem lifted (os : Os) (started : os.Started) (H : Type) (enc : TypeId × Value → H) :
    ReturnsInHanded {} Tryz.checked os 3 .any (Rows.blastTruthSpec.pre6 enc Tryz.prog Tryz.f3 Rows.blastTruthRow.domain false)
      (Rows.blastTruthSpec.post enc Tryz.prog Tryz.f3 false true false false) := by
  refine returnsInHanded_of_change (C := Tryz.checked) own started (by kernel_rfl) Tryz.func3 (witness os H enc) ?_
  intro W base args ds gs before hval hW _ _
  exact contract H enc W base args ds gs before hval hW
end Go.Proofs.YtfcofhdjhlfoeaaGreat.Run
