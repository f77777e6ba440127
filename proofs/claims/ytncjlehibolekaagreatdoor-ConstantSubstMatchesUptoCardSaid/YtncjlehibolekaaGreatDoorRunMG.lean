/- ConstantSubstMatches returns true for every expression and the list, where what it reads is of bulk at most 1048576: the tied card of the second form. -/
import Derived.Test.YtncjlehibolekaaGreatDoorRows
import Derived.Test.YtncjlehibolekaaGreatDoorCards
import Derived.Test.YtncjlehibolekaaGreatDoorTie
import Derived.WalkKit
import Derived.ProofKit
import Derived.OpenShut
import Derived.LaidMore
import Derived.Stop.Joined
import Derived.Lib.LaidTab
import Derived.Stop.LaidErr
import Derived.MakeChecks
import Derived.Test.YtncjlehibolekaaGreatDoorVm6
import Derived.Test.YtncjlehibolekaaGreatDoorRunC
import Derived.Test.YtncjlehibolekaaGreatDoorRunMF
import Derived.Test.YtncjlehibolekaaGreatDoorRunMH
import Derived.Test.YtncjlehibolekaaGreatDoorRunMJ
set_option autoImplicit false
set_option linter.unusedVariables false
namespace Go.Proofs.YtncjlehibolekaaGreatDoor.Run
open Go Go.Vm Go.ChangeShapes Go.WideShapes Go.ChangeAt Go.RowKit
open Go.Proofs.YtncjlehibolekaaGreatDoor
theorem o_named : Tryz.pinned.checked.prog.funcNamed Rows.constantSubstMatchesUptoRow.func = some 3 := by kernel_rfl
theorem o_inst : Func.isInstance Tryz.pinned.checked.prog Tryz.f3 Rows.constantSubstMatchesUptoRow.origin Rows.constantSubstMatchesUptoRow.targs := of_decide_eq_true (by kernel_rfl)
theorem o_wrap : Func.isWrapper Tryz.pinned.checked.prog Tryz.f3 Rows.constantSubstMatchesUptoRow.wrapper Rows.constantSubstMatchesUptoRow.mainSum := by
  unfold Func.isWrapper; first | (rw [if_pos (by decide +kernel)]; kernel_rfl) | (rw [if_neg (by decide +kernel)]; exact ⟨rfl, rfl⟩)
theorem o_text : OpenClaim.wfByText (Rows.OpenSpec.upto Rows.constantSubstMatchesSpec) Rows.constantSubstMatchesUptoRow = true := by kernel_rfl
theorem o_main : Tryz.pinned.checked.prog.mainIs = some (true, "a1c2848f877662eae4e35db98050b85ab8ae3e7a5802d906226a9015a2587352".toList) := by kernel_rfl
theorem o_looks : false = Tryz.pinned.checked.prog.looks [] := by kernel_rfl
theorem o_goes : false = Rows.constantSubstMatchesUptoRow.goesBy Tryz.pinned.checked.prog := by kernel_rfl

theorem row_holds : Rows.ConstantSubstMatchesUptoSaid :=
  OpenClaim.holds_of_cond 3 Tryz.f3 rfl rfl rfl rfl rfl rfl rfl ⟨rfl, rfl, rfl, rfl, rfl⟩ rfl rfl rfl rfl rfl o_named Tryz.func3 o_joined o_inst o_wrap
    (fun os started H enc _ F => by rw [OpenClaim.pre_eq_preRow]; exact lifted os started H enc F)
theorem card_holds : Rows.ConstantSubstMatchesUptoCardSaid :=
  Claim7.holds_tied_plain_at .later [] _ _ _ _ row_holds (fun _ h => by cases h) o_text (fun _ h => by cases h) constantSubstMatchesUpto_row_tie rfl ⟨rfl, rfl⟩ o_main rfl
    (fun f fn hf hfn => by
      obtain rfl : f = 3 := Option.some.inj (o_named.symm.trans hf) |>.symm
      obtain rfl : fn = Tryz.f3 := (Option.some.inj (Tryz.func3.symm.trans hfn)).symm
      refine ⟨o_looks, fun j t ht => ?_⟩
      have hall : (Tryz.f3.params.all fun t => !Tryz.prog.wantsStandIn t) = true := by kernel_rfl
      have := Array.all_eq_true_iff_forall_mem.1 hall t (Array.mem_of_getElem? ht)
      have h2 : Tryz.prog.wantsStandIn t = false := by simpa using this
      exact h2)
    o_goes
/-- The statement. -/
theorem constantSubstMatches_holds : Rows.ConstantSubstMatchesUptoCardSaid := card_holds
end Go.Proofs.YtncjlehibolekaaGreatDoor.Run
#print axioms Go.Proofs.YtncjlehibolekaaGreatDoor.Run.constantSubstMatches_holds
