/- ConstantExamples returns true, whatever memory it is called in: the tied card of the given statement. Conditions: none beyond the card's own (the four laid tables of package bit, tied to the program's text). -/
import Derived.Test.YtjbgagafibhgcaaGreatDoorRows
import Derived.Test.YtjbgagafibhgcaaGreatDoorCards
import Derived.Test.YtjbgagafibhgcaaGreatDoorTie
import Derived.WalkKit
import Derived.ProofKit
import Derived.OpenShut
import Derived.LaidMore
import Derived.Stop.Joined
import Derived.Lib.LaidTab
import Derived.Stop.LaidErr
import Derived.MakeChecks
import Derived.Test.YtjbgagafibhgcaaGreatDoorVm5
import Derived.Test.YtjbgagafibhgcaaGreatDoorRunC
import Derived.Test.YtjbgagafibhgcaaGreatDoorRunF
import Derived.Test.YtjbgagafibhgcaaGreatDoorRunJ
set_option autoImplicit false
set_option linter.unusedVariables false
namespace Go.Proofs.YtjbgagafibhgcaaGreatDoor.Run
open Go Go.Vm Go.ChangeShapes Go.WideShapes Go.ChangeAt Go.RowKit
open Go.Proofs.YtjbgagafibhgcaaGreatDoor
theorem o_named : Tryz.pinned.checked.prog.funcNamed Rows.constantExamplesRow.func = some 3 := by kernel_rfl
theorem o_inst : Func.isInstance Tryz.pinned.checked.prog Tryz.f3 Rows.constantExamplesRow.origin Rows.constantExamplesRow.targs := of_decide_eq_true (by kernel_rfl)
theorem o_wrap : Func.isWrapper Tryz.pinned.checked.prog Tryz.f3 Rows.constantExamplesRow.wrapper Rows.constantExamplesRow.mainSum := by
  unfold Func.isWrapper; first | (rw [if_pos (by decide +kernel)]; kernel_rfl) | (rw [if_neg (by decide +kernel)]; exact ⟨rfl, rfl⟩)
theorem o_text : OpenClaim.wfByText (OpenSpec.ofChange Rows.constantExamplesSpec) Rows.constantExamplesRow = true := by kernel_rfl
theorem o_main : Tryz.pinned.checked.prog.mainIs = some (true, "76250d2d61dc88ff7881f30f3720e374db2f9e8aeb648a5ebf6f222c3343d41b".toList) := by kernel_rfl
theorem o_looks : false = Tryz.pinned.checked.prog.looks [] := by kernel_rfl
theorem o_goes : false = Rows.constantExamplesRow.goesBy Tryz.pinned.checked.prog := by kernel_rfl

theorem over : Rows.constantExamplesRow.holds Tryz.pinned (OpenSpec.ofChange Rows.constantExamplesSpec) :=
  OpenClaim.holds_of_wide 3 Tryz.f3 rfl rfl rfl rfl rfl rfl rfl ⟨rfl, rfl, rfl, rfl, rfl⟩ rfl rfl rfl rfl rfl o_named Tryz.func3 o_joined o_inst o_wrap
    (fun os started H enc _ => lifted examples_known os started H enc)
theorem card_holds : Rows.ConstantExamplesCardSaid :=
  Claim7.holds_tied_plain_at .later [] [.data, .data, .data, .data] true (true, "76250d2d61dc88ff7881f30f3720e374db2f9e8aeb648a5ebf6f222c3343d41b") false
    over (fun _ h => by cases h) o_text (fun _ h => by cases h) constantExamples_row_tie rfl ⟨rfl, rfl⟩ o_main rfl
    (fun f fn hf hfn => by
      obtain rfl : f = 3 := Option.some.inj (o_named.symm.trans hf) |>.symm
      obtain rfl : fn = Tryz.f3 := (Option.some.inj (Tryz.func3.symm.trans hfn)).symm
      exact ⟨o_looks, fun j t ht => by
        rw [Tryz.params3] at ht
        simp at ht⟩)
    o_goes
/-- The statement. -/
theorem constantExamples_holds : Rows.ConstantExamplesCardSaid := card_holds
end Go.Proofs.YtjbgagafibhgcaaGreatDoor.Run
#print axioms Go.Proofs.YtjbgagafibhgcaaGreatDoor.Run.constantExamples_holds
