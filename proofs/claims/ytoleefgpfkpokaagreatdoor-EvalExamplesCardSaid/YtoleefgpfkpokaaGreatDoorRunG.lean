/- EvalExamples returns true, whatever memory it is called in: the tied card of the given statement. Conditions: none beyond the card's own (the four laid tables of package bit, tied to the program's text). -/
import Derived.Test.YtoleefgpfkpokaaGreatDoorRows
import Derived.Test.YtoleefgpfkpokaaGreatDoorCards
import Derived.Test.YtoleefgpfkpokaaGreatDoorTie
import Derived.WalkKit
import Derived.ProofKit
import Derived.OpenShut
import Derived.LaidMore
import Derived.Stop.Joined
import Derived.Lib.LaidTab
import Derived.Stop.LaidErr
import Derived.MakeChecks
import Derived.Test.YtoleefgpfkpokaaGreatDoorVm6
import Derived.Test.YtoleefgpfkpokaaGreatDoorRunC
import Derived.Test.YtoleefgpfkpokaaGreatDoorRunF
import Derived.Test.YtoleefgpfkpokaaGreatDoorRunJ
set_option autoImplicit false
set_option linter.unusedVariables false
namespace Go.Proofs.YtoleefgpfkpokaaGreatDoor.Run
open Go Go.Vm Go.ChangeShapes Go.WideShapes Go.ChangeAt Go.RowKit
open Go.Proofs.YtoleefgpfkpokaaGreatDoor
theorem o_named : Tryz.pinned.checked.prog.funcNamed Rows.evalExamplesRow.func = some 3 := by kernel_rfl
theorem o_inst : Func.isInstance Tryz.pinned.checked.prog Tryz.f3 Rows.evalExamplesRow.origin Rows.evalExamplesRow.targs := of_decide_eq_true (by kernel_rfl)
theorem o_wrap : Func.isWrapper Tryz.pinned.checked.prog Tryz.f3 Rows.evalExamplesRow.wrapper Rows.evalExamplesRow.mainSum := by
  unfold Func.isWrapper; first | (rw [if_pos (by decide +kernel)]; kernel_rfl) | (rw [if_neg (by decide +kernel)]; exact ⟨rfl, rfl⟩)
theorem o_text : OpenClaim.wfByText (OpenSpec.ofChange Rows.evalExamplesSpec) Rows.evalExamplesRow = true := by kernel_rfl
theorem o_main : Tryz.pinned.checked.prog.mainIs = some (true, "4eba3df3af70e514a9a04d77bbc96d4f8bad9c9c4a38865e812ea4dd185e0f0b".toList) := by kernel_rfl
theorem o_looks : false = Tryz.pinned.checked.prog.looks [] := by kernel_rfl
theorem o_goes : false = Rows.evalExamplesRow.goesBy Tryz.pinned.checked.prog := by kernel_rfl

theorem over : Rows.evalExamplesRow.holds Tryz.pinned (OpenSpec.ofChange Rows.evalExamplesSpec) :=
  OpenClaim.holds_of_wide 3 Tryz.f3 rfl rfl rfl rfl rfl rfl rfl ⟨rfl, rfl, rfl, rfl, rfl⟩ rfl rfl rfl rfl rfl o_named Tryz.func3 o_joined o_inst o_wrap
    (fun os started H enc _ => lifted examples_known os started H enc)
theorem card_holds : Rows.EvalExamplesCardSaid :=
  Claim7.holds_tied_plain_at .later [] [.data, .data, .data, .data] true (true, "4eba3df3af70e514a9a04d77bbc96d4f8bad9c9c4a38865e812ea4dd185e0f0b") false
    over (fun _ h => by cases h) o_text (fun _ h => by cases h) evalExamples_row_tie rfl ⟨rfl, rfl⟩ o_main rfl
    (fun f fn hf hfn => by
      obtain rfl : f = 3 := Option.some.inj (o_named.symm.trans hf) |>.symm
      obtain rfl : fn = Tryz.f3 := (Option.some.inj (Tryz.func3.symm.trans hfn)).symm
      exact ⟨o_looks, fun j t ht => by
        rw [Tryz.params3] at ht
        simp at ht⟩)
    o_goes
/-- The statement. -/
theorem evalExamples_holds : Rows.EvalExamplesCardSaid := card_holds
end Go.Proofs.YtoleefgpfkpokaaGreatDoor.Run
#print axioms Go.Proofs.YtoleefgpfkpokaaGreatDoor.Run.evalExamples_holds
