/- CodeExamples returns true, whatever memory it is called in: the tied card of the given statement. Conditions: none beyond the card's own (the four laid tables of package bit, tied to the program's text). -/
import Derived.Test.YtafnalbcjcppmaaGreatDoorRows
import Derived.Test.YtafnalbcjcppmaaGreatDoorCards
import Derived.Test.YtafnalbcjcppmaaGreatDoorTie
import Derived.WalkKit
import Derived.ProofKit
import Derived.OpenShut
import Derived.LaidMore
import Derived.Stop.Joined
import Derived.Lib.LaidTab
import Derived.Stop.LaidErr
import Derived.MakeChecks
import Derived.Test.YtafnalbcjcppmaaGreatDoorVm4
import Derived.Test.YtafnalbcjcppmaaGreatDoorRunC
import Derived.Test.YtafnalbcjcppmaaGreatDoorRunF
import Derived.Test.YtafnalbcjcppmaaGreatDoorRunJ
set_option autoImplicit false
set_option linter.unusedVariables false
namespace Go.Proofs.YtafnalbcjcppmaaGreatDoor.Run
open Go Go.Vm Go.ChangeShapes Go.WideShapes Go.ChangeAt Go.RowKit
open Go.Proofs.YtafnalbcjcppmaaGreatDoor
theorem o_named : Tryz.pinned.checked.prog.funcNamed Rows.codeExamplesRow.func = some 3 := by kernel_rfl
theorem o_inst : Func.isInstance Tryz.pinned.checked.prog Tryz.f3 Rows.codeExamplesRow.origin Rows.codeExamplesRow.targs := of_decide_eq_true (by kernel_rfl)
theorem o_wrap : Func.isWrapper Tryz.pinned.checked.prog Tryz.f3 Rows.codeExamplesRow.wrapper Rows.codeExamplesRow.mainSum := by
  unfold Func.isWrapper; first | (rw [if_pos (by decide +kernel)]; kernel_rfl) | (rw [if_neg (by decide +kernel)]; exact ⟨rfl, rfl⟩)
theorem o_text : OpenClaim.wfByText (OpenSpec.ofChange Rows.codeExamplesSpec) Rows.codeExamplesRow = true := by kernel_rfl
theorem o_main : Tryz.pinned.checked.prog.mainIs = some (true, "a03becc8a202a183ca4cbcf34500c4323d975511cf4e897d844201e0708599ac".toList) := by kernel_rfl
theorem o_looks : false = Tryz.pinned.checked.prog.looks [] := by kernel_rfl
theorem o_goes : false = Rows.codeExamplesRow.goesBy Tryz.pinned.checked.prog := by kernel_rfl

theorem over : Rows.codeExamplesRow.holds Tryz.pinned (OpenSpec.ofChange Rows.codeExamplesSpec) :=
  OpenClaim.holds_of_wide 3 Tryz.f3 rfl rfl rfl rfl rfl rfl rfl ⟨rfl, rfl, rfl, rfl, rfl⟩ rfl rfl rfl rfl rfl o_named Tryz.func3 o_joined o_inst o_wrap
    (fun os started H enc _ => lifted examples_known os started H enc)
theorem card_holds : Rows.CodeExamplesCardSaid :=
  Claim7.holds_tied_plain_at .later [] [.data, .data, .data, .data] true (true, "a03becc8a202a183ca4cbcf34500c4323d975511cf4e897d844201e0708599ac") false
    over (fun _ h => by cases h) o_text (fun _ h => by cases h) codeExamples_row_tie rfl ⟨rfl, rfl⟩ o_main rfl
    (fun f fn hf hfn => by
      obtain rfl : f = 3 := Option.some.inj (o_named.symm.trans hf) |>.symm
      obtain rfl : fn = Tryz.f3 := (Option.some.inj (Tryz.func3.symm.trans hfn)).symm
      exact ⟨o_looks, fun j t ht => by
        rw [Tryz.params3] at ht
        simp at ht⟩)
    o_goes
/-- The statement. -/
theorem codeExamples_holds : Rows.CodeExamplesCardSaid := card_holds
end Go.Proofs.YtafnalbcjcppmaaGreatDoor.Run
#print axioms Go.Proofs.YtafnalbcjcppmaaGreatDoor.Run.codeExamples_holds
