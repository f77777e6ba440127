/- BlastExamples returns true, whatever memory it is called in: the given statement. Conditions: none beyond the row's own. -/
import Derived.Test.YtdplokgeieccjaaGreatRows
import Derived.WalkKit
import Derived.ProofKit
import Derived.OpenShut
import Derived.Test.YtdplokgeieccjaaGreatVm5
import Derived.Test.YtdplokgeieccjaaGreatRunC
import Derived.Test.YtdplokgeieccjaaGreatRunF
import Derived.Test.YtdplokgeieccjaaGreatRunJ
set_option autoImplicit false
set_option linter.unusedVariables false
namespace Go.Proofs.YtdplokgeieccjaaGreat.Run
open Go Go.Vm Go.ChangeShapes Go.WideShapes Go.ChangeAt Go.RowKit
open Go.Proofs.YtdplokgeieccjaaGreat
theorem o_named : Tryz.pinned.checked.prog.funcNamed Rows.blastExamplesRow.func = some 3 := by kernel_rfl
theorem o_inst : Func.isInstance Tryz.pinned.checked.prog Tryz.f3 Rows.blastExamplesRow.origin Rows.blastExamplesRow.targs := of_decide_eq_true (by kernel_rfl)
theorem o_wrap : Func.isWrapper Tryz.pinned.checked.prog Tryz.f3 Rows.blastExamplesRow.wrapper Rows.blastExamplesRow.mainSum := by
  unfold Func.isWrapper; first | (rw [if_pos (by decide +kernel)]; kernel_rfl) | (rw [if_neg (by decide +kernel)]; exact ⟨rfl, rfl⟩)
/-- The statement. -/
theorem blastExamples_holds : Rows.BlastExamplesSaid :=
  OpenClaim.holds_of_wide 3 Tryz.f3 rfl rfl rfl rfl rfl rfl rfl ⟨rfl, rfl, rfl, rfl, rfl⟩ rfl rfl rfl rfl rfl o_named Tryz.func3 o_joined o_inst o_wrap
    (fun os started H enc _ => lifted examples_known os started H enc)
end Go.Proofs.YtdplokgeieccjaaGreat.Run
