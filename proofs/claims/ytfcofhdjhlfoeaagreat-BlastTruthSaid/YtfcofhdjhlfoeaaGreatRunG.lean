/- BlastTruth returns true for any number and any bytes, whatever memory it is called in: the given statement. Conditions: none beyond the row's own. -/
import Derived.Test.YtfcofhdjhlfoeaaGreatRows
import Derived.WalkKit
import Derived.ProofKit
import Derived.OpenShut
import Derived.Test.YtfcofhdjhlfoeaaGreatVm6
import Derived.Test.YtfcofhdjhlfoeaaGreatRunC
import Derived.Test.YtfcofhdjhlfoeaaGreatRunF
import Derived.Test.YtfcofhdjhlfoeaaGreatRunH
import Derived.Test.YtfcofhdjhlfoeaaGreatRunJ
set_option autoImplicit false
set_option linter.unusedVariables false
namespace Go.Proofs.YtfcofhdjhlfoeaaGreat.Run
open Go Go.Vm Go.ChangeShapes Go.WideShapes Go.ChangeAt Go.RowKit
open Go.Proofs.YtfcofhdjhlfoeaaGreat
theorem o_named : Tryz.pinned.checked.prog.funcNamed Rows.blastTruthRow.func = some 3 := by kernel_rfl
theorem o_inst : Func.isInstance Tryz.pinned.checked.prog Tryz.f3 Rows.blastTruthRow.origin Rows.blastTruthRow.targs := of_decide_eq_true (by kernel_rfl)
theorem o_wrap : Func.isWrapper Tryz.pinned.checked.prog Tryz.f3 Rows.blastTruthRow.wrapper Rows.blastTruthRow.mainSum := by
  unfold Func.isWrapper; first | (rw [if_pos (by decide +kernel)]; kernel_rfl) | (rw [if_neg (by decide +kernel)]; exact ⟨rfl, rfl⟩)
/-- The statement. -/
theorem blastTruth_holds : Rows.BlastTruthSaid :=
  OpenClaim.holds_of_wide 3 Tryz.f3 rfl rfl rfl rfl rfl rfl rfl ⟨rfl, rfl, rfl, rfl, rfl⟩ rfl rfl rfl rfl rfl o_named Tryz.func3 o_joined o_inst o_wrap
    (fun os started H enc _ => lifted os started H enc)
end Go.Proofs.YtfcofhdjhlfoeaaGreat.Run
#print axioms Go.Proofs.YtfcofhdjhlfoeaaGreat.Run.blastTruth_holds
