/- The walk of BlastTruth: what the program's types are. No statement of its own. -/
import Derived.Test.YtfcofhdjhlfoeaaGreatRows
import Derived.WalkKit
import Derived.ProofKit
import Derived.OpenShut
import Derived.Test.YtfcofhdjhlfoeaaGreatVm6
import Derived.Test.YtfcofhdjhlfoeaaGreatRunA
set_option autoImplicit false
set_option linter.unusedVariables false
set_option linter.unusedSimpArgs false
set_option linter.unusedSectionVars false
namespace Go.Proofs.YtfcofhdjhlfoeaaGreat.Run
open Go Go.Vm Go.ChangeShapes Go.WideShapes Go.ChangeAt Go.RowKit
open Go.Proofs.YtfcofhdjhlfoeaaGreat

theorem own : ownKnob Tryz.prog.godebug = none := by kernel_rfl
theorem globs {W : World} : ∀ (g : Nat), Rel (stillW W) (Gl.gl g) (.pointer (some ⟨g, 0, none⟩)) := fun _ => .any _
theorem r_out : laidOutB Tryz.prog = true := by kernel_rfl
theorem r_maps : mapsRowed Tryz.prog = true := by kernel_rfl
theorem r_full : ((List.range Tryz.prog.types.size).all fun t => match Tryz.prog.underlying t with | some (.slice e) => decide (0 < Tryz.prog.cellsOf e) | _ => true) = true := by kernel_rfl
theorem r_types : ∀ t ∈ Tryz.f3.params.toList, t < Tryz.prog.types.size := by
  have h : (Tryz.f3.params.toList.all fun t => decide (t < Tryz.prog.types.size)) = true := by kernel_rfl
  intro t ht
  exact of_decide_eq_true (List.all_eq_true.1 h t ht)
def wArgs : Array Value := #[.int .u64 0, .slice none 0 0]
set_option maxRecDepth 100000 in
theorem witness (os : Os) (H : Type) (enc : TypeId × Value → H) : ∃ (w : World) (tape : Tape) (i : Input), w.os = os ∧ (w.forCall tape i).Shaped Tryz.checked.prog ∧ i.vars = [] ∧ Input.okWide Tryz.checked.prog (w.forCall tape i) .any w.heap.size 3 i ∧
      Rows.blastTruthSpec.pre6 enc Tryz.checked.prog Tryz.f3 Rows.blastTruthRow.domain false (w.forCall tape i).memory i.args ∧ ({ modest := false } : Assume).holds Tryz.checked.prog (lone (Frame.enter Tryz.checked.prog 3 i.args .normal) [] (w.forCall tape i)) :=
  ChangeSpec.witness6 (enc := enc) (C := Tryz.checked) false ⟨#[], wArgs, []⟩ 8 (by kernel_rfl) (by kernel_rfl) (by kernel_rfl) (by kernel_rfl)
end Go.Proofs.YtfcofhdjhlfoeaaGreat.Run
