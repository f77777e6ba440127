/- CodeStepAny returns true for any operation, numbers and thread, whatever memory it is called in: the tied card of the given statement. Conditions: none beyond the card's own (the four laid tables of package bit, tied to the program's text). -/
import Derived.Test.YtdhnlpgamopfeaaGreatDoorRows
import Derived.Test.YtdhnlpgamopfeaaGreatDoorCards
import Derived.Test.YtdhnlpgamopfeaaGreatDoorTie
import Derived.WalkKit
import Derived.ProofKit
import Derived.OpenShut
import Derived.LaidMore
import Derived.Stop.Joined
import Derived.Lib.LaidTab
import Derived.Stop.LaidErr
import Derived.MakeChecks
import Derived.Test.YtdhnlpgamopfeaaGreatDoorVm6
import Derived.Test.YtdhnlpgamopfeaaGreatDoorRunC
import Derived.Test.YtdhnlpgamopfeaaGreatDoorRunF
import Derived.Test.YtdhnlpgamopfeaaGreatDoorRunH
import Derived.Test.YtdhnlpgamopfeaaGreatDoorRunJ
set_option autoImplicit false
set_option linter.unusedVariables false
namespace Go.Proofs.YtdhnlpgamopfeaaGreatDoor.Run
open Go Go.Vm Go.ChangeShapes Go.WideShapes Go.ChangeAt Go.RowKit
open Go.Proofs.YtdhnlpgamopfeaaGreatDoor
theorem o_named : Tryz.pinned.checked.prog.funcNamed Rows.codeStepAnyRow.func = some 3 := by kernel_rfl
theorem o_inst : Func.isInstance Tryz.pinned.checked.prog Tryz.f3 Rows.codeStepAnyRow.origin Rows.codeStepAnyRow.targs := of_decide_eq_true (by kernel_rfl)
theorem o_wrap : Func.isWrapper Tryz.pinned.checked.prog Tryz.f3 Rows.codeStepAnyRow.wrapper Rows.codeStepAnyRow.mainSum := by
  unfold Func.isWrapper; first | (rw [if_pos (by decide +kernel)]; kernel_rfl) | (rw [if_neg (by decide +kernel)]; exact ⟨rfl, rfl⟩)
theorem o_text : OpenClaim.wfByText (OpenSpec.ofChange Rows.codeStepAnySpec) Rows.codeStepAnyRow = true := by kernel_rfl
theorem o_main : Tryz.pinned.checked.prog.mainIs = some (true, "befb77e1ee0ed91074ea3721e22ed08b8694545500b9a1dd157e82de466732c0".toList) := by kernel_rfl
theorem o_looks : false = Tryz.pinned.checked.prog.looks [] := by kernel_rfl
theorem goes_none {P : Program} (h : P.funcs.toList.all (fun fn => !fn.goes) = true) (c : OpenClaim) : false = c.goesBy P := by
  have hf : ∀ fn ∈ P.funcs.toList, fn.goes = false := fun fn hm => by simpa using List.all_eq_true.1 h fn hm
  have hg : ∀ f, P.goes f = false := by
    intro f
    have h1 : ((P.closure f).any fun g => (P.funcs[g]?).any Func.goes) = false := by
      rw [List.any_eq_false]
      intro g _
      cases hx : P.funcs[g]? with
      | none => simp
      | some fn => simp only [Option.any_some]; rw [hf fn (by simpa using Array.mem_of_getElem? hx)]; simp
    have h2 : P.funcs.any Func.goes = false := by
      rw [← Array.any_toList, List.any_eq_false]
      intro fn hm; rw [hf fn hm]; simp
    unfold Program.goes
    rw [h1, h2, Bool.and_false]; rfl
  unfold OpenClaim.goesBy Program.goesAt Program.goesFrom
  have h3 : (P.funcNamed c.func).any P.goes = false := by
    cases P.funcNamed c.func with
    | none => rfl
    | some f => simp [hg]
  have h4 : P.inits.toList.any P.goes = false := by rw [List.any_eq_false]; intro f _; rw [hg]; simp
  rw [h3]
  cases c.start <;> simp [h4]
theorem o_goes : false = Rows.codeStepAnyRow.goesBy Tryz.pinned.checked.prog := goes_none (by kernel_rfl) _

theorem over : Rows.codeStepAnyRow.holds Tryz.pinned (OpenSpec.ofChange Rows.codeStepAnySpec) :=
  OpenClaim.holds_of_wide 3 Tryz.f3 rfl rfl rfl rfl rfl rfl rfl ⟨rfl, rfl, rfl, rfl, rfl⟩ rfl rfl rfl rfl rfl o_named Tryz.func3 o_joined o_inst o_wrap
    (fun os started H enc _ => lifted os started H enc)
theorem card_holds : Rows.CodeStepAnyCardSaid :=
  Claim7.holds_tied_plain_at .later [] [.data, .data, .data, .data] true (true, "befb77e1ee0ed91074ea3721e22ed08b8694545500b9a1dd157e82de466732c0") false
    over (fun _ h => by cases h) o_text (fun _ h => by cases h) codeStepAny_row_tie rfl ⟨rfl, rfl⟩ o_main rfl
    (fun f fn hf hfn => by
      obtain rfl : f = 3 := Option.some.inj (o_named.symm.trans hf) |>.symm
      obtain rfl : fn = Tryz.f3 := (Option.some.inj (Tryz.func3.symm.trans hfn)).symm
      refine ⟨o_looks, fun j t ht => ?_⟩
      have hall : (Tryz.f3.params.all fun t => !Tryz.prog.wantsStandIn t) = true := by kernel_rfl
      have := Array.all_eq_true_iff_forall_mem.1 hall t (Array.mem_of_getElem? ht)
      have h2 : Tryz.prog.wantsStandIn t = false := by simpa using this
      exact h2)
    o_goes
/-- The statement. -/
theorem codeStepAny_holds : Rows.CodeStepAnyCardSaid := card_holds
end Go.Proofs.YtdhnlpgamopfeaaGreatDoor.Run
#print axioms Go.Proofs.YtdhnlpgamopfeaaGreatDoor.Run.codeStepAny_holds
