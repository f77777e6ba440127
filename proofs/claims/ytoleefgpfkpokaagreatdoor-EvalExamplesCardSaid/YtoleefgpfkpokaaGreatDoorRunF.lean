/- The walk of EvalExamples, lifted; its premise is the known answer. -/
import Derived.Test.YtoleefgpfkpokaaGreatDoorRows
import Derived.Test.YtoleefgpfkpokaaGreatDoorCards
import Derived.Test.YtoleefgpfkpokaaGreatDoorTie
import Derived.WalkKit
import Derived.ProofKit
import Derived.OpenShut
import Derived.LaidMore
import Derived.Stop.Joined
import Derived.Lib.LaidTab
import Derived.Stop.LaidErr
import Derived.MakeChecks
import Derived.Test.YtoleefgpfkpokaaGreatDoorVm6
import Derived.Test.YtoleefgpfkpokaaGreatDoorRunA
set_option autoImplicit false
set_option linter.unusedVariables false
set_option linter.unusedSimpArgs false
set_option linter.unusedSectionVars false
namespace Go.Proofs.YtoleefgpfkpokaaGreatDoor.Run
open Go Go.Vm Go.ChangeShapes Go.WideShapes Go.ChangeAt Go.RowKit
open Go.Proofs.YtoleefgpfkpokaaGreatDoor

abbrev laid4 : List (String × DataW Unit) := [("netlab/bit.ands", Rows.laid_netlab_bit_ands), ("netlab/bit.ors", Rows.laid_netlab_bit_ors), ("netlab/bit.xors", Rows.laid_netlab_bit_xors), ("netlab/bit.nots", Rows.laid_netlab_bit_nots)]
theorem own : ownKnob Tryz.prog.godebug = none := by kernel_rfl
theorem door_met (os : Os) (args : Array Value) : laidMetH Tryz.prog laid4 ((World.doorLaid Tryz.prog 400 os).forCall (fun _ _ => 0) ⟨#[], args, []⟩).memory :=
  laidMetH_of_parts3 (fuel := 8) (laidMet_of_run' 8 (by kernel_rfl) (by kernel_rfl)) (by kernel_rfl) (by kernel_rfl)
def zOrs : List Int := [0,1,2,2,1,1,1,1,2,1,2,2,2,1,2,2]
def zNots : List Int := [1,0,2,2]
def zAnds : List Int := [0,0,0,0,0,1,2,2,0,2,2,2,0,2,2,2]
def zXors : List Int := [0,1,2,2,1,0,2,2,2,2,2,2,2,2,2,2]
theorem gOrs : Tryz.prog.globalNamed "netlab/bit.ors" = some 0 := by kernel_rfl
theorem gNots : Tryz.prog.globalNamed "netlab/bit.nots" = some 1 := by kernel_rfl
theorem gAnds : Tryz.prog.globalNamed "netlab/bit.ands" = some 2 := by kernel_rfl
theorem gXors : Tryz.prog.globalNamed "netlab/bit.xors" = some 3 := by kernel_rfl
theorem tOrs : (Tryz.prog.globals[0]?).map (·.type) = some 194 := by kernel_rfl
theorem tNots : (Tryz.prog.globals[1]?).map (·.type) = some 256 := by kernel_rfl
theorem tAnds : (Tryz.prog.globals[2]?).map (·.type) = some 194 := by kernel_rfl
theorem tXors : (Tryz.prog.globals[3]?).map (·.type) = some 194 := by kernel_rfl
theorem c194 : Tryz.prog.cellsOf 194 = 16 := by kernel_rfl
theorem c256 : Tryz.prog.cellsOf 256 = 4 := by kernel_rfl
theorem c72 : Tryz.prog.cellsOf 72 = 1 := by kernel_rfl
theorem globs {W : World} (h : laidMetH Tryz.prog laid4 W) : ∀ (g : Nat), Rel (stillW W) (Gl.gl g) (.pointer (some ⟨g, 0, none⟩)) := by
  rw [MakeChecks.laidMetH_plain _ _ _ (by kernel_rfl)] at h
  have h1 : Lib.TabIs Tryz.prog W "netlab/bit.ands" .u8 zAnds := Lib.tabIs_of_head gAnds tAnds Tryz.underlying194 Tryz.underlying72 c72 c194 h
  have h := h.tail
  have h0 : Lib.TabIs Tryz.prog W "netlab/bit.ors" .u8 zOrs := Lib.tabIs_of_head gOrs tOrs Tryz.underlying194 Tryz.underlying72 c72 c194 h
  have h := h.tail
  have h3 : Lib.TabIs Tryz.prog W "netlab/bit.xors" .u8 zXors := Lib.tabIs_of_head gXors tXors Tryz.underlying194 Tryz.underlying72 c72 c194 h
  have h := h.tail
  have h2 : Lib.TabIs Tryz.prog W "netlab/bit.nots" .u8 zNots := Lib.tabIs_of_head gNots tNots Tryz.underlying256 Tryz.underlying72 c72 c256 h
  have tab : ∀ {name : String} {zs : List Int} {g : Nat}, Lib.TabIs Tryz.prog W name .u8 zs → Tryz.prog.globalNamed name = some g → Rel (stillW W) (.ipt (zs.map (.int .u8))) (.pointer (some ⟨g, 0, none⟩)) := by
    intro name zs g ht hg
    refine rel_table fun i z hz => ?_
    have hi : i < zs.length := (List.getElem?_eq_some_iff.1 hz).1
    have := ht.cell hg i hi
    rw [this, List.getD_eq_getElem?_getD, hz]; rfl
  intro g
  match g with
  | 0 => exact tab h0 gOrs
  | 1 => exact tab h2 gNots
  | 2 => exact tab h1 gAnds
  | 3 => exact tab h3 gXors
  | _ + 4 => exact .any _

section
variable (known : Known Tryz.prog 3 [] (.bool true))
include known
set_option maxRecDepth 100000 in
theorem lifted (os : Os) (started : os.Started) (H : Type) (enc : TypeId × Value → H) :
    ReturnsInHanded {} Tryz.checked os 3 .any (fun w args => (Rows.evalExamplesSpec.pre enc Tryz.prog Tryz.f3 [] false w args ∧ laidMetH Tryz.prog laid4 w) ∧ sizedMet enc Tryz.prog Tryz.f3 (OpenSpec.ofChange Rows.evalExamplesSpec) false w args)
      (Rows.evalExamplesSpec.post enc Tryz.prog Tryz.f3 false true false false) := by
  refine returnsInHanded_of_change_and (C := Tryz.checked) (X := fun w _ => laidMetH Tryz.prog laid4 w) (fun _ _ _ hh h => h.of_heap hh) own started (by kernel_rfl) Tryz.func3
    (ChangeSpec.witness_shaped (enc := enc) (C := Tryz.checked) (os := os) (X := fun w _ => laidMetH Tryz.prog laid4 w) false (World.doorLaid Tryz.prog 400 os) #[] 8 rfl (World.shaped_of_RefB (by kernel_rfl) (by kernel_rfl)) (by kernel_rfl) (by kernel_rfl) (by kernel_rfl) (door_met os _)) ?_
  intro W base args ds gs before hval0 hW _ _ hL _
  have hval : ∀ (j : Nat) t v, Tryz.f3.params[j]? = some t → args[j]? = some v → Value.okWide Tryz.prog W .any base t v := hval0
  have hW' := hW
  obtain ⟨p, q, hA0, hV, rfl, hfz, hnd⟩ := hW
  have hA : DataW.TrodAll enc Tryz.prog W 0 (fun _ => true) true Tryz.f3.params.toList args.toList ds p := hA0
  rw [Tryz.params3] at hA hval
  obtain ⟨rfl, rfl, rfl⟩ := trodAll_none hA
  obtain ⟨rfl, rfl⟩ := trodVars_none hV
  clear hA0 hval0
  simp only [List.append_nil] at hW'
  refine (walk_true mix known (globs hL)).mono fun e W' ⟨he, hg⟩ => ?_
  subst he
  exact ⟨_, rfl, post_of_same (pa := []) (pv := []) hW' (fun _ _ _ => (trodAll_cons_mk (shut_bool Tryz.underlying4 _) trodAll_mk0)) (fun sp _ => rfl) (fun _ _ => rfl) rfl
    (hg.frame _) hg.2.1 (ok_one (by kernel_rfl) rfl (okWide_bool_mk Tryz.underlying4 _))⟩
end
end Go.Proofs.YtoleefgpfkpokaaGreatDoor.Run
