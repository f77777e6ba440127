/- The walk of CodeStepAny: what the program's door and types are. No statement of its own. -/
import Derived.Test.YtdhnlpgamopfeaaGreatDoorRows
import Derived.Test.YtdhnlpgamopfeaaGreatDoorCards
import Derived.Test.YtdhnlpgamopfeaaGreatDoorTie
import Derived.WalkKit
import Derived.ProofKit
import Derived.OpenShut
import Derived.LaidMore
import Derived.Stop.Joined
import Derived.Lib.LaidTab
import Derived.Stop.LaidErr
import Derived.MakeChecks
import Derived.Test.YtdhnlpgamopfeaaGreatDoorVm6
import Derived.Test.YtdhnlpgamopfeaaGreatDoorRunA
set_option autoImplicit false
set_option linter.unusedVariables false
set_option linter.unusedSimpArgs false
set_option linter.unusedSectionVars false
namespace Go.Proofs.YtdhnlpgamopfeaaGreatDoor.Run
open Go Go.Vm Go.ChangeShapes Go.WideShapes Go.ChangeAt Go.RowKit
open Go.Proofs.YtdhnlpgamopfeaaGreatDoor

abbrev laid4 : List (String × DataW Unit) := [("netlab/bit.ands", Rows.laid_netlab_bit_ands), ("netlab/bit.ors", Rows.laid_netlab_bit_ors), ("netlab/bit.xors", Rows.laid_netlab_bit_xors), ("netlab/bit.nots", Rows.laid_netlab_bit_nots)]
theorem own : ownKnob Tryz.prog.godebug = none := by kernel_rfl
theorem door_met (os : Os) (args : Array Value) : laidMetH Tryz.prog laid4 ((World.doorLaid Tryz.prog 400 os).forCall (fun _ _ => 0) ⟨#[], args, []⟩).memory :=
  laidMetH_of_parts3 (fuel := 8) (laidMet_of_run' 8 (by kernel_rfl) (by kernel_rfl)) (by kernel_rfl) (by kernel_rfl)
def zOrs : List Int := [0,1,2,2,1,1,1,1,2,1,2,2,2,1,2,2]
def zNots : List Int := [1,0,2,2]
def zAnds : List Int := [0,0,0,0,0,1,2,2,0,2,2,2,0,2,2,2]
def zXors : List Int := [0,1,2,2,1,0,2,2,2,2,2,2,2,2,2,2]
theorem gOrs : Tryz.prog.globalNamed "netlab/bit.ors" = some 0 := by kernel_rfl
theorem gNots : Tryz.prog.globalNamed "netlab/bit.nots" = some 1 := by kernel_rfl
theorem gAnds : Tryz.prog.globalNamed "netlab/bit.ands" = some 2 := by kernel_rfl
theorem gXors : Tryz.prog.globalNamed "netlab/bit.xors" = some 3 := by kernel_rfl
theorem tOrs : (Tryz.prog.globals[0]?).map (·.type) = some 275 := by kernel_rfl
theorem tNots : (Tryz.prog.globals[1]?).map (·.type) = some 345 := by kernel_rfl
theorem tAnds : (Tryz.prog.globals[2]?).map (·.type) = some 275 := by kernel_rfl
theorem tXors : (Tryz.prog.globals[3]?).map (·.type) = some 275 := by kernel_rfl
theorem c275 : Tryz.prog.cellsOf 275 = 16 := by kernel_rfl
theorem c345 : Tryz.prog.cellsOf 345 = 4 := by kernel_rfl
theorem c85 : Tryz.prog.cellsOf 85 = 1 := by kernel_rfl
theorem globs {W : World} (h : laidMetH Tryz.prog laid4 W) : ∀ (g : Nat), Rel (stillW W) (Gl.gl g) (.pointer (some ⟨g, 0, none⟩)) := by
  rw [MakeChecks.laidMetH_plain _ _ _ (by kernel_rfl)] at h
  have h1 : Lib.TabIs Tryz.prog W "netlab/bit.ands" .u8 zAnds := Lib.tabIs_of_head gAnds tAnds Tryz.underlying275 Tryz.underlying85 c85 c275 h
  have h := h.tail
  have h0 : Lib.TabIs Tryz.prog W "netlab/bit.ors" .u8 zOrs := Lib.tabIs_of_head gOrs tOrs Tryz.underlying275 Tryz.underlying85 c85 c275 h
  have h := h.tail
  have h3 : Lib.TabIs Tryz.prog W "netlab/bit.xors" .u8 zXors := Lib.tabIs_of_head gXors tXors Tryz.underlying275 Tryz.underlying85 c85 c275 h
  have h := h.tail
  have h2 : Lib.TabIs Tryz.prog W "netlab/bit.nots" .u8 zNots := Lib.tabIs_of_head gNots tNots Tryz.underlying345 Tryz.underlying85 c85 c345 h
  have tab : ∀ {name : String} {zs : List Int} {g : Nat}, Lib.TabIs Tryz.prog W name .u8 zs → Tryz.prog.globalNamed name = some g → Rel (stillW W) (.ipt (zs.map (.int .u8))) (.pointer (some ⟨g, 0, none⟩)) := by
    intro name zs g ht hg
    refine rel_table fun i z hz => ?_
    have hi : i < zs.length := (List.getElem?_eq_some_iff.1 hz).1
    have := ht.cell hg i hi
    rw [this, List.getD_eq_getElem?_getD, hz]; rfl
  intro g
  match g with
  | 0 => exact tab h0 gOrs
  | 1 => exact tab h2 gNots
  | 2 => exact tab h1 gAnds
  | 3 => exact tab h3 gXors
  | _ + 4 => exact .any _

theorem r_out : laidOutB Tryz.prog = true := by kernel_rfl
theorem r_maps : mapsRowed Tryz.prog = true := by kernel_rfl
theorem r_full : ((List.range Tryz.prog.types.size).all fun t => match Tryz.prog.underlying t with | some (.slice e) => decide (0 < Tryz.prog.cellsOf e) | _ => true) = true := by kernel_rfl
theorem r_types : ∀ t ∈ Tryz.f3.params.toList, t < Tryz.prog.types.size := by
  have h : (Tryz.f3.params.toList.all fun t => decide (t < Tryz.prog.types.size)) = true := by kernel_rfl
  intro t ht
  exact of_decide_eq_true (List.all_eq_true.1 h t ht)

end Go.Proofs.YtdhnlpgamopfeaaGreatDoor.Run
