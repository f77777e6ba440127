/-
  DERIVED. GIVEN WITH THE SEED: THE CARDS: each row of YtjbgagafibhgcaaGreatDoorRows.lean that lists a variable, with what it lists TIED to the program's text (the seventh form; the later family's looks); each row that meets fmt, with fmt's text TOLD by the authors' own Lean function (tested against real Go, not proved from fmt's source: count such statements apart). THE CARD IS WHAT COUNTS. Prove the row's statement (the work); the ties are given (YtjbgagafibhgcaaGreatDoorTie.lean); close each card by the builder's one call (the guide's Derived/Test/ToyasCard.lean, 'card_holds'). Laid BY PROGRAM, IN A SANDBOX (cutbox-door.mjs). By AI agents, Wed Nov 11 2026. No macro, syntax, notation, axiom, sorry.
-/
import Derived.Test.YtjbgagafibhgcaaGreatDoorRows
import GoSem.ClaimSeven
namespace Go.Proofs.YtjbgagafibhgcaaGreatDoor
namespace Rows

/-- THE TIED CARD OF 'netlablaw13.ConstantExamples'. -/
def constantExamplesCard : Claim7 := { stood := { row := constantExamplesRow, standIns := [], harness := (true, "76250d2d61dc88ff7881f30f3720e374db2f9e8aeb648a5ebf6f222c3343d41b"), looks := false }, kinds := [], alts := [], laidByText := true, laidKinds := [.data, .data, .data, .data], laidTests := true, laidLooks := .later }
def ConstantExamplesCardSaid : Prop := Claim7.holds Tryz.pinned (.plain (OpenSpec.ofChange constantExamplesSpec)) constantExamplesCard

/-- THE SECOND FORM's CARD OF 'netlablaw13.ConstantExamples'. -/
def constantExamplesUptoCard : Claim7 := { stood := { row := constantExamplesUptoRow, standIns := [], harness := (true, "76250d2d61dc88ff7881f30f3720e374db2f9e8aeb648a5ebf6f222c3343d41b"), looks := false }, kinds := [], alts := [], laidByText := true, laidKinds := [.data, .data, .data, .data], laidTests := true, laidLooks := .later }
def ConstantExamplesUptoCardSaid : Prop := Claim7.holds Tryz.pinned (.plain (OpenSpec.upto constantExamplesSpec)) constantExamplesUptoCard
end Rows
end Go.Proofs.YtjbgagafibhgcaaGreatDoor
