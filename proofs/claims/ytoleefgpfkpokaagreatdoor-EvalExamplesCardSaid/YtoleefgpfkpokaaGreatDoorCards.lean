/-
  DERIVED. GIVEN WITH THE SEED: THE CARDS: each row of YtoleefgpfkpokaaGreatDoorRows.lean that lists a variable, with what it lists TIED to the program's text (the seventh form; the later family's looks); each row that meets fmt, with fmt's text TOLD by the authors' own Lean function (tested against real Go, not proved from fmt's source: count such statements apart). THE CARD IS WHAT COUNTS. Prove the row's statement (the work); the ties are given (YtoleefgpfkpokaaGreatDoorTie.lean); close each card by the builder's one call (the guide's Derived/Test/ToyasCard.lean, 'card_holds'). Laid BY PROGRAM, IN A SANDBOX (cutbox-door.mjs). By AI agents, Wed Nov 11 2026. No macro, syntax, notation, axiom, sorry.
-/
import Derived.Test.YtoleefgpfkpokaaGreatDoorRows
import GoSem.ClaimSeven
namespace Go.Proofs.YtoleefgpfkpokaaGreatDoor
namespace Rows

/-- THE TIED CARD OF 'netlablaw12.EvalExamples'. -/
def evalExamplesCard : Claim7 := { stood := { row := evalExamplesRow, standIns := [], harness := (true, "4eba3df3af70e514a9a04d77bbc96d4f8bad9c9c4a38865e812ea4dd185e0f0b"), looks := false }, kinds := [], alts := [], laidByText := true, laidKinds := [.data, .data, .data, .data], laidTests := true, laidLooks := .later }
def EvalExamplesCardSaid : Prop := Claim7.holds Tryz.pinned (.plain (OpenSpec.ofChange evalExamplesSpec)) evalExamplesCard

/-- THE SECOND FORM's CARD OF 'netlablaw12.EvalExamples'. -/
def evalExamplesUptoCard : Claim7 := { stood := { row := evalExamplesUptoRow, standIns := [], harness := (true, "4eba3df3af70e514a9a04d77bbc96d4f8bad9c9c4a38865e812ea4dd185e0f0b"), looks := false }, kinds := [], alts := [], laidByText := true, laidKinds := [.data, .data, .data, .data], laidTests := true, laidLooks := .later }
def EvalExamplesUptoCardSaid : Prop := Claim7.holds Tryz.pinned (.plain (OpenSpec.upto evalExamplesSpec)) evalExamplesUptoCard
end Rows
end Go.Proofs.YtoleefgpfkpokaaGreatDoor
