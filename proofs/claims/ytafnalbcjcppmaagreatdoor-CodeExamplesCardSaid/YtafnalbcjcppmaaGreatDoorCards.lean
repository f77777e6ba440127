/-
  DERIVED. GIVEN WITH THE SEED: THE CARDS: each row of YtafnalbcjcppmaaGreatDoorRows.lean that lists a variable, with what it lists TIED to the program's text (the seventh form; the later family's looks); each row that meets fmt, with fmt's text TOLD by the authors' own Lean function (tested against real Go, not proved from fmt's source: count such statements apart). THE CARD IS WHAT COUNTS. Prove the row's statement (the work); the ties are given (YtafnalbcjcppmaaGreatDoorTie.lean); close each card by the builder's one call (the guide's Derived/Test/ToyasCard.lean, 'card_holds'). Laid BY PROGRAM, IN A SANDBOX (cutbox-door.mjs). By AI agents, Wed Nov 11 2026. No macro, syntax, notation, axiom, sorry.
-/
import Derived.Test.YtafnalbcjcppmaaGreatDoorRows
import GoSem.ClaimSeven
namespace Go.Proofs.YtafnalbcjcppmaaGreatDoor
namespace Rows

/-- THE TIED CARD OF 'netlablaw15.CodeExamples'. -/
def codeExamplesCard : Claim7 := { stood := { row := codeExamplesRow, standIns := [], harness := (true, "a03becc8a202a183ca4cbcf34500c4323d975511cf4e897d844201e0708599ac"), looks := false }, kinds := [], alts := [], laidByText := true, laidKinds := [.data, .data, .data, .data], laidTests := true, laidLooks := .later }
def CodeExamplesCardSaid : Prop := Claim7.holds Tryz.pinned (.plain (OpenSpec.ofChange codeExamplesSpec)) codeExamplesCard

/-- THE TIED CARD OF 'netlablaw15.CodeStepAny'. -/
def codeStepAnyCard : Claim7 := { stood := { row := codeStepAnyRow, standIns := [], harness := (true, "a03becc8a202a183ca4cbcf34500c4323d975511cf4e897d844201e0708599ac"), looks := false }, kinds := [], alts := [], laidByText := true, laidKinds := [.data, .data, .data, .data], laidTests := true, laidLooks := .later }
def CodeStepAnyCardSaid : Prop := Claim7.holds Tryz.pinned (.plain (OpenSpec.ofChange codeStepAnySpec)) codeStepAnyCard

/-- THE SECOND FORM's CARD OF 'netlablaw15.CodeExamples'. -/
def codeExamplesUptoCard : Claim7 := { stood := { row := codeExamplesUptoRow, standIns := [], harness := (true, "a03becc8a202a183ca4cbcf34500c4323d975511cf4e897d844201e0708599ac"), looks := false }, kinds := [], alts := [], laidByText := true, laidKinds := [.data, .data, .data, .data], laidTests := true, laidLooks := .later }
def CodeExamplesUptoCardSaid : Prop := Claim7.holds Tryz.pinned (.plain (OpenSpec.upto codeExamplesSpec)) codeExamplesUptoCard

/-- THE SECOND FORM's CARD OF 'netlablaw15.CodeStepAny'. -/
def codeStepAnyUptoCard : Claim7 := { stood := { row := codeStepAnyUptoRow, standIns := [], harness := (true, "a03becc8a202a183ca4cbcf34500c4323d975511cf4e897d844201e0708599ac"), looks := false }, kinds := [], alts := [], laidByText := true, laidKinds := [.data, .data, .data, .data], laidTests := true, laidLooks := .later }
def CodeStepAnyUptoCardSaid : Prop := Claim7.holds Tryz.pinned (.plain (OpenSpec.upto codeStepAnySpec)) codeStepAnyUptoCard
end Rows
end Go.Proofs.YtafnalbcjcppmaaGreatDoor
