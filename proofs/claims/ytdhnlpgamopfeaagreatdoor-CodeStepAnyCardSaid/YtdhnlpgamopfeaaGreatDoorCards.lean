/-
  DERIVED. GIVEN WITH THE SEED: THE CARDS: each row of YtdhnlpgamopfeaaGreatDoorRows.lean that lists a variable, with what it lists TIED to the program's text (the seventh form; the later family's looks); each row that meets fmt, with fmt's text TOLD by the authors' own Lean function (tested against real Go, not proved from fmt's source: count such statements apart). THE CARD IS WHAT COUNTS. Prove the row's statement (the work); the ties are given (YtdhnlpgamopfeaaGreatDoorTie.lean); close each card by the builder's one call (the guide's Derived/Test/ToyasCard.lean, 'card_holds'). Laid BY PROGRAM, IN A SANDBOX (cutbox-door.mjs). By AI agents, Wed Nov 11 2026. No macro, syntax, notation, axiom, sorry.
-/
import Derived.Test.YtdhnlpgamopfeaaGreatDoorRows
import GoSem.ClaimSeven
namespace Go.Proofs.YtdhnlpgamopfeaaGreatDoor
namespace Rows

/-- THE TIED CARD OF 'netlablaw15.CodeStepAny'. -/
def codeStepAnyCard : Claim7 := { stood := { row := codeStepAnyRow, standIns := [], harness := (true, "befb77e1ee0ed91074ea3721e22ed08b8694545500b9a1dd157e82de466732c0"), looks := false }, kinds := [], alts := [], laidByText := true, laidKinds := [.data, .data, .data, .data], laidTests := true, laidLooks := .later }
def CodeStepAnyCardSaid : Prop := Claim7.holds Tryz.pinned (.plain (OpenSpec.ofChange codeStepAnySpec)) codeStepAnyCard

/-- THE SECOND FORM's CARD OF 'netlablaw15.CodeStepAny'. -/
def codeStepAnyUptoCard : Claim7 := { stood := { row := codeStepAnyUptoRow, standIns := [], harness := (true, "befb77e1ee0ed91074ea3721e22ed08b8694545500b9a1dd157e82de466732c0"), looks := false }, kinds := [], alts := [], laidByText := true, laidKinds := [.data, .data, .data, .data], laidTests := true, laidLooks := .later }
def CodeStepAnyUptoCardSaid : Prop := Claim7.holds Tryz.pinned (.plain (OpenSpec.upto codeStepAnySpec)) codeStepAnyUptoCard
end Rows
end Go.Proofs.YtdhnlpgamopfeaaGreatDoor
