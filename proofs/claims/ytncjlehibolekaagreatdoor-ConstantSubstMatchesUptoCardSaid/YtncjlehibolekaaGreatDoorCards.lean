/-
  DERIVED. GIVEN WITH THE SEED: THE CARDS: each row of YtncjlehibolekaaGreatDoorRows.lean that lists a variable, with what it lists TIED to the program's text (the seventh form; the later family's looks); each row that meets fmt, with fmt's text TOLD by the authors' own Lean function (tested against real Go, not proved from fmt's source: count such statements apart). THE CARD IS WHAT COUNTS. Prove the row's statement (the work); the ties are given (YtncjlehibolekaaGreatDoorTie.lean); close each card by the builder's one call (the guide's Derived/Test/ToyasCard.lean, 'card_holds'). Laid BY PROGRAM, IN A SANDBOX (cutbox-door.mjs). By AI agents, Wed Nov 11 2026. No macro, syntax, notation, axiom, sorry.
-/
import Derived.Test.YtncjlehibolekaaGreatDoorRows
import GoSem.ClaimSeven
namespace Go.Proofs.YtncjlehibolekaaGreatDoor
namespace Rows

/-- THE TIED CARD OF 'netlablaw13.ConstantSubstMatches'. -/
def constantSubstMatchesCard : Claim7 := { stood := { row := constantSubstMatchesRow, standIns := [], harness := (true, "a1c2848f877662eae4e35db98050b85ab8ae3e7a5802d906226a9015a2587352"), looks := false }, kinds := [], alts := [], laidByText := true, laidKinds := [.data, .data, .data, .data], laidTests := true, laidLooks := .later }
def ConstantSubstMatchesCardSaid : Prop := Claim7.holds Tryz.pinned (.plain (OpenSpec.ofChange constantSubstMatchesSpec)) constantSubstMatchesCard

/-- THE TIED CARD OF 'netlablaw13.ConstantComposes'. -/
def constantComposesCard : Claim7 := { stood := { row := constantComposesRow, standIns := [], harness := (true, "a1c2848f877662eae4e35db98050b85ab8ae3e7a5802d906226a9015a2587352"), looks := false }, kinds := [], alts := [], laidByText := true, laidKinds := [.data, .data, .data, .data], laidTests := true, laidLooks := .later }
def ConstantComposesCardSaid : Prop := Claim7.holds Tryz.pinned (.plain (OpenSpec.ofChange constantComposesSpec)) constantComposesCard

/-- THE SECOND FORM's CARD OF 'netlablaw13.ConstantSubstMatches'. -/
def constantSubstMatchesUptoCard : Claim7 := { stood := { row := constantSubstMatchesUptoRow, standIns := [], harness := (true, "a1c2848f877662eae4e35db98050b85ab8ae3e7a5802d906226a9015a2587352"), looks := false }, kinds := [], alts := [], laidByText := true, laidKinds := [.data, .data, .data, .data], laidTests := true, laidLooks := .later }
def ConstantSubstMatchesUptoCardSaid : Prop := Claim7.holds Tryz.pinned (.plain (OpenSpec.upto constantSubstMatchesSpec)) constantSubstMatchesUptoCard

/-- THE SECOND FORM's CARD OF 'netlablaw13.ConstantComposes'. -/
def constantComposesUptoCard : Claim7 := { stood := { row := constantComposesUptoRow, standIns := [], harness := (true, "a1c2848f877662eae4e35db98050b85ab8ae3e7a5802d906226a9015a2587352"), looks := false }, kinds := [], alts := [], laidByText := true, laidKinds := [.data, .data, .data, .data], laidTests := true, laidLooks := .later }
def ConstantComposesUptoCardSaid : Prop := Claim7.holds Tryz.pinned (.plain (OpenSpec.upto constantComposesSpec)) constantComposesUptoCard
end Rows
end Go.Proofs.YtncjlehibolekaaGreatDoor
