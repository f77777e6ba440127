/-
  NARROWER THAN 'FOR EVERY INPUT', by the rows' own cells (each row's printed sentence says how): ConstantSubstMatches: loops, laid · ConstantComposes: loops, laid.
  DERIVED. THE GIVEN ROWS OF THIS SEAT. 2 by the template 'for every input the law returns true; each argument reads behind the call as it read before'; 0 by the template 'total and deterministic' (their statements: YtncjlehibolekaaGreatDoorTotals.lean).
  GIVEN WITH THE SEED: the statements are not yours to turn. If you find one false, say at which input.
  Laid BY PROGRAM, IN A SANDBOX (cutbox-rows.mjs): the forced cells as the released guide's own fill.sh prints them over the translation 1b0c97934e47abed… (all of the seat's roots in one cut). By AI agents, Wed Nov 11 2026. No macro, syntax, notation, axiom, sorry.
-/
import Derived.Test.YtncjlehibolekaaGreatDoorChecked
import GoSem.Claim
import GoSem.ClaimJoined
import GoSem.ClaimMapViews
import Derived.JoinedTies
import Derived.KernelRfl
namespace Go.Proofs.YtncjlehibolekaaGreatDoor
/- THE CELL 'sum', in the pinned program and in every row, IS THE sha256 OF THE DUMP (.gsa) THAT YtncjlehibolekaaGreatDoorProg.lean LOADS. Nothing in Lean hashes anything: it is a label: what it is worth is what the hold of that sum in a sandbox is worth. -/
noncomputable def Tryz.pinned : Pinned := { name := "ytncjlehibolekaagreatdoor", sum := "1b0c97934e47abed09cd6cebba7c453f5a3c9d67a552ca6f001ebfd50f883159", checked := Tryz.checked }
namespace Rows
def none {H : Type} : Left H := { results := [], args := [] }

/- WHAT THE LISTED PACKAGE-LEVEL VARIABLES READ AS WHEN THE CALL BEGINS. Each datum BY PROGRAM (the guide's laid-datum.mjs) off the statement by which the dump's own 'gosem.cut.vars' lays the variable. In a bare row this is a premise. The card (YtncjlehibolekaaGreatDoorCards.lean) ties it to the program's text. -/
def laid_netlab_bit_ands {H : Type} : DataW H := .agg [.lit (.int .u8 0), .lit (.int .u8 0), .lit (.int .u8 0), .lit (.int .u8 0), .lit (.int .u8 0), .lit (.int .u8 1), .lit (.int .u8 2), .lit (.int .u8 2), .lit (.int .u8 0), .lit (.int .u8 2), .lit (.int .u8 2), .lit (.int .u8 2), .lit (.int .u8 0), .lit (.int .u8 2), .lit (.int .u8 2), .lit (.int .u8 2)]
def laid_netlab_bit_ors {H : Type} : DataW H := .agg [.lit (.int .u8 0), .lit (.int .u8 1), .lit (.int .u8 2), .lit (.int .u8 2), .lit (.int .u8 1), .lit (.int .u8 1), .lit (.int .u8 1), .lit (.int .u8 1), .lit (.int .u8 2), .lit (.int .u8 1), .lit (.int .u8 2), .lit (.int .u8 2), .lit (.int .u8 2), .lit (.int .u8 1), .lit (.int .u8 2), .lit (.int .u8 2)]
def laid_netlab_bit_xors {H : Type} : DataW H := .agg [.lit (.int .u8 0), .lit (.int .u8 1), .lit (.int .u8 2), .lit (.int .u8 2), .lit (.int .u8 1), .lit (.int .u8 0), .lit (.int .u8 2), .lit (.int .u8 2), .lit (.int .u8 2), .lit (.int .u8 2), .lit (.int .u8 2), .lit (.int .u8 2), .lit (.int .u8 2), .lit (.int .u8 2), .lit (.int .u8 2), .lit (.int .u8 2)]
def laid_netlab_bit_nots {H : Type} : DataW H := .agg [.lit (.int .u8 1), .lit (.int .u8 0), .lit (.int .u8 2), .lit (.int .u8 2)]

/-- 'netlablaw13.ConstantSubstMatches': WHATEVER THE INPUT: true; the input reads as it did. -/
def constantSubstMatchesSpec : ChangeSpec := { name := "constantSubstMatches", fn := fun _ => fun
  | [d1, d2] => { results := [.lit (.bool true)], args := [d1, d2] }
  | _ => none }
def constantSubstMatchesRow : OpenClaim := { program := "ytncjlehibolekaagreatdoor", sum := "1b0c97934e47abed09cd6cebba7c453f5a3c9d67a552ca6f001ebfd50f883159", func := "netlab/netlablaw13.ConstantSubstMatches", spec := "constantSubstMatches", unfollowed := true, recurses := true, named := ["netlab/bit.nots", "netlab/bit.ors", "netlab/bit.xors", "netlab/bit.ands"], loops := true, apart := false, laid := [("netlab/bit.ands", laid_netlab_bit_ands), ("netlab/bit.ors", laid_netlab_bit_ors), ("netlab/bit.xors", laid_netlab_bit_xors), ("netlab/bit.nots", laid_netlab_bit_nots)] }
def ConstantSubstMatchesSaid : Prop := constantSubstMatchesRow.holds Tryz.pinned (OpenSpec.ofChange constantSubstMatchesSpec)

/-- ITS FALSE NEIGHBOUR: 'it returns false'. Refute it at one input. -/
def constantSubstMatchesWrong : ChangeSpec := { name := "constantSubstMatches", fn := fun _ => fun
  | [d1, d2] => { results := [.lit (.bool false)], args := [d1, d2] }
  | _ => none }
def ConstantSubstMatchesWrongFalsely : Prop := constantSubstMatchesRow.holds Tryz.pinned (OpenSpec.ofChange constantSubstMatchesWrong)

/-- 'netlablaw13.ConstantComposes': WHATEVER THE INPUT: true; the input reads as it did. -/
def constantComposesSpec : ChangeSpec := { name := "constantComposes", fn := fun _ => fun
  | [d1, d2, d3] => { results := [.lit (.bool true)], args := [d1, d2, d3] }
  | _ => none }
def constantComposesRow : OpenClaim := { program := "ytncjlehibolekaagreatdoor", sum := "1b0c97934e47abed09cd6cebba7c453f5a3c9d67a552ca6f001ebfd50f883159", func := "netlab/netlablaw13.ConstantComposes", spec := "constantComposes", unfollowed := true, recurses := true, named := ["netlab/bit.nots", "netlab/bit.ors", "netlab/bit.xors", "netlab/bit.ands"], loops := true, apart := false, laid := [("netlab/bit.ands", laid_netlab_bit_ands), ("netlab/bit.ors", laid_netlab_bit_ors), ("netlab/bit.xors", laid_netlab_bit_xors), ("netlab/bit.nots", laid_netlab_bit_nots)] }
def ConstantComposesSaid : Prop := constantComposesRow.holds Tryz.pinned (OpenSpec.ofChange constantComposesSpec)

/-- ITS FALSE NEIGHBOUR: 'it returns false'. Refute it at one input. -/
def constantComposesWrong : ChangeSpec := { name := "constantComposes", fn := fun _ => fun
  | [d1, d2, d3] => { results := [.lit (.bool false)], args := [d1, d2, d3] }
  | _ => none }
def ConstantComposesWrongFalsely : Prop := constantComposesRow.holds Tryz.pinned (OpenSpec.ofChange constantComposesWrong)

/- THE SECOND FORM. 'bulk': how many values and letters a reading holds, each counted each time it is reached (what is shared counts as often as it is met; a slice's spare places count too). A statement '..UptoSaid' is the law's where the arguments, and the package variables that the reading takes, are together of bulk at most 1048576: NARROWER than '..Said'. Prove '..Said' where nothing that the law and all that it calls make is longer than what came in: it says more and counts as full. Else prove '..UptoSaid'. A law counts once. -/
mutual
def uptoBulk {H : Type} : DataW H → Nat
  | .lit (.string bytes) => bytes.length + 1
  | .lit _ => 1
  | .nil => 1
  | .ptr d => uptoBulk d + 1
  | .slice elems spare => uptoBulkAll elems + uptoBulkAll spare + 1
  | .agg parts => uptoBulkAll parts + 1
  | .iface _ d => uptoBulk d + 1
  | .map entries => uptoBulkEntries entries + 1
  | .held _ => 1
def uptoBulkAll {H : Type} : List (DataW H) → Nat
  | [] => 0
  | d :: r => uptoBulk d + uptoBulkAll r
def uptoBulkEntries {H : Type} : List (Lit × DataW H) → Nat
  | [] => 0
  | x :: r => uptoBulkEntry x + uptoBulkEntries r
def uptoBulkEntry {H : Type} : Lit × DataW H → Nat
  | (.string bytes, d) => bytes.length + uptoBulk d + 1
  | (_, d) => uptoBulk d + 1
 end
def uptoSmall : (H : Type) → List (DataW H) → Bool := fun _ ds => decide (uptoBulkAll ds ≤ 1048576)
def OpenSpec.upto (s : _root_.Go.ChangeSpec) : _root_.Go.OpenSpec := { _root_.Go.OpenSpec.ofChange s with cond := some uptoSmall }

/-- 'netlablaw13.ConstantSubstMatches', WHERE WHAT IT READS IS OF BULK AT MOST 1048576: true; the input reads as it did. -/
def constantSubstMatchesUptoRow : OpenClaim := { program := "ytncjlehibolekaagreatdoor", sum := "1b0c97934e47abed09cd6cebba7c453f5a3c9d67a552ca6f001ebfd50f883159", func := "netlab/netlablaw13.ConstantSubstMatches", spec := "constantSubstMatches", unfollowed := true, recurses := true, named := ["netlab/bit.nots", "netlab/bit.ors", "netlab/bit.xors", "netlab/bit.ands"], loops := true, apart := false, laid := [("netlab/bit.ands", laid_netlab_bit_ands), ("netlab/bit.ors", laid_netlab_bit_ors), ("netlab/bit.xors", laid_netlab_bit_xors), ("netlab/bit.nots", laid_netlab_bit_nots)], narrowed := true }
def ConstantSubstMatchesUptoSaid : Prop := constantSubstMatchesUptoRow.holds Tryz.pinned (OpenSpec.upto constantSubstMatchesSpec)

/-- 'netlablaw13.ConstantComposes', WHERE WHAT IT READS IS OF BULK AT MOST 1048576: true; the input reads as it did. -/
def constantComposesUptoRow : OpenClaim := { program := "ytncjlehibolekaagreatdoor", sum := "1b0c97934e47abed09cd6cebba7c453f5a3c9d67a552ca6f001ebfd50f883159", func := "netlab/netlablaw13.ConstantComposes", spec := "constantComposes", unfollowed := true, recurses := true, named := ["netlab/bit.nots", "netlab/bit.ors", "netlab/bit.xors", "netlab/bit.ands"], loops := true, apart := false, laid := [("netlab/bit.ands", laid_netlab_bit_ands), ("netlab/bit.ors", laid_netlab_bit_ors), ("netlab/bit.xors", laid_netlab_bit_xors), ("netlab/bit.nots", laid_netlab_bit_nots)], narrowed := true }
def ConstantComposesUptoSaid : Prop := constantComposesUptoRow.holds Tryz.pinned (OpenSpec.upto constantComposesSpec)

end Rows
end Go.Proofs.YtncjlehibolekaaGreatDoor
