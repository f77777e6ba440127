/- Known answers of the lexer: no statement of its own. -/
import Derived.Test.YtfcofhdjhlfoeaaGreatProg
import Derived.Test.YtfcofhdjhlfoeaaGreatVm5
import Derived.KernelRfl
set_option autoImplicit false
set_option maxRecDepth 100000
set_option linter.unusedVariables false
namespace Go.Proofs.YtfcofhdjhlfoeaaGreat.Run
open Go Go.Vm

def glob : Nat → V := fun _ => .any
instance glI : Gl where
  gl := glob
  flat g := .inl rfl
def lexT : List (List Nat × List (Nat × V)) := []
theorem mix : Tryz.prog.follows .mixedOrders = true := by kernel_rfl
noncomputable abbrev memo0 : Memo := noMemo
theorem memo0_ok : MemoOK Tryz.prog memo0 := noMemo_ok
end Go.Proofs.YtfcofhdjhlfoeaaGreat.Run
