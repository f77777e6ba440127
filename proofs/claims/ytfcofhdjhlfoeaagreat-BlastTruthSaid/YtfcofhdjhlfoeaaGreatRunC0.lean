/- Known answers, level 1: no statement of its own. -/
import Derived.Test.YtfcofhdjhlfoeaaGreatRunA
set_option autoImplicit false
set_option maxRecDepth 100000
set_option linter.unusedVariables false
namespace Go.Proofs.YtfcofhdjhlfoeaaGreat.Run
open Go Go.Vm

def a0_0 : List V := []
def r0_0 : V := .bool true
set_option maxHeartbeats 400000000 in
theorem q0_0 : chkCall Tryz.prog memo0 4 a0_0 r0_0 = true := by kernel_rfl
end Go.Proofs.YtfcofhdjhlfoeaaGreat.Run
