/- Known answers, level 5: no statement of its own. -/
import Derived.Test.YtoleefgpfkpokaaGreatDoorRunHJ
set_option autoImplicit false
set_option maxRecDepth 100000
set_option linter.unusedVariables false
namespace Go.Proofs.YtoleefgpfkpokaaGreatDoor.Run
open Go Go.Vm

def a4_22 : List V := [.str [102,40,97,41], .str [52,39,98,49,48,49,49]]
def r4_22 : V := .bool true
set_option maxHeartbeats 400000000 in
theorem q4_22 : chkCall Tryz.prog memo4 5 a4_22 r4_22 = true := by kernel_rfl
def a4_23 : List V := [.str [102,40,98,41,32,43,32,102,40,102,40,97,41,41], .str [52,39,98,49,49,49,48]]
def r4_23 : V := .bool true
set_option maxHeartbeats 400000000 in
theorem q4_23 : chkCall Tryz.prog memo4 5 a4_23 r4_23 = true := by kernel_rfl
def a4_24 : List V := [.str [36,116,105,109,101], .str [54,52,39,98,49,48,48,49]]
def r4_24 : V := .bool true
set_option maxHeartbeats 400000000 in
theorem q4_24 : chkCall Tryz.prog memo4 5 a4_24 r4_24 = true := by kernel_rfl
def a4_25 : List V := [.str [36,115,105,103,110,101,100,40,97,41], .str [52,39,115,98,49,48,49,48]]
def r4_25 : V := .bool true
set_option maxHeartbeats 400000000 in
theorem q4_25 : chkCall Tryz.prog memo4 5 a4_25 r4_25 = true := by kernel_rfl
end Go.Proofs.YtoleefgpfkpokaaGreatDoor.Run
