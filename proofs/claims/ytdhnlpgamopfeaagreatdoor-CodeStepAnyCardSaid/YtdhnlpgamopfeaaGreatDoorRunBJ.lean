/- Known answers, level 1, joined: no statement of its own. -/
import Derived.Test.YtdhnlpgamopfeaaGreatDoorRunB0
import Derived.Test.YtdhnlpgamopfeaaGreatDoorRunB1
import Derived.Test.YtdhnlpgamopfeaaGreatDoorRunB2
import Derived.Test.YtdhnlpgamopfeaaGreatDoorRunB3
set_option autoImplicit false
set_option maxRecDepth 100000
set_option linter.unusedVariables false
namespace Go.Proofs.YtdhnlpgamopfeaaGreatDoor.Run
open Go Go.Vm

def T0_0 : List (List V × V) := [(a0_0, r0_0), (a0_1, r0_1), (a0_2, r0_2), (a0_3, r0_3)]
noncomputable def memo0_0 : Memo := fun f => @Bool.rec (fun _ => Option (List V → Option V)) (memo0 f) (some (look3 T0_0)) (Nat.beq f 11)
theorem memo0_0_ok : MemoOK Tryz.prog memo0_0 := by
  intro f g key v h hk
  cases hb : Nat.beq f 11 with
  | false => simp only [memo0_0, hb] at h; exact memo0_ok f g key v h hk
  | true =>
    simp only [memo0_0, hb] at h
    injection h with h; subst h
    have : f = 11 := Nat.eq_of_beq_eq_true hb
    subst this
    have := look3_ok _ _ _ hk
    simp only [T0_0, List.mem_cons, List.not_mem_nil, or_false, Prod.mk.injEq] at this
    rcases this with ⟨rfl, rfl⟩ | ⟨rfl, rfl⟩ | ⟨rfl, rfl⟩ | ⟨rfl, rfl⟩
    · exact chkCall_ok mix memo0_ok q0_0
    · exact chkCall_ok mix memo0_ok q0_1
    · exact chkCall_ok mix memo0_ok q0_2
    · exact chkCall_ok mix memo0_ok q0_3
noncomputable abbrev memo1 : Memo := memo0_0
theorem memo1_ok : MemoOK Tryz.prog memo1 := memo0_0_ok
end Go.Proofs.YtdhnlpgamopfeaaGreatDoor.Run
