/- Known answers, level 4, joined: no statement of its own. -/
import Derived.Test.YtoleefgpfkpokaaGreatDoorRunH0
set_option autoImplicit false
set_option maxRecDepth 100000
set_option linter.unusedVariables false
namespace Go.Proofs.YtoleefgpfkpokaaGreatDoor.Run
open Go Go.Vm

def T3_0 : List (List V × V) := [(a3_0, r3_0)]
noncomputable def memo3_0 : Memo := fun f => @Bool.rec (fun _ => Option (List V → Option V)) (memo3 f) (some (look3 T3_0)) (Nat.beq f 18)
theorem memo3_0_ok : MemoOK Tryz.prog memo3_0 := by
  intro f g key v h hk
  cases hb : Nat.beq f 18 with
  | false => simp only [memo3_0, hb] at h; exact memo3_ok f g key v h hk
  | true =>
    simp only [memo3_0, hb] at h
    injection h with h; subst h
    have : f = 18 := Nat.eq_of_beq_eq_true hb
    subst this
    have := look3_ok _ _ _ hk
    simp only [T3_0, List.mem_cons, List.not_mem_nil, or_false, Prod.mk.injEq] at this
    rcases this with ⟨rfl, rfl⟩
    · exact chkCall_ok mix memo3_ok q3_0
noncomputable abbrev memo4 : Memo := memo3_0
theorem memo4_ok : MemoOK Tryz.prog memo4 := memo3_0_ok
end Go.Proofs.YtoleefgpfkpokaaGreatDoor.Run
