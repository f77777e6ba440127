/- Known answers, level 3, joined: no statement of its own. -/
import Derived.Test.YtoleefgpfkpokaaGreatDoorRunE0
set_option autoImplicit false
set_option maxRecDepth 100000
set_option linter.unusedVariables false
namespace Go.Proofs.YtoleefgpfkpokaaGreatDoor.Run
open Go Go.Vm

def T2_0 : List (List V × V) := [(a2_0, r2_0)]
noncomputable def memo2_0 : Memo := fun f => @Bool.rec (fun _ => Option (List V → Option V)) (memo2 f) (some (look3 T2_0)) (Nat.beq f 8)
theorem memo2_0_ok : MemoOK Tryz.prog memo2_0 := by
  intro f g key v h hk
  cases hb : Nat.beq f 8 with
  | false => simp only [memo2_0, hb] at h; exact memo2_ok f g key v h hk
  | true =>
    simp only [memo2_0, hb] at h
    injection h with h; subst h
    have : f = 8 := Nat.eq_of_beq_eq_true hb
    subst this
    have := look3_ok _ _ _ hk
    simp only [T2_0, List.mem_cons, List.not_mem_nil, or_false, Prod.mk.injEq] at this
    rcases this with ⟨rfl, rfl⟩
    · exact chkCall_ok mix memo2_ok q2_0
noncomputable abbrev memo3 : Memo := memo2_0
theorem memo3_ok : MemoOK Tryz.prog memo3 := memo2_0_ok
end Go.Proofs.YtoleefgpfkpokaaGreatDoor.Run
