/- Known answers, level 2, joined: no statement of its own. -/
import Derived.Test.YtoleefgpfkpokaaGreatDoorRunD0
set_option autoImplicit false
set_option maxRecDepth 100000
set_option linter.unusedVariables false
namespace Go.Proofs.YtoleefgpfkpokaaGreatDoor.Run
open Go Go.Vm

def T1_0 : List (List V × V) := [(a1_0, r1_0)]
noncomputable def memo1_0 : Memo := fun f => @Bool.rec (fun _ => Option (List V → Option V)) (memo1 f) (some (look3 T1_0)) (Nat.beq f 14)
theorem memo1_0_ok : MemoOK Tryz.prog memo1_0 := by
  intro f g key v h hk
  cases hb : Nat.beq f 14 with
  | false => simp only [memo1_0, hb] at h; exact memo1_ok f g key v h hk
  | true =>
    simp only [memo1_0, hb] at h
    injection h with h; subst h
    have : f = 14 := Nat.eq_of_beq_eq_true hb
    subst this
    have := look3_ok _ _ _ hk
    simp only [T1_0, List.mem_cons, List.not_mem_nil, or_false, Prod.mk.injEq] at this
    rcases this with ⟨rfl, rfl⟩
    · exact chkCall_ok mix memo1_ok q1_0
noncomputable abbrev memo2 : Memo := memo1_0
theorem memo2_ok : MemoOK Tryz.prog memo2 := memo1_0_ok
end Go.Proofs.YtoleefgpfkpokaaGreatDoor.Run
