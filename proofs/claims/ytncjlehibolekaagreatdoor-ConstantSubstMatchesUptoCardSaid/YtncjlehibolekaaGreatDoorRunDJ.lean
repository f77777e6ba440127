/- Known answers, level 2, joined: no statement of its own. -/
import Derived.Test.YtncjlehibolekaaGreatDoorRunD0
set_option autoImplicit false
set_option maxRecDepth 100000
set_option linter.unusedVariables false
namespace Go.Proofs.YtncjlehibolekaaGreatDoor.Run
open Go Go.Vm

def T1_0 : List (List V × V) := [(a1_0, r1_0), (a1_1, r1_1), (a1_2, r1_2)]
noncomputable def memo1_0 : Memo := fun f => @Bool.rec (fun _ => Option (List V → Option V)) (memo1 f) (some (look3 T1_0)) (Nat.beq f 23)
theorem memo1_0_ok : MemoOK Tryz.prog memo1_0 := by
  intro f g key v h hk
  cases hb : Nat.beq f 23 with
  | false => simp only [memo1_0, hb] at h; exact memo1_ok f g key v h hk
  | true =>
    simp only [memo1_0, hb] at h
    injection h with h; subst h
    have : f = 23 := Nat.eq_of_beq_eq_true hb
    subst this
    have := look3_ok _ _ _ hk
    simp only [T1_0, List.mem_cons, List.not_mem_nil, or_false, Prod.mk.injEq] at this
    rcases this with ⟨rfl, rfl⟩ | ⟨rfl, rfl⟩ | ⟨rfl, rfl⟩
    · exact chkCall_ok mix memo1_ok q1_0
    · exact chkCall_ok mix memo1_ok q1_1
    · exact chkCall_ok mix memo1_ok q1_2
def T1_1 : List (List V × V) := [(a1_3, r1_3), (a1_4, r1_4), (a1_5, r1_5), (a1_6, r1_6)]
noncomputable def memo1_1 : Memo := fun f => @Bool.rec (fun _ => Option (List V → Option V)) (memo1_0 f) (some (look3 T1_1)) (Nat.beq f 24)
theorem memo1_1_ok : MemoOK Tryz.prog memo1_1 := by
  intro f g key v h hk
  cases hb : Nat.beq f 24 with
  | false => simp only [memo1_1, hb] at h; exact memo1_0_ok f g key v h hk
  | true =>
    simp only [memo1_1, hb] at h
    injection h with h; subst h
    have : f = 24 := Nat.eq_of_beq_eq_true hb
    subst this
    have := look3_ok _ _ _ hk
    simp only [T1_1, List.mem_cons, List.not_mem_nil, or_false, Prod.mk.injEq] at this
    rcases this with ⟨rfl, rfl⟩ | ⟨rfl, rfl⟩ | ⟨rfl, rfl⟩ | ⟨rfl, rfl⟩
    · exact chkCall_ok mix memo1_ok q1_3
    · exact chkCall_ok mix memo1_ok q1_4
    · exact chkCall_ok mix memo1_ok q1_5
    · exact chkCall_ok mix memo1_ok q1_6
noncomputable abbrev memo2 : Memo := memo1_1
theorem memo2_ok : MemoOK Tryz.prog memo2 := memo1_1_ok
end Go.Proofs.YtncjlehibolekaaGreatDoor.Run
