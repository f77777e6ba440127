/- Known answers, level 1, joined: no statement of its own. -/
import Derived.Test.YtncjlehibolekaaGreatDoorRunB0
import Derived.Test.YtncjlehibolekaaGreatDoorRunB1
set_option autoImplicit false
set_option maxRecDepth 100000
set_option linter.unusedVariables false
namespace Go.Proofs.YtncjlehibolekaaGreatDoor.Run
open Go Go.Vm

def T0_0 : List (List V × V) := [(a0_0, r0_0), (a0_2, r0_2), (a0_4, r0_4), (a0_6, r0_6), (a0_8, r0_8), (a0_10, r0_10), (a0_11, r0_11), (a0_12, r0_12), (a0_13, r0_13)]
noncomputable def memo0_0 : Memo := fun f => @Bool.rec (fun _ => Option (List V → Option V)) (memo0 f) (some (look3 T0_0)) (Nat.beq f 17)
theorem memo0_0_ok : MemoOK Tryz.prog memo0_0 := by
  intro f g key v h hk
  cases hb : Nat.beq f 17 with
  | false => simp only [memo0_0, hb] at h; exact memo0_ok f g key v h hk
  | true =>
    simp only [memo0_0, hb] at h
    injection h with h; subst h
    have : f = 17 := Nat.eq_of_beq_eq_true hb
    subst this
    have := look3_ok _ _ _ hk
    simp only [T0_0, List.mem_cons, List.not_mem_nil, or_false, Prod.mk.injEq] at this
    rcases this with ⟨rfl, rfl⟩ | ⟨rfl, rfl⟩ | ⟨rfl, rfl⟩ | ⟨rfl, rfl⟩ | ⟨rfl, rfl⟩ | ⟨rfl, rfl⟩ | ⟨rfl, rfl⟩ | ⟨rfl, rfl⟩ | ⟨rfl, rfl⟩
    · exact chkCall_ok mix memo0_ok q0_0
    · exact chkCall_ok mix memo0_ok q0_2
    · exact chkCall_ok mix memo0_ok q0_4
    · exact chkCall_ok mix memo0_ok q0_6
    · exact chkCall_ok mix memo0_ok q0_8
    · exact chkCall_ok mix memo0_ok q0_10
    · exact chkCall_ok mix memo0_ok q0_11
    · exact chkCall_ok mix memo0_ok q0_12
    · exact chkCall_ok mix memo0_ok q0_13
def T0_1 : List (List V × V) := [(a0_1, r0_1), (a0_5, r0_5), (a0_7, r0_7), (a0_9, r0_9)]
noncomputable def memo0_1 : Memo := fun f => @Bool.rec (fun _ => Option (List V → Option V)) (memo0_0 f) (some (look3 T0_1)) (Nat.beq f 32)
theorem memo0_1_ok : MemoOK Tryz.prog memo0_1 := by
  intro f g key v h hk
  cases hb : Nat.beq f 32 with
  | false => simp only [memo0_1, hb] at h; exact memo0_0_ok f g key v h hk
  | true =>
    simp only [memo0_1, hb] at h
    injection h with h; subst h
    have : f = 32 := Nat.eq_of_beq_eq_true hb
    subst this
    have := look3_ok _ _ _ hk
    simp only [T0_1, List.mem_cons, List.not_mem_nil, or_false, Prod.mk.injEq] at this
    rcases this with ⟨rfl, rfl⟩ | ⟨rfl, rfl⟩ | ⟨rfl, rfl⟩ | ⟨rfl, rfl⟩
    · exact chkCall_ok mix memo0_ok q0_1
    · exact chkCall_ok mix memo0_ok q0_5
    · exact chkCall_ok mix memo0_ok q0_7
    · exact chkCall_ok mix memo0_ok q0_9
def T0_2 : List (List V × V) := [(a0_3, r0_3)]
noncomputable def memo0_2 : Memo := fun f => @Bool.rec (fun _ => Option (List V → Option V)) (memo0_1 f) (some (look3 T0_2)) (Nat.beq f 20)
theorem memo0_2_ok : MemoOK Tryz.prog memo0_2 := by
  intro f g key v h hk
  cases hb : Nat.beq f 20 with
  | false => simp only [memo0_2, hb] at h; exact memo0_1_ok f g key v h hk
  | true =>
    simp only [memo0_2, hb] at h
    injection h with h; subst h
    have : f = 20 := Nat.eq_of_beq_eq_true hb
    subst this
    have := look3_ok _ _ _ hk
    simp only [T0_2, List.mem_cons, List.not_mem_nil, or_false, Prod.mk.injEq] at this
    rcases this with ⟨rfl, rfl⟩
    · exact chkCall_ok mix memo0_ok q0_3
noncomputable abbrev memo1 : Memo := memo0_2
theorem memo1_ok : MemoOK Tryz.prog memo1 := memo0_2_ok
end Go.Proofs.YtncjlehibolekaaGreatDoor.Run
