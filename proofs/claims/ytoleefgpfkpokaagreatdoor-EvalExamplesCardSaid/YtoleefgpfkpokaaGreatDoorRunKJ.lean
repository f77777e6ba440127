/- Known answers, level 5, joined: no statement of its own. -/
import Derived.Test.YtoleefgpfkpokaaGreatDoorRunK0
import Derived.Test.YtoleefgpfkpokaaGreatDoorRunK1
import Derived.Test.YtoleefgpfkpokaaGreatDoorRunK2
import Derived.Test.YtoleefgpfkpokaaGreatDoorRunK3
import Derived.Test.YtoleefgpfkpokaaGreatDoorRunK4
import Derived.Test.YtoleefgpfkpokaaGreatDoorRunK5
import Derived.Test.YtoleefgpfkpokaaGreatDoorRunK6
import Derived.Test.YtoleefgpfkpokaaGreatDoorRunK7
import Derived.Test.YtoleefgpfkpokaaGreatDoorRunK8
import Derived.Test.YtoleefgpfkpokaaGreatDoorRunK9
import Derived.Test.YtoleefgpfkpokaaGreatDoorRunK10
import Derived.Test.YtoleefgpfkpokaaGreatDoorRunK11
set_option autoImplicit false
set_option maxRecDepth 100000
set_option linter.unusedVariables false
namespace Go.Proofs.YtoleefgpfkpokaaGreatDoor.Run
open Go Go.Vm

def T4_0 : List (List V × V) := [(a4_0, r4_0), (a4_1, r4_1), (a4_2, r4_2), (a4_3, r4_3), (a4_4, r4_4), (a4_6, r4_6), (a4_7, r4_7), (a4_8, r4_8), (a4_9, r4_9), (a4_10, r4_10), (a4_11, r4_11), (a4_12, r4_12), (a4_13, r4_13), (a4_14, r4_14), (a4_15, r4_15), (a4_16, r4_16), (a4_17, r4_17), (a4_18, r4_18), (a4_19, r4_19), (a4_20, r4_20), (a4_21, r4_21), (a4_22, r4_22), (a4_23, r4_23), (a4_24, r4_24), (a4_25, r4_25), (a4_26, r4_26), (a4_27, r4_27), (a4_28, r4_28), (a4_29, r4_29), (a4_30, r4_30), (a4_31, r4_31), (a4_32, r4_32), (a4_33, r4_33), (a4_34, r4_34), (a4_35, r4_35), (a4_36, r4_36)]
noncomputable def memo4_0 : Memo := fun f => @Bool.rec (fun _ => Option (List V → Option V)) (memo4 f) (some (look3 T4_0)) (Nat.beq f 5)
theorem memo4_0_ok : MemoOK Tryz.prog memo4_0 := by
  intro f g key v h hk
  cases hb : Nat.beq f 5 with
  | false => simp only [memo4_0, hb] at h; exact memo4_ok f g key v h hk
  | true =>
    simp only [memo4_0, hb] at h
    injection h with h; subst h
    have : f = 5 := Nat.eq_of_beq_eq_true hb
    subst this
    have := look3_ok _ _ _ hk
    simp only [T4_0, List.mem_cons, List.not_mem_nil, or_false, Prod.mk.injEq] at this
    rcases this with ⟨rfl, rfl⟩ | ⟨rfl, rfl⟩ | ⟨rfl, rfl⟩ | ⟨rfl, rfl⟩ | ⟨rfl, rfl⟩ | ⟨rfl, rfl⟩ | ⟨rfl, rfl⟩ | ⟨rfl, rfl⟩ | ⟨rfl, rfl⟩ | ⟨rfl, rfl⟩ | ⟨rfl, rfl⟩ | ⟨rfl, rfl⟩ | ⟨rfl, rfl⟩ | ⟨rfl, rfl⟩ | ⟨rfl, rfl⟩ | ⟨rfl, rfl⟩ | ⟨rfl, rfl⟩ | ⟨rfl, rfl⟩ | ⟨rfl, rfl⟩ | ⟨rfl, rfl⟩ | ⟨rfl, rfl⟩ | ⟨rfl, rfl⟩ | ⟨rfl, rfl⟩ | ⟨rfl, rfl⟩ | ⟨rfl, rfl⟩ | ⟨rfl, rfl⟩ | ⟨rfl, rfl⟩ | ⟨rfl, rfl⟩ | ⟨rfl, rfl⟩ | ⟨rfl, rfl⟩ | ⟨rfl, rfl⟩ | ⟨rfl, rfl⟩ | ⟨rfl, rfl⟩ | ⟨rfl, rfl⟩ | ⟨rfl, rfl⟩ | ⟨rfl, rfl⟩
    · exact chkCall_ok mix memo4_ok q4_0
    · exact chkCall_ok mix memo4_ok q4_1
    · exact chkCall_ok mix memo4_ok q4_2
    · exact chkCall_ok mix memo4_ok q4_3
    · exact chkCall_ok mix memo4_ok q4_4
    · exact chkCall_ok mix memo4_ok q4_6
    · exact chkCall_ok mix memo4_ok q4_7
    · exact chkCall_ok mix memo4_ok q4_8
    · exact chkCall_ok mix memo4_ok q4_9
    · exact chkCall_ok mix memo4_ok q4_10
    · exact chkCall_ok mix memo4_ok q4_11
    · exact chkCall_ok mix memo4_ok q4_12
    · exact chkCall_ok mix memo4_ok q4_13
    · exact chkCall_ok mix memo4_ok q4_14
    · exact chkCall_ok mix memo4_ok q4_15
    · exact chkCall_ok mix memo4_ok q4_16
    · exact chkCall_ok mix memo4_ok q4_17
    · exact chkCall_ok mix memo4_ok q4_18
    · exact chkCall_ok mix memo4_ok q4_19
    · exact chkCall_ok mix memo4_ok q4_20
    · exact chkCall_ok mix memo4_ok q4_21
    · exact chkCall_ok mix memo4_ok q4_22
    · exact chkCall_ok mix memo4_ok q4_23
    · exact chkCall_ok mix memo4_ok q4_24
    · exact chkCall_ok mix memo4_ok q4_25
    · exact chkCall_ok mix memo4_ok q4_26
    · exact chkCall_ok mix memo4_ok q4_27
    · exact chkCall_ok mix memo4_ok q4_28
    · exact chkCall_ok mix memo4_ok q4_29
    · exact chkCall_ok mix memo4_ok q4_30
    · exact chkCall_ok mix memo4_ok q4_31
    · exact chkCall_ok mix memo4_ok q4_32
    · exact chkCall_ok mix memo4_ok q4_33
    · exact chkCall_ok mix memo4_ok q4_34
    · exact chkCall_ok mix memo4_ok q4_35
    · exact chkCall_ok mix memo4_ok q4_36
def T4_1 : List (List V × V) := [(a4_5, r4_5), (a4_37, r4_37), (a4_38, r4_38), (a4_39, r4_39), (a4_40, r4_40), (a4_41, r4_41), (a4_42, r4_42), (a4_43, r4_43)]
noncomputable def memo4_1 : Memo := fun f => @Bool.rec (fun _ => Option (List V → Option V)) (memo4_0 f) (some (look3 T4_1)) (Nat.beq f 6)
theorem memo4_1_ok : MemoOK Tryz.prog memo4_1 := by
  intro f g key v h hk
  cases hb : Nat.beq f 6 with
  | false => simp only [memo4_1, hb] at h; exact memo4_0_ok f g key v h hk
  | true =>
    simp only [memo4_1, hb] at h
    injection h with h; subst h
    have : f = 6 := Nat.eq_of_beq_eq_true hb
    subst this
    have := look3_ok _ _ _ hk
    simp only [T4_1, List.mem_cons, List.not_mem_nil, or_false, Prod.mk.injEq] at this
    rcases this with ⟨rfl, rfl⟩ | ⟨rfl, rfl⟩ | ⟨rfl, rfl⟩ | ⟨rfl, rfl⟩ | ⟨rfl, rfl⟩ | ⟨rfl, rfl⟩ | ⟨rfl, rfl⟩ | ⟨rfl, rfl⟩
    · exact chkCall_ok mix memo4_ok q4_5
    · exact chkCall_ok mix memo4_ok q4_37
    · exact chkCall_ok mix memo4_ok q4_38
    · exact chkCall_ok mix memo4_ok q4_39
    · exact chkCall_ok mix memo4_ok q4_40
    · exact chkCall_ok mix memo4_ok q4_41
    · exact chkCall_ok mix memo4_ok q4_42
    · exact chkCall_ok mix memo4_ok q4_43
noncomputable abbrev memo5 : Memo := memo4_1
theorem memo5_ok : MemoOK Tryz.prog memo5 := memo4_1_ok
end Go.Proofs.YtoleefgpfkpokaaGreatDoor.Run
