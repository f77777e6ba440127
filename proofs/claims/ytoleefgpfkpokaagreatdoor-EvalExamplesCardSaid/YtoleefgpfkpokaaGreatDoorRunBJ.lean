/- Known answers, level 1, joined: no statement of its own. -/
import Derived.Test.YtoleefgpfkpokaaGreatDoorRunB0
import Derived.Test.YtoleefgpfkpokaaGreatDoorRunB1
import Derived.Test.YtoleefgpfkpokaaGreatDoorRunB2
import Derived.Test.YtoleefgpfkpokaaGreatDoorRunB3
import Derived.Test.YtoleefgpfkpokaaGreatDoorRunB4
import Derived.Test.YtoleefgpfkpokaaGreatDoorRunB5
import Derived.Test.YtoleefgpfkpokaaGreatDoorRunB6
import Derived.Test.YtoleefgpfkpokaaGreatDoorRunB7
import Derived.Test.YtoleefgpfkpokaaGreatDoorRunB8
import Derived.Test.YtoleefgpfkpokaaGreatDoorRunB9
import Derived.Test.YtoleefgpfkpokaaGreatDoorRunB10
set_option autoImplicit false
set_option maxRecDepth 100000
set_option linter.unusedVariables false
namespace Go.Proofs.YtoleefgpfkpokaaGreatDoor.Run
open Go Go.Vm

def T0_0 : List (List V × V) := [(a0_0, r0_0), (a0_6, r0_6), (a0_8, r0_8), (a0_10, r0_10), (a0_12, r0_12), (a0_14, r0_14), (a0_17, r0_17), (a0_19, r0_19), (a0_20, r0_20), (a0_22, r0_22), (a0_24, r0_24), (a0_25, r0_25), (a0_27, r0_27), (a0_28, r0_28), (a0_29, r0_29), (a0_30, r0_30), (a0_31, r0_31), (a0_32, r0_32), (a0_34, r0_34), (a0_35, r0_35), (a0_37, r0_37), (a0_39, r0_39), (a0_40, r0_40), (a0_41, r0_41), (a0_42, r0_42), (a0_44, r0_44), (a0_46, r0_46), (a0_47, r0_47), (a0_49, r0_49), (a0_50, r0_50), (a0_52, r0_52), (a0_54, r0_54), (a0_55, r0_55), (a0_56, r0_56), (a0_57, r0_57), (a0_59, r0_59), (a0_60, r0_60), (a0_63, r0_63), (a0_64, r0_64), (a0_66, r0_66), (a0_68, r0_68), (a0_70, r0_70)]
noncomputable def memo0_0 : Memo := fun f => @Bool.rec (fun _ => Option (List V → Option V)) (memo0 f) (some (look3 T0_0)) (Nat.beq f 15)
theorem memo0_0_ok : MemoOK Tryz.prog memo0_0 := by
  intro f g key v h hk
  cases hb : Nat.beq f 15 with
  | false => simp only [memo0_0, hb] at h; exact memo0_ok f g key v h hk
  | true =>
    simp only [memo0_0, hb] at h
    injection h with h; subst h
    have : f = 15 := Nat.eq_of_beq_eq_true hb
    subst this
    have := look3_ok _ _ _ hk
    simp only [T0_0, List.mem_cons, List.not_mem_nil, or_false, Prod.mk.injEq] at this
    rcases this with ⟨rfl, rfl⟩ | ⟨rfl, rfl⟩ | ⟨rfl, rfl⟩ | ⟨rfl, rfl⟩ | ⟨rfl, rfl⟩ | ⟨rfl, rfl⟩ | ⟨rfl, rfl⟩ | ⟨rfl, rfl⟩ | ⟨rfl, rfl⟩ | ⟨rfl, rfl⟩ | ⟨rfl, rfl⟩ | ⟨rfl, rfl⟩ | ⟨rfl, rfl⟩ | ⟨rfl, rfl⟩ | ⟨rfl, rfl⟩ | ⟨rfl, rfl⟩ | ⟨rfl, rfl⟩ | ⟨rfl, rfl⟩ | ⟨rfl, rfl⟩ | ⟨rfl, rfl⟩ | ⟨rfl, rfl⟩ | ⟨rfl, rfl⟩ | ⟨rfl, rfl⟩ | ⟨rfl, rfl⟩ | ⟨rfl, rfl⟩ | ⟨rfl, rfl⟩ | ⟨rfl, rfl⟩ | ⟨rfl, rfl⟩ | ⟨rfl, rfl⟩ | ⟨rfl, rfl⟩ | ⟨rfl, rfl⟩ | ⟨rfl, rfl⟩ | ⟨rfl, rfl⟩ | ⟨rfl, rfl⟩ | ⟨rfl, rfl⟩ | ⟨rfl, rfl⟩ | ⟨rfl, rfl⟩ | ⟨rfl, rfl⟩ | ⟨rfl, rfl⟩ | ⟨rfl, rfl⟩ | ⟨rfl, rfl⟩ | ⟨rfl, rfl⟩
    · exact chkCall_ok mix memo0_ok q0_0
    · exact chkCall_ok mix memo0_ok q0_6
    · exact chkCall_ok mix memo0_ok q0_8
    · exact chkCall_ok mix memo0_ok q0_10
    · exact chkCall_ok mix memo0_ok q0_12
    · exact chkCall_ok mix memo0_ok q0_14
    · exact chkCall_ok mix memo0_ok q0_17
    · exact chkCall_ok mix memo0_ok q0_19
    · exact chkCall_ok mix memo0_ok q0_20
    · exact chkCall_ok mix memo0_ok q0_22
    · exact chkCall_ok mix memo0_ok q0_24
    · exact chkCall_ok mix memo0_ok q0_25
    · exact chkCall_ok mix memo0_ok q0_27
    · exact chkCall_ok mix memo0_ok q0_28
    · exact chkCall_ok mix memo0_ok q0_29
    · exact chkCall_ok mix memo0_ok q0_30
    · exact chkCall_ok mix memo0_ok q0_31
    · exact chkCall_ok mix memo0_ok q0_32
    · exact chkCall_ok mix memo0_ok q0_34
    · exact chkCall_ok mix memo0_ok q0_35
    · exact chkCall_ok mix memo0_ok q0_37
    · exact chkCall_ok mix memo0_ok q0_39
    · exact chkCall_ok mix memo0_ok q0_40
    · exact chkCall_ok mix memo0_ok q0_41
    · exact chkCall_ok mix memo0_ok q0_42
    · exact chkCall_ok mix memo0_ok q0_44
    · exact chkCall_ok mix memo0_ok q0_46
    · exact chkCall_ok mix memo0_ok q0_47
    · exact chkCall_ok mix memo0_ok q0_49
    · exact chkCall_ok mix memo0_ok q0_50
    · exact chkCall_ok mix memo0_ok q0_52
    · exact chkCall_ok mix memo0_ok q0_54
    · exact chkCall_ok mix memo0_ok q0_55
    · exact chkCall_ok mix memo0_ok q0_56
    · exact chkCall_ok mix memo0_ok q0_57
    · exact chkCall_ok mix memo0_ok q0_59
    · exact chkCall_ok mix memo0_ok q0_60
    · exact chkCall_ok mix memo0_ok q0_63
    · exact chkCall_ok mix memo0_ok q0_64
    · exact chkCall_ok mix memo0_ok q0_66
    · exact chkCall_ok mix memo0_ok q0_68
    · exact chkCall_ok mix memo0_ok q0_70
def T0_1 : List (List V × V) := [(a0_1, r0_1), (a0_2, r0_2), (a0_3, r0_3), (a0_4, r0_4), (a0_5, r0_5), (a0_7, r0_7), (a0_9, r0_9), (a0_11, r0_11), (a0_13, r0_13), (a0_15, r0_15), (a0_16, r0_16), (a0_18, r0_18), (a0_21, r0_21), (a0_23, r0_23), (a0_26, r0_26), (a0_33, r0_33), (a0_36, r0_36), (a0_38, r0_38), (a0_43, r0_43), (a0_45, r0_45), (a0_48, r0_48), (a0_51, r0_51), (a0_53, r0_53), (a0_58, r0_58), (a0_61, r0_61), (a0_62, r0_62), (a0_65, r0_65), (a0_67, r0_67), (a0_69, r0_69), (a0_71, r0_71), (a0_72, r0_72)]
noncomputable def memo0_1 : Memo := fun f => @Bool.rec (fun _ => Option (List V → Option V)) (memo0_0 f) (some (look3 T0_1)) (Nat.beq f 10)
theorem memo0_1_ok : MemoOK Tryz.prog memo0_1 := by
  intro f g key v h hk
  cases hb : Nat.beq f 10 with
  | false => simp only [memo0_1, hb] at h; exact memo0_0_ok f g key v h hk
  | true =>
    simp only [memo0_1, hb] at h
    injection h with h; subst h
    have : f = 10 := Nat.eq_of_beq_eq_true hb
    subst this
    have := look3_ok _ _ _ hk
    simp only [T0_1, List.mem_cons, List.not_mem_nil, or_false, Prod.mk.injEq] at this
    rcases this with ⟨rfl, rfl⟩ | ⟨rfl, rfl⟩ | ⟨rfl, rfl⟩ | ⟨rfl, rfl⟩ | ⟨rfl, rfl⟩ | ⟨rfl, rfl⟩ | ⟨rfl, rfl⟩ | ⟨rfl, rfl⟩ | ⟨rfl, rfl⟩ | ⟨rfl, rfl⟩ | ⟨rfl, rfl⟩ | ⟨rfl, rfl⟩ | ⟨rfl, rfl⟩ | ⟨rfl, rfl⟩ | ⟨rfl, rfl⟩ | ⟨rfl, rfl⟩ | ⟨rfl, rfl⟩ | ⟨rfl, rfl⟩ | ⟨rfl, rfl⟩ | ⟨rfl, rfl⟩ | ⟨rfl, rfl⟩ | ⟨rfl, rfl⟩ | ⟨rfl, rfl⟩ | ⟨rfl, rfl⟩ | ⟨rfl, rfl⟩ | ⟨rfl, rfl⟩ | ⟨rfl, rfl⟩ | ⟨rfl, rfl⟩ | ⟨rfl, rfl⟩ | ⟨rfl, rfl⟩ | ⟨rfl, rfl⟩
    · exact chkCall_ok mix memo0_ok q0_1
    · exact chkCall_ok mix memo0_ok q0_2
    · exact chkCall_ok mix memo0_ok q0_3
    · exact chkCall_ok mix memo0_ok q0_4
    · exact chkCall_ok mix memo0_ok q0_5
    · exact chkCall_ok mix memo0_ok q0_7
    · exact chkCall_ok mix memo0_ok q0_9
    · exact chkCall_ok mix memo0_ok q0_11
    · exact chkCall_ok mix memo0_ok q0_13
    · exact chkCall_ok mix memo0_ok q0_15
    · exact chkCall_ok mix memo0_ok q0_16
    · exact chkCall_ok mix memo0_ok q0_18
    · exact chkCall_ok mix memo0_ok q0_21
    · exact chkCall_ok mix memo0_ok q0_23
    · exact chkCall_ok mix memo0_ok q0_26
    · exact chkCall_ok mix memo0_ok q0_33
    · exact chkCall_ok mix memo0_ok q0_36
    · exact chkCall_ok mix memo0_ok q0_38
    · exact chkCall_ok mix memo0_ok q0_43
    · exact chkCall_ok mix memo0_ok q0_45
    · exact chkCall_ok mix memo0_ok q0_48
    · exact chkCall_ok mix memo0_ok q0_51
    · exact chkCall_ok mix memo0_ok q0_53
    · exact chkCall_ok mix memo0_ok q0_58
    · exact chkCall_ok mix memo0_ok q0_61
    · exact chkCall_ok mix memo0_ok q0_62
    · exact chkCall_ok mix memo0_ok q0_65
    · exact chkCall_ok mix memo0_ok q0_67
    · exact chkCall_ok mix memo0_ok q0_69
    · exact chkCall_ok mix memo0_ok q0_71
    · exact chkCall_ok mix memo0_ok q0_72
noncomputable abbrev memo1a : Memo := memo0_1
theorem memo1a_ok : MemoOK Tryz.prog memo1a := memo0_1_ok
end Go.Proofs.YtoleefgpfkpokaaGreatDoor.Run
