/- Known answers, level 1, joined: no statement of its own. -/
import Derived.Test.YtdplokgeieccjaaGreatRunB0
import Derived.Test.YtdplokgeieccjaaGreatRunB1
import Derived.Test.YtdplokgeieccjaaGreatRunB2
import Derived.Test.YtdplokgeieccjaaGreatRunB3
import Derived.Test.YtdplokgeieccjaaGreatRunB4
import Derived.Test.YtdplokgeieccjaaGreatRunB5
set_option autoImplicit false
set_option maxRecDepth 100000
set_option linter.unusedVariables false
namespace Go.Proofs.YtdplokgeieccjaaGreat.Run
open Go Go.Vm

def T0_0 : List (List V × V) := [(a0_0, r0_0), (a0_1, r0_1), (a0_2, r0_2), (a0_6, r0_6), (a0_7, r0_7), (a0_8, r0_8), (a0_9, r0_9), (a0_10, r0_10), (a0_11, r0_11), (a0_12, r0_12), (a0_13, r0_13), (a0_14, r0_14), (a0_15, r0_15), (a0_16, r0_16), (a0_17, r0_17), (a0_18, r0_18)]
noncomputable def memo0_0 : Memo := fun f => @Bool.rec (fun _ => Option (List V → Option V)) (memo0 f) (some (look3 T0_0)) (Nat.beq f 6)
theorem memo0_0_ok : MemoOK Tryz.prog memo0_0 := by
  intro f g key v h hk
  cases hb : Nat.beq f 6 with
  | false => simp only [memo0_0, hb] at h; exact memo0_ok f g key v h hk
  | true =>
    simp only [memo0_0, hb] at h
    injection h with h; subst h
    have : f = 6 := Nat.eq_of_beq_eq_true hb
    subst this
    have := look3_ok _ _ _ hk
    simp only [T0_0, List.mem_cons, List.not_mem_nil, or_false, Prod.mk.injEq] at this
    rcases this with ⟨rfl, rfl⟩ | ⟨rfl, rfl⟩ | ⟨rfl, rfl⟩ | ⟨rfl, rfl⟩ | ⟨rfl, rfl⟩ | ⟨rfl, rfl⟩ | ⟨rfl, rfl⟩ | ⟨rfl, rfl⟩ | ⟨rfl, rfl⟩ | ⟨rfl, rfl⟩ | ⟨rfl, rfl⟩ | ⟨rfl, rfl⟩ | ⟨rfl, rfl⟩ | ⟨rfl, rfl⟩ | ⟨rfl, rfl⟩ | ⟨rfl, rfl⟩
    · exact chkCall_ok mix memo0_ok q0_0
    · exact chkCall_ok mix memo0_ok q0_1
    · exact chkCall_ok mix memo0_ok q0_2
    · exact chkCall_ok mix memo0_ok q0_6
    · exact chkCall_ok mix memo0_ok q0_7
    · exact chkCall_ok mix memo0_ok q0_8
    · exact chkCall_ok mix memo0_ok q0_9
    · exact chkCall_ok mix memo0_ok q0_10
    · exact chkCall_ok mix memo0_ok q0_11
    · exact chkCall_ok mix memo0_ok q0_12
    · exact chkCall_ok mix memo0_ok q0_13
    · exact chkCall_ok mix memo0_ok q0_14
    · exact chkCall_ok mix memo0_ok q0_15
    · exact chkCall_ok mix memo0_ok q0_16
    · exact chkCall_ok mix memo0_ok q0_17
    · exact chkCall_ok mix memo0_ok q0_18
def T0_1 : List (List V × V) := [(a0_3, r0_3), (a0_4, r0_4), (a0_5, r0_5), (a0_19, r0_19), (a0_20, r0_20), (a0_21, r0_21), (a0_22, r0_22), (a0_23, r0_23), (a0_24, r0_24), (a0_25, r0_25), (a0_26, r0_26), (a0_27, r0_27), (a0_28, r0_28), (a0_29, r0_29)]
noncomputable def memo0_1 : Memo := fun f => @Bool.rec (fun _ => Option (List V → Option V)) (memo0_0 f) (some (look3 T0_1)) (Nat.beq f 9)
theorem memo0_1_ok : MemoOK Tryz.prog memo0_1 := by
  intro f g key v h hk
  cases hb : Nat.beq f 9 with
  | false => simp only [memo0_1, hb] at h; exact memo0_0_ok f g key v h hk
  | true =>
    simp only [memo0_1, hb] at h
    injection h with h; subst h
    have : f = 9 := Nat.eq_of_beq_eq_true hb
    subst this
    have := look3_ok _ _ _ hk
    simp only [T0_1, List.mem_cons, List.not_mem_nil, or_false, Prod.mk.injEq] at this
    rcases this with ⟨rfl, rfl⟩ | ⟨rfl, rfl⟩ | ⟨rfl, rfl⟩ | ⟨rfl, rfl⟩ | ⟨rfl, rfl⟩ | ⟨rfl, rfl⟩ | ⟨rfl, rfl⟩ | ⟨rfl, rfl⟩ | ⟨rfl, rfl⟩ | ⟨rfl, rfl⟩ | ⟨rfl, rfl⟩ | ⟨rfl, rfl⟩ | ⟨rfl, rfl⟩ | ⟨rfl, rfl⟩
    · exact chkCall_ok mix memo0_ok q0_3
    · exact chkCall_ok mix memo0_ok q0_4
    · exact chkCall_ok mix memo0_ok q0_5
    · exact chkCall_ok mix memo0_ok q0_19
    · exact chkCall_ok mix memo0_ok q0_20
    · exact chkCall_ok mix memo0_ok q0_21
    · exact chkCall_ok mix memo0_ok q0_22
    · exact chkCall_ok mix memo0_ok q0_23
    · exact chkCall_ok mix memo0_ok q0_24
    · exact chkCall_ok mix memo0_ok q0_25
    · exact chkCall_ok mix memo0_ok q0_26
    · exact chkCall_ok mix memo0_ok q0_27
    · exact chkCall_ok mix memo0_ok q0_28
    · exact chkCall_ok mix memo0_ok q0_29
noncomputable abbrev memo1 : Memo := memo0_1
theorem memo1_ok : MemoOK Tryz.prog memo1 := memo0_1_ok
end Go.Proofs.YtdplokgeieccjaaGreat.Run
