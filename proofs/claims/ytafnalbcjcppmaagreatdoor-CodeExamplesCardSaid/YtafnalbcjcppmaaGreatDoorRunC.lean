import Derived.Test.YtafnalbcjcppmaaGreatDoorRunB0
import Derived.Test.YtafnalbcjcppmaaGreatDoorRunB1
import Derived.Test.YtafnalbcjcppmaaGreatDoorRunB2
import Derived.Test.YtafnalbcjcppmaaGreatDoorRunB3
import Derived.KernelRfl
set_option autoImplicit false
set_option maxRecDepth 100000
namespace Go.Proofs.YtafnalbcjcppmaaGreatDoor.Run
open Go Go.Vm

def isT : List (List V × V) := [(c0, .bool true), (c1, .bool true), (c2, .bool true), (c3, .bool true), (c4, .bool true), (c5, .bool true), (c6, .bool true), (c7, .bool true), (c8, .bool true), (c9, .bool true), (c10, .bool true), (c11, .bool true), (c12, .bool true), (c13, .bool true)]
noncomputable def memo2 : Memo := fun f => @Bool.rec (fun _ => Option (List V → Option V)) (memo1 f) (some (look3 isT)) (Nat.beq f 6)
theorem memo2_ok : MemoOK Tryz.prog memo2 := by
  intro f g key v h hk
  cases hb : Nat.beq f 6 with
  | false => simp only [memo2, hb] at h; exact memo1_ok f g key v h hk
  | true =>
    simp only [memo2, hb] at h
    injection h with h; subst h
    have : f = 6 := Nat.eq_of_beq_eq_true hb
    subst this
    have := look3_ok _ _ _ hk
    simp only [isT, List.mem_cons, List.not_mem_nil, or_false, Prod.mk.injEq] at this
    rcases this with ⟨rfl, rfl⟩ | ⟨rfl, rfl⟩ | ⟨rfl, rfl⟩ | ⟨rfl, rfl⟩ | ⟨rfl, rfl⟩ | ⟨rfl, rfl⟩ | ⟨rfl, rfl⟩ | ⟨rfl, rfl⟩ | ⟨rfl, rfl⟩ | ⟨rfl, rfl⟩ | ⟨rfl, rfl⟩ | ⟨rfl, rfl⟩ | ⟨rfl, rfl⟩ | ⟨rfl, rfl⟩
    · exact chkCall_ok mix memo1_ok is0
    · exact chkCall_ok mix memo1_ok is1
    · exact chkCall_ok mix memo1_ok is2
    · exact chkCall_ok mix memo1_ok is3
    · exact chkCall_ok mix memo1_ok is4
    · exact chkCall_ok mix memo1_ok is5
    · exact chkCall_ok mix memo1_ok is6
    · exact chkCall_ok mix memo1_ok is7
    · exact chkCall_ok mix memo1_ok is8
    · exact chkCall_ok mix memo1_ok is9
    · exact chkCall_ok mix memo1_ok is10
    · exact chkCall_ok mix memo1_ok is11
    · exact chkCall_ok mix memo1_ok is12
    · exact chkCall_ok mix memo1_ok is13
set_option maxHeartbeats 400000000 in
theorem awake_run : chkCall Tryz.prog memo2 5 [] (.bool true) = true := by kernel_rfl
theorem awake_known : Known Tryz.prog 5 [] (.bool true) := chkCall_ok mix memo2_ok awake_run
set_option maxHeartbeats 400000000 in
theorem examples_run : chkCall Tryz.prog memo2 3 [] (.bool true) = true := by kernel_rfl
theorem examples_known : Known Tryz.prog 3 [] (.bool true) := chkCall_ok mix memo2_ok examples_run
end Go.Proofs.YtafnalbcjcppmaaGreatDoor.Run
