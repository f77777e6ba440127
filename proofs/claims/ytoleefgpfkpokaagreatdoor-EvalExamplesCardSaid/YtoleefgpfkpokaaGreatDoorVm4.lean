import Derived.Test.YtoleefgpfkpokaaGreatDoorVm1
import Derived.Test.YtoleefgpfkpokaaGreatDoorVm2
import Derived.Test.YtoleefgpfkpokaaGreatDoorVm3
set_option autoImplicit false
set_option linter.unusedSectionVars false
set_option linter.unusedVariables false
set_option linter.unusedSimpArgs false
/-! A fast evaluator for the kernel: its data and how it runs. Every alternative is closed. (Printed by genK.py.) -/
namespace Go.Vm
variable [Gl]

/-! ### temporaries -/
inductive Loc where
  | x (a b c d e : Sel)
  | k (v : V)
inductive Dst where
  | no
  | at (a b c d e : Sel)
abbrev X1 : Type := N4 V
abbrev X2 : Type := N4 X1
abbrev X3 : Type := N4 X2
abbrev X4 : Type := N4 X3
abbrev X5 : Type := N4 X4
noncomputable def get2 (l : Loc) (t : X2) : V := @Loc.rec (fun _ => X2 → V) (fun _ _ _ d e t => (t.at d).at e) (fun v _ => v) l t
noncomputable def get3 (l : Loc) (t : X3) : V := @Loc.rec (fun _ => X3 → V) (fun _ _ c d e t => ((t.at c).at d).at e) (fun v _ => v) l t
noncomputable def get4 (l : Loc) (t : X4) : V := @Loc.rec (fun _ => X4 → V) (fun _ b c d e t => (((t.at b).at c).at d).at e) (fun v _ => v) l t
noncomputable def get5 (l : Loc) (t : X5) : V := @Loc.rec (fun _ => X5 → V) (fun a b c d e t => ((((t.at a).at b).at c).at d).at e) (fun v _ => v) l t
noncomputable def put2 (d : Dst) (v : V) (t : X2) (k : X2 → Bool) : Bool :=
  @Dst.rec (fun _ => V → X2 → (X2 → Bool) → Bool) (fun _ t k => k t) (fun _ _ _ d e v t k => t.go d (fun t k => t.put e v k) k) d v t k
noncomputable def put3 (d : Dst) (v : V) (t : X3) (k : X3 → Bool) : Bool :=
  @Dst.rec (fun _ => V → X3 → (X3 → Bool) → Bool) (fun _ t k => k t) (fun _ _ c d e v t k => t.go c (fun t k => t.go d (fun t k => t.put e v k) k) k) d v t k
noncomputable def put4 (d : Dst) (v : V) (t : X4) (k : X4 → Bool) : Bool :=
  @Dst.rec (fun _ => V → X4 → (X4 → Bool) → Bool) (fun _ t k => k t) (fun _ b c d e v t k => t.go b (fun t k => t.go c (fun t k => t.go d (fun t k => t.put e v k) k) k) k) d v t k
noncomputable def put5 (d : Dst) (v : V) (t : X5) (k : X5 → Bool) : Bool :=
  @Dst.rec (fun _ => V → X5 → (X5 → Bool) → Bool) (fun _ t k => k t) (fun a b c d e v t k => t.go a (fun t k => t.go b (fun t k => t.go c (fun t k => t.go d (fun t k => t.put e v k) k) k) k) k) d v t k
def z1 : X1 := ⟨.any, .any, .any, .any⟩
def z2 : X2 := ⟨z1, z1, z1, z1⟩
def z3 : X3 := ⟨z2, z2, z2, z2⟩
def z4 : X4 := ⟨z3, z3, z3, z3⟩
def z5 : X5 := ⟨z4, z4, z4, z4⟩

/-! ### forms of operations -/
abbrev K1 : Type := V → (V → Bool) → Bool
abbrev K2 : Type := V → V → (V → Bool) → Bool
abbrev K3 : Type := V → V → V → (V → Bool) → Bool
abbrev KN : Type := List V → (V → Bool) → Bool
/-- Operations that read the store (the Bool: what a fault answers). -/
abbrev KL : Type := V → KS → Bool → (V → Bool) → Bool
/-- Operations that change it. -/
abbrev E1 : Type := V → KS → (V → KS → Bool) → Bool
abbrev E2 : Type := V → V → KS → (V → KS → Bool) → Bool
abbrev E3 : Type := V → V → V → KS → (V → KS → Bool) → Bool
abbrev EL : Type := List V → KS → (V → KS → Bool) → Bool
abbrev CallK : Type := FuncId → List V → KS → (V → KS → Bool) → Bool
abbrev BL : Type := Bool → Bool → Bool

/-! ### forcing -/
noncomputable def natK (n : Nat) (k : Nat → Bool) : Bool := @Nat.rec (fun _ => (Nat → Bool) → Bool) (fun k => k 0) (fun m _ k => k (Nat.succ m)) n k
noncomputable def intK (n : Int) (k : Int → Bool) : Bool :=
  @Int.rec (fun _ => (Int → Bool) → Bool) (fun m k => natK m fun m => k (.ofNat m)) (fun m k => natK m fun m => k (.negSucc m)) n k
noncomputable def boolK (b : Bool) (k : Bool → Bool) : Bool := @Bool.rec (fun _ => (Bool → Bool) → Bool) (fun k => k false) (fun k => k true) b k
noncomputable def okI (kd : IntKind) (n : Int) (k : V → Bool) : Bool :=
  @Int.rec (fun _ => IntKind → (V → Bool) → Bool) (fun m kd k => @Nat.rec (fun _ => IntKind → (V → Bool) → Bool) (fun kd k => k (.int kd (.ofNat 0))) (fun m _ kd k => k (.int kd (.ofNat (Nat.succ m)))) m kd k)
    (fun m kd k => @Nat.rec (fun _ => IntKind → (V → Bool) → Bool) (fun kd k => k (.int kd (.negSucc 0))) (fun m _ kd k => k (.int kd (.negSucc (Nat.succ m)))) m kd k) n kd k
noncomputable def okB (b : Bool) (k : V → Bool) : Bool := @Bool.rec (fun _ => (V → Bool) → Bool) (fun k => k (.bool false)) (fun k => k (.bool true)) b k

/-- Evaluates a value to its form. -/
noncomputable def force (v : V) (k : V → Bool) : Bool :=
  @V.rec (fun _ => (V → Bool) → Bool) (fun _ => PUnit) (fun k => k .any) (fun b => fun k => okB b k) (fun kd n => fun k => okI kd n k) (fun s => fun k => k (.str s)) (fun k => k .nilp) (fun i o => fun k => natK o fun o => k (.ptr i o)) (fun c _ => fun k => k (.ipt c)) (fun k => k .nils) (fun e l _ => fun k => k (.imm e l)) (fun e i o n => fun k => natK e fun e => natK o fun o => natK n fun n => k (.ref e i o n)) (fun f a c _ _ => fun k => k (.fn f a c)) (fun k => k .nilf) (fun c _ => fun k => k (.agg c)) (fun c _ => fun k => k (.tup c)) (fun k => k .nilm) (fun i => fun k => k (.map i)) (fun l => fun k => k (.yld l)) PUnit.unit (fun _ _ _ _ => PUnit.unit) v k
noncomputable def optK (r : Option V) (k : V → Bool) : Bool := @Option.rec V (fun _ => (V → Bool) → Bool) (fun _ => false) (fun v k => force v k) r k
/-- Rebuilds a list. -/
noncomputable def listK (l : List V) (k : List V → Bool) : Bool := @List.rec V (fun _ => (List V → Bool) → Bool) (fun k => k []) (fun v _ ih k => force v fun v => ih fun r => k (v :: r)) l k

/-! ### plain operations -/
noncomputable def kindEq (k j : IntKind) : Bool :=
  @IntKind.rec (fun _ => IntKind → Bool)
    (fun j => @IntKind.rec (fun _ => Bool) true false false false false false false false j)
    (fun j => @IntKind.rec (fun _ => Bool) false true false false false false false false j)
    (fun j => @IntKind.rec (fun _ => Bool) false false true false false false false false j)
    (fun j => @IntKind.rec (fun _ => Bool) false false false true false false false false j)
    (fun j => @IntKind.rec (fun _ => Bool) false false false false true false false false j)
    (fun j => @IntKind.rec (fun _ => Bool) false false false false false true false false j)
    (fun j => @IntKind.rec (fun _ => Bool) false false false false false false true false j)
    (fun j => @IntKind.rec (fun _ => Bool) false false false false false false false true j)
    k j
noncomputable def small (kd : IntKind) (m : Nat) : Bool :=
  @IntKind.rec (fun _ => Nat → Bool) (fun m => Nat.ble m 127) (fun m => Nat.ble m 32767) (fun m => Nat.ble m 2147483647) (fun m => Nat.ble m 9223372036854775807) (fun m => Nat.ble m 255) (fun m => Nat.ble m 65535) (fun m => Nat.ble m 4294967295) (fun m => Nat.ble m 18446744073709551615) kd m
noncomputable def wr (kd : IntKind) (n : Int) (k : V → Bool) : Bool :=
  @Int.rec (fun _ => IntKind → (V → Bool) → Bool)
    (fun m kd k => @Bool.rec (fun _ => Nat → IntKind → (V → Bool) → Bool) (fun m kd k => okI kd (kd.wrap (.ofNat m)) k) (fun m kd k => @Nat.rec (fun _ => IntKind → (V → Bool) → Bool) (fun kd k => k (.int kd (.ofNat 0))) (fun m _ kd k => k (.int kd (.ofNat (Nat.succ m)))) m kd k)
      (small kd m) m kd k)
    (fun m kd k => okI kd (kd.wrap (.negSucc m)) k) n kd k
noncomputable def intEq (a b : Int) : Bool :=
  @Int.rec (fun _ => Int → Bool) (fun m b => @Int.rec (fun _ => Nat → Bool) (fun n m => Nat.beq m n) (fun _ _ => false) b m) (fun m b => @Int.rec (fun _ => Nat → Bool) (fun _ _ => false) (fun n m => Nat.beq m n) b m) a b
noncomputable def intLe (a b : Int) : Bool :=
  @Int.rec (fun _ => Int → Bool) (fun m b => @Int.rec (fun _ => Nat → Bool) (fun n m => Nat.ble m n) (fun _ _ => false) b m) (fun m b => @Int.rec (fun _ => Nat → Bool) (fun _ _ => true) (fun n m => Nat.ble n m) b m) a b
noncomputable def notB (b : Bool) : Bool := @Bool.rec (fun _ => Bool) true false b
noncomputable def iAdd (x y : V) (k : V → Bool) : Bool :=
  @V.rec (fun _ => V → (V → Bool) → Bool) (fun _ => PUnit) (fun _ _ => false) (fun _ => fun _ _ => false) (fun kd a => fun y k => @V.rec (fun _ => IntKind → Int → (V → Bool) → Bool) (fun _ => PUnit) (fun _ _ _ => false) (fun _ => fun _ _ _ => false) (fun j b => fun kd a k => @Bool.rec (fun _ => IntKind → Int → Int → (V → Bool) → Bool) (fun _ _ _ _ => false) (fun kd a b k => wr kd (Int.add a b) k) (kindEq kd j) kd a b k) (fun _ => fun _ _ _ => false) (fun _ _ _ => false) (fun _ _ => fun _ _ _ => false) (fun _ _ => fun _ _ _ => false) (fun _ _ _ => false) (fun _ _ _ => fun _ _ _ => false) (fun _ _ _ _ => fun _ _ _ => false) (fun _ _ _ _ _ => fun _ _ _ => false) (fun _ _ _ => false) (fun _ _ => fun _ _ _ => false) (fun _ _ => fun _ _ _ => false) (fun _ _ _ => false) (fun _ => fun _ _ _ => false) (fun _ => fun _ _ _ => false) PUnit.unit (fun _ _ _ _ => PUnit.unit) y kd a k) (fun _ => fun _ _ => false) (fun _ _ => false) (fun _ _ => fun _ _ => false) (fun _ _ => fun _ _ => false) (fun _ _ => false) (fun _ _ _ => fun _ _ => false) (fun _ _ _ _ => fun _ _ => false) (fun _ _ _ _ _ => fun _ _ => false) (fun _ _ => false) (fun _ _ => fun _ _ => false) (fun _ _ => fun _ _ => false) (fun _ _ => false) (fun _ => fun _ _ => false) (fun _ => fun _ _ => false) PUnit.unit (fun _ _ _ _ => PUnit.unit) x y k
noncomputable def iSub (x y : V) (k : V → Bool) : Bool :=
  @V.rec (fun _ => V → (V → Bool) → Bool) (fun _ => PUnit) (fun _ _ => false) (fun _ => fun _ _ => false) (fun kd a => fun y k => @V.rec (fun _ => IntKind → Int → (V → Bool) → Bool) (fun _ => PUnit) (fun _ _ _ => false) (fun _ => fun _ _ _ => false) (fun j b => fun kd a k => @Bool.rec (fun _ => IntKind → Int → Int → (V → Bool) → Bool) (fun _ _ _ _ => false) (fun kd a b k => wr kd (Int.sub a b) k) (kindEq kd j) kd a b k) (fun _ => fun _ _ _ => false) (fun _ _ _ => false) (fun _ _ => fun _ _ _ => false) (fun _ _ => fun _ _ _ => false) (fun _ _ _ => false) (fun _ _ _ => fun _ _ _ => false) (fun _ _ _ _ => fun _ _ _ => false) (fun _ _ _ _ _ => fun _ _ _ => false) (fun _ _ _ => false) (fun _ _ => fun _ _ _ => false) (fun _ _ => fun _ _ _ => false) (fun _ _ _ => false) (fun _ => fun _ _ _ => false) (fun _ => fun _ _ _ => false) PUnit.unit (fun _ _ _ _ => PUnit.unit) y kd a k) (fun _ => fun _ _ => false) (fun _ _ => false) (fun _ _ => fun _ _ => false) (fun _ _ => fun _ _ => false) (fun _ _ => false) (fun _ _ _ => fun _ _ => false) (fun _ _ _ _ => fun _ _ => false) (fun _ _ _ _ _ => fun _ _ => false) (fun _ _ => false) (fun _ _ => fun _ _ => false) (fun _ _ => fun _ _ => false) (fun _ _ => false) (fun _ => fun _ _ => false) (fun _ => fun _ _ => false) PUnit.unit (fun _ _ _ _ => PUnit.unit) x y k
noncomputable def iMul (x y : V) (k : V → Bool) : Bool :=
  @V.rec (fun _ => V → (V → Bool) → Bool) (fun _ => PUnit) (fun _ _ => false) (fun _ => fun _ _ => false) (fun kd a => fun y k => @V.rec (fun _ => IntKind → Int → (V → Bool) → Bool) (fun _ => PUnit) (fun _ _ _ => false) (fun _ => fun _ _ _ => false) (fun j b => fun kd a k => @Bool.rec (fun _ => IntKind → Int → Int → (V → Bool) → Bool) (fun _ _ _ _ => false) (fun kd a b k => wr kd (Int.mul a b) k) (kindEq kd j) kd a b k) (fun _ => fun _ _ _ => false) (fun _ _ _ => false) (fun _ _ => fun _ _ _ => false) (fun _ _ => fun _ _ _ => false) (fun _ _ _ => false) (fun _ _ _ => fun _ _ _ => false) (fun _ _ _ _ => fun _ _ _ => false) (fun _ _ _ _ _ => fun _ _ _ => false) (fun _ _ _ => false) (fun _ _ => fun _ _ _ => false) (fun _ _ => fun _ _ _ => false) (fun _ _ _ => false) (fun _ => fun _ _ _ => false) (fun _ => fun _ _ _ => false) PUnit.unit (fun _ _ _ _ => PUnit.unit) y kd a k) (fun _ => fun _ _ => false) (fun _ _ => false) (fun _ _ => fun _ _ => false) (fun _ _ => fun _ _ => false) (fun _ _ => false) (fun _ _ _ => fun _ _ => false) (fun _ _ _ _ => fun _ _ => false) (fun _ _ _ _ _ => fun _ _ => false) (fun _ _ => false) (fun _ _ => fun _ _ => false) (fun _ _ => fun _ _ => false) (fun _ _ => false) (fun _ => fun _ _ => false) (fun _ => fun _ _ => false) PUnit.unit (fun _ _ _ _ => PUnit.unit) x y k
noncomputable def iEq (x y : V) (k : V → Bool) : Bool :=
  @V.rec (fun _ => V → (V → Bool) → Bool) (fun _ => PUnit) (fun _ _ => false) (fun _ => fun _ _ => false) (fun kd a => fun y k => @V.rec (fun _ => IntKind → Int → (V → Bool) → Bool) (fun _ => PUnit) (fun _ _ _ => false) (fun _ => fun _ _ _ => false) (fun j b => fun kd a k => @Bool.rec (fun _ => IntKind → Int → Int → (V → Bool) → Bool) (fun _ _ _ _ => false) (fun kd a b k => okB (intEq a b) k) (kindEq kd j) kd a b k) (fun _ => fun _ _ _ => false) (fun _ _ _ => false) (fun _ _ => fun _ _ _ => false) (fun _ _ => fun _ _ _ => false) (fun _ _ _ => false) (fun _ _ _ => fun _ _ _ => false) (fun _ _ _ _ => fun _ _ _ => false) (fun _ _ _ _ _ => fun _ _ _ => false) (fun _ _ _ => false) (fun _ _ => fun _ _ _ => false) (fun _ _ => fun _ _ _ => false) (fun _ _ _ => false) (fun _ => fun _ _ _ => false) (fun _ => fun _ _ _ => false) PUnit.unit (fun _ _ _ _ => PUnit.unit) y kd a k) (fun _ => fun _ _ => false) (fun _ _ => false) (fun _ _ => fun _ _ => false) (fun _ _ => fun _ _ => false) (fun _ _ => false) (fun _ _ _ => fun _ _ => false) (fun _ _ _ _ => fun _ _ => false) (fun _ _ _ _ _ => fun _ _ => false) (fun _ _ => false) (fun _ _ => fun _ _ => false) (fun _ _ => fun _ _ => false) (fun _ _ => false) (fun _ => fun _ _ => false) (fun _ => fun _ _ => false) PUnit.unit (fun _ _ _ _ => PUnit.unit) x y k
noncomputable def iNe (x y : V) (k : V → Bool) : Bool :=
  @V.rec (fun _ => V → (V → Bool) → Bool) (fun _ => PUnit) (fun _ _ => false) (fun _ => fun _ _ => false) (fun kd a => fun y k => @V.rec (fun _ => IntKind → Int → (V → Bool) → Bool) (fun _ => PUnit) (fun _ _ _ => false) (fun _ => fun _ _ _ => false) (fun j b => fun kd a k => @Bool.rec (fun _ => IntKind → Int → Int → (V → Bool) → Bool) (fun _ _ _ _ => false) (fun kd a b k => okB (notB (intEq a b)) k) (kindEq kd j) kd a b k) (fun _ => fun _ _ _ => false) (fun _ _ _ => false) (fun _ _ => fun _ _ _ => false) (fun _ _ => fun _ _ _ => false) (fun _ _ _ => false) (fun _ _ _ => fun _ _ _ => false) (fun _ _ _ _ => fun _ _ _ => false) (fun _ _ _ _ _ => fun _ _ _ => false) (fun _ _ _ => false) (fun _ _ => fun _ _ _ => false) (fun _ _ => fun _ _ _ => false) (fun _ _ _ => false) (fun _ => fun _ _ _ => false) (fun _ => fun _ _ _ => false) PUnit.unit (fun _ _ _ _ => PUnit.unit) y kd a k) (fun _ => fun _ _ => false) (fun _ _ => false) (fun _ _ => fun _ _ => false) (fun _ _ => fun _ _ => false) (fun _ _ => false) (fun _ _ _ => fun _ _ => false) (fun _ _ _ _ => fun _ _ => false) (fun _ _ _ _ _ => fun _ _ => false) (fun _ _ => false) (fun _ _ => fun _ _ => false) (fun _ _ => fun _ _ => false) (fun _ _ => false) (fun _ => fun _ _ => false) (fun _ => fun _ _ => false) PUnit.unit (fun _ _ _ _ => PUnit.unit) x y k
noncomputable def iLe (x y : V) (k : V → Bool) : Bool :=
  @V.rec (fun _ => V → (V → Bool) → Bool) (fun _ => PUnit) (fun _ _ => false) (fun _ => fun _ _ => false) (fun kd a => fun y k => @V.rec (fun _ => IntKind → Int → (V → Bool) → Bool) (fun _ => PUnit) (fun _ _ _ => false) (fun _ => fun _ _ _ => false) (fun j b => fun kd a k => @Bool.rec (fun _ => IntKind → Int → Int → (V → Bool) → Bool) (fun _ _ _ _ => false) (fun kd a b k => okB (intLe a b) k) (kindEq kd j) kd a b k) (fun _ => fun _ _ _ => false) (fun _ _ _ => false) (fun _ _ => fun _ _ _ => false) (fun _ _ => fun _ _ _ => false) (fun _ _ _ => false) (fun _ _ _ => fun _ _ _ => false) (fun _ _ _ _ => fun _ _ _ => false) (fun _ _ _ _ _ => fun _ _ _ => false) (fun _ _ _ => false) (fun _ _ => fun _ _ _ => false) (fun _ _ => fun _ _ _ => false) (fun _ _ _ => false) (fun _ => fun _ _ _ => false) (fun _ => fun _ _ _ => false) PUnit.unit (fun _ _ _ _ => PUnit.unit) y kd a k) (fun _ => fun _ _ => false) (fun _ _ => false) (fun _ _ => fun _ _ => false) (fun _ _ => fun _ _ => false) (fun _ _ => false) (fun _ _ _ => fun _ _ => false) (fun _ _ _ _ => fun _ _ => false) (fun _ _ _ _ _ => fun _ _ => false) (fun _ _ => false) (fun _ _ => fun _ _ => false) (fun _ _ => fun _ _ => false) (fun _ _ => false) (fun _ => fun _ _ => false) (fun _ => fun _ _ => false) PUnit.unit (fun _ _ _ _ => PUnit.unit) x y k
noncomputable def iGe (x y : V) (k : V → Bool) : Bool :=
  @V.rec (fun _ => V → (V → Bool) → Bool) (fun _ => PUnit) (fun _ _ => false) (fun _ => fun _ _ => false) (fun kd a => fun y k => @V.rec (fun _ => IntKind → Int → (V → Bool) → Bool) (fun _ => PUnit) (fun _ _ _ => false) (fun _ => fun _ _ _ => false) (fun j b => fun kd a k => @Bool.rec (fun _ => IntKind → Int → Int → (V → Bool) → Bool) (fun _ _ _ _ => false) (fun kd a b k => okB (intLe b a) k) (kindEq kd j) kd a b k) (fun _ => fun _ _ _ => false) (fun _ _ _ => false) (fun _ _ => fun _ _ _ => false) (fun _ _ => fun _ _ _ => false) (fun _ _ _ => false) (fun _ _ _ => fun _ _ _ => false) (fun _ _ _ _ => fun _ _ _ => false) (fun _ _ _ _ _ => fun _ _ _ => false) (fun _ _ _ => false) (fun _ _ => fun _ _ _ => false) (fun _ _ => fun _ _ _ => false) (fun _ _ _ => false) (fun _ => fun _ _ _ => false) (fun _ => fun _ _ _ => false) PUnit.unit (fun _ _ _ _ => PUnit.unit) y kd a k) (fun _ => fun _ _ => false) (fun _ _ => false) (fun _ _ => fun _ _ => false) (fun _ _ => fun _ _ => false) (fun _ _ => false) (fun _ _ _ => fun _ _ => false) (fun _ _ _ _ => fun _ _ => false) (fun _ _ _ _ _ => fun _ _ => false) (fun _ _ => false) (fun _ _ => fun _ _ => false) (fun _ _ => fun _ _ => false) (fun _ _ => false) (fun _ => fun _ _ => false) (fun _ => fun _ _ => false) PUnit.unit (fun _ _ _ _ => PUnit.unit) x y k
noncomputable def iLt (x y : V) (k : V → Bool) : Bool :=
  @V.rec (fun _ => V → (V → Bool) → Bool) (fun _ => PUnit) (fun _ _ => false) (fun _ => fun _ _ => false) (fun kd a => fun y k => @V.rec (fun _ => IntKind → Int → (V → Bool) → Bool) (fun _ => PUnit) (fun _ _ _ => false) (fun _ => fun _ _ _ => false) (fun j b => fun kd a k => @Bool.rec (fun _ => IntKind → Int → Int → (V → Bool) → Bool) (fun _ _ _ _ => false) (fun kd a b k => okB (notB (intLe b a)) k) (kindEq kd j) kd a b k) (fun _ => fun _ _ _ => false) (fun _ _ _ => false) (fun _ _ => fun _ _ _ => false) (fun _ _ => fun _ _ _ => false) (fun _ _ _ => false) (fun _ _ _ => fun _ _ _ => false) (fun _ _ _ _ => fun _ _ _ => false) (fun _ _ _ _ _ => fun _ _ _ => false) (fun _ _ _ => false) (fun _ _ => fun _ _ _ => false) (fun _ _ => fun _ _ _ => false) (fun _ _ _ => false) (fun _ => fun _ _ _ => false) (fun _ => fun _ _ _ => false) PUnit.unit (fun _ _ _ _ => PUnit.unit) y kd a k) (fun _ => fun _ _ => false) (fun _ _ => false) (fun _ _ => fun _ _ => false) (fun _ _ => fun _ _ => false) (fun _ _ => false) (fun _ _ _ => fun _ _ => false) (fun _ _ _ _ => fun _ _ => false) (fun _ _ _ _ _ => fun _ _ => false) (fun _ _ => false) (fun _ _ => fun _ _ => false) (fun _ _ => fun _ _ => false) (fun _ _ => false) (fun _ => fun _ _ => false) (fun _ => fun _ _ => false) PUnit.unit (fun _ _ _ _ => PUnit.unit) x y k
noncomputable def iGt (x y : V) (k : V → Bool) : Bool :=
  @V.rec (fun _ => V → (V → Bool) → Bool) (fun _ => PUnit) (fun _ _ => false) (fun _ => fun _ _ => false) (fun kd a => fun y k => @V.rec (fun _ => IntKind → Int → (V → Bool) → Bool) (fun _ => PUnit) (fun _ _ _ => false) (fun _ => fun _ _ _ => false) (fun j b => fun kd a k => @Bool.rec (fun _ => IntKind → Int → Int → (V → Bool) → Bool) (fun _ _ _ _ => false) (fun kd a b k => okB (notB (intLe a b)) k) (kindEq kd j) kd a b k) (fun _ => fun _ _ _ => false) (fun _ _ _ => false) (fun _ _ => fun _ _ _ => false) (fun _ _ => fun _ _ _ => false) (fun _ _ _ => false) (fun _ _ _ => fun _ _ _ => false) (fun _ _ _ _ => fun _ _ _ => false) (fun _ _ _ _ _ => fun _ _ _ => false) (fun _ _ _ => false) (fun _ _ => fun _ _ _ => false) (fun _ _ => fun _ _ _ => false) (fun _ _ _ => false) (fun _ => fun _ _ _ => false) (fun _ => fun _ _ _ => false) PUnit.unit (fun _ _ _ _ => PUnit.unit) y kd a k) (fun _ => fun _ _ => false) (fun _ _ => false) (fun _ _ => fun _ _ => false) (fun _ _ => fun _ _ => false) (fun _ _ => false) (fun _ _ _ => fun _ _ => false) (fun _ _ _ _ => fun _ _ => false) (fun _ _ _ _ _ => fun _ _ => false) (fun _ _ => false) (fun _ _ => fun _ _ => false) (fun _ _ => fun _ _ => false) (fun _ _ => false) (fun _ => fun _ _ => false) (fun _ => fun _ _ => false) PUnit.unit (fun _ _ _ _ => PUnit.unit) x y k
noncomputable def strEq (a b : List Nat) : Bool :=
  @List.rec Nat (fun _ => List Nat → Bool) (fun b => @List.rec Nat (fun _ => Bool) true (fun _ _ _ => false) b)
    (fun x _ ih b => @List.rec Nat (fun _ => Nat → (List Nat → Bool) → Bool) (fun _ _ => false) (fun y ys _ x ih => @Bool.rec (fun _ => List Nat → (List Nat → Bool) → Bool) (fun _ _ => false) (fun ys ih => ih ys) (Nat.beq x y) ys ih) b x ih) a b
noncomputable def sEq (x y : V) (k : V → Bool) : Bool :=
  @V.rec (fun _ => V → (V → Bool) → Bool) (fun _ => PUnit) (fun _ _ => false) (fun _ => fun _ _ => false) (fun _ _ => fun _ _ => false) (fun a => fun y k => @V.rec (fun _ => List Nat → (V → Bool) → Bool) (fun _ => PUnit) (fun _ _ => false) (fun _ => fun _ _ => false) (fun _ _ => fun _ _ => false) (fun b => fun a k => okB (strEq a b) k) (fun _ _ => false) (fun _ _ => fun _ _ => false) (fun _ _ => fun _ _ => false) (fun _ _ => false) (fun _ _ _ => fun _ _ => false) (fun _ _ _ _ => fun _ _ => false) (fun _ _ _ _ _ => fun _ _ => false) (fun _ _ => false) (fun _ _ => fun _ _ => false) (fun _ _ => fun _ _ => false) (fun _ _ => false) (fun _ => fun _ _ => false) (fun _ => fun _ _ => false) PUnit.unit (fun _ _ _ _ => PUnit.unit) y a k) (fun _ _ => false) (fun _ _ => fun _ _ => false) (fun _ _ => fun _ _ => false) (fun _ _ => false) (fun _ _ _ => fun _ _ => false) (fun _ _ _ _ => fun _ _ => false) (fun _ _ _ _ _ => fun _ _ => false) (fun _ _ => false) (fun _ _ => fun _ _ => false) (fun _ _ => fun _ _ => false) (fun _ _ => false) (fun _ => fun _ _ => false) (fun _ => fun _ _ => false) PUnit.unit (fun _ _ _ _ => PUnit.unit) x y k
noncomputable def sNe (x y : V) (k : V → Bool) : Bool :=
  @V.rec (fun _ => V → (V → Bool) → Bool) (fun _ => PUnit) (fun _ _ => false) (fun _ => fun _ _ => false) (fun _ _ => fun _ _ => false) (fun a => fun y k => @V.rec (fun _ => List Nat → (V → Bool) → Bool) (fun _ => PUnit) (fun _ _ => false) (fun _ => fun _ _ => false) (fun _ _ => fun _ _ => false) (fun b => fun a k => okB (notB (strEq a b)) k) (fun _ _ => false) (fun _ _ => fun _ _ => false) (fun _ _ => fun _ _ => false) (fun _ _ => false) (fun _ _ _ => fun _ _ => false) (fun _ _ _ _ => fun _ _ => false) (fun _ _ _ _ _ => fun _ _ => false) (fun _ _ => false) (fun _ _ => fun _ _ => false) (fun _ _ => fun _ _ => false) (fun _ _ => false) (fun _ => fun _ _ => false) (fun _ => fun _ _ => false) PUnit.unit (fun _ _ _ _ => PUnit.unit) y a k) (fun _ _ => false) (fun _ _ => fun _ _ => false) (fun _ _ => fun _ _ => false) (fun _ _ => false) (fun _ _ _ => fun _ _ => false) (fun _ _ _ _ => fun _ _ => false) (fun _ _ _ _ _ => fun _ _ => false) (fun _ _ => false) (fun _ _ => fun _ _ => false) (fun _ _ => fun _ _ => false) (fun _ _ => false) (fun _ => fun _ _ => false) (fun _ => fun _ _ => false) PUnit.unit (fun _ _ _ _ => PUnit.unit) x y k
noncomputable def slow2 (P : Program) (op : BinOp) (ty : TypeId) (x y : V) (k : V → Bool) : Bool := optK (binV P op ty x y) k
noncomputable def idK (x : V) (k : V → Bool) : Bool := k x
noncomputable def notK (x : V) (k : V → Bool) : Bool :=
  @V.rec (fun _ => (V → Bool) → Bool) (fun _ => PUnit) (fun _ => false) (fun b => fun k => okB (notB b) k) (fun _ _ => fun _ => false) (fun _ => fun _ => false) (fun _ => false) (fun _ _ => fun _ => false) (fun _ _ => fun _ => false) (fun _ => false) (fun _ _ _ => fun _ => false) (fun _ _ _ _ => fun _ => false) (fun _ _ _ _ _ => fun _ => false) (fun _ => false) (fun _ _ => fun _ => false) (fun _ _ => fun _ => false) (fun _ => false) (fun _ => fun _ => false) (fun _ => fun _ => false) PUnit.unit (fun _ _ _ _ => PUnit.unit) x k
noncomputable def slowUn (op : UnOp) (x : V) (k : V → Bool) : Bool := optK (unV op x) k
noncomputable def slowConv (P : Program) (a b : TypeId) (x : V) (S : KS) (f : Bool) (k : V → Bool) : Bool := @Option.rec V (fun _ => Bool → (V → Bool) → Bool) (fun f _ => f) (fun v _ k => force v k) (opConv P a b x S.abs) f k
noncomputable def cvK (kd : IntKind) (x : V) (k : V → Bool) : Bool :=
  @V.rec (fun _ => IntKind → (V → Bool) → Bool) (fun _ => PUnit) (fun _ _ => false) (fun _ => fun _ _ => false) (fun _ n => fun kd k => wr kd n k) (fun _ => fun _ _ => false) (fun _ _ => false) (fun _ _ => fun _ _ => false) (fun _ _ => fun _ _ => false) (fun _ _ => false) (fun _ _ _ => fun _ _ => false) (fun _ _ _ _ => fun _ _ => false) (fun _ _ _ _ _ => fun _ _ => false) (fun _ _ => false) (fun _ _ => fun _ _ => false) (fun _ _ => fun _ _ => false) (fun _ _ => false) (fun _ => fun _ _ => false) (fun _ => fun _ _ => false) PUnit.unit (fun _ _ _ _ => PUnit.unit) x kd k
noncomputable def pickK (c a b : V) (k : V → Bool) : Bool :=
  @V.rec (fun _ => V → V → (V → Bool) → Bool) (fun _ => PUnit) (fun _ _ _ => false) (fun c => fun a b k => @Bool.rec (fun _ => V → V → (V → Bool) → Bool) (fun _ b k => k b) (fun a _ k => k a) c a b k) (fun _ _ => fun _ _ _ => false) (fun _ => fun _ _ _ => false) (fun _ _ _ => false) (fun _ _ => fun _ _ _ => false) (fun _ _ => fun _ _ _ => false) (fun _ _ _ => false) (fun _ _ _ => fun _ _ _ => false) (fun _ _ _ _ => fun _ _ _ => false) (fun _ _ _ _ _ => fun _ _ _ => false) (fun _ _ _ => false) (fun _ _ => fun _ _ _ => false) (fun _ _ => fun _ _ _ => false) (fun _ _ _ => false) (fun _ => fun _ _ _ => false) (fun _ => fun _ _ _ => false) PUnit.unit (fun _ _ _ _ => PUnit.unit) c a b k
noncomputable def nilK (x : V) (k : V → Bool) : Bool :=
  @V.rec (fun _ => (V → Bool) → Bool) (fun _ => PUnit) (fun _ => false) (fun _ => fun _ => false) (fun _ _ => fun _ => false) (fun _ => fun _ => false) (fun _ => false) (fun i o => fun k => k (.ptr i o)) (fun c _ => fun k => k (.ipt c)) (fun _ => false) (fun _ _ _ => fun _ => false) (fun _ _ _ _ => fun _ => false) (fun f a c _ _ => fun k => k (.fn f a c)) (fun _ => false) (fun _ _ => fun _ => false) (fun _ _ => fun _ => false) (fun _ => false) (fun _ => fun _ => false) (fun _ => fun _ => false) PUnit.unit (fun _ _ _ _ => PUnit.unit) x k
/-- The n-th, or the answer f. -/
noncomputable def nthK (l : List V) (n : Nat) (f : Bool) (k : V → Bool) : Bool :=
  @Nat.rec (fun _ => List V → Bool → (V → Bool) → Bool) (fun l f k => @List.rec V (fun _ => Bool → (V → Bool) → Bool) (fun f _ => f) (fun v _ _ _ k => k v) l f k)
    (fun _ ih l f k => @List.rec V (fun _ => (List V → Bool → (V → Bool) → Bool) → Bool → (V → Bool) → Bool) (fun _ f _ => f) (fun _ r _ ih f k => ih r f k) l ih f k) n l f k
/-- Behind the first n. -/
noncomputable def dropK (l : List V) (n : Nat) (f : Bool) (k : List V → Bool) : Bool :=
  @Nat.rec (fun _ => List V → Bool → (List V → Bool) → Bool) (fun l _ k => k l)
    (fun _ ih l f k => @List.rec V (fun _ => (List V → Bool → (List V → Bool) → Bool) → Bool → (List V → Bool) → Bool) (fun _ f _ => f) (fun _ r _ ih f k => ih r f k) l ih f k) n l f k
/-- The first n. -/
noncomputable def takeK (l : List V) (n : Nat) (f : Bool) (k : List V → Bool) : Bool :=
  @Nat.rec (fun _ => List V → Bool → (List V → Bool) → Bool) (fun _ _ k => k [])
    (fun _ ih l f k => @List.rec V (fun _ => (List V → Bool → (List V → Bool) → Bool) → Bool → (List V → Bool) → Bool) (fun _ f _ => f) (fun v r _ ih f k => ih r f fun r => k (v :: r)) l ih f k) n l f k
/-- Overwrites from n on. -/
noncomputable def overK (n : Nat) (vs l : List V) (k : List V → Bool) : Bool :=
  @Nat.rec (fun _ => List V → List V → (List V → Bool) → Bool)
    (fun vs l k => @List.rec V (fun _ => List V → (List V → Bool) → Bool) (fun l k => k l) (fun v _ ih l k => @List.rec V (fun _ => V → (List V → (List V → Bool) → Bool) → (List V → Bool) → Bool) (fun _ _ _ => false) (fun _ r _ v ih k => ih r fun r => k (v :: r)) l v ih k) vs l k)
    (fun _ ih vs l k => @List.rec V (fun _ => (List V → List V → (List V → Bool) → Bool) → List V → (List V → Bool) → Bool) (fun _ _ _ => false) (fun v r _ ih vs k => ih vs r fun r => k (v :: r)) l ih vs k) n vs l k
/-- One list behind another. -/
noncomputable def appK (l new : List V) (k : List V → Bool) : Bool :=
  @List.rec V (fun _ => List V → (List V → Bool) → Bool) (fun new k => k new) (fun v _ ih new k => ih new fun r => k (v :: r)) l new k
noncomputable def lenL (l : List V) : Nat := @List.rec V (fun _ => Nat) 0 (fun _ _ ih => Nat.succ ih) l
/-- Is n the length? -/
noncomputable def isLen (l : List V) (n : Nat) : Bool :=
  @List.rec V (fun _ => Nat → Bool) (fun n => Nat.beq n 0) (fun _ _ ih n => @Nat.rec (fun _ => (Nat → Bool) → Bool) (fun _ => false) (fun m _ ih => ih m) n ih) l n
noncomputable def fldK (off : Nat) (x : V) (k : V → Bool) : Bool :=
  @V.rec (fun _ => Nat → (V → Bool) → Bool) (fun _ => PUnit) (fun _ _ => false) (fun _ => fun _ _ => false) (fun _ _ => fun _ _ => false) (fun _ => fun _ _ => false) (fun _ _ => false) (fun _ _ => fun _ _ => false) (fun _ _ => fun _ _ => false) (fun _ _ => false) (fun _ _ _ => fun _ _ => false) (fun _ _ _ _ => fun _ _ => false) (fun _ _ _ _ _ => fun _ _ => false) (fun _ _ => false) (fun c _ => fun off k => nthK c off false k) (fun _ _ => fun _ _ => false) (fun _ _ => false) (fun _ => fun _ _ => false) (fun _ => fun _ _ => false) PUnit.unit (fun _ _ _ _ => PUnit.unit) x off k
noncomputable def fldA (off sz : Nat) (x : V) (k : V → Bool) : Bool :=
  @V.rec (fun _ => Nat → Nat → (V → Bool) → Bool) (fun _ => PUnit) (fun _ _ _ => false) (fun _ => fun _ _ _ => false) (fun _ _ => fun _ _ _ => false) (fun _ => fun _ _ _ => false) (fun _ _ _ => false) (fun _ _ => fun _ _ _ => false) (fun _ _ => fun _ _ _ => false) (fun _ _ _ => false) (fun _ _ _ => fun _ _ _ => false) (fun _ _ _ _ => fun _ _ _ => false) (fun _ _ _ _ _ => fun _ _ _ => false) (fun _ _ _ => false) (fun c _ => fun off sz k => dropK c off false fun c => takeK c sz false fun c => k (.agg c)) (fun _ _ => fun _ _ _ => false) (fun _ _ _ => false) (fun _ => fun _ _ _ => false) (fun _ => fun _ _ _ => false) PUnit.unit (fun _ _ _ _ => PUnit.unit) x off sz k
noncomputable def faK (off : Nat) (x : V) (k : V → Bool) : Bool :=
  @V.rec (fun _ => Nat → (V → Bool) → Bool) (fun _ => PUnit) (fun _ _ => false) (fun _ => fun _ _ => false) (fun _ _ => fun _ _ => false) (fun _ => fun _ _ => false) (fun _ _ => false) (fun i o => fun off k => natK (Nat.add o off) fun o => k (.ptr i o)) (fun c _ => fun off k => dropK c off false fun c => k (.ipt c)) (fun _ _ => false) (fun _ _ _ => fun _ _ => false) (fun _ _ _ _ => fun _ _ => false) (fun _ _ _ _ _ => fun _ _ => false) (fun _ _ => false) (fun _ _ => fun _ _ => false) (fun _ _ => fun _ _ => false) (fun _ _ => false) (fun _ => fun _ _ => false) (fun _ => fun _ _ => false) PUnit.unit (fun _ _ _ _ => PUnit.unit) x off k
noncomputable def extK (i : Nat) (x : V) (k : V → Bool) : Bool :=
  @V.rec (fun _ => Nat → (V → Bool) → Bool) (fun _ => PUnit) (fun _ _ => false) (fun _ => fun _ _ => false) (fun _ _ => fun _ _ => false) (fun _ => fun _ _ => false) (fun _ _ => false) (fun _ _ => fun _ _ => false) (fun _ _ => fun _ _ => false) (fun _ _ => false) (fun _ _ _ => fun _ _ => false) (fun _ _ _ _ => fun _ _ => false) (fun _ _ _ _ _ => fun _ _ => false) (fun _ _ => false) (fun _ _ => fun _ _ => false) (fun c _ => fun i k => nthK c i false k) (fun _ _ => false) (fun _ => fun _ _ => false) (fun _ => fun _ _ => false) PUnit.unit (fun _ _ _ _ => PUnit.unit) x i k
/-- An index. -/
noncomputable def idxK (i : V) (k : Nat → Bool) : Bool :=
  @V.rec (fun _ => (Nat → Bool) → Bool) (fun _ => PUnit) (fun _ => false) (fun _ => fun _ => false) (fun _ n => fun k => @Int.rec (fun _ => (Nat → Bool) → Bool) (fun m k => k m) (fun _ _ => false) n k) (fun _ => fun _ => false) (fun _ => false) (fun _ _ => fun _ => false) (fun _ _ => fun _ => false) (fun _ => false) (fun _ _ _ => fun _ => false) (fun _ _ _ _ => fun _ => false) (fun _ _ _ _ _ => fun _ => false) (fun _ => false) (fun _ _ => fun _ => false) (fun _ _ => fun _ => false) (fun _ => false) (fun _ => fun _ => false) (fun _ => fun _ => false) PUnit.unit (fun _ _ _ _ => PUnit.unit) i k
/-- What a cell's value is as cells. -/
noncomputable def cellsV (v : V) : List V := V.cells v
/-- &x[i] of a slice with elements of sz cells. -/
noncomputable def ixK (sz : Nat) (x i : V) (k : V → Bool) : Bool :=
  @V.rec (fun _ => Nat → V → (V → Bool) → Bool) (fun _ => PUnit) (fun _ _ _ => false) (fun _ => fun _ _ _ => false) (fun _ _ => fun _ _ _ => false) (fun _ => fun _ _ _ => false) (fun _ _ _ => false) (fun _ _ => fun _ _ _ => false) (fun _ _ => fun _ _ _ => false) (fun _ _ _ => false) (fun e l _ => fun sz i k => idxK i fun i => @Bool.rec (fun _ => List V → Nat → (V → Bool) → Bool) (fun _ _ _ => false) (fun l i k => nthK l i false fun v => k (.ipt (V.cells v))) (Nat.beq e sz) l i k) (fun e id o n => fun sz i k => idxK i fun i => @Bool.rec (fun _ => Id → Nat → Nat → Nat → (V → Bool) → Bool) (fun _ _ _ _ _ => false) (fun id o i sz k => natK (Nat.add o (Nat.mul i sz)) fun o => k (.ptr id o)) (@Bool.rec (fun _ => Bool) false (Nat.beq e sz) (Nat.ble (Nat.succ i) n)) id o i sz k) (fun _ _ _ _ _ => fun _ _ _ => false) (fun _ _ _ => false) (fun _ _ => fun _ _ _ => false) (fun _ _ => fun _ _ _ => false) (fun _ _ _ => false) (fun _ => fun _ _ _ => false) (fun _ => fun _ _ _ => false) PUnit.unit (fun _ _ _ _ => PUnit.unit) x sz i k
/-- &x[i] of an array. -/
noncomputable def iaK (n sz : Nat) (x i : V) (k : V → Bool) : Bool :=
  idxK i fun i => @Bool.rec (fun _ => Nat → Nat → V → (V → Bool) → Bool) (fun _ _ _ _ => false) (fun i sz x k => faK (Nat.mul i sz) x k) (Nat.ble (Nat.succ i) n) i sz x k
noncomputable def natsK (l : List Nat) (n : Nat) (k : Nat → Bool) : Bool :=
  @Nat.rec (fun _ => List Nat → (Nat → Bool) → Bool) (fun l k => @List.rec Nat (fun _ => (Nat → Bool) → Bool) (fun _ => false) (fun v _ _ k => k v) l k)
    (fun _ ih l k => @List.rec Nat (fun _ => (List Nat → (Nat → Bool) → Bool) → (Nat → Bool) → Bool) (fun _ _ => false) (fun _ r _ ih k => ih r k) l ih k) n l k
/-- s[i] -/
noncomputable def isK (x i : V) (k : V → Bool) : Bool :=
  @V.rec (fun _ => V → (V → Bool) → Bool) (fun _ => PUnit) (fun _ _ => false) (fun _ => fun _ _ => false) (fun _ _ => fun _ _ => false) (fun s => fun i k => idxK i fun i => natsK s i fun b => k (.int .u8 (.ofNat b))) (fun _ _ => false) (fun _ _ => fun _ _ => false) (fun _ _ => fun _ _ => false) (fun _ _ => false) (fun _ _ _ => fun _ _ => false) (fun _ _ _ _ => fun _ _ => false) (fun _ _ _ _ _ => fun _ _ => false) (fun _ _ => false) (fun _ _ => fun _ _ => false) (fun _ _ => fun _ _ => false) (fun _ _ => false) (fun _ => fun _ _ => false) (fun _ => fun _ _ => false) PUnit.unit (fun _ _ _ _ => PUnit.unit) x i k
noncomputable def slowIx (P : Program) (ty : TypeId) (x i : V) (k : V → Bool) : Bool := optK (opIndex P ty x i) k
/-- x[lo:hi] -/
noncomputable def slowSl (P : Program) (ty : TypeId) (x lo hi : V) (k : V → Bool) : Bool := optK (opSlice P ty x (some (.tmp 0)) (some (.tmp 1)) (fun i => @Nat.rec (fun _ => V) lo (fun _ _ => hi) i)) k
noncomputable def slowSl1 (P : Program) (ty : TypeId) (x lo : V) (k : V → Bool) : Bool := optK (opSlice P ty x (some (.tmp 0)) none (fun _ => lo)) k
noncomputable def slowSl3 (P : Program) (ty : TypeId) (x hi mx : V) (k : V → Bool) : Bool := optK (opSlice3 P ty x none (some (.tmp 0)) (.tmp 1) (fun i => @Nat.rec (fun _ => V) hi (fun _ _ => mx) i)) k
noncomputable def maxK (xs : List V) (k : V → Bool) : Bool := optK (@List.rec V (fun _ => Option V) none (fun v r _ => match v with | .int k n => maxL (.int k n) r | _ => none) xs) k
noncomputable def minK (xs : List V) (k : V → Bool) : Bool := optK (@List.rec V (fun _ => Option V) none (fun v r _ => match v with | .int k n => minL (.int k n) r | _ => none) xs) k

/-! ### the store -/

noncomputable def ld1 (x : V) (S : KS) (f : Bool) (k : V → Bool) : Bool :=
  @V.rec (fun _ => KS → Bool → (V → Bool) → Bool) (fun _ => PUnit) (fun _ f _ => f) (fun _ => fun _ f _ => f) (fun _ _ => fun _ f _ => f) (fun _ => fun _ f _ => f) (fun _ f _ => f) (fun i o => fun S f k => @Ob.rec (fun _ => Nat → Bool → (V → Bool) → Bool) (fun _ f _ => f) (fun _ f _ => f) (fun l _ _ => fun o f k => nthK l o f k) (fun l => fun o f k => nthK l o f k) (fun _ => fun _ f _ => f) (getO i S.t) o f k) (fun c _ => fun _ f k => nthK c 0 f k) (fun _ f _ => f) (fun _ _ _ => fun _ f _ => f) (fun _ _ _ _ => fun _ f _ => f) (fun _ _ _ _ _ => fun _ f _ => f) (fun _ f _ => f) (fun _ _ => fun _ f _ => f) (fun _ _ => fun _ f _ => f) (fun _ f _ => f) (fun _ => fun _ f _ => f) (fun _ => fun _ f _ => f) PUnit.unit (fun _ _ _ _ => PUnit.unit) x S f k
noncomputable def ldN (sz : Nat) (x : V) (S : KS) (f : Bool) (k : V → Bool) : Bool :=
  @V.rec (fun _ => Nat → KS → Bool → (V → Bool) → Bool) (fun _ => PUnit) (fun _ _ f _ => f) (fun _ => fun _ _ f _ => f) (fun _ _ => fun _ _ f _ => f) (fun _ => fun _ _ f _ => f) (fun _ _ f _ => f) (fun i o => fun sz S f k => @Ob.rec (fun _ => Nat → Nat → Bool → (V → Bool) → Bool) (fun _ _ f _ => f) (fun _ _ f _ => f) (fun l _ _ => fun o sz f k => dropK l o f fun l => takeK l sz f fun l => k (.agg l)) (fun l => fun o sz f k => dropK l o f fun l => takeK l sz f fun l => k (.agg l)) (fun _ => fun _ _ f _ => f) (getO i S.t) o sz f k) (fun c _ => fun sz _ f k => takeK c sz f fun l => k (.agg l)) (fun _ _ f _ => f) (fun _ _ _ => fun _ _ f _ => f) (fun _ _ _ _ => fun _ _ f _ => f) (fun _ _ _ _ _ => fun _ _ f _ => f) (fun _ _ f _ => f) (fun _ _ => fun _ _ f _ => f) (fun _ _ => fun _ _ f _ => f) (fun _ _ f _ => f) (fun _ => fun _ _ f _ => f) (fun _ => fun _ _ f _ => f) PUnit.unit (fun _ _ _ _ => PUnit.unit) x sz S f k
/-- The length of a slice or a string. -/
noncomputable def lenK (x : V) (_ : KS) (f : Bool) (k : V → Bool) : Bool :=
  @V.rec (fun _ => Bool → (V → Bool) → Bool) (fun _ => PUnit) (fun f _ => f) (fun _ => fun f _ => f) (fun _ _ => fun f _ => f) (fun _ => fun f _ => f) (fun f _ => f) (fun _ _ => fun f _ => f) (fun _ _ => fun f _ => f) (fun _ k => k (.int .i64 (.ofNat 0))) (fun _ l _ => fun _ k => okI .i64 (.ofNat (lenL l)) k) (fun _ _ _ n => fun _ k => k (.int .i64 (.ofNat n))) (fun _ _ _ _ _ => fun f _ => f) (fun f _ => f) (fun _ _ => fun f _ => f) (fun _ _ => fun f _ => f) (fun f _ => f) (fun _ => fun f _ => f) (fun _ => fun f _ => f) PUnit.unit (fun _ _ _ _ => PUnit.unit) x f k
noncomputable def lenS (x : V) (_ : KS) (f : Bool) (k : V → Bool) : Bool :=
  @V.rec (fun _ => Bool → (V → Bool) → Bool) (fun _ => PUnit) (fun f _ => f) (fun _ => fun f _ => f) (fun _ _ => fun f _ => f) (fun s => fun _ k => okI .i64 (.ofNat s.length) k) (fun f _ => f) (fun _ _ => fun f _ => f) (fun _ _ => fun f _ => f) (fun f _ => f) (fun _ _ _ => fun f _ => f) (fun _ _ _ _ => fun f _ => f) (fun _ _ _ _ _ => fun f _ => f) (fun f _ => f) (fun _ _ => fun f _ => f) (fun _ _ => fun f _ => f) (fun f _ => f) (fun _ => fun f _ => f) (fun _ => fun f _ => f) PUnit.unit (fun _ _ _ _ => PUnit.unit) x f k
noncomputable def newK (o : Ob) (S : KS) (k : Id → KS → Bool) : Bool :=
  @Ob.rec (fun _ => Ob → KS → (Id → KS → Bool) → Bool) (fun o S k => nextK S.nx fun n => putO S.nx o S.t fun t => k S.nx ⟨t, n⟩) (fun _ _ _ => false) (fun _ _ _ => fun _ _ _ => false) (fun _ => fun _ _ _ => false) (fun _ => fun _ _ _ => false) (getO S.nx S.t) o S k
noncomputable def alocK (z : List V) (S : KS) (k : V → KS → Bool) : Bool := newK (.cells z 0 []) S fun i S => k (.ptr i 0) S
noncomputable def rowK (es n : Nat) (z : List V) (S : KS) (k : V → KS → Bool) : Bool := newK (.cells z 0 []) S fun i S => k (.ref es i 0 n) S
noncomputable def aggK (z : List V) (S : KS) (k : V → KS → Bool) : Bool := k (.agg z) S
/-- A value to be stored: neither unknown nor many. -/
noncomputable def okCells (v : V) : Bool :=
  @V.rec (fun _ => Bool) (fun _ => PUnit) (false) (fun _ => true) (fun _ _ => true) (fun _ => true) (true) (fun _ _ => true) (fun _ _ => true) (true) (fun _ _ _ => true) (fun _ _ _ _ => true) (fun _ _ _ _ _ => true) (true) (fun _ _ => true) (fun _ _ => false) (true) (fun _ => true) (fun _ => true) PUnit.unit (fun _ _ _ _ => PUnit.unit) v
noncomputable def isCellK (v : V) : Bool :=
  @V.rec (fun _ => Bool) (fun _ => PUnit) (false) (fun _ => true) (fun _ _ => true) (fun _ => true) (true) (fun _ _ => true) (fun _ _ => true) (true) (fun _ _ _ => true) (fun _ _ _ _ => true) (fun _ _ _ _ _ => true) (true) (fun _ _ => false) (fun _ _ => false) (true) (fun _ => true) (fun _ => true) PUnit.unit (fun _ _ _ _ => PUnit.unit) v
noncomputable def boxK (x : V) (S : KS) (k : V → KS → Bool) : Bool :=
  @Bool.rec (fun _ => V → KS → (V → KS → Bool) → Bool) (fun _ _ _ => false) (fun x S k => alocK (V.cells x) S k) (okCells x) x S k
noncomputable def selEq (a b : Sel) : Bool :=
  @Sel.rec (fun _ => Sel → Bool) (fun b => @Sel.rec (fun _ => Bool) true false false false b) (fun b => @Sel.rec (fun _ => Bool) false true false false b) (fun b => @Sel.rec (fun _ => Bool) false false true false b) (fun b => @Sel.rec (fun _ => Bool) false false false true b) a b
noncomputable def idEq (i j : Id) : Bool :=
  @Id.rec (fun _ => Id → Bool) (fun a0 a1 a2 a3 a4 a5 a6 a7 ap j => @Id.rec (fun _ => Sel → Sel → Sel → Sel → Sel → Sel → Sel → Sel → Nat → Bool) (fun b0 b1 b2 b3 b4 b5 b6 b7 bp a0 a1 a2 a3 a4 a5 a6 a7 ap =>
    @Bool.rec (fun _ => Bool) false (@Bool.rec (fun _ => Bool) false (@Bool.rec (fun _ => Bool) false (@Bool.rec (fun _ => Bool) false (@Bool.rec (fun _ => Bool) false (@Bool.rec (fun _ => Bool) false (@Bool.rec (fun _ => Bool) false (@Bool.rec (fun _ => Bool) false (selEq a0 b0) (selEq a1 b1)) (selEq a2 b2)) (selEq a3 b3)) (selEq a4 b4)) (selEq a5 b5)) (selEq a6 b6)) (selEq a7 b7)) (Nat.beq ap bp)) j a0 a1 a2 a3 a4 a5 a6 a7 ap) i j
noncomputable def noId (i : Id) (l : List Id) : Bool :=
  @List.rec Id (fun _ => Id → Bool) (fun _ => true) (fun j _ ih i => @Bool.rec (fun _ => Id → (Id → Bool) → Bool) (fun i ih => ih i) (fun _ _ => false) (idEq i j) i ih) l i
noncomputable def killK (l : List Id) (S : L8) (k : L8 → Bool) : Bool :=
  @List.rec Id (fun _ => L8 → (L8 → Bool) → Bool) (fun S k => k S) (fun i _ ih S k => @Ob.rec (fun _ => Id → L8 → (L8 → (L8 → Bool) → Bool) → (L8 → Bool) → Bool) (fun _ S ih k => ih S k) (fun _ S ih k => ih S k) (fun _ _ _ => fun _ S ih k => ih S k) (fun _ => fun i S ih k => putO i .dead S fun S => ih S k) (fun _ => fun _ S ih k => ih S k) (getO i S) i S ih k) l S k
noncomputable def wrK (x : V) (vs : List V) (S : KS) (k : V → KS → Bool) : Bool :=
  @V.rec (fun _ => List V → KS → (V → KS → Bool) → Bool) (fun _ => PUnit) (fun _ _ _ => false) (fun _ => fun _ _ _ => false) (fun _ _ => fun _ _ _ => false) (fun _ => fun _ _ _ => false) (fun _ _ _ => false) (fun i o => fun vs S k => @Ob.rec (fun _ => Id → Nat → List V → KS → (V → KS → Bool) → Bool) (fun _ _ _ _ _ => false) (fun _ _ _ _ _ => false) (fun l fz anc => fun i o vs S k => @Bool.rec (fun _ => List V → Nat → List Id → Id → Nat → List V → KS → (V → KS → Bool) → Bool) (fun _ _ _ _ _ _ _ _ => false) (fun l fz anc i o vs S k => overK o vs l fun l => killK anc S.t fun t => putO i (.cells l fz []) t fun t => k .any ⟨t, S.nx⟩) (@Bool.rec (fun _ => Bool) false (noId i anc) (Nat.ble fz o)) l fz anc i o vs S k) (fun _ => fun _ _ _ _ _ => false) (fun _ => fun _ _ _ _ _ => false) (getO i S.t) i o vs S k) (fun _ _ => fun _ _ _ => false) (fun _ _ _ => false) (fun _ _ _ => fun _ _ _ => false) (fun _ _ _ _ => fun _ _ _ => false) (fun _ _ _ _ _ => fun _ _ _ => false) (fun _ _ _ => false) (fun _ _ => fun _ _ _ => false) (fun _ _ => fun _ _ _ => false) (fun _ _ _ => false) (fun _ => fun _ _ _ => false) (fun _ => fun _ _ _ => false) PUnit.unit (fun _ _ _ _ => PUnit.unit) x vs S k
/-- A store of one cell. -/
noncomputable def st1 (x v : V) (S : KS) (k : V → KS → Bool) : Bool :=
  @Bool.rec (fun _ => V → V → KS → (V → KS → Bool) → Bool) (fun _ _ _ _ => false) (fun x v S k => wrK x [v] S k) (isCellK v) x v S k
/-- A store of sz cells. -/
noncomputable def stN (sz : Nat) (x v : V) (S : KS) (k : V → KS → Bool) : Bool :=
  @V.rec (fun _ => V → Nat → KS → (V → KS → Bool) → Bool) (fun _ => PUnit) (fun _ _ _ _ => false) (fun _ => fun _ _ _ _ => false) (fun _ _ => fun _ _ _ _ => false) (fun _ => fun _ _ _ _ => false) (fun _ _ _ _ => false) (fun _ _ => fun _ _ _ _ => false) (fun _ _ => fun _ _ _ _ => false) (fun _ _ _ _ => false) (fun _ _ _ => fun _ _ _ _ => false) (fun _ _ _ _ => fun _ _ _ _ => false) (fun _ _ _ _ _ => fun _ _ _ _ => false) (fun _ _ _ _ => false) (fun c _ => fun x sz S k => @Bool.rec (fun _ => V → List V → KS → (V → KS → Bool) → Bool) (fun _ _ _ _ => false) (fun x c S k => wrK x c S k) (isLen c sz) x c S k) (fun _ _ => fun _ _ _ _ => false) (fun _ _ _ _ => false) (fun _ => fun _ _ _ _ => false) (fun _ => fun _ _ _ _ => false) PUnit.unit (fun _ _ _ _ => PUnit.unit) v x sz S k
/-- The length and the cells of a slice. -/
noncomputable def srcK (es : Nat) (y : V) (S : KS) (k : Nat → List V → Bool) : Bool :=
  @V.rec (fun _ => Nat → KS → (Nat → List V → Bool) → Bool) (fun _ => PUnit) (fun _ _ _ => false) (fun _ => fun _ _ _ => false) (fun _ _ => fun _ _ _ => false) (fun _ => fun _ _ _ => false) (fun _ _ _ => false) (fun _ _ => fun _ _ _ => false) (fun _ _ => fun _ _ _ => false) (fun _ _ k => k 0 []) (fun e l _ => fun es _ k => @Bool.rec (fun _ => List V → (Nat → List V → Bool) → Bool) (fun _ _ => false) (fun l k => natK (lenL l) fun n => listK (flat l) fun l => k n l) (Nat.beq e es) l k) (fun e i o n => fun es S k => @Bool.rec (fun _ => Id → Nat → Nat → Nat → KS → (Nat → List V → Bool) → Bool) (fun _ _ _ _ _ _ => false) (fun i o n es S k => @Ob.rec (fun _ => Nat → Nat → Nat → (Nat → List V → Bool) → Bool) (fun _ _ _ _ => false) (fun _ _ _ _ => false) (fun l _ _ => fun o n es k => dropK l o false fun l => takeK l (Nat.mul n es) false fun l => k n l) (fun l => fun o n es k => dropK l o false fun l => takeK l (Nat.mul n es) false fun l => k n l) (fun _ => fun _ _ _ _ => false) (getO i S.t) o n es k) (Nat.beq e es) i o n es S k) (fun _ _ _ _ _ => fun _ _ _ => false) (fun _ _ _ => false) (fun _ _ => fun _ _ _ => false) (fun _ _ => fun _ _ _ => false) (fun _ _ _ => false) (fun _ => fun _ _ _ => false) (fun _ => fun _ _ _ => false) PUnit.unit (fun _ _ _ _ => PUnit.unit) y es S k
/-- append; sz: the cells of an element. -/
noncomputable def apK (sz : Nat) (x y : V) (S : KS) (k : V → KS → Bool) : Bool :=
  srcK sz y S fun m new => @Nat.rec (fun _ => Nat → V → List V → KS → (V → KS → Bool) → Bool)
    (fun _ x _ S k => @V.rec (fun _ => KS → (V → KS → Bool) → Bool) (fun _ => PUnit) (fun _ _ => false) (fun _ => fun _ _ => false) (fun _ _ => fun _ _ => false) (fun _ => fun _ _ => false) (fun _ _ => false) (fun _ _ => fun _ _ => false) (fun _ _ => fun _ _ => false) (fun S k => k .nils S) (fun e l _ => fun S k => k (.imm e l) S) (fun e i o n => fun S k => k (.ref e i o n) S) (fun _ _ _ _ _ => fun _ _ => false) (fun _ _ => false) (fun _ _ => fun _ _ => false) (fun _ _ => fun _ _ => false) (fun _ _ => false) (fun _ => fun _ _ => false) (fun _ => fun _ _ => false) PUnit.unit (fun _ _ _ _ => PUnit.unit) x S k)
    (fun m _ sz x new S k => @V.rec (fun _ => Nat → Nat → List V → KS → (V → KS → Bool) → Bool) (fun _ => PUnit) (fun _ _ _ _ _ => false) (fun _ => fun _ _ _ _ _ => false) (fun _ _ => fun _ _ _ _ _ => false) (fun _ => fun _ _ _ _ _ => false) (fun _ _ _ _ _ => false) (fun _ _ => fun _ _ _ _ _ => false) (fun _ _ => fun _ _ _ _ _ => false) (fun m sz new S k => @Bool.rec (fun _ => Nat → Nat → List V → KS → (V → KS → Bool) → Bool) (fun _ _ _ _ _ => false) (fun m sz new S k => rowK sz (Nat.succ m) new S k) (Nat.ble (Nat.succ m) maxRow) m sz new S k) (fun _ _ _ => fun _ _ _ _ _ => false) (fun e i o n => fun m sz new S k => @Ob.rec (fun _ => Nat → Id → Nat → Nat → Nat → Nat → List V → KS → (V → KS → Bool) → Bool) (fun _ _ _ _ _ _ _ _ _ => false) (fun _ _ _ _ _ _ _ _ _ => false) (fun l fz anc => fun e i o n m sz new S k => @Bool.rec (fun _ => List V → Nat → List Id → Nat → Id → Nat → Nat → List V → KS → (V → KS → Bool) → Bool) (fun _ _ _ _ _ _ _ _ _ _ => false)
      (fun l fz anc e i n m new S k => natK (Nat.add n (Nat.succ m)) fun n => appK l new fun l' => putO i (.stale l) S.t fun t => newK (.cells l' fz (i :: anc)) ⟨t, S.nx⟩ fun j S => k (.ref e j 0 n) S)
      (@Bool.rec (fun _ => Bool) false (@Bool.rec (fun _ => Bool) false (@Bool.rec (fun _ => Bool) false (Nat.beq o 0) (Nat.beq e sz)) (Nat.ble (Nat.add n (Nat.succ m)) maxRow)) (isLen l (Nat.mul n e))) l fz anc e i n m new S k) (fun _ => fun _ _ _ _ _ _ _ _ _ => false) (fun _ => fun _ _ _ _ _ _ _ _ _ => false) (getO i S.t) e i o n m sz new S k) (fun _ _ _ _ _ => fun _ _ _ _ _ => false) (fun _ _ _ _ _ => false) (fun _ _ => fun _ _ _ _ _ => false) (fun _ _ => fun _ _ _ _ _ => false) (fun _ _ _ _ _ => false) (fun _ => fun _ _ _ _ _ => false) (fun _ => fun _ _ _ _ _ => false) PUnit.unit (fun _ _ _ _ => PUnit.unit) x m sz new S k) m sz x new S k
noncomputable def mkK (sz : Nat) (z : List V) (l c : V) (S : KS) (k : V → KS → Bool) : Bool :=
  idxK l fun l => idxK c fun c => @Bool.rec (fun _ => Nat → Nat → List V → KS → (V → KS → Bool) → Bool) (fun _ _ _ _ _ => false) (fun l sz z S k => listK (repl l z) fun z => natK l fun l => rowK sz l z S k) (@Bool.rec (fun _ => Bool) false (Nat.ble l c) (Nat.ble c maxRow)) l sz z S k

/-! ### maps -/
noncomputable def mcK (x : V) (S : KS) (k : List (V × V) → Bool) : Bool :=
  @V.rec (fun _ => KS → (List (V × V) → Bool) → Bool) (fun _ => PUnit) (fun _ _ => false) (fun _ => fun _ _ => false) (fun _ _ => fun _ _ => false) (fun _ => fun _ _ => false) (fun _ _ => false) (fun _ _ => fun _ _ => false) (fun _ _ => fun _ _ => false) (fun _ _ => false) (fun _ _ _ => fun _ _ => false) (fun _ _ _ _ => fun _ _ => false) (fun _ _ _ _ _ => fun _ _ => false) (fun _ _ => false) (fun _ _ => fun _ _ => false) (fun _ _ => fun _ _ => false) (fun _ k => k []) (fun i => fun S k => @Ob.rec (fun _ => (List (V × V) → Bool) → Bool) (fun _ => false) (fun _ => false) (fun _ _ _ => fun _ => false) (fun _ => fun _ => false) (fun l => fun k => k l) (getO i S.t) k) (fun _ => fun _ _ => false) PUnit.unit (fun _ _ _ _ => PUnit.unit) x S k
/-- What a map holds, as one value. -/
noncomputable def mapVK (x : V) (S : KS) (f : Bool) (k : V → Bool) : Bool :=
  @V.rec (fun _ => KS → Bool → (V → Bool) → Bool) (fun _ => PUnit) (fun _ f _ => f) (fun _ => fun _ f _ => f) (fun _ _ => fun _ f _ => f) (fun _ => fun _ f _ => f) (fun _ f _ => f) (fun _ _ => fun _ f _ => f) (fun _ _ => fun _ f _ => f) (fun _ f _ => f) (fun _ _ _ => fun _ f _ => f) (fun _ _ _ _ => fun _ f _ => f) (fun _ _ _ _ _ => fun _ f _ => f) (fun _ f _ => f) (fun _ _ => fun _ f _ => f) (fun _ _ => fun _ f _ => f) (fun _ _ k => k (.tup [.agg [], .agg []])) (fun i => fun S f k => @Ob.rec (fun _ => Bool → (V → Bool) → Bool) (fun f _ => f) (fun f _ => f) (fun _ _ _ => fun f _ => f) (fun _ => fun f _ => f) (fun l => fun _ k => k (.tup [.agg (l.map fun e => e.1), .agg (l.map fun e => e.2)])) (getO i S.t) f k) (fun _ => fun _ f _ => f) PUnit.unit (fun _ _ _ _ => PUnit.unit) x S f k
noncomputable def ifK (b : V) (yes no : Unit → Bool) : Bool :=
  @V.rec (fun _ => (Unit → Bool) → (Unit → Bool) → Bool) (fun _ => PUnit) (fun _ _ => false) (fun b => fun yes no => @Bool.rec (fun _ => (Unit → Bool) → (Unit → Bool) → Bool) (fun _ no => no ()) (fun yes _ => yes ()) b yes no) (fun _ _ => fun _ _ => false) (fun _ => fun _ _ => false) (fun _ _ => false) (fun _ _ => fun _ _ => false) (fun _ _ => fun _ _ => false) (fun _ _ => false) (fun _ _ _ => fun _ _ => false) (fun _ _ _ _ => fun _ _ => false) (fun _ _ _ _ _ => fun _ _ => false) (fun _ _ => false) (fun _ _ => fun _ _ => false) (fun _ _ => fun _ _ => false) (fun _ _ => false) (fun _ => fun _ _ => false) (fun _ => fun _ _ => false) PUnit.unit (fun _ _ _ _ => PUnit.unit) b yes no
/-- eq: equality of keys. -/
noncomputable def findK (eq : K2) (key : V) (l : List (V × V)) (yes : V → Bool) (no : Unit → Bool) : Bool :=
  @List.rec (V × V) (fun _ => (V → Bool) → (Unit → Bool) → Bool) (fun _ no => no ()) (fun e _ ih yes no => eq key e.1 fun b => ifK b (fun _ => yes e.2) (fun _ => ih yes no)) l yes no
noncomputable def setK (eq : K2) (key x : V) (l : List (V × V)) (k : List (V × V) → Bool) : Bool :=
  @List.rec (V × V) (fun _ => (List (V × V) → Bool) → Bool) (fun k => k [(key, x)]) (fun e r ih k => eq key e.1 fun b => ifK b (fun _ => k ((key, x) :: r)) (fun _ => ih fun l => k (e :: l))) l k
/-- A lookup; z: the zero value; r: the form of the answer. -/
noncomputable def lkK (fit : V → Bool) (eq : K2) (z : V) (r : V → Bool → V) (x i : V) (S : KS) (k : V → KS → Bool) : Bool :=
  @Bool.rec (fun _ => V → V → KS → (V → KS → Bool) → Bool) (fun _ _ _ _ => false) (fun x i S k => mcK x S fun l => findK eq i l (fun v => k (r v true) S) (fun _ => force z fun z => k (r z false) S)) (fit i) x i S k
noncomputable def muK (fit : V → Bool) (eq : K2) (m key x : V) (S : KS) (k : V → KS → Bool) : Bool :=
  @Bool.rec (fun _ => V → V → V → KS → (V → KS → Bool) → Bool) (fun _ _ _ _ _ => false) (fun m key x S k => @V.rec (fun _ => V → V → KS → (V → KS → Bool) → Bool) (fun _ => PUnit) (fun _ _ _ _ => false) (fun _ => fun _ _ _ _ => false) (fun _ _ => fun _ _ _ _ => false) (fun _ => fun _ _ _ _ => false) (fun _ _ _ _ => false) (fun _ _ => fun _ _ _ _ => false) (fun _ _ => fun _ _ _ _ => false) (fun _ _ _ _ => false) (fun _ _ _ => fun _ _ _ _ => false) (fun _ _ _ _ => fun _ _ _ _ => false) (fun _ _ _ _ _ => fun _ _ _ _ => false) (fun _ _ _ _ => false) (fun _ _ => fun _ _ _ _ => false) (fun _ _ => fun _ _ _ _ => false) (fun _ _ _ _ => false) (fun i => fun key x S k => @Ob.rec (fun _ => V → V → KS → (V → KS → Bool) → Bool) (fun _ _ _ _ => false) (fun _ _ _ _ => false) (fun _ _ _ => fun _ _ _ _ => false) (fun _ => fun _ _ _ _ => false) (fun l => fun key x S k => setK eq key x l fun l => putO i (.map l) S.t fun t => k .any ⟨t, S.nx⟩) (getO i S.t) key x S k) (fun _ => fun _ _ _ _ => false) PUnit.unit (fun _ _ _ _ => PUnit.unit) m key x S k) (fit key) m key x S k
noncomputable def mmK (_ : List V) (S : KS) (k : V → KS → Bool) : Bool := newK (.map []) S fun i S => k (.map i) S
noncomputable def setAtK (n : Nat) (x : V) (l : List (V × V)) (k : List (V × V) → Bool) : Bool :=
  @Nat.rec (fun _ => List (V × V) → (List (V × V) → Bool) → Bool) (fun l k => @List.rec (V × V) (fun _ => (List (V × V) → Bool) → Bool) (fun _ => false) (fun e r _ k => k ((e.1, x) :: r)) l k)
    (fun _ ih l k => @List.rec (V × V) (fun _ => (List (V × V) → (List (V × V) → Bool) → Bool) → (List (V × V) → Bool) → Bool) (fun _ _ => false) (fun e r _ ih k => ih r fun r => k (e :: r)) l ih k) n l k
/-- Keys that are structs of numbers. -/
noncomputable def agL (xs : List V) (ys : List V) (k : V → Bool) : Bool :=
  @List.rec V (fun _ => List V → (V → Bool) → Bool) (fun ys k => @List.rec V (fun _ => (V → Bool) → Bool) (fun k => k (.bool true)) (fun _ _ _ _ => false) ys k)
    (fun x _ ih ys k => @List.rec V (fun _ => V → (List V → (V → Bool) → Bool) → (V → Bool) → Bool) (fun _ _ _ => false) (fun y ys _ x ih k => iEq x y fun b => ifK b (fun _ => ih ys k) (fun _ => k (.bool false))) ys x ih k) xs ys k
noncomputable def agEq (n : Nat) (x y : V) (k : V → Bool) : Bool :=
  @V.rec (fun _ => Nat → V → (V → Bool) → Bool) (fun _ => PUnit) (fun _ _ _ => false) (fun _ => fun _ _ _ => false) (fun _ _ => fun _ _ _ => false) (fun _ => fun _ _ _ => false) (fun _ _ _ => false) (fun _ _ => fun _ _ _ => false) (fun _ _ => fun _ _ _ => false) (fun _ _ _ => false) (fun _ _ _ => fun _ _ _ => false) (fun _ _ _ _ => fun _ _ _ => false) (fun _ _ _ _ _ => fun _ _ _ => false) (fun _ _ _ => false) (fun xs _ => fun n y k => @V.rec (fun _ => List V → Nat → (V → Bool) → Bool) (fun _ => PUnit) (fun _ _ _ => false) (fun _ => fun _ _ _ => false) (fun _ _ => fun _ _ _ => false) (fun _ => fun _ _ _ => false) (fun _ _ _ => false) (fun _ _ => fun _ _ _ => false) (fun _ _ => fun _ _ _ => false) (fun _ _ _ => false) (fun _ _ _ => fun _ _ _ => false) (fun _ _ _ _ => fun _ _ _ => false) (fun _ _ _ _ _ => fun _ _ _ => false) (fun _ _ _ => false) (fun ys _ => fun xs n k => @Bool.rec (fun _ => List V → List V → (V → Bool) → Bool) (fun _ _ _ => false) (fun xs ys k => agL xs ys k) (@Bool.rec (fun _ => Bool) false (isLen xs n) (isLen ys n)) xs ys k) (fun _ _ => fun _ _ _ => false) (fun _ _ _ => false) (fun _ => fun _ _ _ => false) (fun _ => fun _ _ _ => false) PUnit.unit (fun _ _ _ _ => PUnit.unit) y xs n k) (fun _ _ => fun _ _ _ => false) (fun _ _ _ => false) (fun _ => fun _ _ _ => false) (fun _ => fun _ _ _ => false) PUnit.unit (fun _ _ _ _ => PUnit.unit) x n y k
noncomputable def fitK (n : Nat) (x : V) : Bool :=
  @V.rec (fun _ => Nat → Bool) (fun _ => PUnit) (fun _ => false) (fun _ => fun _ => false) (fun _ _ => fun _ => false) (fun _ => fun _ => false) (fun _ => false) (fun _ _ => fun _ => false) (fun _ _ => fun _ => false) (fun _ => false) (fun _ _ _ => fun _ => false) (fun _ _ _ _ => fun _ => false) (fun _ _ _ _ _ => fun _ => false) (fun _ => false) (fun xs _ => fun n => isLen xs n) (fun _ _ => fun _ => false) (fun _ => false) (fun _ => fun _ => false) (fun _ => fun _ => false) PUnit.unit (fun _ _ _ _ => PUnit.unit) x n
noncomputable def noFit (_ : V) : Bool := true
/-- The entry of a key. -/
noncomputable def entK (eq : K2) (key z : V) (l : List (V × V)) (k : List (V × V) → V → Nat → Bool) : Bool :=
  @List.rec (V × V) (fun _ => (List (V × V) → V → Nat → Bool) → Bool) (fun k => k [(key, z)] z 0) (fun e r ih k => eq key e.1 fun b => ifK b (fun _ => k ((key, e.2) :: r) e.2 0) (fun _ => ih fun l v i => natK (Nat.succ i) fun i => k (e :: l) v i)) l k
noncomputable def meK (fit : V → Bool) (eq : K2) (z : V) (m key : V) (S : KS) (k : V → KS → Bool) : Bool :=
  @Bool.rec (fun _ => V → V → KS → (V → KS → Bool) → Bool) (fun _ _ _ _ => false) (fun m key S k => @V.rec (fun _ => V → KS → (V → KS → Bool) → Bool) (fun _ => PUnit) (fun _ _ _ => false) (fun _ => fun _ _ _ => false) (fun _ _ => fun _ _ _ => false) (fun _ => fun _ _ _ => false) (fun _ _ _ => false) (fun _ _ => fun _ _ _ => false) (fun _ _ => fun _ _ _ => false) (fun _ _ _ => false) (fun _ _ _ => fun _ _ _ => false) (fun _ _ _ _ => fun _ _ _ => false) (fun _ _ _ _ _ => fun _ _ _ => false) (fun _ _ _ => false) (fun _ _ => fun _ _ _ => false) (fun _ _ => fun _ _ _ => false) (fun _ _ _ => false) (fun i => fun key S k => @Ob.rec (fun _ => V → KS → (V → KS → Bool) → Bool) (fun _ _ _ => false) (fun _ _ _ => false) (fun _ _ _ => fun _ _ _ => false) (fun _ => fun _ _ _ => false) (fun l => fun key S k => force z fun z => entK eq key z l fun l v j => putO i (.map l) S.t fun t => k (.tup [v, .int .i64 (.ofNat j)]) ⟨t, S.nx⟩) (getO i S.t) key S k) (fun _ => fun _ _ _ => false) PUnit.unit (fun _ _ _ _ => PUnit.unit) m key S k) (fit key) m key S k
noncomputable def esK (m i x : V) (S : KS) (k : V → KS → Bool) : Bool :=
  @V.rec (fun _ => V → V → KS → (V → KS → Bool) → Bool) (fun _ => PUnit) (fun _ _ _ _ => false) (fun _ => fun _ _ _ _ => false) (fun _ _ => fun _ _ _ _ => false) (fun _ => fun _ _ _ _ => false) (fun _ _ _ _ => false) (fun _ _ => fun _ _ _ _ => false) (fun _ _ => fun _ _ _ _ => false) (fun _ _ _ _ => false) (fun _ _ _ => fun _ _ _ _ => false) (fun _ _ _ _ => fun _ _ _ _ => false) (fun _ _ _ _ _ => fun _ _ _ _ => false) (fun _ _ _ _ => false) (fun _ _ => fun _ _ _ _ => false) (fun _ _ => fun _ _ _ _ => false) (fun _ _ _ _ => false) (fun d => fun i x S k => @Ob.rec (fun _ => V → V → KS → (V → KS → Bool) → Bool) (fun _ _ _ _ => false) (fun _ _ _ _ => false) (fun _ _ _ => fun _ _ _ _ => false) (fun _ => fun _ _ _ _ => false) (fun l => fun i x S k => idxK i fun n => setAtK n x l fun l => putO d (.map l) S.t fun t => k .any ⟨t, S.nx⟩) (getO d S.t) i x S k) (fun _ => fun _ _ _ _ => false) PUnit.unit (fun _ _ _ _ => PUnit.unit) m i x S k
def oneR (v : V) (_ : Bool) : V := v
def twoR (v : V) (b : Bool) : V := .tup [v, .bool b]
/-- The first n of a slice. -/
noncomputable def cutK (n : Nat) (y : V) (k : V → Bool) : Bool :=
  @V.rec (fun _ => Nat → (V → Bool) → Bool) (fun _ => PUnit) (fun _ _ => false) (fun _ => fun _ _ => false) (fun _ _ => fun _ _ => false) (fun _ => fun _ _ => false) (fun _ _ => false) (fun _ _ => fun _ _ => false) (fun _ _ => fun _ _ => false) (fun _ k => k .nils) (fun e l _ => fun n k => k (.imm e (l.take n))) (fun e i o m => fun n k => @Bool.rec (fun _ => Nat → Nat → Id → Nat → Nat → (V → Bool) → Bool) (fun n e i o _ k => k (.ref e i o n)) (fun _ e i o m k => k (.ref e i o m)) (Nat.ble m n) n e i o m k) (fun _ _ _ _ _ => fun _ _ => false) (fun _ _ => false) (fun _ _ => fun _ _ => false) (fun _ _ => fun _ _ => false) (fun _ _ => false) (fun _ => fun _ _ => false) (fun _ => fun _ _ => false) PUnit.unit (fun _ _ _ _ => PUnit.unit) y n k
/-- copy; sz: the cells of an element. -/
noncomputable def cpK (sz : Nat) (x y : V) (S : KS) (k : V → KS → Bool) : Bool :=
  @V.rec (fun _ => Nat → V → KS → (V → KS → Bool) → Bool) (fun _ => PUnit) (fun _ _ _ _ => false) (fun _ => fun _ _ _ _ => false) (fun _ _ => fun _ _ _ _ => false) (fun _ => fun _ _ _ _ => false) (fun _ _ _ _ => false) (fun _ _ => fun _ _ _ _ => false) (fun _ _ => fun _ _ _ _ => false) (fun _ _ _ _ => false) (fun _ _ _ => fun _ _ _ _ => false) (fun _ i o n => fun sz y S k => cutK n y fun y => srcK sz y S fun m new => @Nat.rec (fun _ => Id → Nat → List V → KS → (V → KS → Bool) → Bool) (fun _ _ _ S k => k (.int .i64 (.ofNat 0)) S) (fun m _ i o new S k => wrK (.ptr i o) new S fun _ S => k (.int .i64 (.ofNat (Nat.succ m))) S) m i o new S k) (fun _ _ _ _ _ => fun _ _ _ _ => false) (fun _ _ _ _ => false) (fun _ _ => fun _ _ _ _ => false) (fun _ _ => fun _ _ _ _ => false) (fun _ _ _ _ => false) (fun _ => fun _ _ _ _ => false) (fun _ => fun _ _ _ _ => false) PUnit.unit (fun _ _ _ _ => PUnit.unit) x sz y S k
/-- What lies behind the slice is forgotten. -/
noncomputable def cutXK (x : V) (S : KS) (k : KS → Bool) : Bool :=
  @V.rec (fun _ => KS → (KS → Bool) → Bool) (fun _ => PUnit) (fun S k => k S) (fun _ => fun S k => k S) (fun _ _ => fun S k => k S) (fun _ => fun S k => k S) (fun S k => k S) (fun _ _ => fun S k => k S) (fun _ _ => fun S k => k S) (fun S k => k S) (fun _ _ _ => fun S k => k S) (fun e i _ n => fun S k => natK (Nat.mul n e) fun m => @Ob.rec (fun _ => Nat → Id → KS → (KS → Bool) → Bool) (fun _ _ _ _ => false) (fun _ _ S k => k S) (fun l fz anc => fun m i S k => @List.rec Id (fun _ => List V → Nat → Nat → Id → KS → (KS → Bool) → Bool) (fun l fz m i S k => @Bool.rec (fun _ => List V → Nat → Nat → Id → KS → (KS → Bool) → Bool) (fun l fz m i S k => @Bool.rec (fun _ => List V → Nat → Nat → Id → KS → (KS → Bool) → Bool) (fun _ _ _ _ S k => k S) (fun l fz m i S k => listK (l.take m) fun l => putO i (.cells l fz []) S.t fun t => k ⟨t, S.nx⟩) (Nat.ble fz m) l fz m i S k) (fun _ _ _ _ S k => k S) (isLen l m) l fz m i S k) (fun _ _ _ _ _ _ _ S k => k S) anc l fz m i S k) (fun _ => fun _ _ S k => k S) (fun _ => fun _ _ S k => k S) (getO i S.t) m i S k) (fun _ _ _ _ _ => fun S k => k S) (fun S k => k S) (fun _ _ => fun S k => k S) (fun _ _ => fun S k => k S) (fun S k => k S) (fun _ => fun S k => k S) (fun _ => fun S k => k S) PUnit.unit (fun _ _ _ _ => PUnit.unit) x S k
noncomputable def apK2 (sz : Nat) (x y : V) (S : KS) (k : V → KS → Bool) : Bool := cutXK x S fun S => apK sz x y S k
/-- Zeros appended to nothing. -/
noncomputable def apNK (sz : Nat) (z : List V) (x n : V) (S : KS) (k : V → KS → Bool) : Bool :=
  @V.rec (fun _ => V → Nat → List V → KS → (V → KS → Bool) → Bool) (fun _ => PUnit) (fun _ _ _ _ _ => false) (fun _ => fun _ _ _ _ _ => false) (fun _ _ => fun _ _ _ _ _ => false) (fun _ => fun _ _ _ _ _ => false) (fun _ _ _ _ _ => false) (fun _ _ => fun _ _ _ _ _ => false) (fun _ _ => fun _ _ _ _ _ => false) (fun n sz z S k => idxK n fun n => @Nat.rec (fun _ => Nat → List V → KS → (V → KS → Bool) → Bool) (fun _ _ _ _ => false) (fun m _ sz z S k => @Bool.rec (fun _ => Nat → Nat → List V → KS → (V → KS → Bool) → Bool) (fun _ _ _ _ _ => false) (fun m sz z S k => listK (repl (Nat.succ m) z) fun l => rowK sz (Nat.succ m) l S k) (Nat.ble (Nat.succ m) maxRow) m sz z S k) n sz z S k) (fun _ _ _ => fun _ _ _ _ _ => false) (fun _ _ _ _ => fun _ _ _ _ _ => false) (fun _ _ _ _ _ => fun _ _ _ _ _ => false) (fun _ _ _ _ _ => false) (fun _ _ => fun _ _ _ _ _ => false) (fun _ _ => fun _ _ _ _ _ => false) (fun _ _ _ _ _ => false) (fun _ => fun _ _ _ _ _ => false) (fun _ => fun _ _ _ _ _ => false) PUnit.unit (fun _ _ _ _ => PUnit.unit) x n sz z S k
noncomputable def capK (x : V) (k : V → Bool) : Bool :=
  @V.rec (fun _ => (V → Bool) → Bool) (fun _ => PUnit) (fun _ => false) (fun _ => fun _ => false) (fun _ _ => fun _ => false) (fun _ => fun _ => false) (fun _ => false) (fun _ _ => fun _ => false) (fun _ _ => fun _ => false) (fun k => k (.int .i64 (.ofNat 0))) (fun _ _ _ => fun _ => false) (fun _ _ _ _ => fun _ => false) (fun _ _ _ _ _ => fun _ => false) (fun _ => false) (fun _ _ => fun _ => false) (fun _ _ => fun _ => false) (fun _ => false) (fun _ => fun _ => false) (fun _ => fun _ => false) PUnit.unit (fun _ _ _ _ => PUnit.unit) x k
/-- clear, of a slice; z: the cells of an element that is zero. -/
noncomputable def clK (z : List V) (x : V) (S : KS) (k : V → KS → Bool) : Bool :=
  @V.rec (fun _ => List V → KS → (V → KS → Bool) → Bool) (fun _ => PUnit) (fun _ _ _ => false) (fun _ => fun _ _ _ => false) (fun _ _ => fun _ _ _ => false) (fun _ => fun _ _ _ => false) (fun _ _ _ => false) (fun _ _ => fun _ _ _ => false) (fun _ _ => fun _ _ _ => false) (fun _ S k => k (.tup []) S) (fun _ _ _ => fun _ _ _ => false) (fun _ i o n => fun z S k => @Nat.rec (fun _ => Id → Nat → List V → KS → (V → KS → Bool) → Bool) (fun _ _ _ S k => k (.tup []) S) (fun m _ i o z S k => listK (repl (Nat.succ m) z) fun l => wrK (.ptr i o) l S fun _ S => k (.tup []) S) n i o z S k) (fun _ _ _ _ _ => fun _ _ _ => false) (fun _ _ _ => false) (fun _ _ => fun _ _ _ => false) (fun _ _ => fun _ _ _ => false) (fun _ _ _ => false) (fun _ => fun _ _ _ => false) (fun _ => fun _ _ _ => false) PUnit.unit (fun _ _ _ _ => PUnit.unit) x z S k

/-! ### code -/
inductive Part where
  | mk (o s : Nat) (x : Loc)
inductive Ix where
  | z
  | s (i : Ix)
inductive Ins where
  | done
  | fail
  | cst (v : V) (d : Dst) (n : Ins)
  | p1 (f : K1) (x : Loc) (d : Dst) (n : Ins)
  | p2 (f : K2) (x y : Loc) (d : Dst) (n : Ins)
  | p3 (f : K3) (x y z : Loc) (d : Dst) (n : Ins)
  | pn (f : KN) (xs : List Loc) (d : Dst) (n : Ins)
  | mkf (f : FuncId) (xs ys : List Loc) (d : Dst) (n : Ins)
  | ld (f : KL) (x : Loc) (d : Dst) (n : Ins)
  | alo (z : List V) (d : Dst) (n : Ins)
  | e1 (f : E1) (x : Loc) (d : Dst) (n : Ins)
  | e2 (f : E2) (x y : Loc) (d : Dst) (n : Ins)
  | e3 (f : E3) (x y z : Loc) (d : Dst) (n : Ins)
  | bld (z : List V) (ps : List Part) (f : EL) (d : Dst) (n : Ins)
  | call (f : FuncId) (xs : List Loc) (d : Dst) (n : Ins)
  | callV (f : Loc) (xs : List Loc) (d : Dst) (n : Ins)
  | gd (l : Loc) (b : Bool) (n m : Ins)
  | snap (n : Ins)
  | nand (gs : List (Loc × Bool)) (n : Ins)
  | chk (gs : List (Loc × Bool)) (f : KL) (x : Loc) (i : Ix) (n : Ins)
inductive Bk where
  | no
  | yes (fs fe : KL) (sz : Nat)
inductive C where
  | skip
  | fail
  | reg (i : Ins)
  | seq (a b : C)
  | amb (i j : Ins) (b : C)
  | cond (l : Loc) (a b : C)
  | block (id : Nat) (b : C)
  | loop (b : C)
  | exit (id : Nat)
  | ret
  | rfb (bk : FuncId → Bk) (g : Loc) (p q : Dst) (a b : C)
inductive Rs where
  | t (l : Loc)
  | c (f : KL) (x : Loc)
inductive Cl where
  | c2 | c3 | c4 | c5
inductive CF where
  | bad
  | mk (cl : Cl) (ps : List Dst) (b : C) (rs : List Rs)
noncomputable def lenSlK (l : V) (k : Nat → Bool) : Bool :=
  @V.rec (fun _ => (Nat → Bool) → Bool) (fun _ => PUnit) (fun _ => false) (fun _ => fun _ => false) (fun _ _ => fun _ => false) (fun _ => fun _ => false) (fun _ => false) (fun _ _ => fun _ => false) (fun _ _ => fun _ => false) (fun k => k 0) (fun _ l _ => fun k => natK (lenL l) k) (fun _ _ _ n => fun k => k n) (fun _ _ _ _ _ => fun _ => false) (fun _ => false) (fun _ _ => fun _ => false) (fun _ _ => fun _ => false) (fun _ => false) (fun _ => fun _ => false) (fun _ => fun _ => false) PUnit.unit (fun _ _ _ _ => PUnit.unit) l k
/-- A range over what slices.Backward returns; rd: a round. -/
noncomputable def rfK (bk : FuncId → Bk) (g : V) (S : KS) (kn : KS → Bool) (rd : V → V → KS → (KS → Bool) → Bool) : Bool :=
  @V.rec (fun _ => KS → (KS → Bool) → (V → V → KS → (KS → Bool) → Bool) → Bool) (fun _ => PUnit) (fun _ _ _ => false) (fun _ => fun _ _ _ => false) (fun _ _ => fun _ _ _ => false) (fun _ => fun _ _ _ => false) (fun _ _ _ => false) (fun _ _ => fun _ _ _ => false) (fun _ _ => fun _ _ _ => false) (fun _ _ _ => false) (fun _ _ _ => fun _ _ _ => false) (fun _ _ _ _ => fun _ _ _ => false) (fun f a c _ _ => fun S kn rd => @List.rec V (fun _ => Bool) (@List.rec V (fun _ => Bool) false (fun p r _ => @List.rec V (fun _ => Bool)
    (@Bk.rec (fun _ => Bool) false (fun fs fe sz => fs p S false fun l => lenSlK l fun m => @Bool.rec (fun _ => Bool) false
      (@Nat.rec (fun _ => KS → Bool) (fun S => kn S) (fun i ih S => fs p S false fun x => ixK sz x (.int .i64 (.ofNat i)) fun ad => fe ad S false fun v => rd (.int .i64 (.ofNat i)) v S ih) m S)
      (Nat.ble m maxRow)) (bk f)) (fun _ _ _ => false) r) c) (fun _ _ _ => false) a) (fun _ _ _ => false) (fun _ _ => fun _ _ _ => false) (fun _ _ => fun _ _ _ => false) (fun _ _ _ => false) (fun _ => fun _ _ _ => false) (fun _ => fun _ _ _ => false) PUnit.unit (fun _ _ _ _ => PUnit.unit) g S kn rd
noncomputable def hdS (l : List KS) (f : Bool) (k : KS → KS → Bool) (i : Ix) : Bool :=
  @Ix.rec (fun _ => List KS → Bool → (KS → KS → Bool) → Bool)
    (fun l f k => @List.rec KS (fun _ => Bool → (KS → KS → Bool) → Bool) (fun f _ => f) (fun b r _ f k => @List.rec KS (fun _ => KS → Bool → (KS → KS → Bool) → Bool) (fun _ f _ => f) (fun a _ _ b _ k => k a b) r b f k) l f k)
    (fun _ ih l f k => @List.rec KS (fun _ => (List KS → Bool → (KS → KS → Bool) → Bool) → Bool → (KS → KS → Bool) → Bool) (fun _ f _ => f) (fun _ r _ ih f k => ih r f k) l ih f k) i l f k

/-- Are two values the same? (no: not known) -/
noncomputable def sameV (x y : V) : Bool :=
  @V.rec (fun _ => V → Bool) (fun _ => List V → Bool)
    (fun y => @V.rec (fun _ => Bool) (fun _ => PUnit) (true) (fun _ => false) (fun _ _ => false) (fun _ => false) (false) (fun _ _ => false) (fun _ _ => false) (false) (fun _ _ _ => false) (fun _ _ _ _ => false) (fun _ _ _ _ _ => false) (false) (fun _ _ => false) (fun _ _ => false) (false) (fun _ => false) (fun _ => false) PUnit.unit (fun _ _ _ _ => PUnit.unit) y)
    (fun b y => @V.rec (fun _ => Bool → Bool) (fun _ => PUnit) (fun _ => false) (fun c => fun b => @Bool.rec (fun _ => Bool) (notB c) c b) (fun _ _ => fun _ => false) (fun _ => fun _ => false) (fun _ => false) (fun _ _ => fun _ => false) (fun _ _ => fun _ => false) (fun _ => false) (fun _ _ _ => fun _ => false) (fun _ _ _ _ => fun _ => false) (fun _ _ _ _ _ => fun _ => false) (fun _ => false) (fun _ _ => fun _ => false) (fun _ _ => fun _ => false) (fun _ => false) (fun _ => fun _ => false) (fun _ => fun _ => false) PUnit.unit (fun _ _ _ _ => PUnit.unit) y b)
    (fun k n y => @V.rec (fun _ => IntKind → Int → Bool) (fun _ => PUnit) (fun _ _ => false) (fun _ => fun _ _ => false) (fun j m => fun k n => @Bool.rec (fun _ => Bool) false (intEq n m) (kindEq k j)) (fun _ => fun _ _ => false) (fun _ _ => false) (fun _ _ => fun _ _ => false) (fun _ _ => fun _ _ => false) (fun _ _ => false) (fun _ _ _ => fun _ _ => false) (fun _ _ _ _ => fun _ _ => false) (fun _ _ _ _ _ => fun _ _ => false) (fun _ _ => false) (fun _ _ => fun _ _ => false) (fun _ _ => fun _ _ => false) (fun _ _ => false) (fun _ => fun _ _ => false) (fun _ => fun _ _ => false) PUnit.unit (fun _ _ _ _ => PUnit.unit) y k n)
    (fun s y => @V.rec (fun _ => List Nat → Bool) (fun _ => PUnit) (fun _ => false) (fun _ => fun _ => false) (fun _ _ => fun _ => false) (fun r => fun s => strEq s r) (fun _ => false) (fun _ _ => fun _ => false) (fun _ _ => fun _ => false) (fun _ => false) (fun _ _ _ => fun _ => false) (fun _ _ _ _ => fun _ => false) (fun _ _ _ _ _ => fun _ => false) (fun _ => false) (fun _ _ => fun _ => false) (fun _ _ => fun _ => false) (fun _ => false) (fun _ => fun _ => false) (fun _ => fun _ => false) PUnit.unit (fun _ _ _ _ => PUnit.unit) y s)
    (fun y => @V.rec (fun _ => Bool) (fun _ => PUnit) (false) (fun _ => false) (fun _ _ => false) (fun _ => false) (true) (fun _ _ => false) (fun _ _ => false) (false) (fun _ _ _ => false) (fun _ _ _ _ => false) (fun _ _ _ _ _ => false) (false) (fun _ _ => false) (fun _ _ => false) (false) (fun _ => false) (fun _ => false) PUnit.unit (fun _ _ _ _ => PUnit.unit) y)
    (fun i o y => @V.rec (fun _ => Id → Nat → Bool) (fun _ => PUnit) (fun _ _ => false) (fun _ => fun _ _ => false) (fun _ _ => fun _ _ => false) (fun _ => fun _ _ => false) (fun _ _ => false) (fun j p => fun i o => @Bool.rec (fun _ => Bool) false (idEq i j) (Nat.beq o p)) (fun _ _ => fun _ _ => false) (fun _ _ => false) (fun _ _ _ => fun _ _ => false) (fun _ _ _ _ => fun _ _ => false) (fun _ _ _ _ _ => fun _ _ => false) (fun _ _ => false) (fun _ _ => fun _ _ => false) (fun _ _ => fun _ _ => false) (fun _ _ => false) (fun _ => fun _ _ => false) (fun _ => fun _ _ => false) PUnit.unit (fun _ _ _ _ => PUnit.unit) y i o)
    (fun c ih y => @V.rec (fun _ => (List V → Bool) → Bool) (fun _ => PUnit) (fun _ => false) (fun _ => fun _ => false) (fun _ _ => fun _ => false) (fun _ => fun _ => false) (fun _ => false) (fun _ _ => fun _ => false) (fun b _ => fun ih => ih b) (fun _ => false) (fun _ _ _ => fun _ => false) (fun _ _ _ _ => fun _ => false) (fun _ _ _ _ _ => fun _ => false) (fun _ => false) (fun _ _ => fun _ => false) (fun _ _ => fun _ => false) (fun _ => false) (fun _ => fun _ => false) (fun _ => fun _ => false) PUnit.unit (fun _ _ _ _ => PUnit.unit) y ih)
    (fun y => @V.rec (fun _ => Bool) (fun _ => PUnit) (false) (fun _ => false) (fun _ _ => false) (fun _ => false) (false) (fun _ _ => false) (fun _ _ => false) (true) (fun _ _ _ => false) (fun _ _ _ _ => false) (fun _ _ _ _ _ => false) (false) (fun _ _ => false) (fun _ _ => false) (false) (fun _ => false) (fun _ => false) PUnit.unit (fun _ _ _ _ => PUnit.unit) y)
    (fun e l ih y => @V.rec (fun _ => Nat → (List V → Bool) → Bool) (fun _ => PUnit) (fun _ _ => false) (fun _ => fun _ _ => false) (fun _ _ => fun _ _ => false) (fun _ => fun _ _ => false) (fun _ _ => false) (fun _ _ => fun _ _ => false) (fun _ _ => fun _ _ => false) (fun _ _ => false) (fun f m _ => fun e ih => @Bool.rec (fun _ => Bool) false (ih m) (Nat.beq e f)) (fun _ _ _ _ => fun _ _ => false) (fun _ _ _ _ _ => fun _ _ => false) (fun _ _ => false) (fun _ _ => fun _ _ => false) (fun _ _ => fun _ _ => false) (fun _ _ => false) (fun _ => fun _ _ => false) (fun _ => fun _ _ => false) PUnit.unit (fun _ _ _ _ => PUnit.unit) y e ih)
    (fun e i o n y => @V.rec (fun _ => Nat → Id → Nat → Nat → Bool) (fun _ => PUnit) (fun _ _ _ _ => false) (fun _ => fun _ _ _ _ => false) (fun _ _ => fun _ _ _ _ => false) (fun _ => fun _ _ _ _ => false) (fun _ _ _ _ => false) (fun _ _ => fun _ _ _ _ => false) (fun _ _ => fun _ _ _ _ => false) (fun _ _ _ _ => false) (fun _ _ _ => fun _ _ _ _ => false) (fun f j p m => fun e i o n => @Bool.rec (fun _ => Bool) false (@Bool.rec (fun _ => Bool) false (@Bool.rec (fun _ => Bool) false (idEq i j) (Nat.beq o p)) (Nat.beq n m)) (Nat.beq e f)) (fun _ _ _ _ _ => fun _ _ _ _ => false) (fun _ _ _ _ => false) (fun _ _ => fun _ _ _ _ => false) (fun _ _ => fun _ _ _ _ => false) (fun _ _ _ _ => false) (fun _ => fun _ _ _ _ => false) (fun _ => fun _ _ _ _ => false) PUnit.unit (fun _ _ _ _ => PUnit.unit) y e i o n)
    (fun f a c ih1 ih2 y => @V.rec (fun _ => Nat → (List V → Bool) → (List V → Bool) → Bool) (fun _ => PUnit) (fun _ _ _ => false) (fun _ => fun _ _ _ => false) (fun _ _ => fun _ _ _ => false) (fun _ => fun _ _ _ => false) (fun _ _ _ => false) (fun _ _ => fun _ _ _ => false) (fun _ _ => fun _ _ _ => false) (fun _ _ _ => false) (fun _ _ _ => fun _ _ _ => false) (fun _ _ _ _ => fun _ _ _ => false) (fun g b d _ _ => fun f ih1 ih2 => @Bool.rec (fun _ => Bool) false (@Bool.rec (fun _ => Bool) false (ih2 d) (ih1 b)) (Nat.beq f g)) (fun _ _ _ => false) (fun _ _ => fun _ _ _ => false) (fun _ _ => fun _ _ _ => false) (fun _ _ _ => false) (fun _ => fun _ _ _ => false) (fun _ => fun _ _ _ => false) PUnit.unit (fun _ _ _ _ => PUnit.unit) y f ih1 ih2)
    (fun y => @V.rec (fun _ => Bool) (fun _ => PUnit) (false) (fun _ => false) (fun _ _ => false) (fun _ => false) (false) (fun _ _ => false) (fun _ _ => false) (false) (fun _ _ _ => false) (fun _ _ _ _ => false) (fun _ _ _ _ _ => false) (true) (fun _ _ => false) (fun _ _ => false) (false) (fun _ => false) (fun _ => false) PUnit.unit (fun _ _ _ _ => PUnit.unit) y)
    (fun c ih y => @V.rec (fun _ => (List V → Bool) → Bool) (fun _ => PUnit) (fun _ => false) (fun _ => fun _ => false) (fun _ _ => fun _ => false) (fun _ => fun _ => false) (fun _ => false) (fun _ _ => fun _ => false) (fun _ _ => fun _ => false) (fun _ => false) (fun _ _ _ => fun _ => false) (fun _ _ _ _ => fun _ => false) (fun _ _ _ _ _ => fun _ => false) (fun _ => false) (fun b _ => fun ih => ih b) (fun _ _ => fun _ => false) (fun _ => false) (fun _ => fun _ => false) (fun _ => fun _ => false) PUnit.unit (fun _ _ _ _ => PUnit.unit) y ih)
    (fun c ih y => @V.rec (fun _ => (List V → Bool) → Bool) (fun _ => PUnit) (fun _ => false) (fun _ => fun _ => false) (fun _ _ => fun _ => false) (fun _ => fun _ => false) (fun _ => false) (fun _ _ => fun _ => false) (fun _ _ => fun _ => false) (fun _ => false) (fun _ _ _ => fun _ => false) (fun _ _ _ _ => fun _ => false) (fun _ _ _ _ _ => fun _ => false) (fun _ => false) (fun _ _ => fun _ => false) (fun b _ => fun ih => ih b) (fun _ => false) (fun _ => fun _ => false) (fun _ => fun _ => false) PUnit.unit (fun _ _ _ _ => PUnit.unit) y ih)
    (fun y => @V.rec (fun _ => Bool) (fun _ => PUnit) (false) (fun _ => false) (fun _ _ => false) (fun _ => false) (false) (fun _ _ => false) (fun _ _ => false) (false) (fun _ _ _ => false) (fun _ _ _ _ => false) (fun _ _ _ _ _ => false) (false) (fun _ _ => false) (fun _ _ => false) (true) (fun _ => false) (fun _ => false) PUnit.unit (fun _ _ _ _ => PUnit.unit) y)
    (fun i y => @V.rec (fun _ => Id → Bool) (fun _ => PUnit) (fun _ => false) (fun _ => fun _ => false) (fun _ _ => fun _ => false) (fun _ => fun _ => false) (fun _ => false) (fun _ _ => fun _ => false) (fun _ _ => fun _ => false) (fun _ => false) (fun _ _ _ => fun _ => false) (fun _ _ _ _ => fun _ => false) (fun _ _ _ _ _ => fun _ => false) (fun _ => false) (fun _ _ => fun _ => false) (fun _ _ => fun _ => false) (fun _ => false) (fun j => fun i => idEq i j) (fun _ => fun _ => false) PUnit.unit (fun _ _ _ _ => PUnit.unit) y i)
    (fun l y => @V.rec (fun _ => Nat → Bool) (fun _ => PUnit) (fun _ => false) (fun _ => fun _ => false) (fun _ _ => fun _ => false) (fun _ => fun _ => false) (fun _ => false) (fun _ _ => fun _ => false) (fun _ _ => fun _ => false) (fun _ => false) (fun _ _ _ => fun _ => false) (fun _ _ _ _ => fun _ => false) (fun _ _ _ _ _ => fun _ => false) (fun _ => false) (fun _ _ => fun _ => false) (fun _ _ => fun _ => false) (fun _ => false) (fun _ => fun _ => false) (fun m => fun l => Nat.beq l m) PUnit.unit (fun _ _ _ _ => PUnit.unit) y l)
    (fun y => @List.rec V (fun _ => Bool) true (fun _ _ _ => false) y)
    (fun _ _ ih1 ih2 y => @List.rec V (fun _ => (V → Bool) → (List V → Bool) → Bool) (fun _ _ => false) (fun v vs _ ih1 ih2 => @Bool.rec (fun _ => List V → (List V → Bool) → Bool) (fun _ _ => false) (fun vs ih2 => ih2 vs) (ih1 v) vs ih2) y ih1 ih2) x y
noncomputable def chkK (f : KL) (x : V) (a b : KS) : Bool := f x a (f x b true fun _ => false) fun v => f x b false fun u => sameV v u

/-! ### merging -/
noncomputable def sameIds (x y : List Id) : Bool :=
  @List.rec Id (fun _ => List Id → Bool) (fun y => @List.rec Id (fun _ => Bool) true (fun _ _ _ => false) y)
    (fun i _ ih y => @List.rec Id (fun _ => Id → (List Id → Bool) → Bool) (fun _ _ => false) (fun j r _ i ih => @Bool.rec (fun _ => List Id → (List Id → Bool) → Bool) (fun _ _ => false) (fun r ih => ih r) (idEq i j) r ih) y i ih) x y
noncomputable def sameVs (x y : List V) : Bool := sameV (.agg x) (.agg y)
noncomputable def fstL (l : List (V × V)) : List V := l.map fun e => e.1
noncomputable def sndL (l : List (V × V)) : List V := l.map fun e => e.2
noncomputable def sameOb (x y : Ob) : Bool :=
  @Ob.rec (fun _ => Ob → Bool)
    (fun y => @Ob.rec (fun _ => Bool) true false (fun _ _ _ => false) (fun _ => false) (fun _ => false) y)
    (fun y => @Ob.rec (fun _ => Bool) false true (fun _ _ _ => false) (fun _ => false) (fun _ => false) y)
    (fun l fz anc y => @Ob.rec (fun _ => List V → Nat → List Id → Bool) (fun _ _ _ => false) (fun _ _ _ => false) (fun l' fz' anc' l fz anc => @Bool.rec (fun _ => Bool) false (@Bool.rec (fun _ => Bool) false (sameVs l l') (sameIds anc anc')) (Nat.beq fz fz')) (fun _ _ _ _ => false) (fun _ _ _ _ => false) y l fz anc)
    (fun l y => @Ob.rec (fun _ => List V → Bool) (fun _ => false) (fun _ => false) (fun _ _ _ _ => false) (fun l' l => sameVs l l') (fun _ _ => false) y l)
    (fun l y => @Ob.rec (fun _ => List (V × V) → Bool) (fun _ => false) (fun _ => false) (fun _ _ _ _ => false) (fun _ _ => false) (fun l' l => @Bool.rec (fun _ => Bool) false (sameVs (fstL l) (fstL l')) (sameVs (sndL l) (sndL l'))) y l) x y
noncomputable def isFreeK (x : Ob) : Bool := @Ob.rec (fun _ => Bool) true false (fun _ _ _ => false) (fun _ => false) (fun _ => false) x
noncomputable def isLiveK (x : Ob) : Bool := @Ob.rec (fun _ => Bool) false false (fun _ _ _ => true) (fun _ => false) (fun _ => true) x
noncomputable def xnor (a b : Bool) : Bool := @Bool.rec (fun _ => Bool) (notB b) b a
/-- May a and b be merged where s lay before, though they differ? -/
noncomputable def deadOK (s a b : Ob) : Bool := @Bool.rec (fun _ => Bool) false (@Bool.rec (fun _ => Bool) true (@Bool.rec (fun _ => Bool) (notB (sameOb b s)) false (sameOb a s)) (isLiveK s)) (xnor (isFreeK a) (isFreeK b))
noncomputable def mrgD (a b : Ob) (k : Ob → Bool) : Bool :=
  @Ob.rec (fun _ => Ob → (Ob → Bool) → Bool) (fun _ k => k .dead) (fun _ k => k .dead)
    (fun l fz anc b k => @Ob.rec (fun _ => List V → Nat → List Id → (Ob → Bool) → Bool) (fun _ _ _ k => k .dead) (fun _ _ _ k => k .dead)
      (fun l' fz' anc' l fz anc k => @Bool.rec (fun _ => List V → Nat → List Id → List Id → (Ob → Bool) → Bool) (fun _ _ _ _ k => k .dead) (fun l fz anc anc' k => k (.cells l fz (anc ++ anc'))) (@Bool.rec (fun _ => Bool) false (sameVs l l') (Nat.beq fz fz')) l fz anc anc' k)
      (fun _ _ _ _ k => k .dead) (fun _ _ _ _ k => k .dead) b l fz anc k)
    (fun _ _ k => k .dead) (fun _ _ k => k .dead) a b k
noncomputable def zip0 (s a b : Ob) (k : Ob → Bool) : Bool :=
  @Bool.rec (fun _ => Ob → Ob → Ob → (Ob → Bool) → Bool) (fun s a b k => @Bool.rec (fun _ => Ob → Ob → (Ob → Bool) → Bool) (fun _ _ _ => false) (fun a b k => mrgD a b k) (deadOK s a b) a b k) (fun _ a _ k => k a) (sameOb a b) s a b k
section
variable {α : Type}
noncomputable def eqN (eq : α → α → Bool) (x y : N4 α) : Bool := @Bool.rec (fun _ => Bool) false (@Bool.rec (fun _ => Bool) false (@Bool.rec (fun _ => Bool) false (eq x.a y.a) (eq x.b y.b)) (eq x.c y.c)) (eq x.d y.d)
noncomputable def zipN (eq : α → α → Bool) (f : α → α → α → (α → Bool) → Bool) (s x y : N4 α) (k : N4 α → Bool) : Bool :=
  @Bool.rec (fun _ => N4 α → N4 α → N4 α → (N4 α → Bool) → Bool) (fun s x y k => f s.a x.a y.a fun a => f s.b x.b y.b fun b => f s.c x.c y.c fun c => f s.d x.d y.d fun d => k ⟨a, b, c, d⟩) (fun _ x _ k => k x) (eqN eq x y) s x y k
noncomputable def mrgN (f : α → α → (α → Bool) → Bool) (x y : N4 α) (k : N4 α → Bool) : Bool := f x.a y.a fun a => f x.b y.b fun b => f x.c y.c fun c => f x.d y.d fun d => k ⟨a, b, c, d⟩
end
noncomputable def eq1 : L1 → L1 → Bool := eqN sameOb
noncomputable def eq2 : L2 → L2 → Bool := eqN eq1
noncomputable def eq3 : L3 → L3 → Bool := eqN eq2
noncomputable def eq4 : L4 → L4 → Bool := eqN eq3
noncomputable def eq5 : L5 → L5 → Bool := eqN eq4
noncomputable def eq6 : L6 → L6 → Bool := eqN eq5
noncomputable def eq7 : L7 → L7 → Bool := eqN eq6
noncomputable def zip1 : L1 → L1 → L1 → (L1 → Bool) → Bool := zipN sameOb zip0
noncomputable def zip2 : L2 → L2 → L2 → (L2 → Bool) → Bool := zipN eq1 zip1
noncomputable def zip3 : L3 → L3 → L3 → (L3 → Bool) → Bool := zipN eq2 zip2
noncomputable def zip4 : L4 → L4 → L4 → (L4 → Bool) → Bool := zipN eq3 zip3
noncomputable def zip5 : L5 → L5 → L5 → (L5 → Bool) → Bool := zipN eq4 zip4
noncomputable def zip6 : L6 → L6 → L6 → (L6 → Bool) → Bool := zipN eq5 zip5
noncomputable def zip7 : L7 → L7 → L7 → (L7 → Bool) → Bool := zipN eq6 zip6
noncomputable def zip8 (s a b : L8) (k : L8 → Bool) : Bool :=
  @List.rec (Id × Ob) (fun _ => L8 → L8 → L8 → (L8 → Bool) → Bool) (fun s a b k => @List.rec (Id × Ob) (fun _ => L8 → L8 → L8 → (L8 → Bool) → Bool) (fun s a b k => zipN eq7 zip7 s.t a.t b.t fun t => k ⟨t, []⟩) (fun _ _ _ _ _ _ _ => false) b.x s a b k) (fun _ _ _ _ _ _ _ => false) a.x s a b k
noncomputable def mrgS (S A B : KS) (k : KS → Bool) : Bool :=
  @Bool.rec (fun _ => KS → KS → KS → (KS → Bool) → Bool) (fun _ _ _ _ => false) (fun S A B k => zip8 S.t A.t B.t fun t => k ⟨t, A.nx⟩) (idEq A.nx B.nx) S A B k
noncomputable def mrg0 (a b : V) (k : V → Bool) : Bool := @Bool.rec (fun _ => V → (V → Bool) → Bool) (fun _ k => k .any) (fun a k => k a) (sameV a b) a k
noncomputable def mrg1 : X1 → X1 → (X1 → Bool) → Bool := mrgN mrg0
noncomputable def mrg2 : X2 → X2 → (X2 → Bool) → Bool := mrgN mrg1
noncomputable def mrg3 : X3 → X3 → (X3 → Bool) → Bool := mrgN mrg2
noncomputable def mrg4 : X4 → X4 → (X4 → Bool) → Bool := mrgN mrg3
noncomputable def mrg5 : X5 → X5 → (X5 → Bool) → Bool := mrgN mrg4


section
variable {α : Type} (get : Loc → α → V) (put : Dst → V → α → (α → Bool) → Bool)

end
noncomputable def runIAll {α : Type} (get : Loc → α → V) (xs : List Loc) (t : α) (k : List V → Bool) : Bool :=
  @List.rec Loc (fun _ => α → (List V → Bool) → Bool) (fun _ k => k []) (fun l _ ih t k => ih t fun r => k (get l t :: r)) xs t k
noncomputable def runIFill {α : Type} (get : Loc → α → V) (ps : List Part) (t : α) (z : List V) (k : List V → Bool) : Bool :=
  @List.rec Part (fun _ => α → List V → (List V → Bool) → Bool) (fun _ z k => k z)
    (fun p _ ih t z k => @Part.rec (fun _ => α → List V → (α → List V → (List V → Bool) → Bool) → (List V → Bool) → Bool) (fun o s x t z ih k =>
      @Bool.rec (fun _ => V → Nat → Nat → α → List V → (α → List V → (List V → Bool) → Bool) → (List V → Bool) → Bool) (fun _ _ _ _ _ _ _ => false) (fun v o s t z ih k =>
        @Bool.rec (fun _ => V → Nat → α → List V → (α → List V → (List V → Bool) → Bool) → (List V → Bool) → Bool) (fun _ _ _ _ _ _ => false) (fun v o t z ih k => overK o (V.cells v) z fun z => ih t z k) (isLen (V.cells v) s) v o t z ih k) (okCells (get x t)) (get x t) o s t z ih k) p t z ih k) ps t z k
/-- Do all guards hold? -/
noncomputable def runIGs {α : Type} (get : Loc → α → V) (gs : List (Loc × Bool)) (t : α) (f : Bool) (k : Bool) : Bool :=
  @List.rec (Loc × Bool) (fun _ => α → Bool → Bool → Bool) (fun _ _ k => k)
    (fun g _ ih t f k => @V.rec (fun _ => Bool → α → Bool → Bool → (α → Bool → Bool → Bool) → Bool) (fun _ => PUnit) (fun _ _ _ _ _ => false) (fun b => fun c t f k ih => @Bool.rec (fun _ => α → Bool → Bool → (α → Bool → Bool → Bool) → Bool) (fun _ f _ _ => f) (fun t f k ih => ih t f k) (@Bool.rec (fun _ => Bool) (notB c) c b) t f k ih) (fun _ _ => fun _ _ _ _ _ => false) (fun _ => fun _ _ _ _ _ => false) (fun _ _ _ _ _ => false) (fun _ _ => fun _ _ _ _ _ => false) (fun _ _ => fun _ _ _ _ _ => false) (fun _ _ _ _ _ => false) (fun _ _ _ => fun _ _ _ _ _ => false) (fun _ _ _ _ => fun _ _ _ _ _ => false) (fun _ _ _ _ _ => fun _ _ _ _ _ => false) (fun _ _ _ _ _ => false) (fun _ _ => fun _ _ _ _ _ => false) (fun _ _ => fun _ _ f _ _ => f) (fun _ _ _ _ _ => false) (fun _ => fun _ _ _ _ _ => false) (fun _ => fun _ _ _ _ _ => false) PUnit.unit (fun _ _ _ _ => PUnit.unit) (get g.1 t) g.2 t f k ih) gs t f k
noncomputable def runI {α : Type} (get : Loc → α → V) (put : Dst → V → α → (α → Bool) → Bool) (i : Ins) (call : CallK) (t : α) (S : KS) (Z : List KS) (k : α → KS → List KS → Bool) : Bool :=
  @Ins.rec (fun _ => CallK → α → KS → List KS → (α → KS → List KS → Bool) → Bool)
    (fun _ t S Z k => k t S Z)
    (fun _ _ _ _ _ => false)
    (fun v d _ ih call t S Z k => put d v t fun t => ih call t S Z k)
    (fun f x d _ ih call t S Z k => f (get x t) fun v => put d v t fun t => ih call t S Z k)
    (fun f x y d _ ih call t S Z k => f (get x t) (get y t) fun v => put d v t fun t => ih call t S Z k)
    (fun f x y z d _ ih call t S Z k => f (get x t) (get y t) (get z t) fun v => put d v t fun t => ih call t S Z k)
    (fun f xs d _ ih call t S Z k => runIAll get xs t fun xs => f xs fun v => put d v t fun t => ih call t S Z k)
    (fun f xs ys d _ ih call t S Z k => runIAll get xs t fun xs => runIAll get ys t fun ys => put d (.fn f xs ys) t fun t => ih call t S Z k)
    (fun f x d _ ih call t S Z k => f (get x t) S false fun v => put d v t fun t => ih call t S Z k)
    (fun z d _ ih call t S Z k => alocK z S fun v S => put d v t fun t => ih call t S Z k)
    (fun f x d _ ih call t S Z k => f (get x t) S fun v S => put d v t fun t => ih call t S Z k)
    (fun f x y d _ ih call t S Z k => f (get x t) (get y t) S fun v S => put d v t fun t => ih call t S Z k)
    (fun f x y z d _ ih call t S Z k => f (get x t) (get y t) (get z t) S fun v S => put d v t fun t => ih call t S Z k)
    (fun z ps f d _ ih call t S Z k => runIFill get ps t z fun z => f z S fun v S => put d v t fun t => ih call t S Z k)
    (fun f xs d _ ih call t S Z k => runIAll get xs t fun xs => call f xs S fun v S => put d v t fun t => ih call t S Z k)
    (fun g xs d _ ih call t S Z k => runIAll get xs t fun xs => @V.rec (fun _ => List V → CallK → KS → (V → KS → Bool) → Bool) (fun _ => PUnit) (fun _ _ _ _ => false) (fun _ => fun _ _ _ _ => false) (fun _ _ => fun _ _ _ _ => false) (fun _ => fun _ _ _ _ => false) (fun _ _ _ _ => false) (fun _ _ => fun _ _ _ _ => false) (fun _ _ => fun _ _ _ _ => false) (fun _ _ _ _ => false) (fun _ _ _ => fun _ _ _ _ => false) (fun _ _ _ _ => fun _ _ _ _ => false) (fun f a c _ _ => fun xs call S k => call f (a ++ xs ++ c) S k) (fun _ _ _ _ => false) (fun _ _ => fun _ _ _ _ => false) (fun _ _ => fun _ _ _ _ => false) (fun _ _ _ _ => false) (fun _ => fun _ _ _ _ => false) (fun _ => fun _ _ _ _ => false) PUnit.unit (fun _ _ _ _ => PUnit.unit) (get g t) xs call S fun v S => put d v t fun t => ih call t S Z k)
    (fun l b _ _ ihn ihm call t S Z k => @V.rec (fun _ => Bool → (CallK → α → KS → List KS → (α → KS → List KS → Bool) → Bool) → (CallK → α → KS → List KS → (α → KS → List KS → Bool) → Bool) → CallK → α → KS → List KS → (α → KS → List KS → Bool) → Bool) (fun _ => PUnit) (fun _ _ _ _ _ _ _ _ => false) (fun c => fun b n m call t S Z k => @Bool.rec (fun _ => (CallK → α → KS → List KS → (α → KS → List KS → Bool) → Bool) → (CallK → α → KS → List KS → (α → KS → List KS → Bool) → Bool) → CallK → α → KS → List KS → (α → KS → List KS → Bool) → Bool) (fun _ m call t S Z k => m call t S Z k) (fun n _ call t S Z k => n call t S Z k) (@Bool.rec (fun _ => Bool) (notB b) b c) n m call t S Z k) (fun _ _ => fun _ _ _ _ _ _ _ _ => false) (fun _ => fun _ _ _ _ _ _ _ _ => false) (fun _ _ _ _ _ _ _ _ => false) (fun _ _ => fun _ _ _ _ _ _ _ _ => false) (fun _ _ => fun _ _ _ _ _ _ _ _ => false) (fun _ _ _ _ _ _ _ _ => false) (fun _ _ _ => fun _ _ _ _ _ _ _ _ => false) (fun _ _ _ _ => fun _ _ _ _ _ _ _ _ => false) (fun _ _ _ _ _ => fun _ _ _ _ _ _ _ _ => false) (fun _ _ _ _ _ _ _ _ => false) (fun _ _ => fun _ _ _ _ _ _ _ _ => false) (fun _ _ => fun _ _ m call t S Z k => m call t S Z k) (fun _ _ _ _ _ _ _ _ => false) (fun _ => fun _ _ _ _ _ _ _ _ => false) (fun _ => fun _ _ _ _ _ _ _ _ => false) PUnit.unit (fun _ _ _ _ => PUnit.unit) (get l t) b ihn ihm call t S Z k)
    (fun _ ih call t S Z k => ih call t S (S :: Z) k)
    (fun gs _ ih call t S Z k => @Bool.rec (fun _ => (Unit → Bool) → Bool) (fun _ => false) (fun k => k ()) (runIGs get gs t true false) fun _ => ih call t S Z k)
    (fun gs f x i _ ih call t S Z k => @Bool.rec (fun _ => (Unit → Bool) → Bool) (fun _ => false) (fun k => k ()) (runIGs get gs t true (hdS Z false (fun a b => chkK f (get x t) a b) i)) fun _ => ih call t S Z k)
    i call t S Z k

noncomputable def runC {α : Type} (get : Loc → α → V) (put : Dst → V → α → (α → Bool) → Bool) (mrg : α → α → (α → Bool) → Bool) (c : C) (call : CallK) (n : Nat) (t : α) (S : KS) (kn : α → KS → Bool) (ke : Nat → α → KS → Bool) (kr : α → KS → Bool) : Bool :=
  @C.rec (fun _ => CallK → Nat → α → KS → (α → KS → Bool) → (Nat → α → KS → Bool) → (α → KS → Bool) → Bool)
    (fun _ _ t S kn _ _ => kn t S)
    (fun _ _ _ _ _ _ _ => false)
    (fun i call _ t S kn _ _ => runI get put i call t S [] fun t S _ => kn t S)
    (fun _ _ iha ihb call n t S kn ke kr => iha call n t S (fun t S => ihb call n t S kn ke kr) ke kr)
    (fun i j _ ihb call n t S kn _ _ => runI get put i call t S [] fun t1 S1 _ => runI get put j call t S [] fun t2 S2 _ => ihb call n t1 S1 (fun ta A => ihb call n t2 S2 (fun tb B => mrg ta tb fun t => mrgS S A B fun S => kn t S) (fun _ _ _ => false) (fun _ _ => false)) (fun _ _ _ => false) (fun _ _ => false))
    (fun l _ _ iha ihb call n t S kn ke kr => @V.rec (fun _ => (CallK → Nat → α → KS → (α → KS → Bool) → (Nat → α → KS → Bool) → (α → KS → Bool) → Bool) → (CallK → Nat → α → KS → (α → KS → Bool) → (Nat → α → KS → Bool) → (α → KS → Bool) → Bool) → CallK → Nat → α → KS → (α → KS → Bool) → (Nat → α → KS → Bool) → (α → KS → Bool) → Bool) (fun _ => PUnit) (fun _ _ _ _ _ _ _ _ _ => false) (fun b => fun x y call n t S kn ke kr => @Bool.rec (fun _ => (CallK → Nat → α → KS → (α → KS → Bool) → (Nat → α → KS → Bool) → (α → KS → Bool) → Bool) → (CallK → Nat → α → KS → (α → KS → Bool) → (Nat → α → KS → Bool) → (α → KS → Bool) → Bool) → CallK → Nat → α → KS → (α → KS → Bool) → (Nat → α → KS → Bool) → (α → KS → Bool) → Bool) (fun _ y call n t S kn ke kr => y call n t S kn ke kr) (fun x _ call n t S kn ke kr => x call n t S kn ke kr) b x y call n t S kn ke kr) (fun _ _ => fun _ _ _ _ _ _ _ _ _ => false) (fun _ => fun _ _ _ _ _ _ _ _ _ => false) (fun _ _ _ _ _ _ _ _ _ => false) (fun _ _ => fun _ _ _ _ _ _ _ _ _ => false) (fun _ _ => fun _ _ _ _ _ _ _ _ _ => false) (fun _ _ _ _ _ _ _ _ _ => false) (fun _ _ _ => fun _ _ _ _ _ _ _ _ _ => false) (fun _ _ _ _ => fun _ _ _ _ _ _ _ _ _ => false) (fun _ _ _ _ _ => fun _ _ _ _ _ _ _ _ _ => false) (fun _ _ _ _ _ _ _ _ _ => false) (fun _ _ => fun _ _ _ _ _ _ _ _ _ => false) (fun _ _ => fun _ _ _ _ _ _ _ _ _ => false) (fun _ _ _ _ _ _ _ _ _ => false) (fun _ => fun _ _ _ _ _ _ _ _ _ => false) (fun _ => fun _ _ _ _ _ _ _ _ _ => false) PUnit.unit (fun _ _ _ _ => PUnit.unit) (get l t) iha ihb call n t S kn ke kr)
    (fun id _ ih call n t S kn ke kr => ih call n t S kn (fun i t S => @Bool.rec (fun _ => α → KS → (α → KS → Bool) → (Nat → α → KS → Bool) → Nat → Bool) (fun t S _ ke i => ke i t S) (fun t S kn _ _ => kn t S) (Nat.beq i id) t S kn ke i) kr)
    (fun _ ih call n t S _ ke kr => @Nat.rec (fun _ => (CallK → Nat → α → KS → (α → KS → Bool) → (Nat → α → KS → Bool) → (α → KS → Bool) → Bool) → CallK → Nat → α → KS → (Nat → α → KS → Bool) → (α → KS → Bool) → Bool) (fun _ _ _ _ _ _ _ => false) (fun _ again b call n t S ke kr => b call n t S (fun t S => again b call n t S ke kr) ke kr) n ih call n t S ke kr)
    (fun id _ _ t S _ ke _ => ke id t S)
    (fun _ _ t S _ _ kr => kr t S)
    (fun bk g p q _ _ iha ihb call n t S kn ke kr => rfK bk (get g t) S (fun S => kn t S) (fun i v S ih => put p i t fun t1 => put q v t1 fun t2 => iha call n t2 S (fun t3 S => ihb call n t3 S (fun _ S => ih S) (fun id _ S => ke id t S) (fun _ S => kr t S)) (fun _ _ _ => false) (fun _ _ => false)))
    c call n t S kn ke kr
/-- The results. -/
noncomputable def runCRes {α : Type} (get : Loc → α → V) (rs : List Rs) (t : α) (S : KS) (k : List V → Bool) : Bool :=
  @List.rec Rs (fun _ => α → KS → (List V → Bool) → Bool) (fun _ _ k => k [])
    (fun r _ ih t S k => @Rs.rec (fun _ => α → KS → (V → Bool) → Bool) (fun l t _ k => k (get l t)) (fun f x t S k => f (get x t) S false k) r t S fun v => ih t S fun r => k (v :: r)) rs t S k
noncomputable def runCInit {α : Type} (put : Dst → V → α → (α → Bool) → Bool) (ps : List Dst) (args : List V) (t : α) (k : α → Bool) : Bool :=
  @List.rec V (fun _ => List Dst → α → (α → Bool) → Bool) (fun _ t k => k t)
    (fun v _ ih ps t k => @List.rec Dst (fun _ => V → (List Dst → α → (α → Bool) → Bool) → α → (α → Bool) → Bool) (fun _ _ _ _ => false) (fun d ds _ v ih t k => put d v t fun t => ih ds t k) ps v ih t k) args ps t k

noncomputable def runI2All (xs : List Loc) (t : X2) (k : List V → Bool) : Bool :=
  @List.rec Loc (fun _ => X2 → (List V → Bool) → Bool) (fun _ k => k []) (fun l _ ih t k => ih t fun r => k (get2 l t :: r)) xs t k
noncomputable def runI2Fill (ps : List Part) (t : X2) (z : List V) (k : List V → Bool) : Bool :=
  @List.rec Part (fun _ => X2 → List V → (List V → Bool) → Bool) (fun _ z k => k z)
    (fun p _ ih t z k => @Part.rec (fun _ => X2 → List V → (X2 → List V → (List V → Bool) → Bool) → (List V → Bool) → Bool) (fun o s x t z ih k =>
      @Bool.rec (fun _ => V → Nat → Nat → X2 → List V → (X2 → List V → (List V → Bool) → Bool) → (List V → Bool) → Bool) (fun _ _ _ _ _ _ _ => false) (fun v o s t z ih k =>
        @Bool.rec (fun _ => V → Nat → X2 → List V → (X2 → List V → (List V → Bool) → Bool) → (List V → Bool) → Bool) (fun _ _ _ _ _ _ => false) (fun v o t z ih k => overK o (V.cells v) z fun z => ih t z k) (isLen (V.cells v) s) v o t z ih k) (okCells (get2 x t)) (get2 x t) o s t z ih k) p t z ih k) ps t z k
/-- Do all guards hold? -/
noncomputable def runI2Gs (gs : List (Loc × Bool)) (t : X2) (f : Bool) (k : Bool) : Bool :=
  @List.rec (Loc × Bool) (fun _ => X2 → Bool → Bool → Bool) (fun _ _ k => k)
    (fun g _ ih t f k => @V.rec (fun _ => Bool → X2 → Bool → Bool → (X2 → Bool → Bool → Bool) → Bool) (fun _ => PUnit) (fun _ _ _ _ _ => false) (fun b => fun c t f k ih => @Bool.rec (fun _ => X2 → Bool → Bool → (X2 → Bool → Bool → Bool) → Bool) (fun _ f _ _ => f) (fun t f k ih => ih t f k) (@Bool.rec (fun _ => Bool) (notB c) c b) t f k ih) (fun _ _ => fun _ _ _ _ _ => false) (fun _ => fun _ _ _ _ _ => false) (fun _ _ _ _ _ => false) (fun _ _ => fun _ _ _ _ _ => false) (fun _ _ => fun _ _ _ _ _ => false) (fun _ _ _ _ _ => false) (fun _ _ _ => fun _ _ _ _ _ => false) (fun _ _ _ _ => fun _ _ _ _ _ => false) (fun _ _ _ _ _ => fun _ _ _ _ _ => false) (fun _ _ _ _ _ => false) (fun _ _ => fun _ _ _ _ _ => false) (fun _ _ => fun _ _ f _ _ => f) (fun _ _ _ _ _ => false) (fun _ => fun _ _ _ _ _ => false) (fun _ => fun _ _ _ _ _ => false) PUnit.unit (fun _ _ _ _ => PUnit.unit) (get2 g.1 t) g.2 t f k ih) gs t f k
noncomputable def runI2 (i : Ins) (call : CallK) (t : X2) (S : KS) (Z : List KS) (k : X2 → KS → List KS → Bool) : Bool :=
  @Ins.rec (fun _ => CallK → X2 → KS → List KS → (X2 → KS → List KS → Bool) → Bool)
    (fun _ t S Z k => k t S Z)
    (fun _ _ _ _ _ => false)
    (fun v d _ ih call t S Z k => put2 d v t fun t => ih call t S Z k)
    (fun f x d _ ih call t S Z k => f (get2 x t) fun v => put2 d v t fun t => ih call t S Z k)
    (fun f x y d _ ih call t S Z k => f (get2 x t) (get2 y t) fun v => put2 d v t fun t => ih call t S Z k)
    (fun f x y z d _ ih call t S Z k => f (get2 x t) (get2 y t) (get2 z t) fun v => put2 d v t fun t => ih call t S Z k)
    (fun f xs d _ ih call t S Z k => runI2All  xs t fun xs => f xs fun v => put2 d v t fun t => ih call t S Z k)
    (fun f xs ys d _ ih call t S Z k => runI2All  xs t fun xs => runI2All  ys t fun ys => put2 d (.fn f xs ys) t fun t => ih call t S Z k)
    (fun f x d _ ih call t S Z k => f (get2 x t) S false fun v => put2 d v t fun t => ih call t S Z k)
    (fun z d _ ih call t S Z k => alocK z S fun v S => put2 d v t fun t => ih call t S Z k)
    (fun f x d _ ih call t S Z k => f (get2 x t) S fun v S => put2 d v t fun t => ih call t S Z k)
    (fun f x y d _ ih call t S Z k => f (get2 x t) (get2 y t) S fun v S => put2 d v t fun t => ih call t S Z k)
    (fun f x y z d _ ih call t S Z k => f (get2 x t) (get2 y t) (get2 z t) S fun v S => put2 d v t fun t => ih call t S Z k)
    (fun z ps f d _ ih call t S Z k => runI2Fill  ps t z fun z => f z S fun v S => put2 d v t fun t => ih call t S Z k)
    (fun f xs d _ ih call t S Z k => runI2All  xs t fun xs => call f xs S fun v S => put2 d v t fun t => ih call t S Z k)
    (fun g xs d _ ih call t S Z k => runI2All  xs t fun xs => @V.rec (fun _ => List V → CallK → KS → (V → KS → Bool) → Bool) (fun _ => PUnit) (fun _ _ _ _ => false) (fun _ => fun _ _ _ _ => false) (fun _ _ => fun _ _ _ _ => false) (fun _ => fun _ _ _ _ => false) (fun _ _ _ _ => false) (fun _ _ => fun _ _ _ _ => false) (fun _ _ => fun _ _ _ _ => false) (fun _ _ _ _ => false) (fun _ _ _ => fun _ _ _ _ => false) (fun _ _ _ _ => fun _ _ _ _ => false) (fun f a c _ _ => fun xs call S k => call f (a ++ xs ++ c) S k) (fun _ _ _ _ => false) (fun _ _ => fun _ _ _ _ => false) (fun _ _ => fun _ _ _ _ => false) (fun _ _ _ _ => false) (fun _ => fun _ _ _ _ => false) (fun _ => fun _ _ _ _ => false) PUnit.unit (fun _ _ _ _ => PUnit.unit) (get2 g t) xs call S fun v S => put2 d v t fun t => ih call t S Z k)
    (fun l b _ _ ihn ihm call t S Z k => @V.rec (fun _ => Bool → (CallK → X2 → KS → List KS → (X2 → KS → List KS → Bool) → Bool) → (CallK → X2 → KS → List KS → (X2 → KS → List KS → Bool) → Bool) → CallK → X2 → KS → List KS → (X2 → KS → List KS → Bool) → Bool) (fun _ => PUnit) (fun _ _ _ _ _ _ _ _ => false) (fun c => fun b n m call t S Z k => @Bool.rec (fun _ => (CallK → X2 → KS → List KS → (X2 → KS → List KS → Bool) → Bool) → (CallK → X2 → KS → List KS → (X2 → KS → List KS → Bool) → Bool) → CallK → X2 → KS → List KS → (X2 → KS → List KS → Bool) → Bool) (fun _ m call t S Z k => m call t S Z k) (fun n _ call t S Z k => n call t S Z k) (@Bool.rec (fun _ => Bool) (notB b) b c) n m call t S Z k) (fun _ _ => fun _ _ _ _ _ _ _ _ => false) (fun _ => fun _ _ _ _ _ _ _ _ => false) (fun _ _ _ _ _ _ _ _ => false) (fun _ _ => fun _ _ _ _ _ _ _ _ => false) (fun _ _ => fun _ _ _ _ _ _ _ _ => false) (fun _ _ _ _ _ _ _ _ => false) (fun _ _ _ => fun _ _ _ _ _ _ _ _ => false) (fun _ _ _ _ => fun _ _ _ _ _ _ _ _ => false) (fun _ _ _ _ _ => fun _ _ _ _ _ _ _ _ => false) (fun _ _ _ _ _ _ _ _ => false) (fun _ _ => fun _ _ _ _ _ _ _ _ => false) (fun _ _ => fun _ _ m call t S Z k => m call t S Z k) (fun _ _ _ _ _ _ _ _ => false) (fun _ => fun _ _ _ _ _ _ _ _ => false) (fun _ => fun _ _ _ _ _ _ _ _ => false) PUnit.unit (fun _ _ _ _ => PUnit.unit) (get2 l t) b ihn ihm call t S Z k)
    (fun _ ih call t S Z k => ih call t S (S :: Z) k)
    (fun gs _ ih call t S Z k => @Bool.rec (fun _ => (Unit → Bool) → Bool) (fun _ => false) (fun k => k ()) (runI2Gs  gs t true false) fun _ => ih call t S Z k)
    (fun gs f x i _ ih call t S Z k => @Bool.rec (fun _ => (Unit → Bool) → Bool) (fun _ => false) (fun k => k ()) (runI2Gs  gs t true (hdS Z false (fun a b => chkK f (get2 x t) a b) i)) fun _ => ih call t S Z k)
    i call t S Z k

noncomputable def runC2 (c : C) (call : CallK) (n : Nat) (t : X2) (S : KS) (kn : X2 → KS → Bool) (ke : Nat → X2 → KS → Bool) (kr : X2 → KS → Bool) : Bool :=
  @C.rec (fun _ => CallK → Nat → X2 → KS → (X2 → KS → Bool) → (Nat → X2 → KS → Bool) → (X2 → KS → Bool) → Bool)
    (fun _ _ t S kn _ _ => kn t S)
    (fun _ _ _ _ _ _ _ => false)
    (fun i call _ t S kn _ _ => runI2  i call t S [] fun t S _ => kn t S)
    (fun _ _ iha ihb call n t S kn ke kr => iha call n t S (fun t S => ihb call n t S kn ke kr) ke kr)
    (fun i j _ ihb call n t S kn _ _ => runI2  i call t S [] fun t1 S1 _ => runI2  j call t S [] fun t2 S2 _ => ihb call n t1 S1 (fun ta A => ihb call n t2 S2 (fun tb B => mrg2 ta tb fun t => mrgS S A B fun S => kn t S) (fun _ _ _ => false) (fun _ _ => false)) (fun _ _ _ => false) (fun _ _ => false))
    (fun l _ _ iha ihb call n t S kn ke kr => @V.rec (fun _ => (CallK → Nat → X2 → KS → (X2 → KS → Bool) → (Nat → X2 → KS → Bool) → (X2 → KS → Bool) → Bool) → (CallK → Nat → X2 → KS → (X2 → KS → Bool) → (Nat → X2 → KS → Bool) → (X2 → KS → Bool) → Bool) → CallK → Nat → X2 → KS → (X2 → KS → Bool) → (Nat → X2 → KS → Bool) → (X2 → KS → Bool) → Bool) (fun _ => PUnit) (fun _ _ _ _ _ _ _ _ _ => false) (fun b => fun x y call n t S kn ke kr => @Bool.rec (fun _ => (CallK → Nat → X2 → KS → (X2 → KS → Bool) → (Nat → X2 → KS → Bool) → (X2 → KS → Bool) → Bool) → (CallK → Nat → X2 → KS → (X2 → KS → Bool) → (Nat → X2 → KS → Bool) → (X2 → KS → Bool) → Bool) → CallK → Nat → X2 → KS → (X2 → KS → Bool) → (Nat → X2 → KS → Bool) → (X2 → KS → Bool) → Bool) (fun _ y call n t S kn ke kr => y call n t S kn ke kr) (fun x _ call n t S kn ke kr => x call n t S kn ke kr) b x y call n t S kn ke kr) (fun _ _ => fun _ _ _ _ _ _ _ _ _ => false) (fun _ => fun _ _ _ _ _ _ _ _ _ => false) (fun _ _ _ _ _ _ _ _ _ => false) (fun _ _ => fun _ _ _ _ _ _ _ _ _ => false) (fun _ _ => fun _ _ _ _ _ _ _ _ _ => false) (fun _ _ _ _ _ _ _ _ _ => false) (fun _ _ _ => fun _ _ _ _ _ _ _ _ _ => false) (fun _ _ _ _ => fun _ _ _ _ _ _ _ _ _ => false) (fun _ _ _ _ _ => fun _ _ _ _ _ _ _ _ _ => false) (fun _ _ _ _ _ _ _ _ _ => false) (fun _ _ => fun _ _ _ _ _ _ _ _ _ => false) (fun _ _ => fun _ _ _ _ _ _ _ _ _ => false) (fun _ _ _ _ _ _ _ _ _ => false) (fun _ => fun _ _ _ _ _ _ _ _ _ => false) (fun _ => fun _ _ _ _ _ _ _ _ _ => false) PUnit.unit (fun _ _ _ _ => PUnit.unit) (get2 l t) iha ihb call n t S kn ke kr)
    (fun id _ ih call n t S kn ke kr => ih call n t S kn (fun i t S => @Bool.rec (fun _ => X2 → KS → (X2 → KS → Bool) → (Nat → X2 → KS → Bool) → Nat → Bool) (fun t S _ ke i => ke i t S) (fun t S kn _ _ => kn t S) (Nat.beq i id) t S kn ke i) kr)
    (fun _ ih call n t S _ ke kr => @Nat.rec (fun _ => (CallK → Nat → X2 → KS → (X2 → KS → Bool) → (Nat → X2 → KS → Bool) → (X2 → KS → Bool) → Bool) → CallK → Nat → X2 → KS → (Nat → X2 → KS → Bool) → (X2 → KS → Bool) → Bool) (fun _ _ _ _ _ _ _ => false) (fun _ again b call n t S ke kr => b call n t S (fun t S => again b call n t S ke kr) ke kr) n ih call n t S ke kr)
    (fun id _ _ t S _ ke _ => ke id t S)
    (fun _ _ t S _ _ kr => kr t S)
    (fun bk g p q _ _ iha ihb call n t S kn ke kr => rfK bk (get2 g t) S (fun S => kn t S) (fun i v S ih => put2 p i t fun t1 => put2 q v t1 fun t2 => iha call n t2 S (fun t3 S => ihb call n t3 S (fun _ S => ih S) (fun id _ S => ke id t S) (fun _ S => kr t S)) (fun _ _ _ => false) (fun _ _ => false)))
    c call n t S kn ke kr
/-- The results. -/
noncomputable def runC2Res (rs : List Rs) (t : X2) (S : KS) (k : List V → Bool) : Bool :=
  @List.rec Rs (fun _ => X2 → KS → (List V → Bool) → Bool) (fun _ _ k => k [])
    (fun r _ ih t S k => @Rs.rec (fun _ => X2 → KS → (V → Bool) → Bool) (fun l t _ k => k (get2 l t)) (fun f x t S k => f (get2 x t) S false k) r t S fun v => ih t S fun r => k (v :: r)) rs t S k
noncomputable def runC2Init (ps : List Dst) (args : List V) (t : X2) (k : X2 → Bool) : Bool :=
  @List.rec V (fun _ => List Dst → X2 → (X2 → Bool) → Bool) (fun _ t k => k t)
    (fun v _ ih ps t k => @List.rec Dst (fun _ => V → (List Dst → X2 → (X2 → Bool) → Bool) → X2 → (X2 → Bool) → Bool) (fun _ _ _ _ => false) (fun d ds _ v ih t k => put2 d v t fun t => ih ds t k) ps v ih t k) args ps t k

noncomputable def runI3All (xs : List Loc) (t : X3) (k : List V → Bool) : Bool :=
  @List.rec Loc (fun _ => X3 → (List V → Bool) → Bool) (fun _ k => k []) (fun l _ ih t k => ih t fun r => k (get3 l t :: r)) xs t k
noncomputable def runI3Fill (ps : List Part) (t : X3) (z : List V) (k : List V → Bool) : Bool :=
  @List.rec Part (fun _ => X3 → List V → (List V → Bool) → Bool) (fun _ z k => k z)
    (fun p _ ih t z k => @Part.rec (fun _ => X3 → List V → (X3 → List V → (List V → Bool) → Bool) → (List V → Bool) → Bool) (fun o s x t z ih k =>
      @Bool.rec (fun _ => V → Nat → Nat → X3 → List V → (X3 → List V → (List V → Bool) → Bool) → (List V → Bool) → Bool) (fun _ _ _ _ _ _ _ => false) (fun v o s t z ih k =>
        @Bool.rec (fun _ => V → Nat → X3 → List V → (X3 → List V → (List V → Bool) → Bool) → (List V → Bool) → Bool) (fun _ _ _ _ _ _ => false) (fun v o t z ih k => overK o (V.cells v) z fun z => ih t z k) (isLen (V.cells v) s) v o t z ih k) (okCells (get3 x t)) (get3 x t) o s t z ih k) p t z ih k) ps t z k
/-- Do all guards hold? -/
noncomputable def runI3Gs (gs : List (Loc × Bool)) (t : X3) (f : Bool) (k : Bool) : Bool :=
  @List.rec (Loc × Bool) (fun _ => X3 → Bool → Bool → Bool) (fun _ _ k => k)
    (fun g _ ih t f k => @V.rec (fun _ => Bool → X3 → Bool → Bool → (X3 → Bool → Bool → Bool) → Bool) (fun _ => PUnit) (fun _ _ _ _ _ => false) (fun b => fun c t f k ih => @Bool.rec (fun _ => X3 → Bool → Bool → (X3 → Bool → Bool → Bool) → Bool) (fun _ f _ _ => f) (fun t f k ih => ih t f k) (@Bool.rec (fun _ => Bool) (notB c) c b) t f k ih) (fun _ _ => fun _ _ _ _ _ => false) (fun _ => fun _ _ _ _ _ => false) (fun _ _ _ _ _ => false) (fun _ _ => fun _ _ _ _ _ => false) (fun _ _ => fun _ _ _ _ _ => false) (fun _ _ _ _ _ => false) (fun _ _ _ => fun _ _ _ _ _ => false) (fun _ _ _ _ => fun _ _ _ _ _ => false) (fun _ _ _ _ _ => fun _ _ _ _ _ => false) (fun _ _ _ _ _ => false) (fun _ _ => fun _ _ _ _ _ => false) (fun _ _ => fun _ _ f _ _ => f) (fun _ _ _ _ _ => false) (fun _ => fun _ _ _ _ _ => false) (fun _ => fun _ _ _ _ _ => false) PUnit.unit (fun _ _ _ _ => PUnit.unit) (get3 g.1 t) g.2 t f k ih) gs t f k
noncomputable def runI3 (i : Ins) (call : CallK) (t : X3) (S : KS) (Z : List KS) (k : X3 → KS → List KS → Bool) : Bool :=
  @Ins.rec (fun _ => CallK → X3 → KS → List KS → (X3 → KS → List KS → Bool) → Bool)
    (fun _ t S Z k => k t S Z)
    (fun _ _ _ _ _ => false)
    (fun v d _ ih call t S Z k => put3 d v t fun t => ih call t S Z k)
    (fun f x d _ ih call t S Z k => f (get3 x t) fun v => put3 d v t fun t => ih call t S Z k)
    (fun f x y d _ ih call t S Z k => f (get3 x t) (get3 y t) fun v => put3 d v t fun t => ih call t S Z k)
    (fun f x y z d _ ih call t S Z k => f (get3 x t) (get3 y t) (get3 z t) fun v => put3 d v t fun t => ih call t S Z k)
    (fun f xs d _ ih call t S Z k => runI3All  xs t fun xs => f xs fun v => put3 d v t fun t => ih call t S Z k)
    (fun f xs ys d _ ih call t S Z k => runI3All  xs t fun xs => runI3All  ys t fun ys => put3 d (.fn f xs ys) t fun t => ih call t S Z k)
    (fun f x d _ ih call t S Z k => f (get3 x t) S false fun v => put3 d v t fun t => ih call t S Z k)
    (fun z d _ ih call t S Z k => alocK z S fun v S => put3 d v t fun t => ih call t S Z k)
    (fun f x d _ ih call t S Z k => f (get3 x t) S fun v S => put3 d v t fun t => ih call t S Z k)
    (fun f x y d _ ih call t S Z k => f (get3 x t) (get3 y t) S fun v S => put3 d v t fun t => ih call t S Z k)
    (fun f x y z d _ ih call t S Z k => f (get3 x t) (get3 y t) (get3 z t) S fun v S => put3 d v t fun t => ih call t S Z k)
    (fun z ps f d _ ih call t S Z k => runI3Fill  ps t z fun z => f z S fun v S => put3 d v t fun t => ih call t S Z k)
    (fun f xs d _ ih call t S Z k => runI3All  xs t fun xs => call f xs S fun v S => put3 d v t fun t => ih call t S Z k)
    (fun g xs d _ ih call t S Z k => runI3All  xs t fun xs => @V.rec (fun _ => List V → CallK → KS → (V → KS → Bool) → Bool) (fun _ => PUnit) (fun _ _ _ _ => false) (fun _ => fun _ _ _ _ => false) (fun _ _ => fun _ _ _ _ => false) (fun _ => fun _ _ _ _ => false) (fun _ _ _ _ => false) (fun _ _ => fun _ _ _ _ => false) (fun _ _ => fun _ _ _ _ => false) (fun _ _ _ _ => false) (fun _ _ _ => fun _ _ _ _ => false) (fun _ _ _ _ => fun _ _ _ _ => false) (fun f a c _ _ => fun xs call S k => call f (a ++ xs ++ c) S k) (fun _ _ _ _ => false) (fun _ _ => fun _ _ _ _ => false) (fun _ _ => fun _ _ _ _ => false) (fun _ _ _ _ => false) (fun _ => fun _ _ _ _ => false) (fun _ => fun _ _ _ _ => false) PUnit.unit (fun _ _ _ _ => PUnit.unit) (get3 g t) xs call S fun v S => put3 d v t fun t => ih call t S Z k)
    (fun l b _ _ ihn ihm call t S Z k => @V.rec (fun _ => Bool → (CallK → X3 → KS → List KS → (X3 → KS → List KS → Bool) → Bool) → (CallK → X3 → KS → List KS → (X3 → KS → List KS → Bool) → Bool) → CallK → X3 → KS → List KS → (X3 → KS → List KS → Bool) → Bool) (fun _ => PUnit) (fun _ _ _ _ _ _ _ _ => false) (fun c => fun b n m call t S Z k => @Bool.rec (fun _ => (CallK → X3 → KS → List KS → (X3 → KS → List KS → Bool) → Bool) → (CallK → X3 → KS → List KS → (X3 → KS → List KS → Bool) → Bool) → CallK → X3 → KS → List KS → (X3 → KS → List KS → Bool) → Bool) (fun _ m call t S Z k => m call t S Z k) (fun n _ call t S Z k => n call t S Z k) (@Bool.rec (fun _ => Bool) (notB b) b c) n m call t S Z k) (fun _ _ => fun _ _ _ _ _ _ _ _ => false) (fun _ => fun _ _ _ _ _ _ _ _ => false) (fun _ _ _ _ _ _ _ _ => false) (fun _ _ => fun _ _ _ _ _ _ _ _ => false) (fun _ _ => fun _ _ _ _ _ _ _ _ => false) (fun _ _ _ _ _ _ _ _ => false) (fun _ _ _ => fun _ _ _ _ _ _ _ _ => false) (fun _ _ _ _ => fun _ _ _ _ _ _ _ _ => false) (fun _ _ _ _ _ => fun _ _ _ _ _ _ _ _ => false) (fun _ _ _ _ _ _ _ _ => false) (fun _ _ => fun _ _ _ _ _ _ _ _ => false) (fun _ _ => fun _ _ m call t S Z k => m call t S Z k) (fun _ _ _ _ _ _ _ _ => false) (fun _ => fun _ _ _ _ _ _ _ _ => false) (fun _ => fun _ _ _ _ _ _ _ _ => false) PUnit.unit (fun _ _ _ _ => PUnit.unit) (get3 l t) b ihn ihm call t S Z k)
    (fun _ ih call t S Z k => ih call t S (S :: Z) k)
    (fun gs _ ih call t S Z k => @Bool.rec (fun _ => (Unit → Bool) → Bool) (fun _ => false) (fun k => k ()) (runI3Gs  gs t true false) fun _ => ih call t S Z k)
    (fun gs f x i _ ih call t S Z k => @Bool.rec (fun _ => (Unit → Bool) → Bool) (fun _ => false) (fun k => k ()) (runI3Gs  gs t true (hdS Z false (fun a b => chkK f (get3 x t) a b) i)) fun _ => ih call t S Z k)
    i call t S Z k

noncomputable def runC3 (c : C) (call : CallK) (n : Nat) (t : X3) (S : KS) (kn : X3 → KS → Bool) (ke : Nat → X3 → KS → Bool) (kr : X3 → KS → Bool) : Bool :=
  @C.rec (fun _ => CallK → Nat → X3 → KS → (X3 → KS → Bool) → (Nat → X3 → KS → Bool) → (X3 → KS → Bool) → Bool)
    (fun _ _ t S kn _ _ => kn t S)
    (fun _ _ _ _ _ _ _ => false)
    (fun i call _ t S kn _ _ => runI3  i call t S [] fun t S _ => kn t S)
    (fun _ _ iha ihb call n t S kn ke kr => iha call n t S (fun t S => ihb call n t S kn ke kr) ke kr)
    (fun i j _ ihb call n t S kn _ _ => runI3  i call t S [] fun t1 S1 _ => runI3  j call t S [] fun t2 S2 _ => ihb call n t1 S1 (fun ta A => ihb call n t2 S2 (fun tb B => mrg3 ta tb fun t => mrgS S A B fun S => kn t S) (fun _ _ _ => false) (fun _ _ => false)) (fun _ _ _ => false) (fun _ _ => false))
    (fun l _ _ iha ihb call n t S kn ke kr => @V.rec (fun _ => (CallK → Nat → X3 → KS → (X3 → KS → Bool) → (Nat → X3 → KS → Bool) → (X3 → KS → Bool) → Bool) → (CallK → Nat → X3 → KS → (X3 → KS → Bool) → (Nat → X3 → KS → Bool) → (X3 → KS → Bool) → Bool) → CallK → Nat → X3 → KS → (X3 → KS → Bool) → (Nat → X3 → KS → Bool) → (X3 → KS → Bool) → Bool) (fun _ => PUnit) (fun _ _ _ _ _ _ _ _ _ => false) (fun b => fun x y call n t S kn ke kr => @Bool.rec (fun _ => (CallK → Nat → X3 → KS → (X3 → KS → Bool) → (Nat → X3 → KS → Bool) → (X3 → KS → Bool) → Bool) → (CallK → Nat → X3 → KS → (X3 → KS → Bool) → (Nat → X3 → KS → Bool) → (X3 → KS → Bool) → Bool) → CallK → Nat → X3 → KS → (X3 → KS → Bool) → (Nat → X3 → KS → Bool) → (X3 → KS → Bool) → Bool) (fun _ y call n t S kn ke kr => y call n t S kn ke kr) (fun x _ call n t S kn ke kr => x call n t S kn ke kr) b x y call n t S kn ke kr) (fun _ _ => fun _ _ _ _ _ _ _ _ _ => false) (fun _ => fun _ _ _ _ _ _ _ _ _ => false) (fun _ _ _ _ _ _ _ _ _ => false) (fun _ _ => fun _ _ _ _ _ _ _ _ _ => false) (fun _ _ => fun _ _ _ _ _ _ _ _ _ => false) (fun _ _ _ _ _ _ _ _ _ => false) (fun _ _ _ => fun _ _ _ _ _ _ _ _ _ => false) (fun _ _ _ _ => fun _ _ _ _ _ _ _ _ _ => false) (fun _ _ _ _ _ => fun _ _ _ _ _ _ _ _ _ => false) (fun _ _ _ _ _ _ _ _ _ => false) (fun _ _ => fun _ _ _ _ _ _ _ _ _ => false) (fun _ _ => fun _ _ _ _ _ _ _ _ _ => false) (fun _ _ _ _ _ _ _ _ _ => false) (fun _ => fun _ _ _ _ _ _ _ _ _ => false) (fun _ => fun _ _ _ _ _ _ _ _ _ => false) PUnit.unit (fun _ _ _ _ => PUnit.unit) (get3 l t) iha ihb call n t S kn ke kr)
    (fun id _ ih call n t S kn ke kr => ih call n t S kn (fun i t S => @Bool.rec (fun _ => X3 → KS → (X3 → KS → Bool) → (Nat → X3 → KS → Bool) → Nat → Bool) (fun t S _ ke i => ke i t S) (fun t S kn _ _ => kn t S) (Nat.beq i id) t S kn ke i) kr)
    (fun _ ih call n t S _ ke kr => @Nat.rec (fun _ => (CallK → Nat → X3 → KS → (X3 → KS → Bool) → (Nat → X3 → KS → Bool) → (X3 → KS → Bool) → Bool) → CallK → Nat → X3 → KS → (Nat → X3 → KS → Bool) → (X3 → KS → Bool) → Bool) (fun _ _ _ _ _ _ _ => false) (fun _ again b call n t S ke kr => b call n t S (fun t S => again b call n t S ke kr) ke kr) n ih call n t S ke kr)
    (fun id _ _ t S _ ke _ => ke id t S)
    (fun _ _ t S _ _ kr => kr t S)
    (fun bk g p q _ _ iha ihb call n t S kn ke kr => rfK bk (get3 g t) S (fun S => kn t S) (fun i v S ih => put3 p i t fun t1 => put3 q v t1 fun t2 => iha call n t2 S (fun t3 S => ihb call n t3 S (fun _ S => ih S) (fun id _ S => ke id t S) (fun _ S => kr t S)) (fun _ _ _ => false) (fun _ _ => false)))
    c call n t S kn ke kr
/-- The results. -/
noncomputable def runC3Res (rs : List Rs) (t : X3) (S : KS) (k : List V → Bool) : Bool :=
  @List.rec Rs (fun _ => X3 → KS → (List V → Bool) → Bool) (fun _ _ k => k [])
    (fun r _ ih t S k => @Rs.rec (fun _ => X3 → KS → (V → Bool) → Bool) (fun l t _ k => k (get3 l t)) (fun f x t S k => f (get3 x t) S false k) r t S fun v => ih t S fun r => k (v :: r)) rs t S k
noncomputable def runC3Init (ps : List Dst) (args : List V) (t : X3) (k : X3 → Bool) : Bool :=
  @List.rec V (fun _ => List Dst → X3 → (X3 → Bool) → Bool) (fun _ t k => k t)
    (fun v _ ih ps t k => @List.rec Dst (fun _ => V → (List Dst → X3 → (X3 → Bool) → Bool) → X3 → (X3 → Bool) → Bool) (fun _ _ _ _ => false) (fun d ds _ v ih t k => put3 d v t fun t => ih ds t k) ps v ih t k) args ps t k

noncomputable def runI4All (xs : List Loc) (t : X4) (k : List V → Bool) : Bool :=
  @List.rec Loc (fun _ => X4 → (List V → Bool) → Bool) (fun _ k => k []) (fun l _ ih t k => ih t fun r => k (get4 l t :: r)) xs t k
noncomputable def runI4Fill (ps : List Part) (t : X4) (z : List V) (k : List V → Bool) : Bool :=
  @List.rec Part (fun _ => X4 → List V → (List V → Bool) → Bool) (fun _ z k => k z)
    (fun p _ ih t z k => @Part.rec (fun _ => X4 → List V → (X4 → List V → (List V → Bool) → Bool) → (List V → Bool) → Bool) (fun o s x t z ih k =>
      @Bool.rec (fun _ => V → Nat → Nat → X4 → List V → (X4 → List V → (List V → Bool) → Bool) → (List V → Bool) → Bool) (fun _ _ _ _ _ _ _ => false) (fun v o s t z ih k =>
        @Bool.rec (fun _ => V → Nat → X4 → List V → (X4 → List V → (List V → Bool) → Bool) → (List V → Bool) → Bool) (fun _ _ _ _ _ _ => false) (fun v o t z ih k => overK o (V.cells v) z fun z => ih t z k) (isLen (V.cells v) s) v o t z ih k) (okCells (get4 x t)) (get4 x t) o s t z ih k) p t z ih k) ps t z k
/-- Do all guards hold? -/
noncomputable def runI4Gs (gs : List (Loc × Bool)) (t : X4) (f : Bool) (k : Bool) : Bool :=
  @List.rec (Loc × Bool) (fun _ => X4 → Bool → Bool → Bool) (fun _ _ k => k)
    (fun g _ ih t f k => @V.rec (fun _ => Bool → X4 → Bool → Bool → (X4 → Bool → Bool → Bool) → Bool) (fun _ => PUnit) (fun _ _ _ _ _ => false) (fun b => fun c t f k ih => @Bool.rec (fun _ => X4 → Bool → Bool → (X4 → Bool → Bool → Bool) → Bool) (fun _ f _ _ => f) (fun t f k ih => ih t f k) (@Bool.rec (fun _ => Bool) (notB c) c b) t f k ih) (fun _ _ => fun _ _ _ _ _ => false) (fun _ => fun _ _ _ _ _ => false) (fun _ _ _ _ _ => false) (fun _ _ => fun _ _ _ _ _ => false) (fun _ _ => fun _ _ _ _ _ => false) (fun _ _ _ _ _ => false) (fun _ _ _ => fun _ _ _ _ _ => false) (fun _ _ _ _ => fun _ _ _ _ _ => false) (fun _ _ _ _ _ => fun _ _ _ _ _ => false) (fun _ _ _ _ _ => false) (fun _ _ => fun _ _ _ _ _ => false) (fun _ _ => fun _ _ f _ _ => f) (fun _ _ _ _ _ => false) (fun _ => fun _ _ _ _ _ => false) (fun _ => fun _ _ _ _ _ => false) PUnit.unit (fun _ _ _ _ => PUnit.unit) (get4 g.1 t) g.2 t f k ih) gs t f k
noncomputable def runI4 (i : Ins) (call : CallK) (t : X4) (S : KS) (Z : List KS) (k : X4 → KS → List KS → Bool) : Bool :=
  @Ins.rec (fun _ => CallK → X4 → KS → List KS → (X4 → KS → List KS → Bool) → Bool)
    (fun _ t S Z k => k t S Z)
    (fun _ _ _ _ _ => false)
    (fun v d _ ih call t S Z k => put4 d v t fun t => ih call t S Z k)
    (fun f x d _ ih call t S Z k => f (get4 x t) fun v => put4 d v t fun t => ih call t S Z k)
    (fun f x y d _ ih call t S Z k => f (get4 x t) (get4 y t) fun v => put4 d v t fun t => ih call t S Z k)
    (fun f x y z d _ ih call t S Z k => f (get4 x t) (get4 y t) (get4 z t) fun v => put4 d v t fun t => ih call t S Z k)
    (fun f xs d _ ih call t S Z k => runI4All  xs t fun xs => f xs fun v => put4 d v t fun t => ih call t S Z k)
    (fun f xs ys d _ ih call t S Z k => runI4All  xs t fun xs => runI4All  ys t fun ys => put4 d (.fn f xs ys) t fun t => ih call t S Z k)
    (fun f x d _ ih call t S Z k => f (get4 x t) S false fun v => put4 d v t fun t => ih call t S Z k)
    (fun z d _ ih call t S Z k => alocK z S fun v S => put4 d v t fun t => ih call t S Z k)
    (fun f x d _ ih call t S Z k => f (get4 x t) S fun v S => put4 d v t fun t => ih call t S Z k)
    (fun f x y d _ ih call t S Z k => f (get4 x t) (get4 y t) S fun v S => put4 d v t fun t => ih call t S Z k)
    (fun f x y z d _ ih call t S Z k => f (get4 x t) (get4 y t) (get4 z t) S fun v S => put4 d v t fun t => ih call t S Z k)
    (fun z ps f d _ ih call t S Z k => runI4Fill  ps t z fun z => f z S fun v S => put4 d v t fun t => ih call t S Z k)
    (fun f xs d _ ih call t S Z k => runI4All  xs t fun xs => call f xs S fun v S => put4 d v t fun t => ih call t S Z k)
    (fun g xs d _ ih call t S Z k => runI4All  xs t fun xs => @V.rec (fun _ => List V → CallK → KS → (V → KS → Bool) → Bool) (fun _ => PUnit) (fun _ _ _ _ => false) (fun _ => fun _ _ _ _ => false) (fun _ _ => fun _ _ _ _ => false) (fun _ => fun _ _ _ _ => false) (fun _ _ _ _ => false) (fun _ _ => fun _ _ _ _ => false) (fun _ _ => fun _ _ _ _ => false) (fun _ _ _ _ => false) (fun _ _ _ => fun _ _ _ _ => false) (fun _ _ _ _ => fun _ _ _ _ => false) (fun f a c _ _ => fun xs call S k => call f (a ++ xs ++ c) S k) (fun _ _ _ _ => false) (fun _ _ => fun _ _ _ _ => false) (fun _ _ => fun _ _ _ _ => false) (fun _ _ _ _ => false) (fun _ => fun _ _ _ _ => false) (fun _ => fun _ _ _ _ => false) PUnit.unit (fun _ _ _ _ => PUnit.unit) (get4 g t) xs call S fun v S => put4 d v t fun t => ih call t S Z k)
    (fun l b _ _ ihn ihm call t S Z k => @V.rec (fun _ => Bool → (CallK → X4 → KS → List KS → (X4 → KS → List KS → Bool) → Bool) → (CallK → X4 → KS → List KS → (X4 → KS → List KS → Bool) → Bool) → CallK → X4 → KS → List KS → (X4 → KS → List KS → Bool) → Bool) (fun _ => PUnit) (fun _ _ _ _ _ _ _ _ => false) (fun c => fun b n m call t S Z k => @Bool.rec (fun _ => (CallK → X4 → KS → List KS → (X4 → KS → List KS → Bool) → Bool) → (CallK → X4 → KS → List KS → (X4 → KS → List KS → Bool) → Bool) → CallK → X4 → KS → List KS → (X4 → KS → List KS → Bool) → Bool) (fun _ m call t S Z k => m call t S Z k) (fun n _ call t S Z k => n call t S Z k) (@Bool.rec (fun _ => Bool) (notB b) b c) n m call t S Z k) (fun _ _ => fun _ _ _ _ _ _ _ _ => false) (fun _ => fun _ _ _ _ _ _ _ _ => false) (fun _ _ _ _ _ _ _ _ => false) (fun _ _ => fun _ _ _ _ _ _ _ _ => false) (fun _ _ => fun _ _ _ _ _ _ _ _ => false) (fun _ _ _ _ _ _ _ _ => false) (fun _ _ _ => fun _ _ _ _ _ _ _ _ => false) (fun _ _ _ _ => fun _ _ _ _ _ _ _ _ => false) (fun _ _ _ _ _ => fun _ _ _ _ _ _ _ _ => false) (fun _ _ _ _ _ _ _ _ => false) (fun _ _ => fun _ _ _ _ _ _ _ _ => false) (fun _ _ => fun _ _ m call t S Z k => m call t S Z k) (fun _ _ _ _ _ _ _ _ => false) (fun _ => fun _ _ _ _ _ _ _ _ => false) (fun _ => fun _ _ _ _ _ _ _ _ => false) PUnit.unit (fun _ _ _ _ => PUnit.unit) (get4 l t) b ihn ihm call t S Z k)
    (fun _ ih call t S Z k => ih call t S (S :: Z) k)
    (fun gs _ ih call t S Z k => @Bool.rec (fun _ => (Unit → Bool) → Bool) (fun _ => false) (fun k => k ()) (runI4Gs  gs t true false) fun _ => ih call t S Z k)
    (fun gs f x i _ ih call t S Z k => @Bool.rec (fun _ => (Unit → Bool) → Bool) (fun _ => false) (fun k => k ()) (runI4Gs  gs t true (hdS Z false (fun a b => chkK f (get4 x t) a b) i)) fun _ => ih call t S Z k)
    i call t S Z k

noncomputable def runC4 (c : C) (call : CallK) (n : Nat) (t : X4) (S : KS) (kn : X4 → KS → Bool) (ke : Nat → X4 → KS → Bool) (kr : X4 → KS → Bool) : Bool :=
  @C.rec (fun _ => CallK → Nat → X4 → KS → (X4 → KS → Bool) → (Nat → X4 → KS → Bool) → (X4 → KS → Bool) → Bool)
    (fun _ _ t S kn _ _ => kn t S)
    (fun _ _ _ _ _ _ _ => false)
    (fun i call _ t S kn _ _ => runI4  i call t S [] fun t S _ => kn t S)
    (fun _ _ iha ihb call n t S kn ke kr => iha call n t S (fun t S => ihb call n t S kn ke kr) ke kr)
    (fun i j _ ihb call n t S kn _ _ => runI4  i call t S [] fun t1 S1 _ => runI4  j call t S [] fun t2 S2 _ => ihb call n t1 S1 (fun ta A => ihb call n t2 S2 (fun tb B => mrg4 ta tb fun t => mrgS S A B fun S => kn t S) (fun _ _ _ => false) (fun _ _ => false)) (fun _ _ _ => false) (fun _ _ => false))
    (fun l _ _ iha ihb call n t S kn ke kr => @V.rec (fun _ => (CallK → Nat → X4 → KS → (X4 → KS → Bool) → (Nat → X4 → KS → Bool) → (X4 → KS → Bool) → Bool) → (CallK → Nat → X4 → KS → (X4 → KS → Bool) → (Nat → X4 → KS → Bool) → (X4 → KS → Bool) → Bool) → CallK → Nat → X4 → KS → (X4 → KS → Bool) → (Nat → X4 → KS → Bool) → (X4 → KS → Bool) → Bool) (fun _ => PUnit) (fun _ _ _ _ _ _ _ _ _ => false) (fun b => fun x y call n t S kn ke kr => @Bool.rec (fun _ => (CallK → Nat → X4 → KS → (X4 → KS → Bool) → (Nat → X4 → KS → Bool) → (X4 → KS → Bool) → Bool) → (CallK → Nat → X4 → KS → (X4 → KS → Bool) → (Nat → X4 → KS → Bool) → (X4 → KS → Bool) → Bool) → CallK → Nat → X4 → KS → (X4 → KS → Bool) → (Nat → X4 → KS → Bool) → (X4 → KS → Bool) → Bool) (fun _ y call n t S kn ke kr => y call n t S kn ke kr) (fun x _ call n t S kn ke kr => x call n t S kn ke kr) b x y call n t S kn ke kr) (fun _ _ => fun _ _ _ _ _ _ _ _ _ => false) (fun _ => fun _ _ _ _ _ _ _ _ _ => false) (fun _ _ _ _ _ _ _ _ _ => false) (fun _ _ => fun _ _ _ _ _ _ _ _ _ => false) (fun _ _ => fun _ _ _ _ _ _ _ _ _ => false) (fun _ _ _ _ _ _ _ _ _ => false) (fun _ _ _ => fun _ _ _ _ _ _ _ _ _ => false) (fun _ _ _ _ => fun _ _ _ _ _ _ _ _ _ => false) (fun _ _ _ _ _ => fun _ _ _ _ _ _ _ _ _ => false) (fun _ _ _ _ _ _ _ _ _ => false) (fun _ _ => fun _ _ _ _ _ _ _ _ _ => false) (fun _ _ => fun _ _ _ _ _ _ _ _ _ => false) (fun _ _ _ _ _ _ _ _ _ => false) (fun _ => fun _ _ _ _ _ _ _ _ _ => false) (fun _ => fun _ _ _ _ _ _ _ _ _ => false) PUnit.unit (fun _ _ _ _ => PUnit.unit) (get4 l t) iha ihb call n t S kn ke kr)
    (fun id _ ih call n t S kn ke kr => ih call n t S kn (fun i t S => @Bool.rec (fun _ => X4 → KS → (X4 → KS → Bool) → (Nat → X4 → KS → Bool) → Nat → Bool) (fun t S _ ke i => ke i t S) (fun t S kn _ _ => kn t S) (Nat.beq i id) t S kn ke i) kr)
    (fun _ ih call n t S _ ke kr => @Nat.rec (fun _ => (CallK → Nat → X4 → KS → (X4 → KS → Bool) → (Nat → X4 → KS → Bool) → (X4 → KS → Bool) → Bool) → CallK → Nat → X4 → KS → (Nat → X4 → KS → Bool) → (X4 → KS → Bool) → Bool) (fun _ _ _ _ _ _ _ => false) (fun _ again b call n t S ke kr => b call n t S (fun t S => again b call n t S ke kr) ke kr) n ih call n t S ke kr)
    (fun id _ _ t S _ ke _ => ke id t S)
    (fun _ _ t S _ _ kr => kr t S)
    (fun bk g p q _ _ iha ihb call n t S kn ke kr => rfK bk (get4 g t) S (fun S => kn t S) (fun i v S ih => put4 p i t fun t1 => put4 q v t1 fun t2 => iha call n t2 S (fun t3 S => ihb call n t3 S (fun _ S => ih S) (fun id _ S => ke id t S) (fun _ S => kr t S)) (fun _ _ _ => false) (fun _ _ => false)))
    c call n t S kn ke kr
/-- The results. -/
noncomputable def runC4Res (rs : List Rs) (t : X4) (S : KS) (k : List V → Bool) : Bool :=
  @List.rec Rs (fun _ => X4 → KS → (List V → Bool) → Bool) (fun _ _ k => k [])
    (fun r _ ih t S k => @Rs.rec (fun _ => X4 → KS → (V → Bool) → Bool) (fun l t _ k => k (get4 l t)) (fun f x t S k => f (get4 x t) S false k) r t S fun v => ih t S fun r => k (v :: r)) rs t S k
noncomputable def runC4Init (ps : List Dst) (args : List V) (t : X4) (k : X4 → Bool) : Bool :=
  @List.rec V (fun _ => List Dst → X4 → (X4 → Bool) → Bool) (fun _ t k => k t)
    (fun v _ ih ps t k => @List.rec Dst (fun _ => V → (List Dst → X4 → (X4 → Bool) → Bool) → X4 → (X4 → Bool) → Bool) (fun _ _ _ _ => false) (fun d ds _ v ih t k => put4 d v t fun t => ih ds t k) ps v ih t k) args ps t k

noncomputable def runI5All (xs : List Loc) (t : X5) (k : List V → Bool) : Bool :=
  @List.rec Loc (fun _ => X5 → (List V → Bool) → Bool) (fun _ k => k []) (fun l _ ih t k => ih t fun r => k (get5 l t :: r)) xs t k
noncomputable def runI5Fill (ps : List Part) (t : X5) (z : List V) (k : List V → Bool) : Bool :=
  @List.rec Part (fun _ => X5 → List V → (List V → Bool) → Bool) (fun _ z k => k z)
    (fun p _ ih t z k => @Part.rec (fun _ => X5 → List V → (X5 → List V → (List V → Bool) → Bool) → (List V → Bool) → Bool) (fun o s x t z ih k =>
      @Bool.rec (fun _ => V → Nat → Nat → X5 → List V → (X5 → List V → (List V → Bool) → Bool) → (List V → Bool) → Bool) (fun _ _ _ _ _ _ _ => false) (fun v o s t z ih k =>
        @Bool.rec (fun _ => V → Nat → X5 → List V → (X5 → List V → (List V → Bool) → Bool) → (List V → Bool) → Bool) (fun _ _ _ _ _ _ => false) (fun v o t z ih k => overK o (V.cells v) z fun z => ih t z k) (isLen (V.cells v) s) v o t z ih k) (okCells (get5 x t)) (get5 x t) o s t z ih k) p t z ih k) ps t z k
/-- Do all guards hold? -/
noncomputable def runI5Gs (gs : List (Loc × Bool)) (t : X5) (f : Bool) (k : Bool) : Bool :=
  @List.rec (Loc × Bool) (fun _ => X5 → Bool → Bool → Bool) (fun _ _ k => k)
    (fun g _ ih t f k => @V.rec (fun _ => Bool → X5 → Bool → Bool → (X5 → Bool → Bool → Bool) → Bool) (fun _ => PUnit) (fun _ _ _ _ _ => false) (fun b => fun c t f k ih => @Bool.rec (fun _ => X5 → Bool → Bool → (X5 → Bool → Bool → Bool) → Bool) (fun _ f _ _ => f) (fun t f k ih => ih t f k) (@Bool.rec (fun _ => Bool) (notB c) c b) t f k ih) (fun _ _ => fun _ _ _ _ _ => false) (fun _ => fun _ _ _ _ _ => false) (fun _ _ _ _ _ => false) (fun _ _ => fun _ _ _ _ _ => false) (fun _ _ => fun _ _ _ _ _ => false) (fun _ _ _ _ _ => false) (fun _ _ _ => fun _ _ _ _ _ => false) (fun _ _ _ _ => fun _ _ _ _ _ => false) (fun _ _ _ _ _ => fun _ _ _ _ _ => false) (fun _ _ _ _ _ => false) (fun _ _ => fun _ _ _ _ _ => false) (fun _ _ => fun _ _ f _ _ => f) (fun _ _ _ _ _ => false) (fun _ => fun _ _ _ _ _ => false) (fun _ => fun _ _ _ _ _ => false) PUnit.unit (fun _ _ _ _ => PUnit.unit) (get5 g.1 t) g.2 t f k ih) gs t f k
noncomputable def runI5 (i : Ins) (call : CallK) (t : X5) (S : KS) (Z : List KS) (k : X5 → KS → List KS → Bool) : Bool :=
  @Ins.rec (fun _ => CallK → X5 → KS → List KS → (X5 → KS → List KS → Bool) → Bool)
    (fun _ t S Z k => k t S Z)
    (fun _ _ _ _ _ => false)
    (fun v d _ ih call t S Z k => put5 d v t fun t => ih call t S Z k)
    (fun f x d _ ih call t S Z k => f (get5 x t) fun v => put5 d v t fun t => ih call t S Z k)
    (fun f x y d _ ih call t S Z k => f (get5 x t) (get5 y t) fun v => put5 d v t fun t => ih call t S Z k)
    (fun f x y z d _ ih call t S Z k => f (get5 x t) (get5 y t) (get5 z t) fun v => put5 d v t fun t => ih call t S Z k)
    (fun f xs d _ ih call t S Z k => runI5All  xs t fun xs => f xs fun v => put5 d v t fun t => ih call t S Z k)
    (fun f xs ys d _ ih call t S Z k => runI5All  xs t fun xs => runI5All  ys t fun ys => put5 d (.fn f xs ys) t fun t => ih call t S Z k)
    (fun f x d _ ih call t S Z k => f (get5 x t) S false fun v => put5 d v t fun t => ih call t S Z k)
    (fun z d _ ih call t S Z k => alocK z S fun v S => put5 d v t fun t => ih call t S Z k)
    (fun f x d _ ih call t S Z k => f (get5 x t) S fun v S => put5 d v t fun t => ih call t S Z k)
    (fun f x y d _ ih call t S Z k => f (get5 x t) (get5 y t) S fun v S => put5 d v t fun t => ih call t S Z k)
    (fun f x y z d _ ih call t S Z k => f (get5 x t) (get5 y t) (get5 z t) S fun v S => put5 d v t fun t => ih call t S Z k)
    (fun z ps f d _ ih call t S Z k => runI5Fill  ps t z fun z => f z S fun v S => put5 d v t fun t => ih call t S Z k)
    (fun f xs d _ ih call t S Z k => runI5All  xs t fun xs => call f xs S fun v S => put5 d v t fun t => ih call t S Z k)
    (fun g xs d _ ih call t S Z k => runI5All  xs t fun xs => @V.rec (fun _ => List V → CallK → KS → (V → KS → Bool) → Bool) (fun _ => PUnit) (fun _ _ _ _ => false) (fun _ => fun _ _ _ _ => false) (fun _ _ => fun _ _ _ _ => false) (fun _ => fun _ _ _ _ => false) (fun _ _ _ _ => false) (fun _ _ => fun _ _ _ _ => false) (fun _ _ => fun _ _ _ _ => false) (fun _ _ _ _ => false) (fun _ _ _ => fun _ _ _ _ => false) (fun _ _ _ _ => fun _ _ _ _ => false) (fun f a c _ _ => fun xs call S k => call f (a ++ xs ++ c) S k) (fun _ _ _ _ => false) (fun _ _ => fun _ _ _ _ => false) (fun _ _ => fun _ _ _ _ => false) (fun _ _ _ _ => false) (fun _ => fun _ _ _ _ => false) (fun _ => fun _ _ _ _ => false) PUnit.unit (fun _ _ _ _ => PUnit.unit) (get5 g t) xs call S fun v S => put5 d v t fun t => ih call t S Z k)
    (fun l b _ _ ihn ihm call t S Z k => @V.rec (fun _ => Bool → (CallK → X5 → KS → List KS → (X5 → KS → List KS → Bool) → Bool) → (CallK → X5 → KS → List KS → (X5 → KS → List KS → Bool) → Bool) → CallK → X5 → KS → List KS → (X5 → KS → List KS → Bool) → Bool) (fun _ => PUnit) (fun _ _ _ _ _ _ _ _ => false) (fun c => fun b n m call t S Z k => @Bool.rec (fun _ => (CallK → X5 → KS → List KS → (X5 → KS → List KS → Bool) → Bool) → (CallK → X5 → KS → List KS → (X5 → KS → List KS → Bool) → Bool) → CallK → X5 → KS → List KS → (X5 → KS → List KS → Bool) → Bool) (fun _ m call t S Z k => m call t S Z k) (fun n _ call t S Z k => n call t S Z k) (@Bool.rec (fun _ => Bool) (notB b) b c) n m call t S Z k) (fun _ _ => fun _ _ _ _ _ _ _ _ => false) (fun _ => fun _ _ _ _ _ _ _ _ => false) (fun _ _ _ _ _ _ _ _ => false) (fun _ _ => fun _ _ _ _ _ _ _ _ => false) (fun _ _ => fun _ _ _ _ _ _ _ _ => false) (fun _ _ _ _ _ _ _ _ => false) (fun _ _ _ => fun _ _ _ _ _ _ _ _ => false) (fun _ _ _ _ => fun _ _ _ _ _ _ _ _ => false) (fun _ _ _ _ _ => fun _ _ _ _ _ _ _ _ => false) (fun _ _ _ _ _ _ _ _ => false) (fun _ _ => fun _ _ _ _ _ _ _ _ => false) (fun _ _ => fun _ _ m call t S Z k => m call t S Z k) (fun _ _ _ _ _ _ _ _ => false) (fun _ => fun _ _ _ _ _ _ _ _ => false) (fun _ => fun _ _ _ _ _ _ _ _ => false) PUnit.unit (fun _ _ _ _ => PUnit.unit) (get5 l t) b ihn ihm call t S Z k)
    (fun _ ih call t S Z k => ih call t S (S :: Z) k)
    (fun gs _ ih call t S Z k => @Bool.rec (fun _ => (Unit → Bool) → Bool) (fun _ => false) (fun k => k ()) (runI5Gs  gs t true false) fun _ => ih call t S Z k)
    (fun gs f x i _ ih call t S Z k => @Bool.rec (fun _ => (Unit → Bool) → Bool) (fun _ => false) (fun k => k ()) (runI5Gs  gs t true (hdS Z false (fun a b => chkK f (get5 x t) a b) i)) fun _ => ih call t S Z k)
    i call t S Z k

noncomputable def runC5 (c : C) (call : CallK) (n : Nat) (t : X5) (S : KS) (kn : X5 → KS → Bool) (ke : Nat → X5 → KS → Bool) (kr : X5 → KS → Bool) : Bool :=
  @C.rec (fun _ => CallK → Nat → X5 → KS → (X5 → KS → Bool) → (Nat → X5 → KS → Bool) → (X5 → KS → Bool) → Bool)
    (fun _ _ t S kn _ _ => kn t S)
    (fun _ _ _ _ _ _ _ => false)
    (fun i call _ t S kn _ _ => runI5  i call t S [] fun t S _ => kn t S)
    (fun _ _ iha ihb call n t S kn ke kr => iha call n t S (fun t S => ihb call n t S kn ke kr) ke kr)
    (fun i j _ ihb call n t S kn _ _ => runI5  i call t S [] fun t1 S1 _ => runI5  j call t S [] fun t2 S2 _ => ihb call n t1 S1 (fun ta A => ihb call n t2 S2 (fun tb B => mrg5 ta tb fun t => mrgS S A B fun S => kn t S) (fun _ _ _ => false) (fun _ _ => false)) (fun _ _ _ => false) (fun _ _ => false))
    (fun l _ _ iha ihb call n t S kn ke kr => @V.rec (fun _ => (CallK → Nat → X5 → KS → (X5 → KS → Bool) → (Nat → X5 → KS → Bool) → (X5 → KS → Bool) → Bool) → (CallK → Nat → X5 → KS → (X5 → KS → Bool) → (Nat → X5 → KS → Bool) → (X5 → KS → Bool) → Bool) → CallK → Nat → X5 → KS → (X5 → KS → Bool) → (Nat → X5 → KS → Bool) → (X5 → KS → Bool) → Bool) (fun _ => PUnit) (fun _ _ _ _ _ _ _ _ _ => false) (fun b => fun x y call n t S kn ke kr => @Bool.rec (fun _ => (CallK → Nat → X5 → KS → (X5 → KS → Bool) → (Nat → X5 → KS → Bool) → (X5 → KS → Bool) → Bool) → (CallK → Nat → X5 → KS → (X5 → KS → Bool) → (Nat → X5 → KS → Bool) → (X5 → KS → Bool) → Bool) → CallK → Nat → X5 → KS → (X5 → KS → Bool) → (Nat → X5 → KS → Bool) → (X5 → KS → Bool) → Bool) (fun _ y call n t S kn ke kr => y call n t S kn ke kr) (fun x _ call n t S kn ke kr => x call n t S kn ke kr) b x y call n t S kn ke kr) (fun _ _ => fun _ _ _ _ _ _ _ _ _ => false) (fun _ => fun _ _ _ _ _ _ _ _ _ => false) (fun _ _ _ _ _ _ _ _ _ => false) (fun _ _ => fun _ _ _ _ _ _ _ _ _ => false) (fun _ _ => fun _ _ _ _ _ _ _ _ _ => false) (fun _ _ _ _ _ _ _ _ _ => false) (fun _ _ _ => fun _ _ _ _ _ _ _ _ _ => false) (fun _ _ _ _ => fun _ _ _ _ _ _ _ _ _ => false) (fun _ _ _ _ _ => fun _ _ _ _ _ _ _ _ _ => false) (fun _ _ _ _ _ _ _ _ _ => false) (fun _ _ => fun _ _ _ _ _ _ _ _ _ => false) (fun _ _ => fun _ _ _ _ _ _ _ _ _ => false) (fun _ _ _ _ _ _ _ _ _ => false) (fun _ => fun _ _ _ _ _ _ _ _ _ => false) (fun _ => fun _ _ _ _ _ _ _ _ _ => false) PUnit.unit (fun _ _ _ _ => PUnit.unit) (get5 l t) iha ihb call n t S kn ke kr)
    (fun id _ ih call n t S kn ke kr => ih call n t S kn (fun i t S => @Bool.rec (fun _ => X5 → KS → (X5 → KS → Bool) → (Nat → X5 → KS → Bool) → Nat → Bool) (fun t S _ ke i => ke i t S) (fun t S kn _ _ => kn t S) (Nat.beq i id) t S kn ke i) kr)
    (fun _ ih call n t S _ ke kr => @Nat.rec (fun _ => (CallK → Nat → X5 → KS → (X5 → KS → Bool) → (Nat → X5 → KS → Bool) → (X5 → KS → Bool) → Bool) → CallK → Nat → X5 → KS → (Nat → X5 → KS → Bool) → (X5 → KS → Bool) → Bool) (fun _ _ _ _ _ _ _ => false) (fun _ again b call n t S ke kr => b call n t S (fun t S => again b call n t S ke kr) ke kr) n ih call n t S ke kr)
    (fun id _ _ t S _ ke _ => ke id t S)
    (fun _ _ t S _ _ kr => kr t S)
    (fun bk g p q _ _ iha ihb call n t S kn ke kr => rfK bk (get5 g t) S (fun S => kn t S) (fun i v S ih => put5 p i t fun t1 => put5 q v t1 fun t2 => iha call n t2 S (fun t3 S => ihb call n t3 S (fun _ S => ih S) (fun id _ S => ke id t S) (fun _ S => kr t S)) (fun _ _ _ => false) (fun _ _ => false)))
    c call n t S kn ke kr
/-- The results. -/
noncomputable def runC5Res (rs : List Rs) (t : X5) (S : KS) (k : List V → Bool) : Bool :=
  @List.rec Rs (fun _ => X5 → KS → (List V → Bool) → Bool) (fun _ _ k => k [])
    (fun r _ ih t S k => @Rs.rec (fun _ => X5 → KS → (V → Bool) → Bool) (fun l t _ k => k (get5 l t)) (fun f x t S k => f (get5 x t) S false k) r t S fun v => ih t S fun r => k (v :: r)) rs t S k
noncomputable def runC5Init (ps : List Dst) (args : List V) (t : X5) (k : X5 → Bool) : Bool :=
  @List.rec V (fun _ => List Dst → X5 → (X5 → Bool) → Bool) (fun _ t k => k t)
    (fun v _ ih ps t k => @List.rec Dst (fun _ => V → (List Dst → X5 → (X5 → Bool) → Bool) → X5 → (X5 → Bool) → Bool) (fun _ _ _ _ => false) (fun d ds _ v ih t k => put5 d v t fun t => ih ds t k) ps v ih t k) args ps t k

noncomputable def oneK (l : List V) (S : KS) (k : V → KS → Bool) : Bool :=
  @List.rec V (fun _ => KS → (V → KS → Bool) → Bool) (fun S k => k (.tup []) S) (fun v r _ S k => @List.rec V (fun _ => V → KS → (V → KS → Bool) → Bool) (fun v S k => k v S) (fun u r _ v S k => k (.tup (v :: u :: r)) S) r v S k) l S k
noncomputable def runF2 (ps : List Dst) (b : C) (rs : List Rs) (call : CallK) (n : Nat) (args : List V) (S : KS) (k : V → KS → Bool) : Bool :=
  runC2Init ps args z2 fun t => runC2 b call n t S (fun t S => runC2Res rs t S fun l => oneK l S k) (fun _ _ _ => false) (fun t S => runC2Res rs t S fun l => oneK l S k)
noncomputable def runF3 (ps : List Dst) (b : C) (rs : List Rs) (call : CallK) (n : Nat) (args : List V) (S : KS) (k : V → KS → Bool) : Bool :=
  runC3Init ps args z3 fun t => runC3 b call n t S (fun t S => runC3Res rs t S fun l => oneK l S k) (fun _ _ _ => false) (fun t S => runC3Res rs t S fun l => oneK l S k)
noncomputable def runF4 (ps : List Dst) (b : C) (rs : List Rs) (call : CallK) (n : Nat) (args : List V) (S : KS) (k : V → KS → Bool) : Bool :=
  runC4Init ps args z4 fun t => runC4 b call n t S (fun t S => runC4Res rs t S fun l => oneK l S k) (fun _ _ _ => false) (fun t S => runC4Res rs t S fun l => oneK l S k)
noncomputable def runF5 (ps : List Dst) (b : C) (rs : List Rs) (call : CallK) (n : Nat) (args : List V) (S : KS) (k : V → KS → Bool) : Bool :=
  runC5Init ps args z5 fun t => runC5 b call n t S (fun t S => runC5Res rs t S fun l => oneK l S k) (fun _ _ _ => false) (fun t S => runC5Res rs t S fun l => oneK l S k)
/-- A call. cf: the functions; memo: calls whose answers are known. -/
noncomputable def bodyK (cf : FuncId → CF) (ih : CallK) (n : Nat) (f : FuncId) (args : List V) (S : KS) (k : V → KS → Bool) : Bool :=
  @CF.rec (fun _ => CallK → Nat → List V → KS → (V → KS → Bool) → Bool) (fun _ _ _ _ _ => false)
    (fun cl ps b rs ih n args S k => @Cl.rec (fun _ => List Dst → C → List Rs → CallK → Nat → List V → KS → (V → KS → Bool) → Bool) runF2 runF3 runF4 runF5 cl ps b rs ih n args S k) (cf f) ih n args S k
abbrev MemoT : Type := FuncId → Option (List V → Option V)
noncomputable def runK (fz : KS → List V → Option (List V)) (cf : FuncId → CF) (memo : MemoT) (n : Nat) : CallK :=
  @Nat.rec (fun _ => CallK) (fun _ _ _ _ => false) (fun n ih f args S k =>
    @Option.rec (List V → Option V) (fun _ => (KS → List V → Option (List V)) → (FuncId → CF) → CallK → Nat → FuncId → List V → KS → (V → KS → Bool) → Bool) (fun _ => bodyK)
      (fun g fz cf ih n f args S k => @Option.rec (List V) (fun _ => (List V → Option V) → (FuncId → CF) → CallK → Nat → FuncId → List V → KS → (V → KS → Bool) → Bool) (fun _ _ _ _ _ _ _ _ => false)
        (fun key g cf ih n f args S k => @Option.rec V (fun _ => (FuncId → CF) → CallK → Nat → FuncId → List V → KS → (V → KS → Bool) → Bool) bodyK (fun v _ _ _ _ _ S k => force v fun v => k v S) (g key) cf ih n f args S k) (fz S args) g cf ih n f args S k)
      (memo f) fz cf ih n f args S k) n
end Go.Vm

/-! From loaded code to the data of the fast evaluator. -/
namespace Go.Vm
variable [Gl]

noncomputable def selN : Nat → Sel
  | 0 => .q0
  | 1 => .q1
  | 2 => .q2
  | _ => .q3
noncomputable def digit (i j : Nat) : Sel := selN (i / 4 ^ j % 4)
noncomputable def locOf (i : Nat) : Loc := .x (digit i 4) (digit i 3) (digit i 2) (digit i 1) (digit i 0)
noncomputable def dstOf (i : Nat) : Dst := .at (digit i 4) (digit i 3) (digit i 2) (digit i 1) (digit i 0)

section
variable (P : Program) (nt : Nat)

noncomputable def cOpd : Operand → Loc
  | .tmp i => if i < nt then locOf i else .k .any
  | .const v => .k (ofValue v)
  | .func f => .k (.fn f [] [])
  | .global g => .k (Gl.gl g)
noncomputable def cDst : Option Nat → Dst
  | some d => if d < nt then dstOf d else .no
  | none => .no
/-- Does the operand lie within the frame? -/
noncomputable def okOpd : Operand → Bool
  | .tmp i => i < nt
  | _ => true
noncomputable def intT (t : TypeId) : Bool := match P.underlying t with
  | some (.int _) => true
  | _ => false
noncomputable def strT (t : TypeId) : Bool := match P.underlying t with
  | some .string => true
  | _ => false
noncomputable def cBin (op : BinOp) (ty : TypeId) : K2 :=
  if intT P ty then match op with
    | .add => iAdd
    | .sub => iSub
    | .mul => iMul
    | .eql => iEq
    | .neq => iNe
    | .lss => iLt
    | .leq => iLe
    | .gtr => iGt
    | .geq => iGe
    | op => slow2 P op ty
  else if strT P ty then match op with
    | .eql => sEq
    | .neq => sNe
    | op => slow2 P op ty
  else slow2 P op ty
noncomputable def cUn (op : UnOp) : K1 := match op with
  | .not => notK
  | op => slowUn op
/-- A conversion of a number to this kind? -/
def numConv (a b : TypeId) : Option IntKind := match P.underlying a, P.underlying b with
  | some (.int _), some (.int k) => some k
  | _, _ => none
/-- Equality of keys; what a key must be. -/
noncomputable def keyK : KeyKind → Option (K2 × (V → Bool))
  | .plain (.int _) => some (iEq, noFit)
  | .plain .string => some (sEq, noFit)
  | .str _ n => some (agEq n, fitK n)
  | _ => none
noncomputable def cLoad (ty : TypeId) : Option KL := match isAggT P ty with
  | some true => if P.cellsOf ty = 0 then none else some (ldN (P.cellsOf ty))
  | some false => some ld1
  | none => none
noncomputable def cParts (place : Nat → Option (Nat × Nat)) : List (Nat × Operand) → Option (List Part)
  | [] => some []
  | (i, x) :: r => match place i, cParts place r with
    | some (o, s), some ps => some (.mk o s (cOpd nt x) :: ps)
    | _, _ => none
noncomputable def aggE (l : List V) (S : KS) (k : V → KS → Bool) : Bool := k (.agg l) S
/-- One operation, ahead of n. -/
noncomputable def cOp (o : Oper) (n : Ins) : Ins :=
  let d := cDst nt o.dst
  match o.op with
  | .move x => .p1 idK (cOpd nt x) d n
  | .assign x => .p1 idK (cOpd nt x) d n
  | .pick c a b => .p3 pickK (cOpd nt c) (cOpd nt a) (cOpd nt b) d n
  | .alloc ty => match zeroOf P ty with
    | some z => .alo z d n
    | none => .fail
  | .box _ x => .e1 boxK (cOpd nt x) d n
  | .build ty ps => match zeroOf P ty, placesOf P ty with
    | some z, some place => match cParts nt place ps.toList with
      | some ps => .bld z ps aggE d n
      | none => .fail
    | _, _ => .fail
  | .buildSlice ty m ps => match P.underlying ty with
    | some (.slice el) => match zeroOf P el, szT P el with
      | some z, some sz => if z.length = sz ∧ m * sz ≤ 2 ^ 24 then
          match cParts nt (fun i => some (i * sz, sz)) ps.toList with
          | some ps => .bld (repl m z) ps (rowK sz m) d n
          | none => .fail
        else .fail
      | _, _ => .fail
    | _ => .fail
  | .load ty a => match cLoad P ty with
    | some f => .ld f (cOpd nt a) d n
    | none => .fail
  | .store ty a x => match isAggT P ty with
    | some true => .e2 (stN (P.cellsOf ty)) (cOpd nt a) (cOpd nt x) d n
    | some false => if P.cellsOf ty = 1 then .e2 st1 (cOpd nt a) (cOpd nt x) d n else .fail
    | none => .fail
  | .nilCheck x => .p1 nilK (cOpd nt x) d n
  | .binOp op ty x y _ => .p2 (cBin P op ty) (cOpd nt x) (cOpd nt y) d n
  | .unOp op _ x => .p1 (cUn op) (cOpd nt x) d n
  | .convert a b x => match numConv P a b with
    | some k => .p1 (cvK k) (cOpd nt x) d n
    | none => .ld (slowConv P a b) (cOpd nt x) d n
  | .makeFunc (.func f) a b => .mkf f (a.toList.map (cOpd nt)) (b.toList.map (cOpd nt)) d n
  | .slice ty x none none none => .p2 (slowSl1 P ty) (cOpd nt x) (.k (.int .i64 0)) d n
  | .slice ty x (some lo) none none => .p2 (slowSl1 P ty) (cOpd nt x) (cOpd nt lo) d n
  | .slice ty x none (some hi) none => .p3 (slowSl P ty) (cOpd nt x) (.k (.int .i64 0)) (cOpd nt hi) d n
  | .slice ty x (some lo) (some hi) none => .p3 (slowSl P ty) (cOpd nt x) (cOpd nt lo) (cOpd nt hi) d n
  | .slice ty x none (some hi) (some mx) => .p3 (slowSl3 P ty) (cOpd nt x) (cOpd nt hi) (cOpd nt mx) d n
  | .fieldAddr s x f => match P.underlying s with
    | some (.struct fs) => match fs[f]? with
      | some fd => if P.cellsOf fd.type = 0 then .fail else .p1 (faK fd.offset) (cOpd nt x) d n
      | none => .fail
    | _ => .fail
  | .field s x f => match P.underlying s with
    | some (.struct fs) => match fs[f]? with
      | some fd => match isAggT P fd.type with
        | some true => .p1 (fldA fd.offset (P.cellsOf fd.type)) (cOpd nt x) d n
        | some false => .p1 (fldK fd.offset) (cOpd nt x) d n
        | none => .fail
      | none => .fail
    | _ => .fail
  | .indexAddr ty x i => match P.underlying ty with
    | some (.slice el) => match szT P el with
      | some sz => .p2 (ixK sz) (cOpd nt x) (cOpd nt i) d n
      | none => .fail
    | some (.array m el) => match szT P el with
      | some sz => .p2 (iaK m sz) (cOpd nt x) (cOpd nt i) d n
      | none => .fail
    | _ => .fail
  | .index ty x i => match P.underlying ty with
    | some .string => .p2 isK (cOpd nt x) (cOpd nt i) d n
    | _ => .p2 (slowIx P ty) (cOpd nt x) (cOpd nt i) d n
  | .makeSlice ty l c => match P.underlying ty with
    | some (.slice el) => match zeroOf P el, szT P el with
      | some z, some sz => if P.bytesOf el ≤ 2 ^ 16 ∧ z.length = sz then .e2 (mkK sz z) (cOpd nt l) (cOpd nt c) d n else .fail
      | _, _ => .fail
    | _ => .fail
  | .extract x i => .p1 (extK i) (cOpd nt x) d n
  | .makeMap _ none => .bld [] [] mmK d n
  | .lookup ty x i ok => match simpleK P ty with
    | some (kd, el) => match keyK kd, zeroV P el with
      | some (eq, fit), some z => .e2 (lkK fit eq z (if ok then twoR else oneR)) (cOpd nt x) (cOpd nt i) d n
      | _, _ => .fail
    | none => .fail
  | .mapUpdate ty m k x => match simpleK P ty with
    | some (kd, _) => match keyK kd with
      | some (eq, fit) => .e3 (muK fit eq) (cOpd nt m) (cOpd nt k) (cOpd nt x) d n
      | none => .fail
    | none => .fail
  | .mapEntry ty m k => match simpleK P ty with
    | some (kd, el) => match keyK kd, zeroV P el with
      | some (eq, fit), some z => .e2 (meK fit eq z) (cOpd nt m) (cOpd nt k) d n
      | _, _ => .fail
    | none => .fail
  | .entryStore _ m i x => .e3 esK (cOpd nt m) (cOpd nt i) (cOpd nt x) d n
  | .call c => match c.callee with
    | .value (.func f) => .call f (c.args.toList.map (cOpd nt)) d n
    | .value f => .callV (cOpd nt f) (c.args.toList.map (cOpd nt)) d n
    | .builtin .len => match c.args.toList, c.argTypes.toList with
      | [x], [ty] => match P.underlying ty with
        | some .string => .ld lenS (cOpd nt x) d n
        | some (.slice _) => .ld lenK (cOpd nt x) d n
        | _ => .fail
      | _, _ => .fail
    | .builtin .append => match c.args.toList, c.argTypes.toList with
      | [x, y], [ty, ty'] => match P.underlying ty', P.underlying ty with
        | some (.int _), some (.slice el) => match zeroOf P el, szT P el with
          | some z, some sz => if P.bytesOf el ≤ 2 ^ 16 ∧ z.length = sz ∧ 0 < sz then .e2 (apNK sz z) (cOpd nt x) (cOpd nt y) d n else .fail
          | _, _ => .fail
        | some (.int _), _ => .fail
        | some _, some (.slice el) => match szT P el with
          | some sz => if P.bytesOf el ≤ 2 ^ 16 ∧ (zeroOf P el).map List.length = some sz then .e2 (apK2 sz) (cOpd nt x) (cOpd nt y) d n else .fail
          | none => .fail
        | _, _ => .fail
      | _, _ => .fail
    | .builtin .copy => match c.args.toList, c.argTypes.toList with
      | [x, y], ty :: _ => match P.underlying ty with
        | some (.slice el) => match szT P el with
          | some sz => .e2 (cpK sz) (cOpd nt x) (cOpd nt y) d n
          | none => .fail
        | _ => .fail
      | _, _ => .fail
    | .builtin .clear => match c.args.toList, c.argTypes.toList with
      | [x], [ty] => match P.underlying ty with
        | some (.slice el) => match zeroOf P el with
          | some z => .e1 (clK z) (cOpd nt x) d n
          | none => .fail
        | _ => .fail
      | _, _ => .fail
    | .builtin .cap => match c.args.toList, c.argTypes.toList with
      | [x], [ty] => match P.underlying ty with
        | some (.slice _) => .p1 capK (cOpd nt x) d n
        | _ => .fail
      | _, _ => .fail
    | .builtin .max => .pn maxK (c.args.toList.map (cOpd nt)) d n
    | .builtin .min => .pn minK (c.args.toList.map (cOpd nt)) d n
    | _ => .fail
  | _ => .fail

/-- Where the guard lies. -/
noncomputable def guardOf (ops : Array Oper) (o : Oper) : Option (Option (Loc × Bool)) := match o.guard with
  | none => some none
  | some (j, b) => match (ops[j]?).bind (·.dst) with
    | some d => if d < nt then some (some (locOf d, b)) else none
    | none => none
/-- One operation with its guard. -/
noncomputable def cOp1 (ops : Array Oper) (o : Oper) (n : Ins) : Ins :=
  match guardOf nt ops o with
    | none => .fail
    | some none => cOp P nt o n
    | some (some (l, b)) => .gd l b (cOp P nt o n) (.cst .un (cDst nt o.dst) n)
/-- A row of operations, ahead of e; sn: the store is kept ahead of each. -/
noncomputable def cOps (sn : Bool) (ops : Array Oper) : List Oper → Ins → Ins
  | [], e => e
  | o :: r, e => match sn with
    | true => .snap (cOp1 P nt ops o (cOps sn ops r e))
    | false => cOp1 P nt ops o (cOps sn ops r e)
end
end Go.Vm

/-! The fast evaluator's words say what A's words say. -/
namespace Go.Vm
variable [Gl]

theorem natK_eq (n : Nat) (k : Nat → Bool) : natK n k = k n := by cases n <;> rfl
theorem okI_eq (kd : IntKind) (n : Int) (k : V → Bool) : okI kd n k = k (.int kd n) := by
  cases n with
  | ofNat m => cases m <;> rfl
  | negSucc m => cases m <;> rfl
theorem okB_eq (b : Bool) (k : V → Bool) : okB b k = k (.bool b) := by cases b <;> rfl
theorem force_eq (v : V) (k : V → Bool) : force v k = k v := by
  cases v with
  | bool b => exact okB_eq b k
  | int kd n => exact okI_eq kd n k
  | ptr i o => exact natK_eq o _
  | ref e i o n =>
    show natK e _ = _
    rw [natK_eq, natK_eq, natK_eq]
  | _ => rfl
theorem optK_some {r : Option V} {k : V → Bool} (h : optK r k = true) : ∃ v, r = some v ∧ k v = true := by
  cases r with
  | none => cases h
  | some v => exact ⟨v, rfl, by rw [← force_eq v k]; exact h⟩
theorem listK_eq : ∀ (l : List V) (k : List V → Bool), listK l k = k l
  | [], _ => rfl
  | v :: r, k => by
    show force v (fun v => listK r fun r => k (v :: r)) = _
    rw [force_eq, listK_eq r]
theorem kindEq_eq (k j : IntKind) : kindEq k j = decide (k = j) := by cases k <;> cases j <;> rfl
theorem intEq_eq (a b : Int) : intEq a b = (a == b) := by
  rw [Bool.eq_iff_iff]
  cases a <;> cases b <;> simp [intEq, Nat.beq_eq] <;> omega
theorem intLe_eq (a b : Int) : intLe a b = decide (a ≤ b) := by
  rw [Bool.eq_iff_iff]
  cases a <;> cases b <;> simp [intLe, Nat.ble_eq] <;> omega
theorem notB_eq (b : Bool) : notB b = !b := by cases b <;> rfl
theorem strEq_eq : ∀ (a b : List Nat), strEq a b = (a == b)
  | [], [] => rfl
  | [], _ :: _ => rfl
  | _ :: _, [] => rfl
  | x :: xs, y :: ys => by
    show @Bool.rec (fun _ => List Nat → (List Nat → Bool) → Bool) (fun _ _ => false) (fun ys ih => ih ys) (Nat.beq x y) ys (fun b => strEq xs b) = _
    rw [List.cons_beq_cons]
    by_cases h : x = y
    · subst h; simp [strEq_eq xs ys]
    · have : Nat.beq x y = false := by cases hb : Nat.beq x y with | false => rfl | true => exact absurd (Nat.eq_of_beq_eq_true hb) h
      rw [this]; simp [h]
theorem nthK_eq : ∀ (n : Nat) (l : List V) (f : Bool) (k : V → Bool), nthK l n f k = match l[n]? with | some v => k v | none => f
  | 0, [], _, _ => rfl
  | 0, _ :: _, _, _ => rfl
  | _ + 1, [], _, _ => rfl
  | n + 1, _ :: r, f, k => by
    show nthK r n f k = _
    rw [nthK_eq n r]; simp
theorem dropK_eq : ∀ (n : Nat) (l : List V) (f : Bool) (k : List V → Bool), dropK l n f k = if n ≤ l.length then k (l.drop n) else f
  | 0, l, _, k => by show k l = _; simp
  | _ + 1, [], f, _ => by show f = _; simp
  | n + 1, _ :: r, f, k => by
    show dropK r n f k = _
    rw [dropK_eq n r]; simp
theorem takeK_eq : ∀ (n : Nat) (l : List V) (f : Bool) (k : List V → Bool), takeK l n f k = if n ≤ l.length then k (l.take n) else f
  | 0, l, _, k => by show k [] = _; simp
  | _ + 1, [], f, _ => by show f = _; simp
  | n + 1, v :: r, f, k => by
    show takeK r n f (fun r => k (v :: r)) = _
    rw [takeK_eq n r]; simp
theorem overK0_eq : ∀ (vs l : List V) (k : List V → Bool), overK 0 vs l k = if vs.length ≤ l.length then k (over l 0 vs) else false
  | [], l, k => by show k l = _; simp [over]
  | v :: vs, [], k => by show false = _; simp
  | v :: vs, x :: r, k => by
    show overK 0 vs r (fun r => k (v :: r)) = _
    rw [overK0_eq vs r]; simp [over]
theorem overK_eq : ∀ (n : Nat) (vs l : List V) (k : List V → Bool), overK n vs l k = if n + vs.length ≤ l.length then k (over l n vs) else false
  | 0, vs, l, k => by rw [overK0_eq]; simp
  | n + 1, vs, [], k => by
    show false = _
    rw [if_neg (by simp)]
  | n + 1, vs, x :: r, k => by
    show overK n vs r (fun r => k (x :: r)) = _
    rw [overK_eq n vs r]
    by_cases h : n + vs.length ≤ r.length
    · rw [if_pos h, if_pos (by simp; omega)]
      simp [over, show n + 1 + vs.length = (n + vs.length) + 1 by omega]
    · rw [if_neg h, if_neg (by simp; omega)]
theorem appK_eq : ∀ (l new : List V) (k : List V → Bool), appK l new k = k (l ++ new)
  | [], _, _ => rfl
  | v :: r, new, k => by
    show appK r new (fun r => k (v :: r)) = _
    rw [appK_eq r]; rfl
theorem lenL_eq : ∀ (l : List V), lenL l = l.length
  | [] => rfl
  | _ :: r => by show Nat.succ (lenL r) = _; rw [lenL_eq r]; rfl
theorem isLen_eq : ∀ (l : List V) (n : Nat), isLen l n = decide (l.length = n)
  | [], n => by cases n <;> rfl
  | _ :: r, 0 => by show false = _; simp
  | _ :: r, n + 1 => by show isLen r n = _; rw [isLen_eq r]; simp
theorem natsK_some : ∀ (n : Nat) (l : List Nat) {k : Nat → Bool}, natsK l n k = true → ∃ v, l[n]? = some v ∧ k v = true
  | 0, [], _, h => by cases h
  | 0, v :: _, _, h => ⟨v, rfl, h⟩
  | _ + 1, [], _, h => by cases h
  | n + 1, _ :: r, k, h => by
    have h : natsK r n k = true := h
    simpa using natsK_some n r h
theorem idxK_some {i : V} {k : Nat → Bool} (h : idxK i k = true) : ∃ n, asIdx i = some n ∧ k n = true := by
  cases i with
  | int kd n =>
    cases n with
    | ofNat m => exact ⟨m, by simp [asIdx], h⟩
    | negSucc m => cases h
  | _ => cases h
theorem wrap_small (kd : IntKind) (m : Nat) (h : small kd m = true) : kd.wrap (.ofNat m) = .ofNat m := by
  cases kd <;> (simp only [small, Nat.ble_eq] at h; simp [IntKind.wrap, IntKind.bits, IntKind.signed]; omega)
theorem wr_eq (kd : IntKind) (n : Int) (k : V → Bool) : wr kd n k = k (.int kd (kd.wrap n)) := by
  cases n with
  | negSucc m => exact okI_eq kd _ k
  | ofNat m =>
    show @Bool.rec (fun _ => Nat → IntKind → (V → Bool) → Bool) (fun m kd k => okI kd (kd.wrap (.ofNat m)) k) (fun m kd k => @Nat.rec (fun _ => IntKind → (V → Bool) → Bool) (fun kd k => k (.int kd (.ofNat 0))) (fun m _ kd k => k (.int kd (.ofNat (Nat.succ m)))) m kd k) (small kd m) m kd k = _
    cases hb : small kd m with
    | false => exact okI_eq kd _ k
    | true =>
      rw [wrap_small kd m hb]
      cases m <;> rfl

/-! ### plain operations -/
def P1 (f : K1) (g : V → Option V) : Prop := ∀ (x : V) (k : V → Bool), f x k = true → ∃ v, g x = some v ∧ k v = true
def P2 (f : K2) (g : V → V → Option V) : Prop := ∀ (x y : V) (k : V → Bool), f x y k = true → ∃ v, g x y = some v ∧ k v = true
def P3 (f : K3) (g : V → V → V → Option V) : Prop := ∀ (x y z : V) (k : V → Bool), f x y z k = true → ∃ v, g x y z = some v ∧ k v = true
def PN (f : KN) (g : List V → Option V) : Prop := ∀ (xs : List V) (k : V → Bool), f xs k = true → ∃ v, g xs = some v ∧ k v = true
section
variable {P : Program} {ty : TypeId}
theorem int2_inv {F : IntKind → Int → Int → (V → Bool) → Bool} {f : K2}
    (hf : ∀ x y k, f x y k = true → ∃ kd a b, x = .int kd a ∧ y = .int kd b ∧ F kd a b k = true) {op : BinOp} (hop : op ≠ .shl ∧ op ≠ .shr)
    (hF : ∀ kd a b k, F kd a b k = true → ∃ v, intV op kd a b = some v ∧ k v = true) : P2 f (binV P op ty) := by
  intro x y k h
  obtain ⟨kd, a, b, rfl, rfl, h'⟩ := hf x y k h
  obtain ⟨v, h1, h2⟩ := hF kd a b k h'
  refine ⟨v, ?_, h2⟩
  cases op <;> first | exact absurd rfl hop.1 | exact absurd rfl hop.2 | (simp only [binV, if_true]; exact h1)
end
theorem iAdd_inv (x y : V) (k : V → Bool) (h : iAdd x y k = true) : ∃ kd a b, x = .int kd a ∧ y = .int kd b ∧ wr kd (Int.add a b) k = true := by
  cases x with
  | int kd a =>
    cases y with
    | int j b =>
      have h : @Bool.rec (fun _ => IntKind → Int → Int → (V → Bool) → Bool) (fun _ _ _ _ => false) (fun kd a b k => wr kd (Int.add a b) k) (kindEq kd j) kd a b k = true := h
      rw [kindEq_eq] at h
      by_cases e : kd = j
      · subst e; exact ⟨kd, a, b, rfl, rfl, by simpa using h⟩
      · simp [e] at h
    | _ => cases h
  | _ => cases h
theorem iSub_inv (x y : V) (k : V → Bool) (h : iSub x y k = true) : ∃ kd a b, x = .int kd a ∧ y = .int kd b ∧ wr kd (Int.sub a b) k = true := by
  cases x with
  | int kd a =>
    cases y with
    | int j b =>
      have h : @Bool.rec (fun _ => IntKind → Int → Int → (V → Bool) → Bool) (fun _ _ _ _ => false) (fun kd a b k => wr kd (Int.sub a b) k) (kindEq kd j) kd a b k = true := h
      rw [kindEq_eq] at h
      by_cases e : kd = j
      · subst e; exact ⟨kd, a, b, rfl, rfl, by simpa using h⟩
      · simp [e] at h
    | _ => cases h
  | _ => cases h
theorem iMul_inv (x y : V) (k : V → Bool) (h : iMul x y k = true) : ∃ kd a b, x = .int kd a ∧ y = .int kd b ∧ wr kd (Int.mul a b) k = true := by
  cases x with
  | int kd a =>
    cases y with
    | int j b =>
      have h : @Bool.rec (fun _ => IntKind → Int → Int → (V → Bool) → Bool) (fun _ _ _ _ => false) (fun kd a b k => wr kd (Int.mul a b) k) (kindEq kd j) kd a b k = true := h
      rw [kindEq_eq] at h
      by_cases e : kd = j
      · subst e; exact ⟨kd, a, b, rfl, rfl, by simpa using h⟩
      · simp [e] at h
    | _ => cases h
  | _ => cases h
theorem iEq_inv (x y : V) (k : V → Bool) (h : iEq x y k = true) : ∃ kd a b, x = .int kd a ∧ y = .int kd b ∧ okB (intEq a b) k = true := by
  cases x with
  | int kd a =>
    cases y with
    | int j b =>
      have h : @Bool.rec (fun _ => IntKind → Int → Int → (V → Bool) → Bool) (fun _ _ _ _ => false) (fun kd a b k => okB (intEq a b) k) (kindEq kd j) kd a b k = true := h
      rw [kindEq_eq] at h
      by_cases e : kd = j
      · subst e; exact ⟨kd, a, b, rfl, rfl, by simpa using h⟩
      · simp [e] at h
    | _ => cases h
  | _ => cases h
theorem iNe_inv (x y : V) (k : V → Bool) (h : iNe x y k = true) : ∃ kd a b, x = .int kd a ∧ y = .int kd b ∧ okB (notB (intEq a b)) k = true := by
  cases x with
  | int kd a =>
    cases y with
    | int j b =>
      have h : @Bool.rec (fun _ => IntKind → Int → Int → (V → Bool) → Bool) (fun _ _ _ _ => false) (fun kd a b k => okB (notB (intEq a b)) k) (kindEq kd j) kd a b k = true := h
      rw [kindEq_eq] at h
      by_cases e : kd = j
      · subst e; exact ⟨kd, a, b, rfl, rfl, by simpa using h⟩
      · simp [e] at h
    | _ => cases h
  | _ => cases h
theorem iLe_inv (x y : V) (k : V → Bool) (h : iLe x y k = true) : ∃ kd a b, x = .int kd a ∧ y = .int kd b ∧ okB (intLe a b) k = true := by
  cases x with
  | int kd a =>
    cases y with
    | int j b =>
      have h : @Bool.rec (fun _ => IntKind → Int → Int → (V → Bool) → Bool) (fun _ _ _ _ => false) (fun kd a b k => okB (intLe a b) k) (kindEq kd j) kd a b k = true := h
      rw [kindEq_eq] at h
      by_cases e : kd = j
      · subst e; exact ⟨kd, a, b, rfl, rfl, by simpa using h⟩
      · simp [e] at h
    | _ => cases h
  | _ => cases h
theorem iGe_inv (x y : V) (k : V → Bool) (h : iGe x y k = true) : ∃ kd a b, x = .int kd a ∧ y = .int kd b ∧ okB (intLe b a) k = true := by
  cases x with
  | int kd a =>
    cases y with
    | int j b =>
      have h : @Bool.rec (fun _ => IntKind → Int → Int → (V → Bool) → Bool) (fun _ _ _ _ => false) (fun kd a b k => okB (intLe b a) k) (kindEq kd j) kd a b k = true := h
      rw [kindEq_eq] at h
      by_cases e : kd = j
      · subst e; exact ⟨kd, a, b, rfl, rfl, by simpa using h⟩
      · simp [e] at h
    | _ => cases h
  | _ => cases h
theorem iLt_inv (x y : V) (k : V → Bool) (h : iLt x y k = true) : ∃ kd a b, x = .int kd a ∧ y = .int kd b ∧ okB (notB (intLe b a)) k = true := by
  cases x with
  | int kd a =>
    cases y with
    | int j b =>
      have h : @Bool.rec (fun _ => IntKind → Int → Int → (V → Bool) → Bool) (fun _ _ _ _ => false) (fun kd a b k => okB (notB (intLe b a)) k) (kindEq kd j) kd a b k = true := h
      rw [kindEq_eq] at h
      by_cases e : kd = j
      · subst e; exact ⟨kd, a, b, rfl, rfl, by simpa using h⟩
      · simp [e] at h
    | _ => cases h
  | _ => cases h
theorem iGt_inv (x y : V) (k : V → Bool) (h : iGt x y k = true) : ∃ kd a b, x = .int kd a ∧ y = .int kd b ∧ okB (notB (intLe a b)) k = true := by
  cases x with
  | int kd a =>
    cases y with
    | int j b =>
      have h : @Bool.rec (fun _ => IntKind → Int → Int → (V → Bool) → Bool) (fun _ _ _ _ => false) (fun kd a b k => okB (notB (intLe a b)) k) (kindEq kd j) kd a b k = true := h
      rw [kindEq_eq] at h
      by_cases e : kd = j
      · subst e; exact ⟨kd, a, b, rfl, rfl, by simpa using h⟩
      · simp [e] at h
    | _ => cases h
  | _ => cases h
section
variable {P : Program} {ty : TypeId}
theorem iAdd_ok : P2 iAdd (binV P .add ty) := int2_inv iAdd_inv ⟨nofun, nofun⟩ fun kd a b k h => by rw [wr_eq] at h; exact ⟨_, rfl, h⟩
theorem iSub_ok : P2 iSub (binV P .sub ty) := int2_inv iSub_inv ⟨nofun, nofun⟩ fun kd a b k h => by rw [wr_eq] at h; exact ⟨_, rfl, h⟩
theorem iMul_ok : P2 iMul (binV P .mul ty) := int2_inv iMul_inv ⟨nofun, nofun⟩ fun kd a b k h => by rw [wr_eq] at h; exact ⟨_, rfl, h⟩
theorem iEq_ok : P2 iEq (binV P .eql ty) := int2_inv iEq_inv ⟨nofun, nofun⟩ fun kd a b k h => by rw [okB_eq, intEq_eq] at h; exact ⟨_, rfl, h⟩
theorem iNe_ok : P2 iNe (binV P .neq ty) := int2_inv iNe_inv ⟨nofun, nofun⟩ fun kd a b k h => by rw [okB_eq, intEq_eq, notB_eq] at h; exact ⟨_, rfl, h⟩
theorem iLe_ok : P2 iLe (binV P .leq ty) := int2_inv iLe_inv ⟨nofun, nofun⟩ fun kd a b k h => by rw [okB_eq, intLe_eq] at h; exact ⟨_, rfl, h⟩
theorem iGe_ok : P2 iGe (binV P .geq ty) := int2_inv iGe_inv ⟨nofun, nofun⟩ fun kd a b k h => by rw [okB_eq, intLe_eq] at h; exact ⟨_, rfl, h⟩
theorem iLt_ok : P2 iLt (binV P .lss ty) := int2_inv iLt_inv ⟨nofun, nofun⟩ fun kd a b k h => by rw [okB_eq, intLe_eq, notB_eq] at h; exact ⟨_, rfl, by rw [show decide (a < b) = !decide (b ≤ a) by rw [Bool.eq_iff_iff]; simp]; exact h⟩
theorem iGt_ok : P2 iGt (binV P .gtr ty) := int2_inv iGt_inv ⟨nofun, nofun⟩ fun kd a b k h => by rw [okB_eq, intLe_eq, notB_eq] at h; exact ⟨_, rfl, by rw [show decide (a > b) = !decide (a ≤ b) by rw [Bool.eq_iff_iff]; simp]; exact h⟩
theorem sEq_ok : P2 sEq (binV P .eql ty) := by
  intro x y k h
  cases x with
  | str a =>
    cases y with
    | str b =>
      have h : okB (strEq a b) k = true := h
      rw [okB_eq, strEq_eq] at h
      exact ⟨_, rfl, h⟩
    | _ => cases h
  | _ => cases h
theorem sNe_ok : P2 sNe (binV P .neq ty) := by
  intro x y k h
  cases x with
  | str a =>
    cases y with
    | str b =>
      have h : okB (notB (strEq a b)) k = true := h
      rw [okB_eq, strEq_eq, notB_eq] at h
      exact ⟨_, rfl, h⟩
    | _ => cases h
  | _ => cases h
theorem slow2_ok {op : BinOp} : P2 (slow2 P op ty) (binV P op ty) := fun _ _ _ h => optK_some h
theorem cBin_ok {op : BinOp} : P2 (cBin P op ty) (binV P op ty) := by
  unfold cBin
  split
  · cases op <;> first | exact iAdd_ok | exact iSub_ok | exact iMul_ok | exact iEq_ok | exact iNe_ok | exact iLt_ok | exact iLe_ok | exact iGt_ok | exact iGe_ok | exact slow2_ok
  · split
    · cases op <;> first | exact sEq_ok | exact sNe_ok | exact slow2_ok
    · exact slow2_ok
theorem idK_ok : P1 idK some := fun x _ h => ⟨x, rfl, h⟩
theorem cUn_ok {op : UnOp} : P1 (cUn op) (unV op) := by
  intro x k h
  cases op with
  | not =>
    cases x with
    | bool b =>
      have h : okB (notB b) k = true := h
      rw [okB_eq, notB_eq] at h
      exact ⟨_, rfl, h⟩
    | _ => cases h
  | _ => exact optK_some h
theorem cvK_ok {a b : TypeId} {kd : IntKind} (hn : numConv P a b = some kd) (S : St) : P1 (cvK kd) (fun x => opConv P a b x S) := by
  intro x k h
  unfold numConv at hn
  split at hn
  · rename_i j1 j2 h1 h2
    injection hn with hn; subst hn
    cases x with
    | int kd n =>
      have h : wr j2 n k = true := h
      rw [wr_eq] at h
      exact ⟨_, by simp only [opConv, h1, h2], h⟩
    | _ => cases h
  · cases hn
theorem pickK_ok : P3 pickK opPick := by
  intro c a b k h
  cases c with
  | bool c => cases c <;> exact ⟨_, rfl, h⟩
  | _ => cases h
theorem nilK_ok : P1 nilK opNilCheck := by
  intro x k h
  cases x <;> first | exact ⟨_, rfl, h⟩ | cases h
theorem faK_ok {off : Nat} : P1 (faK off) (addrAdd off) := by
  intro x k h
  cases x with
  | ptr i o =>
    have h : natK (o + off) (fun o => k (.ptr i o)) = true := h
    rw [natK_eq] at h
    exact ⟨_, rfl, h⟩
  | ipt c =>
    have h : dropK c off false (fun c => k (.ipt c)) = true := h
    rw [dropK_eq] at h
    split at h
    · rename_i hl; exact ⟨_, by simp only [addrAdd, if_pos hl], h⟩
    · cases h
  | _ => cases h
theorem extK_ok {i : Nat} : P1 (extK i) (fun x => opExtract x i) := by
  intro x k h
  cases x with
  | tup c =>
    have h : nthK c i false k = true := h
    rw [nthK_eq] at h
    split at h
    · rename_i v hv; exact ⟨v, hv, h⟩
    · cases h
  | _ => cases h
theorem fldK_ok {off : Nat} : P1 (fldK off) (fun x => match x with | .agg c => c[off]? | _ => none) := by
  intro x k h
  cases x with
  | agg c =>
    have h : nthK c off false k = true := h
    rw [nthK_eq] at h
    split at h
    · rename_i v hv; exact ⟨v, hv, h⟩
    · cases h
  | _ => cases h
theorem fldA_ok {off sz : Nat} : P1 (fldA off sz) (fun x => match x with | .agg cs => if off + sz ≤ cs.length then some (.agg ((cs.drop off).take sz)) else none | _ => none) := by
  intro x k h
  cases x with
  | agg c =>
    have h : dropK c off false (fun c => takeK c sz false fun c => k (.agg c)) = true := h
    rw [dropK_eq] at h
    split at h
    · rename_i h1
      rw [takeK_eq] at h
      split at h
      · rename_i h2
        refine ⟨_, ?_, h⟩
        simp only [List.length_drop] at h2
        show (if off + sz ≤ c.length then some (V.agg ((c.drop off).take sz)) else none) = _
        rw [if_pos (by omega)]
      · cases h
    · cases h
  | _ => cases h
theorem ixK_ok {sz : Nat} : P2 (ixK sz) (fun x i => match asIdx i with
    | some i => match x with
      | .ref es id off n => if i < n ∧ es = sz then some (.ptr id (off + i * sz)) else none
      | .imm es l => if es = sz then (match l[i]? with
        | some v => some (.ipt v.cells)
        | none => none) else none
      | _ => none
    | none => none) := by
  intro x i k h
  cases x with
  | ref e id o n =>
    have h : idxK i (fun i => @Bool.rec (fun _ => Id → Nat → Nat → Nat → (V → Bool) → Bool) (fun _ _ _ _ _ => false) (fun id o i sz k => natK (Nat.add o (Nat.mul i sz)) fun o => k (.ptr id o)) (@Bool.rec (fun _ => Bool) false (Nat.beq e sz) (Nat.ble (Nat.succ i) n)) id o i sz k) = true := h
    obtain ⟨m, hm, h⟩ := idxK_some h
    cases h1 : Nat.ble (Nat.succ m) n with
    | false => rw [h1] at h; cases h
    | true =>
      cases h2 : Nat.beq e sz with
      | false => rw [h1, h2] at h; cases h
      | true =>
        rw [h1, h2] at h
        have h : natK (o + m * sz) (fun o => k (.ptr id o)) = true := h
        rw [natK_eq] at h
        have e1 : m < n := Nat.le_of_ble_eq_true h1
        have e2 : e = sz := by simpa using h2
        exact ⟨_, by simp only [hm, e1, e2, and_self, if_true], h⟩
  | imm e l =>
    have h : idxK i (fun i => @Bool.rec (fun _ => List V → Nat → (V → Bool) → Bool) (fun _ _ _ => false) (fun l i k => nthK l i false fun v => k (.ipt (V.cells v))) (Nat.beq e sz) l i k) = true := h
    obtain ⟨m, hm, h⟩ := idxK_some h
    cases h2 : Nat.beq e sz with
    | false => rw [h2] at h; cases h
    | true =>
      rw [h2] at h
      have h : nthK l m false (fun v => k (.ipt (V.cells v))) = true := h
      rw [nthK_eq] at h
      have e2 : e = sz := by simpa using h2
      split at h
      · rename_i v hv; exact ⟨_, by simp only [hm, e2, if_true, hv], h⟩
      · cases h
  | _ => cases h
theorem iaK_ok {n sz : Nat} : P2 (iaK n sz) (fun x i => match asIdx i with
    | some i => if i < n then addrAdd (i * sz) x else none
    | none => none) := by
  intro x i k h
  obtain ⟨m, hm, h⟩ := idxK_some h
  cases h1 : Nat.ble (Nat.succ m) n with
  | false => rw [h1] at h; cases h
  | true =>
    rw [h1] at h
    obtain ⟨v, hv, h⟩ := faK_ok (off := m * sz) x k h
    have e1 : m < n := Nat.le_of_ble_eq_true h1
    exact ⟨v, by simp only [hm, e1, if_true]; exact hv, h⟩
theorem isK_ok : P2 isK (fun x i => match asIdx i with
    | some i => match x with
      | .str s => match s[i]? with
        | some b => some (.int .u8 b)
        | none => none
      | _ => none
    | none => none) := by
  intro x i k h
  cases x with
  | str s =>
    have h : idxK i (fun i => natsK s i fun b => k (.int .u8 (.ofNat b))) = true := h
    obtain ⟨m, hm, h⟩ := idxK_some h
    obtain ⟨b, hb, h⟩ := natsK_some _ _ h
    exact ⟨_, by simp only [hm, hb]; rfl, h⟩
  | _ => cases h
theorem slowIx_ok : P2 (slowIx P ty) (opIndex P ty) := fun _ _ _ h => optK_some h
end
end Go.Vm

/-! The words on the store. -/
namespace Go.Vm
variable [Gl]

def PL (f : KL) (g : V → St → Option V) : Prop := ∀ (x : V) (S : KS) (b : Bool) (k : V → Bool), f x S b k = match g x S.abs with | some v => k v | none => b
def PE1 (f : E1) (g : V → St → R) : Prop := ∀ (x : V) (S : KS) (k : V → KS → Bool), f x S k = true → ∃ (v : V) (S' : KS), g x S.abs = some (v, S'.abs) ∧ k v S' = true
def PE2 (f : E2) (g : V → V → St → R) : Prop := ∀ (x y : V) (S : KS) (k : V → KS → Bool), f x y S k = true → ∃ (v : V) (S' : KS), g x y S.abs = some (v, S'.abs) ∧ k v S' = true
def PEL (f : EL) (g : List V → St → R) : Prop := ∀ (x : List V) (S : KS) (k : V → KS → Bool), f x S k = true → ∃ (v : V) (S' : KS), g x S.abs = some (v, S'.abs) ∧ k v S' = true

theorem abs_get (S : KS) (i : Id) : S.abs.get i = getO i S.t := rfl
theorem abs_nx (S : KS) : S.abs.nx = S.nx := rfl
theorem head_drop (l : List V) (o : Nat) : (match l.drop o with | x :: _ => some x | [] => none) = l[o]? := by
  have : l[o]? = (l.drop o)[0]? := by simp
  rw [this]
  cases l.drop o <;> rfl

section
variable {P : Program} {ty : TypeId}
theorem ld1_ok (h : isAggT P ty = some false) : PL ld1 (opLoad P ty) := by
  intro x S b k
  have key : ∀ (l : List V), (match opLoad P ty (.ipt l) S.abs with | some v => k v | none => b) = match (match l with | x :: _ => some x | [] => none) with | some v => k v | none => b := by
    intro l; cases l <;> simp [opLoad, h, cellsAt]
  cases x with
  | ptr i o =>
    simp only [ld1]
    have e : opLoad P ty (.ptr i o) S.abs = match cellsAt S.abs (.ptr i o) with | some (x :: _) => some x | _ => none := by
      simp only [opLoad, h]
      cases cellsAt S.abs (.ptr i o) with
      | none => rfl
      | some l => cases l <;> rfl
    rw [e]
    simp only [cellsAt, abs_get]
    cases getO i S.t with
    | cells l fz anc =>
      show nthK l o b k = _
      rw [nthK_eq, ← head_drop]
      dsimp only
      cases l.drop o <;> rfl
    | stale l =>
      show nthK l o b k = _
      rw [nthK_eq, ← head_drop]
      dsimp only
      cases l.drop o <;> rfl
    | _ => rfl
  | ipt c =>
    show nthK c 0 b k = _
    rw [nthK_eq, key]
    cases c <;> rfl
  | _ => simp [opLoad, h, cellsAt] <;> rfl
theorem dropTake (sz : Nat) (hz : sz ≠ 0) (l : List V) (o : Nat) (b : Bool) (k : List V → Bool) :
    dropK l o b (fun l => takeK l sz b k) = if sz ≤ (l.drop o).length then k ((l.drop o).take sz) else b := by
  rw [dropK_eq]
  split
  · rw [takeK_eq]
  · rename_i h
    rw [if_neg]
    simp; omega
theorem ldN_ok (h : isAggT P ty = some true) (hz : P.cellsOf ty ≠ 0) : PL (ldN (P.cellsOf ty)) (opLoad P ty) := by
  intro x S b k
  have key : ∀ (x : V), opLoad P ty x S.abs = match cellsAt S.abs x with | some cs => if P.cellsOf ty ≤ cs.length then some (.agg (cs.take (P.cellsOf ty))) else none | none => none := by
    intro x; simp only [opLoad, h]
    cases cellsAt S.abs x <;> rfl
  rw [key]
  cases x with
  | ptr i o =>
    simp only [ldN]
    simp only [cellsAt, abs_get]
    cases getO i S.t with
    | cells l fz anc =>
      show dropK l o b (fun l => takeK l (P.cellsOf ty) b fun l => k (.agg l)) = _
      rw [dropTake _ hz]
      dsimp only
      split <;> rfl
    | stale l =>
      show dropK l o b (fun l => takeK l (P.cellsOf ty) b fun l => k (.agg l)) = _
      rw [dropTake _ hz]
      dsimp only
      split <;> rfl
    | _ => rfl
  | ipt c =>
    show takeK c (P.cellsOf ty) b (fun l => k (.agg l)) = _
    rw [takeK_eq]
    simp only [cellsAt]
    split <;> rfl
  | _ => rfl
end
/-- What len says of a slice. -/
def lenSl (x : V) (S : St) : Option V := match x with | .str _ => none | .nilm => none | .map _ => none | v => opLen v S
def lenSt (x : V) (_ : St) : Option V := match x with | .str s => some (.int .i64 s.length) | _ => none
theorem lenK_ok : PL lenK lenSl := by
  intro x S b k
  cases x with
  | imm e l =>
    show okI .i64 (.ofNat (lenL l)) k = _
    rw [okI_eq, lenL_eq]; rfl
  | _ => rfl
theorem lenS_ok : PL lenS lenSt := by
  intro x S b k
  cases x with
  | str s =>
    show okI .i64 (.ofNat s.length) k = _
    rw [okI_eq]; rfl
  | _ => rfl

theorem slowConv_ok {P : Program} {a b : TypeId} : PL (slowConv P a b) (opConv P a b) := by
  intro x S f k
  simp only [slowConv]
  cases opConv P a b x S.abs with
  | none => rfl
  | some v => exact force_eq v k
theorem newK_ok {o : Ob} {S : KS} {k : Id → KS → Bool} (h : newK o S k = true) : ∃ (i : Id) (S' : KS), S.abs.new o = some (i, S'.abs) ∧ k i S' = true := by
  have h : @Ob.rec (fun _ => Ob → KS → (Id → KS → Bool) → Bool) (fun o S k => nextK S.nx fun n => putO S.nx o S.t fun t => k S.nx ⟨t, n⟩) (fun _ _ _ => false) (fun _ _ _ _ _ _ => false) (fun _ _ _ _ => false) (fun _ _ _ _ => false) (getO S.nx S.t) o S k = true := h
  cases hg : getO S.nx S.t with
  | free =>
    rw [hg] at h
    obtain ⟨n, hn, h⟩ := nextK_some (i := S.nx) (k := fun n => putO S.nx o S.t fun t => k S.nx ⟨t, n⟩) h
    rw [putO_eq] at h
    refine ⟨S.nx, ⟨setO S.nx o S.t, n⟩, ?_, h⟩
    simp only [St.new, abs_get, abs_nx, hg, hn]
    congr 3
    funext j
    exact (getO_setO S.nx j o S.t).symm
  | _ => rw [hg] at h; cases h
theorem alocK_ok : PEL alocK opAlloc := by
  intro z S k h
  obtain ⟨i, S', e, h⟩ := newK_ok h
  exact ⟨_, S', by simp only [opAlloc, e], h⟩
theorem rowK_ok {es n : Nat} : PEL (rowK es n) (opRow es n) := by
  intro z S k h
  obtain ⟨i, S', e, h⟩ := newK_ok h
  exact ⟨_, S', by simp only [opRow, e], h⟩
theorem okCells_iff {v : V} (h : okCells v = true) : v ≠ .any ∧ ∀ l, v ≠ .tup l := by
  cases v with
  | any => cases h
  | tup l => cases h
  | _ => exact ⟨nofun, nofun⟩
theorem isCellK_eq (v : V) : isCellK v = v.isCell := by cases v <;> rfl
theorem boxK_ok : PE1 boxK (fun x S => match x with | .any => none | .tup _ => none | v => opAlloc v.cells S) := by
  intro x S k h
  have h : @Bool.rec (fun _ => V → KS → (V → KS → Bool) → Bool) (fun _ _ _ => false) (fun x S k => alocK (V.cells x) S k) (okCells x) x S k = true := h
  cases ho : okCells x with
  | false => rw [ho] at h; cases h
  | true =>
    rw [ho] at h
    obtain ⟨v, S', e, h⟩ := alocK_ok (V.cells x) S k h
    obtain ⟨h1, h2⟩ := okCells_iff ho
    refine ⟨v, S', ?_, h⟩
    cases x <;> first | exact absurd rfl h1 | exact absurd rfl (h2 _) | exact e
theorem selEq_eq (a b : Sel) : selEq a b = decide (a = b) := by cases a <;> cases b <;> rfl
theorem and_rec {a b : Bool} : @Bool.rec (fun _ => Bool) false a b = (b && a) := by cases b <;> rfl
theorem idEq_eq (i j : Id) : idEq i j = decide (i = j) := by
  cases i with
  | mk a0 a1 a2 a3 a4 a5 a6 a7 ap =>
    cases j with
    | mk b0 b1 b2 b3 b4 b5 b6 b7 bp =>
      simp only [idEq, selEq_eq, and_rec]
      rw [Bool.eq_iff_iff]
      simp only [Bool.and_eq_true, decide_eq_true_eq, Id.mk.injEq, Nat.beq_eq]
      constructor
      · rintro ⟨hp, h7, h6, h5, h4, h3, h2, h1, h0⟩; exact ⟨h0, h1, h2, h3, h4, h5, h6, h7, hp⟩
      · rintro ⟨h0, h1, h2, h3, h4, h5, h6, h7, hp⟩; exact ⟨hp, h7, h6, h5, h4, h3, h2, h1, h0⟩
theorem noId_eq : ∀ (l : List Id) (i : Id), noId i l = decide (i ∉ l)
  | [], _ => by show true = _; simp
  | j :: r, i => by
    show @Bool.rec (fun _ => Id → (Id → Bool) → Bool) (fun i ih => ih i) (fun _ _ => false) (idEq i j) i (fun i => noId i r) = _
    rw [idEq_eq]
    by_cases e : i = j
    · subst e; simp
    · simp only [e, decide_false, noId_eq r]; simp [e]
theorem killK_eq : ∀ (l : List Id) (t : L8) (n : Id) (k : L8 → Bool), ∃ t', killK l t k = k t' ∧ killAll l (KS.abs ⟨t, n⟩) = KS.abs ⟨t', n⟩
  | [], t, n, k => ⟨t, rfl, rfl⟩
  | i :: r, t, n, k => by
    have e : killK (i :: r) t k = @Ob.rec (fun _ => Id → L8 → (L8 → (L8 → Bool) → Bool) → (L8 → Bool) → Bool) (fun _ S ih k => ih S k) (fun _ S ih k => ih S k) (fun _ _ _ _ S ih k => ih S k) (fun _ i S ih k => putO i .dead S fun S => ih S k) (fun _ _ S ih k => ih S k) (getO i t) i t (fun S k => killK r S k) k := rfl
    rw [e]
    simp only [killAll, abs_get]
    cases getO i t with
    | stale l =>
      show ∃ t', putO i .dead t (fun S => killK r S k) = k t' ∧ _
      rw [putO_eq]
      obtain ⟨t', h1, h2⟩ := killK_eq r (setO i .dead t) n k
      exact ⟨t', h1, by rw [← h2]; simp only []; rw [KS.abs_set]⟩
    | _ => exact killK_eq r t n k
theorem wrK_ok {x : V} {vs : List V} {S : KS} {k : V → KS → Bool} (h : wrK x vs S k = true) : ∃ (S' : KS), writeAt S.abs x vs = some S'.abs ∧ k .any S' = true := by
  cases x with
  | ptr i o =>
    have h : @Ob.rec (fun _ => Id → Nat → List V → KS → (V → KS → Bool) → Bool) (fun _ _ _ _ _ => false) (fun _ _ _ _ _ => false) (fun l fz anc => fun i o vs S k => @Bool.rec (fun _ => List V → Nat → List Id → Id → Nat → List V → KS → (V → KS → Bool) → Bool) (fun _ _ _ _ _ _ _ _ => false) (fun l fz anc i o vs S k => overK o vs l fun l => killK anc S.t fun t => putO i (.cells l fz []) t fun t => k .any ⟨t, S.nx⟩) (@Bool.rec (fun _ => Bool) false (noId i anc) (Nat.ble fz o)) l fz anc i o vs S k) (fun _ _ _ _ _ _ => false) (fun _ _ _ _ _ _ => false) (getO i S.t) i o vs S k = true := h
    simp only [writeAt, abs_get]
    cases hg : getO i S.t with
    | cells l fz anc =>
      rw [hg] at h
      have h : @Bool.rec (fun _ => List V → Nat → List Id → Id → Nat → List V → KS → (V → KS → Bool) → Bool) (fun _ _ _ _ _ _ _ _ => false) (fun l fz anc i o vs S k => overK o vs l fun l => killK anc S.t fun t => putO i (.cells l fz []) t fun t => k .any ⟨t, S.nx⟩) (@Bool.rec (fun _ => Bool) false (noId i anc) (Nat.ble fz o)) l fz anc i o vs S k = true := h
      rw [and_rec, noId_eq] at h
      cases hc : (Nat.ble fz o && decide (i ∉ anc)) with
      | false => rw [hc] at h; cases h
      | true =>
        rw [hc] at h
        have h : overK o vs l (fun l => killK anc S.t fun t => putO i (.cells l fz []) t fun t => k .any ⟨t, S.nx⟩) = true := h
        rw [overK_eq] at h
        split at h
        · rename_i hl
          obtain ⟨t', h1, h2⟩ := killK_eq anc S.t S.nx (fun t => putO i (.cells (over l o vs) fz []) t fun t => k .any ⟨t, S.nx⟩)
          rw [h1, putO_eq] at h
          simp only [Bool.and_eq_true, Nat.ble_eq, decide_eq_true_eq] at hc
          refine ⟨⟨setO i (.cells (over l o vs) fz []) t', S.nx⟩, ?_, h⟩
          simp only []
          rw [if_pos ⟨hc.1, hl, hc.2⟩, KS.abs_set, ← h2]
        · cases h
    | _ => rw [hg] at h; cases h
  | _ => cases h
section
variable {P : Program} {ty : TypeId}
theorem st1_ok (h : isAggT P ty = some false) (h1 : P.cellsOf ty = 1) : PE2 st1 (opStore P ty) := by
  intro x v S k hk
  have hk : @Bool.rec (fun _ => V → V → KS → (V → KS → Bool) → Bool) (fun _ _ _ _ => false) (fun x v S k => wrK x [v] S k) (isCellK v) x v S k = true := hk
  cases hc : isCellK v with
  | false => rw [hc] at hk; cases hk
  | true =>
    rw [hc] at hk
    obtain ⟨S', e, hk⟩ := wrK_ok hk
    rw [isCellK_eq] at hc
    exact ⟨_, S', by simp only [opStore, h, hc, h1, and_self, if_true, e], hk⟩
theorem stN_ok (h : isAggT P ty = some true) : PE2 (stN (P.cellsOf ty)) (opStore P ty) := by
  intro x v S k hk
  cases v with
  | agg c =>
    have hk : @Bool.rec (fun _ => V → List V → KS → (V → KS → Bool) → Bool) (fun _ _ _ _ => false) (fun x c S k => wrK x c S k) (isLen c (P.cellsOf ty)) x c S k = true := hk
    rw [isLen_eq] at hk
    by_cases hl : c.length = P.cellsOf ty
    · simp only [hl, decide_true] at hk
      obtain ⟨S', e, hk⟩ := wrK_ok hk
      exact ⟨_, S', by simp only [opStore, h, hl, if_true, e], hk⟩
    · simp only [hl, decide_false] at hk; cases hk
  | _ => cases hk
theorem srcK_ok {es : Nat} {y : V} {S : KS} {k : Nat → List V → Bool} (h : srcK es y S k = true) : ∃ n l, srcCells es S.abs y = some (n, l) ∧ k n l = true := by
  have dt : ∀ (l : List V) (o n : Nat) (k : List V → Bool), dropK l o false (fun l => takeK l (n * es) false k) = true → o + n * es ≤ l.length ∧ k ((l.drop o).take (n * es)) = true := by
    intro l o n k h
    rw [dropK_eq] at h
    split at h
    · rw [takeK_eq] at h
      split at h
      · rename_i h1 h2; simp at h2; exact ⟨by omega, h⟩
      · cases h
    · cases h
  cases y with
  | nils => exact ⟨0, [], rfl, h⟩
  | ref e i o n =>
    have h : @Bool.rec (fun _ => Id → Nat → Nat → Nat → KS → (Nat → List V → Bool) → Bool) (fun _ _ _ _ _ _ => false) (fun i o n es S k => @Ob.rec (fun _ => Nat → Nat → Nat → (Nat → List V → Bool) → Bool) (fun _ _ _ _ => false) (fun _ _ _ _ => false) (fun l _ _ => fun o n es k => dropK l o false fun l => takeK l (Nat.mul n es) false fun l => k n l) (fun l => fun o n es k => dropK l o false fun l => takeK l (Nat.mul n es) false fun l => k n l) (fun _ _ _ _ _ => false) (getO i S.t) o n es k) (Nat.beq e es) i o n es S k = true := h
    cases hb : Nat.beq e es with
    | false => rw [hb] at h; cases h
    | true =>
      rw [hb] at h
      have he : e = es := Nat.eq_of_beq_eq_true hb
      subst he
      have h : @Ob.rec (fun _ => Nat → Nat → Nat → (Nat → List V → Bool) → Bool) (fun _ _ _ _ => false) (fun _ _ _ _ => false) (fun l _ _ => fun o n es k => dropK l o false fun l => takeK l (Nat.mul n es) false fun l => k n l) (fun l => fun o n es k => dropK l o false fun l => takeK l (Nat.mul n es) false fun l => k n l) (fun _ _ _ _ _ => false) (getO i S.t) o n e k = true := h
      simp only [srcCells, abs_get]
      cases hg : getO i S.t with
      | cells l fz anc =>
        rw [hg] at h
        obtain ⟨h1, h2⟩ := dt l o n _ h
        exact ⟨n, _, by simp only [h1, and_self, if_true], h2⟩
      | stale l =>
        rw [hg] at h
        obtain ⟨h1, h2⟩ := dt l o n _ h
        exact ⟨n, _, by simp only [h1, and_self, if_true], h2⟩
      | _ => rw [hg] at h; cases h
  | imm e l =>
    have h : @Bool.rec (fun _ => List V → (Nat → List V → Bool) → Bool) (fun _ _ => false) (fun l k => natK (lenL l) fun n => listK (flat l) fun l => k n l) (Nat.beq e es) l k = true := h
    cases hb : Nat.beq e es with
    | false => rw [hb] at h; cases h
    | true =>
      rw [hb] at h
      have h : natK (lenL l) (fun n => listK (flat l) fun l => k n l) = true := h
      rw [natK_eq, lenL_eq, listK_eq] at h
      exact ⟨_, _, by simp only [srcCells, Nat.eq_of_beq_eq_true hb, if_true], h⟩
  | _ => cases h
end
end Go.Vm

