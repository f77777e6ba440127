import GoSem.Core.Code
import GoSem.Core.Program
import GoSem.Core.Layout
import GoSem.Op.Equal
import GoSem.Core.Region
import Derived.WalkKit
import Derived.LoopNIn
import Derived.OrdersIn
import Derived.RangeFuncCalls
set_option autoImplicit false
set_option linter.unusedSectionVars false
set_option linter.unusedVariables false
set_option linter.unusedSimpArgs false
/-! A big-step semantics of loaded code over abstract objects. -/
namespace Go.Vm

/-- A digit, and the name of an object: eight digits, and a page. -/
inductive Sel where
  | q0 | q1 | q2 | q3
  deriving DecidableEq
structure Id where
  d0 : Sel
  d1 : Sel
  d2 : Sel
  d3 : Sel
  d4 : Sel
  d5 : Sel
  d6 : Sel
  d7 : Sel
  pg : Nat := 0
  deriving DecidableEq

/-- Abstract values. 'any' stands for whatever value. -/
inductive V where
  | any
  | bool (b : Bool)
  | int (k : IntKind) (n : Int)
  | str (s : List Nat)
  | nilp
  | ptr (id : Id) (off : Nat)
  | ipt (cells : List V)
  | nils
  | imm (es : Nat) (l : List V)
  | ref (es : Nat) (id : Id) (off len : Nat)
  | fn (f : FuncId) (first caps : List V)
  | nilf
  | agg (cells : List V)
  | tup (vs : List V)
  | nilm
  | map (id : Id)
  /-- The round of the loop whose record lies in block l. -/
  | yld (l : Nat)
  deriving Inhabited

/-- Objects: 'cells': a row of variables (the first fz are never written again; 'anc': elder objects that may lie in the same place); 'stale': one that has been appended to. -/
inductive Ob where
  | free
  | dead
  | cells (l : List V) (fz : Nat) (anc : List Id)
  | stale (l : List V)
  | map (l : List (V × V))

structure St where
  get : Id → Ob
  nx : Id

def Sel.next : Sel → Option Sel
  | .q0 => some .q1
  | .q1 => some .q2
  | .q2 => some .q3
  | .q3 => none
def Id.next (i : Id) : Option Id :=
  match i.d7.next with
  | some d => some { i with d7 := d }
  | none => match i.d6.next with
    | some d => some { i with d6 := d, d7 := .q0 }
    | none => match i.d5.next with
      | some d => some { i with d5 := d, d6 := .q0, d7 := .q0 }
      | none => match i.d4.next with
        | some d => some { i with d4 := d, d5 := .q0, d6 := .q0, d7 := .q0 }
        | none => match i.d3.next with
          | some d => some { i with d3 := d, d4 := .q0, d5 := .q0, d6 := .q0, d7 := .q0 }
          | none => match i.d2.next with
            | some d => some { i with d2 := d, d3 := .q0, d4 := .q0, d5 := .q0, d6 := .q0, d7 := .q0 }
            | none => match i.d1.next with
              | some d => some { i with d1 := d, d2 := .q0, d3 := .q0, d4 := .q0, d5 := .q0, d6 := .q0, d7 := .q0 }
              | none => match i.d0.next with
                | some d => some { d0 := d, d1 := .q0, d2 := .q0, d3 := .q0, d4 := .q0, d5 := .q0, d6 := .q0, d7 := .q0, pg := i.pg }
                | none => some { d0 := .q0, d1 := .q0, d2 := .q0, d3 := .q0, d4 := .q0, d5 := .q0, d6 := .q0, d7 := .q0, pg := i.pg + 1 }

def St.set (S : St) (i : Id) (o : Ob) : St := { S with get := fun j => if j = i then o else S.get j }
def St.new (S : St) (o : Ob) : Option (Id × St) :=
  match S.get S.nx with
  | .free => match S.nx.next with
    | some n => some (S.nx, { get := fun j => if j = S.nx then o else S.get j, nx := n })
    | none => none
  | _ => none

mutual
/-- A constant. -/
def ofValue : Value → V
  | .bool b => .bool b
  | .int k n => .int k n
  | .string s => .str (s.data.toList.map UInt8.toNat)
  | .pointer none => .nilp
  | .slice none 0 0 => .nils
  | .nilFunc => .nilf
  | .map none => .nilm
  | .func (.func f) ⟨a⟩ ⟨b⟩ => .fn f (ofValues a) (ofValues b)
  | .agg ⟨cs⟩ => if cs.all (fun v => match v with | .agg _ | .tuple _ => false | _ => true) then .agg (ofValues cs) else .any
  | .tuple ⟨cs⟩ => .tup (ofValues cs)
  | _ => .any
def ofValues : List Value → List V
  | [] => []
  | v :: vs => ofValue v :: ofValues vs
end

def V.cells : V → List V
  | .agg cs => cs
  | v => [v]
/-- May it lie in one cell? -/
def V.isCell : V → Bool
  | .any | .agg _ | .tup _ => false
  | _ => true

/-- A scalar. -/
def V.isFlat0 : V → Bool
  | .bool _ | .int .. | .str _ | .nilp | .nils | .nilf | .nilm => true
  | _ => false
/-- What the package-level variables hold (never to be written), or nothing that is known. -/
class Gl where
  gl : Nat → V
  flat : ∀ g, gl g = .any ∨ ∃ cs, gl g = .ipt cs ∧ cs.all V.isFlat0 = true
variable [Gl]
abbrev Tm : Type := Nat → V
def opd (t : Tm) : Operand → V
  | .tmp i => t i
  | .const v => ofValue v
  | .func f => .fn f [] []
  | .global g => Gl.gl g

/-! ### plain operations -/
def bytesLt : List Nat → List Nat → Bool
  | _, [] => false
  | [], _ :: _ => true
  | a :: x, b :: y => a < b || (a == b && bytesLt x y)

def intV (op : BinOp) (k : IntKind) (a b : Int) : Option V :=
  match op with
  | .add => some (.int k (k.wrap (a + b)))
  | .sub => some (.int k (k.wrap (a - b)))
  | .mul => some (.int k (k.wrap (a * b)))
  | .quo => if b = 0 then none else some (.int k (k.wrap (a.tdiv b)))
  | .rem => if b = 0 then none else some (.int k (a.tmod b))
  | .and => some (.int k (k.wrap (BitVec.ofInt k.bits a &&& BitVec.ofInt k.bits b).toNat))
  | .or => some (.int k (k.wrap (BitVec.ofInt k.bits a ||| BitVec.ofInt k.bits b).toNat))
  | .xor => some (.int k (k.wrap (BitVec.ofInt k.bits a ^^^ BitVec.ofInt k.bits b).toNat))
  | .andNot => some (.int k (k.wrap (BitVec.ofInt k.bits a &&& ~~~ BitVec.ofInt k.bits b).toNat))
  | .eql => some (.bool (a == b))
  | .neq => some (.bool (a != b))
  | .lss => some (.bool (a < b))
  | .leq => some (.bool (a ≤ b))
  | .gtr => some (.bool (a > b))
  | .geq => some (.bool (a ≥ b))
  | _ => none
def shiftV (op : BinOp) (k : IntKind) (a b : Int) : Option V :=
  if b < 0 then none else
  match op with
  | .shl => some (.int k (k.wrap (a * 2 ^ (min b.toNat k.bits))))
  | .shr => some (.int k (a.fdiv (2 ^ (min b.toNat k.bits))))
  | _ => none

section
variable (P : Program)

/-- == of scalars of a type. -/
def scalarEq (d : TypeDesc) (x y : V) : Option Bool :=
  match d with
  | .bool => match x, y with
    | .bool a, .bool b => some (a == b)
    | _, _ => none
  | .int _ => match x, y with
    | .int k a, .int j b => if k = j then some (a == b) else none
    | _, _ => none
  | .string => match x, y with
    | .str a, .str b => some (a == b)
    | _, _ => none
  | .pointer _ => match x, y with
    | .nilp, .nilp => some true
    | .nilp, .ptr .. => some false
    | .nilp, .ipt .. => some false
    | .ptr .., .nilp => some false
    | .ipt .., .nilp => some false
    | _, _ => none
  | .slice _ => match x, y with
    | .nils, .nils => some true
    | .nils, .imm .. => some false
    | .nils, .ref .. => some false
    | .imm .., .nils => some false
    | .ref .., .nils => some false
    | _, _ => none
  | .func .. => match x, y with
    | .nilf, .nilf => some true
    | .nilf, .fn .. => some false
    | .fn .., .nilf => some false
    | _, _ => none
  | .map .. => match x, y with
    | .nilm, .nilm => some true
    | .nilm, .map .. => some false
    | .map .., .nilm => some false
    | _, _ => none
  | _ => none
/-- The fields of two structs, none of them a struct, an array or '_'. -/
def fieldsEq : List Field → List V → List V → Option Bool
  | [], _, _ => some true
  | f :: fs, xs, ys => if f.name = "_" then none else
    match P.underlying f.type, xs[f.offset]?, ys[f.offset]? with
    | some d, some x, some y => match scalarEq d x y with
      | some true => fieldsEq fs xs ys
      | some false => some false
      | none => none
    | _, _, _ => none
/-- == of values of a type. -/
def typedEq (t : TypeId) (x y : V) : Option Bool :=
  match P.underlying t with
  | some (.struct fs) => match x, y with
    | .agg xs, .agg ys => if P.stoodInHeld t then none else fieldsEq P fs.toList xs ys
    | _, _ => none
  | some d => scalarEq d x y
  | none => none
def eqV (op : BinOp) (t : TypeId) (x y : V) : Option V :=
  match op with
  | .eql => match typedEq P t x y with
    | some b => some (.bool b)
    | none => none
  | .neq => match typedEq P t x y with
    | some b => some (.bool (!b))
    | none => none
  | _ => none

def binV (op : BinOp) (t : TypeId) (x y : V) : Option V :=
  match x with
  | .int k a => match y with
    | .int j b => match op with
      | .shl | .shr => shiftV op k a b
      | op => if k = j then intV op k a b else none
    | _ => none
  | .str a => match y with
    | .str b => match op with
      | .add => if (a.length + b.length : Nat) ≤ 2 ^ 40 then some (.str (a ++ b)) else none
      | .eql => some (.bool (a == b))
      | .neq => some (.bool (!(a == b)))
      | .lss => some (.bool (bytesLt a b))
      | .leq => some (.bool (bytesLt a b || a == b))
      | .gtr => some (.bool (!(bytesLt a b || a == b)))
      | .geq => some (.bool (!bytesLt a b))
      | _ => none
    | _ => none
  | .agg xs => if P.eqGuardType P.depth t then none else eqV P op t (.agg xs) y
  | x => eqV P op t x y

def unV (op : UnOp) (x : V) : Option V :=
  match op, x with
  | .not, .bool b => some (.bool !b)
  | .neg, .int k n => some (.int k (k.wrap (0 - n)))
  | .xor, .int k n => some (.int k (k.wrap (BitVec.ofInt k.bits (if k.signed then -1 else k.max) ^^^ BitVec.ofInt k.bits n).toNat))
  | _, _ => none

def isAggT (t : TypeId) : Option Bool :=
  match P.underlying t with
  | some (.struct _) | some (.array ..) => some true
  | some _ => some false
  | none => none
/-- The cells of a type's zero value. -/
def zeroOf (t : TypeId) : Option (List V) :=
  match P.info? t with
  | some i => match i.zero with
    | some z => if z.cells.toList.all (fun v => match v with | .agg _ | .tuple _ => false | _ => true) then some (ofValues z.cells.toList) else none
    | none => none
  | none => none

abbrev R : Type := Option (V × St)
def ret1 (v : Option V) (S : St) : R := match v with
  | some v => some (v, S)
  | none => none

def opPick (c a b : V) : Option V := match c with
  | .bool true => some a
  | .bool false => some b
  | _ => none
def opAlloc (cs : List V) (S : St) : R := match S.new (.cells cs 0 []) with
  | some (i, S) => some (.ptr i 0, S)
  | none => none
def opRow (es n : Nat) (cs : List V) (S : St) : R := match S.new (.cells cs 0 []) with
  | some (i, S) => some (.ref es i 0 n, S)
  | none => none

/-- Overwrites from position o on. -/
def over {α : Type} (l : List α) (o : Nat) (vs : List α) : List α := l.take o ++ vs ++ l.drop (o + vs.length)
def fill (place : Nat → Option (Nat × Nat)) (t : Tm) : List (Nat × Operand) → List V → Option (List V)
  | [], z => some z
  | (i, x) :: r, z => match place i with
    | some (o, s) => match opd t x with
      | .any => none
      | .tup _ => none
      | v => if v.cells.length = s ∧ o + v.cells.length ≤ z.length then fill place t r (over z o v.cells) else none
    | none => none
def repl (n : Nat) (z : List V) : List V := (List.replicate n z).flatten

/-- The cells behind an address. -/
def cellsAt (S : St) : V → Option (List V)
  | .ptr id off => match S.get id with
    | .cells l _ _ => some (l.drop off)
    | .stale l => some (l.drop off)
    | _ => none
  | .ipt cs => some cs
  | _ => none
def opLoad (t : TypeId) (a : V) (S : St) : Option V :=
  match isAggT P t, cellsAt S a with
  | some true, some cs => if P.cellsOf t ≤ cs.length then some (.agg (cs.take (P.cellsOf t))) else none
  | some false, some (x :: _) => some x
  | _, _ => none
def killAll : List Id → St → St
  | [], S => S
  | i :: r, S => killAll r (match S.get i with | .stale _ => S.set i .dead | _ => S)
def writeAt (S : St) (a : V) (vs : List V) : Option St :=
  match a with
  | .ptr id off => match S.get id with
    | .cells l fz anc => if fz ≤ off ∧ off + vs.length ≤ l.length ∧ id ∉ anc then some ((killAll anc S).set id (.cells (over l off vs) fz [])) else none
    | _ => none
  | _ => none
def opStore (t : TypeId) (a x : V) (S : St) : R :=
  match isAggT P t with
  | some true => match x with
    | .agg vs => if vs.length = P.cellsOf t then (match writeAt S a vs with | some S => some (.any, S) | none => none) else none
    | _ => none
  | some false => if x.isCell ∧ P.cellsOf t = 1 then (match writeAt S a [x] with | some S => some (.any, S) | none => none) else none
  | none => none
def opNilCheck (x : V) : Option V := match x with
  | .ptr i o => some (.ptr i o)
  | .ipt c => some (.ipt c)
  | .fn a b c => some (.fn a b c)
  | _ => none
def asIdx (i : V) : Option Nat := match i with
  | .int _ n => if 0 ≤ n then some n.toNat else none
  | _ => none
def addrAdd (off : Nat) : V → Option V
  | .ptr id o => some (.ptr id (o + off))
  | .ipt cs => if off ≤ cs.length then some (.ipt (cs.drop off)) else none
  | _ => none
def opFieldAddr (s : TypeId) (x : V) (f : Nat) : Option V :=
  match P.underlying s with
  | some (.struct fs) => match fs[f]? with
    | some fd => if P.cellsOf fd.type = 0 then none else addrAdd fd.offset x
    | none => none
  | _ => none
def part (t : TypeId) (cs : List V) (off : Nat) : Option V :=
  match isAggT P t with
  | some true => if off + P.cellsOf t ≤ cs.length then some (.agg ((cs.drop off).take (P.cellsOf t))) else none
  | some false => cs[off]?
  | none => none
def opField (s : TypeId) (x : V) (f : Nat) : Option V :=
  match P.underlying s, x with
  | some (.struct fs), .agg cs => match fs[f]? with
    | some fd => part P fd.type cs fd.offset
    | none => none
  | _, _ => none
/-- How many cells a value of the type takes. -/
def szT (t : TypeId) : Option Nat := match P.info? t with
  | some i => some i.size
  | none => none
def opIndexAddr (t : TypeId) (x i : V) : Option V :=
  match P.underlying t, asIdx i with
  | some (.slice el), some i => match szT P el with
    | some sz => match x with
      | .ref es id off n => if i < n ∧ es = sz then some (.ptr id (off + i * sz)) else none
      | .imm es l => if es = sz then (match l[i]? with
        | some v => some (.ipt v.cells)
        | none => none) else none
      | _ => none
    | none => none
  | some (.array n el), some i => match szT P el with
    | some sz => if i < n then addrAdd (i * sz) x else none
    | none => none
  | _, _ => none
def opIndex (t : TypeId) (x i : V) : Option V :=
  match P.underlying t, asIdx i with
  | some .string, some i => match x with
    | .str s => match s[i]? with
      | some b => some (.int .u8 b)
      | none => none
    | _ => none
  | some (.array n el), some i => match x, szT P el with
    | .agg cs, some sz => if i < n then part P el cs (i * sz) else none
    | _, _ => none
  | _, _ => none
def lenV : V → Option Nat
  | .nils => some 0
  | .imm _ l => some l.length
  | .ref _ _ _ n => some n
  | .str s => some s.length
  | _ => none
def bound (d : Nat) (t : Tm) : Option Operand → Option Nat
  | none => some d
  | some x => asIdx (opd t x)
def opSlice (ty : TypeId) (x : V) (lo hi : Option Operand) (t : Tm) : Option V :=
  match lenV x with
  | none => none
  | some n => match bound 0 t lo, bound n t hi with
    | some l, some h => if l ≤ h ∧ h ≤ n then
        match P.underlying ty, x with
        | some .string, .str s => some (.str ((s.take h).drop l))
        | some (.slice el), .nils => match szT P el with
          | some _ => some .nils
          | none => none
        | some (.slice el), .ref es id off _ => match szT P el with
          | some sz => if es = sz then some (.ref es id (off + l * sz) (h - l)) else none
          | none => none
        | some (.slice el), .imm es c => match szT P el with
          | some sz => if es = sz then some (.imm es ((c.take h).drop l)) else none
          | none => none
        | _, _ => none
      else none
    | _, _ => none

/-- x[lo:hi:mx] of a row of variables; mx within its length. -/
def opSlice3 (ty : TypeId) (x : V) (lo hi : Option Operand) (mx : Operand) (t : Tm) : Option V := match x, hi with
  | .ref es id off n, some hi => match bound 0 t lo, asIdx (opd t hi), asIdx (opd t mx), P.underlying ty with
    | some l, some h, some m, some (.slice el) => match szT P el with
      | some sz => if l ≤ h ∧ h ≤ m ∧ m ≤ n ∧ es = sz then some (.ref es id (off + l * sz) (h - l)) else none
      | none => none
    | _, _, _, _ => none
  | _, _ => none

def flat (l : List V) : List V := l.flatMap V.cells
/-- The length and the cells of a slice or string. -/
def srcCells (es : Nat) (S : St) : V → Option (Nat × List V)
  | .nils => some (0, [])
  | .ref e id off n => match S.get id with
    | .cells l _ _ => if off + n * es ≤ l.length ∧ e = es then some (n, (l.drop off).take (n * es)) else none
    | .stale l => if off + n * es ≤ l.length ∧ e = es then some (n, (l.drop off).take (n * es)) else none
    | _ => none
  | .imm e l => if e = es then some (l.length, flat l) else none
  | .str s => if es = 1 then some (s.length, s.map fun (b : Nat) => .int .u8 (b : Int)) else none
  | _ => none
def toBytes : List V → Option (List Nat)
  | [] => some []
  | .int .u8 n :: r => if 0 ≤ n ∧ n < 256 then match toBytes r with
      | some l => some (n.toNat :: l)
      | none => none
    else none
  | _ => none
def bytesAt (S : St) (x : V) : Option V := match x with
  | .str _ => none
  | x => match srcCells 1 S x with
    | some (_, cs) => match toBytes cs with
      | some l => some (.str l)
      | none => none
    | none => none
/-- A conversion of a number, of bytes to a string. -/
def opConv (src dst : TypeId) (x : V) (S : St) : Option V :=
  match P.underlying src, P.underlying dst with
  | some (.int _), some (.int k) => match x with
    | .int _ n => some (.int k (k.wrap n))
    | _ => none
  | some (.slice e), some .string => match P.underlying e with
    | some (.int .u8) => bytesAt S x
    | _ => none
  | _, _ => none
/-- A bound on what is appended to: far below what a machine bears. -/
def maxRow : Nat := 2 ^ 24
def opAppend (t : TypeId) (x y : V) (S : St) : R :=
  match P.underlying t with
  | some (.slice el) => match szT P el with
    | none => none
    | some sz => match srcCells sz S y with
      | none => none
      | some (0, _) => match x with
        | .nils => some (.nils, S)
        | .ref e id off n => some (.ref e id off n, S)
        | .imm e l => some (.imm e l, S)
        | _ => none
      | some (m + 1, new) =>
        if P.bytesOf el ≤ 2 ^ 16 ∧ (zeroOf P el).map List.length = some sz then
        match x with
        | .nils => if m + 1 ≤ maxRow then (match S.new (.cells new 0 []) with
          | some (i, S) => some (.ref sz i 0 (m + 1), S)
          | none => none) else none
        | .ref es id off n => match S.get id with
          | .cells l fz anc =>
            if off = 0 ∧ es = sz ∧ l.length = n * es ∧ n + (m + 1) ≤ maxRow then
              (match (S.set id (.stale l)).new (.cells (l ++ new) fz (id :: anc)) with
              | some (i, S) => some (.ref es i 0 (n + (m + 1)), S)
              | none => none) else none
          | _ => none
        | _ => none
        else none
  | _ => none
/-- What lies behind the slice is forgotten. -/
def cutX (x : V) (S : St) : Option St := match x with
  | .ref es id _ n => match S.get id with
    | .free => none
    | .cells l fz [] => if l.length = n * es then some S else if fz ≤ n * es then some (S.set id (.cells (l.take (n * es)) fz [])) else some S
    | _ => some S
  | _ => some S
def opAppend2 (t : TypeId) (x y : V) (S : St) : R := match cutX x S with
  | some S => opAppend P t x y S
  | none => none
/-- Zeros appended to nothing. -/
def opAppendN (t : TypeId) (x n : V) (S : St) : R :=
  match P.underlying t with
  | some (.slice el) => match zeroOf P el, szT P el, x, asIdx n with
    | some z, some sz, .nils, some (m + 1) => if m + 1 ≤ maxRow ∧ P.bytesOf el ≤ 2 ^ 16 ∧ z.length = sz ∧ 0 < sz then (match S.new (.cells (repl (m + 1) z) 0 []) with
      | some (i, S) => some (.ref sz i 0 (m + 1), S)
      | none => none) else none
    | _, _, _, _ => none
  | _ => none
def opCap (t : TypeId) (x : V) : Option V := match P.underlying t, x with
  | some (.slice _), .nils => some (.int .i64 0)
  | _, _ => none
def opMakeSlice (t : TypeId) (l c : V) (S : St) : R :=
  match P.underlying t with
  | some (.slice el) => match zeroOf P el, szT P el, asIdx l, asIdx c with
    | some z, some sz, some l, some c => if l ≤ c ∧ c ≤ maxRow ∧ P.bytesOf el ≤ 2 ^ 16 ∧ z.length = sz then opRow sz l (repl l z) S else none
    | _, _, _, _ => none
  | _ => none
def keyEq (d : TypeDesc) (x y : V) : Option Bool := match d with
  | .int _ | .string | .bool => scalarEq d x y
  | _ => none
/-- Keys of one cell; structs of numbers. -/
inductive KeyKind where
  | plain (d : TypeDesc)
  | str (kt : TypeId) (n : Nat)
def eqOf (kk : KeyKind) (x y : V) : Option Bool := match kk with
  | .plain d => keyEq d x y
  | .str kt n => match x, y with
    | .agg xs, .agg ys => if xs.length = n ∧ ys.length = n then typedEq P kt (.agg xs) (.agg ys) else none
    | _, _ => none
def keyFit (kk : KeyKind) (x : V) : Bool := match kk with
  | .plain _ => true
  | .str _ n => match x with
    | .agg xs => decide (xs.length = n)
    | _ => false
def keyFs : List Field → Nat → Bool
  | [], _ => true
  | f :: r, i => decide (f.name ≠ "_") && decide (f.offset = i) && (match P.underlying f.type with | some (.int _) => true | _ => false) && keyFs r (i + 1)
def findM (eq : V → V → Option Bool) (k : V) : List (V × V) → Option (Option V)
  | [] => some none
  | e :: es => match eq k e.1 with
    | some true => some (some e.2)
    | some false => findM eq k es
    | none => none
def setM (eq : V → V → Option Bool) (k v : V) : List (V × V) → Option (List (V × V))
  | [] => some [(k, v)]
  | e :: es => match eq k e.1 with
    | some true => some ((k, v) :: es)
    | some false => match setM eq k v es with
      | some l => some (e :: l)
      | none => none
    | none => none
/-- The entry of a key, made where there is none: the list, what lies there, the place. -/
def entryM (eq : V → V → Option Bool) (k z : V) : List (V × V) → Option (List (V × V) × V × Nat)
  | [] => some ([(k, z)], z, 0)
  | e :: es => match eq k e.1 with
    | some true => some ((k, e.2) :: es, e.2, 0)
    | some false => match entryM eq k z es with
      | some (l, v, i) => some (e :: l, v, i + 1)
      | none => none
    | none => none
def mapCells (S : St) : V → Option (List (V × V))
  | .nilm => some []
  | .map id => match S.get id with
    | .map l => some l
    | _ => none
  | _ => none
def simpleK (ty : TypeId) : Option (KeyKind × TypeId) := match P.underlying ty with
  | some (.map kt el) => match P.underlying kt with
    | some (.int k) => some (.plain (.int k), el)
    | some .string => some (.plain .string, el)
    | some .bool => some (.plain .bool, el)
    | some (.struct fs) => if keyFs P fs.toList 0 = true ∧ P.stoodInHeld kt = false then some (.str kt fs.size, el) else none
    | _ => none
  | _ => none
/-- The zero value. -/
def zeroV (t : TypeId) : Option V := match P.info? t with
  | some i => match i.zero with
    | some z => some (ofValue z)
    | none => none
  | none => none
def opLookup (ty : TypeId) (x i : V) (ok : Bool) (S : St) : Option V := match simpleK P ty with
  | some (kk, el) => if keyFit kk i = true then match mapCells S x with
    | some l => match findM (eqOf P kk) i l with
      | some (some v) => some (if ok then .tup [v, .bool true] else v)
      | some none => match zeroV P el with
        | some z => some (if ok then .tup [z, .bool false] else z)
        | none => none
      | none => none
    | none => none
    else none
  | none => none
def opMapUpdate (ty : TypeId) (m k x : V) (S : St) : R := match m with
  | .map id => match simpleK P ty with
    | some (kk, _) => if keyFit kk k = true then match S.get id with
      | .map l => match setM (eqOf P kk) k x l with
        | some l' => some (.any, S.set id (.map l'))
        | none => none
      | _ => none
      else none
    | none => none
  | _ => none
def opMapEntry (ty : TypeId) (m k : V) (S : St) : R := match m with
  | .map id => match simpleK P ty with
    | some (kk, el) => if keyFit kk k = true then match zeroV P el with
      | some z => match S.get id with
        | .map l => match entryM (eqOf P kk) k z l with
          | some (l', v, i) => some (.tup [v, .int .i64 i], S.set id (.map l'))
          | none => none
        | _ => none
      | none => none
      else none
    | none => none
  | _ => none
def opEntryStore (m i x : V) (S : St) : R := match m with
  | .map id => match S.get id, asIdx i with
    | .map l, some n => match l[n]? with
      | some e => some (.any, S.set id (.map (l.set n (e.1, x))))
      | none => none
    | _, _ => none
  | _ => none
def opMakeMap (S : St) : R := match S.new (.map []) with
  | some (i, S) => some (.map i, S)
  | none => none
/-- The first k of a slice. -/
def cutV (k : Nat) : V → Option V
  | .nils => some .nils
  | .ref e id off n => some (.ref e id off (if n ≤ k then n else k))
  | .imm e l => some (.imm e (l.take k))
  | _ => none
/-- The builtin copy. -/
def opCopy (ty : TypeId) (x y : V) (S : St) : R := match P.underlying ty with
  | some (.slice el) => match szT P el, x with
    | some sz, .ref _ id off n => match cutV n y with
      | some y => match srcCells sz S y with
        | some (0, _) => some (.int .i64 0, S)
        | some (k + 1, new) => match writeAt S (.ptr id off) new with
          | some S => some (.int .i64 (k + 1 : Nat), S)
          | none => none
        | none => none
      | none => none
    | _, _ => none
  | _ => none
/-- The builtin clear, of a slice. -/
def opClear (ty : TypeId) (x : V) (S : St) : R := match P.underlying ty with
  | some (.slice el) => match x with
    | .nils => some (.tup [], S)
    | .ref _ _ _ 0 => some (.tup [], S)
    | .ref _ id off (n + 1) => match zeroOf P el with
      | some z => match writeAt S (.ptr id off) (repl (n + 1) z) with
        | some S => some (.tup [], S)
        | none => none
      | none => none
    | _ => none
  | _ => none
def maxL : V → List V → Option V
  | v, [] => some v
  | .int k a, .int _ b :: r => maxL (.int k (if b > a then b else a)) r
  | _, _ => none
def minL : V → List V → Option V
  | v, [] => some v
  | .int k a, .int _ b :: r => minL (.int k (if b < a then b else a)) r
  | _, _ => none
def opLen (x : V) (S : St) : Option V := match x with
  | .nilm => some (.int .i64 0)
  | .map id => match S.get id with
    | .map l => some (.int .i64 l.length)
    | _ => none
  | x => match lenV x with
    | some n => some (.int .i64 n)
    | none => none
def opExtract (x : V) (i : Nat) : Option V := match x with
  | .tup vs => vs[i]?
  | _ => none

abbrev CallF : Type := FuncId → List V → St → R

/-- Where the parts of a composite lie. -/
def placesOf (ty : TypeId) : Option (Nat → Option (Nat × Nat)) :=
  match P.underlying ty with
  | some (.struct fs) => match fs.toList.mapM (fun f => (P.info? f.type).map fun i => (f.offset, i.size)) with
    | some pl => some fun i => pl.toArray[i]?
    | none => none
  | some (.array _ el) => match P.info? el with
    | some ie => some fun i => some (i * ie.size, ie.size)
    | none => none
  | _ => none
/-- One operation. -/
def evOp (call : CallF) (o : Oper) (t : Tm) (S : St) : R :=
  match o.op with
  | .move x => some (opd t x, S)
  | .assign x => some (opd t x, S)
  | .pick c a b => ret1 (opPick (opd t c) (opd t a) (opd t b)) S
  | .alloc ty => match zeroOf P ty with
    | some z => opAlloc z S
    | none => none
  | .box ty x => match opd t x with
    | .any => none
    | .tup _ => none
    | v => opAlloc v.cells S
  | .build ty ps => match zeroOf P ty, placesOf P ty with
    | some z, some place => ret1 ((fill place t ps.toList z).map .agg) S
    | _, _ => none
  | .buildSlice ty n ps => match P.underlying ty with
    | some (.slice el) => match zeroOf P el, szT P el with
      | some z, some sz => if z.length = sz ∧ n * sz ≤ 2 ^ 24 then
          match fill (fun i => some (i * sz, sz)) t ps.toList (repl n z) with
          | some cs => opRow sz n cs S
          | none => none
        else none
      | _, _ => none
    | _ => none
  | .load ty a => ret1 (opLoad P ty (opd t a) S) S
  | .store ty a x => opStore P ty (opd t a) (opd t x) S
  | .nilCheck x => ret1 (opNilCheck (opd t x)) S
  | .binOp op ty x y _ => ret1 (binV P op ty (opd t x) (opd t y)) S
  | .unOp op _ x => ret1 (unV op (opd t x)) S
  | .convert a b x => ret1 (opConv P a b (opd t x) S) S
  | .makeFunc (.func f) a b => some (.fn f (a.toList.map (opd t)) (b.toList.map (opd t)), S)
  | .slice ty x lo hi none => ret1 (opSlice P ty (opd t x) lo hi t) S
  | .slice ty x lo hi (some mx) => ret1 (opSlice3 P ty (opd t x) lo hi mx t) S
  | .fieldAddr s x f => ret1 (opFieldAddr P s (opd t x) f) S
  | .field s x f => ret1 (opField P s (opd t x) f) S
  | .indexAddr ty x i => ret1 (opIndexAddr P ty (opd t x) (opd t i)) S
  | .index ty x i => ret1 (opIndex P ty (opd t x) (opd t i)) S
  | .makeSlice ty l c => opMakeSlice P ty (opd t l) (opd t c) S
  | .extract x i => ret1 (opExtract (opd t x) i) S
  | .makeMap _ none => opMakeMap S
  | .lookup ty x i ok => ret1 (opLookup P ty (opd t x) (opd t i) ok S) S
  | .mapUpdate ty m k x => opMapUpdate P ty (opd t m) (opd t k) (opd t x) S
  | .mapEntry ty m k => opMapEntry P ty (opd t m) (opd t k) S
  | .entryStore _ m i x => opEntryStore (opd t m) (opd t i) (opd t x) S
  | .call c => match c.callee with
    | .value f => match opd t f with
      | .fn f first caps => call f (first ++ c.args.toList.map (opd t) ++ caps) S
      | _ => none
    | .builtin .len => match c.args.toList, c.argTypes.toList with
      | [x], [ty] => match P.underlying ty with
        | some .string => (match opd t x with | .str s => some (.int .i64 s.length, S) | _ => none)
        | some (.slice _) => (match opd t x with | .str _ => none | .nilm => none | .map _ => none | v => ret1 (opLen v S) S)
        | some (.map ..) => (match opd t x with | .nilm => some (.int .i64 0, S) | .map i => ret1 (opLen (.map i) S) S | _ => none)
        | _ => none
      | _, _ => none
    | .builtin .append => match c.args.toList, c.argTypes.toList with
      | [x, y], [ty, ty'] => match P.underlying ty' with
        | some (.int _) => opAppendN P ty (opd t x) (opd t y) S
        | some _ => opAppend2 P ty (opd t x) (opd t y) S
        | none => none
      | _, _ => none
    | .builtin .copy => match c.args.toList, c.argTypes.toList with
      | [x, y], ty :: _ => opCopy P ty (opd t x) (opd t y) S
      | _, _ => none
    | .builtin .clear => match c.args.toList, c.argTypes.toList with
      | [x], [ty] => opClear P ty (opd t x) S
      | _, _ => none
    | .builtin .cap => match c.args.toList, c.argTypes.toList with
      | [x], [ty] => ret1 (opCap P ty (opd t x)) S
      | _, _ => none
    | .builtin .max => match c.args.toList.map (opd t) with
      | .int k n :: r => ret1 (maxL (.int k n) r) S
      | _ => none
    | .builtin .min => match c.args.toList.map (opd t) with
      | .int k n :: r => ret1 (minL (.int k n) r) S
      | _ => none
    | _ => none
  | _ => none

def putT (nt : Nat) (t : Tm) (d : Option Nat) (v : V) : Tm := match d with
  | some d => if d < nt then fun i => if i = d then v else t i else t
  | none => t
/-- Is an operation to be done? -/
def wanted (ops : Array Oper) (o : Oper) (t : Tm) : Option Bool :=
  match o.guard with
  | none => some true
  | some (j, b) => match (ops[j]?).bind (·.dst) with
    | some d => match t d with
      | .bool c => some (c == b)
      | .tup _ => some false
      | _ => none
    | none => none
/-- What an operation leaves that is not done. -/
def V.un : V := .tup []
def evOps (nt : Nat) (call : CallF) (ops : Array Oper) : List Oper → Tm → St → Option (Tm × St)
  | [], t, S => some (t, S)
  | o :: r, t, S => match wanted ops o t with
    | some true => match evOp P call o t S with
      | some (v, S') => evOps nt call ops r (putT nt t o.dst v) S'
      | none => none
    | some false => evOps nt call ops r (putT nt t o.dst .un) S
    | none => none

inductive Sig where
  | norm
  | exit (id : Nat)
  | ret
abbrev RC : Type := Option (Sig × Tm × St)
def loopN (f : Tm → St → RC) : Nat → Tm → St → RC
  | 0, _, _ => none
  | n + 1, t, S => match f t S with
    | some (.norm, t, S) => loopN f n t S
    | r => r
/-- Where the binding edges come from. -/
def bindOn (o : Oper) : List Nat := (o.after.toList.filter (Region.binds .any)).map (·.on)
/-- A bool that is drawn: a cell; true and false stored in either order; the load. -/
def ambB (o0 o1 o2 o3 : Oper) : Bool :=
  (bindOn o0).isEmpty && (!(bindOn o1).isEmpty && (bindOn o1).all (· == 0)) && (!(bindOn o2).isEmpty && (bindOn o2).all (· == 0)) &&
  ((bindOn o3).contains 1 && (bindOn o3).contains 2 && (bindOn o3).all (· < 3))
def ambOps : Code → Option (Array Oper × List Oper × List Oper)
  | .region _ ops true => match ops.toList with
    | [o0, o1, o2, o3] => if ambB o0 o1 o2 o3 then some (ops, [o0, o1, o2, o3], [o0, o2, o1, o3]) else none
    | _ => none
  | _ => none
/-! ### a drawn region with two stores that have no order -/
def befMask (acc : List Nat) (o : Oper) : Nat := o.after.toList.foldl (fun m e => if Region.binds .any e then m ||| (2 ^ e.on ||| acc.getD e.on 0) else m) 0
def masks : List Oper → List Nat → List Nat
  | [], acc => acc
  | o :: r, acc => masks r (acc ++ [befMask acc o])
def isSt (o : Oper) : Bool := match o.op, o.guard with
  | .store .., none => true
  | _, _ => false
def pairRow (mk j : Nat) : List Oper → Nat → Option Nat
  | [], _ => none
  | o :: r, i => if i < j then (if isSt o && !mk.testBit i then some i else pairRow mk j r (i + 1)) else none
def pairOf (l : List Oper) : List Oper → List Nat → Nat → Option (Nat × Nat)
  | o :: r, m :: ms, j => match (if isSt o then pairRow m j l 0 else none) with
    | some i => some (i, j)
    | none => pairOf l r ms (j + 1)
  | _, _, _ => none
/-- The i-th behind the j-th: where an operation goes, and where it came from. -/
def shR (i j k : Nat) : Nat := if k < i then k else if k = i then j else if k ≤ j then k - 1 else k
def shL (i j m : Nat) : Nat := if m < i then m else if m < j then m + 1 else if m = j then i else m
def renE (ρ : Nat → Nat) (e : Edge) : Edge := { on := ρ e.on, ground := e.ground }
def renO (ρ : Nat → Nat) (x : Option Nat) (o : Oper) : Oper :=
  { dst := o.dst, op := o.op, type := o.type, pos := o.pos, after := ((match x with | some y => [⟨ρ y, .data⟩] | none => []) ++ o.after.toList.map (renE ρ)).toArray, guard := match o.guard with | some (j, b) => some (ρ j, b) | none => none }
/-- The operations in another order; the x-th waits for the y-th too. -/
def prm (ρ σ : Nat → Nat) (x y : Nat) (ops : Array Oper) (d : Oper) : Array Oper :=
  ((List.range ops.size).map fun m => renO ρ (if σ m = x then some y else none) (ops.toList.getD (σ m) d)).toArray
/-- Two stores that have no order: the region with the one first, and with the other first. -/
def splitOf (draw : Bool) (ops : Array Oper) : Option (Array Oper × Array Oper) := match draw with
  | false => none
  | true => match pairOf ops.toList ops.toList (masks ops.toList []) 0, ops.toList with
    | some (i, j), d :: _ => if i < j ∧ j < ops.size then some (prm id id j i ops d, prm (shR i j) (shL i j) i j ops d) else none
    | _, _ => none
theorem splitOf_false (ops : Array Oper) : splitOf false ops = none := rfl
/-- What two ways of going on leave alike. -/
noncomputable def mergeT (t u : Tm) : Tm := fun i => open Classical in if t i = u i then t i else .any
/-- Two objects that differ: rows that hold the same, or nothing that is known. -/
noncomputable def mergeD : Ob → Ob → Ob
  | .cells l fz anc, .cells l' fz' anc' => open Classical in if l = l' ∧ fz = fz' then .cells l fz (anc ++ anc') else .dead
  | _, _ => .dead
noncomputable def mergeOb (a b : Ob) : Ob := open Classical in if a = b then a else mergeD a b
noncomputable def mergeS (S U : St) : St := ⟨fun id => mergeOb (S.get id) (U.get id), S.nx⟩
def Ob.isLive : Ob → Bool
  | .cells .. | .map _ => true
  | _ => false
/-- The two may be merged; S: the store before. -/
def MergeOK (S A B : St) : Prop := A.nx = B.nx ∧ ∀ id, (A.get id = .free ↔ B.get id = .free) ∧ ((S.get id).isLive = true → (A.get id = S.get id ↔ B.get id = S.get id))
noncomputable def merge2 (S : St) : RC → RC → RC
  | some (.norm, t, A), some (.norm, u, B) => open Classical in if MergeOK S A B then some (.norm, mergeT t u, mergeS A B) else none
  | _, _ => none
noncomputable def amb2 (S : St) (f : Tm → St → RC) : Option (Tm × St) → Option (Tm × St) → RC
  | some (t, A), some (u, B) => merge2 S (f t A) (f u B)
  | _, _ => none
/-! ### a range over slices.Backward -/
/-- No range over a function within. -/
def noRF : Code → Bool
  | .rangeFunc .. => false
  | .seq a b => noRF a && noRF b
  | .cond _ a b => noRF a && noRF b
  | .block _ b => noRF b
  | .loop b => noRF b
  | _ => true
def chkLoad (o : Oper) (d a : Nat) : Option TypeId := match o.op with
  | .load t (.tmp x) => if o.dst = some d ∧ x = a ∧ o.guard = none then some t else none
  | _ => none
def chkMove (o : Oper) (d a : Nat) : Bool := match o.op with
  | .move (.tmp x) => decide (o.dst = some d ∧ x = a ∧ o.guard = none)
  | _ => false
def chkAsg (o : Oper) (d a : Nat) : Bool := match o.op with
  | .assign (.tmp x) => decide (o.dst = some d ∧ x = a ∧ o.guard = none)
  | _ => false
def chkBin (o : Oper) (d : Nat) (op : BinOp) (a : Nat) (k : Int) : Bool := match o.op with
  | .binOp p _ (.tmp x) (.const (.int .i64 z)) _ => decide (o.dst = some d ∧ p = op ∧ x = a ∧ z = k ∧ o.guard = none)
  | _ => false
def chkNot (o : Oper) (d a : Nat) : Bool := match o.op with
  | .unOp .not _ (.tmp x) => decide (o.dst = some d ∧ x = a ∧ o.guard = none)
  | _ => false
def chkIx (o : Oper) (d : Nat) (t : TypeId) (a b : Nat) : Bool := match o.op with
  | .indexAddr t' (.tmp x) (.tmp y) => decide (o.dst = some d ∧ t' = t ∧ x = a ∧ y = b ∧ o.guard = none)
  | _ => false
def chkLen (o : Oper) (d a : Nat) (t : TypeId) : Bool := match o.op with
  | .call c => match c.callee, c.args.toList, c.argTypes.toList with
    | .builtin .len, [.tmp x], [t'] => decide (o.dst = some d ∧ x = a ∧ t' = t ∧ o.guard = none)
    | _, _, _ => false
  | _ => false
def chkYld (o : Oper) (d f a b : Nat) : Bool := match o.op with
  | .call c => match c.callee, c.args.toList with
    | .value (.tmp g), [.tmp x, .tmp y] => decide (o.dst = some d ∧ g = f ∧ x = a ∧ y = b ∧ o.guard = none)
    | _, _ => false
  | _ => false
/-- The code of what slices.Backward returns. -/
def backCode : Code → Option (TypeId × TypeId)
  | .seq (.region _ r0 false) (.block k0 (.loop (.seq (.seq (.region _ r1 false) (.cond (.tmp x8) .skip (.exit k1))) (.seq (.block _ (.seq (.region _ r3 false) (.cond (.tmp x18) .ret .skip))) (.region _ r2 false))))) =>
    if k0 = k1 ∧ x8 = 8 ∧ x18 = 18 then
      match r0.toList, r1.toList with
      | [a0, a1, a2, a3], [b0, b1] => match r3.toList, r2.toList with
        | [c0, c1, c2, c3, c4, c5, c6, c7], [d0, d1, d2] => match chkLoad a0 4 1, chkLoad c5 16 15 with
          | some sl, some el =>
            if chkLen a1 5 4 sl && chkBin a2 6 .sub 5 1 && chkAsg a3 3 6 && chkMove b0 7 3 && chkBin b1 8 .geq 7 0 && chkMove c0 11 0 && chkMove c1 12 3 && decide (chkLoad c2 13 1 = some sl) &&
              chkMove c3 14 3 && chkIx c4 15 sl 13 14 && chkYld c6 17 11 12 16 && chkNot c7 18 17 && chkMove d0 9 3 && chkBin d1 10 .sub 9 1 && chkAsg d2 3 10 then some (sl, el) else none
          | _, _ => none
        | _, _ => none
      | _, _ => none
    else none
  | _ => none
/-- Is f what slices.Backward returns? The types of the slice and of an element. -/
def backOf (f : FuncId) : Option (TypeId × TypeId) := match P.funcs[f]? with
  | some fn => match fn.body with
    | some b => match backCode b with
      | some (sl, el) => match P.underlying sl with
        | some (.slice _) => if fn.ntmps = 19 ∧ fn.results.toList.isEmpty = true ∧ (fn.name == "runtime.NumGoroutine") = false then some (sl, el) else none
        | _ => none
      | none => none
    | none => none
  | none => none
def lenSlice : V → Option Nat
  | .nils => some 0
  | .imm _ l => some l.length
  | .ref _ _ _ n => some n
  | _ => none
/-- The element at i of the slice that lies in a cell. -/
def elemAt (sl el : TypeId) (p : V) (i : Nat) (S : St) : Option V := match opLoad P sl p S with
  | some x => match opIndexAddr P sl x (.int .i64 i) with
    | some a => opLoad P el a S
    | none => none
  | none => none
/-- The rounds from i - 1 down. -/
def backN (sl el : TypeId) (p : V) (f : V → V → St → Option (Sig × St)) : Nat → St → Option (Sig × St)
  | 0, S => some (.norm, S)
  | i + 1, S => match elemAt P sl el p i S with
    | some v => match f (.int .i64 i) v S with
      | some (.norm, S) => backN sl el p f i S
      | r => r
    | none => none
def round2 (nt : Nat) (fa fb : Tm → St → RC) (p0 p1 : Nat) (t : Tm) (i v : V) (S : St) : Option (Sig × St) :=
  match fa (putT nt (putT nt t (some p0) i) (some p1) v) S with
  | some (.norm, t, S) => match fb t S with
    | some (s, _, S) => some (s, S)
    | none => none
  | _ => none
def rangeB (g : V) (ps : List Nat) (t : Tm) (S : St) (f : Nat → Nat → V → V → St → Option (Sig × St)) : RC :=
  match g, ps with
  | .fn h [] [p], [p0, p1] => match backOf P h with
    | some (sl, el) => match opLoad P sl p S with
      | some l => match lenSlice l with
        | some m => if m ≤ maxRow then match backN P sl el p (f p0 p1) m S with
            | some (s, S) => some (s, t, S)
            | none => none
          else none
        | none => none
      | none => none
    | none => none
  | _, _ => none
/-- Big steps of code. 'okR': where the order of a drawn region has no effect. -/
noncomputable def evC (okR : CallF → Nat → Array Oper → Tm → St → Prop) (nt : Nat) (call : CallF) (n : Nat) : Code → Tm → St → RC
  | .skip, t, S => some (.norm, t, S)
  | .region _ ops draw, t, S => match splitOf draw ops with
    | some (o1, o2) => open Classical in if okR call nt o1 t S ∧ okR call nt o2 t S then amb2 S (fun t S => some (.norm, t, S)) (evOps P nt call o1 o1.toList t S) (evOps P nt call o2 o2.toList t S) else none
    | none =>
    open Classical in if draw = true ∧ ¬ okR call nt ops t S then none else
    match evOps P nt call ops ops.toList t S with
    | some (t, S) => some (.norm, t, S)
    | none => none
  | .seq a b, t, S => match ambOps a with
    | some (ops, l1, l2) => amb2 S (evC okR nt call n b) (evOps P nt call ops l1 t S) (evOps P nt call ops l2 t S)
    | none => match evC okR nt call n a t S with
      | some (.norm, t, S) => evC okR nt call n b t S
      | r => r
  | .cond c a b, t, S => match opd t c with
    | .bool true => evC okR nt call n a t S
    | .bool false => evC okR nt call n b t S
    | _ => none
  | .block id b, t, S => match evC okR nt call n b t S with
    | some (.exit i, t, S) => if i = id then some (.norm, t, S) else some (.exit i, t, S)
    | r => r
  | .loop b, t, S => loopN (evC okR nt call n b) n t S
  | .exit id, t, S => some (.exit id, t, S)
  | .ret, t, S => some (.ret, t, S)
  | .rangeFunc g ps x y, t, S => if noRF x = true ∧ noRF y = true then rangeB P (opd t g) ps.toList t S (fun p0 p1 => round2 nt (evC okR nt call n x) (evC okR nt call n y) p0 p1 t) else none
  | _, _, _ => none

def evRes (t : Tm) (S : St) : List ResultVar → Option (List V)
  | [] => some []
  | .tmp i :: r => match evRes t S r with
    | some vs => some (t i :: vs)
    | none => none
  | .cell a ty :: r => match opLoad P ty (t a) S, evRes t S r with
    | some v, some vs => some (v :: vs)
    | _, _ => none
def one : List V → V
  | [v] => v
  | vs => .tup vs
def initT (args : List V) : Tm := fun i => args.getD i .any
/-- Calls whose answers are known: not this one; this one, and it fails; its answer. -/
abbrev AskF : Type := FuncId → List V → St → Option R
def ansOf (base : AskF) : CallF := fun f args S => match base f args S with
  | some r => r
  | none => none
noncomputable def callN (base : AskF) (okR : CallF → Nat → Array Oper → Tm → St → Prop) : Nat → CallF
  | 0, f, args, S => ansOf base f args S
  | n + 1, f, args, S => match base f args S with
    | some r => r
    | none => match P.funcs[f]? with
      | none => none
      | some fn => match fn.body with
        | none => none
        | some b => if fn.name = "runtime.NumGoroutine" ∨ fn.ntmps < args.length then none else
          match evC P okR fn.ntmps (callN base okR n) n b (initT args) S with
          | none => none
          | some (.exit _, _, _) => none
          | some (_, t, S) => match evRes P t S fn.results.toList with
            | some vs => some (one vs, S)
            | none => none
end

end Go.Vm

namespace Go.Vm
open Go.RowKit

/-- Where the objects lie (φ), how large their blocks are (bs), how many cells an element has there (es); the cells that are never written (μ). -/
structure Ctx where
  φ : Id → Option Nat
  bs : Nat → Nat
  es : Nat → Nat
  μ : Nat → Nat → Option Value

mutual
inductive Rel (Γ : Ctx) : V → Value → Prop
  | any (u : Value) : Rel Γ .any u
  | bool (b : Bool) : Rel Γ (.bool b) (.bool b)
  | int (k : IntKind) (n : Int) : Rel Γ (.int k n) (.int k n)
  | str (s : ByteArray) (l : List Nat) (h : s.data.toList.map UInt8.toNat = l) : Rel Γ (.str l) (.string s)
  | nilp : Rel Γ .nilp (.pointer none)
  | ptr (id : Id) (off b : Nat) (h : Γ.φ id = some b) : Rel Γ (.ptr id off) (.pointer (some ⟨b, off, none⟩))
  | ipt (cs : List V) (b off : Nat) (h : RelM Γ cs b off) : Rel Γ (.ipt cs) (.pointer (some ⟨b, off, none⟩))
  | nils : Rel Γ .nils (.slice none 0 0)
  | imm (es : Nat) (l : List V) (b off n cap : Nat) (h : RelE Γ es l b off) (hn : n = l.length) (hc : n ≤ cap) : Rel Γ (.imm es l) (.slice (some ⟨b, off, none⟩) n cap)
  | imz (es : Nat) (a : Addr) : Rel Γ (.imm es []) (.slice (some a) 0 0)
  | ref (es : Nat) (id : Id) (off off' n cap b : Nat) (h : Γ.φ id = some b) (he : Γ.es b = es) (hc : off' + cap * es ≤ Γ.bs b) (hn : n ≤ cap) (ho : off' = off ∨ cap = 0) :
      Rel Γ (.ref es id off n) (.slice (some ⟨b, off', none⟩) n cap)
  | fn (f : FuncId) (x y : List V) (a c : Array Value) (h1 : RelL Γ x a.toList) (h2 : RelL Γ y c.toList) : Rel Γ (.fn f x y) (.func (.func f) a c)
  | nilf : Rel Γ .nilf .nilFunc
  | agg (x : List V) (a : Array Value) (h : RelL Γ x a.toList) (hc : ∀ u ∈ a.toList, Value.oneCell' u = true) : Rel Γ (.agg x) (.agg a)
  | tup (x : List V) (a : Array Value) (h : RelL Γ x a.toList) : Rel Γ (.tup x) (.tuple a)
  | nilm : Rel Γ .nilm (.map none)
  | map (id : Id) (b : Nat) (h : Γ.φ id = some b) : Rel Γ (.map id) (.map (some b))
  | yld (l : Nat) : Rel Γ (.yld l) (.func (.yield l) #[] #[])
inductive RelL (Γ : Ctx) : List V → List Value → Prop
  | nil : RelL Γ [] []
  | cons (v : V) (u : Value) (vs : List V) (us : List Value) (h : Rel Γ v u) (hs : RelL Γ vs us) : RelL Γ (v :: vs) (u :: us)
/-- Cells that are never written. -/
inductive RelM (Γ : Ctx) : List V → Nat → Nat → Prop
  | nil (b o : Nat) : RelM Γ [] b o
  | cons (v : V) (u : Value) (vs : List V) (b o : Nat) (hu : Γ.μ b o = some u) (h : Rel Γ v u) (hc : u.oneCell' = true) (hs : RelM Γ vs b (o + 1)) : RelM Γ (v :: vs) b o
/-- Elements of es cells that are never written. -/
inductive RelE (Γ : Ctx) : Nat → List V → Nat → Nat → Prop
  | nil (es b o : Nat) : RelE Γ es [] b o
  | cons (es : Nat) (v : V) (cs : List V) (vs : List V) (b o : Nat) (hv : v.cells = cs) (hl : cs.length = es) (h : RelM Γ cs b o) (hs : RelE Γ es vs b (o + es)) : RelE Γ es (v :: vs) b o
end

/-- Γ' knows all that Γ knows. -/
structure Ctx.le (Γ Γ' : Ctx) : Prop where
  φ : ∀ id b, Γ.φ id = some b → Γ'.φ id = some b
  bs : ∀ id b, Γ.φ id = some b → Γ'.bs b = Γ.bs b
  es : ∀ id b, Γ.φ id = some b → Γ'.es b = Γ.es b
  μ : ∀ b o u, Γ.μ b o = some u → Γ'.μ b o = some u
theorem Ctx.le.refl (Γ : Ctx) : Γ.le Γ := ⟨fun _ _ h => h, fun _ _ _ => rfl, fun _ _ _ => rfl, fun _ _ _ h => h⟩
theorem Ctx.le.trans {Γ Γ' Γ'' : Ctx} (h : Γ.le Γ') (k : Γ'.le Γ'') : Γ.le Γ'' :=
  ⟨fun id b e => k.φ id b (h.φ id b e), fun id b e => (k.bs id b (h.φ id b e)).trans (h.bs id b e), fun id b e => (k.es id b (h.φ id b e)).trans (h.es id b e), fun b o u e => k.μ b o u (h.μ b o u e)⟩

section
variable {Γ Γ' : Ctx} (hle : Γ.le Γ')
include hle
mutual
theorem Rel.mono : ∀ {v : V} {u : Value}, Rel Γ v u → Rel Γ' v u
  | _, _, .any u => .any u
  | _, _, .bool b => .bool b
  | _, _, .int k n => .int k n
  | _, _, .str s l h => .str s l h
  | _, _, .nilp => .nilp
  | _, _, .ptr id off b h => .ptr id off b (hle.φ id b h)
  | _, _, .ipt cs b off h => .ipt cs b off (RelM.mono h)
  | _, _, .nils => .nils
  | _, _, .imm es l b off n cap h hn hc => .imm es l b off n cap (RelE.mono h) hn hc
  | _, _, .imz es a => .imz es a
  | _, _, .ref es id off off' n cap b h he hc hn ho => .ref es id off off' n cap b (hle.φ id b h) ((hle.es id b h).trans he) (by rw [hle.bs id b h]; exact hc) hn ho
  | _, _, .fn f x y a c h1 h2 => .fn f x y a c (RelL.mono h1) (RelL.mono h2)
  | _, _, .nilf => .nilf
  | _, _, .agg x a h hc => .agg x a (RelL.mono h) hc
  | _, _, .tup x a h => .tup x a (RelL.mono h)
  | _, _, .nilm => .nilm
  | _, _, .map id b h => .map id b (hle.φ id b h)
  | _, _, .yld l => .yld l
theorem RelL.mono : ∀ {v : List V} {u : List Value}, RelL Γ v u → RelL Γ' v u
  | _, _, .nil => .nil
  | _, _, .cons v u vs us h hs => .cons v u vs us (Rel.mono h) (RelL.mono hs)
theorem RelM.mono : ∀ {v : List V} {b o : Nat}, RelM Γ v b o → RelM Γ' v b o
  | _, _, _, .nil b o => .nil b o
  | _, _, _, .cons v u vs b o hu h hc hs => .cons v u vs b o (hle.μ b o u hu) (Rel.mono h) hc (RelM.mono hs)
theorem RelE.mono : ∀ {es : Nat} {v : List V} {b o : Nat}, RelE Γ es v b o → RelE Γ' es v b o
  | _, _, _, _, .nil es b o => .nil es b o
  | _, _, _, _, .cons es v cs vs b o hv hl h hs => .cons es v cs vs b o hv hl (RelM.mono h) (RelE.mono hs)
end
end

/-! lists -/
section
variable {Γ : Ctx}
theorem RelL.length {x : List V} {u : List Value} (h : RelL Γ x u) : x.length = u.length := by
  induction x generalizing u with
  | nil => cases h; rfl
  | cons v vs ih => cases h with | cons _ _ _ _ _ hs => simp [ih hs]
theorem RelL.get {x : List V} {u : List Value} (h : RelL Γ x u) : ∀ {i : Nat} {v : V}, x[i]? = some v → ∃ w, u[i]? = some w ∧ Rel Γ v w := by
  induction x generalizing u with
  | nil => intro i v hv; simp at hv
  | cons y ys ih =>
    intro i v hv
    cases h with
    | cons _ w _ us hw hs =>
      cases i with
      | zero => simp at hv; subst hv; exact ⟨w, rfl, hw⟩
      | succ i => simpa using ih hs (by simpa using hv)
theorem RelL.append {x y : List V} {u w : List Value} (h : RelL Γ x u) (k : RelL Γ y w) : RelL Γ (x ++ y) (u ++ w) := by
  induction x generalizing u with
  | nil => cases h; exact k
  | cons v vs ih => cases h with | cons _ _ _ _ hv hs => exact .cons _ _ _ _ hv (ih hs)
theorem RelL.take {x : List V} {u : List Value} (h : RelL Γ x u) (n : Nat) : RelL Γ (x.take n) (u.take n) := by
  induction x generalizing u n with
  | nil => cases h; simpa using RelL.nil
  | cons v vs ih =>
    cases h with
    | cons _ _ _ _ hv hs =>
      cases n with
      | zero => exact .nil
      | succ n => exact .cons _ _ _ _ hv (ih hs n)
theorem RelL.drop {x : List V} {u : List Value} (h : RelL Γ x u) (n : Nat) : RelL Γ (x.drop n) (u.drop n) := by
  induction x generalizing u n with
  | nil => cases h; simpa using RelL.nil
  | cons v vs ih =>
    cases h with
    | cons _ _ _ _ hv hs =>
      cases n with
      | zero => exact .cons _ _ _ _ hv hs
      | succ n => exact ih hs n
theorem RelL.of_get {x : List V} {u : List Value} (hl : x.length = u.length) (h : ∀ (i : Nat) (v : V) (w : Value), x[i]? = some v → u[i]? = some w → Rel Γ v w) : RelL Γ x u := by
  induction x generalizing u with
  | nil => cases u with | nil => exact .nil | cons _ _ => simp at hl
  | cons v vs ih =>
    cases u with
    | nil => simp at hl
    | cons w us => exact .cons _ _ _ _ (h 0 v w rfl rfl) (ih (by simpa using hl) fun i a b ha hb => h (i + 1) a b (by simpa using ha) (by simpa using hb))
theorem RelM.get {x : List V} {b o : Nat} (h : RelM Γ x b o) : ∀ {i : Nat} {v : V}, x[i]? = some v → ∃ w, Γ.μ b (o + i) = some w ∧ Rel Γ v w ∧ w.oneCell' = true := by
  induction x generalizing o with
  | nil => intro i v hv; simp at hv
  | cons y ys ih =>
    intro i v hv
    cases h with
    | cons _ w _ _ _ hw hr hc hs =>
      cases i with
      | zero => simp at hv; subst hv; exact ⟨w, hw, hr, hc⟩
      | succ i =>
        obtain ⟨w', h1, h2⟩ := ih hs (i := i) (v := v) (by simpa using hv)
        exact ⟨w', by rw [show o + (i + 1) = o + 1 + i by omega]; exact h1, h2⟩
theorem RelM.drop {x : List V} {b o : Nat} (h : RelM Γ x b o) (n : Nat) (hn : n ≤ x.length) : RelM Γ (x.drop n) b (o + n) := by
  induction x generalizing o n with
  | nil => simp at hn; subst hn; simpa using h
  | cons y ys ih =>
    cases h with
    | cons _ w _ _ _ hw hr hc hs =>
      cases n with
      | zero => exact .cons _ _ _ _ _ hw hr hc hs
      | succ n => simpa [Nat.add_assoc, Nat.add_comm 1 n] using ih hs n (by simpa using hn)
theorem RelE.get {es : Nat} {x : List V} {b o : Nat} (h : RelE Γ es x b o) : ∀ {i : Nat} {v : V}, x[i]? = some v → v.cells.length = es ∧ RelM Γ v.cells b (o + i * es) := by
  induction x generalizing o with
  | nil => intro i v hv; simp at hv
  | cons y ys ih =>
    intro i v hv
    cases h with
    | cons _ _ cs _ _ _ hc hl hm hs =>
      cases i with
      | zero => simp at hv; subst hv; subst hc; exact ⟨hl, by simpa using hm⟩
      | succ i =>
        obtain ⟨h1, h2⟩ := ih hs (i := i) (v := v) (by simpa using hv)
        exact ⟨h1, by rw [show o + (i + 1) * es = o + es + i * es by rw [Nat.add_mul]; omega]; exact h2⟩
theorem RelE.drop {es : Nat} {x : List V} {b o : Nat} (h : RelE Γ es x b o) (n : Nat) (hn : n ≤ x.length) : RelE Γ es (x.drop n) b (o + n * es) := by
  induction x generalizing o n with
  | nil => simp at hn; subst hn; simpa using h
  | cons y ys ih =>
    cases h with
    | cons _ _ cs _ _ _ hc hl hm hs =>
      cases n with
      | zero => simpa using RelE.cons _ _ _ _ _ _ hc hl hm hs
      | succ n =>
        have := ih hs n (by simpa using hn)
        rw [show o + (n + 1) * es = o + es + n * es by rw [Nat.add_mul]; omega]
        exact this
theorem RelE.take {es : Nat} {x : List V} {b o : Nat} (h : RelE Γ es x b o) (n : Nat) : RelE Γ es (x.take n) b o := by
  induction x generalizing o n with
  | nil => simpa using h
  | cons y ys ih =>
    cases h with
    | cons _ _ cs _ _ _ hc hl hm hs =>
      cases n with
      | zero => exact .nil _ _ _
      | succ n => exact .cons _ _ _ _ _ _ hc hl hm (ih hs n)
theorem RelM.append {x y : List V} {b o : Nat} (h : RelM Γ x b o) (k : RelM Γ y b (o + x.length)) : RelM Γ (x ++ y) b o := by
  induction x generalizing o with
  | nil => simpa using k
  | cons v vs ih =>
    cases h with
    | cons _ w _ _ _ hw hr hc hs => exact .cons _ _ _ _ _ hw hr hc (ih hs (by simpa [Nat.add_assoc, Nat.add_comm 1] using k))
theorem RelE.flat {es : Nat} {x : List V} {b o : Nat} (h : RelE Γ es x b o) : RelM Γ (Vm.flat x) b o ∧ (Vm.flat x).length = x.length * es := by
  induction x generalizing o with
  | nil => exact ⟨.nil _ _, by simp [Vm.flat]⟩
  | cons y ys ih =>
    cases h with
    | cons _ _ cs _ _ _ hc hl hm hs =>
      obtain ⟨h1, h2⟩ := ih hs
      subst hc
      refine ⟨?_, by simp [Vm.flat] at h2 ⊢; rw [hl, h2, Nat.add_mul]; omega⟩
      show RelM Γ (y.cells ++ Vm.flat ys) b o
      exact hm.append (by rw [hl]; exact h1)
theorem Rel.cells {v : V} {u : Value} (h : Rel Γ v u) (h1 : v ≠ .any) (h2 : ∀ l, v ≠ .tup l) : RelL Γ v.cells u.cells.toList := by
  cases h <;> first | exact absurd rfl h1 | (exact absurd rfl (h2 _)) | skip
  case agg x a h hc => exact h
  all_goals first
    | exact .cons _ _ _ _ (.bool _) .nil
    | exact .cons _ _ _ _ (.int _ _) .nil
    | exact .cons _ _ _ _ (.str _ _ (by assumption)) .nil
    | exact .cons _ _ _ _ .nilp .nil
    | exact .cons _ _ _ _ (.ptr _ _ _ (by assumption)) .nil
    | exact .cons _ _ _ _ (.ipt _ _ _ (by assumption)) .nil
    | exact .cons _ _ _ _ .nils .nil
    | exact .cons _ _ _ _ (.imm _ _ _ _ _ _ (by assumption) (by assumption) (by assumption)) .nil
    | exact .cons _ _ _ _ (.imz _ _) .nil
    | exact .cons _ _ _ _ (.ref _ _ _ _ _ _ _ (by assumption) (by assumption) (by assumption) (by assumption) (by assumption)) .nil
    | exact .cons _ _ _ _ (.fn _ _ _ _ _ (by assumption) (by assumption)) .nil
    | exact .cons _ _ _ _ .nilf .nil
    | exact .cons _ _ _ _ .nilm .nil
    | exact .cons _ _ _ _ (.map _ _ (by assumption)) .nil
    | exact .cons _ _ _ _ (.yld _) .nil
theorem Rel.cells_one {v : V} {u : Value} (h : Rel Γ v u) (h1 : v ≠ .any) (h2 : ∀ l, v ≠ .tup l) : ∀ x ∈ u.cells.toList, Value.oneCell' x = true := by
  cases h <;> first | exact absurd rfl h1 | (exact absurd rfl (h2 _)) | skip
  case agg x a h hc => exact hc
  all_goals (intro x hx; simp [Value.cells] at hx; subst hx; rfl)
theorem Rel.one_cell {v : V} {u : Value} (h : Rel Γ v u) (h1 : v.isCell = true) : u.oneCell' = true ∧ u.cells = #[u] := by
  cases h <;> first | exact ⟨rfl, rfl⟩ | (simp [V.isCell] at h1)
end
end Go.Vm

namespace Go.Vm
variable [Gl]
open Go.RowKit

def Ob.live : Ob → Bool
  | .cells .. | .map _ => true
  | _ => false

/-- A row of variables lies in block b. -/
def RowAt (Γ : Ctx) (w : World) (b : Nat) (l : List V) : Prop :=
  ∃ c el, w.heap[b]? = some (.cells c el (0, 0)) ∧ c.size = Γ.bs b ∧ l.length ≤ c.size ∧ RelL Γ l (c.toList.take l.length) ∧ ∀ u ∈ c.toList, Value.oneCell' u = true
/-- Cells that can be read. -/
def OldAt (Γ : Ctx) (w : World) (b : Nat) (l : List V) : Prop :=
  ∃ us, RelL Γ l us ∧ (∀ (j : Nat) (u : Value), us[j]? = some u → w.cell? ⟨b, j, none⟩ = some u) ∧ ∀ u ∈ us, Value.oneCell' u = true
/-- The entries of a map. -/
inductive RelP (Γ : Ctx) : Nat → List (V × V) → List MapEntry → Prop
  | nil (n : Nat) : RelP Γ n [] []
  | cons (n : Nat) (k v : V) (e : MapEntry) (l : List (V × V)) (es : List MapEntry) (hk : Rel Γ k e.key) (hv : Rel Γ v e.val) (hb : e.born = n) (hs : RelP Γ (n + 1) l es) :
      RelP Γ n ((k, v) :: l) (e :: es)
def MapAt (Γ : Ctx) (w : World) (b : Nat) (l : List (V × V)) : Prop :=
  ∃ es, w.heap[b]? = some (.map es es.size) ∧ RelP Γ 0 l es.toList

structure Mem (Γ : Ctx) (S : St) (w : World) : Prop where
  glb : ∀ (g : Nat), Rel Γ (Gl.gl g) (.pointer (some ⟨g, 0, none⟩))
  fro : ∀ (b o : Nat) (u : Value), Γ.μ b o = some u → w.cell? ⟨b, o, none⟩ = some u
  lt : ∀ (id : Id) (b : Nat), Γ.φ id = some b → b < w.heap.size
  alive : ∀ (id : Id) (b : Nat), Γ.φ id = some b → S.get id ≠ .free
  row : ∀ (id : Id) (b : Nat) (l : List V) (fz : Nat) (anc : List Id), Γ.φ id = some b → S.get id = .cells l fz anc → RowAt Γ w b l
  frz : ∀ (id : Id) (b : Nat) (l : List V) (fz : Nat) (anc : List Id), Γ.φ id = some b → S.get id = .cells l fz anc → fz ≤ l.length ∧ ∀ (o : Nat), fz ≤ o → Γ.μ b o = none
  old : ∀ (id : Id) (b : Nat) (l : List V), Γ.φ id = some b → S.get id = .stale l → OldAt Γ w b l
  one : ∀ (id id' : Id) (b : Nat), Γ.φ id = some b → Γ.φ id' = some b → (S.get id).live = true → (S.get id').live = true → id = id'
  anc : ∀ (id : Id) (b : Nat) (l : List V) (fz : Nat) (anc : List Id) (id' : Id) (l' : List V), Γ.φ id = some b → S.get id = .cells l fz anc → Γ.φ id' = some b → S.get id' = .stale l' → id' ∈ anc ∧ l'.length ≤ l.length
  map : ∀ (id : Id) (b : Nat) (l : List (V × V)), Γ.φ id = some b → S.get id = .map l → MapAt Γ w b l
  mst : ∀ (id id' : Id) (b : Nat) (l : List (V × V)) (l' : List V), Γ.φ id = some b → S.get id = .map l → Γ.φ id' = some b → S.get id' = .stale l' → False

structure Step (Γ : Ctx) (S : St) (w : World) (Γ' : Ctx) (S' : St) (w' : World) : Prop where
  le : Γ.le Γ'
  mem : Mem Γ' S' w'
  os : w'.os = w.os
  tape : w'.tape = w.tape
  output : w'.output = w.output
  size : w.heap.size ≤ w'.heap.size
  frame : ∀ (b : Nat), b < w.heap.size → (∀ (id : Id), Γ.φ id = some b → (S.get id).live = false) → w'.heap[b]? = w.heap[b]?
  pend : ∀ (id : Id), Γ.φ id = none → (S.get id).live = true → S'.get id = S.get id ∧ Γ'.φ id = none
  own : ∀ (id : Id) (b : Nat), Γ'.φ id = some b → b < w.heap.size → (Γ.φ id = some b ∧ ((S'.get id).live = true → (S.get id).live = true)) ∨ (Γ.φ id = none ∧ ∃ (id0 : Id), Γ.φ id0 = some b ∧ (S.get id0).live = true)
  mu : ∀ (b o : Nat) (u : Value), Γ'.μ b o = some u → Γ.μ b o = some u ∨ w.heap.size ≤ b
  fz : ∀ (a : Addr), w'.frozen? a = w.frozen? a
theorem Step.owner {Γ Γ' : Ctx} {S S' : St} {w w' : World} (h : Step Γ S w Γ' S' w') {id : Id} {b : Nat} (h1 : Γ'.φ id = some b) (h2 : (S'.get id).live = true) (h3 : b < w.heap.size) : ∃ (id0 : Id), Γ.φ id0 = some b ∧ (S.get id0).live = true := by
  rcases h.own id b h1 h3 with ⟨e1, e2⟩ | ⟨_, e⟩
  · exact ⟨id, e1, e2 h2⟩
  · exact e

theorem World.cell?_heap {w w' : World} (h : w'.heap = w.heap) (a : Addr) : w'.cell? a = w.cell? a := by simp [World.cell?, h]

theorem Mem.heap {Γ : Ctx} {S : St} {w w' : World} (h : Mem Γ S w) (hh : w'.heap = w.heap) : Mem Γ S w' where
  glb := h.glb
  fro b o u hu := by rw [World.cell?_heap hh]; exact h.fro b o u hu
  lt id b hb := by rw [hh]; exact h.lt id b hb
  alive := h.alive
  row id b l fz anc hb hs := by unfold RowAt; rw [hh]; exact h.row id b l fz anc hb hs
  frz := h.frz
  old id b l hb hs := by
    obtain ⟨us, h1, h2, h3⟩ := h.old id b l hb hs
    exact ⟨us, h1, fun j u hj => by rw [World.cell?_heap hh]; exact h2 j u hj, h3⟩
  one := h.one
  anc := h.anc
  map id b l hb hs := by unfold MapAt; rw [hh]; exact h.map id b l hb hs
  mst := h.mst

theorem Step.of_heap {Γ : Ctx} {S : St} {w w' : World} (h : Mem Γ S w) (hh : w'.heap = w.heap) (ho : w'.os = w.os) (ht : w'.tape = w.tape) (hu : w'.output = w.output) : Step Γ S w Γ S w' where
  le := .refl Γ
  mem := h.heap hh
  os := ho
  tape := ht
  output := hu
  size := by rw [hh]; exact Nat.le_refl _
  frame b _ _ := by rw [hh]
  pend id h1 _ := ⟨rfl, h1⟩
  own id b h1 _ := .inl ⟨h1, fun h => h⟩
  mu _ _ _ h := .inl h
  fz a := by simp only [World.frozen?, hh]
theorem Step.refl {Γ : Ctx} {S : St} {w : World} (h : Mem Γ S w) : Step Γ S w Γ S w := .of_heap h rfl rfl rfl rfl

theorem Step.trans {Γ Γ1 Γ2 : Ctx} {S S1 S2 : St} {w w1 w2 : World} (h : Step Γ S w Γ1 S1 w1) (k : Step Γ1 S1 w1 Γ2 S2 w2) : Step Γ S w Γ2 S2 w2 where
  le := h.le.trans k.le
  mem := k.mem
  os := k.os.trans h.os
  tape := k.tape.trans h.tape
  output := k.output.trans h.output
  size := Nat.le_trans h.size k.size
  frame b hb hn := by
    rw [k.frame b (Nat.lt_of_lt_of_le hb h.size) ?_, h.frame b hb hn]
    intro id hid
    cases hl : (S1.get id).live with
    | false => rfl
    | true =>
      obtain ⟨id0, h1, h2⟩ := h.owner hid hl hb
      rw [hn id0 h1] at h2
      cases h2
  pend id h1 h2 := by
    obtain ⟨e1, e2⟩ := h.pend id h1 h2
    obtain ⟨e3, e4⟩ := k.pend id e2 (by rw [e1]; exact h2)
    exact ⟨e3.trans e1, e4⟩
  own id b h1 hb := by
    rcases k.own id b h1 (Nat.lt_of_lt_of_le hb h.size) with ⟨e1, e2⟩ | ⟨e1, id1, e2, e3⟩
    · rcases h.own id b e1 hb with ⟨e3, e4⟩ | ⟨e3, e4⟩
      · exact .inl ⟨e3, fun q => e4 (e2 q)⟩
      · exact .inr ⟨e3, e4⟩
    · refine .inr ⟨?_, h.owner e2 e3 hb⟩
      cases hq : Γ.φ id with
      | none => rfl
      | some b' => rw [h.le.φ id b' hq] at e1; cases e1
  mu b o u hu := by
    rcases k.mu b o u hu with e | e
    · exact h.mu b o u e
    · exact .inr (Nat.le_trans h.size e)
  fz a := (k.fz a).trans (h.fz a)

/-! the store -/
theorem St.get_set (S : St) (i j : Id) (o : Ob) : (S.set i o).get j = if j = i then o else S.get j := rfl
theorem St.new_eq {S S' : St} {o : Ob} {i : Id} (h : S.new o = some (i, S')) : S.get i = .free ∧ ∀ j, S'.get j = if j = i then o else S.get j := by
  unfold St.new at h
  split at h
  · rename_i hf
    split at h
    · injection h with h; injection h with h1 h2; subst h1; subst h2
      exact ⟨hf, fun _ => rfl⟩
    · cases h
  · cases h

/-- A new object in a new block. -/
theorem Step.alloc {Γ : Ctx} {S S' : St} {w : World} (hm : Mem Γ S w) {es : Nat} {cs : List V} {us rest : List Value} {i : Id} {el : TypeId}
    {fz0 : Nat} {anc0 : List Id} (hn : S.new (.cells cs fz0 anc0) = some (i, S')) (hfz0 : fz0 ≤ cs.length) (hr : RelL Γ cs us) (hone : ∀ u ∈ us ++ rest, Value.oneCell' u = true) :
    ∃ Γ', Step Γ S w Γ' S' (w.alloc (.cells (us ++ rest).toArray el)) ∧ Γ'.φ i = some w.heap.size ∧ Γ'.es w.heap.size = es ∧ Γ'.bs w.heap.size = (us ++ rest).length := by
  obtain ⟨hf, hg⟩ := St.new_eq hn
  have hi : Γ.φ i = none := by
    cases h : Γ.φ i with
    | none => rfl
    | some b => exact absurd hf (hm.alive i b h)
  let Γ' : Ctx := { φ := fun j => if j = i then some w.heap.size else Γ.φ j, bs := fun b => if b = w.heap.size then (us ++ rest).length else Γ.bs b,
                    es := fun b => if b = w.heap.size then es else Γ.es b, μ := Γ.μ }
  have hne : ∀ (j : Id) (b : Nat), Γ.φ j = some b → j ≠ i := fun j b h e => by rw [e, hi] at h; cases h
  have hbn : ∀ (j : Id) (b : Nat), Γ.φ j = some b → b ≠ w.heap.size := fun j b h e => by have := hm.lt j b h; omega
  have hle : Γ.le Γ' := {
    φ := fun j b h => by simp only [Γ', if_neg (hne j b h)]; exact h
    bs := fun j b h => by simp only [Γ', if_neg (hbn j b h)]
    es := fun j b h => by simp only [Γ', if_neg (hbn j b h)]
    μ := fun _ _ _ h => h }
  have hold : ∀ (j : Id) (b : Nat), Γ'.φ j = some b → (j = i ∧ b = w.heap.size) ∨ (j ≠ i ∧ Γ.φ j = some b) := by
    intro j b h
    by_cases e : j = i
    · left; simp only [Γ', e, if_true, Option.some.injEq] at h; exact ⟨e, h.symm⟩
    · right; simp only [Γ', e, if_false] at h; exact ⟨e, h⟩
  have hcell : ∀ (a : Addr), a.block < w.heap.size → (w.alloc (.cells (us ++ rest).toArray el)).cell? a = w.cell? a := fun a h => World.cell?_alloc_lt w _ a h
  have hheap : ∀ (b : Nat), b < w.heap.size → (w.alloc (.cells (us ++ rest).toArray el)).heap[b]? = w.heap[b]? := fun b h => Below.heap_alloc w _ b h
  refine ⟨Γ', ?_, by simp [Γ'], by simp [Γ'], by simp [Γ']⟩
  exact {
    le := hle
    os := rfl
    tape := rfl
    output := rfl
    size := by simp
    frame := fun b hb _ => hheap b hb
    pend := fun j h1 h2 => by
      have : j ≠ i := fun e => by rw [e, hf] at h2; cases h2
      exact ⟨by rw [hg, if_neg this], by simp only [Γ', if_neg this]; exact h1⟩
    own := fun j b h1 hb => by
      rcases hold j b h1 with ⟨_, e⟩ | ⟨e, h⟩
      · omega
      · exact .inl ⟨h, fun h2 => by rw [hg, if_neg e] at h2; exact h2⟩
    mu := fun _ _ _ h => .inl h
    fz := fun a => by
      by_cases e : a.block = w.heap.size
      · have e1 : (w.alloc (.cells (us ++ rest).toArray el)).heap[a.block]? = some (.cells (us ++ rest).toArray el (0, 0)) := by rw [e]; exact (MapKept.heap_alloc w _).1
        have e2 : w.heap[a.block]? = none := by rw [e]; simp
        simp [World.frozen?, e1, e2]
      · have e1 : (w.alloc (.cells (us ++ rest).toArray el)).heap[a.block]? = w.heap[a.block]? := by
          rcases Nat.lt_or_ge a.block w.heap.size with h | h
          · exact hheap _ h
          · rw [Array.getElem?_eq_none h, Array.getElem?_eq_none (by simp; omega)]
        simp only [World.frozen?, e1]
    mem := {
      glb := fun g => (hm.glb g).mono hle
      fro := fun b o u hu => by
        have h := hm.fro b o u hu
        rw [hcell _ (World.block_lt_of_cell? w _ h)]; exact h
      lt := fun j b h => by
        rcases hold j b h with ⟨_, e⟩ | ⟨_, h⟩
        · simp [e]
        · have := hm.lt j b h; simp; omega
      alive := fun j b h => by
        rw [hg]
        rcases hold j b h with ⟨e, _⟩ | ⟨e, h⟩
        · rw [if_pos e]; simp
        · rw [if_neg e]; exact hm.alive j b h
      row := fun j b l fz anc h hs => by
        rw [hg] at hs
        rcases hold j b h with ⟨e, eb⟩ | ⟨e, h⟩
        · rw [if_pos e] at hs; injection hs with h1 h2 h3; subst h1; subst eb
          refine ⟨(us ++ rest).toArray, el, heap_alloc_new w _, by simp [Γ'], ?_, ?_, hone⟩
          · have := hr.length; simp; omega
          · have := hr.length
            skip
            rw [List.take_append_of_le_length (by omega), List.take_of_length_le (by omega)]
            exact hr.mono hle
        · rw [if_neg e] at hs
          obtain ⟨c, el', h1, h2, h4, h5, h6⟩ := hm.row j b l fz anc h hs
          have hlt := hm.lt j b h
          exact ⟨c, el', by rw [hheap b hlt]; exact h1, by rw [hle.bs j b h]; exact h2, h4, h5.mono hle, h6⟩
      frz := fun j b l fz anc h hs => by
        rw [hg] at hs
        rcases hold j b h with ⟨e, eb⟩ | ⟨e, h⟩
        · rw [if_pos e] at hs; injection hs with h1 h2 h3; subst h1; subst h2; subst eb
          refine ⟨hfz0, fun o _ => ?_⟩
          cases hq : Γ'.μ w.heap.size o with
          | none => rfl
          | some u => have := World.block_lt_of_cell? w _ (hm.fro _ _ _ hq); simp at this
        · rw [if_neg e] at hs; exact hm.frz j b l fz anc h hs
      old := fun j b l h hs => by
        rw [hg] at hs
        rcases hold j b h with ⟨e, eb⟩ | ⟨e, h⟩
        · rw [if_pos e] at hs; cases hs
        · rw [if_neg e] at hs
          obtain ⟨vs, h1, h2, h3⟩ := hm.old j b l h hs
          exact ⟨vs, h1.mono hle, fun k u hk => by rw [hcell _ (hm.lt j b h)]; exact h2 k u hk, h3⟩
      one := fun j j' b h h' hl hl' => by
        rw [hg] at hl hl'
        rcases hold j b h with ⟨e, eb⟩ | ⟨e, h⟩
        · rcases hold j' b h' with ⟨e', _⟩ | ⟨e', h'⟩
          · rw [e, e']
          · have := hm.lt j' b h'; omega
        · rcases hold j' b h' with ⟨e', eb'⟩ | ⟨e', h'⟩
          · have := hm.lt j b h; omega
          · rw [if_neg e] at hl; rw [if_neg e'] at hl'; exact hm.one j j' b h h' hl hl'
      anc := fun j b l fz anc j' l' h hs h' hs' => by
        rw [hg] at hs hs'
        rcases hold j' b h' with ⟨e', eb'⟩ | ⟨e', h'⟩
        · rw [if_pos e'] at hs'; cases hs'
        · rw [if_neg e'] at hs'
          rcases hold j b h with ⟨e, eb⟩ | ⟨e, h⟩
          · have := hm.lt j' b h'; omega
          · rw [if_neg e] at hs; exact hm.anc j b l fz anc j' l' h hs h' hs'
      map := fun j b l h hs => by
        rw [hg] at hs
        rcases hold j b h with ⟨e, eb⟩ | ⟨e, h⟩
        · rw [if_pos e] at hs; cases hs
        · rw [if_neg e] at hs
          obtain ⟨es', h1, h2⟩ := hm.map j b l h hs
          refine ⟨es', by rw [hheap b (hm.lt j b h)]; exact h1, ?_⟩
          clear hs h1
          generalize es'.toList = q at h2
          generalize (0 : Nat) = z at h2
          induction h2 with
          | nil n => exact .nil n
          | cons n k v e l es hk hv hb hs ih => exact .cons n k v e l es (hk.mono hle) (hv.mono hle) hb ih
      mst := fun j j' b l l' h hs h' hs' => by
        rw [hg] at hs hs'
        rcases hold j b h with ⟨e, eb⟩ | ⟨e, h⟩
        · rw [if_pos e] at hs; cases hs
        · rcases hold j' b h' with ⟨e', eb'⟩ | ⟨e', h'⟩
          · rw [if_pos e'] at hs'; cases hs'
          · rw [if_neg e] at hs; rw [if_neg e'] at hs'; exact hm.mst j j' b l l' h hs h' hs' } }
end Go.Vm

namespace Go.Vm
variable [Gl]
open Go.RowKit

theorem over_cons {α : Type} (l : List α) (o : Nat) (v : α) (vs : List α) (h : o < l.length) : over (l.set o v) (o + 1) vs = over l o (v :: vs) := by
  unfold over
  rw [List.drop_set_of_lt (by omega)]
  rw [List.take_set, List.take_succ_eq_append_getElem h]
  have : (List.take o l ++ [l[o]]).set o v = List.take o l ++ [v] := by
    rw [List.set_append_right _ _ (by simp; omega)]
    simp [List.length_take, Nat.min_eq_left (Nat.le_of_lt h)]
  rw [this]
  simp [Nat.add_assoc, Nat.add_comm 1]
theorem over_length {α : Type} (l : List α) (o : Nat) (vs : List α) (h : o + vs.length ≤ l.length) : (over l o vs).length = l.length := by
  unfold over; simp; omega
theorem over_nil {α : Type} (l : List α) (o : Nat) : over l o [] = l := by unfold over; simp
theorem Addr_add (b off n : Nat) : (⟨b, off, none⟩ : Addr).add n = ⟨b, off + n, none⟩ := by
  unfold Addr.add; split <;> simp_all

theorem heap_setCell_row (w : World) (b o : Nat) (u : Value) (c : Array Value) (el : TypeId) (h : w.heap[b]? = some (.cells c el (0, 0))) :
    (w.setCell ⟨b, o, none⟩ u).heap[b]? = some (.cells (c.setIfInBounds o u) el (0, 0)) := by
  simp [World.setCell, Array.getElem?_modify, h]
theorem heap_setCell_other (w : World) (a : Addr) (u : Value) (k : Nat) (h : k ≠ a.block) : (w.setCell a u).heap[k]? = w.heap[k]? :=
  Below.heap_setCell w a u k h

theorem run_storeCells_row {P : Program} : ∀ (vs : List Value) (w : World) (i off b : Nat) (c : Array Value) (el : TypeId), w.heap[b]? = some (.cells c el (0, 0)) →
    (∀ v ∈ vs, Value.oneCell' v = true) → off + i + vs.length ≤ c.size →
    ∃ w', (storeCells ⟨b, off, none⟩ vs i).run P w = .ok () w' ∧ w'.heap[b]? = some (.cells (over c.toList (off + i) vs).toArray el (0, 0)) ∧
      (∀ (k : Nat), k ≠ b → w'.heap[k]? = w.heap[k]?) ∧ w'.heap.size = w.heap.size ∧ w'.os = w.os ∧ w'.tape = w.tape ∧ w'.output = w.output
  | [], w, i, off, b, c, el, hb, _, _ => ⟨w, by simp [storeCells], by rw [over_nil]; simpa using hb, fun _ _ => rfl, rfl, rfl, rfl, rfl⟩
  | v :: vs, w, i, off, b, c, el, hb, hone, hsz => by
    have hcell : w.cell? ⟨b, off + i, none⟩ = c[off + i]? := by simp [World.cell?, hb]
    have hlt : off + i < c.size := by simp at hsz; omega
    have hfro : w.frozen? ⟨b, off + i, none⟩ = false := by simp [World.frozen?, hb]
    have hst : (store (⟨b, off, none⟩ : Addr) v : Sem Unit) = store ⟨b, off, none⟩ v := rfl
    have h1 : (store ((⟨b, off, none⟩ : Addr).add i) v).run P w = .ok () (w.setCell ⟨b, off + i, none⟩ v) := by
      rw [Addr_add, run_store P w _ v .plain (hone v (by simp)), hcell, Array.getElem?_eq_getElem hlt]
      simp [hfro]
    obtain ⟨w', h2, h3, h4, h5, h6, h7, h8⟩ := run_storeCells_row (P := P) vs (w.setCell ⟨b, off + i, none⟩ v) (i + 1) off b (c.setIfInBounds (off + i) v) el
      (heap_setCell_row w b (off + i) v c el hb) (fun u hu => hone u (by simp [hu])) (by simp at hsz ⊢; omega)
    refine ⟨w', ?_, ?_, ?_, ?_, h6, h7, h8⟩
    · simp only [storeCells, Sem.run_bind, h1, Result.andThen_ok, h2]
    · rw [h3]
      congr 2
      rw [Array.toList_setIfInBounds, show off + (i + 1) = off + i + 1 by omega, over_cons _ _ _ _ (by simpa using hlt)]
    · intro k hk
      rw [h4 k hk, heap_setCell_other w _ v k hk]
    · rw [h5]; simp

/-- What becomes of a row whose object is written: the objects that may lie in the same place are gone. -/
theorem killAll_get (S : St) : ∀ (l : List Id) (j : Id), (killAll l S).get j = S.get j ∨ ((killAll l S).get j = .dead ∧ j ∈ l ∧ ∃ x, S.get j = .stale x) := by
  intro l
  induction l generalizing S with
  | nil => intro j; left; rfl
  | cons i r ih =>
    intro j
    simp only [killAll]
    cases hi : S.get i with
    | stale x =>
      simp only []
      rcases ih (S.set i .dead) j with h | ⟨h1, h2, y, h3⟩
      · rw [h, St.get_set]
        by_cases e : j = i
        · right; subst e; simp [hi]
        · left; simp [e]
      · rw [St.get_set] at h3
        by_cases e : j = i
        · simp [e] at h3
        · right; simp only [e, if_false] at h3; exact ⟨h1, by simp [h2], y, h3⟩
    | _ =>
      simp only []
      rcases ih S j with h | ⟨h1, h2, h3⟩
      · left; exact h
      · right; exact ⟨h1, by simp [h2], h3⟩
theorem killAll_kills (S : St) : ∀ (l : List Id) (j : Id) (x : List V), j ∈ l → (killAll l S).get j ≠ .stale x := by
  intro l
  induction l generalizing S with
  | nil => intro j x h; simp at h
  | cons i r ih =>
    intro j x h
    simp only [killAll]
    by_cases hr : j ∈ r
    · exact ih _ j x hr
    · have e : j = i := by simpa [hr] using h
      subst e
      intro hc
      cases hi : S.get j with
      | stale y =>
        rw [hi] at hc; simp only [] at hc
        rcases killAll_get (S.set j .dead) r j with h' | ⟨h', _, _⟩
        · rw [h', St.get_set] at hc; simp at hc
        · rw [h'] at hc; cases hc
      | _ =>
        rw [hi] at hc; simp only [] at hc
        rcases killAll_get S r j with h' | ⟨h', _, _⟩
        · rw [h', hi] at hc; cases hc
        · rw [h'] at hc; cases hc

theorem RelL.over {Γ : Ctx} {l : List V} {us : List Value} {vs : List V} {ws : List Value} (h : RelL Γ l us) (k : RelL Γ vs ws) (o : Nat) : RelL Γ (over l o vs) (Vm.over us o ws) := by
  unfold Vm.over
  rw [← k.length]
  exact ((h.take o).append k).append (h.drop _)
theorem take_over {α : Type} (l : List α) (n o : Nat) (vs : List α) (h : o + vs.length ≤ n) : (over l o vs).take n = over (l.take n) o vs := by
  unfold over
  by_cases hl : o ≤ l.length
  · rw [List.append_assoc, List.take_append, List.take_append]
    have e1 : (List.take o l).length = o := by simp [Nat.min_eq_left hl]
    rw [e1, List.take_of_length_le (l := List.take o l) (by simp; omega), List.take_of_length_le (l := vs) (by omega), List.take_take, Nat.min_eq_left (by omega), List.drop_take]
    simp [Nat.sub_sub]
  · have e1 : List.take o l = l := List.take_of_length_le (by omega)
    rw [e1, List.drop_eq_nil_of_le (by omega), List.append_nil, List.take_append]
    rw [List.take_take, Nat.min_eq_left (by omega), e1, List.take_of_length_le (l := l) (by omega), List.take_of_length_le (l := vs) (by omega), List.drop_eq_nil_of_le (by omega), List.append_nil]

/-- A write. -/
theorem Step.write {Γ : Ctx} {S : St} {w w' : World} (hm : Mem Γ S w) {id : Id} {b off fz : Nat} {l : List V} {anc : List Id} {vs : List V} {us : List Value} {c : Array Value} {el : TypeId}
    (hφ : Γ.φ id = some b) (hs : S.get id = .cells l fz anc) (hfz : fz ≤ off) (hsz : off + vs.length ≤ l.length) (hid : id ∉ anc)
    (hb : w.heap[b]? = some (.cells c el (0, 0))) (hr : RelL Γ vs us) (hone : ∀ u ∈ us, Value.oneCell' u = true)
    (hb' : w'.heap[b]? = some (.cells (over c.toList off us).toArray el (0, 0))) (hother : ∀ (k : Nat), k ≠ b → w'.heap[k]? = w.heap[k]?) (hsize : w'.heap.size = w.heap.size)
    (hos : w'.os = w.os) (htape : w'.tape = w.tape) (hout : w'.output = w.output) :
    Step Γ S w Γ ((killAll anc S).set id (.cells (over l off vs) fz [])) w' := by
  obtain ⟨c0, el0, h1, h2, h4, h5, h6⟩ := hm.row id b l fz anc hφ hs
  rw [hb] at h1; injection h1 with h1; injection h1 with h1a h1b; subst h1a; subst h1b
  have hget : ∀ j, ((killAll anc S).set id (.cells (over l off vs) fz [])).get j = if j = id then .cells (over l off vs) fz [] else (killAll anc S).get j := fun j => rfl
  have hkid : ∀ j, j ≠ id → ((killAll anc S).get j = S.get j ∨ ((killAll anc S).get j = .dead ∧ j ∈ anc ∧ ∃ x, S.get j = .stale x)) := fun j _ => killAll_get S anc j
  -- an object that is there behind the write was there before, as it is, but for id
  have hback : ∀ j o, j ≠ id → (killAll anc S).get j = o → o ≠ .dead → S.get j = o := by
    intro j o hj ho hd
    rcases hkid j hj with h | ⟨h, _, _⟩
    · rw [← h]; exact ho
    · rw [h] at ho; exact absurd ho.symm hd
  have hcell : ∀ (a : Addr), a.block ≠ b → w'.cell? a = w.cell? a := fun a ha => by simp only [World.cell?, hother a.block ha]
  have hcellb : ∀ (o : Nat), o < off ∨ off + us.length ≤ o → w'.cell? ⟨b, o, none⟩ = w.cell? ⟨b, o, none⟩ := by
    intro o ho
    simp only [World.cell?, hb', hb, Option.isSome_none, Bool.false_eq_true, if_false]
    simp only [List.getElem?_toArray]
    rw [← Array.getElem?_toList]
    have hul : us.length = vs.length := hr.length.symm
    have hcl : off ≤ c.toList.length := by simp; omega
    unfold over
    rcases ho with ho | ho
    · rw [List.append_assoc, List.getElem?_append_left (by simp; omega), List.getElem?_take, if_pos ho]
    · rw [List.getElem?_append_right (by simp; omega)]
      rw [List.getElem?_drop]
      congr 1
      simp
      omega
  refine { le := .refl Γ, os := hos, tape := htape, output := hout, size := by rw [hsize]; exact Nat.le_refl _, frame := ?frame, pend := ?pend, own := ?own, mu := fun _ _ _ h => .inl h, fz := ?fz, mem := ?mem }
  case fz =>
    intro a
    by_cases e : a.block = b
    · simp [World.frozen?, e, hb, hb']
    · simp only [World.frozen?, hother a.block e]
  case frame =>
    intro k hk hn
    refine hother k (fun e => ?_)
    have := hn id (e ▸ hφ)
    rw [hs] at this; cases this
  case pend =>
    intro j h1 h2
    refine ⟨?_, h1⟩
    have hj : j ≠ id := fun e => by rw [e, hφ] at h1; cases h1
    rw [hget, if_neg hj]
    rcases hkid j hj with h | ⟨_, _, x, h⟩
    · exact h
    · rw [h] at h2; cases h2
  case own =>
    intro j k h1 _
    refine .inl ⟨h1, fun h2 => ?_⟩
    by_cases hj : j = id
    · subst hj; rw [hs]; rfl
    · rw [hget, if_neg hj] at h2
      rcases hkid j hj with h | ⟨h, _, _⟩
      · rw [← h]; exact h2
      · rw [h] at h2; cases h2
  case mem =>
    exact {
      glb := hm.glb
      fro := fun k o u hu => by
        by_cases hk : k = b
        · subst hk
          have hlt : o < off := by
            rcases Nat.lt_or_ge o off with h | h
            · exact h
            · have := (hm.frz id k l fz anc hφ hs).2 o (by omega); rw [hu] at this; cases this
          rw [hcellb o (.inl hlt)]; exact hm.fro k o u hu
        · rw [hcell _ hk]; exact hm.fro k o u hu
      lt := fun j k h => by rw [hsize]; exact hm.lt j k h
      alive := fun j k h => by
        rw [hget]
        by_cases hj : j = id
        · rw [if_pos hj]; simp
        · rw [if_neg hj]
          rcases hkid j hj with h' | ⟨h', _, _⟩
          · rw [h']; exact hm.alive j k h
          · rw [h']; simp
      row := fun j k l' fz' anc' h hs' => by
        rw [hget] at hs'
        by_cases hj : j = id
        · rw [if_pos hj] at hs'; injection hs' with e2 e3 e4; subst e2; subst hj
          rw [hφ] at h; injection h with h; subst h
          refine ⟨_, el, hb', ?_, ?_, ?_, ?_⟩
          · rw [← h2]; simp only [List.size_toArray]; rw [over_length _ _ _ (by simp [← hr.length]; omega)]; simp
          · simp only [List.size_toArray]; rw [over_length _ _ _ hsz, over_length _ _ _ (by simp [← hr.length]; omega)]; simpa using h4
          · rw [over_length _ _ _ hsz]
            rw [take_over _ _ _ _ (by rw [← hr.length]; exact hsz)]
            exact h5.over hr off
          · intro u hu
            simp only [Vm.over, List.mem_append] at hu
            rcases hu with (hu | hu) | hu
            · exact h6 u (List.mem_of_mem_take hu)
            · exact hone u hu
            · exact h6 u (List.mem_of_mem_drop hu)
        · rw [if_neg hj] at hs'
          have hs'' := hback j _ hj hs' (by simp)
          obtain ⟨c', el', g1, g2, g4, g5, g6⟩ := hm.row j k l' fz' anc' h hs''
          have hk : k ≠ b := fun e => hj (hm.one j id k h (e ▸ hφ) (by rw [hs'']; rfl) (by rw [hs]; rfl))
          exact ⟨c', el', by rw [hother k hk]; exact g1, g2, g4, g5, g6⟩
      frz := fun j k l' fz' anc' h hs' => by
        rw [hget] at hs'
        by_cases hj : j = id
        · rw [if_pos hj] at hs'; injection hs' with e2 e3 e4; subst e2; subst e3; subst hj
          rw [over_length _ _ _ hsz]
          exact hm.frz j k l fz anc h hs
        · rw [if_neg hj] at hs'
          exact hm.frz j k l' fz' anc' h (hback j _ hj hs' (by simp))
      old := fun j k l' h hs' => by
        rw [hget] at hs'
        by_cases hj : j = id
        · rw [if_pos hj] at hs'; cases hs'
        · rw [if_neg hj] at hs'
          have hs'' := hback j _ hj hs' (by simp)
          obtain ⟨vs', g1, g2, g3⟩ := hm.old j k l' h hs''
          have hk : k ≠ b := fun e => by
            subst e
            have := (hm.anc id k l fz anc j l' hφ hs h hs'').1
            exact killAll_kills S anc j l' this hs'
          exact ⟨vs', g1, fun i u hi => by rw [hcell _ hk]; exact g2 i u hi, g3⟩
      one := fun j j' k h h' hl hl' => by
        rw [hget] at hl hl'
        have live_back : ∀ x, x ≠ id → ((killAll anc S).get x).live = true → (S.get x).live = true := by
          intro x hx h
          rcases hkid x hx with e | ⟨e, _, _⟩
          · rw [← e]; exact h
          · rw [e] at h; cases h
        have hli : (S.get id).live = true := by rw [hs]; rfl
        by_cases hj : j = id
        · by_cases hj' : j' = id
          · rw [hj, hj']
          · rw [if_neg hj'] at hl'
            exact hm.one j j' k h h' (hj ▸ hli) (live_back j' hj' hl')
        · rw [if_neg hj] at hl
          by_cases hj' : j' = id
          · exact hm.one j j' k h h' (live_back j hj hl) (hj' ▸ hli)
          · rw [if_neg hj'] at hl'
            exact hm.one j j' k h h' (live_back j hj hl) (live_back j' hj' hl')
      anc := fun j k l' fz' anc' j' l'' h hs' h' hs'' => by
        rw [hget] at hs' hs''
        by_cases hj' : j' = id
        · rw [if_pos hj'] at hs''; cases hs''
        · rw [if_neg hj'] at hs''
          have ht := hback j' _ hj' hs'' (by simp)
          by_cases hj : j = id
          · rw [if_pos hj] at hs'; injection hs' with e2 e3 e4; subst hj
            rw [hφ] at h; injection h with h; subst h
            have := (hm.anc j b l fz anc j' l'' hφ hs h' ht).1
            exact absurd hs'' (killAll_kills S anc j' l'' this)
          · rw [if_neg hj] at hs'
            exact hm.anc j k l' fz' anc' j' l'' h (hback j _ hj hs' (by simp)) h' ht
      map := fun j k l' h hs' => by
        rw [hget] at hs'
        by_cases hj : j = id
        · rw [if_pos hj] at hs'; cases hs'
        · rw [if_neg hj] at hs'
          have hs'' := hback j _ hj hs' (by simp)
          obtain ⟨es', g1, g2⟩ := hm.map j k l' h hs''
          have hk : k ≠ b := fun e => hj (hm.one j id k h (e ▸ hφ) (by rw [hs'']; rfl) (by rw [hs]; rfl))
          exact ⟨es', by rw [hother k hk]; exact g1, g2⟩
      mst := fun j j' k l' l'' h hs' h' hs'' => by
        rw [hget] at hs' hs''
        by_cases hj' : j' = id
        · rw [if_pos hj'] at hs''; cases hs''
        · by_cases hj : j = id
          · rw [if_pos hj] at hs'; cases hs'
          · rw [if_neg hj'] at hs''; rw [if_neg hj] at hs'
            exact hm.mst j j' k l' l'' h (hback j _ hj hs' (by simp)) h' (hback j' _ hj' hs'' (by simp)) }
end Go.Vm

namespace Go.Vm
variable [Gl]
open Go.RowKit

/-- A row becomes an elder one: nothing is done in memory. -/
theorem Step.stale {Γ : Ctx} {S : St} {w : World} (hm : Mem Γ S w) {id : Id} {b fz : Nat} {l : List V} {anc : List Id} (hφ : Γ.φ id = some b) (hs : S.get id = .cells l fz anc) :
    Step Γ S w Γ (S.set id (.stale l)) w := by
  have hlive : (S.get id).live = true := by rw [hs]; rfl
  obtain ⟨c, el, h1, h2, h4, h5, h6⟩ := hm.row id b l fz anc hφ hs
  refine { le := .refl Γ, os := rfl, tape := rfl, output := rfl, size := Nat.le_refl _, frame := fun _ _ _ => rfl, pend := ?pend, own := ?own, mu := fun _ _ _ h => .inl h, fz := fun _ => rfl, mem := ?mem }
  case pend =>
    intro j g1 g2
    have hj : j ≠ id := fun e => by rw [e, hφ] at g1; cases g1
    exact ⟨by rw [St.get_set, if_neg hj], g1⟩
  case own =>
    intro j k g1 _
    refine .inl ⟨g1, fun g2 => ?_⟩
    rw [St.get_set] at g2
    by_cases hj : j = id
    · rw [if_pos hj] at g2; cases g2
    · rw [if_neg hj] at g2; exact g2
  case mem =>
    exact {
      glb := hm.glb
      fro := hm.fro
      lt := hm.lt
      alive := fun j k h => by rw [St.get_set]; by_cases hj : j = id <;> simp [hj]; exact hm.alive j k h
      row := fun j k l' fz' anc' h g => by
        rw [St.get_set] at g
        by_cases hj : j = id
        · rw [if_pos hj] at g; cases g
        · rw [if_neg hj] at g; exact hm.row j k l' fz' anc' h g
      frz := fun j k l' fz' anc' h g => by
        rw [St.get_set] at g
        by_cases hj : j = id
        · rw [if_pos hj] at g; cases g
        · rw [if_neg hj] at g; exact hm.frz j k l' fz' anc' h g
      old := fun j k l' h g => by
        rw [St.get_set] at g
        by_cases hj : j = id
        · rw [if_pos hj] at g; injection g with g; subst g; subst hj
          rw [hφ] at h; injection h with h; subst h
          refine ⟨_, h5, fun i u hi => ?_, fun u hu => h6 u (List.mem_of_mem_take hu)⟩
          simp only [World.cell?, h1, Option.isSome_none, Bool.false_eq_true, if_false]
          rw [List.getElem?_take] at hi
          split at hi
          · simpa using hi
          · cases hi
        · rw [if_neg hj] at g; exact hm.old j k l' h g
      one := fun j j' k h h' g g' => by
        rw [St.get_set] at g g'
        by_cases hj : j = id
        · rw [if_pos hj] at g; cases g
        · by_cases hj' : j' = id
          · rw [if_pos hj'] at g'; cases g'
          · rw [if_neg hj] at g; rw [if_neg hj'] at g'; exact hm.one j j' k h h' g g'
      anc := fun j k l' fz' anc' j' l'' h g h' g' => by
        rw [St.get_set] at g g'
        by_cases hj : j = id
        · rw [if_pos hj] at g; cases g
        · rw [if_neg hj] at g
          by_cases hj' : j' = id
          · subst hj'
            rw [hφ] at h'; injection h' with h'; subst h'
            exact absurd (hm.one j j' b h hφ (by rw [g]; rfl) hlive) hj
          · rw [if_neg hj'] at g'; exact hm.anc j k l' fz' anc' j' l'' h g h' g'
      map := fun j k l' h g => by
        rw [St.get_set] at g
        by_cases hj : j = id
        · rw [if_pos hj] at g; cases g
        · rw [if_neg hj] at g; exact hm.map j k l' h g
      mst := fun j j' k l' l'' h g h' g' => by
        rw [St.get_set] at g g'
        by_cases hj : j = id
        · rw [if_pos hj] at g; cases g
        · rw [if_neg hj] at g
          by_cases hj' : j' = id
          · subst hj'
            rw [hφ] at h'; injection h' with h'; subst h'
            exact absurd (hm.one j j' b h hφ (by rw [g]; rfl) hlive) hj
          · rw [if_neg hj'] at g'; exact hm.mst j j' k l' l'' h g h' g' }

/-- The end of a row is forgotten. -/
theorem Step.cut {Γ : Ctx} {S : St} {w : World} (hm : Mem Γ S w) {id : Id} {b fz k : Nat} {l : List V} (hφ : Γ.φ id = some b) (hs : S.get id = .cells l fz []) (hf : fz ≤ k) :
    Step Γ S w Γ (S.set id (.cells (l.take k) fz [])) w := by
  have hlive : (S.get id).live = true := by rw [hs]; rfl
  obtain ⟨c, el, h1, h2, h4, h5, h6⟩ := hm.row id b l fz [] hφ hs
  have hfz := hm.frz id b l fz [] hφ hs
  have key : ∀ (q : Id), ((S.set id (.cells (l.take k) fz [])).get q).live = true → (S.get q).live = true := by
    intro q g
    by_cases hq : q = id
    · rw [hq]; exact hlive
    · rw [St.get_set, if_neg hq] at g; exact g
  refine { le := .refl Γ, os := rfl, tape := rfl, output := rfl, size := Nat.le_refl _, frame := fun _ _ _ => rfl, pend := ?pend, own := fun j k g1 _ => .inl ⟨g1, key j⟩, mu := fun _ _ _ h => .inl h, fz := fun _ => rfl, mem := ?mem }
  case pend =>
    intro j g1 g2
    have hj : j ≠ id := fun e => by rw [e, hφ] at g1; cases g1
    exact ⟨by rw [St.get_set, if_neg hj], g1⟩
  case mem =>
    exact {
      glb := hm.glb
      fro := hm.fro
      lt := hm.lt
      alive := fun j k h => by rw [St.get_set]; by_cases hj : j = id <;> simp [hj]; exact hm.alive j k h
      row := fun j k' l' fz' anc' h g => by
        rw [St.get_set] at g
        by_cases hj : j = id
        · rw [if_pos hj] at g; injection g with g1 g2 g3; subst g1; subst hj
          rw [hφ] at h; injection h with h; subst h
          refine ⟨c, el, h1, h2, by simp; omega, ?_, h6⟩
          have := h5.take k
          rw [List.take_take] at this
          rw [List.length_take]; exact this
        · rw [if_neg hj] at g; exact hm.row j k' l' fz' anc' h g
      frz := fun j k' l' fz' anc' h g => by
        rw [St.get_set] at g
        by_cases hj : j = id
        · rw [if_pos hj] at g; injection g with g1 g2 g3; subst g1; subst g2; subst hj
          rw [hφ] at h; injection h with h; subst h
          exact ⟨by rw [List.length_take]; have := hfz.1; omega, hfz.2⟩
        · rw [if_neg hj] at g; exact hm.frz j k' l' fz' anc' h g
      old := fun j k' l' h g => by
        rw [St.get_set] at g
        by_cases hj : j = id
        · rw [if_pos hj] at g; cases g
        · rw [if_neg hj] at g; exact hm.old j k' l' h g
      one := fun j j' k' h h' g g' => hm.one j j' k' h h' (key j g) (key j' g')
      anc := fun j k' l' fz' anc' j' l'' h g h' g' => by
        rw [St.get_set] at g g'
        by_cases hj' : j' = id
        · rw [if_pos hj'] at g'; cases g'
        · rw [if_neg hj'] at g'
          by_cases hj : j = id
          · rw [if_pos hj] at g; subst hj
            rw [hφ] at h; injection h with h; subst h
            have := (hm.anc j b l fz [] j' l'' hφ hs h' g').1
            cases this
          · rw [if_neg hj] at g; exact hm.anc j k' l' fz' anc' j' l'' h g h' g'
      map := fun j k' l' h g => by
        rw [St.get_set] at g
        by_cases hj : j = id
        · rw [if_pos hj] at g; cases g
        · rw [if_neg hj] at g; exact hm.map j k' l' h g
      mst := fun j j' k' l' l'' h g h' g' => by
        rw [St.get_set] at g g'
        by_cases hj : j = id
        · rw [if_pos hj] at g; cases g
        · rw [if_neg hj] at g
          by_cases hj' : j' = id
          · rw [if_pos hj'] at g'; cases g'
          · rw [if_neg hj'] at g'; exact hm.mst j j' k' l' l'' h g h' g' }
/-- An append within the capacity. -/
theorem Step.appendIn {Γ : Ctx} {S S' : St} {w w' : World} (hm : Mem Γ S w) {id i : Id} {b fz : Nat} {l : List V} {anc : List Id} {vs : List V} {us : List Value} {c : Array Value} {el : TypeId}
    (hφ : Γ.φ id = some b) (hs : S.get id = .cells l fz anc) (hn : (S.set id (.stale l)).new (.cells (l ++ vs) fz (id :: anc)) = some (i, S'))
    (hb : w.heap[b]? = some (.cells c el (0, 0))) (hsz : l.length + vs.length ≤ c.size) (hr : RelL Γ vs us) (hone : ∀ u ∈ us, Value.oneCell' u = true)
    (hb' : w'.heap[b]? = some (.cells (over c.toList l.length us).toArray el (0, 0))) (hother : ∀ (k : Nat), k ≠ b → w'.heap[k]? = w.heap[k]?) (hsize : w'.heap.size = w.heap.size)
    (hos : w'.os = w.os) (htape : w'.tape = w.tape) (hout : w'.output = w.output) :
    ∃ Γ', Step Γ S w Γ' S' w' ∧ Γ'.φ i = some b ∧ Γ'.es b = Γ.es b ∧ Γ'.bs b = Γ.bs b := by
  obtain ⟨c0, el0, h1, h2, h4, h5, h6⟩ := hm.row id b l fz anc hφ hs
  rw [hb] at h1; injection h1 with h1; injection h1 with h1a h1b; subst h1a; subst h1b
  obtain ⟨hf, hg⟩ := St.new_eq hn
  have hlive : (S.get id).live = true := by rw [hs]; rfl
  have hii : i ≠ id := fun e => by rw [St.get_set, e, if_pos rfl] at hf; cases hf
  have hfi : S.get i = .free := by rw [St.get_set, if_neg hii] at hf; exact hf
  have hi : Γ.φ i = none := by
    cases h : Γ.φ i with
    | none => rfl
    | some b => exact absurd hfi (hm.alive i b h)
  have hget : ∀ j, S'.get j = if j = i then .cells (l ++ vs) fz (id :: anc) else if j = id then .stale l else S.get j := by
    intro j; rw [hg]; by_cases e : j = i
    · simp [e]
    · simp only [e, if_false]; rfl
  let Γ' : Ctx := { φ := fun j => if j = i then some b else Γ.φ j, bs := Γ.bs, es := Γ.es, μ := Γ.μ }
  have hne : ∀ (j : Id) (k : Nat), Γ.φ j = some k → j ≠ i := fun j k h e => by rw [e, hi] at h; cases h
  have hle : Γ.le Γ' := {
    φ := fun j k h => by simp only [Γ', if_neg (hne j k h)]; exact h
    bs := fun _ _ _ => rfl
    es := fun _ _ _ => rfl
    μ := fun _ _ _ h => h }
  have hold : ∀ (j : Id) (k : Nat), Γ'.φ j = some k → (j = i ∧ k = b) ∨ (j ≠ i ∧ Γ.φ j = some k) := by
    intro j k h
    by_cases e : j = i
    · left; simp only [Γ', e, if_true, Option.some.injEq] at h; exact ⟨e, h.symm⟩
    · right; simp only [Γ', e, if_false] at h; exact ⟨e, h⟩
  have hcell : ∀ (a : Addr), a.block ≠ b → w'.cell? a = w.cell? a := fun a ha => by simp only [World.cell?, hother a.block ha]
  have hul : us.length = vs.length := hr.length.symm
  have hcellb : ∀ (o : Nat), o < l.length → w'.cell? ⟨b, o, none⟩ = w.cell? ⟨b, o, none⟩ := by
    intro o ho
    simp only [World.cell?, hb', hb, Option.isSome_none, Bool.false_eq_true, if_false, List.getElem?_toArray]
    rw [← Array.getElem?_toList]
    unfold over
    rw [List.append_assoc, List.getElem?_append_left (by simp; omega), List.getElem?_take, if_pos ho]
  have hfz := hm.frz id b l fz anc hφ hs
  -- who lies in b: id alone is live there, and the elder ones are in anc
  have hstale : ∀ (j : Id) (x : List V), Γ.φ j = some b → j ≠ id → S.get j = .stale x → j ∈ anc ∧ x.length ≤ l.length := fun j x h1 _ h2 => hm.anc id b l fz anc j x hφ hs h1 h2
  refine ⟨Γ', ?_, by simp [Γ'], rfl, rfl⟩
  refine { le := hle, os := hos, tape := htape, output := hout, size := by rw [hsize]; exact Nat.le_refl _, frame := ?frame, pend := ?pend, own := ?own, mu := fun _ _ _ h => .inl h, fz := ?fz, mem := ?mem }
  case fz =>
    intro a
    by_cases e : a.block = b
    · simp [World.frozen?, e, hb, hb']
    · simp only [World.frozen?, hother a.block e]
  case frame =>
    intro k hk hn
    refine hother k (fun e => ?_)
    have := hn id (e ▸ hφ)
    rw [hlive] at this; cases this
  case pend =>
    intro j g1 g2
    have e1 : j ≠ i := fun e => by rw [e, hfi] at g2; cases g2
    have e2 : j ≠ id := fun e => by rw [e, hφ] at g1; cases g1
    exact ⟨by rw [hget, if_neg e1, if_neg e2], by simp only [Γ', if_neg e1]; exact g1⟩
  case own =>
    intro j k g1 _
    rcases hold j k g1 with ⟨e, ek⟩ | ⟨e, h⟩
    · exact .inr ⟨e ▸ hi, id, ek ▸ hφ, hlive⟩
    · refine .inl ⟨h, fun g2 => ?_⟩
      rw [hget, if_neg e] at g2
      by_cases e2 : j = id
      · rw [if_pos e2] at g2; cases g2
      · rw [if_neg e2] at g2; exact g2
  case mem =>
    exact {
      glb := fun g => (hm.glb g).mono hle
      fro := fun k o u hu => by
        by_cases hk : k = b
        · subst hk
          have hlt : o < l.length := by
            rcases Nat.lt_or_ge o l.length with h | h
            · exact h
            · have := hfz.2 o (by omega); rw [show Γ.μ k o = some u from hu] at this; cases this
          rw [hcellb o hlt]; exact hm.fro k o u hu
        · rw [hcell _ hk]; exact hm.fro k o u hu
      lt := fun j k h => by
        rw [hsize]
        rcases hold j k h with ⟨_, e⟩ | ⟨_, h⟩
        · rw [e]; exact hm.lt id b hφ
        · exact hm.lt j k h
      alive := fun j k h => by
        rw [hget]
        rcases hold j k h with ⟨e, _⟩ | ⟨e, h⟩
        · rw [if_pos e]; simp
        · rw [if_neg e]
          by_cases e2 : j = id
          · rw [if_pos e2]; simp
          · rw [if_neg e2]; exact hm.alive j k h
      row := fun j k l' fz' anc' h g => by
        rw [hget] at g
        rcases hold j k h with ⟨e, ek⟩ | ⟨e, h⟩
        · rw [if_pos e] at g; injection g with e2 e3 e4; subst e2; subst ek
          refine ⟨_, el, hb', ?_, ?_, ?_, ?_⟩
          · show _ = Γ.bs k
            rw [← h2]; simp only [List.size_toArray]; rw [over_length _ _ _ (by simp; omega)]; simp
          · simp only [List.size_toArray]; rw [over_length _ _ _ (by simp; omega)]; simp; omega
          · simp only [List.length_append]
            rw [take_over _ _ _ _ (by omega)]
            have hcl : (c.toList.take (l.length + vs.length)).length = l.length + us.length := by simp; omega
            unfold over
            rw [List.take_take, Nat.min_eq_left (by omega), List.drop_eq_nil_of_le (by omega), List.append_nil]
            exact (h5.mono hle).append (hr.mono hle)
          · intro u hu
            simp only [Vm.over, List.mem_append] at hu
            rcases hu with (hu | hu) | hu
            · exact h6 u (List.mem_of_mem_take hu)
            · exact hone u hu
            · exact h6 u (List.mem_of_mem_drop hu)
        · rw [if_neg e] at g
          by_cases e2 : j = id
          · rw [if_pos e2] at g; cases g
          · rw [if_neg e2] at g
            obtain ⟨c', el', g1, g2, g4, g5, g6⟩ := hm.row j k l' fz' anc' h g
            have hk : k ≠ b := fun ek => e2 (hm.one j id k h (ek ▸ hφ) (by rw [g]; rfl) hlive)
            exact ⟨c', el', by rw [hother k hk]; exact g1, g2, g4, g5.mono hle, g6⟩
      frz := fun j k l' fz' anc' h g => by
        rw [hget] at g
        rcases hold j k h with ⟨e, ek⟩ | ⟨e, h⟩
        · rw [if_pos e] at g; injection g with e2 e3 e4; subst e2; subst e3; subst ek
          exact ⟨by simp; omega, hfz.2⟩
        · rw [if_neg e] at g
          by_cases e2 : j = id
          · rw [if_pos e2] at g; cases g
          · rw [if_neg e2] at g; exact hm.frz j k l' fz' anc' h g
      old := fun j k l' h g => by
        rw [hget] at g
        rcases hold j k h with ⟨e, ek⟩ | ⟨e, h⟩
        · rw [if_pos e] at g; cases g
        · rw [if_neg e] at g
          by_cases e2 : j = id
          · rw [if_pos e2] at g; injection g with g; subst g; subst e2
            rw [hφ] at h; injection h with h; subst h
            refine ⟨_, h5.mono hle, fun i u hi => ?_, fun u hu => h6 u (List.mem_of_mem_take hu)⟩
            rw [List.getElem?_take] at hi
            split at hi
            · rename_i hlt
              rw [hcellb i hlt]
              simp only [World.cell?, hb, Option.isSome_none, Bool.false_eq_true, if_false]
              simpa using hi
            · cases hi
          · rw [if_neg e2] at g
            obtain ⟨ws, g1, g2, g3⟩ := hm.old j k l' h g
            have hj0 : Γ.φ j = some k := h
            refine ⟨ws, g1.mono hle, fun i u hi => ?_, g3⟩
            by_cases hk : k = b
            · have hj1 : Γ.φ j = some b := hk ▸ hj0
              have := (hstale j l' hj1 e2 g).2
              have hil : i < ws.length := by
                rcases Nat.lt_or_ge i ws.length with hh | hh
                · exact hh
                · rw [List.getElem?_eq_none hh] at hi; cases hi
              have hg2 := g2 i u hi
              rw [hk] at hg2 ⊢
              rw [hcellb i (by rw [← g1.length] at hil; omega)]; exact hg2
            · rw [hcell _ hk]; exact g2 i u hi
      one := fun j j' k h h' g g' => by
        rw [hget] at g g'
        rcases hold j k h with ⟨e, ek⟩ | ⟨e, h⟩
        · rcases hold j' k h' with ⟨e', _⟩ | ⟨e', h'⟩
          · rw [e, e']
          · rw [if_neg e'] at g'
            by_cases e2 : j' = id
            · rw [if_pos e2] at g'; cases g'
            · rw [if_neg e2] at g'
              exact absurd (hm.one j' id k h' (ek ▸ hφ) g' hlive) e2
        · rw [if_neg e] at g
          by_cases e2 : j = id
          · rw [if_pos e2] at g; cases g
          · rw [if_neg e2] at g
            rcases hold j' k h' with ⟨e', ek'⟩ | ⟨e', h'⟩
            · exact absurd (hm.one j id k h (ek' ▸ hφ) g hlive) e2
            · rw [if_neg e'] at g'
              by_cases e3 : j' = id
              · rw [if_pos e3] at g'; cases g'
              · rw [if_neg e3] at g'; exact hm.one j j' k h h' g g'
      anc := fun j k l' fz' anc' j' l'' h g h' g' => by
        rw [hget] at g g'
        rcases hold j' k h' with ⟨e', ek'⟩ | ⟨e', h'⟩
        · rw [if_pos e'] at g'; cases g'
        · rw [if_neg e'] at g'
          have hj0 : Γ.φ j' = some k := h'
          rcases hold j k h with ⟨e, ek⟩ | ⟨e, h⟩
          · rw [if_pos e] at g; injection g with e2 e3 e4; subst e2; subst e4
            have hj1 : Γ.φ j' = some b := ek ▸ hj0
            by_cases e5 : j' = id
            · rw [if_pos e5] at g'; injection g' with g'; subst g'
              exact ⟨by simp [e5], by simp⟩
            · rw [if_neg e5] at g'
              obtain ⟨q1, q2⟩ := hstale j' l'' hj1 e5 g'
              exact ⟨by simp [q1], by simp; omega⟩
          · rw [if_neg e] at g
            by_cases e2 : j = id
            · rw [if_pos e2] at g; cases g
            · rw [if_neg e2] at g
              by_cases e5 : j' = id
              · subst e5
                rw [hφ] at h'; injection h' with h'; subst h'
                exact absurd (hm.one j j' b h hφ (by rw [g]; rfl) hlive) e2
              · rw [if_neg e5] at g'; exact hm.anc j k l' fz' anc' j' l'' h g h' g'
      map := fun j k l' h g => by
        rw [hget] at g
        rcases hold j k h with ⟨e, ek⟩ | ⟨e, h⟩
        · rw [if_pos e] at g; cases g
        · rw [if_neg e] at g
          by_cases e2 : j = id
          · rw [if_pos e2] at g; cases g
          · rw [if_neg e2] at g
            obtain ⟨es', g1, g2⟩ := hm.map j k l' h g
            have hk : k ≠ b := fun ek => e2 (hm.one j id k h (ek ▸ hφ) (by rw [g]; rfl) hlive)
            refine ⟨es', by rw [hother k hk]; exact g1, ?_⟩
            clear g g1
            generalize es'.toList = q at g2
            generalize (0 : Nat) = z at g2
            induction g2 with
            | nil n => exact .nil n
            | cons n k v e l es hk hv hb hs ih => exact .cons n k v e l es (hk.mono hle) (hv.mono hle) hb ih
      mst := fun j j' k l' l'' h g h' g' => by
        rw [hget] at g g'
        rcases hold j' k h' with ⟨e', ek'⟩ | ⟨e', h'⟩
        · rw [if_pos e'] at g'; cases g'
        · rcases hold j k h with ⟨e, ek⟩ | ⟨e, h⟩
          · rw [if_pos e] at g; cases g
          · rw [if_neg e] at g; rw [if_neg e'] at g'
            by_cases e2 : j = id
            · rw [if_pos e2] at g; cases g
            · rw [if_neg e2] at g
              by_cases e5 : j' = id
              · subst e5
                rw [hφ] at h'; injection h' with h'; subst h'
                exact absurd (hm.one j j' b h hφ (by rw [g]; rfl) hlive) e2
              · rw [if_neg e5] at g'; exact hm.mst j j' k l' l'' h g h' g' }
end Go.Vm

namespace Go.Vm
variable [Gl]
open Go.RowKit

section
variable {P : Program}
theorem info_of_underlying {t : TypeId} {d : TypeDesc} (h : P.underlying t = some d) : ∃ i, P.info? t = some i := by
  unfold Program.underlying at h
  cases hi : P.info? t with
  | none => rw [hi] at h; cases h
  | some i => exact ⟨i, rfl⟩
theorem run_sizeOf' {t : TypeId} {d : TypeDesc} (h : P.underlying t = some d) (w : World) : (sizeOf t).run P w = .ok (P.cellsOf t) w := by
  obtain ⟨i, hi⟩ := info_of_underlying h
  simp [sizeOf, typeInfo, hi, Program.cellsOf]
theorem run_isAgg' {t : TypeId} {b : Bool} (h : isAggT P t = some b) (w : World) : (isAgg t).run P w = .ok b w ∧ (sizeOf t).run P w = .ok (P.cellsOf t) w := by
  unfold isAggT at h
  cases hu : P.underlying t with
  | none => rw [hu] at h; cases h
  | some d =>
    rw [hu] at h
    refine ⟨?_, run_sizeOf' hu w⟩
    unfold isAgg
    rw [Sem.run_bind, run_underlying hu w, Result.andThen_ok]
    cases d <;> simp at h <;> subst h <;> rfl

/-- The frames that are walked: of a function (none), of a round of a range over a function. -/
abbrev Wr (r : Option Nat) : Fence := { Fence.wide with round := r }
theorem wp_value {rn : Option Nat} {o : Oper} {a : Act} {w w' : World} {K : Act → World → Prop} {Q : Exit → Act → World → Prop} {u : Value} (hnd : ∀ c, o.op ≠ .defer c)
    (hr : (execOp a.eval o).run P w = .ok (.value u) w') (h : K (a.put o.dst u) w') : o.wpIn (Wr rn) 0 P a w K Q :=
  ⟨fun _ _ => trivial, by rw [Oper.semAt_eq _ _ _ hnd, hr]; exact h⟩
theorem wp_skip' {rn : Option Nat} {o : Oper} {a : Act} {w w' : World} {K : Act → World → Prop} {Q : Exit → Act → World → Prop} (hnd : ∀ c, o.op ≠ .defer c)
    (hr : (execOp a.eval o).run P w = .ok .skip w') (h : K (a.put o.dst undef) w') : o.wpIn (Wr rn) 0 P a w K Q :=
  ⟨fun _ _ => trivial, by rw [Oper.semAt_eq _ _ _ hnd, hr]; exact h⟩

/-! constants -/
mutual
theorem rel_ofValue (Γ : Ctx) : ∀ (u : Value), Rel Γ (ofValue u) u
  | .bool b => .bool b
  | .int k n => .int k n
  | .string s => .str s _ rfl
  | .pointer none => .nilp
  | .pointer (some _) => by unfold ofValue; exact .any _
  | .slice none 0 0 => .nils
  | .slice none 0 (_ + 1) => by unfold ofValue; exact .any _
  | .slice none (_ + 1) _ => by unfold ofValue; exact .any _
  | .slice (some _) _ _ => by unfold ofValue; exact .any _
  | .nilFunc => .nilf
  | .map none => .nilm
  | .map (some _) => by unfold ofValue; exact .any _
  | .func (.func f) ⟨a⟩ ⟨b⟩ => by unfold ofValue; exact .fn f _ _ _ _ (rel_ofValues Γ a) (rel_ofValues Γ b)
  | .func (.method _) _ _ => by unfold ofValue; exact .any _
  | .func (.methodOf _ _) _ _ => by unfold ofValue; exact .any _
  | .func (.via _ _ _ _) _ _ => by unfold ofValue; exact .any _
  | .func (.yield _) _ _ => by unfold ofValue; exact .any _
  | .agg ⟨cs⟩ => by
    unfold ofValue
    split
    · rename_i hc
      refine .agg _ _ (rel_ofValues Γ cs) (fun u hu => ?_)
      have := List.all_eq_true.1 hc u hu
      cases u <;> first | rfl | (simp at this)
    · exact .any _
  | .tuple ⟨cs⟩ => by unfold ofValue; exact .tup _ _ (rel_ofValues Γ cs)
  | .float _ _ => by unfold ofValue; exact .any _
  | .complex _ _ _ => by unfold ofValue; exact .any _
  | .chan _ => by unfold ofValue; exact .any _
  | .iface _ _ => by unfold ofValue; exact .any _
  | .nilIface => by unfold ofValue; exact .any _
theorem rel_ofValues (Γ : Ctx) : ∀ (us : List Value), RelL Γ (ofValues us) us
  | [] => .nil
  | u :: us => by unfold ofValues; exact .cons _ _ _ _ (rel_ofValue Γ u) (rel_ofValues Γ us)
end
/-- Temporaries and package-level variables. -/
structure TR (Γ : Ctx) (t : Tm) (a : Act) : Prop where
  tmp : ∀ i, Rel Γ (t i) (a.tmps.getD i undef)
  glb : ∀ (g : Nat), Rel Γ (Gl.gl g) (.pointer (some ⟨g, 0, none⟩))
theorem rel_opd {Γ : Ctx} {t : Tm} {a : Act} (ht : TR Γ t a) (x : Operand) : Rel Γ (opd t x) (a.eval x) := by
  cases x with
  | tmp i => exact ht.tmp i
  | const v => exact rel_ofValue Γ v
  | global g => exact ht.glb g
  | func f => exact .fn f _ _ _ _ .nil .nil
theorem rel_opds {Γ : Ctx} {t : Tm} {a : Act} (ht : TR Γ t a) (xs : List Operand) : RelL Γ (xs.map (opd t)) (xs.map a.eval) := by
  induction xs with
  | nil => exact .nil
  | cons x xs ih => exact .cons _ _ _ _ (rel_opd ht x) ih

/-! loads -/
/-- The cells behind an address, as they lie. -/
theorem cellsAt_mem {Γ : Ctx} {S : St} {w : World} (hm : Mem Γ S w) {v : V} {u : Value} {cs : List V} (hr : Rel Γ v u) (h : cellsAt S v = some cs) :
    ∃ b off us, u = .pointer (some ⟨b, off, none⟩) ∧ RelL Γ cs us ∧ (∀ (j : Nat) (x : Value), us[j]? = some x → w.cell? ⟨b, off + j, none⟩ = some x) ∧ ∀ x ∈ us, Value.oneCell' x = true := by
  cases v <;> simp only [cellsAt] at h <;> try (cases h; done)
  case ptr id off =>
    cases hr with
    | ptr _ _ b hφ =>
      cases hs : S.get id with
      | cells l fz anc =>
        rw [hs] at h; injection h with h; subst h
        obtain ⟨c, el, h1, h2, h4, h5, h6⟩ := hm.row id b l fz anc hφ hs
        refine ⟨b, off, _, rfl, h5.drop off, fun j x hx => ?_, fun x hx => h6 x (List.mem_of_mem_take (List.mem_of_mem_drop hx))⟩
        simp only [World.cell?, h1, Option.isSome_none, Bool.false_eq_true, if_false]
        rw [List.getElem?_drop, List.getElem?_take] at hx
        split at hx
        · simpa using hx
        · cases hx
      | stale l =>
        rw [hs] at h; injection h with h; subst h
        obtain ⟨us, h1, h2, h3⟩ := hm.old id b l hφ hs
        refine ⟨b, off, _, rfl, h1.drop off, fun j x hx => ?_, fun x hx => h3 x (List.mem_of_mem_drop hx)⟩
        rw [List.getElem?_drop] at hx
        exact h2 _ x hx
      | free => rw [hs] at h; cases h
      | dead => rw [hs] at h; cases h
      | map l => rw [hs] at h; cases h
  case ipt cs' =>
    injection h with h; subst h
    cases hr with
    | ipt _ b off hM =>
      have key : ∀ (cs : List V) (off : Nat), RelM Γ cs b off → ∃ us, RelL Γ cs us ∧ (∀ (j : Nat) (x : Value), us[j]? = some x → w.cell? ⟨b, off + j, none⟩ = some x) ∧ ∀ x ∈ us, Value.oneCell' x = true := by
        intro cs
        induction cs with
        | nil => intro off _; exact ⟨[], .nil, fun j x hx => by simp at hx, fun x hx => by simp at hx⟩
        | cons y ys ih =>
          intro off hM
          cases hM with
          | cons _ x _ _ _ hx hrel hc hs =>
            obtain ⟨us, h1, h2, h3⟩ := ih (off + 1) hs
            refine ⟨x :: us, .cons _ _ _ _ hrel h1, fun j z hz => ?_, fun z hz => ?_⟩
            · cases j with
              | zero => simp at hz; subst hz; exact hm.fro _ _ _ hx
              | succ j => have := h2 j z (by simpa using hz); rw [show off + 1 + j = off + (j + 1) by omega] at this; exact this
            · rcases List.mem_cons.1 hz with e | hz
              · rw [e]; exact hc
              · exact h3 z hz
      obtain ⟨us, h1, h2, h3⟩ := key _ off hM
      exact ⟨b, off, us, rfl, h1, h2, h3⟩

theorem run_load_rel {Γ : Ctx} {S : St} {w : World} (hm : Mem Γ S w) {ty : TypeId} {v r : V} {u : Value} (hr : Rel Γ v u) (h : opLoad P ty v S = some r) :
    ∃ x b off, u = .pointer (some ⟨b, off, none⟩) ∧ (loadVar ty ⟨b, off, none⟩).run P w = .ok x w ∧ Rel Γ r x := by
  unfold opLoad at h
  cases ha : isAggT P ty with
  | none => rw [ha] at h; cases hc : cellsAt S v <;> rw [hc] at h <;> cases h
  | some ag =>
    obtain ⟨h1, h2⟩ := run_isAgg' ha w
    cases hc : cellsAt S v with
    | none => rw [ha, hc] at h; cases ag <;> cases h
    | some cs =>
      rw [ha, hc] at h
      obtain ⟨b, off, us, e, h3, h4, h5⟩ := cellsAt_mem hm hr hc
      cases ag with
      | true =>
        simp only [] at h
        split at h
        · rename_i hle
          injection h with h; subst h
          have hlen : (us.take (P.cellsOf ty)).length = P.cellsOf ty := by have := h3.length; simp; omega
          have hl := run_loadCells_list (P := P) w ⟨b, off, none⟩ (us.take (P.cellsOf ty)) (fun j x hx => by
            rw [List.getElem?_take] at hx
            split at hx
            · rw [Addr_add]; exact h4 j x hx
            · cases hx)
          rw [hlen] at hl
          refine ⟨_, b, off, e, ?_, .agg _ (us.take (P.cellsOf ty)).toArray (by simpa using h3.take _) (fun x hx => h5 x (List.mem_of_mem_take (by simpa using hx)))⟩
          simp [loadVar, h1, h2, hl]
        · cases h
      | false =>
        cases cs with
        | nil => simp at h
        | cons y ys =>
          simp only [Option.some.injEq] at h; subst h
          cases h3 with
          | cons _ x _ us hx hs =>
            refine ⟨x, b, off, e, ?_, hx⟩
            have := h4 0 x rfl
            simp only [Nat.add_zero] at this
            simp [loadVar, h1, this]
end
end Go.Vm

namespace Go.Vm
variable [Gl]
open Go.RowKit

section
variable {P : Program} {Γ : Ctx} {S S' : St} {w : World} {t : Tm} {a : Act} {o : Oper} {v : V} {call : CallF}

/-- What an operation that leaves all alone comes to. -/
def Gives (P : Program) (Γ : Ctx) (w : World) (a : Act) (o : Oper) (v : V) : Prop := ∃ u, (execOp a.eval o).run P w = .ok (.value u) w ∧ Rel Γ v u

theorem gives_move (ht : TR Γ t a) {x : Operand} (hop : o.op = .move x ∨ o.op = .assign x) : Gives P Γ w a o (opd t x) := by
  refine ⟨a.eval x, ?_, rel_opd ht x⟩
  rcases hop with h | h <;> simp [execOp, h]

theorem opPick_rel {c x y r : V} {uc ux uy : Value} (hc : Rel Γ c uc) (hx : Rel Γ x ux) (hy : Rel Γ y uy) (h : opPick c x y = some r) :
    ∃ b, uc = .bool b ∧ Rel Γ r (if b then ux else uy) := by
  cases hc <;> simp [opPick] at h
  case bool b => cases b <;> simp [opPick] at h <;> subst h <;> exact ⟨_, rfl, by simpa⟩
theorem gives_pick (ht : TR Γ t a) {c x y : Operand} (hop : o.op = .pick c x y) (h : opPick (opd t c) (opd t x) (opd t y) = some v) : Gives P Γ w a o v := by
  obtain ⟨b, e, hr⟩ := opPick_rel (rel_opd ht c) (rel_opd ht x) (rel_opd ht y) h
  exact ⟨_, by simp [execOp, hop, asBool, e], hr⟩

theorem gives_load (hm : Mem Γ S w) (ht : TR Γ t a) {ty : TypeId} {x : Operand} (hop : o.op = .load ty x) (h : opLoad P ty (opd t x) S = some v) : Gives P Γ w a o v := by
  obtain ⟨u, b, off, e, hr, hv⟩ := run_load_rel hm (rel_opd ht x) h
  exact ⟨u, by simp [execOp, hop, Instr.loadAt, Instr.sureAddr, e, hr], hv⟩

theorem opNilCheck_rel {x r : V} {u : Value} (hx : Rel Γ x u) (h : opNilCheck x = some r) : r = x ∧ ((∃ ad, u = .pointer (some ad)) ∨ ∃ f b c, u = .func (.func f) b c) := by
  cases hx <;> simp [opNilCheck] at h <;> subst h <;> first | exact ⟨rfl, .inl ⟨_, rfl⟩⟩ | exact ⟨rfl, .inr ⟨_, _, _, rfl⟩⟩
theorem gives_nilCheck (ht : TR Γ t a) {x : Operand} (hop : o.op = .nilCheck x) (h : opNilCheck (opd t x) = some v) : Gives P Γ w a o v := by
  obtain ⟨e, h2⟩ := opNilCheck_rel (rel_opd ht x) h
  subst e
  refine ⟨a.eval x, ?_, rel_opd ht x⟩
  rcases h2 with ⟨ad, e⟩ | ⟨f, b, c, e⟩ <;> simp [execOp, hop, e]

/-! numbers and strings -/
theorem run_int2 {op : BinOp} {k : IntKind} {x y : Int} {r : V} (h : intV op k x y = some r) (ty : TypeId) (hsh : op ≠ .shl) (hsr : op ≠ .shr) : ∃ u, (binOp op ty (.int k x) (.int k y)).run P w = .ok u w ∧ Rel Γ r u := by
  cases op <;> simp only [intV] at h <;> try (first | (exact absurd rfl hsh) | (exact absurd rfl hsr))
  case quo => split at h
              · cases h
              · rename_i hy; injection h with h; subst h; exact ⟨_, by simp [binOp, Op.intDiv, hy], .int _ _⟩
  case rem => split at h
              · cases h
              · rename_i hy; injection h with h; subst h; exact ⟨_, by simp [binOp, Op.intDiv, hy], .int _ _⟩
  all_goals (injection h with h; subst h)
  case add => exact ⟨_, by simp [binOp, Op.intArith], .int _ _⟩
  case sub => exact ⟨_, by simp [binOp, Op.intArith], .int _ _⟩
  case mul => exact ⟨_, by simp [binOp, Op.intArith], .int _ _⟩
  case and => exact ⟨_, by simp [binOp, Op.intBits], .int _ _⟩
  case or => exact ⟨_, by simp [binOp, Op.intBits], .int _ _⟩
  case xor => exact ⟨_, by simp [binOp, Op.intBits], .int _ _⟩
  case andNot => exact ⟨_, by simp [binOp, Op.intBits], .int _ _⟩
  case eql => exact ⟨_, by simp [binOp, Op.intCmp], .bool _⟩
  case neq => exact ⟨_, by simp [binOp, Op.intCmp], .bool _⟩
  case lss => exact ⟨_, by simp [binOp, Op.intCmp], .bool _⟩
  case leq => exact ⟨_, by simp [binOp, Op.intCmp], .bool _⟩
  case gtr => exact ⟨_, by simp [binOp, Op.intCmp], .bool _⟩
  case geq => exact ⟨_, by simp [binOp, Op.intCmp], .bool _⟩
theorem run_shift2 {op : BinOp} {k j : IntKind} {x y : Int} {r : V} (h : shiftV op k x y = some r) (ty : TypeId) (hop : op = .shl ∨ op = .shr) : ∃ u, (binOp op ty (.int k x) (.int j y)).run P w = .ok u w ∧ Rel Γ r u := by
  unfold shiftV at h
  split at h
  · cases h
  · rename_i hy
    rcases hop with e | e <;> subst e <;> simp only [Option.some.injEq] at h <;> subst h <;> exact ⟨_, by simp [binOp, Op.shift, hy], .int _ _⟩
theorem bytesLt_eq : ∀ (x y : List UInt8), bytesLt (x.map UInt8.toNat) (y.map UInt8.toNat) = Op.bytesLess x y
  | _, [] => by simp [bytesLt, Op.bytesLess]
  | [], _ :: _ => by simp [bytesLt, Op.bytesLess]
  | c :: x, d :: y => by
    simp only [List.map_cons, bytesLt, Op.bytesLess, bytesLt_eq x y]
    have e1 : (c.toNat < d.toNat) = (c < d) := by rw [UInt8.lt_iff_toNat_lt]
    have e2 : (c.toNat == d.toNat) = (c == d) := by rw [Bool.eq_iff_iff]; simp [UInt8.toNat_inj]
    simp [e1, e2]
theorem map_toNat_inj {x y : List UInt8} : (x.map UInt8.toNat == y.map UInt8.toNat) = (x == y) := by
  rw [Bool.eq_iff_iff]
  simp only [beq_iff_eq]
  constructor
  · intro h
    have : ∀ (a b : List UInt8), a.map UInt8.toNat = b.map UInt8.toNat → a = b := by
      intro a
      induction a with
      | nil => intro b h; cases b with | nil => rfl | cons _ _ => simp at h
      | cons c a ih =>
        intro b h
        cases b with
        | nil => simp at h
        | cons d b => simp only [List.map_cons, List.cons.injEq] at h; rw [UInt8.toNat_inj.1 h.1, ih b h.2]
    exact this _ _ h
  · intro h; rw [h]
theorem run_str2 {op : BinOp} {s1 s2 : ByteArray} {ty : TypeId} {r : V} (h : binV P op ty (.str (s1.data.toList.map UInt8.toNat)) (.str (s2.data.toList.map UInt8.toNat)) = some r) :
    ∃ u, (binOp op ty (.string s1) (.string s2)).run P w = .ok u w ∧ Rel Γ r u := by
  have el : ∀ (s : ByteArray), s.toList = s.data.toList := fun s => ByteArray.toList_eq s
  cases op <;> simp only [binV] at h <;> try (cases h; done)
  case add =>
    split at h
    · rename_i hl
      injection h with h; subst h
      have h63 : ¬ (9223372036854775807 < (s1.size : Int) + (s2.size : Int)) := by
        have e1 : s1.size = (s1.data.toList.map UInt8.toNat).length := by simp
        have e2 : s2.size = (s2.data.toList.map UInt8.toNat).length := by simp
        rw [e1, e2]; omega
      refine ⟨.string (s1 ++ s2), by simp [binOp, Op.stringOp, IntKind.max, IntKind.signed, IntKind.bits, h63], .str _ _ ?_⟩
      simp [ByteArray.data_append]
    · cases h
  all_goals (injection h with h; subst h; simp only [map_toNat_inj, bytesLt_eq]; exact ⟨_, by simp [binOp, Op.stringOp, el], .bool _⟩)

theorem run_un2 {op : UnOp} {x r : V} {u : Value} (hx : Rel Γ x u) (h : unV op x = some r) : ∃ y, (Op.unary op u).run P w = .ok y w ∧ Rel Γ r y := by
  cases hx <;> cases op <;> simp only [unV] at h <;> first
    | (cases h; done)
    | (injection h with h; subst h; first | exact ⟨_, rfl, .bool _⟩ | exact ⟨_, rfl, .int _ _⟩)
theorem gives_unOp (ht : TR Γ t a) {op : UnOp} {ty : TypeId} {x : Operand} (hop : o.op = .unOp op ty x) (h : unV op (opd t x) = some v) : Gives P Γ w a o v := by
  obtain ⟨y, hr, hv⟩ := run_un2 (P := P) (w := w) (rel_opd ht x) h
  exact ⟨y, by simp [execOp, hop, hr], hv⟩

theorem gives_makeFunc (ht : TR Γ t a) {f : FuncId} {x y : Array Operand} (hop : o.op = .makeFunc (.func f) x y) :
    Gives P Γ w a o (.fn f (x.toList.map (opd t)) (y.toList.map (opd t))) :=
  ⟨.func (.func f) (x.map a.eval) (y.map a.eval), by simp [execOp, hop, Instr.makeFunc], .fn f _ _ _ _ (by simpa using rel_opds ht x.toList) (by simpa using rel_opds ht y.toList)⟩

theorem asIdx_rel {i : V} {u : Value} {n : Nat} (hi : Rel Γ i u) (h : asIdx i = some n) : ∃ k, u = .int k n := by
  cases hi <;> simp [asIdx] at h
  case int k m => obtain ⟨h0, h⟩ := h; exact ⟨k, by rw [← h, Int.toNat_of_nonneg h0]⟩
theorem addrAdd_rel {off : Nat} {x r : V} {u : Value} (hx : Rel Γ x u) (h : addrAdd off x = some r) : ∃ b o, u = .pointer (some ⟨b, o, none⟩) ∧ Rel Γ r (.pointer (some ⟨b, o + off, none⟩)) := by
  cases hx <;> simp [addrAdd] at h
  case ptr id o b hb => subst h; exact ⟨b, o, rfl, .ptr _ _ _ hb⟩
  case ipt cs b o hM => obtain ⟨hl, h⟩ := h; subst h; exact ⟨b, o, rfl, .ipt _ _ _ (hM.drop off hl)⟩
theorem gives_fieldAddr (ht : TR Γ t a) {s : TypeId} {x : Operand} {f : Nat} (hop : o.op = .fieldAddr s x f) (h : opFieldAddr P s (opd t x) f = some v) : Gives P Γ w a o v := by
  unfold opFieldAddr at h
  split at h
  · rename_i fs hu
    split at h
    · rename_i fd hfd
      split at h
      · cases h
      · rename_i hz
        obtain ⟨b, off, e, hr⟩ := addrAdd_rel (rel_opd ht x) h
        have hsz : (sizeOf fd.type).run P w = .ok (P.cellsOf fd.type) w := by
          unfold Program.cellsOf at hz ⊢
          cases hi : P.info? fd.type with
          | none => rw [hi] at hz; simp at hz
          | some i => simp [sizeOf, typeInfo, hi]
        exact ⟨_, by simp [execOp, hop, Instr.fieldAt, run_underlying hu, hfd, Instr.sureAddr, e, fieldPlace, hsz, hz, Addr_add], hr⟩
    · cases h
  · cases h
theorem part_rel {ty : TypeId} {cs : List V} {us : Array Value} {off : Nat} {r : V} (hr : RelL Γ cs us.toList) (hone : ∀ u ∈ us.toList, Value.oneCell' u = true) (h : part P ty cs off = some r) :
    ∃ u, (Go.part ty us off).run P w = .ok u w ∧ Rel Γ r u := by
  unfold part at h
  split at h
  · rename_i ha
    obtain ⟨h1, h2⟩ := run_isAgg' ha w
    split at h
    · rename_i hl
      injection h with h; subst h
      refine ⟨.agg (us.extract off (off + P.cellsOf ty)), by simp [Go.part, h1, h2], .agg _ _ ?_ ?_⟩
      · have := (hr.drop off).take (P.cellsOf ty)
        simp only [Array.toList_extract, List.extract_eq_take_drop, Nat.add_sub_cancel_left]
        exact this
      · intro u hu
        simp only [Array.toList_extract, List.extract_eq_take_drop] at hu
        exact hone u (List.mem_of_mem_drop (List.mem_of_mem_take hu))
    · cases h
  · rename_i ha
    obtain ⟨h1, h2⟩ := run_isAgg' ha w
    obtain ⟨u, hu, hv⟩ := hr.get h
    refine ⟨u, ?_, hv⟩
    have hu' : us[off]? = some u := by simpa using hu
    simp [Go.part, h1, hu']
  · cases h
theorem gives_field (ht : TR Γ t a) {s : TypeId} {x : Operand} {f : Nat} (hop : o.op = .field s x f) (h : opField P s (opd t x) f = some v) : Gives P Γ w a o v := by
  unfold opField at h
  split at h
  · rename_i fs cs hu hx
    split at h
    · rename_i fd hfd
      have hrx := rel_opd ht x
      rw [hx] at hrx
      generalize hev : a.eval x = ux at hrx
      cases hrx with
      | agg _ us hr hone =>
        obtain ⟨u, h1, h2⟩ := part_rel (P := P) (w := w) hr hone h
        exact ⟨u, by simp [execOp, hop, Instr.field, run_underlying hu, hfd, asAgg, hev, h1], h2⟩
    · cases h
  · cases h
theorem gives_extract (ht : TR Γ t a) {x : Operand} {i : Nat} (hop : o.op = .extract x i) (h : opExtract (opd t x) i = some v) : Gives P Γ w a o v := by
  have hrx := rel_opd ht x
  unfold opExtract at h
  split at h
  · rename_i vs hx
    rw [hx] at hrx
    generalize hev : a.eval x = ux at hrx
    cases hrx with
    | tup _ us hr =>
      obtain ⟨u, hu, hv⟩ := hr.get h
      have hu' : us[i]? = some u := by simpa using hu
      exact ⟨u, by simp [execOp, hop, Instr.extract, hev, hu'], hv⟩
  · cases h
theorem run_szT {el : TypeId} {n : Nat} (h : szT P el = some n) (w : World) : (sizeOf el).run P w = .ok n w := by
  unfold szT at h
  split at h
  · rename_i i hi; injection h with h; subst h; simp [sizeOf, typeInfo, hi]
  · cases h
theorem gives_indexAddr (ht : TR Γ t a) {ty : TypeId} {x i : Operand} (hop : o.op = .indexAddr ty x i) (h : opIndexAddr P ty (opd t x) (opd t i) = some v) : Gives P Γ w a o v := by
  unfold opIndexAddr at h
  split at h
  · rename_i el n hu hi
    obtain ⟨k, ei⟩ := asIdx_rel (rel_opd ht i) hi
    split at h
    · rename_i sz hsz
      have hs := run_szT hsz w
      have hrx := rel_opd ht x
      split at h
      · rename_i es id off m hx
        rw [hx] at hrx
        generalize hev : a.eval x = ux at hrx
        split at h
        · rename_i hlt
          obtain ⟨hlt, he⟩ := hlt
          injection h with h; subst h
          cases hrx with
          | ref _ _ _ off' _ cap b hb he' hc hn ho =>
            have ho' : off' = off := by rcases ho with ho | ho; exact ho; omega
            subst ho'
            exact ⟨_, by simp [execOp, hop, Instr.indexAt, hev, ei, asIntOf, run_underlying hu, hlt, hs, Addr_add], .ptr _ _ _ hb⟩
        · cases h
      · rename_i es l hx
        rw [hx] at hrx
        generalize hev : a.eval x = ux at hrx
        split at h
        · rename_i he
          split at h
          · rename_i y hy
            injection h with h; subst h
            cases hrx with
            | imz _ a => simp at hy
            | imm _ _ b off m cap hE hn hcp =>
              have hlt : n < l.length := by
                rcases Nat.lt_or_ge n l.length with hh | hh
                · exact hh
                · rw [List.getElem?_eq_none hh] at hy; cases hy
              obtain ⟨h1, h2⟩ := hE.get hy
              subst hn; subst he
              exact ⟨_, by simp [execOp, hop, Instr.indexAt, hev, ei, asIntOf, run_underlying hu, hlt, hs, Addr_add], .ipt _ _ _ h2⟩
          · cases h
        · cases h
      · cases h
    · cases h
  · rename_i n el j hu hi
    obtain ⟨k, ei⟩ := asIdx_rel (rel_opd ht i) hi
    split at h
    · rename_i sz hsz
      have hs := run_szT hsz w
      split at h
      · rename_i hlt
        obtain ⟨b, off, e, hr⟩ := addrAdd_rel (rel_opd ht x) h
        exact ⟨_, by simp [execOp, hop, Instr.indexAt, e, ei, asIntOf, run_underlying hu, hlt, hs, Instr.sureAddr, Addr_add], hr⟩
      · cases h
    · cases h
  · cases h
end
end Go.Vm

namespace Go.Vm
variable [Gl]
open Go.RowKit

section
variable {P : Program} {Γ : Ctx} {S S' : St} {w : World} {t : Tm} {a : Act} {o : Oper} {v : V} {call : CallF}

set_option maxHeartbeats 2000000 in
theorem run_scalarEq {e : Nat} {ty : TypeId} {desc : TypeDesc} (hu : P.underlying ty = some desc) {x y : V} {b : Bool} {ux uy : Value} (h : scalarEq desc x y = some b) (hx : Rel Γ x ux) (hy : Rel Γ y uy) :
    (Op.equalIn (e + 1) ty ux uy).run P w = .ok b w := by
  cases desc <;> simp only [scalarEq] at h <;> try (cases h; done)
  case bool =>
    cases hx <;> cases hy <;> simp at h
    subst h; exact run_equalIn_bool w e ty _ _ hu
  case int k =>
    cases hx <;> cases hy <;> simp at h
    obtain ⟨e1, h⟩ := h; subst e1; subst h; exact run_equalIn_int w e ty _ k _ _ hu
  case string =>
    cases hx <;> cases hy <;> simp at h
    rename_i s1 _ h1 s2 _ h2
    subst h1; subst h2; subst h
    rw [run_equalIn_string w e ty _ _ hu, ByteArray.toList_eq, ByteArray.toList_eq, ← map_toNat_inj]
  case pointer el =>
    cases hx <;> cases hy <;> simp at h <;> subst h <;> simp [Op.equalIn, run_underlying hu]
  case slice el =>
    cases hx <;> cases hy <;> simp at h <;> subst h <;> simp [Op.equalIn, run_underlying hu]
  case func ps rs vr =>
    cases hx <;> cases hy <;> simp at h <;> subst h <;> simp [Op.equalIn, run_underlying hu]
  case map k el =>
    cases hx <;> cases hy <;> simp at h <;> subst h <;> simp [Op.equalIn, run_underlying hu]

theorem run_fieldsEq {e : Nat} : ∀ (fs : List Field) (xs ys : List V) (b : Bool) (ax ay : Array Value), fieldsEq P fs xs ys = some b → RelL Γ xs ax.toList → RelL Γ ys ay.toList →
    (Op.eqFields (e + 1) ax ay fs).run P w = .ok b w
  | [], xs, ys, b, ax, ay, h, _, _ => by simp [fieldsEq] at h; subst h; simp [Op.eqFields]
  | f :: fs, xs, ys, b, ax, ay, h, hx, hy => by
    unfold fieldsEq at h
    split at h
    · cases h
    · rename_i hname
      split at h
      · rename_i desc x y hu hxx hyy
        have hd : ∀ r, scalarEq desc x y = some r → (isAgg f.type).run P w = .ok false w := by
          intro r hr
          unfold isAgg
          rw [Sem.run_bind, run_underlying hu w, Result.andThen_ok]
          cases desc <;> first | rfl | (simp [scalarEq] at hr)
        obtain ⟨ux, hux, hrx⟩ := hx.get hxx
        obtain ⟨uy, huy, hry⟩ := hy.get hyy
        have hux' : ax[f.offset]? = some ux := by simpa using hux
        have huy' : ay[f.offset]? = some uy := by simpa using huy
        split at h
        · rename_i htrue
          have h1 := run_scalarEq (w := w) (e := e) hu htrue hrx hry
          have h2 := run_fieldsEq (e := e) fs xs ys b ax ay h hx hy
          simp [Op.eqFields, hname, Go.part, hd _ htrue, hux', huy', h1, h2]
        · rename_i hfalse
          have h1 := run_scalarEq (w := w) (e := e) hu hfalse hrx hry
          injection h with h; subst h
          simp [Op.eqFields, hname, Go.part, hd _ hfalse, hux', huy', h1]
        · cases h
      · cases h

theorem run_eql_of {ty : TypeId} {x y : V} {b : Bool} {ux uy : Value} (h : typedEq P ty x y = some b) (hx : Rel Γ x ux) (hy : Rel Γ y uy) : (Op.equal ty ux uy).run P w = .ok b w := by
  unfold Op.equal Op.maxDepth
  unfold typedEq at h
  split at h
  · rename_i fs hu
    split at h
    · rename_i xs ys
      split at h
      · cases h
      · rename_i hst
        cases hx with
        | agg _ ax hrx hox =>
          cases hy with
          | agg _ ay hry hoy =>
            have hfo : P.fieldsOf ty = fs := by simp [Program.fieldsOf, hu]
            rw [run_equalIn_struct w 9999 ty _ _ (by rw [hfo]; exact hu) (by simpa using hst), hfo]
            exact run_fieldsEq (e := 9998) fs.toList xs ys b ax ay h hrx hry
    · cases h
  · rename_i desc hns hu
    exact run_scalarEq (w := w) (e := 9999) hu h hx hy
  · cases h

theorem gives_binOp (ht : TR Γ t a) {op : BinOp} {ty ty' : TypeId} {x y : Operand} (hop : o.op = .binOp op ty x y ty') (h : binV P op ty (opd t x) (opd t y) = some v) : Gives P Γ w a o v := by
  have hx := rel_opd ht x
  have hy := rel_opd ht y
  suffices hs : (eqGuard op ty x y (a.eval x) (a.eval y)).run P w = .ok () w ∧ ∃ u, (binOp op ty (a.eval x) (a.eval y)).run P w = .ok u w ∧ Rel Γ v u by
    obtain ⟨h1, u, h2, h3⟩ := hs
    exact ⟨u, by simp [execOp, hop, h1, h2], h3⟩
  generalize opd t x = vx at h hx
  generalize opd t y = vy at h hy
  generalize hux : a.eval x = ux at hx
  generalize huy : a.eval y = uy at hy
  have plain : (∀ c, ux ≠ .agg c) → ux ≠ .nilIface → (eqGuard op ty x y ux uy).run P w = .ok () w := by
    intro h1 h2
    cases op <;> cases ux <;> cases uy <;> first | rfl | (exact absurd rfl (h1 _)) | (exact absurd rfl h2)
  have viaEq : (∀ k n, ux ≠ .int k n) → (∀ s, ux ≠ .string s) → eqV P op ty vx vy = some v →
      (∀ k n, ux ≠ .float k n) → (∀ k n m, ux ≠ .complex k n m) → ∃ u, (binOp op ty ux uy).run P w = .ok u w ∧ Rel Γ v u := by
    intro h1 h2 h3 h4 h5
    cases op <;> simp only [eqV] at h3 <;> try (cases h3; done)
    case eql =>
      cases he : typedEq P ty vx vy with
      | none => rw [he] at h3; cases h3
      | some b =>
        rw [he] at h3; simp at h3; subst h3
        have hr := run_eql_of (w := w) he hx hy
        refine ⟨.bool b, ?_, .bool _⟩
        cases ux <;> first | (exact absurd rfl (h1 _ _)) | (exact absurd rfl (h2 _)) | (exact absurd rfl (h4 _ _)) | (exact absurd rfl (h5 _ _ _)) | (simp [binOp, hr])
    case neq =>
      cases he : typedEq P ty vx vy with
      | none => rw [he] at h3; cases h3
      | some b =>
        rw [he] at h3; simp at h3; subst h3
        have hr := run_eql_of (w := w) he hx hy
        refine ⟨.bool !b, ?_, .bool _⟩
        cases ux <;> first | (exact absurd rfl (h1 _ _)) | (exact absurd rfl (h2 _)) | (exact absurd rfl (h4 _ _)) | (exact absurd rfl (h5 _ _ _)) | (simp [binOp, hr])
  cases hx with
  | int k n =>
    refine ⟨plain (by simp) (by simp), ?_⟩
    cases hy <;> simp only [binV] at h <;> try (cases h; done)
    case int j m =>
      by_cases hsh : op = .shl ∨ op = .shr
      · have h' : shiftV op k n m = some v := by rcases hsh with e | e <;> subst e <;> exact h
        exact run_shift2 h' ty hsh
      · have hn1 : op ≠ .shl := fun e => hsh (.inl e)
        have hn2 : op ≠ .shr := fun e => hsh (.inr e)
        have h' : (if k = j then intV op k n m else none) = some v := by
          cases op <;> first | exact h | exact absurd rfl hn1 | exact absurd rfl hn2
        split at h'
        · rename_i ek; subst ek; exact run_int2 h' ty hn1 hn2
        · cases h'
    all_goals (cases op <;> simp at h)
  | str s l hl =>
    refine ⟨plain (by simp) (by simp), ?_⟩
    cases hy <;> simp only [binV] at h <;> try (cases h; done)
    case str s' l' hl' =>
      subst hl; subst hl'
      exact run_str2 (ty := ty) (by simp only [binV]; exact h)
  | agg xs ax hr hone =>
    simp only [binV] at h
    split at h
    · cases h
    · rename_i hg
      have hg' : P.eqGuardType P.depth ty = false := by simpa using hg
      refine ⟨?_, viaEq (by simp) (by simp) h (by simp) (by simp)⟩
      have hyy : ∃ ys, vy = .agg ys := by
        cases op <;> simp only [eqV] at h <;> try (cases h; done)
        all_goals
          cases he : typedEq P ty (.agg xs) vy with
          | none => rw [he] at h; cases h
          | some b =>
            unfold typedEq at he
            cases hu : P.underlying ty with
            | none => rw [hu] at he; cases he
            | some desc =>
              rw [hu] at he
              cases desc <;> simp only [scalarEq] at he <;> try (cases he; done)
              cases vy <;> simp at he
              exact ⟨_, rfl⟩
      obtain ⟨ys, e⟩ := hyy
      subst e
      cases hy with
      | agg _ ay hry _ => exact run_eqGuard_agg w op ty x y ax ay hg'
  | bool b => exact ⟨plain (by simp) (by simp), viaEq (by simp) (by simp) (by simp only [binV] at h; exact h) (by simp) (by simp)⟩
  | nilp => exact ⟨plain (by simp) (by simp), viaEq (by simp) (by simp) (by simp only [binV] at h; exact h) (by simp) (by simp)⟩
  | ptr _ _ _ _ => exact ⟨plain (by simp) (by simp), viaEq (by simp) (by simp) (by simp only [binV] at h; exact h) (by simp) (by simp)⟩
  | ipt _ _ _ _ => exact ⟨plain (by simp) (by simp), viaEq (by simp) (by simp) (by simp only [binV] at h; exact h) (by simp) (by simp)⟩
  | nils => exact ⟨plain (by simp) (by simp), viaEq (by simp) (by simp) (by simp only [binV] at h; exact h) (by simp) (by simp)⟩
  | imm _ _ _ _ _ _ _ _ _ => exact ⟨plain (by simp) (by simp), viaEq (by simp) (by simp) (by simp only [binV] at h; exact h) (by simp) (by simp)⟩
  | imz _ _ => exact ⟨plain (by simp) (by simp), viaEq (by simp) (by simp) (by simp only [binV] at h; exact h) (by simp) (by simp)⟩
  | ref _ _ _ _ _ _ _ _ _ _ _ _ => exact ⟨plain (by simp) (by simp), viaEq (by simp) (by simp) (by simp only [binV] at h; exact h) (by simp) (by simp)⟩
  | fn _ _ _ _ _ _ _ => exact ⟨plain (by simp) (by simp), viaEq (by simp) (by simp) (by simp only [binV] at h; exact h) (by simp) (by simp)⟩
  | nilf => exact ⟨plain (by simp) (by simp), viaEq (by simp) (by simp) (by simp only [binV] at h; exact h) (by simp) (by simp)⟩
  | nilm => exact ⟨plain (by simp) (by simp), viaEq (by simp) (by simp) (by simp only [binV] at h; exact h) (by simp) (by simp)⟩
  | map _ _ _ => exact ⟨plain (by simp) (by simp), viaEq (by simp) (by simp) (by simp only [binV] at h; exact h) (by simp) (by simp)⟩
  | yld _ => exact ⟨plain (by simp) (by simp), viaEq (by simp) (by simp) (by simp only [binV] at h; exact h) (by simp) (by simp)⟩
  | tup _ _ _ => exact ⟨plain (by simp) (by simp), viaEq (by simp) (by simp) (by simp only [binV] at h; exact h) (by simp) (by simp)⟩
  | any u =>
    exfalso
    simp only [binV] at h
    have hno : typedEq P ty .any vy = none := by
      unfold typedEq
      cases P.underlying ty with
      | none => rfl
      | some desc => cases desc <;> simp [scalarEq]
    cases op <;> simp [eqV, hno] at h
end
end Go.Vm

namespace Go.Vm
variable [Gl]
open Go.RowKit

section
variable {P : Program} {Γ : Ctx} {S S' : St} {w : World} {t : Tm} {a : Act} {o : Oper} {v : V} {call : CallF}

theorem gives_index (ht : TR Γ t a) {ty : TypeId} {x i : Operand} (hop : o.op = .index ty x i) (h : opIndex P ty (opd t x) (opd t i) = some v) : Gives P Γ w a o v := by
  unfold opIndex at h
  have hrx := rel_opd ht x
  split at h
  · rename_i n hu hi
    obtain ⟨k, ei⟩ := asIdx_rel (rel_opd ht i) hi
    split at h
    · rename_i l hx
      rw [hx] at hrx
      generalize hev : a.eval x = ux at hrx
      split at h
      · rename_i b hb
        injection h with h; subst h
        cases hrx with
        | str s _ hl =>
          have hlt : n < s.size := by
            rcases Nat.lt_or_ge n s.size with hh | hh
            · exact hh
            · have : l.length ≤ n := by rw [← hl]; simpa using hh
              rw [List.getElem?_eq_none this] at hb; cases hb
          have hsb : s[n]? = some s[n] := by simp [hlt]
          have hbb : (s[n]).toNat = b := by
            rw [← hl] at hb
            rw [List.getElem?_map] at hb
            have h1 : s.data.toList[n]? = some s[n] := by
              rw [Array.getElem?_toList]
              have : n < s.data.size := hlt
              rw [Array.getElem?_eq_getElem this]; rfl
            rw [h1] at hb; simpa using hb
          refine ⟨.int .u8 ((s[n]).toNat : Int), by simp [execOp, hop, Instr.index, hev, ei, asIntOf, run_underlying hu, hsb], ?_⟩
          rw [hbb]; exact .int _ _
      · cases h
    · cases h
  · rename_i n el j hu hi
    obtain ⟨k, ei⟩ := asIdx_rel (rel_opd ht i) hi
    split at h
    · rename_i cs sz hx hsz
      have hs := run_szT hsz w
      rw [hx] at hrx
      generalize hev : a.eval x = ux at hrx
      split at h
      · rename_i hlt
        cases hrx with
        | agg _ us hr hone =>
          obtain ⟨u, h1, h2⟩ := part_rel (P := P) (w := w) hr hone h
          exact ⟨u, by simp [execOp, hop, Instr.index, hev, ei, asIntOf, run_underlying hu, hlt, hs, h1], h2⟩
      · cases h
    · cases h
  · cases h

theorem bound_rel (ht : TR Γ t a) {d n : Nat} {x : Option Operand} (h : bound d t x = some n) : (x = none ∧ n = d) ∨ ∃ y k, x = some y ∧ a.eval y = .int k n := by
  cases x with
  | none => simp only [bound, Option.some.injEq] at h; exact .inl ⟨rfl, h.symm⟩
  | some y => obtain ⟨k, e⟩ := asIdx_rel (rel_opd ht y) h; exact .inr ⟨y, k, rfl, e⟩

theorem run_bounds (ht : TR Γ t a) {len cap l h : Nat} {isS : Bool} {lo hi : Option Operand} (hl : bound 0 t lo = some l) (hh : bound len t hi = some h) (h1 : l ≤ h) (h2 : h ≤ len) (h3 : len ≤ cap) :
    (Instr.sliceBounds isS len cap (lo.map a.eval) (hi.map a.eval) none).run P w = .ok (l, h, cap) w := by
  have i1 : (l : Int) ≤ (h : Int) := by omega
  have i2 : (h : Int) ≤ (cap : Int) := by omega
  rcases bound_rel ht hl with ⟨e1, e2⟩ | ⟨y, k, e1, e2⟩ <;> rcases bound_rel ht hh with ⟨e3, e4⟩ | ⟨z, j, e3, e4⟩
  · subst e1; subst e3; subst e2; subst e4; simp [Instr.sliceBounds]
  · subst e1; subst e3; subst e2; simp [Instr.sliceBounds, e4, run_sliceBound, i2]
  · subst e1; subst e3; subst e4; simp [Instr.sliceBounds, e2, run_sliceBound, i1]
  · subst e1; subst e3; simp [Instr.sliceBounds, e2, e4, run_sliceBound, i1, i2]

theorem run_bounds3 (ht : TR Γ t a) {len cap l h m : Nat} {lo : Option Operand} {hi mx : Operand} (hl : bound 0 t lo = some l) (hh : asIdx (opd t hi) = some h) (hx : asIdx (opd t mx) = some m) (h1 : l ≤ h) (h2 : h ≤ m) (h3 : m ≤ cap) :
    (Instr.sliceBounds true len cap (lo.map a.eval) (some (a.eval hi)) (some (a.eval mx))).run P w = .ok (l, h, m) w := by
  have i1 : (l : Int) ≤ (h : Int) := by omega
  have i2 : (h : Int) ≤ (m : Int) := by omega
  have i3 : (m : Int) ≤ (cap : Int) := by omega
  obtain ⟨k1, e1⟩ := asIdx_rel (rel_opd ht hi) hh
  obtain ⟨k2, e2⟩ := asIdx_rel (rel_opd ht mx) hx
  rcases bound_rel ht hl with ⟨e3, e4⟩ | ⟨y, k, e3, e4⟩
  · subst e3; subst e4; simp [Instr.sliceBounds, e1, e2, run_sliceBound, i2, i3]
  · subst e3; simp [Instr.sliceBounds, e1, e2, e4, run_sliceBound, i1, i2, i3]
theorem gives_slice3 (ht : TR Γ t a) {ty : TypeId} {x mx : Operand} {lo hi : Option Operand} (hop : o.op = .slice ty x lo hi (some mx)) (h : opSlice3 P ty (opd t x) lo hi mx t = some v) : Gives P Γ w a o v := by
  unfold opSlice3 at h
  have hrx := rel_opd ht x
  split at h
  rotate_left
  · cases h
  rename_i es id off n hi hx
  split at h
  rotate_left
  · cases h
  rename_i l hh m el hl hhh hm hu
  split at h
  rotate_left
  · cases h
  rename_i sz hsz
  split at h
  rotate_left
  · cases h
  rename_i hc
  obtain ⟨c1, c2, c3, c4⟩ := hc
  subst c4
  injection h with h; subst h
  have hs := run_szT hsz w
  rw [hx] at hrx
  generalize hev : a.eval x = ux at hrx
  cases hrx with
  | ref _ _ _ off' _ cap b hb hes hcap hnc ho =>
    have hb2 := run_bounds3 (P := P) (w := w) (len := n) (cap := cap) ht hl hhh hm c1 c2 (by omega)
    by_cases e : m = l
    · subst e
      refine ⟨.slice (some ⟨b, off', none⟩) (hh - m) (m - m), by simp [execOp, hop, Instr.sliceAt, Instr.slice, hev, run_underlying hu, hb2, hs], ?_⟩
      have e1 : hh - m = 0 := by omega
      rw [e1, Nat.sub_self]
      exact .ref _ _ _ _ _ _ _ hb hes (by simp; exact Nat.le_trans (Nat.le_add_right _ _) hcap) (Nat.le_refl _) (.inr rfl)
    · refine ⟨.slice (some ⟨b, off' + l * es, none⟩) (hh - l) (m - l), by simp [execOp, hop, Instr.sliceAt, Instr.slice, hev, run_underlying hu, hb2, hs, e, Addr_add], ?_⟩
      have hlc : m ≤ cap := by omega
      have e3 : (m - l) * es = m * es - l * es := Nat.sub_mul _ _ _
      have e4 : l * es ≤ m * es := Nat.mul_le_mul_right _ (by omega)
      have e5 : m * es ≤ cap * es := Nat.mul_le_mul_right _ hlc
      refine .ref _ _ _ _ _ _ _ hb hes (by omega) (by omega) ?_
      rcases ho with ho | ho
      · exact .inl (by rw [ho])
      · exact .inr (by omega)

theorem gives_slice (ht : TR Γ t a) {ty : TypeId} {x : Operand} {lo hi : Option Operand} (hop : o.op = .slice ty x lo hi none) (h : opSlice P ty (opd t x) lo hi t = some v) : Gives P Γ w a o v := by
  unfold opSlice at h
  have hrx := rel_opd ht x
  split at h
  · cases h
  · rename_i n hlen
    split at h
    · rename_i l m hl hm
      split at h
      · rename_i hc
        obtain ⟨c1, c2⟩ := hc
        split at h
        · -- string
          rename_i s hu hx
          injection h with h; subst h
          rw [hx] at hrx hlen
          generalize hev : a.eval x = ux at hrx
          cases hrx with
          | str b _ hb =>
            simp only [lenV, Option.some.injEq] at hlen
            have hn : n = b.size := by rw [← hlen, ← hb]; simp
            subst hn
            have hb2 := run_bounds (P := P) (w := w) (isS := false) ht hl hm c1 c2 (Nat.le_refl _)
            refine ⟨.string (b.extract l m), by simp [execOp, hop, Instr.sliceAt, Instr.slice, hev, run_underlying hu, hb2], .str _ _ ?_⟩
            rw [← hb, ByteArray.data_extract, Array.toList_extract, List.extract_eq_take_drop, ← List.map_take, ← List.map_drop, List.drop_take]
        · -- nil
          rename_i el hu hx
          split at h
          · rename_i sz hsz
            have hs := run_szT hsz w
            injection h with h; subst h
            rw [hx] at hrx hlen
            generalize hev : a.eval x = ux at hrx
            cases hrx with
            | nils =>
              simp only [lenV, Option.some.injEq] at hlen
              subst hlen
              have e1 : m = 0 := by omega
              have e2 : l = 0 := by omega
              subst e1; subst e2
              have hb2 := run_bounds (P := P) (w := w) (isS := true) ht hl hm c1 c2 (Nat.le_refl _)
              exact ⟨_, by simp [execOp, hop, Instr.sliceAt, Instr.slice, hev, run_underlying hu, hb2, hs], .nils⟩
          · cases h
        · -- ref
          rename_i el es id off k hu hx
          split at h
          · rename_i sz hsz
            have hs := run_szT hsz w
            have he0 : es = sz := by
              split at h
              · assumption
              · cases h
            subst he0
            rw [if_pos rfl] at h
            injection h with h; subst h
            rw [hx] at hrx hlen
            generalize hev : a.eval x = ux at hrx
            cases hrx with
            | ref _ _ _ off' _ cap b hb hes hcap hnc ho =>
              simp only [lenV, Option.some.injEq] at hlen
              subst hlen
              have hb2 := run_bounds (P := P) (w := w) (isS := true) ht hl hm c1 c2 hnc
              by_cases e : cap = l
              · subst e
                refine ⟨.slice (some ⟨b, off', none⟩) (m - cap) (cap - cap), by simp [execOp, hop, Instr.sliceAt, Instr.slice, hev, run_underlying hu, hb2, hs], ?_⟩
                have e1 : m - cap = 0 := by omega
                rw [e1, Nat.sub_self]
                exact .ref _ _ _ _ _ _ _ hb hes (by simp; exact Nat.le_trans (Nat.le_add_right _ _) hcap) (Nat.le_refl _) (.inr rfl)
              · refine ⟨.slice (some ⟨b, off' + l * es, none⟩) (m - l) (cap - l), by simp [execOp, hop, Instr.sliceAt, Instr.slice, hev, run_underlying hu, hb2, hs, e, Addr_add], ?_⟩
                have hlc : l ≤ cap := by omega
                have e3 : (cap - l) * es = cap * es - l * es := Nat.sub_mul _ _ _
                have e4 : l * es ≤ cap * es := Nat.mul_le_mul_right _ hlc
                refine .ref _ _ _ _ _ _ _ hb hes (by omega) (by omega) ?_
                rcases ho with ho | ho
                · exact .inl (by rw [ho])
                · exact .inr (by omega)
          · cases h
        · -- imm
          rename_i el es c hu hx
          split at h
          · rename_i sz hsz
            have hs := run_szT hsz w
            split at h
            · rename_i he
              injection h with h; subst h; subst he
              rw [hx] at hrx hlen
              generalize hev : a.eval x = ux at hrx
              cases hrx with
              | imz _ a =>
                simp only [lenV, Option.some.injEq, List.length_nil] at hlen
                subst hlen
                have hb2 := run_bounds (P := P) (w := w) (isS := true) ht hl hm c1 c2 (Nat.le_refl _)
                obtain rfl : l = 0 := by omega
                obtain rfl : m = 0 := by omega
                exact ⟨.slice (some a) 0 0, by simp [execOp, hop, Instr.sliceAt, Instr.slice, hev, run_underlying hu, hb2, hs], by simpa using Rel.imz _ a⟩
              | imm _ _ b off k cap hE hn hcp =>
                simp only [lenV, Option.some.injEq] at hlen
                subst hlen
                subst hn
                have hb2 := run_bounds (P := P) (w := w) (isS := true) ht hl hm c1 c2 hcp
                have hlen2 : ((c.take m).drop l).length = m - l := by simp; omega
                by_cases e : cap = l
                · subst e
                  refine ⟨.slice (some ⟨b, off, none⟩) (m - cap) (cap - cap), by simp [execOp, hop, Instr.sliceAt, Instr.slice, hev, run_underlying hu, hb2, hs], .imm _ _ _ _ _ _ ?_ hlen2.symm (by omega)⟩
                  have hnil : (c.take m).drop cap = [] := List.eq_nil_of_length_eq_zero (by omega)
                  rw [hnil]
                  exact .nil _ _ _
                · exact ⟨.slice (some ⟨b, off + l * es, none⟩) (m - l) (cap - l), by simp [execOp, hop, Instr.sliceAt, Instr.slice, hev, run_underlying hu, hb2, hs, e, Addr_add],
                    .imm _ _ _ _ _ _ ((hE.take m).drop l (by simp; omega)) hlen2.symm (by omega)⟩
            · cases h
          · cases h
        · cases h
      · cases h
    · cases h

/-! len, max, min -/
theorem lenV_rel {x : V} {u : Value} {n : Nat} (hx : Rel Γ x u) (h : lenV x = some n) : (∃ s, u = .string s ∧ s.size = n ∧ ∃ l, x = .str l) ∨ ∃ a c, u = .slice a n c := by
  cases hx <;> simp only [lenV, Option.some.injEq] at h <;> try (cases h; done)
  case str s l hl => exact .inl ⟨s, rfl, by rw [← h, ← hl]; simp, l, rfl⟩
  case nils => subst h; exact .inr ⟨_, _, rfl⟩
  case imm => subst h; rename_i hn hc; rw [← hn]; exact .inr ⟨_, _, rfl⟩
  case imz => subst h; exact .inr ⟨_, _, rfl⟩
  case ref => subst h; exact .inr ⟨_, _, rfl⟩

theorem maxL_rel : ∀ (r : List V) (x : V) (us : List Value) (u : Value) (v : V), maxL x r = some v → Rel Γ x u → RelL Γ r us → (r ≠ [] ∨ ∃ k n, x = .int k n) →
    ∃ y, (us.foldlM Builtin.max2 u).run P w = .ok y w ∧ Rel Γ v y
  | [], x, us, u, v, h, hx, hr, _ => by
    cases hr
    simp only [maxL, Option.some.injEq] at h; subst h
    exact ⟨u, by simp, hx⟩
  | y :: r, x, us, u, v, h, hx, hr, _ => by
    cases hr with
    | cons _ uy _ us hy hs =>
      cases hx <;> cases hy <;> simp only [maxL] at h <;> try (cases h; done)
      rename_i k n j m _
      obtain ⟨z, h1, h2⟩ := maxL_rel r (.int k (if m > n then m else n)) us (.int k (if m > n then m else n)) v h (.int _ _) hs (.inr ⟨_, _, rfl⟩)
      exact ⟨z, by simp only [List.foldlM_cons, Builtin.max2, pure_bind]; exact h1, h2⟩
theorem minL_rel : ∀ (r : List V) (x : V) (us : List Value) (u : Value) (v : V), minL x r = some v → Rel Γ x u → RelL Γ r us → (r ≠ [] ∨ ∃ k n, x = .int k n) →
    ∃ y, (us.foldlM Builtin.min2 u).run P w = .ok y w ∧ Rel Γ v y
  | [], x, us, u, v, h, hx, hr, _ => by
    cases hr
    simp only [minL, Option.some.injEq] at h; subst h
    exact ⟨u, by simp, hx⟩
  | y :: r, x, us, u, v, h, hx, hr, _ => by
    cases hr with
    | cons _ uy _ us hy hs =>
      cases hx <;> cases hy <;> simp only [minL] at h <;> try (cases h; done)
      rename_i k n j m _
      obtain ⟨z, h1, h2⟩ := minL_rel r (.int k (if m < n then m else n)) us (.int k (if m < n then m else n)) v h (.int _ _) hs (.inr ⟨_, _, rfl⟩)
      exact ⟨z, by simp only [List.foldlM_cons, Builtin.min2, pure_bind]; exact h1, h2⟩

/-! build -/
theorem foldl_set_zip (l : List Value) : ∀ (cs : Array Value) (o k : Nat), o + k + l.length ≤ cs.size →
    ((l.zipIdx k).foldl (fun (acc : Array Value) (p : Value × Nat) => acc.setIfInBounds (o + p.2) p.1) cs).toList = over cs.toList (o + k) l := by
  induction l with
  | nil => intro cs o k _; simp [over_nil]
  | cons x xs ih =>
    intro cs o k h
    simp only [List.length_cons] at h
    simp only [List.zipIdx_cons, List.foldl_cons]
    rw [ih _ o (k + 1) (by simp; omega), Array.toList_setIfInBounds]
    rw [show o + (k + 1) = o + k + 1 by omega, over_cons _ _ _ _ (by simp; omega)]
theorem fill_rel {place : Nat → Option (Nat × Nat)} (ht : TR Γ t a) : ∀ (ps : List (Nat × Operand)) (z cs : List V) (uz : Array Value), fill place t ps z = some cs → RelL Γ z uz.toList →
    (∀ u ∈ uz.toList, Value.oneCell' u = true) →
    ∃ uc, Instr.fill place uz (ps.map fun p => (p.1, a.eval p.2)) = some uc ∧ RelL Γ cs uc.toList ∧ (∀ u ∈ uc.toList, Value.oneCell' u = true) ∧ cs.length = z.length
  | [], z, cs, uz, h, hz, hone => by
    simp only [fill, Option.some.injEq] at h; subst h
    exact ⟨uz, by simp [Instr.fill], hz, hone, rfl⟩
  | (i, x) :: ps, z, cs, uz, h, hz, hone => by
    unfold fill at h
    split at h
    · rename_i off size hpl
      have hx := rel_opd ht x
      split at h
      · cases h
      · cases h
      · rename_i v' hn1 hn2
        split at h
        · rename_i hc
          obtain ⟨c1, c2⟩ := hc
          have hcells := hx.cells (fun e => hn1 e) (fun l e => hn2 l e)
          have hcone := hx.cells_one (fun e => hn1 e) (fun l e => hn2 l e)
          have hlen := hcells.length
          have hzl := hz.length
          simp only [Array.length_toList] at hlen hzl
          have hset := foldl_set_zip (a.eval x).cells.toList uz off 0 (by simp; omega)
          simp only [Nat.add_zero] at hset
          have hrel : RelL Γ (over z off (opd t x).cells) (over uz.toList off (a.eval x).cells.toList) := hz.over hcells off
          have hone2 : ∀ u ∈ over uz.toList off (a.eval x).cells.toList, Value.oneCell' u = true := by
            intro u hu
            simp only [over, List.mem_append] at hu
            rcases hu with (hu | hu) | hu
            · exact hone u (List.mem_of_mem_take hu)
            · exact hcone u hu
            · exact hone u (List.mem_of_mem_drop hu)
          obtain ⟨uc, h1, h2, h3, h4⟩ := fill_rel ht ps _ cs (((a.eval x).cells.toList.zipIdx 0).foldl (fun (acc : Array Value) (p : Value × Nat) => acc.setIfInBounds (off + p.2) p.1) uz) h (by rw [hset]; exact hrel) (by rw [hset]; exact hone2)
          refine ⟨uc, ?_, h2, h3, by rw [h4, over_length _ _ _ c2]⟩
          simp only [List.map_cons, Instr.fill, hpl]
          rw [if_neg (by simp; omega)]
          rw [← h1]
          congr 1
          rw [← Array.foldl_toList]
          simp
        · cases h
    · cases h
end
end Go.Vm

namespace Go.Vm
variable [Gl]
open Go.RowKit

section
variable {P : Program} {Γ : Ctx} {S S' : St} {w : World} {t : Tm} {a : Act} {o : Oper} {v : V} {call : CallF}

/-- What an operation comes to. -/
def Comes' (P : Program) (Γ : Ctx) (S : St) (w : World) (a : Act) (o : Oper) (v : V) (S' : St) : Prop :=
  ∃ Γ' w' u, (execOp a.eval o).run P w = .ok (.value u) w' ∧ Step Γ S w Γ' S' w' ∧ Rel Γ' v u
theorem Gives.comes (hm : Mem Γ S w) (h : Gives P Γ w a o v) : Comes' P Γ S w a o v S := by
  obtain ⟨u, h1, h2⟩ := h
  exact ⟨Γ, w, u, h1, .refl hm, h2⟩

theorem zeroOf_spec {ty : TypeId} {z : List V} (h : zeroOf P ty = some z) : ∃ i zv, P.info? ty = some i ∧ i.zero = some zv ∧ RelL Γ z zv.cells.toList ∧ ∀ u ∈ zv.cells.toList, Value.oneCell' u = true := by
  unfold zeroOf at h
  split at h
  · rename_i i hi
    split at h
    · rename_i zv hz
      split at h
      · rename_i hall
        injection h with h; subst h
        refine ⟨i, zv, hi, hz, rel_ofValues Γ _, fun u hu => ?_⟩
        have := List.all_eq_true.1 hall u hu
        cases u <;> first | rfl | (simp at this)
      · cases h
    · cases h
  · cases h

/-- What an operation that makes a row does in memory. -/
def AllocRun (P : Program) (Γ : Ctx) (w : World) (a : Act) (o : Oper) (cs : List V) (av : Id → V) : Prop :=
  ∃ (us rest : List Value) (el : TypeId) (es : Nat) (pv : Nat → Value), (execOp a.eval o).run P w = .ok (.value (pv w.heap.size)) (w.alloc (.cells (us ++ rest).toArray el)) ∧ RelL Γ cs us ∧
    (∀ u ∈ us ++ rest, Value.oneCell' u = true) ∧
    ∀ (Γ' : Ctx) (id : Id), Γ'.φ id = some w.heap.size → Γ'.es w.heap.size = es → Γ'.bs w.heap.size = (us ++ rest).length → Rel Γ' (av id) (pv w.heap.size)
theorem AllocRun.comes (hm : Mem Γ S w) {cs : List V} {av : Id → V} {i : Id} (h : AllocRun P Γ w a o cs av) (hn : S.new (.cells cs 0 []) = some (i, S')) : Comes' P Γ S w a o (av i) S' := by
  obtain ⟨us, rest, el, es, pv, h1, h2, h3, h4⟩ := h
  obtain ⟨Γ', hst, hφ, hes, hbs⟩ := Step.alloc (rest := rest) (el := el) (es := es) hm hn (Nat.zero_le _) h2 h3
  exact ⟨Γ', _, _, h1, hst, h4 Γ' i hφ hes hbs⟩

theorem arun_alloc {ty : TypeId} {z : List V} (hop : o.op = .alloc ty) (hz : zeroOf P ty = some z) : AllocRun P Γ w a o z fun i => .ptr i 0 := by
  obtain ⟨inf, zv, hi, hzv, hr, hone⟩ := zeroOf_spec (Γ := Γ) hz
  refine ⟨zv.cells.toList, [], ty, 0, fun b => .pointer (some ⟨b, 0, none⟩), ?_, hr, by simpa using hone, fun Γ' id h _ _ => .ptr _ _ _ h⟩
  simp [execOp, hop, Instr.alloc, zeroValue, typeInfo, hi, hzv, newVar, newRow]
theorem arun_box (ht : TR Γ t a) {ty : TypeId} {x : Operand} (hop : o.op = .box ty x) (h1 : opd t x ≠ .any) (h2 : ∀ l, opd t x ≠ .tup l) : AllocRun P Γ w a o (opd t x).cells fun i => .ptr i 0 := by
  have hx := rel_opd ht x
  refine ⟨(a.eval x).cells.toList, [], ty, 0, fun b => .pointer (some ⟨b, 0, none⟩), ?_, hx.cells h1 h2, by simpa using hx.cells_one h1 h2, fun Γ' id h _ _ => .ptr _ _ _ h⟩
  simp [execOp, hop, Instr.box, newVar, newRow]

theorem gives_build (ht : TR Γ t a) {ty : TypeId} {ps : Array (Nat × Operand)} {z cs : List V} {place : Nat → Option (Nat × Nat)} (hop : o.op = .build ty ps)
    (hz : zeroOf P ty = some z) (hp : placesOf P ty = some place) (h : fill place t ps.toList z = some cs) : Gives P Γ w a o (.agg cs) := by
  obtain ⟨inf, zv, hi, hzv, hr, hone⟩ := zeroOf_spec (Γ := Γ) hz
  obtain ⟨uc, h1, h2, h3, _⟩ := fill_rel ht ps.toList z cs zv.cells h hr hone
  refine ⟨.agg uc, ?_, .agg _ _ h2 h3⟩
  have hb : P.built ty (ps.map fun (i, x) => (i, a.eval x)).toList = some uc := by
    unfold Program.built
    unfold placesOf at hp
    rw [hi]
    have em : (ps.map fun (i, x) => (i, a.eval x)).toList = ps.toList.map fun p => (p.1, a.eval p.2) := by simp
    rw [em]
    cases hu : P.underlying ty with
    | none => rw [hu] at hp; cases hp
    | some d =>
      rw [hu] at hp
      cases d <;> simp only [] at hp <;> try (cases hp; done)
      case array n el =>
        cases hie : P.info? el with
        | none => rw [hie] at hp; cases hp
        | some ie =>
          rw [hie] at hp; injection hp with hp; subst hp
          simp only [hzv, hie]; exact h1
      case struct fs =>
        cases hq : fs.toList.mapM (fun f => (P.info? f.type).map fun i => (f.offset, i.size)) with
        | none => rw [hq] at hp; cases hp
        | some pl =>
          rw [hq] at hp; injection hp with hp; subst hp
          simp only [hzv, hq]; exact h1
  have := run_build (P := P) w ty (ps.map fun (i, x) => (i, a.eval x)) uc hb
  simp [execOp, hop, this]

theorem range_mod_flatten (z : List Value) : ∀ (n : Nat), (List.range (n * z.length)).map (fun i => z[i % z.length]!) = (List.replicate n z).flatten := by
  intro n
  by_cases h0 : z.length = 0
  · have : z = [] := List.eq_nil_of_length_eq_zero h0
    subst this
    simp
  · induction n with
    | zero => simp
    | succ n ih =>
      rw [Nat.add_mul, Nat.one_mul, List.range_add, List.map_append, ih, List.replicate_succ', List.flatten_append]
      congr 1
      simp only [List.flatten_cons, List.flatten_nil, List.append_nil, List.map_map]
      apply List.ext_getElem
      · simp
      · intro i h1 h2
        simp only [List.length_map, List.length_range] at h1
        simp only [List.getElem_map, List.getElem_range, Function.comp]
        rw [Nat.add_comm, Nat.add_mul_mod_self_right, Nat.mod_eq_of_lt h1]
        exact getElem!_pos z i h1
theorem madeCells_toList (z : Array Value) (n : Nat) : (madeCells z (n * z.size)).toList = (List.replicate n z.toList).flatten := by
  have := range_mod_flatten z.toList n
  simp only [Array.length_toList] at this
  rw [← this]
  unfold madeCells
  simp only [Array.toList_map, Array.toList_range]
  apply List.map_congr_left
  intro i _
  simp [getElem!_def]
theorem RelL.repl {z : List V} {u : List Value} (h : RelL Γ z u) (n : Nat) : RelL Γ (repl n z) (List.replicate n u).flatten := by
  induction n with
  | zero => exact .nil
  | succ n ih => simp only [Vm.repl, List.replicate_succ, List.flatten_cons]; exact h.append ih
theorem repl_length (z : List V) (n : Nat) : (repl n z).length = n * z.length := by
  simp [repl, List.length_flatten]
theorem one_repl {u : List Value} (h : ∀ x ∈ u, Value.oneCell' x = true) (n : Nat) : ∀ x ∈ (List.replicate n u).flatten, Value.oneCell' x = true := by
  intro x hx
  simp only [List.mem_flatten, List.mem_replicate] at hx
  obtain ⟨l, ⟨_, e⟩, hx⟩ := hx
  subst e; exact h x hx

theorem arun_buildSlice (ht : TR Γ t a) {ty el : TypeId} {n sz : Nat} {ps : Array (Nat × Operand)} {z cs : List V} (hop : o.op = .buildSlice ty n ps)
    (hu : P.underlying ty = some (.slice el)) (hz : zeroOf P el = some z) (hsz : szT P el = some sz) (hl : z.length = sz) (hn : n * sz ≤ 2 ^ 24)
    (hf : fill (fun i => some (i * sz, sz)) t ps.toList (repl n z) = some cs) : AllocRun P Γ w a o cs fun i => .ref sz i 0 n := by
  obtain ⟨inf, zv, hi, hzv, hr, hone⟩ := zeroOf_spec (Γ := Γ) hz
  have hs := run_szT hsz w
  have hzl : zv.cells.size = sz := by rw [← hl, hr.length]; simp
  have hmade := madeCells_toList zv.cells n
  rw [hzl] at hmade
  have hrr : RelL Γ (repl n z) (madeCells zv.cells (n * sz)).toList := by rw [hmade]; exact hr.repl n
  obtain ⟨uc, h1, h2, h3, h4⟩ := fill_rel ht ps.toList (repl n z) cs (madeCells zv.cells (n * sz)) hf hrr (by rw [hmade]; exact one_repl hone n)
  refine ⟨uc.toList, [], el, sz, fun b => .slice (some ⟨b, 0, none⟩) n n, ?_, h2, by simpa using h3, fun Γ' id hφ hes hbs => .ref _ _ _ _ _ _ _ hφ hes ?_ (Nat.le_refl _) (.inl rfl)⟩
  · have em : (ps.map fun (i, x) => (i, a.eval x)).toList = ps.toList.map fun p => (p.1, a.eval p.2) := by simp
    have hn' : ¬ (2 ^ 24 < n * sz) := by omega
    by_cases h0 : n * sz = 0
    · have hme : madeCells zv.cells (n * sz) = (Array.range (n * sz)).map ((#[] : Array Value)[· % (#[] : Array Value).size]!) := by
        rw [h0]; simp [madeCells]
      rw [hme] at h1
      simp only [execOp, hop, Instr.buildSlice, Sem.run_bind, run_underlying hu, Result.andThen_ok, hs, hn', if_false, h0, if_true, Sem.run_pure, em, gt_iff_lt]
      rw [h0] at h1
      have h1' : Instr.fill (fun i => some (i * sz, sz)) (Array.map (fun _ => (default : Value)) (Array.range 0)) (List.map (fun x => (x.fst, a.eval x.snd)) ps.toList) = some uc := by
        rw [← h1]; congr 1
      simp [h1', newRow]
    · simp only [execOp, hop, Instr.buildSlice, Sem.run_bind, run_underlying hu, Result.andThen_ok, hs, hn', if_false, h0, Sem.run_pure, em, gt_iff_lt]
      have h1' : Instr.fill (fun i => some (i * sz, sz)) ((Array.range (n * sz)).map (zv.cells[· % zv.cells.size]!)) (ps.toList.map fun p => (p.1, a.eval p.2)) = some uc := h1
      simp [zeroValue, typeInfo, hi, hzv, h1', newRow]
  · rw [hbs]
    have := h2.length
    simp only [List.append_nil]
    rw [← this, h4, repl_length, hl]
    simp
theorem arun_makeSlice (ht : TR Γ t a) {ty el : TypeId} {l c : Operand} {z : List V} {sz n m : Nat} (hop : o.op = .makeSlice ty l c) (hu : P.underlying ty = some (.slice el))
    (hz : zeroOf P el = some z) (hsz : szT P el = some sz) (hl : asIdx (opd t l) = some n) (hc : asIdx (opd t c) = some m) (c1 : n ≤ m) (c2 : m ≤ maxRow) (c3 : P.bytesOf el ≤ 2 ^ 16) (c4 : z.length = sz) :
    AllocRun P Γ w a o (repl n z) fun i => .ref sz i 0 n := by
  obtain ⟨inf, zv, hi, hzv, hr, hone⟩ := zeroOf_spec (Γ := Γ) hz
  obtain ⟨k, el'⟩ := asIdx_rel (rel_opd ht l) hl
  obtain ⟨j, ec⟩ := asIdx_rel (rel_opd ht c) hc
  have hby : P.bytesOf el = inf.bytes := by simp [Program.bytesOf, hi]
  have hsi : inf.size = sz := by unfold szT at hsz; rw [hi] at hsz; injection hsz
  have hzl : zv.cells.size = sz := by rw [← c4, hr.length]; simp
  unfold maxRow at c2
  have hb : (inf.bytes : Int) * (m : Int) ≤ 281474976710656 := by
    rw [hby] at c3
    have : inf.bytes * m ≤ 65536 * 16777216 := Nat.mul_le_mul (by omega) (by omega)
    omega
  have hrun := run_make (P := P) w ty el inf zv hu hi hzv k j n m (by omega) (by omega) hb (by omega)
  simp only [Int.toNat_natCast] at hrun
  have hmade := madeCells_toList zv.cells m
  rw [hzl] at hmade
  have hsplit : (madeCells zv.cells (m * sz)).toList = (List.replicate n zv.cells.toList).flatten ++ (List.replicate (m - n) zv.cells.toList).flatten := by
    rw [hmade, ← List.flatten_append, List.replicate_append_replicate]
    congr 2
    omega
  refine ⟨(List.replicate n zv.cells.toList).flatten, (List.replicate (m - n) zv.cells.toList).flatten, el, sz, fun b => .slice (some ⟨b, 0, none⟩) n m, ?_, hr.repl n, ?_, fun Γ' id hφ hes hbs => .ref _ _ _ _ _ _ _ hφ hes ?_ c1 (.inl rfl)⟩
  · rw [← hsplit]
    simp [execOp, hop, el', ec, hrun, hsi]
  · intro x hx
    rw [← List.flatten_append] at hx
    rw [List.replicate_append_replicate] at hx
    exact one_repl hone _ x hx
  · rw [hbs, ← hsplit]; simp [size_madeCells]
end
end Go.Vm

