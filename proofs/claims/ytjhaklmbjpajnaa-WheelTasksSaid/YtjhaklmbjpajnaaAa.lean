/- the abstract machine: values, memory, operations, code; and each operation does what the model does. No condition: it holds of every program that has a table of bodies. -/
import GoSem.Dispatch
import GoSem.Core.Region
import Derived.Laws.Append
import Derived.Laws.CopyRow
import Derived.Deep.MidRow
import Derived.WalkLawsBesides
import Derived.Laws.Slices
import Derived.Laws.Tables
import Derived.Laws.MakeOwn
set_option linter.unusedVariables false
namespace Go.Abs
noncomputable section

/-- a store of things by number -/
inductive T (α : Type) where
  | e
  | n (l : T α) (v : Option α) (r : T α)

namespace T
variable {α : Type}
def get : T α → Nat → Option α
  | .e, _ => none
  | .n l v r, k =>
    match k with
    | 0 => v
    | k + 1 => if Nat.beq (Nat.mod k 2) 0 then l.get (Nat.div k 2) else r.get (Nat.div k 2)
def setF : Nat → T α → Nat → Option α → T α
  | 0, t, _, _ => t
  | f + 1, t, k, x =>
    match t with
    | .e =>
      match k with
      | 0 => .n .e x .e
      | k + 1 => if Nat.beq (Nat.mod k 2) 0 then .n (setF f .e (Nat.div k 2) x) none .e else .n .e none (setF f .e (Nat.div k 2) x)
    | .n l v r =>
      match k with
      | 0 => .n l x r
      | k + 1 => if Nat.beq (Nat.mod k 2) 0 then .n (setF f l (Nat.div k 2) x) v r else .n l v (setF f r (Nat.div k 2) x)
def set (t : T α) (k : Nat) (x : α) : T α := setF (k + 1) t k (some x)
end T

/-- values, by the abstract machine's own numbers of blocks -/
inductive AV where
  | sc (v : Value)
  | ptr (id off : Nat)
  | sl (id off len cap : Nat)
  | op (id off len cmin es : Nat)
  | map (id : Nat)
  | fn (f : Fn) (first cap : List AV)
  | yd (l : Nat)
  | iface (t : TypeId) (v : AV)
  | agg (cs : List AV)
  | tup (vs : List AV)
  | no
  | tok (i : Nat)
  deriving Inhabited

inductive Tag where
  | normal | exit (id : Nat) | goto (l : Nat) | ret
  deriving DecidableEq, Inhabited, Repr

inductive AOp where
  | mv (x : AV)
  | pick (c a b : AV)
  | bin (op : BinOp) (x y : AV)
  | conv (k : IntKind) (x : AV)
  | part (off n : Nat) (agg : Bool) (x : AV)
  | aidx (len es : Nat) (agg : Bool) (x i : AV)
  | sidx (x i : AV)
  | build (zero : List AV) (parts : List (Nat × Nat × AV))
  | faddr (off : Nat) (x : AV)
  | paddr (len es : Nat) (x i : AV)
  | saddr (es : Nat) (x i : AV)
  | aslice (len es : Nat) (x : AV) (lo hi mx : Option AV)
  | sslice (es : Nat) (x : AV) (lo hi mx : Option AV)
  | strslice (x : AV) (lo hi : Option AV)
  | extract (i : Nat) (x : AV)
  | nilchk (x : AV)
  | len (str : Bool) (x : AV)
  | cap (x : AV)
  | minmax (isMax : Bool) (xs : List AV)
  | load (n : Nat) (agg : Bool) (p : AV)
  | maplen (m : AV)
  | alloc (cells : List AV)
  | box (x : AV)
  | bslice (es n : Nat) (zero : List AV) (parts : List (Nat × Nat × AV))
  | mkslice (es bytes : Nat) (zero : List AV) (len cap : AV)
  | mkmap
  | store (n : Nat) (p v : AV)
  | append (es bytes : Nat) (s x : AV)
  | copy (es : Nat) (d s : AV)
  | clear (es : Nat) (zero : List AV) (x : AV)
  | eq (t : TypeId) (neg : Bool) (x y : AV)
  | un (op : UnOp) (x : AV)
  | tassert (asserted : TypeId) (ifc : Bool) (commaOk : Bool) (zero : Option AV) (x : AV)
  | lookup (kt : TypeId) (commaOk : Bool) (zero : AV) (m k : AV)
  | mapset (kt : TypeId) (m k v : AV)
  | mapdel (kt : TypeId) (m k : AV)
  deriving Inhabited

inductive AC where
  | ret (t : Tag) (vs : List AV)
  | op (o : AOp) (k : AV → AC)
  | gop (g : AV) (b : Bool) (o : AOp) (k : AV → AC)
  | chk (o : AOp) (v : AV) (k : AC)
  | gchk (g : AV) (b : Bool) (o : AOp) (v : AV) (k : AC)
  | ite (c : AV) (a b : AC)
  | call (f : AV) (args : List AV) (k : AV → AC)
  | gcall (g : AV) (b : Bool) (f : AV) (args : List AV) (k : AV → AC)
  | bind (m : AC) (id : Option Nat) (k : List AV → AC) (outs : List AV → List AV)
  | loop (init : List AV) (body : List AV → AC) (outs : List AV → List AV)
  | rng (n : Nat) (f : AV) (body : List AV → AC) (k : AC) (outs : List AV)
  | fin (m : AC) (k : List AV → AC)
  | start (l : AV) (k : AC)
  | fail

inductive AO where
  | row (cells : List AV)
  | ro (cells : List AV)
  | map (es : List (Value × AV))
  | loop (st : LoopState) (pend : Option Tag) (n : Nat) (body : List AV → AC)

/-- memory: a store by number, and how many numbers are taken -/
structure AH where
  t : T AO
  next : Nat

noncomputable def getK : T AO → Nat → Option AO :=
  T.rec (motive := fun _ => Nat → Option AO) (fun _ => none) fun _ v _ il ir k => Nat.rec (motive := fun _ => Option AO) v (fun k _ => Bool.rec (motive := fun _ => Option AO) (ir (Nat.div k 2)) (il (Nat.div k 2)) (Nat.beq (Nat.mod k 2) 0)) k
noncomputable def oneK (x : Option AO) : Nat → Nat → T AO :=
  Nat.rec (motive := fun _ => Nat → T AO) (fun _ => .e) fun _ ih k => Nat.rec (motive := fun _ => T AO) (.n .e x .e) (fun k _ => Bool.rec (motive := fun _ => T AO) (.n .e none (ih (Nat.div k 2))) (.n (ih (Nat.div k 2)) none .e) (Nat.beq (Nat.mod k 2) 0)) k
noncomputable def putK (x : Option AO) : T AO → Nat → T AO :=
  T.rec (motive := fun _ => Nat → T AO) (fun k => oneK x (Nat.succ k) k) fun l v r il ir k => Nat.rec (motive := fun _ => T AO) (.n l x r) (fun k _ => Bool.rec (motive := fun _ => T AO) (.n l v (ir (Nat.div k 2))) (.n (il (Nat.div k 2)) v r) (Nat.beq (Nat.mod k 2) 0)) k

def AH.get' (S : AH) (id : Nat) : Option AO := T.get S.t id
noncomputable def AH.get (S : AH) (id : Nat) : Option AO := getK S.t id
def put' (x : Option AO) (t : T AO) (k : Nat) : T AO := T.setF (k + 1) t k x
noncomputable def put (x : Option AO) (t : T AO) (k : Nat) : T AO := putK x t k
def AH.set (S : AH) (id : Nat) (o : AO) : AH := ⟨put (some o) S.t id, S.next⟩
def AH.kill (S : AH) (id : Nat) : AH := ⟨put none S.t id, S.next⟩
def AH.new (S : AH) (o : AO) : AH := ⟨put (some o) S.t S.next, Nat.succ S.next⟩

def uv : AV := .tup []
def nth : List AV → Nat → AV
  | [], _ => .no
  | v :: _, 0 => v
  | _ :: r, n + 1 => nth r n

/-! ### values -/
def scalar : Value → Bool
  | .bool _ | .int .. | .float .. | .complex .. | .string _ | .pointer none | .slice none 0 0 | .map none | .nilFunc | .nilIface => true
  | _ => false

def ofVs (f : Value → Option AV) : List Value → Option (List AV)
  | [] => some []
  | v :: r => match f v, ofVs f r with
    | some a, some b => some (a :: b)
    | _, _ => none
/-- a constant's cell: no struct, no list -/
def one? : Option AV → Option AV
  | some (.agg _) | some (.tup _) | some .no => none
  | o => o
def ofV : Nat → Value → Option AV
  | 0, _ => none
  | n + 1, .agg cs => (ofVs (fun v => one? (ofV n v)) cs.toList).map .agg
  | n + 1, .tuple cs => (ofVs (ofV n) cs.toList).map .tup
  | n + 1, .iface t v => (ofV n v).map (.iface t)
  | n + 1, .func (.func f) a b => match ofVs (ofV n) a.toList, ofVs (ofV n) b.toList with
    | some a, some b => some (.fn (.func f) a b)
    | _, _ => none
  | _ + 1, v => if scalar v then some (.sc v) else none

mutual
/-- the value itself, where it holds no address -/
def toV : AV → Option Value
  | .sc v => some v
  | .agg cs => (toVs cs).map fun l => .agg l.toArray
  | .iface t v => (toV v).map (.iface t)
  | _ => none
def toVs : List AV → Option (List Value)
  | [] => some []
  | v :: r => match toV v, toVs r with
    | some a, some b => some (a :: b)
    | _, _ => none
end

/-- a run that reads no memory -/
def pureRun {α : Type} (P : Program) : Sem α → Option α
  | .pure a => some a
  | .program k => pureRun P (k P)
  | .mark _ k => pureRun P k
  | _ => none

/-! looks into values: each by one recursor, so that the kernel copies little -/
noncomputable def vInt : Value → Option (IntKind × Int) :=
  Value.rec (motive_1 := fun _ => Option (IntKind × Int)) (motive_2 := fun _ => Unit) (motive_3 := fun _ => Unit)
    (fun _ => none) (fun k n => some (k, n)) (fun _ _ => none) (fun _ _ _ => none) (fun _ => none) (fun _ => none) (fun _ _ _ => none) (fun _ => none) (fun _ => none)
    (fun _ _ _ _ _ => none) none (fun _ _ _ => none) none (fun _ _ => none) (fun _ _ => none) (fun _ _ => ()) () (fun _ _ _ _ => ())
def asInt' : AV → Option (IntKind × Int)
  | .sc (.int k n) => some (k, n)
  | _ => none
noncomputable def asInt : AV → Option (IntKind × Int) :=
  AV.rec (motive_1 := fun _ => Option (IntKind × Int)) (motive_2 := fun _ => Unit)
    (fun v => vInt v) (fun _ _ => none) (fun _ _ _ _ => none) (fun _ _ _ _ _ => none) (fun _ => none) (fun _ _ _ _ _ => none) (fun _ => none) (fun _ _ _ => none) (fun _ _ => none) (fun _ _ => none) none (fun _ => none) () (fun _ _ _ _ => ())
noncomputable def vBool : Value → Option Bool :=
  Value.rec (motive_1 := fun _ => Option Bool) (motive_2 := fun _ => Unit) (motive_3 := fun _ => Unit)
    (fun b => some b) (fun _ _ => none) (fun _ _ => none) (fun _ _ _ => none) (fun _ => none) (fun _ => none) (fun _ _ _ => none) (fun _ => none) (fun _ => none)
    (fun _ _ _ _ _ => none) none (fun _ _ _ => none) none (fun _ _ => none) (fun _ _ => none) (fun _ _ => ()) () (fun _ _ _ _ => ())
def asBool' : AV → Option Bool
  | .sc (.bool b) => some b
  | _ => none
noncomputable def asBool : AV → Option Bool :=
  AV.rec (motive_1 := fun _ => Option Bool) (motive_2 := fun _ => Unit)
    (fun v => vBool v) (fun _ _ => none) (fun _ _ _ _ => none) (fun _ _ _ _ _ => none) (fun _ => none) (fun _ _ _ _ _ => none) (fun _ => none) (fun _ _ _ => none) (fun _ _ => none) (fun _ _ => none) none (fun _ => none) () (fun _ _ _ _ => ())
def asPtr' : AV → Option (Nat × Nat)
  | .ptr i o => some (i, o)
  | _ => none
noncomputable def asPtr : AV → Option (Nat × Nat) :=
  AV.rec (motive_1 := fun _ => Option (Nat × Nat)) (motive_2 := fun _ => Unit)
    (fun _ => none) (fun i o => some (i, o)) (fun _ _ _ _ => none) (fun _ _ _ _ _ => none) (fun _ => none) (fun _ _ _ _ _ => none) (fun _ => none) (fun _ _ _ => none) (fun _ _ => none) (fun _ _ => none) none (fun _ => none) () (fun _ _ _ _ => ())
def asList' : AV → Option (List AV)
  | .agg l => some l
  | _ => none
noncomputable def asAgg : AV → Option (List AV) :=
  AV.rec (motive_1 := fun _ => Option (List AV)) (motive_2 := fun _ => Unit)
    (fun _ => none) (fun _ _ => none) (fun _ _ _ _ => none) (fun _ _ _ _ _ => none) (fun _ => none) (fun _ _ _ _ _ => none) (fun _ => none) (fun _ _ _ => none) (fun cs _ => some cs) (fun _ _ => none) none (fun _ => none) () (fun _ _ _ _ => ())
def asTup' : AV → Option (List AV)
  | .tup l => some l
  | _ => none
noncomputable def asTup : AV → Option (List AV) :=
  AV.rec (motive_1 := fun _ => Option (List AV)) (motive_2 := fun _ => Unit)
    (fun _ => none) (fun _ _ => none) (fun _ _ _ _ => none) (fun _ _ _ _ _ => none) (fun _ => none) (fun _ _ _ _ _ => none) (fun _ => none) (fun _ _ _ => none) (fun _ _ => none) (fun cs _ => some cs) none (fun _ => none) () (fun _ _ _ _ => ())
/-- is it a value that may be looked through? 0: nil, or nothing that is known; 1: fine -/
noncomputable def vLive : Value → Bool :=
  Value.rec (motive_1 := fun _ => Bool) (motive_2 := fun _ => Unit) (motive_3 := fun _ => Unit)
    (fun _ => true) (fun _ _ => true) (fun _ _ => true) (fun _ _ _ => true) (fun _ => true) (fun _ => false) (fun _ _ _ => true) (fun _ => true) (fun _ => true)
    (fun _ _ _ _ _ => false) false (fun _ _ _ => true) false (fun _ _ => true) (fun _ _ => true) (fun _ _ => ()) () (fun _ _ _ _ => ())
noncomputable def fLive : Fn → Bool := Fn.rec (motive := fun _ => Bool) (fun _ => true) (fun _ => false) (fun _ _ => true) (fun _ _ _ _ => true) (fun _ => true)
def live' : AV → Bool
  | .sc (.pointer _) | .sc .nilIface | .sc .nilFunc | .sc (.func ..) | .fn (.method _) _ _ | .no | .tok _ => false
  | _ => true
noncomputable def live : AV → Bool :=
  AV.rec (motive_1 := fun _ => Bool) (motive_2 := fun _ => Unit)
    (fun v => vLive v) (fun _ _ => true) (fun _ _ _ _ => true) (fun _ _ _ _ _ => true) (fun _ => true) (fun f _ _ _ _ => fLive f) (fun _ => true) (fun _ _ _ => true) (fun _ _ => true) (fun _ _ => true) false (fun _ => false) () (fun _ _ _ _ => ())
def cells' : AV → List AV
  | .agg cs => cs
  | v => [v]
noncomputable def AV.cells (v : AV) : List AV :=
  AV.rec (motive_1 := fun _ => List AV → List AV) (motive_2 := fun _ => Unit)
    (fun _ l => l) (fun _ _ l => l) (fun _ _ _ _ l => l) (fun _ _ _ _ _ l => l) (fun _ l => l) (fun _ _ _ _ _ l => l) (fun _ l => l) (fun _ _ _ l => l) (fun cs _ _ => cs) (fun _ _ l => l) (fun l => l) (fun _ l => l) () (fun _ _ _ _ => ()) v [v]
/-- what no cell can hold: nothing that is known, or a list of results -/
def odd' : AV → Bool
  | .no | .tup _ => true
  | _ => false
noncomputable def odd : AV → Bool :=
  AV.rec (motive_1 := fun _ => Bool) (motive_2 := fun _ => Unit)
    (fun _ => false) (fun _ _ => false) (fun _ _ _ _ => false) (fun _ _ _ _ _ => false) (fun _ => false) (fun _ _ _ _ _ => false) (fun _ => false) (fun _ _ _ => false) (fun _ _ => false) (fun _ _ => true) true (fun _ => false) () (fun _ _ _ _ => ())
def asRow' : AO → Option (List AV)
  | .row l => some l
  | _ => none
noncomputable def asRow : AO → Option (List AV) :=
  AO.rec (motive := fun _ => Option (List AV)) (fun l => some l) (fun _ => none) (fun _ => none) (fun _ _ _ _ => none)
def asCells' : AO → Option (List AV)
  | .row l | .ro l => some l
  | _ => none
noncomputable def asCells : AO → Option (List AV) :=
  AO.rec (motive := fun _ => Option (List AV)) (fun l => some l) (fun l => some l) (fun _ => none) (fun _ _ _ _ => none)

def kcode' : IntKind → Nat
  | .i8 => 0 | .i16 => 1 | .i32 => 2 | .i64 => 3 | .u8 => 4 | .u16 => 5 | .u32 => 6 | .u64 => 7
noncomputable def kcode : IntKind → Nat := IntKind.rec (motive := fun _ => Nat) 0 1 2 3 4 5 6 7
def kindEq (j k : IntKind) : Bool := Nat.beq (kcode j) (kcode k)
def kmax' : IntKind → Nat
  | .i8 => 127 | .i16 => 32767 | .i32 => 2147483647 | .i64 => 9223372036854775807 | .u8 => 255 | .u16 => 65535 | .u32 => 4294967295 | .u64 => 18446744073709551615
noncomputable def kmax : IntKind → Nat := IntKind.rec (motive := fun _ => Nat) 127 32767 2147483647 9223372036854775807 255 65535 4294967295 18446744073709551615

def wrapF (k : IntKind) (n : Int) : Int :=
  match n with
  | .ofNat a => match Nat.ble a (kmax k) with
    | true => .ofNat a
    | false => IntKind.wrap k (.ofNat a)
  | .negSucc a => IntKind.wrap k (.negSucc a)

noncomputable def ltK : Int → Int → Bool :=
  Int.rec (motive := fun _ => Int → Bool)
    (fun a => Int.rec (motive := fun _ => Bool) (fun b => Nat.ble (Nat.succ a) b) (fun _ => false))
    (fun a => Int.rec (motive := fun _ => Bool) (fun _ => true) (fun b => Nat.ble (Nat.succ b) a))
def ltF' (a b : Int) : Bool := decide (a < b)
noncomputable def ltF (a b : Int) : Bool := ltK a b
noncomputable def eqK : Int → Int → Bool :=
  Int.rec (motive := fun _ => Int → Bool)
    (fun a => Int.rec (motive := fun _ => Bool) (fun b => Nat.beq a b) (fun _ => false))
    (fun a => Int.rec (motive := fun _ => Bool) (fun _ => false) (fun b => Nat.beq a b))
def eqF' (a b : Int) : Bool := a == b
noncomputable def eqF (a b : Int) : Bool := eqK a b

/-- two integers of one kind -/
def int2 (f : IntKind → Int → Int → Option AV) (x y : AV) : Option AV :=
  match asInt x with
  | some (k, a) => match asInt y with
    | some (k', b) => match kindEq k k' with
      | true => f k a b
      | false => none
    | none => none
  | none => none
def str2 (f : ByteArray → ByteArray → Option AV) (x y : AV) : Option AV :=
  match x, y with
  | .sc (.string a), .sc (.string b) => f a b
  | _, _ => none
def either (a b : Option AV) : Option AV :=
  match a with
  | some v => some v
  | none => b
def bAdd (x y : AV) : Option AV := either (int2 (fun k a b => some (.sc (.int k (wrapF k (Int.add a b))))) x y) (str2 (fun a b => if a.size + b.size ≤ 9223372036854775807 then some (.sc (.string (a ++ b))) else none) x y)
def bSub (x y : AV) : Option AV := int2 (fun k a b => some (.sc (.int k (wrapF k (Int.sub a b))))) x y
def bMul (x y : AV) : Option AV := int2 (fun k a b => some (.sc (.int k (wrapF k (Int.mul a b))))) x y
def bQuo (x y : AV) : Option AV := int2 (fun k a b => if eqF b 0 then none else some (.sc (.int k (wrapF k (a.tdiv b))))) x y
def bRem (x y : AV) : Option AV := int2 (fun k a b => if eqF b 0 then none else some (.sc (.int k (a.tmod b)))) x y
def bAnd (x y : AV) : Option AV := int2 (fun k a b => some (.sc (.int k (wrapF k ((BitVec.ofInt k.bits a &&& BitVec.ofInt k.bits b).toNat))))) x y
def bOr (x y : AV) : Option AV := int2 (fun k a b => some (.sc (.int k (wrapF k ((BitVec.ofInt k.bits a ||| BitVec.ofInt k.bits b).toNat))))) x y
def bXor (x y : AV) : Option AV := int2 (fun k a b => some (.sc (.int k (wrapF k ((BitVec.ofInt k.bits a ^^^ BitVec.ofInt k.bits b).toNat))))) x y
def bAndNot (x y : AV) : Option AV := int2 (fun k a b => some (.sc (.int k (wrapF k ((BitVec.ofInt k.bits a &&& ~~~ BitVec.ofInt k.bits b).toNat))))) x y
def bShl (x y : AV) : Option AV :=
  match x, y with
  | .sc (.int k a), .sc (.int _ b) => if ltF b 0 then none else some (.sc (.int k (wrapF k (a * 2 ^ (min b.toNat k.bits)))))
  | _, _ => none
def bShr (x y : AV) : Option AV :=
  match x, y with
  | .sc (.int k a), .sc (.int _ b) => if ltF b 0 then none else some (.sc (.int k (a.fdiv (2 ^ (min b.toNat k.bits)))))
  | _, _ => none
def bEql (x y : AV) : Option AV := either (int2 (fun _ a b => some (.sc (.bool (eqF a b)))) x y) (str2 (fun a b => some (.sc (.bool (a.toList == b.toList)))) x y)
def bNeq (x y : AV) : Option AV := either (int2 (fun _ a b => some (.sc (.bool (not (eqF a b))))) x y) (str2 (fun a b => some (.sc (.bool !(a.toList == b.toList)))) x y)
def bLss (x y : AV) : Option AV := either (int2 (fun _ a b => some (.sc (.bool (ltF a b)))) x y) (str2 (fun a b => some (.sc (.bool (Op.bytesLess a.toList b.toList)))) x y)
def bLeq (x y : AV) : Option AV := either (int2 (fun _ a b => some (.sc (.bool (not (ltF b a))))) x y) (str2 (fun a b => some (.sc (.bool (Op.bytesLess a.toList b.toList || a.toList == b.toList)))) x y)
def bGtr (x y : AV) : Option AV := either (int2 (fun _ a b => some (.sc (.bool (ltF b a)))) x y) (str2 (fun a b => some (.sc (.bool !(Op.bytesLess a.toList b.toList || a.toList == b.toList)))) x y)
def bGeq (x y : AV) : Option AV := either (int2 (fun _ a b => some (.sc (.bool (not (ltF a b))))) x y) (str2 (fun a b => some (.sc (.bool !(Op.bytesLess a.toList b.toList)))) x y)
def abin' (op : BinOp) : AV → AV → Option AV :=
  match op with
  | .add => bAdd | .sub => bSub | .mul => bMul | .quo => bQuo | .rem => bRem | .and => bAnd | .or => bOr | .xor => bXor | .shl => bShl | .shr => bShr | .andNot => bAndNot
  | .eql => bEql | .neq => bNeq | .lss => bLss | .leq => bLeq | .gtr => bGtr | .geq => bGeq
noncomputable def abin (op : BinOp) : AV → AV → Option AV :=
  BinOp.rec (motive := fun _ => AV → AV → Option AV) bAdd bSub bMul bQuo bRem bAnd bOr bXor bShl bShr bAndNot bEql bNeq bLss bLeq bGtr bGeq op

/-- which nil it is: 1 of pointers, 2 of slices, 3 of maps, 4 of functions, 5 of interfaces; 0: none -/
def nilc' : AV → Nat
  | .sc (.pointer none) => 1
  | .sc (.slice none _ _) => 2
  | .sc (.map none) => 3
  | .sc .nilFunc => 4
  | .sc .nilIface => 5
  | _ => 0
noncomputable def optN {α : Type} (o : Option α) (n : Nat) : Nat := Option.rec (motive := fun _ => Nat) n (fun _ => 0) o
noncomputable def vNil : Value → Nat :=
  Value.rec (motive_1 := fun _ => Nat) (motive_2 := fun _ => Unit) (motive_3 := fun _ => Unit)
    (fun _ => 0) (fun _ _ => 0) (fun _ _ => 0) (fun _ _ _ => 0) (fun _ => 0) (fun a => optN a 1) (fun a _ _ => optN a 2) (fun r => optN r 3) (fun _ => 0)
    (fun _ _ _ _ _ => 0) 4 (fun _ _ _ => 0) 5 (fun _ _ => 0) (fun _ _ => 0) (fun _ _ => ()) () (fun _ _ _ _ => ())
noncomputable def nilc : AV → Nat :=
  AV.rec (motive_1 := fun _ => Nat) (motive_2 := fun _ => Unit)
    (fun v => vNil v) (fun _ _ => 0) (fun _ _ _ _ => 0) (fun _ _ _ _ _ => 0) (fun _ => 0) (fun _ _ _ _ _ => 0) (fun _ => 0) (fun _ _ _ => 0) (fun _ _ => 0) (fun _ _ => 0) 0 (fun _ => 0) () (fun _ _ _ _ => ())
/-- of which kind something is that is not nil: as above; 0: of none of these -/
def refc' : AV → Nat
  | .ptr .. => 1
  | .sl .. | .op .. => 2
  | .map _ => 3
  | .fn .. | .yd _ => 4
  | .iface .. => 5
  | _ => 0
noncomputable def refc : AV → Nat :=
  AV.rec (motive_1 := fun _ => Nat) (motive_2 := fun _ => Unit)
    (fun _ => 0) (fun _ _ => 1) (fun _ _ _ _ => 2) (fun _ _ _ _ _ => 2) (fun _ => 3) (fun _ _ _ _ _ => 4) (fun _ => 4) (fun _ _ _ => 5) (fun _ _ => 0) (fun _ _ => 0) 0 (fun _ => 0) () (fun _ _ _ _ => ())

/-- is it a pointer's type, to something of some size? -/
def ptrOk (P : Program) (t : TypeId) : Bool :=
  match P.underlying t with
  | some (.pointer e) => match P.info? e with
    | some i => Nat.ble 1 i.size
    | none => false
  | _ => false
/-- what '==' takes as it stands: no number, no string -/
def noNum : Value → Bool
  | .int .. | .float .. | .complex .. | .string _ => false
  | _ => true
/-- '==' in general -/
def aeqS (P : Program) (t : TypeId) (x y : AV) : Option Bool :=
  match asPtr x with
  | some (i, a) => match asPtr y with
    | some (j, b) => match Nat.beq i j && ptrOk P t with
      | true => some (Nat.beq a b)
      | false => none
    | none => none
  | none => match toV x, toV y with
    | some a, some b => if noNum a && noNum b then (match pureRun P (eqGuard .eql t (.tmp 0) (.tmp 0) a b) with | some _ => pureRun P (Op.equal t a b) | none => none) else none
    | _, _ => none
/-- the kind that a type compares by -/
def typc (P : Program) (t : TypeId) : Nat :=
  match P.underlying t with
  | some (.pointer _) => 1
  | some (.slice _) => 2
  | some (.map _ _) => 3
  | some (.func _ _ _) => 4
  | some (.interface _) => 5
  | _ => 0
/-- '==' where not both are integers or strings -/
def aeq (P : Program) (t : TypeId) (x y : AV) : Option Bool :=
  match Nat.ble 1 (nilc x) && Nat.beq (nilc x) (refc y) && Nat.beq (nilc x) (typc P t) with
  | true => some false
  | false => match Nat.ble 1 (nilc y) && Nat.beq (nilc y) (refc x) && Nat.beq (nilc y) (typc P t) with
    | true => some false
    | false => match Nat.ble 1 (nilc x) && Nat.ble (nilc x) 4 && Nat.beq (nilc x) (nilc y) && Nat.beq (nilc x) (typc P t) with
      | true => some true
      | false => aeqS P t x y

/-- a number from 0 on, below n -/
def below (a n : Nat) : Option Nat := match Nat.ble (Nat.succ a) n with
  | true => some a
  | false => none
noncomputable def natK : Int → Option Nat := Int.rec (motive := fun _ => Option Nat) (fun a => some a) (fun _ => none)
def nat? : Int → Option Nat
  | .ofNat a => some a
  | .negSucc _ => none
/-- an index within 0 .. n - 1 -/
def idx? (i : AV) (n : Nat) : Option Nat :=
  match asInt i with
  | some (_, a) => match nat? a with
    | some a => below a n
    | none => none
  | none => none
/-- a bound within 0 .. n -/
def bnd? (i : AV) (n : Nat) : Option Nat := idx? i (Nat.succ n)
def bndO (i : Option AV) (d n : Nat) : Option Nat :=
  match i with
  | none => some d
  | some i => bnd? i n

def nthO' (l : List AV) (i : Nat) : Option AV := l[i]?
noncomputable def nthO : List AV → Nat → Option AV :=
  List.rec (motive := fun _ => Nat → Option AV) (fun _ => none) fun v _ ih i => Nat.rec (motive := fun _ => Option AV) (some v) (fun i _ => ih i) i
def dropL' (n : Nat) (l : List AV) : List AV := l.drop n
noncomputable def dropL : Nat → List AV → List AV :=
  Nat.rec (motive := fun _ => List AV → List AV) (fun l => l) fun _ ih l => List.rec (motive := fun _ => List AV) [] (fun _ r _ => ih r) l
def takeL' (n : Nat) (l : List AV) : List AV := l.take n
noncomputable def takeL : Nat → List AV → List AV :=
  Nat.rec (motive := fun _ => List AV → List AV) (fun _ => []) fun _ ih l => List.rec (motive := fun _ => List AV) [] (fun v r _ => v :: ih r) l
def lenL' (l : List AV) : Nat := l.length
noncomputable def lenL : List AV → Nat := List.rec (motive := fun _ => Nat) 0 fun _ _ n => Nat.succ n
def appL' (a b : List AV) : List AV := a ++ b
noncomputable def appL : List AV → List AV → List AV := List.rec (motive := fun _ => List AV → List AV) (fun b => b) fun v _ ih b => v :: ih b
/-- 'vs' laid over 'c' from off on -/
def setRange (c : List AV) (off : Nat) (vs : List AV) : List AV := appL (takeL off c) (appL vs (dropL (Nat.add off (lenL vs)) c))

def fillP : List AV → List (Nat × Nat × AV) → Option (List AV)
  | cells, [] => some cells
  | cells, (off, size, v) :: rest =>
    match not (odd v) && Nat.beq (lenL v.cells) size && Nat.ble (Nat.add off size) (lenL cells) with
    | true => fillP (setRange cells off v.cells) rest
    | false => none

def mkPart (agg : Bool) (cs : List AV) (off n : Nat) : Option AV :=
  match agg with
  | true => match Nat.ble (Nat.add off n) (lenL cs) with
    | true => some (.agg (takeL n (dropL off cs)))
    | false => none
  | false => nthO cs off

def repZero (zero : List AV) : Nat → List AV
  | 0 => []
  | n + 1 => appL zero (repZero zero n)

def minmax1 (isMax : Bool) (x y : AV) : Option AV :=
  match x, y with
  | .sc (.int k a), .sc (.int _ b) => some (.sc (.int k (if isMax then (if ltF a b then b else a) else (if ltF b a then b else a))))
  | _, _ => none

/-! ### what reads no memory -/
def pPick (c a b : AV) : Option AV := match asBool c with
  | some true => some a
  | some false => some b
  | none => none
def pEq (P : Program) (t : TypeId) (neg : Bool) (x y : AV) : Option AV := match aeq P t x y with
  | some b => some (.sc (.bool (match neg with | true => not b | false => b)))
  | none => none
def pUnV (P : Program) (op : UnOp) (v : Value) : Option AV := match pureRun P (Op.unary op v) with
  | some w => match scalar w with
    | true => some (.sc w)
    | false => none
  | none => none
def pUn (P : Program) (op : UnOp) (x : AV) : Option AV := match asBool x with
  | some b => match op with
    | .not => some (.sc (.bool (not b)))
    | _ => none
  | none => match x with
    | .sc v => pUnV P op v
    | _ => none
def pConv (k : IntKind) (x : AV) : Option AV := match asInt x with
  | some (_, n) => some (.sc (.int k (wrapF k n)))
  | none => none
def pPart (off n : Nat) (agg : Bool) (x : AV) : Option AV := match asAgg x with
  | some cs => mkPart agg cs off n
  | none => none
def pAidx (len es : Nat) (agg : Bool) (x i : AV) : Option AV := match asAgg x with
  | some cs => match idx? i len with
    | some i => mkPart agg cs (Nat.mul i es) es
    | none => none
  | none => none
def pSidx (x i : AV) : Option AV := match x with
  | .sc (.string s) => match idx? i s.size with
    | some i => match s[i]? with
      | some b => some (.sc (.int .u8 b.toNat))
      | none => none
    | none => none
  | _ => none
def pBuild (zero : List AV) (parts : List (Nat × Nat × AV)) : Option AV := match fillP zero parts with
  | some c => some (.agg c)
  | none => none
def pFaddr (off : Nat) (x : AV) : Option AV := match asPtr x with
  | some (id, o) => some (.ptr id (Nat.add o off))
  | none => none
def pPaddr (len es : Nat) (x i : AV) : Option AV := match asPtr x with
  | some (id, o) => match idx? i len with
    | some i => some (.ptr id (Nat.add o (Nat.mul i es)))
    | none => none
  | none => none
def pSaddr (es : Nat) (x i : AV) : Option AV := match x with
  | .sl id o len _ => match idx? i len with
    | some i => some (.ptr id (Nat.add o (Nat.mul i es)))
    | none => none
  | .op id o len _ _ => match idx? i len with
    | some i => some (.ptr id (Nat.add o (Nat.mul i es)))
    | none => none
  | _ => none
/-- the three bounds: low, high, max, of a length and a room -/
def bnds (lo hi mx : Option AV) (len cap : Nat) : Option (Nat × Nat × Nat) :=
  match bndO mx cap cap with
  | some m => match bndO hi len m with
    | some h => match bndO lo 0 h with
      | some l => if mx.isSome && hi.isNone then none else some (l, h, m)
      | none => none
    | none => none
  | none => none
def pAslice (len es : Nat) (x : AV) (lo hi mx : Option AV) : Option AV := match x with
  | .ptr id o => match bnds lo hi mx len len with
    | some (l, h, m) => some (.sl id (if Nat.beq m l then o else Nat.add o (Nat.mul l es)) (Nat.sub h l) (Nat.sub m l))
    | none => none
  | _ => none
def pSslice (es : Nat) (x : AV) (lo hi mx : Option AV) : Option AV := match x with
  | .sl id o len cap => match bnds lo hi mx len cap with
    | some (l, h, m) => some (.sl id (if Nat.beq m l then o else Nat.add o (Nat.mul l es)) (Nat.sub h l) (Nat.sub m l))
    | none => none
  | .op id o len cmin es' => match Nat.beq es es' with
    | true => match bnds lo hi mx len cmin with
      | some (l, h, m) => match mx with
        | some _ => match Nat.beq cmin 0 with
          | true => some (.op id o 0 0 es)
          | false => some (.sl id (if Nat.beq m l then o else Nat.add o (Nat.mul l es)) (Nat.sub h l) (Nat.sub m l))
        | none => some (.op id (Nat.add o (Nat.mul l es)) (Nat.sub h l) (Nat.sub cmin l) es)
      | none => none
    | false => none
  | .sc (.slice none 0 0) => match bnds lo hi mx 0 0 with
    | some _ => some (.sc (.slice none 0 0))
    | none => none
  | _ => none
def pStrslice (x : AV) (lo hi : Option AV) : Option AV := match x with
  | .sc (.string s) => match bnds lo hi none s.size s.size with
    | some (l, h, _) => some (.sc (.string (s.extract l h)))
    | none => none
  | _ => none
def pExtract (i : Nat) (x : AV) : Option AV := match asTup x with
  | some vs => nthO vs i
  | none => none
def pNilchk (x : AV) : Option AV := match live x with
  | true => some x
  | false => none
def pLen (str : Bool) (x : AV) : Option AV := match str with
  | true => match x with
    | .sc (.string s) => some (.sc (.int .i64 (.ofNat s.size)))
    | _ => none
  | false => match x with
    | .sl _ _ n _ => some (.sc (.int .i64 (.ofNat n)))
    | .op _ _ n _ _ => some (.sc (.int .i64 (.ofNat n)))
    | .sc (.slice none 0 0) => some (.sc (.int .i64 0))
    | _ => none
def pCap (x : AV) : Option AV := match x with
  | .sl _ _ _ c => some (.sc (.int .i64 (.ofNat c)))
  | .sc (.slice none 0 0) => some (.sc (.int .i64 0))
  | _ => none
def pMinmax (m : Bool) (xs : List AV) : Option AV := match xs with
  | x :: rest => rest.foldlM (minmax1 m) x
  | [] => none
/-- has a type all methods that are wanted? -/
def hasAll (want : Array (String × TypeId)) (got : Array Method) : Bool := want.toList.all fun x => got.toList.any fun m => m.name == x.1 && m.sig == x.2
def pTassert (P : Program) (t : TypeId) (ifc ok : Bool) (zero : Option AV) (x : AV) : Option AV :=
  let holds (v : AV) : AV := if ok then .tup [v, .sc (.bool true)] else v
  let fails : Option AV := if ok then zero.map fun z => .tup [z, .sc (.bool false)] else none
  match x with
  | .sc .nilIface => fails
  | .iface u v =>
    if ifc then
      match P.underlying t, P.info? u with
      | some (.interface want), some i => if hasAll want i.methods then some (holds x) else fails
      | _, _ => none
    else if u == t then some (holds v) else fails
  | _ => none

/-! ### what reads memory -/
def keyEq (P : Program) (kt : TypeId) (a b : Value) : Option Bool :=
  match P.underlying kt, a, b with
  | some (.int _), .int k x, .int k' y => if kindEq k k' then some (eqF x y) else none
  | _, a, b => pureRun P (Op.equal kt a b)

/-- the first entry of a key: where, and what it holds -/
def findE (P : Program) (kt : TypeId) (k : Value) : List (Value × AV) → Nat → Option (Option (Nat × AV))
  | [], _ => some none
  | (k', v) :: r, i => match keyEq P kt k k' with
    | some true => some (some (i, v))
    | some false => findE P kt k r (i + 1)
    | none => none

def keyOk (P : Program) (kt : TypeId) (empty : Bool) (k : Value) : Bool := (pureRun P (Instr.checkKey empty 10000 kt k)).isSome

def AH.cells? (S : AH) (id : Nat) : Option (List AV) :=
  match S.get id with
  | some o => asCells o
  | none => none
def AH.row? (S : AH) (id : Nat) : Option (List AV) :=
  match S.get id with
  | some o => asRow o
  | none => none

def rLoad (S : AH) (n : Nat) (agg : Bool) (p : AV) : Option AV := match asPtr p with
  | some (id, o) => match S.cells? id with
    | some c => mkPart agg c o n
    | none => none
  | none => none
def mapOf (S : AH) (m : AV) : Option (List (Value × AV)) := match m with
  | .sc (.map none) => some []
  | .map id => match S.get id with
    | some (.map es) => some es
    | _ => none
  | _ => none
def rLookup (P : Program) (S : AH) (kt : TypeId) (ok : Bool) (zero : AV) (m k : AV) : Option AV :=
  match toV k, mapOf S m with
  | some k, some es =>
    if keyOk P kt es.isEmpty k then
      match findE P kt k es 0 with
      | some (some (_, v)) => some (if ok then .tup [v, .sc (.bool true)] else v)
      | some none => some (if ok then .tup [zero, .sc (.bool false)] else zero)
      | none => none
    else none
  | _, _ => none
def rMaplen (S : AH) (m : AV) : Option AV := match mapOf S m with
  | some es => some (.sc (.int .i64 es.length))
  | none => none
def evalRead (P : Program) (S : AH) : AOp → Option AV
  | .load n agg p => rLoad S n agg p
  | .lookup kt ok zero m k => rLookup P S kt ok zero m k
  | .maplen m => rMaplen S m
  | _ => none

/-! ### what makes new memory: what is laid, and the value -/
def lay (S : AH) (o : AO) (f : Nat → AV) : Option (AV × AH) := some (f S.next, S.new o)
def nAlloc (cells : List AV) (S : AH) : Option (AV × AH) := lay S (.row cells) fun id => .ptr id 0
def nBox (x : AV) (S : AH) : Option (AV × AH) := match odd x with
  | true => none
  | false => lay S (.row x.cells) fun id => .ptr id 0
def nBslice (es n : Nat) (zero : List AV) (parts : List (Nat × Nat × AV)) (S : AH) : Option (AV × AH) :=
  match fillP (repZero zero n) parts with
  | some c => match Nat.beq (lenL c) (Nat.mul n es) && Nat.beq (lenL zero) es with
    | true => lay S (.row c) fun id => .sl id 0 n n
    | false => none
  | none => none
def nMkslice (es bytes : Nat) (zero : List AV) (len cap : AV) (S : AH) : Option (AV × AH) := match asInt len with
  | some (_, l) => match asInt cap with
    | some (_, c) => match nat? l with
      | some l => match nat? c with
        | some c => match Nat.ble l c && Nat.ble (Nat.mul bytes c) 140737488355328 && Nat.ble c 9223372036854775807 && Nat.beq (lenL zero) es with
          | true => lay S (.row (repZero zero c)) fun id => .sl id 0 l c
          | false => none
        | none => none
      | none => none
    | none => none
  | none => none
def nMkmap (S : AH) : Option (AV × AH) := lay S (.map []) .map

/-- the cells of a slice's elements -/
def elems (S : AH) (es : Nat) : AV → Option (Nat × List AV)
  | .sc (.slice none 0 0) => some (0, [])
  | .sl id o len _ | .op id o len _ _ => match S.cells? id with
    | some c => if Nat.ble (o + len * es) (lenL c) then some (len, takeL (len * es) (dropL o c)) else none
    | none => none
  | .sc (.string s) => if es = 1 then some (s.size, s.data.toList.map fun b => .sc (.int .u8 b.toNat)) else none
  | _ => none

def maxBytes : Nat := 140737488355328
def maxLenN : Nat := 9223372036854775807

/-! ### what turns memory -/
def eStore (n : Nat) (p v : AV) (S : AH) : Option (AV × AH) := match asPtr p with
  | some (id, o) => match S.row? id with
    | some c => match not (odd v) && Nat.beq (lenL v.cells) n && Nat.ble (Nat.add o n) (lenL c) with
      | true => some (uv, S.set id (.row (setRange c o v.cells)))
      | false => none
    | none => none
  | none => none
def eAppend (es bytes : Nat) (s x : AV) (S : AH) : Option (AV × AH) := match elems S es x with
  | none => none
  | some (m, news) => match s with
    | .sc (.slice none 0 0) =>
      if Nat.beq m 0 then some (s, S)
      else if Nat.ble (m * bytes) maxBytes && Nat.ble m maxLenN then some (.op S.next 0 m m es, S.new (.row news)) else none
    | .sl id o len cap => match S.get id with
      | some (.row c) =>
        if Nat.ble (o + cap * es) (lenL c) && Nat.ble len cap then
          if Nat.ble (len + m) cap then some (.sl id o (len + m) cap, S.set id (.row (setRange c (o + len * es) news)))
          else if Nat.ble ((len + m) * bytes) maxBytes && Nat.ble (len + m) maxLenN then
            some (.op S.next 0 (len + m) (len + m) es, S.new (.row (appL (takeL (len * es) (dropL o c)) news)))
          else none
        else none
      | some (.ro c) =>
        if Nat.ble (o + cap * es) (lenL c) && Nat.ble len cap then
          if Nat.ble (len + m) cap then (if Nat.beq m 0 then some (.sl id o len cap, S) else none)
          else if Nat.ble ((len + m) * bytes) maxBytes && Nat.ble (len + m) maxLenN then
            some (.op S.next 0 (len + m) (len + m) es, S.new (.row (appL (takeL (len * es) (dropL o c)) news)))
          else none
        else none
      | _ => none
    | .op id o len cmin es' => match S.get id with
      | some (.row c) =>
        if Nat.beq es' es && Nat.ble (o + cmin * es) (lenL c) && Nat.ble len cmin then
          if Nat.ble (len + m) cmin then some (.op id o (len + m) cmin es, S.set id (.row (setRange c (o + len * es) news)))
          else if Nat.ble ((len + m) * bytes) maxBytes && Nat.ble (len + m) maxLenN then
            some (.op S.next 0 (len + m) (len + m) es, (S.kill id).new (.row (appL (takeL (len * es) (dropL o c)) news)))
          else none
        else none
      | _ => none
    | _ => none
def eCopy (es : Nat) (d s : AV) (S : AH) : Option (AV × AH) := match elems S es s with
  | none => none
  | some (m, news) => match d with
    | .sc (.slice none 0 0) => some (.sc (.int .i64 0), S)
    | .sl id o len _ | .op id o len _ _ => match S.get id with
      | some (.row c) =>
        if Nat.ble (o + len * es) (lenL c) then some (.sc (.int .i64 (Nat.min m len)), S.set id (.row (setRange c o (takeL (Nat.min m len * es) news)))) else none
      | _ => none
    | _ => none
def eClear (es : Nat) (zero : List AV) (x : AV) (S : AH) : Option (AV × AH) := match x with
  | .sc (.slice none 0 0) | .sc (.map none) => some (uv, S)
  | .map id => match S.get id with
    | some (.map _) => some (uv, S.set id (.map []))
    | _ => none
  | .sl id o len _ | .op id o len _ _ => match S.get id with
    | some (.row c) => if Nat.ble (o + len * es) (lenL c) && Nat.beq (lenL zero) es then some (uv, S.set id (.row (setRange c o (repZero zero len)))) else none
    | _ => if Nat.beq len 0 then some (uv, S) else none
  | _ => none
def eMapset (P : Program) (kt : TypeId) (m k v : AV) (S : AH) : Option (AV × AH) := match toV k with
  | none => none
  | some k => match m with
    | .map id => match S.get id with
      | some (.map es) =>
        if keyOk P kt false k then
          match findE P kt k es 0 with
          | some (some (i, _)) => match es[i]? with
            | some (k', _) => if Instr.sameBits 10000 k' k then some (uv, S.set id (.map (es.set i (k, v)))) else none
            | none => none
          | some none => some (uv, S.set id (.map (es ++ [(k, v)])))
          | none => none
        else none
      | _ => none
    | _ => none
def eMapdel (P : Program) (kt : TypeId) (m k : AV) (S : AH) : Option (AV × AH) := match toV k with
  | none => none
  | some k => match m with
    | .sc (.map none) => if keyOk P kt true k then some (uv, S) else none
    | .map id => match S.get id with
      | some (.map es) =>
        if keyOk P kt es.isEmpty k then
          match findE P kt k es 0 with
          | some (some (i, _)) => some (uv, S.set id (.map (es.eraseIdx i)))
          | some none => some (uv, S)
          | none => none
        else none
      | _ => none
    | _ => none

/-- what memory does not matter to -/
def pur (r : Option AV) (S : AH) : Option (AV × AH) := match r with
  | some v => some (v, S)
  | none => none

def evalOp' (P : Program) (o : AOp) (S : AH) : Option (AV × AH) :=
  match o with
  | .mv x => some (x, S)
  | .pick c a b => pur (pPick c a b) S
  | .bin op x y => pur (abin op x y) S
  | .eq t n x y => pur (pEq P t n x y) S
  | .un op x => pur (pUn P op x) S
  | .conv k x => pur (pConv k x) S
  | .part o n a x => pur (pPart o n a x) S
  | .aidx l e a x i => pur (pAidx l e a x i) S
  | .sidx x i => pur (pSidx x i) S
  | .build z ps => pur (pBuild z ps) S
  | .faddr o x => pur (pFaddr o x) S
  | .paddr l e x i => pur (pPaddr l e x i) S
  | .saddr e x i => pur (pSaddr e x i) S
  | .aslice l e x a b c => pur (pAslice l e x a b c) S
  | .sslice e x a b c => pur (pSslice e x a b c) S
  | .strslice x a b => pur (pStrslice x a b) S
  | .extract i x => pur (pExtract i x) S
  | .nilchk x => pur (pNilchk x) S
  | .len g x => pur (pLen g x) S
  | .cap x => pur (pCap x) S
  | .minmax m xs => pur (pMinmax m xs) S
  | .tassert t i o z x => pur (pTassert P t i o z x) S
  | .load n a p => pur (rLoad S n a p) S
  | .lookup kt o z m k => pur (rLookup P S kt o z m k) S
  | .maplen m => pur (rMaplen S m) S
  | .alloc cs => nAlloc cs S
  | .box x => nBox x S
  | .bslice e n z ps => nBslice e n z ps S
  | .mkslice e b z l c => nMkslice e b z l c S
  | .mkmap => nMkmap S
  | .store n p v => eStore n p v S
  | .append e b s x => eAppend e b s x S
  | .copy e d s => eCopy e d s S
  | .clear e z x => eClear e z x S
  | .mapset kt m k v => eMapset P kt m k v S
  | .mapdel kt m k => eMapdel P kt m k S
noncomputable def evalOp (P : Program) (o : AOp) : AH → Option (AV × AH) :=
  AOp.rec (motive := fun _ => AH → Option (AV × AH))
    (fun x S => some (x, S))
    (fun c a b => pur (pPick c a b))
    (fun op x y => pur (abin op x y))
    (fun k x => pur (pConv k x))
    (fun o n a x => pur (pPart o n a x))
    (fun l e a x i => pur (pAidx l e a x i))
    (fun x i => pur (pSidx x i))
    (fun z ps => pur (pBuild z ps))
    (fun o x => pur (pFaddr o x))
    (fun l e x i => pur (pPaddr l e x i))
    (fun e x i => pur (pSaddr e x i))
    (fun l e x a b c => pur (pAslice l e x a b c))
    (fun e x a b c => pur (pSslice e x a b c))
    (fun x a b => pur (pStrslice x a b))
    (fun i x => pur (pExtract i x))
    (fun x => pur (pNilchk x))
    (fun g x => pur (pLen g x))
    (fun x => pur (pCap x))
    (fun m xs => pur (pMinmax m xs))
    (fun n a p S => pur (rLoad S n a p) S)
    (fun m S => pur (rMaplen S m) S)
    nAlloc nBox nBslice nMkslice nMkmap eStore eAppend eCopy eClear
    (fun t n x y => pur (pEq P t n x y))
    (fun op x => pur (pUn P op x))
    (fun t i o z x => pur (pTassert P t i o z x))
    (fun kt o z m k S => pur (rLookup P S kt o z m k) S)
    (eMapset P) (eMapdel P) o

mutual
def AV.beq : AV → AV → Bool
  | .sc (.int k a), .sc (.int k' b) => kindEq k k' && eqF a b
  | .sc (.bool a), .sc (.bool b) => a == b
  | .sc (.string a), .sc (.string b) => a.data.toList == b.data.toList
  | .sc (.pointer none), .sc (.pointer none) | .sc (.slice none 0 0), .sc (.slice none 0 0) | .sc (.map none), .sc (.map none)
  | .sc .nilFunc, .sc .nilFunc | .sc .nilIface, .sc .nilIface => true
  | .ptr i o, .ptr j p => Nat.beq i j && Nat.beq o p
  | .sl i o l c, .sl j p m d => Nat.beq i j && Nat.beq o p && Nat.beq l m && Nat.beq c d
  | .op i o l c e, .op j p m d f => Nat.beq i j && Nat.beq o p && Nat.beq l m && Nat.beq c d && Nat.beq e f
  | .map i, .map j => Nat.beq i j
  | .yd i, .yd j => Nat.beq i j
  | .fn (.func f) a b, .fn (.func g) c d => Nat.beq f g && beqs a c && beqs b d
  | .iface t v, .iface u w => Nat.beq t u && v.beq w
  | .agg a, .agg b => beqs a b
  | .tup a, .tup b => beqs a b
  | .tok i, .tok j => Nat.beq i j
  | _, _ => false
def beqs : List AV → List AV → Bool
  | [], [] => true
  | a :: r, b :: s => a.beq b && beqs r s
  | _, _ => false
end

def isNo' : AV → Bool
  | .no | .tok _ => true
  | _ => false
noncomputable def isNo : AV → Bool :=
  AV.rec (motive_1 := fun _ => Bool) (motive_2 := fun _ => Unit)
    (fun _ => false) (fun _ _ => false) (fun _ _ _ _ => false) (fun _ _ _ _ _ => false) (fun _ => false) (fun _ _ _ _ _ => false) (fun _ => false) (fun _ _ _ => false) (fun _ _ => false) (fun _ _ => false) true (fun _ => true) () (fun _ _ _ _ => ())
/-- is the guard met? -/
def gIs (g : AV) (b : Bool) : Option Bool :=
  match asBool g with
  | some true => some b
  | some false => some (not b)
  | none => match isNo g with
    | true => none
    | false => some false

abbrev Out := Option (Tag × List AV × AH)

def iter (body : List AV → AH → Out) : Nat → List AV → AH → Out
  | 0, _, _ => none
  | n + 1, vs, S => match body vs S with
    | some (.normal, vs', S') => iter body n vs' S'
    | r => r

section
variable (P : Program) (call : AV → List AV → AH → Option (AV × AH)) (fuel : Nat)
def thenK (r : Option (AV × AH)) (ih : AV → AH → Out) : Out :=
  match r with
  | some (v, S') => ih v S'
  | none => none
def runOp (o : AOp) (ih : AV → AH → Out) (S : AH) : Out := thenK (evalOp P o S) ih
def runGop (g : AV) (b : Bool) (o : AOp) (ih : AV → AH → Out) (S : AH) : Out :=
  match gIs g b with
  | some true => thenK (evalOp P o S) ih
  | some false => ih uv S
  | none => none
def runChk (o : AOp) (v : AV) (ih : AH → Out) (S : AH) : Out :=
  match evalRead P S o with
  | some v' => match v'.beq v with
    | true => ih S
    | false => none
  | none => none
def runGchk (g : AV) (b : Bool) (o : AOp) (v : AV) (ih : AH → Out) (S : AH) : Out :=
  match gIs g b with
  | some true => runChk P o v ih S
  | some false => ih S
  | none => none
def runIte (c : AV) (a b : AH → Out) (S : AH) : Out :=
  match asBool c with
  | some true => a S
  | some false => b S
  | none => none
def runGcall (g : AV) (b : Bool) (f : AV) (args : List AV) (ih : AV → AH → Out) (S : AH) : Out :=
  match gIs g b with
  | some true => thenK (call f args S) ih
  | some false => ih uv S
  | none => none
def runBind (m : AH → Out) (id : Option Nat) (k : List AV → AH → Out) (outs : List AV → List AV) (S : AH) : Out :=
  match m S with
  | some (.normal, vs, S') => k vs S'
  | some (.exit i, vs, S') => match id with
    | some j => match Nat.beq j i with
      | true => k vs S'
      | false => some (.exit i, outs vs, S')
    | none => some (.exit i, outs vs, S')
  | some (t, vs, S') => some (t, outs vs, S')
  | none => none
def runLoop (init : List AV) (body : List AV → AH → Out) (outs : List AV → List AV) (S : AH) : Out :=
  match iter body fuel init S with
  | some (t, vs, S') => some (t, outs vs, S')
  | none => none
def runRng (n : Nat) (f : AV) (body : List AV → AC) (k : AH → Out) (outs : List AV) (S : AH) : Out :=
  match f with
  | .yd _ => none
  | f => match call f [.yd S.next] (S.new (.loop .ready none n body)) with
    | some (_, S') => match S'.get S.next with
      | some (.loop .busy _ _ _) => none
      | some (.loop _ pend n b) =>
        match pend with
        | none => k (S'.set S.next (.loop .exhausted pend n b))
        | some t => some (t, outs, S'.set S.next (.loop .exhausted pend n b))
      | _ => none
    | none => none
def runFin (m : AH → Out) (k : List AV → AH → Out) (S : AH) : Out :=
  match m S with
  | some (.normal, vs, S') => k vs S'
  | some (.ret, vs, S') => k vs S'
  | _ => none
def runStart (l : AV) (ih : AH → Out) (S : AH) : Out :=
  match l with
  | .yd l => match S.get l with
    | some (.loop .ready pend n b) => ih (S.set l (.loop .busy pend n b))
    | _ => none
  | _ => none
/-- what is run: 'call' answers calls -/
noncomputable def run (x : AC) : AH → Out :=
  AC.rec (motive := fun _ => AH → Out)
    (fun t vs S => some (t, vs, S))
    (fun o _ ih S => runOp P o ih S)
    (fun g b o _ ih S => runGop P g b o ih S)
    (fun o v _ ih S => runChk P o v ih S)
    (fun g b o v _ ih S => runGchk P g b o v ih S)
    (fun c _ _ ia ib S => runIte c ia ib S)
    (fun f args _ ih S => thenK (call f args S) ih)
    (fun g b f args _ ih S => runGcall call g b f args ih S)
    (fun _ id _ outs im ik S => runBind im id ik outs S)
    (fun init _ outs ib S => runLoop fuel init ib outs S)
    (fun n f body _ outs _ ik S => runRng call n f body ik outs S)
    (fun _ _ im ik S => runFin im ik S)
    (fun l _ ih S => runStart l ih S)
    (fun _ => none)
    x
end

/-- a method of an interface's value: the function and the receiver (methods of the type itself) -/
def methodOf (P : Program) (t : TypeId) (v : AV) (name : String) : Option (FuncId × AV) :=
  match P.info? t with
  | some i => match i.methods.find? (·.name == name) with
    | some m => if m.path.isEmpty then
        match m.func, P.underlying t with
        | some (f, true), some (.pointer _) => some (f, v)
        | some (f, false), some (.pointer _) => none
        | some (f, false), some _ => some (f, v)
        | _, _ => none
      else none
    | none => none
  | none => none

abbrev Table := FuncId → Option (List AV → AC)

/-- one result, or a list of results -/
def oneOf : List AV → AV
  | [v] => v
  | vs => .tup vs

/-- answers that are known already: of what turns nothing that was there (v); functions that are known without a body of the table (x) -/
structure Known where
  v : FuncId → List AV → Option AV
  x : FuncId → Option (List AV → AH → Option (AV × AH))
instance : CoeFun Known (fun _ => FuncId → List AV → Option AV) := ⟨Known.v⟩

/-- a call: of a function, of a method by its name (the receiver comes first), of a loop's round -/
noncomputable def callT (P : Program) (tbl : Table) (kn : Known) : Nat → AV → List AV → AH → Option (AV × AH)
  | 0, _, _, _ => none
  | n + 1, f, args, S =>
    match f with
    | .fn (.func f) first cap =>
      match kn.v f (appL first (appL args cap)) with
      | some v => some (v, S)
      | none => match tbl f with
        | some b => match run P (callT P tbl kn n) n (b (appL first (appL args cap))) S with
          | some (.ret, vs, S') => some (oneOf vs, S')
          | _ => none
        | none => match kn.x f with
          | some g => g (appL first (appL args cap)) S
          | none => none
    | .fn (.method name) [] [] => match args with
      | .iface t v :: rest => match methodOf P t v name with
        | some (f, r) => callT P tbl kn n (.fn (.func f) [] []) (r :: rest) S
        | none => none
      | _ => none
    | .yd l => match S.get l with
      | some (.loop .ready _ m body) =>
        match Nat.beq (lenL args) m with
        | true => match run P (callT P tbl kn n) n (body (.yd l :: args)) S with
          | some (t, _, S') => match S'.get l with
            | some (.loop .busy _ m' body') =>
              match t with
              | .normal => some (.sc (.bool true), S'.set l (.loop .ready none m' body'))
              | t => some (.sc (.bool false), S'.set l (.loop .done (some t) m' body'))
            | _ => none
          | none => none
        | false => none
      | _ => none
    | _ => none

end
end Go.Abs
namespace Go.Abs
noncomputable section

/-! ### what code comes to: the frame is gone through ahead -/
abbrev Fr := T AV
def Fr.at (F : Fr) (t : Nat) : AV := (T.get F t).getD .no
def Fr.put (F : Fr) (d : Option Nat) (v : AV) : Fr := match d with
  | some d => T.set F d v
  | none => F
/-- slot t holds the i-th one, and so on -/
def Fr.puts (F : Fr) : List Nat → Nat → List AV → Fr
  | [], _, _ => F
  | t :: ts, i, vs => Fr.puts (T.set F t (nth vs i)) ts (i + 1) vs
def Fr.outs (F : Fr) (l : List Nat) : List AV := l.map F.at
def Fr.drop (F : Fr) : List Nat → Fr
  | [] => F
  | t :: ts => Fr.drop (T.set F t .no) ts

def Fr.ev (F : Fr) : Operand → AV
  | .tmp t => F.at t
  | .const v => (ofV 50 v).getD .no
  | .global _ => .no
  | .func f => .fn (.func f) [] []

def isAggT (P : Program) (t : TypeId) : Option Bool :=
  match P.underlying t with
  | some (.struct _) | some (.array _ _) => some true
  | some _ => some false
  | none => none
def sizeT (P : Program) (t : TypeId) : Option Nat := (P.info? t).map (·.size)
def bytesT (P : Program) (t : TypeId) : Option Nat := (P.info? t).map (·.bytes)
def zeroT (P : Program) (t : TypeId) : Option AV :=
  match P.info? t with
  | some i => match i.zero with
    | some v => ofV 50 v
    | none => none
  | none => none

/-- a type's zero, cell by cell -/
def zeroC (P : Program) (t : TypeId) : Option (List AV) :=
  match zeroT P t with
  | some z => if odd z then none else some z.cells
  | none => none

inductive Den where
  | val (v : AV)
  | op (o : AOp)
  | call (f : AV) (args : List AV)
  | bad

def Den.ofOpt : Option Den → Den
  | some d => d
  | none => .bad

def partsOf (F : Fr) (place : Nat → Option (Nat × Nat)) : List (Nat × Operand) → Option (List (Nat × Nat × AV))
  | [] => some []
  | (i, x) :: r => match place i, partsOf F place r with
    | some (off, size), some ps => some ((off, size, F.ev x) :: ps)
    | _, _ => none

def denOp (P : Program) (F : Fr) (o : Oper) : Den := Den.ofOpt <|
  match o.op with
  | .move x | .assign x => some (.val (F.ev x))
  | .pick c a b => some (.op (.pick (F.ev c) (F.ev a) (F.ev b)))
  | .alloc t => do return .op (.alloc (← zeroC P t))
  | .box _ x => some (.op (.box (F.ev x)))
  | .build t parts => do
    let z ← zeroC P t
    match ← P.underlying t with
    | .struct fields => do
      let places ← fields.toList.mapM fun f => (P.info? f.type).map fun i => (f.offset, i.size)
      return .op (.build z (← partsOf F (fun i => places[i]?) parts.toList))
    | .array _ e => do
      let s ← sizeT P e
      return .op (.build z (← partsOf F (fun i => some (i * s, s)) parts.toList))
    | _ => none
  | .buildSlice t len parts => do
    match ← P.underlying t with
    | .slice e => do
      let s ← sizeT P e
      let z ← zeroC P e
      if len * s > 16777216 then none else
      return .op (.bslice s len z (← partsOf F (fun i => some (i * s, s)) parts.toList))
    | _ => none
  | .load t a => do return .op (.load (← sizeT P t) (← isAggT P t) (F.ev a))
  | .store t a x => do return .op (.store (← sizeT P t) (F.ev a) (F.ev x))
  | .nilCheck x => some (.op (.nilchk (F.ev x)))
  | .binOp op t x y _ => do
    match op, ← P.underlying t with
    | .eql, .int _ | .eql, .string | .neq, .int _ | .neq, .string => some (.op (.bin op (F.ev x) (F.ev y)))
    | .eql, _ => some (.op (.eq t false (F.ev x) (F.ev y)))
    | .neq, _ => some (.op (.eq t true (F.ev x) (F.ev y)))
    | _, _ => some (.op (.bin op (F.ev x) (F.ev y)))
  | .unOp op _ x => some (.op (.un op (F.ev x)))
  | .convert src dst x => do
    match ← P.underlying src, ← P.underlying dst with
    | .int _, .int k => some (.op (.conv k (F.ev x)))
    | _, _ => none
  | .makeInterface t x => do
    match ← P.underlying t with
    | .interface _ => none
    | _ => some (.val (.iface t (F.ev x)))
  | .makeFunc (.func f) first cap => some (.val (.fn (.func f) (first.toList.map F.ev) (cap.toList.map F.ev)))
  | .makeMap t r => match r with
    | none => do
      match ← P.underlying t with
      | .map _ _ => some (.op .mkmap)
      | _ => none
    | some _ => none
  | .makeSlice t l c => do
    match ← P.underlying t with
    | .slice e => do return .op (.mkslice (← sizeT P e) (← bytesT P e) (← zeroC P e) (F.ev l) (F.ev c))
    | _ => none
  | .slice t x lo hi mx => do
    match ← P.underlying t with
    | .array n e => do return .op (.aslice n (← sizeT P e) (F.ev x) (lo.map F.ev) (hi.map F.ev) (mx.map F.ev))
    | .pointer arr => do
      match ← P.underlying arr with
      | .array n e => do return .op (.aslice n (← sizeT P e) (F.ev x) (lo.map F.ev) (hi.map F.ev) (mx.map F.ev))
      | _ => none
    | .slice e => do return .op (.sslice (← sizeT P e) (F.ev x) (lo.map F.ev) (hi.map F.ev) (mx.map F.ev))
    | .string => match mx with
      | none => some (.op (.strslice (F.ev x) (lo.map F.ev) (hi.map F.ev)))
      | some _ => none
    | _ => none
  | .fieldAddr s x f => do
    match ← P.underlying s with
    | .struct fields => do
      let fd ← fields[f]?
      let n ← sizeT P fd.type
      if n = 0 then none else return .op (.faddr fd.offset (F.ev x))
    | _ => none
  | .field t x f => do
    match ← P.underlying t with
    | .struct fields => do
      let fd ← fields[f]?
      return .op (.part fd.offset (← sizeT P fd.type) (← isAggT P fd.type) (F.ev x))
    | _ => none
  | .indexAddr t x i => do
    match ← P.underlying t with
    | .array n e => do return .op (.paddr n (← sizeT P e) (F.ev x) (F.ev i))
    | .slice e => do return .op (.saddr (← sizeT P e) (F.ev x) (F.ev i))
    | _ => none
  | .index t x i => do
    match ← P.underlying t with
    | .array n e => do return .op (.aidx n (← sizeT P e) (← isAggT P e) (F.ev x) (F.ev i))
    | .string => some (.op (.sidx (F.ev x) (F.ev i)))
    | _ => none
  | .lookup t m k ok => do
    match ← P.underlying t with
    | .map kt e => do
      let _ ← P.underlying kt
      return .op (.lookup kt ok (← zeroT P e) (F.ev m) (F.ev k))
    | _ => none
  | .mapUpdate t m k v | .insert t m k v => do
    match ← P.underlying t with
    | .map kt _ => do
      let _ ← P.underlying kt
      return .op (.mapset kt (F.ev m) (F.ev k) (F.ev v))
    | _ => none
  | .typeAssert x _ t ok => do
    match ← P.underlying t with
    | .interface _ => some (.op (.tassert t true ok (zeroT P t) (F.ev x)))
    | _ => some (.op (.tassert t false ok (zeroT P t) (F.ev x)))
  | .extract x i => some (.op (.extract i (F.ev x)))
  | .call c => match c.callee with
    | .value f => some (.call (F.ev f) (c.args.toList.map F.ev))
    | .invoke r m => some (.call (.fn (.method m) [] []) (F.ev r :: c.args.toList.map F.ev))
    | .builtin b => match b, c.args.toList, c.argTypes.toList with
      | .len, [x], [t] => do
        match ← P.underlying t with
        | .array n _ => some (.val (.sc (.int .i64 n)))
        | .pointer arr => do
          match ← P.underlying arr with
          | .array n _ => some (.val (.sc (.int .i64 n)))
          | _ => none
        | .slice _ => some (.op (.len false (F.ev x)))
        | .string => some (.op (.len true (F.ev x)))
        | .map _ _ => some (.op (.maplen (F.ev x)))
        | _ => none
      | .cap, [x], [t] => do
        match ← P.underlying t with
        | .slice _ => some (.op (.cap (F.ev x)))
        | _ => none
      | .append, [s, x], [t, u] => do
        match ← P.underlying t, ← P.underlying u with
        | .slice e, .slice _ => do
          let z ← zeroC P e
          let n ← sizeT P e
          let b ← bytesT P e
          if Nat.beq (lenL z) n then some (.op (.append n b (F.ev s) (F.ev x))) else none
        | .slice e, .string => do
          let z ← zeroC P e
          let n ← sizeT P e
          let b ← bytesT P e
          if Nat.beq (lenL z) n then some (.op (.append n b (F.ev s) (F.ev x))) else none
        | _, _ => none
      | .copy, [d, s], [t, _] => do
        match ← P.underlying t with
        | .slice e => do return .op (.copy (← sizeT P e) (F.ev d) (F.ev s))
        | _ => none
      | .clear, [x], [t] => do
        match ← P.underlying t with
        | .slice e => do return .op (.clear (← sizeT P e) (← zeroC P e) (F.ev x))
        | .map _ _ => some (.op (.clear 1 [] (F.ev x)))
        | _ => none
      | .delete, [m, k], [t, _] => do
        match ← P.underlying t with
        | .map kt _ => do
          let _ ← P.underlying kt
          return .op (.mapdel kt (F.ev m) (F.ev k))
        | _ => none
      | .max, xs, _ => some (.op (.minmax true (xs.map F.ev)))
      | .min, xs, _ => some (.op (.minmax false (xs.map F.ev)))
      | _, _, _ => none
  | _ => none

/-! ### regions: in which order -/
def isEff : Op → Bool
  | .store .. | .mapUpdate .. | .insert .. => true
  | .call c => match c.callee with
    | .builtin b => match b with
      | .append | .copy | .clear | .delete => true
      | _ => false
    | _ => true
  | _ => false
def isRead (P : Program) : Op → Bool
  | .load .. | .lookup .. => true
  | .call c => match c.callee with
    | .builtin .len => match (c.argTypes[0]?).bind P.underlying with
      | some (.map _ _) => true
      | _ => false
    | _ => false
  | _ => false

inductive Step where
  | exec (i : Nat)
  | chk (i : Nat)
  deriving Inhabited

/-- the effects in the order of the text -/
def effsOf (ops : Array Oper) : List Nat := (List.range ops.size).filter fun i => match ops[i]? with | some o => isEff o.op | none => false
def stageOf (b : Array Nat) (effs : List Nat) (i : Nat) : Nat := (effs.filter fun e => (b.getD i 0).testBit e).length
/-- an operation that is no effect; an effect, and the reads that are looked at again behind it -/
inductive PStep where
  | one (i : Nat)
  | eff (i : Nat) (cs : List Nat)
def flat : List PStep → List Step
  | [] => []
  | .one i :: r => .exec i :: flat r
  | .eff i cs :: r => .exec i :: (cs.map .chk ++ flat r)
def isReadAt (P : Program) (ops : Array Oper) (i : Nat) : Bool := match ops[i]? with | some o => isRead P o.op | none => false
def isEffAt (ops : Array Oper) (i : Nat) : Bool := match ops[i]? with | some o => isEff o.op | none => false
def planFrom (P : Program) (ops : Array Oper) (b : Array Nat) (effs : List Nat) : Nat → List Nat → List PStep
  | k, rest =>
    let now := (List.range ops.size).filter fun i => !effs.contains i && stageOf b effs i == k
    now.map .one ++
    match rest with
    | [] => []
    | e :: rest => .eff e ((List.range ops.size).filter fun i => isReadAt P ops i && Nat.ble (stageOf b effs i) k && !(b.getD e 0).testBit i) :: planFrom P ops b effs (k + 1) rest

/-! what makes an order good -/
/-- x's bits are y's -/
def subB (x y : Nat) : Bool := Nat.beq (Nat.land x y) x
/-- the slots that an operation looks at -/
def looks (ops : Array Oper) (o : Oper) : List Nat :=
  o.op.operands.toList.filterMap (fun | .tmp t => some t | _ => none) ++ match o.guard with
    | some (j, _) => ((ops[j]?).bind (·.dst)).toList
    | none => []
/-- each slot's writers and readers have their order -/
def tmpsOk (ops : Array Oper) (b : Array Nat) : Bool :=
  ops.toList.zipIdx.all fun (o, i) => match o.dst with
    | none => true
    | some d => ops.toList.zipIdx.all fun (o', j) => Nat.beq i j || !((o'.dst.toList ++ looks ops o').any (Nat.beq d)) || (b.getD (max i j) 0).testBit (min i j)
def befOk (ops : Array Oper) (b : Array Nat) : Bool := (List.range ops.size).all fun i => Nat.blt (b.getD i 0) (2 ^ i)
def okP (P : Program) (ops : Array Oper) (b : Array Nat) : List PStep → Nat → Nat → Bool
  | [], done, _ => (List.range ops.size).all fun i => done.testBit i
  | .one i :: r, done, em =>
    Nat.blt i ops.size && !done.testBit i && subB (b.getD i 0) done && subB em (b.getD i 0) && !isEffAt ops i && okP P ops b r (done ||| 2 ^ i) em
  | .eff i cs :: r, done, em =>
    Nat.blt i ops.size && !done.testBit i && subB (b.getD i 0) done && subB em (b.getD i 0) && isEffAt ops i &&
    ((List.range ops.size).all fun k => !isReadAt P ops k || !done.testBit k || (b.getD i 0).testBit k || cs.any (Nat.beq k)) && okP P ops b r (done ||| 2 ^ i) (em ||| 2 ^ i)
def plan (P : Program) (ops : Array Oper) (draw : Bool) : Option (List Step) :=
  if draw then
    let b := Region.before ops
    let effs := effsOf ops
    let p := planFrom P ops b effs 0 effs
    if P.follows .mixedOrders && okP P ops b p 0 0 && tmpsOk ops b && befOk ops b then some (flat p) else none
  else some ((List.range ops.size).map .exec)

abbrev Reads := List (Nat × Option (AV × Bool) × AOp × AV)
def findRead (i : Nat) : Reads → Option (Option (AV × Bool) × AOp × AV)
  | [] => none
  | (j, r) :: rest => if Nat.beq j i then some r else findRead i rest

def denSteps (P : Program) (ops : Array Oper) : List Step → Fr → Reads → (Fr → AC) → AC
  | [], F, _, K => K F
  | .chk i :: rest, F, rs, K => match findRead i rs with
    | some (none, o, v) => .chk o v (denSteps P ops rest F rs K)
    | some (some (g, b), o, v) => .gchk g b o v (denSteps P ops rest F rs K)
    | none => .fail
  | .exec i :: rest, F, rs, K => match ops[i]? with
    | none => denSteps P ops rest F rs K
    | some o => match o.guard with
      | none => match denOp P F o with
        | .val v => denSteps P ops rest (F.put o.dst v) rs K
        | .op a => .op a fun v => denSteps P ops rest (F.put o.dst v) ((i, none, a, v) :: rs) K
        | .call f args => .call f args fun v => denSteps P ops rest (F.put o.dst v) rs K
        | .bad => .fail
      | some (j, b) => match (ops[j]?).bind (·.dst) with
        | none => .fail
        | some t =>
          let g := F.at t
          match denOp P F o with
          | .val v => .gop g b (.mv v) fun v => denSteps P ops rest (F.put o.dst v) rs K
          | .op a => .gop g b a fun v => denSteps P ops rest (F.put o.dst v) ((i, some (g, b), a, v) :: rs) K
          | .call f args => .gcall g b f args fun v => denSteps P ops rest (F.put o.dst v) rs K
          | .bad => .fail

/-- the slots of 'vars' that a piece of code writes -/
def addNew (t : Nat) (l : List Nat) : List Nat := if l.contains t then l else t :: l
def asgOps (vars : List Nat) (ops : Array Oper) (acc : List Nat) : List Nat :=
  ops.toList.foldl (fun acc o => match o.dst with | some d => if vars.contains d then addNew d acc else acc | none => acc) acc
def asg (vars : List Nat) : Code → List Nat → List Nat
  | .region _ ops _, acc => asgOps vars ops acc
  | .seq a b, acc => asg vars b (asg vars a acc)
  | .cond _ a b, acc => asg vars b (asg vars a acc)
  | .block _ b, acc | .loop b, acc | .scope b, acc => asg vars b acc
  | _, acc => acc
/-- all slots that it writes -/
def wrt : Code → List Nat → List Nat
  | .region _ ops _, acc => ops.toList.foldl (fun acc o => match o.dst with | some d => d :: acc | none => acc) acc
  | .seq a b, acc => wrt b (wrt a acc)
  | .cond _ a b, acc => wrt b (wrt a acc)
  | .block _ b, acc | .loop b, acc | .scope b, acc => wrt b acc
  | _, acc => acc

/-- it never ends normally -/
def dead : Code → Bool
  | .ret | .exit _ | .goto _ => true
  | .seq a b => dead a || dead b
  | .cond _ a b => dead a && dead b
  | _ => false

/-- it ends normally -/
def straight : Code → Bool
  | .skip | .label _ | .region _ _ _ => true
  | .seq a b => straight a && straight b
  | _ => false

/-- behind a piece of code: the slots that are carried hold 'vs', what else it wrote is forgotten -/
def behind (F : Fr) (c : Code) (o : List Nat) (vs : List AV) : Fr := (F.drop (wrt c [])).puts o 0 vs

mutual
def den (P : Program) (vars : List Nat) (round : Bool) : Code → Fr → List Nat → (Fr → AC) → AC
  | .skip, F, _, K => K F
  | .label _, F, _, K => K F
  | .region _ ops draw, F, _, K => match plan P ops draw with
    | some p => denSteps P ops p F [] K
    | none => .fail
  | .seq a b, F, out, K => den P vars round a F out fun F1 => den P vars round b F1 out K
  | .cond c a b, F, out, K =>
    if dead a || dead b then .ite (F.ev c) (den P vars round a F out K) (den P vars round b F out K)
    else
      let o := asg vars (.cond c a b) []
      .bind (.ite (F.ev c) (den P vars round a F o fun F1 => .ret .normal (F1.outs o)) (den P vars round b F o fun F1 => .ret .normal (F1.outs o)))
        none (fun vs => K (behind F (.cond c a b) o vs)) (fun vs => (behind F (.cond c a b) o vs).outs out)
  | .block id c, F, out, K =>
    let o := asg vars c []
    .bind (den P vars round c F o fun F1 => .ret .normal (F1.outs o))
      (some id) (fun vs => K (behind F c o vs)) (fun vs => (behind F c o vs).outs out)
  | .loop c, F, out, _ =>
    let o := asg vars c []
    .loop (F.outs o) (fun vs => den P vars round c (behind F c o vs) o fun F1 => .ret .normal (F1.outs o))
      (fun vs => (behind F c o vs).outs out)
  | .rangeFunc f ps assign body, F, out, K =>
    if round || !(straight assign) then .fail else
    .rng ps.size (F.ev f) (fun vs => den P vars true assign (F.puts ps.toList 1 vs) [] fun F1 => .start (nth vs 0) (den P vars true body F1 [] fun _ => .ret .normal []))
      (K F) (F.outs out)
  | .exit id, F, out, _ => .ret (.exit id) (F.outs out)
  | .goto _, _, _, _ => .fail
  | .ret, F, out, _ => .ret .ret (F.outs out)
  | .scope c, F, out, K => den P vars round c F out K
  | .refuse _, _, _, _ => .fail
end

def loadRs (P : Program) : List ResultVar → Nat → List AV → List AV → AC
  | [], _, _, acc => .ret .ret acc
  | .tmp _ :: rs, i, vs, acc => loadRs P rs (i + 1) vs (acc ++ [nth vs i])
  | .cell _ t :: rs, i, vs, acc => match sizeT P t, isAggT P t with
    | some n, some g => .op (.load n g (nth vs i)) fun x => loadRs P rs (i + 1) vs (acc ++ [x])
    | _, _ => .fail

def ResultVar.slot : ResultVar → Nat
  | .tmp t => t
  | .cell a _ => a

/-- the call that a region defers at its end -/
def lastDefer (ops : Array Oper) : Option Call := match ops.back? with
  | some o => match o.guard, o.dst with
    | none, none => match o.op with
      | .defer c => some c
      | _ => none
    | _, _ => none
  | none => none
def deferAt : Code → Option (Array Oper × Call)
  | .region _ ops false => match lastDefer ops with
    | some c => some (ops, c)
    | none => none
  | _ => none
def hasDefer : Code → Bool
  | .seq a b => (deferAt a).isSome || hasDefer b
  | _ => false
/-- a function that defers nothing -/
def plainFn (P : Program) (g : FuncId) : Bool := match P.funcs[g]? with
  | some fn => match fn.body with
    | some c => !hasDefer c && Nat.ble fn.params.size 2
    | none => false
  | none => false

/-- every slot that is written lies within the frame -/
def fits (n : Nat) : Code → Bool
  | .region _ ops _ => ops.toList.all fun o => match o.dst with | some d => Nat.blt d n | none => true
  | .seq a b => fits n a && fits n b
  | .cond _ a b => fits n a && fits n b
  | .block _ b | .loop b | .scope b => fits n b
  | .rangeFunc _ ps a b => ps.toList.all (fun p => Nat.blt p n) && fits n a && fits n b
  | _ => true

/-- a body that defers one call, of a function that is known -/
def denD (P : Program) (vars : List Nat) (rs : List ResultVar) (out : List Nat) : Code → Fr → AC
  | .seq a b, F => match deferAt a with
    | some (ops, c) => denSteps P ops ((List.range (ops.size - 1)).map .exec) F [] fun F1 =>
      match c.callee with
      | .value f => match F1.ev f with
        | .fn (.func g) fa fc =>
          if plainFn P g then .fin (den P vars false b F1 out fun F => .ret .ret (F.outs out)) fun vs =>
            .call (.fn (.func g) fa fc) (c.args.toList.map F1.ev) fun _ => loadRs P rs 0 vs []
          else .fail
        | _ => .fail
      | _ => .fail
    | none => if straight a then den P vars false a F [] fun F1 => denD P vars rs out b F1 else .fail
  | _, _ => .fail

def isTmp : ResultVar → Bool
  | .tmp _ => true
  | _ => false
def denFn (P : Program) (fn : Func) (vars : List Nat) (args : List AV) : AC :=
  match fn.body with
  | none => .fail
  | some c =>
    if !(fits fn.ntmps c) then .fail else
    let out := fn.results.toList.map ResultVar.slot
    let F0 := Fr.puts .e (List.range (fn.params.size + fn.nfree)) 0 args
    if hasDefer c then denD P vars fn.results.toList out c F0
    else if fn.results.toList.all isTmp then den P vars false c F0 out fun F => .ret .ret (F.outs out)
    else .fin (den P vars false c F0 out fun F => .ret .ret (F.outs out)) fun vs => loadRs P fn.results.toList 0 vs []
end
end Go.Abs
namespace Go.Abs
noncomputable section
set_option linter.unusedVariables false

/-! ### the tree -/
theorem get_oneK (x : Option AO) : ∀ f k, k < f → ∀ j, getK (oneK x f k) j = if j = k then x else none := by
  intro f
  induction f with
  | zero => intro k h; omega
  | succ f ih =>
    intro k h j
    cases k with
    | zero => cases j with
      | zero => rfl
      | succ j =>
        show (Bool.rec (getK .e (Nat.div j 2)) (getK .e (Nat.div j 2)) (Nat.beq (Nat.mod j 2) 0) : Option AO) = _
        cases Nat.beq (Nat.mod j 2) 0 <;> simp <;> rfl
    | succ k =>
      have hk : k / 2 < f := by omega
      have ih' := ih (k / 2) hk
      show getK (Bool.rec (motive := fun _ => T AO) (.n .e none (oneK x f (Nat.div k 2))) (.n (oneK x f (Nat.div k 2)) none .e) (Nat.beq (Nat.mod k 2) 0)) j = _
      cases j with
      | zero => cases Nat.beq (Nat.mod k 2) 0 <;> simp <;> rfl
      | succ j =>
        have e1 : (Nat.beq (Nat.mod k 2) 0 = true) ↔ k % 2 = 0 := Nat.beq_eq ▸ Iff.rfl
        have e2 : (Nat.beq (Nat.mod j 2) 0 = true) ↔ j % 2 = 0 := Nat.beq_eq ▸ Iff.rfl
        cases hb : Nat.beq (Nat.mod k 2) 0 <;> cases hc : Nat.beq (Nat.mod j 2) 0
        · show (Bool.rec (getK (oneK x f (Nat.div k 2)) (Nat.div j 2)) (getK .e (Nat.div j 2)) (Nat.beq (Nat.mod j 2) 0) : Option AO) = _
          rw [hc]
          show getK (oneK x f (k / 2)) (j / 2) = _
          rw [ih']
          have : k % 2 ≠ 0 := fun h => by rw [e1.2 h] at hb; cases hb
          have : j % 2 ≠ 0 := fun h => by rw [e2.2 h] at hc; cases hc
          by_cases h2 : j / 2 = k / 2
          · rw [if_pos h2, if_pos (by omega)]
          · rw [if_neg h2, if_neg (by omega)]
        · show (Bool.rec (getK (oneK x f (Nat.div k 2)) (Nat.div j 2)) (getK .e (Nat.div j 2)) (Nat.beq (Nat.mod j 2) 0) : Option AO) = _
          rw [hc]
          have : k % 2 ≠ 0 := fun h => by rw [e1.2 h] at hb; cases hb
          have := e2.1 hc
          rw [if_neg (by omega)]; rfl
        · show (Bool.rec (getK .e (Nat.div j 2)) (getK (oneK x f (Nat.div k 2)) (Nat.div j 2)) (Nat.beq (Nat.mod j 2) 0) : Option AO) = _
          rw [hc]
          have := e1.1 hb
          have : j % 2 ≠ 0 := fun h => by rw [e2.2 h] at hc; cases hc
          rw [if_neg (by omega)]; rfl
        · show (Bool.rec (getK .e (Nat.div j 2)) (getK (oneK x f (Nat.div k 2)) (Nat.div j 2)) (Nat.beq (Nat.mod j 2) 0) : Option AO) = _
          rw [hc]
          show getK (oneK x f (k / 2)) (j / 2) = _
          rw [ih']
          have := e1.1 hb
          have := e2.1 hc
          by_cases h2 : j / 2 = k / 2
          · rw [if_pos h2, if_pos (by omega)]
          · rw [if_neg h2, if_neg (by omega)]

theorem getK_e (j : Nat) : getK .e j = none := rfl
theorem getK_zero (l : T AO) (v : Option AO) (r : T AO) : getK (.n l v r) 0 = v := rfl
theorem getK_succ (l : T AO) (v : Option AO) (r : T AO) (j : Nat) : getK (.n l v r) (j + 1) = if j % 2 = 0 then getK l (j / 2) else getK r (j / 2) := by
  show (Bool.rec (getK r (Nat.div j 2)) (getK l (Nat.div j 2)) (Nat.beq (Nat.mod j 2) 0) : Option AO) = _
  have e : (Nat.beq (Nat.mod j 2) 0 = true) ↔ j % 2 = 0 := Nat.beq_eq ▸ Iff.rfl
  cases hc : Nat.beq (Nat.mod j 2) 0
  · rw [if_neg (fun h => by rw [e.2 h] at hc; cases hc)]; rfl
  · rw [if_pos (e.1 hc)]; rfl

theorem get_putK (x : Option AO) : ∀ (t : T AO) (k j : Nat), getK (putK x t k) j = if j = k then x else getK t j := by
  intro t
  induction t with
  | e => intro k j; exact get_oneK x (k + 1) k (by omega) j
  | n l v r il ir =>
    intro k j
    cases k with
    | zero =>
      show getK (.n l x r) j = _
      cases j with
      | zero => rfl
      | succ j => rw [getK_succ, getK_succ, if_neg (by omega : ¬ j + 1 = 0)]
    | succ k =>
      show getK (Bool.rec (motive := fun _ => T AO) (.n l v (putK x r (Nat.div k 2))) (.n (putK x l (Nat.div k 2)) v r) (Nat.beq (Nat.mod k 2) 0)) j = _
      have e : (Nat.beq (Nat.mod k 2) 0 = true) ↔ k % 2 = 0 := Nat.beq_eq ▸ Iff.rfl
      cases hc : Nat.beq (Nat.mod k 2) 0
      · have hk : k % 2 ≠ 0 := fun h => by rw [e.2 h] at hc; cases hc
        show getK (.n l v (putK x r (k / 2))) j = _
        cases j with
        | zero => rfl
        | succ j =>
          rw [getK_succ, getK_succ]
          by_cases hj : j % 2 = 0
          · rw [if_pos hj, if_pos hj, if_neg (by omega)]
          · rw [if_neg hj, if_neg hj, ir]
            by_cases h2 : j / 2 = k / 2
            · rw [if_pos h2, if_pos (by omega)]
            · rw [if_neg h2, if_neg (by omega)]
      · have hk := e.1 hc
        show getK (.n (putK x l (k / 2)) v r) j = _
        cases j with
        | zero => rfl
        | succ j =>
          rw [getK_succ, getK_succ]
          by_cases hj : j % 2 = 0
          · rw [if_pos hj, if_pos hj, il]
            by_cases h2 : j / 2 = k / 2
            · rw [if_pos h2, if_pos (by omega)]
            · rw [if_neg h2, if_neg (by omega)]
          · rw [if_neg hj, if_neg hj, if_neg (by omega)]

theorem AH.get_set (S : AH) (i j : Nat) (o : AO) : (S.set i o).get j = if j = i then some o else S.get j := get_putK _ _ _ _
theorem AH.get_kill (S : AH) (i j : Nat) : (S.kill i).get j = if j = i then none else S.get j := get_putK _ _ _ _
theorem AH.get_new (S : AH) (j : Nat) (o : AO) : (S.new o).get j = if j = S.next then some o else S.get j := get_putK _ _ _ _
@[simp] theorem AH.next_set (S : AH) (i : Nat) (o : AO) : (S.set i o).next = S.next := rfl
@[simp] theorem AH.next_kill (S : AH) (i : Nat) : (S.kill i).next = S.next := rfl
@[simp] theorem AH.next_new (S : AH) (o : AO) : (S.new o).next = S.next + 1 := rfl

/-! ### the frame's tree -/
namespace T
variable {α : Type}
theorem get_setF : ∀ (f : Nat) (t : T α) (k : Nat) (x : Option α), k < f → ∀ j, (setF f t k x).get j = if j = k then x else t.get j := by
  intro f
  induction f with
  | zero => intro t k x h; omega
  | succ f ih =>
    intro t k x h j
    have eb : ∀ m : Nat, (Nat.beq (Nat.mod m 2) 0 = true) ↔ m % 2 = 0 := fun m => Nat.beq_eq ▸ Iff.rfl
    cases t with
    | e =>
      cases k with
      | zero => cases j with
        | zero => rfl
        | succ j => simp only [setF, get]; split <;> simp
      | succ k =>
        have hk : k / 2 < f := by omega
        have ih' := ih .e (k / 2) x hk
        simp only [setF]
        by_cases hp : k % 2 = 0
        · rw [if_pos ((eb k).2 hp)]
          cases j with
          | zero => simp [get]
          | succ j =>
            simp only [get]
            by_cases hq : j % 2 = 0
            · rw [if_pos ((eb j).2 hq)]
              show (setF f T.e (k / 2) x).get (j / 2) = _
              rw [ih']
              by_cases h2 : j / 2 = k / 2
              · rw [if_pos h2, if_pos (by omega)]
              · rw [if_neg h2, if_neg (by omega)]; rfl
            · rw [if_neg (fun h => hq ((eb j).1 h)), if_neg (by omega)]
        · rw [if_neg (fun h => hp ((eb k).1 h))]
          cases j with
          | zero => simp [get]
          | succ j =>
            simp only [get]
            by_cases hq : j % 2 = 0
            · rw [if_pos ((eb j).2 hq), if_neg (by omega)]
            · rw [if_neg (fun h => hq ((eb j).1 h))]
              show (setF f T.e (k / 2) x).get (j / 2) = _
              rw [ih']
              by_cases h2 : j / 2 = k / 2
              · rw [if_pos h2, if_pos (by omega)]
              · rw [if_neg h2, if_neg (by omega)]; rfl
    | n l v r =>
      cases k with
      | zero => cases j with
        | zero => rfl
        | succ j => simp only [setF, get]; simp
      | succ k =>
        have hk : k / 2 < f := by omega
        simp only [setF]
        by_cases hp : k % 2 = 0
        · rw [if_pos ((eb k).2 hp)]
          cases j with
          | zero => simp [get]
          | succ j =>
            simp only [get]
            by_cases hq : j % 2 = 0
            · rw [if_pos ((eb j).2 hq), if_pos ((eb j).2 hq)]
              show (setF f l (k / 2) x).get (j / 2) = _
              rw [ih l (k / 2) x hk]
              by_cases h2 : j / 2 = k / 2
              · rw [if_pos h2, if_pos (by omega)]
              · rw [if_neg h2, if_neg (by omega)]; rfl
            · rw [if_neg (fun h => hq ((eb j).1 h)), if_neg (fun h => hq ((eb j).1 h)), if_neg (by omega)]
        · rw [if_neg (fun h => hp ((eb k).1 h))]
          cases j with
          | zero => simp [get]
          | succ j =>
            simp only [get]
            by_cases hq : j % 2 = 0
            · rw [if_pos ((eb j).2 hq), if_pos ((eb j).2 hq), if_neg (by omega)]
            · rw [if_neg (fun h => hq ((eb j).1 h)), if_neg (fun h => hq ((eb j).1 h))]
              show (setF f r (k / 2) x).get (j / 2) = _
              rw [ih r (k / 2) x hk]
              by_cases h2 : j / 2 = k / 2
              · rw [if_pos h2, if_pos (by omega)]
              · rw [if_neg h2, if_neg (by omega)]; rfl
theorem get_set (t : T α) (k : Nat) (x : α) (j : Nat) : (t.set k x).get j = if j = k then some x else t.get j := get_setF (k + 1) t k (some x) (by omega) j
end T

/-! ### lists by recursors -/
theorem nthO_eq : ∀ (l : List AV) (i : Nat), nthO l i = l[i]?
  | [], i => by simp; rfl
  | v :: r, 0 => rfl
  | v :: r, i + 1 => by show nthO r i = _; rw [nthO_eq r i]; simp
theorem dropL_eq : ∀ (n : Nat) (l : List AV), dropL n l = l.drop n
  | 0, l => rfl
  | n + 1, [] => rfl
  | n + 1, v :: r => by show dropL n r = _; rw [dropL_eq n r]; rfl
theorem takeL_eq : ∀ (n : Nat) (l : List AV), takeL n l = l.take n
  | 0, l => rfl
  | n + 1, [] => rfl
  | n + 1, v :: r => by show v :: takeL n r = _; rw [takeL_eq n r]; rfl
theorem lenL_eq : ∀ (l : List AV), lenL l = l.length
  | [] => rfl
  | v :: r => by show Nat.succ (lenL r) = _; rw [lenL_eq r]; rfl
theorem appL_eq : ∀ (a b : List AV), appL a b = a ++ b
  | [], b => rfl
  | v :: r, b => by show v :: appL r b = _; rw [appL_eq r b]; rfl
theorem setRange_eq (c : List AV) (off : Nat) (vs : List AV) : setRange c off vs = c.take off ++ (vs ++ c.drop (off + vs.length)) := by
  simp [setRange, appL_eq, takeL_eq, dropL_eq, lenL_eq]
theorem nth_eq : ∀ (l : List AV) (i : Nat), nth l i = (l[i]?).getD .no
  | [], i => by simp [nth]
  | v :: r, 0 => by simp [nth]
  | v :: r, i + 1 => by simp [nth, nth_eq r i]

/-! ### looks -/
theorem asInt_some {x : AV} {k : IntKind} {n : Int} (h : asInt x = some (k, n)) : x = .sc (.int k n) := by
  cases x <;> first | (cases h; done) | skip
  rename_i v
  cases v <;> first | (cases h; done) | (cases h; rfl)
@[simp] theorem asInt_int (k : IntKind) (n : Int) : asInt (.sc (.int k n)) = some (k, n) := rfl
theorem asBool_some {x : AV} {b : Bool} (h : asBool x = some b) : x = .sc (.bool b) := by
  cases x <;> first | (cases h; done) | skip
  rename_i v
  cases v <;> first | (cases h; done) | (cases h; rfl)
@[simp] theorem asBool_bool (b : Bool) : asBool (.sc (.bool b)) = some b := rfl
theorem asPtr_some {x : AV} {i o : Nat} (h : asPtr x = some (i, o)) : x = .ptr i o := by
  cases x <;> first | (cases h; done) | (cases h; rfl)
@[simp] theorem asPtr_ptr (i o : Nat) : asPtr (.ptr i o) = some (i, o) := rfl
theorem asAgg_some {x : AV} {l : List AV} (h : asAgg x = some l) : x = .agg l := by
  cases x <;> first | (cases h; done) | (cases h; rfl)
@[simp] theorem asAgg_agg (l : List AV) : asAgg (.agg l) = some l := rfl
theorem asTup_some {x : AV} {l : List AV} (h : asTup x = some l) : x = .tup l := by
  cases x <;> first | (cases h; done) | (cases h; rfl)
@[simp] theorem asTup_tup (l : List AV) : asTup (.tup l) = some l := rfl
theorem cells_eq (x : AV) : x.cells = match x with | .agg cs => cs | v => [v] := by cases x <;> rfl
theorem odd_eq (x : AV) : odd x = match x with | .no | .tup _ => true | _ => false := by cases x <;> rfl
theorem asRow_some {o : AO} {l : List AV} (h : asRow o = some l) : o = .row l := by
  cases o <;> first | (cases h; done) | (cases h; rfl)
theorem asCells_some {o : AO} {l : List AV} (h : asCells o = some l) : o = .row l ∨ o = .ro l := by
  cases o <;> first | (cases h; done) | (cases h; first | exact .inl rfl | exact .inr rfl)

theorem kindEq_iff (j k : IntKind) : kindEq j k = true ↔ j = k := by
  cases j <;> cases k <;> decide
theorem kindEq_true {j k : IntKind} (h : kindEq j k = true) : j = k := (kindEq_iff j k).1 h

theorem ltF_eq (a b : Int) : ltF a b = decide (a < b) := by
  have h : ∀ m n : Nat, Nat.ble (Nat.succ m) n = decide (m < n) := fun m n => by
    rw [Bool.eq_iff_iff, Nat.ble_eq, decide_eq_true_iff]; exact Iff.rfl
  cases a with
  | ofNat a => cases b with
    | ofNat b => show Nat.ble (Nat.succ a) b = _; rw [h, Bool.eq_iff_iff]; simp
    | negSucc b => show false = _; symm; rw [decide_eq_false_iff_not]; simp only [Int.negSucc_eq, Int.ofNat_eq_natCast]; omega
  | negSucc a => cases b with
    | ofNat b => show true = _; symm; rw [decide_eq_true_iff]; simp only [Int.negSucc_eq, Int.ofNat_eq_natCast]; omega
    | negSucc b => show Nat.ble (Nat.succ b) a = _; rw [h, Bool.eq_iff_iff, decide_eq_true_iff, decide_eq_true_iff]; simp only [Int.negSucc_eq]; omega
theorem eqF_eq (a b : Int) : eqF a b = (a == b) := by
  have h : ∀ m n : Nat, Nat.beq m n = decide (m = n) := fun m n => by
    rw [Bool.eq_iff_iff, Nat.beq_eq, decide_eq_true_iff]
  cases a with
  | ofNat a => cases b with
    | ofNat b => show Nat.beq a b = _; rw [h, Bool.eq_iff_iff]; simp; omega
    | negSucc b => show false = _; symm; rw [beq_eq_false_iff_ne]; simp
  | negSucc a => cases b with
    | ofNat b => show false = _; symm; rw [beq_eq_false_iff_ne]; simp
    | negSucc b => show Nat.beq a b = _; rw [h, Bool.eq_iff_iff]; simp

theorem wrap_id (k : IntKind) (a : Nat) (hle : a ≤ kmax k) : k.wrap (Int.ofNat a) = Int.ofNat a := by
  have hm : (Int.ofNat a) % (2 ^ k.bits : Int) = Int.ofNat a := by
    cases k <;> (simp only [IntKind.bits, Int.ofNat_eq_natCast]; refine Int.emod_eq_of_lt (by omega) ?_) <;> (have : a ≤ _ := hle; simp only [kmax] at this; omega)
  have hs : (k.signed && decide (Int.ofNat a ≥ (2 ^ (k.bits - 1) : Int))) = false := by
    clear hm
    cases k <;> first | rfl | (show decide _ = false; refine decide_eq_false ?_; have : a ≤ _ := hle; simp only [kmax] at this; simp only [IntKind.bits, Int.ofNat_eq_natCast]; omega)
  unfold IntKind.wrap
  simp only [hm, hs]
  simp
theorem wrapF_eq (k : IntKind) (n : Int) : wrapF k n = k.wrap n := by
  cases n with
  | negSucc a => rfl
  | ofNat a =>
    simp only [wrapF]
    cases h : Nat.ble a (kmax k) with
    | false => rfl
    | true => exact (wrap_id k a (Nat.le_of_ble_eq_true h)).symm

theorem nat?_some {n : Int} {a : Nat} (h : nat? n = some a) : n = a := by cases n <;> simp [nat?] at h; simp [h]
theorem idx?_some {i : AV} {n a : Nat} (h : idx? i n = some a) : ∃ k, i = .sc (.int k (a : Int)) ∧ a < n := by
  unfold idx? at h
  cases hi : asInt i with
  | none => simp [hi] at h
  | some kn =>
    obtain ⟨k, m⟩ := kn
    simp only [hi] at h
    cases hm : nat? m with
    | none => simp [hm] at h
    | some b =>
      simp only [hm, below] at h
      cases hb : Nat.ble (Nat.succ b) n with
      | false => simp [hb] at h
      | true =>
        simp only [hb, Option.some.injEq] at h
        subst h
        have := nat?_some hm
        subst this
        exact ⟨k, asInt_some hi, Nat.le_of_ble_eq_true hb⟩
theorem bnd?_some {i : AV} {n a : Nat} (h : bnd? i n = some a) : ∃ k, i = .sc (.int k (a : Int)) ∧ a ≤ n := by
  obtain ⟨k, e, h⟩ := idx?_some h
  exact ⟨k, e, Nat.le_of_lt_succ h⟩
end
end Go.Abs
namespace Go.Abs
noncomputable section
set_option linter.unusedSectionVars false
/-- things that are not looked at: one cell each -/
class Tok where
  val : Nat → Value
  one : ∀ i, (val i).oneCell' = true
instance (priority := low) Tok.none : Tok := ⟨fun _ => .bool true, fun _ => rfl⟩
variable [Tok]
set_option linter.unusedVariables false

/-- where an abstract block lies: the block, the offset of its first cell, and where what it may use ends -/
abbrev Ren := Nat → Option (Nat × Nat × Nat)
def Ren.le (ρ ρ' : Ren) : Prop := ∀ id x, ρ id = some x → ρ' id = some x
theorem Ren.le_refl (ρ : Ren) : ρ.le ρ := fun _ _ h => h
theorem Ren.le_trans {a b c : Ren} (h : a.le b) (k : b.le c) : a.le c := fun _ _ x => k _ _ (h _ _ x)
def Ren.put (ρ : Ren) (i : Nat) (x : Nat × Nat × Nat) : Ren := fun j => if j = i then some x else ρ j
theorem Ren.le_put {ρ : Ren} {i : Nat} {x : Nat × Nat × Nat} (h : ρ i = none) : ρ.le (ρ.put i x) := by
  intro j y hy
  unfold Ren.put
  split
  · next e => subst e; rw [h] at hy; cases hy
  · exact hy
@[simp] theorem Ren.put_same (ρ : Ren) (i : Nat) (x : Nat × Nat × Nat) : ρ.put i x i = some x := by simp [Ren.put]
theorem Ren.put_other (ρ : Ren) {i j : Nat} (x : Nat × Nat × Nat) (h : j ≠ i) : ρ.put i x j = ρ j := by simp [Ren.put, h]

def isFunc : Fn → Bool
  | .func _ | .method _ => true
  | _ => false

mutual
/-- an abstract value and a value -/
inductive V (ρ : Ren) : AV → Value → Prop
  | sc {v : Value} (h : scalar v = true) : V ρ (.sc v) v
  | ptr {id b o l off : Nat} (h : ρ id = some (b, o, l)) : V ρ (.ptr id off) (.pointer (some ⟨b, o + off, none⟩))
  | sl {id b o l off len cap : Nat} (h : ρ id = some (b, o, l)) : V ρ (.sl id off len cap) (.slice (some ⟨b, o + off, none⟩) len cap)
  | op {id b o l off len cmin cap es : Nat} (h : ρ id = some (b, o, l)) (h0 : len ≤ cmin) (h1 : cmin ≤ cap) (h2 : o + off + cap * es ≤ l) :
      V ρ (.op id off len cmin es) (.slice (some ⟨b, o + off, none⟩) len cap)
  | opE {id b o l off x es : Nat} (h : ρ id = some (b, o, l)) : V ρ (.op id off 0 0 es) (.slice (some ⟨b, x, none⟩) 0 0)
  | map {id b o l : Nat} (h : ρ id = some (b, o, l)) : V ρ (.map id) (.map (some b))
  | fn {f : Fn} {a c : List AV} {a' c' : List Value} (hf : isFunc f = true) (h1 : VL ρ a a') (h2 : VL ρ c c') : V ρ (.fn f a c) (.func f a'.toArray c'.toArray)
  | yd {id b o l : Nat} (h : ρ id = some (b, o, l)) : V ρ (.yd id) (.func (.yield b) #[] #[])
  | iface {t : TypeId} {v : AV} {x : Value} (h : V ρ v x) : V ρ (.iface t v) (.iface t x)
  | agg {cs : List AV} {xs : List Value} (h : VL ρ cs xs) (h1 : ∀ x ∈ xs, x.oneCell' = true) : V ρ (.agg cs) (.agg xs.toArray)
  | tup {cs : List AV} {xs : List Value} (h : VL ρ cs xs) : V ρ (.tup cs) (.tuple xs.toArray)
  | no {x : Value} : V ρ .no x
  | tok {i : Nat} : V ρ (.tok i) (Tok.val i)
inductive VL (ρ : Ren) : List AV → List Value → Prop
  | nil : VL ρ [] []
  | cons {v : AV} {x : Value} {vs : List AV} {xs : List Value} (h : V ρ v x) (r : VL ρ vs xs) : VL ρ (v :: vs) (x :: xs)
end

mutual
theorem V.mono {ρ ρ' : Ren} (hl : ρ.le ρ') : ∀ {v : AV} {x : Value}, V ρ v x → V ρ' v x
  | _, _, .sc h => .sc h
  | _, _, .ptr h => .ptr (hl _ _ h)
  | _, _, .sl h => .sl (hl _ _ h)
  | _, _, .op h h0 h1 h2 => .op (hl _ _ h) h0 h1 h2
  | _, _, .opE h => .opE (hl _ _ h)
  | _, _, .map h => .map (hl _ _ h)
  | _, _, .fn hf h1 h2 => .fn hf (VL.mono hl h1) (VL.mono hl h2)
  | _, _, .yd h => .yd (hl _ _ h)
  | _, _, .iface h => .iface (V.mono hl h)
  | _, _, .agg h h1 => .agg (VL.mono hl h) h1
  | _, _, .tup h => .tup (VL.mono hl h)
  | _, _, .no => .no
  | _, _, .tok => .tok
theorem VL.mono {ρ ρ' : Ren} (hl : ρ.le ρ') : ∀ {v : List AV} {x : List Value}, VL ρ v x → VL ρ' v x
  | _, _, .nil => .nil
  | _, _, .cons h r => .cons (V.mono hl h) (VL.mono hl r)
end

theorem VL.length {ρ : Ren} : ∀ {a : List AV} {b : List Value}, VL ρ a b → a.length = b.length
  | _, _, .nil => rfl
  | _, _, .cons _ r => by simp [VL.length r]
theorem VL.get {ρ : Ren} : ∀ {a : List AV} {b : List Value}, VL ρ a b → ∀ {i : Nat} {v : AV}, a[i]? = some v → ∃ x, b[i]? = some x ∧ V ρ v x
  | _, _, .nil, i, v, h => by simp at h
  | _, _, .cons h r, 0, v, e => by simp at e; subst e; exact ⟨_, rfl, h⟩
  | _, _, .cons h r, i + 1, v, e => by simp at e; obtain ⟨x, e1, e2⟩ := VL.get r e; exact ⟨x, by simpa using e1, e2⟩
theorem VL.of_get {ρ : Ren} : ∀ {a : List AV} {b : List Value}, a.length = b.length → (∀ (i : Nat) (v : AV) (x : Value), a[i]? = some v → b[i]? = some x → V ρ v x) → VL ρ a b
  | [], [], _, _ => .nil
  | [], _ :: _, h, _ => by simp at h
  | _ :: _, [], h, _ => by simp at h
  | v :: a, x :: b, h, g => .cons (g 0 v x rfl rfl) (VL.of_get (by simpa using h) fun i v x h1 h2 => g (i + 1) v x (by simpa using h1) (by simpa using h2))
theorem VL.append {ρ : Ren} : ∀ {a : List AV} {b : List Value} {c : List AV} {d : List Value}, VL ρ a b → VL ρ c d → VL ρ (a ++ c) (b ++ d)
  | _, _, _, _, .nil, k => k
  | _, _, _, _, .cons h r, k => .cons h (VL.append r k)
theorem VL.take {ρ : Ren} : ∀ (n : Nat) {a : List AV} {b : List Value}, VL ρ a b → VL ρ (a.take n) (b.take n)
  | 0, _, _, _ => by simpa using VL.nil
  | n + 1, _, _, .nil => .nil
  | n + 1, _, _, .cons h r => .cons h (VL.take n r)
theorem VL.drop {ρ : Ren} : ∀ (n : Nat) {a : List AV} {b : List Value}, VL ρ a b → VL ρ (a.drop n) (b.drop n)
  | 0, _, _, h => h
  | n + 1, _, _, .nil => .nil
  | n + 1, _, _, .cons h r => VL.drop n r
theorem VL.nth {ρ : Ren} {a : List AV} {b : List Value} (h : VL ρ a b) (i : Nat) (d : Value) : V ρ (nth a i) (b.getD i d) := by
  rw [nth_eq]
  cases e : a[i]? with
  | none => exact .no
  | some v => obtain ⟨x, e1, e2⟩ := h.get e; simpa [List.getD, e1] using e2

theorem V.int_inv {ρ : Ren} {k : IntKind} {n : Int} {x : Value} (h : V ρ (.sc (.int k n)) x) : x = .int k n := by cases h; rfl
theorem V.bool_inv {ρ : Ren} {b : Bool} {x : Value} (h : V ρ (.sc (.bool b)) x) : x = .bool b := by cases h; rfl
theorem V.sc_inv {ρ : Ren} {v x : Value} (h : V ρ (.sc v) x) : x = v ∧ scalar v = true := by cases h with | sc h => exact ⟨rfl, h⟩
theorem V.ptr_inv {ρ : Ren} {i off : Nat} {x : Value} (h : V ρ (.ptr i off) x) : ∃ b o l, ρ i = some (b, o, l) ∧ x = .pointer (some ⟨b, o + off, none⟩) := by
  cases h with | ptr h => exact ⟨_, _, _, h, rfl⟩
theorem V.agg_inv {ρ : Ren} {cs : List AV} {x : Value} (h : V ρ (.agg cs) x) : ∃ xs : List Value, x = .agg xs.toArray ∧ VL ρ cs xs ∧ ∀ x ∈ xs, x.oneCell' = true := by
  cases h with | agg h h1 => exact ⟨_, rfl, h, h1⟩
theorem V.tup_inv {ρ : Ren} {cs : List AV} {x : Value} (h : V ρ (.tup cs) x) : ∃ xs : List Value, x = .tuple xs.toArray ∧ VL ρ cs xs := by
  cases h with | tup h => exact ⟨_, rfl, h⟩
theorem V.bool (ρ : Ren) (b : Bool) : V ρ (.sc (.bool b)) (.bool b) := .sc rfl
theorem V.int (ρ : Ren) (k : IntKind) (n : Int) : V ρ (.sc (.int k n)) (.int k n) := .sc rfl
theorem V.uv (ρ : Ren) : V ρ uv undef := .tup .nil

/-- what is no struct, no list and known, is one cell -/
theorem V.one {ρ : Ren} {v : AV} {x : Value} (h : V ρ v x) (ho : odd v = false) (ha : ∀ cs, v ≠ .agg cs) : x.oneCell' = true := by
  cases h with
  | sc h => cases x <;> first | rfl | (simp [scalar] at h)
  | agg h h1 => exact absurd rfl (ha _)
  | tup h => rw [odd_eq] at ho; cases ho
  | no => rw [odd_eq] at ho; cases ho
  | tok => exact Tok.one _
  | _ => rfl

/-- the cells of a value -/
theorem V.cellsL {ρ : Ren} {v : AV} {x : Value} (h : V ρ v x) (ho : odd v = false) : VL ρ v.cells x.cells.toList ∧ ∀ y ∈ x.cells.toList, y.oneCell' = true := by
  rw [cells_eq]
  cases h with
  | agg h h1 => exact ⟨by simpa [Value.cells] using h, by simpa [Value.cells] using h1⟩
  | tup h => rw [odd_eq] at ho; cases ho
  | no => rw [odd_eq] at ho; cases ho
  | sc h =>
    have h1 := V.one (ρ := ρ) (.sc h) rfl (by simp)
    have hc : x.cells = #[x] := by cases x <;> first | rfl | (simp [scalar] at h)
    rw [hc]
    exact ⟨.cons (.sc h) .nil, by simpa using h1⟩
  | ptr h => exact ⟨.cons (.ptr h) .nil, by simp [Value.cells, Value.oneCell']⟩
  | sl h => exact ⟨.cons (.sl h) .nil, by simp [Value.cells, Value.oneCell']⟩
  | op h z a b => exact ⟨.cons (.op h z a b) .nil, by simp [Value.cells, Value.oneCell']⟩
  | opE h => exact ⟨.cons (.opE h) .nil, by simp [Value.cells, Value.oneCell']⟩
  | map h => exact ⟨.cons (.map h) .nil, by simp [Value.cells, Value.oneCell']⟩
  | fn hf a b => exact ⟨.cons (.fn hf a b) .nil, by simp [Value.cells, Value.oneCell']⟩
  | yd h => exact ⟨.cons (.yd h) .nil, by simp [Value.cells, Value.oneCell']⟩
  | iface h => exact ⟨.cons (.iface h) .nil, by simp [Value.cells, Value.oneCell']⟩
  | @tok i =>
    have h1 := Tok.one i
    have h2 : V ρ (.tok i) (Tok.val i) := .tok
    generalize Tok.val i = x at h1 h2 ⊢
    have hc : x.cells = #[x] := by cases x <;> first | rfl | (simp [Value.oneCell'] at h1)
    rw [hc]
    exact ⟨.cons h2 .nil, by simpa using h1⟩

/-! ### constants -/
theorem scalar_one {v : Value} (h : scalar v = true) : v.oneCell' = true := by cases v <;> first | rfl | (simp [scalar] at h)

theorem ofVs_sound {ρ : Ren} {f : Value → Option AV} (hf : ∀ v a, f v = some a → V ρ a v) : ∀ {l : List Value} {as : List AV}, ofVs f l = some as → VL ρ as l
  | [], as, h => by simp [ofVs] at h; subst h; exact .nil
  | v :: r, as, h => by
    simp only [ofVs] at h
    cases h1 : f v with
    | none => simp [h1] at h
    | some a =>
      cases h2 : ofVs f r with
      | none => simp [h1, h2] at h
      | some b => simp [h1, h2] at h; subst h; exact .cons (hf _ _ h1) (ofVs_sound hf h2)
theorem ofVs_one {ρ : Ren} {f : Value → Option AV} (hf : ∀ v a, f v = some a → V ρ a v) : ∀ {l : List Value} {as : List AV}, ofVs (fun v => one? (f v)) l = some as → ∀ x ∈ l, x.oneCell' = true
  | [], as, h, x, hx => by simp at hx
  | v :: r, as, h, x, hx => by
    simp only [ofVs] at h
    cases h1 : one? (f v) with
    | none => simp [h1] at h
    | some a =>
      cases h2 : ofVs (fun v => one? (f v)) r with
      | none => simp [h1, h2] at h
      | some b =>
        rcases List.mem_cons.1 hx with rfl | hx
        · cases h3 : f x with
          | none => rw [h3] at h1; simp [one?] at h1
          | some c =>
            rw [h3] at h1
            have hv := hf _ _ h3
            refine hv.one ?_ ?_
            · cases c <;> first | rfl | (simp [one?] at h1)
            · intro cs e; subst e; simp [one?] at h1
        · exact ofVs_one hf h2 x hx
theorem one?_some {o : Option AV} {a : AV} (h : one? o = some a) : o = some a := by
  unfold one? at h
  split at h <;> first | (cases h; done) | exact h
theorem ofV_sound {ρ : Ren} : ∀ {n : Nat} {v : Value} {a : AV}, ofV n v = some a → V ρ a v := by
  intro n
  induction n with
  | zero => intro v a h; simp [ofV] at h
  | succ n ih =>
    intro v a h
    cases v with
    | agg cs =>
      simp only [ofV, Option.map_eq_some_iff] at h
      obtain ⟨l, hl, rfl⟩ := h
      have h1 := ofVs_sound (ρ := ρ) (f := fun v => one? (ofV n v)) (fun v a h => ih (one?_some h)) hl
      have h2 := ofVs_one (ρ := ρ) (f := ofV n) (fun v a h => ih h) hl
      have := V.agg h1 h2
      simpa using this
    | tuple cs =>
      simp only [ofV, Option.map_eq_some_iff] at h
      obtain ⟨l, hl, rfl⟩ := h
      have := V.tup (ofVs_sound (ρ := ρ) (fun v a h => ih h) hl)
      simpa using this
    | iface t v =>
      simp only [ofV, Option.map_eq_some_iff] at h
      obtain ⟨x, hx, rfl⟩ := h
      exact .iface (ih hx)
    | func f a b =>
      cases f with
      | func f =>
        simp only [ofV] at h
        cases h1 : ofVs (ofV n) a.toList with
        | none => simp [h1] at h
        | some a' =>
          cases h2 : ofVs (ofV n) b.toList with
          | none => simp [h1, h2] at h
          | some b' =>
            simp [h1, h2] at h
            subst h
            have := V.fn (ρ := ρ) (f := .func f) rfl (ofVs_sound (fun v a h => ih h) h1) (ofVs_sound (fun v a h => ih h) h2)
            simpa using this
      | _ => simp [ofV, scalar] at h
    | _ => simp only [ofV] at h; split at h <;> first | (cases h; done) | (next hs => cases h; exact .sc hs)

mutual
theorem toV_sound {ρ : Ren} : ∀ {a : AV} {v x : Value}, toV a = some v → V ρ a x → x = v
  | .sc u, v, x, h, hv => by simp [toV] at h; rw [← h]; exact hv.sc_inv.1
  | .agg cs, v, x, h, hv => by
    simp only [toV, Option.map_eq_some_iff] at h
    obtain ⟨l, hl, rfl⟩ := h
    obtain ⟨xs, rfl, h1, _⟩ := hv.agg_inv
    rw [toVs_sound hl h1]
  | .iface t u, v, x, h, hv => by
    simp only [toV, Option.map_eq_some_iff] at h
    obtain ⟨l, hl, rfl⟩ := h
    cases hv with | iface hv => rw [toV_sound hl hv]
  | .ptr .., v, x, h, hv => by simp [toV] at h
  | .sl .., v, x, h, hv => by simp [toV] at h
  | .op .., v, x, h, hv => by simp [toV] at h
  | .map .., v, x, h, hv => by simp [toV] at h
  | .fn .., v, x, h, hv => by simp [toV] at h
  | .yd .., v, x, h, hv => by simp [toV] at h
  | .tup .., v, x, h, hv => by simp [toV] at h
  | .no, v, x, h, hv => by simp [toV] at h
theorem toVs_sound {ρ : Ren} : ∀ {a : List AV} {v x : List Value}, toVs a = some v → VL ρ a x → x = v
  | [], v, x, h, hv => by simp [toVs] at h; cases hv; exact h.symm ▸ rfl
  | a :: r, v, x, h, hv => by
    simp only [toVs] at h
    cases h1 : toV a with
    | none => simp [h1] at h
    | some b =>
      cases h2 : toVs r with
      | none => simp [h1, h2] at h
      | some c =>
        simp [h1, h2] at h
        subst h
        cases hv with | cons hv hr => rw [toV_sound h1 hv, toVs_sound h2 hr]
end

theorem pureRun_sound {α : Type} {P : Program} : ∀ {s : Sem α} {a : α}, pureRun P s = some a → ∀ w, s.run P w = .ok a w := by
  intro s
  induction s with
  | pure a => intro b h w; simp [pureRun] at h; subst h; rfl
  | program k ih => intro b h w; exact ih P h w
  | mark m k ih => intro b h w; exact ih h w
  | _ => intro b h w; simp [pureRun] at h
end
end Go.Abs
namespace Go.Abs
noncomputable section
set_option linter.unusedSectionVars false
variable [Tok]
set_option linter.unusedVariables false

def isRo : AO → Bool
  | .ro _ => true
  | _ => false

/-- a frame gone through, and the slots -/
def FR (ρ : Ren) (F : Fr) (tmps : Array Value) : Prop := ∀ t, V ρ (F.at t) (tmps.getD t undef)

def pendR : Option Tag → Option Code → Prop
  | none, none => True
  | some .ret, some .ret => True
  | some (.exit i), some (.exit j) => i = j
  | _, _ => False

/-- a loop's body, as it was gone through where the loop was entered -/
def LoopBody (P : Program) (ρ : Ren) (r : Loop) (body : List AV → AC) : Prop :=
  ∃ (F : Fr) (vars : List Nat), FR ρ F r.tmps ∧ straight r.assign = true ∧ fits r.tmps.size r.assign = true ∧ fits r.tmps.size r.body = true ∧ (∀ p ∈ r.params.toList, p < r.tmps.size) ∧
    body = fun vs => den P vars true r.assign (F.puts r.params.toList 1 vs) [] fun F1 => .start (nth vs 0) (den P vars true r.body F1 [] fun _ => .ret .normal [])

/-- an abstract object, and what lies at its place -/
def OR (P : Program) (ρ : Ren) (w : World) (b o l : Nat) : AO → Prop
  | .row cs => ∃ (c : Array Value) (e : TypeId), w.heap[b]? = some (.cells c e (0, 0)) ∧ c.size = l ∧ o + cs.length ≤ l ∧
      ∀ (i : Nat) v, cs[i]? = some v → ∃ x, c[o + i]? = some x ∧ V ρ v x ∧ x.oneCell' = true
  | .ro cs => ∀ (i : Nat) v, cs[i]? = some v → ∃ x, w.cell? ⟨b, o + i, none⟩ = some x ∧ V ρ v x ∧ x.oneCell' = true
  | .map es => ∃ (es' : Array MapEntry) (clock : Nat), w.heap[b]? = some (.map es' clock) ∧ es'.size = es.length ∧
      ∀ (i : Nat) k v, es[i]? = some (k, v) → ∃ e, es'[i]? = some e ∧ e.key = k ∧ V ρ v e.val
  | .loop st pend n body => ∃ r : Loop, w.heap[b]? = some (.loop r) ∧ r.state = st ∧ pendR pend r.pending ∧ r.params.size = n ∧ LoopBody P ρ r body

/-- abstract memory and a world -/
structure R (P : Program) (ρ : Ren) (S : AH) (w : World) : Prop where
  objs : ∀ {id ob b o l}, S.get id = some ob → ρ id = some (b, o, l) → OR P ρ w b o l ob
  inj : ∀ {i j oi oj b o l o' l'}, S.get i = some oi → S.get j = some oj → ρ i = some (b, o, l) → ρ j = some (b, o', l') → (isRo oi = false ∨ isRo oj = false) → i = j
  dom : ∀ {id x}, ρ id = some x → id < S.next
  blk : ∀ {id b o l}, ρ id = some (b, o, l) → b < w.heap.size
  wf : ∀ {id ob}, S.get id = some ob → id < S.next

/-- a block that an abstract object may turn -/
def Owned (S : AH) (ρ : Ren) (b : Nat) : Prop := ∃ id ob o l, S.get id = some ob ∧ isRo ob = false ∧ ρ id = some (b, o, l)

/-- what has become of memory -/
structure Ext (ρ : Ren) (S : AH) (w : World) (ρ' : Ren) (S' : AH) (w' : World) : Prop where
  ren : ρ.le ρ'
  next : S.next ≤ S'.next
  newid : ∀ id x, ρ id = none → ρ' id = some x → S.next ≤ id
  old : ∀ id, ρ id = none → id < S.next → S'.get id = S.get id
  os : w'.os = w.os
  tape : w'.tape = w.tape
  output : w'.output = w.output
  size : w.heap.size ≤ w'.heap.size
  frame : ∀ b, b < w.heap.size → ¬ Owned S ρ b → w'.heap[b]? = w.heap[b]?
  owned : ∀ b, b < w.heap.size → Owned S' ρ' b → Owned S ρ b

theorem Ext.refl (ρ : Ren) (S : AH) (w : World) : Ext ρ S w ρ S w :=
  ⟨Ren.le_refl _, Nat.le_refl _, fun id x h1 h2 => by (rw [h1] at h2; cases h2), fun _ _ _ => rfl, rfl, rfl, rfl, Nat.le_refl _, fun _ _ _ => rfl, fun _ _ h => h⟩

theorem Ext.trans {ρ ρ' ρ'' : Ren} {S S' S'' : AH} {w w' w'' : World} (h : Ext ρ S w ρ' S' w') (k : Ext ρ' S' w' ρ'' S'' w'') : Ext ρ S w ρ'' S'' w'' where
  ren := Ren.le_trans h.ren k.ren
  next := Nat.le_trans h.next k.next
  newid := fun id x h1 h2 => by
    cases e : ρ' id with
    | some y => exact h.newid id y h1 e
    | none => exact Nat.le_trans h.next (k.newid id x e h2)
  old := fun id h1 h2 => by
    have e : ρ' id = none := by
      cases e : ρ' id with
      | none => rfl
      | some y => have := h.newid id y h1 e; omega
    rw [k.old id e (Nat.lt_of_lt_of_le h2 h.next), h.old id h1 h2]
  os := k.os.trans h.os
  tape := k.tape.trans h.tape
  output := k.output.trans h.output
  size := Nat.le_trans h.size k.size
  frame := fun b h1 h2 => by
    rw [k.frame b (Nat.lt_of_lt_of_le h1 h.size) (fun ho => h2 (h.owned b h1 ho)), h.frame b h1 h2]
  owned := fun b h1 h2 => h.owned b h1 (k.owned b (Nat.lt_of_lt_of_le h1 h.size) h2)

theorem FR.mono {ρ ρ' : Ren} {F : Fr} {t : Array Value} (hl : ρ.le ρ') (h : FR ρ F t) : FR ρ' F t := fun i => (h i).mono hl

theorem OR.mono {P : Program} {ρ ρ' : Ren} {w w' : World} {b o l : Nat} {ob : AO} (hl : ρ.le ρ') (hb : w'.heap[b]? = w.heap[b]?) (h : OR P ρ w b o l ob) : OR P ρ' w' b o l ob := by
  cases ob with
  | row cs =>
    obtain ⟨c, e, h1, h2, h3, h4⟩ := h
    exact ⟨c, e, hb.trans h1, h2, h3, fun i v hi => let ⟨x, a, b, c⟩ := h4 i v hi; ⟨x, a, b.mono hl, c⟩⟩
  | ro cs =>
    intro i v hi
    obtain ⟨x, a, b, c⟩ := h i v hi
    refine ⟨x, ?_, b.mono hl, c⟩
    rw [← a]; simp only [World.cell?, hb]
  | map es =>
    obtain ⟨es', clock, h1, h2, h3⟩ := h
    exact ⟨es', clock, hb.trans h1, h2, fun i k v hi => let ⟨e, a, b, c⟩ := h3 i k v hi; ⟨e, a, b, c.mono hl⟩⟩
  | loop st pend n body =>
    obtain ⟨r, h1, h2, h3, h4, F, vars, h5, h6⟩ := h
    exact ⟨r, hb.trans h1, h2, h3, h4, F, vars, h5.mono hl, h6⟩

/-- a world that differs in what no memory is -/
structure SameW (w w' : World) : Prop where
  os : w'.os = w.os
  tape : w'.tape = w.tape
  output : w'.output = w.output

/-- nothing but the count of draws -/
theorem R.drawn {P : Program} {ρ : Ren} {S : AH} {w w' : World} (h : R P ρ S w) (hh : w'.heap = w.heap) (hs : SameW w w') : R P ρ S w' ∧ Ext ρ S w ρ S w' :=
  ⟨⟨fun h1 h2 => (h.objs h1 h2).mono (Ren.le_refl _) (by rw [hh]), h.inj, h.dom, fun h1 => by rw [hh]; exact h.blk h1, h.wf⟩,
   ⟨Ren.le_refl _, Nat.le_refl _, fun id x h1 h2 => by (rw [h1] at h2; cases h2), fun _ _ _ => rfl, hs.os, hs.tape, hs.output, by rw [hh]; exact Nat.le_refl _, fun _ _ _ => by rw [hh], fun _ _ h => h⟩⟩

/-- a new block -/
theorem R.new {P : Program} {ρ : Ren} {S : AH} {w w' : World} {ob : AO} {l : Nat} (h : R P ρ S w) (hs : SameW w w') (hz : w'.heap.size = w.heap.size + 1)
    (ho : ∀ b, b < w.heap.size → w'.heap[b]? = w.heap[b]?)
    (hob : OR P (ρ.put S.next (w.heap.size, 0, l)) w' w.heap.size 0 l ob) (hr : isRo ob = false) :
    R P (ρ.put S.next (w.heap.size, 0, l)) (S.new ob) w' ∧ Ext ρ S w (ρ.put S.next (w.heap.size, 0, l)) (S.new ob) w' := by
  have hn : ρ S.next = none := by
    cases e : ρ S.next with
    | none => rfl
    | some x => exact absurd (h.dom e) (Nat.lt_irrefl _)
  have hle := Ren.le_put (x := (w.heap.size, 0, l)) hn
  refine ⟨⟨?_, ?_, ?_, ?_, fun {j oj} hj => by
    rw [AH.get_new] at hj
    split at hj
    · next e => subst e; simp
    · have := h.wf hj; simp; omega⟩, ⟨hle, by simp, ?_, ?_, hs.os, hs.tape, hs.output, by omega, fun b hb _ => ho b hb, ?_⟩⟩
  · intro id ob' b o l' h1 h2
    rw [AH.get_new] at h1
    by_cases e : id = S.next
    · subst e
      rw [if_pos rfl] at h1
      cases h1
      rw [Ren.put_same] at h2
      cases h2
      exact hob
    · rw [if_neg e] at h1
      rw [Ren.put_other _ _ e] at h2
      exact (h.objs h1 h2).mono hle (ho b (h.blk h2))
  · intro i j oi oj b o l' o' l'' h1 h2 h3 h4 h5
    rw [AH.get_new] at h1 h2
    by_cases ei : i = S.next <;> by_cases ej : j = S.next
    · rw [ei, ej]
    · exfalso
      subst ei
      rw [Ren.put_same] at h3
      rw [Ren.put_other _ _ ej] at h4
      cases h3
      exact absurd (h.blk h4) (Nat.lt_irrefl _)
    · exfalso
      subst ej
      rw [Ren.put_same] at h4
      rw [Ren.put_other _ _ ei] at h3
      cases h4
      exact absurd (h.blk h3) (Nat.lt_irrefl _)
    · rw [if_neg ei] at h1
      rw [if_neg ej] at h2
      rw [Ren.put_other _ _ ei] at h3
      rw [Ren.put_other _ _ ej] at h4
      exact h.inj h1 h2 h3 h4 h5
  · intro id x hx
    by_cases e : id = S.next
    · subst e; simp
    · rw [Ren.put_other _ _ e] at hx
      have := h.dom hx
      simp; omega
  · intro id b o l' hx
    by_cases e : id = S.next
    · subst e; rw [Ren.put_same] at hx; cases hx; omega
    · rw [Ren.put_other _ _ e] at hx
      have := h.blk hx
      omega
  · intro id x h1 h2
    by_cases e : id = S.next
    · subst e; exact Nat.le_refl _
    · rw [Ren.put_other _ _ e] at h2; rw [h1] at h2; cases h2
  · intro id h1 h2
    rw [AH.get_new, if_neg (by omega)]
  · intro b hb ⟨id, ob', o, l', h1, h2, h3⟩
    rw [AH.get_new] at h1
    by_cases e : id = S.next
    · subst e; rw [Ren.put_same] at h3; cases h3; exact absurd hb (Nat.lt_irrefl _)
    · rw [if_neg e] at h1
      rw [Ren.put_other _ _ e] at h3
      exact ⟨id, ob', o, l', h1, h2, h3⟩

/-- an object is turned -/
theorem R.set {P : Program} {ρ : Ren} {S : AH} {w w' : World} {id b o l : Nat} {ob ob' : AO} (h : R P ρ S w) (hg : S.get id = some ob) (hr : isRo ob = false) (hi : ρ id = some (b, o, l))
    (hs : SameW w w') (hz : w'.heap.size = w.heap.size) (hoth : ∀ k, k ≠ b → w'.heap[k]? = w.heap[k]?) (hob : OR P ρ w' b o l ob') (hr' : isRo ob' = false) :
    R P ρ (S.set id ob') w' ∧ Ext ρ S w ρ (S.set id ob') w' := by
  refine ⟨⟨?_, ?_, ?_, ?_, fun {j oj} hj => by
    rw [AH.get_set] at hj
    split at hj
    · next e => subst e; exact h.wf hg
    · exact h.wf hj⟩, ⟨Ren.le_refl _, Nat.le_refl _, fun id x h1 h2 => by (rw [h1] at h2; cases h2), ?_, hs.os, hs.tape, hs.output, by omega, ?_, ?_⟩⟩
  · intro j oj b' o' l' h1 h2
    rw [AH.get_set] at h1
    by_cases e : j = id
    · subst e
      rw [if_pos rfl] at h1
      cases h1
      rw [hi] at h2
      cases h2
      exact hob
    · rw [if_neg e] at h1
      have hb : b' ≠ b := fun eb => by subst eb; exact e (h.inj h1 hg h2 hi (.inr hr))
      exact (h.objs h1 h2).mono (Ren.le_refl _) (hoth b' hb)
  · intro i j oi oj b1 o1 l1 o2 l2 h1 h2 h3 h4 h5
    rw [AH.get_set] at h1 h2
    by_cases ei : i = id <;> by_cases ej : j = id
    · rw [ei, ej]
    · subst ei
      rw [if_neg ej] at h2
      exact h.inj hg h2 h3 h4 (.inl hr)
    · subst ej
      rw [if_neg ei] at h1
      exact h.inj h1 hg h3 h4 (.inr hr)
    · rw [if_neg ei] at h1
      rw [if_neg ej] at h2
      exact h.inj h1 h2 h3 h4 h5
  · exact h.dom
  · intro j b' o' l' hj; rw [hz]; exact h.blk hj
  · intro j h1 h2
    rw [AH.get_set, if_neg]
    intro e; subst e; rw [hi] at h1; cases h1
  · intro b' h1 h2
    refine hoth b' fun e => h2 ?_
    subst e
    exact ⟨id, ob, o, l, hg, hr, hi⟩
  · intro b' h1 ⟨j, oj, o', l', h2, h3, h4⟩
    rw [AH.get_set] at h2
    by_cases e : j = id
    · subst e
      exact ⟨j, ob, o', l', hg, hr, h4⟩
    · rw [if_neg e] at h2
      exact ⟨j, oj, o', l', h2, h3, h4⟩

/-- an object's place is taken by a new one: the old one is forgotten -/
theorem R.swap {P : Program} {ρ : Ren} {S : AH} {w w' : World} {id b o l o' : Nat} {ob ob' : AO} (h : R P ρ S w) (hg : S.get id = some ob) (hr : isRo ob = false) (hi : ρ id = some (b, o, l))
    (hs : SameW w w') (hz : w'.heap.size = w.heap.size) (hoth : ∀ k, k ≠ b → w'.heap[k]? = w.heap[k]?) (hob : OR P (ρ.put S.next (b, o', l)) w' b o' l ob') (hr' : isRo ob' = false) :
    R P (ρ.put S.next (b, o', l)) ((S.kill id).new ob') w' ∧ Ext ρ S w (ρ.put S.next (b, o', l)) ((S.kill id).new ob') w' := by
  have hn : ρ S.next = none := by
    cases e : ρ S.next with
    | none => rfl
    | some x => exact absurd (h.dom e) (Nat.lt_irrefl _)
  have hle := Ren.le_put (x := (b, o', l)) hn
  have gk : ∀ j, ((S.kill id).new ob').get j = if j = S.next then some ob' else if j = id then none else S.get j := fun j => by
    rw [AH.get_new, AH.get_kill]; rfl
  refine ⟨⟨?_, ?_, ?_, ?_, fun {j oj} hj => by
    rw [AH.get_new, AH.get_kill] at hj
    split at hj
    · next e => rw [e]; exact Nat.lt_succ_self _
    · split at hj
      · cases hj
      · have := h.wf hj; simp; omega⟩, ⟨hle, by simp, ?_, ?_, hs.os, hs.tape, hs.output, by omega, ?_, ?_⟩⟩
  · intro j oj b1 o1 l1 h1 h2
    rw [gk] at h1
    by_cases e : j = S.next
    · subst e
      rw [if_pos rfl] at h1
      cases h1
      rw [Ren.put_same] at h2
      cases h2
      exact hob
    · rw [if_neg e] at h1
      rw [Ren.put_other _ _ e] at h2
      by_cases e2 : j = id
      · rw [if_pos e2] at h1; cases h1
      · rw [if_neg e2] at h1
        have hb : b1 ≠ b := fun eb => by subst eb; exact e2 (h.inj h1 hg h2 hi (.inr hr))
        exact (h.objs h1 h2).mono hle (hoth b1 hb)
  · intro i j oi oj b1 o1 l1 o2 l2 h1 h2 h3 h4 h5
    rw [gk] at h1 h2
    by_cases ei : i = S.next <;> by_cases ej : j = S.next
    · rw [ei, ej]
    · exfalso
      subst ei
      rw [if_neg ej] at h2
      rw [Ren.put_same] at h3
      rw [Ren.put_other _ _ ej] at h4
      cases h3
      by_cases e2 : j = id
      · rw [if_pos e2] at h2; cases h2
      · rw [if_neg e2] at h2
        exact e2 (h.inj h2 hg h4 hi (.inr hr))
    · exfalso
      subst ej
      rw [if_neg ei] at h1
      rw [Ren.put_same] at h4
      rw [Ren.put_other _ _ ei] at h3
      cases h4
      by_cases e2 : i = id
      · rw [if_pos e2] at h1; cases h1
      · rw [if_neg e2] at h1
        exact e2 (h.inj h1 hg h3 hi (.inr hr))
    · rw [if_neg ei] at h1
      rw [if_neg ej] at h2
      rw [Ren.put_other _ _ ei] at h3
      rw [Ren.put_other _ _ ej] at h4
      by_cases e2 : i = id
      · rw [if_pos e2] at h1; cases h1
      · by_cases e3 : j = id
        · rw [if_pos e3] at h2; cases h2
        · rw [if_neg e2] at h1
          rw [if_neg e3] at h2
          exact h.inj h1 h2 h3 h4 h5
  · intro j x hx
    by_cases e : j = S.next
    · subst e; simp
    · rw [Ren.put_other _ _ e] at hx
      have := h.dom hx
      simp; omega
  · intro j b1 o1 l1 hx
    rw [hz]
    by_cases e : j = S.next
    · subst e; rw [Ren.put_same] at hx; cases hx; exact h.blk hi
    · rw [Ren.put_other _ _ e] at hx; exact h.blk hx
  · intro j x h1 h2
    by_cases e : j = S.next
    · subst e; exact Nat.le_refl _
    · rw [Ren.put_other _ _ e] at h2; rw [h1] at h2; cases h2
  · intro j h1 h2
    rw [gk, if_neg (by omega), if_neg]
    intro e; subst e; rw [hi] at h1; cases h1
  · intro b1 h1 h2
    refine hoth b1 fun e => h2 ?_
    subst e
    exact ⟨id, ob, o, l, hg, hr, hi⟩
  · intro b1 h1 ⟨j, oj, o1, l1, h2, h3, h4⟩
    rw [gk] at h2
    by_cases e : j = S.next
    · subst e; rw [Ren.put_same] at h4; cases h4
      exact ⟨id, ob, o, l, hg, hr, hi⟩
    · rw [if_neg e] at h2
      rw [Ren.put_other _ _ e] at h4
      by_cases e2 : j = id
      · rw [if_pos e2] at h2; cases h2
      · rw [if_neg e2] at h2
        exact ⟨j, oj, o1, l1, h2, h3, h4⟩

/-- forgetting is nothing -/
theorem R.kill {P : Program} {ρ : Ren} {S : AH} {w : World} {id : Nat} {x : Nat × Nat × Nat} (h : R P ρ S w) (hi : ρ id = some x) :
    R P ρ (S.kill id) w ∧ Ext ρ S w ρ (S.kill id) w := by
  refine ⟨⟨?_, ?_, h.dom, h.blk, fun {j oj} hj => by
    rw [AH.get_kill] at hj
    split at hj
    · cases hj
    · exact h.wf hj⟩, ⟨Ren.le_refl _, Nat.le_refl _, fun id x h1 h2 => by (rw [h1] at h2; cases h2), ?_, rfl, rfl, rfl, Nat.le_refl _, fun _ _ _ => rfl, ?_⟩⟩
  · intro j oj b o l h1 h2
    rw [AH.get_kill] at h1
    split at h1
    · cases h1
    · exact h.objs h1 h2
  · intro i j oi oj b o l o' l' h1 h2 h3 h4 h5
    rw [AH.get_kill] at h1 h2
    split at h1
    · cases h1
    · split at h2
      · cases h2
      · exact h.inj h1 h2 h3 h4 h5
  · intro j h1 h2
    rw [AH.get_kill, if_neg]
    intro e; subst e; rw [hi] at h1; cases h1
  · intro b h1 ⟨j, oj, o, l, h2, h3, h4⟩
    rw [AH.get_kill] at h2
    split at h2
    · cases h2
    · exact ⟨j, oj, o, l, h2, h3, h4⟩
end
end Go.Abs
namespace Go.Abs
noncomputable section
set_option linter.unusedSectionVars false
variable [Tok]
set_option linter.unusedVariables false
set_option linter.unusedSimpArgs false
variable {P : Program}

inductive Kind where
  | pure | read | alloc | eff
  deriving DecidableEq

def AOp.kind : AOp → Kind
  | .load .. | .lookup .. | .maplen _ => .read
  | .alloc _ | .box _ | .bslice .. | .mkslice .. | .mkmap => .alloc
  | .store .. | .append .. | .copy .. | .clear .. | .mapset .. | .mapdel .. => .eff
  | _ => .pure

def evalPure (P : Program) : AOp → Option AV
  | .mv x => some x
  | .pick c a b => pPick c a b
  | .bin op x y => abin op x y
  | .eq t n x y => pEq P t n x y
  | .un op x => pUn P op x
  | .conv k x => pConv k x
  | .part o n a x => pPart o n a x
  | .aidx l e a x i => pAidx l e a x i
  | .sidx x i => pSidx x i
  | .build z ps => pBuild z ps
  | .faddr o x => pFaddr o x
  | .paddr l e x i => pPaddr l e x i
  | .saddr e x i => pSaddr e x i
  | .aslice l e x a b c => pAslice l e x a b c
  | .sslice e x a b c => pSslice e x a b c
  | .strslice x a b => pStrslice x a b
  | .extract i x => pExtract i x
  | .nilchk x => pNilchk x
  | .len g x => pLen g x
  | .cap x => pCap x
  | .minmax m xs => pMinmax m xs
  | .tassert t i o z x => pTassert P t i o z x
  | _ => none

theorem evalOp_pure {o : AOp} (h : o.kind = .pure) (S : AH) : evalOp P o S = pur (evalPure P o) S := by
  cases o <;> first | rfl | (cases h; done)
theorem evalOp_read {o : AOp} (h : o.kind = .read) (S : AH) : evalOp P o S = pur (evalRead P S o) S := by
  cases o <;> first | rfl | (cases h; done)
theorem pur_some {r : Option AV} {S S' : AH} {v : AV} (h : pur r S = some (v, S')) : r = some v ∧ S' = S := by
  unfold pur at h
  cases r with
  | none => cases h
  | some x => simp at h; exact ⟨by rw [h.1], h.2.symm⟩

/-! ### operands -/
theorem ev_sound {ρ : Ren} {F : Fr} {a : Act} (h : FR ρ F a.tmps) (x : Operand) : V ρ (F.ev x) (a.eval x) := by
  cases x with
  | tmp t => exact h t
  | const v =>
    show V ρ ((ofV 50 v).getD .no) v
    cases e : ofV 50 v with
    | none => exact .no
    | some u => exact ofV_sound e
  | global g => exact .no
  | func f => exact .fn (a' := []) (c' := []) rfl .nil .nil

theorem evs_sound {ρ : Ren} {F : Fr} {a : Act} (h : FR ρ F a.tmps) : ∀ (l : List Operand), VL ρ (l.map F.ev) (l.map a.eval)
  | [] => .nil
  | x :: r => .cons (ev_sound h x) (evs_sound h r)

/-! ### integers and strings -/
theorem run_guard_int {op : BinOp} {t : TypeId} {x y : Operand} {k k' : IntKind} {a b : Int} (w : World) :
    (eqGuard op t x y (.int k a) (.int k' b)).run P w = .ok () w := by cases op <;> rfl
theorem run_guard_str {op : BinOp} {t : TypeId} {x y : Operand} {a b : ByteArray} (w : World) :
    (eqGuard op t x y (.string a) (.string b)).run P w = .ok () w := by cases op <;> rfl

theorem int2_some {f : IntKind → Int → Int → Option AV} {x y v : AV} (h : int2 f x y = some v) : ∃ k a b, x = .sc (.int k a) ∧ y = .sc (.int k b) ∧ f k a b = some v := by
  unfold int2 at h
  cases hx : asInt x with
  | none => simp [hx] at h
  | some p =>
    obtain ⟨k, a⟩ := p
    cases hy : asInt y with
    | none => simp [hx, hy] at h
    | some q =>
      obtain ⟨k', b⟩ := q
      simp only [hx, hy] at h
      cases hk : kindEq k k' with
      | false => simp [hk] at h
      | true =>
        simp only [hk] at h
        have := kindEq_true hk
        subst this
        exact ⟨k, a, b, asInt_some hx, asInt_some hy, h⟩
theorem str2_some {f : ByteArray → ByteArray → Option AV} {x y v : AV} (h : str2 f x y = some v) : ∃ a b, x = .sc (.string a) ∧ y = .sc (.string b) ∧ f a b = some v := by
  unfold str2 at h
  split at h
  · exact ⟨_, _, rfl, rfl, h⟩
  · cases h
theorem either_some {a b : Option AV} {v : AV} (h : either a b = some v) : a = some v ∨ b = some v := by
  unfold either at h
  cases a with
  | none => exact .inr h
  | some x => exact .inl h

/-- what is asked of the two sides of an operation on integers or strings -/
def BinOK (P : Program) (op : BinOp) (t : TypeId) (x y v : AV) : Prop :=
  (∃ k a b r, x = .sc (.int k a) ∧ y = .sc (.int k b) ∧ v = .sc r ∧ scalar r = true ∧ ∀ w, (binOp op t (.int k a) (.int k b)).run P w = .ok r w) ∨
  (∃ k a k' b r, x = .sc (.int k a) ∧ y = .sc (.int k' b) ∧ v = .sc r ∧ scalar r = true ∧ ∀ w, (binOp op t (.int k a) (.int k' b)).run P w = .ok r w) ∨
  (∃ a b r, x = .sc (.string a) ∧ y = .sc (.string b) ∧ v = .sc r ∧ scalar r = true ∧ ∀ w, (binOp op t (.string a) (.string b)).run P w = .ok r w)

theorem le_not_lt (a b : Int) : decide (a ≤ b) = !decide (b < a) := by
  by_cases h : b < a
  · simp [h]
  · simp [h]; omega

theorem abin_ok {op : BinOp} {t : TypeId} {x y v : AV} (h : abin op x y = some v) : BinOK P op t x y v := by
  have I : ∀ {f : IntKind → Int → Int → Option AV}, int2 f x y = some v →
      (∀ k a b, f k a b = some v → ∃ r, v = .sc r ∧ scalar r = true ∧ ∀ w, (binOp op t (.int k a) (.int k b)).run P w = .ok r w) → BinOK P op t x y v := fun h1 h2 => by
    obtain ⟨k, a, b, e1, e2, e3⟩ := int2_some h1
    obtain ⟨r, e4, e5, e6⟩ := h2 k a b e3
    exact .inl ⟨k, a, b, r, e1, e2, e4, e5, e6⟩
  have T : ∀ {f : ByteArray → ByteArray → Option AV}, str2 f x y = some v →
      (∀ a b, f a b = some v → ∃ r, v = .sc r ∧ scalar r = true ∧ ∀ w, (binOp op t (.string a) (.string b)).run P w = .ok r w) → BinOK P op t x y v := fun h1 h2 => by
    obtain ⟨a, b, e1, e2, e3⟩ := str2_some h1
    obtain ⟨r, e4, e5, e6⟩ := h2 a b e3
    exact .inr (.inr ⟨a, b, r, e1, e2, e4, e5, e6⟩)
  cases op with
  | add =>
    rcases either_some (show either _ _ = some v from h) with h | h
    · exact I h fun k a b e => by cases e; exact ⟨_, rfl, rfl, fun w => by simp [binOp, Op.intArith, wrapF_eq] <;> rfl⟩
    · refine T h fun a b e => ?_
      split at e
      · next hl =>
        cases e
        refine ⟨_, rfl, rfl, fun w => ?_⟩
        have : ¬ ((9223372036854775807 : Int) < (a.size : Int) + (b.size : Int)) := by omega
        simp [binOp, Op.stringOp, IntKind.max, IntKind.signed, IntKind.bits, this]
      · cases e
  | sub => exact I (show int2 _ _ _ = _ from h) fun k a b e => by cases e; exact ⟨_, rfl, rfl, fun w => by simp [binOp, Op.intArith, wrapF_eq] <;> rfl⟩
  | mul => exact I (show int2 _ _ _ = _ from h) fun k a b e => by cases e; exact ⟨_, rfl, rfl, fun w => by simp [binOp, Op.intArith, wrapF_eq] <;> rfl⟩
  | quo =>
    refine I (show int2 _ _ _ = _ from h) fun k a b e => ?_
    simp only [eqF_eq] at e
    split at e
    · cases e
    · next hb =>
      cases e
      refine ⟨_, rfl, rfl, fun w => ?_⟩
      have : ¬ b = 0 := by simpa using hb
      simp [binOp, Op.intDiv, wrapF_eq, this]
  | rem =>
    refine I (show int2 _ _ _ = _ from h) fun k a b e => ?_
    simp only [eqF_eq] at e
    split at e
    · cases e
    · next hb =>
      cases e
      refine ⟨_, rfl, rfl, fun w => ?_⟩
      have : ¬ b = 0 := by simpa using hb
      simp [binOp, Op.intDiv, wrapF_eq, this]
  | and => exact I (show int2 _ _ _ = _ from h) fun k a b e => by cases e; exact ⟨_, rfl, rfl, fun w => by simp [binOp, Op.intBits, wrapF_eq]⟩
  | or => exact I (show int2 _ _ _ = _ from h) fun k a b e => by cases e; exact ⟨_, rfl, rfl, fun w => by simp [binOp, Op.intBits, wrapF_eq]⟩
  | xor => exact I (show int2 _ _ _ = _ from h) fun k a b e => by cases e; exact ⟨_, rfl, rfl, fun w => by simp [binOp, Op.intBits, wrapF_eq]⟩
  | andNot => exact I (show int2 _ _ _ = _ from h) fun k a b e => by cases e; exact ⟨_, rfl, rfl, fun w => by simp [binOp, Op.intBits, wrapF_eq]⟩
  | shl =>
    replace h : bShl x y = some v := h
    unfold bShl at h
    split at h
    · next k a k' b =>
      simp only [ltF_eq] at h
      split at h
      · cases h
      · next hb =>
        cases h
        refine .inr (.inl ⟨k, a, k', b, _, rfl, rfl, rfl, rfl, fun w => ?_⟩)
        have : ¬ b < 0 := by simpa using hb
        simp [binOp, Op.shift, wrapF_eq, this]
    · cases h
  | shr =>
    replace h : bShr x y = some v := h
    unfold bShr at h
    split at h
    · next k a k' b =>
      simp only [ltF_eq] at h
      split at h
      · cases h
      · next hb =>
        cases h
        refine .inr (.inl ⟨k, a, k', b, _, rfl, rfl, rfl, rfl, fun w => ?_⟩)
        have : ¬ b < 0 := by simpa using hb
        simp [binOp, Op.shift, this]
    · cases h
  | eql =>
    rcases either_some (show either _ _ = some v from h) with h | h
    · exact I h fun k a b e => by cases e; exact ⟨_, rfl, rfl, fun w => by simp [binOp, Op.intCmp, eqF_eq]⟩
    · exact T h fun a b e => by cases e; exact ⟨_, rfl, rfl, fun w => by simp [binOp, Op.stringOp]⟩
  | neq =>
    rcases either_some (show either _ _ = some v from h) with h | h
    · exact I h fun k a b e => by cases e; exact ⟨_, rfl, rfl, fun w => by simp [binOp, Op.intCmp, eqF_eq] <;> rfl⟩
    · exact T h fun a b e => by cases e; exact ⟨_, rfl, rfl, fun w => by simp [binOp, Op.stringOp]⟩
  | lss =>
    rcases either_some (show either _ _ = some v from h) with h | h
    · exact I h fun k a b e => by cases e; exact ⟨_, rfl, rfl, fun w => by simp [binOp, Op.intCmp, ltF_eq]⟩
    · exact T h fun a b e => by cases e; exact ⟨_, rfl, rfl, fun w => by simp [binOp, Op.stringOp]⟩
  | leq =>
    rcases either_some (show either _ _ = some v from h) with h | h
    · exact I h fun k a b e => by cases e; exact ⟨_, rfl, rfl, fun w => by simp [binOp, Op.intCmp, ltF_eq, le_not_lt]⟩
    · exact T h fun a b e => by cases e; exact ⟨_, rfl, rfl, fun w => by simp [binOp, Op.stringOp]⟩
  | gtr =>
    rcases either_some (show either _ _ = some v from h) with h | h
    · exact I h fun k a b e => by cases e; exact ⟨_, rfl, rfl, fun w => by simp [binOp, Op.intCmp, ltF_eq]⟩
    · exact T h fun a b e => by cases e; exact ⟨_, rfl, rfl, fun w => by simp [binOp, Op.stringOp]⟩
  | geq =>
    rcases either_some (show either _ _ = some v from h) with h | h
    · exact I h fun k a b e => by cases e; exact ⟨_, rfl, rfl, fun w => by simp [binOp, Op.intCmp, ltF_eq, le_not_lt]⟩
    · exact T h fun a b e => by cases e; exact ⟨_, rfl, rfl, fun w => by simp [binOp, Op.stringOp]⟩
end
end Go.Abs
namespace Go.Abs
noncomputable section
set_option linter.unusedSectionVars false
variable [Tok]
set_option linter.unusedVariables false
set_option linter.unusedSimpArgs false
variable {P : Program}

/-! ### laying cells over cells -/
theorem foldl_lay : ∀ (vs : List Value) (off k : Nat) (xs : Array Value), off + k + vs.length ≤ xs.size →
    ((vs.zipIdx k).foldl (fun (cs : Array Value) (p : Value × Nat) => cs.setIfInBounds (off + p.2) p.1) xs).toList = xs.toList.take (off + k) ++ (vs ++ xs.toList.drop (off + k + vs.length))
  | [], off, k, xs, h => by simp
  | v :: vs, off, k, xs, h => by
    simp only [List.zipIdx_cons, List.foldl_cons]
    rw [foldl_lay vs off (k + 1) (xs.setIfInBounds (off + k) v) (by simp at h ⊢; omega)]
    simp only [List.length_cons] at h
    have e := list_seg_step xs.toList (off + k) v vs (by simp; omega)
    simp only [Array.toList_setIfInBounds]
    have e' : (xs.toList.set (off + k) v).take (off + k + 1) ++ vs ++ (xs.toList.set (off + k) v).drop (off + k + 1 + vs.length) = xs.toList.take (off + k) ++ v :: vs ++ xs.toList.drop (off + k + (vs.length + 1)) := e
    rw [show off + (k + 1) = off + k + 1 by omega, ← List.append_assoc, e']
    simp

theorem lay_array (vs : Array Value) (off : Nat) (xs : Array Value) (h : off + vs.size ≤ xs.size) :
    (vs.zipIdx.foldl (fun (cs : Array Value) (p : Value × Nat) => cs.setIfInBounds (off + p.2) p.1) xs).toList = xs.toList.take off ++ (vs.toList ++ xs.toList.drop (off + vs.size)) := by
  have := foldl_lay vs.toList off 0 xs (by simpa using h)
  rw [← Array.foldl_toList, Array.toList_zipIdx]
  simpa using this

theorem VL.lay {ρ : Ren} {cs vs : List AV} {xs ys : List Value} (h : VL ρ cs xs) (k : VL ρ vs ys) (off : Nat) :
    VL ρ (setRange cs off vs) (xs.take off ++ (ys ++ xs.drop (off + ys.length))) := by
  rw [setRange_eq, k.length]
  exact (h.take off).append (k.append (h.drop _))

theorem fill_sound {ρ : Ren} {F : Fr} {a : Act} (hF : FR ρ F a.tmps) {place : Nat → Option (Nat × Nat)} :
    ∀ (l : List (Nat × Operand)) {ps : List (Nat × Nat × AV)} {cs cs' : List AV} {xs : Array Value}, partsOf F place l = some ps → fillP cs ps = some cs' → VL ρ cs xs.toList → (∀ x ∈ xs.toList, x.oneCell' = true) →
      ∃ xs' : Array Value, Instr.fill place xs (l.map fun p => (p.1, a.eval p.2)) = some xs' ∧ VL ρ cs' xs'.toList ∧ ∀ x ∈ xs'.toList, x.oneCell' = true
  | [], ps, cs, cs', xs, hp, hf, hv, h1 => by
    simp only [partsOf, Option.some.injEq] at hp
    subst hp
    simp only [fillP, Option.some.injEq] at hf
    subst hf
    exact ⟨xs, rfl, hv, h1⟩
  | (i, x) :: r, ps, cs, cs', xs, hp, hf, hv, h1 => by
    simp only [partsOf] at hp
    cases hpl : place i with
    | none => simp [hpl] at hp
    | some q =>
      obtain ⟨off, size⟩ := q
      cases hr : partsOf F place r with
      | none => simp [hpl, hr] at hp
      | some ps' =>
        simp only [hpl, hr, Option.some.injEq] at hp
        subst hp
        simp only [fillP] at hf
        split at hf
        · next hc =>
          simp only [Bool.and_eq_true, Bool.not_eq_true'] at hc
          obtain ⟨⟨ho, hs⟩, hl⟩ := hc
          have hs' : lenL (F.ev x).cells = size := Nat.eq_of_beq_eq_true hs
          have hl' : off + size ≤ lenL cs := Nat.le_of_ble_eq_true hl
          rw [lenL_eq] at hs' hl'
          obtain ⟨hc1, hc2⟩ := (ev_sound hF x).cellsL ho
          have hsz : (a.eval x).cells.size = size := by rw [← hs', hc1.length]; simp
          have hxs : cs.length = xs.size := by rw [hv.length]; simp
          have hb : ¬ ((decide ((a.eval x).cells.size ≠ size) || decide (off + (a.eval x).cells.size > xs.size)) = true) := by
            simp only [Bool.or_eq_true, ne_eq, decide_eq_true_eq]
            rintro (h | h)
            · exact h hsz
            · omega
          have hlay := lay_array (a.eval x).cells off xs (by omega)
          have hv' : VL ρ (setRange cs off (F.ev x).cells) ((a.eval x).cells.zipIdx.foldl (fun (cs : Array Value) (p : Value × Nat) => cs.setIfInBounds (off + p.2) p.1) xs).toList := by
            rw [hlay]
            simpa using hv.lay hc1 off
          have h1' : ∀ y ∈ ((a.eval x).cells.zipIdx.foldl (fun (cs : Array Value) (p : Value × Nat) => cs.setIfInBounds (off + p.2) p.1) xs).toList, y.oneCell' = true := by
            rw [hlay]
            intro y hy
            rcases List.mem_append.1 hy with hy | hy
            · exact h1 y (List.mem_of_mem_take hy)
            · rcases List.mem_append.1 hy with hy | hy
              · exact hc2 y hy
              · exact h1 y (List.mem_of_mem_drop hy)
          obtain ⟨xs', e1, e2, e3⟩ := fill_sound hF r hr hf hv' h1'
          refine ⟨xs', ?_, e2, e3⟩
          simp only [List.map_cons, Instr.fill, hpl]
          rw [if_neg hb]
          exact e1
        · cases hf

theorem zeroT_some {t : TypeId} {z : AV} (h : zeroT P t = some z) : ∃ i zv, P.info? t = some i ∧ i.zero = some zv ∧ ofV 50 zv = some z := by
  unfold zeroT at h
  cases hi : P.info? t with
  | none => simp [hi] at h
  | some i =>
    cases hz : i.zero with
    | none => simp [hi, hz] at h
    | some zv => simp [hi, hz] at h; exact ⟨i, zv, rfl, hz, h⟩
theorem sizeT_some {t : TypeId} {n : Nat} (h : sizeT P t = some n) : ∃ i, P.info? t = some i ∧ i.size = n := by
  unfold sizeT at h
  cases hi : P.info? t with
  | none => simp [hi] at h
  | some i => simp [hi] at h; exact ⟨i, rfl, h⟩
theorem run_sizeT {t : TypeId} {n : Nat} (h : sizeT P t = some n) (w : World) : (sizeOf t).run P w = .ok n w := by
  obtain ⟨i, h1, h2⟩ := sizeT_some h
  simp [sizeOf, typeInfo, h1, h2]
theorem isAggT_some {t : TypeId} {g : Bool} (h : isAggT P t = some g) (w : World) : (isAgg t).run P w = .ok g w := by
  unfold isAggT at h
  cases hu : P.underlying t with
  | none => simp [hu] at h
  | some d =>
    unfold isAgg
    rw [Sem.run_bind, run_underlying hu w]
    cases d <;> simp_all
/-- a constant of a struct: its cells -/
theorem ofV_cells {ρ : Ren} {zv : Value} {z : AV} (h : ofV 50 zv = some z) (ho : odd z = false) : VL ρ z.cells zv.cells.toList ∧ ∀ y ∈ zv.cells.toList, y.oneCell' = true :=
  (ofV_sound (ρ := ρ) h).cellsL ho

/-! ### one operation: what reads no memory -/
section ops
variable {ρ : Ren} {F : Fr} {a : Act} {o : Oper}

/-- its value, in whatever world -/
def Yields (P : Program) (ρ : Ren) (a : Act) (o : Oper) (v : AV) : Prop := ∃ x, V ρ v x ∧ ∀ w, (execOp a.eval o).run P w = .ok (.value x) w

theorem y_pick (hF : FR ρ F a.tmps) {c x y : Operand} {v : AV} (ho : o.op = .pick c x y) (h : pPick (F.ev c) (F.ev x) (F.ev y) = some v) : Yields P ρ a o v := by
  unfold pPick at h
  cases hb : asBool (F.ev c) with
  | none => simp [hb] at h
  | some b =>
    have hc := (asBool_some hb ▸ ev_sound hF c).bool_inv
    cases b
    · simp [hb] at h; subst h
      exact ⟨_, ev_sound hF y, fun w => by simp [execOp, ho, hc, Go.asBool]⟩
    · simp [hb] at h; subst h
      exact ⟨_, ev_sound hF x, fun w => by simp [execOp, ho, hc, Go.asBool]⟩

theorem y_bin (hF : FR ρ F a.tmps) {op : BinOp} {t u : TypeId} {x y : Operand} {v : AV} (ho : o.op = .binOp op t x y u) (h : abin op (F.ev x) (F.ev y) = some v) : Yields P ρ a o v := by
  rcases abin_ok (P := P) (t := t) h with ⟨k, m, n, r, e1, e2, rfl, hs, hr⟩ | ⟨k, m, k', n, r, e1, e2, rfl, hs, hr⟩ | ⟨m, n, r, e1, e2, rfl, hs, hr⟩
  · have hx := (e1 ▸ ev_sound hF x).int_inv
    have hy := (e2 ▸ ev_sound hF y).int_inv
    exact ⟨r, .sc hs, fun w => by simp [execOp, ho, hx, hy, run_guard_int, hr]⟩
  · have hx := (e1 ▸ ev_sound hF x).int_inv
    have hy := (e2 ▸ ev_sound hF y).int_inv
    exact ⟨r, .sc hs, fun w => by simp [execOp, ho, hx, hy, run_guard_int, hr]⟩
  · have hx := (e1 ▸ ev_sound hF x).sc_inv.1
    have hy := (e2 ▸ ev_sound hF y).sc_inv.1
    exact ⟨r, .sc hs, fun w => by simp [execOp, ho, hx, hy, run_guard_str, hr]⟩

theorem y_un (hF : FR ρ F a.tmps) {op : UnOp} {t : TypeId} {x : Operand} {v : AV} (ho : o.op = .unOp op t x) (h : pUn P op (F.ev x) = some v) : Yields P ρ a o v := by
  unfold pUn at h
  cases hb : asBool (F.ev x) with
  | some b =>
    have hx := (asBool_some hb ▸ ev_sound hF x).bool_inv
    simp only [hb] at h
    split at h
    · cases h
      exact ⟨_, .sc rfl, fun w => by simp [execOp, ho, hx, Op.unary]⟩
    · cases h
  | none =>
    simp only [hb] at h
    split at h
    · next u hu =>
      have hx := (hu ▸ ev_sound hF x).sc_inv.1
      unfold pUnV at h
      cases hp : pureRun P (Op.unary op u) with
      | none => simp [hp] at h
      | some r =>
        simp only [hp] at h
        split at h
        · next hs =>
          cases h
          have hr := pureRun_sound hp
          exact ⟨r, .sc hs, fun w => by simp [execOp, ho, hx, hr]⟩
        · cases h
    · cases h

theorem y_conv (hF : FR ρ F a.tmps) {s t : TypeId} {j k : IntKind} {x : Operand} {v : AV} (ho : o.op = .convert s t x) (hs : P.underlying s = some (.int j)) (ht : P.underlying t = some (.int k))
    (h : pConv k (F.ev x) = some v) : Yields P ρ a o v := by
  unfold pConv at h
  cases hi : asInt (F.ev x) with
  | none => simp [hi] at h
  | some p =>
    obtain ⟨k', n⟩ := p
    simp [hi] at h
    subst h
    have hx := (asInt_some hi ▸ ev_sound hF x).int_inv
    exact ⟨.int k (k.wrap n), by rw [wrapF_eq]; exact .sc rfl, fun w => by simp [execOp, ho, hx, convert, run_underlying hs, run_underlying ht, Conv.intToInt]⟩

/-- a part of cells -/
theorem mkPart_sound {cs : List AV} {xs : List Value} {t : TypeId} {n off : Nat} {g : Bool} {v : AV} (hn : sizeT P t = some n) (hg : isAggT P t = some g) (hc : VL ρ cs xs) (h1 : ∀ x ∈ xs, x.oneCell' = true)
    (h : mkPart g cs off n = some v) : ∃ x, V ρ v x ∧ ∀ w, (part t xs.toArray off).run P w = .ok x w := by
  unfold mkPart at h
  cases g with
  | true =>
    simp only at h
    split at h
    · next hl =>
      cases h
      have hl' : off + n ≤ lenL cs := Nat.le_of_ble_eq_true hl
      rw [lenL_eq] at hl'
      refine ⟨.agg ((xs.drop off).take n).toArray, ?_, fun w => ?_⟩
      · rw [takeL_eq, dropL_eq]
        exact .agg ((hc.drop _).take _) fun x hx => h1 x (List.mem_of_mem_drop (List.mem_of_mem_take hx))
      · simp only [part, Sem.run_bind, isAggT_some hg, Result.andThen_ok, if_true, run_sizeT hn, Sem.run_pure]
        congr 2
        apply Array.ext'
        simp [List.extract_eq_take_drop]
    · cases h
  | false =>
    simp only [nthO_eq] at h
    obtain ⟨x, e1, e2⟩ := hc.get h
    exact ⟨x, e2, fun w => by simp [part, Sem.run_bind, isAggT_some hg, e1]⟩

theorem y_field (hF : FR ρ F a.tmps) {t : TypeId} {fields : Array Field} {fd : Field} {i n : Nat} {g : Bool} {x : Operand} {v : AV} (ho : o.op = .field t x i) (ht : P.underlying t = some (.struct fields))
    (hf : fields[i]? = some fd) (hn : sizeT P fd.type = some n) (hg : isAggT P fd.type = some g) (h : pPart fd.offset n g (F.ev x) = some v) : Yields P ρ a o v := by
  unfold pPart at h
  cases ha : asAgg (F.ev x) with
  | none => simp [ha] at h
  | some cs =>
    simp only [ha] at h
    obtain ⟨xs, hx, hv, h1⟩ := (asAgg_some ha ▸ ev_sound hF x).agg_inv
    obtain ⟨y, hy, hr⟩ := mkPart_sound hn hg hv h1 h
    exact ⟨y, hy, fun w => by simp [execOp, ho, Instr.field, run_underlying ht, hf, hx, Go.asAgg, hr]⟩

theorem y_aidx (hF : FR ρ F a.tmps) {t e : TypeId} {len n : Nat} {g : Bool} {x i : Operand} {v : AV} (ho : o.op = .index t x i) (ht : P.underlying t = some (.array len e))
    (hn : sizeT P e = some n) (hg : isAggT P e = some g) (h : pAidx len n g (F.ev x) (F.ev i) = some v) : Yields P ρ a o v := by
  unfold pAidx at h
  cases ha : asAgg (F.ev x) with
  | none => simp [ha] at h
  | some cs =>
    cases hi : idx? (F.ev i) len with
    | none => simp [ha, hi] at h
    | some j =>
      simp only [ha, hi] at h
      obtain ⟨xs, hx, hv, h1⟩ := (asAgg_some ha ▸ ev_sound hF x).agg_inv
      obtain ⟨k, hk, hj⟩ := idx?_some hi
      have hix := (hk ▸ ev_sound hF i).int_inv
      obtain ⟨y, hy, hr⟩ := mkPart_sound hn hg hv h1 h
      refine ⟨y, hy, fun w => ?_⟩
      have h0 : (0 : Int) ≤ (j : Int) ∧ (j : Int) < (len : Int) := by omega
      simp only [execOp, ho, Instr.index, hix, asIntOf, Sem.run_bind, Sem.run_pure, Result.andThen_ok, run_underlying ht, hx, h0, and_self, if_true, run_sizeT hn, Int.toNat_natCast, hr]
      rw [show Nat.mul j n = j * n from rfl] at hr
      simp [hr]

theorem y_extract (hF : FR ρ F a.tmps) {i : Nat} {x : Operand} {v : AV} (ho : o.op = .extract x i) (h : pExtract i (F.ev x) = some v) : Yields P ρ a o v := by
  unfold pExtract at h
  cases ha : asTup (F.ev x) with
  | none => simp [ha] at h
  | some cs =>
    simp only [ha, nthO_eq] at h
    obtain ⟨xs, hx, hv⟩ := (asTup_some ha ▸ ev_sound hF x).tup_inv
    obtain ⟨y, e1, e2⟩ := hv.get h
    exact ⟨y, e2, fun w => by simp [execOp, ho, Instr.extract, hx, e1]⟩

theorem y_nilchk (hF : FR ρ F a.tmps) {x : Operand} {v : AV} (ho : o.op = .nilCheck x) (h : pNilchk (F.ev x) = some v) : Yields P ρ a o v := by
  unfold pNilchk at h
  cases hl : live (F.ev x) with
  | false => simp [hl] at h
  | true =>
    simp only [hl, Option.some.injEq] at h
    subst h
    have hv := ev_sound hF x
    refine ⟨_, hv, fun w => ?_⟩
    generalize hx : a.eval x = y at *
    generalize F.ev x = u at *
    cases hv with
    | sc hs => cases y <;> first | (simp [scalar] at hs; done) | (cases hl; done) | simp [execOp, ho, hx]
    | fn hf h1 h2 =>
      rename_i f c d c' d'
      cases f <;> first | (cases hf; done) | (cases hl; done) | simp [execOp, ho, hx]
    | no => cases hl
    | tok => cases hl
    | _ => simp [execOp, ho, hx]
end ops
end
end Go.Abs
namespace Go.Abs
noncomputable section
set_option linter.unusedSectionVars false
variable [Tok]
set_option linter.unusedVariables false
set_option linter.unusedSimpArgs false
variable {P : Program} {ρ : Ren} {F : Fr} {a : Act} {o : Oper}

/-! ### '==' -/
theorem run_guard_eq {op : BinOp} (hop : op = .eql ∨ op = .neq) {t : TypeId} {x y : Operand} {u v : Value} {w : World}
    (h : (eqGuard .eql t (.tmp 0) (.tmp 0) u v).run P w = .ok () w) : (eqGuard op t x y u v).run P w = .ok () w := by
  have hx : (eqGuard op t x y u v).run P w = .ok () w ∨ (eqGuard op t x y u v).run P w = (eqGuard .eql t (.tmp 0) (.tmp 0) u v).run P w := by
    rcases hop with rfl | rfl
    all_goals
      unfold eqGuard
      cases u <;> cases v <;> first | (right; rfl) | skip
      cases x <;> cases y <;> first | (left; rfl) | (right; rfl)
  rcases hx with hx | hx
  · exact hx
  · rw [hx, h]

theorem binOp_eq {op : BinOp} (hop : op = .eql ∨ op = .neq) {t : TypeId} {u v : Value} (h : (noNum u && noNum v) = true) :
    binOp op t u v = (do let r ← Op.equal t u v; pure (.bool (if op = .eql then r else !r))) := by
  rcases hop with rfl | rfl
  all_goals cases u <;> cases v <;> first | rfl | (simp [noNum] at h)

/-- the answer of '==' on two values, with the guard ahead -/
theorem run_eq {op : BinOp} (hop : op = .eql ∨ op = .neq) {t : TypeId} {x y : Operand} {u v : Value} {r : Bool} (h : (noNum u && noNum v) = true)
    {w : World} (hg : (eqGuard .eql t (.tmp 0) (.tmp 0) u v).run P w = .ok () w) (he : (Op.equal t u v).run P w = .ok r w) :
    (do eqGuard op t x y u v; binOp op t u v : Sem Value).run P w = .ok (.bool (if op = .eql then r else !r)) w := by
  rw [Sem.run_bind, run_guard_eq hop hg, Result.andThen_ok, binOp_eq hop h, Sem.run_bind, he]
  rcases hop with rfl | rfl <;> rfl

theorem run_guard_free {t : TypeId} {u v : Value} (h : (∀ cs ds, ¬ (u = .agg cs ∧ v = .agg ds)) ∧ ¬ (u = .nilIface ∧ v = .nilIface)) (w : World) :
    (eqGuard .eql t (.tmp 0) (.tmp 0) u v).run P w = .ok () w := by
  cases u <;> cases v <;> first | rfl | (exact absurd ⟨rfl, rfl⟩ (h.1 _ _)) | (exact absurd ⟨rfl, rfl⟩ h.2)

theorem typc_1 {t : TypeId} (h : typc P t = 1) : ∃ e, P.underlying t = some (.pointer e) := by
  unfold typc at h; split at h <;> first | (exact ⟨_, ‹_›⟩) | (simp at h)
theorem typc_2 {t : TypeId} (h : typc P t = 2) : ∃ e, P.underlying t = some (.slice e) := by
  unfold typc at h; split at h <;> first | (exact ⟨_, ‹_›⟩) | (simp at h)
theorem typc_3 {t : TypeId} (h : typc P t = 3) : ∃ k e, P.underlying t = some (.map k e) := by
  unfold typc at h; split at h <;> first | (exact ⟨_, _, ‹_›⟩) | (simp at h)
theorem typc_4 {t : TypeId} (h : typc P t = 4) : ∃ k e v, P.underlying t = some (.func k e v) := by
  unfold typc at h; split at h <;> first | (exact ⟨_, _, _, ‹_›⟩) | (simp at h)
theorem typc_5 {t : TypeId} (h : typc P t = 5) : ∃ ms, P.underlying t = some (.interface ms) := by
  unfold typc at h; split at h <;> first | (exact ⟨_, ‹_›⟩) | (simp at h)

/-- which nil -/
theorem nilc_inv {x : AV} {v : Value} (h : V ρ x v) : nilc x = 0 ∨ (nilc x = 1 ∧ v = .pointer none) ∨ (nilc x = 2 ∧ ∃ n c, v = .slice none n c) ∨ (nilc x = 3 ∧ v = .map none) ∨ (nilc x = 4 ∧ v = .nilFunc) ∨ (nilc x = 5 ∧ v = .nilIface) := by
  cases h with
  | sc h =>
    cases v <;> first | (exact .inl rfl) | skip
    case pointer p => cases p <;> first | (exact .inl rfl) | (exact .inr (.inl ⟨rfl, rfl⟩))
    case slice p n c => cases p <;> first | (exact .inl rfl) | (exact .inr (.inr (.inl ⟨rfl, _, _, rfl⟩)))
    case map p => cases p <;> first | (exact .inl rfl) | (exact .inr (.inr (.inr (.inl ⟨rfl, rfl⟩))))
    case nilFunc => exact .inr (.inr (.inr (.inr (.inl ⟨rfl, rfl⟩))))
    case nilIface => exact .inr (.inr (.inr (.inr (.inr ⟨rfl, rfl⟩))))
  | _ => exact .inl rfl
theorem refc_inv {x : AV} {v : Value} (h : V ρ x v) : refc x = 0 ∨ (refc x = 1 ∧ ∃ p, v = .pointer (some p)) ∨ (refc x = 2 ∧ ∃ p n c, v = .slice (some p) n c) ∨ (refc x = 3 ∧ ∃ r, v = .map (some r)) ∨ (refc x = 4 ∧ ∃ f b c, v = .func f b c) ∨ (refc x = 5 ∧ ∃ t u, v = .iface t u) := by
  cases h with
  | ptr _ => exact .inr (.inl ⟨rfl, _, rfl⟩)
  | sl _ => exact .inr (.inr (.inl ⟨rfl, _, _, _, rfl⟩))
  | op _ _ _ _ => exact .inr (.inr (.inl ⟨rfl, _, _, _, rfl⟩))
  | opE _ => exact .inr (.inr (.inl ⟨rfl, _, _, _, rfl⟩))
  | map _ => exact .inr (.inr (.inr (.inl ⟨rfl, _, rfl⟩)))
  | fn _ _ _ => exact .inr (.inr (.inr (.inr (.inl ⟨rfl, _, _, _, rfl⟩))))
  | yd _ => exact .inr (.inr (.inr (.inr (.inl ⟨rfl, _, _, _, rfl⟩))))
  | iface _ => exact .inr (.inr (.inr (.inr (.inr ⟨rfl, _, _, rfl⟩))))
  | _ => exact .inl rfl

theorem aeq_sound {t : TypeId} {x y : AV} {u v : Value} {r : Bool} (h : aeq P t x y = some r) (hx : V ρ x u) (hy : V ρ y v) :
    (noNum u && noNum v) = true ∧ ∀ w, (eqGuard .eql t (.tmp 0) (.tmp 0) u v).run P w = .ok () w ∧ (Op.equal t u v).run P w = .ok r w := by
  unfold aeq at h
  split at h
  · next hc =>
    cases h
    simp only [Bool.and_eq_true] at hc
    obtain ⟨⟨h0, h1⟩, h2⟩ := hc
    have h0 := Nat.le_of_ble_eq_true h0
    have h1 := Nat.eq_of_beq_eq_true h1
    have h2 := Nat.eq_of_beq_eq_true h2
    rcases nilc_inv hx with e | ⟨e, rfl⟩ | ⟨e, n, c, rfl⟩ | ⟨e, rfl⟩ | ⟨e, rfl⟩ | ⟨e, rfl⟩
    · omega
    all_goals rcases refc_inv hy with e' | ⟨e', p, rfl⟩ | ⟨e', p, m, d, rfl⟩ | ⟨e', p, rfl⟩ | ⟨e', f, b, c, rfl⟩ | ⟨e', q, z, rfl⟩ <;> try (exfalso; omega)
    · obtain ⟨e, hu⟩ := typc_1 (h2.symm.trans ‹_›)
      exact ⟨rfl, fun w => ⟨run_guard_free ⟨by simp, by simp⟩ w, by show (Op.equalIn (9999 + 1) t _ _).run P w = _; generalize 9999 = d9; simp [Op.equalIn, run_underlying hu]⟩⟩
    · obtain ⟨e, hu⟩ := typc_2 (h2.symm.trans ‹_›)
      exact ⟨rfl, fun w => ⟨run_guard_free ⟨by simp, by simp⟩ w, by show (Op.equalIn (9999 + 1) t _ _).run P w = _; generalize 9999 = d9; simp [Op.equalIn, run_underlying hu]⟩⟩
    · obtain ⟨k, e, hu⟩ := typc_3 (h2.symm.trans ‹_›)
      exact ⟨rfl, fun w => ⟨run_guard_free ⟨by simp, by simp⟩ w, by show (Op.equalIn (9999 + 1) t _ _).run P w = _; generalize 9999 = d9; simp [Op.equalIn, run_underlying hu]⟩⟩
    · obtain ⟨k, e, _, hu⟩ := typc_4 (h2.symm.trans ‹_›)
      exact ⟨rfl, fun w => ⟨run_guard_free ⟨by simp, by simp⟩ w, by show (Op.equalIn (9999 + 1) t _ _).run P w = _; generalize 9999 = d9; simp [Op.equalIn, run_underlying hu]⟩⟩
    · obtain ⟨k, hu⟩ := typc_5 (h2.symm.trans ‹_›)
      exact ⟨rfl, fun w => ⟨run_guard_free ⟨by simp, by simp⟩ w, by show (Op.equalIn (9999 + 1) t _ _).run P w = _; generalize 9999 = d9; simp [Op.equalIn, run_underlying hu]⟩⟩
  · split at h
    · next hc =>
      cases h
      simp only [Bool.and_eq_true] at hc
      obtain ⟨⟨h0, h1⟩, h2⟩ := hc
      have h0 := Nat.le_of_ble_eq_true h0
      have h1 := Nat.eq_of_beq_eq_true h1
      have h2 := Nat.eq_of_beq_eq_true h2
      rcases nilc_inv hy with e | ⟨e, rfl⟩ | ⟨e, n, c, rfl⟩ | ⟨e, rfl⟩ | ⟨e, rfl⟩ | ⟨e, rfl⟩
      · omega
      all_goals rcases refc_inv hx with e' | ⟨e', p, rfl⟩ | ⟨e', p, m, d, rfl⟩ | ⟨e', p, rfl⟩ | ⟨e', f, b, c, rfl⟩ | ⟨e', q, z, rfl⟩ <;> try (exfalso; omega)
      · obtain ⟨e, hu⟩ := typc_1 (h2.symm.trans ‹_›)
        exact ⟨rfl, fun w => ⟨run_guard_free ⟨by simp, by simp⟩ w, by show (Op.equalIn (9999 + 1) t _ _).run P w = _; generalize 9999 = d9; simp [Op.equalIn, run_underlying hu]⟩⟩
      · obtain ⟨e, hu⟩ := typc_2 (h2.symm.trans ‹_›)
        exact ⟨rfl, fun w => ⟨run_guard_free ⟨by simp, by simp⟩ w, by show (Op.equalIn (9999 + 1) t _ _).run P w = _; generalize 9999 = d9; simp [Op.equalIn, run_underlying hu]⟩⟩
      · obtain ⟨k, e, hu⟩ := typc_3 (h2.symm.trans ‹_›)
        exact ⟨rfl, fun w => ⟨run_guard_free ⟨by simp, by simp⟩ w, by show (Op.equalIn (9999 + 1) t _ _).run P w = _; generalize 9999 = d9; simp [Op.equalIn, run_underlying hu]⟩⟩
      · obtain ⟨k, e, _, hu⟩ := typc_4 (h2.symm.trans ‹_›)
        exact ⟨rfl, fun w => ⟨run_guard_free ⟨by simp, by simp⟩ w, by show (Op.equalIn (9999 + 1) t _ _).run P w = _; generalize 9999 = d9; simp [Op.equalIn, run_underlying hu]⟩⟩
      · obtain ⟨k, hu⟩ := typc_5 (h2.symm.trans ‹_›)
        exact ⟨rfl, fun w => ⟨run_guard_free ⟨by simp, by simp⟩ w, by show (Op.equalIn (9999 + 1) t _ _).run P w = _; generalize 9999 = d9; simp [Op.equalIn, run_underlying hu]⟩⟩
    · split at h
      · next hc =>
        cases h
        simp only [Bool.and_eq_true] at hc
        obtain ⟨⟨⟨h0, h4⟩, h1⟩, h2⟩ := hc
        have h0 := Nat.le_of_ble_eq_true h0
        have h4 := Nat.le_of_ble_eq_true h4
        have h1 := Nat.eq_of_beq_eq_true h1
        have h2 := Nat.eq_of_beq_eq_true h2
        rcases nilc_inv hx with e | ⟨e, rfl⟩ | ⟨e, n, c, rfl⟩ | ⟨e, rfl⟩ | ⟨e, rfl⟩ | ⟨e, rfl⟩
        · omega
        all_goals rcases nilc_inv hy with e' | ⟨e', rfl⟩ | ⟨e', m, d, rfl⟩ | ⟨e', rfl⟩ | ⟨e', rfl⟩ | ⟨e', rfl⟩ <;> try (exfalso; omega)
        · obtain ⟨e, hu⟩ := typc_1 (h2.symm.trans ‹_›)
          exact ⟨rfl, fun w => ⟨run_guard_free ⟨by simp, by simp⟩ w, by show (Op.equalIn (9999 + 1) t _ _).run P w = _; generalize 9999 = d9; simp [Op.equalIn, run_underlying hu]⟩⟩
        · obtain ⟨e, hu⟩ := typc_2 (h2.symm.trans ‹_›)
          exact ⟨rfl, fun w => ⟨run_guard_free ⟨by simp, by simp⟩ w, by show (Op.equalIn (9999 + 1) t _ _).run P w = _; generalize 9999 = d9; simp [Op.equalIn, run_underlying hu]⟩⟩
        · obtain ⟨k, e, hu⟩ := typc_3 (h2.symm.trans ‹_›)
          exact ⟨rfl, fun w => ⟨run_guard_free ⟨by simp, by simp⟩ w, by show (Op.equalIn (9999 + 1) t _ _).run P w = _; generalize 9999 = d9; simp [Op.equalIn, run_underlying hu]⟩⟩
        · obtain ⟨k, e, _, hu⟩ := typc_4 (h2.symm.trans ‹_›)
          exact ⟨rfl, fun w => ⟨run_guard_free ⟨by simp, by simp⟩ w, by show (Op.equalIn (9999 + 1) t _ _).run P w = _; generalize 9999 = d9; simp [Op.equalIn, run_underlying hu]⟩⟩
      · unfold aeqS at h
        split at h
        · next i p hp =>
          split at h
          · next j q hq =>
            split at h
            · next hc =>
              cases h
              simp only [Bool.and_eq_true] at hc
              have hij := Nat.eq_of_beq_eq_true hc.1
              subst hij
              have hok := hc.2
              unfold ptrOk at hok
              split at hok
              · next e hu =>
                split at hok
                · next inf hi =>
                  have hsz := Nat.le_of_ble_eq_true hok
                  obtain ⟨b, o1, l, hb, rfl⟩ := (asPtr_some hp ▸ hx).ptr_inv
                  obtain ⟨b', o2, l', hb', rfl⟩ := (asPtr_some hq ▸ hy).ptr_inv
                  rw [hb] at hb'
                  cases hb'
                  refine ⟨rfl, fun w => ⟨run_guard_free ⟨by simp, by simp⟩ w, ?_⟩⟩
                  have hne : ¬ inf.size = 0 := by omega
                  have e1 : (Nat.beq p q) = ((⟨b, o1 + p, none⟩ : Addr) == ⟨b, o1 + q, none⟩) := by
                    rw [Bool.eq_iff_iff, Nat.beq_eq, beq_iff_eq]
                    constructor
                    · rintro rfl; rfl
                    · intro h; injection h with h1 h2; omega
                  show (Op.equalIn (9999 + 1) t _ _).run P w = _
                  generalize 9999 = d9
                  simp [Op.equalIn, run_underlying hu, sizeOf, typeInfo, hi, hne, sameAddr, e1]
                · cases hok
              · cases hok
            · cases h
          · cases h
        · split at h
          · next c d hc hd =>
            split at h
            · next hn =>
              have ex := toV_sound hc hx
              have ey := toV_sound hd hy
              subst ex ey
              split at h
              · next hg => exact ⟨hn, fun w => ⟨pureRun_sound hg w, pureRun_sound h w⟩⟩
              · cases h
            · cases h
          · cases h

theorem y_eq (hF : FR ρ F a.tmps) {op : BinOp} {t u : TypeId} {x y : Operand} {v : AV} {n : Bool} (hop : (op = .eql ∧ n = false) ∨ (op = .neq ∧ n = true)) (ho : o.op = .binOp op t x y u)
    (h : pEq P t n (F.ev x) (F.ev y) = some v) : Yields P ρ a o v := by
  unfold pEq at h
  cases hr : aeq P t (F.ev x) (F.ev y) with
  | none => simp [hr] at h
  | some r =>
    simp [hr] at h
    obtain ⟨h1, h2⟩ := aeq_sound hr (ev_sound hF x) (ev_sound hF y)
    rcases hop with ⟨rfl, rfl⟩ | ⟨rfl, rfl⟩
    · subst h
      refine ⟨.bool r, .sc rfl, fun w => ?_⟩
      have := run_eq (op := .eql) (x := x) (y := y) (.inl rfl) h1 (h2 w).1 (h2 w).2
      simp only [execOp, ho]
      rw [Sem.run_bind, this]
      rfl
    · subst h
      refine ⟨.bool (!r), .sc rfl, fun w => ?_⟩
      have := run_eq (op := .neq) (x := x) (y := y) (.inr rfl) h1 (h2 w).1 (h2 w).2
      simp only [execOp, ho]
      rw [Sem.run_bind, this]
      rfl
end
end Go.Abs
namespace Go.Abs
noncomputable section
set_option linter.unusedSectionVars false
variable [Tok]
set_option linter.unusedVariables false
set_option linter.unusedSimpArgs false
variable {P : Program} {ρ : Ren} {F : Fr} {a : Act} {o : Oper}

theorem missing_iff {want : Array (String × TypeId)} {got : Array Method} : Instr.missingMethod want got = none ↔ hasAll want got = true := by
  unfold Instr.missingMethod hasAll
  generalize hl : want.toList.filter (fun (x : String × TypeId) => match x with | (name, sig) => !got.any fun m => m.name == name && m.sig == sig) = l
  have hl' : l = [] ↔ (want.toList.all fun x => got.toList.any fun m => m.name == x.1 && m.sig == x.2) = true := by
    rw [← hl, List.filter_eq_nil_iff, List.all_eq_true]
    constructor
    · intro h x hx
      have := h x hx
      simpa using this
    · intro h x hx
      have := h x hx
      simpa using this
  rw [← hl']
  cases l with
  | nil => simp [Instr.least]
  | cons a r =>
    simp only [List.map_cons, reduceCtorEq, iff_false]
    intro h
    cases hc : (a.1.contains (Char.ofNat 46)) with
    | true =>
      rw [List.partition_eq_filter_filter] at h
      simp only [List.filter_cons, hc, if_true] at h
      cases he : (Instr.least (List.filter (not ∘ fun x => x.contains (Char.ofNat 46)) (a.1 :: r.map (·.1)))) with
      | none => simp_all [Instr.least]
      | some _ => simp_all [Instr.least]
    | false =>
      rw [List.partition_eq_filter_filter] at h
      simp_all [List.filter_cons, Instr.least]
theorem addr_add (b o n : Nat) : (⟨b, o, none⟩ : Addr).add n = ⟨b, o + n, none⟩ := Addr.add_mid b o n

theorem zeroC_some {t : TypeId} {zc : List AV} (h : zeroC P t = some zc) : ∃ z, zeroT P t = some z ∧ odd z = false ∧ zc = z.cells := by
  unfold zeroC at h
  split at h
  · next z hz =>
    split at h
    · cases h
    · next ho => cases h; exact ⟨z, hz, by simpa using ho, rfl⟩
  · cases h

theorem y_build (hF : FR ρ F a.tmps) {t : TypeId} {parts : Array (Nat × Operand)} {z : AV} {zc : List AV} {ps : List (Nat × Nat × AV)} {v : AV} {place : Nat → Option (Nat × Nat)} (ho : o.op = .build t parts)
    (hzc : zeroC P t = some zc)
    (hplace : (∃ e n, P.underlying t = some (.array n e) ∧ ∃ s, sizeT P e = some s ∧ place = fun i => some (i * s, s)) ∨
      (∃ fields places, P.underlying t = some (.struct fields) ∧ fields.toList.mapM (fun f => (P.info? f.type).map fun i => (f.offset, i.size)) = some places ∧ place = fun i => places[i]?))
    (hp : partsOf F place parts.toList = some ps) (h : pBuild zc ps = some v) : Yields P ρ a o v := by
  obtain ⟨z, hz, hodd, rfl⟩ := zeroC_some hzc
  obtain ⟨it, zv, hit, hzv, hof⟩ := zeroT_some hz
  obtain ⟨hc, h1⟩ := ofV_cells (ρ := ρ) hof hodd
  unfold pBuild at h
  cases hf : fillP z.cells ps with
  | none => simp [hf] at h
  | some c =>
    simp [hf] at h
    subst h
    obtain ⟨xs', e1, e2, e3⟩ := fill_sound hF parts.toList hp hf hc h1
    have hb : P.built t (parts.map fun (i, x) => (i, a.eval x)).toList = some xs' := by
      have em : (parts.map fun (i, x) => (i, a.eval x)).toList = parts.toList.map fun p => (p.1, a.eval p.2) := by simp
      rw [em]
      unfold Program.built
      rcases hplace with ⟨e, n, hu, s, hs, rfl⟩ | ⟨fields, places, hu, hpl, rfl⟩
      · obtain ⟨ie, hie, rfl⟩ := sizeT_some hs
        simp only [hit, hu, hzv, hie]
        exact e1
      · simp only [hit, hu, hzv, hpl]
        have : (fun x => places.toArray[x]?) = fun x : Nat => places[x]? := by funext x; simp
        rw [this]
        exact e1
    refine ⟨.agg xs', ?_, fun w => ?_⟩
    · have := V.agg e2 e3
      simpa using this
    · simp only [execOp, ho]
      rw [Sem.run_bind, run_build w t _ xs' hb]
      rfl

theorem y_faddr (hF : FR ρ F a.tmps) {t : TypeId} {fields : Array Field} {fd : Field} {i n : Nat} {x : Operand} {v : AV} (ho : o.op = .fieldAddr t x i) (ht : P.underlying t = some (.struct fields))
    (hf : fields[i]? = some fd) (hn : sizeT P fd.type = some n) (h0 : n ≠ 0) (h : pFaddr fd.offset (F.ev x) = some v) : Yields P ρ a o v := by
  unfold pFaddr at h
  cases hp : asPtr (F.ev x) with
  | none => simp [hp] at h
  | some p =>
    obtain ⟨id, off⟩ := p
    simp only [hp, Option.some.injEq] at h
    subst h
    obtain ⟨b, o1, l, hb, hx⟩ := (asPtr_some hp ▸ ev_sound hF x).ptr_inv
    refine ⟨_, .ptr hb, fun w => ?_⟩
    simp [execOp, ho, Instr.fieldAt, run_underlying ht, hf, hx, Instr.sureAddr, fieldPlace, run_sizeT hn, h0, addr_add, Nat.add_assoc]

theorem run_indexAt_ok (w : World) {t : TypeId} {x i : Value} {k : IntKind} {j len n b o1 : Nat} {e : TypeId} (hi : i = .int k (j : Int)) (hj : j < len) (hn : sizeT P e = some n)
    (h : (P.underlying t = some (.array len e) ∧ x = .pointer (some ⟨b, o1, none⟩)) ∨ (P.underlying t = some (.slice e) ∧ ∃ c, x = .slice (some ⟨b, o1, none⟩) len c)) :
    (Instr.indexAt t x i).run P w = .ok (.pointer (some ⟨b, o1 + j * n, none⟩)) w := by
  have h0 : (0 : Int) ≤ (j : Int) ∧ (j : Int) < (len : Int) := by omega
  rcases h with ⟨hu, rfl⟩ | ⟨hu, c, rfl⟩
  · simp only [Instr.indexAt, hi, asIntOf, Sem.run_bind, Sem.run_pure, Result.andThen_ok, run_underlying hu, Instr.sureAddr]
    by_cases hl : len ≤ 1 <;> simp [hl, run_underlying hu, h0, hj, run_sizeT hn, addr_add]
  · simp only [Instr.indexAt, hi, asIntOf, Sem.run_bind, Sem.run_pure, Result.andThen_ok, run_underlying hu]
    by_cases hl : len ≤ 1 <;> simp [hl, run_underlying hu, h0, hj, run_sizeT hn, addr_add]

theorem y_paddr (hF : FR ρ F a.tmps) {t e : TypeId} {len n : Nat} {x i : Operand} {v : AV} (ho : o.op = .indexAddr t x i) (ht : P.underlying t = some (.array len e))
    (hn : sizeT P e = some n) (h : pPaddr len n (F.ev x) (F.ev i) = some v) : Yields P ρ a o v := by
  unfold pPaddr at h
  cases hp : asPtr (F.ev x) with
  | none => simp [hp] at h
  | some p =>
    obtain ⟨id, off⟩ := p
    cases hi : idx? (F.ev i) len with
    | none => simp [hp, hi] at h
    | some j =>
      simp only [hp, hi, Option.some.injEq] at h
      subst h
      obtain ⟨b, o1, l, hb, hx⟩ := (asPtr_some hp ▸ ev_sound hF x).ptr_inv
      obtain ⟨k, hk, hj⟩ := idx?_some hi
      have hix := (hk ▸ ev_sound hF i).int_inv
      refine ⟨_, .ptr hb, fun w => ?_⟩
      have := run_indexAt_ok (P := P) w hix hj hn (.inl ⟨ht, hx⟩)
      simp only [execOp, ho]
      rw [Sem.run_bind, this]
      simp [Nat.add_assoc]

theorem y_saddr (hF : FR ρ F a.tmps) {t e : TypeId} {n : Nat} {x i : Operand} {v : AV} (ho : o.op = .indexAddr t x i) (ht : P.underlying t = some (.slice e))
    (hn : sizeT P e = some n) (h : pSaddr n (F.ev x) (F.ev i) = some v) : Yields P ρ a o v := by
  have hx := ev_sound hF x
  unfold pSaddr at h
  split at h
  · next id off len cap e1 =>
    rw [e1] at hx
    cases hi : idx? (F.ev i) len with
    | none => simp [hi] at h
    | some j =>
      simp only [hi, Option.some.injEq] at h
      subst h
      obtain ⟨k, hk, hj⟩ := idx?_some hi
      have hix := (hk ▸ ev_sound hF i).int_inv
      generalize hy : a.eval x = y at *
      cases hx with
      | sl hb =>
        refine ⟨_, .ptr hb, fun w => ?_⟩
        have := run_indexAt_ok (P := P) w hix hj hn (.inr ⟨ht, _, hy⟩)
        simp only [execOp, ho]
        rw [Sem.run_bind, this]
        simp [Nat.add_assoc]
  · next id off len cmin es e1 =>
    rw [e1] at hx
    cases hi : idx? (F.ev i) len with
    | none => simp [hi] at h
    | some j =>
      simp only [hi, Option.some.injEq] at h
      subst h
      obtain ⟨k, hk, hj⟩ := idx?_some hi
      have hix := (hk ▸ ev_sound hF i).int_inv
      generalize hy : a.eval x = y at *
      cases hx with
      | op hb h0 h1 h2 =>
        refine ⟨_, .ptr hb, fun w => ?_⟩
        have := run_indexAt_ok (P := P) w hix hj hn (.inr ⟨ht, _, hy⟩)
        simp only [execOp, ho]
        rw [Sem.run_bind, this]
        simp [Nat.add_assoc]
      | opE hb => omega
  · cases h

theorem y_sidx (hF : FR ρ F a.tmps) {t : TypeId} {x i : Operand} {v : AV} (ho : o.op = .index t x i) (ht : P.underlying t = some .string) (h : pSidx (F.ev x) (F.ev i) = some v) : Yields P ρ a o v := by
  unfold pSidx at h
  split at h
  · next s e1 =>
    have hx := (e1 ▸ ev_sound hF x).sc_inv.1
    cases hi : idx? (F.ev i) s.size with
    | none => simp [hi] at h
    | some j =>
      simp only [hi] at h
      obtain ⟨k, hk, hj⟩ := idx?_some hi
      have hix := (hk ▸ ev_sound hF i).int_inv
      cases hb : s[j]? with
      | none => simp [hb] at h
      | some c =>
        simp only [hb, Option.some.injEq] at h
        subst h
        refine ⟨_, .sc rfl, fun w => ?_⟩
        have h0 : (0 : Int) ≤ (j : Int) := by omega
        simp [execOp, ho, Instr.index, hix, asIntOf, run_underlying ht, hx, h0, hb]
  · cases h

theorem y_len_slice (hF : FR ρ F a.tmps) {c : Call} {t e : TypeId} {x : Operand} {v : AV} (ho : o.op = .call c) (hcal : c.callee = .builtin .len) (hargs : c.args = #[x]) (htys : c.argTypes = #[t])
    (hu : P.underlying t = some (.slice e)) (h : pLen false (F.ev x) = some v) : Yields P ρ a o v := by
  have hx := ev_sound hF x
  have key : ∀ {n : Nat} {p : Option Addr} {cp : Nat}, a.eval x = .slice p n cp → ∀ w, (execOp a.eval o).run P w = .ok (.value (.int .i64 (n : Int))) w := by
    intro n p cp e' w
    simp [execOp, ho, resolve, hcal, hargs, htys, invoke, builtin, Builtin.len_, run_underlying hu, e', goInt]
  simp only [pLen] at h
  split at h
  · next e1 =>
    cases h
    rw [e1] at hx
    generalize hy : a.eval x = y at hx
    cases hx with
    | sl hb => exact ⟨_, .sc rfl, key hy⟩
  · next e1 =>
    cases h
    rw [e1] at hx
    generalize hy : a.eval x = y at hx
    cases hx with
    | op hb h0 h1 h2 => exact ⟨_, .sc rfl, key hy⟩
    | opE hb => exact ⟨_, .sc rfl, key hy⟩
  · next e1 =>
    cases h
    rw [e1] at hx
    exact ⟨_, .sc rfl, key hx.sc_inv.1⟩
  · cases h

theorem y_len_string (hF : FR ρ F a.tmps) {c : Call} {t : TypeId} {x : Operand} {v : AV} (ho : o.op = .call c) (hcal : c.callee = .builtin .len) (hargs : c.args = #[x]) (htys : c.argTypes = #[t])
    (hu : P.underlying t = some .string) (h : pLen true (F.ev x) = some v) : Yields P ρ a o v := by
  have hx := ev_sound hF x
  simp only [pLen] at h
  split at h
  · next s e1 =>
    cases h
    rw [e1] at hx
    refine ⟨_, .sc rfl, fun w => ?_⟩
    simp [execOp, ho, resolve, hcal, hargs, htys, invoke, builtin, Builtin.len_, run_underlying hu, hx.sc_inv.1, goInt]
  · cases h

/-- the length of an array is known -/
theorem y_len_array {c : Call} {t : TypeId} {x : Operand} {n : Nat} (ho : o.op = .call c) (hcal : c.callee = .builtin .len) (hargs : c.args = #[x]) (htys : c.argTypes = #[t])
    (hu : (∃ e, P.underlying t = some (.array n e)) ∨ ∃ arr e, P.underlying t = some (.pointer arr) ∧ P.underlying arr = some (.array n e)) : Yields P ρ a o (.sc (.int .i64 n)) := by
  refine ⟨.int .i64 n, .sc rfl, fun w => ?_⟩
  rcases hu with ⟨e, hu⟩ | ⟨arr, e, hu, hv⟩
  · simp [execOp, ho, resolve, hcal, hargs, htys, invoke, builtin, Builtin.len_, run_underlying hu, goInt]
  · simp [execOp, ho, resolve, hcal, hargs, htys, invoke, builtin, Builtin.len_, run_underlying hu, run_underlying hv, goInt]

theorem y_cap (hF : FR ρ F a.tmps) {c : Call} {t e : TypeId} {x : Operand} {v : AV} (ho : o.op = .call c) (hcal : c.callee = .builtin .cap) (hargs : c.args = #[x]) (htys : c.argTypes = #[t])
    (hu : P.underlying t = some (.slice e)) (h : pCap (F.ev x) = some v) : Yields P ρ a o v := by
  have hx := ev_sound hF x
  have key : ∀ {n : Nat} {p : Option Addr} {cp : Nat}, a.eval x = .slice p n cp → ∀ w, (execOp a.eval o).run P w = .ok (.value (.int .i64 (cp : Int))) w := by
    intro n p cp e' w
    simp [execOp, ho, resolve, hcal, hargs, htys, invoke, builtin, Builtin.cap_, run_underlying hu, e', goInt]
  unfold pCap at h
  split at h
  · next e1 =>
    cases h
    rw [e1] at hx
    generalize hy : a.eval x = y at hx
    cases hx with
    | sl hb => exact ⟨_, .sc rfl, key hy⟩
  · next e1 =>
    cases h
    rw [e1] at hx
    exact ⟨_, .sc rfl, key hx.sc_inv.1⟩
  · cases h

/-! ### least and greatest -/
theorem minmax1_sound {m : Bool} {x y v : AV} {u z : Value} (h : minmax1 m x y = some v) (hx : V ρ x u) (hy : V ρ y z) : ∃ r, V ρ v r ∧ ∀ w, ((if m then Builtin.max2 u z else Builtin.min2 u z)).run P w = .ok r w := by
  unfold minmax1 at h
  split at h
  · next k b k' d =>
    cases h
    have e1 := hx.int_inv
    have e2 := hy.int_inv
    subst e1 e2
    cases m
    · refine ⟨_, .sc rfl, fun w => ?_⟩
      by_cases hlt : d < b <;> simp [Builtin.min2, ltF_eq, hlt]
    · refine ⟨_, .sc rfl, fun w => ?_⟩
      by_cases hlt : b < d <;> simp [Builtin.max2, ltF_eq, hlt]
  · cases h

theorem minmaxs_sound {m : Bool} : ∀ {r : List AV} {rs : List Value} {x v : AV} {u : Value}, r.foldlM (minmax1 m) x = some v → V ρ x u → VL ρ r rs →
    ∃ z, V ρ v z ∧ ∀ w, (rs.foldlM (if m then Builtin.max2 else Builtin.min2) u : Sem Value).run P w = .ok z w
  | [], _, x, v, u, h, hx, .nil => by simp at h; subst h; exact ⟨u, hx, fun w => by simp⟩
  | y :: r, z :: rs, x, v, u, h, hx, .cons hy hr => by
    simp only [List.foldlM_cons, Option.bind_eq_bind, Option.bind_eq_some_iff] at h
    obtain ⟨q, hq, h⟩ := h
    obtain ⟨q', h1, h2⟩ := minmax1_sound (P := P) hq hx hy
    obtain ⟨z', h3, h4⟩ := minmaxs_sound h h1 hr
    refine ⟨z', h3, fun w => ?_⟩
    have := h2 w
    cases m
    · simp only [Bool.false_eq_true, if_false] at this h4 ⊢
      simp [List.foldlM_cons, this, h4]
    · simp only [if_true] at this h4 ⊢
      simp [List.foldlM_cons, this, h4]

theorem y_minmax (hF : FR ρ F a.tmps) {c : Call} {m : Bool} {v : AV} (ho : o.op = .call c) (hcal : c.callee = .builtin (if m then .max else .min)) (h : pMinmax m (c.args.toList.map F.ev) = some v) : Yields P ρ a o v := by
  unfold pMinmax at h
  cases hl : c.args.toList with
  | nil => simp [hl] at h
  | cons x r =>
    simp only [hl, List.map_cons] at h
    obtain ⟨z, h1, h2⟩ := minmaxs_sound (P := P) h (ev_sound hF x) (evs_sound hF r)
    refine ⟨z, h1, fun w => ?_⟩
    have := h2 w
    have hm : (c.args.map a.eval).toList = a.eval x :: r.map a.eval := by simp [hl]
    cases m
    · simp only [Bool.false_eq_true, if_false] at hcal this
      simp [execOp, ho, resolve, hcal, invoke, builtin, Builtin.min_, hm, this, hl]
    · simp only [if_true] at hcal this
      simp [execOp, ho, resolve, hcal, invoke, builtin, Builtin.max_, hm, this, hl]

/-! ### slices of slices -/
theorem bndO_some {F : Fr} (hF : FR ρ F a.tmps) {x : Option Operand} {d n m : Nat} (h : bndO (x.map F.ev) d n = some m) :
    (x = none ∧ m = d) ∨ (∃ q, x = some q ∧ m ≤ n ∧ ∀ n' code w, m ≤ n' → (Instr.sliceBound (a.eval q) n' code).run P w = .ok m w) := by
  cases x with
  | none => simp [bndO] at h; exact .inl ⟨rfl, h.symm⟩
  | some q =>
    simp only [Option.map_some, bndO] at h
    obtain ⟨k, hk, hm⟩ := bnd?_some h
    have hq := (hk ▸ ev_sound hF q).int_inv
    refine .inr ⟨q, rfl, hm, fun n' code w hn' => ?_⟩
    rw [hq, run_sliceBound w k (m : Int) n' code (by omega) (by omega)]
    simp

theorem bnds_some {lo hi mx : Option AV} {len cap l h m : Nat} (hb : bnds lo hi mx len cap = some (l, h, m)) :
    bndO mx cap cap = some m ∧ bndO hi len m = some h ∧ bndO lo 0 h = some l ∧ (mx.isSome = true → hi.isSome = true) := by
  unfold bnds at hb
  cases h1 : bndO mx cap cap with
  | none => simp [h1] at hb
  | some m' =>
    cases h2 : bndO hi len m' with
    | none => simp [h1, h2] at hb
    | some h' =>
      cases h3 : bndO lo 0 h' with
      | none => simp [h1, h2, h3] at hb
      | some l' =>
        simp only [h1, h2, h3] at hb
        split at hb
        · cases hb
        · next hn =>
          cases hb
          refine ⟨rfl, h2, h3, fun hm => ?_⟩
          cases hi with
          | some _ => rfl
          | none => simp [hm] at hn

/-- the three bounds, as they are found with what room there is -/
theorem run_bounds_more (hF : FR ρ F a.tmps) {isS : Bool} {lo hi mx : Option Operand} {len cap cap' l h m : Nat} (hb : bnds (lo.map F.ev) (hi.map F.ev) (mx.map F.ev) len cap = some (l, h, m)) (hc : cap ≤ cap') (w : World) :
    (Instr.sliceBounds isS len cap' (lo.map a.eval) (hi.map a.eval) (mx.map a.eval)).run P w = .ok (l, h, if mx.isSome then m else cap') w := by
  obtain ⟨h1, h2, h3, h4⟩ := bnds_some hb
  rcases bndO_some (P := P) hF h1 with ⟨rfl, rfl⟩ | ⟨q1, rfl, g1, hq1⟩ <;> rcases bndO_some (P := P) hF h2 with ⟨rfl, rfl⟩ | ⟨q2, rfl, g2, hq2⟩ <;>
    rcases bndO_some (P := P) hF h3 with ⟨rfl, rfl⟩ | ⟨q3, rfl, g3, hq3⟩
  all_goals first
    | (simp at h4; done)
    | (simp only [Instr.sliceBounds, Option.map_none, Option.map_some]
       simp only [Sem.run_bind, Sem.run_pure, Result.andThen_ok]
       repeat (first | rw [hq1 _ _ _ (by omega)] | rw [hq2 _ _ _ (by omega)] | rw [hq3 _ _ _ (by omega)] | simp only [Result.andThen_ok, Sem.run_bind, Sem.run_pure])
       try rfl)
theorem run_bounds (hF : FR ρ F a.tmps) {isS : Bool} {lo hi mx : Option Operand} {len cap l h m : Nat} (hb : bnds (lo.map F.ev) (hi.map F.ev) (mx.map F.ev) len cap = some (l, h, m)) (w : World) :
    (Instr.sliceBounds isS len cap (lo.map a.eval) (hi.map a.eval) (mx.map a.eval)).run P w = .ok (l, h, m) w := by
  rw [run_bounds_more hF hb (Nat.le_refl _)]
  obtain ⟨h1, _⟩ := bnds_some hb
  cases mx with
  | some q => rfl
  | none => simp [bndO] at h1; subst h1; rfl
theorem bnds_le {lo hi mx : Option AV} {len cap l h m : Nat} (hb : bnds lo hi mx len cap = some (l, h, m)) (hl : len ≤ cap) : l ≤ h ∧ (hi = none → h = len) ∧ (hi ≠ none → h ≤ m) ∧ m ≤ cap := by
  obtain ⟨h1, h2, h3, h4⟩ := bnds_some hb
  have le : ∀ {x : Option AV} {d n r : Nat}, bndO x d n = some r → (x = none ∧ r = d) ∨ (x ≠ none ∧ r ≤ n) := by
    intro x d n r h
    cases x with
    | none => simp [bndO] at h; exact .inl ⟨rfl, h.symm⟩
    | some q => simp only [bndO] at h; obtain ⟨k, _, hm⟩ := bnd?_some h; exact .inr ⟨by simp, hm⟩
  rcases le h1 with ⟨e1, h1'⟩ | ⟨e1, h1'⟩ <;> rcases le h2 with ⟨e2, h2'⟩ | ⟨e2, h2'⟩ <;> rcases le h3 with ⟨e3, h3'⟩ | ⟨e3, h3'⟩ <;>
    refine ⟨by omega, fun e => ?_, fun e => ?_, by omega⟩ <;> first | (exact absurd e e2) | (exact absurd e2 e) | omega

theorem y_aslice (hF : FR ρ F a.tmps) {t e : TypeId} {len n : Nat} {x : Operand} {lo hi mx : Option Operand} {v : AV} (ho : o.op = .slice t x lo hi mx)
    (ht : P.underlying t = some (.array len e) ∨ ∃ arr, P.underlying t = some (.pointer arr) ∧ P.underlying arr = some (.array len e))
    (hn : sizeT P e = some n) (h : pAslice len n (F.ev x) (lo.map F.ev) (hi.map F.ev) (mx.map F.ev) = some v) : Yields P ρ a o v := by
  have hx := ev_sound hF x
  unfold pAslice at h
  split at h
  · next id off e1 =>
    rw [e1] at hx
    obtain ⟨b, o1, lm, hb, hx⟩ := hx.ptr_inv
    split at h
    · next l hh m hbn =>
      cases h
      refine ⟨.slice (some ⟨b, o1 + (if Nat.beq m l then off else Nat.add off (Nat.mul l n)), none⟩) (hh - l) (m - l), .sl hb, fun w => ?_⟩
      have hbd := run_bounds (P := P) (isS := false) hF hbn w
      have hadd : (if m = l then (⟨b, o1 + off, none⟩ : Addr) else (⟨b, o1 + off, none⟩ : Addr).add (l * n)) = ⟨b, o1 + (if Nat.beq m l then off else Nat.add off (Nat.mul l n)), none⟩ := by
        by_cases hml : m = l
        · have : Nat.beq m l = true := by rw [Nat.beq_eq]; exact hml
          rw [if_pos hml, if_pos this]
        · have : ¬ Nat.beq m l = true := by rw [Nat.beq_eq]; exact hml
          rw [if_neg hml, if_neg this, addr_add]
          simp [Nat.add_assoc]
      rcases ht with hu | ⟨arr, hu, hv⟩
      · simp [execOp, ho, Instr.sliceAt, run_underlying hu, hx, Instr.sureAddr, hbd, run_sizeT hn, hadd]
      · simp [execOp, ho, Instr.sliceAt, run_underlying hu, Instr.slice, hx, asAddr, run_underlying hv, hbd, run_sizeT hn, hadd]
    · cases h
  · cases h

theorem y_strslice (hF : FR ρ F a.tmps) {t : TypeId} {x : Operand} {lo hi : Option Operand} {v : AV} (ho : o.op = .slice t x lo hi none)
    (hu : P.underlying t = some .string) (h : pStrslice (F.ev x) (lo.map F.ev) (hi.map F.ev) = some v) : Yields P ρ a o v := by
  have hx := ev_sound hF x
  unfold pStrslice at h
  split at h
  · next s e1 =>
    rw [e1] at hx
    have hx := hx.sc_inv.1
    split at h
    · next l hh m hbn =>
      cases h
      refine ⟨_, .sc rfl, fun w => ?_⟩
      have hbd := run_bounds (P := P) (isS := false) (mx := none) hF hbn w
      simp only [Option.map_none] at hbd
      simp [execOp, ho, Instr.sliceAt, run_underlying hu, Instr.slice, hx, hbd]
    · cases h
  · cases h

theorem y_sslice (hF : FR ρ F a.tmps) {t e : TypeId} {n : Nat} {x : Operand} {lo hi mx : Option Operand} {v : AV} (ho : o.op = .slice t x lo hi mx)
    (hu : P.underlying t = some (.slice e)) (hn : sizeT P e = some n) (h : pSslice n (F.ev x) (lo.map F.ev) (hi.map F.ev) (mx.map F.ev) = some v) : Yields P ρ a o v := by
  have hx := ev_sound hF x
  -- what the operation does, by its bounds
  have key : ∀ {p : Option Addr} {len cap cap' l hh m : Nat}, a.eval x = .slice p len cap' → bnds (lo.map F.ev) (hi.map F.ev) (mx.map F.ev) len cap = some (l, hh, m) → cap ≤ cap' →
      ∀ w, (execOp a.eval o).run P w = .ok (.value (.slice (if (if mx.isSome then m else cap') = l then p else p.map (·.add (l * n))) (hh - l) ((if mx.isSome then m else cap') - l))) w := by
    intro p len cap cap' l hh m e1 hbd hc w
    have := run_bounds_more (P := P) (isS := true) hF hbd hc w
    simp [execOp, ho, Instr.sliceAt, run_underlying hu, Instr.slice, e1, this, run_sizeT hn]
  have hadd : ∀ (b o1 off l m : Nat), (if m = l then (some (⟨b, o1 + off, none⟩ : Addr)) else (some (⟨b, o1 + off, none⟩ : Addr)).map (·.add (l * n))) = some ⟨b, o1 + (if Nat.beq m l then off else Nat.add off (Nat.mul l n)), none⟩ := by
    intro b o1 off l m
    by_cases hml : m = l
    · have : Nat.beq m l = true := by rw [Nat.beq_eq]; exact hml
      rw [if_pos hml, if_pos this]
    · have : ¬ Nat.beq m l = true := by rw [Nat.beq_eq]; exact hml
      rw [if_neg hml, if_neg this, Option.map_some, addr_add]
      simp [Nat.add_assoc]
  have hmx : ∀ {len cap l hh m : Nat}, bnds (lo.map F.ev) (hi.map F.ev) (mx.map F.ev) len cap = some (l, hh, m) → mx.isSome = false → m = cap := by
    intro len cap l hh m hb hm
    obtain ⟨h1, _⟩ := bnds_some hb
    cases mx with
    | some q => cases hm
    | none => simp [bndO] at h1; exact h1.symm
  unfold pSslice at h
  split at h
  · next id off len cap e1 =>
    rw [e1] at hx
    generalize hy : a.eval x = y at hx
    cases hx with
    | sl hb =>
      split at h
      · next l hh m hbn =>
        cases h
        refine ⟨_, .sl hb, fun w => ?_⟩
        have := key hy hbn (Nat.le_refl _) w
        have hm : (if mx.isSome = true then m else cap) = m := by
          cases hq : mx.isSome
          · exact (hmx hbn hq).symm
          · rfl
        rw [hm, hadd] at this
        exact this
      · cases h
  · next id off len cmin es e1 =>
    rw [e1] at hx
    split at h
    · next hes =>
      have hes := Nat.eq_of_beq_eq_true hes
      subst hes
      split at h
      · next l hh m hbn =>
        generalize hy : a.eval x = y at hx
        cases hx with
        | op hb h0 h1 h2 =>
          rename_i b o1 lm cap
          have hle := bnds_le hbn h0
          have hk := key hy hbn h1
          cases mx with
          | some q =>
            simp only [Option.map_some] at h
            simp only [Option.isSome_some, if_true] at hk
            split at h
            · next hz =>
              have hz := Nat.eq_of_beq_eq_true hz
              subst hz
              cases h
              have hhi : hi.map F.ev ≠ none := by
                obtain ⟨_, _, _, g4⟩ := bnds_some hbn
                intro e
                have := g4 (by simp)
                rw [e] at this; cases this
              have hhm := hle.2.2.1 hhi
              have hh0 : hh = 0 := by omega
              have hl0 : l = 0 := by omega
              have hm0 : m = 0 := by omega
              subst hh0 hl0 hm0
              exact ⟨_, .opE hb, fun w => by have := hk w; simpa using this⟩
            · cases h
              refine ⟨_, .sl hb, fun w => ?_⟩
              have := hk w
              rw [hadd] at this
              exact this
          | none =>
            simp only [Option.map_none] at h
            simp only [Option.isSome_none, Bool.false_eq_true, if_false] at hk
            cases h
            have hm := hmx hbn rfl
            subst hm
            have hhc : hh ≤ m := by
              by_cases e : hi.map F.ev = none
              · rw [hle.2.1 e]; exact h0
              · exact hle.2.2.1 e
            by_cases hcl : cap = l
            · have e1 : hh - l = 0 := by omega
              have e2 : m - l = 0 := by omega
              simp only [Nat.sub_eq, e1, e2]
              refine ⟨_, .opE (x := o1 + off) hb, fun w => ?_⟩
              have := hk w
              rw [if_pos hcl, e1, show cap - l = 0 by omega] at this
              exact this
            · refine ⟨_, .op hb (by simp only [Nat.sub_eq]; omega) (cap := cap - l) (by simp only [Nat.sub_eq]; omega) ?_, fun w => ?_⟩
              · simp only [Nat.add_eq, Nat.mul_eq]
                have h3 : (cap - l) * n = cap * n - l * n := Nat.sub_mul _ _ _
                have h4 : l * n ≤ cap * n := Nat.mul_le_mul_right _ (by omega)
                omega
              · have := hk w
                rw [if_neg hcl] at this
                rw [this]
                simp [addr_add, Nat.add_assoc]
        | opE hb =>
          rename_i b o1 lm xx
          have hle := bnds_le hbn (Nat.le_refl _)
          have hk := key hy hbn (Nat.le_refl _)
          have hhm : hh ≤ 0 := by
            by_cases e : hi.map F.ev = none
            · rw [hle.2.1 e]; exact Nat.le_refl _
            · have := hle.2.2.1 e; omega
          have hh0 : hh = 0 := by omega
          have hl0 : l = 0 := by omega
          have hm0 : m = 0 := by omega
          subst hh0 hl0 hm0
          have hk' : ∀ w, (execOp a.eval o).run P w = .ok (.value (.slice (some ⟨b, xx, none⟩) 0 0)) w := fun w => by
            have := hk w
            cases mx <;> simpa using this
          cases mx with
          | some q =>
            simp only [Option.map_some] at h
            cases h
            exact ⟨_, .opE hb, hk'⟩
          | none =>
            simp only [Option.map_none] at h
            cases h
            exact ⟨_, .opE hb, hk'⟩
      · cases h
    · cases h
  · next e1 =>
    rw [e1] at hx
    have hy := hx.sc_inv.1
    split at h
    · next p hbn =>
      obtain ⟨l, hh, m⟩ := p
      cases h
      have hle := bnds_le hbn (Nat.le_refl _)
      have hk := key hy hbn (Nat.le_refl _)
      have hhm : hh ≤ 0 := by
        by_cases e : hi.map F.ev = none
        · rw [hle.2.1 e]; exact Nat.le_refl _
        · have := hle.2.2.1 e; omega
      have hh0 : hh = 0 := by omega
      have hl0 : l = 0 := by omega
      have hm0 : m = 0 := by omega
      subst hh0 hl0 hm0
      refine ⟨_, .sc rfl, fun w => ?_⟩
      have := hk w
      cases mx <;> simpa using this
    · cases h
  · cases h

theorem y_tassert (hF : FR ρ F a.tmps) {t u : TypeId} {x : Operand} {ifc ok : Bool} {v : AV} (ho : o.op = .typeAssert x u t ok)
    (hi : ∃ d, P.underlying t = some d ∧ ifc = (match d with | .interface _ => true | _ => false)) (h : pTassert P t ifc ok (zeroT P t) (F.ev x) = some v) : Yields P ρ a o v := by
  have hx := ev_sound hF x
  obtain ⟨d, hu, hifc⟩ := hi
  -- what fails, says so
  have hfail : ∀ {z : AV}, (if ok then (zeroT P t).map fun z => AV.tup [z, .sc (.bool false)] else none) = some z → ok = true ∧ ∃ zv, z = .tup [zv, .sc (.bool false)] ∧ zeroT P t = some zv := by
    intro z hz
    cases ok
    · simp at hz
    · simp only [if_true, Option.map_eq_some_iff] at hz
      obtain ⟨zv, h1, h2⟩ := hz
      exact ⟨rfl, zv, h2.symm, h1⟩
  have hzrun : ∀ {zv : AV}, zeroT P t = some zv → ∃ y, V ρ zv y ∧ ∀ w, (zeroValue t).run P w = .ok y w := by
    intro zv hz
    obtain ⟨it, y, e1, e2, e3⟩ := zeroT_some hz
    exact ⟨y, ofV_sound e3, fun w => by simp [zeroValue, typeInfo, e1, e2]⟩
  unfold pTassert at h
  simp only at h
  split at h
  · next e1 =>
    rw [e1] at hx
    have hy := hx.sc_inv.1
    obtain ⟨rfl, zv, rfl, hz⟩ := hfail h
    obtain ⟨y, hy1, hy2⟩ := hzrun hz
    refine ⟨.tuple #[y, .bool false], .tup (.cons hy1 (.cons (.sc rfl) .nil)), fun w => ?_⟩
    cases d <;> simp [execOp, ho, Instr.typeAssert, run_underlying hu, hy, hy2]
  · next u' v' e1 =>
    rw [e1] at hx
    generalize hy : a.eval x = y at hx
    cases hx with
    | iface hv =>
      rename_i vv
      split at h
      · next hifc' =>
        rw [hifc'] at hifc
        cases d <;> simp at hifc
        rename_i want
        split at h
        · next want' i hw hinf =>
          rw [hu] at hw
          cases hw
          split at h
          · next hnone =>
            cases h
            cases ok
            · refine ⟨.iface u' vv, (by simp only [Bool.false_eq_true, if_false, e1]; exact .iface hv), fun w => ?_⟩
              have hn : Instr.missingMethod want i.methods = none := missing_iff.2 hnone
              simp [execOp, ho, Instr.typeAssert, run_underlying hu, hy, typeInfo, hinf, hn]
            · refine ⟨.tuple #[.iface u' vv, .bool true], .tup (.cons (by rw [e1]; exact .iface hv) (.cons (.sc rfl) .nil)), fun w => ?_⟩
              have hn : Instr.missingMethod want i.methods = none := missing_iff.2 hnone
              simp [execOp, ho, Instr.typeAssert, run_underlying hu, hy, typeInfo, hinf, hn]
          · next hsome =>
            obtain ⟨rfl, zv, rfl, hz⟩ := hfail h
            obtain ⟨y, hy1, hy2⟩ := hzrun hz
            refine ⟨.tuple #[y, .bool false], .tup (.cons hy1 (.cons (.sc rfl) .nil)), fun w => ?_⟩
            cases hm : Instr.missingMethod want i.methods with
            | none => exact absurd (missing_iff.1 hm) hsome
            | some m => simp [execOp, ho, Instr.typeAssert, run_underlying hu, hy, typeInfo, hinf, hm, hy2]
        · cases h
      · next hifc' =>
        have hd : ∀ ms, d ≠ .interface ms := fun ms e => by subst e; simp at hifc; exact hifc' hifc
        split at h
        · next heq =>
          have heq : u' = t := by simpa using heq
          subst heq
          cases h
          cases ok
          · refine ⟨vv, hv, fun w => ?_⟩
            cases d <;> first | (exact absurd rfl (hd _)) | simp [execOp, ho, Instr.typeAssert, run_underlying hu, hy]
          · refine ⟨.tuple #[vv, .bool true], .tup (.cons hv (.cons (.sc rfl) .nil)), fun w => ?_⟩
            cases d <;> first | (exact absurd rfl (hd _)) | simp [execOp, ho, Instr.typeAssert, run_underlying hu, hy]
        · next hne =>
          have hne : ¬ u' = t := by simpa using hne
          obtain ⟨rfl, zv, rfl, hz⟩ := hfail h
          obtain ⟨y, hy1, hy2⟩ := hzrun hz
          refine ⟨.tuple #[y, .bool false], .tup (.cons hy1 (.cons (.sc rfl) .nil)), fun w => ?_⟩
          cases d <;> first | (exact absurd rfl (hd _)) | simp [execOp, ho, Instr.typeAssert, run_underlying hu, hy, hne, hy2]
  · cases h

theorem y_val (hF : FR ρ F a.tmps) {x : Operand} (ho : o.op = .move x ∨ o.op = .assign x) : Yields P ρ a o (F.ev x) :=
  ⟨_, ev_sound hF x, fun w => by rcases ho with ho | ho <;> simp [execOp, ho]⟩
theorem y_iface (hF : FR ρ F a.tmps) {t : TypeId} {d : TypeDesc} {x : Operand} (ho : o.op = .makeInterface t x) (hu : P.underlying t = some d) (hd : ∀ ms, d ≠ .interface ms) : Yields P ρ a o (.iface t (F.ev x)) :=
  ⟨_, .iface (ev_sound hF x), fun w => by cases d <;> first | (exact absurd rfl (hd _)) | simp [execOp, ho, Instr.makeInterface, run_underlying hu]⟩
theorem y_func (hF : FR ρ F a.tmps) {f : FuncId} {first cap : Array Operand} (ho : o.op = .makeFunc (.func f) first cap) : Yields P ρ a o (.fn (.func f) (first.toList.map F.ev) (cap.toList.map F.ev)) :=
  ⟨_, .fn rfl (evs_sound hF first.toList) (evs_sound hF cap.toList), fun w => by
    have e1 : ∀ xs : Array Operand, (xs.toList.map a.eval).toArray = xs.map a.eval := fun xs => by apply Array.ext'; simp
    simp [execOp, ho, Instr.makeFunc, e1]⟩
end
end Go.Abs
namespace Go.Abs
noncomputable section
set_option linter.unusedSectionVars false
variable [Tok]
set_option linter.unusedVariables false
set_option linter.unusedSimpArgs false
variable {P : Program} {ρ : Ren} {F : Fr} {a : Act} {o : Oper} {S : AH} {w : World}

/-! ### what reads memory -/
theorem cells?_some {id : Nat} {c : List AV} (h : S.cells? id = some c) : S.get id = some (.row c) ∨ S.get id = some (.ro c) := by
  unfold AH.cells? at h
  cases hg : S.get id with
  | none => simp [hg] at h
  | some ob => simp [hg] at h; rcases asCells_some h with rfl | rfl <;> simp
theorem row?_some {id : Nat} {c : List AV} (h : S.row? id = some c) : S.get id = some (.row c) := by
  unfold AH.row? at h
  cases hg : S.get id with
  | none => simp [hg] at h
  | some ob => simp [hg] at h; rw [asRow_some h]

/-- the cells of a row, where they lie -/
theorem R.cells (hR : R P ρ S w) {id b o1 l : Nat} {c : List AV} (h : S.cells? id = some c) (hi : ρ id = some (b, o1, l)) :
    ∀ (i : Nat) v, c[i]? = some v → ∃ x, w.cell? ⟨b, o1 + i, none⟩ = some x ∧ V ρ v x ∧ x.oneCell' = true := by
  intro i v hv
  rcases cells?_some h with hg | hg
  · obtain ⟨c', e, h1, h2, h3, h4⟩ := hR.objs hg hi
    obtain ⟨x, e1, e2, e3⟩ := h4 i v hv
    exact ⟨x, by simp [World.cell?, h1, e1], e2, e3⟩
  · exact hR.objs hg hi i v hv

/-- a list of what is there for each -/
theorem list_of {α β : Type} {Q : Nat → α → β → Prop} : ∀ (l : List α), (∀ (i : Nat) v, l[i]? = some v → ∃ x, Q i v x) → ∃ xs : List β, xs.length = l.length ∧ ∀ (i : Nat) v x, l[i]? = some v → xs[i]? = some x → Q i v x := by
  intro l
  induction l generalizing Q with
  | nil => intro _; exact ⟨[], rfl, fun i v x h => by simp at h⟩
  | cons v l ih =>
    intro h
    obtain ⟨x, hx⟩ := h 0 v rfl
    obtain ⟨xs, h1, h2⟩ := ih (Q := fun i => Q (i + 1)) fun i v hv => h (i + 1) v (by simpa using hv)
    refine ⟨x :: xs, by simp [h1], fun i u y hu hy => ?_⟩
    cases i with
    | zero => simp at hu hy; subst hu hy; exact hx
    | succ i => exact h2 i u y (by simpa using hu) (by simpa using hy)

/-- a stretch of a row -/
theorem R.stretch (hR : R P ρ S w) {id b o1 l : Nat} {c : List AV} (h : S.cells? id = some c) (hi : ρ id = some (b, o1, l)) (off n : Nat) (hl : off + n ≤ c.length) :
    ∃ xs : List Value, xs.length = n ∧ VL ρ ((c.drop off).take n) xs ∧ (∀ x ∈ xs, x.oneCell' = true) ∧ ∀ (j : Nat) v, xs[j]? = some v → w.cell? ((⟨b, o1 + off, none⟩ : Addr).add j) = some v := by
  have hc := hR.cells h hi
  obtain ⟨xs, h1, h2⟩ := list_of (Q := fun j v x => w.cell? ⟨b, o1 + off + j, none⟩ = some x ∧ V ρ v x ∧ x.oneCell' = true) ((c.drop off).take n) fun j v hv => by
    have hj : j < n := by
      have := (List.getElem?_eq_some_iff.1 hv).1
      simp at this; omega
    rw [List.getElem?_take, if_pos hj, List.getElem?_drop] at hv
    obtain ⟨x, e1, e2, e3⟩ := hc _ _ hv
    exact ⟨x, by rw [← e1, Nat.add_assoc], e2, e3⟩
  have hlen : ((c.drop off).take n).length = n := by simp; omega
  refine ⟨xs, by omega, VL.of_get h1.symm fun i v x e1 e2 => (h2 i v x e1 e2).2.1, fun x hx => ?_, fun j v hv => ?_⟩
  · obtain ⟨i, hi', rfl⟩ := List.getElem_of_mem hx
    have hv : ((c.drop off).take n)[i]? = some (((c.drop off).take n)[i]'(by omega)) := List.getElem?_eq_getElem (by omega)
    exact (h2 i _ _ hv (by simp)).2.2
  · have hj := (List.getElem?_eq_some_iff.1 hv).1
    have hu : ((c.drop off).take n)[j]? = some (((c.drop off).take n)[j]'(by omega)) := List.getElem?_eq_getElem (by omega)
    rw [addr_add]
    exact (h2 j _ _ hu hv).1

/-- what an operation that reads comes to -/
def ReadsTo (P : Program) (ρ : Ren) (a : Act) (o : Oper) (v : AV) (w : World) : Prop := ∃ x, V ρ v x ∧ (execOp a.eval o).run P w = .ok (.value x) w

theorem r_load_at (hR : R P ρ S w) {t : TypeId} {n : Nat} {g : Bool} {p v : AV} {x : Value} (hn : sizeT P t = some n) (hg : isAggT P t = some g) (hx : V ρ p x) (h : rLoad S n g p = some v) :
    ∃ y, V ρ v y ∧ (Instr.loadAt t x).run P w = .ok y w := by
  unfold rLoad at h
  cases hp : asPtr p with
  | none => simp [hp] at h
  | some q =>
    obtain ⟨id, off⟩ := q
    simp only [hp] at h
    cases hc : S.cells? id with
    | none => simp [hc] at h
    | some c =>
      simp only [hc] at h
      obtain ⟨b, o1, l, hb, rfl⟩ := (asPtr_some hp ▸ hx).ptr_inv
      unfold mkPart at h
      cases g with
      | true =>
        simp only at h
        split at h
        · next hl =>
          cases h
          have hl' : off + n ≤ c.length := by have := Nat.le_of_ble_eq_true hl; rw [lenL_eq] at this; exact this
          obtain ⟨xs, h1, h2, h3, h4⟩ := hR.stretch hc hb off n hl'
          refine ⟨.agg xs.toArray, ?_, ?_⟩
          · rw [takeL_eq, dropL_eq]; exact .agg h2 h3
          · have hrun := run_loadCells_list (P := P) w ⟨b, o1 + off, none⟩ xs h4
            rw [h1] at hrun
            simp [Instr.loadAt, Instr.sureAddr, loadVar, isAggT_some hg, run_sizeT hn, hrun]
        · cases h
      | false =>
        simp only [nthO_eq] at h
        obtain ⟨x, e1, e2, e3⟩ := hR.cells hc hb _ _ h
        refine ⟨x, e2, ?_⟩
        simp [Instr.loadAt, Instr.sureAddr, loadVar, isAggT_some hg, e1]

theorem r_load (hR : R P ρ S w) (hF : FR ρ F a.tmps) {t : TypeId} {n : Nat} {g : Bool} {p : Operand} {v : AV} (ho : o.op = .load t p) (hn : sizeT P t = some n) (hg : isAggT P t = some g)
    (h : rLoad S n g (F.ev p) = some v) : ReadsTo P ρ a o v w := by
  obtain ⟨y, h1, h2⟩ := r_load_at hR hn hg (ev_sound hF p) h
  exact ⟨y, h1, by simp [execOp, ho, h2]⟩

/-- a map's entries, and those that lie there -/
def EntR (ρ : Ren) (es : List (Value × AV)) (es' : List MapEntry) : Prop := es'.length = es.length ∧ ∀ (i : Nat) k v, es[i]? = some (k, v) → ∃ e, es'[i]? = some e ∧ e.key = k ∧ V ρ v e.val

theorem mapOf_some (hR : R P ρ S w) {m : AV} {es : List (Value × AV)} {x : Value} (h : mapOf S m = some es) (hx : V ρ m x) :
    (x = .map none ∧ es = []) ∨ (∃ id b o1 l es' clock, m = .map id ∧ ρ id = some (b, o1, l) ∧ S.get id = some (.map es) ∧ x = .map (some b) ∧ w.heap[b]? = some (.map es' clock) ∧ EntR ρ es es'.toList) := by
  unfold mapOf at h
  split at h
  · cases h; exact .inl ⟨hx.sc_inv.1, rfl⟩
  · next id =>
    split at h
    · next es0 hg =>
      cases h
      cases hx with
      | map hb =>
        obtain ⟨es', clock, h1, h2, h3⟩ := hR.objs hg hb
        exact .inr ⟨id, _, _, _, es', clock, rfl, hb, hg, rfl, h1, by simpa using h2, fun i k v hi => by obtain ⟨e, a, b, c⟩ := h3 i k v hi; exact ⟨e, by simpa using a, b, c⟩⟩
    · cases h
  · cases h

theorem keyEq_sound {kt : TypeId} {x y : Value} {b : Bool} (h : keyEq P kt x y = some b) (w : World) : (Op.equal kt x y).run P w = .ok b w := by
  unfold keyEq at h
  split at h
  · next d k p k' q hu =>
    split at h
    · next hk =>
      cases h
      have := kindEq_true hk
      subst this
      show (Op.equalIn (9999 + 1) kt _ _).run P w = _
      generalize 9999 = d9
      simp [Op.equalIn, run_underlying hu, eqF_eq]
    · cases h
  · exact pureRun_sound h w

/-- what is found, and what is found there -/
def FoundR (ρ : Ren) : Option (Nat × AV) → Option (Nat × Value) → Prop
  | none, none => True
  | some (i, v), some (j, x) => i = j ∧ V ρ v x
  | _, _ => False

theorem findE_sound {kt : TypeId} {k : Value} (w : World) : ∀ {es : List (Value × AV)} {es' : List MapEntry} {i : Nat} {r : Option (Nat × AV)}, findE P kt k es i = some r → EntR ρ es es' →
    ∃ r', (Instr.findAsking kt k es' i).run P w = .ok r' w ∧ FoundR ρ r r'
  | [], es', i, r, h, he => by
    simp [findE] at h
    subst h
    have : es' = [] := List.eq_nil_of_length_eq_zero he.1
    subst this
    exact ⟨none, rfl, trivial⟩
  | (k', v) :: es, es', i, r, h, he => by
    cases es' with
    | nil => have := he.1; simp at this
    | cons e es' =>
      obtain ⟨e0, h1, h2, h3⟩ := he.2 0 k' v rfl
      simp at h1
      subst h1
      simp only [findE] at h
      cases hk : keyEq P kt k k' with
      | none => simp [hk] at h
      | some b =>
        have hrun := keyEq_sound hk w
        rw [← h2] at hrun
        cases b with
        | true =>
          simp [hk] at h
          subst h
          exact ⟨some (i, e.val), by simp [Instr.findAsking, hrun], rfl, h3⟩
        | false =>
          simp only [hk] at h
          have he' : EntR ρ es es' := ⟨by have := he.1; simpa using this, fun i k v hi => by have := he.2 (i + 1) k v (by simpa using hi); simpa using this⟩
          obtain ⟨r', h4, h5⟩ := findE_sound w h he'
          exact ⟨r', by simp [Instr.findAsking, hrun, h4], h5⟩

theorem sameNow_sound {kt : TypeId} {d : TypeDesc} (hu : P.underlying kt = some d) {x y : Value} {b : Bool} (h : Instr.sameNow d x y = some b) (w : World) : (Op.equal kt x y).run P w = .ok b w := by
  unfold Instr.sameNow at h
  split at h
  · split at h
    · next hk =>
      cases h
      subst hk
      show (Op.equalIn (9999 + 1) kt _ _).run P w = _
      generalize 9999 = d9
      simp [Op.equalIn, run_underlying hu]
    · cases h
  · cases h
    show (Op.equalIn (9999 + 1) kt _ _).run P w = _
    generalize 9999 = d9
    simp [Op.equalIn, run_underlying hu]
  · cases h
    show (Op.equalIn (9999 + 1) kt _ _).run P w = _
    generalize 9999 = d9
    simp [Op.equalIn, run_underlying hu]
  · cases h

theorem findNow_sound {kt : TypeId} {d : TypeDesc} (hu : P.underlying kt = some d) {k : Value} (w : World) : ∀ {es : List MapEntry} {i : Nat} {r : Option (Nat × Value)}, Instr.findNow d k es i = some r →
    (Instr.findAsking kt k es i).run P w = .ok r w
  | [], i, r, h => by simp [Instr.findNow] at h; subst h; rfl
  | e :: es, i, r, h => by
    simp only [Instr.findNow] at h
    cases hs : Instr.sameNow d k e.key with
    | none => simp [hs] at h
    | some b =>
      have := sameNow_sound hu hs w
      cases b with
      | true => simp [hs] at h; subst h; simp [Instr.findAsking, this]
      | false => simp only [hs] at h; simp [Instr.findAsking, this, findNow_sound hu w h]

theorem findKey_sound {kt : TypeId} {d : TypeDesc} (hu : P.underlying kt = some d) {k : Value} {es : List MapEntry} {r : Option (Nat × Value)} (h : (Instr.findAsking kt k es).run P w = .ok r w) :
    (Instr.findKey kt k es).run P w = .ok r w := by
  unfold Instr.findKey
  rw [Sem.run_bind, run_underlying hu, Result.andThen_ok]
  cases hn : Instr.findNow d k es 0 with
  | none => exact h
  | some r' =>
    have := findNow_sound hu w hn
    rw [this] at h
    cases h
    rfl

theorem keyOk_sound {kt : TypeId} {e : Bool} {k : Value} (h : keyOk P kt e k = true) (w : World) : (Instr.checkKey e 10000 kt k).run P w = .ok () w := by
  unfold keyOk at h
  cases hp : pureRun P (Instr.checkKey e 10000 kt k) with
  | none => simp [hp] at h
  | some u => exact pureRun_sound hp w

theorem run_getMap {b : Nat} {es : Array MapEntry} {clock : Nat} (h : w.heap[b]? = some (.map es clock)) : (getObj b).run P w = .ok (.map es clock) w := by
  simp [getObj, Sem.run, h]

theorem r_lookup (hR : R P ρ S w) (hF : FR ρ F a.tmps) {t kt e : TypeId} {d : TypeDesc} {ok : Bool} {z : AV} {m k : Operand} {v : AV} (ho : o.op = .lookup t m k ok) (ht : P.underlying t = some (.map kt e))
    (hk : P.underlying kt = some d) (hz : zeroT P e = some z) (h : rLookup P S kt ok z (F.ev m) (F.ev k) = some v) : ReadsTo P ρ a o v w := by
  unfold rLookup at h
  split at h
  · next kv es hkv hes =>
    have ek := toV_sound hkv (ev_sound hF k)
    split at h
    · next hok =>
      have hck := keyOk_sound hok w
      obtain ⟨it, zv, e1, e2, e3⟩ := zeroT_some hz
      have hzrun : (zeroValue e).run P w = .ok zv w := by simp [zeroValue, typeInfo, e1, e2]
      -- the entries
      obtain ⟨es', hent, hem, hrun⟩ : ∃ es' : Array MapEntry, EntR ρ es es'.toList ∧ es'.isEmpty = es.isEmpty ∧
          ∀ r', (Instr.findKey kt kv es'.toList).run P w = .ok r' w → (execOp a.eval o).run P w =
            .ok (.value (let p := (match r' with | some (_, v) => (v, true) | none => (zv, false)); if ok then .tuple #[p.1, .bool p.2] else p.1)) w := by
        rcases mapOf_some hR hes (ev_sound hF m) with ⟨em, rfl⟩ | ⟨id, b, o1, l, es', clock, _, hb, hg, em, hh, hent⟩
        · refine ⟨#[], ⟨rfl, fun i k v hi => by simp at hi⟩, rfl, fun r' hr' => ?_⟩
          simp only [List.isEmpty_nil] at hck
          cases r' with
          | none => simp [execOp, ho, Instr.lookup, run_underlying ht, em, ek, hck, hr', hzrun]
          | some q => simp [execOp, ho, Instr.lookup, run_underlying ht, em, ek, hck, hr', hzrun]
        · have hemp : es'.isEmpty = es.isEmpty := by
            have := hent.1
            simp at this
            cases es with
            | nil => simp at this; simp [this]
            | cons p es => rw [List.isEmpty_cons, Array.isEmpty_eq_false_iff]; intro e; rw [e] at this; simp at this
          refine ⟨es', hent, hemp, fun r' hr' => ?_⟩
          rw [← hemp] at hck
          have hgm := run_getMap (P := P) hh
          cases r' with
          | none => simp [execOp, ho, Instr.lookup, run_underlying ht, em, ek, hgm, hck, hr', hzrun]
          | some q => simp [execOp, ho, Instr.lookup, run_underlying ht, em, ek, hgm, hck, hr', hzrun]
      split at h
      · next i u hf =>
        obtain ⟨r', h1, h2⟩ := findE_sound w hf hent
        cases r' with
        | none => exact h2.elim
        | some q =>
          obtain ⟨j, x⟩ := q
          have := hrun _ (findKey_sound hk h1)
          cases h
          cases ok
          · exact ⟨x, h2.2, by simpa using this⟩
          · exact ⟨_, .tup (.cons h2.2 (.cons (.sc rfl) .nil)), by simpa using this⟩
      · next hf =>
        obtain ⟨r', h1, h2⟩ := findE_sound w hf hent
        cases r' with
        | some q => exact h2.elim
        | none =>
          have := hrun _ (findKey_sound hk h1)
          cases h
          cases ok
          · exact ⟨zv, ofV_sound e3, by simpa using this⟩
          · exact ⟨_, .tup (.cons (ofV_sound e3) (.cons (.sc rfl) .nil)), by simpa using this⟩
      · cases h
    · cases h
  · cases h

theorem r_maplen (hR : R P ρ S w) (hF : FR ρ F a.tmps) {c : Call} {t kt e : TypeId} {x : Operand} {v : AV} (ho : o.op = .call c) (hcal : c.callee = .builtin .len) (hargs : c.args = #[x]) (htys : c.argTypes = #[t])
    (hu : P.underlying t = some (.map kt e)) (h : rMaplen S (F.ev x) = some v) : ReadsTo P ρ a o v w := by
  unfold rMaplen at h
  split at h
  · next es hes =>
    cases h
    rcases mapOf_some hR hes (ev_sound hF x) with ⟨em, rfl⟩ | ⟨id, b, o1, l, es', clock, _, hb, hg, em, hh, hent⟩
    · exact ⟨_, .sc rfl, by simp [execOp, ho, resolve, hcal, hargs, htys, invoke, builtin, Builtin.len_, run_underlying hu, em, goInt]⟩
    · have hgm := run_getMap (P := P) hh
      have hl : es'.size = es.length := by have := hent.1; simpa using this
      exact ⟨_, .sc rfl, by simp [execOp, ho, resolve, hcal, hargs, htys, invoke, builtin, Builtin.len_, run_underlying hu, em, hgm, goInt, hl]⟩
  · cases h
end
end Go.Abs
namespace Go.Abs
noncomputable section
set_option linter.unusedSectionVars false
variable [Tok]
set_option linter.unusedVariables false
set_option linter.unusedSimpArgs false
variable {P : Program} {ρ : Ren} {F : Fr} {a : Act} {o : Oper} {S : AH} {w : World}

/-! ### what makes new memory -/
/-- one new block: the object, and the value of its number -/
def evalAlloc : AOp → Option (AO × (Nat → AV))
  | .alloc cs => some (.row cs, fun id => .ptr id 0)
  | .box x => match odd x with
    | true => none
    | false => some (.row x.cells, fun id => .ptr id 0)
  | .bslice es n zero parts => match fillP (repZero zero n) parts with
    | some c => match Nat.beq (lenL c) (Nat.mul n es) && Nat.beq (lenL zero) es with
      | true => some (.row c, fun id => .sl id 0 n n)
      | false => none
    | none => none
  | .mkslice es bytes zero len cap => match asInt len with
    | some (_, l) => match asInt cap with
      | some (_, c) => match nat? l with
        | some l => match nat? c with
          | some c => match Nat.ble l c && Nat.ble (Nat.mul bytes c) 140737488355328 && Nat.ble c 9223372036854775807 && Nat.beq (lenL zero) es with
            | true => some (.row (repZero zero c), fun id => .sl id 0 l c)
            | false => none
          | none => none
        | none => none
      | none => none
    | none => none
  | .mkmap => some (.map [], fun id => .map id)
  | _ => none

theorem evalOp_alloc {o : AOp} (h : o.kind = .alloc) (S : AH) : evalOp P o S = match evalAlloc o with
    | some (ob, f) => some (f S.next, S.new ob)
    | none => none := by
  cases o <;> first | rfl | (cases h; done) | skip
  case box x =>
    show nBox x S = _
    simp only [nBox, evalAlloc]
    cases odd x <;> rfl
  case bslice es n zero parts =>
    show nBslice es n zero parts S = _
    simp only [nBslice, evalAlloc]
    cases fillP (repZero zero n) parts with
    | none => rfl
    | some c => simp only; cases (Nat.beq (lenL c) (Nat.mul n es) && Nat.beq (lenL zero) es) <;> rfl
  case mkslice es bytes zero len cap =>
    show nMkslice es bytes zero len cap S = _
    simp only [nMkslice, evalAlloc]
    cases asInt len with
    | none => rfl
    | some p =>
      cases asInt cap with
      | none => rfl
      | some q =>
        obtain ⟨_, l⟩ := p
        obtain ⟨_, c⟩ := q
        simp only
        cases nat? l with
        | none => rfl
        | some l =>
          cases nat? c with
          | none => rfl
          | some c => simp only; cases (Nat.ble l c && Nat.ble (Nat.mul bytes c) 140737488355328 && Nat.ble c 9223372036854775807 && Nat.beq (lenL zero) es) <;> rfl

theorem evalAlloc_rw {o : AOp} {ob : AO} {f : Nat → AV} (h : evalAlloc o = some (ob, f)) : isRo ob = false := by
  unfold evalAlloc at h
  split at h <;> (repeat' split at h) <;> first | (cases h; done) | (cases h; rfl)

/-- what an operation that makes memory comes to -/
def Makes (P : Program) (ρ : Ren) (a : Act) (o : Oper) (ob : AO) (f : Nat → AV) (w : World) : Prop :=
  ∃ x w' l, (execOp a.eval o).run P w = .ok (.value x) w' ∧ SameW w w' ∧ w'.heap.size = w.heap.size + 1 ∧ (∀ b, b < w.heap.size → w'.heap[b]? = w.heap[b]?) ∧
    ∀ ρ' id, ρ.le ρ' → ρ' id = some (w.heap.size, 0, l) → V ρ' (f id) x ∧ OR P ρ' w' w.heap.size 0 l ob

theorem sameW_alloc (w : World) (ob : Obj) : SameW w (w.alloc ob) := ⟨rfl, rfl, rfl⟩
theorem alloc_old (w : World) (ob : Obj) (b : Nat) (h : b < w.heap.size) : (w.alloc ob).heap[b]? = w.heap[b]? := by
  show (w.heap.push ob)[b]? = _
  simp [Array.getElem?_push, Nat.ne_of_lt h]
theorem alloc_at (w : World) (ob : Obj) : (w.alloc ob).heap[w.heap.size]? = some ob := by
  show (w.heap.push ob)[w.heap.size]? = _
  simp
theorem alloc_size (w : World) (ob : Obj) : (w.alloc ob).heap.size = w.heap.size + 1 := by
  show (w.heap.push ob).size = _
  simp

theorem makes_row {cells : List AV} {c : Array Value} {e : TypeId} {x : Value} {f : Nat → AV} (hc : VL ρ cells c.toList) (h1 : ∀ y ∈ c.toList, y.oneCell' = true)
    (hrun : (execOp a.eval o).run P w = .ok (.value x) (w.alloc (.cells c e)))
    (hv : ∀ ρ' id, ρ' id = some (w.heap.size, 0, c.size) → V ρ' (f id) x) : Makes P ρ a o (.row cells) f w := by
  refine ⟨x, _, c.size, hrun, sameW_alloc w _, alloc_size w _, alloc_old w _, fun ρ' id hl hid => ⟨hv ρ' id hid, c, e, alloc_at w _, rfl, ?_, fun i v hi => ?_⟩⟩
  · have := hc.length; simp at this; omega
  · obtain ⟨y, e1, e2⟩ := hc.get hi
    refine ⟨y, by simpa using e1, e2.mono hl, h1 y (List.mem_of_getElem? e1)⟩

theorem m_alloc {t : TypeId} {zc : List AV} (ho : o.op = .alloc t) (hz : zeroC P t = some zc) : Makes P ρ a o (.row zc) (fun id => .ptr id 0) w := by
  obtain ⟨z, hz', hodd, rfl⟩ := zeroC_some hz
  obtain ⟨it, zv, e1, e2, e3⟩ := zeroT_some hz'
  obtain ⟨hc, h1⟩ := ofV_cells (ρ := ρ) e3 hodd
  refine makes_row (e := t) hc h1 (x := .pointer (some ⟨w.heap.size, 0, none⟩)) ?_ fun ρ' id h => V.ptr h
  simp [execOp, ho, Instr.alloc, zeroValue, typeInfo, e1, e2, newVar, newRow]

theorem m_box (hF : FR ρ F a.tmps) {t : TypeId} {x : Operand} (ho : o.op = .box t x) (hodd : odd (F.ev x) = false) : Makes P ρ a o (.row (F.ev x).cells) (fun id => .ptr id 0) w := by
  obtain ⟨hc, h1⟩ := (ev_sound hF x).cellsL hodd
  refine makes_row (e := t) hc h1 (x := .pointer (some ⟨w.heap.size, 0, none⟩)) ?_ fun ρ' id h => V.ptr h
  simp [execOp, ho, Instr.box, newVar, newRow]

theorem repZero_length (z : List AV) : ∀ n, (repZero z n).length = n * z.length
  | 0 => by simp [repZero]
  | n + 1 => by simp [repZero, appL_eq, repZero_length z n, Nat.add_mul]; omega
theorem repZero_get (z : List AV) : ∀ (n i : Nat), i < n * z.length → (repZero z n)[i]? = z[i % z.length]?
  | 0, i, h => by simp at h
  | n + 1, i, h => by
    simp only [repZero, appL_eq]
    by_cases hi : i < z.length
    · rw [List.getElem?_append_left hi, Nat.mod_eq_of_lt hi]
    · rw [List.getElem?_append_right (by omega), repZero_get z n (i - z.length) (by rw [Nat.add_mul] at h; omega)]
      congr 1
      rw [← Nat.mod_eq_sub_mod (by omega)]

/-- the zeros of a slice -/
theorem zeros_sound {z : List AV} {zs : Array Value} {es n m : Nat} (hz : VL ρ z zs.toList) (h1 : ∀ y ∈ zs.toList, y.oneCell' = true) (hes : z.length = es) (hm : m = n * es) :
    VL ρ (repZero z n) ((Array.range m).map fun i => zs[i % zs.size]!).toList ∧ ∀ y ∈ ((Array.range m).map fun i => zs[i % zs.size]!).toList, y.oneCell' = true := by
  have hs : zs.size = es := by have := hz.length; simp at this; omega
  have hget : ∀ i, i < m → ∃ v x, z[i % es]? = some v ∧ zs[i % zs.size]! = x ∧ V ρ v x ∧ x.oneCell' = true := by
    intro i hi
    have hes0 : 0 < es := by
      rcases Nat.eq_zero_or_pos es with e | e
      · subst e; simp at hm; omega
      · exact e
    have hlt : i % es < z.length := by rw [hes]; exact Nat.mod_lt _ hes0
    have hv : z[i % es]? = some z[i % es] := List.getElem?_eq_getElem hlt
    obtain ⟨x, e1, e2⟩ := hz.get hv
    refine ⟨_, x, hv, ?_, e2, h1 x (List.mem_of_getElem? e1)⟩
    rw [hs]
    rw [Array.getElem?_toList] at e1
    simp [getElem!_def, e1]
  refine ⟨VL.of_get (by simp [repZero_length, hes, hm]) fun i v x hi hx => ?_, fun y hy => ?_⟩
  · have him : i < m := by have := (List.getElem?_eq_some_iff.1 hx).1; simpa using this
    rw [repZero_get z n i (by rw [hes, ← hm]; exact him), hes] at hi
    obtain ⟨v', x', e1, e2, e3, e4⟩ := hget i him
    rw [e1] at hi
    cases hi
    simp [him] at hx
    rw [← hx, e2]
    exact e3
  · simp only [Array.toList_map, Array.toList_range, List.mem_map, List.mem_range] at hy
    obtain ⟨i, hi, rfl⟩ := hy
    obtain ⟨v', x', e1, e2, e3, e4⟩ := hget i hi
    rw [e2]; exact e4

theorem m_bslice (hF : FR ρ F a.tmps) {t e : TypeId} {len es : Nat} {parts : Array (Nat × Operand)} {zc c : List AV} {ps : List (Nat × Nat × AV)} (ho : o.op = .buildSlice t len parts)
    (hu : P.underlying t = some (.slice e)) (hn : sizeT P e = some es) (hz : zeroC P e = some zc) (hle : ¬ len * es > 16777216) (hp : partsOf F (fun i => some (i * es, es)) parts.toList = some ps)
    (hf : fillP (repZero zc len) ps = some c) (hlen : lenL c = len * es) (hzl : lenL zc = es) : Makes P ρ a o (.row c) (fun id => .sl id 0 len len) w := by
  obtain ⟨z, hz', hodd, rfl⟩ := zeroC_some hz
  obtain ⟨it, zv, e1, e2, e3⟩ := zeroT_some hz'
  obtain ⟨hc, h1⟩ := ofV_cells (ρ := ρ) e3 hodd
  rw [lenL_eq] at hlen hzl
  obtain ⟨ie, hie, hies⟩ := sizeT_some hn
  -- the zeros, as they are laid
  obtain ⟨zs, hzs, hzrun⟩ : ∃ zs : Array Value, (VL ρ (repZero z.cells len) ((Array.range (len * es)).map fun i => zs[i % zs.size]!).toList ∧ ∀ y ∈ ((Array.range (len * es)).map fun i => zs[i % zs.size]!).toList, y.oneCell' = true) ∧
      (if len * es = 0 then pure #[] else do pure (← zeroValue e).cells : Sem (Array Value)).run P w = .ok zs w := by
    by_cases h0 : len * es = 0
    · refine ⟨#[], ⟨?_, ?_⟩, by simp [h0]⟩
      · have : repZero z.cells len = [] := List.eq_nil_of_length_eq_zero (by rw [repZero_length, hzl, h0])
        rw [this, h0]; simpa using VL.nil
      · rw [h0]; intro y hy; simp at hy
    · exact ⟨zv.cells, zeros_sound hc h1 hzl rfl, by simp [h0, zeroValue, typeInfo, e1, e2]⟩
  obtain ⟨xs', g1, g2, g3⟩ := fill_sound hF parts.toList hp hf hzs.1 hzs.2
  have em : (parts.map fun (i, x) => (i, a.eval x)).toList = parts.toList.map fun p => (p.1, a.eval p.2) := by simp
  have hsz : xs'.size = len * es := by have := g2.length; simp at this; omega
  refine makes_row (e := e) g2 g3 (x := .slice (some ⟨w.heap.size, 0, none⟩) len len) ?_ fun ρ' id h => V.sl h
  have hle' : ¬ (16777216 < len * es) := hle
  simp only [execOp, ho]
  rw [Sem.run_bind]
  have : (Instr.buildSlice t len (parts.map fun (i, x) => (i, a.eval x))).run P w = .ok (.slice (some ⟨w.heap.size, 0, none⟩) len len) (w.alloc (.cells xs' e)) := by
    unfold Instr.buildSlice
    rw [Sem.run_bind, run_underlying hu, Result.andThen_ok]
    simp only
    rw [Sem.run_bind, run_sizeT hn, Result.andThen_ok]
    simp only [em]
    simp only [show ((2 : Nat) ^ 24) = 16777216 from rfl, gt_iff_lt, hle', if_false]
    by_cases h0 : len * es = 0
    · rw [if_pos h0, Sem.run_pure] at hzrun
      injection hzrun with hq
      subst hq
      rw [if_pos h0, Sem.run_bind, Sem.run_pure, Result.andThen_ok]
      simp only [g1]
      simp [newRow]
    · have hq : zv.cells = zs := by simpa [h0, zeroValue, typeInfo, e1, e2] using hzrun
      subst hq
      have hzv : (zeroValue e).run P w = .ok zv w := by simp [zeroValue, typeInfo, e1, e2]
      rw [if_neg h0, Sem.run_bind, hzv, Result.andThen_ok, Sem.run_bind, Sem.run_pure, Result.andThen_ok]
      simp only [g1]
      simp [newRow]
  rw [this]
  rfl

theorem m_mkslice (hF : FR ρ F a.tmps) {t e : TypeId} {es bytes l c : Nat} {x y : Operand} {zc : List AV} {k k' : IntKind} (ho : o.op = .makeSlice t x y) (hu : P.underlying t = some (.slice e))
    (hn : sizeT P e = some es) (hb : bytesT P e = some bytes) (hz : zeroC P e = some zc) (hx : F.ev x = .sc (.int k (l : Int))) (hy : F.ev y = .sc (.int k' (c : Int))) (hlc : l ≤ c) (hbc : bytes * c ≤ 140737488355328)
    (hc63 : c ≤ 9223372036854775807) (hzl : lenL zc = es) : Makes P ρ a o (.row (repZero zc c)) (fun id => .sl id 0 l c) w := by
  obtain ⟨z, hz', hodd, rfl⟩ := zeroC_some hz
  obtain ⟨it, zv, e1, e2, e3⟩ := zeroT_some hz'
  obtain ⟨hc, h1⟩ := ofV_cells (ρ := ρ) e3 hodd
  rw [lenL_eq] at hzl
  obtain ⟨ie, hie, rfl⟩ := sizeT_some hn
  have hieq : it = ie := by rw [e1] at hie; cases hie; rfl
  subst hieq
  have hby : it.bytes = bytes := by unfold bytesT at hb; rw [e1] at hb; exact Option.some.inj hb
  have hex := (hx ▸ ev_sound hF x).int_inv
  have hey := (hy ▸ ev_sound hF y).int_inv
  have hzz := zeros_sound (n := c) hc h1 hzl rfl
  have hw : IntKind.i64.wrap (l : Int) = l := wrap_id .i64 l (by show l ≤ 9223372036854775807; omega)
  have hw' : IntKind.i64.wrap (c : Int) = c := wrap_id .i64 c (by show c ≤ 9223372036854775807; omega)
  have hzsz : zv.cells.size = it.size := by have := hc.length; simp at this; omega
  refine makes_row (e := e) hzz.1 hzz.2 (x := .slice (some ⟨w.heap.size, 0, none⟩) l c) ?_ fun ρ' id h => V.sl h
  have n1 : ¬ ((c : Int) < 0) := by omega
  have n2 : ¬ ((281474976710656 : Int) < (it.bytes : Int) * (c : Int)) := by
    rw [hby, ← Int.natCast_mul]
    omega
  have n3 : ¬ ((l : Int) < 0) := by omega
  have n4 : ¬ ((c : Int) < (l : Int)) := by omega
  by_cases h0 : c * it.size = 0
  · simp [execOp, ho, Instr.makeSlice, run_underlying hu, hex, hey, asInt, Go.asInt, asIntOf, typeInfo, e1, hw, hw', n1, n2, n3, n4, sizeOf, h0, newRow, Array.range_zero']
  · simp [execOp, ho, Instr.makeSlice, run_underlying hu, hex, hey, asInt, Go.asInt, asIntOf, typeInfo, e1, hw, hw', n1, n2, n3, n4, sizeOf, h0, newRow, zeroValue, e2]

theorem m_mkmap {t k e : TypeId} (ho : o.op = .makeMap t none) : Makes P ρ a o (.map []) (fun id => .map id) w := by
  refine ⟨.map (some w.heap.size), w.alloc (.map #[] 0), 0, ?_, sameW_alloc w _, alloc_size w _, alloc_old w _, fun ρ' id hl hid => ⟨.map hid, #[], 0, alloc_at w _, rfl, fun i k v hi => by simp at hi⟩⟩
  simp [execOp, ho, Instr.makeMap]
end
end Go.Abs
