/- The data of an evaluator for programs of the model, and its first lemmas. -/
import GoSem.Core.Code
import GoSem.Core.View
import GoSem.Core.Utf8
import GoSem.Core.Region
import GoSem.Core.Layout
import GoSem.Op.Equal
import Derived.Orders
import Derived.Below
import Derived.Laws.World
import Derived.Laws.Cells
import Derived.Laws.IdiomCopy
section
namespace Go.Eng
inductive Nm where
  | h
  | o (p : Nm)
  | i (p : Nm)
  deriving DecidableEq, Inhabited, Repr
namespace Nm
def succ : Nm → Nm
  | .h => .o .h
  | .o p => .i p
  | .i p => .o p.succ
def val : Nm → Nat
  | .h => 1
  | .o p => 2 * p.val
  | .i p => 2 * p.val + 1
def ofNatF : Nat → Nat → Nm
  | 0, _ => .h
  | f + 1, n => if n ≤ 1 then .h else if n % 2 = 0 then .o (ofNatF f (n / 2)) else .i (ofNatF f (n / 2))
def ofNat (n : Nat) : Nm := ofNatF n n
def eqb : Nm → Nm → Bool
  | .h, .h => true
  | .o p, .o q => eqb p q
  | .i p, .i q => eqb p q
  | _, _ => false
end Nm
inductive Tr (α : Type) where
  | leaf
  | node (l : Tr α) (v : Option α) (r : Tr α)
  deriving Inhabited
namespace Tr
variable {α : Type}
def root : Tr α → Option α
  | .leaf => none
  | .node _ v _ => v
def left : Tr α → Tr α
  | .leaf => .leaf
  | .node l _ _ => l
def right : Tr α → Tr α
  | .leaf => .leaf
  | .node _ _ r => r
def get : Nm → Tr α → Option α
  | .h, t => t.root
  | .o p, t => get p t.left
  | .i p, t => get p t.right
def set (x : Option α) : Nm → Tr α → Tr α
  | .h, t => .node t.left x t.right
  | .o p, t => .node (set x p t.left) t.root t.right
  | .i p, t => .node t.left t.root (set x p t.right)
end Tr
inductive V where
  | bool (b : Bool)
  | int (k : IntKind) (n : Int)
  | str (s : List Nat)
  | nilp
  | ptr (b : Nm) (i j : Nat)
  | rp (cs : List V) (j : Nat)
  | nils
  | row (b : Nm) (sz off len : Nat) (clip : Bool)
  | dsl (es : List V) (clip : Bool)
  | nilm
  | map (b : Nm)
  | clo (fn : Fn) (first cap : List V)
  | nilf
  | iface (t : TypeId) (v : V)
  | nili
  | agg (cs : List V)
  | tup (vs : List V)
  | it (b : Nm)
  deriving Inhabited
def V.cells : V → List V
  | .agg cs => cs
  | v => [v]
def scalarV : V → Bool
  | .agg _ | .tup _ => false
  | _ => true
def notTup : V → Bool
  | .tup _ => false
  | _ => true
inductive Ar where
  | t (p : Nm)
  | c (v : V)
  deriving Inhabited
inductive Cv where
  | int (k : IntKind)
  | same
  | toUnsafe
  | fromUnsafe (e : TypeId)
  | strToBytes (e : TypeId)
  | runeToStr
  deriving Inhabited
inductive Ks where
  | bool
  | int
  | str
  | ptr
  | iface (any : Bool)
  | struct (fs : List (Nat × Nat × Ks))
  | array (n sz : Nat) (k : Ks)
  deriving Inhabited
def aggKs : Ks → Bool
  | .struct _ | .array .. => true
  | _ => false
inductive Nk where
  | ptr | slice | map | func | iface
  deriving Inhabited, DecidableEq
inductive Sl where
  | str
  | slice (sz : Nat)
  | arr (n sz : Nat)
  deriving Inhabited
inductive Callee where
  | fn (f : Nm)
  | val (f : Ar)
  | invoke (recv : Ar) (method : String)
  deriving Inhabited
inductive AOp where
  | mv (x : Ar)
  | pick (c a b : Ar)
  | alloc (zero : List V) (ty : TypeId)
  | box (n : Nat) (ty : TypeId) (x : Ar)
  | build (zero : List V) (parts : List (Nat × Nat × Ar))
  | buildSlice (sz : Nat) (ty : TypeId) (zero : List V) (len : Nat) (parts : List (Nat × Ar))
  | load (n : Nat) (agg : Bool) (a : Ar)
  | store (n : Nat) (a v : Ar)
  | nilCheck (x : Ar)
  | bin (op : BinOp) (x y : Ar)
  | eq (neg : Bool) (k : Ks) (x y : Ar)
  | isNil (k : Nk) (neg : Bool) (x : Ar)
  | un (op : UnOp) (x : Ar)
  | conv (k : Cv) (x : Ar)
  | mkIface (t : TypeId) (x : Ar)
  | mkFunc (fn : Fn) (first cap : List Ar)
  | mkMap
  | mkSlice (sz : Nat) (ty : TypeId) (zero : List V) (len cap : Ar)
  | slice (k : Sl) (x : Ar) (lo hi mx : Option Ar)
  | fieldAddr (off : Nat) (x : Ar)
  | field (off n : Nat) (agg : Bool) (x : Ar)
  | indexAddr (sz : Nat) (arr : Option Nat) (x i : Ar)
  | indexStr (x i : Ar)
  | indexArr (n sz : Nat) (agg : Bool) (x i : Ar)
  | lookup (k : Ks) (zero : V) (x i : Ar) (ok : Bool)
  | mapUpdate (k : Ks) (m key v : Ar)
  | mapDelete (k : Ks) (m key : Ar)
  | mapEntry (k : Ks) (zero : V) (m key : Ar)
  | entryStore (m stamp v : Ar)
  | rangeStr (x : Ar)
  | rangeMap (x : Ar)
  | nextStr (x : Ar)
  | nextMap (x : Ar)
  | entry (x : Ar)
  | assertT (t : TypeId) (zero : V) (ok : Bool) (x : Ar)
  | assertI (ms : List (String × TypeId)) (ok : Bool) (x : Ar)
  | extract (x : Ar) (i : Nat)
  | lenS (x : Ar)
  | lenL (x : Ar)
  | lenM (x : Ar)
  | cap (x : Ar)
  | append (sz : Nat) (ty : TypeId) (x y : Ar)
  | appendZ (sz : Nat) (ty : TypeId) (zero : List V) (x n : Ar)
  | uData (x : Ar)
  | uStr (ty : TypeId) (x n : Ar)
  | min2 (x y : Ar)
  | max2 (x y : Ar)
  | call (f : Callee) (args : List Ar)
  | bad (why : String)
  deriving Inhabited
structure AOper where
  dst : Option Nm
  op : AOp
  guard : Option (Nm × Bool)
  deriving Inhabited
inductive DK where
  | light | fresh | heavy
  deriving Inhabited, DecidableEq
structure DStep where
  op : AOper
  kind : DK
  checks : List AOper
  deriving Inhabited
inductive ACode where
  | skip
  | region (ops : List AOper)
  | draw (steps : List DStep)
  | seq (a b : ACode)
  | cond (c : Ar) (a b : ACode)
  | block (id : Nat) (body : ACode)
  | loop (body : ACode)
  | rangeFunc (f : Ar) (params : List Nm) (assign body : ACode)
  | exit (id : Nat)
  | ret
  | bad (why : String)
  deriving Inhabited
inductive ARes where
  | tmp (t : Nm)
  | cell (a : Nm) (n : Nat) (agg : Bool)
  deriving Inhabited
structure AFn where
  body : ACode
  results : List ARes
  deriving Inhabited
inductive Ex where
  | normal
  | ret
  | exit (id : Nat)
  deriving Inhabited, DecidableEq
inductive O where
  | row (es : List (List V)) (sz : Nat) (ty : TypeId)
  | map (es : List (V × V × Nat)) (clock : Nat)
  | sIter (s : List Nat) (pos : Nat)
  | mIter (m : Option Nm) (since : Nat) (seen : List Nat) (last : Nat)
  | loop (tmps : Tr V) (params : List Nm) (assign body : ACode) (state : Nat) (pending : Option Ex)
  deriving Inhabited
structure St where
  heap : Tr O
  next : Nm
  drawn : Nat
  deriving Inhabited
def undef : V := .tup []
def arg (τ : Tr V) : Ar → V
  | .t p => (τ.get p).getD undef
  | .c v => v
end Go.Eng
end
section
namespace Go.Eng
def takeExact {α : Type} : Nat → List α → Option (List α)
  | 0, _ => some []
  | _ + 1, [] => none
  | n + 1, a :: l => match takeExact n l with
    | some r => some (a :: r)
    | none => none
def dropExact {α : Type} : Nat → List α → Option (List α)
  | 0, l => some l
  | _ + 1, [] => none
  | n + 1, _ :: l => dropExact n l
def nth {α : Type} : Nat → List α → Option α
  | _, [] => none
  | 0, a :: _ => some a
  | n + 1, _ :: l => nth n l
def splice {α : Type} : List α → Nat → List α → Option (List α)
  | [], _, l => some l
  | _ :: _, _, [] => none
  | x :: xs, 0, _ :: l => match splice xs 0 l with
    | some r => some (x :: r)
    | none => none
  | x :: xs, n + 1, a :: l => match splice (x :: xs) n l with
    | some r => some (a :: r)
    | none => none
def window {α : Type} (j n : Nat) (l : List α) : Option (List α) :=
  match dropExact j l with
  | some r => takeExact n r
  | none => none
def loadCells (H : Tr O) (n : Nat) : V → Option (List V)
  | .ptr b i j => match H.get b with
    | some (.row es _ _) => match nth i es with
      | some cs => window j n cs
      | none => none
    | _ => none
  | .rp cs j => window j n cs
  | _ => none
def pack (agg : Bool) (cs : List V) : Option V :=
  match agg with
  | true => some (.agg cs)
  | false => match cs with
    | [v] => some v
    | _ => none
def load (H : Tr O) (n : Nat) (agg : Bool) (p : V) : Option V :=
  match loadCells H n p with
  | some cs => pack agg cs
  | none => none
def store (s : St) (n : Nat) (p v : V) : Option St :=
  match p with
  | .ptr b i j => match s.heap.get b with
    | some (.row es sz ty) => match nth i es with
      | some cs =>
        if v.cells.length = n && v.cells.all scalarV then
          match splice v.cells j cs with
          | some cs' => match splice [cs'] i es with
            | some es' => some { s with heap := s.heap.set (some (.row es' sz ty)) b }
            | none => none
          | none => none
        else none
      | none => none
    | _ => none
  | _ => none
def new (s : St) (o : O) : Nm × St := (s.next, { s with heap := s.heap.set (some o) s.next, next := s.next.succ })
def elems (H : Tr O) : V → Option (List (List V))
  | .nils => some []
  | .row b _ off len _ => match H.get b with
    | some (.row es _ _) => window off len es
    | _ => none
  | .dsl es _ => some (es.map V.cells)
  | .str s => some (s.map fun c => [V.int .u8 (Int.ofNat c)])
  | _ => none
def leB (a b : Int) : Bool := decide (a ≤ b)
def bytesLt : List Nat → List Nat → Bool
  | _, [] => false
  | [], _ :: _ => true
  | a :: x, b :: y => Nat.blt a b || (Nat.beq a b && bytesLt x y)
def bytesEq : List Nat → List Nat → Bool
  | [], [] => true
  | a :: x, b :: y => Nat.beq a b && bytesEq x y
  | _, _ => false
def intBits (op : BinOp) (k : IntKind) (x y : Int) : Option V :=
  let m : Int := 2 ^ k.bits
  let a := (x % m).toNat
  let b := (y % m).toNat
  match op with
  | .and => some (.int k (k.wrap (Nat.land a b)))
  | .or => some (.int k (k.wrap (Nat.lor a b)))
  | .xor => some (.int k (k.wrap (Nat.xor a b)))
  | .andNot => some (.int k (k.wrap (Nat.land a (2 ^ k.bits - 1 - b))))
  | _ => none
def eqK (a b : IntKind) : Bool := decide (a = b)
def bin (op : BinOp) : V → V → Option V
  | .int k a, .int k' b =>
    match op with
    | .shl => if b < 0 then none else some (.int k (k.wrap (a * 2 ^ (min b.toNat k.bits))))
    | .shr => if b < 0 then none else some (.int k (a.fdiv (2 ^ (min b.toNat k.bits))))
    | op =>
      if eqK k k' then
        match op with
        | .add => some (.int k (k.wrap (a + b)))
        | .sub => some (.int k (k.wrap (a - b)))
        | .mul => some (.int k (k.wrap (a * b)))
        | .quo => if b = 0 then none else some (.int k (k.wrap (a.tdiv b)))
        | .rem => if b = 0 then none else some (.int k (a.tmod b))
        | .and | .or | .xor | .andNot => intBits op k a b
        | .eql => some (.bool (decide (a = b)))
        | .neq => some (.bool (!decide (a = b)))
        | .lss => some (.bool (decide (a < b)))
        | .leq => some (.bool (decide (a ≤ b)))
        | .gtr => some (.bool (decide (b < a)))
        | .geq => some (.bool (decide (b ≤ a)))
        | _ => none
      else none
  | .str a, .str b =>
    match op with
    | .add => if Nat.ble (a.length + b.length) 1000000000 then some (.str (a ++ b)) else none
    | .eql => some (.bool (bytesEq a b))
    | .neq => some (.bool (!bytesEq a b))
    | .lss => some (.bool (bytesLt a b))
    | .leq => some (.bool (bytesLt a b || bytesEq a b))
    | .gtr => some (.bool (!(bytesLt a b || bytesEq a b)))
    | .geq => some (.bool (!bytesLt a b))
    | _ => none
  | _, _ => none
def un (op : UnOp) : V → Option V
  | .int k n => match op with
    | .neg => some (.int k (k.wrap (0 - n)))
    | .xor => intBits .xor k (if k.signed then -1 else k.max) n
    | _ => none
  | .bool b => match op with
    | .not => some (.bool !b)
    | _ => none
  | _ => none
def nilV : Nk → V → Option Bool
  | .ptr, .nilp => some true
  | .ptr, .ptr .. => some false
  | .ptr, .rp .. => some false
  | .slice, .nils => some true
  | .slice, .row .. => some false
  | .slice, .dsl .. => some false
  | .map, .nilm => some true
  | .map, .map _ => some false
  | .func, .nilf => some true
  | .func, .clo .. => some false
  | .iface, .nili => some true
  | .iface, .iface .. => some false
  | _, _ => none
def eqPtr (H : Tr O) : V → V → Option Bool
  | .nilp, .nilp => some true
  | .nilp, .ptr .. => some false
  | .ptr .., .nilp => some false
  | .nilp, .rp .. => some false
  | .rp .., .nilp => some false
  | .ptr b i j, .ptr b' i' j' =>
    match b.eqb b' with
    | true => match H.get b with
      | some (.row _ sz _) => some (Nat.beq (i * sz + j) (i' * sz + j'))
      | _ => none
    | false => match H.get b, H.get b' with
      | some (.row (_ :: _) sz _), some (.row (_ :: _) sz' _) => if Nat.beq sz 1 && Nat.beq sz' 1 then none else some false
      | _, _ => none
  | _, _ => none
mutual
def eqV (H : Tr O) (ks : TypeId → Option Ks) : Nat → Ks → V → V → Option Bool
  | 0, _, _, _ => none
  | f + 1, k, x, y => match k with
    | .bool => match x, y with
      | .bool a, .bool b => some (a == b)
      | _, _ => none
    | .int => match x, y with
      | .int k a, .int k' b => if eqK k k' then some (decide (a = b)) else none
      | _, _ => none
    | .str => match x, y with
      | .str a, .str b => some (bytesEq a b)
      | _, _ => none
    | .ptr => eqPtr H x y
    | .iface okNil => match x, y with
      | .nili, .nili => if okNil then some true else none
      | .nili, .iface .. => some false
      | .iface .., .nili => some false
      | .iface t v, .iface u w => if Nat.beq t u then
          match ks t with
          | some k => eqV H ks f k v w
          | none => none
        else some false
      | _, _ => none
    | .struct fs => match x, y with
      | .agg a, .agg b => eqFs H ks f fs a b
      | _, _ => none
    | .array n sz k => match x, y with
      | .agg a, .agg b => eqArr H ks f k sz n 0 a b
      | _, _ => none
def eqFs (H : Tr O) (ks : TypeId → Option Ks) : Nat → List (Nat × Nat × Ks) → List V → List V → Option Bool
  | 0, _, _, _ => none
  | _ + 1, [], _, _ => some true
  | f + 1, (off, n, k) :: fs, a, b =>
    match window off n a with
    | some x => match window off n b with
      | some y => match pack (aggKs k) x with
        | some x => match pack (aggKs k) y with
          | some y => match eqV H ks f k x y with
            | some r => match eqFs H ks f fs a b with
              | some r' => some (r && r')
              | none => none
            | none => none
          | none => none
        | none => none
      | none => none
    | none => none
def eqArr (H : Tr O) (ks : TypeId → Option Ks) : Nat → Ks → Nat → Nat → Nat → List V → List V → Option Bool
  | 0, _, _, _, _, _, _ => none
  | f + 1, k, sz, n, i, a, b =>
    match n with
    | 0 => some true
    | n + 1 => match window (i * sz) sz a with
      | some x => match window (i * sz) sz b with
        | some y => match pack (aggKs k) x with
          | some x => match pack (aggKs k) y with
            | some y => match eqV H ks f k x y with
              | some r => match eqArr H ks f k sz n (i + 1) a b with
                | some r' => some (r && r')
                | none => none
              | none => none
            | none => none
          | none => none
        | none => none
      | none => none
end
def keyOk (ks : TypeId → Option Ks) : Ks → V → Bool
  | .bool, _ | .int, _ | .str, _ | .ptr, _ => true
  | .iface _, .nili => true
  | .iface _, .iface t _ => match ks t with
    | some .bool | some .int | some .str | some .ptr => true
    | _ => false
  | _, _ => false
def findKeyIn (H : Tr O) (ks : TypeId → Option Ks) (k : Ks) (key : V) : List (V × V × Nat) → Nat → Option (Option (Nat × V × Nat))
  | [], _ => some none
  | (a, v, b) :: es, i => match eqV H ks 50 k key a with
    | some true => some (some (i, v, b))
    | some false => findKeyIn H ks k key es (i + 1)
    | none => none
def findKey (H : Tr O) (ks : TypeId → Option Ks) (k : Ks) (key : V) (es : List (V × V × Nat)) : Option (Option (Nat × V × Nat)) :=
  match keyOk ks k key with
  | true => findKeyIn H ks k key es 0
  | false => none
def setNth {α : Type} : Nat → α → List α → List α
  | _, _, [] => []
  | 0, x, _ :: l => x :: l
  | n + 1, x, a :: l => a :: setNth n x l
def setBorn (n : Nat) (v : V) : List (V × V × Nat) → Option (List (V × V × Nat))
  | [] => none
  | (k, w, m) :: es => match Nat.beq m n with
    | true => some ((k, v, m) :: es)
    | false => match setBorn n v es with
      | some r => some ((k, w, m) :: r)
      | none => none
def snoc {α : Type} (l : List α) (a : α) : List α := l ++ [a]
def mapUpdate (ks : TypeId → Option Ks) (s : St) (k : Ks) (m key v : V) : Option St :=
  match m with
  | .map b => match s.heap.get b with
    | some (.map es clock) => match findKey s.heap ks k key es with
      | some (some (i, _, born)) => some { s with heap := s.heap.set (some (.map (setNth i (key, v, born) es) clock)) b }
      | some none => some { s with heap := s.heap.set (some (.map (snoc es (key, v, clock)) (clock + 1))) b }
      | none => none
    | _ => none
  | _ => none
def delNth {α : Type} : Nat → List α → List α
  | _, [] => []
  | 0, _ :: l => l
  | n + 1, a :: l => a :: delNth n l
def mapDelete (ks : TypeId → Option Ks) (s : St) (k : Ks) (m key : V) : Option St :=
  match m with
  | .map b => match s.heap.get b with
    | some (.map es clock) => match findKey s.heap ks k key es with
      | some (some (i, _, _)) => some { s with heap := s.heap.set (some (.map (delNth i es) clock)) b }
      | some none => some { s with heap := s.heap.set (some (.map es clock)) b }
      | none => none
    | _ => none
  | _ => none
def valid (r : Nat) : Bool := Nat.blt r 0xD800 || (Nat.ble 0xE000 r && Nat.ble r 0x10FFFF)
def contB : Option Nat → Bool
  | some b => Nat.beq (b / 64) 2
  | none => false
def low6 : Option Nat → Nat
  | some b => b % 64
  | none => 0
def dec (b0 : Nat) (g1 g2 g3 : Option Nat) : Nat × Nat :=
  if Nat.blt b0 0x80 then (b0, 1)
  else if Nat.beq (b0 / 32) 6 && contB g1 then
    if Nat.ble 0x80 ((b0 % 32) * 64 + low6 g1) then ((b0 % 32) * 64 + low6 g1, 2) else (0xFFFD, 1)
  else if Nat.beq (b0 / 16) 14 && contB g1 && contB g2 then
    if Nat.ble 0x800 ((b0 % 16) * 4096 + low6 g1 * 64 + low6 g2) && valid ((b0 % 16) * 4096 + low6 g1 * 64 + low6 g2) then ((b0 % 16) * 4096 + low6 g1 * 64 + low6 g2, 3) else (0xFFFD, 1)
  else if Nat.beq (b0 / 8) 30 && contB g1 && contB g2 && contB g3 then
    if Nat.ble 0x10000 ((b0 % 8) * 262144 + low6 g1 * 4096 + low6 g2 * 64 + low6 g3) && valid ((b0 % 8) * 262144 + low6 g1 * 4096 + low6 g2 * 64 + low6 g3) then
      ((b0 % 8) * 262144 + low6 g1 * 4096 + low6 g2 * 64 + low6 g3, 4) else (0xFFFD, 1)
  else (0xFFFD, 1)
def decode : List Nat → Nat × Nat
  | [] => (0xFFFD, 1)
  | b0 :: r => dec b0 (nth 0 r) (nth 1 r) (nth 2 r)
def encode (r : Int) : List Nat :=
  let c := if 0 ≤ r ∧ valid r.toNat then r.toNat else 0xFFFD
  if Nat.blt c 0x80 then [c]
  else if Nat.blt c 0x800 then [0xC0 + c / 64, 0x80 + c % 64]
  else if Nat.blt c 0x10000 then [0xE0 + c / 4096, 0x80 + c / 64 % 64, 0x80 + c % 64]
  else [0xF0 + c / 262144, 0x80 + c / 4096 % 64, 0x80 + c / 64 % 64, 0x80 + c % 64]
def natOf : V → Option Nat
  | .int _ n => match n with
    | .ofNat n => some n
    | _ => none
  | _ => none
def natOr (d : Nat) : Option V → Option Nat
  | none => some d
  | some v => natOf v
def bounds (len : Nat) (clip : Bool) (lo hi mx : Option V) : Option (Nat × Nat × Bool) :=
  match natOr len hi with
  | some h => match natOr 0 lo with
    | some l => match mx with
      | some m => match natOf m with
        | some m => if Nat.ble m len && Nat.ble h m && Nat.ble l h then some (l, h, Nat.beq m h) else none
        | none => none
      | none => if Nat.ble h len && Nat.ble l h then some (l, h, clip && Nat.beq h len) else none
    | none => none
  | none => none
def fillParts : List (Nat × Nat × V) → List V → Option (List V)
  | [], cs => some cs
  | (off, n, v) :: ps, cs =>
    if Nat.beq v.cells.length n && notTup v then
      match splice v.cells off cs with
      | some cs => fillParts ps cs
      | none => none
    else none
def fillElems : List (Nat × V) → Nat → List (List V) → Option (List (List V))
  | [], _, es => some es
  | (i, v) :: ps, sz, es =>
    if Nat.beq v.cells.length sz && notTup v then
      match splice [v.cells] i es with
      | some es => fillElems ps sz es
      | none => none
    else none
def rep {α : Type} : Nat → α → List α
  | 0, _ => []
  | n + 1, a => a :: rep n a
def grow (s : St) (sz : Nat) (ty : TypeId) (es : List (List V)) : Option (V × St) :=
  if Nat.ble es.length 1000000000 then
    let (b, s) := new s (.row es sz ty)
    some (.row b sz 0 es.length false, s)
  else none
def append (s : St) (sz : Nat) (ty : TypeId) (x : V) (ys : Option (List (List V))) : Option (V × St) :=
  match ys with
  | none => none
  | some [] => match x with
    | .nils | .row .. | .dsl .. => some (x, s)
    | _ => none
  | some ys =>
    if ys.all (fun e => Nat.beq e.length sz) then
      match x with
      | .nils => grow s sz ty ys
      | .row b sz' off len clip => if Nat.beq sz sz' then
          match s.heap.get b with
          | some (.row fs _ ty') => if Nat.beq ty ty' then
              match window off len fs with
              | some es => match clip with
                | true => grow s sz ty (es ++ ys)
                | false => grow { s with heap := s.heap.set none b } sz ty (es ++ ys)
              | none => none
            else none
          | _ => none
        else none
      | .dsl es true => if es.all (fun e => Nat.beq e.cells.length sz) then grow s sz ty (es.map V.cells ++ ys) else none
      | _ => none
    else none
def bytesOf : List (List V) → Option (List Nat)
  | [] => some []
  | e :: es => match e with
    | [v] => match v with
      | .int .u8 n => match n with
        | .ofNat n => match Nat.blt n 256 with
          | true => match bytesOf es with
            | some l => some (n :: l)
            | none => none
          | false => none
        | _ => none
      | _ => none
    | _ => none
def okV (v : Option V) (s : St) : Option (V × St) :=
  match v with
  | some v => some (v, s)
  | none => none
def okS (s : Option St) : Option (V × St) :=
  match s with
  | some s => some (undef, s)
  | none => none
def lenL : V → Option V
  | .nils => some (.int .i64 0)
  | .row _ _ _ n _ => some (.int .i64 n)
  | .dsl es _ => some (.int .i64 es.length)
  | _ => none
def lenM (H : Tr O) : V → Option V
  | .nilm => some (.int .i64 0)
  | .map b => match H.get b with
    | some (.map es _) => some (.int .i64 es.length)
    | _ => none
  | _ => none
def seenHas (n : Nat) : List Nat → Bool
  | [] => false
  | a :: l => Nat.beq a n || seenHas n l
def cands (es : List (V × V × Nat)) (since : Nat) (seen : List Nat) : List (Option (V × V × Nat)) :=
  let left := es.filter fun e => !seenHas e.2.2 seen
  let old := left.filter fun e => Nat.blt e.2.2 since
  let new := left.filter fun e => Nat.ble since e.2.2
  (if old.isEmpty then [none] else []) ++ (old ++ new).map some
def nextOf (s : St) (b m : Nm) (since clock : Nat) (seen : List Nat) : Option (Option (V × V × Nat)) → Option (V × St)
  | some (some (k, v, born)) => some (.tup [.bool true, k, v], { s with heap := s.heap.set (some (.mIter (some m) since (snoc seen born) clock)) b })
  | some none => some (.tup [.bool false], s)
  | none => none
def nextMap (or : Nat → Nat) (br : Nat) (s : St) (b : Nm) : Option (V × St) :=
  match s.heap.get b with
  | some (.mIter m since seen last) => match m with
    | none => some (.tup [.bool false], s)
    | some m => match s.heap.get m with
      | some (.map es clock) =>
        match !seen.isEmpty && !es.isEmpty && es.all (fun e => Nat.ble last e.2.2) with
        | true => none
        | false => match cands es since seen with
          | cs => match Nat.ble cs.length 1 with
            | true => nextOf s b m since clock seen (nth 0 cs)
            | false => match Nat.ble cs.length br with
              | true => nextOf { s with drawn := s.drawn + 1 } b m since clock seen (nth (or s.drawn % cs.length) cs)
              | false => none
      | _ => none
  | _ => none
def lookupIn (H : Tr O) (ks : TypeId → Option Ks) (k : Ks) (m key : V) : Option (Option V) :=
  match m with
  | .nilm => match keyOk ks k key with
    | true => some none
    | false => none
  | .map b => match H.get b with
    | some (.map es _) => match findKey H ks k key es with
      | some r => some (r.map fun p => p.2.1)
      | none => none
    | _ => none
  | _ => none
def optArg (τ : Tr V) : Option Ar → Option V
  | some a => some (arg τ a)
  | none => none
def exec (or : Nat → Nat) (br : Nat) (ks : TypeId → Option Ks) (hm : TypeId → List (String × TypeId) → Option Bool) (τ : Tr V) (s : St) : AOp → Option (V × St)
  | .mv x => some (arg τ x, s)
  | .pick c a b => match arg τ c with
    | .bool true => some (arg τ a, s)
    | .bool false => some (arg τ b, s)
    | _ => none
  | .alloc zero ty => let (b, s) := new s (.row [zero] zero.length ty); some (.ptr b 0 0, s)
  | .box n ty x => match notTup (arg τ x) && Nat.beq (arg τ x).cells.length n with
    | true => let (b, s) := new s (.row [(arg τ x).cells] n ty); some (.ptr b 0 0, s)
    | false => none
  | .build zero parts => match fillParts (parts.map fun (off, n, x) => (off, n, arg τ x)) zero with
    | some cs => some (.agg cs, s)
    | none => none
  | .buildSlice sz ty zero len parts => match fillElems (parts.map fun (i, x) => (i, arg τ x)) sz (rep len zero) with
    | some es => let (b, s) := new s (.row es sz ty); some (.row b sz 0 len true, s)
    | none => none
  | .load n agg a => okV (load s.heap n agg (arg τ a)) s
  | .store n a v => okS (store s n (arg τ a) (arg τ v))
  | .nilCheck x => match arg τ x with
    | .ptr b i j => some (.ptr b i j, s)
    | .rp cs j => some (.rp cs j, s)
    | .iface t v => some (.iface t v, s)
    | .clo (.func f) a b => some (.clo (.func f) a b, s)
    | _ => none
  | .bin op x y => okV (bin op (arg τ x) (arg τ y)) s
  | .eq neg k x y => match eqV s.heap ks 50 k (arg τ x) (arg τ y) with
    | some b => some (.bool (xor neg b), s)
    | none => none
  | .isNil k neg x => match nilV k (arg τ x) with
    | some b => some (.bool (xor neg b), s)
    | none => none
  | .un op x => okV (un op (arg τ x)) s
  | .conv k x => match k, arg τ x with
    | .int k, .int _ n => some (.int k (k.wrap n), s)
    | .same, .str l => some (.str l, s)
    | .toUnsafe, .nilp => some (.nilp, s)
    | .toUnsafe, .ptr b i 0 => match s.heap.get b with
      | some (.row es _ _) => if Nat.blt i es.length then some (.ptr b i 0, s) else none
      | _ => none
    | .runeToStr, .int _ n => some (.str (encode n), s)
    | .fromUnsafe _, .nilp => some (.nilp, s)
    | .fromUnsafe u, .ptr b i 0 => match s.heap.get b with
      | some (.row es _ ty) => if Nat.beq ty u && Nat.blt i es.length then some (.ptr b i 0, s) else none
      | _ => none
    | .strToBytes ty, .str l => let (b, s) := new s (.row (l.map fun c => [V.int .u8 (Int.ofNat c)]) 1 ty); some (.row b 1 0 l.length false, s)
    | _, _ => none
  | .mkIface t x => some (.iface t (arg τ x), s)
  | .mkFunc fn first cap => some (.clo fn (first.map (arg τ)) (cap.map (arg τ)), s)
  | .mkMap => let (b, s) := new s (.map [] 0); some (.map b, s)
  | .mkSlice sz ty zero len cap => match natOf (arg τ len), natOf (arg τ cap) with
    | some l, some c => if Nat.ble l c && Nat.ble c 1000000 then let (b, s) := new s (.row (rep l zero) sz ty); some (.row b sz 0 l (Nat.beq l c), s) else none
    | _, _ => none
  | .slice k x lo hi mx =>
    match k, arg τ x with
    | .str, .str l => match bounds l.length true (optArg τ lo) (optArg τ hi) none with
      | some (a, b, _) => match window a (b - a) l with
        | some l => some (.str l, s)
        | none => none
      | none => none
    | .slice _, .nils => match bounds 0 true (optArg τ lo) (optArg τ hi) (optArg τ mx) with
      | some _ => some (.nils, s)
      | none => none
    | .slice sz, .row n sz' off len clip => if Nat.beq sz sz' then match bounds len clip (optArg τ lo) (optArg τ hi) (optArg τ mx) with
        | some (a, b, c) => some (.row n sz (off + a) (b - a) c, s)
        | none => none
      else none
    | .slice sz, .dsl es clip => if es.all (fun e => Nat.beq e.cells.length sz) then match bounds es.length clip (optArg τ lo) (optArg τ hi) (optArg τ mx) with
        | some (a, b, c) => match window a (b - a) es with
          | some es => some (.dsl es c, s)
          | none => none
        | none => none
      else none
    | _, _ => none
  | .fieldAddr off x => match arg τ x with
    | .ptr b i j => some (.ptr b i (j + off), s)
    | .rp cs j => some (.rp cs (j + off), s)
    | _ => none
  | .field off n agg x => match arg τ x with
    | .agg cs => match window off n cs with
      | some cs => okV (pack agg cs) s
      | none => none
    | _ => none
  | .indexAddr sz arr x i => match natOf (arg τ i) with
    | some i => match arr with
      | some n => if Nat.blt i n then match arg τ x with
          | .ptr b k j => some (.ptr b k (j + i * sz), s)
          | .rp cs j => some (.rp cs (j + i * sz), s)
          | _ => none
        else none
      | none => match arg τ x with
        | .row b sz' off len _ => if Nat.blt i len && Nat.beq sz sz' then some (.ptr b (off + i) 0, s) else none
        | .dsl es _ => match nth i es with
          | some v => if Nat.beq v.cells.length sz then some (.rp v.cells 0, s) else none
          | none => none
        | _ => none
    | none => none
  | .indexStr x i => match arg τ x, natOf (arg τ i) with
    | .str l, some i => match nth i l with
      | some c => some (.int .u8 c, s)
      | none => none
    | _, _ => none
  | .indexArr n sz agg x i => match arg τ x, natOf (arg τ i) with
    | .agg cs, some i => if Nat.blt i n then match window (i * sz) sz cs with
        | some cs => okV (pack agg cs) s
        | none => none
      else none
    | _, _ => none
  | .lookup k zero x i ok => match lookupIn s.heap ks k (arg τ x) (arg τ i) with
    | some r => some (if ok then .tup [r.getD zero, .bool r.isSome] else r.getD zero, s)
    | none => none
  | .mapUpdate k m key v => okS (mapUpdate ks s k (arg τ m) (arg τ key) (arg τ v))
  | .mapDelete k m key => match mapDelete ks s k (arg τ m) (arg τ key) with
    | some s' => some (.tup [], s')
    | none => none
  | .mapEntry k zero m key => match arg τ m with
    | .map b => match s.heap.get b with
      | some (.map es clock) => match findKey s.heap ks k (arg τ key) es with
        | some (some (i, v, born)) => some (.tup [v, .int .i64 born], { s with heap := s.heap.set (some (.map (setNth i (arg τ key, v, born) es) clock)) b })
        | some none => some (.tup [zero, .int .i64 clock], { s with heap := s.heap.set (some (.map (snoc es (arg τ key, zero, clock)) (clock + 1))) b })
        | none => none
      | _ => none
    | _ => none
  | .entryStore m stamp v => match arg τ m, natOf (arg τ stamp) with
    | .map b, some n => match s.heap.get b with
      | some (.map es clock) => match setBorn n (arg τ v) es with
        | some es => some (undef, { s with heap := s.heap.set (some (.map es clock)) b })
        | none => none
      | _ => none
    | _, _ => none
  | .rangeStr x => match arg τ x with
    | .str l => let (b, s) := new s (.sIter l 0); some (.it b, s)
    | _ => none
  | .rangeMap x => match arg τ x with
    | .nilm => let (b, s) := new s (.mIter none 0 [] 0); some (.it b, s)
    | .map m => match s.heap.get m with
      | some (.map _ clock) => let (b, s) := new s (.mIter (some m) clock [] clock); some (.it b, s)
      | _ => none
    | _ => none
  | .nextStr x => match arg τ x with
    | .it b => match s.heap.get b with
      | some (.sIter l pos) =>
        if Nat.blt pos l.length then
          let (c, w) := decode (l.drop pos)
          some (.tup [.bool true, .int .i64 pos, .int .i32 c], { s with heap := s.heap.set (some (.sIter l (pos + w))) b })
        else some (.tup [.bool false], s)
      | _ => none
    | _ => none
  | .nextMap x => match arg τ x with
    | .it b => nextMap or br s b
    | _ => none
  | .entry x => match arg τ x with
    | .it b => match s.heap.get b with
      | some (.mIter (some m) _ seen stepped) => match s.heap.get m with
        | some (.map es clock) => if Nat.beq clock stepped then
            match seen.getLast? with
            | some n => match es.find? (fun e => Nat.beq e.2.2 n) with
              | some (k, v, _) => some (.tup [k, v], s)
              | none => none
            | none => none
          else none
        | _ => none
      | _ => none
    | _ => none
  | .assertT t zero ok x => match arg τ x with
    | .iface u v => if Nat.beq t u then some (if ok then .tup [v, .bool true] else v, s) else if ok then some (.tup [zero, .bool false], s) else none
    | .nili => if ok then some (.tup [zero, .bool false], s) else none
    | _ => none
  | .assertI ms ok x => match arg τ x with
    | .iface u v => match hm u ms with
      | some true => some (if ok then .tup [.iface u v, .bool true] else .iface u v, s)
      | some false => if ok then some (.tup [.nili, .bool false], s) else none
      | none => none
    | .nili => if ok then some (.tup [.nili, .bool false], s) else none
    | _ => none
  | .extract x i => match arg τ x with
    | .tup vs => okV (nth i vs) s
    | _ => none
  | .lenS x => match arg τ x with
    | .str l => some (.int .i64 l.length, s)
    | _ => none
  | .lenL x => okV (lenL (arg τ x)) s
  | .lenM x => okV (lenM s.heap (arg τ x)) s
  | .cap x => match arg τ x with
    | .nils => some (.int .i64 0, s)
    | .row _ _ _ n true => some (.int .i64 n, s)
    | _ => none
  | .append sz ty x y => append s sz ty (arg τ x) (elems s.heap (arg τ y))
  | .appendZ sz ty zero x n => match arg τ x, natOf (arg τ n) with
    | .nils, some (n + 1) => if Nat.ble (n + 1) 1000000 then grow s sz ty (rep (n + 1) zero) else none
    | _, _ => none
  | .uData x => match arg τ x with
    | .row b _ off (_ + 1) _ => some (.ptr b off 0, s)
    | _ => none
  | .uStr ty x n => match arg τ x, natOf (arg τ n) with
    | .ptr b i 0, some (n + 1) => match s.heap.get b with
      | some (.row fs sz ty') => if Nat.beq ty ty' && Nat.beq sz 1 && Nat.ble n 1000000000 then
          match window i (n + 1) fs with
          | some es => match bytesOf es with
            | some l => some (.str l, { s with heap := s.heap.set none b })
            | none => none
          | none => none
        else none
      | _ => none
    | _, _ => none
  | .min2 x y => match arg τ x, arg τ y with
    | .int k a, .int _ b => some (.int k (if b < a then b else a), s)
    | _, _ => none
  | .max2 x y => match arg τ x, arg τ y with
    | .int k a, .int _ b => some (.int k (if a < b then b else a), s)
    | _, _ => none
  | .call .. => none
  | .bad _ => none
end Go.Eng
end
section
namespace Go.Eng
variable (P : Program)
def ofScalar : Value → Option V
  | .bool b => some (.bool b)
  | .int k n => some (.int k n)
  | .string s => some (.str (s.data.toList.map UInt8.toNat))
  | .pointer none => some .nilp
  | .slice none 0 0 => some .nils
  | .map none => some .nilm
  | .nilFunc => some .nilf
  | .nilIface => some .nili
  | _ => none
def ofScalars : List Value → Option (List V)
  | [] => some []
  | v :: vs => match ofScalar v, ofScalars vs with
    | some a, some l => some (a :: l)
    | _, _ => none
def ofConst : Value → Option V
  | .agg cs => match ofScalars cs.toList with
    | some l => some (.agg l)
    | none => none
  | .tuple cs => match ofScalars cs.toList with
    | some l => some (.tup l)
    | none => none
  | v => ofScalar v
def nm (t : Nat) : Nm := Nm.ofNat (t + 1)
abbrev Globals := Nat → Option (List V)
def ar (G : Globals) : Operand → Option Ar
  | .tmp t => some (.t (nm t))
  | .const v => match ofConst v with
    | some v => some (.c v)
    | none => none
  | .global g => match G g with
    | some cs => some (.c (.rp cs 0))
    | none => none
  | .func f => some (.c (.clo (.func f) [] []))
def ars (G : Globals) : List Operand → Option (List Ar)
  | [] => some []
  | x :: xs => match ar G x, ars G xs with
    | some a, some l => some (a :: l)
    | _, _ => none
def aro (G : Globals) : Option Operand → Option (Option Ar)
  | none => some none
  | some x => match ar G x with
    | some a => some (some a)
    | none => none
def isYield : Fn → Bool
  | .yield _ => true
  | _ => false
def isAgg (t : TypeId) : Bool := match P.underlying t with
  | some (.struct _) | some (.array ..) => true
  | _ => false
def tyOf (t : TypeId) : Option (Nat × Bool) := match P.underlying t with
  | none => none
  | some d => match P.cellsOf t with
    | 0 => none
    | n + 1 => match d with
      | .struct _ | .array .. => some (n + 1, true)
      | _ => match n with
        | 0 => some (1, false)
        | _ => none
def szOf (t : TypeId) : Option Nat := match tyOf P t with
  | some (n, _) => some n
  | none => none
def zeroOf (t : TypeId) : Option V := match P.info? t with
  | some i => match i.zero with
    | some v => ofConst v
    | none => none
  | none => none
def zeroCells (t : TypeId) : Option (List V) := match szOf P t with
  | some n => match zeroOf P t with
    | some v => if Nat.beq v.cells.length n && v.cells.all scalarV && Nat.ble (P.bytesOf t) 4096 then some v.cells else none
    | none => none
  | none => none
def ksFs (g : TypeId → Option Ks) : List Field → Option (List (Nat × Nat × Ks))
  | [] => some []
  | x :: xs => match g x.type, szOf P x.type, ksFs g xs with
    | some k, some n, some r => some ((x.offset, n, k) :: r)
    | _, _, _ => none
def ksF : Nat → TypeId → Option Ks
  | 0, _ => none
  | f + 1, t => match P.underlying t with
    | some .bool => some .bool
    | some (.int _) => some .int
    | some .string => some .str
    | some (.pointer e) => match szOf P e with
      | some _ => some .ptr
      | none => none
    | some (.interface ms) => some (.iface ms.isEmpty)
    | some (.struct fs) => if P.stoodInHeld t then none else match ksFs P (ksF f) (fs.toList.filter fun x => x.name != "_") with
      | some l => some (.struct l)
      | none => none
    | some (.array n e) => match ksF f e, szOf P e with
      | some k, some m => some (.array n m k)
      | _, _ => none
    | _ => none
def nilOp : Operand → Option Nk
  | .const v => match v with
    | .pointer none => some .ptr
    | .slice none 0 0 => some .slice
    | .map none => some .map
    | .nilFunc => some .func
    | .nilIface => some .iface
    | _ => none
  | _ => none
def nilKind (t : TypeId) : Option Nk := match P.underlying t with
  | some (.pointer e) => match szOf P e with
    | some _ => some .ptr
    | none => none
  | some (.slice _) => some .slice
  | some (.map ..) => some .map
  | some (.func ..) => some .func
  | some (.interface _) => some .iface
  | _ => none
def mapKs (t : TypeId) : Option (Ks × TypeId) := match P.underlying t with
  | some (.map k e) => match ksF P 5 k with
    | some k => some (k, e)
    | none => none
  | _ => none
def fieldOf (t : TypeId) (f : Nat) : Option Field := match P.underlying t with
  | some (.struct fs) => fs[f]?
  | _ => none
def elemOf (t : TypeId) : Option TypeId := match P.underlying t with
  | some (.slice e) => some e
  | _ => none
def elemSz (t : TypeId) : Option (TypeId × Nat) := match elemOf P t with
  | some e => match szOf P e with
    | some n => some (e, n)
    | none => none
  | none => none
def partsOf (G : Globals) (place : Nat → Option (Nat × Nat)) : List (Nat × Operand) → Option (List (Nat × Nat × Ar))
  | [] => some []
  | (i, x) :: r => match place i, ar G x, partsOf G place r with
    | some (o, n), some a, some l => some ((o, n, a) :: l)
    | _, _, _ => none
def placeOf (places : List (Nat × Nat)) (i : Nat) : Option (Nat × Nat) := match places[i]? with
  | some (o, n + 1) => some (o, n + 1)
  | _ => none
def partsIx (G : Globals) : List (Nat × Operand) → Option (List (Nat × Ar))
  | [] => some []
  | (i, x) :: r => match ar G x, partsIx G r with
    | some a, some l => some ((i, a) :: l)
    | _, _ => none
def under0 (ts : Array TypeId) : Option TypeDesc := match ts[0]? with
  | some t => P.underlying t
  | none => none
def builtinOf (G : Globals) (b : Builtin) (ts : Array TypeId) (as : List Operand) : Option AOp :=
  match b, as with
  | .len, [x] => match under0 P ts with
    | some .string => match ar G x with
      | some x => some (.lenS x)
      | none => none
    | some (.slice _) => match ar G x with
      | some x => some (.lenL x)
      | none => none
    | some (.map ..) => match ar G x with
      | some x => some (.lenM x)
      | none => none
    | some (.array n _) => match ar G x with
      | some _ => some (.mv (.c (.int .i64 n)))
      | none => none
    | _ => none
  | .cap, [x] => match under0 P ts with
    | some (.slice _) => match ar G x with
      | some x => some (.cap x)
      | none => none
    | _ => none
  | .append, [x, y] => match ts[0]?, ts[1]? with
    | some t, some tx => match elemSz P t, P.underlying tx, ar G x, ar G y with
      | some (e, n), some d, some x, some y => match zeroCells P e with
        | some z => match d with
          | .int _ => some (.appendZ n e z x y)
          | .slice _ | .string => some (.append n e x y)
          | _ => none
        | none => none
      | _, _, _, _ => none
    | _, _ => none
  | .unsafeSliceData, [x] => match ar G x with
    | some x => some (.uData x)
    | none => none
  | .unsafeString, [x, n] => match under0 P ts, ar G x, ar G n with
    | some (.pointer e), some x, some n => some (.uStr e x n)
    | _, _, _ => none
  | .min, [x, y] => match ar G x, ar G y with
    | some x, some y => some (.min2 x y)
    | _, _ => none
  | .max, [x, y] => match ar G x, ar G y with
    | some x, some y => some (.max2 x y)
    | _, _ => none
  | .delete, [x, y] => match ts[0]? with
    | some t => match mapKs P t, ar G x, ar G y with
      | some (k, _), some x, some y => some (.mapDelete k x y)
      | _, _, _ => none
    | none => none
  | _, _ => none
def callOp (G : Globals) (c : Call) : Option AOp :=
  match c.callee with
  | .builtin b => builtinOf P G b c.argTypes c.args.toList
  | .value f => match ars G c.args.toList with
    | some l => match f with
      | .func f => some (.call (.fn (nm f)) l)
      | f => match ar G f with
        | some f => some (.call (.val f) l)
        | none => none
    | none => none
  | .invoke r m => match ar G r, ars G c.args.toList with
    | some r, some l => some (.call (.invoke r m) l)
    | _, _ => none
def convOf (src dst : TypeId) : Option Cv :=
  match P.underlying src, P.underlying dst with
  | some (.int _), some (.int k) => some (.int k)
  | some (.int _), some .string => some .runeToStr
  | some .string, some .string => some .same
  | some (.pointer e), some .unsafePointer => match szOf P e with
    | some _ => some .toUnsafe
    | none => none
  | some .unsafePointer, some (.pointer e) => match szOf P e with
    | some _ => some (.fromUnsafe e)
    | none => none
  | some .string, some (.slice e) => match P.underlying e with
    | some (.int .u8) => match szOf P e with
      | some 1 => some (.strToBytes e)
      | _ => none
    | _ => none
  | _, _ => none
def slOf (t : TypeId) : Option Sl := match P.underlying t with
  | some .string => some .str
  | some (.slice e) => match szOf P e with
    | some n => some (.slice n)
    | none => none
  | _ => none
def mxOk : Sl → Option Ar → Option Ar → Bool
  | _, _, none => true
  | .slice _, some _, some _ => true
  | _, _, _ => false
def opOf (G : Globals) (o : Oper) : Option AOp :=
  match o.op with
  | .move x | .assign x => match ar G x with
    | some x => some (.mv x)
    | none => none
  | .pick c a b => match ar G c, ar G a, ar G b with
    | some c, some a, some b => some (.pick c a b)
    | _, _, _ => none
  | .alloc e => match zeroCells P e with
    | some z => some (.alloc z e)
    | none => none
  | .box e x => match szOf P e, ar G x with
    | some n, some x => some (.box n e x)
    | _, _ => none
  | .build t ps => match zeroOf P t with
    | some z => match notTup z, P.underlying t with
      | true, some (.struct fs) => match fs.toList.mapM (fun f => (P.info? f.type).map fun i => (f.offset, i.size)) with
        | some places => match partsOf G (placeOf places) ps.toList with
          | some l => some (.build z.cells l)
          | none => none
        | none => none
      | true, some (.array _ e) => match szOf P e with
        | some n => match partsOf G (fun i => some (i * n, n)) ps.toList with
          | some l => some (.build z.cells l)
          | none => none
        | none => none
      | _, _ => none
    | none => none
  | .buildSlice t n ps => match elemSz P t with
    | some (e, m) => match zeroCells P e, partsIx G ps.toList with
      | some z, some l => if Nat.ble (n * m) 100000 then some (.buildSlice m e z n l) else none
      | _, _ => none
    | none => none
  | .insert t m k v | .mapUpdate t m k v => match mapKs P t, ar G m, ar G k, ar G v with
    | some (ks, _), some m, some k, some v => some (.mapUpdate ks m k v)
    | _, _, _, _ => none
  | .load t a => match tyOf P t, ar G a with
    | some (n, agg), some a => some (.load n agg a)
    | _, _ => none
  | .store t a v => match tyOf P t, ar G a, ar G v with
    | some (n, _), some a, some v => some (.store n a v)
    | _, _, _ => none
  | .nilCheck x => match ar G x with
    | some x => some (.nilCheck x)
    | none => none
  | .binOp op t x y _ => match ar G x, ar G y with
    | some a, some b => match op with
      | .eql | .neq =>
        match nilOp y with
        | some k => if nilKind P t = some k then some (.isNil k (decide (op = .neq)) a) else none
        | none => match nilOp x with
        | some k => if nilKind P t = some k then some (.isNil k (decide (op = .neq)) b) else none
        | none => match ksF P 5 t with
        | some .int | some .str => some (.bin op a b)
        | some k => if aggKs k && P.eqGuardType P.depth t then none else some (.eq (decide (op = .neq)) k a b)
        | none => none
      | _ => some (.bin op a b)
    | _, _ => none
  | .unOp op _ x => match ar G x with
    | some x => some (.un op x)
    | none => none
  | .convert src dst x => match convOf P src dst, ar G x with
    | some k, some x => some (.conv k x)
    | _, _ => none
  | .makeInterface t x => match P.underlying t, ar G x with
    | some (.interface _), _ => none
    | some _, some x => some (.mkIface t x)
    | _, _ => none
  | .makeFunc fn a b => if isYield fn then none else match ars G a.toList, ars G b.toList with
    | some a, some b => some (.mkFunc fn a b)
    | _, _ => none
  | .makeMap t r => match P.underlying t with
    | some (.map ..) => match r with
      | none => some .mkMap
      | some (.const (.int ..)) => some .mkMap
      | _ => none
    | _ => none
  | .makeSlice t l c => match elemSz P t with
    | some (e, n) => match zeroCells P e, ar G l, ar G c with
      | some z, some l, some c => some (.mkSlice n e z l c)
      | _, _, _ => none
    | none => none
  | .slice t x lo hi mx => match slOf P t, ar G x, aro G lo, aro G hi, aro G mx with
    | some k, some x, some lo, some hi, some mx => if mxOk k hi mx then some (.slice k x lo hi mx) else none
    | _, _, _, _, _ => none
  | .fieldAddr t x f => match fieldOf P t f, ar G x with
    | some f, some x => match szOf P f.type with
      | some _ => some (.fieldAddr f.offset x)
      | none => none
    | _, _ => none
  | .field t x f => match fieldOf P t f, ar G x with
    | some f, some x => match tyOf P f.type with
      | some (n, agg) => some (.field f.offset n agg x)
      | none => none
    | _, _ => none
  | .indexAddr t x i => match P.underlying t, ar G x, ar G i with
    | some (.slice e), some x, some i => match szOf P e with
      | some n => some (.indexAddr n none x i)
      | none => none
    | some (.array m e), some x, some i => match szOf P e with
      | some n => some (.indexAddr n (some m) x i)
      | none => none
    | _, _, _ => none
  | .index t x i => match P.underlying t, ar G x, ar G i with
    | some .string, some x, some i => some (.indexStr x i)
    | some (.array m e), some x, some i => match tyOf P e with
      | some (n, agg) => some (.indexArr m n agg x i)
      | none => none
    | _, _, _ => none
  | .lookup t x i ok => match mapKs P t, ar G x, ar G i with
    | some (ks, e), some x, some i => match zeroOf P e with
      | some z => some (.lookup ks z x i ok)
      | none => none
    | _, _, _ => none
  | .mapEntry t m k => match mapKs P t, ar G m, ar G k with
    | some (ks, e), some m, some k => match zeroOf P e with
      | some z => some (.mapEntry ks z m k)
      | none => none
    | _, _, _ => none
  | .entryStore _ m n v => match ar G m, ar G n, ar G v with
    | some m, some n, some v => some (.entryStore m n v)
    | _, _, _ => none
  | .range t x => match P.underlying t, ar G x with
    | some .string, some x => some (.rangeStr x)
    | some (.map ..), some x => some (.rangeMap x)
    | _, _ => none
  | .next x b => match ar G x with
    | some x => some (if b then .nextStr x else .nextMap x)
    | none => none
  | .entry x => match ar G x with
    | some x => some (.entry x)
    | none => none
  | .typeAssert x _ t ok => match P.underlying t, ar G x with
    | some (.interface ms), some x => match zeroOf P t with
      | some .nili => some (.assertI ms.toList ok x)
      | _ => none
    | some _, some x => match zeroOf P t with
      | some z => some (.assertT t z ok x)
      | none => none
    | _, _ => none
  | .extract x i => match ar G x with
    | some x => some (.extract x i)
    | none => none
  | .call c => callOp P G c
  | _ => none
def guardOk (ops : Array Oper) : Option (Nat × Bool) → Bool
  | none => true
  | some (j, _) => ((ops[j]?).bind (·.dst)).isSome
def operFine (nt : Nat) (ops : Array Oper) (o : Oper) : Bool := (match o.dst with
  | some d => Nat.blt d nt
  | none => true) && guardOk ops o.guard
def operOf (G : Globals) (ops : Array Oper) (o : Oper) : AOper :=
  { dst := o.dst.map nm
    op := (opOf P G o).getD (.bad o.pos)
    guard := match o.guard with
      | none => none
      | some (j, b) => match (ops[j]?).bind (·.dst) with
        | some d => some (nm d, b)
        | none => some (.h, b) }
def lightOp : AOp → Bool
  | .mv _ | .pick .. | .build .. | .load .. | .nilCheck _ | .bin .. | .eq .. | .isNil .. | .un .. | .mkIface .. | .mkFunc .. | .slice .. | .fieldAddr .. | .field .. | .indexAddr .. | .indexStr .. | .indexArr .. | .lookup ..
  | .assertT .. | .assertI .. | .extract .. | .lenS _ | .lenL _ | .lenM _ | .cap _ | .min2 .. | .max2 .. => true
  | .conv k _ => match k with
    | .int _ | .same => true
    | _ => false
  | _ => false
def freshOp (o : AOper) : Bool := match o.op, o.guard, o.dst with
  | .alloc .., none, some _ => true
  | .mkSlice .., none, some _ => true
  | .buildSlice .., none, some _ => true
  | _, _, _ => false
def AOp.ars : AOp → List Ar
  | .mv x | .box _ _ x | .load _ _ x | .nilCheck x | .isNil _ _ x | .un _ x | .conv _ x | .mkIface _ x | .fieldAddr _ x | .field _ _ _ x | .rangeStr x | .rangeMap x | .nextStr x | .nextMap x | .entry x | .assertT _ _ _ x | .assertI _ _ x
  | .extract x _ | .lenS x | .lenL x | .lenM x | .cap x | .uData x => [x]
  | .pick c a b => [c, a, b]
  | .alloc .. | .mkMap | .bad _ => []
  | .build _ parts => parts.map fun p => p.2.2
  | .buildSlice _ _ _ _ parts => parts.map fun p => p.2
  | .store _ a v => [a, v]
  | .bin _ x y | .eq _ _ x y | .min2 x y | .max2 x y | .append _ _ x y | .appendZ _ _ _ x y | .uStr _ x y | .mkSlice _ _ _ x y | .indexAddr _ _ x y | .indexStr x y | .indexArr _ _ _ x y | .lookup _ _ x y _ | .mapEntry _ _ x y | .mapDelete _ x y => [x, y]
  | .mkFunc _ a b => a ++ b
  | .slice _ x lo hi mx => x :: (lo.toList ++ hi.toList ++ mx.toList)
  | .mapUpdate _ m k v | .entryStore m k v => [m, k, v]
  | .call f args => (match f with
    | .fn _ => []
    | .val f | .invoke f _ => [f]) ++ args
def Ar.name : Ar → List Nm
  | .t p => [p]
  | .c _ => []
def guardName : Option (Nm × Bool) → List Nm
  | some (p, _) => [p]
  | none => []
def AOper.looks (o : AOper) : List Nm := guardName o.guard ++ o.op.ars.flatMap Ar.name
def operAt (G : Globals) (ops : Array Oper) (i : Nat) : AOper := match ops[i]? with
  | some o => operOf P G ops o
  | none => { dst := none, op := .bad "index", guard := none }
def preds (md : Region.Mode) (ops : Array Oper) (i : Nat) : List Nat := match ops[i]? with
  | some o => (o.after.toList.filter (Region.binds md)).map (·.on)
  | none => []
def anc (md : Region.Mode) (ops : Array Oper) : Nat → List Nat → List Nat
  | 0, l => l
  | f + 1, l => anc md ops f (l ++ l.flatMap (preds md ops))
def lookOk (look : Nat → List Nm) (dst : Nat → Option Nm) (n : Nat) (K : Array Bool) (i : Nat) : Bool :=
  (List.range n).all fun j => match dst j with
    | some d => !(look i).contains d || K.getD j false
    | none => true
def planGo (fresh light : Nat → Bool) (look : Nat → List Nm) (dst : Nat → Option Nm) (mds : List Region.Mode) (ops : Array Oper) : Nat → Array Bool → List Nat → Option (List (Nat × DK × List Nat))
  | 0, K, _ => if mds.all (fun md => (Region.ready md ops K).isEmpty) then some [] else none
  | f + 1, K, pend => match pend.isEmpty, (List.range ops.size).find? fun i => fresh i && (mds.any fun md => (Region.ready md ops K).contains i) && lookOk look dst ops.size K i with
   | true, some i => match planGo fresh light look dst mds ops f (K.setIfInBounds i true) pend with
      | some l => some ((i, .fresh, pend) :: l)
      | none => none
   | _, _ => match (List.range ops.size).find? fun i => light i && (mds.any fun md => (Region.ready md ops K).contains i) && lookOk look dst ops.size K i with
    | some i => match planGo fresh light look dst mds ops f (K.setIfInBounds i true) (i :: pend) with
      | some l => some ((i, .light, []) :: l)
      | none => none
    | none => match (List.range ops.size).find? fun i => (mds.any fun md => (Region.ready md ops K).contains i) && mds.all fun md => (Region.ready md ops K).all fun j => Nat.beq j i with
      | some i => match planGo fresh light look dst mds ops f (K.setIfInBounds i true) (pend.filter fun j => mds.any fun md => !(anc md ops 4 (preds md ops i)).contains j) with
        | some l => some ((i, .heavy, pend.filter fun j => mds.any fun md => !(anc md ops 4 (preds md ops i)).contains j) :: l)
        | none => none
      | none => match (List.range ops.size).find? fun i => fresh i && (mds.any fun md => (Region.ready md ops K).contains i) && lookOk look dst ops.size K i with
        | some i => match planGo fresh light look dst mds ops f (K.setIfInBounds i true) pend with
          | some l => some ((i, .fresh, pend) :: l)
          | none => none
        | none => if mds.all (fun md => (Region.ready md ops K).isEmpty) then some [] else none
def modesOf (_ : Array Oper) : List Region.Mode := [.any]
def topo (md : Region.Mode) (ops : Array Oper) : List Nat → List Nat → Bool
  | _, [] => true
  | done, i :: l => Nat.blt i ops.size && (preds md ops i).all (fun j => done.contains j) && topo md ops (i :: done) l
def drawFine (G : Globals) (mds : List Region.Mode) (ops : Array Oper) : Bool :=
  ((List.range ops.size).all fun i => (List.range ops.size).all fun j => match (operAt P G ops j).dst with
    | some d => (Nat.beq i j || !((operAt P G ops i).dst == some d)) && (!(operAt P G ops i).looks.contains d || mds.all fun md => (preds md ops i).contains j)
    | none => true) &&
  mds.all fun md => topo md ops [] (Region.linearise md ops 0) && (List.range ops.size).all fun i => (Region.linearise md ops 0).contains i
def stepOf (G : Globals) (ops : Array Oper) (x : Nat × DK × List Nat) : DStep := { op := operAt P G ops x.1, kind := x.2.1, checks := x.2.2.map (operAt P G ops) }
def drawOf (G : Globals) (ops : Array Oper) : Option (List DStep) := match drawFine P G (modesOf ops) ops with
  | true => match planGo (fun i => freshOp (operAt P G ops i)) (fun i => lightOp (operAt P G ops i).op) (fun i => (operAt P G ops i).looks) (fun i => (operAt P G ops i).dst) (modesOf ops) ops ops.size (Array.replicate ops.size false) [] with
    | some l => some (l.map (stepOf P G ops))
    | none => none
  | false => none
def codeOf (G : Globals) (nt : Nat) (inR : Bool) : Code → ACode
  | .skip | .label _ => .skip
  | .region _ ops d => match ops.toList.all (operFine nt ops), d with
    | true, false => .region (ops.toList.map (operOf P G ops))
    | true, true => match drawOf P G ops with
      | some l => .draw l
      | none => .bad "draw"
    | false, _ => .bad "region"
  | .seq a b => .seq (codeOf G nt inR a) (codeOf G nt inR b)
  | .cond c a b => match ar G c with
    | some c => .cond c (codeOf G nt inR a) (codeOf G nt inR b)
    | none => .bad "cond"
  | .block id c => .block id (codeOf G nt inR c)
  | .loop c => .loop (codeOf G nt inR c)
  | .rangeFunc f ps a b => match inR, ar G f with
    | false, some f => if ps.toList.all (fun p => Nat.blt p nt) then .rangeFunc f (ps.toList.map nm) (codeOf G nt true a) (codeOf G nt true b) else .bad "params"
    | _, _ => .bad "rangeFunc"
  | .exit id => .exit id
  | .scope c => .seq .skip (codeOf G nt inR c)
  | .goto _ => .bad "goto"
  | .ret => .ret
  | .refuse w => .bad w
def resOf : List ResultVar → Option (List ARes)
  | [] => some []
  | .tmp t :: r => match resOf r with
    | some l => some (.tmp (nm t) :: l)
    | none => none
  | .cell a t :: r => match tyOf P t, resOf r with
    | some (n, agg), some l => some (.cell (nm a) n agg :: l)
    | _, _ => none
def fnOf (G : Globals) (f : Func) : Option AFn := match f.body with
  | some c => match resOf P f.results.toList with
    | some l => some { body := codeOf P G f.ntmps false c, results := l }
    | none => none
  | none => none
end Go.Eng
end
section
namespace Go.Eng
inductive T (α : Type) where
  | ret (x : α)
  | ask (k : Nat → T α)
  | fail
  | ite (c : Bool) (t e : T α)
namespace T
variable {α β : Type}
def bind : T α → (α → T β) → T β
  | .ret x, f => f x
  | .ask k, f => .ask fun n => (k n).bind f
  | .fail, _ => .fail
  | .ite c t e, f => .ite c (t.bind f) (e.bind f)
def All (br : Nat) (Q : α → Prop) : T α → Prop
  | .ret x => Q x
  | .ask k => ∀ n, n = 0 ∨ n < br → (k n).All br Q
  | .fail => False
  | .ite c t e => (c = true → t.All br Q) ∧ (c = false → e.All br Q)
def test (c : Bool) (t : T α) : T α := .ite c t .fail
def ofO : Option α → T α
  | some x => .ret x
  | none => .fail
theorem all_mono {br : Nat} {Q R : α → Prop} (h : ∀ x, Q x → R x) : ∀ {t : T α}, t.All br Q → t.All br R
  | .ret x, hq => h x hq
  | .ask _, hq => fun n hn => all_mono h (hq n hn)
  | .fail, hq => hq
  | .ite _ _ _, hq => ⟨fun hc => all_mono h (hq.1 hc), fun hc => all_mono h (hq.2 hc)⟩
theorem all_bind {br : Nat} {Q : β → Prop} {f : α → T β} : ∀ {t : T α}, (t.bind f).All br Q → t.All br fun x => (f x).All br Q
  | .ret _, h => h
  | .ask _, h => fun n hn => all_bind (h n hn)
  | .fail, h => h
  | .ite _ _ _, h => ⟨fun hc => all_bind (h.1 hc), fun hc => all_bind (h.2 hc)⟩
theorem all_ofO {br : Nat} {Q : α → Prop} {x : Option α} (h : (ofO x).All br Q) : ∃ y, x = some y ∧ Q y := by
  cases x with
  | none => exact h.elim
  | some y => exact ⟨y, rfl, h⟩
end T
structure Env where
  fns : Nm → Option AFn
  over : Nm → Option (List V → St → T (V × St))
  ks : TypeId → Option Ks
  branch : Nat
  methods : TypeId → String → Option (Nm × Nat × Bool)
  hasMethods : TypeId → List (String × TypeId) → Option Bool
abbrev Eval := ACode → Tr V → St → T (Ex × Tr V × St)
def initT : List V → Nm → Tr V → Tr V
  | [], _, τ => τ
  | v :: vs, n, τ => initT vs n.succ (τ.set (some v) n)
def setParams : List Nm → List V → Tr V → Option (Tr V)
  | [], [], τ => some τ
  | p :: ps, v :: vs, τ => setParams ps vs (τ.set (some v) p)
  | _, _, _ => none
def results (H : Tr O) (τ : Tr V) : List ARes → Option (List V)
  | [] => some []
  | .tmp t :: r => match results H τ r with
    | some vs => some ((τ.get t).getD undef :: vs)
    | none => none
  | .cell a n agg :: r => match load H n agg ((τ.get a).getD undef), results H τ r with
    | some v, some vs => some (v :: vs)
    | _, _ => none
def resultV : List V → V
  | [v] => v
  | vs => .tup vs
def leave (rs : List ARes) : Ex × Tr V × St → T (V × St)
  | (.exit _, _) => .fail
  | (_, τ, s) => match results s.heap τ rs with
    | some vs => .ret (resultV vs, s)
    | none => .fail
def callB (E : Env) (ev : Eval) (f : Nm) (args : List V) (s : St) : T (V × St) :=
  match E.fns f with
  | some fn => (ev fn.body (initT args .h .leaf) s).bind (leave fn.results)
  | none => .fail
def callF (E : Env) (ev : Eval) (f : Nm) (args : List V) (s : St) : T (V × St) :=
  match E.over f with
  | some g => g args s
  | none => callB E ev f args s
def endRound (b : Nm) : Ex × Tr V × St → T (V × St)
  | (e, _, s) => match s.heap.get b with
    | some (.loop τ ps assign body 2 none) => match e with
      | .normal => .ret (.bool true, { s with heap := s.heap.set (some (.loop τ ps assign body 0 none)) b })
      | e => .ret (.bool false, { s with heap := s.heap.set (some (.loop τ ps assign body 1 (some e))) b })
    | _ => .fail
def beginRound (ev : Eval) (b : Nm) (code : ACode) : Ex × Tr V × St → T (V × St)
  | (.normal, τ₁, s) => match s.heap.get b with
    | some (.loop τ ps assign body 0 none) => (ev code τ₁ { s with heap := s.heap.set (some (.loop τ ps assign body 2 none)) b }).bind (endRound b)
    | _ => .fail
  | _ => .fail
def round (ev : Eval) (b : Nm) (args : List V) (s : St) : T (V × St) :=
  match s.heap.get b with
  | some (.loop τ ps assign body 0 none) => match setParams ps args τ with
    | some τ₁ => (ev assign τ₁ s).bind (beginRound ev b body)
    | none => .fail
  | _ => .fail
def callM (E : Env) (ev : Eval) (r : V) (m : String) (args : List V) (s : St) : T (V × St) :=
  match r with
  | .iface t v => match E.methods t m with
    | some (f, n, agg) => match n with
      | 0 => callF E ev f (v :: args) s
      | n => match load s.heap n agg v with
        | some r => callF E ev f (r :: args) s
        | none => .fail
    | none => .fail
  | _ => .fail
def callV (E : Env) (ev : Eval) (f : V) (args : List V) (s : St) : T (V × St) :=
  match f with
  | .clo (.func g) first cap => callF E ev (nm g) (first ++ args ++ cap) s
  | .clo (.yield _) [.it b] [] => round ev b args s
  | .clo (.method m) [r] [] => callM E ev r m args s
  | _ => .fail
def execCall (E : Env) (ev : Eval) (τ : Tr V) (s : St) : Callee → List Ar → T (V × St)
  | .fn f, args => callF E ev f (args.map (arg τ)) s
  | .val f, args => callV E ev (arg τ f) (args.map (arg τ)) s
  | .invoke r m, args => callM E ev (arg τ r) m (args.map (arg τ)) s
def oper (E : Env) (ev : Eval) (τ : Tr V) (s : St) (o : AOp) : T (V × St) :=
  match o with
  | .call f args => execCall E ev τ s f args
  | .nextMap x => .ask fun n => .ofO (exec (fun _ => n) E.branch E.ks E.hasMethods τ s (.nextMap x))
  | o => .ofO (exec (fun _ => 0) E.branch E.ks E.hasMethods τ s o)
def wanted (τ : Tr V) : Option (Nm × Bool) → Bool
  | none => true
  | some (p, b) => match τ.get p with
    | some (.bool c) => c == b
    | _ => false
def put (τ : Tr V) (d : Option Nm) (v : V) : Tr V :=
  match d with
  | some d => τ.set (some v) d
  | none => τ
def opers (E : Env) (ev : Eval) : List AOper → Tr V → St → T (Tr V × St)
  | [], τ, s => .ret (τ, s)
  | o :: os, τ, s =>
    match wanted τ o.guard with
    | true => (oper E ev τ s o.op).bind fun r => opers E ev os (put τ o.dst r.1) r.2
    | false => opers E ev os (put τ o.dst undef) s
mutual
def eqbV : V → V → Bool
  | .bool a, .bool b => decide (a = b)
  | .int k n, .int k' n' => decide (k = k') && decide (n = n')
  | .str s, .str s' => decide (s = s')
  | .nilp, .nilp => true
  | .ptr b i j, .ptr b' i' j' => decide (b = b') && decide (i = i') && decide (j = j')
  | .rp cs j, .rp cs' j' => eqbVs cs cs' && decide (j = j')
  | .nils, .nils => true
  | .row b a c d e, .row b' a' c' d' e' => decide (b = b') && decide (a = a') && decide (c = c') && decide (d = d') && decide (e = e')
  | .dsl es c, .dsl es' c' => eqbVs es es' && decide (c = c')
  | .nilm, .nilm => true
  | .map b, .map b' => decide (b = b')
  | .clo f a b, .clo f' a' b' => decide (f = f') && eqbVs a a' && eqbVs b b'
  | .nilf, .nilf => true
  | .iface t v, .iface t' v' => decide (t = t') && eqbV v v'
  | .nili, .nili => true
  | .agg cs, .agg cs' => eqbVs cs cs'
  | .tup cs, .tup cs' => eqbVs cs cs'
  | .it b, .it b' => decide (b = b')
  | _, _ => false
def eqbVs : List V → List V → Bool
  | [], [] => true
  | v :: vs, u :: us => eqbV v u && eqbVs vs us
  | _, _ => false
end
def lightV (E : Env) (τ : Tr V) (s : St) (o : AOper) : Option V :=
  match wanted τ o.guard with
  | true => match exec (fun _ => 0) E.branch E.ks E.hasMethods τ s o.op with
    | some (v, _) => some v
    | none => none
  | false => some undef
def holds (τ : Tr V) (d : Option Nm) (v : V) : Bool := match d with
  | some d => match τ.get d with
    | some u => eqbV v u
    | none => false
  | none => true
def recheck (E : Env) (τ : Tr V) (s : St) : List AOper → Bool
  | [] => true
  | o :: os => match lightV E τ s o with
    | some v => match holds τ o.dst v with
      | true => recheck E τ s os
      | false => false
    | none => false
def drun (E : Env) (ev : Eval) : List DStep → Tr V → St → T (Tr V × St)
  | [], τ, s => .ret (τ, s)
  | d :: ds, τ, s => match d.kind with
    | .light => match lightV E τ s d.op with
      | some v => drun E ev ds (put τ d.op.dst v) s
      | none => .fail
    | _ => match wanted τ d.op.guard with
      | true => (oper E ev τ s d.op.op).bind fun r => match recheck E (put τ d.op.dst r.1) r.2 d.checks with
        | true => drun E ev ds (put τ d.op.dst r.1) r.2
        | false => .fail
      | false => match recheck E (put τ d.op.dst undef) s d.checks with
        | true => drun E ev ds (put τ d.op.dst undef) s
        | false => .fail
def andThen (f : Tr V → St → T (Ex × Tr V × St)) : Ex × Tr V × St → T (Ex × Tr V × St)
  | (.normal, τ, s) => f τ s
  | r => .ret r
def endBlock (id : Nat) : Ex × Tr V × St → T (Ex × Tr V × St)
  | (.exit k, τ, s) => if Nat.beq k id then .ret (.normal, τ, s) else .ret (.exit k, τ, s)
  | r => .ret r
def endLoop (b : Nm) (τ : Tr V) : V × St → T (Ex × Tr V × St)
  | (_, s) => match s.heap.get b with
    | some (.loop _ _ _ _ st pend) => match st with
      | 0 => match pend with
        | none => .ret (.normal, τ, { s with heap := s.heap.set none b })
        | some _ => .fail
      | 1 => match pend with
        | none => .fail
        | some e => .ret (e, τ, { s with heap := s.heap.set none b })
      | _ => .fail
    | _ => .fail
def eval (E : Env) : Nat → Eval
  | 0, _, _, _ => .fail
  | n + 1, c, τ, s => match c with
    | .skip => .ret (.normal, τ, s)
    | .region ops => (opers E (eval E n) ops τ s).bind fun r => .ret (.normal, r.1, r.2)
    | .draw ds => (drun E (eval E n) ds τ s).bind fun r => .ret (.normal, r.1, r.2)
    | .seq a b => (eval E n a τ s).bind (andThen (eval E n b))
    | .cond c a b => match arg τ c with
      | .bool true => eval E n a τ s
      | .bool false => eval E n b τ s
      | _ => .fail
    | .block id c => (eval E n c τ s).bind (endBlock id)
    | .loop c => (eval E n c τ s).bind (andThen (eval E n (.loop c)))
    | .rangeFunc f ps assign body =>
      match arg τ f with
      | .clo (.func g) first cap => (callB E (eval E n) (nm g) (first ++ [.clo (.yield 0) [.it (new s (.loop τ ps assign body 0 none)).1] []] ++ cap) (new s (.loop τ ps assign body 0 none)).2).bind (endLoop (new s (.loop τ ps assign body 0 none)).1 τ)
      | _ => .fail
    | .exit k => .ret (.exit k, τ, s)
    | .ret => .ret (.ret, τ, s)
    | .bad _ => .fail
end Go.Eng
end
section
namespace Go.Eng
namespace Nm
theorem val_pos : ∀ p : Nm, 0 < p.val
  | .h => by simp [val]
  | .o p => by have := val_pos p; simp [val]; omega
  | .i p => by simp [val]
theorem val_inj : ∀ {p q : Nm}, p.val = q.val → p = q
  | .h, .h, _ => rfl
  | .h, .o q, hh => by simp [val] at hh; have := val_pos q; omega
  | .h, .i q, hh => by simp [val] at hh; have := val_pos q; omega
  | .o p, .h, hh => by simp [val] at hh; have := val_pos p; omega
  | .i p, .h, hh => by simp [val] at hh; have := val_pos p; omega
  | .o p, .o q, hh => by simp only [val] at hh; rw [val_inj (p := p) (q := q) (by omega)]
  | .o p, .i q, hh => by simp [val] at hh; omega
  | .i p, .o q, hh => by simp [val] at hh; omega
  | .i p, .i q, hh => by simp only [val] at hh; rw [val_inj (p := p) (q := q) (by omega)]
theorem val_succ : ∀ p : Nm, p.succ.val = p.val + 1
  | .h => rfl
  | .o p => by simp [succ, val]
  | .i p => by simp [succ, val, val_succ p]; omega
theorem succ_ne (p : Nm) : p.succ ≠ p := fun h => by have := congrArg val h; rw [val_succ] at this; omega
theorem eqb_iff : ∀ {p q : Nm}, p.eqb q = true ↔ p = q
  | .h, .h => by simp [eqb]
  | .h, .o q => by simp [eqb]
  | .h, .i q => by simp [eqb]
  | .o p, .h => by simp [eqb]
  | .i p, .h => by simp [eqb]
  | .o p, .o q => by simp [eqb, eqb_iff]
  | .o p, .i q => by simp [eqb]
  | .i p, .o q => by simp [eqb]
  | .i p, .i q => by simp [eqb, eqb_iff]
theorem val_ofNatF : ∀ (f n : Nat), 0 < n → n < 2 ^ f → (ofNatF f n).val = n
  | 0, n, g, g' => by simp at g'; omega
  | f + 1, n, g, g' => by
    unfold ofNatF
    split
    · simp [val]; omega
    · split
      · simp only [val]; rw [val_ofNatF f (n / 2) (by omega) (by rw [Nat.pow_succ] at g'; omega)]; omega
      · simp only [val]; rw [val_ofNatF f (n / 2) (by omega) (by rw [Nat.pow_succ] at g'; omega)]; omega
theorem val_ofNat {n : Nat} (g : 0 < n) : (ofNat n).val = n := val_ofNatF n n g Nat.lt_two_pow_self
end Nm
namespace Tr
variable {α : Type}
@[simp] theorem root_leaf : (leaf : Tr α).root = none := rfl
@[simp] theorem left_leaf : (leaf : Tr α).left = leaf := rfl
@[simp] theorem right_leaf : (leaf : Tr α).right = leaf := rfl
@[simp] theorem root_node (l : Tr α) (v : Option α) (r : Tr α) : (node l v r).root = v := rfl
@[simp] theorem left_node (l : Tr α) (v : Option α) (r : Tr α) : (node l v r).left = l := rfl
@[simp] theorem right_node (l : Tr α) (v : Option α) (r : Tr α) : (node l v r).right = r := rfl
@[simp] theorem get_leaf : ∀ p : Nm, (leaf : Tr α).get p = none
  | .h => rfl
  | .o p => get_leaf p
  | .i p => get_leaf p
@[simp] theorem get_set_same (x : Option α) : ∀ (p : Nm) (t : Tr α), (t.set x p).get p = x
  | .h, _ => rfl
  | .o p, t => by simp [set, get, get_set_same x p]
  | .i p, t => by simp [set, get, get_set_same x p]
theorem get_set_other (x : Option α) : ∀ {p q : Nm} (t : Tr α), p ≠ q → (t.set x p).get q = t.get q
  | .h, .h, _, h => absurd rfl h
  | .h, .o q, t, _ => by simp [set, get]
  | .h, .i q, t, _ => by simp [set, get]
  | .o p, .h, t, _ => by simp [set, get]
  | .i p, .h, t, _ => by simp [set, get]
  | .o p, .o q, t, h => by simp only [set, get, left_node]; exact get_set_other x _ (fun e => h (by rw [e]))
  | .o p, .i q, t, _ => by simp [set, get]
  | .i p, .o q, t, _ => by simp [set, get]
  | .i p, .i q, t, h => by simp only [set, get, right_node]; exact get_set_other x _ (fun e => h (by rw [e]))
theorem get_set (x : Option α) (p q : Nm) (t : Tr α) : (t.set x p).get q = if p = q then x else t.get q := by
  by_cases h : p = q
  · subst h; simp
  · rw [get_set_other x t h, if_neg h]
end Tr
section lists
variable {α : Type}
theorem nth_eq : ∀ (n : Nat) (l : List α), nth n l = l[n]?
  | _, [] => by simp [nth]
  | 0, _ :: _ => by simp [nth]
  | n + 1, _ :: l => by simp [nth, nth_eq n l]
theorem dropExact_some : ∀ {n : Nat} {l r : List α}, dropExact n l = some r → r = l.drop n ∧ n ≤ l.length
  | 0, l, r, h => by simp [dropExact] at h; exact ⟨by simp [h], by omega⟩
  | n + 1, [], r, h => by simp [dropExact] at h
  | n + 1, a :: l, r, h => by simp only [dropExact] at h; have := dropExact_some h; simp [this.1]; exact this.2
theorem takeExact_some : ∀ {n : Nat} {l r : List α}, takeExact n l = some r → r = l.take n ∧ n ≤ l.length
  | 0, l, r, h => by simp [takeExact] at h; subst h; simp
  | n + 1, [], r, h => by simp [takeExact] at h
  | n + 1, a :: l, r, h => by
    simp only [takeExact] at h
    split at h
    · rename_i r' h'
      have := takeExact_some h'
      cases h
      simp [this.1]; exact this.2
    · cases h
theorem window_some {j n : Nat} {l r : List α} (h : window j n l = some r) : r = (l.drop j).take n ∧ j + n ≤ l.length := by
  unfold window at h
  split at h
  · rename_i r' h'
    have a := dropExact_some h'
    have b := takeExact_some h
    rw [a.1] at b
    refine ⟨b.1, ?_⟩
    have := b.2
    simp at this
    omega
  · cases h
theorem window_get {j n : Nat} {l r : List α} (h : window j n l = some r) (k : Nat) (v : α) (hk : r[k]? = some v) : l[j + k]? = some v ∧ k < n := by
  obtain ⟨e, hl⟩ := window_some h
  subst e
  rw [List.getElem?_take] at hk
  split at hk
  · rw [List.getElem?_drop] at hk; exact ⟨hk, by assumption⟩
  · cases hk
theorem window_length {j n : Nat} {l r : List α} (h : window j n l = some r) : r.length = n := by
  obtain ⟨e, hl⟩ := window_some h
  subst e; simp; omega
theorem splice_some : ∀ {xs l l' : List α} {n : Nat}, splice xs n l = some l' → l'.length = l.length ∧ (xs ≠ [] → n + xs.length ≤ l.length) ∧ ∀ i, l'[i]? = if n ≤ i ∧ i < n + xs.length then xs[i - n]? else l[i]?
  | [], l, l', n, h => by simp [splice] at h; subst h; refine ⟨rfl, by simp, fun i => ?_⟩; rw [if_neg (by simp)]
  | x :: xs, [], l', n, h => by simp [splice] at h
  | x :: xs, a :: l, l', 0, h => by
    simp only [splice] at h
    split at h
    · rename_i r hr
      cases h
      obtain ⟨h1, h2, h3⟩ := splice_some hr
      refine ⟨by simp [h1], fun _ => ?_, fun i => ?_⟩
      · by_cases e : xs = []
        · subst e; simp
        · have := h2 e; simp; omega
      · cases i with
        | zero => simp
        | succ i =>
          have := h3 i
          simp only [List.getElem?_cons_succ, this, List.length_cons]
          by_cases c : i < xs.length
          · rw [if_pos (by omega), if_pos (by omega)]; simp
          · rw [if_neg (by omega), if_neg (by omega)]
    · cases h
  | x :: xs, a :: l, l', n + 1, h => by
    simp only [splice] at h
    split at h
    · rename_i r hr
      cases h
      obtain ⟨h1, h2, h3⟩ := splice_some hr
      refine ⟨by simp [h1], fun _ => ?_, fun i => ?_⟩
      · have := h2 (by simp); simp at this ⊢; omega
      · cases i with
        | zero => simp
        | succ i =>
          have := h3 i
          simp only [List.getElem?_cons_succ, this]
          by_cases c : n ≤ i ∧ i < n + (x :: xs).length
          · rw [if_pos c, if_pos (by omega), Nat.add_sub_add_right]
          · rw [if_neg c, if_neg (by omega)]
    · cases h
theorem rep_eq : ∀ (n : Nat) (a : α), rep n a = List.replicate n a
  | 0, _ => rfl
  | n + 1, a => by simp [rep, rep_eq n a, List.replicate_succ]
theorem setNth_eq : ∀ (n : Nat) (x : α) (l : List α), setNth n x l = l.set n x
  | _, _, [] => by simp [setNth]
  | 0, _, _ :: _ => by simp [setNth]
  | n + 1, x, a :: l => by simp [setNth, setNth_eq n x l]
end lists
theorem bytesEq_iff : ∀ {a b : List Nat}, bytesEq a b = true ↔ a = b
  | [], [] => by simp [bytesEq]
  | [], _ :: _ => by simp [bytesEq]
  | _ :: _, [] => by simp [bytesEq]
  | a :: x, b :: y => by simp [bytesEq, bytesEq_iff]
end Go.Eng
end
section
namespace Go.Eng
structure Loc where
  c : Nat
  base : Nat
  sz : Nat
  N : Nat
structure Rho where
  blk : Nm → Option Loc
  imm : Nat → Option Obj
structure Rho.Le (ρ ρ' : Rho) : Prop where
  blk : ∀ b l, ρ.blk b = some l → ρ'.blk b = some l
  imm : ∀ c o, ρ.imm c = some o → ρ'.imm c = some o
def Rho.bare (ρ : Rho) : Rho := { blk := fun _ => none, imm := ρ.imm }
theorem Rho.bare_le (ρ : Rho) : ρ.bare.Le ρ := ⟨fun _ _ h => (by cases h), fun _ _ h => h⟩
theorem Rho.Le.refl (ρ : Rho) : ρ.Le ρ := ⟨fun _ _ h => h, fun _ _ h => h⟩
theorem Rho.Le.trans {a b c : Rho} (h : a.Le b) (k : b.Le c) : a.Le c := ⟨fun _ _ x => k.blk _ _ (h.blk _ _ x), fun _ _ x => k.imm _ _ (h.imm _ _ x)⟩
def Rho.cell (ρ : Rho) (c off : Nat) : Option Value :=
  match ρ.imm c with
  | some (.cells arr _ _) => arr[off]?
  | _ => none
theorem Rho.Le.cell {ρ ρ' : Rho} (h : ρ.Le ρ') {c off : Nat} {v : Value} (hc : ρ.cell c off = some v) : ρ'.cell c off = some v := by
  unfold Rho.cell at *
  split at hc
  · rename_i arr ty fr hi
    rw [h.imm _ _ hi]; exact hc
  · cases hc
inductive VR (ρ : Rho) : V → Value → Prop
  | bool (b : Bool) : VR ρ (.bool b) (.bool b)
  | int (k : IntKind) (n : Int) : VR ρ (.int k n) (.int k n)
  | str {l : List Nat} {s : ByteArray} : s.data.toList.map UInt8.toNat = l → VR ρ (.str l) (.string s)
  | nilp : VR ρ .nilp (.pointer none)
  | ptr {b : Nm} {i j : Nat} {l : Loc} : ρ.blk b = some l → VR ρ (.ptr b i j) (.pointer (some ⟨l.c, l.base + i * l.sz + j, none⟩))
  | rp {cs : List V} {j c base : Nat} : cs.all scalarV = true → (∀ (k : Nat) v, cs[k]? = some v → ∃ cv, ρ.cell c (base + k) = some cv) → (∀ (k : Nat) v cv, cs[k]? = some v → ρ.cell c (base + k) = some cv → VR ρ v cv) → VR ρ (.rp cs j) (.pointer (some ⟨c, base + j, none⟩))
  | nils : VR ρ .nils (.slice none 0 0)
  | row {b : Nm} {sz off len cap : Nat} {clip : Bool} {l : Loc} {a : Addr} : ρ.blk b = some l → l.sz = sz → len ≤ cap → off + cap ≤ l.N → (cap ≠ 0 → a = ⟨l.c, l.base + off * l.sz, none⟩) → (clip = true → cap = len) →
      VR ρ (.row b sz off len clip) (.slice (some a) len cap)
  | dsl {es : List V} {clip : Bool} {a : Addr} {len cap sz : Nat} : es.length = len → len ≤ cap → (clip = true → cap = len) → (es ≠ [] → a.spot = none) →
      (∀ (i : Nat) e, es[i]? = some e → e.cells.length = sz ∧ e.cells.all scalarV = true) →
      (∀ (i : Nat) e (j : Nat) v, es[i]? = some e → e.cells[j]? = some v → ∃ cv, ρ.cell a.block (a.off + i * sz + j) = some cv) →
      (∀ (i : Nat) e (j : Nat) v cv, es[i]? = some e → e.cells[j]? = some v → ρ.cell a.block (a.off + i * sz + j) = some cv → VR ρ v cv) → VR ρ (.dsl es clip) (.slice (some a) len cap)
  | nilm : VR ρ .nilm (.map none)
  | map {b : Nm} {l : Loc} : ρ.blk b = some l → VR ρ (.map b) (.map (some l.c))
  | clo {fn : Fn} {a b : List V} {a' b' : Array Value} : isYield fn = false → a.length = a'.size → b.length = b'.size →
      (∀ (i : Nat) v cv, a[i]? = some v → a'[i]? = some cv → VR ρ v cv) → (∀ (i : Nat) v cv, b[i]? = some v → b'[i]? = some cv → VR ρ v cv) → VR ρ (.clo fn a b) (.func fn a' b')
  | yld {b : Nm} {l : Loc} : ρ.blk b = some l → VR ρ (.clo (.yield 0) [.it b] []) (.func (.yield l.c) #[] #[])
  | nilf : VR ρ .nilf .nilFunc
  | iface {t : TypeId} {v : V} {cv : Value} : VR ρ v cv → VR ρ (.iface t v) (.iface t cv)
  | nili : VR ρ .nili .nilIface
  | agg {cs : List V} {a : Array Value} : cs.all scalarV = true → cs.length = a.size → (∀ (i : Nat) v cv, cs[i]? = some v → a[i]? = some cv → VR ρ v cv) → VR ρ (.agg cs) (.agg a)
  | tup {cs : List V} {a : Array Value} : cs.length = a.size → (∀ (i : Nat) v cv, cs[i]? = some v → a[i]? = some cv → VR ρ v cv) → VR ρ (.tup cs) (.tuple a)
  | it {b : Nm} {l : Loc} : ρ.blk b = some l → VR ρ (.it b) (.pointer (some ⟨l.c, 0, none⟩))
theorem VR.mono {ρ ρ' : Rho} (h : ρ.Le ρ') {v : V} {cv : Value} (hv : VR ρ v cv) : VR ρ' v cv := by
  induction hv with
  | bool b => exact .bool b
  | int k n => exact .int k n
  | str e => exact .str e
  | nilp => exact .nilp
  | ptr e => exact .ptr (h.blk _ _ e)
  | rp hs hx _ ih =>
    refine .rp hs (fun k v e => let ⟨cv, a⟩ := hx k v e; ⟨cv, h.cell a⟩) fun k v cv e a => ?_
    obtain ⟨cv', a'⟩ := hx k v e
    rw [h.cell a'] at a; cases a
    exact ih k v _ e a'
  | nils => exact .nils
  | row e h0 h1 h2 h3 h4 => exact .row (h.blk _ _ e) h0 h1 h2 h3 h4
  | dsl h1 h2 h3 h4 h5 hx _ ih =>
    refine .dsl h1 h2 h3 h4 h5 (fun i e j v x y => let ⟨cv, a⟩ := hx i e j v x y; ⟨cv, h.cell a⟩) fun i e j v cv x y a => ?_
    obtain ⟨cv', a'⟩ := hx i e j v x y
    rw [h.cell a'] at a; cases a
    exact ih i e j v _ x y a'
  | nilm => exact .nilm
  | map e => exact .map (h.blk _ _ e)
  | clo h1 h2 h3 _ _ ih ih' => exact .clo h1 h2 h3 ih ih'
  | yld e => exact .yld (h.blk _ _ e)
  | nilf => exact .nilf
  | iface _ ih => exact .iface ih
  | nili => exact .nili
  | agg hs e _ ih => exact .agg hs e ih
  | tup e _ ih => exact .tup e ih
  | it e => exact .it (h.blk _ _ e)
def LR (ρ : Rho) (cs : List V) (f : Nat → Option Value) : Prop := ∀ (i : Nat) v, cs[i]? = some v → ∃ cv, f i = some cv ∧ VR ρ v cv
theorem LR.mono {ρ ρ' : Rho} (h : ρ.Le ρ') {cs : List V} {f : Nat → Option Value} (hl : LR ρ cs f) : LR ρ' cs f :=
  fun i v e => let ⟨cv, a, b⟩ := hl i v e; ⟨cv, a, b.mono h⟩
theorem VR.cells {ρ : Rho} {v : V} {cv : Value} (h : VR ρ v cv) : v.cells.length = cv.cells.size ∧ LR ρ v.cells (fun i => cv.cells[i]?) := by
  have one : ∀ {v : V} {cv : Value}, VR ρ v cv → v.cells = [v] → cv.cells = #[cv] → v.cells.length = cv.cells.size ∧ LR ρ v.cells (fun i => cv.cells[i]?) := by
    intro v cv h e1 e2
    rw [e1, e2]
    refine ⟨rfl, fun i w hi => ?_⟩
    cases i with
    | zero => simp at hi; subst hi; exact ⟨cv, by simp, h⟩
    | succ i => simp at hi
  cases h with
  | agg _ e f =>
    refine ⟨e, fun i w hi => ?_⟩
    rename_i cs a _
    have hlt : i < a.size := by rw [← e]; exact (List.getElem?_eq_some_iff.1 hi).1
    exact ⟨a[i], by simp [Value.cells, hlt], f i w a[i] hi (by simp [hlt])⟩
  | bool b => exact one (.bool b) rfl rfl
  | int k n => exact one (.int k n) rfl rfl
  | str e => exact one (.str e) rfl rfl
  | nilp => exact one .nilp rfl rfl
  | ptr e => exact one (.ptr e) rfl rfl
  | rp e f g => exact one (.rp e f g) rfl rfl
  | nils => exact one .nils rfl rfl
  | row a b c d e f => exact one (.row a b c d e f) rfl rfl
  | dsl a b c d e f g => exact one (.dsl a b c d e f g) rfl rfl
  | nilm => exact one .nilm rfl rfl
  | map e => exact one (.map e) rfl rfl
  | clo a b c d e => exact one (.clo a b c d e) rfl rfl
  | yld e => exact one (.yld e) rfl rfl
  | nilf => exact one .nilf rfl rfl
  | iface e => exact one (.iface e) rfl rfl
  | nili => exact one .nili rfl rfl
  | tup a b => exact one (.tup a b) rfl rfl
  | it e => exact one (.it e) rfl rfl
theorem VR.oneCell {ρ : Rho} {v : V} {cv : Value} (h : VR ρ v cv) (hs : scalarV v = true) : cv.oneCell' = true := by
  cases h <;> first | rfl | (simp [scalarV] at hs)
structure Ctx where
  P : Program
  G : Globals
  X : (Nat → Option Obj) → Prop
  grows : ∀ f f' : Nat → Option Obj, (∀ c o, f c = some o → f' c = some o) → X f → X f'
structure TR (ρ : Rho) (τ : Tr V) (tmps : Array Value) : Prop where
  fits : ∀ p v, τ.get p = some v → p.val - 1 < tmps.size
  rel : ∀ p : Nm, p.val - 1 < tmps.size → VR ρ ((τ.get p).getD undef) (tmps.getD (p.val - 1) Go.undef)
def pendingOf : Option Ex → Option (Option Code)
  | none => some none
  | some .ret => some (some .ret)
  | some (.exit id) => some (some (.exit id))
  | some .normal => none
def loopSt : Nat → LoopState
  | 0 => .ready
  | 1 => .done
  | _ => .busy
def OR (C : Ctx) (ρ : Rho) (l : Loc) (o : O) (w : World) : Prop :=
  match o with
  | .row es sz ty => sz = l.sz ∧ (0 < sz ∧ C.P.cellsOf ty = sz ∧ sz ∣ l.base) ∧ es.length ≤ l.N ∧ (∀ e ∈ es, e.length = sz ∧ e.all scalarV = true) ∧
      ∃ arr fr, w.heap[l.c]? = some (.cells arr ty fr) ∧ l.base + l.N * sz ≤ arr.size ∧ (∀ k, k < arr.size ∨ sz ≠ 1 → fr.2 ≤ k ∨ k < fr.1) ∧
        ∀ (i : Nat) e, es[i]? = some e → LR ρ e (fun j => arr[l.base + i * sz + j]?)
  | .map es clock => ∃ entries, w.heap[l.c]? = some (.map entries clock) ∧ entries.size = es.length ∧
      (∀ (i : Nat) k v n, es[i]? = some (k, v, n) → ∃ e : MapEntry, entries[i]? = some e ∧ e.born = n ∧ VR ρ k e.key ∧ VR ρ v e.val)
  | .sIter s pos => ∃ bs : ByteArray, w.heap[l.c]? = some (.stringIter bs pos) ∧ bs.data.toList.map UInt8.toNat = s
  | .mIter m since seen last => ∃ cm, w.heap[l.c]? = some (.mapIter cm since seen.toArray last) ∧
      (match m with
       | none => cm = none
       | some b => ∃ lb, ρ.blk b = some lb ∧ cm = some lb.c)
  | .loop τ ps assign body st pend => ∃ r : Go.Loop, w.heap[l.c]? = some (.loop r) ∧ r.state = loopSt st ∧ pendingOf pend = some r.pending ∧
      TR ρ τ r.tmps ∧ r.params.toList.map nm = ps ∧ (∀ p ∈ r.params.toList, p < r.tmps.size) ∧ ∃ nt, nt ≤ r.tmps.size ∧ codeOf C.P C.G nt true r.assign = assign ∧ codeOf C.P C.G nt true r.body = body
structure Inv (C : Ctx) (ρ : Rho) (s : St) (w : World) : Prop where
  obj : ∀ b l o, s.heap.get b = some o → ρ.blk b = some l → OR C ρ l o w
  inj : ∀ b b' l l', s.heap.get b ≠ none → s.heap.get b' ≠ none → ρ.blk b = some l → ρ.blk b' = some l' → l.c = l'.c → b = b'
  imm : ∀ c o, ρ.imm c = some o → w.heap[c]? = some o
  sep : ∀ b l, s.heap.get b ≠ none → ρ.blk b = some l → ρ.imm l.c = none
  lt : ∀ b l, ρ.blk b = some l → l.c < w.heap.size
  fresh : ∀ b : Nm, s.next.val ≤ b.val → ρ.blk b = none ∧ s.heap.get b = none
def Owns (ρ : Rho) (s : St) (c : Nat) : Prop := ∃ b l, s.heap.get b ≠ none ∧ ρ.blk b = some l ∧ l.c = c
structure Ext (C : Ctx) (ρ : Rho) (s : St) (w : World) (ρ' : Rho) (s' : St) (w' : World) : Prop where
  inv : Inv C ρ' s' w'
  le : ρ.Le ρ'
  os : w'.os = w.os
  tape : w'.tape = w.tape
  output : w'.output = w.output
  size : w.heap.size ≤ w'.heap.size
  frame : ∀ c, c < w.heap.size → ¬ Owns ρ s c → w'.heap[c]? = w.heap[c]?
  own : ∀ c, c < w.heap.size → Owns ρ' s' c → Owns ρ s c
  next : s.next.val ≤ s'.next.val
  unreal : ∀ b : Nm, ρ.blk b = none → b.val < s.next.val → s'.heap.get b = s.heap.get b ∧ ρ'.blk b = none
  imm : ∀ c o, ρ'.imm c = some o → ρ.imm c = some o ∨ w.heap.size ≤ c ∨ Owns ρ s c
theorem Ext.refl {C : Ctx} {ρ : Rho} {s : St} {w : World} (h : Inv C ρ s w) : Ext C ρ s w ρ s w :=
  ⟨h, .refl ρ, rfl, rfl, rfl, Nat.le_refl _, fun _ _ _ => rfl, fun _ _ h => h, Nat.le_refl _, fun _ h _ => ⟨rfl, h⟩, fun _ _ h => .inl h⟩
theorem Ext.trans {C : Ctx} {ρ ρ' ρ'' : Rho} {s s' s'' : St} {w w' w'' : World} (h : Ext C ρ s w ρ' s' w') (k : Ext C ρ' s' w' ρ'' s'' w'') : Ext C ρ s w ρ'' s'' w'' where
  inv := k.inv
  le := h.le.trans k.le
  os := k.os.trans h.os
  tape := k.tape.trans h.tape
  output := k.output.trans h.output
  size := Nat.le_trans h.size k.size
  frame c hc hn := (k.frame c (Nat.lt_of_lt_of_le hc h.size) (fun ho => hn (h.own c hc ho))).trans (h.frame c hc hn)
  own c hc ho := h.own c hc (k.own c (Nat.lt_of_lt_of_le hc h.size) ho)
  next := Nat.le_trans h.next k.next
  unreal b hb hlt := by
    obtain ⟨e1, e2⟩ := h.unreal b hb hlt
    obtain ⟨e3, e4⟩ := k.unreal b e2 (Nat.lt_of_lt_of_le hlt h.next)
    exact ⟨e3.trans e1, e4⟩
  imm c o hc := by
    rcases k.imm c o hc with h1 | h1 | h1
    · exact h.imm c o h1
    · exact .inr (.inl (Nat.le_trans h.size h1))
    · by_cases hlt : c < w.heap.size
      · exact .inr (.inr (h.own c hlt h1))
      · exact .inr (.inl (Nat.le_of_not_lt hlt))
end Go.Eng
end
section
namespace Go.Eng
theorem OR.of_block {C : Ctx} {ρ ρ' : Rho} {l : Loc} {o : O} {w w' : World} (hle : ρ.Le ρ') (hb : w'.heap[l.c]? = w.heap[l.c]?) (h : OR C ρ l o w) : OR C ρ' l o w' := by
  unfold OR at *
  cases o with
  | row es sz ty =>
    obtain ⟨h1, h2, h3, h4, arr, fr, h5, h6, h7, h8⟩ := h
    exact ⟨h1, h2, h3, h4, arr, fr, hb.trans h5, h6, h7, fun i e he => (h8 i e he).mono hle⟩
  | map es clock =>
    obtain ⟨en, h1, h2, h3⟩ := h
    exact ⟨en, hb.trans h1, h2, fun i k v n he => let ⟨e, a, b, c, d⟩ := h3 i k v n he; ⟨e, a, b, c.mono hle, d.mono hle⟩⟩
  | sIter s pos => obtain ⟨bs, h1, h2⟩ := h; exact ⟨bs, hb.trans h1, h2⟩
  | mIter m since seen last =>
    obtain ⟨cm, h1, h2⟩ := h
    refine ⟨cm, hb.trans h1, ?_⟩
    cases m with
    | none => exact h2
    | some b => obtain ⟨lb, e1, e2⟩ := h2; exact ⟨lb, hle.blk _ _ e1, e2⟩
  | loop τ ps a b st pend =>
    obtain ⟨r, h1, h2, h3, h4, h5⟩ := h
    exact ⟨r, hb.trans h1, h2, h3, ⟨h4.fits, fun p hp => (h4.rel p hp).mono hle⟩, h5⟩
def Rho.add (ρ : Rho) (b : Nm) (l : Loc) : Rho := { ρ with blk := fun b' => if b' = b then some l else ρ.blk b' }
theorem Rho.add_same (ρ : Rho) (b : Nm) (l : Loc) : (ρ.add b l).blk b = some l := by simp [Rho.add]
theorem Rho.add_other (ρ : Rho) {b b' : Nm} (l : Loc) (h : b' ≠ b) : (ρ.add b l).blk b' = ρ.blk b' := by simp [Rho.add, h]
theorem Rho.le_add {ρ : Rho} {b : Nm} {l : Loc} (h : ρ.blk b = none) : ρ.Le (ρ.add b l) :=
  ⟨fun b' l' e => by
    rw [Rho.add_other ρ l (fun e' => by rw [e', h] at e; cases e)]; exact e, fun _ _ e => e⟩
theorem heap_alloc_lt (w : World) (o : Obj) {c : Nat} (h : c < w.heap.size) : (w.alloc o).heap[c]? = w.heap[c]? := by
  show (w.heap.push o)[c]? = _
  rw [Array.getElem?_push, if_neg (by omega)]
theorem heap_alloc_new (w : World) (o : Obj) : (w.alloc o).heap[w.heap.size]? = some o := by
  show (w.heap.push o)[w.heap.size]? = _
  simp
theorem Inv.next_none {C : Ctx} {ρ : Rho} {s : St} {w : World} (h : Inv C ρ s w) : ρ.blk s.next = none ∧ s.heap.get s.next = none := h.fresh s.next (Nat.le_refl _)
section
variable {C : Ctx} {ρ : Rho} {s : St} {w : World}
theorem ext_new (h : Inv C ρ s w) (obj : Obj) (o : O) (sz N base : Nat) (hor : OR C (ρ.add s.next ⟨w.heap.size, base, sz, N⟩) ⟨w.heap.size, base, sz, N⟩ o (w.alloc obj)) :
    Ext C ρ s w (ρ.add s.next ⟨w.heap.size, base, sz, N⟩) (new s o).2 (w.alloc obj) := by
  have hn := h.next_none
  have hle : ρ.Le (ρ.add s.next ⟨w.heap.size, base, sz, N⟩) := Rho.le_add hn.1
  refine ⟨⟨?_, ?_, ?_, ?_, ?_, ?_⟩, hle, rfl, rfl, rfl, by simp, ?_, ?_, ?_, ?_, fun _ _ h => .inl h⟩
  · intro b l o' hb hl
    simp only [new, Tr.get_set] at hb
    split at hb
    · rename_i e
      subst e; cases hb
      rw [Rho.add_same] at hl; cases hl
      exact hor
    · rename_i e
      rw [Rho.add_other ρ _ (fun e' => e e'.symm)] at hl
      exact (h.obj b l o' hb hl).of_block hle (heap_alloc_lt w obj (h.lt b l hl))
  · intro b b' l l' hb hb' hl hl' hc
    simp only [new, Tr.get_set] at hb hb'
    by_cases e : s.next = b
    · by_cases e' : s.next = b'
      · exact e.symm.trans e'
      · subst e
        rw [Rho.add_same] at hl; cases hl
        rw [Rho.add_other ρ _ (fun x => e' x.symm)] at hl'
        have := h.lt b' l' hl'
        simp at hc; omega
    · by_cases e' : s.next = b'
      · subst e'
        rw [Rho.add_same] at hl'; cases hl'
        rw [Rho.add_other ρ _ (fun x => e x.symm)] at hl
        have := h.lt b l hl
        simp at hc; omega
      · rw [if_neg e] at hb; rw [if_neg e'] at hb'
        rw [Rho.add_other ρ _ (fun x => e x.symm)] at hl
        rw [Rho.add_other ρ _ (fun x => e' x.symm)] at hl'
        exact h.inj b b' l l' hb hb' hl hl' hc
  · intro c o' hi
    have := h.imm c o' hi
    rw [heap_alloc_lt w obj (Array.getElem?_eq_some_iff.1 this).1]; exact this
  · intro b l hb hl
    simp only [new, Tr.get_set] at hb
    by_cases e : s.next = b
    · subst e
      rw [Rho.add_same] at hl; cases hl
      show ρ.imm w.heap.size = none
      cases hi : ρ.imm w.heap.size with
      | none => rfl
      | some o' => have := (Array.getElem?_eq_some_iff.1 (h.imm _ _ hi)).1; omega
    · rw [if_neg e] at hb
      rw [Rho.add_other ρ _ (fun x => e x.symm)] at hl
      exact h.sep b l hb hl
  · intro b l hl
    by_cases e : b = s.next
    · subst e; rw [Rho.add_same] at hl; cases hl; simp
    · rw [Rho.add_other ρ _ e] at hl
      have := h.lt b l hl; simp; omega
  · intro b hb
    simp only [new, Nm.val_succ] at hb
    have hne : b ≠ s.next := fun e => by subst e; omega
    have := h.fresh b (by omega)
    refine ⟨by rw [Rho.add_other ρ _ hne]; exact this.1, ?_⟩
    simp only [new, Tr.get_set]; rw [if_neg (fun e => hne e.symm)]; exact this.2
  · intro c hc _; exact heap_alloc_lt w obj hc
  · rintro c hc ⟨b, l, hb, hl, rfl⟩
    simp only [new, Tr.get_set] at hb
    by_cases e : s.next = b
    · subst e; rw [Rho.add_same] at hl; cases hl; simp at hc
    · rw [if_neg e] at hb
      rw [Rho.add_other ρ _ (fun x => e x.symm)] at hl
      exact ⟨b, l, hb, hl, rfl⟩
  · simp only [new, Nm.val_succ]; omega
  · intro b hb hlt
    have hne : b ≠ s.next := fun e => by subst e; omega
    refine ⟨?_, by rw [Rho.add_other ρ _ hne]; exact hb⟩
    simp only [new, Tr.get_set]; rw [if_neg (fun e => hne e.symm)]
structure Upd (w w' : World) (c : Nat) : Prop where
  os : w'.os = w.os
  tape : w'.tape = w.tape
  output : w'.output = w.output
  size : w'.heap.size = w.heap.size
  other : ∀ d, d ≠ c → w'.heap[d]? = w.heap[d]?
theorem Upd.refl (w : World) (c : Nat) : Upd w w c := ⟨rfl, rfl, rfl, rfl, fun _ _ => rfl⟩
theorem Upd.trans {w w' w'' : World} {c : Nat} (h : Upd w w' c) (k : Upd w' w'' c) : Upd w w'' c :=
  ⟨k.os.trans h.os, k.tape.trans h.tape, k.output.trans h.output, k.size.trans h.size, fun d hd => (k.other d hd).trans (h.other d hd)⟩
theorem ext_set (h : Inv C ρ s w) {b : Nm} {l : Loc} (hb : s.heap.get b ≠ none) (hl : ρ.blk b = some l) {w' : World} (hu : Upd w w' l.c) (o : Option O)
    (hor : ∀ o', o = some o' → OR C ρ l o' w') : Ext C ρ s w ρ { s with heap := s.heap.set o b } w' := by
  refine ⟨⟨?_, ?_, ?_, ?_, ?_, ?_⟩, .refl ρ, hu.os, hu.tape, hu.output, by rw [hu.size]; exact Nat.le_refl _, ?_, ?_, Nat.le_refl _, ?_, fun _ _ h => .inl h⟩
  · intro b' l' o' hb' hl'
    simp only [Tr.get_set] at hb'
    split at hb'
    · rename_i e
      subst e
      rw [hl] at hl'; cases hl'
      exact hor o' hb'
    · rename_i e
      refine (h.obj b' l' o' hb' hl').of_block (.refl ρ) (hu.other _ fun ec => e ?_)
      exact (h.inj b' b l' l (by rw [hb']; simp) hb hl' hl ec).symm
  · intro x y lx ly hx hy hlx hly hc
    simp only [Tr.get_set] at hx hy
    have aux : ∀ z, (if b = z then o else s.heap.get z) ≠ none → s.heap.get z ≠ none := by
      intro z hz
      by_cases e : b = z
      · subst e; exact hb
      · rw [if_neg e] at hz; exact hz
    exact h.inj x y lx ly (aux x hx) (aux y hy) hlx hly hc
  · intro c o' hi
    have hne : c ≠ l.c := fun e => by have := h.sep b l hb hl; rw [e, this] at hi; cases hi
    rw [hu.other c hne]; exact h.imm c o' hi
  · intro x lx hx hlx
    simp only [Tr.get_set] at hx
    by_cases e : b = x
    · subst e; exact h.sep b lx hb hlx
    · rw [if_neg e] at hx; exact h.sep x lx hx hlx
  · intro x lx hlx; rw [hu.size]; exact h.lt x lx hlx
  · intro x hx
    have hne : b ≠ x := fun e => by subst e; have := (h.fresh b hx).2; exact hb this
    refine ⟨(h.fresh x hx).1, ?_⟩
    simp only [Tr.get_set]; rw [if_neg hne]; exact (h.fresh x hx).2
  · intro c hc hn
    exact hu.other c fun e => hn ⟨b, l, hb, hl, e.symm⟩
  · rintro c hc ⟨x, lx, hx, hlx, rfl⟩
    simp only [Tr.get_set] at hx
    by_cases e : b = x
    · subst e; exact ⟨b, lx, hb, hlx, rfl⟩
    · rw [if_neg e] at hx; exact ⟨x, lx, hx, hlx, rfl⟩
  · intro x hx hlt
    refine ⟨?_, hx⟩
    simp only [Tr.get_set]
    rw [if_neg]
    intro e; subst e; rw [hl] at hx; cases hx
theorem ext_drew (h : Inv C ρ s w) (d n : Nat) : Ext C ρ s w ρ { s with drawn := d } { w with drawn := n } :=
  ⟨⟨fun b l o hb hl => (h.obj b l o hb hl).of_block (.refl ρ) rfl, h.inj, h.imm, h.sep, h.lt, h.fresh⟩, .refl ρ, rfl, rfl, rfl, Nat.le_refl _, fun _ _ _ => rfl, fun _ _ h => h, Nat.le_refl _, fun _ h _ => ⟨rfl, h⟩, fun _ _ h => .inl h⟩
theorem ext_move (h : Inv C ρ s w) {b : Nm} {l : Loc} (hb : s.heap.get b ≠ none) (hl : ρ.blk b = some l) {w' : World} (hu : Upd w w' l.c) (o : O) (l' : Loc) (hc : l'.c = l.c)
    (hor : OR C (ρ.add s.next l') l' o w') : Ext C ρ s w (ρ.add s.next l') (new { s with heap := s.heap.set none b } o).2 w' := by
  have hn := h.next_none
  have hle : ρ.Le (ρ.add s.next l') := Rho.le_add hn.1
  have hbn : b ≠ s.next := fun e => by subst e; exact hb hn.2
  have get' : ∀ z, (new { s with heap := s.heap.set none b } o).2.heap.get z = if s.next = z then some o else if b = z then none else s.heap.get z := by
    intro z; simp only [new, Tr.get_set]
  refine ⟨⟨?_, ?_, ?_, ?_, ?_, ?_⟩, hle, hu.os, hu.tape, hu.output, by rw [hu.size]; exact Nat.le_refl _, ?_, ?_, ?_, ?_, fun _ _ h => .inl h⟩
  · intro x lx o' hx hlx
    rw [get'] at hx
    by_cases e : s.next = x
    · subst e
      rw [if_pos rfl] at hx; cases hx
      rw [Rho.add_same] at hlx; cases hlx
      exact hor
    · rw [if_neg e] at hx
      by_cases e' : b = x
      · rw [if_pos e'] at hx; cases hx
      · rw [if_neg e'] at hx
        rw [Rho.add_other ρ _ (fun y => e y.symm)] at hlx
        refine (h.obj x lx o' hx hlx).of_block hle (hu.other _ fun ec => e' ?_)
        exact (h.inj x b lx l (by rw [hx]; simp) hb hlx hl ec).symm
  · intro x y lx ly hx hy hlx hly hcc
    rw [get'] at hx hy
    have key : ∀ z lz, s.next ≠ z → (if s.next = z then some o else if b = z then none else s.heap.get z) ≠ none → (ρ.add s.next l').blk z = some lz → s.heap.get z ≠ none ∧ ρ.blk z = some lz ∧ b ≠ z := by
      intro z lz e hz hlz
      rw [if_neg e] at hz
      by_cases e' : b = z
      · rw [if_pos e'] at hz; exact absurd rfl hz
      · rw [if_neg e'] at hz
        rw [Rho.add_other ρ _ (fun y => e y.symm)] at hlz
        exact ⟨hz, hlz, e'⟩
    by_cases ex : s.next = x
    · by_cases ey : s.next = y
      · exact ex.symm.trans ey
      · subst ex
        rw [Rho.add_same] at hlx; cases hlx
        obtain ⟨h1, h2, h3⟩ := key y ly ey hy hly
        exact absurd (h.inj b y l ly hb h1 hl h2 (hc.symm.trans hcc)) h3
    · by_cases ey : s.next = y
      · subst ey
        rw [Rho.add_same] at hly; cases hly
        obtain ⟨h1, h2, h3⟩ := key x lx ex hx hlx
        exact absurd (h.inj b x l lx hb h1 hl h2 (hc.symm.trans hcc.symm)) h3
      · obtain ⟨h1, h2, _⟩ := key x lx ex hx hlx
        obtain ⟨k1, k2, _⟩ := key y ly ey hy hly
        exact h.inj x y lx ly h1 k1 h2 k2 hcc
  · intro c o' hi
    have hne : c ≠ l.c := fun e => by have := h.sep b l hb hl; rw [e] at hi; have hi' : ρ.imm l.c = some o' := hi; rw [this] at hi'; cases hi'
    rw [hu.other c hne]; exact h.imm c o' hi
  · intro x lx hx hlx
    rw [get'] at hx
    by_cases e : s.next = x
    · subst e
      rw [Rho.add_same] at hlx; cases hlx
      show ρ.imm l'.c = none
      rw [hc]; exact h.sep b l hb hl
    · rw [if_neg e] at hx
      rw [Rho.add_other ρ _ (fun y => e y.symm)] at hlx
      by_cases e' : b = x
      · rw [if_pos e'] at hx; exact absurd rfl hx
      · rw [if_neg e'] at hx; exact h.sep x lx hx hlx
  · intro x lx hlx
    rw [hu.size]
    by_cases e : x = s.next
    · subst e; rw [Rho.add_same] at hlx; cases hlx; rw [hc]; exact h.lt b l hl
    · rw [Rho.add_other ρ _ e] at hlx; exact h.lt x lx hlx
  · intro x hx
    have hx' : s.next.val + 1 ≤ x.val := by simpa [new, Nm.val_succ] using hx
    have hne : x ≠ s.next := fun e => by subst e; omega
    have hnb : b ≠ x := fun e => by subst e; exact hb (h.fresh b (by omega)).2
    have := h.fresh x (by omega)
    refine ⟨by rw [Rho.add_other ρ _ hne]; exact this.1, ?_⟩
    rw [get', if_neg (fun e => hne e.symm), if_neg hnb]; exact this.2
  · intro c hcl hno
    exact hu.other c fun e => hno ⟨b, l, hb, hl, e.symm⟩
  · rintro c hcl ⟨x, lx, hx, hlx, rfl⟩
    rw [get'] at hx
    by_cases e : s.next = x
    · subst e; rw [Rho.add_same] at hlx; cases hlx
      exact ⟨b, l, hb, hl, hc.symm⟩
    · rw [if_neg e] at hx
      rw [Rho.add_other ρ _ (fun y => e y.symm)] at hlx
      by_cases e' : b = x
      · rw [if_pos e'] at hx; exact absurd rfl hx
      · rw [if_neg e'] at hx; exact ⟨x, lx, hx, hlx, rfl⟩
  · show s.next.val ≤ s.next.succ.val
    rw [Nm.val_succ]; omega
  · intro x hx hlt
    have hne : x ≠ s.next := fun e => by subst e; omega
    have hnb : b ≠ x := fun e => by subst e; rw [hl] at hx; cases hx
    refine ⟨?_, by rw [Rho.add_other ρ _ hne]; exact hx⟩
    rw [get', if_neg (fun e => hne e.symm), if_neg hnb]
end
end Go.Eng
end
section
namespace Go.Eng
variable {P : Program}
theorem val_nm (t : Nat) : (nm t).val = t + 1 := Nm.val_ofNat (by omega)
theorem nm_inj {t u : Nat} (h : nm t = nm u) : t = u := by have := congrArg Nm.val h; rw [val_nm, val_nm] at this; omega
theorem szOf_info {t : TypeId} {n : Nat} (h : P.cellsOf t = n) (hn : n ≠ 0) (w : World) : (sizeOf t).run P w = .ok n w := by
  unfold Program.cellsOf at h
  cases hi : P.info? t with
  | none => simp [hi] at h; omega
  | some i =>
    simp [hi] at h
    simp [sizeOf, typeInfo, hi, h]
theorem tyOf_spec {t : TypeId} {n : Nat} {agg : Bool} (h : tyOf P t = some (n, agg)) :
    P.cellsOf t = n ∧ 0 < n ∧ (agg = false → n = 1) ∧ (∀ w, (sizeOf t).run P w = .ok n w) ∧ (∀ w, (Go.isAgg t).run P w = .ok agg w) := by
  unfold tyOf at h
  split at h
  · cases h
  · rename_i d hd
    split at h
    · cases h
    · rename_i m hm
      have key : ∀ w, (sizeOf t).run P w = .ok (m + 1) w := szOf_info hm (by omega)
      have hu : ∀ w, (underlying t).run P w = .ok d w := fun w => run_underlying hd w
      split at h
      · cases h; exact ⟨hm, by omega, by simp, key, fun w => by simp [Go.isAgg, hu]⟩
      · cases h; exact ⟨hm, by omega, by simp, key, fun w => by simp [Go.isAgg, hu]⟩
      · split at h
        · cases h
          refine ⟨hm, by omega, fun _ => rfl, key, fun w => ?_⟩
          simp only [Go.isAgg, Sem.run_bind, hu, Result.andThen_ok]
          rfl
        · cases h
theorem szOf_spec {t : TypeId} {n : Nat} (h : szOf P t = some n) : P.cellsOf t = n ∧ 0 < n ∧ (∀ w, (sizeOf t).run P w = .ok n w) := by
  unfold szOf at h
  split at h
  · rename_i n' agg ht
    cases h
    obtain ⟨a, b, _, c, _⟩ := tyOf_spec ht
    exact ⟨a, b, c⟩
  · cases h
theorem ofScalar_spec {v : Value} {x : V} (h : ofScalar v = some x) (ρ : Rho) : VR ρ x v ∧ scalarV x = true := by
  unfold ofScalar at h
  split at h <;> first
    | (cases h; exact ⟨.bool _, rfl⟩)
    | (cases h; exact ⟨.int _ _, rfl⟩)
    | (cases h; exact ⟨.str rfl, rfl⟩)
    | (cases h; exact ⟨.nilp, rfl⟩)
    | (cases h; exact ⟨.nils, rfl⟩)
    | (cases h; exact ⟨.nilm, rfl⟩)
    | (cases h; exact ⟨.nilf, rfl⟩)
    | (cases h; exact ⟨.nili, rfl⟩)
    | cases h
theorem ofScalars_spec : ∀ {vs : List Value} {xs : List V}, ofScalars vs = some xs → ∀ ρ : Rho, xs.length = vs.length ∧ (∀ (i : Nat) x v, xs[i]? = some x → vs[i]? = some v → VR ρ x v) ∧ xs.all scalarV = true
  | [], xs, h, ρ => by simp [ofScalars] at h; subst h; simp
  | v :: vs, xs, h, ρ => by
    simp only [ofScalars] at h
    split at h
    · rename_i a l h1 h2
      cases h
      obtain ⟨e1, e2, e3⟩ := ofScalars_spec h2 ρ
      obtain ⟨f1, f2⟩ := ofScalar_spec h1 ρ
      refine ⟨by simp [e1], fun i x u hx hu => ?_, by simp [f2, e3]⟩
      cases i with
      | zero => simp at hx hu; subst hx; subst hu; exact f1
      | succ i => simp at hx hu; exact e2 i x u hx hu
    · cases h
theorem ofConst_spec {v : Value} {x : V} (h : ofConst v = some x) (ρ : Rho) : VR ρ x v := by
  unfold ofConst at h
  split at h
  · rename_i cs
    split at h
    · rename_i l hl
      cases h
      obtain ⟨e1, e2, e3⟩ := ofScalars_spec hl ρ
      exact .agg e3 (by simpa using e1) fun i x v hx hv => e2 i x v hx (by simpa using hv)
    · cases h
  · rename_i cs
    split at h
    · rename_i l hl
      cases h
      obtain ⟨e1, e2, _⟩ := ofScalars_spec hl ρ
      exact .tup (by simpa using e1) fun i x v hx hv => e2 i x v hx (by simpa using hv)
    · cases h
  · exact (ofScalar_spec h ρ).1
theorem zeroOf_spec {t : TypeId} {z : V} (h : zeroOf P t = some z) : ∃ cv, (∀ w, (zeroValue t).run P w = .ok cv w) ∧ ∀ ρ : Rho, VR ρ z cv := by
  unfold zeroOf at h
  split at h
  · rename_i i hi
    split at h
    · rename_i v hv
      exact ⟨v, fun w => by simp [zeroValue, typeInfo, hi, hv], fun ρ => ofConst_spec h ρ⟩
    · cases h
  · cases h
theorem zeroCells_spec {t : TypeId} {cs : List V} (h : zeroCells P t = some cs) :
    ∃ n cv, szOf P t = some n ∧ cs.length = n ∧ cs.all scalarV = true ∧ P.bytesOf t ≤ 4096 ∧ (∀ w, (zeroValue t).run P w = .ok cv w) ∧ cv.cells.size = n ∧ ∀ ρ : Rho, LR ρ cs (fun i => cv.cells[i]?) := by
  unfold zeroCells at h
  split at h
  · rename_i n hn
    split at h
    · rename_i z hz
      split at h
      · rename_i hc
        cases h
        simp only [Bool.and_eq_true, Nat.beq_eq, Nat.ble_eq] at hc
        obtain ⟨cv, h1, h2⟩ := zeroOf_spec hz
        refine ⟨n, cv, hn, hc.1.1, hc.1.2, hc.2, h1, ?_, fun ρ => (h2 ρ).cells.2⟩
        rw [← (h2 ⟨fun _ => none, fun _ => none⟩).cells.1]; exact hc.1.1
      · cases h
    · cases h
  · cases h
theorem addr_add (c o k : Nat) : (⟨c, o, none⟩ : Addr).add k = ⟨c, o + k, none⟩ := by unfold Addr.add; split <;> simp_all
theorem cell_of_heap {w : World} {c off : Nat} {arr : Array Value} {ty : TypeId} {fr : Nat × Nat} (h : w.heap[c]? = some (.cells arr ty fr)) : w.cell? ⟨c, off, none⟩ = arr[off]? := by
  simp [World.cell?, h]
theorem LR.list {ρ : Rho} {cs : List V} {f : Nat → Option Value} (h : LR ρ cs f) : ∃ vs : List Value, vs.length = cs.length ∧ (∀ (i : Nat) v, vs[i]? = some v → f i = some v) ∧ LR ρ cs (fun i => vs[i]?) := by
  refine ⟨(List.range cs.length).map fun i => (f i).getD Go.undef, by simp, fun i v hv => ?_, fun i x hx => ?_⟩
  · simp only [List.getElem?_map, Option.map_eq_some_iff] at hv
    obtain ⟨k, hk, rfl⟩ := hv
    rw [List.getElem?_eq_some_iff] at hk
    obtain ⟨hlt, e⟩ := hk
    simp at hlt e; subst e
    obtain ⟨cv, e1, _⟩ := h i cs[i] (by simp [hlt])
    simp [e1]
  · obtain ⟨cv, e1, e2⟩ := h i x hx
    have hlt := (List.getElem?_eq_some_iff.1 hx).1
    exact ⟨cv, by simp [hlt, e1], e2⟩
theorem window_all {p : V → Bool} {j n : Nat} {l r : List V} (hl : l.all p = true) (h : window j n l = some r) : r.all p = true := by
  obtain ⟨e, _⟩ := window_some h
  subst e
  rw [List.all_eq_true] at *
  exact fun x hx => hl x (List.mem_of_mem_drop (List.mem_of_mem_take hx))
theorem loadCells_spec {C : Ctx} {ρ : Rho} {s : St} {w : World} (hI : Inv C ρ s w) {n : Nat} {p : V} {cp : Value} {cs : List V} (hp : VR ρ p cp) (h : loadCells s.heap n p = some cs) :
    ∃ (a : Addr) (vs : List Value), cp = .pointer (some a) ∧ vs.length = n ∧ cs.length = n ∧ cs.all scalarV = true ∧ LR ρ cs (fun i => vs[i]?) ∧ ∀ (j : Nat) v, vs[j]? = some v → w.cell? (a.add j) = some v := by
  cases p <;> simp only [loadCells] at h
  case ptr b i j =>
    split at h
    · rename_i es sz ty hb
      split at h
      · rename_i e he
        rw [nth_eq] at he
        cases hp with
        | ptr hl =>
          rename_i l
          obtain ⟨h1, h2, h3, h4, arr, fr, h5, h6, h7, h8⟩ := hI.obj _ _ _ hb hl
          have hlr : LR ρ cs (fun k => arr[l.base + i * sz + (j + k)]?) := by
            intro k v hk
            obtain ⟨g1, g2⟩ := window_get h k v hk
            exact h8 i e he (j + k) v g1
          obtain ⟨vs, g1, g2, g3⟩ := hlr.list
          refine ⟨_, vs, rfl, by rw [g1]; exact window_length h, window_length h, window_all (h4 e (List.mem_of_getElem? he)).2 h, g3, fun k v hk => ?_⟩
          rw [addr_add, cell_of_heap h5, ← h1, Nat.add_assoc]
          have := g2 k v hk
          simpa using this
      · cases h
    · cases h
  case rp ds j =>
    cases hp with
    | rp hs hx hr =>
      rename_i c base
      have hlr : LR ρ cs (fun k => ρ.cell c (base + (j + k))) := by
        intro k v hk
        obtain ⟨g1, g2⟩ := window_get h k v hk
        obtain ⟨cv, e⟩ := hx (j + k) v g1
        exact ⟨cv, e, hr (j + k) v cv g1 e⟩
      obtain ⟨vs, g1, g2, g3⟩ := hlr.list
      refine ⟨_, vs, rfl, by rw [g1]; exact window_length h, window_length h, window_all hs h, g3, fun k v hk => ?_⟩
      have := g2 k v hk
      unfold Rho.cell at this
      split at this
      · rename_i arr ty fr hi
        rw [addr_add, cell_of_heap (hI.imm _ _ hi), Nat.add_assoc]; exact this
      · cases this
  all_goals cases h
theorem load_spec {C : Ctx} {ρ : Rho} {s : St} {w : World} (hI : Inv C ρ s w) {t : TypeId} {n : Nat} {agg : Bool} (ht : tyOf C.P t = some (n, agg)) {p v : V} {cp : Value} (hp : VR ρ p cp)
    (h : load s.heap n agg p = some v) : ∃ (a : Addr) (cv : Value), cp = .pointer (some a) ∧ (loadVar t a).run C.P w = .ok cv w ∧ VR ρ v cv := by
  unfold load at h
  split at h
  · rename_i cs hcs
    obtain ⟨a, vs, e1, e2, e3, es, e4, e5⟩ := loadCells_spec hI hp hcs
    obtain ⟨_, hn, h1, hsz, hag⟩ := tyOf_spec ht
    unfold pack at h
    cases agg with
    | true =>
      cases h
      refine ⟨a, .agg vs.toArray, e1, ?_, ?_⟩
      · subst e2
        simp [loadVar, hag, hsz, run_loadCells_list w a vs e5]
      · refine .agg es (by simp [e2, e3]) fun i x cv hx hcv => ?_
        obtain ⟨cv', g1, g2⟩ := e4 i x hx
        simp at hcv
        simp only at g1
        rw [hcv] at g1; cases g1
        exact g2
    | false =>
      simp only at h
      split at h
      · rename_i x
        cases h
        obtain ⟨cv, g1, g2⟩ := e4 0 v (by simp)
        refine ⟨a, cv, e1, ?_, g2⟩
        have := e5 0 cv g1
        have ha : a.add 0 = a := by simp [Addr.add]
        rw [ha] at this
        simp [loadVar, hag, this]
      · cases h
  · cases h
end Go.Eng
end
section
namespace Go.Eng
theorem setCell_heap {w : World} {b o : Nat} {v : Value} {arr : Array Value} {ty : TypeId} {fr : Nat × Nat} (h : w.heap[b]? = some (.cells arr ty fr)) :
    (w.setCell ⟨b, o, none⟩ v).heap[b]? = some (.cells (arr.setIfInBounds o v) ty fr) := by
  simp [World.setCell, Array.getElem?_modify, h]
theorem setCell_upd (w : World) (b o : Nat) (v : Value) : Upd w (w.setCell ⟨b, o, none⟩ v) b :=
  ⟨rfl, rfl, rfl, by simp [World.setCell], fun d hd => Go.RowKit.Below.heap_setCell w ⟨b, o, none⟩ v d hd⟩
theorem setCells_heap (b : Nat) : ∀ (vs : List Value) (o : Nat) (w : World) (arr : Array Value) (ty : TypeId) (fr : Nat × Nat), w.heap[b]? = some (.cells arr ty fr) → o + vs.length ≤ arr.size →
    ∃ arr' : Array Value, (w.setCells b o vs).heap[b]? = some (.cells arr' ty fr) ∧ arr'.size = arr.size ∧ (∀ k : Nat, arr'[k]? = if o ≤ k ∧ k < o + vs.length then vs[k - o]? else arr[k]?) ∧ Upd w (w.setCells b o vs) b
  | [], o, w, arr, ty, fr, h, _ => ⟨arr, h, rfl, fun k => by rw [if_neg (by simp)], Upd.refl w b⟩
  | v :: r, o, w, arr, ty, fr, h, hl => by
    have hl' : o + 1 + r.length ≤ (arr.setIfInBounds o v).size := by simp at hl ⊢; omega
    obtain ⟨arr', h1, h2, h3, h4⟩ := setCells_heap b r (o + 1) (w.setCell ⟨b, o, none⟩ v) _ ty fr (setCell_heap h) hl'
    refine ⟨arr', h1, by rw [h2]; simp, fun k => ?_, (setCell_upd w b o v).trans h4⟩
    rw [h3 k]
    simp only [List.length_cons]
    simp at hl
    by_cases c : o = k
    · subst c
      rw [if_neg (by omega), if_pos (by omega), Nat.sub_self, List.getElem?_cons_zero, Array.getElem?_setIfInBounds_self_of_lt (by omega)]
    · by_cases c' : o + 1 ≤ k ∧ k < o + 1 + r.length
      · rw [if_pos c', if_pos (by omega), show k - o = (k - (o + 1)) + 1 by omega]; simp
      · rw [if_neg c', if_neg (by omega)]; simp [c]
theorem all_get {p : V → Bool} {l : List V} (h : l.all p = true) {i : Nat} {v : V} (hi : l[i]? = some v) : p v = true :=
  (List.all_eq_true.1 h) v (List.mem_of_getElem? hi)
theorem LR.oneCells {ρ : Rho} {cs : List V} {vs : List Value} (h : LR ρ cs (fun i => vs[i]?)) (hl : cs.length = vs.length) (hs : cs.all scalarV = true) : ∀ v ∈ vs, v.oneCell' = true := by
  intro v hv
  obtain ⟨i, hi, rfl⟩ := List.getElem_of_mem hv
  obtain ⟨cv, e1, e2⟩ := h i cs[i] (by simp [hl, hi])
  simp only [List.getElem?_eq_getElem hi, Option.some.injEq] at e1
  rw [e1]
  exact e2.oneCell (all_get hs (i := i) (by simp [hl, hi]))
theorem store_spec {C : Ctx} {ρ : Rho} {s s' : St} {w : World} (hI : Inv C ρ s w) {t : TypeId} {n : Nat} {agg : Bool} (ht : tyOf C.P t = some (n, agg)) {p v : V} {cp cv : Value}
    (hp : VR ρ p cp) (hv : VR ρ v cv) (h : store s n p v = some s') : ∃ (a : Addr) (w' : World), cp = .pointer (some a) ∧ (storeVar t a cv).run C.P w = .ok () w' ∧ Ext C ρ s w ρ s' w' := by
  cases p <;> simp only [store] at h <;> try (cases h; done)
  rename_i b i j
  split at h
  · rename_i es sz ty hb
    split at h
    · rename_i e he
      rw [nth_eq] at he
      split at h
      · rename_i hc
        simp only [Bool.and_eq_true, decide_eq_true_eq] at hc
        split at h
        · rename_i e' he'
          split at h
          · rename_i es' hes'
            cases h
            cases hp with
            | ptr hl =>
              rename_i l
              obtain ⟨h1, h2, h3, h4, arr, fr, h5, h6, h7, h8⟩ := hI.obj _ _ _ hb hl
              obtain ⟨hcl, hcr⟩ := hv.cells
              obtain ⟨_, hn, _, hsz, _⟩ := tyOf_spec ht
              have hsp := splice_some he'
              have hsp2 := splice_some hes'
              have hne : v.cells ≠ [] := by intro e; rw [e] at hc; simp at hc; omega
              have hj := hsp.2.1 hne
              have hel := (h4 e (List.mem_of_getElem? he)).1
              have hilt : i < es.length := (List.getElem?_eq_some_iff.1 he).1
              have hvs : LR ρ v.cells (fun k => cv.cells.toList[k]?) := by simpa using hcr
              have hlen : v.cells.length = cv.cells.toList.length := by simpa using hcl
              have hfit : l.base + i * l.sz + j + cv.cells.toList.length ≤ arr.size := by
                have hm : (i + 1) * l.sz ≤ l.N * l.sz := Nat.mul_le_mul_right _ (by omega)
                rw [Nat.add_mul] at hm
                rw [← hlen]
                rw [← h1] at hm ⊢
                omega
              obtain ⟨arr', g1, g2, g3, g4⟩ := setCells_heap l.c cv.cells.toList (l.base + i * l.sz + j) w arr ty fr h5 hfit
              have hone : ∀ u ∈ cv.cells.toList, u.oneCell' = true := hvs.oneCells hlen hc.2
              refine ⟨⟨l.c, l.base + i * l.sz + j, none⟩, w.setCells l.c (l.base + i * l.sz + j) cv.cells.toList, rfl, ?_, ?_⟩
              · have hst := run_storeCells_cells (P := C.P) l.c (l.base + i * l.sz + j) cv.cells.toList 0 w
                  (fun k hk => by rw [Nat.add_zero, cell_of_heap h5]; simp; omega)
                  (fun k hk => by
                    have := h7 (l.base + i * l.sz + j + k) (.inl (by omega))
                    simp only [World.frozen?, h5, Nat.add_zero]
                    simp; omega) hone
                simp only [storeVar, Sem.run_bind, hsz, Result.andThen_ok]
                rw [if_neg (by rw [← hcl]; simp [hc.1])]
                simpa using hst
              · refine ext_set hI (by rw [hb]; simp) hl g4 _ fun o' ho' => ?_
                cases ho'
                refine ⟨h1, h2, by rw [hsp2.1]; exact h3, ?_, arr', fr, g1, by rw [g2]; exact h6, by rw [g2]; exact h7, ?_⟩
                · intro x hx
                  obtain ⟨k, hk, rfl⟩ := List.getElem_of_mem hx
                  have h3' := hsp2.2.2 k
                  rw [List.getElem?_eq_getElem hk] at h3'
                  by_cases ck : i ≤ k ∧ k < i + [e'].length
                  · rw [if_pos ck] at h3'
                    have : k - i = 0 := by simp at ck; omega
                    rw [this] at h3'; simp at h3'
                    rw [h3']
                    refine ⟨by rw [hsp.1]; exact hel, ?_⟩
                    rw [List.all_eq_true]
                    intro y hy
                    obtain ⟨q, hq, rfl⟩ := List.getElem_of_mem hy
                    have h3'' := hsp.2.2 q
                    rw [List.getElem?_eq_getElem hq] at h3''
                    split at h3''
                    · exact all_get hc.2 h3''.symm
                    · exact all_get (h4 e (List.mem_of_getElem? he)).2 h3''.symm
                  · rw [if_neg ck] at h3'
                    exact h4 _ (List.mem_of_getElem? h3'.symm)
                · intro k x hx q y hy
                  have h3' := hsp2.2.2 k
                  rw [hx] at h3'
                  by_cases ck : i ≤ k ∧ k < i + [e'].length
                  · rw [if_pos ck] at h3'
                    have ek : k = i := by simp at ck; omega
                    subst ek
                    simp at h3'; subst h3'
                    have h3'' := hsp.2.2 q
                    rw [hy] at h3''
                    rw [← h1] at g3
                    simp only
                    rw [g3]
                    by_cases cq : j ≤ q ∧ q < j + v.cells.length
                    · rw [if_pos cq] at h3''
                      obtain ⟨cw, k1, k2⟩ := hvs (q - j) y h3''.symm
                      rw [if_pos (by rw [← hlen]; omega)]
                      refine ⟨cw, ?_, k2⟩
                      rw [← k1]; congr 1; omega
                    · rw [if_neg cq] at h3''
                      rw [if_neg (by rw [← hlen]; omega)]
                      exact h8 k e he q y h3''.symm
                  · rw [if_neg ck] at h3'
                    have hk := h8 k x h3'.symm q y hy
                    simp only
                    rw [g3, if_neg]
                    · exact hk
                    · have hq : q < sz := by
                        rw [← (h4 x (List.mem_of_getElem? h3'.symm)).1]; exact (List.getElem?_eq_some_iff.1 hy).1
                      rw [← hlen, ← h1]
                      rw [hel] at hj
                      simp at ck
                      intro hh
                      by_cases lt : k < i
                      · have : (k + 1) * sz ≤ i * sz := Nat.mul_le_mul_right _ (by omega)
                        rw [Nat.add_mul] at this; omega
                      · have : (i + 1) * sz ≤ k * sz := Nat.mul_le_mul_right _ (by omega)
                        rw [Nat.add_mul] at this; omega
          · cases h
        · cases h
      · cases h
    · cases h
  · cases h
end Go.Eng
end
