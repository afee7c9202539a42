/- The evaluator as the kernel runs it, and kept calls. -/
import Derived.Test.YtipedikaiaamjaaGreatDoorEngA
import Derived.Test.YtipedikaiaamjaaGreatDoorEngC
import Derived.Lib.Index
import Derived.Laws.Externs
import GoSem.ClaimJoined
import Derived.Lib.LaidTab
import Derived.ChangeArms
section
namespace Go.Eng
abbrev R := T (V × St)
noncomputable def optR {α : Type} (x : Option α) (k : α → R) : R := @Option.rec α (fun _ => R) T.fail k x
noncomputable def ifR (b : Bool) (x y : R) : R := @Bool.rec (fun _ => R) y x b
noncomputable def onBool (v : V) (x y : R) : R := @V.rec (fun _ => R) (fun _ => Unit) (fun b => @Bool.rec (fun _ => R) y x b) (fun _ _ => .fail) (fun _ => .fail) .fail (fun _ _ _ => .fail) (fun _ _ _ => .fail) .fail (fun _ _ _ _ _ => .fail) (fun _ _ _ => .fail) .fail (fun _ => .fail) (fun _ _ _ _ _ => .fail) .fail (fun _ _ _ => .fail) .fail (fun _ _ => .fail) (fun _ _ => .fail) (fun _ => .fail) () (fun _ _ _ _ => ()) v
noncomputable def onInt (v : V) (f : IntKind → Int → R) : R := @V.rec (fun _ => R) (fun _ => Unit) (fun _ => .fail) f (fun _ => .fail) .fail (fun _ _ _ => .fail) (fun _ _ _ => .fail) .fail (fun _ _ _ _ _ => .fail) (fun _ _ _ => .fail) .fail (fun _ => .fail) (fun _ _ _ _ _ => .fail) .fail (fun _ _ _ => .fail) .fail (fun _ _ => .fail) (fun _ _ => .fail) (fun _ => .fail) () (fun _ _ _ _ => ()) v
noncomputable def onStr (v : V) (f : List Nat → R) : R := @V.rec (fun _ => R) (fun _ => Unit) (fun _ => .fail) (fun _ _ => .fail) f .fail (fun _ _ _ => .fail) (fun _ _ _ => .fail) .fail (fun _ _ _ _ _ => .fail) (fun _ _ _ => .fail) .fail (fun _ => .fail) (fun _ _ _ _ _ => .fail) .fail (fun _ _ _ => .fail) .fail (fun _ _ => .fail) (fun _ _ => .fail) (fun _ => .fail) () (fun _ _ _ _ => ()) v
noncomputable def onIntStr (v : V) (f : IntKind → Int → R) (h : List Nat → R) : R := @V.rec (fun _ => R) (fun _ => Unit) (fun _ => .fail) f h .fail (fun _ _ _ => .fail) (fun _ _ _ => .fail) .fail (fun _ _ _ _ _ => .fail) (fun _ _ _ => .fail) .fail (fun _ => .fail) (fun _ _ _ _ _ => .fail) .fail (fun _ _ _ => .fail) .fail (fun _ _ => .fail) (fun _ _ => .fail) (fun _ => .fail) () (fun _ _ _ _ => ()) v
noncomputable def onTup (v : V) (f : List V → R) : R := @V.rec (fun _ => R) (fun _ => Unit) (fun _ => .fail) (fun _ _ => .fail) (fun _ => .fail) .fail (fun _ _ _ => .fail) (fun _ _ _ => .fail) .fail (fun _ _ _ _ _ => .fail) (fun _ _ _ => .fail) .fail (fun _ => .fail) (fun _ _ _ _ _ => .fail) .fail (fun _ _ _ => .fail) .fail (fun _ _ => .fail) (fun cs _ => f cs) (fun _ => .fail) () (fun _ _ _ _ => ()) v
noncomputable def onAgg (v : V) (f : List V → R) : R := @V.rec (fun _ => R) (fun _ => Unit) (fun _ => .fail) (fun _ _ => .fail) (fun _ => .fail) .fail (fun _ _ _ => .fail) (fun _ _ _ => .fail) .fail (fun _ _ _ _ _ => .fail) (fun _ _ _ => .fail) .fail (fun _ => .fail) (fun _ _ _ _ _ => .fail) .fail (fun _ _ _ => .fail) .fail (fun cs _ => f cs) (fun _ _ => .fail) (fun _ => .fail) () (fun _ _ _ _ => ()) v
noncomputable def onPtr (v : V) (f : Nm → Nat → Nat → R) (h : List V → Nat → R) : R := @V.rec (fun _ => R) (fun _ => Unit) (fun _ => .fail) (fun _ _ => .fail) (fun _ => .fail) .fail f (fun cs j _ => h cs j) .fail (fun _ _ _ _ _ => .fail) (fun _ _ _ => .fail) .fail (fun _ => .fail) (fun _ _ _ _ _ => .fail) .fail (fun _ _ _ => .fail) .fail (fun _ _ => .fail) (fun _ _ => .fail) (fun _ => .fail) () (fun _ _ _ _ => ()) v
noncomputable def onRow (v : V) (f : Nm → Nat → Nat → Nat → Bool → R) (h : List V → Bool → R) : R := @V.rec (fun _ => R) (fun _ => Unit) (fun _ => .fail) (fun _ _ => .fail) (fun _ => .fail) .fail (fun _ _ _ => .fail) (fun _ _ _ => .fail) .fail f (fun es c _ => h es c) .fail (fun _ => .fail) (fun _ _ _ _ _ => .fail) .fail (fun _ _ _ => .fail) .fail (fun _ _ => .fail) (fun _ _ => .fail) (fun _ => .fail) () (fun _ _ _ _ => ()) v
noncomputable def getT {α : Type} (p : Nm) : Tr α → Option α :=
  @Nm.rec (fun _ => Tr α → Option α) (fun t => @Tr.rec α (fun _ => Option α) none (fun _ v _ _ _ => v) t) (fun _ ih t => @Tr.rec α (fun _ => Option α) none (fun l _ _ _ _ => ih l) t) (fun _ ih t => @Tr.rec α (fun _ => Option α) none (fun _ _ r _ _ => ih r) t) p
noncomputable def Qa (p : Nm) (τ : Tr V) : V := @Option.rec V (fun _ => V) undef (fun v => v) (getT p τ)
noncomputable def setT {α : Type} (v : Option α) (p : Nm) : Tr α → (Tr α → R) → R :=
  @Nm.rec (fun _ => Tr α → (Tr α → R) → R)
    (fun t k => @Tr.rec α (fun _ => R) (k (.node .leaf v .leaf)) (fun l _ r _ _ => k (.node l v r)) t)
    (fun _ ih t k => @Tr.rec α (fun _ => R) (ih .leaf fun l => k (.node l none .leaf)) (fun l u r _ _ => ih l fun l => k (.node l u r)) t)
    (fun _ ih t k => @Tr.rec α (fun _ => R) (ih .leaf fun r => k (.node .leaf none r)) (fun l u r _ _ => ih r fun r => k (.node l u r)) t) p
noncomputable def Qb (v : V) (p : Nm) (τ : Tr V) (k : Tr V → R) : R := setT (some v) p τ k
noncomputable def succK (n : Nm) (k : Nm → R) : R := @Nm.rec (fun _ => (Nm → R) → R) (fun k => k (.o .h)) (fun p _ k => k (.i p)) (fun _ ih k => ih fun q => k (.o q)) n k
noncomputable def onSt (s : St) (f : Tr O → Nm → Nat → R) : R := @St.rec (fun _ => R) f s
noncomputable def lenD {α : Type} (l : List α) : Nat := @List.rec α (fun _ => Nat) 0 (fun _ _ ih => Nat.succ ih) l
noncomputable def nthD {α : Type} (n : Nat) : List α → Option α := @Nat.rec (fun _ => List α → Option α) (fun l => @List.rec α (fun _ => Option α) none (fun a _ _ => some a) l) (fun _ ih l => @List.rec α (fun _ => Option α) none (fun _ r _ => ih r) l) n
noncomputable def eqS (a : List Nat) : List Nat → Bool := @List.rec Nat (fun _ => List Nat → Bool) (fun b => @List.rec Nat (fun _ => Bool) true (fun _ _ _ => false) b) (fun x _ ih b => @List.rec Nat (fun _ => Bool) false (fun y r _ => @Bool.rec (fun _ => Bool) false (ih r) (Nat.beq x y)) b) a
noncomputable def i64 (v : V) (f : Nat → R) (d : R) : R := @V.rec (fun _ => R) (fun _ => Unit) (fun _ => d) (fun k n => @IntKind.rec (fun _ => R) d d d (@Int.rec (fun _ => R) f (fun _ => d) n) d d d d k) (fun _ => d) d (fun _ _ _ => d) (fun _ _ _ => d) d (fun _ _ _ _ _ => d) (fun _ _ _ => d) d (fun _ => d) (fun _ _ _ _ _ => d) d (fun _ _ _ => d) d (fun _ _ => d) (fun _ _ => d) (fun _ => d) () (fun _ _ _ _ => ()) v
noncomputable def Xh (op : BinOp) (a b : V) (k : V → R) : R := optR (bin op a b) k
noncomputable def idR (x : R) : R := x
noncomputable def lenX {α : Type} (l : List α) (k : Nat → R) : R := @List.rec α (fun _ => Nat → R) k (fun _ _ ih n => @Nat.rec (fun _ => R) .fail (fun m _ => idR (ih m)) (Nat.succ (Nat.succ n))) l 0
noncomputable def appD (a b : List Nat) : List Nat := @List.rec Nat (fun _ => List Nat) b (fun x _ ih => x :: ih) a
noncomputable def onStrD (v : V) (d : R) (f : List Nat → R) : R := @V.rec (fun _ => R) (fun _ => Unit) (fun _ => d) (fun _ _ => d) f d (fun _ _ _ => d) (fun _ _ _ => d) d (fun _ _ _ _ _ => d) (fun _ _ _ => d) d (fun _ => d) (fun _ _ _ _ _ => d) d (fun _ _ _ => d) d (fun _ _ => d) (fun _ _ => d) (fun _ => d) () (fun _ _ _ _ => ()) v
noncomputable def xaddS (a b : V) (k : V → R) : R := onStrD a (Xh .add a b k) fun x => onStr b fun y => lenX x fun n => lenX y fun m => ifR (Nat.ble (Nat.add n m) 1000000000) (k (.str (appD x y))) .fail
noncomputable def Qs (a b : V) (k : V → R) : R := i64 a (fun x => i64 b (fun y => ifR (Nat.ble (Nat.add x y) 9223372036854775807) (k (.int .i64 (.ofNat (Nat.add x y)))) (xaddS a b k)) (xaddS a b k)) (xaddS a b k)
noncomputable def xsub (a b : V) (k : V → R) : R := i64 a (fun x => i64 b (fun y => ifR (Nat.ble y x) (ifR (Nat.ble x 9223372036854775807) (k (.int .i64 (.ofNat (Nat.sub x y)))) (Xh .sub a b k)) (Xh .sub a b k)) (Xh .sub a b k)) (Xh .sub a b k)
noncomputable def Qu (a b : V) (k : V → R) : R := i64 a (fun x => i64 b (fun y => k (.bool (Nat.blt x y))) (Xh .lss a b k)) (Xh .lss a b k)
noncomputable def xleq (a b : V) (k : V → R) : R := i64 a (fun x => i64 b (fun y => k (.bool (Nat.ble x y))) (Xh .leq a b k)) (Xh .leq a b k)
noncomputable def xgtr (a b : V) (k : V → R) : R := i64 a (fun x => i64 b (fun y => k (.bool (Nat.blt y x))) (Xh .gtr a b k)) (Xh .gtr a b k)
noncomputable def xgeq (a b : V) (k : V → R) : R := i64 a (fun x => i64 b (fun y => k (.bool (Nat.ble y x))) (Xh .geq a b k)) (Xh .geq a b k)
noncomputable def Qv (a b : V) (k : V → R) : R := @V.rec (fun _ => R) (fun _ => Unit) (fun _ => Xh .eql a b k) (fun _ _ => i64 a (fun x => i64 b (fun y => k (.bool (Nat.beq x y))) (Xh .eql a b k)) (Xh .eql a b k)) (fun l => onStr b fun l' => k (.bool (eqS l l'))) .fail (fun _ _ _ => .fail) (fun _ _ _ => .fail) .fail (fun _ _ _ _ _ => .fail) (fun _ _ _ => .fail) .fail (fun _ => .fail) (fun _ _ _ _ _ => .fail) .fail (fun _ _ _ => .fail) .fail (fun _ _ => .fail) (fun _ _ => .fail) (fun _ => .fail) () (fun _ _ _ _ => ()) a
noncomputable def xbin (op : BinOp) (a b : V) (k : V → R) : R := match op with
  | .add => Qs a b k
  | .sub => xsub a b k
  | .lss => Qu a b k
  | .leq => xleq a b k
  | .gtr => xgtr a b k
  | .geq => xgeq a b k
  | .eql => Qv a b k
  | op => Xh op a b k
noncomputable def onNat (n : Int) (f : Nat → R) : R := @Int.rec (fun _ => R) f (fun _ => .fail) n
noncomputable def Qp (sz : Nat) (x i : V) (k : V → R) : R := onInt i fun _ i => onNat i fun i => onRow x (fun b sz' off len _ => ifR (Nat.blt i len) (ifR (Nat.beq sz sz') (k (.ptr b (Nat.add off i) 0)) .fail) .fail) (fun es _ => optR (nthD i es) fun v => ifR (Nat.beq (lenD v.cells) sz) (k (.rp v.cells 0)) .fail)
noncomputable def xmin2 (a b : V) (k : V → R) : R := i64 a (fun x => i64 b (fun y => ifR (Nat.ble x y) (k a) (k b)) .fail) .fail
noncomputable def newK (s : St) (o : O) (k : Nm → St → R) : R := onSt s fun h n d => setT (some o) n h fun h => succK n fun n' => k n ⟨h, n', d⟩
noncomputable def Qx (o : O) (s : St) (k : V → St → R) : R := newK s o fun b s => k (.ptr b 0 0) s
noncomputable def Xj (n : Nat) (ty : TypeId) (v : V) (s : St) (k : V → St → R) : R := ifR (notTup v) (ifR (Nat.beq (lenD v.cells) n) (newK s (.row [v.cells] n ty) fun b s => k (.ptr b 0 0) s) .fail) .fail
noncomputable def Xl (x i : V) (k : V → R) : R := onStr x fun l => onInt i fun _ n => onNat n fun n => optR (nthD n l) fun c => k (.int .u8 (.ofNat c))
noncomputable def Qt (x : V) (k : V → R) : R := optR (lenL x) k
noncomputable def Xm (x : V) (lo hi : Option V) (k : V → R) : R := onStr x fun l => optR (bounds (lenD l) true lo hi none) fun r => optR (window r.1 (r.2.1 - r.1) l) fun l => k (.str l)
noncomputable def Xi (x : V) (k : V → R) : R := onBool x (k (.bool false)) (k (.bool true))
noncomputable def Qn (x : V) (k : V → R) : R := optR (match x with
    | .ptr b i j => some (V.ptr b i j)
    | .rp cs j => some (.rp cs j)
    | .iface t v => some (.iface t v)
    | .clo (.func f) a b => some (.clo (.func f) a b)
    | _ => none) k
noncomputable def xmkSlice (sz : Nat) (ty : TypeId) (z : List V) (l c : V) (s : St) (k : V → St → R) : R := onInt l fun _ l => onNat l fun l => onInt c fun _ c => onNat c fun c => ifR (Nat.ble l c) (ifR (Nat.ble c 1000000) (newK s (.row (rep l z) sz ty) fun b s => k (.row b sz 0 l (Nat.beq l c)) s) .fail) .fail
noncomputable def xstoreH (n : Nat) (p v : V) (s : St) (k : St → R) : R := onPtr p (fun b i j => onSt s fun H m d => optR (getT b H) fun o => @O.rec (fun _ => R) (fun es sz ty => optR (nthD i es) fun cs => ifR (Nat.beq (lenD v.cells) n) (ifR (v.cells.all scalarV) (optR (splice v.cells j cs) fun cs => optR (splice [cs] i es) fun es => setT (some (.row es sz ty)) b H fun H => k ⟨H, m, d⟩) .fail) .fail) (fun _ _ => .fail) (fun _ _ => .fail) (fun _ _ _ _ => .fail) (fun _ _ _ _ _ _ => .fail) o) (fun _ _ => .fail)
noncomputable def Qk (n : Nat) (g : Bool) (p : V) (s : St) (k : V → R) : R :=
  onPtr p (fun b i j => onSt s fun H _ _ => optR (getT b H) fun o => @O.rec (fun _ => R) (fun es _ _ => optR (nthD i es) fun cs => optR (window j n cs) fun cs => optR (pack g cs) k) (fun _ _ => .fail) (fun _ _ => .fail) (fun _ _ _ _ => .fail) (fun _ _ _ _ _ _ => .fail) o)
    (fun cs j => optR (window j n cs) fun cs => optR (pack g cs) k)
noncomputable def Qr (n : Nat) (p v : V) (s : St) (k : St → R) : R := xstoreH n p v s k
noncomputable def xlenS (v : V) (k : V → R) : R := onStr v fun l => lenX l fun n => k (.int .i64 (.ofNat n))
noncomputable def Qo (v : V) (i : Nat) (k : V → R) : R := onTup v fun vs => optR (nthD i vs) k
noncomputable def Qw (c a b : V) (k : V → R) : R := onBool c (k a) (k b)
noncomputable def Qm (o : Nat) (p : V) (k : V → R) : R := onPtr p (fun b i j => k (.ptr b i (j + o))) (fun cs j => k (.rp cs (j + o)))
noncomputable def xgen (E : Env) (o : AOp) (s : St) (k : V → St → R) : R := optR (exec (fun _ => 0) E.branch E.ks E.hasMethods .leaf s o) fun r => k r.1 r.2
noncomputable def Xg (E : Env) (o : AOp) (s : St) (k : V → R) : R := optR (exec (fun _ => 0) E.branch E.ks E.hasMethods .leaf s o) fun r => k r.1
noncomputable def onBoolD (v : V) (x y d : R) : R := @V.rec (fun _ => R) (fun _ => Unit) (fun b => @Bool.rec (fun _ => R) y x b) (fun _ _ => d) (fun _ => d) d (fun _ _ _ => d) (fun _ _ _ => d) d (fun _ _ _ _ _ => d) (fun _ _ _ => d) d (fun _ => d) (fun _ _ _ _ _ => d) d (fun _ _ _ => d) d (fun _ _ => d) (fun _ _ => d) (fun _ => d) () (fun _ _ _ _ => ()) v
noncomputable def xwant (g : V) (b : Bool) (x y : R) : R := onBoolD g (ifR b x y) (ifR b y x) y
noncomputable def Ql (g : V) (b : Bool) (x : (V → St → R) → R) (s : St) (J : V → St → R) : R := xwant g b (x J) (J undef s)
def eqBo (a b : Bool) : Bool := match a with | true => b | false => !b
noncomputable def eqN (p : Nm) : Nm → Bool := @Nm.rec (fun _ => Nm → Bool) (fun q => @Nm.rec (fun _ => Bool) true (fun _ _ => false) (fun _ _ => false) q) (fun _ ih q => @Nm.rec (fun _ => Bool) false (fun r _ => ih r) (fun _ _ => false) q) (fun _ ih q => @Nm.rec (fun _ => Bool) false (fun _ _ => false) (fun r _ => ih r) q) p
noncomputable def eqF (v u : V) : Bool := match v with
  | .ptr b i j => match u with
    | .ptr b' i' j' => eqN b b' && (Nat.beq i i' && Nat.beq j j')
    | _ => false
  | .str a => match u with
    | .str b => eqS a b
    | _ => false
  | .bool a => match u with
    | .bool b => eqBo a b
    | _ => false
  | .row b x y z c => match u with
    | .row b' x' y' z' c' => eqN b b' && (Nat.beq x x' && (Nat.beq y y' && (Nat.beq z z' && eqBo c c')))
    | _ => false
  | .map b => match u with
    | .map b' => eqN b b'
    | _ => false
  | v => eqbV v u
noncomputable def Qq (v u : V) (x : R) : R := ifR (eqF v u) x .fail
noncomputable def eqPtrF (H : Tr O) (x y : V) : Option Bool := match x with
  | .ptr b i j => match y with
    | .ptr b' i' j' => match eqN b b' with
      | true => match getT b H with
        | some (.row _ sz _) => some (Nat.beq (i * sz + j) (i' * sz + j'))
        | _ => none
      | false => match getT b H with
        | some (.row (_ :: _) sz _) => match getT b' H with
          | some (.row (_ :: _) sz' _) => if Nat.beq sz 1 && Nat.beq sz' 1 then none else some false
          | _ => none
        | _ => none
    | y => eqPtr H (.ptr b i j) y
  | x => eqPtr H x y
noncomputable def eqQ (H : Tr O) (ks : TypeId → Option Ks) (k : Ks) (x y : V) : Option Bool := match k with
  | .str => match x with
    | .str a => match y with
      | .str b => some (eqS a b)
      | _ => none
    | _ => none
  | .ptr => eqPtrF H x y
  | k => eqV H ks 50 k x y
noncomputable def findQ (H : Tr O) (ks : TypeId → Option Ks) (k : Ks) (key : V) (es : List (V × V × Nat)) : Nat → Option (Option (Nat × V × Nat)) :=
  @List.rec (V × V × Nat) (fun _ => Nat → Option (Option (Nat × V × Nat))) (fun _ => some none) (fun e _ ih i => match eqQ H ks k key e.1 with
    | some true => some (some (i, e.2.1, e.2.2))
    | some false => ih (i + 1)
    | none => none) es
noncomputable def findKeyQ (H : Tr O) (ks : TypeId → Option Ks) (k : Ks) (key : V) (es : List (V × V × Nat)) : Option (Option (Nat × V × Nat)) :=
  match keyOk ks k key with
  | true => findQ H ks k key es 0
  | false => none
noncomputable def lookupQ (H : Tr O) (ks : TypeId → Option Ks) (k : Ks) (m key : V) : Option (Option V) :=
  match m with
  | .nilm => match keyOk ks k key with
    | true => some none
    | false => none
  | .map b => match getT b H with
    | some (.map es _) => match findKeyQ H ks k key es with
      | some r => some (r.map fun p => p.2.1)
      | none => none
    | _ => none
  | _ => none
noncomputable def mapUpdateQ (ks : TypeId → Option Ks) (s : St) (k : Ks) (m key v : V) : Option St :=
  match m with
  | .map b => match getT b s.heap with
    | some (.map es clock) => match findKeyQ s.heap ks k key es with
      | some (some (i, _, born)) => some { s with heap := s.heap.set (some (.map (setNth i (key, v, born) es) clock)) b }
      | some none => some { s with heap := s.heap.set (some (.map (snoc es (key, v, clock)) (clock + 1))) b }
      | none => none
    | _ => none
  | _ => none
structure Ca where
  f : Nm → List V → St → (V → St → R) → R
  r : Nm → List V → St → (V → St → R) → R
  b : Nm → List V → St → (V → St → R) → R
noncomputable def Xo (E : Env) (call : Ca) (r : V) (m : String) (vs : List V) (s : St) (k : V → St → R) : R := match r with
  | .iface t v => match E.methods t m with
    | some (f, n, agg) => match n with
      | 0 => call.f f (v :: vs) s k
      | n + 1 => optR (load s.heap (n + 1) agg v) fun r => call.f f (r :: vs) s k
    | none => .fail
  | _ => .fail
noncomputable def Xn (E : Env) (call : Ca) (f : V) (vs : List V) (s : St) (k : V → St → R) : R := match f with
  | .clo (.func g) first cap => call.f (nm g) (first ++ vs ++ cap) s k
  | .clo (.yield _) [.it b] [] => call.r b vs s k
  | .clo (.method m) [r] [] => Xo E call r m vs s k
  | _ => .fail
def choices (s : St) (x : V) : Nat := match x with
  | .it b => match s.heap.get b with
    | some (.mIter m since seen _) => match m with
      | none => 0
      | some m => match s.heap.get m with
        | some (.map es _) => (cands es since seen).length
        | _ => 0
    | _ => 0
  | _ => 0
noncomputable def Xp (E : Env) (x : V) (s : St) (k : V → St → R) : R := ifR (Nat.ble (choices s x) 1) (optR (exec (fun _ => 0) E.branch E.ks E.hasMethods .leaf s (.nextMap (.c x))) fun r => k r.1 r.2)
  (.ask fun n => optR (exec (fun _ => n) E.branch E.ks E.hasMethods .leaf s (.nextMap (.c x))) fun r => k r.1 r.2)
noncomputable def allN (f : Nat → Bool) (n : Nat) : Bool := @Nat.rec (fun _ => Bool) true (fun n ih => @Bool.rec (fun _ => Bool) false ih (f n)) n
noncomputable def allB (br : Nat) (q : V × St → Bool) (t : R) : Bool := @T.rec (V × St) (fun _ => Bool) q (fun _ ih => allN ih (Nat.succ (Nat.pred br))) false (fun c _ _ ih ih' => @Bool.rec (fun _ => Bool) ih' ih c) t
def Ar.sub (env : Ar → V) (x : Ar) : Ar := .c (env x)
def AOp.subst (env : Ar → V) : AOp → AOp
  | .build z ps => .build z (ps.map fun p => (p.1, p.2.1, Ar.c (env p.2.2)))
  | .buildSlice sz t z n ps => .buildSlice sz t z n (ps.map fun p => (p.1, Ar.c (env p.2)))
  | .eq n k x y => .eq n k (.c (env x)) (.c (env y))
  | .isNil k n x => .isNil k n (.c (env x))
  | .un o x => .un o (.c (env x))
  | .conv k x => .conv k (.c (env x))
  | .mkIface t x => .mkIface t (.c (env x))
  | .mkFunc f a b => .mkFunc f (a.map fun x => Ar.c (env x)) (b.map fun x => Ar.c (env x))
  | .mkMap => .mkMap
  | .slice k x lo hi mx => .slice k (.c (env x)) (lo.map fun x => Ar.c (env x)) (hi.map fun x => Ar.c (env x)) (mx.map fun x => Ar.c (env x))
  | .field o n a x => .field o n a (.c (env x))
  | .indexAddr sz a x i => .indexAddr sz a (.c (env x)) (.c (env i))
  | .indexArr n sz a x i => .indexArr n sz a (.c (env x)) (.c (env i))
  | .lookup k z x i ok => .lookup k z (.c (env x)) (.c (env i)) ok
  | .mapUpdate k m x v => .mapUpdate k (.c (env m)) (.c (env x)) (.c (env v))
  | .mapEntry k z m x => .mapEntry k z (.c (env m)) (.c (env x))
  | .mapDelete k m x => .mapDelete k (.c (env m)) (.c (env x))
  | .entryStore m x v => .entryStore (.c (env m)) (.c (env x)) (.c (env v))
  | .rangeStr x => .rangeStr (.c (env x))
  | .rangeMap x => .rangeMap (.c (env x))
  | .nextStr x => .nextStr (.c (env x))
  | .entry x => .entry (.c (env x))
  | .assertT t z ok x => .assertT t z ok (.c (env x))
  | .assertI ms ok x => .assertI ms ok (.c (env x))
  | .lenM x => .lenM (.c (env x))
  | .cap x => .cap (.c (env x))
  | .append sz t x y => .append sz t (.c (env x)) (.c (env y))
  | .appendZ sz t z x n => .appendZ sz t z (.c (env x)) (.c (env n))
  | .uData x => .uData (.c (env x))
  | .uStr t x n => .uStr t (.c (env x)) (.c (env n))
  | .max2 x y => .max2 (.c (env x)) (.c (env y))
  | _ => .bad "subst"
noncomputable def Xf (sz : Nat) (t : TypeId) (x y : V) (s : St) (k : V → St → R) : R := optR (append s sz t x (elems s.heap y)) fun r => k r.1 r.2
noncomputable def Qz (sz : Nat) (t : TypeId) (z : List V) (n : Nat) (ps : List (Nat × V)) (s : St) (k : V → St → R) : R := optR (fillElems ps sz (rep n z)) fun es => newK s (.row es sz t) fun b s => k (.row b sz 0 n true) s
def assertF (t : TypeId) (z : V) (ok : Bool) (x : V) : Option V := match x with
  | .iface u v => if Nat.beq t u then some (if ok then .tup [v, .bool true] else v) else if ok then some (.tup [z, .bool false]) else none
  | .nili => if ok then some (.tup [z, .bool false]) else none
  | _ => none
noncomputable def Xe (t : TypeId) (z : V) (ok : Bool) (x : V) (k : V → R) : R := optR (assertF t z ok x) k
def lookF (ok : Bool) (z : V) (r : Option V) : V := if ok then .tup [r.getD z, .bool r.isSome] else r.getD z
noncomputable def Xa (E : Env) (ks : Ks) (z x i : V) (ok : Bool) (s : St) (k : V → R) : R := optR (lookupQ s.heap E.ks ks x i) fun r => k (lookF ok z r)
noncomputable def Xk (E : Env) (ks : Ks) (m x v : V) (s : St) (k : St → R) : R := optR (mapUpdateQ E.ks s ks m x v) k
noncomputable def xeq (E : Env) (neg : Bool) (ks : Ks) (x y : V) (s : St) (k : V → R) : R := optR (eqQ s.heap E.ks ks x y) fun b => k (.bool (xor neg b))
noncomputable def Xb (kd : Nk) (neg : Bool) (x : V) (k : V → R) : R := optR (nilV kd x) fun b => k (.bool (xor neg b))
noncomputable def Xc (t : TypeId) (x : V) (k : V → R) : R := k (.iface t x)
noncomputable def Xd (f : Fn) (a b : List V) (k : V → R) : R := k (.clo f a b)
noncomputable def Qy (z : List V) (ps : List (Nat × Nat × V)) (k : V → R) : R := optR (fillParts ps z) fun cs => k (.agg cs)
noncomputable def xop (E : Env) (call : Ca) (env : Ar → V) (s : St) (o : AOp) (k : V → St → R) : R := match o with
  | .mv x => k (env x) s
  | .pick c a b => Qw (env c) (env a) (env b) fun v => k v s
  | .alloc z t => Qx (.row [z] z.length t) s k
  | .box n t x => Xj n t (env x) s k
  | .load n g x => Qk n g (env x) s fun v => k v s
  | .store n x y => Qr n (env x) (env y) s fun s => k undef s
  | .nilCheck x => Qn (env x) fun v => k v s
  | .bin op x y => xbin op (env x) (env y) fun v => k v s
  | .un .not x => Xi (env x) fun v => k v s
  | .mkSlice sz t z l c => xmkSlice sz t z (env l) (env c) s k
  | .slice .str x lo hi none => Xm (env x) (lo.map env) (hi.map env) fun v => k v s
  | .fieldAddr o x => Qm o (env x) fun v => k v s
  | .indexAddr sz none x i => Qp sz (env x) (env i) fun v => k v s
  | .indexStr x i => Xl (env x) (env i) fun v => k v s
  | .extract x i => Qo (env x) i fun v => k v s
  | .lenS x => xlenS (env x) fun v => k v s
  | .lenL x => Qt (env x) fun v => k v s
  | .min2 x y => xmin2 (env x) (env y) fun v => k v s
  | .nextMap x => Xp E (env x) s k
  | .call f as => match f with
    | .fn f => call.f f (as.map env) s k
    | .val f => Xn E call (env f) (as.map env) s k
    | .invoke r m => Xo E call (env r) m (as.map env) s k
  | .append sz t x y => Xf sz t (env x) (env y) s k
  | .buildSlice sz t z n ps => Qz sz t z n (ps.map fun p => (p.1, env p.2)) s k
  | .assertT t z ok x => Xe t z ok (env x) fun v => k v s
  | .lookup ks z x i ok => Xa E ks z (env x) (env i) ok s fun v => k v s
  | .isNil kd neg x => Xb kd neg (env x) fun v => k v s
  | .mapUpdate ks m x v => Xk E ks (env m) (env x) (env v) s fun s => k undef s
  | .eq n ks x y => xeq E n ks (env x) (env y) s fun v => k v s
  | .mkIface t x => Xc t (env x) fun v => k v s
  | .mkFunc f a b => Xd f (a.map env) (b.map env) fun v => k v s
  | .build z ps => Qy z (ps.map fun p => (p.1, p.2.1, env p.2.2)) fun v => k v s
  | o => match lightOp o with
    | true => Xg E (o.subst env) s fun v => k v s
    | false => xgen E (o.subst env) s k
abbrev Locs := List (Nm × V)
noncomputable def lookN (p : Nm) (τ : Tr V) : Locs → V
  | [] => Qa p τ
  | (q, v) :: l => match p.eqb q with
    | true => v
    | false => lookN p τ l
noncomputable def look (loc : Locs) (τ : Tr V) : Ar → V
  | .t p => lookN p τ loc
  | .c v => v
noncomputable def guardL (E : Env) (call : Ca) (loc : Locs) (τ : Tr V) (s : St) (o : AOper) (J : V → St → R) : R := match o.guard with
  | none => xop E call (look loc τ) s o.op J
  | some (p, b) => Ql (lookN p τ loc) b (fun J => xop E call (look loc τ) s o.op J) s J
abbrev Live := Option (List Nm)
def Live.has (l : Live) (p : Nm) : Bool := match l with
  | none => true
  | some l => l.any fun q => q.eqb p
noncomputable def bindL (l : Live) (d : Option Nm) (v : V) (loc : Locs) (τ : Tr V) (k : Locs → Tr V → R) : R := match d with
  | none => k loc τ
  | some p => match l.has p with
    | true => Qb v p τ fun τ => k ((p, v) :: loc) τ
    | false => k ((p, v) :: loc) τ
noncomputable def opersL (E : Env) (l : Live) (call : Ca) (kn : Tr V → St → R) : List AOper → Locs → Tr V → St → R
  | [], _, τ, s => kn τ s
  | o :: os, loc, τ, s => guardL E call loc τ s o fun v s => bindL l o.dst v loc τ fun loc τ => opersL E l call kn os loc τ s
noncomputable def checksL (E : Env) (call : Ca) (loc : Locs) (τ : Tr V) (s : St) (r : R) : List AOper → R
  | [] => r
  | o :: os => guardL E call loc τ s o fun v _ => match o.dst with
    | some p => Qq v (lookN p τ loc) (checksL E call loc τ s r os)
    | none => checksL E call loc τ s r os
noncomputable def drunL (E : Env) (l : Live) (call : Ca) (kn : Tr V → St → R) : List DStep → Locs → Tr V → St → R
  | [], _, τ, s => kn τ s
  | d :: ds, loc, τ, s => guardL E call loc τ s d.op fun v s => bindL l d.op.dst v loc τ fun loc τ => checksL E call loc τ s (drunL E l call kn ds loc τ s) d.checks
abbrev KN := Tr V → St → R
abbrev KX := Ex → Tr V → St → R
abbrev KC := Ca → Nat → Tr V → St → KN → KX → R
abbrev KR := Ca → Tr V → St → KN → R
abbrev KF := Ca → Nat → List V → St → (V → St → R) → R
noncomputable def Qg : KC := fun _ _ τ s kn _ => kn τ s
noncomputable def Qd (r : KR) : KC := fun call _ τ s kn _ => r call τ s kn
noncomputable def Qc (a b : KC) : KC := fun call m τ s kn kx => a call m τ s (fun τ s => b call m τ s kn kx) kx
noncomputable def Qe (c : Tr V → V) (a b : KC) : KC := fun call m τ s kn kx => onBool (c τ) (a call m τ s kn kx) (b call m τ s kn kx)
noncomputable def Qh (id : Nat) (c : KC) : KC := fun call m τ s kn kx => c call m τ s kn fun e τ s => @Ex.rec (fun _ => R) (kx .normal τ s) (kx .ret τ s) (fun i => ifR (Nat.beq i id) (kn τ s) (kx (.exit i) τ s)) e
noncomputable def Qi (c : KC) : KC := fun call m τ s _ kx => @Nat.rec (fun _ => Tr V → St → R) (fun _ _ => .fail) (fun _ ih τ s => c call m τ s ih kx) m τ s
noncomputable def Qj (id : Nat) : KC := fun _ _ τ s _ kx => kx (.exit id) τ s
noncomputable def Qf : KC := fun _ _ τ s _ kx => kx .ret τ s
noncomputable def kbad : KC := fun _ _ _ _ _ _ => .fail
noncomputable def kendLoop (b : Nm) (τ : Tr V) (s : St) (kn : KN) (kx : KX) : R := match s.heap.get b with
  | some (.loop _ _ _ _ st pend) => match st with
    | 0 => match pend with
      | none => kn τ { s with heap := s.heap.set none b }
      | some _ => .fail
    | 1 => match pend with
      | some .ret => kx .ret τ { s with heap := s.heap.set none b }
      | some (.exit i) => kx (.exit i) τ { s with heap := s.heap.set none b }
      | _ => .fail
    | _ => .fail
  | _ => .fail
noncomputable def Xq (f : Tr V → V) (ps : List Nm) (assign body : ACode) : KC := fun call _ τ s kn kx => match f τ with
  | .clo (.func g) first cap => newK s (.loop τ ps assign body 0 none) fun b s => call.b (nm g) (first ++ [.clo (.yield 0) [.it b] []] ++ cap) s fun _ s => kendLoop b τ s kn kx
  | _ => .fail
noncomputable def kcode (E : Env) (l : Live) : ACode → KC
  | .skip => Qg
  | .region ops => Qd fun call τ s kn => opersL E l call kn ops [] τ s
  | .draw ds => Qd fun call τ s kn => drunL E l call kn ds [] τ s
  | .seq a b => Qc (kcode E l a) (kcode E l b)
  | .cond c a b => Qe (fun τ => look [] τ c) (kcode E l a) (kcode E l b)
  | .block id c => Qh id (kcode E l c)
  | .loop c => Qi (kcode E l c)
  | .rangeFunc f ps a b => Xq (fun τ => look [] τ f) ps a b
  | .exit i => Qj i
  | .ret => Qf
  | .bad _ => kbad
noncomputable def resultsL (τ : Tr V) (s : St) : List ARes → List V → (List V → R) → R
  | [], acc, k => k acc.reverse
  | .tmp t :: r, acc, k => resultsL τ s r (Qa t τ :: acc) k
  | .cell a n g :: r, acc, k => Qk n g (Qa a τ) s fun v => resultsL τ s r (v :: acc) k
noncomputable def kinit (vs : List V) : Nm → Tr V → (Tr V → R) → R :=
  @List.rec V (fun _ => Nm → Tr V → (Tr V → R) → R) (fun _ τ k => k τ) (fun v _ ih n τ k => setT (some v) n τ fun τ => succK n fun n => ih n τ k) vs
noncomputable def kfn (body : KC) (res : Tr V → St → (V → St → R) → R) : KF := fun call m vs s k =>
  kinit vs .h .leaf fun τ => body call m τ s (fun τ s => res τ s k) fun e τ s => @Ex.rec (fun _ => R) .fail (res τ s k) (fun _ => .fail) e
def okLooks (l : Live) (defs : List Nm) (o : AOper) : Bool := o.looks.all fun p => l.has p || defs.any fun q => q.eqb p
def addDst (d : Option Nm) (defs : List Nm) : List Nm := match d with
  | some p => p :: defs
  | none => defs
def okOpers (l : Live) : List Nm → List AOper → Bool
  | _, [] => true
  | defs, o :: os => okLooks l defs o && okOpers l (addDst o.dst defs) os
def okSteps (l : Live) : List Nm → List DStep → Bool
  | _, [] => true
  | defs, d :: ds => okLooks l defs d.op && (d.checks.all fun o => okLooks l (addDst d.op.dst defs) o && lightOp o.op && (match o.dst with
      | some p => (addDst d.op.dst defs).any fun q => q.eqb p
      | none => true)) && (match d.kind with
      | .light => lightOp d.op.op
      | .fresh => freshOp d.op
      | .heavy => true) && okSteps l (addDst d.op.dst defs) ds
def okArg (l : Live) (x : Ar) : Bool := x.name.all l.has
def okCode (l : Live) : ACode → Bool
  | .region ops => okOpers l [] ops
  | .draw ds => okSteps l [] ds
  | .seq a b => okCode l a && okCode l b
  | .cond c a b => okArg l c && okCode l a && okCode l b
  | .block _ c | .loop c => okCode l c
  | .rangeFunc _ _ a b => l.isNone && okCode none a && okCode none b
  | _ => true
def okRes (l : Live) (rs : List ARes) : Bool := rs.all fun r => match r with
  | .tmp t => l.has t
  | .cell a _ _ => l.has a
noncomputable def kfun (E : Env) (l : Live) (fn : AFn) : Option KF :=
  match okCode l fn.body && okRes l fn.results with
  | true => some (kfn (kcode E l fn.body) fun τ s k => resultsL τ s fn.results [] fun vs => k (resultV vs) s)
  | false => none
noncomputable def kendRound (b : Nm) (e : Ex) (s : St) (k : V → St → R) : R := match s.heap.get b with
  | some (.loop τ ps assign body 2 none) => match e with
    | .normal => k (.bool true) { s with heap := s.heap.set (some (.loop τ ps assign body 0 none)) b }
    | e => k (.bool false) { s with heap := s.heap.set (some (.loop τ ps assign body 1 (some e))) b }
  | _ => .fail
noncomputable def kround (E : Env) (call : Ca) (m : Nat) (b : Nm) (args : List V) (s : St) (k : V → St → R) : R :=
  match s.heap.get b with
  | some (.loop τ ps assign code 0 none) => match setParams ps args τ with
    | some τ₁ => match okCode none assign && okCode none code with
      | true => kcode E none assign call m τ₁ s (fun τ₁ s => match s.heap.get b with
        | some (.loop τ ps assign body 0 none) => kcode E none code call m τ₁ { s with heap := s.heap.set (some (.loop τ ps assign body 2 none)) b } (fun _ s => kendRound b .normal s k) (fun e _ s => kendRound b e s k)
        | _ => .fail) (fun _ _ _ => .fail)
      | false => .fail
    | none => .fail
  | _ => .fail
structure ArB where
  g : Tr V → V
noncomputable def arB (x : Ar) : ArB := match x with
  | .t p => ⟨fun τ => Qa p τ⟩
  | .c v => ⟨fun _ => v⟩
noncomputable def evB (τ : Tr V) (x : Ar) : V := (arB x).g τ
structure OpB where
  f : Ca → Tr V → St → (V → St → R) → R
noncomputable def opB (E : Env) (o : AOp) : OpB := match o with
  | .mv x => ⟨fun _ τ s k => k (evB τ x) s⟩
  | .pick c a b => ⟨fun _ τ s k => Qw (evB τ c) (evB τ a) (evB τ b) fun v => k v s⟩
  | .alloc z t => ⟨fun _ _ s k => Qx (.row [z] z.length t) s k⟩
  | .box n t x => ⟨fun _ τ s k => Xj n t (evB τ x) s k⟩
  | .load n g x => ⟨fun _ τ s k => Qk n g (evB τ x) s fun v => k v s⟩
  | .store n x y => ⟨fun _ τ s k => Qr n (evB τ x) (evB τ y) s fun s => k undef s⟩
  | .nilCheck x => ⟨fun _ τ s k => Qn (evB τ x) fun v => k v s⟩
  | .bin op x y => ⟨fun _ τ s k => xbin op (evB τ x) (evB τ y) fun v => k v s⟩
  | .un .not x => ⟨fun _ τ s k => Xi (evB τ x) fun v => k v s⟩
  | .mkSlice sz t z l c => ⟨fun _ τ s k => xmkSlice sz t z (evB τ l) (evB τ c) s k⟩
  | .slice .str x lo hi none => ⟨fun _ τ s k => Xm (evB τ x) (lo.map (evB τ)) (hi.map (evB τ)) fun v => k v s⟩
  | .fieldAddr o x => ⟨fun _ τ s k => Qm o (evB τ x) fun v => k v s⟩
  | .indexAddr sz none x i => ⟨fun _ τ s k => Qp sz (evB τ x) (evB τ i) fun v => k v s⟩
  | .indexStr x i => ⟨fun _ τ s k => Xl (evB τ x) (evB τ i) fun v => k v s⟩
  | .extract x i => ⟨fun _ τ s k => Qo (evB τ x) i fun v => k v s⟩
  | .lenS x => ⟨fun _ τ s k => xlenS (evB τ x) fun v => k v s⟩
  | .lenL x => ⟨fun _ τ s k => Qt (evB τ x) fun v => k v s⟩
  | .min2 x y => ⟨fun _ τ s k => xmin2 (evB τ x) (evB τ y) fun v => k v s⟩
  | .nextMap x => ⟨fun _ τ s k => Xp E (evB τ x) s k⟩
  | .call f as => match f with
    | .fn f => ⟨fun call τ s k => call.f f (as.map (evB τ)) s k⟩
    | .val f => ⟨fun call τ s k => Xn E call (evB τ f) (as.map (evB τ)) s k⟩
    | .invoke r m => ⟨fun call τ s k => Xo E call (evB τ r) m (as.map (evB τ)) s k⟩
  | .append sz t x y => ⟨fun _ τ s k => Xf sz t (evB τ x) (evB τ y) s k⟩
  | .buildSlice sz t z n ps => ⟨fun _ τ s k => Qz sz t z n (ps.map fun p => (p.1, evB τ p.2)) s k⟩
  | .assertT t z ok x => ⟨fun _ τ s k => Xe t z ok (evB τ x) fun v => k v s⟩
  | .lookup ks z x i ok => ⟨fun _ τ s k => Xa E ks z (evB τ x) (evB τ i) ok s fun v => k v s⟩
  | .isNil kd neg x => ⟨fun _ τ s k => Xb kd neg (evB τ x) fun v => k v s⟩
  | .mapUpdate ks m x v => ⟨fun _ τ s k => Xk E ks (evB τ m) (evB τ x) (evB τ v) s fun s => k undef s⟩
  | .eq n ks x y => ⟨fun _ τ s k => xeq E n ks (evB τ x) (evB τ y) s fun v => k v s⟩
  | .mkIface t x => ⟨fun _ τ s k => Xc t (evB τ x) fun v => k v s⟩
  | .mkFunc f a b => ⟨fun _ τ s k => Xd f (a.map (evB τ)) (b.map (evB τ)) fun v => k v s⟩
  | .build z ps => ⟨fun _ τ s k => Qy z (ps.map fun p => (p.1, p.2.1, evB τ p.2.2)) fun v => k v s⟩
  | o => match lightOp o with
    | true => ⟨fun _ τ s k => Xg E (o.subst (evB τ)) s fun v => k v s⟩
    | false => ⟨fun _ τ s k => xgen E (o.subst (evB τ)) s k⟩
noncomputable def guardB (E : Env) (o : AOper) : OpB := match o.guard with
  | none => opB E o.op
  | some (p, b) => ⟨fun call τ s J => Ql (Qa p τ) b (fun J => (opB E o.op).f call τ s J) s J⟩
structure RgB where
  f : Ca → (Tr V → St → R) → Tr V → St → R
noncomputable def opersB (E : Env) : List AOper → RgB
  | [] => ⟨fun _ kn τ s => kn τ s⟩
  | o :: os => match o.dst with
    | some p => ⟨fun call kn τ s => (guardB E o).f call τ s fun v s => Qb v p τ fun τ => (opersB E os).f call kn τ s⟩
    | none => ⟨fun call kn τ s => (guardB E o).f call τ s fun _ s => (opersB E os).f call kn τ s⟩
structure ChB where
  f : Ca → Tr V → St → R → R
noncomputable def checksB (E : Env) : List AOper → ChB
  | [] => ⟨fun _ _ _ r => r⟩
  | o :: os => match o.dst with
    | some p => ⟨fun call τ s r => (guardB E o).f call τ s fun v _ => Qq v (Qa p τ) ((checksB E os).f call τ s r)⟩
    | none => ⟨fun call τ s r => (guardB E o).f call τ s fun _ _ => (checksB E os).f call τ s r⟩
noncomputable def drunB (E : Env) : List DStep → RgB
  | [] => ⟨fun _ kn τ s => kn τ s⟩
  | d :: ds => match d.op.dst with
    | some p => ⟨fun call kn τ s => (guardB E d.op).f call τ s fun v s => Qb v p τ fun τ => (checksB E d.checks).f call τ s ((drunB E ds).f call kn τ s)⟩
    | none => ⟨fun call kn τ s => (guardB E d.op).f call τ s fun _ s => (checksB E d.checks).f call τ s ((drunB E ds).f call kn τ s)⟩
structure CoB where
  c : KC
noncomputable def kcodeB (E : Env) : ACode → CoB
  | .skip => ⟨Qg⟩
  | .region ops => ⟨fun call _ τ s kn _ => (opersB E ops).f call kn τ s⟩
  | .draw ds => ⟨fun call _ τ s kn _ => (drunB E ds).f call kn τ s⟩
  | .seq a b => ⟨fun call m τ s kn kx => (kcodeB E a).c call m τ s (fun τ s => (kcodeB E b).c call m τ s kn kx) kx⟩
  | .cond c a b => ⟨fun call m τ s kn kx => onBool (evB τ c) ((kcodeB E a).c call m τ s kn kx) ((kcodeB E b).c call m τ s kn kx)⟩
  | .block id c => ⟨fun call m τ s kn kx => Qh id (kcodeB E c).c call m τ s kn kx⟩
  | .loop c => ⟨fun call m τ s kn kx => Qi (kcodeB E c).c call m τ s kn kx⟩
  | .rangeFunc f ps a b => ⟨Xq (fun τ => evB τ f) ps a b⟩
  | .exit i => ⟨Qj i⟩
  | .ret => ⟨Qf⟩
  | .bad _ => ⟨kbad⟩
noncomputable def kroundB (E : Env) (call : Ca) (m : Nat) (b : Nm) (args : List V) (s : St) (k : V → St → R) : R :=
  match s.heap.get b with
  | some (.loop τ ps assign code 0 none) => match setParams ps args τ with
    | some τ₁ => match okCode none assign && okCode none code with
      | true => (kcodeB E assign).c call m τ₁ s (fun τ₁ s => match s.heap.get b with
        | some (.loop τ ps assign body 0 none) => (kcodeB E code).c call m τ₁ { s with heap := s.heap.set (some (.loop τ ps assign body 2 none)) b } (fun _ s => kendRound b .normal s k) (fun e _ s => kendRound b e s k)
        | _ => .fail) (fun _ _ _ => .fail)
      | false => .fail
    | none => .fail
  | _ => .fail
noncomputable def kcall (E : Env) (tab : Tr KF) (m n : Nat) : Ca :=
  @Nat.rec (fun _ => Ca) ⟨fun _ _ _ _ => .fail, fun _ _ _ _ => .fail, fun _ _ _ _ => .fail⟩ (fun _ ih =>
    ⟨fun f vs s k => @Option.rec (List V → St → T (V × St)) (fun _ => R) (optR (getT f tab) fun kf => kf ih m vs s k) (fun g => (g vs s).bind fun r => k r.1 r.2) (E.over f),
     fun b vs s k => kroundB E ih m b vs s k,
     fun f vs s k => optR (getT f tab) fun kf => kf ih m vs s k⟩) n
end Go.Eng
end
section
namespace Go.Eng
namespace T
variable {α β : Type}
theorem all_bind_mk {br : Nat} {Q : β → Prop} {f : α → T β} : ∀ {t : T α}, t.All br (fun x => (f x).All br Q) → (t.bind f).All br Q
  | .ret _, h => h
  | .ask _, h => fun n hn => all_bind_mk (h n hn)
  | .fail, h => h
  | .ite _ _ _, h => ⟨fun hc => all_bind_mk (h.1 hc), fun hc => all_bind_mk (h.2 hc)⟩
theorem exists_bound {P : Nat → Nat → Prop} (hm : ∀ n m a, n ≤ m → P n a → P m a) : ∀ br, (∀ a, a = 0 ∨ a < br → ∃ n, P n a) → ∃ n, ∀ a, a = 0 ∨ a < br → P n a
  | 0, h => by
    obtain ⟨n, hn⟩ := h 0 (.inl rfl)
    exact ⟨n, fun a ha => ha.elim (fun e => e ▸ hn) fun h => absurd h (Nat.not_lt_zero _)⟩
  | br + 1, h => by
    obtain ⟨n, hn⟩ := exists_bound hm br fun a ha => h a (ha.elim .inl fun h => .inr (Nat.lt_succ_of_lt h))
    obtain ⟨m, hm'⟩ := h br (.inr (Nat.lt_succ_self _))
    refine ⟨max n m, fun a ha => ?_⟩
    by_cases hab : a = br
    · subst hab; exact hm _ _ _ (Nat.le_max_right _ _) hm'
    · exact hm _ _ _ (Nat.le_max_left _ _) (hn a (ha.elim .inl fun h => .inr (by omega)))
theorem all_exists {br : Nat} {P : Nat → α → Prop} (hm : ∀ n m x, n ≤ m → P n x → P m x) : ∀ {t : T α}, t.All br (fun x => ∃ n, P n x) → ∃ n, t.All br (P n)
  | .ret _, h => h
  | .ask k, h => exists_bound (P := fun n a => (k a).All br (P n)) (fun n m _ hnm h => all_mono (fun x hx => hm n m x hnm hx) h) br fun a ha => all_exists hm (h a ha)
  | .fail, h => h.elim
  | .ite c t e, h => by
    have ht : c = true → ∃ n, t.All br (P n) := fun hc => all_exists hm (h.1 hc)
    have he : c = false → ∃ n, e.All br (P n) := fun hc => all_exists hm (h.2 hc)
    cases c with
    | true =>
      obtain ⟨n, hn⟩ := ht rfl
      exact ⟨n, And.intro (fun _ => hn) (fun hc => Bool.noConfusion hc)⟩
    | false =>
      obtain ⟨n, hn⟩ := he rfl
      exact ⟨n, And.intro (fun hc => Bool.noConfusion hc) (fun _ => hn)⟩
theorem ofO_all {br : Nat} {Q : α → Prop} {x : Option α} {y : α} (h : x = some y) (hq : Q y) : (ofO x).All br Q := by
  subst h; exact hq
end T
theorem getT_eq {α : Type} : ∀ (p : Nm) (t : Tr α), getT p t = t.get p
  | .h, t => by cases t <;> rfl
  | .o p, t => by
    cases t with
    | leaf => show none = Tr.get p Tr.leaf; rw [Tr.get_leaf]
    | node l v r => exact getT_eq p l
  | .i p, t => by
    cases t with
    | leaf => show none = Tr.get p Tr.leaf; rw [Tr.get_leaf]
    | node l v r => exact getT_eq p r
theorem eqN_eq : ∀ p q : Nm, eqN p q = p.eqb q
  | .h, .h => rfl
  | .h, .o _ => rfl
  | .h, .i _ => rfl
  | .o _, .h => rfl
  | .o p, .o q => eqN_eq p q
  | .o _, .i _ => rfl
  | .i _, .h => rfl
  | .i _, .o _ => rfl
  | .i p, .i q => eqN_eq p q
theorem eqS_by : ∀ a b : List Nat, eqS a b = bytesEq a b
  | [], [] => rfl
  | [], _ :: _ => rfl
  | _ :: _, [] => rfl
  | x :: a, y :: b => by
    show (@Bool.rec (fun _ => Bool) false (eqS a b) (Nat.beq x y)) = (Nat.beq x y && bytesEq a b)
    rw [eqS_by a b]
    cases Nat.beq x y <;> rfl
theorem eqF_sound {v u : V} (h : eqF v u = true) : eqbV v u = true := by
  have hN : ∀ {p q : Nm}, eqN p q = true → p = q := fun h => Nm.eqb_iff.1 (by rw [← eqN_eq]; exact h)
  have hB : ∀ {a b : Bool}, eqBo a b = true → a = b := fun {a b} h => by cases a <;> cases b <;> first | rfl | cases h
  have hS : ∀ {a b : List Nat}, eqS a b = true → a = b := by
    intro a
    induction a with
    | nil => intro b h; cases b with | nil => rfl | cons => cases h
    | cons x a ih =>
      intro b h
      cases b with
      | nil => cases h
      | cons y b =>
        have h' : (@Bool.rec (fun _ => Bool) false (eqS a b) (Nat.beq x y)) = true := h
        cases hx : Nat.beq x y with
        | false => rw [hx] at h'; cases h'
        | true => rw [hx] at h'; rw [Nat.eq_of_beq_eq_true hx, ih h']
  unfold eqF at h
  split at h
  · split at h
    · simp only [Bool.and_eq_true, Nat.beq_eq] at h
      obtain ⟨h1, rfl, rfl⟩ := h
      rw [hN h1]; simp [eqbV]
    · cases h
  · split at h
    · rw [hS h]; simp [eqbV]
    · cases h
  · split at h
    · rw [hB h]; simp [eqbV]
    · cases h
  · split at h
    · simp only [Bool.and_eq_true, Nat.beq_eq] at h
      obtain ⟨h1, rfl, rfl, rfl, h5⟩ := h
      rw [hN h1, hB h5]; simp [eqbV]
    · cases h
  · split at h
    · rw [hN h]; simp [eqbV]
    · cases h
  · exact h
theorem eqPtrF_eq (H : Tr O) (x y : V) : eqPtrF H x y = eqPtr H x y := by
  cases x <;> try rfl
  cases y <;> try rfl
  rename_i b i j b' i' j'
  show (match eqN b b' with | true => _ | false => _) = _
  simp only [eqPtr]
  rw [eqN_eq]
  cases b.eqb b' with
  | true =>
    simp only [getT_eq]
    cases H.get b with
    | none => rfl
    | some o => cases o <;> rfl
  | false =>
    simp only [getT_eq]
    cases H.get b with
    | none => rfl
    | some o =>
      cases o <;> try rfl
      rename_i es sz ty
      cases es with
      | nil => rfl
      | cons e es =>
        cases H.get b' with
        | none => rfl
        | some o =>
          cases o <;> try rfl
          rename_i es' sz' ty'
          cases es' <;> rfl
theorem eqQ_eq (H : Tr O) (ks : TypeId → Option Ks) (k : Ks) (x y : V) : eqQ H ks k x y = eqV H ks 50 k x y := by
  cases k <;> try rfl
  · cases x <;> try rfl
    cases y <;> try rfl
    simp only [eqQ, eqV, eqS_by]
  · simp only [eqQ, eqV, eqPtrF_eq]
theorem findQ_eq (H : Tr O) (ks : TypeId → Option Ks) (k : Ks) (key : V) : ∀ (es : List (V × V × Nat)) (i : Nat), findQ H ks k key es i = findKeyIn H ks k key es i
  | [], _ => rfl
  | (a, v, b) :: es, i => by
    show (match eqQ H ks k key a with | some true => some (some (i, v, b)) | some false => findQ H ks k key es (i + 1) | none => none) = _
    rw [eqQ_eq, findQ_eq H ks k key es (i + 1)]; rfl
theorem findKeyQ_eq (H : Tr O) (ks : TypeId → Option Ks) (k : Ks) (key : V) (es : List (V × V × Nat)) : findKeyQ H ks k key es = findKey H ks k key es := by
  unfold findKeyQ findKey
  rw [findQ_eq]
  cases keyOk ks k key <;> rfl
theorem lookupQ_eq (H : Tr O) (ks : TypeId → Option Ks) (k : Ks) (m key : V) : lookupQ H ks k m key = lookupIn H ks k m key := by
  cases m <;> try rfl
  rename_i b
  simp only [lookupQ, lookupIn, getT_eq, findKeyQ_eq]
  cases H.get b with
  | none => rfl
  | some o =>
    cases o <;> rfl
theorem mapUpdateQ_eq (ks : TypeId → Option Ks) (s : St) (k : Ks) (m key v : V) : mapUpdateQ ks s k m key v = mapUpdate ks s k m key v := by
  cases m <;> try rfl
  rename_i b
  simp only [mapUpdateQ, mapUpdate, getT_eq, findKeyQ_eq]
  cases s.heap.get b with
  | none => rfl
  | some o =>
    cases o <;> rfl
theorem setT_eq {α : Type} (v : Option α) : ∀ (p : Nm) (t : Tr α) (k : Tr α → R), setT v p t k = k (t.set v p)
  | .h, t, k => by cases t <;> rfl
  | .o p, t, k => by
    cases t with
    | leaf => exact setT_eq v p .leaf _
    | node l u r => exact setT_eq v p l _
  | .i p, t, k => by
    cases t with
    | leaf => exact setT_eq v p .leaf _
    | node l u r => exact setT_eq v p r _
theorem succK_eq : ∀ (n : Nm) (k : Nm → R), succK n k = k n.succ
  | .h, _ => rfl
  | .o _, _ => rfl
  | .i p, _ => succK_eq p _
theorem newK_eq (s : St) (o : O) (k : Nm → St → R) : newK s o k = k (new s o).1 (new s o).2 := by
  obtain ⟨h, n, d⟩ := s
  show setT (some o) n h _ = _
  rw [setT_eq, succK_eq]; rfl
theorem getV_eq (p : Nm) (τ : Tr V) : Qa p τ = (τ.get p).getD undef := by
  unfold Qa
  rw [getT_eq]
  cases τ.get p <;> rfl
theorem lenD_eq {α : Type} : ∀ l : List α, lenD l = l.length
  | [] => rfl
  | _ :: l => congrArg Nat.succ (lenD_eq l)
theorem nthD_eq {α : Type} : ∀ (n : Nat) (l : List α), nthD n l = nth n l
  | 0, l => by cases l <;> rfl
  | n + 1, l => by
    cases l with
    | nil => rfl
    | cons a l => exact nthD_eq n l
theorem eqS_eq : ∀ a b : List Nat, eqS a b = bytesEq a b
  | [], b => by cases b <;> rfl
  | x :: a, b => by
    cases b with
    | nil => rfl
    | cons y b =>
      show (@Bool.rec (fun _ => Bool) false (eqS a b) (Nat.beq x y)) = (Nat.beq x y && bytesEq a b)
      rw [eqS_eq a b]
      cases Nat.beq x y <;> rfl
section
variable {br : Nat} {Q : V × St → Prop}
theorem all_optR {α : Type} {x : Option α} {k : α → R} (h : (optR x k).All br Q) : ∃ y, x = some y ∧ (k y).All br Q := by
  cases x with
  | none => exact h.elim
  | some y => exact ⟨y, rfl, h⟩
theorem all_ifR {b : Bool} {x y : R} (h : (ifR b x y).All br Q) : (b = true ∧ x.All br Q) ∨ (b = false ∧ y.All br Q) := by
  cases b with
  | true => exact .inl ⟨rfl, h⟩
  | false => exact .inr ⟨rfl, h⟩
theorem all_ifF {b : Bool} {x : R} (h : (ifR b x .fail).All br Q) : b = true ∧ x.All br Q := by
  cases b with
  | true => exact ⟨rfl, h⟩
  | false => exact h.elim
theorem appD_eq : ∀ a b : List Nat, appD a b = a ++ b
  | [], _ => rfl
  | x :: a, b => by show x :: appD a b = _; rw [appD_eq a b]; rfl
theorem all_lenX {α : Type} {k : Nat → R} {l : List α} (h : (lenX l k).All br Q) : (k l.length).All br Q := by
  have go : ∀ (l : List α) (n : Nat), T.All br Q (@List.rec α (fun _ => Nat → R) k (fun _ _ ih n => @Nat.rec (fun _ => R) .fail (fun m _ => idR (ih m)) (Nat.succ (Nat.succ n))) l n) → (k (n + l.length)).All br Q := by
    intro l
    induction l with
    | nil => intro n h; exact h
    | cons a l ih =>
      intro n h
      have := ih (Nat.succ n) h
      rw [List.length_cons]
      rw [show n + (l.length + 1) = Nat.succ n + l.length by omega]
      exact this
  have := go l 0 h
  rw [Nat.zero_add] at this
  exact this
theorem all_onBool {v : V} {x y : R} (h : (onBool v x y).All br Q) : (v = .bool true ∧ x.All br Q) ∨ (v = .bool false ∧ y.All br Q) := by
  cases v <;> try (exact h.elim)
  rename_i b
  cases b with
  | true => exact .inl ⟨rfl, h⟩
  | false => exact .inr ⟨rfl, h⟩
theorem all_onInt {v : V} {f : IntKind → Int → R} (h : (onInt v f).All br Q) : ∃ k n, v = .int k n ∧ (f k n).All br Q := by
  cases v <;> first | exact h.elim | exact ⟨_, _, rfl, h⟩
theorem all_onNat {n : Int} {f : Nat → R} (h : (onNat n f).All br Q) : ∃ m : Nat, n = .ofNat m ∧ (f m).All br Q := by
  cases n <;> first | exact h.elim | exact ⟨_, rfl, h⟩
theorem all_onStr {v : V} {f : List Nat → R} (h : (onStr v f).All br Q) : ∃ l, v = .str l ∧ (f l).All br Q := by
  cases v <;> first | exact h.elim | exact ⟨_, rfl, h⟩
theorem all_onTup {v : V} {f : List V → R} (h : (onTup v f).All br Q) : ∃ l, v = .tup l ∧ (f l).All br Q := by
  cases v <;> first | exact h.elim | exact ⟨_, rfl, h⟩
theorem all_onPtr {v : V} {f : Nm → Nat → Nat → R} {g : List V → Nat → R} (h : (onPtr v f g).All br Q) : (∃ b i j, v = .ptr b i j ∧ (f b i j).All br Q) ∨ (∃ cs j, v = .rp cs j ∧ (g cs j).All br Q) := by
  cases v <;> first | exact h.elim | exact .inl ⟨_, _, _, rfl, h⟩ | exact .inr ⟨_, _, rfl, h⟩
theorem all_onRow {v : V} {f : Nm → Nat → Nat → Nat → Bool → R} {g : List V → Bool → R} (h : (onRow v f g).All br Q) : (∃ b z o n c, v = .row b z o n c ∧ (f b z o n c).All br Q) ∨ (∃ es c, v = .dsl es c ∧ (g es c).All br Q) := by
  cases v <;> first | exact h.elim | exact .inl ⟨_, _, _, _, _, rfl, h⟩ | exact .inr ⟨_, _, rfl, h⟩
theorem load_x {n : Nat} {g : Bool} {p : V} {s : St} {k : V → R} (h : (Qk n g p s k).All br Q) : ∃ v, load s.heap n g p = some v ∧ (k v).All br Q := by
  rcases all_onPtr h with ⟨b, i, j, rfl, h⟩ | ⟨cs, j, rfl, h⟩
  · obtain ⟨o, ho, h⟩ := all_optR h
    rw [getT_eq] at ho
    cases o <;> try (exact h.elim)
    obtain ⟨cs, h1, h⟩ := all_optR h
    obtain ⟨cs', h2, h⟩ := all_optR h
    obtain ⟨v, h3, h⟩ := all_optR h
    rw [nthD_eq] at h1
    exact ⟨v, by simp only [load, loadCells, ho, h1, h2, h3], h⟩
  · obtain ⟨cs', h2, h⟩ := all_optR h
    obtain ⟨v, h3, h⟩ := all_optR h
    exact ⟨v, by simp only [load, loadCells, h2, h3], h⟩
theorem store_x {n : Nat} {p v : V} {s : St} {k : St → R} (h : (Qr n p v s k).All br Q) : ∃ s', store s n p v = some s' ∧ (k s').All br Q := by
  unfold Qr xstoreH at h
  rcases all_onPtr h with ⟨b, i, j, rfl, h⟩ | ⟨cs, j, rfl, h⟩
  · obtain ⟨H, m, d⟩ := s
    obtain ⟨o, ho, h⟩ := all_optR h
    rw [getT_eq] at ho
    cases o <;> try (exact h.elim)
    obtain ⟨cs, h1, h⟩ := all_optR h
    obtain ⟨h2, h⟩ := all_ifF h
    obtain ⟨h3, h⟩ := all_ifF h
    obtain ⟨cs', h4, h⟩ := all_optR h
    obtain ⟨es', h5, h⟩ := all_optR h
    rw [nthD_eq] at h1
    rw [lenD_eq] at h2
    rw [setT_eq] at h
    have h2' := Nat.eq_of_beq_eq_true h2
    have ho' : H.get b = some (.row _ _ _) := ho
    refine ⟨_, ?_, h⟩
    simp only [store, ho', h1, h2', h3, h4, h5, Bool.and_eq_true, decide_true, and_self, if_true]
  · exact h.elim
theorem slow_x {op : BinOp} {a b : V} {k : V → R} (h : (Xh op a b k).All br Q) : ∃ v, bin op a b = some v ∧ (k v).All br Q := all_optR h
theorem all_i64 {a b : V} {f : Nat → Nat → R} {d : R} (h : (i64 a (fun x => i64 b (fun y => f x y) d) d).All br Q) : (∃ x y : Nat, a = .int .i64 (.ofNat x) ∧ b = .int .i64 (.ofNat y) ∧ (f x y).All br Q) ∨ d.All br Q := by
  have one : ∀ {v : V} {g : Nat → R}, (i64 v g d).All br Q → (∃ x : Nat, v = .int .i64 (.ofNat x) ∧ (g x).All br Q) ∨ d.All br Q := by
    intro v g h
    cases v <;> try (exact .inr h)
    rename_i k n
    cases k <;> try (exact .inr h)
    cases n with
    | ofNat x => exact .inl ⟨x, rfl, h⟩
    | negSucc x => exact .inr h
  rcases one h with ⟨x, e, h1⟩ | h1
  · rcases one h1 with ⟨y, e', h2⟩ | h2
    · exact .inl ⟨x, y, e, e', h2⟩
    · exact .inr h2
  · exact .inr h1
theorem wrap_small {n : Nat} (h : n ≤ 9223372036854775807) : IntKind.i64.wrap (n : Int) = n := by
  have h1 : (n : Int) % (2 ^ IntKind.i64.bits : Int) = n := by
    have : (2 ^ IntKind.i64.bits : Int) = 18446744073709551616 := by decide
    rw [this]; omega
  have h2 : ¬ ((n : Int) ≥ (2 ^ (IntKind.i64.bits - 1) : Int)) := by
    have : (2 ^ (IntKind.i64.bits - 1) : Int) = 9223372036854775808 := by decide
    rw [this]; omega
  unfold IntKind.wrap
  simp only [h1]
  simp [h2]
theorem addS_x {a b : V} {k : V → R} (h : (xaddS a b k).All br Q) : ∃ v, bin .add a b = some v ∧ (k v).All br Q := by
  cases a <;> try (exact slow_x h)
  rename_i x
  cases b <;> try (exact h.elim)
  rename_i y
  have h1 : (lenX x fun n => lenX y fun m => ifR (Nat.ble (Nat.add n m) 1000000000) (k (.str (appD x y))) .fail).All br Q := h
  have h2 := all_lenX h1
  have h3 := all_lenX h2
  obtain ⟨h4, h5⟩ := all_ifF h3
  rw [appD_eq] at h5
  have h6 : Nat.ble (x.length + y.length) 1000000000 = true := h4
  exact ⟨_, by simp only [bin, h6, if_true], h5⟩
theorem bin_x {op : BinOp} {a b : V} {k : V → R} (h : (xbin op a b k).All br Q) : ∃ v, bin op a b = some v ∧ (k v).All br Q := by
  unfold xbin at h
  split at h
  · unfold Qs at h
    rcases all_i64 h with ⟨x, y, rfl, rfl, h⟩ | h
    · rcases all_ifR h with ⟨h1, h⟩ | ⟨-, h⟩
      · refine ⟨_, ?_, h⟩
        have h1' : x + y ≤ 9223372036854775807 := Nat.le_of_ble_eq_true h1
        have e : ((Int.ofNat x) + (Int.ofNat y)) = ((x + y : Nat) : Int) := rfl
        simp only [bin, eqK, decide_true, if_true, e, wrap_small h1']
        rfl
      · exact addS_x h
    · exact addS_x h
  · unfold xsub at h
    rcases all_i64 h with ⟨x, y, rfl, rfl, h⟩ | h
    · rcases all_ifR h with ⟨h1, h⟩ | ⟨-, h⟩
      · rcases all_ifR h with ⟨h2, h⟩ | ⟨-, h⟩
        · refine ⟨_, ?_, h⟩
          have h1' : y ≤ x := Nat.le_of_ble_eq_true h1
          have h2' : x ≤ 9223372036854775807 := Nat.le_of_ble_eq_true h2
          have e : ((Int.ofNat x) - (Int.ofNat y)) = ((x - y : Nat) : Int) := by simp only [Int.ofNat_eq_natCast]; omega
          simp only [bin, eqK, decide_true, if_true, e, wrap_small (Nat.le_trans (Nat.sub_le x y) h2')]
          rfl
        · exact slow_x h
      · exact slow_x h
    · exact slow_x h
  · unfold Qu at h
    rcases all_i64 h with ⟨x, y, rfl, rfl, h⟩ | h
    · refine ⟨_, ?_, h⟩
      have : Nat.blt x y = decide (Int.ofNat x < Int.ofNat y) := by rw [Bool.eq_iff_iff]; simp
      simp only [bin, eqK, decide_true, if_true, this]
    · exact slow_x h
  · unfold xleq at h
    rcases all_i64 h with ⟨x, y, rfl, rfl, h⟩ | h
    · refine ⟨_, ?_, h⟩
      have : Nat.ble x y = decide (Int.ofNat x ≤ Int.ofNat y) := by rw [Bool.eq_iff_iff]; simp
      simp only [bin, eqK, decide_true, if_true, this]
    · exact slow_x h
  · unfold xgtr at h
    rcases all_i64 h with ⟨x, y, rfl, rfl, h⟩ | h
    · refine ⟨_, ?_, h⟩
      have : Nat.blt y x = decide (Int.ofNat y < Int.ofNat x) := by rw [Bool.eq_iff_iff]; simp
      simp only [bin, eqK, decide_true, if_true, this]
    · exact slow_x h
  · unfold xgeq at h
    rcases all_i64 h with ⟨x, y, rfl, rfl, h⟩ | h
    · refine ⟨_, ?_, h⟩
      have : Nat.ble y x = decide (Int.ofNat y ≤ Int.ofNat x) := by rw [Bool.eq_iff_iff]; simp
      simp only [bin, eqK, decide_true, if_true, this]
    · exact slow_x h
  · unfold Qv at h
    cases a <;> try (exact h.elim)
    · rename_i ka na
      have h' : (i64 (V.int ka na) (fun x => i64 b (fun y => k (.bool (Nat.beq x y))) (Xh .eql (V.int ka na) b k)) (Xh .eql (V.int ka na) b k)).All br Q := h
      rcases all_i64 h' with ⟨x, y, e1, rfl, h⟩ | h
      · cases e1
        refine ⟨_, ?_, h⟩
        have : Nat.beq x y = decide (Int.ofNat x = Int.ofNat y) := by rw [Bool.eq_iff_iff]; simp; omega
        simp only [bin, eqK, decide_true, if_true, this]
      · exact slow_x h
    · obtain ⟨l, rfl, h⟩ := all_onStr h
      refine ⟨_, ?_, h⟩
      simp only [bin, eqS_eq]
  · exact slow_x h
end
end Go.Eng
end
section
namespace Go.Eng
structure CaOk (E : Env) (call : Ca) : Prop where
  f : ∀ f vs s k Q, (call.f f vs s k).All E.branch Q → ∃ n, (callF E (eval E n) f vs s).All E.branch fun r => (k r.1 r.2).All E.branch Q
  r : ∀ b vs s k Q, (call.r b vs s k).All E.branch Q → ∃ n, (round (eval E n) b vs s).All E.branch fun r => (k r.1 r.2).All E.branch Q
  b : ∀ f vs s k Q, (call.b f vs s k).All E.branch Q → ∃ n, (callB E (eval E n) f vs s).All E.branch fun r => (k r.1 r.2).All E.branch Q
section
variable {E : Env} {call : Ca} {Q : V × St → Prop} {s : St} {τ : Tr V}
theorem inv_x (hc : CaOk E call) {r : V} {m : String} {vs : List V} {k : V → St → R} (h : (Xo E call r m vs s k).All E.branch Q) : ∃ n, (callM E (eval E n) r m vs s).All E.branch fun r => (k r.1 r.2).All E.branch Q := by
  unfold Xo at h
  split at h
  · rename_i t v
    split at h
    · rename_i f n agg hm
      split at h
      · obtain ⟨n, hn⟩ := hc.f _ _ _ _ _ h
        exact ⟨n, by simp only [callM, hm]; exact hn⟩
      · obtain ⟨x, hx, h⟩ := all_optR h
        obtain ⟨n, hn⟩ := hc.f _ _ _ _ _ h
        exact ⟨n, by simp only [callM, hm, hx]; exact hn⟩
    · exact h.elim
  · exact h.elim
theorem val_x (hc : CaOk E call) {f : V} {vs : List V} {k : V → St → R} (h : (Xn E call f vs s k).All E.branch Q) : ∃ n, (callV E (eval E n) f vs s).All E.branch fun r => (k r.1 r.2).All E.branch Q := by
  unfold Xn at h
  split at h
  · obtain ⟨n, hn⟩ := hc.f _ _ _ _ _ h
    exact ⟨n, by simp only [callV]; exact hn⟩
  · obtain ⟨n, hn⟩ := hc.r _ _ _ _ _ h
    exact ⟨n, by simp only [callV]; exact hn⟩
  · obtain ⟨n, hn⟩ := inv_x hc h
    exact ⟨n, by simp only [callV]; exact hn⟩
  · exact h.elim
theorem next_same {or or' : Nat → Nat} {x : V} (h : choices s x ≤ 1) : exec or E.branch E.ks E.hasMethods .leaf s (.nextMap (.c x)) = exec or' E.branch E.ks E.hasMethods .leaf s (.nextMap (.c x)) := by
  simp only [exec, arg]
  cases x <;> try rfl
  rename_i b
  simp only [choices] at h
  simp only [nextMap]
  split
  · rename_i m since seen last hb
    simp only [hb] at h
    split
    · rfl
    · rename_i m
      simp only at h
      split
      · rename_i es clock hm
        simp only [hm] at h
        split
        · rfl
        · have : Nat.ble (cands es since seen).length 1 = true := Nat.ble_eq_true_of_le h
          simp only [this]
      · rfl
  · rfl
theorem exec_subst {or : Nat → Nat} {env : Ar → V} {o : AOp} (h : ∀ x ∈ o.ars, env x = arg τ x) (hb : ∀ w, o.subst env ≠ .bad w) : exec or E.branch E.ks E.hasMethods .leaf s (o.subst env) = exec or E.branch E.ks E.hasMethods τ s o := by
  cases o with
  | build z ps =>
    have : (ps.map fun p => (p.1, p.2.1, env p.2.2)) = ps.map fun p => (p.1, p.2.1, arg τ p.2.2) := List.map_congr_left fun p hp => by
      simp only [h p.2.2 (List.mem_map.2 ⟨p, hp, rfl⟩)]
    simp only [AOp.subst, exec, List.map_map]
    show (match fillParts (ps.map fun p => (p.1, p.2.1, env p.2.2)) z with | some cs => _ | none => _) = (match fillParts (ps.map fun p => (p.1, p.2.1, arg τ p.2.2)) z with | some cs => _ | none => _)
    rw [this]
  | buildSlice sz t z n ps =>
    have : (ps.map fun p => (p.1, env p.2)) = ps.map fun p => (p.1, arg τ p.2) := List.map_congr_left fun p hp => by
      simp only [h p.2 (List.mem_map.2 ⟨p, hp, rfl⟩)]
    simp only [AOp.subst, exec, List.map_map]
    show (match fillElems (ps.map fun p => (p.1, env p.2)) sz (rep n z) with | some es => _ | none => _) = (match fillElems (ps.map fun p => (p.1, arg τ p.2)) sz (rep n z) with | some es => _ | none => _)
    rw [this]
  | mkFunc fn a b =>
    have h1 : a.map env = a.map (arg τ) := List.map_congr_left fun x hx => h x (by simp [AOp.ars, hx])
    have h2 : b.map env = b.map (arg τ) := List.map_congr_left fun x hx => h x (by simp [AOp.ars, hx])
    simp only [AOp.subst, exec, List.map_map]
    show some (V.clo fn (a.map env) (b.map env), s) = _
    rw [h1, h2]
  | slice k x lo hi mx =>
    have ho : ∀ y : Option Ar, (∀ z ∈ y.toList, env z = arg τ z) → optArg (Tr.leaf) (y.map fun x => Ar.c (env x)) = optArg τ y := fun y hy => by
      cases y with
      | none => rfl
      | some z => simp only [Option.map_some, optArg, arg, hy z (by simp)]
    have h0 := h x (by simp [AOp.ars])
    have h1 := ho lo fun y hy => h y (by simp only [AOp.ars]; simp [Option.mem_toList.1 hy])
    have h2 := ho hi fun y hy => h y (by simp only [AOp.ars]; simp [Option.mem_toList.1 hy])
    have h3 := ho mx fun y hy => h y (by simp only [AOp.ars]; simp [Option.mem_toList.1 hy])
    simp only [AOp.subst, exec, h1, h2, h3, arg, h0]
  | mkMap => rfl
  | mv _ | pick _ _ _ | alloc _ _ | box _ _ _ | load _ _ _ | store _ _ _ | nilCheck _ | bin _ _ _ | fieldAddr _ _ | indexStr _ _ | nextMap _ | extract _ _ | lenS _ | lenL _ | min2 _ _ | call _ _ | bad _ | mkSlice _ _ _ _ _ => exact absurd rfl (hb "subst")
  | _ =>
    simp only [AOp.ars, List.mem_cons, List.not_mem_nil, or_false, forall_eq_or_imp, forall_eq] at h
    simp only [AOp.subst, exec, arg, h]
def Does (E : Env) (τ : Tr V) (s : St) (o : AOp) (k : V → St → R) (Q : V × St → Prop) : Prop :=
  ∃ v s', exec (fun _ => 0) E.branch E.ks E.hasMethods τ s o = some (v, s') ∧ (k v s').All E.branch Q
theorem gen_x {env : Ar → V} {o : AOp} (ha : ∀ x ∈ o.ars, env x = arg τ x) {k : V → St → R} (h : (match lightOp o with
    | true => Xg E (o.subst env) s fun v => k v s
    | false => xgen E (o.subst env) s k).All E.branch Q) : Does E τ s o k Q := by
  have hb : ∀ {r : V × St}, exec (fun _ => 0) E.branch E.ks E.hasMethods .leaf s (o.subst env) = some r → ∀ w, o.subst env ≠ .bad w := fun hr w e => by
    rw [e] at hr; simp [exec] at hr
  split at h
  · rename_i hl
    obtain ⟨⟨v, s'⟩, hr, h⟩ := all_optR h
    have hr' := hr
    rw [exec_subst ha (hb hr)] at hr'
    have := exec_light hl hr'
    subst this
    exact ⟨v, s', hr', h⟩
  · obtain ⟨⟨v, s'⟩, hr, h⟩ := all_optR h
    have hr' := hr
    rw [exec_subst ha (hb hr)] at hr'
    exact ⟨v, s', hr', h⟩
theorem does_x {env : Ar → V} {o : AOp} (ha : ∀ x ∈ o.ars, env x = arg τ x) (hnc : ∀ f as, o ≠ .call f as) (hnn : ∀ x, o ≠ .nextMap x) {k : V → St → R} (h : (xop E call env s o k).All E.branch Q) : Does E τ s o k Q := by
  unfold xop at h
  split at h
  case h_1 x => exact ⟨_, _, by simp only [exec]; rw [← ha x (by simp [AOp.ars])], h⟩
  case h_2 c a b =>
    have hc := ha c (by simp [AOp.ars])
    have h1 := ha a (by simp [AOp.ars])
    have h2 := ha b (by simp [AOp.ars])
    rcases all_onBool h with ⟨e, h⟩ | ⟨e, h⟩
    · exact ⟨_, _, by simp only [exec, ← hc, e, ← h1], h⟩
    · exact ⟨_, _, by simp only [exec, ← hc, e, ← h2], h⟩
  case h_3 z t =>
    unfold Qx at h
    rw [newK_eq] at h
    exact ⟨_, _, rfl, h⟩
  case h_4 n t x =>
    have h1 := ha x (by simp [AOp.ars])
    obtain ⟨e1, h⟩ := all_ifF h
    obtain ⟨e2, h⟩ := all_ifF h
    rw [newK_eq] at h
    rw [lenD_eq] at e2
    refine ⟨_, _, ?_, h⟩
    simp only [exec, ← h1, e1, e2]
    rfl
  case h_5 n g x =>
    have h1 := ha x (by simp [AOp.ars])
    obtain ⟨v, e, h⟩ := load_x h
    exact ⟨v, s, by simp only [exec, ← h1, e, okV], h⟩
  case h_6 n x y =>
    have h1 := ha x (by simp [AOp.ars])
    have h2 := ha y (by simp [AOp.ars])
    obtain ⟨s', e, h⟩ := store_x h
    exact ⟨undef, s', by simp only [exec, ← h1, ← h2, e, okS], h⟩
  case h_7 x =>
    have h1 := ha x (by simp [AOp.ars])
    obtain ⟨v, e, h⟩ := all_optR h
    refine ⟨v, s, ?_, h⟩
    simp only [exec, ← h1]
    revert e
    cases env x <;> intro e <;> first | (cases e; done) | (cases e; rfl) | skip
    rename_i f _ _
    cases f <;> first | (cases e; done) | (cases e; rfl)
  case h_8 op x y =>
    have h1 := ha x (by simp [AOp.ars])
    have h2 := ha y (by simp [AOp.ars])
    obtain ⟨v, e, h⟩ := bin_x h
    exact ⟨v, s, by simp only [exec, ← h1, ← h2, e, okV], h⟩
  case h_9 x =>
    have h1 := ha x (by simp [AOp.ars])
    rcases all_onBool h with ⟨e, h⟩ | ⟨e, h⟩
    · exact ⟨_, s, by simp only [exec, ← h1, e]; rfl, h⟩
    · exact ⟨_, s, by simp only [exec, ← h1, e]; rfl, h⟩
  case h_10 sz t z l c =>
    have h1 := ha l (by simp [AOp.ars])
    have h2 := ha c (by simp [AOp.ars])
    obtain ⟨k1, n1, e1, h⟩ := all_onInt h
    obtain ⟨m1, rfl, h⟩ := all_onNat h
    obtain ⟨k2, n2, e2, h⟩ := all_onInt h
    obtain ⟨m2, rfl, h⟩ := all_onNat h
    obtain ⟨e3, h⟩ := all_ifF h
    obtain ⟨e4, h⟩ := all_ifF h
    rw [newK_eq] at h
    refine ⟨_, _, ?_, h⟩
    simp only [exec, ← h1, ← h2, e1, e2, natOf, e3, e4, Bool.and_self, if_true]
  case h_11 x lo hi =>
    have h1 := ha x (by simp [AOp.ars])
    have ho : ∀ y : Option Ar, (∀ z ∈ y.toList, env z = arg τ z) → y.map env = optArg τ y := fun y hy => by
      cases y with
      | none => rfl
      | some z => simp only [Option.map_some, optArg, hy z (by simp)]
    have h2 := ho lo fun y hy => ha y (by simp only [AOp.ars]; simp [Option.mem_toList.1 hy])
    have h3 := ho hi fun y hy => ha y (by simp only [AOp.ars]; simp [Option.mem_toList.1 hy])
    obtain ⟨l, e, h⟩ := all_onStr h
    obtain ⟨⟨x1, x2, x3⟩, e1, h⟩ := all_optR h
    obtain ⟨l', e2, h⟩ := all_optR h
    rw [lenD_eq, h2, h3] at e1
    exact ⟨_, s, by simp only [exec, ← h1, e, e1, e2], h⟩
  case h_12 o x =>
    have h1 := ha x (by simp [AOp.ars])
    rcases all_onPtr h with ⟨b, i, j, e, h⟩ | ⟨cs, j, e, h⟩
    · exact ⟨_, s, by simp only [exec, ← h1, e], h⟩
    · exact ⟨_, s, by simp only [exec, ← h1, e], h⟩
  case h_13 sz x i =>
    have h1 := ha x (by simp [AOp.ars])
    have h2 := ha i (by simp [AOp.ars])
    obtain ⟨k1, n1, e1, h⟩ := all_onInt h
    obtain ⟨m1, rfl, h⟩ := all_onNat h
    rcases all_onRow h with ⟨b, z, o, n, c, e, h⟩ | ⟨es, c, e, h⟩
    · obtain ⟨e2, h⟩ := all_ifF h
      obtain ⟨e3, h⟩ := all_ifF h
      exact ⟨_, s, by simp only [exec, ← h1, ← h2, e1, natOf, e, e2, e3, Bool.and_self, if_true]; rfl, h⟩
    · obtain ⟨v, e2, h⟩ := all_optR h
      obtain ⟨e3, h⟩ := all_ifF h
      rw [nthD_eq] at e2
      rw [lenD_eq] at e3
      exact ⟨_, s, by simp only [exec, ← h1, ← h2, e1, natOf, e, e2, e3, if_true], h⟩
  case h_14 x i =>
    have h1 := ha x (by simp [AOp.ars])
    have h2 := ha i (by simp [AOp.ars])
    obtain ⟨l, e, h⟩ := all_onStr h
    obtain ⟨k1, n1, e1, h⟩ := all_onInt h
    obtain ⟨m1, rfl, h⟩ := all_onNat h
    obtain ⟨c, e2, h⟩ := all_optR h
    rw [nthD_eq] at e2
    exact ⟨_, s, by simp only [exec, ← h1, ← h2, e1, natOf, e, e2]; rfl, h⟩
  case h_15 x i =>
    have h1 := ha x (by simp [AOp.ars])
    obtain ⟨l, e, h⟩ := all_onTup h
    obtain ⟨v, e2, h⟩ := all_optR h
    rw [nthD_eq] at e2
    exact ⟨_, s, by simp only [exec, ← h1, e, e2, okV], h⟩
  case h_16 x =>
    have h1 := ha x (by simp [AOp.ars])
    obtain ⟨l, e, h⟩ := all_onStr h
    have h := all_lenX h
    exact ⟨_, s, by simp only [exec, ← h1, e]; rfl, h⟩
  case h_17 x =>
    have h1 := ha x (by simp [AOp.ars])
    obtain ⟨v, e, h⟩ := all_optR h
    exact ⟨_, s, by simp only [exec, ← h1, e, okV], h⟩
  case h_18 x y =>
    have h1 := ha x (by simp [AOp.ars])
    have h2 := ha y (by simp [AOp.ars])
    rcases all_i64 h with ⟨a, b, e1, e2, h⟩ | h
    · rcases all_ifR h with ⟨h3, h⟩ | ⟨h3, h⟩
      · refine ⟨_, s, ?_, h⟩
        have h3' : a ≤ b := Nat.le_of_ble_eq_true h3
        simp only [exec, ← h1, ← h2, e1, e2]
        by_cases hab : (Int.ofNat b) < Int.ofNat a
        · exfalso; simp only [Int.ofNat_eq_natCast] at hab; omega
        · rw [if_neg hab]
      · refine ⟨_, s, ?_, h⟩
        have h3' : ¬ a ≤ b := fun hle => by rw [Nat.ble_eq_true_of_le hle] at h3; cases h3
        simp only [exec, ← h1, ← h2, e1, e2]
        rw [if_pos (by simp only [Int.ofNat_eq_natCast]; omega)]
    · exact h.elim
  case h_19 x => exact absurd rfl (hnn x)
  case h_20 f as => exact absurd rfl (hnc f as)
  case h_21 sz t x y =>
    have h1 := ha x (by simp [AOp.ars])
    have h2 := ha y (by simp [AOp.ars])
    obtain ⟨⟨v, s'⟩, e, h⟩ := all_optR h
    exact ⟨v, s', by simp only [exec, ← h1, ← h2, e], h⟩
  case h_22 sz t z n ps =>
    have hps : (ps.map fun p => (p.1, env p.2)) = ps.map fun p => (p.1, arg τ p.2) := List.map_congr_left fun p hp => by
      simp only [ha p.2 (List.mem_map.2 ⟨p, hp, rfl⟩)]
    obtain ⟨es, e, h⟩ := all_optR h
    rw [hps] at e
    rw [newK_eq] at h
    refine ⟨_, _, ?_, h⟩
    show (match fillElems (ps.map fun p => (p.1, arg τ p.2)) sz (rep n z) with | some es => _ | none => _) = _
    rw [e]
  case h_23 t z ok x =>
    have h1 := ha x (by simp [AOp.ars])
    obtain ⟨v, e, h⟩ := all_optR h
    refine ⟨v, s, ?_, h⟩
    simp only [exec, ← h1]
    generalize env x = u at e
    cases u <;> simp only [assertF] at e ⊢ <;> try (cases e; done)
    · split at e
      · rename_i hb; cases e; simp only [hb, if_true]
      · rename_i hb
        split at e
        · rename_i ho; cases e; simp only [hb, ho, if_true]; rfl
        · cases e
    · split at e
      · rename_i ho; cases e; simp only [ho, if_true]
      · cases e
  case h_24 ks z x i ok =>
    have h1 := ha x (by simp [AOp.ars])
    have h2 := ha i (by simp [AOp.ars])
    obtain ⟨r, e, h⟩ := all_optR h
    rw [lookupQ_eq] at e
    exact ⟨_, s, by simp only [exec, ← h1, ← h2, e]; rfl, h⟩
  case h_25 kd neg x =>
    have h1 := ha x (by simp [AOp.ars])
    obtain ⟨b, e, h⟩ := all_optR h
    exact ⟨_, s, by simp only [exec, ← h1, e], h⟩
  case h_26 ks m x v =>
    have h1 := ha m (by simp [AOp.ars])
    have h2 := ha x (by simp [AOp.ars])
    have h3 := ha v (by simp [AOp.ars])
    obtain ⟨s', e, h⟩ := all_optR h
    rw [mapUpdateQ_eq] at e
    exact ⟨_, s', by simp only [exec, ← h1, ← h2, ← h3, e, okS], h⟩
  case h_27 n ks x y =>
    have h1 := ha x (by simp [AOp.ars])
    have h2 := ha y (by simp [AOp.ars])
    obtain ⟨b, e, h⟩ := all_optR h
    rw [eqQ_eq] at e
    exact ⟨_, s, by simp only [exec, ← h1, ← h2, e], h⟩
  case h_28 t x =>
    have h1 := ha x (by simp [AOp.ars])
    exact ⟨_, s, by simp only [exec, ← h1], h⟩
  case h_29 f a b =>
    have h1 : a.map env = a.map (arg τ) := List.map_congr_left fun x hx => ha x (by simp [AOp.ars, hx])
    have h2 : b.map env = b.map (arg τ) := List.map_congr_left fun x hx => ha x (by simp [AOp.ars, hx])
    exact ⟨_, s, by simp only [exec, ← h1, ← h2], h⟩
  case h_30 z ps =>
    have hps : (ps.map fun p => (p.1, p.2.1, env p.2.2)) = ps.map fun p => (p.1, p.2.1, arg τ p.2.2) := List.map_congr_left fun p hp => by
      simp only [ha p.2.2 (List.mem_map.2 ⟨p, hp, rfl⟩)]
    obtain ⟨cs, e, h⟩ := all_optR h
    rw [hps] at e
    refine ⟨_, s, ?_, h⟩
    show (match fillParts (ps.map fun p => (p.1, p.2.1, arg τ p.2.2)) z with | some cs => _ | none => _) = _
    rw [e]
  case h_31 => exact gen_x ha h
theorem op_x (hc : CaOk E call) {env : Ar → V} {o : AOp} (ha : ∀ x ∈ o.ars, env x = arg τ x) {k : V → St → R} (h : (xop E call env s o k).All E.branch Q) :
    ∃ n, (oper E (eval E n) τ s o).All E.branch fun r => (k r.1 r.2).All E.branch Q := by
  by_cases hcl : ∃ f as, o = .call f as
  · obtain ⟨f, as, rfl⟩ := hcl
    have h1 : as.map env = as.map (arg τ) := List.map_congr_left fun x hx => ha x (by simp [AOp.ars, hx])
    simp only [xop] at h
    cases f with
    | fn f =>
      simp only at h
      rw [h1] at h
      exact hc.f _ _ _ _ _ h
    | val f =>
      simp only at h
      rw [h1, ha f (by simp [AOp.ars])] at h
      exact val_x hc h
    | invoke r m =>
      simp only at h
      rw [h1, ha r (by simp [AOp.ars])] at h
      exact inv_x hc h
  · by_cases hnx : ∃ x, o = .nextMap x
    · obtain ⟨x, rfl⟩ := hnx
      simp only [xop] at h
      have fin : ∀ n, (optR (exec (fun _ => n) E.branch E.ks E.hasMethods .leaf s (.nextMap (.c (env x)))) fun r => k r.1 r.2).All E.branch Q → (T.ofO (exec (fun _ => n) E.branch E.ks E.hasMethods τ s (.nextMap x))).All E.branch fun r => (k r.1 r.2).All E.branch Q := by
        intro n h
        obtain ⟨⟨v, s'⟩, e, h⟩ := all_optR h
        refine T.ofO_all (y := (v, s')) ?_ h
        rw [← e, ha x (by simp [AOp.ars])]
        simp only [exec, arg]
      refine ⟨0, fun n hn => fin n ?_⟩
      unfold Xp at h
      rcases all_ifR h with ⟨e, h⟩ | ⟨e, h⟩
      · rw [next_same (or' := fun _ => 0) (Nat.le_of_ble_eq_true e)]; exact h
      · exact h n hn
    · obtain ⟨v, s', e, h⟩ := does_x ha (fun f as e => hcl ⟨f, as, e⟩) (fun x e => hnx ⟨x, e⟩) h
      refine ⟨0, ?_⟩
      unfold oper
      split
      · exact absurd ⟨_, _, rfl⟩ hcl
      · exact absurd ⟨_, rfl⟩ hnx
      · exact T.ofO_all e h
end
end Go.Eng
end
section
namespace Go.Eng
def Mono (br : Nat) (ev ev' : Eval) : Prop := ∀ c τ s Q, (ev c τ s).All br Q → (ev' c τ s).All br Q
section
variable {E : Env} {ev ev' : Eval}
theorem bind_mono {α β : Type} {br : Nat} {t t' : T α} {f f' : α → T β} (ht : ∀ Q, t.All br Q → t'.All br Q) (hf : ∀ x Q, (f x).All br Q → (f' x).All br Q) {Q : β → Prop} (h : (t.bind f).All br Q) : (t'.bind f').All br Q :=
  T.all_bind_mk (ht _ (T.all_mono (fun x hx => hf x Q hx) (T.all_bind h)))
theorem callB_mono (hm : Mono E.branch ev ev') {f : Nm} {vs : List V} {s : St} {Q : V × St → Prop} (h : (callB E ev f vs s).All E.branch Q) : (callB E ev' f vs s).All E.branch Q := by
  unfold callB at *
  split at h
  · rename_i fn hfn
    exact bind_mono (fun Q h => hm _ _ _ Q h) (fun _ _ h => h) h
  · exact h.elim
theorem callF_mono (hm : Mono E.branch ev ev') {f : Nm} {vs : List V} {s : St} {Q : V × St → Prop} (h : (callF E ev f vs s).All E.branch Q) : (callF E ev' f vs s).All E.branch Q := by
  unfold callF at *
  split at h
  · exact h
  · exact callB_mono hm h
theorem round_mono {br : Nat} (hm : Mono br ev ev') {b : Nm} {vs : List V} {s : St} {Q : V × St → Prop} (h : (round ev b vs s).All br Q) : (round ev' b vs s).All br Q := by
  unfold round at *
  split at h
  · split at h
    · refine bind_mono (fun Q h => hm _ _ _ Q h) (fun x Q h => ?_) h
      unfold beginRound at *
      split at h
      · split at h
        · exact bind_mono (fun Q h => hm _ _ _ Q h) (fun _ _ h => h) h
        · exact h.elim
      · exact h.elim
    · exact h.elim
  · exact h.elim
theorem callM_mono (hm : Mono E.branch ev ev') {r : V} {m : String} {vs : List V} {s : St} {Q : V × St → Prop} (h : (callM E ev r m vs s).All E.branch Q) : (callM E ev' r m vs s).All E.branch Q := by
  unfold callM at *
  split at h
  · split at h
    · split at h
      · exact callF_mono hm h
      · split at h
        · exact callF_mono hm h
        · exact h.elim
    · exact h.elim
  · exact h.elim
theorem callV_mono (hm : Mono E.branch ev ev') {f : V} {vs : List V} {s : St} {Q : V × St → Prop} (h : (callV E ev f vs s).All E.branch Q) : (callV E ev' f vs s).All E.branch Q := by
  unfold callV at *
  split at h
  · exact callF_mono hm h
  · exact round_mono hm h
  · exact callM_mono hm h
  · exact h.elim
theorem oper_mono (hm : Mono E.branch ev ev') {τ : Tr V} {s : St} {o : AOp} {Q : V × St → Prop} (h : (oper E ev τ s o).All E.branch Q) : (oper E ev' τ s o).All E.branch Q := by
  unfold oper at *
  split at h
  · rename_i f as
    cases f with
    | fn f => exact callF_mono hm h
    | val f => exact callV_mono hm h
    | invoke r m => exact callM_mono hm h
  · exact h
  · exact h
theorem opers_mono (hm : Mono E.branch ev ev') : ∀ (os : List AOper) (τ : Tr V) (s : St) (Q : Tr V × St → Prop), (opers E ev os τ s).All E.branch Q → (opers E ev' os τ s).All E.branch Q
  | [], _, _, _, h => h
  | o :: os, τ, s, Q, h => by
    simp only [opers] at *
    split at h
    · exact bind_mono (fun Q h => oper_mono hm h) (fun x Q h => opers_mono hm os _ _ Q h) h
    · exact opers_mono hm os _ _ Q h
theorem drun_mono (hm : Mono E.branch ev ev') : ∀ (os : List DStep) (τ : Tr V) (s : St) (Q : Tr V × St → Prop), (drun E ev os τ s).All E.branch Q → (drun E ev' os τ s).All E.branch Q
  | [], _, _, _, h => h
  | o :: os, τ, s, Q, h => by
    simp only [drun] at *
    split at h
    · split at h
      · exact drun_mono hm os _ _ Q h
      · exact h.elim
    · split at h
      · refine bind_mono (fun Q h => oper_mono hm h) (fun x Q h => ?_) h
        split at h
        · exact drun_mono hm os _ _ Q h
        · exact h.elim
      · split at h
        · exact drun_mono hm os _ _ Q h
        · exact h.elim
theorem eval_succ : ∀ n, Mono E.branch (eval E n) (eval E (n + 1))
  | 0, _, _, _, _, h => h.elim
  | n + 1, c, τ, s, Q, h => by
    have ih := eval_succ n
    cases c with
    | skip => exact h
    | region ops => exact bind_mono (fun Q h => opers_mono ih _ _ _ Q h) (fun _ _ h => h) h
    | draw ds => exact bind_mono (fun Q h => drun_mono ih _ _ _ Q h) (fun _ _ h => h) h
    | seq a b =>
      refine bind_mono (fun Q h => ih _ _ _ Q h) (fun x Q h => ?_) h
      unfold andThen at *
      split at h
      · exact ih _ _ _ Q h
      · exact h
    | cond x a b =>
      simp only [eval] at h ⊢
      split at h
      · exact ih _ _ _ Q h
      · exact ih _ _ _ Q h
      · exact h.elim
    | block id c => exact bind_mono (fun Q h => ih _ _ _ Q h) (fun _ _ h => h) h
    | loop c =>
      refine bind_mono (fun Q h => ih _ _ _ Q h) (fun x Q h => ?_) h
      unfold andThen at *
      split at h
      · exact ih _ _ _ Q h
      · exact h
    | rangeFunc f ps a b =>
      simp only [eval] at h ⊢
      split at h
      · exact bind_mono (fun Q h => callB_mono ih h) (fun _ _ h => h) h
      · exact h.elim
    | exit id => exact h
    | ret => exact h
    | bad w => exact h
theorem eval_mono {n m : Nat} (h : n ≤ m) : Mono E.branch (eval E n) (eval E m) := by
  induction h with
  | refl => exact fun _ _ _ _ h => h
  | step _ ih => exact fun c τ s Q h => eval_succ _ c τ s Q (ih c τ s Q h)
end
structure Kn (l : Live) (defs : List Nm) (loc : Locs) (τ τ₁ : Tr V) : Prop where
  live : ∀ p, l.has p = true → Qa p τ₁ = (τ.get p).getD undef
  all : l = none → τ₁ = τ
  loc : ∀ p, (l.has p || defs.any fun q => q.eqb p) = true → lookN p τ₁ loc = (τ.get p).getD undef
  def' : ∀ p, (defs.any fun q => q.eqb p) = true → τ.get p ≠ none
structure Keep (l : Live) (τ τ₁ : Tr V) : Prop where
  live : ∀ p, l.has p = true → Qa p τ₁ = (τ.get p).getD undef
  all : l = none → τ₁ = τ
theorem Keep.kn {l : Live} {τ τ₁ : Tr V} (h : Keep l τ τ₁) : Kn l [] [] τ τ₁ :=
  ⟨h.live, h.all, fun p hp => by simp only [List.any_nil, Bool.or_false] at hp; exact h.live p hp, fun p hp => by simp at hp⟩
theorem Kn.keep {l : Live} {defs : List Nm} {loc : Locs} {τ τ₁ : Tr V} (h : Kn l defs loc τ τ₁) : Keep l τ τ₁ := ⟨h.live, h.all⟩
section
variable {E : Env} {call : Ca} {Q : V × St → Prop} {l : Live} {defs : List Nm} {loc : Locs} {s : St} {τ τ₁ : Tr V}
theorem look_ok (hk : Kn l defs loc τ τ₁) {o : AOper} (ho : okLooks l defs o = true) : ∀ x ∈ o.op.ars, look loc τ₁ x = arg τ x := by
  intro x hx
  cases x with
  | c v => rfl
  | t p =>
    have hp : p ∈ o.looks := by simp only [AOper.looks, List.mem_append, List.mem_flatMap]; exact .inr ⟨_, hx, by simp [Ar.name]⟩
    simp only [okLooks, List.all_eq_true] at ho
    exact hk.loc p (ho p hp)
theorem want_x {g : V} {b : Bool} {x y : R} (h : (xwant g b x y).All E.branch Q) : (∃ c, g = .bool c ∧ ((c = b ∧ x.All E.branch Q) ∨ (c ≠ b ∧ y.All E.branch Q))) ∨ ((∀ c, g ≠ .bool c) ∧ y.All E.branch Q) := by
  unfold xwant at h
  cases g <;> try (exact .inr ⟨fun c => (by simp), h⟩)
  rename_i c
  refine .inl ⟨c, rfl, ?_⟩
  cases c with
  | true =>
    rcases all_ifR (b := b) (x := x) (y := y) h with ⟨e2, h⟩ | ⟨e2, h⟩
    · exact .inl ⟨e2.symm, h⟩
    · exact .inr ⟨by rw [e2]; simp, h⟩
  | false =>
    rcases all_ifR (b := b) (x := y) (y := x) h with ⟨e2, h⟩ | ⟨e2, h⟩
    · exact .inr ⟨by rw [e2]; simp, h⟩
    · exact .inl ⟨e2.symm, h⟩
theorem guard_x (hc : CaOk E call) (hk : Kn l defs loc τ τ₁) {o : AOper} (ho : okLooks l defs o = true) {J : V → St → R} (h : (guardL E call loc τ₁ s o J).All E.branch Q) :
    (wanted τ o.guard = true ∧ (xop E call (look loc τ₁) s o.op J).All E.branch Q ∧ ∃ n, (oper E (eval E n) τ s o.op).All E.branch fun r => (J r.1 r.2).All E.branch Q) ∨ (wanted τ o.guard = false ∧ (J undef s).All E.branch Q) := by
  unfold guardL at h
  split at h
  · rename_i hg
    exact .inl ⟨by rw [hg]; rfl, h, op_x hc (look_ok hk ho) h⟩
  · rename_i p b hg
    have hp : p ∈ o.looks := by simp [AOper.looks, hg, guardName]
    have ho' := ho
    simp only [okLooks, List.all_eq_true] at ho
    rcases want_x (x := xop E call (look loc τ₁) s o.op J) (y := J undef s) h with ⟨c, e, h⟩ | ⟨e, h⟩
    · rw [hk.loc p (ho p hp)] at e
      have hg' : τ.get p = some (.bool c) := by
        cases hτ : τ.get p with
        | none => rw [hτ] at e; cases e
        | some v => rw [hτ] at e; simp only [Option.getD_some] at e; rw [e]
      have hw : wanted τ o.guard = (c == b) := by simp only [wanted, hg, hg']
      rcases h with ⟨e2, h⟩ | ⟨e2, h⟩
      · exact .inl ⟨by rw [hw, e2]; simp, h, op_x hc (look_ok hk ho') h⟩
      · exact .inr ⟨by rw [hw]; simpa using e2, h⟩
    · rw [hk.loc p (ho p hp)] at e
      refine .inr ⟨?_, h⟩
      simp only [wanted, hg]
      split
      · rename_i c hc'
        rw [hc'] at e
        exact absurd rfl (e c)
      · rfl
theorem lookN_congr {p : Nm} {τ τ' : Tr V} (h : Qa p τ = Qa p τ') : ∀ loc : Locs, lookN p τ loc = lookN p τ' loc
  | [] => h
  | (q, v) :: loc => by
    simp only [lookN]
    split
    · rfl
    · exact lookN_congr h loc
theorem eqb_comm' {p q : Nm} (h : p ≠ q) : p.eqb q = false := by
  cases hb : p.eqb q with
  | false => rfl
  | true => exact absurd (Nm.eqb_iff.1 hb) h
theorem bind_x (hk : Kn l defs loc τ τ₁) {d : Option Nm} {v : V} {k : Locs → Tr V → R} (h : (bindL l d v loc τ₁ k).All E.branch Q) : ∃ loc' τ₁', Kn l (addDst d defs) loc' (put τ d v) τ₁' ∧ (k loc' τ₁').All E.branch Q := by
  unfold bindL at h
  split at h
  · exact ⟨loc, τ₁, hk, h⟩
  · rename_i p
    have key : ∀ τ₁', (∀ q, q ≠ p → Qa q τ₁' = Qa q τ₁) → (l.has p = true → Qa p τ₁' = v) → (l = none → τ₁' = τ.set (some v) p) → Kn l (addDst (some p) defs) ((p, v) :: loc) (put τ (some p) v) τ₁' := by
      intro τ₁' h1 h2 h3
      refine ⟨fun q hq => ?_, h3, fun q hq => ?_, fun q hq => ?_⟩
      · simp only [put, Tr.get_set]
        by_cases e : p = q
        · subst e; rw [if_pos rfl]; exact h2 hq
        · rw [if_neg e, h1 q (fun e' => e e'.symm)]; exact hk.live q hq
      · simp only [put, Tr.get_set, lookN]
        by_cases e : p = q
        · subst e
          rw [if_pos rfl, Nm.eqb_iff.2 rfl]; rfl
        · rw [if_neg e, eqb_comm' (fun e' => e e'.symm), lookN_congr (h1 q (fun e' => e e'.symm))]
          refine hk.loc q ?_
          simp only [addDst, List.any_cons, eqb_comm' e, Bool.false_or] at hq
          exact hq
      · simp only [put, Tr.get_set]
        by_cases e : p = q
        · subst e; rw [if_pos rfl]; simp
        · rw [if_neg e]
          refine hk.def' q ?_
          simp only [addDst, List.any_cons, eqb_comm' e, Bool.false_or] at hq
          exact hq
    split at h
    · rename_i hl
      unfold Qb at h
      rw [setT_eq] at h
      refine ⟨_, _, key _ (fun q hq => ?_) (fun _ => ?_) (fun e => ?_), h⟩
      · rw [getV_eq, getV_eq, Tr.get_set, if_neg (fun e => hq e.symm)]
      · rw [getV_eq, Tr.get_set, if_pos rfl]; rfl
      · rw [hk.all e]
    · rename_i hl
      exact ⟨_, _, key τ₁ (fun _ _ => rfl) (fun e => by rw [e] at hl; cases hl) (fun e => by rw [e] at hl; cases hl), h⟩
theorem opers_x (hc : CaOk E call) {kn : Tr V → St → R} : ∀ (os : List AOper) (defs : List Nm) (loc : Locs) (τ τ₁ : Tr V) (s : St), Kn l defs loc τ τ₁ → okOpers l defs os = true → (opersL E l call kn os loc τ₁ s).All E.branch Q →
    ∃ n, (opers E (eval E n) os τ s).All E.branch fun r => ∃ τ₁', Keep l r.1 τ₁' ∧ (kn τ₁' r.2).All E.branch Q
  | [], _, _, τ, τ₁, s, hk, _, h => ⟨0, τ₁, hk.keep, h⟩
  | o :: os, defs, loc, τ, τ₁, s, hk, hok, h => by
    simp only [okOpers, Bool.and_eq_true] at hok
    have next : ∀ v s', (bindL l o.dst v loc τ₁ fun loc τ => opersL E l call kn os loc τ s').All E.branch Q → ∃ n, (opers E (eval E n) os (put τ o.dst v) s').All E.branch fun r => ∃ τ₁', Keep l r.1 τ₁' ∧ (kn τ₁' r.2).All E.branch Q := by
      intro v s' h
      obtain ⟨loc', τ₁', hk', h⟩ := bind_x hk h
      exact opers_x hc os _ _ _ _ _ hk' hok.2 h
    rcases guard_x hc hk hok.1 h with ⟨hw, -, n, h⟩ | ⟨hw, h⟩
    · let P : Nat → V × St → Prop := fun n r => (opers E (eval E n) os (put τ o.dst r.1) r.2).All E.branch fun r : Tr V × St => ∃ τ₁', Keep l r.1 τ₁' ∧ (kn τ₁' r.2).All E.branch Q
      obtain ⟨m, h2⟩ := T.all_exists (P := P) (fun n m x hnm h => opers_mono (eval_mono hnm) _ _ _ _ h) (T.all_mono (fun r hr => next r.1 r.2 hr) h)
      refine ⟨max n m, ?_⟩
      simp only [opers, hw]
      exact T.all_bind_mk (T.all_mono (fun r hr => opers_mono (eval_mono (Nat.le_max_right n m)) _ _ _ _ hr) (oper_mono (eval_mono (Nat.le_max_left n m)) h2))
    · obtain ⟨n, h⟩ := next _ _ h
      exact ⟨n, by simp only [opers, hw]; exact h⟩
end
end Go.Eng
end
section
namespace Go.Eng
section
variable {E : Env} {call : Ca} {Q : V × St → Prop} {l : Live} {defs : List Nm} {loc : Locs} {s : St} {τ τ₁ : Tr V}
theorem light_all {ev : Eval} {o : AOp} (hl : lightOp o = true) {R' : V × St → Prop} (h : (oper E ev τ s o).All E.branch R') : ∃ v, exec (fun _ => 0) E.branch E.ks E.hasMethods τ s o = some (v, s) ∧ R' (v, s) := by
  have e : oper E ev τ s o = .ofO (exec (fun _ => 0) E.branch E.ks E.hasMethods τ s o) := by
    cases o <;> first | rfl | (simp [lightOp] at hl)
  rw [e] at h
  obtain ⟨⟨v, s'⟩, h1, h2⟩ := T.all_ofO h
  have := exec_light hl h1
  subst this
  exact ⟨v, h1, h2⟩
def okCheck (l : Live) (defs : List Nm) (o : AOper) : Bool := okLooks l defs o && lightOp o.op && (match o.dst with
  | some p => defs.any fun q => q.eqb p
  | none => true)
theorem checks_x (hc : CaOk E call) (hk : Kn l defs loc τ τ₁) {r : R} : ∀ {os : List AOper}, os.all (okCheck l defs) = true → (checksL E call loc τ₁ s r os).All E.branch Q → recheck E τ s os = true ∧ r.All E.branch Q
  | [], _, h => ⟨rfl, h⟩
  | o :: os, hok, h => by
    simp only [List.all_cons, Bool.and_eq_true] at hok
    obtain ⟨hok1, hok2⟩ := hok
    simp only [okCheck, Bool.and_eq_true] at hok1
    obtain ⟨⟨h1, h2⟩, h3⟩ := hok1
    have fin : ∀ v, lightV E τ s o = some v → ((match o.dst with
        | some p => Qq v (lookN p τ₁ loc) (checksL E call loc τ₁ s r os)
        | none => checksL E call loc τ₁ s r os).All E.branch Q) → recheck E τ s (o :: os) = true ∧ r.All E.branch Q := by
      intro v hv hh
      simp only [recheck, hv]
      split at hh
      · rename_i p hd
        rw [hd] at h3
        replace h3 : (defs.any fun q => q.eqb p) = true := h3
        obtain ⟨e, hh⟩ := all_ifF hh
        replace e := eqF_sound e
        rw [hk.loc p (by rw [h3, Bool.or_true])] at e
        have hne := hk.def' p h3
        have hh' : holds τ o.dst v = true := by
          simp only [holds, hd]
          cases hτ : τ.get p with
          | none => exact absurd hτ hne
          | some u => rw [hτ] at e; exact e
        rw [hh']
        exact checks_x hc hk hok2 hh
      · rename_i hd
        simp only [holds, hd]
        exact checks_x hc hk hok2 hh
    rcases guard_x hc hk h1 h with ⟨hw, -, n, h⟩ | ⟨hw, h⟩
    · obtain ⟨v, e, hh⟩ := light_all h2 h
      exact fin v (by simp only [lightV, hw, e]) hh
    · exact fin undef (by simp only [lightV, hw]) h
theorem drun_x (hc : CaOk E call) {kn : Tr V → St → R} : ∀ (ds : List DStep) (defs : List Nm) (loc : Locs) (τ τ₁ : Tr V) (s : St), Kn l defs loc τ τ₁ → okSteps l defs ds = true → (drunL E l call kn ds loc τ₁ s).All E.branch Q →
    ∃ n, (drun E (eval E n) ds τ s).All E.branch fun r => ∃ τ₁', Keep l r.1 τ₁' ∧ (kn τ₁' r.2).All E.branch Q
  | [], _, _, τ, τ₁, s, hk, _, h => ⟨0, τ₁, hk.keep, h⟩
  | d :: ds, defs, loc, τ, τ₁, s, hk, hok, h => by
    simp only [okSteps, Bool.and_eq_true] at hok
    obtain ⟨⟨⟨hok1, hok2⟩, hok3⟩, hok4⟩ := hok
    let P : Nat → V × St → Prop := fun n r => recheck E (put τ d.op.dst r.1) r.2 d.checks = true ∧ (drun E (eval E n) ds (put τ d.op.dst r.1) r.2).All E.branch fun r : Tr V × St => ∃ τ₁', Keep l r.1 τ₁' ∧ (kn τ₁' r.2).All E.branch Q
    have hP : ∀ n m x, n ≤ m → P n x → P m x := fun n m x hnm h => ⟨h.1, drun_mono (eval_mono hnm) _ _ _ _ h.2⟩
    have next : ∀ v s', (bindL l d.op.dst v loc τ₁ fun loc τ => checksL E call loc τ s' (drunL E l call kn ds loc τ s') d.checks).All E.branch Q → ∃ n, P n (v, s') := by
      intro v s' h
      obtain ⟨loc', τ₁', hk', h⟩ := bind_x hk h
      obtain ⟨h1, h2⟩ := checks_x hc hk' (os := d.checks) hok2 h
      obtain ⟨n, h3⟩ := drun_x hc ds _ _ _ _ _ hk' hok4 h2
      exact ⟨n, h1, h3⟩
    rcases guard_x hc hk hok1 h with ⟨hw, -, n, h⟩ | ⟨hw, h⟩
    · obtain ⟨m, h2⟩ := T.all_exists hP (T.all_mono (fun r hr => next r.1 r.2 hr) h)
      have h3 := oper_mono (eval_mono (Nat.le_max_left n m)) h2
      have h4 := T.all_mono (fun r hr => hP m (max n m) r (Nat.le_max_right n m) hr) h3
      refine ⟨max n m, ?_⟩
      simp only [drun]
      split
      · rename_i hkd
        rw [hkd] at hok3
        obtain ⟨v, e, h5⟩ := light_all hok3 h4
        simp only [lightV, hw, e]
        exact h5.2
      · simp only [hw]
        refine T.all_bind_mk (T.all_mono (fun r hr => ?_) h4)
        simp only [hr.1]
        exact hr.2
    · obtain ⟨n, h1, h2⟩ := next _ _ h
      refine ⟨n, ?_⟩
      simp only [drun]
      split
      · simp only [lightV, hw]; exact h2
      · simp only [hw, h1]; exact h2
def ends (kn : KN) (kx : KX) : Ex → Tr V → St → R
  | .normal => kn
  | e => kx e
def CP (E : Env) (l : Live) (kn : KN) (kx : KX) (Q : V × St → Prop) (r : Ex × Tr V × St) : Prop := ∃ τ₁, Keep l r.2.1 τ₁ ∧ (ends kn kx r.1 τ₁ r.2.2).All E.branch Q
theorem arg_x (hk : Keep l τ τ₁) {x : Ar} (ho : okArg l x = true) : look [] τ₁ x = arg τ x := by
  cases x with
  | c v => rfl
  | t p =>
    simp only [okArg, Ar.name, List.all_cons, List.all_nil, Bool.and_true] at ho
    exact hk.live p ho
theorem seq_all {n : Nat} {c : ACode} {f : Nat → Ex × Tr V × St → T (Ex × Tr V × St)} {R₁ R₂ : Ex × Tr V × St → Prop} (hf : ∀ n m x, n ≤ m → (f n x).All E.branch R₂ → (f m x).All E.branch R₂) (h : (eval E n c τ s).All E.branch R₁) (hr : ∀ r, R₁ r → ∃ m, (f m r).All E.branch R₂) :
    ∃ m, ((eval E m c τ s).bind (f m)).All E.branch R₂ := by
  obtain ⟨m, h2⟩ := T.all_exists (P := fun n r => (f n r).All E.branch R₂) hf (T.all_mono hr h)
  exact ⟨max n m, T.all_bind_mk (T.all_mono (fun r h => hf m (max n m) r (Nat.le_max_right n m) h) (eval_mono (Nat.le_max_left n m) _ _ _ _ h2))⟩
theorem andThen_mono {b : ACode} {R₂ : Ex × Tr V × St → Prop} : ∀ n m x, n ≤ m → (andThen (eval E n b) x).All E.branch R₂ → (andThen (eval E m b) x).All E.branch R₂ := by
  intro n m x hnm h
  unfold andThen at *
  split at h
  · exact eval_mono hnm _ _ _ _ h
  · exact h
theorem code_x (hc : CaOk E call) : ∀ (c : ACode) (l : Live), okCode l c = true → ∀ (m : Nat) (τ τ₁ : Tr V) (s : St) (kn : KN) (kx : KX), Keep l τ τ₁ → (kcode E l c call m τ₁ s kn kx).All E.branch Q → ∃ n, (eval E n c τ s).All E.branch (CP E l kn kx Q) := by
  intro c
  induction c with
  | skip => intro l _ m τ τ₁ s kn kx hk h; exact ⟨1, τ₁, hk, h⟩
  | exit id => intro l _ m τ τ₁ s kn kx hk h; exact ⟨1, τ₁, hk, h⟩
  | ret => intro l _ m τ τ₁ s kn kx hk h; exact ⟨1, τ₁, hk, h⟩
  | bad w => intro l _ m τ τ₁ s kn kx hk h; exact h.elim
  | region ops =>
    intro l hok m τ τ₁ s kn kx hk h
    obtain ⟨n, h⟩ := opers_x hc ops [] [] τ τ₁ s hk.kn hok h
    exact ⟨n + 1, T.all_bind_mk h⟩
  | draw ds =>
    intro l hok m τ τ₁ s kn kx hk h
    obtain ⟨n, h⟩ := drun_x hc ds [] [] τ τ₁ s hk.kn hok h
    exact ⟨n + 1, T.all_bind_mk h⟩
  | seq a b iha ihb =>
    intro l hok m τ τ₁ s kn kx hk h
    simp only [okCode, Bool.and_eq_true] at hok
    obtain ⟨n, h1⟩ := iha l hok.1 m τ τ₁ s _ kx hk h
    obtain ⟨n', h2⟩ := seq_all (f := fun n => andThen (eval E n b)) (R₂ := CP E l kn kx Q) andThen_mono h1 fun r hr => by
      obtain ⟨e, τ', s'⟩ := r
      obtain ⟨τ₁', hk', h'⟩ := hr
      cases e with
      | normal => exact ihb l hok.2 m τ' τ₁' s' kn kx hk' h'
      | ret => exact ⟨0, τ₁', hk', h'⟩
      | exit id => exact ⟨0, τ₁', hk', h'⟩
    exact ⟨n' + 1, h2⟩
  | cond x a b iha ihb =>
    intro l hok m τ τ₁ s kn kx hk h
    simp only [okCode, Bool.and_eq_true] at hok
    rcases all_onBool h with ⟨e, h⟩ | ⟨e, h⟩
    · obtain ⟨n, h⟩ := iha l hok.1.2 m τ τ₁ s kn kx hk h
      refine ⟨n + 1, ?_⟩
      simp only [eval, ← arg_x hk hok.1.1, e]; exact h
    · obtain ⟨n, h⟩ := ihb l hok.2 m τ τ₁ s kn kx hk h
      refine ⟨n + 1, ?_⟩
      simp only [eval, ← arg_x hk hok.1.1, e]; exact h
  | block id c ih =>
    intro l hok m τ τ₁ s kn kx hk h
    obtain ⟨n, h1⟩ := ih l hok m τ τ₁ s kn _ hk h
    refine ⟨n + 1, T.all_bind_mk (T.all_mono (fun r hr => ?_) h1)⟩
    obtain ⟨e, τ', s'⟩ := r
    obtain ⟨τ₁', hk', h'⟩ := hr
    cases e with
    | normal => exact ⟨τ₁', hk', h'⟩
    | ret => exact ⟨τ₁', hk', h'⟩
    | exit i =>
      simp only [endBlock]
      rcases all_ifR h' with ⟨e, h'⟩ | ⟨e, h'⟩
      · rw [if_pos e]; exact ⟨τ₁', hk', h'⟩
      · rw [if_neg (by rw [e]; simp)]; exact ⟨τ₁', hk', h'⟩
  | loop c ih =>
    intro l hok m τ τ₁ s kn kx hk h
    have key : ∀ (k : Nat) (τ τ₁ : Tr V) (s : St), Keep l τ τ₁ → ((@Nat.rec (fun _ => Tr V → St → R) (fun _ _ => T.fail) (fun _ ih τ s => kcode E l c call m τ s ih kx) k : Tr V → St → R) τ₁ s).All E.branch Q → ∃ n, (eval E n (.loop c) τ s).All E.branch (CP E l kn kx Q) := by
      intro k
      induction k with
      | zero => intro τ τ₁ s _ h; exact h.elim
      | succ k ihk =>
        intro τ τ₁ s hk h
        obtain ⟨n, h1⟩ := ih l hok m τ τ₁ s _ kx hk h
        obtain ⟨n', h2⟩ := seq_all (f := fun n => andThen (eval E n (.loop c))) (R₂ := CP E l kn kx Q) andThen_mono h1 fun r hr => by
          obtain ⟨e, τ', s'⟩ := r
          obtain ⟨τ₁', hk', h'⟩ := hr
          cases e with
          | normal => exact ihk τ' τ₁' s' hk' h'
          | ret => exact ⟨0, τ₁', hk', h'⟩
          | exit id => exact ⟨0, τ₁', hk', h'⟩
        exact ⟨n' + 1, h2⟩
    exact key m τ τ₁ s hk h
  | rangeFunc f ps a b iha ihb =>
    intro l hok m τ τ₁ s kn kx hk h
    simp only [okCode, Bool.and_eq_true, Option.isNone_iff_eq_none] at hok
    obtain ⟨⟨rfl, -⟩, -⟩ := hok
    have hτ := hk.all rfl
    subst hτ
    have hf : look [] τ₁ f = arg τ₁ f := arg_x hk (by cases f <;> simp [okArg, Ar.name, Live.has])
    simp only [kcode, Xq] at h
    rw [hf] at h
    split at h
    · rename_i g first cap hc'
      · rw [newK_eq] at h
        obtain ⟨n, h1⟩ := hc.b _ _ _ _ _ h
        refine ⟨n + 1, ?_⟩
        simp only [eval, hc']
        refine T.all_bind_mk (T.all_mono (fun r hr => ?_) h1)
        obtain ⟨v, s'⟩ := r
        simp only [kendLoop] at hr
        simp only [endLoop]
        split at hr
        · rename_i hb
          simp only [hb]
          split at hr
          · split at hr
            · exact ⟨τ₁, hk, hr⟩
            · exact hr.elim
          · split at hr
            · exact ⟨τ₁, hk, hr⟩
            · exact ⟨τ₁, hk, hr⟩
            · exact hr.elim
          · exact hr.elim
        · exact hr.elim
    · exact h.elim
theorem kinit_eq : ∀ (vs : List V) (n : Nm) (τ : Tr V) (k : Tr V → R), kinit vs n τ k = k (initT vs n τ)
  | [], _, _, _ => rfl
  | v :: vs, n, τ, k => by
    show setT (some v) n τ (fun τ => succK n fun n => kinit vs n τ k) = _
    rw [setT_eq, succK_eq, kinit_eq vs]
    rfl
theorem results_x (hk : Keep l τ τ₁) : ∀ {rs : List ARes} {acc : List V} {k : List V → R}, okRes l rs = true → (resultsL τ₁ s rs acc k).All E.branch Q → ∃ vs, results s.heap τ rs = some vs ∧ (k (acc.reverse ++ vs)).All E.branch Q
  | [], acc, k, _, h => ⟨[], rfl, by rw [List.append_nil]; exact h⟩
  | .tmp t :: rs, acc, k, hok, h => by
    simp only [okRes, List.all_cons, Bool.and_eq_true] at hok
    obtain ⟨vs, h1, h2⟩ := results_x (rs := rs) hk hok.2 h
    refine ⟨(τ.get t).getD undef :: vs, by simp only [results, h1], ?_⟩
    rw [hk.live t hok.1] at h2
    simpa using h2
  | .cell a n g :: rs, acc, k, hok, h => by
    simp only [okRes, List.all_cons, Bool.and_eq_true] at hok
    simp only [resultsL] at h
    obtain ⟨v, e, h⟩ := load_x h
    obtain ⟨vs, h1, h2⟩ := results_x (rs := rs) hk hok.2 h
    rw [hk.live a hok.1] at e
    exact ⟨v :: vs, by simp only [results, e, h1], by simpa using h2⟩
theorem fun_x (hc : CaOk E call) {fn : AFn} {kf : KF} (hf : kfun E l fn = some kf) {m : Nat} {vs : List V} {k : V → St → R} (h : (kf call m vs s k).All E.branch Q) :
    ∃ n, ((eval E n fn.body (initT vs .h .leaf) s).bind (leave fn.results)).All E.branch fun r => (k r.1 r.2).All E.branch Q := by
  unfold kfun at hf
  split at hf
  · rename_i hok
    cases hf
    simp only [Bool.and_eq_true] at hok
    unfold kfn at h
    rw [kinit_eq] at h
    obtain ⟨n, h1⟩ := code_x hc fn.body l hok.1 m _ _ s _ _ (⟨fun p _ => getV_eq p _, fun _ => rfl⟩ : Keep l (initT vs .h .leaf) (initT vs .h .leaf)) h
    refine ⟨n, T.all_bind_mk (T.all_mono (fun r hr => ?_) h1)⟩
    obtain ⟨e, τ', s'⟩ := r
    obtain ⟨τ₁', hk', h'⟩ := hr
    have fin : (resultsL τ₁' s' fn.results [] fun vs => k (resultV vs) s').All E.branch Q → (match results s'.heap τ' fn.results with
        | some vs => T.ret (resultV vs, s')
        | none => .fail).All E.branch fun r : V × St => (k r.1 r.2).All E.branch Q := by
      intro h'
      obtain ⟨vs, e1, e2⟩ := results_x hk' hok.2 h'
      simp only [e1]
      exact e2
    cases e with
    | normal => exact fin h'
    | ret => exact fin h'
    | exit id => exact h'.elim
  · cases hf
theorem kround_x (hc : CaOk E call) {m : Nat} {b : Nm} {vs : List V} {k : V → St → R} (h : (kround E call m b vs s k).All E.branch Q) : ∃ n, (round (eval E n) b vs s).All E.branch fun r => (k r.1 r.2).All E.branch Q := by
  unfold kround at h
  split at h
  · rename_i τ ps as cd hb
    split at h
    · rename_i τ₁ hp
      split at h
      · rename_i hok
        simp only [Bool.and_eq_true] at hok
        have k0 : ∀ τ : Tr V, Keep none τ τ := fun τ => ⟨fun p _ => getV_eq p _, fun _ => rfl⟩
        obtain ⟨n, h1⟩ := code_x hc as none hok.1 m τ₁ τ₁ s _ _ (k0 τ₁) h
        let F : Nat → Ex × Tr V × St → T (Ex × Tr V × St) := fun n r => (beginRound (eval E n) b cd r).bind fun x => T.ret (Ex.normal, Tr.leaf.set (some x.1) .h, x.2)
        let RR : Ex × Tr V × St → Prop := fun r => ∃ v, r.2.1 = Tr.leaf.set (some v) .h ∧ (k v r.2.2).All E.branch Q
        have hmono : ∀ n m x, n ≤ m → (F n x).All E.branch RR → (F m x).All E.branch RR := by
          intro n m x hnm h
          refine bind_mono (fun Q h => ?_) (fun _ _ h => h) h
          unfold beginRound at *
          split at h
          · split at h
            · exact bind_mono (fun Q h => eval_mono hnm _ _ _ Q h) (fun _ _ h => h) h
            · exact h.elim
          · exact h.elim
        obtain ⟨n', h2⟩ := seq_all (R₂ := RR) hmono h1 (by
          intro r hr
          obtain ⟨e, τ', s'⟩ := r
          obtain ⟨τ₁', hk', h'⟩ := hr
          have := hk'.all rfl
          simp only at this
          subst this
          cases e with
          | ret => exact h'.elim
          | exit id => exact h'.elim
          | normal =>
            simp only [ends] at h'
            split at h'
            · rename_i τx psx asx bdx hb'
              obtain ⟨n2, h4⟩ := code_x hc cd none hok.2 m _ _ _ _ _ (k0 _) h'
              refine ⟨n2, ?_⟩
              show ((beginRound (eval E n2) b cd (.normal, τ₁', s')).bind _).All E.branch RR
              simp only [beginRound, hb']
              refine T.all_bind_mk (T.all_bind_mk (T.all_mono (fun r hr => ?_) h4))
              obtain ⟨e, τ'', s''⟩ := r
              obtain ⟨τ₂, -, h5⟩ := hr
              have h6 : (kendRound b e s'' k).All E.branch Q := by cases e <;> exact h5
              unfold kendRound at h6
              simp only [endRound]
              split at h6
              · rename_i hb''
                simp only [hb'']
                split at h6
                · exact ⟨_, rfl, h6⟩
                · rename_i hne
                  cases e with
                  | normal => exact absurd rfl hne
                  | ret => exact ⟨_, rfl, h6⟩
                  | exit id => exact ⟨_, rfl, h6⟩
              · exact h6.elim
            · exact h'.elim)
        refine ⟨n', ?_⟩
        simp only [round, hb, hp]
        have h3 := T.all_bind h2
        refine T.all_bind_mk (T.all_mono (fun r hr => T.all_mono (fun x hx => ?_) (T.all_bind hr)) h3)
        obtain ⟨v, e1, e2⟩ := hx
        have := congrArg (fun t : Tr V => t.get .h) e1
        simp only [Tr.get_set_same, Option.some.injEq] at this
        rw [this]; exact e2
      · exact h.elim
    · exact h.elim
  · exact h.elim
theorem allN_spec {f : Nat → Bool} : ∀ {n : Nat}, allN f n = true → ∀ i, i < n → f i = true
  | 0, _, i, hi => absurd hi (Nat.not_lt_zero i)
  | n + 1, h, i, hi => by
    have h' : (@Bool.rec (fun _ => Bool) false (allN f n) (f n)) = true := h
    cases hf : f n with
    | false => rw [hf] at h'; cases h'
    | true =>
      rw [hf] at h'
      rcases Nat.lt_succ_iff_lt_or_eq.1 hi with hi | rfl
      · exact allN_spec h' i hi
      · exact hf
theorem allB_spec {br : Nat} {q : V × St → Bool} : ∀ {t : R}, allB br q t = true → t.All br fun r => q r = true
  | .ret _, h => h
  | .ask k, h => fun n hn => allB_spec (t := k n) (allN_spec (f := fun n => allB br q (k n)) (n := Nat.succ (Nat.pred br)) h n (by cases br <;> simp at hn ⊢ <;> omega))
  | .fail, h => by cases h
  | .ite c t e, h => by
    have h' : (@Bool.rec (fun _ => Bool) (allB br q e) (allB br q t) c) = true := h
    cases c with
    | false => exact And.intro (fun hc => Bool.noConfusion hc) (fun _ => allB_spec h')
    | true => exact And.intro (fun _ => allB_spec h') (fun hc => Bool.noConfusion hc)
theorem opB_eq {call : Ca} {τ : Tr V} {s : St} {o : AOp} {k : V → St → R} : (opB E o).f call τ s k = xop E call (evB τ) s o k := by
  cases o with
  | un op x => cases op <;> rfl
  | conv k x => cases k <;> rfl
  | slice k x lo hi mx => cases k <;> cases mx <;> rfl
  | indexAddr sz arr x i => cases arr <;> rfl
  | call f as => cases f <;> rfl
  | _ => rfl
def LocOk (loc : Locs) (τ : Tr V) : Prop := ∀ p, lookN p τ loc = Qa p τ
theorem LocOk.env {loc : Locs} {τ : Tr V} (h : LocOk loc τ) : look loc τ = evB τ := by
  funext x
  cases x with
  | t p => exact h p
  | c v => rfl
theorem getV_set {τ : Tr V} {p q : Nm} {v : V} : Qa q (τ.set (some v) p) = if p = q then v else Qa q τ := by
  simp only [Qa, getT_eq, Tr.get_set]
  split <;> rfl
theorem lookN_set {p : Nm} {v : V} {τ : Tr V} : ∀ {loc : Locs} {q : Nm}, p ≠ q → lookN q (τ.set (some v) p) loc = lookN q τ loc
  | [], q, h => by simp only [lookN, getV_set, if_neg h]
  | (r, u) :: loc, q, h => by
    simp only [lookN]
    rw [lookN_set h]
theorem LocOk.set {loc : Locs} {τ : Tr V} (h : LocOk loc τ) (p : Nm) (v : V) : LocOk ((p, v) :: loc) (τ.set (some v) p) := fun q => by
  simp only [lookN]
  split
  · rename_i e
    have := Nm.eqb_iff.1 e
    rw [getV_set, if_pos this.symm]
  · rename_i e
    have hne : p ≠ q := fun e' => by rw [e', Nm.eqb_iff.2 rfl] at e; cases e
    rw [lookN_set hne, getV_set, if_neg hne]
    exact h q
theorem guardB_eq {call : Ca} {loc : Locs} {τ : Tr V} (h : LocOk loc τ) {s : St} {o : AOper} {J : V → St → R} : (guardB E o).f call τ s J = guardL E call loc τ s o J := by
  unfold guardB guardL
  rw [h.env]
  cases o.guard with
  | none => exact opB_eq
  | some g =>
    obtain ⟨p, b⟩ := g
    simp only [h p, opB_eq]
theorem opersB_eq {call : Ca} {kn : Tr V → St → R} : ∀ (os : List AOper) {loc : Locs} {τ : Tr V} (_ : LocOk loc τ) (s : St), (opersB E os).f call kn τ s = opersL E none call kn os loc τ s
  | [], _, _, _, _ => rfl
  | o :: os, loc, τ, h, s => by
    simp only [opersB, opersL]
    cases hd : o.dst with
    | none =>
      simp only [guardB_eq h, bindL]
      congr 1
      funext v s
      exact opersB_eq os h s
    | some p =>
      simp only [guardB_eq h, bindL, Live.has, Qb, setT_eq]
      congr 1
      funext v s
      exact opersB_eq os (h.set p v) s
theorem checksB_eq {call : Ca} {loc : Locs} {τ : Tr V} (h : LocOk loc τ) {s : St} {r : R} : ∀ os : List AOper, (checksB E os).f call τ s r = checksL E call loc τ s r os
  | [] => rfl
  | o :: os => by
    simp only [checksB, checksL]
    cases hd : o.dst with
    | none => simp only [guardB_eq h, checksB_eq h os]
    | some p => simp only [guardB_eq h, checksB_eq h os, h p]
theorem drunB_eq {call : Ca} {kn : Tr V → St → R} : ∀ (ds : List DStep) {loc : Locs} {τ : Tr V} (_ : LocOk loc τ) (s : St), (drunB E ds).f call kn τ s = drunL E none call kn ds loc τ s
  | [], _, _, _, _ => rfl
  | d :: ds, loc, τ, h, s => by
    simp only [drunB, drunL]
    cases hd : d.op.dst with
    | none =>
      simp only [guardB_eq h, bindL]
      congr 1
      funext v s
      rw [checksB_eq h, drunB_eq ds h s]
    | some p =>
      simp only [guardB_eq h, bindL, Live.has, Qb, setT_eq]
      congr 1
      funext v s
      rw [checksB_eq (h.set p v), drunB_eq ds (h.set p v) s]
theorem locOk_nil (τ : Tr V) : LocOk [] τ := fun _ => rfl
theorem kcodeB_eq : ∀ c : ACode, (kcodeB E c).c = kcode E none c
  | .skip | .exit _ | .ret | .bad _ => rfl
  | .rangeFunc f ps a b => by
    simp only [kcodeB, kcode]
    congr 1
    funext τ
    exact (congrFun (locOk_nil τ).env f).symm
  | .region ops => by
    funext call m τ s kn kx
    exact opersB_eq ops (locOk_nil τ) s
  | .draw ds => by
    funext call m τ s kn kx
    exact drunB_eq ds (locOk_nil τ) s
  | .seq a b => by
    funext call m τ s kn kx
    simp only [kcodeB, kcode, Qc, kcodeB_eq a, kcodeB_eq b]
  | .cond c a b => by
    funext call m τ s kn kx
    simp only [kcodeB, kcode, Qe, kcodeB_eq a, kcodeB_eq b]
    rw [(locOk_nil τ).env]
  | .block id a => by
    funext call m τ s kn kx
    simp only [kcodeB, kcode, kcodeB_eq a]
  | .loop a => by
    funext call m τ s kn kx
    simp only [kcodeB, kcode, kcodeB_eq a]
theorem kroundB_eq {call : Ca} {m : Nat} {b : Nm} {args : List V} {s : St} {k : V → St → R} : kroundB E call m b args s k = kround E call m b args s k := by
  unfold kroundB kround
  simp only [kcodeB_eq]
def TabOk (E : Env) (tab : Tr KF) : Prop := ∀ f kf, tab.get f = some kf → ∃ fn l, E.fns f = some fn ∧ kfun E l fn = some kf
theorem call_x {tab : Tr KF} (ht : TabOk E tab) (m : Nat) : ∀ n, CaOk E (kcall E tab m n)
  | 0 => ⟨fun _ _ _ _ _ h => h.elim, fun _ _ _ _ _ h => h.elim, fun _ _ _ _ _ h => h.elim⟩
  | n + 1 => by
    have ih := call_x ht m n
    have hb : ∀ f vs s k Q, (optR (getT f tab) fun kf => kf (kcall E tab m n) m vs s k).All E.branch Q → ∃ n, (callB E (eval E n) f vs s).All E.branch fun r => (k r.1 r.2).All E.branch Q := fun f vs s k Q h' => by
      obtain ⟨kf, e, h'⟩ := all_optR h'
      rw [getT_eq] at e
      obtain ⟨fn, l, e1, e2⟩ := ht f kf e
      obtain ⟨n', h2⟩ := fun_x ih e2 h'
      refine ⟨n', ?_⟩
      simp only [callB, e1]
      exact h2
    refine ⟨fun f vs s k Q h => ?_, fun b vs s k Q h => kround_x ih (kroundB_eq ▸ h : (kround E (kcall E tab m n) m b vs s k).All E.branch Q), hb⟩
    have h' : ((@Option.rec (List V → St → T (V × St)) (fun _ => R) (optR (getT f tab) fun kf => kf (kcall E tab m n) m vs s k) (fun g => (g vs s).bind fun r => k r.1 r.2) (E.over f) : R)).All E.branch Q := h
    unfold callF
    cases hov : E.over f with
    | none =>
      rw [hov] at h'
      exact hb f vs s k Q h'
    | some g =>
      rw [hov] at h'
      exact ⟨0, T.all_bind h'⟩
end
end Go.Eng
end
section
namespace Go.Eng
variable {E : Env} {o : Nm → Option (List V → St → T (V × St))} {f : Nm → Option AFn} {l : Live}
theorem xop_env : xop { E with over := o, fns := f } = xop E := rfl
theorem guardL_env : guardL { E with over := o, fns := f } = guardL E := rfl
theorem opersL_env {call : Ca} {kn : Tr V → St → R} : ∀ (os : List AOper) (loc : Locs) (τ : Tr V) (s : St), opersL { E with over := o, fns := f } l call kn os loc τ s = opersL E l call kn os loc τ s
  | [], _, _, _ => rfl
  | a :: os, loc, τ, s => by
    simp only [opersL, guardL_env, opersL_env os]
theorem checksL_env {call : Ca} {loc : Locs} {τ : Tr V} {s : St} {r : R} : ∀ os : List AOper, checksL { E with over := o, fns := f } call loc τ s r os = checksL E call loc τ s r os
  | [] => rfl
  | a :: os => by
    simp only [checksL, guardL_env, checksL_env os]
theorem drunL_env {call : Ca} {kn : Tr V → St → R} : ∀ (ds : List DStep) (loc : Locs) (τ : Tr V) (s : St), drunL { E with over := o, fns := f } l call kn ds loc τ s = drunL E l call kn ds loc τ s
  | [], _, _, _ => rfl
  | d :: ds, loc, τ, s => by
    simp only [drunL, guardL_env, drunL_env ds, checksL_env]
theorem kcode_env : ∀ c : ACode, kcode { E with over := o, fns := f } l c = kcode E l c
  | .skip | .exit _ | .ret | .bad _ | .rangeFunc .. => rfl
  | .region ops => by simp only [kcode, opersL_env]
  | .draw ds => by simp only [kcode, drunL_env]
  | .seq a b => by simp only [kcode, kcode_env a, kcode_env b]
  | .cond c a b => by simp only [kcode, kcode_env a, kcode_env b]
  | .block id a => by simp only [kcode, kcode_env a]
  | .loop a => by simp only [kcode, kcode_env a]
theorem kfun_env (fn : AFn) : kfun { E with over := o, fns := f } l fn = kfun E l fn := by
  unfold kfun
  rw [kcode_env]
theorem TabOk.share {tab : Tr KF} (h : TabOk E tab) : TabOk { E with over := o } tab := fun g kf hk => by
  obtain ⟨fn, l, h1, h2⟩ := h g kf hk
  exact ⟨fn, l, h1, (kfun_env (E := E) (o := o) (f := E.fns) fn).trans h2⟩
end Go.Eng
end
section
namespace Go.Eng
noncomputable def ltS (a : List Nat) : List Nat → Bool := @List.rec Nat (fun _ => List Nat → Bool) (fun b => @List.rec Nat (fun _ => Bool) false (fun _ _ _ => true) b) (fun x _ ih b => @List.rec Nat (fun _ => Bool) false (fun y r _ => @Bool.rec (fun _ => Bool) (@Bool.rec (fun _ => Bool) false (ih r) (Nat.beq x y)) true (Nat.blt x y)) b) a
noncomputable def preS (a : List Nat) : List Nat → Bool := @List.rec Nat (fun _ => List Nat → Bool) (fun _ => true) (fun x _ ih b => @List.rec Nat (fun _ => Bool) false (fun y r _ => @Bool.rec (fun _ => Bool) false (ih r) (Nat.beq x y)) b) a
noncomputable def ixS (sub : List Nat) (l : List Nat) : Nat → (Int → R) → R := @List.rec Nat (fun _ => Nat → (Int → R) → R) (fun i k => ifR (preS sub []) (k (.ofNat i)) (k (.negSucc 0))) (fun x r ih i k => ifR (preS sub (x :: r)) (k (.ofNat i)) (ih (Nat.succ i) k)) l
noncomputable def cntS (c : Nat) (l : List Nat) : Nat → (Nat → R) → R := @List.rec Nat (fun _ => Nat → (Nat → R) → R) (fun n k => k n) (fun x _ ih n k => ifR (Nat.beq x c) (ih (Nat.succ n) k) (ih n k)) l
noncomputable def on1 (vs : List V) (f : V → R) : R := @List.rec V (fun _ => R) .fail (fun a r _ => @List.rec V (fun _ => R) (f a) (fun _ _ _ => .fail) r) vs
noncomputable def on2 (vs : List V) (f : V → V → R) : R := @List.rec V (fun _ => R) .fail (fun a r _ => on1 r (f a)) vs
noncomputable def onByte (v : V) (f : Nat → R) : R := onInt v fun k n => @IntKind.rec (fun _ => R) .fail .fail .fail .fail (onNat n fun c => ifR (Nat.blt c 256) (f c) .fail) .fail .fail .fail k
noncomputable def ovCmp (vs : List V) (s : St) : T (V × St) := on2 vs fun a b => onStr a fun x => onStr b fun y => ifR (ltS x y) (.ret (.int .i64 (.negSucc 0), s)) (ifR (eqS x y) (.ret (.int .i64 (.ofNat 0), s)) (.ret (.int .i64 (.ofNat 1), s)))
noncomputable def ovIx (vs : List V) (s : St) : T (V × St) := on2 vs fun a b => onStr a fun x => onStr b fun y => ifR (Nat.blt (lenD x) 4294967281) (ixS y x 0 fun i => .ret (.int .i64 i, s)) .fail
noncomputable def ovCnt (vs : List V) (s : St) : T (V × St) := on2 vs fun a b => onStr a fun x => onByte b fun c => cntS c x 0 fun n => .ret (.int .i64 (.ofNat n), s)
noncomputable def ovIxB (vs : List V) (s : St) : T (V × St) := on2 vs fun a b => onStr a fun x => onByte b fun c => ixS [c] x 0 fun i => .ret (.int .i64 i, s)
noncomputable def ovNo (vs : List V) (s : St) : T (V × St) := on1 vs fun a => .ret (a, s)
abbrev nats (l : List UInt8) : List Nat := l.map UInt8.toNat
theorem beq_nat (x y : UInt8) : Nat.beq x.toNat y.toNat = (x == y) := by
  rw [Bool.eq_iff_iff, Nat.beq_eq, beq_iff_eq]
  exact UInt8.toNat_inj
theorem preS_eq : ∀ a b : List UInt8, preS (nats a) (nats b) = a.isPrefixOf b
  | [], _ => rfl
  | _ :: _, [] => rfl
  | x :: a, y :: b => by
    show (@Bool.rec (fun _ => Bool) false (preS (nats a) (nats b)) (Nat.beq x.toNat y.toNat)) = _
    rw [preS_eq a b, beq_nat, List.isPrefixOf_cons_cons]
    cases (x == y) <;> rfl
theorem ixS_eq (sub : List UInt8) : ∀ (l : List UInt8) (i : Nat) (k : Int → R), ixS (nats sub) (nats l) i k = k (if Lib.index l sub == -1 then -1 else Lib.index l sub + i)
  | [], i, k => by
    show ifR (preS (nats sub) (nats [])) (k (.ofNat i)) (k (.negSucc 0)) = _
    rw [preS_eq]
    cases sub with
    | nil => simp [Lib.index, ifR]
    | cons x s => simp [Lib.index, ifR]
  | x :: l, i, k => by
    show ifR (preS (nats sub) (nats (x :: l))) (k (.ofNat i)) (ixS (nats sub) (nats l) (Nat.succ i) k) = _
    have hidx : Lib.index (x :: l) sub = if sub.isPrefixOf (x :: l) then 0 else if Lib.index l sub == -1 then -1 else Lib.index l sub + 1 := rfl
    rw [preS_eq, ixS_eq sub l, hidx]
    cases sub.isPrefixOf (x :: l) with
    | true => simp [ifR]
    | false =>
      simp only [ifR, Bool.false_eq_true, if_false]
      by_cases h : (Lib.index l sub == -1) = true
      · simp [h]
      · have hn : (Lib.index l sub == -1) = false := by simpa using h
        have hge := Lib.index_ge l sub
        have hne : Lib.index l sub ≠ -1 := by simpa using hn
        have h2 : (Lib.index l sub + 1 == -1) = false := by
          rw [beq_eq_false_iff_ne]; omega
        simp only [hn, h2, Bool.false_eq_true, if_false]
        congr 1
        omega
theorem cntS_eq (c : UInt8) : ∀ (l : List UInt8) (n : Nat) (k : Nat → R), cntS c.toNat (nats l) n k = k (n + l.count c)
  | [], n, k => rfl
  | x :: l, n, k => by
    show ifR (Nat.beq x.toNat c.toNat) (cntS c.toNat (nats l) (Nat.succ n) k) (cntS c.toNat (nats l) n k) = _
    rw [cntS_eq c l, cntS_eq c l, beq_nat, List.count_cons]
    cases h : (x == c) with
    | true => simp only [ifR, if_true]; congr 1; omega
    | false => simp [ifR]
theorem ltS_eq : ∀ a b : List UInt8, Lib.compareBytes a b = if ltS (nats a) (nats b) then -1 else if eqS (nats a) (nats b) then 0 else 1
  | [], [] => rfl
  | [], _ :: _ => rfl
  | _ :: _, [] => rfl
  | x :: a, y :: b => by
    have e1 : ltS (nats (x :: a)) (nats (y :: b)) = @Bool.rec (fun _ => Bool) (@Bool.rec (fun _ => Bool) false (ltS (nats a) (nats b)) (Nat.beq x.toNat y.toNat)) true (Nat.blt x.toNat y.toNat) := rfl
    have e2 : eqS (nats (x :: a)) (nats (y :: b)) = @Bool.rec (fun _ => Bool) false (eqS (nats a) (nats b)) (Nat.beq x.toNat y.toNat) := rfl
    rw [e1, e2, beq_nat]
    have ih := ltS_eq a b
    have hlt : Nat.blt x.toNat y.toNat = decide (x < y) := by
      rw [Bool.eq_iff_iff, Nat.blt_eq, decide_eq_true_eq]; exact UInt8.lt_iff_toNat_lt.symm
    rw [hlt]
    have hcb : Lib.compareBytes (x :: a) (y :: b) = if x < y then -1 else if y < x then 1 else Lib.compareBytes a b := rfl
    rw [hcb]
    by_cases h1 : x < y
    · simp [h1]
    · by_cases h2 : x = y
      · subst h2; simp [ih]
      · have h3 : (x == y) = false := by simpa using h2
        have h4 : y < x := by
          rw [UInt8.lt_iff_toNat_lt] at h1 ⊢
          have : x.toNat ≠ y.toNat := fun e => h2 (UInt8.toNat_inj.1 e)
          omega
        simp [h1, h3, h4]
section
variable {C : Ctx} {ρ : Rho} {s : St} {w : World} {br : Nat} {R' : V × St → Prop} {args : List V} {cargs : Array Value}
theorem all_on1 {f : V → R} {vs : List V} (h : (on1 vs f).All br R') : ∃ a, vs = [a] ∧ (f a).All br R' := by
  match vs, h with
  | [a], h => exact ⟨a, rfl, h⟩
  | [], h => exact h.elim
  | _ :: _ :: _, h => exact h.elim
theorem all_on2 {f : V → V → R} {vs : List V} (h : (on2 vs f).All br R') : ∃ a b, vs = [a, b] ∧ (f a b).All br R' := by
  match vs, h with
  | a :: r, h =>
    obtain ⟨b, rfl, h⟩ := all_on1 (f := f a) (vs := r) h
    exact ⟨a, b, rfl, h⟩
  | [], h => exact h.elim
theorem all_onByte {v : V} {f : Nat → R} (h : (onByte v f).All br R') : ∃ c : UInt8, v = .int .u8 (c.toNat : Int) ∧ (f c.toNat).All br R' := by
  unfold onByte at h
  obtain ⟨k, n, rfl, h⟩ := all_onInt h
  cases k <;> try (exact h.elim)
  obtain ⟨m, rfl, h⟩ := all_onNat h
  obtain ⟨e, h⟩ := all_ifF h
  simp only [Nat.blt_eq] at e
  refine ⟨UInt8.ofNat m, ?_, ?_⟩
  · rw [UInt8.toNat_ofNat_of_lt' e]; rfl
  · rw [UInt8.toNat_ofNat_of_lt' e]; exact h
theorem AR.two {a b : V} (h : AR ρ [a, b] cargs) : ∃ x y, cargs = #[x, y] ∧ VR ρ a x ∧ VR ρ b y := by
  obtain ⟨h1, h2⟩ := h
  cases cargs with
  | mk l => match l, h1 with
    | [x, y], _ => exact ⟨x, y, rfl, h2 0 a x rfl rfl, h2 1 b y rfl rfl⟩
theorem AR.single {a : V} (h : AR ρ [a] cargs) : ∃ x, cargs = #[x] ∧ VR ρ a x := by
  obtain ⟨h1, h2⟩ := h
  cases cargs with
  | mk l => match l, h1 with
    | [x], _ => exact ⟨x, rfl, h2 0 a x rfl rfl⟩
theorem gives_value (hI : Inv C ρ s w) {r : Result Next} {v : V} {cv : Value} (hr : r = .ok (.value cv) w) (hv : VR ρ v cv) (hR : R' (v, s)) : Gives C.P (Post C ρ s w R') r := by
  subst hr
  exact ⟨ρ, v, s, hR, hv, Ext.refl hI⟩
theorem gives_calls (hI : Inv C ρ s w) {r : Result Next} {g : Nat} {v : V} {cv : Value} (hr : r = .ok (.enter g cargs) w) (hc : Calls C.P g cargs w fun e w' => e = .returned cv ∧ w' = w) (hv : VR ρ v cv) (hR : R' (v, s)) : Gives C.P (Post C ρ s w R') r := by
  subst hr
  refine Calls.mono hc ?_
  rintro e w' ⟨rfl, rfl⟩
  exact ⟨ρ, v, s, hR, hv, Ext.refl hI⟩
theorem over_cmp (hI : Inv C ρ s w) (ha : AR ρ args cargs) (h : (ovCmp args s).All br R') {g : Nat} (hrun : ∀ a b : ByteArray, (callFunc g #[.string a, .string b]).run C.P w = .ok (.value (.int .i64 (Lib.compareBytes a.data.toList b.data.toList))) w) :
    Gives C.P (Post C ρ s w R') ((callFunc g cargs).run C.P w) := by
  obtain ⟨a, b, rfl, h⟩ := all_on2 h
  obtain ⟨x, y, rfl, hx, hy⟩ := ha.two
  obtain ⟨l, rfl, h⟩ := all_onStr h
  obtain ⟨l', rfl, h⟩ := all_onStr h
  cases hx with
  | str e =>
    cases hy with
    | str e' =>
      subst e; subst e'
      refine gives_value hI (hrun _ _) (.int _ _) ?_
      rw [ltS_eq]
      rcases all_ifR h with ⟨e1, h⟩ | ⟨e1, h⟩
      · simp only [nats, e1, if_true]; exact h
      · rcases all_ifR h with ⟨e2, h⟩ | ⟨e2, h⟩
        · simp only [nats, e1, e2, if_true, Bool.false_eq_true, if_false]; exact h
        · simp only [nats, e1, e2, Bool.false_eq_true, if_false]; exact h
theorem over_ix (hI : Inv C ρ s w) (ha : AR ρ args cargs) (h : (ovIx args s).All br R') {g : Nat} (hrun : ∀ cargs, (callFunc g cargs).run C.P w = .ok (.enter g cargs) w)
    (hc : ∀ a b : ByteArray, a.size < 4294967281 → Calls C.P g #[.string a, .string b] w fun e w' => e = .returned (.int .i64 (Lib.index a.data.toList b.data.toList)) ∧ w' = w) :
    Gives C.P (Post C ρ s w R') ((callFunc g cargs).run C.P w) := by
  obtain ⟨a, b, rfl, h⟩ := all_on2 h
  obtain ⟨x, y, rfl, hx, hy⟩ := ha.two
  obtain ⟨l, rfl, h⟩ := all_onStr h
  obtain ⟨l', rfl, h⟩ := all_onStr h
  cases hx with
  | str e =>
    cases hy with
    | str e' =>
      rename_i sa sb
      subst e; subst e'
      obtain ⟨e1, h⟩ := all_ifF h
      rw [lenD_eq] at e1
      simp only [Nat.blt_eq, List.length_map] at e1
      rw [ixS_eq] at h
      refine gives_calls hI (hrun _) (hc sa sb (by simpa using e1)) (.int _ _) ?_
      have : (if Lib.index sa.data.toList sb.data.toList == -1 then (-1 : Int) else Lib.index sa.data.toList sb.data.toList + (0 : Nat)) = Lib.index sa.data.toList sb.data.toList := by
        split
        · rename_i e; exact (eq_of_beq e).symm
        · simp
      rw [this] at h
      exact h
theorem over_cnt (hI : Inv C ρ s w) (ha : AR ρ args cargs) (h : (ovCnt args s).All br R') {g : Nat} (hrun : ∀ (a : ByteArray) (c : Int), (callFunc g #[.string a, .int .u8 c]).run C.P w = .ok (.value (.int .i64 (Lib.countByte a.data.toList c.toNat.toUInt8))) w) :
    Gives C.P (Post C ρ s w R') ((callFunc g cargs).run C.P w) := by
  obtain ⟨a, b, rfl, h0⟩ := all_on2 h
  obtain ⟨x, y, rfl, hx, hy⟩ := ha.two
  obtain ⟨l, rfl, h1⟩ := all_onStr h0
  obtain ⟨c, rfl, h2⟩ := all_onByte h1
  cases hx with
  | str e =>
    cases hy with
    | int =>
      subst e
      rw [cntS_eq] at h2
      refine gives_value hI (hrun _ _) (.int _ _) ?_
      have : ((c.toNat : Int).toNat.toUInt8) = c := by simp
      rw [this]
      have h3 : R' (.int .i64 (Int.ofNat (0 + List.count c _)), s) := h2
      rw [Nat.zero_add] at h3
      exact h3
theorem over_ixB (hI : Inv C ρ s w) (ha : AR ρ args cargs) (h : (ovIxB args s).All br R') {g : Nat} (hrun : ∀ (a : ByteArray) (c : Int), (callFunc g #[.string a, .int .u8 c]).run C.P w = .ok (.value (.int .i64 (Lib.indexByte a.data.toList c.toNat.toUInt8))) w) :
    Gives C.P (Post C ρ s w R') ((callFunc g cargs).run C.P w) := by
  obtain ⟨a, b, rfl, h0⟩ := all_on2 h
  obtain ⟨x, y, rfl, hx, hy⟩ := ha.two
  obtain ⟨l, rfl, h1⟩ := all_onStr h0
  obtain ⟨c, rfl, h2⟩ := all_onByte h1
  cases hx with
  | str e =>
    cases hy with
    | int =>
      rename_i sa
      subst e
      have e1 : ([c.toNat] : List Nat) = nats [c] := rfl
      rw [e1, ixS_eq] at h2
      refine gives_value hI (hrun _ _) (.int _ _) ?_
      have : ((c.toNat : Int).toNat.toUInt8) = c := by simp
      rw [this]
      have key : ∀ l : List UInt8, Lib.index l [c] = Lib.indexByte l c := by
        intro l
        induction l with
        | nil => rfl
        | cons b l ih =>
          unfold Lib.index Lib.indexByte
          rw [ih]
          have : List.isPrefixOf [c] (b :: l) = (b == c) := by
            simp [List.isPrefixOf, Bool.beq_comm]
          rw [this]
      rw [key] at h2
      have e2 : (if Lib.indexByte sa.data.toList c == -1 then (-1 : Int) else Lib.indexByte sa.data.toList c + (0 : Nat)) = Lib.indexByte sa.data.toList c := by
        split
        · rename_i e; exact (eq_of_beq e).symm
        · simp
      rw [e2] at h2
      exact h2
theorem over_no (hI : Inv C ρ s w) (ha : AR ρ args cargs) (h : (ovNo args s).All br R') {g : Nat} (hrun : ∀ x : Value, (callFunc g #[x]).run C.P w = .ok (.value x) w) :
    Gives C.P (Post C ρ s w R') ((callFunc g cargs).run C.P w) := by
  obtain ⟨a, rfl, h⟩ := all_on1 h
  obtain ⟨x, rfl, hx⟩ := ha.single
  exact gives_value hI (hrun x) hx h
end
end Go.Eng
end
section
namespace Go.Eng
def AllT {α : Type} (P : Nm → α → Prop) : Tr α → Prop
  | .leaf => True
  | .node l v r => AllT (fun p => P (.o p)) l ∧ (∀ x, v = some x → P .h x) ∧ AllT (fun p => P (.i p)) r
theorem AllT.get {α : Type} : ∀ {P : Nm → α → Prop} {t : Tr α} {p : Nm} {x : α}, AllT P t → t.get p = some x → P p x
  | _, .leaf, p, x, _, h => by rw [Tr.get_leaf] at h; cases h
  | _, .node _ _ _, .h, x, ht, h => ht.2.1 x h
  | _, .node _ _ _, .o p, x, ht, h => AllT.get (p := p) ht.1 h
  | _, .node _ _ _, .i p, x, ht, h => AllT.get (p := p) ht.2.2 h
theorem AllT.none' {α : Type} {Q : α → Prop} : ∀ y, (none : Option α) = some y → Q y := fun _ h => by cases h
theorem AllT.some' {α : Type} {Q : α → Prop} {x : α} (h : Q x) : ∀ y, (some x : Option α) = some y → Q y := fun _ e => Option.some.inj e ▸ h
def fnB (P : Program) (G : Globals) (F : Func) : Option AFn := if F.name == "runtime.NumGoroutine" then none else fnOf P G F
def fnsOf (P : Program) (G : Globals) (p : Nm) : Option AFn := match P.funcs[p.val - 1]? with
  | some F => fnB P G F
  | none => none
theorem fns_ok {P : Program} {G : Globals} {g : Nat} {fn : AFn} (h : fnsOf P G (nm g) = some fn) : ∃ F c, P.funcs[g]? = some F ∧ F.body = some c ∧ F.name ≠ "runtime.NumGoroutine" ∧ fnOf P G F = some fn := by
  unfold fnsOf at h
  rw [val_nm, Nat.add_sub_cancel] at h
  split at h
  · rename_i F hF
    unfold fnB at h
    split at h
    · cases h
    · rename_i hn
      have h' := h
      unfold fnOf at h'
      split at h'
      · rename_i c hc
        exact ⟨F, c, hF, hc, fun e => hn (by rw [e]; rfl), h⟩
      · cases h'
  · cases h
def FnRow (E : Env) (p : Nm) (k : KF) : Prop := ∃ fn l, E.fns p = some fn ∧ kfun E l fn = some k
theorem fn_row {E : Env} {P : Program} {G : Globals} (hE : ∀ p, E.fns p = fnsOf P G p) {p : Nm} {n : Nat} (hp : p.val = n + 1) {F : Func} (hF : P.funcs[n]? = some F) {l : Live} {k : KF} (he : (fnB P G F).bind (kfun E l) = some k) : FnRow E p k := by
  cases hfn : fnB P G F with
  | none => rw [hfn] at he; cases he
  | some fn =>
    rw [hfn] at he
    refine ⟨fn, l, ?_, he⟩
    rw [hE]
    unfold fnsOf
    rw [hp, Nat.add_sub_cancel, hF]
    exact hfn
theorem tab_of {E : Env} {tab : Tr KF} (h : AllT (FnRow E) tab) : TabOk E tab := fun _ _ hk => AllT.get h hk
def KsRow (P : Program) (p : Nm) (k : Ks) : Prop := ∀ t, nm t = p → (∃ g, ksF P g t = some k) ∧ ∃ i, P.info? t = some i ∧ i.comparable = true
theorem ks_row {P : Program} {p : Nm} {n : Nat} (hp : p.val = n + 1) {k : Ks} (h1 : ksF P 5 n = some k) (h2 : (P.info? n).map (·.comparable) = some true) : KsRow P p k := by
  intro t ht
  have : t = n := by have := congrArg Nm.val ht; rw [val_nm, hp] at this; omega
  subst this
  refine ⟨⟨5, h1⟩, ?_⟩
  cases hi : P.info? t with
  | none => rw [hi] at h2; cases h2
  | some i => rw [hi] at h2; exact ⟨i, rfl, by simpa using h2⟩
theorem ks_of {P : Program} {tab : Tr Ks} (h : AllT (KsRow P) tab) : KsOk P fun t => tab.get (nm t) := fun t _ hk => AllT.get h hk t rfl
def MeRow (P : Program) (p : Nm) (r : String × Nm × Nat × Bool) : Prop := ∀ t, nm t = p → ∃ g, nm g = r.2.1 ∧ r.2.2.1 = 0 ∧ ∀ w v, (Go.method (P.types.size + Made.depth) t v r.1).run P w = .ok (g, v) w
def isPtrT : TypeDesc → Bool
  | .pointer _ => true
  | _ => false
theorem me_row {P : Program} {p : Nm} {n : Nat} (hp : p.val = n + 1) {name : String} {q : Nm} {g : Nat} (hq : nm g = q) {b : Bool} {i : TypeInfo} (hi : P.info? n = some i) {m : Method} (hm : i.methods.find? (·.name == name) = some m) (hpath : m.path = #[]) (hf : m.func = some (g, false)) {d : TypeDesc} (hd : P.underlying n = some d) (hnp : isPtrT d = false) :
    MeRow P p (name, q, 0, b) := by
  intro t ht
  have : t = n := by have := congrArg Nm.val ht; rw [val_nm, hp] at this; omega
  subst this
  refine ⟨g, hq, rfl, fun w v => ?_⟩
  have hs : ∃ k, P.types.size + Made.depth = k + 1 := ⟨P.types.size + Made.depth - 1, by simp [Made.depth]⟩
  obtain ⟨k, hk⟩ := hs
  rw [hk]
  simp only [Go.method, typeInfo]
  simp [hi, hm, hpath, hf, follow, receiverAt, run_underlying hd]
  cases d <;> first
    | (simp [isPtrT] at hnp; done)
    | simp [Place.get]
def meOf (tab : Tr (String × Nm × Nat × Bool)) (t : TypeId) (m : String) : Option (Nm × Nat × Bool) := match tab.get (nm t) with
  | some (n, r) => if m = n then some r else none
  | none => none
def MeOk (P : Program) (me : TypeId → String → Option (Nm × Nat × Bool)) : Prop := ∀ t name f n agg, me t name = some (f, n, agg) → ∃ g, nm g = f ∧
    (n = 0 → ∀ w v, (Go.method (P.types.size + Made.depth) t v name).run P w = .ok (g, v) w) ∧
    (n ≠ 0 → ∃ e, tyOf P e = some (n, agg) ∧ ∀ w a cv, (loadVar e a).run P w = .ok cv w → (Go.method (P.types.size + Made.depth) t (.pointer (some a)) name).run P w = .ok (g, cv) w)
theorem me_of {P : Program} {tab : Tr (String × Nm × Nat × Bool)} (h : AllT (MeRow P) tab) : MeOk P (meOf tab) := by
  intro t name f n agg hme
  unfold meOf at hme
  split at hme
  · rename_i nn r hr
    split at hme
    · rename_i e
      cases hme
      subst e
      obtain ⟨g, h1, h2, h3⟩ := AllT.get h hr t rfl
      exact ⟨g, h1, fun _ => h3, fun hn => absurd h2 hn⟩
    · cases hme
  · cases hme
end Go.Eng
end
section
namespace Go.Eng
def St.start : St := { heap := .leaf, next := .h, drawn := 0 }
def Rho.start (w : World) : Rho := { blk := fun _ => none, imm := fun c => w.heap[c]? }
theorem inv_start (C : Ctx) (w : World) : Inv C (Rho.start w) St.start w where
  obj := fun b l o hb hl => by cases hl
  inj := fun b b' l l' _ _ hl => by cases hl
  imm := fun c o h => h
  sep := fun b l _ hl => by cases hl
  lt := fun b l hl => by cases hl
  fresh := fun b _ => ⟨rfl, Tr.get_leaf b⟩
section
variable {C : Ctx} {E : Env}
theorem run_kernel (hE : EnvOk C E) {tab : Tr KF} (ht : TabOk E tab) {g m n : Nat} {args : List V} {cargs : Array Value} {ρ : Rho} {s : St} {w : World} (hI : Inv C ρ s w) (hG : GR C ρ) (hA : AR ρ args cargs) (hov : E.over (nm g) = none) {q : V × St → Bool}
    (h : allB E.branch q ((kcall E tab m n).f (nm g) args s fun v s => .ret (v, s)) = true) : Calls C.P g cargs w (returns (Post C ρ s w fun r => q r = true)) := by
  obtain ⟨n', h1⟩ := (call_x ht m n).f _ _ _ _ _ (allB_spec h)
  have h2 : (callB E (eval E n') (nm g) args s).All E.branch fun r => q r = true := by
    unfold callF at h1
    rw [hov] at h1
    exact h1
  exact (callB_ok hE (eval_sound hE n') hI hG hA h2).2
theorem run_true (hE : EnvOk C E) {tab : Tr KF} (ht : TabOk E tab) {g m n : Nat} {args : List V} {cargs : Array Value} {w : World} (hG : GR C (Rho.start w)) (hA : AR (Rho.start w) args cargs) (hov : E.over (nm g) = none)
    (h : allB E.branch (fun r => match r.1 with | .bool b => b | _ => false) ((kcall E tab m n).f (nm g) args St.start fun v s => .ret (v, s)) = true) :
    Calls C.P g cargs w fun e w' => e = .returned (.bool true) ∧ w'.os = w.os ∧ w'.tape = w.tape ∧ w'.output = w.output ∧ w.heap.size ≤ w'.heap.size ∧ ∀ c, c < w.heap.size → w'.heap[c]? = w.heap[c]? := by
  refine Calls.mono (run_kernel hE ht (inv_start C w) hG hA hov h) ?_
  intro e w' he
  cases e with
  | returned v =>
    obtain ⟨ρ', x, s', hq, hv, hx⟩ := he
    refine ⟨?_, hx.os, hx.tape, hx.output, hx.size, fun c hc => hx.frame c hc ?_⟩
    · cases x <;> simp at hq
      subst hq
      cases hv
      rfl
    · rintro ⟨b, l, hb, hl, -⟩
      cases hl
  | panicked c => exact he.elim
  | outgrown => exact he.elim
end
end Go.Eng
end
section
namespace Go.Eng
namespace Nm
def add : Nm → Nm → Nm
  | .h, q => q.succ
  | .o p, .h => .i p
  | .i p, .h => .o p.succ
  | .o p, .o q => .o (add p q)
  | .o p, .i q => .i (add p q)
  | .i p, .o q => .i (add p q)
  | .i p, .i q => .o (add p q).succ
theorem val_add : ∀ p q : Nm, (p.add q).val = p.val + q.val
  | .h, q => by simp only [add, val_succ, val]; omega
  | .o p, .h => by simp only [add, val]
  | .i p, .h => by simp only [add, val, val_succ]; omega
  | .o p, .o q => by simp only [add, val, val_add p q]; omega
  | .o p, .i q => by simp only [add, val, val_add p q]; omega
  | .i p, .o q => by simp only [add, val, val_add p q]; omega
  | .i p, .i q => by simp only [add, val, val_succ, val_add p q]; omega
end Nm
mutual
def V.ren (σ : Nm → Nm) : V → V
  | .bool b => .bool b
  | .int k n => .int k n
  | .str s => .str s
  | .nilp => .nilp
  | .ptr b i j => .ptr (σ b) i j
  | .rp cs j => .rp (renL σ cs) j
  | .nils => .nils
  | .row b sz off len clip => .row (σ b) sz off len clip
  | .dsl es clip => .dsl (renL σ es) clip
  | .nilm => .nilm
  | .map b => .map (σ b)
  | .clo fn a b => .clo fn (renL σ a) (renL σ b)
  | .nilf => .nilf
  | .iface t v => .iface t (v.ren σ)
  | .nili => .nili
  | .agg cs => .agg (renL σ cs)
  | .tup vs => .tup (renL σ vs)
  | .it b => .it (σ b)
def renL (σ : Nm → Nm) : List V → List V
  | [] => []
  | v :: vs => v.ren σ :: renL σ vs
end
theorem renL_eq (σ : Nm → Nm) : ∀ l : List V, renL σ l = l.map (V.ren σ)
  | [] => rfl
  | v :: l => by simp only [renL, List.map_cons, renL_eq σ l]
theorem ren_scalar (σ : Nm → Nm) (v : V) : scalarV (v.ren σ) = scalarV v := by cases v <;> simp [V.ren, scalarV]
theorem ren_all (σ : Nm → Nm) {l : List V} (h : l.all scalarV = true) : (l.map (V.ren σ)).all scalarV = true := by
  simp only [List.all_map, List.all_eq_true] at h ⊢
  intro v hv
  exact (ren_scalar σ v).trans (h v hv)
theorem ren_cells (σ : Nm → Nm) (v : V) : (v.ren σ).cells = v.cells.map (V.ren σ) := by cases v <;> simp [V.ren, V.cells, renL_eq]
theorem get_ren {σ : Nm → Nm} {l : List V} {i : Nat} {v : V} (h : (l.map (V.ren σ))[i]? = some v) : ∃ u, l[i]? = some u ∧ v = u.ren σ := by
  rw [List.getElem?_map] at h
  cases hl : l[i]? with
  | none => rw [hl] at h; cases h
  | some u => rw [hl] at h; cases h; exact ⟨u, rfl, rfl⟩
theorem VR.ren {ρ ρ' : Rho} {σ : Nm → Nm} (hb : ∀ b l, ρ.blk b = some l → ρ'.blk (σ b) = some l) (hi : ∀ c o, ρ.imm c = some o → ρ'.imm c = some o) {v : V} {cv : Value} (h : VR ρ v cv) : VR ρ' (v.ren σ) cv := by
  have hcell : ∀ {c off : Nat} {x : Value}, ρ.cell c off = some x → ρ'.cell c off = some x := by
    intro c off x hc
    unfold Rho.cell at *
    split at hc
    · rename_i arr ty fr hi'
      rw [hi _ _ hi']; exact hc
    · cases hc
  induction h with
  | bool b => exact .bool b
  | int k n => exact .int k n
  | str e => exact .str e
  | nilp => exact .nilp
  | ptr e => exact .ptr (hb _ _ e)
  | rp hs hx _ ih =>
    simp only [V.ren, renL_eq]
    refine .rp (ren_all σ hs) (fun k v e => ?_) fun k v cv e a => ?_
    · obtain ⟨u, hu, rfl⟩ := get_ren e
      obtain ⟨cv, hc⟩ := hx k u hu
      exact ⟨cv, hcell hc⟩
    · obtain ⟨u, hu, rfl⟩ := get_ren e
      obtain ⟨cv', hc⟩ := hx k u hu
      rw [hcell hc] at a; cases a
      exact ih k u _ hu hc
  | nils => exact .nils
  | row e h0 h1 h2 h3 h4 => exact .row (hb _ _ e) h0 h1 h2 h3 h4
  | dsl h1 h2 h3 h4 h5 hx _ ih =>
    rename_i es clip a len cap sz _
    simp only [V.ren, renL_eq]
    refine .dsl (sz := sz) (by simpa using h1) h2 h3 (fun hne => h4 (fun e => hne (by rw [e]; rfl))) (fun i e he => ?_) (fun i e j v he hv => ?_) fun i e j v cv he hv a' => ?_
    · obtain ⟨u, hu, rfl⟩ := get_ren he
      obtain ⟨k1, k2⟩ := h5 i u hu
      rw [ren_cells]
      exact ⟨by simpa using k1, ren_all σ k2⟩
    · obtain ⟨u, hu, rfl⟩ := get_ren he
      rw [ren_cells] at hv
      obtain ⟨x, hx', rfl⟩ := get_ren hv
      obtain ⟨cv, hc⟩ := hx i u j x hu hx'
      exact ⟨cv, hcell hc⟩
    · obtain ⟨u, hu, rfl⟩ := get_ren he
      rw [ren_cells] at hv
      obtain ⟨x, hx', rfl⟩ := get_ren hv
      obtain ⟨cv', hc⟩ := hx i u j x hu hx'
      rw [hcell hc] at a'; cases a'
      exact ih i u j x _ hu hx' hc
  | nilm => exact .nilm
  | map e => exact .map (hb _ _ e)
  | clo h1 h2 h3 _ _ ih ih' =>
    simp only [V.ren, renL_eq]
    refine .clo h1 (by simpa using h2) (by simpa using h3) (fun i v cv e a => ?_) fun i v cv e a => ?_
    · obtain ⟨u, hu, rfl⟩ := get_ren e; exact ih i u cv hu a
    · obtain ⟨u, hu, rfl⟩ := get_ren e; exact ih' i u cv hu a
  | yld e => simp only [V.ren, renL_eq, List.map_cons, List.map_nil]; exact .yld (hb _ _ e)
  | nilf => exact .nilf
  | iface _ ih => exact .iface ih
  | nili => exact .nili
  | agg hs e _ ih =>
    simp only [V.ren, renL_eq]
    refine .agg (ren_all σ hs) (by simpa using e) fun i v cv e a => ?_
    obtain ⟨u, hu, rfl⟩ := get_ren e; exact ih i u cv hu a
  | tup e _ ih =>
    simp only [V.ren, renL_eq]
    refine .tup (by simpa using e) fun i v cv e a => ?_
    obtain ⟨u, hu, rfl⟩ := get_ren e; exact ih i u cv hu a
  | it e => exact .it (hb _ _ e)
structure Row where
  b : Nm
  es : List (List V)
  sz : Nat
  ty : TypeId
def renR (σ : Nm → Nm) (es : List (List V)) : List (List V) := es.map (List.map (V.ren σ))
theorem OR.ren {C : Ctx} {ρ ρ' : Rho} {σ : Nm → Nm} (hb : ∀ b l, ρ.blk b = some l → ρ'.blk (σ b) = some l) (hi : ∀ c o, ρ.imm c = some o → ρ'.imm c = some o) {l : Loc} {es : List (List V)} {sz : Nat} {ty : TypeId} {w : World} (h : OR C ρ l (.row es sz ty) w) : OR C ρ' l (.row (renR σ es) sz ty) w := by
  obtain ⟨h1, h2, h3, h4, arr, fr, h5, h6, h7, h8⟩ := h
  refine ⟨h1, h2, by simpa [renR] using h3, fun e he => ?_, arr, fr, h5, h6, h7, fun i e he j x hx => ?_⟩
  · simp only [renR, List.mem_map] at he
    obtain ⟨u, hu, rfl⟩ := he
    exact ⟨by simpa using (h4 u hu).1, ren_all σ (h4 u hu).2⟩
  · simp only [renR, List.getElem?_map] at he
    cases hes : es[i]? with
    | none => rw [hes] at he; cases he
    | some u =>
      rw [hes] at he; cases he
      obtain ⟨y, hy, rfl⟩ := get_ren hx
      obtain ⟨cv, a, b⟩ := h8 i u hes j y hy
      exact ⟨cv, a, b.ren hb hi⟩
def lay (σ : Nm → Nm) : List Row → Tr O → Tr O
  | [], H => H
  | r :: rs, H => lay σ rs (H.set (some (.row (renR σ r.es) r.sz r.ty)) (σ r.b))
theorem lay_other {σ : Nm → Nm} {b : Nm} : ∀ (rs : List Row) (H : Tr O), (∀ r ∈ rs, σ r.b ≠ b) → (lay σ rs H).get b = H.get b
  | [], _, _ => rfl
  | r :: rs, H, h => by
    simp only [lay]
    rw [lay_other rs _ fun r' hr' => h r' (by simp [hr']), Tr.get_set, if_neg (h r (by simp))]
theorem lay_some {σ : Nm → Nm} {b : Nm} {o : O} : ∀ (rs : List Row) (H : Tr O), (lay σ rs H).get b = some o → H.get b = some o ∨ ∃ r ∈ rs, σ r.b = b ∧ o = .row (renR σ r.es) r.sz r.ty
  | [], _, h => .inl h
  | r :: rs, H, h => by
    simp only [lay] at h
    rcases lay_some rs _ h with h | ⟨r', h1, h2⟩
    · rw [Tr.get_set] at h
      split at h
      · rename_i e
        cases h
        exact .inr ⟨r, by simp, e, rfl⟩
      · exact .inl h
    · exact .inr ⟨r', by simp [h1], h2⟩
section
variable {C : Ctx} {ρ : Rho} {s : St} {w : World}
open Classical in
noncomputable def Rho.join (ρ ρ' : Rho) (n : Nm) : Rho where
  blk := fun b => if b.val < n.val then ρ.blk b else if h : ∃ c : Nm, n.add c = b then ρ'.blk (Classical.choose h) else none
  imm := ρ'.imm
theorem add_inj {n b c : Nm} (h : n.add b = n.add c) : b = c := Nm.val_inj (by have := congrArg Nm.val h; rw [Nm.val_add, Nm.val_add] at this; omega)
theorem join_old {ρ ρ' : Rho} {n b : Nm} (h : b.val < n.val) : (ρ.join ρ' n).blk b = ρ.blk b := by simp only [Rho.join]; rw [if_pos h]
theorem join_new {ρ ρ' : Rho} {n b : Nm} : (ρ.join ρ' n).blk (n.add b) = ρ'.blk b := by
  have hx : ∃ c : Nm, n.add c = n.add b := ⟨b, rfl⟩
  have hn : ¬ (n.add b).val < n.val := by rw [Nm.val_add]; omega
  simp only [Rho.join]
  rw [if_neg hn, dif_pos hx, add_inj (Classical.choose_spec hx)]
theorem join_some {ρ ρ' : Rho} {n b : Nm} {l : Loc} (h : (ρ.join ρ' n).blk b = some l) : (b.val < n.val ∧ ρ.blk b = some l) ∨ ∃ c, n.add c = b ∧ ρ'.blk c = some l := by
  simp only [Rho.join] at h
  split at h
  · rename_i hlt; exact .inl ⟨hlt, h⟩
  · split at h
    · rename_i hx; exact .inr ⟨_, Classical.choose_spec hx, h⟩
    · cases h
def laid (s : St) (rows : List Row) (k : Nm) : St := { heap := lay s.next.add rows s.heap, next := s.next.add k, drawn := s.drawn }
theorem Ext.laid (hI : Inv C ρ s w) {ρ' : Rho} {s' : St} {w' : World} (hx : Ext C ρ.bare St.start w ρ' s' w') {rows : List Row} {k : Nm} (hk : s'.next = k) (hr : ∀ r ∈ rows, s'.heap.get r.b = some (.row r.es r.sz r.ty)) :
    Ext C ρ s w (ρ.join ρ' s.next) (Eng.laid s rows k) w' := by
  have hnone : ∀ c, ¬ Owns ρ.bare St.start c := by
    rintro c ⟨b, l, -, hl, -⟩; cases hl
  have himm : ∀ c o, ρ'.imm c = some o → ρ.imm c = some o ∨ w.heap.size ≤ c := fun c o h => by
    rcases hx.imm c o h with h | h | h
    · exact .inl h
    · exact .inr h
    · exact (hnone c h).elim
  have hframe : ∀ c, c < w.heap.size → w'.heap[c]? = w.heap[c]? := fun c hc => hx.frame c hc (hnone c)
  have hnew : ∀ b l, s'.heap.get b ≠ none → ρ'.blk b = some l → w.heap.size ≤ l.c := fun b l hb hl => by
    refine Nat.le_of_not_lt fun hlt => hnone l.c (hx.own l.c hlt ⟨b, l, hb, hl, rfl⟩)
  have hlt' : ∀ b l, ρ.blk b = some l → b.val < s.next.val := fun b l hl => by
    refine Nat.lt_of_not_le fun hle => ?_
    rw [(hI.fresh b hle).1] at hl; cases hl
  have hle : ρ.Le (ρ.join ρ' s.next) := ⟨fun b l hl => by rw [join_old (hlt' b l hl)]; exact hl, fun c o h => hx.le.imm c o h⟩
  have hheap : ∀ b o, (Eng.laid s rows k).heap.get b = some o → (b.val < s.next.val ∧ s.heap.get b = some o) ∨ ∃ r ∈ rows, s.next.add r.b = b ∧ o = .row (renR s.next.add r.es) r.sz r.ty := by
    intro b o h
    rcases lay_some rows s.heap h with h | h
    · refine .inl ⟨Nat.lt_of_not_le fun hle => ?_, h⟩
      rw [(hI.fresh b hle).2] at h; cases h
    · exact .inr h
  have hold : ∀ b, b.val < s.next.val → (Eng.laid s rows k).heap.get b = s.heap.get b := fun b hb => lay_other rows s.heap fun r _ e => by
    have := congrArg Nm.val e; rw [Nm.val_add] at this; omega
  have live : ∀ b l, (Eng.laid s rows k).heap.get b ≠ none → (ρ.join ρ' s.next).blk b = some l → (b.val < s.next.val ∧ s.heap.get b ≠ none ∧ ρ.blk b = some l) ∨ ∃ c, s.next.add c = b ∧ s'.heap.get c ≠ none ∧ ρ'.blk c = some l := by
    intro b l hb hl
    cases hh : (Eng.laid s rows k).heap.get b with
    | none => exact absurd hh hb
    | some o =>
      rcases hheap b o hh with ⟨h1, h2⟩ | ⟨r, h1, h2, -⟩
      · rw [join_old h1] at hl
        exact .inl ⟨h1, by rw [h2]; simp, hl⟩
      · subst h2
        rw [join_new] at hl
        exact .inr ⟨r.b, rfl, by rw [hr r h1]; simp, hl⟩
  refine ⟨⟨fun b l o hb hl => ?_, fun b b' l l' hb hb' hl hl' hc => ?_, fun c o hc => ?_, fun b l hb hl => ?_, fun b l hl => ?_, fun b hb => ?_⟩, hle, hx.os, hx.tape, hx.output, hx.size, fun c hc _ => hframe c hc, fun c hc ho => ?_, ?_, fun b hb hlt => ⟨hold b hlt, by rw [join_old hlt]; exact hb⟩, fun c o h => (himm c o h).elim .inl fun h => .inr (.inl h)⟩
  · rcases hheap b o hb with ⟨h1, h2⟩ | ⟨r, h1, h2, rfl⟩
    · rw [join_old h1] at hl
      exact (hI.obj b l o h2 hl).of_block hle (hframe _ (hI.lt b l hl))
    · subst h2
      rw [join_new] at hl
      exact OR.ren (ρ := ρ') (ρ' := ρ.join ρ' s.next) (σ := s.next.add) (fun b l h => by rw [join_new]; exact h) (fun c o h => h) (hx.inv.obj r.b l _ (hr r h1) hl)
  · rcases live b l hb hl with ⟨h1, h2, h3⟩ | ⟨x, rfl, h2, h3⟩ <;> rcases live b' l' hb' hl' with ⟨k1, k2, k3⟩ | ⟨y, rfl, k2, k3⟩
    · exact hI.inj b b' l l' h2 k2 h3 k3 hc
    · have := hI.lt b l h3; have := hnew y l' k2 k3; omega
    · have := hI.lt b' l' k3; have := hnew x l h2 h3; omega
    · rw [hx.inv.inj x y l l' h2 k2 h3 k3 hc]
  · exact hx.inv.imm c o hc
  · rcases live b l hb hl with ⟨h1, h2, h3⟩ | ⟨x, rfl, h2, h3⟩
    · cases hc : ρ'.imm l.c with
      | none => exact hc
      | some o =>
        rcases himm l.c o hc with h | h
        · rw [hI.sep b l h2 h3] at h; cases h
        · have := hI.lt b l h3; omega
    · exact hx.inv.sep x l h2 h3
  · rcases join_some hl with ⟨-, h⟩ | ⟨c, -, h⟩
    · exact Nat.lt_of_lt_of_le (hI.lt b l h) hx.size
    · exact hx.inv.lt c l h
  · have hb' : s.next.val + k.val ≤ b.val := by
      have : (Eng.laid s rows k).next.val = s.next.val + k.val := Nm.val_add _ _
      omega
    refine ⟨?_, ?_⟩
    · cases hj : (ρ.join ρ' s.next).blk b with
      | none => rfl
      | some l =>
        rcases join_some hj with ⟨h1, -⟩ | ⟨c, rfl, h⟩
        · omega
        · rw [Nm.val_add] at hb'
          rw [(hx.inv.fresh c (by rw [hk]; omega)).1] at h; cases h
    · cases hh : (Eng.laid s rows k).heap.get b with
      | none => rfl
      | some o =>
        rcases hheap b o hh with ⟨h1, -⟩ | ⟨r, h1, rfl, -⟩
        · omega
        · rw [Nm.val_add] at hb'
          have := (hx.inv.fresh r.b (by rw [hk]; omega)).2
          rw [hr r h1] at this; cases this
  · obtain ⟨b, l, hb, hl, rfl⟩ := ho
    rcases live b l hb hl with ⟨h1, h2, h3⟩ | ⟨x, rfl, h2, h3⟩
    · exact ⟨b, l, h2, h3, rfl⟩
    · have := hnew x l h2 h3; omega
  · have : (Eng.laid s rows k).next.val = s.next.val + k.val := Nm.val_add _ _
    omega
def eqbL : List (List V) → List (List V) → Bool
  | [], [] => true
  | a :: x, b :: y => match eqbVs a b with
    | true => eqbL x y
    | false => false
  | _, _ => false
theorem eqbL_sound : ∀ {a b : List (List V)}, eqbL a b = true → a = b
  | [], [], _ => rfl
  | [], _ :: _, h => by cases h
  | _ :: _, [], h => by cases h
  | a :: x, b :: y, h => by
    simp only [eqbL] at h
    split at h
    · rename_i e; rw [eqbVs_sound e, eqbL_sound h]
    · cases h
def eqRow (H : Tr O) (r : Row) : Bool := match H.get r.b with
  | some (.row es sz ty) => eqbL es r.es && Nat.beq sz r.sz && Nat.beq ty r.ty
  | _ => false
def chk (v : V) (rows : List Row) (k : Nm) (r : V × St) : Bool := eqbV r.1 v && rows.all (eqRow r.2.heap) && r.2.next.eqb k
theorem chk_spec {v : V} {rows : List Row} {k : Nm} {r : V × St} (h : chk v rows k r = true) : r.1 = v ∧ (∀ x ∈ rows, r.2.heap.get x.b = some (.row x.es x.sz x.ty)) ∧ r.2.next = k := by
  simp only [chk, Bool.and_eq_true, List.all_eq_true] at h
  obtain ⟨⟨h1, h2⟩, h3⟩ := h
  refine ⟨eqbV_sound h1, fun x hx => ?_, Nm.eqb_iff.1 h3⟩
  have := h2 x hx
  unfold eqRow at this
  split at this
  · rename_i es sz ty he
    simp only [Bool.and_eq_true] at this
    rw [he, eqbL_sound this.1.1, Nat.eq_of_beq_eq_true this.1.2, Nat.eq_of_beq_eq_true this.2]
  · cases this
def memo (v : V) (rows : List Row) (k : Nm) (args : List V) (s : St) : T (V × St) := match args with
  | [] => .ret (v.ren s.next.add, Eng.laid s rows k)
  | _ => .fail
theorem inv_bare (hI : Inv C ρ s w) : Inv C ρ.bare St.start w where
  obj := fun b l o hb hl => by cases hl
  inj := fun b b' l l' _ _ hl => by cases hl
  imm := hI.imm
  sep := fun b l _ hl => by cases hl
  lt := fun b l hl => by cases hl
  fresh := fun b _ => ⟨rfl, Tr.get_leaf b⟩
theorem memo_ok {E : Env} (hE : EnvOk C E) {tab : Tr KF} (ht : TabOk E tab) {g m n : Nat} (hov : E.over (nm g) = none) {v : V} {rows : List Row} {k : Nm} (h : allB E.branch (chk v rows k) ((kcall E tab m n).f (nm g) [] St.start fun v s => .ret (v, s)) = true)
    {br : Nat} {R' : V × St → Prop} {args : List V} {cargs : Array Value} (hI : Inv C ρ s w) (hG : GR C ρ) (hA : AR ρ args cargs) (hm : (memo v rows k args s).All br R') : Gives C.P (Post C ρ s w R') ((callFunc g cargs).run C.P w) := by
  unfold memo at hm
  split at hm
  · obtain rfl : cargs = #[] := by
      have := hA.1
      exact Array.eq_empty_of_size_eq_zero this.symm
    obtain ⟨n', h1⟩ := (call_x ht m n).f _ _ _ _ _ (allB_spec h)
    have h2 : (callB E (eval E n') (nm g) [] St.start).All E.branch fun r => chk v rows k r = true := by
      unfold callF at h1
      rw [hov] at h1
      exact h1
    obtain ⟨e1, e2⟩ := callB_ok hE (eval_sound hE n') (inv_bare hI) hG.bare (AR.nil (ρ := ρ.bare)) h2
    rw [e1]
    refine Calls.mono e2 ?_
    intro e w' he
    cases e with
    | returned cv =>
      obtain ⟨ρ', x, s', hq, hv, hx⟩ := he
      obtain ⟨k1, k2, k3⟩ := chk_spec hq
      simp only at k1 k2 k3
      subst k1
      have hx' := Ext.laid hI hx k3 k2
      refine ⟨ρ.join ρ' s.next, _, _, hm, VR.ren (ρ := ρ') (σ := s.next.add) (ρ' := ρ.join ρ' s.next) (fun b l h => by rw [join_new]; exact h) (fun c o h => h) hv, hx'⟩
    | panicked c => exact he.elim
    | outgrown => exact he.elim
  · exact hm.elim
noncomputable def layK (n : Nm) (rows : List Row) : Tr O → (Tr O → R) → R :=
  @List.rec Row (fun _ => Tr O → (Tr O → R) → R) (fun H k => k H) (fun r _ ih H k => setT (some (.row (renR n.add r.es) r.sz r.ty)) (n.add r.b) H fun H => ih H k) rows
noncomputable def memoX (v : V) (rows : List Row) (k : Nm) (args : List V) (s : St) : T (V × St) :=
  @List.rec V (fun _ => R) (onSt s fun H n d => layK n rows H fun H => .ret (v.ren n.add, ⟨H, n.add k, d⟩)) (fun _ _ _ => .fail) args
theorem layK_eq (n : Nm) : ∀ (rows : List Row) (H : Tr O) (k : Tr O → R), layK n rows H k = k (lay n.add rows H)
  | [], _, _ => rfl
  | r :: rows, H, k => by
    show setT _ _ H (fun H => layK n rows H k) = _
    rw [setT_eq, layK_eq n rows]; rfl
theorem memoX_eq (v : V) (rows : List Row) (k : Nm) (args : List V) (s : St) : memoX v rows k args s = memo v rows k args s := by
  cases args with
  | nil =>
    obtain ⟨H, n, d⟩ := s
    show layK n rows H _ = _
    rw [layK_eq]; rfl
  | cons a l => rfl
end
end Go.Eng
end
section
namespace Go.Eng
theorem laid_mem {P : Program} {w : World} : ∀ {l : List (String × DataW Unit)} {ps : List MemPlace}, DataW.LaidVars P w l ps → ∀ n d, (n, d) ∈ l → ∃ g t cs fuel p, P.globalNamed n = some g ∧ (P.globals[g]?).map (·.type) = some t ∧ w.var? P n = some cs ∧ DataW.trod (fun _ => ()) P w 0 (fun _ => true) false fuel t cs.toList = some (d, p)
  | [], _, _, n, d, hm => by simp at hm
  | (n', d') :: l, ps, h, n, d, hm => by
    obtain ⟨g, t, cs, fuel, p, q, h1, h2, h3, h4, h5, -⟩ := h
    rcases List.mem_cons.1 hm with e | hm
    · cases e; exact ⟨g, t, cs, fuel, p, h1, h2, h3, h4⟩
    · exact laid_mem h5 n d hm
theorem cell_start {w : World} {a : Addr} {v : Value} (h : w.cell? a = some v) : a.spot = none ∧ (Rho.start w).cell a.block a.off = some v := by
  unfold World.cell? at h
  split at h
  · rename_i c t f hb
    split at h
    · cases h
    · rename_i hs
      refine ⟨by simpa using hs, ?_⟩
      simp only [Rho.cell, Rho.start, hb]
      exact h
  · cases h
theorem cells_one {w : World} {a : Addr} {cs : List Value} (h : w.cells? 0 a 1 = some cs) : ∃ v, cs = [v] ∧ w.cell? (a.add 0) = some v := by
  unfold World.cells? at h
  rw [if_pos (Nat.zero_le _)] at h
  have : List.range 1 = [0] := rfl
  rw [this] at h
  cases hc : w.cell? (a.add 0) with
  | none => simp [hc] at h
  | some v => simp [hc] at h; exact ⟨v, h.symm, rfl⟩
theorem texts_of {P : Program} {w : World} {fuel : Nat} {t e : TypeId} {cs : Array Value} {strs : List (List UInt8)} {p : List MemPlace} (ht : P.underlying t = some (.slice e)) (he : P.underlying e = some .string) (hc : P.cellsOf e = 1)
    (h : DataW.trod (fun _ => ()) P w 0 (fun _ => true) false fuel t cs.toList = some (.slice (strs.map fun s => .lit (.string s)) [], p)) :
    ∃ cv, cs = #[cv] ∧ VR (Rho.start w).bare (.dsl (strs.map fun s => .str (s.map UInt8.toNat)) true) cv := by
  rcases DataW.trod_slice ht h with ⟨_, hx⟩ | ⟨a, len, cap, el, rs, m, rfl, hcs, hx, _, hlc, _, hel, helem, hsp, _⟩
  · cases hx
  have e0 := congrArg Prod.fst hx
  simp only [DataW.slice.injEq] at e0
  obtain ⟨eE, eR⟩ := e0
  have hrs : rs = [] := by simpa using eR.symm
  have hcap : cap = len := by
    have := (hsp rfl).1
    rw [hrs] at this
    simp only [List.length_nil] at this
    omega
  subst hcap
  have hlen : strs.length = cap := by
    have := congrArg List.length eE
    simp only [List.length_map] at this
    omega
  have hcell : ∀ (i : Nat) (s : List UInt8), strs[i]? = some s → ∃ b : ByteArray, w.cell? (a.add i) = some (.string b) ∧ b.data.toList = s := by
    intro i s hs
    have hi : i < cap := by have := (List.getElem?_eq_some_iff.1 hs).1; omega
    have h1 := helem i hi
    rw [hc, Nat.mul_one] at h1
    obtain ⟨b, hb⟩ : ∃ b, el[i]? = some b := ⟨el[i]'(by omega), List.getElem?_eq_getElem (by omega)⟩
    rw [hb] at h1
    obtain ⟨ce, hce, hte⟩ := Option.bind_eq_some_iff.1 h1
    obtain ⟨z, hz, hbz, _⟩ := DataW.trod_string he hte
    obtain ⟨v, hv, hcv⟩ := cells_one hce
    rw [hz] at hv
    cases hv
    have e1 : (a.add i).add 0 = a.add i := by simp [Addr.add]
    rw [e1] at hcv
    refine ⟨z, hcv, ?_⟩
    have h2 := congrArg (fun l => l[i]?) eE
    simp only [List.getElem?_map, hs, hb, Option.map_some, Option.some.injEq] at h2
    rw [hbz] at h2
    simp only [DataW.lit.injEq, Lit.string.injEq] at h2
    exact h2.symm
  have hadd : ∀ i, (a.add i).block = a.block ∧ (a.add i).off = a.off + i := fun i => by
    unfold Addr.add
    split
    · rename_i e; subst e; exact ⟨rfl, rfl⟩
    · exact ⟨rfl, rfl⟩
  have hrho : ∀ (i : Nat) (s : List UInt8), strs[i]? = some s → ∃ b : ByteArray, (Rho.start w).cell a.block (a.off + i) = some (.string b) ∧ b.data.toList = s := by
    intro i s hs
    obtain ⟨b, h1, h2⟩ := hcell i s hs
    obtain ⟨-, h3⟩ := cell_start h1
    rw [(hadd i).1, (hadd i).2] at h3
    exact ⟨b, h3, h2⟩
  have hget : ∀ {i : Nat} {x : V}, (strs.map fun s => V.str (s.map UInt8.toNat))[i]? = some x → ∃ s, strs[i]? = some s ∧ x = .str (s.map UInt8.toNat) := by
    intro i x hx
    rw [List.getElem?_map] at hx
    cases hs : strs[i]? with
    | none => rw [hs] at hx; cases hx
    | some s => rw [hs] at hx; cases hx; exact ⟨s, rfl, rfl⟩
  refine ⟨.slice (some a) cap cap, Array.ext' (by simpa using hcs), .dsl (sz := 1) (by simpa using hlen) (Nat.le_refl _) (fun _ => rfl) (fun hne => ?_) (fun i x hx => ?_) (fun i x j v hx hv => ?_) (fun i x j v cv hx hv ha => ?_)⟩
  · have hs : strs ≠ [] := fun e => hne (by rw [e]; rfl)
    obtain ⟨s, l, rfl⟩ := List.exists_cons_of_ne_nil hs
    obtain ⟨b, h1, -⟩ := hcell 0 s rfl
    have e1 : a.add 0 = a := by simp [Addr.add]
    rw [e1] at h1
    exact (cell_start h1).1
  · obtain ⟨s, hs, rfl⟩ := hget hx
    exact ⟨rfl, rfl⟩
  · obtain ⟨s, hs, rfl⟩ := hget hx
    obtain ⟨b, h1, h2⟩ := hrho i s hs
    cases j with
    | zero => exact ⟨_, by simpa [Rho.bare, Rho.cell] using h1⟩
    | succ j => simp [V.cells] at hv
  · obtain ⟨s, hs, rfl⟩ := hget hx
    obtain ⟨b, h1, h2⟩ := hrho i s hs
    cases j with
    | zero =>
      simp only [V.cells, List.getElem?_cons_zero, Option.some.injEq] at hv
      subst hv
      have h3 : (Rho.start w).bare.cell a.block (a.off + i * 1 + 0) = some (.string b) := by simpa [Rho.bare, Rho.cell] using h1
      rw [h3] at ha
      cases ha
      exact .str (by rw [h2])
    | succ j => simp [V.cells] at hv
theorem laid_texts {P : Program} {laid : List (String × DataW Unit)} {w : World} (h : laidMet P laid w) {n : String} {strs : List (List UInt8)} (hm : (n, .slice (strs.map fun s => .lit (.string s)) []) ∈ laid) {g : Nat} {t e : TypeId} (hg : P.globalNamed n = some g) (hy : (P.globals[g]?).map (·.type) = some t)
    (ht : P.underlying t = some (.slice e)) (he : P.underlying e = some .string) (hc : P.cellsOf e = 1) :
    ([V.dsl (strs.map fun s => .str (s.map UInt8.toNat)) true]).all scalarV = true ∧ LR (Rho.start w).bare [.dsl (strs.map fun s => .str (s.map UInt8.toNat)) true] (fun k => (Rho.start w).cell g k) := by
  obtain ⟨ps, hl, -⟩ := h
  obtain ⟨g', t', cs, fuel, p, h1, h2, h3, h4⟩ := laid_mem hl _ _ hm
  obtain rfl := Option.some.inj (hg.symm.trans h1)
  obtain rfl := Option.some.inj (hy.symm.trans h2)
  obtain ⟨cv, rfl, hv⟩ := texts_of ht he hc h4
  refine ⟨rfl, fun i v hi => ?_⟩
  cases i with
  | zero =>
    simp only [List.getElem?_cons_zero, Option.some.injEq] at hi
    subst hi
    refine ⟨cv, ?_, hv⟩
    unfold World.var? at h3
    rw [hg] at h3
    simp only [Option.bind_some] at h3
    split at h3
    · rename_i cs' t f hb
      cases h3
      simp only [Rho.cell, Rho.start, hb]
      rfl
    · cases h3
  | succ i => simp at hi
end Go.Eng
end
