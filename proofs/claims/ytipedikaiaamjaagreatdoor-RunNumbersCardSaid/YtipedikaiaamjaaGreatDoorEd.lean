/- What run.Evaluate comes to: the statements. -/
import Derived.Test.YtipedikaiaamjaaGreatDoorSb
set_option linter.unusedVariables false
set_option linter.unusedSimpArgs false
set_option maxRecDepth 20000
set_option maxHeartbeats 4000000
namespace Go.Eng
open Go.Proofs
inductive EvF where
  | fAdd
  | fMul
  | fAnd
  | fOr
  | fXor
  | fSub
  | fDivs
  | fRems
  | fDivu
  | fRemu
  | fTrunc
  | fExts
  | fExtu
def EvF.name : EvF → List Nat
  | .fAdd => [97, 114, 105, 116, 104, 46, 97, 100, 100]
  | .fMul => [97, 114, 105, 116, 104, 46, 109, 117, 108]
  | .fAnd => [97, 114, 105, 116, 104, 46, 97, 110, 100]
  | .fOr => [97, 114, 105, 116, 104, 46, 111, 114]
  | .fXor => [97, 114, 105, 116, 104, 46, 120, 111, 114]
  | .fSub => [97, 114, 105, 116, 104, 46, 115, 117, 98]
  | .fDivs => [97, 114, 105, 116, 104, 46, 100, 105, 118, 115]
  | .fRems => [97, 114, 105, 116, 104, 46, 114, 101, 109, 115]
  | .fDivu => [97, 114, 105, 116, 104, 46, 100, 105, 118, 117]
  | .fRemu => [97, 114, 105, 116, 104, 46, 114, 101, 109, 117]
  | .fTrunc => [97, 114, 105, 116, 104, 46, 116, 114, 117, 110, 99]
  | .fExts => [97, 114, 105, 116, 104, 46, 101, 120, 116, 115]
  | .fExtu => [97, 114, 105, 116, 104, 46, 101, 120, 116, 117]
noncomputable def ev2 : EvF → Nat → Int → Int → Option (Bool × V)
  | .fAdd, b, n, k => some (fitB b n && (fitB b k && true), .tup [.int .i64 (wrapB b (IntKind.wrap .i64 (n + k))), .int .i64 0, .int .i64 0])
  | .fMul, b, n, k => some (fitB b n && (fitB b k && true), .tup [.int .i64 (wrapB b (IntKind.wrap .i64 (n * k))), .int .i64 0, .int .i64 0])
  | .fAnd, b, n, k => some (fitB b n && (fitB b k && true), .tup [.int .i64 (wrapB b (bitN Nat.land n k)), .int .i64 0, .int .i64 0])
  | .fOr, b, n, k => some (fitB b n && (fitB b k && true), .tup [.int .i64 (wrapB b (bitN Nat.lor n k)), .int .i64 0, .int .i64 0])
  | .fXor, b, n, k => some (fitB b n && (fitB b k && true), .tup [.int .i64 (wrapB b (bitN Nat.xor n k)), .int .i64 0, .int .i64 0])
  | .fSub, b, n, k => some (fitB b n && (fitB b k && true), .tup [.int .i64 (wrapB b (IntKind.wrap .i64 (n - k))), .int .i64 0, .int .i64 0])
  | .fDivs, b, n, k => some (fitB b n && (fitB b k && @Bool.rec (fun _ => Bool) (!decide (unsB b k = 0) && true) true (decide (k = 0))), vcond (decide (k = 0)) (.tup [.int .i64 0, .int .i64 1, .int .i64 0]) (.tup [.int .i64 (wrapB b (divN .ds b n k)), .int .i64 0, .int .i64 0]))
  | .fRems, b, n, k => some (fitB b n && (fitB b k && @Bool.rec (fun _ => Bool) (!decide (unsB b k = 0) && true) true (decide (k = 0))), vcond (decide (k = 0)) (.tup [.int .i64 0, .int .i64 1, .int .i64 0]) (.tup [.int .i64 (wrapB b (divN .rs b n k)), .int .i64 0, .int .i64 0]))
  | .fDivu, b, n, k => some (fitB b n && (fitB b k && @Bool.rec (fun _ => Bool) (!decide (unsB b k = 0) && true) true (decide (k = 0))), vcond (decide (k = 0)) (.tup [.int .i64 0, .int .i64 1, .int .i64 0]) (.tup [.int .i64 (wrapB b (divN .du b n k)), .int .i64 0, .int .i64 0]))
  | .fRemu, b, n, k => some (fitB b n && (fitB b k && @Bool.rec (fun _ => Bool) (!decide (unsB b k = 0) && true) true (decide (k = 0))), vcond (decide (k = 0)) (.tup [.int .i64 0, .int .i64 1, .int .i64 0]) (.tup [.int .i64 (wrapB b (divN .ru b n k)), .int .i64 0, .int .i64 0]))
  | _, _, _, _ => none
noncomputable def evT (args : List V) : Option (Bool × V) := runT ((kcall kE3 ktab 10000 3000).f (nm 6) args St.start fun v s => .ret (v, s))
def P2 (f : EvF) (b : Nat) : Prop := ∀ n k : Int, evT [opV f.name b, .dsl [.str (tyS b), .str (tyS b)] true, .dsl [.int .i64 n, .int .i64 k] true] = ev2 f b n k
def ev1r : EvF → Nat → Nat
  | .fTrunc, b => b
  | _, b => b + 1
def ev1o : EvF → Nat → Nat
  | .fTrunc, b => b + 1
  | _, b => b
def ev1v : EvF → Nat → Int → V
  | .fTrunc, b, n => .tup [.int .i64 (wrapB b n), .int .i64 0, .int .i64 0]
  | .fExts, b, n => .tup [.int .i64 (wrapB (b + 1) n), .int .i64 0, .int .i64 0]
  | _, b, n => .tup [.int .i64 (wrapB (b + 1) (IntKind.wrap .i64 (unsB b n))), .int .i64 0, .int .i64 0]
def P1 (f : EvF) (b : Nat) : Prop := ∀ n : Int, evT [opV f.name (ev1r f b), .dsl [.str (tyS (ev1o f b))] true, .dsl [.int .i64 n] true] = some (fitB (ev1o f b) n && true, ev1v f b n)
end Go.Eng
