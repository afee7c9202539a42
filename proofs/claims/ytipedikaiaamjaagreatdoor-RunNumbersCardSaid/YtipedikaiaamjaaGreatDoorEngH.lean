/- The contract of errors.As. -/
import Derived.Test.YtipedikaiaamjaaGreatDoorEngE
namespace Go.Eng
open Go
def ovAs (tS tP tT : Nat) (args : List V) (s : St) : T (V × St) := match args with
  | [.iface a (.ptr b i j), .iface c p] => match Nat.beq a tS && Nat.beq c tP with
    | true => match loadCells s.heap 1 (.ptr b i (j + 1)) with
      | some [.iface t v] => match v with
        | .int .i64 n => match Nat.beq t tT with
          | true => match store s 1 p (.int .i64 n) with
            | some s' => .ret (.bool true, s')
            | none => .fail
          | false => .fail
        | _ => .fail
      | _ => .fail
    | false => .fail
  | _ => .fail
def ErrT (g r c t : Nat) (imm : Nat → Option Obj) : Prop := ∃ ty fr, imm g = some (.cells #[.iface r (.agg #[.pointer (some ⟨c, t, none⟩)])] ty fr)
theorem ErrT.mono {g r c t : Nat} {f f' : Nat → Option Obj} (h : ∀ c o, f c = some o → f' c = some o) : ErrT g r c t f → ErrT g r c t f' := fun ⟨ty, fr, e⟩ => ⟨ty, fr, h _ _ e⟩
end Go.Eng
