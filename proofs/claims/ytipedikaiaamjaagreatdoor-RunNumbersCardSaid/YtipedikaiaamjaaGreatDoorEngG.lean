/- The contract of Add64. -/
import Derived.Test.YtipedikaiaamjaaGreatDoorEngD
import Derived.Test.YtipedikaiaamjaaGreatDoorEngE
namespace Go.Eng
open Go.Extern
def addP (x y c : Nat) : Value := .tuple #[.int .u64 (Int.ofNat ((x + y + c) % 18446744073709551616)), .int .u64 (Int.ofNat ((x + y + c) / 18446744073709551616))]
theorem three_eq (n : String) (x y c : Value) : MathBitsCarry.three n #[x, y, c] = (do
    let c := (← asInt c).toNat
    if c > 1 then unsupported (.noEntry ("extern/math/bits." ++ n ++ ": a carry that is neither 0 nor 1"))
    pure ((← asInt x).toNat, (← asInt y).toNat, c)) := rfl
theorem m64_eq : MathBitsCarry.m64 = 18446744073709551616 := by decide
theorem add_run {P : Program} (x y c : Nat) (hc : c ≤ 1) (w : World) : Sem.run P ((fun args => do
    let (x, y, c) ← MathBitsCarry.three "Add64" args
    pure (MathBitsCarry.pair ((x + y + c) % MathBitsCarry.m64) ((x + y + c) / MathBitsCarry.m64)) : Array Value → Sem Value) #[.int .u64 (x : Int), .int .u64 (y : Int), .int .u64 (c : Int)]) w = .ok (addP x y c) w := by
  have hc' : ¬ 1 < c := by omega
  unfold addP
  rw [← m64_eq]
  generalize MathBitsCarry.m64 = m
  simp only [three_eq, asInt, asIntOf, Sem.run_bind, Sem.run_pure, Result.andThen_ok, Int.toNat_natCast, gt_iff_lt, if_neg hc', MathBitsCarry.pair]
def ovAdd (args : List V) (s : St) : T (V × St) := match args with
  | [.int .u64 x, .int .u64 y, .int .u64 c] => match x, y, c with
    | .ofNat x, .ofNat y, .ofNat c => match Nat.ble c 1 with
      | true => .ret (.tup [.int .u64 (.ofNat ((x + y + c) % 18446744073709551616)), .int .u64 (.ofNat ((x + y + c) / 18446744073709551616))], s)
      | false => .fail
    | _, _, _ => .fail
  | _ => .fail
variable {C : Ctx} {ρ : Rho} {s : St} {w : World}
theorem AR.three {a b c : V} {cargs : Array Value} (h : AR ρ [a, b, c] cargs) : ∃ x y z, cargs = #[x, y, z] ∧ VR ρ a x ∧ VR ρ b y ∧ VR ρ c z := by
  obtain ⟨h1, h2⟩ := h
  obtain ⟨l⟩ := cargs
  match l, h1 with
  | [x, y, z], _ => exact ⟨x, y, z, rfl, h2 0 _ _ rfl rfl, h2 1 _ _ rfl rfl, h2 2 _ _ rfl rfl⟩
theorem over_add {br : Nat} {R' : V × St → Prop} {args : List V} {cargs : Array Value} (hI : Inv C ρ s w) (ha : AR ρ args cargs) (h : (ovAdd args s).All br R') {g : Nat} (hrun : ∀ x y c : Nat, c ≤ 1 → (callFunc g #[.int .u64 (x : Int), .int .u64 (y : Int), .int .u64 (c : Int)]).run C.P w = .ok (.value (addP x y c)) w) :
    Gives C.P (Post C ρ s w R') ((callFunc g cargs).run C.P w) := by
  unfold ovAdd at h
  split at h
  · split at h
    · rename_i x y c
      split at h
      · rename_i hc
        rw [Nat.ble_eq] at hc
        obtain ⟨cx, cy, cz, rfl, hx, hy, hz⟩ := ha.three
        cases hx; cases hy; cases hz
        refine gives_value hI (hrun x y c hc) ?_ h
        refine .tup rfl fun i v cv hv hcv => ?_
        match i with
        | 0 => cases hv; cases hcv; exact .int _ _
        | 1 => cases hv; cases hcv; exact .int _ _
        | i + 2 => simp at hv
      · exact h.elim
    · exact h.elim
  · exact h.elim
end Go.Eng
