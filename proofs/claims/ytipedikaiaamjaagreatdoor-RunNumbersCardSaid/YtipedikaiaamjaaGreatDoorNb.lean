/- Numbers of some bits: plain arithmetic. -/
import Derived.Test.YtipedikaiaamjaaGreatDoorEngI
set_option linter.unusedVariables false
set_option maxRecDepth 20000
set_option maxHeartbeats 4000000
namespace Go.Eng
theorem w64_eq (n : Int) : IntKind.wrap .i64 n = (if n % 18446744073709551616 ≥ 9223372036854775808 then n % 18446744073709551616 - 18446744073709551616 else n % 18446744073709551616) := by
  have e : IntKind.wrap .i64 n = (if (true && decide (n % 18446744073709551616 ≥ 9223372036854775808)) = true then n % 18446744073709551616 - 18446744073709551616 else n % 18446744073709551616) := rfl
  rw [e]
  simp only [Bool.true_and, decide_eq_true_eq]
theorem wu64_eq (n : Int) : IntKind.wrap .u64 n = n % 18446744073709551616 := rfl
def cutB (b : Nat) (x : Int) : Int := if x % 2 ^ b ≥ 2 ^ (b - 1) then x % 2 ^ b - 2 ^ b else x % 2 ^ b
theorem two_split {b : Nat} (h1 : 1 ≤ b) (h2 : b ≤ 64) : (18446744073709551616 : Int) = 2 ^ (64 - b) * 2 ^ b ∧ (9223372036854775808 : Int) = 2 ^ (64 - b) * 2 ^ (b - 1) := by
  constructor
  · rw [← Int.pow_add, show 64 - b + b = 64 by omega]; rfl
  · rw [← Int.pow_add, show 64 - b + (b - 1) = 63 by omega]; rfl
theorem wrapB_eq (b : Nat) (x : Int) (h1 : 1 ≤ b) (h2 : b ≤ 64) : wrapB b x = cutB b x := by
  obtain ⟨e1, e2⟩ := two_split h1 h2
  have hP : (0 : Int) < 2 ^ (64 - b) := Int.pow_pos (by decide)
  have e : wrapB b x = Int.fdiv (IntKind.wrap .i64 (x * 2 ^ (64 - b))) (2 ^ (64 - b)) := rfl
  rw [e, Int.fdiv_eq_ediv_of_nonneg _ (Int.le_of_lt hP), w64_eq, e1, e2, Int.mul_comm x, Int.mul_emod_mul_of_pos _ _ hP]
  unfold cutB
  by_cases h : x % 2 ^ b ≥ 2 ^ (b - 1)
  · rw [if_pos h, if_pos (Int.mul_le_mul_of_nonneg_left h (Int.le_of_lt hP)), ← Int.mul_sub, Int.mul_ediv_cancel_left _ (Int.ne_of_gt hP)]
  · rw [if_neg h, if_neg (fun hh => h (Int.le_of_mul_le_mul_left hh hP)), Int.mul_ediv_cancel_left _ (Int.ne_of_gt hP)]
theorem unsB_eq (b : Nat) (x : Int) (h1 : 1 ≤ b) (h2 : b ≤ 64) : unsB b x = x % 2 ^ b := by
  obtain ⟨e1, -⟩ := two_split h1 h2
  have hP : (0 : Int) < 2 ^ (64 - b) := Int.pow_pos (by decide)
  have e : unsB b x = Int.fdiv (IntKind.wrap .u64 (IntKind.wrap .u64 x * 2 ^ (64 - b))) (2 ^ (64 - b)) := rfl
  rw [e, Int.fdiv_eq_ediv_of_nonneg _ (Int.le_of_lt hP), wu64_eq, wu64_eq, Int.mul_comm _ (2 ^ (64 - b)), e1, Int.mul_emod_mul_of_pos _ _ hP, Int.mul_ediv_cancel_left _ (Int.ne_of_gt hP)]
  exact Int.emod_emod_of_dvd x ⟨2 ^ (64 - b), by rw [Int.mul_comm]⟩
theorem pow_dvd64 {b : Nat} (hb : b ≤ 64) : ∃ c : Int, (18446744073709551616 : Int) = 2 ^ b * c := by
  refine ⟨2 ^ (64 - b), ?_⟩
  rw [← Int.pow_add, Nat.add_sub_cancel' hb]
  rfl
theorem emod_of_mul {a D c : Int} : (a + D * c) % D = a % D := Int.add_mul_emod_self_left a D c
theorem emod_emod_mul {x D c : Int} : x % (D * c) % D = x % D := Int.emod_emod_of_dvd x ⟨c, rfl⟩
theorem w64_mod {b : Nat} (hb : b ≤ 64) (x : Int) : IntKind.wrap .i64 x % 2 ^ b = x % 2 ^ b := by
  obtain ⟨c, hc⟩ := pow_dvd64 hb
  rw [w64_eq, hc]
  split
  · rw [show x % (2 ^ b * c) - 2 ^ b * c = x % (2 ^ b * c) + 2 ^ b * (-c) by rw [Int.mul_neg]; rfl, emod_of_mul, emod_emod_mul]
  · rw [emod_emod_mul]
theorem wu64_mod {b : Nat} (hb : b ≤ 64) (x : Int) : IntKind.wrap .u64 x % 2 ^ b = x % 2 ^ b := by
  obtain ⟨c, hc⟩ := pow_dvd64 hb
  rw [wu64_eq, hc, emod_emod_mul]
theorem cutB_mod (b : Nat) (x : Int) : cutB b x % 2 ^ b = x % 2 ^ b := by
  unfold cutB
  split
  · rw [show x % 2 ^ b - 2 ^ b = x % 2 ^ b + 2 ^ b * (-1) by omega, emod_of_mul, Int.emod_emod_of_dvd x ⟨1, by omega⟩]
  · exact Int.emod_emod_of_dvd x ⟨1, by omega⟩
theorem cutB_congr {b : Nat} {x y : Int} (h : x % 2 ^ b = y % 2 ^ b) : cutB b x = cutB b y := by
  unfold cutB
  rw [h]
theorem pow_half {b : Nat} (hb : 1 ≤ b) : (2 : Int) ^ b = 2 * 2 ^ (b - 1) := by
  obtain ⟨c, rfl⟩ : ∃ c, b = c + 1 := ⟨b - 1, by omega⟩
  rw [Int.pow_succ, Nat.add_sub_cancel]
  omega
theorem pow_pos' (b : Nat) : (0 : Int) < 2 ^ b := Int.pow_pos (by decide)
theorem cutB_range {b : Nat} (hb : 1 ≤ b) (x : Int) : -(2 ^ (b - 1)) ≤ cutB b x ∧ cutB b x ≤ 2 ^ (b - 1) - 1 := by
  have h1 := pow_half hb
  have h2 := pow_pos' (b - 1)
  have h3 := Int.emod_nonneg x (show (2 : Int) ^ b ≠ 0 by have := pow_pos' b; omega)
  have h4 := Int.emod_lt_of_pos x (pow_pos' b)
  unfold cutB
  split <;> omega
theorem cutB_fix {b : Nat} (hb : 1 ≤ b) {n : Int} (h : -(2 ^ (b - 1)) ≤ n) (h' : n ≤ 2 ^ (b - 1) - 1) : cutB b n = n := by
  have h1 := pow_half hb
  have h2 := pow_pos' (b - 1)
  have h3 := pow_pos' b
  unfold cutB
  by_cases hn : 0 ≤ n
  · rw [Int.emod_eq_of_lt hn (by omega), if_neg (by omega)]
  · have e : n % 2 ^ b = n + 2 ^ b := by
      have := @emod_of_mul n (2 ^ b) 1
      rw [← this, Int.mul_one]
      exact Int.emod_eq_of_lt (by omega) (by omega)
    rw [e, if_pos (by omega)]
    omega
section
variable {b : Nat} (h1 : 1 ≤ b) (h2 : b ≤ 64)
theorem wrapB_mod (h1 : 1 ≤ b) (h2 : b ≤ 64) (x : Int) : wrapB b x % 2 ^ b = x % 2 ^ b := by rw [wrapB_eq b x h1 h2, cutB_mod]
theorem wrapB_congr (h1 : 1 ≤ b) (h2 : b ≤ 64) {x y : Int} (h : x % 2 ^ b = y % 2 ^ b) : wrapB b x = wrapB b y := by rw [wrapB_eq b x h1 h2, wrapB_eq b y h1 h2, cutB_congr h]
theorem fitB_iff {n : Int} : fitB b n = true ↔ -(2 ^ (b - 1)) ≤ n ∧ n ≤ 2 ^ (b - 1) - 1 := by
  unfold fitB
  simp only [Bool.and_eq_true, decide_eq_true_eq]
theorem fit_wrapB (h1 : 1 ≤ b) (h2 : b ≤ 64) (x : Int) : fitB b (wrapB b x) = true := by
  rw [fitB_iff, wrapB_eq b x h1 h2]
  exact cutB_range h1 x
theorem wrapB_fix (h1 : 1 ≤ b) (h2 : b ≤ 64) {n : Int} (h : fitB b n = true) : wrapB b n = n := by
  rw [fitB_iff] at h
  rw [wrapB_eq b n h1 h2, cutB_fix h1 h.1 h.2]
theorem unsB_ne (h1 : 1 ≤ b) (h2 : b ≤ 64) {k : Int} (h : fitB b k = true) (h0 : ¬ k = 0) : ¬ unsB b k = 0 := fun e => by
  rw [unsB_eq b k h1 h2] at e
  have := wrapB_fix h1 h2 h
  rw [wrapB_eq b k h1 h2] at this
  unfold cutB at this
  have hp := pow_pos' (b - 1)
  rw [e, if_neg (by omega)] at this
  exact h0 this.symm
def Eqm (b : Nat) (x y : Int) : Prop := x % 2 ^ b = y % 2 ^ b
theorem Eqm.add {x y z w : Int} (h : Eqm b x y) (k : Eqm b z w) : Eqm b (x + z) (y + w) := by
  unfold Eqm at *
  rw [Int.add_emod, h, k, ← Int.add_emod]
theorem Eqm.sub {x y z w : Int} (h : Eqm b x y) (k : Eqm b z w) : Eqm b (x - z) (y - w) := by
  unfold Eqm at *
  rw [Int.sub_emod, h, k, ← Int.sub_emod]
theorem Eqm.mul {x y z w : Int} (h : Eqm b x y) (k : Eqm b z w) : Eqm b (x * z) (y * w) := by
  unfold Eqm at *
  rw [Int.mul_emod, h, k, ← Int.mul_emod]
theorem Eqm.trans {x y z : Int} (h : Eqm b x y) (k : Eqm b y z) : Eqm b x z := Eq.trans h k
theorem Eqm.symm {x y : Int} (h : Eqm b x y) : Eqm b y x := Eq.symm h
theorem Eqm.rfl' (x : Int) : Eqm b x x := rfl
theorem Eqm.w64 (h2 : b ≤ 64) (x : Int) : Eqm b (IntKind.wrap .i64 x) x := w64_mod h2 x
theorem Eqm.wu64 (h2 : b ≤ 64) (x : Int) : Eqm b (IntKind.wrap .u64 x) x := wu64_mod h2 x
theorem Eqm.wB (h1 : 1 ≤ b) (h2 : b ≤ 64) (x : Int) : Eqm b (wrapB b x) x := wrapB_mod h1 h2 x
theorem Eqm.uns (h1 : 1 ≤ b) (h2 : b ≤ 64) (x : Int) : Eqm b (unsB b x) x := by
  unfold Eqm
  rw [unsB_eq b x h1 h2]
  exact Int.emod_emod_of_dvd x ⟨1, by omega⟩
theorem Eqm.wrap (h1 : 1 ≤ b) (h2 : b ≤ 64) {x n : Int} (h : Eqm b x n) (hn : fitB b n = true) : wrapB b x = n := by
  rw [wrapB_congr h1 h2 h, wrapB_fix h1 h2 hn]
theorem back_sub (h1 : 1 ≤ b) (h2 : b ≤ 64) {n k : Int} (hn : fitB b n = true) : wrapB b (IntKind.wrap .i64 (wrapB b (IntKind.wrap .i64 (n - k)) + k)) = n := by
  refine Eqm.wrap h1 h2 ((Eqm.w64 h2 _).trans ?_) hn
  have := ((Eqm.wB h1 h2 (IntKind.wrap .i64 (n - k))).trans (Eqm.w64 h2 (n - k))).add (Eqm.rfl' (b := b) k)
  rwa [show n - k + k = n by omega] at this
theorem back_divs (h1 : 1 ≤ b) (h2 : b ≤ 64) {n k : Int} (hn : fitB b n = true) : wrapB b (IntKind.wrap .i64 (IntKind.wrap .i64 (wrapB b (divN .ds b n k) * k) + wrapB b (divN .rs b n k))) = n := by
  refine Eqm.wrap h1 h2 ((Eqm.w64 h2 _).trans ?_) hn
  have q : Eqm b (IntKind.wrap .i64 (wrapB b (divN .ds b n k) * k)) (divN .ds b n k * k) := (Eqm.w64 h2 _).trans ((Eqm.wB h1 h2 _).mul (Eqm.rfl' k))
  refine (q.add (Eqm.wB h1 h2 (divN .rs b n k))).trans ?_
  by_cases hk : k = -1
  · subst hk
    simp only [divN, if_true]
    have := ((Eqm.w64 h2 (0 - n)).mul (Eqm.rfl' (b := b) (-1))).add (Eqm.rfl' (b := b) 0)
    rwa [show (0 - n) * -1 + 0 = n by omega] at this
  · simp only [divN, if_neg hk]
    have := ((Eqm.w64 h2 (n.tdiv k)).mul (Eqm.rfl' (b := b) k)).add (Eqm.rfl' (b := b) (n.tmod k))
    rwa [show n.tdiv k * k + n.tmod k = n by rw [Int.mul_comm]; exact Int.mul_tdiv_add_tmod n k] at this
theorem back_divu (h1 : 1 ≤ b) (h2 : b ≤ 64) {n k : Int} (hn : fitB b n = true) : wrapB b (IntKind.wrap .i64 (IntKind.wrap .i64 (wrapB b (divN .du b n k) * k) + wrapB b (divN .ru b n k))) = n := by
  refine Eqm.wrap h1 h2 ((Eqm.w64 h2 _).trans ?_) hn
  have q : Eqm b (IntKind.wrap .i64 (wrapB b (divN .du b n k) * k)) ((unsB b n).tdiv (unsB b k) * unsB b k) := (Eqm.w64 h2 _).trans (((Eqm.wB h1 h2 _).trans ((Eqm.w64 h2 _).trans (Eqm.wu64 h2 _))).mul (Eqm.uns h1 h2 k).symm)
  have r : Eqm b (wrapB b (divN .ru b n k)) ((unsB b n).tmod (unsB b k)) := (Eqm.wB h1 h2 _).trans (Eqm.w64 h2 _)
  have := (q.add r).trans (Eqm.rfl' _)
  rw [show (unsB b n).tdiv (unsB b k) * unsB b k + (unsB b n).tmod (unsB b k) = unsB b n by rw [Int.mul_comm]; exact Int.mul_tdiv_add_tmod _ _] at this
  exact this.trans (Eqm.uns h1 h2 n)
theorem Eqm.less {c : Nat} (hc : c ≤ b) {x y : Int} (h : Eqm b x y) : Eqm c x y := by
  unfold Eqm at *
  have e : (2 : Int) ^ b = 2 ^ c * 2 ^ (b - c) := by rw [← Int.pow_add, Nat.add_sub_cancel' hc]
  have := congrArg (· % (2 : Int) ^ c) h
  simp only [e, emod_emod_mul] at this
  exact this
theorem back_exts (h1 : 2 ≤ b) (h2 : b ≤ 64) (n : Int) : wrapB (b - 1) (wrapB b (wrapB (b - 1) n)) = wrapB (b - 1) n := by
  refine Eqm.wrap (by omega) (by omega) ?_ (fit_wrapB (by omega) (by omega) n)
  exact (Eqm.wB (by omega) h2 _).less (by omega)
theorem back_extu (h1 : 2 ≤ b) (h2 : b ≤ 64) (n : Int) : wrapB (b - 1) (wrapB b (IntKind.wrap .i64 (unsB (b - 1) (wrapB (b - 1) n)))) = wrapB (b - 1) n := by
  refine Eqm.wrap (by omega) (by omega) ?_ (fit_wrapB (by omega) (by omega) n)
  exact ((Eqm.wB (by omega) h2 _).less (by omega)).trans ((Eqm.w64 (by omega) _).trans (Eqm.uns (by omega) (by omega) _))
end
end Go.Eng
