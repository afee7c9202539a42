/- Calls with numbers that are not known. -/
import Derived.Test.YtipedikaiaamjaaGreatDoorEngF
import Derived.Test.YtipedikaiaamjaaGreatDoorEngE
namespace Go.Eng
variable {C : Ctx}
noncomputable def vcond (c : Bool) (v u : V) : V := @Bool.rec (fun _ => V) u v c
noncomputable def bothT (c : Bool) (x y : Option (Bool × V)) : Option (Bool × V) := @Option.rec (Bool × V) (fun _ => Option (Bool × V)) none (fun p => @Option.rec (Bool × V) (fun _ => Option (Bool × V)) (some (c && p.1, p.2)) (fun q => some (@Bool.rec (fun _ => Bool) q.1 p.1 c, vcond c p.2 q.2)) y) x
noncomputable def runT (t : R) : Option (Bool × V) := @T.rec (V × St) (fun _ => Option (Bool × V)) (fun r => some (true, r.1)) (fun _ _ => none) none (fun c _ _ ih ih' => bothT c ih ih') t
theorem runT_all {br : Nat} : ∀ {t : R} {c : Bool} {v : V}, runT t = some (c, v) → c = true → t.All br fun r => r.1 = v
  | .ret r, c, v, h, _ => by
    have h' : some (true, r.1) = some (c, v) := h
    cases h'
    rfl
  | .ask k, _, _, h, _ => by cases h
  | .fail, _, _, h, _ => by cases h
  | .ite d t e, c, v, h, hc => by
    have h' : bothT d (runT t) (runT e) = some (c, v) := h
    cases ht : runT t with
    | none => rw [ht] at h'; cases h'
    | some p =>
      cases he : runT e with
      | none =>
        rw [ht, he] at h'
        have e1 : (d && p.1, p.2) = (c, v) := Option.some.inj h'
        injection e1 with e1 e2
        subst hc; subst e2
        simp only [Bool.and_eq_true] at e1
        exact ⟨fun _ => runT_all (c := p.1) (v := p.2) ht e1.2, fun hd => by rw [e1.1] at hd; cases hd⟩
      | some q =>
        rw [ht, he] at h'
        have e1 : ((@Bool.rec (fun _ => Bool) q.1 p.1 d : Bool), vcond d p.2 q.2) = (c, v) := Option.some.inj h'
        injection e1 with e1 e2
        subst hc; subst e2
        refine ⟨fun hd => ?_, fun hd => ?_⟩
        · subst hd
          exact runT_all (c := p.1) (v := p.2) ht e1
        · subst hd
          exact runT_all (c := q.1) (v := q.2) he e1
theorem sym_ok {E : Env} (hE : EnvOk C E) {kt : Tr KF} (ht : TabOk E kt) {g m n : Nat} (hov : E.over (nm g) = none) {args : List V} {c : Bool} {v : V} (hrun : runT ((kcall E kt m n).f (nm g) args St.start fun v s => .ret (v, s)) = some (c, v)) (hc : c = true) (hp : pureVs args = true) (hv : pureV v = true)
    {ρ : Rho} {s : St} {w : World} {cargs : Array Value} {R' : V × St → Prop} (hI : Inv C ρ s w) (hG : GR C ρ) (hA : AR ρ args cargs) (hR : R' (v, s)) : Gives C.P (Post C ρ s w R') ((callFunc g cargs).run C.P w) := by
  obtain ⟨n', h1⟩ := (call_x ht m n).f _ _ _ _ _ (runT_all (br := E.branch) hrun hc)
  have h2 : (callB E (eval E n') (nm g) args St.start).All E.branch fun r => r.1 = v := by
    unfold callF at h1
    rw [hov] at h1
    exact h1
  refine over_datas hE hI hG hA hp h2 ?_
  intro r s1 hq
  simp only at hq
  subst hq
  exact ⟨hv, hR⟩
def tyS (n : Nat) : List Nat := match Nat.blt n 10 with
  | true => [105, 48 + n]
  | false => [105, 48 + n / 10, 48 + n % 10]
def tyN (l : List Nat) : Option Nat := match l with
  | [105, a] => match Nat.ble 49 a && Nat.ble a 57 with
    | true => some (a - 48)
    | false => none
  | [105, a, b] => match Nat.ble 49 a && (Nat.ble a 54 && (Nat.ble 48 b && (Nat.ble b 57 && Nat.ble ((a - 48) * 10 + (b - 48)) 64))) with
    | true => some ((a - 48) * 10 + (b - 48))
    | false => none
  | _ => none
theorem tyN_ok {l : List Nat} {n : Nat} (h : tyN l = some n) : l = tyS n ∧ 1 ≤ n ∧ n ≤ 64 := by
  unfold tyN at h
  split at h
  · rename_i a
    split at h
    · rename_i hc
      simp only [Bool.and_eq_true, Nat.ble_eq] at hc
      cases h
      have e : Nat.blt (a - 48) 10 = true := by rw [Nat.blt_eq]; omega
      refine ⟨?_, by omega, by omega⟩
      unfold tyS
      rw [e]
      have : 48 + (a - 48) = a := by omega
      simp only [this]
    · cases h
  · rename_i a b
    split at h
    · rename_i hc
      simp only [Bool.and_eq_true, Nat.ble_eq] at hc
      cases h
      have e : Nat.blt ((a - 48) * 10 + (b - 48)) 10 = false := by
        cases hh : Nat.blt ((a - 48) * 10 + (b - 48)) 10 with
        | false => rfl
        | true => rw [Nat.blt_eq] at hh; omega
      refine ⟨?_, by omega, by omega⟩
      unfold tyS
      rw [e]
      have h1 : 48 + ((a - 48) * 10 + (b - 48)) / 10 = a := by omega
      have h2 : 48 + ((a - 48) * 10 + (b - 48)) % 10 = b := by omega
      simp only [h1, h2]
    · cases h
  · cases h
def ovTy (F : Nat → V) (rest : List (List V × V)) (args : List V) (s : St) : T (V × St) := match args with
  | [.str t] => match tyN t with
    | some n => .ret (F n, s)
    | none => memoP rest args s
  | _ => .fail
theorem ovTy_ok {E : Env} (hE : EnvOk C E) {kt : Tr KF} (ht : TabOk E kt) {g m n : Nat} (hov : E.over (nm g) = none) {F : Nat → V} {rest : List (List V × V)} (h1 : ∀ k, 1 ≤ k → k ≤ 64 → KeptP E kt g m n ([.str (tyS k)], F k)) (h2 : ∀ r ∈ rest, KeptP E kt g m n r) : OverOk C E.branch g (ovTy F rest) := by
  intro ρ s w args cargs R hI hG hA h
  unfold ovTy at h
  split at h
  · rename_i t
    split at h
    · rename_i k hk
      obtain ⟨rfl, e1, e2⟩ := tyN_ok hk
      refine memoP_ok hE ht hov (tab := [([.str (tyS k)], F k)]) (List.forall_mem_cons.2 ⟨h1 k e1 e2, fun _ h => nomatch h⟩) ρ s w _ cargs R hI hG hA ?_
      have e : eqbVs [.str (tyS k)] [.str (tyS k)] = true := by simp [eqbVs, eqbV]
      simp only [memoP, e]
      exact h
    · exact memoP_ok hE ht hov h2 ρ s w _ cargs R hI hG hA h
  · exact h.elim
def pureC : V → Bool
  | .clo (.func _) [] [] => true
  | v => pureV v
theorem VR.toBareC {ρ : Rho} {v : V} {cv : Value} (h : VR ρ v cv) (hp : pureC v = true) : VR ρ.bare v cv := by
  unfold pureC at hp
  split at hp
  · cases h with
    | clo h1 h2 h3 _ _ => exact .clo h1 h2 h3 (fun i v cv hv _ => by simp at hv) (fun i v cv hv _ => by simp at hv)
  · exact h.toBare hp
def ovAsk (g0 : Nat) (F : Nat → V) (args : List V) (s : St) : T (V × St) := match args with
  | [.str t, .clo (.func g) [] []] => match tyN t with
    | some n => match Nat.beq g g0 with
      | true => .ret (F n, s)
      | false => .fail
    | none => .fail
  | _ => .fail
theorem ovAsk_ok {E : Env} (hE : EnvOk C E) {kt : Tr KF} (ht : TabOk E kt) {g g0 m n : Nat} (hov : E.over (nm g) = none) {F : Nat → V} (h1 : ∀ k, 1 ≤ k → k ≤ 64 → pureV (F k) = true ∧ allB E.branch (fun x => eqTK x.1 (F k)) ((kcall E kt m n).f (nm g) [.str (tyS k), .clo (.func g0) [] []] St.start fun v s => .ret (v, s)) = true) : OverOk C E.branch g (ovAsk g0 F) := by
  intro ρ s w args cargs R hI hG hA h
  unfold ovAsk at h
  split at h
  · rename_i t g'
    split at h
    · rename_i k hk
      split at h
      · rename_i hg
        obtain rfl := Nat.eq_of_beq_eq_true hg
        obtain ⟨rfl, e1, e2⟩ := tyN_ok hk
        obtain ⟨p2, hr⟩ := h1 k e1 e2
        obtain ⟨n', h1⟩ := (call_x ht m n).f _ _ _ _ _ (allB_spec hr)
        have h2 : (callB E (eval E n') (nm g) [.str (tyS k), .clo (.func g') [] []] St.start).All E.branch fun r => eqTK r.1 (F k) = true := by
          unfold callF at h1
          rw [hov] at h1
          exact h1
        have hA' : AR ρ.bare [.str (tyS k), .clo (.func g') [] []] cargs := ⟨hA.1, fun i v cv hv hc => (hA.2 i v cv hv hc).toBareC (by
          match i with
          | 0 => cases hv; rfl
          | 1 => cases hv; rfl
          | i + 2 => simp at hv)⟩
        obtain ⟨e1, e2⟩ := callB_ok hE (eval_sound hE n') (inv_bare hI) hG.bare hA' h2
        rw [e1]
        refine Calls.mono e2 ?_
        intro e w' he
        cases e with
        | returned cv =>
          obtain ⟨ρ1, r, s1, hq, hvr, hx1⟩ := he
          have := eqTK_sound hq
          subst this
          exact ⟨{ blk := ρ.blk, imm := ρ1.imm }, F k, s, h, VR.ofBare (ρ := ρ1) (ρ' := { blk := ρ.blk, imm := ρ1.imm }) (fun _ _ h => h) (hvr.toBare p2), Ext.lift0 hI hx1⟩
        | panicked c => exact he.elim
        | outgrown => exact he.elim
      · exact h.elim
    · exact h.elim
  · exact h.elim
def wrapB (b : Nat) (n : Int) : Int := Int.fdiv (IntKind.wrap .i64 (n * 2 ^ (64 - b))) (2 ^ (64 - b))
def unsB (b : Nat) (n : Int) : Int := Int.fdiv (IntKind.wrap .u64 (IntKind.wrap .u64 n * 2 ^ (64 - b))) (2 ^ (64 - b))
def fitB (b : Nat) (n : Int) : Bool := decide (-(2 ^ (b - 1)) ≤ n) && decide (n ≤ 2 ^ (b - 1) - 1)
def bitN (f : Nat → Nat → Nat) (n k : Int) : Int := IntKind.wrap .i64 (f (n % 2 ^ 64).toNat (k % 2 ^ 64).toNat : Nat)
def ovWr (k : IntKind) (F : Nat → Int → Int) (args : List V) (s : St) : T (V × St) := match args with
  | [.str t, .int .i64 n] => match tyN t with
    | some b => .ret (.int k (F b n), s)
    | none => .fail
  | _ => .fail
theorem ovWr_ok {E : Env} (hE : EnvOk C E) {kt : Tr KF} (ht : TabOk E kt) {g m n : Nat} (hov : E.over (nm g) = none) {k : IntKind} {F : Nat → Int → Int} (h1 : ∀ b, 1 ≤ b → b ≤ 64 → ∀ x : Int, runT ((kcall E kt m n).f (nm g) [.str (tyS b), .int .i64 x] St.start fun v s => .ret (v, s)) = some (true, .int k (F b x))) : OverOk C E.branch g (ovWr k F) := by
  intro ρ s w args cargs R hI hG hA h
  unfold ovWr at h
  split at h
  · rename_i t x
    split at h
    · rename_i b hb
      obtain ⟨rfl, e1, e2⟩ := tyN_ok hb
      exact sym_ok hE ht hov (h1 b e1 e2 x) rfl rfl rfl hI hG hA h
    · exact h.elim
  · exact h.elim
def ovFit (args : List V) (s : St) : T (V × St) := match args with
  | [.str t, .agg [.int .i64 n, .nils]] => match tyN t with
    | some b => .test (fitB b n) (.ret (.bool true, s))
    | none => .fail
  | _ => .fail
def ovAdd1 (args : List V) (s : St) : T (V × St) := match args with
  | [.int .i64 a, .int .i64 b] => .ret (.int .i64 (IntKind.wrap .i64 (a + b)), s)
  | _ => .fail
def ovSub1 (args : List V) (s : St) : T (V × St) := match args with
  | [.int .i64 a, .int .i64 b] => .ret (.int .i64 (IntKind.wrap .i64 (a - b)), s)
  | _ => .fail
inductive DivF where
  | ds | rs | du | ru
def divN (f : DivF) (w : Nat) (a b : Int) : Int := match f with
  | .ds => if b = -1 then IntKind.wrap .i64 (0 - a) else IntKind.wrap .i64 (a.tdiv b)
  | .rs => if b = -1 then 0 else a.tmod b
  | .du => IntKind.wrap .i64 (IntKind.wrap .u64 ((unsB w a).tdiv (unsB w b)))
  | .ru => IntKind.wrap .i64 ((unsB w a).tmod (unsB w b))
def ovDiv (G : Nat → Option DivF) (args : List V) (s : St) : T (V × St) := match args with
  | [.str t, .int .i64 a, .int .i64 b, .ptr p i j] => match tyN t with
    | some w => match load s.heap 1 false (.ptr p i j) with
      | some (.clo (.func g) [] []) => match G g with
        | some f => .ite (decide (b = 0)) (.ret (.tup [.int .i64 0, .bool false], s)) (.test (!decide (unsB w b = 0)) (.ret (.tup [.int .i64 (wrapB w (divN f w a b)), .bool true], s)))
        | none => .fail
      | _ => .fail
    | none => .fail
  | _ => .fail
end Go.Eng
