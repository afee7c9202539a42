/- Terms as functions of the kernel. -/
import Derived.Test.YtlenkhcenfkogaaGreatDoorEngE
import Derived.Test.YtlenkhcenfkogaaGreatDoorEngD
set_option linter.unusedVariables false
namespace Go.Eng
variable {C : Ctx} {ρ : Rho} {s : St} {w : World}
def resF (es : List (V × V × Nat)) (t : Tm) : Option Tm := if t.sort = 63 then match strKey t.name es 0 with
   | some none => some t
   | some (some (_, u, _)) => match tmOf 40 u with
      | some u => if u.sort = 63 then (match strKey u.name es 0 with
        | some none => some u
        | _ => none) else some u
      | none => none
   | none => none
  else some t
def fullS (F : List (V × V × Nat) → Tm → Option Tm) (es : List (V × V × Nat)) (t : Tm) : Option Tm := match resF es t with
  | some (.leaf s n i) => some (.leaf s n i)
  | some (.node s n i c x y) => if x.depth ≤ 40 ∧ y.depth ≤ 40 then match F es x with
        | some x' => match F es y with
          | some y' => some (.node s n i false x' y')
          | none => none
        | none => none
      else none
  | none => none
def full : Nat → List (V × V × Nat) → Tm → Option Tm
  | 0 => fun _ _ => none
  | k + 1 => fullS (full k)
def namS (F : List (V × V × Nat) → Nat → Tm → Option (Tm × List (V × V × Nat) × Nat)) (es : List (V × V × Nat)) (ck : Nat) : Tm → Option (Tm × List (V × V × Nat) × Nat)
  | .leaf s n i => if s = 63 then match strKey n es 0 with
      | some (some (_, v, _)) => match v with
        | .str l => some (.leaf s l i, es, ck)
        | _ => none
      | some none => match es with
        | [] => some (.leaf s [97] i, [(.str n, .str [97], ck)], ck + 1)
        | [e] => some (.leaf s [98] i, [e, (.str n, .str [98], ck)], ck + 1)
        | _ => none
      | none => none
    else some (.leaf s n i, es, ck)
  | .node s n i _ x y => if s = 63 then none else match F es ck x with
    | some (x', es1, ck1) => match F es1 ck1 y with
      | some (y', es2, ck2) => some (.node s n i false x' y', es2, ck2)
      | none => none
    | none => none
def nam : Nat → List (V × V × Nat) → Nat → Tm → Option (Tm × List (V × V × Nat) × Nat)
  | 0 => fun _ _ _ => none
  | k + 1 => namS (nam k)
theorem pureEs_snoc {k v : V} {n : Nat} (hk : pureV k = true) (hv : pureV v = true) : ∀ {es : List (V × V × Nat)}, pureEs es = true → pureEs (es ++ [(k, v, n)]) = true
  | [], _ => by simp [pureEs, hk, hv]
  | (a, b, c) :: es, h => by
    simp only [pureEs, List.cons_append, Bool.and_eq_true] at h ⊢
    exact ⟨h.1, h.2.1, pureEs_snoc hk hv h.2.2⟩
theorem nam_pure : ∀ (k : Nat) (es : List (V × V × Nat)) (ck : Nat) (t r : Tm) (es' : List (V × V × Nat)) (ck' : Nat), pureEs es = true → nam k es ck t = some (r, es', ck') → pureEs es' = true
  | 0, _, _, _, _, _, _, _, h => by cases h
  | k + 1, es, ck, t, r, es', ck', hp, h => by
    cases t with
    | leaf s n i =>
      simp only [nam, namS] at h
      split at h
      · split at h
        · split at h
          · cases h; exact hp
          · cases h
        · split at h
          · cases h; rfl
          · cases h
            exact pureEs_snoc rfl rfl hp
          · cases h
        · cases h
      · cases h; exact hp
    | node s n i c x y =>
      simp only [nam, namS] at h
      split at h
      · cases h
      · split at h
        · rename_i x' es1 ck1 h1
          split at h
          · rename_i y' es2 ck2 h2
            cases h
            exact nam_pure k _ _ _ _ _ _ (nam_pure k _ _ _ _ _ _ hp h1) h2
          · cases h
        · cases h
def wr : Tm → List Nat
  | .leaf s n _ => if s = 63 then 63 :: n else [35, 48]
  | .node _ n _ _ x y => 40 :: n ++ [32] ++ wr x ++ [32] ++ wr y ++ [41]
def okW : Tm → Bool
  | .leaf s _ i => decide (s = 63) || (decide (s = 35) && decide (i = 0))
  | .node s _ _ _ x y => !decide (s = 63) && !decide (s = 35) && okW x && okW y
def wrF (k : Nat) (t : Tm) : Option (List Nat) := if okW t = true ∧ (wr t).length ≤ 1000000000 ∧ t.depth ≤ k then some (wr t) else none
noncomputable def is63 (s : Int) : Bool := @Int.rec (fun _ => Bool) (fun n => Nat.beq n 63) (fun _ => false) s
theorem is63_eq (s : Int) : is63 s = decide (s = 63) := by
  cases s with
  | ofNat n =>
    show Nat.beq n 63 = _
    rw [Bool.eq_iff_iff, Nat.beq_eq, decide_eq_true_eq]
    exact ⟨fun h => by rw [h]; rfl, fun h => Int.ofNat.inj h⟩
  | negSucc n =>
    show false = _
    rw [eq_comm, decide_eq_false_iff_not]
    exact fun h => (nomatch h)
noncomputable def on4 (vs : List V) (f : V → V → V → V → R) : R := @List.rec V (fun _ => R) .fail (fun a r _ => @List.rec V (fun _ => R) .fail (fun b r _ => on2 r (f a b)) r) vs
noncomputable def ifU8 (k : IntKind) (x : R) : R := @IntKind.rec (fun _ => R) .fail .fail .fail .fail x .fail .fail .fail k
noncomputable def ifI64 (k : IntKind) (x : R) : R := @IntKind.rec (fun _ => R) .fail .fail .fail x .fail .fail .fail .fail k
noncomputable def onKids (v : V) (x : R) (f : List V → Bool → R) : R := @V.rec (fun _ => R) (fun _ => Unit) (fun _ => .fail) (fun _ _ => .fail) (fun _ => .fail) .fail (fun _ _ _ => .fail) (fun _ _ _ => .fail) x (fun _ _ _ _ _ => .fail) (fun es c _ => f es c) .fail (fun _ => .fail) (fun _ _ _ _ _ => .fail) .fail (fun _ _ _ => .fail) .fail (fun _ _ => .fail) (fun _ _ => .fail) (fun _ => .fail) () (fun _ _ _ _ => ()) v
noncomputable def tmK (f : Nat) : V → (Tm → R) → R := @Nat.rec (fun _ => V → (Tm → R) → R) (fun _ _ => .fail) (fun _ ih v k => onAgg v fun cs => on4 cs fun a b c d => onInt a fun ka s => ifU8 ka (onStr b fun n => onInt c fun kc i => ifI64 kc (onKids d (k (.leaf s n i)) fun es cl => on2 es fun x y => ih x fun x => ih y fun y => k (.node s n i cl x y)))) f
theorem tmK_eq : ∀ (f : Nat) (v : V) (k : Tm → R), tmK f v k = optR (tmOf f v) k
  | 0, _, _ => rfl
  | f + 1, v, k => by
    have ih := tmK_eq f
    show onAgg v _ = _
    cases v <;> try rfl
    rename_i cs
    show on4 cs _ = _
    match cs with
    | [] => rfl
    | [a] => cases a <;> first | rfl | (rename_i k1 _; cases k1 <;> rfl)
    | [a, b] => cases a <;> first | rfl | (rename_i k1 _; cases k1 <;> first | rfl | (cases b <;> rfl))
    | [a, b, c] => cases a <;> first | rfl | (rename_i k1 _; cases k1 <;> first | rfl | (cases b <;> first | rfl | (cases c <;> first | rfl | (rename_i k2 _; cases k2 <;> rfl))))
    | a :: b :: c :: d :: e :: r => cases a <;> first | rfl | (rename_i k1 _; cases k1 <;> first | rfl | (cases b <;> first | rfl | (cases c <;> first | rfl | (rename_i k2 _; cases k2 <;> first | rfl | (cases d <;> rfl)))))
    | [a, b, c, d] =>
      cases a <;> try rfl
      rename_i ka s
      cases ka <;> try rfl
      cases b <;> try rfl
      rename_i n
      cases c <;> try rfl
      rename_i kc i
      cases kc <;> try rfl
      cases d <;> try rfl
      rename_i es cl
      show on2 es _ = _
      match es with
      | [] => rfl
      | [_] => rfl
      | _ :: _ :: _ :: _ => rfl
      | [x, y] =>
        show tmK f x (fun x => tmK f y fun y => k (.node s n i cl x y)) = _
        rw [ih]
        simp only [tmOf]
        cases tmOf f x with
        | none => rfl
        | some x' =>
          show tmK f y _ = _
          rw [ih]
          cases tmOf f y <;> rfl
noncomputable def keyK (n : List Nat) (es : List (V × V × Nat)) (kn : R) (ku : V → R) : R := @List.rec (V × V × Nat) (fun _ => R) kn (fun e _ ih => @Prod.rec V (V × Nat) (fun _ => R) (fun a p => @Prod.rec V Nat (fun _ => R) (fun v _ => onStr a fun m => ifR (eqS n m) (ku v) ih) p) e) es
theorem keyK_eq (n : List Nat) (kn : R) (ku : V → R) : ∀ (es : List (V × V × Nat)) (i : Nat), keyK n es kn ku = match strKey n es i with
    | some none => kn
    | some (some (_, v, _)) => ku v
    | none => .fail
  | [], _ => rfl
  | (a, v, b) :: es, i => by
    show onStr a (fun m => ifR (eqS n m) (ku v) (keyK n es kn ku)) = _
    cases a <;> try rfl
    rename_i m
    show ifR (eqS n m) (ku v) (keyK n es kn ku) = _
    rw [eqS_eq, strKey]
    cases bytesEq n m with
    | true => rfl
    | false => exact keyK_eq n kn ku es (i + 1)
noncomputable def onTm {α : Type} (t : Tm) (f : Int → List Nat → Int → α) (g : Int → List Nat → Int → Bool → Tm → Tm → α) : α := @Tm.rec (fun _ => α) f (fun s n i c x y _ _ => g s n i c x y) t
noncomputable def sortK (t : Tm) : Int := onTm t (fun s _ _ => s) fun s _ _ _ _ _ => s
noncomputable def nameK (t : Tm) : List Nat := onTm t (fun _ n _ => n) fun _ n _ _ _ _ => n
theorem sortK_eq (t : Tm) : sortK t = t.sort := by cases t <;> rfl
theorem nameK_eq (t : Tm) : nameK t = t.name := by cases t <;> rfl
noncomputable def resK (es : List (V × V × Nat)) (t : Tm) (k : Tm → R) : R := ifR (is63 (sortK t)) (keyK (nameK t) es (k t) fun v => tmK 40 v fun u => ifR (is63 (sortK u)) (keyK (nameK u) es (k u) fun _ => .fail) (k u)) (k t)
theorem resK_eq (es : List (V × V × Nat)) (t : Tm) (k : Tm → R) : resK es t k = optR (resF es t) k := by
  unfold resK resF
  rw [is63_eq, sortK_eq, nameK_eq, keyK_eq _ _ _ es 0]
  by_cases h : t.sort = 63
  · simp only [h, decide_true, if_true]
    show (match strKey t.name es 0 with | some none => k t | some (some (_, v, _)) => tmK 40 v _ | none => T.fail) = _
    cases strKey t.name es 0 with
    | none => rfl
    | some o => cases o with
      | none => rfl
      | some r =>
        obtain ⟨j, v, b⟩ := r
        show tmK 40 v _ = _
        rw [tmK_eq]
        cases hv : tmOf 40 v with
        | none => simp only [hv]; rfl
        | some u =>
          simp only [hv]
          show ifR (is63 (sortK u)) (keyK (nameK u) es (k u) fun _ => .fail) (k u) = _
          rw [is63_eq, sortK_eq, nameK_eq, keyK_eq _ _ _ es 0]
          by_cases h2 : u.sort = 63
          · simp only [h2, decide_true, if_true]
            show (match strKey u.name es 0 with | some none => k u | some (some (_, v, _)) => T.fail | none => T.fail) = _
            cases strKey u.name es 0 with
            | none => rfl
            | some o => cases o <;> rfl
          · simp only [h2, decide_false, if_false]; rfl
  · simp only [h, decide_false, if_false]; rfl
noncomputable def fullK (f : Nat) : List (V × V × Nat) → Tm → (Tm → R) → R := @Nat.rec (fun _ => List (V × V × Nat) → Tm → (Tm → R) → R) (fun _ _ _ => .fail) (fun _ ih es t k => resK es t fun t => onTm t (fun s n i => k (.leaf s n i)) fun s n i _ x y => ih es x fun x' => ih es y fun y' => k (.node s n i false x' y')) f
theorem resF_depth {es : List (V × V × Nat)} {t r : Tm} (h : resF es t = some r) : r.depth ≤ max 40 t.depth ∧ (t.sort ≠ 63 → r = t) := by
  unfold resF at h
  split at h
  · rename_i hs
    refine ⟨?_, fun hn => absurd hs hn⟩
    split at h
    · cases h; omega
    · split at h
      · rename_i u hu
        have hd := tmOf_depth _ _ _ hu
        split at h
        · split at h
          · cases h; omega
          · cases h
        · cases h; omega
      · cases h
    · cases h
  · cases h; exact ⟨by omega, fun _ => rfl⟩
theorem fullK_all {br : Nat} {Q : V × St → Prop} : ∀ (f : Nat) (es : List (V × V × Nat)) (t : Tm) (k : Tm → R), t.depth ≤ 40 → (fullK f es t k).All br Q → ∃ r, full f es t = some r ∧ (k r).All br Q
  | 0, _, _, _, _, h => h.elim
  | f + 1, es, t, k, hd, h => by
    have h' : (resK es t fun t => onTm t (fun s n i => k (.leaf s n i)) fun s n i _ x y => fullK f es x fun x' => fullK f es y fun y' => k (.node s n i false x' y')).All br Q := h
    rw [resK_eq] at h'
    cases hr : resF es t with
    | none => rw [hr] at h'; exact h'.elim
    | some u =>
      rw [hr] at h'
      have hu := (resF_depth hr).1
      cases u with
      | leaf s n i => exact ⟨_, by simp only [full, fullS, hr], h'⟩
      | node s n i c x y =>
        simp only [Tm.depth] at hu
        have hx : x.depth ≤ 40 := by omega
        have hy : y.depth ≤ 40 := by omega
        have h2 : (fullK f es x fun x' => fullK f es y fun y' => k (.node s n i false x' y')).All br Q := h'
        obtain ⟨x', e1, h3⟩ := fullK_all f es x _ hx h2
        obtain ⟨y', e2, h4⟩ := fullK_all f es y _ hy h3
        exact ⟨_, by simp only [full, fullS, hr, hx, hy, and_self, if_true, e1, e2], h4⟩
noncomputable def vK (t : Tm) : V := @Tm.rec (fun _ => V) (fun s n i => .agg [.int .u8 s, .str n, .int .i64 i, .nils]) (fun s n i c _ _ x y => .agg [.int .u8 s, .str n, .int .i64 i, .dsl [x, y] c]) t
theorem vK_eq : ∀ t : Tm, vK t = t.V
  | .leaf .. => rfl
  | .node s n i c x y => by
    show V.agg [.int .u8 s, .str n, .int .i64 i, .dsl [vK x, vK y] c] = _
    rw [vK_eq x, vK_eq y]; rfl
noncomputable def namK (f : Nat) : List (V × V × Nat) → Nat → Tm → (Tm → List (V × V × Nat) → Nat → R) → R := @Nat.rec (fun _ => List (V × V × Nat) → Nat → Tm → (Tm → List (V × V × Nat) → Nat → R) → R) (fun _ _ _ _ => .fail)
  (fun _ ih es ck t k => onTm t
    (fun s n i => ifR (is63 s) (keyK n es (@List.rec (V × V × Nat) (fun _ => R) (k (.leaf s [97] i) [(.str n, .str [97], ck)] (Nat.succ ck)) (fun e r _ => @List.rec (V × V × Nat) (fun _ => R) (k (.leaf s [98] i) [e, (.str n, .str [98], ck)] (Nat.succ ck)) (fun _ _ _ => .fail) r) es) fun v => onStr v fun l => k (.leaf s l i) es ck) (k (.leaf s n i) es ck))
    fun s n i _ x y => ifR (is63 s) .fail (ih es ck x fun x' es1 ck1 => ih es1 ck1 y fun y' es2 ck2 => k (.node s n i false x' y') es2 ck2)) f
theorem namK_eq : ∀ (f : Nat) (es : List (V × V × Nat)) (ck : Nat) (t : Tm) (k : Tm → List (V × V × Nat) → Nat → R), namK f es ck t k = optR (nam f es ck t) fun r => k r.1 r.2.1 r.2.2
  | 0, _, _, _, _ => rfl
  | f + 1, es, ck, t, k => by
    cases t with
    | leaf s n i =>
      show ifR (is63 s) (keyK n es _ _) (k (.leaf s n i) es ck) = _
      simp only [nam, namS]
      rw [is63_eq, keyK_eq _ _ _ es 0]
      by_cases h : s = 63
      · simp only [h, decide_true, if_true]
        show (match strKey n es 0 with | some none => _ | some (some (_, v, _)) => onStr v _ | none => T.fail) = _
        cases strKey n es 0 with
        | none => rfl
        | some o => cases o with
          | none =>
            match es with
            | [] => rfl
            | [e] => rfl
            | _ :: _ :: _ => rfl
          | some r =>
            obtain ⟨j, v, b⟩ := r
            cases v <;> rfl
      · simp only [h, decide_false, if_false]; rfl
    | node s n i c x y =>
      show ifR (is63 s) .fail (namK f es ck x fun x' es1 ck1 => namK f es1 ck1 y fun y' es2 ck2 => k (.node s n i false x' y') es2 ck2) = _
      simp only [nam, namS]
      rw [is63_eq]
      by_cases h : s = 63
      · simp only [h, decide_true, if_true]; rfl
      · simp only [h, decide_false, if_false]
        show namK f es ck x _ = _
        rw [namK_eq f]
        cases nam f es ck x with
        | none => rfl
        | some r =>
          obtain ⟨x', es1, ck1⟩ := r
          show namK f es1 ck1 y _ = _
          rw [namK_eq f]
          cases hn : nam f es1 ck1 y <;> simp only [hn] <;> rfl
noncomputable def wrD (t : Tm) : List Nat → List Nat := @Tm.rec (fun _ => List Nat → List Nat) (fun s n _ acc => @Bool.rec (fun _ => List Nat) (35 :: 48 :: acc) (63 :: appD n acc) (is63 s)) (fun _ n _ _ _ _ x y acc => 40 :: appD n (32 :: x (32 :: y (41 :: acc)))) t
theorem wrD_eq : ∀ (t : Tm) (acc : List Nat), wrD t acc = wr t ++ acc
  | .leaf s n i, acc => by
    show @Bool.rec (fun _ => List Nat) (35 :: 48 :: acc) (63 :: appD n acc) (is63 s) = _
    rw [is63_eq, appD_eq]
    by_cases h : s = 63 <;> simp [h, wr]
  | .node s n i c x y, acc => by
    show 40 :: appD n (32 :: wrD x (32 :: wrD y (41 :: acc))) = _
    rw [appD_eq, wrD_eq x, wrD_eq y]
    simp [wr]
noncomputable def sizeD (t : Tm) : Nat := @Tm.rec (fun _ => Nat) (fun s n _ => @Bool.rec (fun _ => Nat) 2 (Nat.succ (lenD n)) (is63 s)) (fun _ n _ _ _ _ x y => Nat.add (Nat.add (Nat.add (lenD n) 4) x) y) t
theorem sizeD_eq : ∀ t : Tm, sizeD t = (wr t).length
  | .leaf s n i => by
    show @Bool.rec (fun _ => Nat) 2 (Nat.succ (lenD n)) (is63 s) = _
    rw [is63_eq, lenD_eq]
    by_cases h : s = 63 <;> simp [h, wr]
  | .node s n i c x y => by
    show lenD n + 4 + sizeD x + sizeD y = _
    rw [lenD_eq, sizeD_eq x, sizeD_eq y]
    simp [wr]; omega
noncomputable def isN (m : Nat) (s : Int) : Bool := @Int.rec (fun _ => Bool) (fun n => Nat.beq n m) (fun _ => false) s
theorem isN_eq (m : Nat) (s : Int) : isN m s = decide (s = m) := by
  cases s with
  | ofNat n =>
    show Nat.beq n m = _
    rw [Bool.eq_iff_iff, Nat.beq_eq, decide_eq_true_eq]
    exact ⟨fun h => by rw [h]; rfl, fun h => Int.ofNat.inj h⟩
  | negSucc n =>
    show false = _
    rw [eq_comm, decide_eq_false_iff_not]
    exact fun h => (nomatch h)
noncomputable def andB (a b : Bool) : Bool := @Bool.rec (fun _ => Bool) false b a
theorem andB_eq (a b : Bool) : andB a b = (a && b) := by cases a <;> rfl
noncomputable def okD (t : Tm) : Bool := @Tm.rec (fun _ => Bool) (fun s _ i => @Bool.rec (fun _ => Bool) (andB (isN 35 s) (isN 0 i)) true (is63 s)) (fun s _ _ _ _ _ x y => @Bool.rec (fun _ => Bool) (@Bool.rec (fun _ => Bool) (andB x y) false (isN 35 s)) false (is63 s)) t
theorem okD_eq : ∀ t : Tm, okD t = okW t
  | .leaf s n i => by
    show @Bool.rec (fun _ => Bool) (andB (isN 35 s) (isN 0 i)) true (is63 s) = _
    rw [is63_eq, isN_eq, isN_eq, andB_eq]
    by_cases h : s = 63 <;> simp [h, okW]
  | .node s n i c x y => by
    show @Bool.rec (fun _ => Bool) (@Bool.rec (fun _ => Bool) (andB (okD x) (okD y)) false (isN 35 s)) false (is63 s) = _
    rw [is63_eq, isN_eq, andB_eq, okD_eq x, okD_eq y]
    by_cases h : s = 63
    · simp [h, okW]
    · by_cases h2 : s = 35 <;> simp [h, h2, okW]
end Go.Eng
