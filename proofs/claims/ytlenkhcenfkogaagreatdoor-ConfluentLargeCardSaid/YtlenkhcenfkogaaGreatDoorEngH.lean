/- The same contracts in direct style. -/
import Derived.Test.YtlenkhcenfkogaaGreatDoorEngG
set_option linter.unusedVariables false
namespace Go.Eng
variable {C : Ctx}
noncomputable def gAgg {α : Type} (v : V) (d : α) (f : List V → α) : α := @V.rec (fun _ => α) (fun _ => Unit) (fun _ => d) (fun _ _ => d) (fun _ => d) d (fun _ _ _ => d) (fun _ _ _ => d) d (fun _ _ _ _ _ => d) (fun _ _ _ => d) d (fun _ => d) (fun _ _ _ _ _ => d) d (fun _ _ _ => d) d (fun cs _ => f cs) (fun _ _ => d) (fun _ => d) () (fun _ _ _ _ => ()) v
noncomputable def gInt {α : Type} (v : V) (d : α) (f : IntKind → Int → α) : α := @V.rec (fun _ => α) (fun _ => Unit) (fun _ => d) f (fun _ => d) d (fun _ _ _ => d) (fun _ _ _ => d) d (fun _ _ _ _ _ => d) (fun _ _ _ => d) d (fun _ => d) (fun _ _ _ _ _ => d) d (fun _ _ _ => d) d (fun _ _ => d) (fun _ _ => d) (fun _ => d) () (fun _ _ _ _ => ()) v
noncomputable def gStr {α : Type} (v : V) (d : α) (f : List Nat → α) : α := @V.rec (fun _ => α) (fun _ => Unit) (fun _ => d) (fun _ _ => d) f d (fun _ _ _ => d) (fun _ _ _ => d) d (fun _ _ _ _ _ => d) (fun _ _ _ => d) d (fun _ => d) (fun _ _ _ _ _ => d) d (fun _ _ _ => d) d (fun _ _ => d) (fun _ _ => d) (fun _ => d) () (fun _ _ _ _ => ()) v
noncomputable def gKids {α : Type} (v : V) (d x : α) (f : List V → Bool → α) : α := @V.rec (fun _ => α) (fun _ => Unit) (fun _ => d) (fun _ _ => d) (fun _ => d) d (fun _ _ _ => d) (fun _ _ _ => d) x (fun _ _ _ _ _ => d) (fun es c _ => f es c) d (fun _ => d) (fun _ _ _ _ _ => d) d (fun _ _ _ => d) d (fun _ _ => d) (fun _ _ => d) (fun _ => d) () (fun _ _ _ _ => ()) v
noncomputable def gU8 {α : Type} (k : IntKind) (d x : α) : α := @IntKind.rec (fun _ => α) d d d d x d d d k
noncomputable def gI64 {α : Type} (k : IntKind) (d x : α) : α := @IntKind.rec (fun _ => α) d d d x d d d d k
noncomputable def gl1 {α : Type} (vs : List V) (d : α) (f : V → α) : α := @List.rec V (fun _ => α) d (fun a r _ => @List.rec V (fun _ => α) (f a) (fun _ _ _ => d) r) vs
noncomputable def gl2 {α : Type} (vs : List V) (d : α) (f : V → V → α) : α := @List.rec V (fun _ => α) d (fun a r _ => gl1 r d (f a)) vs
noncomputable def gl4 {α : Type} (vs : List V) (d : α) (f : V → V → V → V → α) : α := @List.rec V (fun _ => α) d (fun a r _ => @List.rec V (fun _ => α) d (fun b r _ => gl2 r d (f a b)) r) vs
def bad : Tm := .leaf (.negSucc 0) [] 0
noncomputable def isPos (s : Int) : Bool := @Int.rec (fun _ => Bool) (fun _ => true) (fun _ => false) s
noncomputable def notB (b x : Bool) : Bool := @Bool.rec (fun _ => Bool) x false b
noncomputable def okT (t : Tm) : Bool := @Tm.rec (fun _ => Bool) (fun s _ _ => isPos s) (fun s _ _ _ _ _ x y => notB (is63 s) (andB x y)) t
theorem okT_node {s : Int} {n : List Nat} {i : Int} {c : Bool} {x y : Tm} (h : okT (.node s n i c x y) = true) : s ≠ 63 ∧ okT x = true ∧ okT y = true := by
  have h' : notB (is63 s) (andB (okT x) (okT y)) = true := h
  rw [is63_eq, andB_eq] at h'
  by_cases hs : s = 63
  · simp [hs, notB] at h'
  · simp only [hs, decide_false] at h'
    have h2 : (okT x && okT y) = true := h'
    rw [Bool.and_eq_true] at h2
    exact ⟨hs, h2⟩
theorem okT_node' {s : Int} {n : List Nat} {i : Int} {c : Bool} {x y : Tm} (hs : s ≠ 63) (hx : okT x = true) (hy : okT y = true) : okT (.node s n i c x y) = true := by
  show notB (is63 s) (andB (okT x) (okT y)) = true
  rw [is63_eq, andB_eq, hx, hy]
  simp [hs, notB]
noncomputable def tmD (f : Nat) : V → Tm := @Nat.rec (fun _ => V → Tm) (fun _ => bad) (fun _ ih v => gAgg v bad fun cs => gl4 cs bad fun a b c d => gInt a bad fun ka s => gU8 ka bad (gStr b bad fun n => gInt c bad fun kc i => gI64 kc bad (gKids d bad (.leaf s n i) fun es cl => gl2 es bad fun x y => .node s n i cl (ih x) (ih y)))) f
theorem tmD_ok : ∀ (f : Nat) (v : V), okT (tmD f v) = true → tmOf f v = some (tmD f v)
  | 0, v, h => by cases h
  | f + 1, v, h => by
    have ih := tmD_ok f
    cases v <;> try (exact absurd h (by intro h; cases h))
    rename_i cs
    rcases cs with _ | ⟨a, _ | ⟨b, _ | ⟨c, _ | ⟨d, _ | ⟨e, r⟩⟩⟩⟩⟩ <;> try (exact absurd h (by intro h; cases h))
    cases a <;> try (exact absurd h (by intro h; cases h))
    rename_i ka s
    cases ka <;> try (exact absurd h (by intro h; cases h))
    cases b <;> try (exact absurd h (by intro h; cases h))
    rename_i n
    cases c <;> try (exact absurd h (by intro h; cases h))
    rename_i kc i
    cases kc <;> try (exact absurd h (by intro h; cases h))
    cases d <;> try (exact absurd h (by intro h; cases h))
    · rfl
    · rename_i es cl
      rcases es with _ | ⟨x, _ | ⟨y, _ | ⟨z, r⟩⟩⟩ <;> try (exact absurd h (by intro h; cases h))
      have h' : okT (.node s n i cl (tmD f x) (tmD f y)) = true := h
      obtain ⟨-, hx, hy⟩ := okT_node h'
      simp only [tmOf, ih x hx, ih y hy]
      rfl
noncomputable def keyD {α : Type} (n : List Nat) (es : List (V × V × Nat)) (d kn : α) (ku : V → α) : α := @List.rec (V × V × Nat) (fun _ => α) kn (fun e _ ih => @Prod.rec V (V × Nat) (fun _ => α) (fun a p => @Prod.rec V Nat (fun _ => α) (fun v _ => gStr a d fun m => @Bool.rec (fun _ => α) ih (ku v) (eqS n m)) p) e) es
theorem keyD_eq {α : Type} (n : List Nat) (d kn : α) (ku : V → α) : ∀ (es : List (V × V × Nat)) (i : Nat), keyD n es d kn ku = match strKey n es i with
    | some none => kn
    | some (some (_, v, _)) => ku v
    | none => d
  | [], _ => rfl
  | (a, v, b) :: es, i => by
    show gStr a d (fun m => @Bool.rec (fun _ => α) (keyD n es d kn ku) (ku v) (eqS n m)) = _
    cases a <;> try rfl
    rename_i m
    show @Bool.rec (fun _ => α) (keyD n es d kn ku) (ku v) (eqS n m) = _
    rw [eqS_eq, strKey]
    cases bytesEq n m with
    | true => rfl
    | false => exact keyD_eq n d kn ku es (i + 1)
noncomputable def iteB {α : Type} (b : Bool) (x y : α) : α := @Bool.rec (fun _ => α) y x b
noncomputable def varD (es : List (V × V × Nat)) (n : List Nat) (t : Tm) : Tm := keyD n es bad t fun v => onTm (tmD 40 v) (fun s m i => iteB (is63 s) (keyD m es bad (.leaf s m i) fun _ => bad) (.leaf s m i)) fun s m i c x y => .node s m i c x y
noncomputable def fullD (f : Nat) : List (V × V × Nat) → Tm → Tm := @Nat.rec (fun _ => List (V × V × Nat) → Tm → Tm) (fun _ _ => bad) (fun _ ih es t => onTm (onTm t (fun s n i => iteB (is63 s) (varD es n (.leaf s n i)) (.leaf s n i)) fun s n i c x y => iteB (is63 s) bad (.node s n i c x y)) (fun s n i => .leaf s n i) fun s n i _ x y => .node s n i false (ih es x) (ih es y)) f
noncomputable def headD (es : List (V × V × Nat)) (t : Tm) : Tm := onTm t (fun s n i => iteB (is63 s) (varD es n (.leaf s n i)) (.leaf s n i)) fun s n i c x y => iteB (is63 s) bad (.node s n i c x y)
theorem fullD_succ (f : Nat) (es : List (V × V × Nat)) (t : Tm) : fullD (f + 1) es t = onTm (headD es t) (fun s n i => .leaf s n i) fun s n i _ x y => .node s n i false (fullD f es x) (fullD f es y) := rfl
theorem fullD_arg : ∀ (f : Nat) (es : List (V × V × Nat)) (t : Tm), okT (fullD f es t) = true → okT t = true
  | 0, _, _, h => by cases h
  | f + 1, es, .leaf s n i, h => by
    rw [fullD_succ] at h
    by_cases hs : s = 63
    · subst hs; rfl
    · have e : headD es (.leaf s n i) = .leaf s n i := by
        show iteB (is63 s) _ _ = _
        rw [is63_eq]; simp [hs, iteB]
      rw [e] at h; exact h
  | f + 1, es, .node s n i c x y, h => by
    rw [fullD_succ] at h
    by_cases hs : s = 63
    · have e : headD es (.node s n i c x y) = bad := by
        show iteB (is63 s) _ _ = _
        rw [is63_eq]; simp [hs, iteB]
      rw [e] at h; cases h
    · have e : headD es (.node s n i c x y) = .node s n i c x y := by
        show iteB (is63 s) _ _ = _
        rw [is63_eq]; simp [hs, iteB]
      rw [e] at h
      obtain ⟨-, hx, hy⟩ := okT_node h
      exact okT_node' hs (fullD_arg f es x hx) (fullD_arg f es y hy)
theorem okT_bad : ¬ okT bad = true := by intro h; cases h
theorem headD_ok {es : List (V × V × Nat)} {t : Tm} (h : okT (headD es t) = true) : resF es t = some (headD es t) := by
  cases t with
  | node s n i c x y =>
    have e0 : headD es (.node s n i c x y) = iteB (is63 s) bad (.node s n i c x y) := rfl
    by_cases hs : s = 63
    · have e : headD es (.node s n i c x y) = bad := by rw [e0, is63_eq]; simp [hs, iteB]
      rw [e] at h; cases h
    · have e : headD es (.node s n i c x y) = .node s n i c x y := by rw [e0, is63_eq]; simp [hs, iteB]
      rw [e]; exact if_neg hs
  | leaf s n i =>
    have e0 : headD es (.leaf s n i) = iteB (is63 s) (varD es n (.leaf s n i)) (.leaf s n i) := rfl
    by_cases hs : s = 63
    · have e : headD es (.leaf s n i) = varD es n (.leaf s n i) := by rw [e0, is63_eq]; simp [hs, iteB]
      rw [e] at h ⊢
      unfold varD at h ⊢
      rw [keyD_eq _ _ _ _ es 0] at h ⊢
      have hs' : (Tm.leaf s n i).sort = 63 := hs
      have hn : (Tm.leaf s n i).name = n := rfl
      unfold resF
      rw [if_pos hs', hn]
      cases hk : strKey n es 0 with
      | none => rw [hk] at h; exact (okT_bad h).elim
      | some o => cases o with
        | none => rfl
        | some r =>
          obtain ⟨j, v, b⟩ := r
          rw [hk] at h
          have h' : okT (onTm (tmD 40 v) (fun s m i => iteB (is63 s) (keyD m es bad (.leaf s m i) fun _ => bad) (.leaf s m i)) fun s m i c x y => .node s m i c x y) = true := h
          show (match tmOf 40 v with | some u => if u.sort = 63 then (match strKey u.name es 0 with | some none => some u | _ => none) else some u | none => none) = some (onTm (tmD 40 v) _ _)
          have htm := tmD_ok 40 v
          generalize tmD 40 v = u at h' htm ⊢
          cases u with
          | node s2 n2 i2 c2 x2 y2 =>
            have h2 : okT (.node s2 n2 i2 c2 x2 y2) = true := h'
            rw [htm h2]
            exact if_neg (okT_node h2).1
          | leaf s2 n2 i2 =>
            have h2 : okT (iteB (is63 s2) (keyD n2 es bad (.leaf s2 n2 i2) fun _ => bad) (.leaf s2 n2 i2)) = true := h'
            show _ = some (iteB (is63 s2) (keyD n2 es bad (.leaf s2 n2 i2) fun _ => bad) (.leaf s2 n2 i2))
            rw [is63_eq, keyD_eq _ _ _ _ es 0] at h2 ⊢
            by_cases hs2 : s2 = 63
            · have hok : okT (.leaf s2 n2 i2) = true := by subst hs2; rfl
              rw [htm hok]
              simp only [hs2, decide_true, iteB, Tm.sort, Tm.name, if_true] at h2 ⊢
              cases hk2 : strKey n2 es 0 with
              | none => rw [hk2] at h2; exact (okT_bad h2).elim
              | some o => cases o with
                | none => rfl
                | some r => rw [hk2] at h2; exact (okT_bad h2).elim
            · have e : iteB (decide (s2 = 63)) (match strKey n2 es 0 with | some none => Tm.leaf s2 n2 i2 | some (some (_, _, _)) => bad | none => bad) (Tm.leaf s2 n2 i2) = .leaf s2 n2 i2 := by simp [hs2, iteB]
              rw [e] at h2 ⊢
              rw [htm h2]
              exact if_neg hs2
    · have e : headD es (.leaf s n i) = .leaf s n i := by rw [e0, is63_eq]; simp [hs, iteB]
      rw [e]; exact if_neg hs
theorem fullD_ok : ∀ (f : Nat) (es : List (V × V × Nat)) (t : Tm), t.depth ≤ 40 → okT (fullD f es t) = true → full f es t = some (fullD f es t)
  | 0, _, _, _, h => by cases h
  | f + 1, es, t, hd, h => by
    rw [fullD_succ] at h ⊢
    have hh : okT (headD es t) = true := by
      cases hu : headD es t with
      | leaf s n i => rw [hu] at h; exact h
      | node s n i c x y =>
        rw [hu] at h
        obtain ⟨hs, hx, hy⟩ := okT_node h
        exact okT_node' hs (fullD_arg f es x hx) (fullD_arg f es y hy)
    have hr := headD_ok hh
    have hu := (resF_depth hr).1
    cases hq : headD es t with
    | leaf s n i => rw [hq] at hr; simp only [full, fullS, hr]; rfl
    | node s n i c x y =>
      rw [hq] at hr hu h
      simp only [Tm.depth] at hu
      have hx : x.depth ≤ 40 := by omega
      have hy : y.depth ≤ 40 := by omega
      obtain ⟨-, h1, h2⟩ := okT_node h
      simp only [full, fullS, hr, hx, hy, and_self, if_true, fullD_ok f es x hx h1, fullD_ok f es y hy h2]
      rfl
noncomputable def ovFullD (args : List V) (s : St) : T (V × St) := match args with
  | [v, .map b] => match s.heap.get b with
    | some (.map es ck) => match frz s.heap 40 v with
      | some (v', B) => match frzEs s.heap 40 es with
        | some (es', B') => match (B ++ B').all fun x => !x.eqb b with
          | true => ifR (okT (tmD 40 v')) (ifR (okT (fullD 40 es' (tmD 40 v'))) (.ret (vK (fullD 40 es' (tmD 40 v')), { s with heap := (dropB (B ++ B') s.heap).set (some (.map es' ck)) b })) .fail) .fail
          | false => .fail
        | none => .fail
      | none => .fail
    | _ => .fail
  | _ => .fail
theorem ovFullD_ok {br g : Nat} (hh : OverOk C br g (ovR (full 40))) : OverOk C br g ovFullD := by
  refine (ovFz_ok hh).weaken fun args s R h => ?_
  unfold ovFullD at h
  unfold ovFz
  split at h
  · rename_i v b
    split at h
    · rename_i es ck hb
      split at h
      · rename_i v' B h1
        split at h
        · rename_i es' B' h2
          split at h
          · rename_i hnb
            obtain ⟨k1, h⟩ := all_ifF h
            obtain ⟨k2, h⟩ := all_ifF h
            have ht := tmD_ok 40 v' k1
            have e1 := fullD_ok 40 es' _ (tmOf_depth _ _ _ ht) k2
            have hp := frzEs_pure h2 (frz_pure s.heap 40)
            have hg : (Tr.set (some (O.map es' ck)) b (dropB (B ++ B') s.heap)).get b = some (.map es' ck) := Tr.get_set_same ..
            rw [vK_eq] at h
            simp only [hb, h1, h2, hnb, ovR, hg, hp, ht, e1]
            exact h
          · exact h.elim
        · exact h.elim
      · exact h.elim
    · exact h.elim
  · exact h.elim
noncomputable def ovNamD (args : List V) (s : St) : T (V × St) := match args with
  | [v, .map b] => match s.heap.get b with
    | some (.map es ck) => match pureEs es with
      | true => ifR (okT (tmD 40 v)) (namK 40 es ck (tmD 40 v) fun r es' ck' => .ret (vK r, { s with heap := s.heap.set (some (.map es' ck')) b })) .fail
      | false => .fail
    | _ => .fail
  | _ => .fail
theorem ovNamD_ok {br g : Nat} (hh : OverOk C br g (ovN (nam 40))) : OverOk C br g ovNamD := by
  refine (ovNamK_ok hh).weaken fun args s R h => ?_
  unfold ovNamD at h
  unfold ovNamK
  split at h
  · split at h
    · rename_i hb
      split at h
      · rename_i hp
        obtain ⟨k1, h⟩ := all_ifF h
        simp only [hb, hp]
        rw [tmK_eq, tmD_ok 40 _ k1]
        exact h
      · exact h.elim
    · exact h.elim
  · exact h.elim
noncomputable def ovWrD (args : List V) (s : St) : T (V × St) := match args with
  | [v] => ifR (okT (tmD 40 v)) (ifR (okD (tmD 40 v)) (ifR (Nat.ble (sizeD (tmD 40 v)) 1000000000) (.ret (.str (wrD (tmD 40 v) []), s)) .fail) .fail) .fail
  | _ => .fail
theorem ovWrD_ok {br g : Nat} (hh : OverOk C br g (ovS (wrF 40))) : OverOk C br g ovWrD := by
  refine (ovWrK_ok hh).weaken fun args s R h => ?_
  unfold ovWrD at h
  unfold ovWrK
  split at h
  · obtain ⟨k1, h⟩ := all_ifF h
    show (tmK 40 _ _).All br R
    rw [tmK_eq, tmD_ok 40 _ k1]
    exact h
  · exact h.elim
end Go.Eng
