/- Contracts of functions on terms. -/
import Derived.Test.YtlenkhcenfkogaaGreatDoorEngF
set_option linter.unusedVariables false
namespace Go.Eng
variable {C : Ctx} {ρ : Rho} {s : St} {w : World}
theorem Ext.reobj (hI : Inv C ρ s w) {b : Nm} {o o' : O} (hb : s.heap.get b = some o) (hr : ρ.blk b ≠ none) (h : ∀ l, ρ.blk b = some l → OR C ρ l o' w) : Ext C ρ s w ρ { s with heap := s.heap.set (some o') b } w := by
  have hlive : ∀ x, (s.heap.set (some o') b).get x ≠ none → s.heap.get x ≠ none := fun x hx => by
    rw [Tr.get_set] at hx
    split at hx
    · rename_i e; subst e; rw [hb]; simp
    · exact hx
  refine ⟨⟨fun x l ob hx hl => ?_, fun x y l l' hx hy hl hl' hc => hI.inj x y l l' (hlive x hx) (hlive y hy) hl hl' hc, hI.imm, fun x l hx hl => hI.sep x l (hlive x hx) hl, hI.lt, fun x hx => ⟨(hI.fresh x hx).1, ?_⟩⟩, .refl ρ, rfl, rfl, rfl, Nat.le_refl _, fun _ _ _ => rfl, fun c _ ho => ?_, Nat.le_refl _, fun x hx hlt => ⟨?_, hx⟩, fun c o hc => .inl hc⟩
  · have hx' : (s.heap.set (some o') b).get x = some ob := hx
    rw [Tr.get_set] at hx'
    split at hx'
    · rename_i e; subst e; cases hx'; exact h l hl
    · exact hI.obj x l ob hx' hl
  · show (s.heap.set (some o') b).get x = none
    have := (hI.fresh x hx).2
    rw [Tr.get_set]
    split
    · rename_i e; subst e; rw [hb] at this; cases this
    · exact this
  · obtain ⟨x, l, hx, hl, he⟩ := ho
    exact ⟨x, l, hlive x hx, hl, he⟩
  · show (s.heap.set (some o') b).get x = _
    rw [Tr.get_set, if_neg]
    intro e; subst e; exact hr hx
def frzEs (H : Tr O) (f : Nat) : List (V × V × Nat) → Option (List (V × V × Nat) × List Nm)
  | [] => some ([], [])
  | (k, v, n) :: es => match pureV k with
    | true => match frz H f v with
      | some (v', b) => match frzEs H f es with
        | some (es', b') => some ((k, v', n) :: es', b ++ b')
        | none => none
      | none => none
    | false => none
structure FrzMs (ρ : Rho) (s : St) (w : World) (es es' : List (V × V × Nat)) (B : List Nm) : Prop where
  pure : pureEs es' = true
  len : es'.length = es.length
  live : ∀ b ∈ B, s.heap.get b ≠ none ∧ ((∀ (i : Nat) k v n, es[i]? = some (k, v, n) → ∃ cv, VR ρ v cv) → ρ.blk b ≠ none)
  vr : ∀ ρ', ρ.Le ρ' → (∀ b ∈ B, ∀ l, ρ.blk b = some l → ρ'.imm l.c = w.heap[l.c]?) → ∀ (i : Nat) k v' n, es'[i]? = some (k, v', n) → ∃ v, es[i]? = some (k, v, n) ∧ ∀ cv, VR ρ v cv → VR ρ' v' cv
theorem frzEs_ok (hI : Inv C ρ s w) (f : Nat) : ∀ (es es' : List (V × V × Nat)) (B : List Nm), frzEs s.heap f es = some (es', B) → FrzMs ρ s w es es' B
  | [], es', B, h => by
    simp only [frzEs] at h; cases h
    exact ⟨rfl, rfl, fun b hb => (nomatch hb), fun ρ' _ _ i k v' n hi => by simp at hi⟩
  | (k, v, n) :: es, es', B, h => by
    simp only [frzEs] at h
    split at h
    · rename_i hk
      split at h
      · rename_i v' b e1
        split at h
        · rename_i es1 b1 e2
          cases h
          have h1 := frz_ok hI f v v' b e1
          have h2 := frzEs_ok hI f es es1 b1 e2
          refine ⟨by simp [pureEs, hk, h1.pure, h2.pure], by simp [h2.len], fun x hx => ?_, fun ρ' hle hB i k' v2 n' hi => ?_⟩
          · rcases List.mem_append.1 hx with hx | hx
            · exact ⟨(h1.live x hx).1, fun he => let ⟨cv, hv⟩ := he 0 k v n rfl; (h1.live x hx).2 cv hv⟩
            · exact ⟨(h2.live x hx).1, fun he => (h2.live x hx).2 fun i k v n hi => he (i + 1) k v n (by simpa using hi)⟩
          · cases i with
            | zero =>
              simp at hi
              obtain ⟨rfl, rfl, rfl⟩ := hi
              exact ⟨v, rfl, fun cv hv => h1.vr cv hv ρ' hle fun b hb => hB b (List.mem_append.2 (.inl hb))⟩
            | succ i =>
              rw [List.getElem?_cons_succ] at hi
              obtain ⟨v0, a, c⟩ := h2.vr ρ' hle (fun b hb => hB b (List.mem_append.2 (.inr hb))) i k' v2 n' hi
              exact ⟨v0, by simpa using a, c⟩
        · cases h
      · cases h
    · cases h
def ovFz (h : List V → St → T (V × St)) (args : List V) (s : St) : T (V × St) := match args with
  | [v, .map b] => match s.heap.get b with
    | some (.map es ck) => match frz s.heap 40 v with
      | some (v', B) => match frzEs s.heap 40 es with
        | some (es', B') => match (B ++ B').all fun x => !x.eqb b with
          | true => h [v', .map b] { s with heap := (dropB (B ++ B') s.heap).set (some (.map es' ck)) b }
          | false => .fail
        | none => .fail
      | none => .fail
    | _ => .fail
  | _ => .fail
theorem ovFz_ok {br g : Nat} {h : List V → St → T (V × St)} (hh : OverOk C br g h) : OverOk C br g (ovFz h) := by
  intro ρ s w args cargs R hI hG hA hr
  unfold ovFz at hr
  split at hr
  · rename_i v b
    split at hr
    · rename_i es ck hb
      split at hr
      · rename_i v' B h1
        split at hr
        · rename_i es' B' h2
          split at hr
          · rename_i hnb
            obtain ⟨x, y, rfl, hx, hy⟩ := hA.two
            obtain ⟨l, hl, rfl⟩ : ∃ l, ρ.blk b = some l ∧ y = .map (some l.c) := by
              cases hy with
              | map h => exact ⟨_, h, rfl⟩
            have f1 := frz_ok hI 40 v v' B h1
            have f2 := frzEs_ok hI 40 es es' B' h2
            obtain ⟨en, m1, m2, m3⟩ := hI.obj b l _ hb hl
            have hent : ∀ (i : Nat) k v n, es[i]? = some (k, v, n) → ∃ cv, VR ρ v cv := fun i k v n hi => let ⟨e, _, _, _, d⟩ := m3 i k v n hi; ⟨e.val, d⟩
            have hB : ∀ z ∈ B ++ B', s.heap.get z ≠ none ∧ ρ.blk z ≠ none := fun z hz => by
              rcases List.mem_append.1 hz with hz | hz
              · exact ⟨(f1.live z hz).1, (f1.live z hz).2 x hx⟩
              · exact ⟨(f2.live z hz).1, (f2.live z hz).2 hent⟩
            have hnb' : b ∉ B ++ B' := fun hm => by
              have := List.all_eq_true.1 hnb b hm
              have e : b.eqb b = true := Nm.eqb_iff.2 rfl
              rw [e] at this; cases this
            have hle := Rho.frz_le hI (B ++ B')
            have hx1 := Ext.frz hI hB
            have hget : (dropB (B ++ B') s.heap).get b = some (.map es ck) := by rw [get_dropB, if_neg hnb']; exact hb
            have hor : OR C (ρ.frz w (B ++ B')) l (.map es' ck) w := by
              refine ⟨en, m1, by rw [m2, f2.len], fun i k v2 n hi => ?_⟩
              obtain ⟨v0, a, c⟩ := f2.vr _ hle (fun b hb l hl => Rho.frz_imm (List.mem_append.2 (.inr hb)) hl) i k v2 n hi
              obtain ⟨e, c1, c2, c3, c4⟩ := m3 i k v0 n a
              exact ⟨e, c1, c2, c3.mono hle, c _ c4⟩
            have hx2 := Ext.reobj (o' := .map es' ck) hx1.inv hget (by show ρ.blk b ≠ none; rw [hl]; simp) (fun l' hl' => by
              have hl2 : ρ.blk b = some l' := hl'
              rw [hl] at hl2; cases hl2; exact hor)
            have hx3 := hx1.trans hx2
            have hv' := f1.vr x hx _ hle fun b hb l hl => Rho.frz_imm (List.mem_append.2 (.inl hb)) hl
            have hA' : AR (ρ.frz w (B ++ B')) [v', .map b] #[x, .map (some l.c)] := by
              refine ⟨rfl, fun i a c ha hc => ?_⟩
              match i, ha, hc with
              | 0, ha, hc => cases ha; cases hc; exact hv'
              | 1, ha, hc => cases ha; cases hc; exact .map (l := l) hl
            refine (hh _ _ w _ _ R hx3.inv (hG.mono hle) hA' hr).mono ?_
            rintro cv w' ⟨ρ2, r, s2, hR, hvr, hx4⟩
            exact ⟨ρ2, r, s2, hR, hvr, hx3.trans hx4⟩
          · exact hr.elim
        · exact hr.elim
      · exact hr.elim
    · exact hr.elim
  · exact hr.elim
theorem OverOk.weaken {br g : Nat} {h h' : List V → St → T (V × St)} (hh : OverOk C br g h) (hw : ∀ args s R, (h' args s).All br R → (h args s).All br R) : OverOk C br g h' :=
  fun ρ s w args cargs R hI hG hA hr => hh ρ s w args cargs R hI hG hA (hw args s R hr)
noncomputable def ovFullK (args : List V) (s : St) : T (V × St) := match args with
  | [v, .map b] => match s.heap.get b with
    | some (.map es ck) => match frz s.heap 40 v with
      | some (v', B) => match frzEs s.heap 40 es with
        | some (es', B') => match (B ++ B').all fun x => !x.eqb b with
          | true => tmK 40 v' fun t => fullK 40 es' t fun r => .ret (vK r, { s with heap := (dropB (B ++ B') s.heap).set (some (.map es' ck)) b })
          | false => .fail
        | none => .fail
      | none => .fail
    | _ => .fail
  | _ => .fail
theorem frzEs_pure {H : Tr O} {f : Nat} : ∀ {es es' : List (V × V × Nat)} {B : List Nm}, frzEs H f es = some (es', B) → (∀ v v' B, frz H f v = some (v', B) → pureV v' = true) → pureEs es' = true
  | [], es', B, h, _ => by simp only [frzEs] at h; cases h; rfl
  | (k, v, n) :: es, es', B, h, hp => by
    simp only [frzEs] at h
    split at h
    · rename_i hk
      split at h
      · rename_i v' b e1
        split at h
        · rename_i es1 b1 e2
          cases h
          simp [pureEs, hk, hp v v' b e1, frzEs_pure e2 hp]
        · cases h
      · cases h
    · cases h
theorem frz_pure (H : Tr O) : ∀ (f : Nat) (v v' : V) (B : List Nm), frz H f v = some (v', B) → pureV v' = true
  | 0, v, v', B, h => by simp [frz] at h
  | f + 1, v, v', B, h => by
    have cell : ∀ {cs cs' : List V} {B : List Nm}, frzCells (frz H f) cs = some (cs', B) → pureVs cs' = true := by
      intro cs
      induction cs with
      | nil => intro cs' B h; simp only [frzCells] at h; cases h; rfl
      | cons v cs ih =>
        intro cs' B h
        simp only [frzCells] at h
        split at h
        · rename_i v' b e1
          split at h
          · rename_i r b' e2
            cases h
            simp [pureVs, frz_pure H f _ _ _ e1, ih e2]
          · cases h
        · cases h
    have row : ∀ {es : List (List V)} {es' : List V} {B : List Nm}, frzRow (frz H f) es = some (es', B) → pureVs es' = true := by
      intro es
      induction es with
      | nil => intro cs' B h; simp only [frzRow] at h; cases h; rfl
      | cons v cs ih =>
        intro cs' B h
        simp only [frzRow] at h
        split at h
        · rename_i v' b e1
          split at h
          · rename_i r b' e2
            cases h
            simp [pureVs, pk_pure, cell e1, ih e2]
          · cases h
        · cases h
    simp only [frz] at h
    split at h
    · cases h; rfl
    · cases h; rfl
    · cases h; rfl
    · cases h; rfl
    · split at h
      · rename_i hp; cases h; exact hp
      · cases h
    · split at h
      · rename_i e; cases h; exact cell e
      · cases h
    · split at h
      · rename_i e; cases h; have hq := frz_pure H f _ _ _ e; exact hq
      · cases h
    · split at h
      · split at h
        · split at h
          · rename_i e; cases h; exact row e
          · cases h
        · cases h
      · cases h
    · cases h
theorem ovFullK_ok {br g : Nat} (hh : OverOk C br g (ovR (full 40))) : OverOk C br g ovFullK := by
  refine (ovFz_ok hh).weaken fun args s R h => ?_
  unfold ovFullK at h
  unfold ovFz
  split at h
  · rename_i v b
    split at h
    · rename_i es ck hb
      split at h
      · rename_i v' B h1
        split at h
        · rename_i es' B' h2
          split at h
          · rename_i hnb
            rw [tmK_eq] at h
            cases ht : tmOf 40 v' with
            | none => rw [ht] at h; exact h.elim
            | some t =>
              rw [ht] at h
              have h' : (fullK 40 es' t fun r => .ret (vK r, { s with heap := (dropB (B ++ B') s.heap).set (some (.map es' ck)) b })).All br R := h
              obtain ⟨r, e1, e2⟩ := fullK_all 40 es' t _ (tmOf_depth _ _ _ ht) h'
              have hp := frzEs_pure h2 (frz_pure s.heap 40)
              have hg : (Tr.set (some (O.map es' ck)) b (dropB (B ++ B') s.heap)).get b = some (.map es' ck) := Tr.get_set_same ..
              rw [vK_eq] at e2
              simp only [ovR, hg, hp, ht, e1]
              exact e2
          · exact h.elim
        · exact h.elim
      · exact h.elim
    · exact h.elim
  · exact h.elim
noncomputable def ovNamK (args : List V) (s : St) : T (V × St) := match args with
  | [v, .map b] => match s.heap.get b with
    | some (.map es ck) => match pureEs es with
      | true => tmK 40 v fun t => namK 40 es ck t fun r es' ck' => .ret (vK r, { s with heap := s.heap.set (some (.map es' ck')) b })
      | false => .fail
    | _ => .fail
  | _ => .fail
theorem ovNamK_ok {br g : Nat} (hh : OverOk C br g (ovN (nam 40))) : OverOk C br g ovNamK := by
  refine hh.weaken fun args s R h => ?_
  unfold ovNamK at h
  split at h
  · rename_i v b
    split at h
    · rename_i es ck hb
      split at h
      · rename_i hp
        rw [tmK_eq] at h
        cases ht : tmOf 40 v with
        | none => rw [ht] at h; exact h.elim
        | some t =>
          rw [ht] at h
          have h' : (namK 40 es ck t fun r es' ck' => .ret (vK r, { s with heap := s.heap.set (some (.map es' ck')) b })).All br R := h
          rw [namK_eq] at h'
          cases hn : nam 40 es ck t with
          | none => rw [hn] at h'; exact h'.elim
          | some r =>
            obtain ⟨r, es', ck'⟩ := r
            rw [hn] at h'
            simp only [ovN, hb, hp, ht, hn]
            have h2 : T.All br R (.ret (vK r, { s with heap := s.heap.set (some (.map es' ck')) b })) := h'
            rw [vK_eq] at h2
            exact h2
      · exact h.elim
    · exact h.elim
  · exact h.elim
noncomputable def ovWrK (args : List V) (s : St) : T (V × St) := match args with
  | [v] => tmK 40 v fun t => ifR (okD t) (ifR (Nat.ble (sizeD t) 1000000000) (.ret (.str (wrD t []), s)) .fail) .fail
  | _ => .fail
theorem ovWrK_ok {br g : Nat} (hh : OverOk C br g (ovS (wrF 40))) : OverOk C br g ovWrK := by
  refine hh.weaken fun args s R h => ?_
  unfold ovWrK at h
  split at h
  · rename_i v
    rw [tmK_eq] at h
    cases ht : tmOf 40 v with
    | none => rw [ht] at h; exact h.elim
    | some t =>
      rw [ht] at h
      have h' : (ifR (okD t) (ifR (Nat.ble (sizeD t) 1000000000) (.ret (.str (wrD t []), s)) .fail) .fail).All br R := h
      obtain ⟨h1, h'⟩ := all_ifF h'
      obtain ⟨h2, h'⟩ := all_ifF h'
      rw [okD_eq] at h1
      rw [sizeD_eq, Nat.ble_eq] at h2
      rw [wrD_eq, List.append_nil] at h'
      simp only [ovS, ht, wrF, h1, h2, tmOf_depth _ _ _ ht, and_self, if_true]
      exact h'
  · exact h.elim
end Go.Eng
