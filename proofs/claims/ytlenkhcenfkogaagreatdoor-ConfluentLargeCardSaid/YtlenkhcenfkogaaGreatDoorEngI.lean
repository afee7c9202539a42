/- Terms of the program. -/
import Derived.Test.YtlenkhcenfkogaaGreatDoorEngH
set_option linter.unusedVariables false
namespace Go.Eng
variable {C : Ctx}
inductive PT where
  | hole (n : List Nat)
  | num (i : Int)
  | node (op : List Nat) (c : Bool) (x y : PT)
structure PTy where
  h : TypeId
  m : TypeId
  n : TypeId
def PT.V (T : PTy) : PT → V
  | .hole n => .iface T.h (.str n)
  | .num i => .iface T.m (.int .i64 i)
  | .node op c x y => .iface T.n (.agg [.str op, .dsl [x.V T, y.V T] c])
theorem PT.pure (T : PTy) : ∀ t : PT, pureV (t.V T) = true
  | .hole n => rfl
  | .num i => rfl
  | .node op c x y => by simp [PT.V, pureV, pureVs, PT.pure T x, PT.pure T y]
def PT.depth : PT → Nat
  | .hole _ => 1
  | .num _ => 1
  | .node _ _ x y => max x.depth y.depth + 1
def ptOf (T : PTy) : Nat → V → Option PT
  | 0, _ => none
  | f + 1, v => match v with
    | .iface t (.str n) => if t = T.h then some (.hole n) else none
    | .iface t (.int .i64 i) => if t = T.m then some (.num i) else none
    | .iface t (.agg [.str op, .dsl [x, y] c]) => if t = T.n then match ptOf T f x with
        | some x => match ptOf T f y with
          | some y => some (.node op c x y)
          | none => none
        | none => none
      else none
    | _ => none
theorem ptOf_V (T : PTy) : ∀ (f : Nat) (v : V) (t : PT), ptOf T f v = some t → v = t.V T ∧ t.depth ≤ f
  | 0, v, t, h => by cases h
  | f + 1, v, t, h => by
    simp only [ptOf] at h
    split at h
    · split at h
      · rename_i e; cases h; subst e; exact ⟨rfl, by simp [PT.depth]⟩
      · cases h
    · split at h
      · rename_i e; cases h; subst e; exact ⟨rfl, by simp [PT.depth]⟩
      · cases h
    · split at h
      · rename_i e
        split at h
        · rename_i x' hx
          split at h
          · rename_i y' hy
            cases h; subst e
            obtain ⟨e1, d1⟩ := ptOf_V T f _ _ hx
            obtain ⟨e2, d2⟩ := ptOf_V T f _ _ hy
            subst e1; subst e2
            exact ⟨rfl, by simp only [PT.depth]; omega⟩
          · cases h
        · cases h
      · cases h
    · cases h
theorem ptOf_self (T : PTy) : ∀ (f : Nat) (t : PT), t.depth ≤ f → ptOf T f (t.V T) = some t
  | 0, .hole _, h => by simp [PT.depth] at h
  | 0, .num _, h => by simp [PT.depth] at h
  | 0, .node .., h => by simp [PT.depth] at h
  | f + 1, .hole n, _ => by simp [PT.V, ptOf]
  | f + 1, .num n, _ => by simp [PT.V, ptOf]
  | f + 1, .node op c x y, h => by
    simp only [PT.depth] at h
    simp [PT.V, ptOf, ptOf_self T f x (by omega), ptOf_self T f y (by omega)]
theorem frz_pt (T : PTy) (H : Tr O) (f : Nat) (t : PT) : frz H (f + 3) (t.V T) = some (t.V T, []) := by
  cases t with
  | hole n => rfl
  | num i => rfl
  | node op c x y =>
    have h := PT.pure T x
    have h' := PT.pure T y
    simp [PT.V, frz, frzCells, pureVs, h, h']
def ovQ (Y : PTy) (F : List (V × V × Nat) → PT → Option PT) (args : List V) (s : St) : T (V × St) := match args with
  | [.map b, v] => match s.heap.get b with
    | some (.map es _) => match pureEs es with
      | true => match ptOf Y 40 v with
        | some t => match F es t with
          | some r => .ret (r.V Y, s)
          | none => .fail
        | none => .fail
      | false => .fail
    | _ => .fail
  | _ => .fail
theorem ovQ_ok {Y : PTy} {E : Env} (hE : EnvOk C E) {g n : Nat} {F : List (V × V × Nat) → PT → Option PT}
    (hrun : ∀ es ck t r, pureEs es = true → t.depth ≤ 40 → F es t = some r → ∃ r0 s1 B, callB E (eval E n) (nm g) [.map .h, t.V Y] (St.one es ck) = .ret (r0, s1) ∧ frz s1.heap 6 r0 = some (r.V Y, B) ∧ .h ∉ B ∧ s1.heap.get .h = some (.map es ck)) : OverOk C E.branch g (ovQ Y F) := by
  intro ρ s w args cargs R hI hG hA h
  unfold ovQ at h
  split at h
  · rename_i b v
    split at h
    · rename_i es ck hb
      split at h
      · rename_i hp
        split at h
        · rename_i t ht
          split at h
          · rename_i r hr
            obtain ⟨e, hd⟩ := ptOf_V _ _ _ _ ht
            subst e
            obtain ⟨r0, s1, B, h1, h2, h3, h4⟩ := hrun es ck t r hp hd hr
            refine over_mapA (args' := [.map .h, t.V Y]) hE hI hG hA ⟨.inr ⟨rfl, rfl⟩, .inl ⟨t.pure Y, rfl⟩, trivial⟩ ⟨0, rfl⟩ hb hp (n := n) (f := 6) (Q := fun x => x = (r0, s1)) (by rw [h1]; rfl) ?_
            rintro r1 s2 hq
            cases hq
            refine ⟨r.V Y, B, es, ck, s, h2, h3, h4, hp, rfl, fun x => ?_, h⟩
            split
            · rename_i e; subst e; exact hb
            · rfl
          · exact h.elim
        · exact h.elim
      · exact h.elim
    · exact h.elim
  · exact h.elim
def ovZ (Y : PTy) (F : List (V × V × Nat) → PT → Int → Option Int) (args : List V) (s : St) : T (V × St) := match args with
  | [.map b, v, .int .i64 m] => match s.heap.get b with
    | some (.map es _) => match pureEs es with
      | true => match ptOf Y 40 v with
        | some t => match F es t m with
          | some r => .ret (.int .i64 r, s)
          | none => .fail
        | none => .fail
      | false => .fail
    | _ => .fail
  | _ => .fail
theorem ovZ_ok {Y : PTy} {E : Env} (hE : EnvOk C E) {g n : Nat} {F : List (V × V × Nat) → PT → Int → Option Int}
    (hrun : ∀ es ck t m r, pureEs es = true → t.depth ≤ 40 → F es t m = some r → ∃ s1, callB E (eval E n) (nm g) [.map .h, t.V Y, .int .i64 m] (St.one es ck) = .ret (.int .i64 r, s1) ∧ s1.heap.get .h = some (.map es ck)) : OverOk C E.branch g (ovZ Y F) := by
  intro ρ s w args cargs R hI hG hA h
  unfold ovZ at h
  split at h
  · rename_i b v m
    split at h
    · rename_i es ck hb
      split at h
      · rename_i hp
        split at h
        · rename_i t ht
          split at h
          · rename_i r hr
            obtain ⟨e, hd⟩ := ptOf_V _ _ _ _ ht
            subst e
            obtain ⟨s1, h1, h4⟩ := hrun es ck t m r hp hd hr
            refine over_mapA (args' := [.map .h, t.V Y, .int .i64 m]) hE hI hG hA ⟨.inr ⟨rfl, rfl⟩, .inl ⟨t.pure Y, rfl⟩, .inl ⟨rfl, rfl⟩, trivial⟩ ⟨0, rfl⟩ hb hp (n := n) (f := 1) (Q := fun x => x = (.int .i64 r, s1)) (by rw [h1]; rfl) ?_
            rintro r1 s2 hq
            cases hq
            refine ⟨.int .i64 r, [], es, ck, s, rfl, by simp, h4, hp, rfl, fun x => ?_, h⟩
            split
            · rename_i e; subst e; exact hb
            · rfl
          · exact h.elim
        · exact h.elim
      · exact h.elim
    · exact h.elim
  · exact h.elim
def ovFzQ (h : List V → St → T (V × St)) (args : List V) (s : St) : T (V × St) := match args with
  | .map b :: v :: rest => match s.heap.get b with
    | some (.map es ck) => match frz s.heap 200 v with
      | some (v', B) => match frzEs s.heap 200 es with
        | some (es', B') => match (B ++ B').all fun x => !x.eqb b with
          | true => h (.map b :: v' :: rest) { s with heap := (dropB (B ++ B') s.heap).set (some (.map es' ck)) b }
          | false => .fail
        | none => .fail
      | none => .fail
    | _ => .fail
  | _ => .fail
theorem ovFzQ_ok {br g : Nat} {h : List V → St → T (V × St)} (hh : OverOk C br g h) : OverOk C br g (ovFzQ h) := by
  intro ρ s w args cargs R hI hG hA hr
  unfold ovFzQ at hr
  split at hr
  · rename_i b v rest
    split at hr
    · rename_i es ck hb
      split at hr
      · rename_i v' B h1
        split at hr
        · rename_i es' B' h2
          split at hr
          · rename_i hnb
            have hsz : 2 ≤ cargs.size := by rw [← hA.1]; simp
            have hy : VR ρ (.map b) cargs[0] := hA.2 0 _ _ rfl (by simp [show 0 < cargs.size by omega])
            have hx : VR ρ v cargs[1] := hA.2 1 _ _ rfl (by simp [show 1 < cargs.size by omega])
            obtain ⟨l, hl⟩ : ∃ l, ρ.blk b = some l := by
              generalize cargs[0] = y at hy
              cases hy with
              | map h => exact ⟨_, h⟩
            have f1 := frz_ok hI 200 v v' B h1
            have f2 := frzEs_ok hI 200 es es' B' h2
            obtain ⟨en, m1, m2, m3⟩ := hI.obj b l _ hb hl
            have hent : ∀ (i : Nat) k v n, es[i]? = some (k, v, n) → ∃ cv, VR ρ v cv := fun i k v n hi => let ⟨e, _, _, _, d⟩ := m3 i k v n hi; ⟨e.val, d⟩
            have hB : ∀ z ∈ B ++ B', s.heap.get z ≠ none ∧ ρ.blk z ≠ none := fun z hz => by
              rcases List.mem_append.1 hz with hz | hz
              · exact ⟨(f1.live z hz).1, (f1.live z hz).2 _ hx⟩
              · exact ⟨(f2.live z hz).1, (f2.live z hz).2 hent⟩
            have hnb' : b ∉ B ++ B' := fun hm => by
              have := List.all_eq_true.1 hnb b hm
              have e : b.eqb b = true := Nm.eqb_iff.2 rfl
              rw [e] at this; cases this
            have hle := Rho.frz_le hI (B ++ B')
            have hx1 := Ext.frz hI hB
            have hget : (dropB (B ++ B') s.heap).get b = some (.map es ck) := by rw [get_dropB, if_neg hnb']; exact hb
            have hor : OR C (ρ.frz w (B ++ B')) l (.map es' ck) w := by
              refine ⟨en, m1, by rw [m2, f2.len], fun i k v2 n hi => ?_⟩
              obtain ⟨v0, a, c⟩ := f2.vr _ hle (fun b hb l hl => Rho.frz_imm (List.mem_append.2 (.inr hb)) hl) i k v2 n hi
              obtain ⟨e, c1, c2, c3, c4⟩ := m3 i k v0 n a
              exact ⟨e, c1, c2, c3.mono hle, c _ c4⟩
            have hx2 := Ext.reobj (o' := .map es' ck) hx1.inv hget (by show ρ.blk b ≠ none; rw [hl]; simp) (fun l' hl' => by
              have hl2 : ρ.blk b = some l' := hl'
              rw [hl] at hl2; cases hl2; exact hor)
            have hx3 := hx1.trans hx2
            have hv' := f1.vr _ hx _ hle fun b hb l hl => Rho.frz_imm (List.mem_append.2 (.inl hb)) hl
            have hA' : AR (ρ.frz w (B ++ B')) (.map b :: v' :: rest) cargs := by
              refine ⟨by simpa using hA.1, fun i a c ha hc => ?_⟩
              match i, ha, hc with
              | 0, ha, hc =>
                cases ha
                have e : cargs[0] = c := by simpa [show 0 < cargs.size by omega] using hc
                exact e ▸ hy.mono hle
              | 1, ha, hc =>
                cases ha
                have e : cargs[1] = c := by simpa [show 1 < cargs.size by omega] using hc
                exact e ▸ hv'
              | i + 2, ha, hc => exact (hA.2 (i + 2) a c (by simpa using ha) hc).mono hle
            refine (hh _ _ w _ _ R hx3.inv (hG.mono hle) hA' hr).mono ?_
            rintro cv w' ⟨ρ2, r, s2, hR, hvr, hx4⟩
            exact ⟨ρ2, r, s2, hR, hvr, hx3.trans hx4⟩
          · exact hr.elim
        · exact hr.elim
      · exact hr.elim
    · exact hr.elim
  · exact hr.elim
end Go.Eng
