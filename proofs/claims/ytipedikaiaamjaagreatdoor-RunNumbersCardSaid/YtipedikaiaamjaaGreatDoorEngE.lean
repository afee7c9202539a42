/- Small states: what a function does there it does anywhere. -/
import Derived.Test.YtipedikaiaamjaaGreatDoorEngD
section
namespace Go.Eng
mutual
def pureV : V → Bool
  | .bool _ | .int .. | .str _ | .nils | .nilp | .nilm | .nilf | .nili => true
  | .agg cs => pureVs cs
  | .tup cs => pureVs cs
  | .dsl es _ => pureVs es
  | .iface _ v => pureV v
  | _ => false
def pureVs : List V → Bool
  | [] => true
  | v :: vs => pureV v && pureVs vs
end
theorem pureVs_mem : ∀ {l : List V}, pureVs l = true → ∀ (i : Nat) v, l[i]? = some v → pureV v = true
  | a :: l, h, i, v, hv => by
    simp only [pureVs, Bool.and_eq_true] at h
    cases i with
    | zero => simp at hv; subst hv; exact h.1
    | succ i => rw [List.getElem?_cons_succ] at hv; exact pureVs_mem h.2 i v hv
  | [], _, i, v, hv => by simp at hv
theorem VR.toBare {ρ : Rho} {v : V} {cv : Value} (h : VR ρ v cv) : pureV v = true → VR ρ.bare v cv := by
  induction h with
  | bool b => exact fun _ => .bool b
  | int k n => exact fun _ => .int k n
  | str e => exact fun _ => .str e
  | nilp => exact fun _ => .nilp
  | nils => exact fun _ => .nils
  | nilm => exact fun _ => .nilm
  | nilf => exact fun _ => .nilf
  | nili => exact fun _ => .nili
  | dsl h1 h2 h3 h4 h5 hx _ ih =>
    intro hp
    refine .dsl h1 h2 h3 h4 h5 hx fun i e j v cv a b c => ih i e j v cv a b c ?_
    have he : pureV e = true := pureVs_mem hp i e a
    cases e with
    | agg cs => exact pureVs_mem he j v b
    | _ => first
      | (simp only [V.cells] at b; cases j with
         | zero => simp at b; subst b; exact he
         | succ j => simp at b)
  | agg hs e _ ih => exact fun hp => .agg hs e fun i v cv a b => ih i v cv a b (pureVs_mem hp i v a)
  | ptr e => intro hp; simp [pureV] at hp
  | rp a b c ih => intro hp; simp [pureV] at hp
  | row a b c d e f => intro hp; simp [pureV] at hp
  | map e => intro hp; simp [pureV] at hp
  | clo a b c d e f g => intro hp; simp [pureV] at hp
  | yld e => intro hp; simp [pureV] at hp
  | iface e ih => exact fun hp => .iface (ih hp)
  | tup e _ ih => exact fun hp => .tup e fun i v cv a b => ih i v cv a b (pureVs_mem hp i v a)
  | it e => intro hp; simp [pureV] at hp
def frzCells (g : V → Option (V × List Nm)) : List V → Option (List V × List Nm)
  | [] => some ([], [])
  | v :: vs => match g v with
    | some (v', b) => match frzCells g vs with
      | some (vs', b') => some (v' :: vs', b ++ b')
      | none => none
    | none => none
def pk : List V → V
  | [] => .agg []
  | [v] => match scalarV v with
    | true => v
    | false => .agg [v]
  | a :: b :: r => .agg (a :: b :: r)
theorem cells_scalar {v : V} (h : scalarV v = true) : v.cells = [v] := by cases v <;> first | rfl | (simp [scalarV] at h)
theorem pk_cells : ∀ cs : List V, (pk cs).cells = cs
  | [] => rfl
  | [v] => by
    simp only [pk]
    cases h : scalarV v with
    | true => exact cells_scalar h
    | false => rfl
  | a :: b :: r => rfl
theorem pk_pure : ∀ cs : List V, pureV (pk cs) = pureVs cs
  | [] => rfl
  | [v] => by
    simp only [pk]
    cases h : scalarV v with
    | true => simp [pureVs]
    | false => simp [pureV]
  | a :: b :: r => by simp [pk, pureV]
def frzRow (g : V → Option (V × List Nm)) : List (List V) → Option (List V × List Nm)
  | [] => some ([], [])
  | cs :: r => match frzCells g cs with
    | some (cs', b) => match frzRow g r with
      | some (r', b') => some (pk cs' :: r', b ++ b')
      | none => none
    | none => none
def frz (H : Tr O) : Nat → V → Option (V × List Nm)
  | 0, _ => none
  | f + 1, v => match v with
    | .bool _ | .int .. | .str _ | .nils => some (v, [])
    | .dsl es c => match pureVs es with
      | true => some (.dsl es c, [])
      | false => none
    | .agg cs => match frzCells (frz H f) cs with
      | some (cs', b) => some (.agg cs', b)
      | none => none
    | .iface t v => match frz H f v with
      | some (v', b) => some (.iface t v', b)
      | none => none
    | .row b _ off len clip => match H.get b with
      | some (.row es _ _) => match window off len es with
        | some es => match frzRow (frz H f) es with
          | some (es', bs) => some (.dsl es' clip, b :: bs)
          | none => none
        | none => none
      | _ => none
    | _ => none
structure FrzOk (ρ : Rho) (s : St) (w : World) (v v' : V) (B : List Nm) : Prop where
  pure : pureV v' = true
  scalar : scalarV v' = scalarV v
  live : ∀ b ∈ B, s.heap.get b ≠ none ∧ (∀ cv, VR ρ v cv → ρ.blk b ≠ none)
  vr : ∀ cv, VR ρ v cv → ∀ ρ', ρ.Le ρ' → (∀ b ∈ B, ∀ l, ρ.blk b = some l → ρ'.imm l.c = w.heap[l.c]?) → VR ρ' v' cv
structure FrzCs (ρ : Rho) (s : St) (w : World) (cs cs' : List V) (B : List Nm) : Prop where
  pure : pureVs cs' = true
  len : cs'.length = cs.length
  scalar : cs.all scalarV = true → cs'.all scalarV = true
  live : ∀ b ∈ B, s.heap.get b ≠ none ∧ (∀ f, LR ρ cs f → ρ.blk b ≠ none)
  vr : ∀ f, LR ρ cs f → ∀ ρ', ρ.Le ρ' → (∀ b ∈ B, ∀ l, ρ.blk b = some l → ρ'.imm l.c = w.heap[l.c]?) → LR ρ' cs' f
variable {C : Ctx} {ρ : Rho} {s : St} {w : World}
theorem LR.tail {v : V} {vs : List V} {f : Nat → Option Value} (h : LR ρ (v :: vs) f) : LR ρ vs fun i => f (i + 1) := fun i u hu => h (i + 1) u (by simpa using hu)
theorem frzCells_ok {g : V → Option (V × List Nm)} (hg : ∀ v v' B, g v = some (v', B) → FrzOk ρ s w v v' B) : ∀ {cs cs' : List V} {B : List Nm}, frzCells g cs = some (cs', B) → FrzCs ρ s w cs cs' B
  | [], cs', B, h => by
    simp only [frzCells] at h; cases h
    exact ⟨rfl, rfl, fun h => h, fun b hb => (nomatch hb), fun f hf ρ' _ _ i u hu => by simp at hu⟩
  | v :: vs, cs', B, h => by
    simp only [frzCells] at h
    split at h
    · rename_i v' b e1
      split at h
      · rename_i vs' b' e2
        cases h
        have h1 := hg v v' b e1
        have h2 := frzCells_ok hg e2
        refine ⟨by simp [pureVs, h1.pure, h2.pure], by simp [h2.len], fun hs => ?_, fun x hx => ?_, fun f hf ρ' hle hB => ?_⟩
        · simp only [List.all_cons, Bool.and_eq_true] at hs ⊢
          exact ⟨by rw [h1.scalar]; exact hs.1, h2.scalar hs.2⟩
        · rcases List.mem_append.1 hx with hx | hx
          · exact ⟨(h1.live x hx).1, fun f hf => let ⟨cv, _, hv⟩ := hf 0 v rfl; (h1.live x hx).2 cv hv⟩
          · exact ⟨(h2.live x hx).1, fun f hf => (h2.live x hx).2 _ hf.tail⟩
        · intro i u hu
          cases i with
          | zero =>
            simp at hu; subst hu
            obtain ⟨cv, e, hv⟩ := hf 0 v rfl
            exact ⟨cv, e, h1.vr cv hv ρ' hle fun b hb => hB b (List.mem_append.2 (.inl hb))⟩
          | succ i =>
            rw [List.getElem?_cons_succ] at hu
            exact h2.vr _ hf.tail ρ' hle (fun b hb => hB b (List.mem_append.2 (.inr hb))) i u hu
      · cases h
    · cases h
structure FrzRs (ρ : Rho) (s : St) (w : World) (es : List (List V)) (es' : List V) (B : List Nm) : Prop where
  pure : pureVs es' = true
  len : es'.length = es.length
  live : ∀ b ∈ B, s.heap.get b ≠ none ∧ (∀ f : Nat → Nat → Option Value, (∀ (i : Nat) e, es[i]? = some e → LR ρ e (f i)) → ρ.blk b ≠ none)
  cells : ∀ (i : Nat) e', es'[i]? = some e' → ∃ e, es[i]? = some e ∧ e'.cells.length = e.length ∧ (e.all scalarV = true → e'.cells.all scalarV = true)
  vr : ∀ f : Nat → Nat → Option Value, (∀ (i : Nat) e, es[i]? = some e → LR ρ e (f i)) → ∀ ρ', ρ.Le ρ' → (∀ b ∈ B, ∀ l, ρ.blk b = some l → ρ'.imm l.c = w.heap[l.c]?) → ∀ (i : Nat) e', es'[i]? = some e' → LR ρ' e'.cells (f i)
theorem frzRow_ok {g : V → Option (V × List Nm)} (hg : ∀ v v' B, g v = some (v', B) → FrzOk ρ s w v v' B) : ∀ {es : List (List V)} {es' : List V} {B : List Nm}, frzRow g es = some (es', B) → FrzRs ρ s w es es' B
  | [], es', B, h => by
    simp only [frzRow] at h; cases h
    exact ⟨rfl, rfl, fun b hb => (nomatch hb), fun i e' h => (by simp at h), fun f _ ρ' _ _ i e' h => (by simp at h)⟩
  | cs :: r, es', B, h => by
    simp only [frzRow] at h
    split at h
    · rename_i cs' b e1
      split at h
      · rename_i r' b' e2
        cases h
        have h1 := frzCells_ok hg e1
        have h2 := frzRow_ok hg e2
        refine ⟨by simp [pureVs, pk_pure, h1.pure, h2.pure], by simp [h2.len], fun x hx => ?_, fun i e' he => ?_, fun f hf ρ' hle hB i e' he => ?_⟩
        · rcases List.mem_append.1 hx with hx | hx
          · exact ⟨(h1.live x hx).1, fun f hf => (h1.live x hx).2 _ (hf 0 cs rfl)⟩
          · exact ⟨(h2.live x hx).1, fun f hf => (h2.live x hx).2 (fun i => f (i + 1)) fun i e he => hf (i + 1) e (by simpa using he)⟩
        · cases i with
          | zero => simp at he; subst he; exact ⟨cs, rfl, by rw [pk_cells]; exact h1.len, by rw [pk_cells]; exact h1.scalar⟩
          | succ i =>
            rw [List.getElem?_cons_succ] at he
            obtain ⟨e, a, b⟩ := h2.cells i e' he
            exact ⟨e, by simpa using a, b⟩
        · cases i with
          | zero => simp at he; subst he; rw [pk_cells]; exact h1.vr _ (hf 0 cs rfl) ρ' hle fun b hb => hB b (List.mem_append.2 (.inl hb))
          | succ i =>
            rw [List.getElem?_cons_succ] at he
            exact h2.vr (fun i => f (i + 1)) (fun i e he => hf (i + 1) e (by simpa using he)) ρ' hle (fun b hb => hB b (List.mem_append.2 (.inr hb))) i e' he
      · cases h
    · cases h
theorem window_spec {α : Type} : ∀ {j n : Nat} {l r : List α}, window j n l = some r → r.length = n ∧ ∀ i, i < n → r[i]? = l[j + i]? := by
  have tk : ∀ {n : Nat} {l r : List α}, takeExact n l = some r → r.length = n ∧ ∀ i, i < n → r[i]? = l[i]? := by
    intro n
    induction n with
    | zero => intro l r h; simp [takeExact] at h; subst h; exact ⟨rfl, fun i hi => by omega⟩
    | succ n ih =>
      intro l r h
      cases l with
      | nil => simp [takeExact] at h
      | cons a l =>
        simp only [takeExact] at h
        split at h
        · rename_i r' e
          cases h
          obtain ⟨h1, h2⟩ := ih e
          refine ⟨by simp [h1], fun i hi => ?_⟩
          cases i with
          | zero => rfl
          | succ i => simpa using h2 i (by omega)
        · cases h
  have dr : ∀ {j : Nat} {l r : List α}, dropExact j l = some r → ∀ i : Nat, r[i]? = l[j + i]? := by
    intro j
    induction j with
    | zero => intro l r h i; simp [dropExact] at h; subst h; simp
    | succ j ih =>
      intro l r h i
      cases l with
      | nil => simp [dropExact] at h
      | cons a l => rw [ih h i]; rw [show j + 1 + i = (j + i) + 1 by omega]; rfl
  intro j n l r h
  unfold window at h
  split at h
  · rename_i r' e
    obtain ⟨h1, h2⟩ := tk h
    exact ⟨h1, fun i hi => by rw [h2 i hi, dr e i]⟩
  · cases h
theorem frz_ok (hI : Inv C ρ s w) : ∀ (f : Nat) (v v' : V) (B : List Nm), frz s.heap f v = some (v', B) → FrzOk ρ s w v v' B
  | 0, v, v', B, h => by simp [frz] at h
  | f + 1, v, v', B, h => by
    have ih := frz_ok hI f
    have self : ∀ v, pureV v = true → FrzOk ρ s w v v [] := fun v hp => ⟨hp, rfl, fun b hb => (nomatch hb), fun cv hv ρ' hle _ => hv.mono hle⟩
    simp only [frz] at h
    split at h
    · cases h; exact self _ rfl
    · cases h; exact self _ rfl
    · cases h; exact self _ rfl
    · cases h; exact self _ rfl
    · split at h
      · rename_i hp; cases h; exact self _ (by simpa [pureV] using hp)
      · cases h
    · rename_i cs
      split at h
      · rename_i cs' b e
        cases h
        have h1 := frzCells_ok ih e
        have lr : ∀ {cv : Value}, VR ρ (.agg cs) cv → ∃ a : Array Value, cv = .agg a ∧ cs.all scalarV = true ∧ cs.length = a.size ∧ LR ρ cs (fun i => a[i]?) := by
          intro cv hv
          cases hv with
          | agg hs e f =>
            rename_i a
            refine ⟨a, rfl, hs, e, fun i v hi => ?_⟩
            have hlt : i < a.size := by rw [← e]; exact (List.getElem?_eq_some_iff.1 hi).1
            exact ⟨a[i], by simp [hlt], f i v a[i] hi (by simp [hlt])⟩
        refine ⟨by simpa [pureV] using h1.pure, rfl, fun x hx => ⟨(h1.live x hx).1, fun cv hv => ?_⟩, fun cv hv ρ' hle hB => ?_⟩
        · obtain ⟨a, -, -, -, hl⟩ := lr hv
          exact (h1.live x hx).2 _ hl
        · obtain ⟨a, rfl, hs, hn, hl⟩ := lr hv
          refine .agg (h1.scalar hs) (by rw [h1.len]; exact hn) fun i v cv hv hc => ?_
          obtain ⟨cv', e1, e2⟩ := h1.vr _ hl ρ' hle hB i v hv
          have e1' : a[i]? = some cv' := e1
          rw [hc] at e1'; cases e1'; exact e2
      · cases h
    · rename_i t u
      split at h
      · rename_i u' bs e
        cases h
        have h1 := ih u u' _ e
        refine ⟨h1.pure, rfl, fun x hx => ⟨(h1.live x hx).1, fun cv hv => ?_⟩, fun cv hv ρ' hle hB => ?_⟩
        · cases hv with
          | iface hv => exact (h1.live x hx).2 _ hv
        · cases hv with
          | iface hv => exact .iface (h1.vr _ hv ρ' hle hB)
      · cases h
    · rename_i b sz off len clip
      split at h
      · rename_i es sz' ty hb
        split at h
        · rename_i es1 hw
          split at h
          · rename_i es' bs e
            cases h
            have h1 := frzRow_ok ih e
            obtain ⟨w1, w2⟩ := window_spec hw
            have lr : ∀ {cv : Value}, VR ρ (.row b sz off len clip) cv → ∃ l arr fr a cap, ρ.blk b = some l ∧ cv = .slice (some a) len cap ∧ len ≤ cap ∧ (clip = true → cap = len) ∧ (cap ≠ 0 → a = ⟨l.c, l.base + off * sz, none⟩) ∧ w.heap[l.c]? = some (.cells arr ty fr) ∧ (∀ (i : Nat) e, es1[i]? = some e → e.length = sz ∧ e.all scalarV = true) ∧
                ∀ (i : Nat) e, es1[i]? = some e → LR ρ e (fun j => arr[l.base + off * sz + i * sz + j]?) := by
              intro cv hv
              cases hv with
              | row g0 g1 g2 g3 g4 g5 =>
                rename_i cap l a
                obtain ⟨o1, o2, o3, o4, arr, fr, o5, o6, o7, o8⟩ := hI.obj b l _ hb g0
                subst g1
                subst o1
                have hat : ∀ (i : Nat) e, es1[i]? = some e → es[off + i]? = some e := fun i e he => by
                  rw [← w2 i (by rw [← w1]; exact (List.getElem?_eq_some_iff.1 he).1)]; exact he
                refine ⟨l, arr, fr, a, cap, g0, rfl, g2, g5, g4, o5, fun i e he => o4 e (List.mem_of_getElem? (hat i e he)), fun i e he j v hj => ?_⟩
                obtain ⟨cv, a1, a2⟩ := o8 (off + i) e (hat i e he) j v hj
                refine ⟨cv, ?_, a2⟩
                rw [← a1, Nat.add_mul]; congr 1; simp only [Nat.add_assoc]
            refine ⟨by simpa [pureV] using h1.pure, rfl, fun x hx => ?_, fun cv hv ρ' hle hB => ?_⟩
            · rcases List.mem_cons.1 hx with rfl | hx
              · exact ⟨by rw [hb]; simp, fun cv hv => by obtain ⟨l, -, -, -, -, g0, -⟩ := lr hv; rw [g0]; simp⟩
              · refine ⟨(h1.live x hx).1, fun cv hv => ?_⟩
                obtain ⟨l, arr, fr, a, cap, g0, -, -, -, -, -, -, g8⟩ := lr hv
                exact (h1.live x hx).2 (fun i j => arr[l.base + off * sz + i * sz + j]?) g8
            · obtain ⟨l, arr, fr, a, cap, g0, rfl, g2, g5, g4, o5, o4, g8⟩ := lr hv
              have himm : ρ'.imm l.c = some (.cells arr ty fr) := by rw [hB b (by simp) l g0]; exact o5
              have hcell : ∀ k, ρ'.cell l.c k = arr[k]? := fun k => by unfold Rho.cell; rw [himm]
              have hvr := h1.vr (fun i j => arr[l.base + off * sz + i * sz + j]?) g8 ρ' hle (fun x hx => hB x (by simp [hx]))
              have hlen : es'.length = len := by rw [h1.len]; exact w1
              have hne : ∀ (i : Nat) e, es'[i]? = some e → a = ⟨l.c, l.base + off * sz, none⟩ := fun i e he => g4 (by
                have := (List.getElem?_eq_some_iff.1 he).1; omega)
              refine .dsl (sz := sz) hlen g2 g5 (fun hn => ?_) (fun i e he => ?_) (fun i e j v he hj => ?_) (fun i e j v cv he hj hc => ?_)
              · have : 0 < es'.length := List.length_pos_iff.2 hn
                rw [g4 (by omega)]
              · obtain ⟨e0, a1, a2, a3⟩ := h1.cells i e he
                obtain ⟨b1, b2⟩ := o4 i e0 a1
                exact ⟨by rw [a2, b1], a3 b2⟩
              · obtain ⟨cv, c1, c2⟩ := hvr i e he j v hj
                refine ⟨cv, ?_⟩
                rw [hne i e he]; simp only; rw [hcell]; exact c1
              · obtain ⟨cv', c1, c2⟩ := hvr i e he j v hj
                have c1' : arr[l.base + off * sz + i * sz + j]? = some cv' := c1
                rw [hne i e he] at hc; simp only at hc; rw [hcell, c1'] at hc
                cases hc; exact c2
          · cases h
        · cases h
      · cases h
    · cases h
def dropB : List Nm → Tr O → Tr O
  | [], H => H
  | b :: bs, H => dropB bs (H.set none b)
theorem get_dropB : ∀ (B : List Nm) (H : Tr O) (b : Nm), (dropB B H).get b = if b ∈ B then none else H.get b
  | [], H, b => by simp [dropB]
  | x :: B, H, b => by
    rw [dropB, get_dropB B, Tr.get_set]
    by_cases h : b ∈ B
    · rw [if_pos h, if_pos (by simp [h])]
    · rw [if_neg h]
      by_cases e : x = b
      · subst e; rw [if_pos rfl, if_pos (by simp)]
      · rw [if_neg e, if_neg (by simp [h, Ne.symm e])]
open Classical in
noncomputable def Rho.frz (ρ : Rho) (w : World) (B : List Nm) : Rho where
  blk := ρ.blk
  imm := fun c => if ∃ b ∈ B, ∃ l, ρ.blk b = some l ∧ l.c = c then w.heap[c]? else ρ.imm c
theorem Rho.frz_le (hI : Inv C ρ s w) (B : List Nm) : ρ.Le (ρ.frz w B) := ⟨fun _ _ h => h, fun c o h => by
  show (if _ then _ else _) = _
  split
  · exact hI.imm c o h
  · exact h⟩
theorem Rho.frz_imm {B : List Nm} {b : Nm} (hb : b ∈ B) {l : Loc} (hl : ρ.blk b = some l) : (ρ.frz w B).imm l.c = w.heap[l.c]? := by
  show (if _ then _ else _) = _
  rw [if_pos ⟨b, hb, l, hl, rfl⟩]
theorem Ext.frz (hI : Inv C ρ s w) {B : List Nm} (hB : ∀ b ∈ B, s.heap.get b ≠ none ∧ ρ.blk b ≠ none) : Ext C ρ s w (ρ.frz w B) { s with heap := dropB B s.heap } w := by
  have hle := Rho.frz_le hI B
  have hget : ∀ b, (dropB B s.heap).get b ≠ none → b ∉ B ∧ s.heap.get b ≠ none := fun b h => by
    rw [get_dropB] at h
    split at h
    · exact absurd rfl h
    · rename_i hb; exact ⟨hb, h⟩
  refine ⟨⟨fun b l o hb hl => ?_, fun b b' l l' hb hb' hl hl' hc => hI.inj b b' l l' (hget b hb).2 (hget b' hb').2 hl hl' hc, fun c o hc => ?_, fun b l hb hl => ?_, hI.lt, fun b hb => ⟨(hI.fresh b hb).1, ?_⟩⟩, hle, rfl, rfl, rfl, Nat.le_refl _, fun _ _ _ => rfl, fun c _ h => ?_, Nat.le_refl _, fun b hb hlt => ⟨?_, hb⟩, fun c o h => ?_⟩
  · have h2 : (dropB B s.heap).get b = some o := hb
    have h3 := hget b (by rw [h2]; simp)
    rw [get_dropB, if_neg h3.1] at h2
    exact (hI.obj b l o h2 hl).of_block hle rfl
  · have hc' : (if _ then _ else _) = some o := hc
    split at hc'
    · exact hc'
    · exact hI.imm c o hc'
  · obtain ⟨h1, h2⟩ := hget b hb
    show (if _ then _ else _) = none
    rw [if_neg]
    · exact hI.sep b l h2 hl
    · rintro ⟨b', hb', l', hl', hc⟩
      have := hI.inj b' b l' l (hB b' hb').1 h2 hl' hl hc
      subst this
      exact h1 hb'
  · show (dropB B s.heap).get b = none
    rw [get_dropB]; split
    · rfl
    · exact (hI.fresh b hb).2
  · obtain ⟨b, l, hb, hl, he⟩ := h
    exact ⟨b, l, (hget b hb).2, hl, he⟩
  · show (dropB B s.heap).get b = _
    rw [get_dropB, if_neg]
    exact fun hm => (hB b hm).2 hb
  · have hc' : (if _ then _ else _) = some o := h
    split at hc'
    · rename_i hx
      obtain ⟨b, hb, l, hl, rfl⟩ := hx
      exact .inr (.inr ⟨b, l, (hB b hb).1, hl, rfl⟩)
    · exact .inl hc'
end Go.Eng
end
section
namespace Go.Eng
variable {C : Ctx} {ρ : Rho} {s : St} {w : World}
theorem VR.ofBare {ρ ρ' : Rho} (hi : ∀ c o, ρ.imm c = some o → ρ'.imm c = some o) {v : V} {cv : Value} (h : VR ρ.bare v cv) : VR ρ' v cv := VR.mono (ρ := ρ.bare) (ρ' := ρ') ⟨fun _ _ x => (nomatch x), hi⟩ h
theorem Ext.lift0 (hI : Inv C ρ s w) {ρ1 : Rho} {s1 : St} {w1 : World} (hx : Ext C ρ.bare St.start w ρ1 s1 w1) : Ext C ρ s w { blk := ρ.blk, imm := ρ1.imm } s w1 := by
  have hle : ρ.Le { blk := ρ.blk, imm := ρ1.imm } := ⟨fun _ _ h => h, hx.le.imm⟩
  have hown : ∀ {c}, ¬ Owns ρ.bare St.start c := by
    rintro c ⟨b', l', -, h2, rfl⟩; cases h2
  refine ⟨⟨fun x l' o hx' hl' => (hI.obj x l' o hx' hl').of_block hle (hx.frame _ (hI.lt x l' hl') hown), hI.inj, hx.inv.imm, fun x l' h hl' => ?_, fun x l' hl' => Nat.lt_of_lt_of_le (hI.lt x l' hl') hx.size, hI.fresh⟩, hle, hx.os, hx.tape, hx.output, hx.size, fun c hc _ => hx.frame c hc hown, fun c _ h => h, Nat.le_refl _, fun x hx' _ => ⟨rfl, hx'⟩, fun c o hc => ?_⟩
  · cases hc : ρ1.imm l'.c with
    | none => rfl
    | some o =>
      rcases hx.imm _ _ hc with h2 | h2 | h2
      · have h3 : ρ.imm l'.c = some o := h2
        rw [hI.sep x l' h hl'] at h3; cases h3
      · have := hI.lt x l' hl'; omega
      · exact (hown h2).elim
  · rcases hx.imm c o hc with h2 | h2 | h2
    · exact .inl h2
    · exact .inr (.inl h2)
    · exact (hown h2).elim
theorem over_data {E : Env} (hE : EnvOk C E) (hI : Inv C ρ s w) (hG : GR C ρ) {g n : Nat} {v : V} {cargs : Array Value} (hA : AR ρ [v] cargs) (hv : pureV v = true)
    {Q R' : V × St → Prop} (hrun : (callB E (eval E n) (nm g) [v] St.start).All E.branch Q) (hQ : ∀ r s1, Q (r, s1) → pureV r = true ∧ R' (r, s)) :
    Gives C.P (Post C ρ s w R') ((callFunc g cargs).run C.P w) := by
  obtain ⟨x, rfl, hx⟩ := hA.single
  obtain ⟨e1, e2⟩ := callB_ok hE (eval_sound hE n) (inv_bare hI) hG.bare (AR.one (hx.toBare hv)) hrun
  rw [e1]
  refine Calls.mono e2 ?_
  intro e w' he
  cases e with
  | returned cv =>
    obtain ⟨ρ1, r, s1, hq, hr, hx1⟩ := he
    obtain ⟨h1, h2⟩ := hQ r s1 hq
    exact ⟨{ blk := ρ.blk, imm := ρ1.imm }, r, s, h2, VR.ofBare (ρ := ρ1) (ρ' := { blk := ρ.blk, imm := ρ1.imm }) (fun _ _ h => h) (hr.toBare h1), Ext.lift0 hI hx1⟩
  | panicked c => exact he.elim
  | outgrown => exact he.elim
end Go.Eng
end
section
namespace Go.Eng
theorem T.ret_bind {α β : Type} (x : α) (f : α → T β) : (T.ret x).bind f = f x := rfl
@[congr] theorem T.bind_congr {α β : Type} {t t' : T α} {f : α → T β} (h : t = t') : t.bind f = t'.bind f := by rw [h]
theorem T.fail_bind {α β : Type} (f : α → T β) : (T.fail : T α).bind f = .fail := rfl
theorem T.ofO_some {α : Type} (x : α) : T.ofO (some x) = .ret x := rfl
theorem T.ofO_none {α : Type} : T.ofO (none : Option α) = .fail := rfl
def cnd {α : Type} (v : V) (a b : T α) : T α := match v with
  | .bool true => a
  | .bool false => b
  | _ => .fail
@[congr] theorem cnd_congr {α : Type} {v v' : V} {a b : T α} (h : v = v') : cnd v a b = cnd v' a b := by rw [h]
theorem cnd_true {α : Type} (a b : T α) : cnd (.bool true) a b = a := rfl
theorem cnd_false {α : Type} (a b : T α) : cnd (.bool false) a b = b := rfl
section
variable {E : Env} {n : Nat} {τ : Tr V} {H : Tr O} {x : Nm} {d : Nat}
theorem eval_skip : eval E (n + 1) .skip τ ⟨H, x, d⟩ = .ret (.normal, τ, ⟨H, x, d⟩) := rfl
theorem eval_region {ops : List AOper} : eval E (n + 1) (.region ops) τ ⟨H, x, d⟩ = (opers E (eval E n) ops τ ⟨H, x, d⟩).bind fun r => .ret (.normal, r.1, r.2) := rfl
theorem eval_draw {ds : List DStep} : eval E (n + 1) (.draw ds) τ ⟨H, x, d⟩ = (drun E (eval E n) ds τ ⟨H, x, d⟩).bind fun r => .ret (.normal, r.1, r.2) := rfl
theorem eval_seq {a b : ACode} : eval E (n + 1) (.seq a b) τ ⟨H, x, d⟩ = (eval E n a τ ⟨H, x, d⟩).bind (andThen (eval E n b)) := rfl
theorem eval_cond {c : Ar} {a b : ACode} : eval E (n + 1) (.cond c a b) τ ⟨H, x, d⟩ = cnd (arg τ c) (eval E n a τ ⟨H, x, d⟩) (eval E n b τ ⟨H, x, d⟩) := rfl
theorem eval_block {id : Nat} {c : ACode} : eval E (n + 1) (.block id c) τ ⟨H, x, d⟩ = (eval E n c τ ⟨H, x, d⟩).bind (endBlock id) := rfl
theorem eval_loop {c : ACode} : eval E (n + 1) (.loop c) τ ⟨H, x, d⟩ = (eval E n c τ ⟨H, x, d⟩).bind (andThen (eval E n (.loop c))) := rfl
theorem eval_exit {k : Nat} : eval E (n + 1) (.exit k) τ ⟨H, x, d⟩ = .ret (.exit k, τ, ⟨H, x, d⟩) := rfl
theorem eval_ret : eval E (n + 1) .ret τ ⟨H, x, d⟩ = .ret (.ret, τ, ⟨H, x, d⟩) := rfl
theorem opers_nil {ev : Eval} : opers E ev [] τ ⟨H, x, d⟩ = .ret (τ, ⟨H, x, d⟩) := rfl
theorem opers_cons {ev : Eval} {p : Option Nm} {o : AOp} {os : List AOper} : opers E ev (⟨p, o, none⟩ :: os) τ ⟨H, x, d⟩ = (oper E ev τ ⟨H, x, d⟩ o).bind fun r => opers E ev os (put τ p r.1) r.2 := rfl
theorem drun_nil {ev : Eval} : drun E ev [] τ ⟨H, x, d⟩ = .ret (τ, ⟨H, x, d⟩) := rfl
theorem drun_light {ev : Eval} {p : Option Nm} {o : AOp} {cs : List AOper} {ds : List DStep} : drun E ev (⟨⟨p, o, none⟩, .light, cs⟩ :: ds) τ ⟨H, x, d⟩ = (T.ofO (exec (fun _ => 0) E.branch E.ks E.hasMethods τ ⟨H, x, d⟩ o)).bind fun r => drun E ev ds (put τ p r.1) ⟨H, x, d⟩ := by
  show (match (match exec (fun _ => 0) E.branch E.ks E.hasMethods τ ⟨H, x, d⟩ o with | some (v, _) => some v | none => none) with | some v => drun E ev ds (put τ p v) ⟨H, x, d⟩ | none => .fail) = _
  cases exec (fun _ => 0) E.branch E.ks E.hasMethods τ ⟨H, x, d⟩ o with
  | none => rfl
  | some r => rfl
theorem drun_heavy {ev : Eval} {p : Option Nm} {o : AOp} {cs : List AOper} {ds : List DStep} : drun E ev (⟨⟨p, o, none⟩, .heavy, cs⟩ :: ds) τ ⟨H, x, d⟩ = (oper E ev τ ⟨H, x, d⟩ o).bind fun r => cnd (.bool (recheck E (put τ p r.1) r.2 cs)) (drun E ev ds (put τ p r.1) r.2) .fail := by
  show (oper E ev τ ⟨H, x, d⟩ o).bind _ = _
  congr 1
  funext r
  show (match recheck E (put τ p r.1) r.2 cs with | true => drun E ev ds (put τ p r.1) r.2 | false => .fail) = _
  cases recheck E (put τ p r.1) r.2 cs <;> rfl
theorem andThen_normal {f : Tr V → St → T (Ex × Tr V × St)} {s : St} : andThen f (.normal, τ, s) = f τ s := rfl
theorem andThen_ret {f : Tr V → St → T (Ex × Tr V × St)} {s : St} : andThen f (.ret, τ, s) = .ret (.ret, τ, s) := rfl
theorem andThen_exit {f : Tr V → St → T (Ex × Tr V × St)} {s : St} {k : Nat} : andThen f (.exit k, τ, s) = .ret (.exit k, τ, s) := rfl
end
theorem scalar_int (k : IntKind) (n : Int) : scalarV (.int k n) = true := rfl
theorem scalar_str (l : List Nat) : scalarV (.str l) = true := rfl
theorem scalar_bool (b : Bool) : scalarV (.bool b) = true := rfl
theorem scalar_nils : scalarV .nils = true := rfl
theorem scalar_nilp : scalarV .nilp = true := rfl
theorem scalar_row (b : Nm) (a c d : Nat) (e : Bool) : scalarV (.row b a c d e) = true := rfl
theorem scalar_ptr (b : Nm) (i j : Nat) : scalarV (.ptr b i j) = true := rfl
theorem scalar_map (b : Nm) : scalarV (.map b) = true := rfl
theorem scalar_dsl (es : List V) (c : Bool) : scalarV (.dsl es c) = true := rfl
theorem notTup_agg (cs : List V) : notTup (.agg cs) = true := rfl
theorem notTup_int (k : IntKind) (n : Int) : notTup (.int k n) = true := rfl
theorem notTup_str (l : List Nat) : notTup (.str l) = true := rfl
theorem cells_agg (cs : List V) : (V.agg cs).cells = cs := rfl
theorem cells_int (k : IntKind) (n : Int) : (V.int k n).cells = [V.int k n] := rfl
theorem cells_str (l : List Nat) : (V.str l).cells = [V.str l] := rfl
theorem cells_bool (b : Bool) : (V.bool b).cells = [V.bool b] := rfl
theorem cells_nils : V.nils.cells = [V.nils] := rfl
theorem cells_row (b : Nm) (a c d : Nat) (e : Bool) : (V.row b a c d e).cells = [V.row b a c d e] := rfl
theorem cells_dsl (es : List V) (c : Bool) : (V.dsl es c).cells = [V.dsl es c] := rfl
theorem cells_ptr (b : Nm) (i j : Nat) : (V.ptr b i j).cells = [V.ptr b i j] := rfl
theorem cells_map (b : Nm) : (V.map b).cells = [V.map b] := rfl
def T.Is {α : Type} (P : α → Prop) : T α → Prop
  | .ret x => P x
  | _ => False
theorem T.Is.to {α : Type} {P : α → Prop} : ∀ {t : T α}, t.Is P → ∃ x, t = .ret x ∧ P x
  | .ret x, h => ⟨x, rfl, h⟩
theorem T.Is_ret {α : Type} (P : α → Prop) (x : α) : (T.ret x).Is P = P x := rfl
def strKey (n : List Nat) : List (V × V × Nat) → Nat → Option (Option (Nat × V × Nat))
  | [], _ => some none
  | (a, v, b) :: es, i => match a with
    | .str m => match bytesEq n m with
      | true => some (some (i, v, b))
      | false => strKey n es (i + 1)
    | _ => none
theorem findKeyIn_str (H : Tr O) (ks : TypeId → Option Ks) (n : List Nat) : ∀ (es : List (V × V × Nat)) (i : Nat), findKeyIn H ks .str (.str n) es i = strKey n es i
  | [], _ => rfl
  | (a, v, b) :: es, i => by
    cases a <;> try rfl
    rename_i m
    show (match some (bytesEq n m) with | some true => some (some (i, v, b)) | some false => findKeyIn H ks .str (.str n) es (i + 1) | none => none) = (match bytesEq n m with | true => some (some (i, v, b)) | false => strKey n es (i + 1))
    cases bytesEq n m with
    | true => rfl
    | false => exact findKeyIn_str H ks n es (i + 1)
theorem bytesEq_self : ∀ l : List Nat, bytesEq l l = true
  | [] => rfl
  | a :: l => by simp [bytesEq, bytesEq_self l]
theorem strKey_snoc (n : List Nat) (v : V) (b : Nat) : ∀ (es : List (V × V × Nat)) (i : Nat), strKey n es i = some none → strKey n (es ++ [(.str n, v, b)]) i = some (some (i + es.length, v, b))
  | [], i, _ => by simp [strKey, bytesEq_self]
  | (a, w, c) :: es, i, h => by
    simp only [strKey, List.cons_append] at h ⊢
    split at h
    · split at h
      · cases h
      · rename_i hb
        simp only [strKey_snoc n v b es (i + 1) h, List.length_cons]
        congr 3; omega
    · cases h
theorem natOf_0 (k : IntKind) : natOf (.int k 0) = some 0 := rfl
theorem natOf_1 (k : IntKind) : natOf (.int k 1) = some 1 := rfl
theorem wrap_01 : IntKind.wrap .i64 (0 + 1) = 1 := by decide
theorem wrap_11 : IntKind.wrap .i64 (1 + 1) = 2 := by decide
theorem cast_0 : ((0 : Nat) : Int) = 0 := rfl
theorem cast_1 : ((1 : Nat) : Int) = 1 := rfl
theorem cast_2 : ((2 : Nat) : Int) = 2 := rfl
theorem blt_02 : Nat.blt 0 2 = true := rfl
theorem blt_12 : Nat.blt 1 2 = true := rfl
theorem ble_1 : Nat.ble 1 1000000000 = true := rfl
theorem ble_2 : Nat.ble 2 1000000000 = true := rfl
theorem wrap_u0 : IntKind.wrap .u64 0 = 0 := by decide
theorem wrap_u48 : IntKind.wrap .u64 (48 + 0) = 48 := by decide
theorem wrap_u48' : IntKind.wrap .u64 48 = 48 := by decide
theorem wrap_r48 : IntKind.wrap .i32 48 = 48 := by decide
theorem encode_48 : encode 48 = [48] := rfl
theorem eqbV_str (l : List Nat) : eqbV (.str l) (.str l) = true := by simp [eqbV]
theorem eqbV_map (b : Nm) : eqbV (.map b) (.map b) = true := by simp [eqbV]
theorem eqbV_ptr (b : Nm) (i j : Nat) : eqbV (.ptr b i j) (.ptr b i j) = true := by simp [eqbV]
theorem eqbV_int (k : IntKind) (i : Int) : eqbV (.int k i) (.int k i) = true := by simp [eqbV]
variable {C : Ctx}
def OverOk (C : Ctx) (br : Nat) (g : Nat) (h : List V → St → T (V × St)) : Prop := ∀ ρ s w args cargs R, Inv C ρ s w → GR C ρ → AR ρ args cargs → (h args s).All br R → Gives C.P (Post C ρ s w R) ((callFunc g cargs).run C.P w)
theorem EnvOk.over' {E : Env} (hE : EnvOk C E) {ov : Nm → Option (List V → St → T (V × St))} (h : ∀ g h, ov (nm g) = some h → OverOk C E.branch g h) : EnvOk C { E with over := ov } where
  fns := hE.fns
  over := h
  mixed := hE.mixed
  ks := hE.ks
  hm := hE.hm
  methods := hE.methods
def overWith (p : Nm) (h : List V → St → T (V × St)) (ov : Nm → Option (List V → St → T (V × St))) : Nm → Option (List V → St → T (V × St)) := fun q => match q.eqb p with
  | true => some h
  | false => ov q
theorem EnvOk.overWith {E : Env} (hE : EnvOk C E) {g : Nat} {p : Nm} (hp : nm g = p) {h : List V → St → T (V × St)} (hh : OverOk C E.branch g h) : EnvOk C { E with over := overWith p h E.over } := by
  refine hE.over' fun g' h' e => ?_
  unfold Eng.overWith at e
  split at e
  · rename_i hq
    cases e
    have := Nm.eqb_iff.1 hq
    rw [← hp] at this
    have hv := congrArg Nm.val this
    rw [val_nm, val_nm] at hv
    obtain rfl : g' = g := by omega
    exact hh
  · exact hE.over g' h' e
end Go.Eng
end
section
namespace Go.Eng
variable {C : Ctx}
def memoP (tab : List (List V × V)) (args : List V) (s : St) : T (V × St) := match tab with
  | [] => .fail
  | (a, v) :: tab => match eqbVs args a with
    | true => .ret (v, s)
    | false => memoP tab args s
def eqK1 (a b : V) : Bool := match a, b with
  | .str x, .str y => bytesEq x y
  | a, b => eqbV a b
def eqKs : List V → List V → Bool
  | [], [] => true
  | a :: x, b :: y => match eqK1 a b with
    | true => eqKs x y
    | false => false
  | _, _ => false
def eqTK (a b : V) : Bool := match a, b with
  | .tup x, .tup y => eqKs x y
  | a, b => eqbV a b
theorem bytesEq_sound : ∀ {a b : List Nat}, bytesEq a b = true → a = b
  | [], [], _ => rfl
  | [], _ :: _, h => by cases h
  | _ :: _, [], h => by cases h
  | a :: x, b :: y, h => by
    simp only [bytesEq, Bool.and_eq_true, Nat.beq_eq] at h
    rw [h.1, bytesEq_sound h.2]
theorem eqK1_sound {a b : V} (h : eqK1 a b = true) : a = b := by
  unfold eqK1 at h
  split at h
  · rw [bytesEq_sound h]
  · exact eqbV_sound h
theorem eqKs_sound : ∀ {a b : List V}, eqKs a b = true → a = b
  | [], [], _ => rfl
  | [], _ :: _, h => by cases h
  | _ :: _, [], h => by cases h
  | a :: x, b :: y, h => by
    simp only [eqKs] at h
    split at h
    · rename_i e
      rw [eqK1_sound e, eqKs_sound h]
    · cases h
theorem eqTK_sound {a b : V} (h : eqTK a b = true) : a = b := by
  unfold eqTK at h
  split at h
  · rw [eqKs_sound h]
  · exact eqbV_sound h
def KeptP (E : Env) (tab : Tr KF) (g m n : Nat) (r : List V × V) : Prop := pureVs r.1 = true ∧ pureV r.2 = true ∧ allB E.branch (fun x => eqTK x.1 r.2) ((kcall E tab m n).f (nm g) r.1 St.start fun v s => .ret (v, s)) = true
theorem AR.toBare {ρ : Rho} {args : List V} {cargs : Array Value} (hA : AR ρ args cargs) (hp : pureVs args = true) : AR ρ.bare args cargs :=
  ⟨hA.1, fun i v cv hv hc => (hA.2 i v cv hv hc).toBare (pureVs_mem hp i v hv)⟩
theorem memoP_ok {E : Env} (hE : EnvOk C E) {kt : Tr KF} (ht : TabOk E kt) {g m n : Nat} (hov : E.over (nm g) = none) : ∀ {tab : List (List V × V)}, (∀ r ∈ tab, KeptP E kt g m n r) → OverOk C E.branch g (memoP tab)
  | [], _ => fun ρ s w args cargs R hI hG hA h => h.elim
  | (a, v) :: tab, hk => fun ρ s w args cargs R hI hG hA h => by
    unfold memoP at h
    split at h
    · rename_i e
      have := eqbVs_sound e
      subst this
      obtain ⟨p1, p2, hr⟩ := hk (args, v) (by simp)
      obtain ⟨n', h1⟩ := (call_x ht m n).f _ _ _ _ _ (allB_spec hr)
      have h2 : (callB E (eval E n') (nm g) args St.start).All E.branch fun r => eqTK r.1 v = true := by
        unfold callF at h1
        rw [hov] at h1
        exact h1
      obtain ⟨e1, e2⟩ := callB_ok hE (eval_sound hE n') (inv_bare hI) hG.bare (hA.toBare p1) h2
      rw [e1]
      refine Calls.mono e2 ?_
      intro e w' he
      cases e with
      | returned cv =>
        obtain ⟨ρ1, r, s1, hq, hvr, hx1⟩ := he
        have := eqTK_sound hq
        subst this
        exact ⟨{ blk := ρ.blk, imm := ρ1.imm }, r, s, h, VR.ofBare (ρ := ρ1) (ρ' := { blk := ρ.blk, imm := ρ1.imm }) (fun _ _ h => h) (hvr.toBare p2), Ext.lift0 hI hx1⟩
      | panicked c => exact he.elim
      | outgrown => exact he.elim
    · exact memoP_ok hE ht hov (fun r hr => hk r (by simp [hr])) ρ s w args cargs R hI hG hA h
end Go.Eng
end
section
namespace Go.Eng
variable {C : Ctx} {ρ : Rho} {s : St} {w : World}
mutual
def flatV : V → Bool
  | .bool _ | .int .. | .str _ | .nils | .nilp | .nilm | .nilf | .nili => true
  | .agg cs => flatVs cs
  | .tup cs => flatVs cs
  | _ => false
def flatVs : List V → Bool
  | [] => true
  | v :: vs => flatV v && flatVs vs
end
theorem flatVs_mem : ∀ {l : List V}, flatVs l = true → ∀ (i : Nat) v, l[i]? = some v → flatV v = true
  | a :: l, h, i, v, hv => by
    simp only [flatVs, Bool.and_eq_true] at h
    cases i with
    | zero => simp at hv; subst hv; exact h.1
    | succ i => rw [List.getElem?_cons_succ] at hv; exact flatVs_mem h.2 i v hv
  | [], _, i, v, hv => by simp at hv
theorem VR.flat {ρ ρ' : Rho} {v : V} {cv : Value} (h : VR ρ v cv) : flatV v = true → VR ρ' v cv := by
  induction h with
  | bool b => intro _; exact .bool b
  | int k n => intro _; exact .int k n
  | str e => intro _; exact .str e
  | nilp => intro _; exact .nilp
  | nils => intro _; exact .nils
  | nilm => intro _; exact .nilm
  | nilf => intro _; exact .nilf
  | nili => intro _; exact .nili
  | agg hs e _ ih => intro hp; exact .agg hs e fun i v cv hv hc => ih i v cv hv hc (flatVs_mem (by simpa [flatV] using hp) i v hv)
  | tup e _ ih => intro hp; exact .tup e fun i v cv hv hc => ih i v cv hv hc (flatVs_mem (by simpa [flatV] using hp) i v hv)
  | _ => intro hp; simp [flatV] at hp
theorem Ext.back (hI : Inv C ρ s w) {ρ0 ρ1 : Rho} {s1 : St} {w1 : World} (hx : Ext C ρ0.bare St.start w ρ1 s1 w1) : Ext C ρ s w ρ s w1 := by
  have hown : ∀ {c}, ¬ Owns ρ0.bare St.start c := by
    rintro c ⟨b', l', -, h2, rfl⟩; cases h2
  have same : ∀ c, c < w.heap.size → w1.heap[c]? = w.heap[c]? := fun c hc => hx.frame c hc hown
  refine ⟨⟨fun b l o' hb hl => (hI.obj b l o' hb hl).of_block (.refl _) (same _ (hI.lt b l hl)), hI.inj, fun c o' hc => ?_, hI.sep, fun b l hl => ?_, hI.fresh⟩, .refl _, hx.os, hx.tape, hx.output, hx.size, fun c hc _ => same c hc, fun _ _ h => h, Nat.le_refl _, fun _ h _ => ⟨rfl, h⟩, fun _ _ h => .inl h⟩
  · have h := hI.imm c o' hc
    rw [same c (Array.getElem?_eq_some_iff.1 h).1]; exact h
  · exact Nat.lt_of_lt_of_le (hI.lt b l hl) hx.size
theorem over_view {E : Env} (hE : EnvOk C E) (hI : Inv C ρ s w) (hG : GR C ρ) {g n f : Nat} {args dargs : List V} {B : List Nm} {cargs : Array Value} (hA : AR ρ args cargs) (hf : frzCells (frz s.heap f) args = some (dargs, B))
    {Q R' : V × St → Prop} (hrun : (callB E (eval E n) (nm g) dargs St.start).All E.branch Q) (hQ : ∀ r s1, Q (r, s1) → flatV r = true ∧ R' (r, s)) :
    Gives C.P (Post C ρ s w R') ((callFunc g cargs).run C.P w) := by
  have hc := frzCells_ok (frz_ok hI f) hf
  have hl : LR ρ args fun i => cargs[i]? := fun i v hv => by
    have hi : i < cargs.size := by rw [← hA.1]; exact (List.getElem?_eq_some_iff.1 hv).1
    exact ⟨cargs[i], Array.getElem?_eq_getElem hi, hA.2 i v _ hv (Array.getElem?_eq_getElem hi)⟩
  have hB : ∀ b ∈ B, s.heap.get b ≠ none ∧ ρ.blk b ≠ none := fun b hb => ⟨(hc.live b hb).1, (hc.live b hb).2 _ hl⟩
  have hIf := (Ext.frz hI hB).inv
  have hGf : GR C (ρ.frz w B) := hG.mono (Rho.frz_le hI B)
  have hl' := hc.vr _ hl (ρ.frz w B) (Rho.frz_le hI B) fun b hb l hbl => Rho.frz_imm hb hbl
  have hA' : AR (ρ.frz w B) dargs cargs := ⟨by rw [hc.len]; exact hA.1, fun i v cv hv hcv => by
    obtain ⟨cv', e1, e2⟩ := hl' i v hv
    simp only at e1
    rw [hcv] at e1; cases e1
    exact e2⟩
  obtain ⟨e1, e2⟩ := callB_ok hE (eval_sound hE n) (inv_bare hIf) hGf.bare (hA'.toBare hc.pure) hrun
  rw [e1]
  refine Calls.mono e2 ?_
  intro e w' he
  cases e with
  | returned cv =>
    obtain ⟨ρ1, r, s1, hq, hr, hx1⟩ := he
    obtain ⟨h1, h2⟩ := hQ r s1 hq
    exact ⟨ρ, r, s, h2, hr.flat h1, Ext.back hI hx1⟩
  | panicked c => exact he.elim
  | outgrown => exact he.elim
def memoV (tab : List (List V × V)) (args : List V) (s : St) : T (V × St) := match frzCells (frz s.heap 100) args with
  | some (dargs, _) => memoP tab dargs s
  | none => .fail
def KeptV (E : Env) (tab : Tr KF) (g m n : Nat) (r : List V × V) : Prop := flatV r.2 = true ∧ allB E.branch (fun x => eqTK x.1 r.2) ((kcall E tab m n).f (nm g) r.1 St.start fun v s => .ret (v, s)) = true
theorem memoV_ok {E : Env} (hE : EnvOk C E) {kt : Tr KF} (ht : TabOk E kt) {g m n : Nat} (hov : E.over (nm g) = none) {tab : List (List V × V)} (hk : ∀ r ∈ tab, KeptV E kt g m n r) : OverOk C E.branch g (memoV tab) := by
  intro ρ s w args cargs R hI hG hA h
  unfold memoV at h
  split at h
  · rename_i dargs B hf
    have key : ∀ tab : List (List V × V), (∀ r ∈ tab, KeptV E kt g m n r) → (memoP tab dargs s).All E.branch R → Gives C.P (Post C ρ s w R) ((callFunc g cargs).run C.P w) := by
      intro tab
      induction tab with
      | nil => intro _ h; exact h.elim
      | cons r tab ih =>
        intro hk h
        obtain ⟨a, v⟩ := r
        unfold memoP at h
        split at h
        · rename_i e
          have := eqbVs_sound e
          subst this
          obtain ⟨p2, hr⟩ := hk (dargs, v) (by simp)
          obtain ⟨n', h1⟩ := (call_x ht m n).f _ _ _ _ _ (allB_spec hr)
          have h2 : (callB E (eval E n') (nm g) dargs St.start).All E.branch fun r => eqTK r.1 v = true := by
            unfold callF at h1
            rw [hov] at h1
            exact h1
          refine over_view hE hI hG hA hf h2 ?_
          intro r s1 hq
          have := eqTK_sound hq
          simp only at this
          subst this
          exact ⟨p2, h⟩
        · exact ih (fun r hr => hk r (by simp [hr])) h
    exact key tab hk h
  · exact h.elim
end Go.Eng
end
