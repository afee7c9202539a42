/- Each operation of the evaluator is one of the model. -/
import Derived.Test.YtipedikaiaamjaaGreatDoorEngA
import Derived.IntWalk
import Derived.Deep.AppendSrc
import Derived.Lib.AppendZeros
import GoSem.Dispatch
import Derived.Laws.Strings
import Derived.Laws.IdiomStrings
import Derived.MapKept
import Derived.Lib.UnsafeStr
import Derived.Laws.Tables
import Derived.ChangeKeysEq
import Derived.Laws.StructEq
import Derived.Laws.NewFold
section
namespace Go.Eng
structure GR (C : Ctx) (ρ : Rho) : Prop where
  glob : ∀ g cs, C.G g = some cs → cs.all scalarV = true ∧ LR ρ.bare cs (fun k => ρ.cell g k)
  more : C.X ρ.imm
theorem GR.mono {C : Ctx} {ρ ρ' : Rho} (h : ρ.Le ρ') (hg : GR C ρ) : GR C ρ' := ⟨fun g cs e => ⟨(hg.glob g cs e).1, fun k v hk => let ⟨cv, a, b⟩ := (hg.glob g cs e).2 k v hk; ⟨cv, h.cell a, b.mono (ρ := ρ.bare) (ρ' := ρ'.bare) ⟨fun _ _ x => (nomatch x), h.imm⟩⟩⟩, C.grows _ _ h.imm hg.more⟩
theorem GR.bare {C : Ctx} {ρ : Rho} (hg : GR C ρ) : GR C ρ.bare := ⟨hg.glob, hg.more⟩
def OpOk (C : Ctx) (ρ : Rho) (s : St) (w : World) (v : V) (s' : St) (r : Result Next) : Prop :=
  ∃ cv ρ' w', (r = .ok (.value cv) w' ∨ (r = .ok .skip w' ∧ cv = Go.undef)) ∧ VR ρ' v cv ∧ Ext C ρ s w ρ' s' w'
def VOk (C : Ctx) (ρ : Rho) (s : St) (w : World) (v : V) (s' : St) (m : Sem Value) : Prop :=
  ∃ cv ρ' w', m.run C.P w = .ok cv w' ∧ VR ρ' v cv ∧ Ext C ρ s w ρ' s' w'
theorem VOk.op {C : Ctx} {ρ : Rho} {s s' : St} {w : World} {v : V} {m : Sem Value} (h : VOk C ρ s w v s' m) :
    OpOk C ρ s w v s' ((do pure (.value (← m)) : Sem Next).run C.P w) := by
  obtain ⟨cv, ρ', w', h1, h2, h3⟩ := h
  exact ⟨cv, ρ', w', .inl (by simp [h1]), h2, h3⟩
theorem VOk.same {C : Ctx} {ρ : Rho} {s : St} {w : World} (hI : Inv C ρ s w) {v : V} {cv : Value} {m : Sem Value} (h : m.run C.P w = .ok cv w) (hv : VR ρ v cv) : VOk C ρ s w v s m :=
  ⟨cv, ρ, w, h, hv, Ext.refl hI⟩
theorem arg_rel {C : Ctx} {ρ : Rho} (hG : GR C ρ) {τ : Tr V} {a : Act} (hτ : TR ρ τ a.tmps) {x : Operand} {ax : Ar} (h : ar C.G x = some ax) : VR ρ (arg τ ax) (a.eval x) := by
  cases x with
  | tmp t =>
    simp only [ar, Option.some.injEq] at h
    subst h
    simp only [arg, Act.eval]
    by_cases ht : t < a.tmps.size
    · have := hτ.rel (nm t) (by rw [val_nm]; simpa using ht)
      rwa [val_nm, Nat.add_sub_cancel] at this
    · have e : τ.get (nm t) = none := by
        cases he : τ.get (nm t) with
        | none => rfl
        | some v => have := hτ.fits _ _ he; rw [val_nm, Nat.add_sub_cancel] at this; exact absurd this ht
      rw [e, Array.getD, dif_neg ht]
      exact .tup (by rfl) (fun i v cv hv => by simp at hv)
  | const v =>
    simp only [ar] at h
    split at h
    · rename_i v' hv
      cases h
      exact ofConst_spec hv ρ
    · cases h
  | global g =>
    simp only [ar] at h
    split at h
    · rename_i cs hg
      cases h
      obtain ⟨h1, h2'⟩ := hG.glob g cs hg
      have h2 : LR ρ cs (fun k => ρ.cell g k) := h2'.mono ρ.bare_le
      have := VR.rp (ρ := ρ) (cs := cs) (j := 0) (c := g) (base := 0) h1 (fun k v hk => by obtain ⟨cv, e, _⟩ := h2 k v hk; exact ⟨cv, by simpa using e⟩)
        (fun k v cv hk hc => by obtain ⟨cv', e, r⟩ := h2 k v hk; simp at e hc; rw [e] at hc; cases hc; exact r)
      simpa [arg, Act.eval] using this
    · cases h
  | func f =>
    simp only [ar, Option.some.injEq] at h
    subst h
    exact .clo rfl rfl rfl (fun i v cv hv => by simp at hv) (fun i v cv hv => by simp at hv)
theorem args_rel {C : Ctx} {ρ : Rho} (hG : GR C ρ) {τ : Tr V} {a : Act} (hτ : TR ρ τ a.tmps) : ∀ {xs : List Operand} {as : List Ar}, ars C.G xs = some as →
    as.length = xs.length ∧ ∀ (i : Nat) v cv, (as.map (arg τ))[i]? = some v → (xs.map a.eval)[i]? = some cv → VR ρ v cv
  | [], as, h => by simp [ars] at h; subst h; simp
  | x :: xs, as, h => by
    simp only [ars] at h
    split at h
    · rename_i b l h1 h2
      cases h
      obtain ⟨e1, e2⟩ := args_rel hG hτ h2
      refine ⟨by simp [e1], fun i v cv hv hc => ?_⟩
      cases i with
      | zero => simp at hv hc; subst hv; subst hc; exact arg_rel hG hτ h1
      | succ i => simp only [List.map_cons, List.getElem?_cons_succ] at hv hc; exact e2 i v cv hv hc
    · cases h
section
variable {C : Ctx} {ρ : Rho} {s s' : St} {w : World} {v : V}
theorem row_new (hI : Inv C ρ s w) {cs : List V} {arr : Array Value} (hl : cs.length = arr.size) (hs : cs.all scalarV = true) (hne : cs ≠ []) (hr : LR ρ cs (fun i => arr[i]?)) (ty : TypeId) (hty : C.P.cellsOf ty = cs.length) :
    ∃ ρ', VR ρ' (.ptr s.next 0 0) (.pointer (some ⟨w.heap.size, 0, none⟩)) ∧ Ext C ρ s w ρ' (new s (.row [cs] cs.length ty)).2 (w.alloc (.cells arr ty)) := by
  have hn := hI.next_none
  have hle : ρ.Le (ρ.add s.next ⟨w.heap.size, 0, cs.length, 1⟩) := Rho.le_add hn.1
  refine ⟨_, ?_, ext_new hI _ (.row [cs] cs.length ty) cs.length 1 0 ?_⟩
  · have := VR.ptr (ρ := ρ.add s.next ⟨w.heap.size, 0, cs.length, 1⟩) (i := 0) (j := 0) (Rho.add_same ρ s.next _)
    simpa using this
  · refine ⟨rfl, ⟨List.length_pos_iff.2 hne, hty, Nat.dvd_zero _⟩, by simp, by simpa using hs, arr, (0, 0), heap_alloc_new w _, by simp [hl], fun k _ => .inl (Nat.zero_le _), ?_⟩
    intro i e he j x hx
    cases i with
    | zero =>
      simp at he; subst he
      obtain ⟨cv, e1, e2⟩ := hr j x hx
      exact ⟨cv, by simpa using e1, e2.mono hle⟩
    | succ i => simp at he
theorem alloc_ok (hI : Inv C ρ s w) {e : TypeId} {z : List V} (hz : zeroCells C.P e = some z) : VOk C ρ s w (.ptr s.next 0 0) (new s (.row [z] z.length e)).2 (Instr.alloc e true (.tuple #[])) := by
  obtain ⟨n, cv, h1, h2, h3, _, h4, h5, h6⟩ := zeroCells_spec hz
  have hn := (szOf_spec h1).2.1
  obtain ⟨ρ', g1, g2⟩ := row_new hI (arr := cv.cells) (by rw [h2, h5]) h3 (by intro e; subst e; simp at h2; omega) (h6 ρ) e (by rw [h2]; exact (szOf_spec h1).1)
  exact ⟨_, ρ', _, by simp [Instr.alloc, h4, newVar, newRow], g1, g2⟩
theorem box_ok (hI : Inv C ρ s w) {e : TypeId} {x : V} {cx : Value} (hx : VR ρ x cx) (hs : x.cells.all scalarV = true) (hne : x.cells ≠ []) (hty : C.P.cellsOf e = x.cells.length) :
    VOk C ρ s w (.ptr s.next 0 0) (new s (.row [x.cells] x.cells.length e)).2 (Instr.box e cx) := by
  obtain ⟨h1, h2⟩ := hx.cells
  obtain ⟨ρ', g1, g2⟩ := row_new hI (arr := cx.cells) h1 hs hne h2 e hty
  exact ⟨_, ρ', _, by simp [Instr.box, newVar, newRow], g1, g2⟩
theorem load_ok (hI : Inv C ρ s w) {t : TypeId} {n : Nat} {agg : Bool} (ht : tyOf C.P t = some (n, agg)) {p : V} {cp : Value} (hp : VR ρ p cp) (h : load s.heap n agg p = some v) :
    VOk C ρ s w v s (Instr.loadAt t cp) := by
  obtain ⟨a, cv, rfl, e2, e3⟩ := load_spec hI ht hp h
  exact VOk.same hI (by simp [Instr.loadAt, Instr.sureAddr, e2]) e3
theorem fieldAddr_ok (hI : Inv C ρ s w) {t : TypeId} {k : Nat} {f : Field} {n : Nat} (hf : fieldOf C.P t k = some f) (hn : szOf C.P f.type = some n) {p : V} {cp : Value} (hp : VR ρ p cp)
    (h : (match p with | .ptr b i j => some (V.ptr b i (j + f.offset)) | .rp cs j => some (V.rp cs (j + f.offset)) | _ => none) = some v) : VOk C ρ s w v s (Instr.fieldAt t cp k) := by
  obtain ⟨_, hn0, hsz⟩ := szOf_spec hn
  unfold fieldOf at hf
  split at hf
  · rename_i fs hu
    have hrun : ∀ a : Addr, (Instr.fieldAt t (.pointer (some a)) k).run C.P w = .ok (.pointer (some (a.add f.offset))) w := by
      intro a
      simp [Instr.fieldAt, run_underlying hu, hf, Instr.sureAddr, fieldPlace, hsz, Nat.ne_of_gt hn0]
    cases p <;> simp only at h <;> try (cases h; done)
    · cases h
      cases hp with
      | ptr hl =>
        refine VOk.same hI (hrun _) ?_
        rw [addr_add, Nat.add_assoc]
        exact .ptr hl
    · cases h
      cases hp with
      | rp hs hx hr =>
        refine VOk.same hI (hrun _) ?_
        rw [addr_add, Nat.add_assoc]
        exact .rp hs hx hr
  · cases hf
theorem natOf_spec {x : V} {cx : Value} (hx : VR ρ x cx) {n : Nat} (h : natOf x = some n) : ∃ k, cx = .int k (n : Int) := by
  unfold natOf at h
  split at h
  · split at h
    · cases h; cases hx; exact ⟨_, rfl⟩
    · cases h
  · cases h
theorem part_ok {t : TypeId} {n : Nat} {agg : Bool} (ht : tyOf C.P t = some (n, agg)) {cs r : List V} {arr : Array Value} {off : Nat} (hl : cs.length = arr.size) (hr : LR ρ cs (fun i => arr[i]?)) (hs : cs.all scalarV = true)
    (hw : window off n cs = some r) (hp : pack agg r = some v) (w : World) : ∃ cv, (part t arr off).run C.P w = .ok cv w ∧ VR ρ v cv := by
  obtain ⟨_, hn, h1, hsz, hag⟩ := tyOf_spec ht
  have hwl := window_length hw
  cases agg with
  | true =>
    simp only [pack, Option.some.injEq] at hp
    subst hp
    obtain ⟨_, hlen⟩ := window_some hw
    refine ⟨.agg (arr.extract off (off + n)), by simp [part, hag, hsz], .agg (window_all hs hw) (by simp [hwl]; omega) fun i x cv hx hc => ?_⟩
    obtain ⟨g1, g2⟩ := window_get hw i x hx
    obtain ⟨cv', e1, e2⟩ := hr (off + i) x g1
    simp only at e1
    rw [Array.getElem?_extract] at hc
    split at hc
    · rw [e1] at hc; cases hc; exact e2
    · cases hc
  | false =>
    have hn1 := h1 rfl
    subst hn1
    simp only [pack] at hp
    split at hp
    · rename_i y
      cases hp
      obtain ⟨g1, _⟩ := window_get hw 0 v (by simp)
      obtain ⟨cv, e1, e2⟩ := hr off v (by simpa using g1)
      exact ⟨cv, by simp only at e1; simp [part, hag, e1], e2⟩
    · cases hp
theorem field_ok (hI : Inv C ρ s w) {t : TypeId} {k : Nat} {f : Field} {n : Nat} {agg : Bool} (hf : fieldOf C.P t k = some f) (ht : tyOf C.P f.type = some (n, agg)) {cs r : List V} {cx : Value} (hx : VR ρ (.agg cs) cx)
    (hw : window f.offset n cs = some r) (hp : pack agg r = some v) : VOk C ρ s w v s (Instr.field t cx k) := by
  unfold fieldOf at hf
  split at hf
  · rename_i fs hu
    cases hx with
    | agg hs hl hr =>
      rename_i arr
      have hlr : LR ρ cs (fun i => arr[i]?) := by
        intro i x hi
        have hlt : i < arr.size := by rw [← hl]; exact (List.getElem?_eq_some_iff.1 hi).1
        exact ⟨arr[i], by simp [hlt], hr i x arr[i] hi (by simp [hlt])⟩
      obtain ⟨cv, e1, e2⟩ := part_ok ht hl hlr hs hw hp w
      exact VOk.same hI (by simp [Instr.field, run_underlying hu, hf, asAgg, e1]) e2
  · cases hf
theorem indexArr_ok (hI : Inv C ρ s w) {t e : TypeId} {m n : Nat} {agg : Bool} (hu : C.P.underlying t = some (.array m e)) (ht : tyOf C.P e = some (n, agg)) {cs r : List V} {cx ci : Value} {x : V} {i : Nat} (hx : VR ρ (.agg cs) cx)
    (hi : VR ρ x ci) (hn : natOf x = some i) (hlt : i < m) (hw : window (i * n) n cs = some r) (hp : pack agg r = some v) : VOk C ρ s w v s (Instr.index t cx ci) := by
  obtain ⟨k, rfl⟩ := natOf_spec hi hn
  obtain ⟨_, _, _, hsz, _⟩ := tyOf_spec ht
  cases hx with
  | agg hs hl hr =>
    rename_i arr
    have hlr : LR ρ cs (fun i => arr[i]?) := by
      intro i x hi
      have hlt : i < arr.size := by rw [← hl]; exact (List.getElem?_eq_some_iff.1 hi).1
      exact ⟨arr[i], by simp [hlt], hr i x arr[i] hi (by simp [hlt])⟩
    obtain ⟨cv, e1, e2⟩ := part_ok ht hl hlr hs hw hp w
    refine VOk.same hI ?_ e2
    have hc : (0 : Int) ≤ (i : Int) ∧ (i : Int) < (m : Int) := by omega
    simp [Instr.index, asIntOf, run_underlying hu, hlt, hsz, e1]
theorem indexStr_ok (hI : Inv C ρ s w) {t : TypeId} (hu : C.P.underlying t = some .string) {l : List Nat} {cx ci : Value} {x : V} {i c : Nat} (hx : VR ρ (.str l) cx) (hi : VR ρ x ci) (hn : natOf x = some i) (hc : l[i]? = some c) :
    VOk C ρ s w (.int .u8 c) s (Instr.index t cx ci) := by
  obtain ⟨k, rfl⟩ := natOf_spec hi hn
  cases hx with
  | str e =>
    rename_i bs
    subst e
    refine VOk.same hI (cv := .int .u8 c) ?_ (.int _ _)
    simp only [List.getElem?_map, Option.map_eq_some_iff] at hc
    obtain ⟨b, hb, rfl⟩ := hc
    have hb' : bs[i]? = some b := by
      have := (List.getElem?_eq_some_iff.1 hb)
      obtain ⟨hlt, e⟩ := this
      have hlt' : i < bs.size := by simpa using hlt
      rw [getElem?_pos bs i hlt', ← e]
      rfl
    simp [Instr.index, asIntOf, run_underlying hu, hb']
end
end Go.Eng
end
section
namespace Go.Eng
inductive OVR (ρ : Rho) : Option V → Option Value → Prop
  | none : OVR ρ none none
  | some {v : V} {cv : Value} : VR ρ v cv → OVR ρ (some v) (some cv)
theorem sliceBound_run {P : Program} {w : World} {k : IntKind} {n y : Nat} (h : n ≤ y) (code : BoundsCode) : (Instr.sliceBound (.int k n) y code).run P w = .ok n w := by
  have : (0 : Int) ≤ (n : Int) ∧ (n : Int) ≤ (y : Int) := by omega
  simp [Instr.sliceBound, asIntOf, h]
theorem natOr_spec {ρ : Rho} {o : Option V} {co : Option Value} (h : OVR ρ o co) {d n : Nat} (hn : natOr d o = some n) : (co = none ∧ o = none ∧ n = d) ∨ ∃ k, co = some (.int k (n : Int)) := by
  cases h with
  | none => simp [natOr] at hn; exact .inl ⟨rfl, rfl, hn.symm⟩
  | some hv => obtain ⟨k, rfl⟩ := natOf_spec hv hn; exact .inr ⟨k, rfl⟩
theorem bounds_spec {ρ : Rho} {P : Program} {w : World} {len cap : Nat} {clip : Bool} (hlc : len ≤ cap) {lo hi mx : Option V} {clo chi cmx : Option Value} (hlo : OVR ρ lo clo) (hhi : OVR ρ hi chi) (hmx : OVR ρ mx cmx)
    (hh : cmx.isSome = true → chi.isSome = true) {l h : Nat} {c : Bool} (hb : bounds len clip lo hi mx = some (l, h, c)) (isSlice : Bool) :
    ∃ m, (Instr.sliceBounds isSlice len cap clo chi cmx).run P w = .ok (l, h, m) w ∧ l ≤ h ∧ h ≤ len ∧ h ≤ m ∧ m ≤ cap ∧
      ((cmx = none ∧ m = cap ∧ c = (clip && Nat.beq h len)) ∨ (cmx ≠ none ∧ m ≤ len ∧ c = Nat.beq m h)) := by
  unfold bounds at hb
  split at hb
  · rename_i h' eh
    split at hb
    · rename_i l' el
      have hl := natOr_spec hlo el
      have hhs := natOr_spec hhi eh
      cases hmx with
      | none =>
        simp only at hb
        split at hb
        · rename_i hc
          simp only [Bool.and_eq_true, Nat.ble_eq] at hc
          cases hb
          refine ⟨cap, ?_, hc.2, hc.1, by omega, Nat.le_refl _, .inl ⟨rfl, rfl, rfl⟩⟩
          rcases hhs with ⟨rfl, _, rfl⟩ | ⟨k, rfl⟩ <;> rcases hl with ⟨rfl, _, rfl⟩ | ⟨k', rfl⟩
          · simp [Instr.sliceBounds]
          · simp [Instr.sliceBounds, sliceBound_run hc.2]
          · simp [Instr.sliceBounds, sliceBound_run (Nat.le_trans hc.1 hlc)]
          · simp [Instr.sliceBounds, sliceBound_run (Nat.le_trans hc.1 hlc), sliceBound_run hc.2]
        · cases hb
      | some hm =>
        rename_i m cm
        simp only at hb
        split at hb
        · rename_i m' em
          obtain ⟨km, rfl⟩ := natOf_spec hm em
          split at hb
          · rename_i hc
            simp only [Bool.and_eq_true, Nat.ble_eq] at hc
            cases hb
            obtain ⟨⟨h1, h2⟩, h3⟩ := hc
            refine ⟨m', ?_, h3, by omega, h2, by omega, .inr ⟨by simp, h1, rfl⟩⟩
            rcases hhs with ⟨rfl, _, rfl⟩ | ⟨k, rfl⟩
            · simp at hh
            · rcases hl with ⟨rfl, _, rfl⟩ | ⟨k', rfl⟩
              · simp [Instr.sliceBounds, sliceBound_run (Nat.le_trans h1 hlc), sliceBound_run h2]
              · simp [Instr.sliceBounds, sliceBound_run (Nat.le_trans h1 hlc), sliceBound_run h2, sliceBound_run h3]
          · cases hb
        · cases hb
    · cases hb
  · cases hb
section
variable {C : Ctx} {ρ : Rho} {s s' : St} {w : World} {v : V}
theorem indexAddr_slice_ok (hI : Inv C ρ s w) {t e : TypeId} {n : Nat} (hu : C.P.underlying t = some (.slice e)) (hn : szOf C.P e = some n) {x xi : V} {cx ci : Value} {i : Nat} (hx : VR ρ x cx) (hi : VR ρ xi ci) (hni : natOf xi = some i)
    (h : (match x with
      | .row b sz' off len _ => if Nat.blt i len && Nat.beq n sz' then some (V.ptr b (off + i) 0) else none
      | .dsl es _ => match nth i es with
        | some v => if Nat.beq v.cells.length n then some (V.rp v.cells 0) else none
        | none => none
      | _ => none) = some v) : VOk C ρ s w v s (Instr.indexAt t cx ci) := by
  obtain ⟨k, rfl⟩ := natOf_spec hi hni
  obtain ⟨_, hn0, hsz⟩ := szOf_spec hn
  cases x <;> simp only at h <;> try (cases h; done)
  ·
    rename_i b sz' off len clip
    split at h
    · rename_i hc
      simp only [Bool.and_eq_true, Nat.blt_eq, Nat.beq_eq] at hc
      obtain ⟨hlt, rfl⟩ := hc
      cases h
      cases hx with
      | row hl hs h1 h2 h3 h4 =>
        rename_i cap l a
        have ha := h3 (by omega)
        subst ha
        refine VOk.same hI (cv := .pointer (some ⟨l.c, l.base + (off + i) * l.sz + 0, none⟩)) ?_ (.ptr hl)
        have : (0 : Int) ≤ (i : Int) ∧ (i : Int) < (len : Int) := by omega
        simp only [Instr.indexAt, asIntOf, Sem.run_bind, Sem.run_pure, Result.andThen_ok, run_underlying hu]
        simp [hlt, hsz, addr_add, hs, Nat.add_mul, Nat.add_assoc]
    · cases h
  ·
    rename_i es clip
    split at h
    · rename_i y hy
      rw [nth_eq] at hy
      split at h
      · rename_i hc
        rw [Nat.beq_eq] at hc
        cases h
        cases hx with
        | dsl h1 h2 h3 h4 h5 h6 h7 =>
          rename_i a len cap sz
          have hlt : i < len := by rw [← h1]; exact (List.getElem?_eq_some_iff.1 hy).1
          obtain ⟨g1, g2⟩ := h5 i y hy
          have hsn : sz = n := by rw [← g1]; exact hc
          subst hsn
          have hsp := h4 (by intro e; subst e; simp at hy)
          obtain ⟨blk, off, spot⟩ := a
          simp only at hsp; subst hsp
          refine VOk.same hI (cv := .pointer (some ⟨blk, off + i * sz + 0, none⟩)) ?_ (.rp g2 (fun q z hz => h6 i y q z hy hz) (fun q z cv hz hcv => h7 i y q z cv hy hz hcv))
          have : (0 : Int) ≤ (i : Int) ∧ (i : Int) < (len : Int) := by omega
          simp only [Instr.indexAt, asIntOf, Sem.run_bind, Sem.run_pure, Result.andThen_ok, run_underlying hu]
          simp [hlt, hsz, addr_add]
      · cases h
    · cases h
theorem indexAddr_arr_ok (hI : Inv C ρ s w) {t e : TypeId} {m n : Nat} (hu : C.P.underlying t = some (.array m e)) (hn : szOf C.P e = some n) {x xi : V} {cx ci : Value} {i : Nat} (hx : VR ρ x cx) (hi : VR ρ xi ci) (hni : natOf xi = some i) (hlt : i < m)
    (h : (match x with
      | .ptr b k j => some (V.ptr b k (j + i * n))
      | .rp cs j => some (V.rp cs (j + i * n))
      | _ => none) = some v) : VOk C ρ s w v s (Instr.indexAt t cx ci) := by
  obtain ⟨k, rfl⟩ := natOf_spec hi hni
  obtain ⟨_, hn0, hsz⟩ := szOf_spec hn
  have hrun : ∀ a : Addr, (Instr.indexAt t (.pointer (some a)) (.int k (i : Int))).run C.P w = .ok (.pointer (some (a.add (i * n)))) w := by
    intro a
    have : (0 : Int) ≤ (i : Int) ∧ (i : Int) < (m : Int) := by omega
    simp only [Instr.indexAt, asIntOf, Sem.run_bind, Sem.run_pure, Result.andThen_ok, run_underlying hu]
    simp [Instr.sureAddr, hlt, hsz]
  cases x <;> simp only at h <;> try (cases h; done)
  · cases h
    cases hx with
    | ptr hl => refine VOk.same hI (hrun _) ?_; rw [addr_add, Nat.add_assoc]; exact .ptr hl
  · cases h
    cases hx with
    | rp hs hx hr => refine VOk.same hI (hrun _) ?_; rw [addr_add, Nat.add_assoc]; exact .rp hs hx hr
theorem extract_toList (bs : ByteArray) (a b : Nat) : (bs.extract a b).data.toList = (bs.data.toList.drop a).take (b - a) := by
  rw [ByteArray.data_extract, Array.toList_extract]
theorem slice_str_ok (hI : Inv C ρ s w) {t : TypeId} (hu : C.P.underlying t = some .string) {l : List Nat} {cx : Value} (hx : VR ρ (.str l) cx) {lo hi : Option V} {clo chi : Option Value} (hlo : OVR ρ lo clo) (hhi : OVR ρ hi chi) {a b : Nat} {c : Bool}
    (hb : bounds l.length true lo hi none = some (a, b, c)) {r : List Nat} (hw : window a (b - a) l = some r) : VOk C ρ s w (.str r) s (Instr.sliceAt t cx clo chi none) := by
  cases hx with
  | str e =>
    rename_i bs
    subst e
    have hl : (bs.data.toList.map UInt8.toNat).length = bs.size := by simp
    rw [hl] at hb
    obtain ⟨m, h1, h2, h3, _⟩ := bounds_spec (P := C.P) (w := w) (Nat.le_refl bs.size) hlo hhi .none (by simp) hb false
    refine VOk.same hI (cv := .string (bs.extract a b)) ?_ (.str ?_)
    · simp [Instr.sliceAt, Instr.slice, run_underlying hu, h1]
    · obtain ⟨e, _⟩ := window_some hw
      rw [e, extract_toList]; simp
theorem slice_ok (hI : Inv C ρ s w) {t e : TypeId} {n : Nat} (hu : C.P.underlying t = some (.slice e)) (hn : szOf C.P e = some n) {x : V} {cx : Value} (hx : VR ρ x cx) {lo hi mx : Option V} {clo chi cmx : Option Value}
    (hlo : OVR ρ lo clo) (hhi : OVR ρ hi chi) (hmx : OVR ρ mx cmx) (hh : cmx.isSome = true → chi.isSome = true)
    (h : (match x with
      | .nils => match bounds 0 true lo hi mx with
        | some _ => some V.nils
        | none => none
      | .row m sz' off len clip => if Nat.beq n sz' then match bounds len clip lo hi mx with
          | some (a, b, c) => some (.row m n (off + a) (b - a) c)
          | none => none
        else none
      | .dsl es clip => if es.all (fun e => Nat.beq e.cells.length n) then match bounds es.length clip lo hi mx with
          | some (a, b, c) => match window a (b - a) es with
            | some es => some (.dsl es c)
            | none => none
          | none => none
        else none
      | _ => none) = some v) : VOk C ρ s w v s (Instr.sliceAt t cx clo chi cmx) := by
  obtain ⟨_, hn0, hsz⟩ := szOf_spec hn
  have hat : (Instr.sliceAt t cx clo chi cmx).run C.P w = (Instr.slice t cx clo chi cmx).run C.P w := by simp [Instr.sliceAt, run_underlying hu]
  cases x <;> simp only at h <;> try (cases h; done)
  ·
    cases hx
    split at h
    · rename_i r hb
      obtain ⟨a, b, c⟩ := r
      cases h
      obtain ⟨m, h1, h2, h3, h4, h5, _⟩ := bounds_spec (P := C.P) (w := w) (Nat.le_refl 0) hlo hhi hmx hh hb true
      have ea : a = 0 := by omega
      have eb : b = 0 := by omega
      have em : m = 0 := by omega
      subst ea; subst eb; subst em
      exact VOk.same hI (cv := .slice none 0 0) (by rw [hat]; simp [Instr.slice, run_underlying hu, h1, hsz]) .nils
    · cases h
  ·
    rename_i b sz' off len clip
    split at h
    · rename_i hc
      rw [Nat.beq_eq] at hc
      subst hc
      split at h
      · rename_i lo' hi' c hb
        cases h
        cases hx with
        | row hl hs h1 h2 h3 h4 =>
          rename_i cap l a
          obtain ⟨m, g1, g2, g3, g4, g5, g6⟩ := bounds_spec (P := C.P) (w := w) h1 hlo hhi hmx hh hb true
          refine VOk.same hI (cv := .slice (some (if m = lo' then a else a.add (lo' * n))) (hi' - lo') (m - lo')) ?_ (.row hl hs (by omega) (by omega) ?_ ?_)
          · rw [hat]; simp [Instr.slice, run_underlying hu, g1, hsz]
            split <;> rfl
          · intro hne
            rw [if_neg (by omega), h3 (by omega), addr_add, hs, Nat.add_mul, Nat.add_assoc]
          · intro hct
            rcases g6 with ⟨_, e1, e2⟩ | ⟨_, e1, e2⟩
            · rw [e2] at hct
              simp only [Bool.and_eq_true, Nat.beq_eq] at hct
              have := h4 hct.1
              omega
            · rw [e2, Nat.beq_eq] at hct; omega
      · cases h
    · cases h
  ·
    rename_i es clip
    split at h
    · rename_i hall
      split at h
      · rename_i lo' hi' c hb
        split at h
        · rename_i es' hw
          cases h
          cases hx with
          | dsl h1 h2 h3 h4 h5 h6 h7 =>
            rename_i a len cap sz
            rw [h1] at hb
            obtain ⟨m, g1, g2, g3, g4, g5, g6⟩ := bounds_spec (P := C.P) (w := w) h2 hlo hhi hmx hh hb true
            obtain ⟨ew, hwl⟩ := window_some hw
            have hes : es'.length = hi' - lo' := window_length hw
            refine VOk.same hI (cv := .slice (some (if m = lo' then a else a.add (lo' * n))) (hi' - lo') (m - lo')) ?_ (.dsl (sz := sz) hes (by omega) ?_ ?_ ?_ ?_ ?_)
            · rw [hat]; simp [Instr.slice, run_underlying hu, g1, hsz]
              split <;> rfl
            · intro hct
              rcases g6 with ⟨_, e1, e2⟩ | ⟨_, e1, e2⟩
              · rw [e2] at hct
                simp only [Bool.and_eq_true, Nat.beq_eq] at hct
                have := h3 hct.1
                omega
              · rw [e2, Nat.beq_eq] at hct; omega
            · intro hne
              have hne' : es ≠ [] := by intro e; subst e; simp at ew; exact hne ew
              have := h4 hne'
              split
              · exact this
              · unfold Addr.add; split
                · exact this
                · rfl
            · intro i y hy
              obtain ⟨k1, _⟩ := window_get hw i y hy
              exact h5 (lo' + i) y k1
            all_goals
              intro i y
            · intro j z hy hz
              obtain ⟨k1, k2⟩ := window_get hw i y hy
              have hszn : sz = n := by
                have a1 := (h5 (lo' + i) y k1).1
                have a2 := (List.all_eq_true.1 hall) y (List.mem_of_getElem? k1)
                rw [Nat.beq_eq] at a2; omega
              subst hszn
              have := h6 (lo' + i) y j z k1 hz
              rw [if_neg (by omega)]
              have ea : (a.add (lo' * sz)).block = a.block ∧ (a.add (lo' * sz)).off = a.off + lo' * sz := by
                unfold Addr.add; split
                · rename_i e0; exact ⟨rfl, by rw [e0]; rfl⟩
                · exact ⟨rfl, rfl⟩
              rw [ea.1, ea.2]
              rwa [Nat.add_mul, ← Nat.add_assoc] at this
            · intro j z cv hy hz hcv
              obtain ⟨k1, k2⟩ := window_get hw i y hy
              have hszn : sz = n := by
                have a1 := (h5 (lo' + i) y k1).1
                have a2 := (List.all_eq_true.1 hall) y (List.mem_of_getElem? k1)
                rw [Nat.beq_eq] at a2; omega
              subst hszn
              refine h7 (lo' + i) y j z cv k1 hz ?_
              rw [if_neg (by omega)] at hcv
              have ea : (a.add (lo' * sz)).block = a.block ∧ (a.add (lo' * sz)).off = a.off + lo' * sz := by
                unfold Addr.add; split
                · rename_i e0; exact ⟨rfl, by rw [e0]; rfl⟩
                · exact ⟨rfl, rfl⟩
              rw [ea.1, ea.2] at hcv
              rwa [Nat.add_mul, ← Nat.add_assoc]
        · cases h
      · cases h
    · cases h
end
end Go.Eng
end
section
namespace Go.Eng
theorem fold_set : ∀ (xs : List Value) (off j : Nat) (cs : Array Value), off + j + xs.length ≤ cs.size →
    ((xs.zipIdx j).foldl (fun cs (p : Value × Nat) => cs.setIfInBounds (off + p.2) p.1) cs).size = cs.size ∧
      ∀ k : Nat, ((xs.zipIdx j).foldl (fun cs (p : Value × Nat) => cs.setIfInBounds (off + p.2) p.1) cs)[k]? = if off + j ≤ k ∧ k < off + j + xs.length then xs[k - (off + j)]? else cs[k]?
  | [], off, j, cs, _ => ⟨rfl, fun k => by rw [if_neg (by simp)]; rfl⟩
  | x :: xs, off, j, cs, h => by
    simp only [List.length_cons] at h
    obtain ⟨h1, h2⟩ := fold_set xs off (j + 1) (cs.setIfInBounds (off + j) x) (by simp; omega)
    refine ⟨by simpa [List.zipIdx_cons] using h1, fun k => ?_⟩
    simp only [List.zipIdx_cons, List.foldl_cons]
    rw [h2 k]
    by_cases c : off + j = k
    · subst c
      rw [if_neg (by omega), if_pos (by simp), Nat.sub_self, List.getElem?_cons_zero, Array.getElem?_setIfInBounds_self_of_lt (by omega)]
    · by_cases c' : off + (j + 1) ≤ k ∧ k < off + (j + 1) + xs.length
      · rw [if_pos c', if_pos (by simp; omega), show k - (off + j) = (k - (off + (j + 1))) + 1 by omega, List.getElem?_cons_succ]
      · rw [if_neg c', if_neg (by simp; omega)]; simp [c]
theorem VR.all_scalar {ρ : Rho} {v : V} {cv : Value} (h : VR ρ v cv) (hn : notTup v = true) : v.cells.all scalarV = true := by
  cases h <;> first
    | rfl
    | assumption
    | (simp [notTup] at hn)
def putPart (off : Nat) (v : Value) (cells : Array Value) : Array Value := v.cells.zipIdx.foldl (fun cs (c, j) => cs.setIfInBounds (off + j) c) cells
theorem putPart_spec {off : Nat} {v : Value} {cells : Array Value} (h : off + v.cells.size ≤ cells.size) :
    (putPart off v cells).size = cells.size ∧ ∀ k : Nat, (putPart off v cells)[k]? = if off ≤ k ∧ k < off + v.cells.size then v.cells[k - off]? else cells[k]? := by
  have := fold_set v.cells.toList off 0 cells (by simpa using h)
  have e : putPart off v cells = (v.cells.toList.zipIdx 0).foldl (fun cs (p : Value × Nat) => cs.setIfInBounds (off + p.2) p.1) cells := by
    unfold putPart
    rw [← Array.foldl_toList, Array.toList_zipIdx]
  rw [e]
  simpa using this
theorem fill_cons {place : Nat → Option (Nat × Nat)} {cells : Array Value} {i : Nat} {v : Value} {rest : List (Nat × Value)} {off n : Nat} (hp : place i = some (off, n)) (h1 : v.cells.size = n) (h2 : off + n ≤ cells.size) :
    Instr.fill place cells ((i, v) :: rest) = Instr.fill place (putPart off v cells) rest := by
  simp only [Instr.fill, hp]
  rw [if_neg (by simp [h1]; omega)]
  rfl
structure CR (ρ : Rho) (cs : List V) (arr : Array Value) : Prop where
  size : cs.length = arr.size
  all : cs.all scalarV = true
  rel : LR ρ cs (fun i => arr[i]?)
theorem splice_all {xs l r : List V} {n : Nat} (hx : xs.all scalarV = true) (hl : l.all scalarV = true) (h : splice xs n l = some r) : r.all scalarV = true := by
  obtain ⟨_, _, h3⟩ := splice_some h
  rw [List.all_eq_true]
  intro x hm
  obtain ⟨k, hk, rfl⟩ := List.getElem_of_mem hm
  have := h3 k
  rw [List.getElem?_eq_getElem hk] at this
  split at this
  · exact all_get hx this.symm
  · exact all_get hl this.symm
theorem CR.put {ρ : Rho} {cs r : List V} {arr : Array Value} (h : CR ρ cs arr) {v : V} {cv : Value} (hv : VR ρ v cv) (hs : v.cells.all scalarV = true) (hne : v.cells ≠ []) {off : Nat} (hsp : splice v.cells off cs = some r) :
    off + cv.cells.size ≤ arr.size ∧ CR ρ r (putPart off cv arr) := by
  obtain ⟨h1, h2, h3⟩ := splice_some hsp
  obtain ⟨c1, c2⟩ := hv.cells
  have hfit : off + cv.cells.size ≤ arr.size := by rw [← c1, ← h.size]; exact h2 hne
  obtain ⟨p1, p2⟩ := putPart_spec hfit
  refine ⟨hfit, ⟨by rw [p1, h1, h.size], splice_all hs h.all hsp, fun k x hx => ?_⟩⟩
  rw [h3 k] at hx
  simp only [p2 k]
  by_cases c : off ≤ k ∧ k < off + v.cells.length
  · rw [if_pos c] at hx
    rw [if_pos (by rw [← c1]; exact c)]
    exact c2 (k - off) x hx
  · rw [if_neg c] at hx
    rw [if_neg (by rw [← c1]; exact c)]
    exact h.rel k x hx
theorem fill_parts {C : Ctx} {ρ : Rho} (hG : GR C ρ) {τ : Tr V} {a : Act} (hτ : TR ρ τ a.tmps) {place place' : Nat → Option (Nat × Nat)} (hpos : ∀ i o n, place' i = some (o, n) → place i = some (o, n) ∧ 0 < n) :
    ∀ {ps : List (Nat × Operand)} {l : List (Nat × Nat × Ar)} {cs r : List V} {arr : Array Value}, partsOf C.G place' ps = some l → CR ρ cs arr →
      fillParts (l.map fun (off, n, x) => (off, n, arg τ x)) cs = some r →
      ∃ arr', Instr.fill place arr (ps.map fun (i, x) => (i, a.eval x)) = some arr' ∧ CR ρ r arr'
  | [], l, cs, r, arr, h, hc, hf => by
    simp only [partsOf, Option.some.injEq] at h
    subst h
    simp only [List.map_nil, fillParts, Option.some.injEq] at hf
    subst hf
    exact ⟨arr, rfl, hc⟩
  | (i, x) :: ps, l, cs, r, arr, h, hc, hf => by
    simp only [partsOf] at h
    split at h
    · rename_i o n b l' e1 e2 e3
      cases h
      simp only [List.map_cons, fillParts] at hf
      split at hf
      · rename_i hn
        simp only [Bool.and_eq_true, Nat.beq_eq] at hn
        split at hf
        · rename_i cs' hsp
          have hv := arg_rel hG hτ e2
          obtain ⟨e1', hpn⟩ := hpos _ _ _ e1
          have hne : (arg τ b).cells ≠ [] := by intro e; rw [e] at hn; simp at hn; omega
          obtain ⟨g1, g2⟩ := hc.put hv (hv.all_scalar hn.2) hne hsp
          obtain ⟨arr', k1, k2⟩ := fill_parts hG hτ hpos e3 g2 hf
          refine ⟨arr', ?_, k2⟩
          simp only [List.map_cons]
          rw [fill_cons e1' (by rw [← hv.cells.1]; exact hn.1) (by rw [← hn.1, hv.cells.1]; exact g1)]
          exact k1
        · cases hf
      · cases hf
    · cases h
end Go.Eng
end
section
namespace Go.Eng
section
variable {C : Ctx} {ρ : Rho} {s s' : St} {w : World} {v : V}
structure RR (ρ : Rho) (es : List (List V)) (sz : Nat) (arr : Array Value) : Prop where
  fits : es.length * sz ≤ arr.size
  all : ∀ e ∈ es, e.length = sz ∧ e.all scalarV = true
  rel : ∀ (i : Nat) e, es[i]? = some e → LR ρ e (fun j => arr[i * sz + j]?)
theorem RR.mono {ρ ρ' : Rho} (h : ρ.Le ρ') {es : List (List V)} {sz : Nat} {arr : Array Value} (hr : RR ρ es sz arr) : RR ρ' es sz arr := ⟨hr.fits, hr.all, fun i e he => (hr.rel i e he).mono h⟩
theorem rows_new (hI : Inv C ρ s w) {es : List (List V)} {sz N : Nat} {arr : Array Value} {ty : TypeId} {fr : Nat × Nat} (hsz : 0 < sz) (hty : C.P.cellsOf ty = sz) (hN : es.length ≤ N) (hfit : N * sz ≤ arr.size) (hfr : ∀ k, k < arr.size ∨ sz ≠ 1 → fr.2 ≤ k ∨ k < fr.1)
    (hr : RR ρ es sz arr) {len cap : Nat} {clip : Bool} (hlc : len ≤ cap) (hcN : cap ≤ N) (hcl : clip = true → cap = len) :
    ∃ ρ', VR ρ' (.row s.next sz 0 len clip) (.slice (some ⟨w.heap.size, 0, none⟩) len cap) ∧ Ext C ρ s w ρ' (new s (.row es sz ty)).2 (w.alloc (.cells arr ty fr)) := by
  have hn := hI.next_none
  have hle : ρ.Le (ρ.add s.next ⟨w.heap.size, 0, sz, N⟩) := Rho.le_add hn.1
  refine ⟨_, .row (Rho.add_same ρ s.next ⟨w.heap.size, 0, sz, N⟩) rfl hlc (by simpa using hcN) (fun _ => by simp) hcl, ext_new hI _ _ sz N 0 ?_⟩
  exact ⟨rfl, ⟨hsz, hty, Nat.dvd_zero _⟩, hN, hr.all, arr, fr, heap_alloc_new w _, by simpa using hfit, hfr, fun i e he => by simpa using (hr.rel i e he).mono hle⟩
theorem wrap64_small {n : Nat} (h : n < 9223372036854775808) : IntKind.i64.wrap (n : Int) = n := IntWalk.i64_in _ (by omega)
theorem zeros_rel {z : List V} {arr : Array Value} (hz : LR ρ z (fun i => arr[i]?)) (hl : z.length = arr.size) {sz : Nat} (hsz : z.length = sz) (hs : z.all scalarV = true) {l m : Nat} (hlm : l * sz ≤ m) :
    RR ρ (List.replicate l z) sz ((Array.range m).map (arr[· % arr.size]!)) := by
  refine ⟨by simpa using hlm, fun e he => ?_, fun i e he j x hx => ?_⟩
  · rw [(List.mem_replicate.1 he).2]; exact ⟨hsz, hs⟩
  · have hi : i < l := by have := (List.getElem?_eq_some_iff.1 he).1; simpa using this
    have hj : j < sz := by
      rw [List.getElem?_replicate, if_pos hi] at he; cases he
      rw [← hsz]; exact (List.getElem?_eq_some_iff.1 hx).1
    rw [List.getElem?_replicate, if_pos hi] at he; cases he
    obtain ⟨cv, e1, e2⟩ := hz j x hx
    refine ⟨cv, ?_, e2⟩
    have hlt : i * sz + j < m := by
      have : (i + 1) * sz ≤ l * sz := Nat.mul_le_mul_right _ (by omega)
      rw [Nat.add_mul] at this; omega
    have hmod : (i * sz + j) % arr.size = j := by
      rw [← hl, hsz, Nat.mul_comm, Nat.mul_add_mod, Nat.mod_eq_of_lt hj]
    simp only at e1
    simp only [Array.getElem?_map, Array.getElem?_range, hlt, if_true, Option.map_some, hmod]
    rw [Array.getElem!_eq_getD, Array.getD_eq_getD_getElem?, e1]; rfl
theorem mkSlice_ok (hI : Inv C ρ s w) {t e : TypeId} {n : Nat} {z : List V} (hu : C.P.underlying t = some (.slice e)) (hn : szOf C.P e = some n) (hz : zeroCells C.P e = some z) {xl xc : V} {cl cc : Value} (hl : VR ρ xl cl) (hc : VR ρ xc cc)
    {l c : Nat} (el : natOf xl = some l) (ec : natOf xc = some c) (hlc : l ≤ c) (hmax : c ≤ 1000000) :
    VOk C ρ s w (.row s.next n 0 l (Nat.beq l c)) (new s (.row (rep l z) n e)).2 (Instr.makeSlice t cl cc) := by
  obtain ⟨k, rfl⟩ := natOf_spec hl el
  obtain ⟨k', rfl⟩ := natOf_spec hc ec
  obtain ⟨n', cv, h1, h2, h3, h4, h5, h6, h7⟩ := zeroCells_spec hz
  rw [hn] at h1; cases h1
  obtain ⟨hcell, hn0, hsz⟩ := szOf_spec hn
  have hnn : n ≤ 4096 ∨ True := .inr trivial
  have hinfo : ∃ i, C.P.info? e = some i ∧ i.bytes ≤ 4096 := by
    unfold Program.cellsOf at hcell
    cases hi : C.P.info? e with
    | none => simp [hi] at hcell; omega
    | some i => refine ⟨i, rfl, ?_⟩; simpa [Program.bytesOf, hi] using h4
  obtain ⟨i, hi, hb⟩ := hinfo
  have hzr : LR ρ z (fun i => cv.cells[i]?) := h7 ρ
  rw [rep_eq]
  obtain ⟨ρ', g1, g2⟩ := rows_new (C := C) (s := s) (w := w) hI (es := List.replicate l z) (sz := n) (N := c) (arr := (Array.range (c * n)).map (cv.cells[· % cv.cells.size]!)) (ty := e) (fr := (0, 0)) hn0 hcell (by rw [List.length_replicate]; exact hlc) (by rw [Array.size_map, Array.size_range]; exact Nat.le_refl _) (fun k _ => .inl (Nat.zero_le _))
    (zeros_rel hzr (by rw [h2, h6]) h2 h3 (Nat.mul_le_mul_right _ hlc)) (len := l) (cap := c) (clip := Nat.beq l c) hlc (Nat.le_refl _) (fun h => by rw [Nat.beq_eq] at h; omega)
  refine ⟨_, ρ', _, ?_, g1, g2⟩
  have hbc : ¬ ((c : Int) < 0) := by omega
  have hm : i.bytes * c ≤ 4096 * 1000000 := Nat.mul_le_mul hb hmax
  have hbig : ¬ ((i.bytes : Int) * (c : Int) > 2 ^ 48) := by
    rw [← Int.natCast_mul]
    generalize i.bytes * c = q at hm
    omega
  have hlen : ¬ ((l : Int) < 0 ∨ (c : Int) < (l : Int)) := by omega
  have hnz : ¬ (c * n = 0 ∧ False) := by simp
  simp only [Instr.makeSlice, Sem.run_bind, run_underlying hu, Result.andThen_ok, asInt, asIntOf, Sem.run_pure, typeInfo, run_program, hi]
  rw [wrap64_small (by omega), wrap64_small (by omega)]
  have hcond : (decide ((c : Int) < 0) || decide ((i.bytes : Int) * (c : Int) > 2 ^ 48) || decide ((l : Int) < 0) || decide ((l : Int) > (c : Int))) = false := by
    simp only [Bool.or_eq_false_iff, decide_eq_false_iff_not]
    exact ⟨⟨⟨hbc, hbig⟩, by omega⟩, by omega⟩
  simp only [hcond, Bool.false_eq_true, if_false, Result.andThen_ok, run_askRoom, hsz, Sem.run_bind, Int.toNat_natCast]
  by_cases h0 : c * n = 0
  · rw [if_pos h0]
    have e0 : Array.range 0 = #[] := rfl
    simp only [Sem.run_pure, Result.andThen_ok, newRow, Sem.run_bind, run_newObj, h0, e0, List.map_toArray, List.map_nil]
    rfl
  · rw [if_neg h0]
    simp only [Sem.run_bind, h5, Sem.run_pure, Result.andThen_ok, newRow, run_newObj]
    rfl
end
end Go.Eng
end
section
namespace Go.Eng
section
variable {C : Ctx} {ρ : Rho} {s s' : St} {w : World} {v : V}
structure Holds (C : Ctx) (ρ : Rho) (w : World) (sz : Nat) (ys : List (List V)) (cy : Value) (vs : List Value) : Prop where
  len : vs.length = ys.length * sz
  cells : (Builtin.firstCells sz ys.length cy).run C.P w = .ok vs.toArray w
  cellsD : (Builtin.firstCells sz ys.length cy).run C.P w.drew = .ok vs.toArray w.drew
  count : ∀ w', (Builtin.lenOf cy).run C.P w' = .ok ys.length w'
  all : ∀ e ∈ ys, e.length = sz ∧ e.all scalarV = true
  rel : ∀ (i : Nat) e, ys[i]? = some e → LR ρ e (fun j => vs[i * sz + j]?)
theorem rows_list {sz n : Nat} {ys : List (List V)} (hn : ys.length = n) (hall : ∀ e ∈ ys, e.length = sz) {f : Nat → Option Value} (hr : ∀ (i : Nat) e, ys[i]? = some e → LR ρ e (fun j => f (i * sz + j))) :
    ∃ vs : List Value, vs.length = n * sz ∧ (∀ (k : Nat) x, vs[k]? = some x → f k = some x) ∧ ∀ (i : Nat) e, ys[i]? = some e → LR ρ e (fun j => vs[i * sz + j]?) := by
  subst hn
  have hsome : ∀ k, k < ys.length * sz → ∃ x, f k = some x := by
    intro k hk
    have hpos : 0 < sz := by rcases Nat.eq_zero_or_pos sz with e | e; subst e; simp at hk; exact e
    have hi : k / sz < ys.length := Nat.div_lt_of_lt_mul (by rwa [Nat.mul_comm])
    have hj : k % sz < ys[k / sz].length := by rw [hall _ (List.getElem_mem hi)]; exact Nat.mod_lt _ hpos
    obtain ⟨cv, e1, _⟩ := hr (k / sz) ys[k / sz] (by simp [hi]) (k % sz) ys[k / sz][k % sz] (by simp [hj])
    refine ⟨cv, ?_⟩
    have : k / sz * sz + k % sz = k := by rw [Nat.mul_comm]; exact Nat.div_add_mod k sz
    simp only [this] at e1; exact e1
  refine ⟨(List.range (ys.length * sz)).map fun k => (f k).getD Go.undef, by simp, fun k x hx => ?_, fun i e he j x hx => ?_⟩
  · simp only [List.getElem?_map, Option.map_eq_some_iff] at hx
    obtain ⟨q, hq, rfl⟩ := hx
    obtain ⟨hlt, e⟩ := List.getElem?_eq_some_iff.1 hq
    simp at hlt e; subst e
    obtain ⟨y, hy⟩ := hsome k hlt
    simp [hy]
  · obtain ⟨cv, e1, e2⟩ := hr i e he j x hx
    have hi : i < ys.length := (List.getElem?_eq_some_iff.1 he).1
    have hj : j < sz := by rw [← hall e (List.mem_of_getElem? he)]; exact (List.getElem?_eq_some_iff.1 hx).1
    have hlt : i * sz + j < ys.length * sz := by
      have : (i + 1) * sz ≤ ys.length * sz := Nat.mul_le_mul_right _ (by omega)
      rw [Nat.add_mul] at this; omega
    exact ⟨cv, by simp only at e1; simp [hlt, e1], e2⟩
theorem elems_spec (hI : Inv C ρ s w) {y : V} {cy : Value} (hy : VR ρ y cy) {ys : List (List V)} (h : elems s.heap y = some ys) {sz : Nat} (hall : ys.all (fun e => Nat.beq e.length sz) = true) : ∃ vs, Holds C ρ w sz ys cy vs := by
  have hlen : ∀ e ∈ ys, e.length = sz := fun e he => by have := (List.all_eq_true.1 hall) e he; rwa [Nat.beq_eq] at this
  cases y <;> simp only [elems] at h <;> try (cases h; done)
  ·
    rename_i l
    cases h
    cases hy with
    | str e =>
      rename_i bs
      subst e
      have hel : ∀ (i : Nat) e, (bs.data.toList.map UInt8.toNat |>.map fun c => [V.int .u8 (Int.ofNat c)])[i]? = some e → ∃ b : UInt8, bs.data.toList[i]? = some b ∧ e = [V.int .u8 (Int.ofNat b.toNat)] := by
        intro i e he
        simp only [List.getElem?_map, Option.map_map, Option.map_eq_some_iff] at he
        obtain ⟨b, hb, rfl⟩ := he
        exact ⟨b, hb, rfl⟩
      have hsz : bs.data.toList ≠ [] → sz = 1 := by
        intro hne
        cases hd : bs.data.toList with
        | nil => exact absurd hd hne
        | cons b r => have := hlen [V.int .u8 (Int.ofNat b.toNat)] (by rw [hd]; simp); simp at this; omega
      have hcells : ∀ w', (Builtin.firstCells sz ((bs.data.toList.map UInt8.toNat).map fun c => [V.int .u8 (Int.ofNat c)]).length (.string bs)).run C.P w' = .ok (bs.data.toList.map fun b => Value.int .u8 b.toNat).toArray w' := by
        intro w'
        simp only [Builtin.firstCells, Sem.run_pure]
        congr 1
        apply Array.ext'
        simp
      refine ⟨bs.data.toList.map fun b => .int .u8 b.toNat, ⟨?_, hcells w, hcells w.drew, fun w' => ?_, ?_, ?_⟩⟩
      · by_cases e : bs.data.toList = []
        · simp [e]
        · rw [hsz e]; simp
      · simp only [Builtin.lenOf, Sem.run_pure]; simp
      · intro e he
        refine ⟨hlen e he, ?_⟩
        obtain ⟨i, hi, rfl⟩ := List.getElem_of_mem he
        obtain ⟨b, _, e⟩ := hel i _ (List.getElem?_eq_getElem hi)
        rw [e]; rfl
      · intro i e he j x hx
        obtain ⟨b, hb, rfl⟩ := hel i e he
        cases j with
        | zero =>
          simp at hx; subst hx
          have hne : bs.data.toList ≠ [] := by intro e; rw [e] at hb; simp at hb
          rw [hsz hne]
          exact ⟨.int .u8 b.toNat, by simp [hb], .int _ _⟩
        | succ j => simp at hx
  ·
    cases h; cases hy
    exact ⟨[], ⟨by simp, by simp [Builtin.firstCells], by simp [Builtin.firstCells], fun w' => by simp [Builtin.lenOf], by simp, by simp⟩⟩
  ·
    rename_i b sz' off len clip
    split at h
    · rename_i es szb ty hb
      cases hy with
      | row hl hs h1 h2 h3 h4 =>
        rename_i cap l a
        obtain ⟨o1, o2, o3, o4, arr, fr, o5, o6, o7, o8⟩ := hI.obj _ _ _ hb hl
        have hyl : ys.length = len := window_length h
        have hmem : ∀ e ∈ ys, e.length = szb ∧ e.all scalarV = true := by
          intro e he
          obtain ⟨i, hi, rfl⟩ := List.getElem_of_mem he
          exact o4 _ (List.mem_of_getElem? (window_get h i _ (List.getElem?_eq_getElem hi)).1)
        by_cases h0 : len = 0
        · have : ys = [] := List.length_eq_zero_iff.1 (by omega)
          subst this; subst h0
          exact ⟨[], ⟨by simp, by simp [Builtin.firstCells, Go.loadCells, loadCellsFrom], by simp [Builtin.firstCells, Go.loadCells, loadCellsFrom], fun w' => by simp [Builtin.lenOf], by simp, by simp⟩⟩
        · have ha := h3 (by omega)
          subst ha
          have hszz : szb = sz := by
            cases ys with
            | nil => simp at hyl; omega
            | cons e r => have a1 := (hmem e (by simp)).1; have a2 := hlen e (by simp); omega
          subst hszz
          have hr : ∀ (i : Nat) e, ys[i]? = some e → LR ρ e (fun j => (fun k => w.cell? ⟨l.c, l.base + off * l.sz + k, none⟩) (i * szb + j)) := by
            intro i e he
            have g := o8 (off + i) e (window_get h i e he).1
            intro j x hx
            obtain ⟨cv, e1, e2⟩ := g j x hx
            refine ⟨cv, ?_, e2⟩
            simp only at e1 ⊢
            rw [cell_of_heap o5, ← e1, ← o1, Nat.add_mul]
            congr 1; omega
          obtain ⟨vs, v1, v2, v3⟩ := rows_list (f := fun k => w.cell? ⟨l.c, l.base + off * l.sz + k, none⟩) hyl hlen hr
          refine ⟨vs, ⟨by rw [v1, hyl], ?_, ?_, fun w' => by simp [Builtin.lenOf, hyl], hmem, v3⟩⟩
          · simp only [Builtin.firstCells, hyl]
            rw [← v1]
            exact run_loadCells_list w _ vs fun j x hx => by rw [addr_add]; exact v2 j x hx
          · simp only [Builtin.firstCells, hyl]
            rw [← v1]
            exact run_loadCells_list w.drew _ vs fun j x hx => by rw [addr_add]; exact v2 j x hx
    · cases h
  ·
    rename_i es clip
    cases h
    cases hy with
    | dsl h1 h2 h3 h4 h5 h6 h7 =>
      rename_i a len cap szd
      have hmap : ∀ (i : Nat) e, (es.map V.cells)[i]? = some e → ∃ x, es[i]? = some x ∧ e = x.cells := by
        intro i e he
        simp only [List.getElem?_map, Option.map_eq_some_iff] at he
        obtain ⟨x, hx, rfl⟩ := he
        exact ⟨x, hx, rfl⟩
      have hyl : (es.map V.cells).length = len := by simpa using h1
      by_cases h0 : es = []
      · subst h0
        simp at h1; subst h1
        exact ⟨[], ⟨by simp, by simp [Builtin.firstCells, Go.loadCells, loadCellsFrom], by simp [Builtin.firstCells, Go.loadCells, loadCellsFrom], fun w' => by simp [Builtin.lenOf], by simp, by simp⟩⟩
      · have hsp := h4 h0
        obtain ⟨blk, off, spot⟩ := a
        simp only at hsp; subst hsp
        have hszz : szd = sz := by
          cases hes : es with
          | nil => exact absurd hes h0
          | cons x r =>
            have a1 := (h5 0 x (by rw [hes]; rfl)).1
            have a2 := hlen x.cells (by rw [hes]; simp)
            omega
        subst hszz
        have hr : ∀ (i : Nat) e, (es.map V.cells)[i]? = some e → LR ρ e (fun j => (fun k => w.cell? ⟨blk, off + k, none⟩) (i * szd + j)) := by
          intro i e he
          obtain ⟨x, hx, rfl⟩ := hmap i e he
          intro j y hy
          obtain ⟨cv, e1⟩ := h6 i x j y hx hy
          refine ⟨cv, ?_, h7 i x j y cv hx hy e1⟩
          unfold Rho.cell at e1
          split at e1
          · rename_i arr ty fr hi
            simp only
            rw [cell_of_heap (hI.imm _ _ hi), ← e1, Nat.add_assoc]
          · cases e1
        obtain ⟨vs, v1, v2, v3⟩ := rows_list (f := fun k => w.cell? ⟨blk, off + k, none⟩) hyl hlen hr
        refine ⟨vs, ⟨by rw [v1, hyl], ?_, ?_, fun w' => by simp [Builtin.lenOf, h1], fun e he => ⟨hlen e he, ?_⟩, v3⟩⟩
        · simp only [Builtin.firstCells, hyl]
          rw [← v1]
          exact run_loadCells_list w _ vs fun j x hx => by rw [addr_add]; exact v2 j x hx
        · simp only [Builtin.firstCells, hyl]
          rw [← v1]
          exact run_loadCells_list w.drew _ vs fun j x hx => by rw [addr_add]; exact v2 j x hx
        · obtain ⟨i, hi, rfl⟩ := List.getElem_of_mem he
          obtain ⟨x, hx, e⟩ := hmap i _ (List.getElem?_eq_getElem hi)
          rw [e]; exact (h5 i x hx).2
end
end Go.Eng
end
section
namespace Go.Eng
section
variable {C : Ctx} {ρ : Rho} {s s' : St} {w : World} {v : V}
theorem info_of {P : Program} {e : TypeId} {n : Nat} (h : P.cellsOf e = n) (h0 : 0 < n) : ∃ i, P.info? e = some i ∧ i.size = n ∧ i.bytes = P.bytesOf e := by
  unfold Program.cellsOf at h
  cases hi : P.info? e with
  | none => simp [hi] at h; omega
  | some i => exact ⟨i, rfl, by simpa [hi] using h, by simp [Program.bytesOf, hi]⟩
theorem elem_facts {e : TypeId} {n : Nat} {z : List V} (hn : szOf C.P e = some n) (hz : zeroCells C.P e = some z) :
    ∃ (i : TypeInfo) (cv : Value), C.P.info? e = some i ∧ i.size = n ∧ i.bytes ≤ 4096 ∧ i.zero = some cv ∧ cv.cells.size = n ∧ 0 < n ∧ z.length = n ∧ z.all scalarV = true ∧ ∀ ρ : Rho, LR ρ z (fun i => cv.cells[i]?) := by
  obtain ⟨n', cv, h1, h2, h3, h4, h5, h6, h7⟩ := zeroCells_spec hz
  rw [hn] at h1; cases h1
  obtain ⟨hcell, hn0, _⟩ := szOf_spec hn
  obtain ⟨i, hi, his, hib⟩ := info_of hcell hn0
  have hzero : i.zero = some cv := by
    have := h5 default
    cases hq : i.zero with
    | none => simp [zeroValue, typeInfo, hi, hq] at this
    | some v => simp [zeroValue, typeInfo, hi, hq] at this; rw [this]
  exact ⟨i, cv, hi, his, by rw [hib]; exact h4, hzero, h6, hn0, h2, h3, h7⟩
theorem Holds.src {sz : Nat} {ys : List (List V)} {cy : Value} {vs : List Value} (h : Holds C ρ w sz ys cy vs) {tx : TypeId} (hk : (∃ e', C.P.underlying tx = some (.slice e')) ∨ C.P.underlying tx = some .string) :
    Src C.P sz tx cy ys.length vs w := by
  refine ⟨hk, h.count, h.cells, h.cellsD, h.len, fun u hu => ?_⟩
  obtain ⟨k, hk, rfl⟩ := List.getElem_of_mem hu
  have hpos : 0 < sz := by rcases Nat.eq_zero_or_pos sz with e | e; rw [h.len, e] at hk; simp at hk; exact e
  have hlt : k < ys.length * sz := by rw [← h.len]; exact hk
  have hi : k / sz < ys.length := Nat.div_lt_of_lt_mul (by rwa [Nat.mul_comm])
  obtain ⟨a1, a2⟩ := h.all _ (List.getElem_mem hi)
  have hj : k % sz < ys[k / sz].length := by rw [a1]; exact Nat.mod_lt _ hpos
  obtain ⟨cv, e1, e2⟩ := h.rel (k / sz) ys[k / sz] (by simp [hi]) (k % sz) ys[k / sz][k % sz] (by simp [hj])
  have e3 : k / sz * sz + k % sz = k := by rw [Nat.mul_comm]; exact Nat.div_add_mod k sz
  simp only [e3, List.getElem?_eq_getElem hk, Option.some.injEq] at e1
  rw [e1]
  exact e2.oneCell (all_get a2 (i := k % sz) (by simp [hj]))
theorem rows_append {sz : Nat} {es ys : List (List V)} {olds news : List Value} {rest : Array Value} (h1 : olds.length = es.length * sz) (h2 : news.length = ys.length * sz) (a1 : ∀ e ∈ es, e.length = sz ∧ e.all scalarV = true)
    (a2 : ∀ e ∈ ys, e.length = sz ∧ e.all scalarV = true) (r1 : ∀ (i : Nat) e, es[i]? = some e → LR ρ e (fun j => olds[i * sz + j]?)) (r2 : ∀ (i : Nat) e, ys[i]? = some e → LR ρ e (fun j => news[i * sz + j]?)) :
    RR ρ (es ++ ys) sz ((olds ++ news).toArray ++ rest) := by
  refine ⟨?_, ?_, ?_⟩
  · simp only [List.length_append, Array.size_append, List.size_toArray, h1, h2]; rw [Nat.add_mul]; omega
  · intro e he
    rcases List.mem_append.1 he with h | h
    · exact a1 e h
    · exact a2 e h
  · intro i e he j x hx
    have key : ∀ (k : Nat) (y : Value), (olds ++ news)[k]? = some y → ((olds ++ news).toArray ++ rest)[k]? = some y := by
      intro k y hk
      have hlt := (List.getElem?_eq_some_iff.1 hk).1
      rw [Array.getElem?_append_left (by simpa using hlt)]
      simpa using hk
    by_cases c : i < es.length
    · rw [List.getElem?_append_left c] at he
      obtain ⟨cv, e1, e2⟩ := r1 i e he j x hx
      refine ⟨cv, key _ _ ?_, e2⟩
      simp only at e1
      rw [List.getElem?_append_left (List.getElem?_eq_some_iff.1 e1).1]; exact e1
    · rw [List.getElem?_append_right (by omega)] at he
      obtain ⟨cv, e1, e2⟩ := r2 (i - es.length) e he j x hx
      refine ⟨cv, key _ _ ?_, e2⟩
      simp only at e1
      have hidx : i * sz + j = olds.length + ((i - es.length) * sz + j) := by
        rw [h1, ← Nat.add_assoc, ← Nat.add_mul]; congr 2; omega
      rw [hidx, List.getElem?_append_right (by omega), Nat.add_sub_cancel_left]; exact e1
theorem nextcap_fits {need cap bytes : Nat} (h : cap < need) (hmax : need ≤ 1000000000) (hb : bytes ≤ 4096) : Builtin.nextslicecap need cap * bytes ≤ 281474976710656 := by
  have a1 := nextslicecap_le h
  have a2 : Builtin.nextslicecap need cap * bytes ≤ (2 * need) * 4096 := Nat.mul_le_mul a1 hb
  omega
theorem append_new (hI : Inv C ρ s w) {t tx d0 e : TypeId} {n : Nat} {z : List V} (hu : C.P.underlying t = some (.slice e)) (hn : szOf C.P e = some n) (hz : zeroCells C.P e = some z) (hk : (∃ e', C.P.underlying tx = some (.slice e')) ∨ C.P.underlying tx = some .string)
    {base : Option Addr} {len cap : Nat} {cy : Value} {es ys : List (List V)} {olds news : List Value} (hx : Holds C ρ w n es (.slice base len cap) olds) (hy : Holds C ρ w n ys cy news) (hel : es.length = len) (hneed : cap < len + ys.length)
    (h : grow s n e (es ++ ys) = some (v, s')) : VOk C ρ s w v s' (Builtin.append_ #[t, tx] d0 #[.slice base len cap, cy]) := by
  unfold grow at h
  split at h
  · rename_i hmax
    rw [Nat.ble_eq, List.length_append] at hmax
    obtain ⟨i, cv, hi, his, hib, hzero, hcs, hn0, hzl, hzs, hzr⟩ := elem_facts hn hz
    subst his
    subst hel
    cases h
    have hrun := run_append_grow_src (P := C.P) w t tx d0 e i cv hu hi hzero base es.length cap olds hx.cellsD cy ys.length news (hy.src hk) hneed (by omega) (nextcap_fits hneed hmax hib)
    have hNge : es.length + ys.length ≤ grownCap w (es.length + ys.length) cap e := grownCap_ge w _ _ _
    generalize grownCap w (es.length + ys.length) cap e = N at hrun hNge
    have hID := ext_drew hI s.drawn (w.drawn + 1)
    have hsz : (olds ++ news).length = (es.length + ys.length) * i.size := by rw [List.length_append, hx.len, hy.len, Nat.add_mul]
    obtain ⟨ρ', g1, g2⟩ := rows_new (C := C) (ρ := ρ) (s := s) (w := w.drew) hID.inv (es := es ++ ys) (sz := i.size) (N := N) (arr := (olds ++ news).toArray ++ Builtin.zeroCells cv.cells (N - (es.length + ys.length))) (ty := e) (fr := (0, 0)) hn0 (szOf_spec hn).1
      (by rw [List.length_append]; exact hNge) (by
        rw [Array.size_append, List.size_toArray, hsz, size_zeroCells, hcs, ← Nat.add_mul]
        exact Nat.mul_le_mul_right _ (by omega)) (fun k _ => .inl (Nat.zero_le _))
      (rows_append hx.len hy.len hx.all hy.all hx.rel hy.rel) (len := es.length + ys.length) (cap := N) (clip := false) hNge (Nat.le_refl _) (fun h => by cases h)
    refine ⟨_, ρ', _, hrun, ?_, hID.trans g2⟩
    rw [List.length_append]; exact g1
  · cases h
theorem elems_all_row (hI : Inv C ρ s w) {b : Nm} {n off len : Nat} {clip : Bool} {cx : Value} (hx : VR ρ (.row b n off len clip) cx) {es : List (List V)} (hes : elems s.heap (.row b n off len clip) = some es) :
    es.all (fun e => Nat.beq e.length n) = true ∧ es.length = len := by
  simp only [elems] at hes
  split at hes
  · rename_i fs szb ty hb
    cases hx with
    | row hl hs h1 h2 h3 h4 =>
      obtain ⟨o1, o2, o3, o4, _⟩ := hI.obj _ _ _ hb hl
      refine ⟨?_, window_length hes⟩
      rw [List.all_eq_true]
      intro e he
      obtain ⟨q, hq, rfl⟩ := List.getElem_of_mem he
      rw [Nat.beq_eq, (o4 _ (List.mem_of_getElem? (window_get hes q _ (List.getElem?_eq_getElem hq)).1)).1, o1, hs]
  · cases hes
theorem append_row (hI : Inv C ρ s w) {t tx d0 e : TypeId} {n : Nat} {z : List V} (hu : C.P.underlying t = some (.slice e)) (hn : szOf C.P e = some n) (hz : zeroCells C.P e = some z) (hk : (∃ e', C.P.underlying tx = some (.slice e')) ∨ C.P.underlying tx = some .string)
    {b : Nm} {off len : Nat} {clip : Bool} {cx cy : Value} {es ys : List (List V)} {news : List Value} (hx : VR ρ (.row b n off len clip) cx) {fs : List (List V)} {szb : Nat} (hb : s.heap.get b = some (.row fs szb e)) (hw : window off len fs = some es) (hy : Holds C ρ w n ys cy news) (hne : ys ≠ [])
    (h : grow { s with heap := s.heap.set none b } n e (es ++ ys) = some (v, s')) : VOk C ρ s w v s' (Builtin.append_ #[t, tx] d0 #[cx, cy]) := by
  have hbn : s.heap.get b ≠ none := by rw [hb]; simp
  have hes : elems s.heap (.row b n off len clip) = some es := by simp only [elems, hb]; exact hw
  have hyl : 0 < ys.length := List.length_pos_iff.2 hne
  obtain ⟨hall, hel⟩ := elems_all_row hI hx hes
  obtain ⟨olds, hol⟩ := elems_spec hI hx hes hall
  cases hx with
  | row hl hs h1 h2 h3 h4 =>
    rename_i cap l a
    by_cases hroom : len + ys.length ≤ cap
    ·
      obtain ⟨i, cv, hi, his, hib, hzero, hcs, hn0, hzl, hzs, hzr⟩ := elem_facts hn hz
      unfold grow at h
      split at h
      · cases h
        have ha := h3 (by omega)
        subst ha
        obtain ⟨o1, o2, o3, o4, arr, fr, o5, o6, o7, o8⟩ := hI.obj _ _ _ hb hl
        subst his
        subst o1
        have hm : (off + (len + ys.length)) * l.sz ≤ l.N * l.sz := Nat.mul_le_mul_right _ (by omega)
        have hm' : (l.N - off) * l.sz + off * l.sz = l.N * l.sz := by rw [← Nat.add_mul]; congr 1; omega
        rw [Nat.add_mul, Nat.add_mul] at hm
        have hnl : news.length = ys.length * l.sz := by rw [hy.len, hs]
        have hfit : l.base + off * l.sz + len * i.size + news.length ≤ arr.size := by
          rw [hnl, ← hs]; omega
        have hrun := run_append_room_src (P := C.P) w t tx d0 e i hu hi l.c (l.base + off * l.sz) len cap cy ys.length news (hy.src hk) hroom
          (fun j hj => by rw [cell_of_heap o5]; simp; omega)
          (fun j hj => by
            have := o7 (l.base + off * l.sz + len * i.size + j) (.inl (by omega))
            simp only [World.frozen?, o5]
            simp; omega)
        obtain ⟨arr', g1, g2, g3, g4⟩ := setCells_heap l.c news (l.base + off * l.sz + len * i.size) w arr e fr o5 hfit
        obtain ⟨l', hl'⟩ : ∃ l' : Loc, l' = ⟨l.c, l.base + off * l.sz, i.size, l.N - off⟩ := ⟨_, rfl⟩
        have hle : ρ.Le (ρ.add s.next l') := Rho.le_add hI.next_none.1
        have hor : OR C (ρ.add s.next l') l' (.row (es ++ ys) i.size e) (w.setCells l.c (l.base + off * l.sz + len * i.size) news) := by
          subst hl'
          refine ⟨rfl, ⟨hn0, (szOf_spec hn).1, ?_⟩, ?_, ?_, arr', fr, g1, ?_, by rw [g2, ← hs]; exact o7, ?_⟩
          · show i.size ∣ l.base + off * l.sz
            rw [← hs]
            exact Nat.dvd_add o2.2.2 (Nat.dvd_mul_left _ _)
          · show _ ≤ l.N - off
            rw [List.length_append, hel]; omega
          · intro x hx
            rcases List.mem_append.1 hx with h | h
            · exact hol.all x h
            · exact hy.all x h
          · show l.base + off * l.sz + (l.N - off) * i.size ≤ arr'.size
            rw [g2, ← hs]; omega
          · intro q x hx
            refine LR.mono hle fun j y hj => ?_
            show ∃ cv, arr'[l.base + off * l.sz + q * i.size + j]? = some cv ∧ _
            by_cases c : q < es.length
            · rw [List.getElem?_append_left c] at hx
              obtain ⟨cv, e1, e2⟩ := o8 (off + q) x (window_get hw q x hx).1 j y hj
              refine ⟨cv, ?_, e2⟩
              have hjs : j < l.sz := by
                rw [hs, ← (hol.all x (List.mem_of_getElem? hx)).1]; exact (List.getElem?_eq_some_iff.1 hj).1
              have hq : (q + 1) * l.sz ≤ len * l.sz := Nat.mul_le_mul_right _ (by omega)
              rw [Nat.add_mul] at hq
              rw [g3, if_neg (by rw [← hs]; omega), ← hs, ← e1]
              congr 1
              rw [Nat.add_mul]; omega
            · rw [List.getElem?_append_right (by omega)] at hx
              obtain ⟨cv, e1, e2⟩ := hy.rel (q - es.length) x hx j y hj
              refine ⟨cv, ?_, e2⟩
              have hlt := (List.getElem?_eq_some_iff.1 e1).1
              have hidx : q * i.size = len * i.size + (q - es.length) * i.size := by
                rw [← Nat.add_mul]; congr 1; omega
              rw [g3, if_pos (by omega), ← e1]
              congr 1
              omega
        have hmv := ext_move (C := C) (ρ := ρ) (s := s) (w := w) hI hbn hl g4 (.row (es ++ ys) i.size e) l' (by rw [hl']) hor
        refine ⟨_, _, _, hrun, ?_, hmv⟩
        rw [List.length_append, hel]
        exact .row (Rho.add_same ρ s.next l') (by rw [hl']) hroom (by rw [hl']; show 0 + cap ≤ l.N - off; omega) (fun _ => by rw [hl']; simp) (fun h => by cases h)
      · cases h
    ·
      have hkill : Ext C ρ s w ρ { s with heap := s.heap.set none b } w := ext_set hI hbn hl (Upd.refl w l.c) none (fun o' h => by cases h)
      obtain ⟨cv, ρ', w', k1, k2, k3⟩ := append_new (d0 := d0) hkill.inv hu hn hz hk hol hy hel (by omega) h
      exact ⟨cv, ρ', w', k1, k2, hkill.trans k3⟩
theorem append_none (hI : Inv C ρ s w) {t tx d0 e : TypeId} {n : Nat} {z : List V} (hu : C.P.underlying t = some (.slice e)) (hn : szOf C.P e = some n) (hz : zeroCells C.P e = some z) (hk : (∃ e', C.P.underlying tx = some (.slice e')) ∨ C.P.underlying tx = some .string)
    {base : Option Addr} {len cap : Nat} {cy : Value} {news : List Value} (hlc : len ≤ cap) (hx : VR ρ v (.slice base len cap)) (hy : Holds C ρ w n [] cy news) : VOk C ρ s w v s (Builtin.append_ #[t, tx] d0 #[.slice base len cap, cy]) := by
  obtain ⟨i, cv, hi, his, hib, hzero, hcs, hn0, hzl, hzs, hzr⟩ := elem_facts hn hz
  subst his
  have hnews : news = [] := List.length_eq_zero_iff.1 (by rw [hy.len]; simp)
  subst hnews
  refine VOk.same hI ?_ hx
  have hc := hy.count w
  have hcells := hy.cells
  simp only [List.length_nil] at hc hcells
  rcases hk with ⟨e', hk⟩ | hk <;> cases base <;> simp [Builtin.append_, run_underlying hu, run_underlying hk, sizeOf, typeInfo, hi, hc, hcells, hlc, storeCells]
theorem append_ok (hI : Inv C ρ s w) {t tx d0 e : TypeId} {n : Nat} {z : List V} (hu : C.P.underlying t = some (.slice e)) (hn : szOf C.P e = some n) (hz : zeroCells C.P e = some z) (hk : (∃ e', C.P.underlying tx = some (.slice e')) ∨ C.P.underlying tx = some .string)
    {x y : V} {cx cy : Value} (hx : VR ρ x cx) (hy : VR ρ y cy) (h : append s n e x (elems s.heap y) = some (v, s')) : VOk C ρ s w v s' (Builtin.append_ #[t, tx] d0 #[cx, cy]) := by
  have hn0 := (szOf_spec hn).2.1
  unfold append at h
  split at h
  · cases h
  · rename_i hys
    obtain ⟨vs, hh⟩ := elems_spec hI hy hys (sz := n) rfl
    cases x <;> simp only at h <;> try (cases h; done)
    · cases h
      cases hx with
      | nils => exact append_none hI hu hn hz hk (Nat.le_refl _) .nils hh
    · cases h
      cases hx with
      | row a b c d e f => exact append_none hI hu hn hz hk c (.row a b c d e f) hh
    · cases h
      cases hx with
      | dsl a b c d e f g => exact append_none hI hu hn hz hk b (.dsl a b c d e f g) hh
  · rename_i ys hne hys
    split at h
    · rename_i hall
      obtain ⟨vs, hh⟩ := elems_spec hI hy hys hall
      have hyl : 0 < ys.length := by
        cases ys with
        | nil => exact absurd rfl hne
        | cons a l => simp
      cases x <;> try (cases h; done)
      · cases hx with
        | nils =>
          refine append_new (es := []) (olds := []) hI hu hn hz hk ⟨by simp, by simp [Builtin.firstCells], by simp [Builtin.firstCells], fun w' => by simp [Builtin.lenOf], by simp, by simp⟩ hh rfl (by omega) ?_
          simpa using h
      · rename_i b sz' off len clip
        simp only at h
        split at h
        · rename_i hsz
          rw [Nat.beq_eq] at hsz
          subst hsz
          split at h
          · rename_i fs szb ty' hb
            split at h
            · rename_i hty
              rw [Nat.beq_eq] at hty
              subst hty
              split at h
              · rename_i es hw
                have hes : elems s.heap (.row b n off len clip) = some es := by simp only [elems, hb]; exact hw
                obtain ⟨hea, hel⟩ := elems_all_row hI hx hes
                cases clip with
                | true =>
                  simp only at h
                  obtain ⟨olds, hol⟩ := elems_spec hI hx hes hea
                  cases hx with
                  | row a b c d e f => exact append_new hI hu hn hz hk hol hh hel (by have := f rfl; omega) h
                | false =>
                  simp only at h
                  exact append_row hI hu hn hz hk hx hb hw hh (by intro e; rw [e] at hyl; simp at hyl) h
              · cases h
            · cases h
          · cases h
        · cases h
      · rename_i es clip
        cases clip with
        | false => simp only at h; cases h
        | true =>
          simp only at h
          split at h
          · rename_i hea
            obtain ⟨olds, hol⟩ := elems_spec (sz := n) hI hx (ys := es.map V.cells) (by simp [elems]) (by simpa using hea)
            cases hx with
            | dsl a b c d e f g => exact append_new hI hu hn hz hk hol hh (by simpa using a) (by have := c rfl; omega) h
          · cases h
    · cases h
theorem appendZ_ok (hI : Inv C ρ s w) {t tx d0 e : TypeId} {kx : IntKind} {n : Nat} {z : List V} (hu : C.P.underlying t = some (.slice e)) (hn : szOf C.P e = some n) (hz : zeroCells C.P e = some z) (hk : C.P.underlying tx = some (.int kx))
    {cx cy : Value} {y : V} (hx : VR ρ .nils cx) (hy : VR ρ y cy) {m : Nat} (hm : natOf y = some (m + 1)) (hmax : m + 1 ≤ 1000000) (h : grow s n e (rep (m + 1) z) = some (v, s')) : VOk C ρ s w v s' (Builtin.append_ #[t, tx] d0 #[cx, cy]) := by
  unfold grow at h
  split at h
  · obtain ⟨k, rfl⟩ := natOf_spec hy hm
    cases hx
    obtain ⟨i, cv, hi, his, hib, hzero, hcs, hn0, hzl, hzs, hzr⟩ := elem_facts hn hz
    subst his
    cases h
    have hfit : (m + 1) * i.bytes ≤ 1000000 * 4096 := Nat.mul_le_mul hmax hib
    have hrun := Lib.run_append_nil_zeros (P := C.P) w t tx d0 e i cv k kx hu hk hi hzero (m + 1) (by omega) hn0 (by omega) (by omega)
    have hNge : m + 1 ≤ grownCap w (m + 1) 0 e := grownCap_ge w _ _ _
    generalize grownCap w (m + 1) 0 e = N at hrun hNge
    have hID := ext_drew hI s.drawn (w.drawn + 1)
    obtain ⟨arr, harr⟩ : ∃ arr, arr = Builtin.zeroCells cv.cells (m + 1) ++ Builtin.zeroCells cv.cells (N - (m + 1)) := ⟨_, rfl⟩
    rw [← harr] at hrun
    have hsz : arr.size = N * i.size := by
      rw [harr, Array.size_append, size_zeroCells, size_zeroCells, hcs, ← Nat.add_mul]; congr 1; omega
    have hRR : RR ρ (List.replicate (m + 1) z) i.size arr := by
      have hz0 := zeros_rel (hzr ρ) (by rw [hzl, hcs]) hzl hzs (l := m + 1) (m := (m + 1) * i.size) (Nat.le_refl _)
      refine ⟨by rw [List.length_replicate, hsz]; exact Nat.mul_le_mul_right _ hNge, hz0.all, fun q x hq j y hj => ?_⟩
      obtain ⟨c, e1, e2⟩ := hz0.rel q x hq j y hj
      refine ⟨c, ?_, e2⟩
      have hlt := (Array.getElem?_eq_some_iff.1 e1).1
      have e3 : Builtin.zeroCells cv.cells (m + 1) = (Array.range ((m + 1) * i.size)).map (cv.cells[· % cv.cells.size]!) := by
        rw [← hcs]; rfl
      simp only
      rw [harr, Array.getElem?_append_left (by rw [e3]; exact hlt), e3]; exact e1
    obtain ⟨ρ', g1, g2⟩ := rows_new (C := C) (ρ := ρ) (s := s) (w := w.drew) hID.inv (es := List.replicate (m + 1) z) (sz := i.size) (N := N) (arr := arr) (ty := e) (fr := (0, 0)) hn0 (szOf_spec hn).1
      (by rw [List.length_replicate]; exact hNge) (by rw [hsz]; exact Nat.le_refl _) (fun k _ => .inl (Nat.zero_le _)) hRR (len := m + 1) (cap := N) (clip := false) hNge (Nat.le_refl _) (fun h => by cases h)
    rw [rep_eq]
    refine ⟨_, ρ', _, hrun, ?_, hID.trans g2⟩
    rw [List.length_replicate]; exact g1
  · cases h
end
end Go.Eng
end
section
namespace Go.Eng
section
variable {C : Ctx} {ρ : Rho} {s s' : St} {w : World} {v : V}
theorem eqK_iff {a b : IntKind} : eqK a b = true ↔ a = b := by simp [eqK]
theorem bits_nat (k : IntKind) (x : Int) : (BitVec.ofInt k.bits x).toNat = (x % 2 ^ k.bits).toNat := by
  simp [BitVec.toNat_ofInt]
theorem intBits_ok {op : BinOp} {k : IntKind} {x y : Int} {r : V} (h : intBits op k x y = some r) (w : World) : ∃ n, r = .int k n ∧ (Op.intBits op k x y).run C.P w = .ok (.int k n) w := by
  unfold intBits at h
  cases op <;> simp only at h <;> first
    | (cases h; done)
    | (cases h
       refine ⟨_, rfl, ?_⟩
       simp [Op.intBits, BitVec.toNat_and, BitVec.toNat_or, BitVec.toNat_xor, BitVec.toNat_not]
       done)
theorem bytesLt_eq : ∀ (a b : List UInt8), bytesLt (a.map UInt8.toNat) (b.map UInt8.toNat) = Op.bytesLess a b
  | _, [] => by simp [bytesLt, Op.bytesLess]
  | [], _ :: _ => by simp [bytesLt, Op.bytesLess]
  | a :: x, b :: y => by
    simp only [List.map_cons, bytesLt, Op.bytesLess, bytesLt_eq x y]
    congr 1
    · rw [Bool.eq_iff_iff, Nat.blt_eq, decide_eq_true_iff]; exact Iff.rfl
    · congr 1
      rw [Bool.eq_iff_iff, Nat.beq_eq, beq_iff_eq]; exact UInt8.toNat_inj
theorem bytesEq_eq (a b : List UInt8) : bytesEq (a.map UInt8.toNat) (b.map UInt8.toNat) = (a == b) := by
  rw [Bool.eq_iff_iff, bytesEq_iff, beq_iff_eq]
  constructor
  · intro h
    exact List.map_inj_right (fun x y => UInt8.toNat_inj.1) |>.1 h
  · intro h; rw [h]
theorem bin_int {op : BinOp} {t : TypeId} {k k' : IntKind} {a b : Int} {r : V} (h : bin op (.int k a) (.int k' b) = some r) (w : World) : ∃ cr, (binOp op t (.int k a) (.int k' b)).run C.P w = .ok cr w ∧ VR ρ r cr := by
  by_cases hk : k = k'
  · subst hk
    have hkk : eqK k k = true := eqK_iff.2 rfl
    cases op <;> simp only [bin, hkk, if_true] at h
    case shl =>
      split at h
      · cases h
      · rename_i hb; cases h; refine ⟨_, ?_, .int _ _⟩; simp [binOp, Op.shift, hb]
    case shr =>
      split at h
      · cases h
      · rename_i hb; cases h; refine ⟨_, ?_, .int _ _⟩; simp [binOp, Op.shift, hb]
    case quo =>
      split at h
      · cases h
      · rename_i hb; cases h; refine ⟨_, ?_, .int _ _⟩; simp [binOp, Op.intDiv, hb]
    case rem =>
      split at h
      · cases h
      · rename_i hb; cases h; refine ⟨_, ?_, .int _ _⟩; simp [binOp, Op.intDiv, hb]
    case and | or | xor | andNot =>
      obtain ⟨n, rfl, hn⟩ := intBits_ok (C := C) h w
      exact ⟨_, by simp [binOp, hn], .int _ _⟩
    all_goals (cases h; first
      | (refine ⟨_, ?_, .int _ _⟩; simp [binOp, Op.intArith]; done)
      | (refine ⟨_, ?_, .bool _⟩; simp [binOp, Op.intCmp]; done)
      | (refine ⟨_, ?_, .bool _⟩; simp [binOp, Op.intCmp, bne]; rw [Bool.eq_iff_iff]; simp; done))
  · have hkk : eqK k k' = false := by rw [Bool.eq_false_iff]; exact fun e => hk (eqK_iff.1 e)
    cases op <;> simp only [bin, hkk] at h <;> try (cases h; done)
    · split at h
      · cases h
      · rename_i hb; cases h; refine ⟨_, ?_, .int _ _⟩; simp [binOp, Op.shift, hb]
    · split at h
      · cases h
      · rename_i hb; cases h; refine ⟨_, ?_, .int _ _⟩; simp [binOp, Op.shift, hb]
theorem str_rel {l : List Nat} {b : ByteArray} (h : VR ρ (.str l) (.string b)) : l = b.data.toList.map UInt8.toNat := by cases h with | str e => exact e.symm
theorem bin_str {op : BinOp} {t : TypeId} {a b : ByteArray} {r : V} (h : bin op (.str (a.data.toList.map UInt8.toNat)) (.str (b.data.toList.map UInt8.toNat)) = some r) (w : World) : ∃ cr, (binOp op t (.string a) (.string b)).run C.P w = .ok cr w ∧ VR ρ r cr := by
  cases op <;> simp only [bin] at h
  case add =>
    split at h
    · rename_i hb
      rw [Nat.ble_eq, List.length_map, List.length_map] at hb
      cases h
      refine ⟨.string (a ++ b), ?_, .str (by simp)⟩
      have h1 : (((a.size + b.size : Nat)) : Int) ≤ IntKind.i64.max := by
        have : IntKind.i64.max = 9223372036854775807 := rfl
        have ha : a.data.toList.length = a.size := rfl
        have hb' : b.data.toList.length = b.size := rfl
        omega
      simp only [binOp, Op.stringOp]
      rw [if_neg (by omega)]; rfl
    · cases h
  all_goals first
    | (cases h; done)
    | (cases h; refine ⟨_, ?_, .bool _⟩; simp [binOp, Op.stringOp, ByteArray.toList_eq, bytesLt_eq, bytesEq_eq]; done)
    | (cases h; refine ⟨_, ?_, .bool _⟩; simp [binOp, Op.stringOp, ByteArray.toList_eq, bytesLt_eq, bytesEq_eq]; rw [Bool.eq_iff_iff]; simp [beq_iff_eq, Array.ext'_iff]; done)
theorem guard_int (op : BinOp) (t : TypeId) (x y : Operand) (k k' : IntKind) (a b : Int) (w : World) : (eqGuard op t x y (.int k a) (.int k' b)).run C.P w = .ok () w := by cases op <;> rfl
theorem guard_str (op : BinOp) (t : TypeId) (x y : Operand) (a b : ByteArray) (w : World) : (eqGuard op t x y (.string a) (.string b)).run C.P w = .ok () w := by cases op <;> rfl
theorem bin_ok (hI : Inv C ρ s w) {op : BinOp} {t : TypeId} {ox oy : Operand} {x y : V} {cx cy : Value} (hx : VR ρ x cx) (hy : VR ρ y cy) (h : bin op x y = some v) : VOk C ρ s w v s (do eqGuard op t ox oy cx cy; binOp op t cx cy) := by
  have key : ∃ cr, (binOp op t cx cy).run C.P w = .ok cr w ∧ VR ρ v cr := by
    cases x <;> cases y <;> first
      | (simp [bin] at h; done)
      | skip
    · cases hx; cases hy; exact bin_int h w
    · cases hx with
      | str e => cases hy with
        | str e' => subst e; subst e'; exact bin_str h w
  obtain ⟨cr, e1, e2⟩ := key
  refine VOk.same hI ?_ e2
  have hg : (eqGuard op t ox oy cx cy).run C.P w = .ok () w := by
    cases x <;> cases y <;> first
      | (simp [bin] at h; done)
      | (cases hx; cases hy; exact guard_int ..)
      | (cases hx; cases hy; exact guard_str ..)
  rw [Sem.run_bind, hg, Result.andThen_ok, e1]
theorem un_ok (hI : Inv C ρ s w) {op : UnOp} {x : V} {cx : Value} (hx : VR ρ x cx) (h : un op x = some v) : VOk C ρ s w v s (Op.unary op cx) := by
  cases x <;> first
    | (simp [un] at h; done)
    | skip
  · cases hx
    cases op <;> simp only [un] at h <;> first
      | (cases h; done)
      | (cases h; exact VOk.same hI (by simp [Op.unary]) (.bool _))
  · cases hx
    cases op <;> simp only [un] at h <;> first
      | (cases h; done)
      | skip
    · cases h
      exact VOk.same hI (by simp [Op.unary, Op.intArith]) (.int _ _)
    · obtain ⟨n, rfl, hn⟩ := intBits_ok (C := C) h w
      exact VOk.same hI (by simp [Op.unary, hn]) (.int _ _)
end
end Go.Eng
end
section
namespace Go.Eng
section
variable {C : Ctx} {ρ : Rho} {s s' : St} {w : World} {v : V}
theorem under0_spec {ts : Array TypeId} {d : TypeDesc} (h : under0 C.P ts = some d) : ∃ t, ts[0]? = some t ∧ C.P.underlying t = some d := by
  unfold under0 at h
  split at h
  · exact ⟨_, by assumption, h⟩
  · cases h
theorem append_types {ts : Array TypeId} {t tx d0 : TypeId} {args : Array Value} (h0 : ts[0]? = some t) (h1 : ts[1]? = some tx) : Builtin.append_ ts d0 args = Builtin.append_ #[t, tx] d0 args := by
  simp [Builtin.append_, h0, h1]
theorem lenS_ok (hI : Inv C ρ s w) {ts : Array TypeId} {d0 : TypeId} (hd : under0 C.P ts = some .string) {l : List Nat} {cx : Value} (hx : VR ρ (.str l) cx) : VOk C ρ s w (.int .i64 l.length) s (Builtin.len_ ts d0 #[cx]) := by
  obtain ⟨t, h0, hu⟩ := under0_spec hd
  cases hx with
  | str e =>
    rename_i bs
    subst e
    exact VOk.same hI (cv := .int .i64 bs.size) (by simp [Builtin.len_, h0, run_underlying hu, goInt]) (by rw [List.length_map]; exact .int _ _)
theorem lenL_ok (hI : Inv C ρ s w) {ts : Array TypeId} {d0 e : TypeId} (hd : under0 C.P ts = some (.slice e)) {x : V} {cx : Value} (hx : VR ρ x cx) (h : lenL x = some v) : VOk C ρ s w v s (Builtin.len_ ts d0 #[cx]) := by
  obtain ⟨t, h0, hu⟩ := under0_spec hd
  have key : ∀ (b : Option Addr) (n c : Nat), (Builtin.len_ ts d0 #[.slice b n c]).run C.P w = .ok (.int .i64 n) w := by
    intro b n c; simp [Builtin.len_, h0, run_underlying hu, goInt]
  cases x <;> simp only [lenL] at h <;> try (cases h; done)
  all_goals cases h
  · cases hx; exact VOk.same hI (key ..) (.int _ _)
  · cases hx; exact VOk.same hI (key ..) (.int _ _)
  · cases hx with
    | dsl h1 => rw [h1]; exact VOk.same hI (key ..) (.int _ _)
theorem run_getObj_at {P : Program} {w : World} {r : Nat} {o : Obj} (h : w.heap[r]? = some o) (hk : ∀ c e f, o ≠ .cells c e f) : (getObj r).run P w = .ok o w := by
  cases o <;> first
    | exact absurd rfl (hk _ _ _)
    | simp [getObj, Sem.run, h]
theorem run_setObj_at' {P : Program} {w : World} {r : Nat} {o : Obj} (o' : Obj) (h : w.heap[r]? = some o) (hk : ∀ c e f, o ≠ .cells c e f) : (setObj r o').run P w = .ok () { w with heap := w.heap.setIfInBounds r o' } := by
  cases o <;> first
    | exact absurd rfl (hk _ _ _)
    | simp [setObj, Sem.run, h]
theorem lenM_ok (hI : Inv C ρ s w) {ts : Array TypeId} {d0 k e : TypeId} (hd : under0 C.P ts = some (.map k e)) {x : V} {cx : Value} (hx : VR ρ x cx) (h : lenM s.heap x = some v) : VOk C ρ s w v s (Builtin.len_ ts d0 #[cx]) := by
  obtain ⟨t, h0, hu⟩ := under0_spec hd
  cases x <;> simp only [lenM] at h <;> try (cases h; done)
  · cases h; cases hx; exact VOk.same hI (by simp [Builtin.len_, h0, run_underlying hu, goInt]) (.int _ _)
  · split at h
    · rename_i es clock hb
      cases h
      cases hx with
      | map hl =>
        obtain ⟨en, h1, h2, h3⟩ := hI.obj _ _ _ hb hl
        rw [← h2]
        exact VOk.same hI (by simp [Builtin.len_, h0, run_underlying hu, goInt, run_getObj_at h1 (fun _ _ _ e => by cases e)]) (.int _ _)
    · cases h
theorem cap_ok (hI : Inv C ρ s w) {ts : Array TypeId} {d0 e : TypeId} (hd : under0 C.P ts = some (.slice e)) {x : V}
    (h : (match x with
      | .nils => some (V.int .i64 0, s)
      | .row _ _ _ n true => some (.int .i64 n, s)
      | _ => none) = some (v, s')) {cx : Value} (hx : VR ρ x cx) : VOk C ρ s w v s' (Builtin.cap_ ts d0 #[cx]) := by
  obtain ⟨t, h0, hu⟩ := under0_spec hd
  have key : ∀ (b : Option Addr) (n c : Nat), (Builtin.cap_ ts d0 #[.slice b n c]).run C.P w = .ok (.int .i64 c) w := by
    intro b n c; simp [Builtin.cap_, h0, run_underlying hu, goInt]
  cases x <;> try (cases h; done)
  · cases h; cases hx; exact VOk.same hI (key ..) (.int _ _)
  · rename_i clip
    cases clip with
    | false => cases h
    | true =>
      cases h
      cases hx with
      | row a b c d e f => have := f rfl; subst this; exact VOk.same hI (key ..) (.int _ _)
theorem min2_ok (hI : Inv C ρ s w) {ts : Array TypeId} {d0 : TypeId} {k k' : IntKind} {a b : Int} {cx cy : Value} (hx : VR ρ (.int k a) cx) (hy : VR ρ (.int k' b) cy) :
    VOk C ρ s w (.int k (if b < a then b else a)) s (Builtin.min_ ts d0 #[cx, cy]) := by
  cases hx; cases hy
  exact VOk.same hI (by simp [Builtin.min_, Builtin.min2]) (.int _ _)
theorem max2_ok (hI : Inv C ρ s w) {ts : Array TypeId} {d0 : TypeId} {k k' : IntKind} {a b : Int} {cx cy : Value} (hx : VR ρ (.int k a) cx) (hy : VR ρ (.int k' b) cy) :
    VOk C ρ s w (.int k (if a < b then b else a)) s (Builtin.max_ ts d0 #[cx, cy]) := by
  cases hx; cases hy
  exact VOk.same hI (by simp [Builtin.max_, Builtin.max2]) (.int _ _)
theorem extract_ok (hI : Inv C ρ s w) {vs : List V} {cx : Value} {i : Nat} (hx : VR ρ (.tup vs) cx) (h : nth i vs = some v) : VOk C ρ s w v s (Instr.extract cx i) := by
  rw [nth_eq] at h
  cases hx with
  | tup e hr =>
    rename_i arr
    have hlt : i < arr.size := by rw [← e]; exact (List.getElem?_eq_some_iff.1 h).1
    exact VOk.same hI (cv := arr[i]) (by simp [Instr.extract, hlt]) (hr i v arr[i] h (by simp [hlt]))
theorem mkIface_ok (hI : Inv C ρ s w) {t : TypeId} {d : TypeDesc} (hu : C.P.underlying t = some d) (hd : ∀ ms, d ≠ .interface ms) {x : V} {cx : Value} (hx : VR ρ x cx) : VOk C ρ s w (.iface t x) s (Instr.makeInterface t cx) := by
  refine VOk.same hI (cv := .iface t cx) ?_ (.iface hx)
  unfold Instr.makeInterface
  rw [Sem.run_bind, run_underlying hu, Result.andThen_ok]
  cases d <;> first
    | rfl
    | exact absurd rfl (hd _)
theorem mkFunc_ok (hI : Inv C ρ s w) {fn : Fn} (hy : isYield fn = false) {a b : List V} {ca cb : Array Value} (ha : a.length = ca.size) (hb : b.length = cb.size) (ra : ∀ (i : Nat) v cv, a[i]? = some v → ca[i]? = some cv → VR ρ v cv) (rb : ∀ (i : Nat) v cv, b[i]? = some v → cb[i]? = some cv → VR ρ v cv) :
    VOk C ρ s w (.clo fn a b) s (Instr.makeFunc fn ca cb) := VOk.same hI (cv := .func fn ca cb) rfl (.clo hy ha hb ra rb)
theorem mkMap_ok (hI : Inv C ρ s w) {t k e : TypeId} (hu : C.P.underlying t = some (.map k e)) (r : Option Value) (hr : r = none ∨ ∃ k n, r = some (.int k n)) : VOk C ρ s w (.map s.next) (new s (.map [] 0)).2 (Instr.makeMap t r) := by
  have hext := ext_new hI (.map #[] 0) (.map [] 0) 1 0 0 ⟨#[], heap_alloc_new w _, rfl, fun i k v n h => by simp at h⟩
  refine ⟨.map (some w.heap.size), _, _, ?_, .map (Rho.add_same ρ s.next ⟨w.heap.size, 0, 1, 0⟩), hext⟩
  rcases hr with rfl | ⟨k, n, rfl⟩
  · simp [Instr.makeMap]
  · simp [Instr.makeMap, run_underlying hu, asInt, asIntOf]
theorem conv_int_ok (hI : Inv C ρ s w) {src dst : TypeId} {a k : IntKind} (hs : C.P.underlying src = some (.int a)) (hd : C.P.underlying dst = some (.int k)) {k' : IntKind} {n : Int} {cx : Value} (hx : VR ρ (.int k' n) cx) :
    VOk C ρ s w (.int k (k.wrap n)) s (convert src dst cx) := by
  cases hx
  exact VOk.same hI (by simp [convert, run_underlying hs, run_underlying hd, Conv.intToInt]) (.int _ _)
theorem conv_str_ok (hI : Inv C ρ s w) {src dst : TypeId} (hs : C.P.underlying src = some .string) (hd : C.P.underlying dst = some .string) {l : List Nat} {cx : Value} (hx : VR ρ (.str l) cx) :
    VOk C ρ s w (.str l) s (convert src dst cx) := by
  cases hx with
  | str e => exact VOk.same hI (by simp [convert, run_underlying hs, run_underlying hd]) (.str e)
theorem valid_nat (n : Nat) : valid n = Utf8.valid (n : Int) := by
  rw [Bool.eq_iff_iff]
  simp only [valid, Utf8.valid, Bool.or_eq_true, Bool.and_eq_true, Nat.blt_eq, Nat.ble_eq, decide_eq_true_eq]
  omega
theorem encode_eq (r : Int) : (Utf8.encode r).data.toList.map UInt8.toNat = encode r := by
  have hc : (if 0 ≤ r ∧ valid r.toNat = true then r.toNat else 0xFFFD) = (if Utf8.valid r = true then r.toNat else Utf8.runeError) := by
    by_cases h : 0 ≤ r
    · have e : (r.toNat : Int) = r := Int.toNat_of_nonneg h
      rw [valid_nat, e]
      by_cases hv : Utf8.valid r = true
      · rw [if_pos ⟨h, hv⟩, if_pos hv]
      · rw [if_neg (fun x => hv x.2), if_neg hv]; rfl
    · rw [if_neg (fun x => h x.1), if_neg]; · rfl
      intro hv
      simp only [Utf8.valid, Bool.or_eq_true, Bool.and_eq_true, decide_eq_true_eq] at hv
      omega
  have hmax : (if Utf8.valid r = true then r.toNat else Utf8.runeError) ≤ 0x10FFFF := by
    split
    · rename_i hv
      simp only [Utf8.valid, Bool.or_eq_true, Bool.and_eq_true, decide_eq_true_eq] at hv
      omega
    · decide
  unfold encode Utf8.encode
  simp only [hc]
  generalize (if Utf8.valid r = true then r.toNat else Utf8.runeError) = c at hmax
  have b8 : ∀ n, n < 256 → (UInt8.ofNat n).toNat = n := fun n hn => by simp; omega
  by_cases h1 : c < 0x80
  · have : Nat.blt c 0x80 = true := by rw [Nat.blt_eq]; exact h1
    rw [if_pos h1, if_pos this]; simp only [List.map_cons, List.map_nil]; rw [b8 _ (by omega)]
  · have g1 : ¬ Nat.blt c 0x80 = true := by rw [Nat.blt_eq]; exact h1
    rw [if_neg h1, if_neg g1]
    by_cases h2 : c < 0x800
    · have : Nat.blt c 0x800 = true := by rw [Nat.blt_eq]; exact h2
      rw [if_pos h2, if_pos this]; simp only [List.map_cons, List.map_nil]; rw [b8 _ (by omega), b8 _ (by omega)]
    · have g2 : ¬ Nat.blt c 0x800 = true := by rw [Nat.blt_eq]; exact h2
      rw [if_neg h2, if_neg g2]
      by_cases h3 : c < 0x10000
      · have : Nat.blt c 0x10000 = true := by rw [Nat.blt_eq]; exact h3
        rw [if_pos h3, if_pos this]; simp only [List.map_cons, List.map_nil]; rw [b8 _ (by omega), b8 _ (by omega), b8 _ (by omega)]
      · have g3 : ¬ Nat.blt c 0x10000 = true := by rw [Nat.blt_eq]; exact h3
        rw [if_neg h3, if_neg g3]; simp only [List.map_cons, List.map_nil]; rw [b8 _ (by omega), b8 _ (by omega), b8 _ (by omega), b8 _ (by omega)]
theorem conv_rune_ok (hI : Inv C ρ s w) {src dst : TypeId} {a : IntKind} (hs : C.P.underlying src = some (.int a)) (hd : C.P.underlying dst = some .string) {k' : IntKind} {n : Int} {cx : Value} (hx : VR ρ (.int k' n) cx) :
    VOk C ρ s w (.str (encode n)) s (convert src dst cx) := by
  cases hx
  exact VOk.same hI (by simp [convert, run_underlying hs, run_underlying hd, Conv.intToString]) (.str (encode_eq n))
end
end Go.Eng
end
section
namespace Go.Eng
section
variable {C : Ctx} {ρ : Rho} {s s' : St} {w : World} {v : V}
theorem conv_bytes_ok (hI : Inv C ρ s w) {src dst e : TypeId} (hs : C.P.underlying src = some .string) (hd : C.P.underlying dst = some (.slice e)) (he : C.P.underlying e = some (.int .u8)) (hn : szOf C.P e = some 1) {l : List Nat} {cx : Value} (hx : VR ρ (.str l) cx) :
    VOk C ρ s w (.row s.next 1 0 l.length false) (new s (.row (l.map fun c => [V.int .u8 (Int.ofNat c)]) 1 e)).2 (convert src dst cx) := by
  cases hx with
  | str e' =>
    rename_i bs
    have hrun := run_bytes_of_string (P := C.P) w src dst e bs hs hd he
    have hge : bs.size ≤ grownCap w bs.size 0 e := grownCap_ge w _ _ _
    generalize grownCap w bs.size 0 e = N at hrun hge
    have hlen : l.length = bs.size := by rw [← e']; simp
    have hsize : (bytesRow bs N).size = N := by simp [bytesRow]; omega
    have hID := ext_drew hI s.drawn (w.drawn + 1)
    obtain ⟨ρ', g1, g2⟩ := rows_new (C := C) (ρ := ρ) (s := s) (w := w.drew) hID.inv (es := l.map fun c => [V.int .u8 (Int.ofNat c)]) (sz := 1) (N := N) (arr := bytesRow bs N) (ty := e) (fr := ((bytesRow bs N).size, (bytesRow bs N).size + 1)) (by omega) (szOf_spec hn).1
      (by rw [List.length_map, hlen]; exact hge) (by rw [hsize]; omega) (fun k hk => .inr (by rcases hk with h | h; exact h; exact absurd rfl h))
      ⟨by rw [List.length_map, hlen, hsize]; omega, fun x hx => by
        obtain ⟨c, _, rfl⟩ := List.mem_map.1 hx
        exact ⟨rfl, rfl⟩, fun i x hx j y hj => by
        rw [List.getElem?_map, Option.map_eq_some_iff] at hx
        obtain ⟨c, hc, rfl⟩ := hx
        cases j with
        | zero =>
          simp at hj; subst hj
          rw [← e', List.getElem?_map, Option.map_eq_some_iff] at hc
          obtain ⟨b, hb, rfl⟩ := hc
          have hlt : i < bs.data.size := by have := (List.getElem?_eq_some_iff.1 hb).1; simpa using this
          have hb' : bs.data[i] = b := by rw [Array.getElem?_toList, Array.getElem?_eq_getElem hlt] at hb; exact Option.some.inj hb
          refine ⟨.int .u8 b.toNat, ?_, .int _ _⟩
          simp only [Nat.mul_one, Nat.add_zero]
          rw [bytesRow_at bs N i hlt, hb']
        | succ j => simp at hj⟩
      (len := bs.size) (cap := N) (clip := false) hge (Nat.le_refl _) (fun h => by cases h)
    refine ⟨_, ρ', _, hrun, ?_, hID.trans g2⟩
    rw [hlen]; exact g1
theorem row_place {b : Nm} {l : Loc} {es : List (List V)} {sz : Nat} {ty : TypeId} (hI : Inv C ρ s w) (hb : s.heap.get b = some (.row es sz ty)) (hl : ρ.blk b = some l) :
    ∃ arr fr, w.heap[l.c]? = some (.cells arr ty fr) ∧ l.sz = sz ∧ 0 < sz ∧ C.P.cellsOf ty = sz ∧ sz ∣ l.base ∧ es.length ≤ l.N ∧ l.base + l.N * sz ≤ arr.size := by
  obtain ⟨h1, h2, h3, h4, arr, fr, h5, h6, _⟩ := hI.obj _ _ _ hb hl
  exact ⟨arr, fr, h5, h1.symm, h2.1, h2.2.1, h2.2.2, h3, h6⟩
theorem place_lt {b sz N i size : Nat} (h : b + N * sz ≤ size) (hi : i < N) (hs : 0 < sz) : b + i * sz < size := by
  have : (i + 1) * sz ≤ N * sz := Nat.mul_le_mul_right _ hi
  rw [Nat.add_mul] at this; omega
theorem shape_of_heap {w : World} {c : Nat} {arr : Array Value} {ty : TypeId} {fr : Nat × Nat} (h : w.heap[c]? = some (.cells arr ty fr)) : w.shape? c = some (ty, arr.size) := by simp [World.shape?, h]
theorem seenAt_cells {P : Program} {w : World} {a : Addr} {x : TypeId × Nat} (h : w.shape? a.block = some x) : (Conv.seenAt a).run P w = .ok a w := by
  simp [Conv.seenAt, viewAt, h]
theorem toUnsafe_nil (hI : Inv C ρ s w) {src dst e : TypeId} (hs : C.P.underlying src = some (.pointer e)) (hd : C.P.underlying dst = some .unsafePointer) {cx : Value} (hx : VR ρ .nilp cx) : VOk C ρ s w .nilp s (convert src dst cx) := by
  cases hx
  exact VOk.same hI (by simp [convert, run_underlying hs, run_underlying hd, Conv.unsafePointer]) .nilp
theorem toUnsafe_ok (hI : Inv C ρ s w) {src dst e : TypeId} {n : Nat} (hs : C.P.underlying src = some (.pointer e)) (hd : C.P.underlying dst = some .unsafePointer) (hn : szOf C.P e = some n) {b : Nm} {i : Nat} {es : List (List V)} {sz : Nat} {ty : TypeId} {cx : Value} (hx : VR ρ (.ptr b i 0) cx)
    (hb : s.heap.get b = some (.row es sz ty)) (hi : i < es.length) : VOk C ρ s w (.ptr b i 0) s (convert src dst cx) := by
  have hx' := hx
  cases hx with
  | ptr hl =>
    rename_i l
    obtain ⟨arr, fr, h1, h2, h3, h4, h5, h6, h7⟩ := row_place hI hb hl
    have hsh := shape_of_heap h1
    have hlt : l.base + i * l.sz < arr.size := by rw [h2]; exact place_lt h7 (by omega) h3
    obtain ⟨_, hn0, hsz⟩ := szOf_spec hn
    refine VOk.same hI ?_ hx'
    have hnot : ¬ (arr.size ≤ l.base + i * l.sz) := by omega
    simp [convert, run_underlying hs, run_underlying hd, Conv.unsafePointer, seenAt_cells (a := ⟨l.c, l.base + i * l.sz, none⟩) hsh, cellsIn, hsh, hsz, hnot]
    omega
theorem sameLayout_refl (P : Program) (t : TypeId) : sameLayout P P.depth t t = true := by
  have hd : P.depth = (2 * (P.types.size + Made.depth) + 1) + 1 := rfl
  rw [hd]; simp [sameLayout]
theorem liesAt_same {P : Program} {ty : TypeId} {count off n : Nat} (h0 : 0 < P.cellsOf ty) (hd : P.cellsOf ty ∣ off) (hn : off / P.cellsOf ty + n ≤ count) : liesAt P P.depth ty count off ty n = true := by
  have hdp : P.depth = (2 * (P.types.size + Made.depth) + 1) + 1 := rfl
  have hm : off % P.cellsOf ty = 0 := Nat.mod_eq_zero_of_dvd hd
  have hr := sameLayout_refl P ty
  rw [hdp] at hr ⊢
  simp only [liesAt, Bool.or_eq_true]
  left
  rw [hdp]
  simp [rowAt, Nat.ne_of_gt h0, hm, hn, hr]
theorem fromUnsafe_nil (hI : Inv C ρ s w) {src dst e : TypeId} (hs : C.P.underlying src = some .unsafePointer) (hd : C.P.underlying dst = some (.pointer e)) {cx : Value} (hx : VR ρ .nilp cx) : VOk C ρ s w .nilp s (convert src dst cx) := by
  cases hx
  exact VOk.same hI (by simp [convert, run_underlying hs, run_underlying hd, Conv.unsafePointer]) .nilp
theorem row_lies {b : Nm} {l : Loc} {es : List (List V)} {sz : Nat} {ty : TypeId} (hI : Inv C ρ s w) (hb : s.heap.get b = some (.row es sz ty)) (hl : ρ.blk b = some l) {i n : Nat} (hi : i + n ≤ es.length) :
    (variablesAt ⟨l.c, l.base + i * l.sz, none⟩ ty n).run C.P w = .ok true w := by
  obtain ⟨arr, fr, h1, h2, h3, h4, h5, h6, h7⟩ := row_place hI hb hl
  have hsh := shape_of_heap h1
  have hli : liesAt C.P C.P.depth ty (arr.size / C.P.cellsOf ty) (l.base + i * l.sz) ty n = true := by
    apply liesAt_same
    · rw [h4]; exact h3
    · rw [h4, h2]; exact Nat.dvd_add h5 (Nat.dvd_mul_left _ _)
    · rw [h4, h2]
      obtain ⟨q, hq⟩ := h5
      have e1 : (l.base + i * sz) / sz = q + i := by
        rw [hq, Nat.mul_comm i sz, ← Nat.mul_add, Nat.mul_div_cancel_left _ h3]
      rw [e1, Nat.le_div_iff_mul_le h3]
      have : (i + n) * sz ≤ l.N * sz := Nat.mul_le_mul_right _ (by omega)
      rw [Nat.add_mul] at this ⊢
      rw [Nat.add_mul, Nat.mul_comm q sz]
      omega
  simp [variablesAt, hsh, hli]
theorem fromUnsafe_ok (hI : Inv C ρ s w) {src dst e : TypeId} {n : Nat} (hs : C.P.underlying src = some .unsafePointer) (hd : C.P.underlying dst = some (.pointer e)) (hn : szOf C.P e = some n) {b : Nm} {i : Nat} {es : List (List V)} {sz : Nat} {cx : Value} (hx : VR ρ (.ptr b i 0) cx)
    (hb : s.heap.get b = some (.row es sz e)) (hi : i < es.length) : VOk C ρ s w (.ptr b i 0) s (convert src dst cx) := by
  have hx' := hx
  cases hx with
  | ptr hl =>
    rename_i l
    obtain ⟨arr, fr, h1, h2, h3, h4, h5, h6, h7⟩ := row_place hI hb hl
    have hsh := shape_of_heap h1
    obtain ⟨_, hn0, hsz⟩ := szOf_spec hn
    have hv := row_lies hI hb hl (i := i) (n := 1) (by omega)
    refine VOk.same hI ?_ hx'
    simp [convert, run_underlying hs, run_underlying hd, Conv.unsafePointer, seenAt_cells (a := ⟨l.c, l.base + i * l.sz, none⟩) hsh, hsz, hv]
theorem uData_ok (hI : Inv C ρ s w) {ts : Array TypeId} {d0 : TypeId} {b : Nm} {sz off n : Nat} {clip : Bool} {cx : Value} (hx : VR ρ (.row b sz off (n + 1) clip) cx) : VOk C ρ s w (.ptr b off 0) s (Builtin.unsafeSliceData_ ts d0 #[cx]) := by
  cases hx with
  | row hl hs h1 h2 h3 h4 =>
    have ha := h3 (by omega)
    subst ha
    refine VOk.same hI (Lib.run_unsafeSliceData_row w ts d0 _ _ _ (by omega)) ?_
    have := VR.ptr (ρ := ρ) (i := off) (j := 0) hl
    simpa using this
theorem freeze_upd (w : World) (a : Addr) (n : Nat) : Upd w (w.freeze a n) a.block := by
  unfold World.freeze
  split
  · exact Upd.refl w _
  · refine ⟨rfl, rfl, rfl, by simp, fun d hd => ?_⟩
    simp only [Array.getElem?_modify]
    rw [if_neg (fun e => hd e.symm)]
theorem bytesOf_spec : ∀ {es : List (List V)} {l : List Nat}, bytesOf es = some l → ∃ bl : List UInt8, l = bl.map UInt8.toNat ∧ es = bl.map fun b => [V.int .u8 (Int.ofNat b.toNat)]
  | [], l, h => by simp [bytesOf] at h; subst h; exact ⟨[], rfl, rfl⟩
  | e :: es, l, h => by
    unfold bytesOf at h
    split at h
    · split at h
      · split at h
        · rename_i m
          split at h
          · rename_i hlt
            split at h
            · rename_i l' hl'
              cases h
              obtain ⟨bl, rfl, rfl⟩ := bytesOf_spec hl'
              rw [Nat.blt_eq] at hlt
              have e8 : (UInt8.ofNat m).toNat = m := by simp; omega
              exact ⟨UInt8.ofNat m :: bl, by simp [e8], by simp [e8]⟩
            · cases h
          · cases h
        · cases h
      · cases h
    · cases h
theorem uStr_ok (hI : Inv C ρ s w) {ts : Array TypeId} {d0 e : TypeId} (hp : under0 C.P ts = some (.pointer e)) {b : Nm} {i n : Nat} {cx cn : Value} {x : V} (hx : VR ρ (.ptr b i 0) cx) (hxn : VR ρ x cn) (hn : natOf x = some (n + 1)) {fs es : List (List V)} {l : List Nat}
    (hb : s.heap.get b = some (.row fs 1 e)) (hmax : n ≤ 1000000000) (hw : window i (n + 1) fs = some es) (hl : bytesOf es = some l) :
    VOk C ρ s w (.str l) { s with heap := s.heap.set none b } (Builtin.unsafeString_ ts d0 #[cx, cn]) := by
  obtain ⟨k, rfl⟩ := natOf_spec hxn hn
  cases hx with
  | ptr hloc =>
    rename_i loc
    obtain ⟨h1, h2, h3, h4, arr, fr, h5, h6, h7, h8⟩ := hI.obj _ _ _ hb hloc
    have hwl := window_length hw
    obtain ⟨bl, rfl, rfl⟩ := bytesOf_spec hl
    have hbl : bl.length = n + 1 := by simpa using hwl
    obtain ⟨hwe, hwn⟩ := window_some hw
    have hfit : i + (n + 1) ≤ fs.length := by omega
    have hv := row_lies hI hb hloc hfit
    have hcell : ∀ (j : Nat) (y : UInt8), bl[j]? = some y → w.cell? ((⟨loc.c, loc.base + i * loc.sz, none⟩ : Addr).add j) = some (.int .u8 y.toNat) := by
      intro j y hy
      obtain ⟨g1, g2⟩ := window_get hw j [V.int .u8 (Int.ofNat y.toNat)] (by rw [List.getElem?_map, hy]; rfl)
      obtain ⟨cv, e1, e2⟩ := h8 (i + j) _ g1 0 (V.int .u8 (Int.ofNat y.toNat)) rfl
      cases e2
      rw [addr_add, cell_of_heap h5]
      rw [← h1]
      simp only [Nat.mul_one, Nat.add_zero] at e1 ⊢
      rw [Nat.add_assoc]; exact e1
    have hlb := Lib.run_loadBytes (P := C.P) w bl ⟨loc.c, loc.base + i * loc.sz, none⟩ .empty hcell
    obtain ⟨t, ht0, htu⟩ := under0_spec hp
    have hkill := ext_set (w' := w.freeze ⟨loc.c, loc.base + i * loc.sz, none⟩ (n + 1)) hI (b := b) (l := loc) (by rw [hb]; simp) hloc (freeze_upd w _ _) none (fun o' h => by cases h)
    refine ⟨.string ⟨bl.toArray⟩, ρ, _, ?_, .str (by simp), hkill⟩
    have hmax' : IntKind.i64.max = 9223372036854775807 := rfl
    have hneg : ¬ ((n : Int) + 1 < 0) := by omega
    have hbig : ¬ ((9223372036854775807 : Int) < (n : Int) + 1) := by omega
    have hz : ¬ ((n : Int) + 1 = 0) := by omega
    have hn1 : ((n : Int) + 1).toNat = n + 1 := by omega
    rw [hbl] at hlb
    have hdef : ∀ (a : Addr) (y : Value), Builtin.unsafeString_ ts d0 #[.pointer (some a), y] = (do
        let n ← asInt y
        let some pt := ts[0]? | stuck "unsafe.String: no argument types"
        if n < 0 then runtimePanic (.error "unsafe.String: len out of range")
        if n > IntKind.i64.max then unsupported (.unsafePointer "String: a length above the largest int")
        if n = 0 then pure (.string .empty)
        else if ← variablesAt a (← Go.elemOf pt) n.toNat then do
          let s ← loadBytes a .empty n.toNat
          freeze a n.toNat
          pure (.string s)
        else unsupported (.unsafePointer "String: not so many bytes at ptr")) := fun _ _ => rfl
    simp only [Nat.add_zero]
    rw [hdef]
    simp [ asInt, asIntOf, ht0, hmax', hneg, hbig, hz, hn1, Go.elemOf, run_underlying htu, hv, hlb]
end
end Go.Eng
end
section
namespace Go.Eng
section
variable {C : Ctx} {ρ : Rho} {s s' : St} {w : World} {v : V}
theorem nilCheck_ok {o : Oper} {x : Operand} {f : Operand → Value} (ho : o.op = .nilCheck x) (hI : Inv C ρ s w) {y : V}
    (h : (match y with
      | .ptr b i j => some (V.ptr b i j, s)
      | .rp cs j => some (.rp cs j, s)
      | .iface t v => some (.iface t v, s)
      | .clo (.func f) a b => some (.clo (.func f) a b, s)
      | _ => none) = some (v, s')) (hx : VR ρ y (f x)) : OpOk C ρ s w v s' ((execOp f o).run C.P w) := by
  obtain ⟨cv, hcv⟩ : ∃ cv, cv = f x := ⟨_, rfl⟩
  rw [← hcv] at hx
  have key : y = v ∧ s = s' := by
    cases y <;> first
      | (cases h; done)
      | (cases h; exact ⟨rfl, rfl⟩)
      | (rename_i fn a b; cases fn <;> first | (cases h; done) | (cases h; exact ⟨rfl, rfl⟩))
  obtain ⟨rfl, rfl⟩ := key
  refine ⟨cv, ρ, w, .inl ?_, hx, Ext.refl hI⟩
  simp only [execOp, ho, ← hcv]
  cases hx <;> first
    | (cases h; done)
    | rfl
    | (rename_i fn _ _ _ _ _ _ _ _ _; cases fn <;> first | (cases h; done) | rfl)
theorem equal_eq (t : TypeId) (x y : Value) : Op.equal t x y = Op.equalIn (9999 + 1) t x y := rfl
inductive NilOf (P : Program) (t : TypeId) : Nk → Value → Prop
  | ptr {e : TypeId} : P.underlying t = some (.pointer e) → NilOf P t .ptr (.pointer none)
  | slice {e : TypeId} : P.underlying t = some (.slice e) → NilOf P t .slice (.slice none 0 0)
  | map {k e : TypeId} : P.underlying t = some (.map k e) → NilOf P t .map (.map none)
  | func {a b : Array TypeId} {c : Bool} : P.underlying t = some (.func a b c) → NilOf P t .func .nilFunc
  | iface {ms : Array (String × TypeId)} : P.underlying t = some (.interface ms) → NilOf P t .iface .nilIface
theorem nilOp_spec {t : TypeId} {k : Nk} {y : Operand} (hy : nilOp y = some k) (hk : nilKind C.P t = some k) : ∃ nv, y = .const nv ∧ NilOf C.P t k nv := by
  unfold nilOp at hy
  split at hy
  · rename_i nv
    refine ⟨nv, rfl, ?_⟩
    unfold nilKind at hk
    split at hy <;> first
      | (cases hy; done)
      | skip
    all_goals
      cases hy
      split at hk <;> first
        | (cases hk; done)
        | (constructor; assumption)
        | (split at hk <;> first | (cases hk; done) | (constructor; assumption))
  · cases hy
theorem nil_eqIn (d : Nat) {t : TypeId} {k : Nk} {nv : Value} (hn : NilOf C.P t k nv) {z : V} {cz : Value} {b : Bool} (hb : nilV k z = some b) (hz : VR ρ z cz) : (Op.equalIn (d + 1) t cz nv).run C.P w = .ok b w ∧ (Op.equalIn (d + 1) t nv cz).run C.P w = .ok b w := by
  cases hn <;> rename_i hu <;> cases z <;> simp only [nilV] at hb <;> first
    | (cases hb; done)
    | (cases hb; cases hz <;> (constructor <;> (unfold Op.equalIn; rw [Sem.run_bind, run_underlying hu]; rfl)))
theorem run_eql {op : BinOp} (hop : op = .eql ∨ op = .neq) {t : TypeId} {x y : Value} {b : Bool} (hs : ∀ (op : BinOp), (op = .eql → binOp op t x y = do pure (.bool (← Op.equal t x y))) ∧ (op = .neq → binOp op t x y = do pure (.bool (!(← Op.equal t x y))))) (h : (Op.equal t x y).run C.P w = .ok b w) :
    (binOp op t x y).run C.P w = .ok (.bool (xor (decide (op = .neq)) b)) w := by
  rcases hop with rfl | rfl
  · rw [(hs _).1 rfl]; simp [h]
  · rw [(hs _).2 rfl]; simp [h]
theorem nil_scalar {t : TypeId} {k : Nk} {nv : Value} (hn : NilOf C.P t k nv) {z : V} {cz : Value} {b : Bool} (hb : nilV k z = some b) (hz : VR ρ z cz) (op : BinOp) (hop : op = .eql ∨ op = .neq) :
    (binOp op t cz nv).run C.P w = .ok (.bool (xor (decide (op = .neq)) b)) w ∧ (binOp op t nv cz).run C.P w = .ok (.bool (xor (decide (op = .neq)) b)) w := by
  obtain ⟨h1, h2⟩ := nil_eqIn (w := w) 9999 hn hb hz
  constructor
  · refine run_eql hop (fun op => ⟨?_, ?_⟩) h1 <;> rintro rfl <;> cases hn <;> cases z <;> simp only [nilV] at hb <;> first
      | (cases hb; done)
      | (cases hz <;> rfl)
  · refine run_eql hop (fun op => ⟨?_, ?_⟩) h2 <;> rintro rfl <;> cases hn <;> cases z <;> simp only [nilV] at hb <;> first
      | (cases hb; done)
      | (cases hz <;> rfl)
theorem nil_guard {t : TypeId} {k : Nk} {nv : Value} (hn : NilOf C.P t k nv) {z : V} {cz : Value} {b : Bool} (hb : nilV k z = some b) (hz : VR ρ z cz) (op : BinOp) (hop : op = .eql ∨ op = .neq) (x y : Operand) (hc : (∃ v, x = .const v) ∨ ∃ v, y = .const v) :
    (eqGuard op t x y cz nv).run C.P w = .ok () w ∧ (eqGuard op t x y nv cz).run C.P w = .ok () w := by
  rcases hop with rfl | rfl <;> cases hn <;> cases z <;> simp only [nilV] at hb <;> first
    | (cases hb; done)
    | (cases hz <;> first
        | exact ⟨rfl, rfl⟩
        | (rcases hc with ⟨u, rfl⟩ | ⟨u, rfl⟩
           · exact ⟨rfl, rfl⟩
           · cases x <;> exact ⟨rfl, rfl⟩))
theorem isNil_ok (hI : Inv C ρ s w) {t : TypeId} {k : Nk} {op : BinOp} (hop : op = .eql ∨ op = .neq) {x y : Operand} {a : Act} {z : V} {b : Bool} (hb : nilV k z = some b) (hk : nilKind C.P t = some k)
    (h : (nilOp y = some k ∧ VR ρ z (a.eval x)) ∨ (nilOp x = some k ∧ VR ρ z (a.eval y))) : VOk C ρ s w (.bool (xor (decide (op = .neq)) b)) s (do eqGuard op t x y (a.eval x) (a.eval y); binOp op t (a.eval x) (a.eval y)) := by
  rcases h with ⟨hy, hz⟩ | ⟨hx, hz⟩
  · obtain ⟨nv, rfl, hn⟩ := nilOp_spec hy hk
    refine VOk.same hI ?_ (.bool _)
    show (do eqGuard op t x (.const nv) (a.eval x) nv; binOp op t (a.eval x) nv : Sem Value).run C.P w = _
    rw [Sem.run_bind, (nil_guard hn hb hz op hop x (.const nv) (.inr ⟨_, rfl⟩)).1, Result.andThen_ok]
    exact (nil_scalar hn hb hz op hop).1
  · obtain ⟨nv, rfl, hn⟩ := nilOp_spec hx hk
    refine VOk.same hI ?_ (.bool _)
    show (do eqGuard op t (.const nv) y nv (a.eval y); binOp op t nv (a.eval y) : Sem Value).run C.P w = _
    rw [Sem.run_bind, (nil_guard hn hb hz op hop (.const nv) y (.inl ⟨_, rfl⟩)).2, Result.andThen_ok]
    exact (nil_scalar hn hb hz op hop).2
end
end Go.Eng
end
section
namespace Go.Eng
section
variable {C : Ctx} {ρ : Rho} {s s' : St} {w : World} {v : V}
theorem placeOf_spec {places : List (Nat × Nat)} {i o n : Nat} (h : placeOf places i = some (o, n)) : places[i]? = some (o, n) ∧ 0 < n := by
  unfold placeOf at h
  split at h
  · rename_i o' n' e
    cases h; exact ⟨e, by omega⟩
  · cases h
theorem CR.of_value {v : V} {cv : Value} (h : VR ρ v cv) (hn : notTup v = true) : CR ρ v.cells cv.cells := ⟨h.cells.1, h.all_scalar hn, h.cells.2⟩
theorem CR.agg {cs : List V} {arr : Array Value} (h : CR ρ cs arr) : VR ρ (.agg cs) (.agg arr) := .agg h.all h.size fun i v cv hv hc => by
  obtain ⟨cv', e1, e2⟩ := h.rel i v hv
  simp only at e1; rw [hc] at e1; cases e1; exact e2
theorem zeroOf_info {t : TypeId} {z : V} (h : zeroOf C.P t = some z) : ∃ i cv, C.P.info? t = some i ∧ i.zero = some cv ∧ ∀ ρ : Rho, VR ρ z cv := by
  unfold zeroOf at h
  split at h
  · rename_i i hi
    split at h
    · rename_i cv hcv; exact ⟨i, cv, hi, hcv, fun ρ => ofConst_spec h ρ⟩
    · cases h
  · cases h
theorem parts_map (a : Act) (ps : Array (Nat × Operand)) : (ps.map fun (i, x) => (i, a.eval x)).toList = ps.toList.map fun (i, x) => (i, a.eval x) := by simp
theorem build_struct_ok (hI : Inv C ρ s w) (hG : GR C ρ) {τ : Tr V} {a : Act} (hτ : TR ρ τ a.tmps) {t : TypeId} {z : V} {fs : Array Field} {ps : Array (Nat × Operand)} {places : List (Nat × Nat)} {l : List (Nat × Nat × Ar)} {cs : List V} (hz : zeroOf C.P t = some z) (hn : notTup z = true)
    (hu : C.P.underlying t = some (.struct fs)) (hp : fs.toList.mapM (fun f => (C.P.info? f.type).map fun i => (f.offset, i.size)) = some places) (hl : partsOf C.G (placeOf places) ps.toList = some l)
    (hf : fillParts (l.map fun (off, n, x) => (off, n, arg τ x)) z.cells = some cs) : VOk C ρ s w (.agg cs) s (Instr.build t (ps.map fun (i, x) => (i, a.eval x))) := by
  obtain ⟨i, cv, hi, hzero, hzr⟩ := zeroOf_info hz
  obtain ⟨arr', k1, k2⟩ := fill_parts hG hτ (place := fun i => places.toArray[i]?) (fun _ _ _ h => by simpa using placeOf_spec h) hl (CR.of_value (hzr ρ) hn) hf
  refine VOk.same hI (run_build w t _ arr' ?_) k2.agg
  simp only [Program.built, hu, hi, hzero, hp]
  rw [parts_map]
  exact k1
theorem build_array_ok (hI : Inv C ρ s w) (hG : GR C ρ) {τ : Tr V} {a : Act} (hτ : TR ρ τ a.tmps) {t e : TypeId} {m n : Nat} {z : V} {ps : Array (Nat × Operand)} {l : List (Nat × Nat × Ar)} {cs : List V} (hz : zeroOf C.P t = some z) (hn : notTup z = true)
    (hu : C.P.underlying t = some (.array m e)) (hs : szOf C.P e = some n) (hl : partsOf C.G (fun i => some (i * n, n)) ps.toList = some l)
    (hf : fillParts (l.map fun (off, n, x) => (off, n, arg τ x)) z.cells = some cs) : VOk C ρ s w (.agg cs) s (Instr.build t (ps.map fun (i, x) => (i, a.eval x))) := by
  obtain ⟨i, cv, hi, hzero, hzr⟩ := zeroOf_info hz
  obtain ⟨hcell, hn0, hsz⟩ := szOf_spec hs
  obtain ⟨arr', k1, k2⟩ := fill_parts hG hτ (place := fun i => some (i * n, n)) (fun _ _ _ h => ⟨h, by cases h; exact hn0⟩) hl (CR.of_value (hzr ρ) hn) hf
  obtain ⟨j, hj, hjs, _⟩ := info_of hcell hn0
  refine VOk.same hI (run_build w t _ arr' ?_) k2.agg
  simp only [Program.built, hu, hi, hzero, hj, hjs]
  rw [parts_map]
  exact k1
theorem RR.put {es es' : List (List V)} {sz : Nat} {arr : Array Value} (h : RR ρ es sz arr) {v : V} {cv : Value} (hv : VR ρ v cv) (hn : notTup v = true) (hl : v.cells.length = sz) {i : Nat} (hsp : splice [v.cells] i es = some es') :
    i * sz + cv.cells.size ≤ arr.size ∧ RR ρ es' sz (putPart (i * sz) cv arr) ∧ es'.length = es.length := by
  obtain ⟨h1, h2, h3⟩ := splice_some hsp
  obtain ⟨c1, c2⟩ := hv.cells
  have hi : i < es.length := by have := h2 (by simp); simp at this; omega
  have hm : (i + 1) * sz ≤ es.length * sz := Nat.mul_le_mul_right _ hi
  have hfits := h.fits
  rw [Nat.add_mul] at hm
  have hfit : i * sz + cv.cells.size ≤ arr.size := by rw [← c1, hl]; omega
  obtain ⟨p1, p2⟩ := putPart_spec hfit
  refine ⟨hfit, ⟨by rw [h1, p1]; exact hfits, ?_, ?_⟩, h1⟩
  · intro e he
    obtain ⟨k, hk, rfl⟩ := List.getElem_of_mem he
    have := h3 k
    rw [List.getElem?_eq_getElem hk] at this
    split at this
    · have hk0 : k - i = 0 := by rename_i c; simp at c; omega
      rw [hk0] at this; simp at this; rw [this]; exact ⟨hl, hv.all_scalar hn⟩
    · exact h.all _ (List.mem_of_getElem? this.symm)
  · intro k e he j x hx
    rw [h3 k] at he
    simp only [p2]
    split at he
    · have hk0 : k = i := by rename_i c; simp at c; omega
      subst hk0
      simp at he; subst he
      obtain ⟨y, e1, e2⟩ := c2 j x hx
      have hj := (List.getElem?_eq_some_iff.1 hx).1
      refine ⟨y, ?_, e2⟩
      rw [if_pos (by rw [← c1]; omega), Nat.add_sub_cancel_left]; exact e1
    · rename_i c
      have hki : k ≠ i := by rintro rfl; apply c; simp
      obtain ⟨y, e1, e2⟩ := h.rel k e he j x hx
      refine ⟨y, ?_, e2⟩
      have hj : j < sz := by rw [← (h.all e (List.mem_of_getElem? he)).1]; exact (List.getElem?_eq_some_iff.1 hx).1
      rw [if_neg]
      · exact e1
      rw [← c1, hl]
      rintro ⟨g1, g2⟩
      rcases Nat.lt_or_gt_of_ne hki with q | q
      · have : (k + 1) * sz ≤ i * sz := Nat.mul_le_mul_right _ q
        rw [Nat.add_mul] at this; omega
      · have : (i + 1) * sz ≤ k * sz := Nat.mul_le_mul_right _ q
        rw [Nat.add_mul] at this; omega
theorem fill_elems {C : Ctx} (hG : GR C ρ) {τ : Tr V} {a : Act} (hτ : TR ρ τ a.tmps) {sz : Nat} : ∀ {ps : List (Nat × Operand)} {l : List (Nat × Ar)} {es r : List (List V)} {arr : Array Value}, partsIx C.G ps = some l → RR ρ es sz arr →
      fillElems (l.map fun (i, x) => (i, arg τ x)) sz es = some r →
      ∃ arr', Instr.fill (fun i => some (i * sz, sz)) arr (ps.map fun (i, x) => (i, a.eval x)) = some arr' ∧ RR ρ r sz arr' ∧ arr'.size = arr.size ∧ r.length = es.length
  | [], l, es, r, arr, h, hc, hf => by
    simp only [partsIx, Option.some.injEq] at h
    subst h
    simp only [List.map_nil, fillElems, Option.some.injEq] at hf
    subst hf
    exact ⟨arr, rfl, hc, rfl, rfl⟩
  | (i, x) :: ps, l, es, r, arr, h, hc, hf => by
    simp only [partsIx] at h
    split at h
    · rename_i b l' e2 e3
      cases h
      simp only [List.map_cons, fillElems] at hf
      split at hf
      · rename_i hn
        simp only [Bool.and_eq_true, Nat.beq_eq] at hn
        split at hf
        · rename_i es' hsp
          have hv := arg_rel hG hτ e2
          obtain ⟨g1, g2, g3⟩ := hc.put hv hn.2 hn.1 hsp
          obtain ⟨arr', k1, k2, k3, k4⟩ := fill_elems hG hτ e3 g2 hf
          refine ⟨arr', ?_, k2, ?_, by rw [k4, g3]⟩
          · simp only [List.map_cons]
            rw [fill_cons (place := fun i => some (i * sz, sz)) rfl (by rw [← hv.cells.1]; exact hn.1) (by rw [← hn.1, hv.cells.1] at g1 ⊢; exact g1)]
            exact k1
          · rw [k3]; exact (putPart_spec g1).1
        · cases hf
      · cases hf
    · cases h
theorem buildSlice_ok (hI : Inv C ρ s w) (hG : GR C ρ) {τ : Tr V} {a : Act} (hτ : TR ρ τ a.tmps) {t e : TypeId} {n m : Nat} {z : List V} (hu : C.P.underlying t = some (.slice e)) (hn : szOf C.P e = some m) (hz : zeroCells C.P e = some z) {ps : Array (Nat × Operand)} {l : List (Nat × Ar)} {es : List (List V)}
    (hl : partsIx C.G ps.toList = some l) (hmax : n * m ≤ 100000) (hf : fillElems (l.map fun (i, x) => (i, arg τ x)) m (rep n z) = some es) :
    VOk C ρ s w (.row s.next m 0 n true) (new s (.row es m e)).2 (Instr.buildSlice t n (ps.map fun (i, x) => (i, a.eval x))) := by
  obtain ⟨n', cv, h1, h2, h3, h4, h5, h6, h7⟩ := zeroCells_spec hz
  rw [hn] at h1; cases h1
  obtain ⟨hcell, hn0, hsz⟩ := szOf_spec hn
  rw [rep_eq] at hf
  have hz0 := zeros_rel (h7 ρ) (by rw [h2, h6]) h2 h3 (l := n) (m := n * m) (Nat.le_refl _)
  obtain ⟨arr', k1, k2, k3, k4⟩ := fill_elems hG hτ hl hz0 hf
  rw [List.length_replicate] at k4
  obtain ⟨ρ', g1, g2⟩ := rows_new (C := C) (s := s) (w := w) hI (es := es) (sz := m) (N := n) (arr := arr') (ty := e) (fr := (0, 0)) hn0 hcell (by omega) (by rw [k3]; simp) (fun k _ => .inl (Nat.zero_le _)) k2 (len := n) (cap := n) (clip := true) (Nat.le_refl _) (Nat.le_refl _) (fun _ => rfl)
  refine ⟨_, ρ', _, ?_, g1, g2⟩
  rw [← parts_map] at k1
  have hbig : ¬ (16777216 < n * m) := by omega
  simp only [Instr.buildSlice, Sem.run_bind, run_underlying hu, Result.andThen_ok, hsz]
  rw [if_neg (by simpa using hbig)]
  by_cases h0 : n * m = 0
  · have e0 : Array.range 0 = #[] := rfl
    have em : ∀ f : Nat → Value, (Array.range 0).map f = #[] := fun f => by simp
    rw [h0, em] at k1
    rw [h0, if_pos rfl]
    simp only [Sem.run_pure, Sem.run_bind, Result.andThen_ok, em, k1]
    rfl
  · simp only [if_neg h0, Sem.run_bind, Sem.run_pure, h5, Result.andThen_ok, k1]
    rfl
end
end Go.Eng
end
section
namespace Go.Eng
section
variable {C : Ctx} {ρ : Rho} {s s' : St} {w : World} {v : V}
theorem ksF_agg {g : Nat} {t : TypeId} {k : Ks} {n : Nat} (hk : ksF C.P g t = some k) (hn : szOf C.P t = some n) : tyOf C.P t = some (n, aggKs k) := by
  unfold szOf at hn
  split at hn
  · rename_i n' agg ht
    cases hn
    rw [ht]
    congr 2
    unfold tyOf at ht
    cases g with
    | zero => simp [ksF] at hk
    | succ g =>
      unfold ksF at hk
      split at ht
      · cases ht
      · rename_i d hd
        rw [hd] at hk
        split at ht
        · cases ht
        · split at ht
          · cases ht
            simp only at hk
            split at hk
            · cases hk
            · split at hk
              · cases hk; rfl
              · cases hk
          · cases ht
            simp only at hk
            split at hk
            · cases hk; rfl
            · cases hk
          · rename_i h1 h2
            split at ht
            · cases ht
              cases d <;> simp only at hk <;> first
                | (cases hk; done)
                | (cases hk; rfl)
                | exact absurd rfl (h1 _)
                | exact absurd rfl (h2 _ _)
                | (split at hk <;> first | (cases hk; done) | (cases hk; rfl))
            · cases ht
  · cases hn
def KsOk (P : Program) (ks : TypeId → Option Ks) : Prop := ∀ t k, ks t = some k → (∃ g, ksF P g t = some k) ∧ ∃ i, P.info? t = some i ∧ i.comparable = true
theorem sameAddr_block (w : World) (P : Program) (c o o' : Nat) : (sameAddr ⟨c, o, none⟩ ⟨c, o', none⟩).run P w = .ok (o == o') w := by
  simp [sameAddr]
  rw [Bool.eq_iff_iff]; simp
theorem run_frozen (w : World) (P : Program) (a : Addr) : (frozen a).run P w = .ok (w.frozen? a) w := rfl
theorem frozen_of_row {w : World} {c : Nat} {arr : Array Value} {ty : TypeId} {fr : Nat × Nat} (h : w.heap[c]? = some (.cells arr ty fr)) {sz : Nat} (hs : sz ≠ 1) (h7 : ∀ k, k < arr.size ∨ sz ≠ 1 → fr.2 ≤ k ∨ k < fr.1) (o : Nat) : w.frozen? ⟨c, o, none⟩ = false := by
  have := h7 o (.inr hs)
  simp only [World.frozen?, h]
  rw [Bool.eq_false_iff]
  simp only [ne_eq, Bool.and_eq_true, decide_eq_true_eq]
  omega
theorem run_stringish {P : Program} {w : World} {c o : Nat} {ty : TypeId} {n : Nat} (hs : w.shape? c = some (ty, n)) : (stringish ⟨c, o, none⟩).run P w = .ok (w.frozen? ⟨c, o, none⟩ || w.frozen? ⟨c, n, none⟩) w := by
  unfold stringish
  rw [Sem.run_bind, run_frozen, Result.andThen_ok]
  cases w.frozen? ⟨c, o, none⟩ with
  | true => rfl
  | false =>
    simp only [Bool.false_eq_true, if_false, Bool.false_or]
    rw [Sem.run_bind, run_shape, Result.andThen_ok]
    simp only [hs]
    rfl
theorem run_mayBeOne {P : Program} {w : World} {c o c' o' : Nat} {ty ty' : TypeId} {n n' : Nat} (hs : w.shape? c = some (ty, n + 1)) (hs' : w.shape? c' = some (ty', n' + 1)) (hf : (∀ o, w.frozen? ⟨c, o, none⟩ = false) ∨ ∀ o, w.frozen? ⟨c', o, none⟩ = false) :
    (mayBeOne ⟨c, o, none⟩ ⟨c', o', none⟩).run P w = .ok false w := by
  unfold mayBeOne
  simp only [Sem.run_bind, run_stringish hs, run_stringish hs', Result.andThen_ok, run_shape, hs, hs', Sem.run_pure]
  rcases hf with hf | hf <;> simp [hf]
theorem run_noView {P : Program} {w : World} {a : Addr} {x : TypeId × Nat} (h : w.shape? a.block = some x) : (noView a).run P w = .ok () w := by
  simp [noView, viewAt, h]
theorem sameAddr_other {P : Program} {w : World} {c c' o o' : Nat} {arr arr' : Array Value} {ty ty' : TypeId} {fr fr' : Nat × Nat} (hne : c ≠ c') (h : w.heap[c]? = some (.cells arr ty fr)) (h' : w.heap[c']? = some (.cells arr' ty' fr')) (n0 : arr.size ≠ 0) (n0' : arr'.size ≠ 0)
    (hf : (∀ o, w.frozen? ⟨c, o, none⟩ = false) ∨ ∀ o, w.frozen? ⟨c', o, none⟩ = false) : (sameAddr ⟨c, o, none⟩ ⟨c', o', none⟩).run P w = .ok false w := by
  obtain ⟨n, hn⟩ : ∃ n, arr.size = n + 1 := ⟨arr.size - 1, by omega⟩
  obtain ⟨n', hn'⟩ : ∃ n, arr'.size = n + 1 := ⟨arr'.size - 1, by omega⟩
  have hs := shape_of_heap h
  have hs' := shape_of_heap h'
  rw [hn] at hs
  rw [hn'] at hs'
  have hb : (c == c') = false := by simpa using hne
  unfold sameAddr
  simp only [hb, Bool.false_eq_true, if_false, Sem.run_bind, Result.andThen_ok, run_frozen]
  have hff : (w.frozen? ⟨c, o, none⟩ && w.frozen? ⟨c', o', none⟩) = false := by
    rcases hf with hf | hf <;> simp [hf]
  simp only [hff, Bool.false_eq_true, if_false]
  rw [Sem.run_bind, run_noView (a := ⟨c, o, none⟩) hs, Result.andThen_ok, Sem.run_bind, run_noView (a := ⟨c', o', none⟩) hs', Result.andThen_ok, Sem.run_bind, run_mayBeOne hs hs' hf]
  rfl
theorem ptr_eq (hI : Inv C ρ s w) {x y : V} {cx cy : Value} (hx : VR ρ x cx) (hy : VR ρ y cy) {b : Bool} (h : eqPtr s.heap x y = some b) {t e : TypeId} {n : Nat} (hu : C.P.underlying t = some (.pointer e)) (hn : szOf C.P e = some n) (d : Nat) :
    (Op.equalIn (d + 1) t cx cy).run C.P w = .ok b w := by
  obtain ⟨_, hn0, hsz⟩ := szOf_spec hn
  have two : ∀ a a' : Addr, (sameAddr a a').run C.P w = .ok b w → (Op.equalIn (d + 1) t (.pointer (some a)) (.pointer (some a'))).run C.P w = .ok b w := by
    intro a a' h
    unfold Op.equalIn
    rw [Sem.run_bind, run_underlying hu, Result.andThen_ok]
    simp [hsz, Nat.ne_of_gt hn0, h]
  cases x <;> cases y <;> simp only [eqPtr] at h <;> first
    | (cases h; done)
    | (cases h; cases hx; cases hy; unfold Op.equalIn; rw [Sem.run_bind, run_underlying hu]; rfl)
    | skip
  rename_i p i j q i' j'
  cases hx with
  | ptr hl => cases hy with
    | ptr hl' =>
      rename_i l l'
      apply two
      split at h
      · rename_i he
        rw [Nm.eqb_iff] at he
        subst he
        rw [hl] at hl'; cases hl'
        split at h
        · rename_i es sz ty hb
          cases h
          obtain ⟨arr, fr, h1, h2, h3, _⟩ := row_place hI hb hl
          rw [sameAddr_block]
          congr 1
          rw [Bool.eq_iff_iff, Nat.beq_eq, beq_iff_eq, h2]
          omega
        · cases h
      · rename_i he
        split at h
        · rename_i e0 es sz ty e0' es' sz' ty' hb hb'
          split at h
          · cases h
          · rename_i hc
            cases h
            obtain ⟨g1, g2, g3, g4, arr, fr, g5, g6, g7, g8⟩ := hI.obj _ _ _ hb hl
            obtain ⟨k1, k2, k3, k4, arr', fr', k5, k6, k7, k8⟩ := hI.obj _ _ _ hb' hl'
            have hne : l.c ≠ l'.c := by
              intro ec
              have := hI.inj _ _ _ _ (by rw [hb]; simp) (by rw [hb']; simp) hl hl' ec
              rw [this] at he
              rw [(Nm.eqb_iff).2 rfl] at he
              cases he
            have pos : ∀ {N sz base size len : Nat}, 0 < sz → len + 1 ≤ N → base + N * sz ≤ size → size ≠ 0 := by
              intro N sz base size len hs hN h0 hz
              have : 1 * sz ≤ N * sz := Nat.mul_le_mul_right _ (by omega)
              omega
            refine sameAddr_other hne g5 k5 (pos g2.1 (by simpa using g3) g6) (pos k2.1 (by simpa using k3) k6) ?_
            simp only [Bool.and_eq_true, Nat.beq_eq] at hc
            by_cases hs : sz = 1
            · exact .inr (frozen_of_row k5 (fun e => hc ⟨hs, e⟩) k7)
            · exact .inl (frozen_of_row g5 hs g7)
        · cases h
theorem CR.of_agg {cs : List V} {arr : Array Value} (h : VR ρ (.agg cs) (.agg arr)) : CR ρ cs arr := by
  cases h with
  | agg hs hl hr => exact ⟨hl, hs, fun i x hi => by
      have hlt : i < arr.size := by rw [← hl]; exact (List.getElem?_eq_some_iff.1 hi).1
      exact ⟨arr[i], by simp [hlt], hr i x arr[i] hi (by simp [hlt])⟩⟩
theorem ksF_mono_fields {g : Nat} {f : Field} {fs : List Field} {l : List (Nat × Nat × Ks)} (h : ksFs C.P (ksF C.P g) (f :: fs) = some l) : ∃ k n r, ksF C.P g f.type = some k ∧ szOf C.P f.type = some n ∧ ksFs C.P (ksF C.P g) fs = some r ∧ l = (f.offset, n, k) :: r := by
  simp only [ksFs] at h
  split at h
  · rename_i k n r h1 h2 h3; cases h; exact ⟨k, n, r, h1, h2, h3, rfl⟩
  · cases h
mutual
theorem eqV_spec (hI : Inv C ρ s w) {ks : TypeId → Option Ks} (hks : KsOk C.P ks) : ∀ (f : Nat) {k : Ks} {x y : V} {b : Bool}, eqV s.heap ks f k x y = some b → ∀ (g : Nat) (t : TypeId), ksF C.P g t = some k → ∀ (cx cy : Value), VR ρ x cx → VR ρ y cy → ∀ (d : Nat), f ≤ d → (Op.equalIn d t cx cy).run C.P w = .ok b w
  | 0, k, x, y, b, h => by simp [eqV] at h
  | f + 1, k, x, y, b, h => by
    intro g t hk cx cy hx hy d hd
    obtain ⟨d, rfl⟩ : ∃ d', d = d' + 1 := ⟨d - 1, by omega⟩
    have hd' : f ≤ d := by omega
    cases g with
    | zero => simp [ksF] at hk
    | succ g =>
      unfold ksF at hk
      split at hk
      · rename_i hu
        cases hk
        simp only [eqV] at h
        split at h
        · cases h; cases hx; cases hy; exact run_equalIn_bool w d t _ _ hu
        · cases h
      · rename_i hu
        cases hk
        simp only [eqV] at h
        split at h
        · split at h
          · rename_i he
            rw [eqK_iff] at he; subst he
            cases h; cases hx; cases hy
            rw [run_equalIn_int w d t _ _ _ _ hu]
            congr 1
          · cases h
        · cases h
      · rename_i hu
        cases hk
        simp only [eqV] at h
        split at h
        · cases h
          cases hx with
          | str e => cases hy with
            | str e' =>
              subst e; subst e'
              rw [run_equalIn_string w d t _ _ hu, bytesEq_eq, ByteArray.toList_eq, ByteArray.toList_eq]
        · cases h
      · rename_i e hu
        split at hk
        · rename_i n hn
          cases hk
          simp only [eqV] at h
          exact ptr_eq hI hx hy h hu hn d
        · cases hk
      · rename_i ms hu
        cases hk
        simp only [eqV] at h
        split at h
        · split at h
          · cases h; cases hx; cases hy
            unfold Op.equalIn; rw [Sem.run_bind, run_underlying hu]; rfl
          · cases h
        · cases h; cases hx; cases hy
          unfold Op.equalIn; rw [Sem.run_bind, run_underlying hu]; rfl
        · cases h; cases hx; cases hy
          unfold Op.equalIn; rw [Sem.run_bind, run_underlying hu]; rfl
        · cases hx with
          | iface hx => cases hy with
            | iface hy =>
              split at h
              · rename_i he
                rw [Nat.beq_eq] at he
                subst he
                split at h
                · rename_i k' hk'
                  obtain ⟨⟨g', hg'⟩, i, hi, hc⟩ := hks _ _ hk'
                  have ih := eqV_spec hI hks f h _ _ hg' _ _ hx hy _ hd'
                  unfold Op.equalIn
                  rw [Sem.run_bind, run_underlying hu, Result.andThen_ok]
                  simp [typeInfo, hi, hc, ih]
                · cases h
              · rename_i he
                rw [Nat.beq_eq] at he
                cases h
                unfold Op.equalIn
                rw [Sem.run_bind, run_underlying hu, Result.andThen_ok]
                simp [he]
        · cases h
      · rename_i fs hu
        split at hk
        · cases hk
        · rename_i hst
          split at hk
          · rename_i l hl
            cases hk
            simp only [eqV] at h
            split at h
            · cases hx with
              | agg a1 a2 a3 => cases hy with
                | agg b1 b2 b3 =>
                  have hfo : C.P.fieldsOf t = fs := by simp [Program.fieldsOf, hu]
                  rw [run_equalIn_struct w d t _ _ (by rw [hfo]; exact hu) (by simpa using hst), hfo]
                  exact eqFs_spec hI hks f h _ _ hl _ _ (CR.of_agg (.agg a1 a2 a3)) (CR.of_agg (.agg b1 b2 b3)) _ hd'
            · cases h
          · cases hk
      · rename_i n e hu
        split at hk
        · rename_i k' m hk' hm
          cases hk
          simp only [eqV] at h
          split at h
          · cases hx with
            | agg a1 a2 a3 => cases hy with
              | agg b1 b2 b3 =>
                obtain ⟨hcell, hm0, _⟩ := szOf_spec hm
                obtain ⟨i, hi, _⟩ := info_of hcell hm0
                rw [run_equalIn_array w d _ _ hu hi, hcell, List.range_eq_range']
                exact eqArr_spec hI hks f h _ _ hk' hm _ _ (CR.of_agg (.agg a1 a2 a3)) (CR.of_agg (.agg b1 b2 b3)) _ hd'
          · cases h
        · cases hk
      · cases hk
theorem eqFs_spec (hI : Inv C ρ s w) {ks : TypeId → Option Ks} (hks : KsOk C.P ks) : ∀ (f : Nat) {l : List (Nat × Nat × Ks)} {a b : List V} {r : Bool}, eqFs s.heap ks f l a b = some r → ∀ (g : Nat) (fs : List Field), ksFs C.P (ksF C.P g) (fs.filter fun x => x.name != "_") = some l →
      ∀ (xs ys : Array Value), CR ρ a xs → CR ρ b ys → ∀ (d : Nat), f ≤ d → (Op.eqFields d xs ys fs).run C.P w = .ok r w
  | 0, l, a, b, r, h => by simp [eqFs] at h
  | f + 1, l, a, b, r, h => by
    intro g fs hl xs ys hx hy d hd
    induction fs with
    | nil =>
      simp only [List.filter_nil, ksFs, Option.some.injEq] at hl
      subst hl
      simp only [eqFs, Option.some.injEq] at h
      subst h
      simp [Op.eqFields]
    | cons fd fs ih =>
      by_cases hn : fd.name = "_"
      · rw [List.filter_cons_of_neg (by simp [hn])] at hl
        simp only [Op.eqFields, hn, ne_eq, not_true_eq_false, if_false]
        exact ih hl
      · rw [List.filter_cons_of_pos (by simp [hn])] at hl
        obtain ⟨k, n, r', h1, h2, h3, rfl⟩ := ksF_mono_fields hl
        simp only [eqFs] at h
        split at h
        · rename_i x hwx
          split at h
          · rename_i y hwy
            split at h
            · rename_i px hpx
              split at h
              · rename_i py hpy
                split at h
                · rename_i q hq
                  split at h
                  · rename_i q' hq'
                    cases h
                    have hty := ksF_agg h1 h2
                    obtain ⟨ca, e1, e2⟩ := part_ok hty hx.size hx.rel hx.all hwx hpx w
                    obtain ⟨cb, e3, e4⟩ := part_ok hty hy.size hy.rel hy.all hwy hpy w
                    have i1 := eqV_spec hI hks f hq _ _ h1 _ _ e2 e4 d (by omega)
                    have i2 := eqFs_spec hI hks f hq' _ _ h3 _ _ hx hy d (by omega)
                    simp only [Op.eqFields, hn, ne_eq, not_false_eq_true, if_true, Sem.run_bind, e1, e3, i1, Result.andThen_ok]
                    cases q with
                    | true => simpa using i2
                    | false => simp
                  · cases h
                · cases h
              · cases h
            · cases h
          · cases h
        · cases h
theorem eqArr_spec (hI : Inv C ρ s w) {ks : TypeId → Option Ks} (hks : KsOk C.P ks) : ∀ (f : Nat) {k : Ks} {sz n i : Nat} {a b : List V} {r : Bool}, eqArr s.heap ks f k sz n i a b = some r → ∀ (g : Nat) (e : TypeId), ksF C.P g e = some k → szOf C.P e = some sz →
      ∀ (xs ys : Array Value), CR ρ a xs → CR ρ b ys → ∀ (d : Nat), f ≤ d → (Op.eqItems d e sz xs ys (List.range' i n)).run C.P w = .ok r w
  | 0, k, sz, n, i, a, b, r, h => by simp [eqArr] at h
  | f + 1, k, sz, n, i, a, b, r, h => by
    intro g e hk hs xs ys hx hy d hd
    cases n with
    | zero =>
      simp only [eqArr, Option.some.injEq] at h
      subst h
      simp [Op.eqItems]
    | succ n =>
      simp only [eqArr] at h
      split at h
      · rename_i x hwx
        split at h
        · rename_i y hwy
          split at h
          · rename_i px hpx
            split at h
            · rename_i py hpy
              split at h
              · rename_i q hq
                split at h
                · rename_i q' hq'
                  cases h
                  have hty := ksF_agg hk hs
                  obtain ⟨ca, e1, e2⟩ := part_ok hty hx.size hx.rel hx.all hwx hpx w
                  obtain ⟨cb, e3, e4⟩ := part_ok hty hy.size hy.rel hy.all hwy hpy w
                  have i1 := eqV_spec hI hks f hq _ _ hk _ _ e2 e4 d (by omega)
                  have i2 := eqArr_spec hI hks f hq' _ _ hk hs _ _ hx hy d (by omega)
                  simp only [List.range'_succ, Op.eqItems, Sem.run_bind, e1, e3, i1, Result.andThen_ok]
                  cases q with
                  | true => simpa using i2
                  | false => simp
                · cases h
              · cases h
            · cases h
          · cases h
        · cases h
      · cases h
end
end
end Go.Eng
end
section
namespace Go.Eng
section
variable {C : Ctx} {ρ : Rho} {s s' : St} {w : World} {v : V}
theorem eq_ok (hI : Inv C ρ s w) {ks : TypeId → Option Ks} (hks : KsOk C.P ks) {op : BinOp} (hop : op = .eql ∨ op = .neq) {g : Nat} {t : TypeId} {k : Ks} (hk : ksF C.P g t = some k) (h1 : k ≠ .int) (h2 : k ≠ .str) (hg : (aggKs k && C.P.eqGuardType C.P.depth t) = false)
    {x y : V} {cx cy : Value} (hx : VR ρ x cx) (hy : VR ρ y cy) {b : Bool} {f : Nat} (hf : f + 1 ≤ 10000) (h : eqV s.heap ks (f + 1) k x y = some b) (ox oy : Operand) : VOk C ρ s w (.bool (xor (decide (op = .neq)) b)) s (do eqGuard op t ox oy cx cy; binOp op t cx cy) := by
  have heq := eqV_spec hI hks (f + 1) h g t hk cx cy hx hy 10000 hf
  refine VOk.same hI ?_ (.bool _)
  have hgd : (eqGuard op t ox oy cx cy).run C.P w = .ok () w := by
    cases g with
    | zero => simp [ksF] at hk
    | succ g =>
      unfold ksF at hk
      split at hk
      · cases hk
        simp only [eqV] at h
        split at h
        · cases hx; cases hy; rcases hop with rfl | rfl <;> rfl
        · cases h
      · cases hk; exact absurd rfl h1
      · cases hk; exact absurd rfl h2
      · split at hk
        · cases hk
          simp only [eqV] at h
          cases x <;> cases y <;> simp only [eqPtr] at h <;> first
            | (cases h; done)
            | (cases hx; cases hy; rcases hop with rfl | rfl <;> rfl)
        · cases hk
      · rename_i ms hu
        cases hk
        simp only [eqV] at h
        split at h
        · split at h
          · rename_i hms
            cases hx; cases hy
            have e1 : ∀ d, (Op.eqGuardIn (d + 1) t .nilIface .nilIface).run C.P w = .ok false w := by
              intro d
              unfold Op.eqGuardIn
              rw [Sem.run_bind, run_underlying hu, Result.andThen_ok]
              show (pure (!ms.isEmpty) : Sem Bool).run C.P w = _
              rw [hms]; rfl
            have e2 := e1 9999
            rcases hop with rfl | rfl <;>
            · unfold eqGuard
              simp only
              have e3 : (Op.eqGuardIn Op.maxDepth t .nilIface .nilIface).run C.P w = .ok false w := e2
              simp [Sem.run_ite, e3]
          · cases h
        · cases hx; cases hy; rcases hop with rfl | rfl <;> rfl
        · cases hx; cases hy; rcases hop with rfl | rfl <;> rfl
        · cases hx; cases hy; rcases hop with rfl | rfl <;> rfl
        · cases h
      · split at hk
        · cases hk
        · split at hk
          · cases hk
            simp only [eqV] at h
            split at h
            · cases hx; cases hy
              exact run_eqGuard_agg w op t ox oy _ _ (by simpa [aggKs] using hg)
            · cases h
          · cases hk
      · split at hk
        · cases hk
          simp only [eqV] at h
          split at h
          · cases hx; cases hy
            exact run_eqGuard_agg w op t ox oy _ _ (by simpa [aggKs] using hg)
          · cases h
        · cases hk
      · cases hk
  rw [Sem.run_bind, hgd, Result.andThen_ok]
  refine run_eql hop (fun op => ⟨?_, ?_⟩) heq <;> rintro rfl <;>
  · cases k <;> simp only [eqV] at h <;> first
      | exact absurd rfl h1
      | exact absurd rfl h2
      | (cases x <;> cases y <;> first
          | (simp only [eqPtr] at h; cases h; done)
          | (cases h; done)
          | (cases hx; cases hy; rfl))
end
end Go.Eng
end
section
namespace Go.Eng
section
variable {C : Ctx} {ρ : Rho} {s s' : St} {w : World} {v : V}
theorem plain_check {g : Nat} {t : TypeId} {k : Ks} (hk : ksF C.P g t = some k) (hs : k = .bool ∨ k = .int ∨ k = .str ∨ k = .ptr) (n : Nat) (b : Bool) (cx : Value) (w : World) : (Instr.checkKey b (n + 1) t cx).run C.P w = .ok () w := by
  cases g with
  | zero => simp [ksF] at hk
  | succ g =>
    unfold ksF at hk
    split at hk <;> rename_i hu
    · unfold Instr.checkKey; rw [Sem.run_bind, run_underlying hu]; cases cx <;> rfl
    · unfold Instr.checkKey; rw [Sem.run_bind, run_underlying hu]; cases cx <;> rfl
    · unfold Instr.checkKey; rw [Sem.run_bind, run_underlying hu]; cases cx <;> rfl
    · unfold Instr.checkKey; rw [Sem.run_bind, run_underlying hu]; cases cx <;> rfl
    · cases hk; rcases hs with h | h | h | h <;> cases h
    · split at hk
      · cases hk
      · split at hk
        · cases hk; rcases hs with h | h | h | h <;> cases h
        · cases hk
    · split at hk
      · cases hk; rcases hs with h | h | h | h <;> cases h
      · cases hk
    · cases hk
theorem ksF_iface {g : Nat} {t : TypeId} {b : Bool} (hk : ksF C.P g t = some (.iface b)) : ∃ ms, C.P.underlying t = some (.interface ms) := by
  cases g with
  | zero => simp [ksF] at hk
  | succ g =>
    unfold ksF at hk
    split at hk <;> first
      | (cases hk; done)
      | (exact ⟨_, by assumption⟩)
      | (split at hk <;> first | (cases hk; done) | (split at hk <;> cases hk))
theorem check_ok {ks : TypeId → Option Ks} (hks : KsOk C.P ks) {g : Nat} {t : TypeId} {k : Ks} (hk : ksF C.P g t = some k) {x : V} {cx : Value} (hx : VR ρ x cx) (h : keyOk ks k x = true) (b : Bool) (w : World) : (Instr.checkKey b 10000 t cx).run C.P w = .ok () w := by
  have gen : ∀ n, (Instr.checkKey b (n + 2) t cx).run C.P w = .ok () w := by
    intro n
    cases k <;> try (exact plain_check hk (by first | exact .inl rfl | exact .inr (.inl rfl) | exact .inr (.inr (.inl rfl)) | exact .inr (.inr (.inr rfl))) (n + 1) b cx w)
    · obtain ⟨ms, hu⟩ := ksF_iface hk
      cases x <;> simp only [keyOk] at h <;> try (cases h; done)
      · rename_i t' y
        cases hx with
        | iface hy =>
          rename_i cy
          have key : ∃ k', ks t' = some k' ∧ (k' = .bool ∨ k' = .int ∨ k' = .str ∨ k' = .ptr) := by
            split at h <;> first
              | (cases h; done)
              | exact ⟨_, by assumption, by simp⟩
          obtain ⟨k', hk', hs⟩ := key
          obtain ⟨⟨g', hg'⟩, i, hi, hc⟩ := hks _ _ hk'
          have := plain_check hg' hs n b cy w
          unfold Instr.checkKey
          rw [Sem.run_bind, run_underlying hu, Result.andThen_ok]
          simp [typeInfo, hi, hc, this]
      · cases hx
        unfold Instr.checkKey
        rw [Sem.run_bind, run_underlying hu]; rfl
    · simp [keyOk] at h
    · simp [keyOk] at h
  exact gen 9998
structure ER (ρ : Rho) (es : List (V × V × Nat)) (L : List MapEntry) : Prop where
  len : L.length = es.length
  rel : ∀ (i : Nat) k v n, es[i]? = some (k, v, n) → ∃ e : MapEntry, L[i]? = some e ∧ e.born = n ∧ VR ρ k e.key ∧ VR ρ v e.val
theorem ER.tail {x : V × V × Nat} {es : List (V × V × Nat)} {e : MapEntry} {L : List MapEntry} (h : ER ρ (x :: es) (e :: L)) : ER ρ es L :=
  ⟨by have := h.len; simpa using this, fun i k v n hi => by have := h.rel (i + 1) k v n (by simpa using hi); simpa using this⟩
def FoundR (ρ : Rho) (H : Tr O) (ks : TypeId → Option Ks) (k : Ks) (key : V) (es : List (V × V × Nat)) (L : List MapEntry) (j : Nat) : Option (Nat × V × Nat) → Option (Nat × Value) → Prop
  | none, none => True
  | some (i, v, b), some (i', cv) => i' = i ∧ j ≤ i ∧ ∃ a e, es[i - j]? = some (a, v, b) ∧ L[i - j]? = some e ∧ cv = e.val ∧ VR ρ a e.key ∧ VR ρ v e.val ∧ e.born = b ∧ eqV H ks 50 k key a = some true
  | _, _ => False
theorem FoundR.next {H : Tr O} {ks : TypeId → Option Ks} {k : Ks} {key : V} {x : V × V × Nat} {es : List (V × V × Nat)} {e : MapEntry} {L : List MapEntry} {j : Nat} {r : Option (Nat × V × Nat)} {cr : Option (Nat × Value)} (h : FoundR ρ H ks k key es L (j + 1) r cr) :
    FoundR ρ H ks k key (x :: es) (e :: L) j r cr := by
  cases r with
  | none => cases cr with
    | none => trivial
    | some _ => exact h.elim
  | some p => cases cr with
    | none => exact h.elim
    | some q =>
      obtain ⟨h1, h2, a, e', h3, h4, h5⟩ := h
      have he : p.1 - j = (p.1 - (j + 1)) + 1 := by omega
      exact ⟨h1, by omega, a, e', by rw [he, List.getElem?_cons_succ]; exact h3, by rw [he, List.getElem?_cons_succ]; exact h4, h5⟩
theorem sameNow_ok (hI : Inv C ρ s w) {ks : TypeId → Option Ks} (hks : KsOk C.P ks) {g : Nat} {t : TypeId} {d : TypeDesc} {k : Ks} (hk : ksF C.P g t = some k) (hu : C.P.underlying t = some d) {x y : V} {cx cy : Value} (hx : VR ρ x cx) (hy : VR ρ y cy) {b q : Bool} (h : eqV s.heap ks 50 k x y = some b)
    (hq : Instr.sameNow d cx cy = some q) : q = b := by
  have heq := eqV_spec hI hks 50 h g t hk cx cy hx hy 50 (Nat.le_refl _)
  have e50 : (Op.equalIn (49 + 1) t cx cy).run C.P w = .ok q w := by
    unfold Instr.sameNow at hq
    split at hq
    · split at hq
      · cases hq
        rename_i hkk
        subst hkk
        rw [run_equalIn_int w 49 t _ _ _ _ hu]
      · cases hq
    · cases hq
      rw [run_equalIn_string w 49 t _ _ hu, beq_toListBytes]
    · cases hq
      rw [run_equalIn_bool w 49 t _ _ hu]
    · cases hq
  have e := e50.symm.trans heq
  cases e; rfl
theorem find_ok (hI : Inv C ρ s w) {ks : TypeId → Option Ks} (hks : KsOk C.P ks) {g : Nat} {t : TypeId} {k : Ks} (hk : ksF C.P g t = some k) {d : TypeDesc} (hu : C.P.underlying t = some d) {key : V} {ck : Value} (hkey : VR ρ key ck) :
    ∀ (es : List (V × V × Nat)) (L : List MapEntry) (j : Nat) (r : Option (Nat × V × Nat)), ER ρ es L → findKeyIn s.heap ks k key es j = some r →
      (∃ cr, (Instr.findAsking t ck L j).run C.P w = .ok cr w ∧ FoundR ρ s.heap ks k key es L j r cr) ∧ (∀ cr, Instr.findNow d ck L j = some cr → FoundR ρ s.heap ks k key es L j r cr)
  | [], L, j, r, hE, h => by
    have : L = [] := List.length_eq_zero_iff.1 (by rw [hE.len]; rfl)
    subst this
    simp only [findKeyIn, Option.some.injEq] at h
    subst h
    exact ⟨⟨none, by simp [Instr.findAsking], trivial⟩, fun cr h => by simp [Instr.findNow] at h; subst h; trivial⟩
  | (a, v, b) :: es, L, j, r, hE, h => by
    cases L with
    | nil => have := hE.len; simp at this
    | cons e L =>
      obtain ⟨e', h1, h2, h3, h4⟩ := hE.rel 0 a v b rfl
      simp only [List.getElem?_cons_zero, Option.some.injEq] at h1
      subst h1
      simp only [findKeyIn] at h
      split at h
      · rename_i heq
        cases h
        have hrun := eqV_spec hI hks 50 heq g t hk ck e.key hkey h3 10000 (by omega)
        have hf : FoundR ρ s.heap ks k key ((a, v, b) :: es) (e :: L) j (some (j, v, b)) (some (j, e.val)) :=
          ⟨rfl, Nat.le_refl _, a, e, by simp, by simp, rfl, h3, h4, h2, heq⟩
        refine ⟨⟨some (j, e.val), ?_, hf⟩, fun cr hcr => ?_⟩
        · unfold Instr.findAsking
          rw [Sem.run_bind]
          show ((Op.equalIn 10000 t ck e.key).run C.P w).andThen _ = _
          rw [hrun]; rfl
        · unfold Instr.findNow at hcr
          split at hcr
          · cases hcr; exact hf
          · rename_i hq
            have := sameNow_ok hI hks hk hu hkey h3 heq hq
            cases this
          · cases hcr
      · rename_i heq
        have hrun := eqV_spec hI hks 50 heq g t hk ck e.key hkey h3 10000 (by omega)
        obtain ⟨⟨cr, i1, i2⟩, i3⟩ := find_ok hI hks hk hu hkey es L (j + 1) r hE.tail h
        refine ⟨⟨cr, ?_, i2.next⟩, fun cr hcr => ?_⟩
        · unfold Instr.findAsking
          rw [Sem.run_bind]
          show ((Op.equalIn 10000 t ck e.key).run C.P w).andThen _ = _
          rw [hrun]; exact i1
        · unfold Instr.findNow at hcr
          split at hcr
          · rename_i hq
            have := sameNow_ok hI hks hk hu hkey h3 heq hq
            cases this
          · exact (i3 cr hcr).next
          · cases hcr
      · cases h
end
end Go.Eng
end
section
namespace Go.Eng
section
variable {C : Ctx} {ρ : Rho} {s s' : St} {w : World} {v : V}
theorem mapKs_spec {t : TypeId} {k : Ks} {e : TypeId} (h : mapKs C.P t = some (k, e)) : ∃ kt, C.P.underlying t = some (.map kt e) ∧ ksF C.P 5 kt = some k ∧ ∃ d, C.P.underlying kt = some d := by
  unfold mapKs at h
  split at h
  · rename_i kt e' hu
    split at h
    · rename_i k' hk
      cases h
      refine ⟨kt, hu, hk, ?_⟩
      cases hd : C.P.underlying kt with
      | some d => exact ⟨d, rfl⟩
      | none => simp [ksF, hd] at hk
    · cases h
  · cases h
theorem findKey_ok (hI : Inv C ρ s w) {ks : TypeId → Option Ks} (hks : KsOk C.P ks) {kt : TypeId} {k : Ks} (hk : ksF C.P 5 kt = some k) {d : TypeDesc} (hu : C.P.underlying kt = some d) {key : V} {ck : Value} (hkey : VR ρ key ck) {es : List (V × V × Nat)} {L : List MapEntry} (hE : ER ρ es L)
    {r : Option (Nat × V × Nat)} (h : findKey s.heap ks k key es = some r) :
    (∀ b, (Instr.checkKey b 10000 kt ck).run C.P w = .ok () w) ∧ ∃ cr, (Instr.findKey kt ck L).run C.P w = .ok cr w ∧ FoundR ρ s.heap ks k key es L 0 r cr := by
  unfold findKey at h
  split at h
  · rename_i hok
    refine ⟨fun b => check_ok hks hk hkey hok b w, ?_⟩
    obtain ⟨⟨cr, h1, h2⟩, h3⟩ := find_ok hI hks hk hu hkey es L 0 r hE h
    unfold Instr.findKey
    rw [Sem.run_bind, run_underlying hu, Result.andThen_ok]
    cases hq : Instr.findNow d ck L 0 with
    | some cr' => exact ⟨cr', rfl, h3 cr' hq⟩
    | none => exact ⟨cr, h1, h2⟩
  · cases h
theorem ER.of_map {b : Nm} {l : Loc} {es : List (V × V × Nat)} {clock : Nat} (hI : Inv C ρ s w) (hb : s.heap.get b = some (.map es clock)) (hl : ρ.blk b = some l) : ∃ en : Array MapEntry, w.heap[l.c]? = some (.map en clock) ∧ ER ρ es en.toList := by
  obtain ⟨en, h1, h2, h3⟩ := hI.obj _ _ _ hb hl
  exact ⟨en, h1, by simpa using h2, fun i k v n hi => by
    obtain ⟨e, a, c⟩ := h3 i k v n hi
    exact ⟨e, by simpa using a, c⟩⟩
theorem OR.of_er {ρ : Rho} {l : Loc} {es : List (V × V × Nat)} {clock : Nat} {w : World} {en : Array MapEntry} (h : w.heap[l.c]? = some (.map en clock)) (hE : ER ρ es en.toList) : OR C ρ l (.map es clock) w :=
  ⟨en, h, by have := hE.len; simpa using this, fun i k v n hi => by
    obtain ⟨e, a, c⟩ := hE.rel i k v n hi
    exact ⟨e, by simpa using a, c⟩⟩
theorem lookup_ok (hI : Inv C ρ s w) {ks : TypeId → Option Ks} (hks : KsOk C.P ks) {t e : TypeId} {k : Ks} (hm : mapKs C.P t = some (k, e)) {z : V} (hz : zeroOf C.P e = some z) {m key : V} {cm ck : Value} (hmr : VR ρ m cm) (hkey : VR ρ key ck) (okb : Bool) {r : Option V}
    (h : (m = .nilm ∧ r = none ∧ keyOk ks k key = true) ∨ ∃ b es clock fr, m = .map b ∧ s.heap.get b = some (.map es clock) ∧ findKey s.heap ks k key es = some fr ∧ r = fr.map fun p => p.2.1) :
    VOk C ρ s w (if okb then .tup [r.getD z, .bool r.isSome] else r.getD z) s (Instr.lookup t cm ck okb) := by
  obtain ⟨kt, hu, hk, d, hd⟩ := mapKs_spec hm
  obtain ⟨cz, hz1, hz2⟩ := zeroOf_spec hz
  have fin : ∀ (x : V) (cx : Value) (b : Bool), VR ρ x cx → VR ρ (if okb then .tup [x, .bool b] else x) (if okb then .tuple #[cx, .bool b] else cx) := by
    intro x cx b hx
    cases okb with
    | false => exact hx
    | true =>
      refine .tup rfl fun i y cy hy hcy => ?_
      match i with
      | 0 => simp at hy hcy; subst hy; subst hcy; exact hx
      | 1 => simp at hy hcy; subst hy; subst hcy; exact .bool _
      | i + 2 => simp at hy
  rcases h with ⟨rfl, rfl, hok⟩ | ⟨b, es, clock, fr, rfl, hb, hf, rfl⟩
  · cases hmr
    have hc := check_ok hks hk hkey hok true w
    refine VOk.same hI ?_ (fin z cz false (hz2 ρ))
    have hf : (Instr.findKey kt ck []).run C.P w = .ok none w := by
      unfold Instr.findKey; rw [Sem.run_bind, run_underlying hd]; rfl
    unfold Instr.lookup
    simp only [Sem.run_bind, run_underlying hu, Result.andThen_ok, Sem.run_pure]
    simp [hc, hf, hz1]
  · cases hmr with
    | map hl =>
      rename_i l
      obtain ⟨en, h1, hE⟩ := ER.of_map hI hb hl
      obtain ⟨hc, cr, hr, hfr⟩ := findKey_ok hI hks hk hd hkey hE hf
      have hg := run_getObj_at (P := C.P) h1 (fun _ _ _ e => by cases e)
      cases fr with
      | none => cases cr with
        | none =>
          refine VOk.same hI ?_ (fin z cz false (hz2 ρ))
          unfold Instr.lookup
          simp only [Sem.run_bind, run_underlying hu, Result.andThen_ok, hg, Sem.run_pure]
          simp [hc, hr, hz1]
        | some _ => exact hfr.elim
      | some p => cases cr with
        | none => exact hfr.elim
        | some q =>
          obtain ⟨_, _, a, e', _, _, hv, _, hv2, _⟩ := hfr
          refine VOk.same hI ?_ (fin p.2.1 e'.val true hv2)
          unfold Instr.lookup
          simp only [Sem.run_bind, run_underlying hu, Result.andThen_ok, hg, Sem.run_pure]
          simp [hc, hr, hv]
theorem plain_bits (hI : Inv C ρ s w) {ks : TypeId → Option Ks} {k : Ks} (hs : k = .bool ∨ k = .int ∨ k = .str ∨ k = .ptr) {x y : V} {cx cy : Value} (hx : VR ρ x cx) (hy : VR ρ y cy) {f : Nat} (h : eqV s.heap ks f k x y = some true) (n : Nat) : Instr.sameBits n cy cx = true := by
  cases f with
  | zero => simp [eqV] at h
  | succ f =>
    rcases hs with rfl | rfl | rfl | rfl <;> simp only [eqV] at h
    · split at h
      · cases hx; cases hy; simp at h; subst h; cases n <;> simp [Instr.sameBits]
      · cases h
    · split at h
      · split at h
        · rename_i he; rw [eqK_iff] at he; subst he
          cases hx; cases hy; simp at h; subst h; cases n <;> simp [Instr.sameBits]
        · cases h
      · cases h
    · split at h
      · simp only [Option.some.injEq] at h
        rw [bytesEq_iff] at h
        subst h
        cases hx with
        | str e => cases hy with
          | str e' =>
            rename_i a b
            have hab : a.data.toList = b.data.toList := (List.map_inj_right (fun x y => UInt8.toNat_inj.1)).1 (e.trans e'.symm)
            have : b = a := by
              have h2 := Array.toList_inj.1 hab
              cases a; cases b; simp at h2; rw [h2]
            subst this
            have hbb : (b == b) = true := by rw [beq_toListBytes]; simp
            cases n <;> simp [Instr.sameBits, hbb]
      · cases h
    · cases x <;> cases y <;> simp only [eqPtr] at h <;> first
        | (cases h; done)
        | (cases hx; cases hy; cases n <;> simp [Instr.sameBits]; done)
        | skip
      split at h
      · rename_i he
        rw [Nm.eqb_iff] at he
        subst he
        split at h
        · rename_i hb
          simp only [Option.some.injEq, Nat.beq_eq] at h
          cases hx with
          | ptr hl => cases hy with
            | ptr hl' =>
              rw [hl] at hl'; cases hl'
              obtain ⟨arr, fr, h1, h2, h3, _⟩ := row_place hI hb hl
              rw [← h2] at h
              cases n <;> simp [Instr.sameBits] <;> omega
        · cases h
      · split at h
        · split at h <;> cases h
        · cases h
theorem stays_ok (hI : Inv C ρ s w) {ks : TypeId → Option Ks} {k : Ks} {x y : V} {cx cy : Value} (hx : VR ρ x cx) (hy : VR ρ y cy) (hok : keyOk ks k x = true) (h : eqV s.heap ks 50 k x y = some true) : (Instr.keyThatStays cy cx).run C.P w = .ok cx w := by
  have hb : Instr.sameBits (9999 + 1) cy cx = true := by
    cases k with
    | bool => exact plain_bits hI (.inl rfl) hx hy h _
    | int => exact plain_bits hI (.inr (.inl rfl)) hx hy h _
    | str => exact plain_bits hI (.inr (.inr (.inl rfl))) hx hy h _
    | ptr => exact plain_bits hI (.inr (.inr (.inr rfl))) hx hy h _
    | struct _ => simp [keyOk] at hok
    | array _ _ _ => simp [keyOk] at hok
    | iface o =>
      have h50 : eqV s.heap ks (49 + 1) (.iface o) x y = some true := h
      generalize 49 = f at h50
      simp only [eqV] at h50
      split at h50
      · cases hx; cases hy; simp [Instr.sameBits]
      · cases h50
      · cases h50
      · split at h50
        · rename_i he
          rw [Nat.beq_eq] at he; subst he
          cases hx with
          | iface hx => cases hy with
            | iface hy =>
              simp only [keyOk] at hok
              split at h50
              · rename_i k' hk'
                rw [hk'] at hok
                have hs : k' = .bool ∨ k' = .int ∨ k' = .str ∨ k' = .ptr := by
                  cases k' <;> simp at hok <;> simp
                have := plain_bits hI hs hx hy h50 9999
                simp [Instr.sameBits, this]
              · cases h50
        · cases h50
      · cases h50
  unfold Instr.keyThatStays
  have : Instr.sameBits 10000 cy cx = true := hb
  rw [this]; rfl
theorem setBlock_upd {w : World} {c : Nat} {o : Obj} : Upd w { w with heap := w.heap.setIfInBounds c o } c :=
  ⟨rfl, rfl, rfl, by simp, fun d hd => by simp [Ne.symm hd]⟩
theorem setBlock_at {w : World} {c : Nat} {o o' : Obj} (h : w.heap[c]? = some o') : (w.heap.setIfInBounds c o)[c]? = some o := by
  obtain ⟨hlt, _⟩ := Array.getElem?_eq_some_iff.1 h
  simp [hlt]
theorem ER.set {es : List (V × V × Nat)} {en : Array MapEntry} (h : ER ρ es en.toList) {i : Nat} {k v : V} {b : Nat} {f : MapEntry → MapEntry} (hf : ∀ e, en[i]? = some e → (f e).born = b ∧ VR ρ k (f e).key ∧ VR ρ v (f e).val) : ER ρ (setNth i (k, v, b) es) (en.modify i f).toList := by
  rw [setNth_eq]
  refine ⟨by have := h.len; simpa using this, fun j k' v' n' hj => ?_⟩
  rw [List.getElem?_set] at hj
  simp only [Array.getElem?_toList, Array.getElem?_modify]
  by_cases c : i = j
  · subst c
    rw [if_pos rfl] at hj ⊢
    split at hj
    · cases hj
      rename_i hlt
      have hl := h.len
      have hlt' : i < en.size := by simp at hl; omega
      rw [Array.getElem?_eq_getElem hlt']
      exact ⟨_, rfl, hf _ (Array.getElem?_eq_getElem hlt')⟩
    · cases hj
  · rw [if_neg c] at hj ⊢
    obtain ⟨e, e1, e2⟩ := h.rel j k' v' n' hj
    exact ⟨e, by simpa using e1, e2⟩
theorem ER.snoc {es : List (V × V × Nat)} {en : Array MapEntry} (h : ER ρ es en.toList) {k v : V} {e : MapEntry} (hk : VR ρ k e.key) (hv : VR ρ v e.val) : ER ρ (Eng.snoc es (k, v, e.born)) (en.push e).toList := by
  refine ⟨by have := h.len; simp [Eng.snoc] at this ⊢; exact this, fun j k' v' n' hj => ?_⟩
  have hl := h.len
  simp at hl
  simp only [Eng.snoc] at hj
  simp only [Array.toList_push]
  by_cases c : j < es.length
  · rw [List.getElem?_append_left c] at hj
    obtain ⟨e', e1, e2⟩ := h.rel j k' v' n' hj
    exact ⟨e', by rw [List.getElem?_append_left (by simpa [hl] using c)]; exact e1, e2⟩
  · rw [List.getElem?_append_right (by omega)] at hj
    have hj0 : j - es.length = 0 := by
      have := (List.getElem?_eq_some_iff.1 hj).1; simp at this; omega
    rw [hj0] at hj
    simp at hj
    obtain ⟨rfl, rfl, rfl⟩ := hj
    refine ⟨e, ?_, rfl, hk, hv⟩
    rw [List.getElem?_append_right (by simp; omega)]
    have : j - en.toList.length = 0 := by simp; omega
    rw [this]; rfl
theorem mapUpdate_ok (hI : Inv C ρ s w) {ks : TypeId → Option Ks} (hks : KsOk C.P ks) {t e : TypeId} {k : Ks} (hm : mapKs C.P t = some (k, e)) {m key x : V} {cm ck cx : Value} (hmr : VR ρ m cm) (hkey : VR ρ key ck) (hx : VR ρ x cx) (h : mapUpdate ks s k m key x = some s') :
    ∃ ρ' w', (Instr.mapUpdate t cm ck cx).run C.P w = .ok () w' ∧ Ext C ρ s w ρ' s' w' := by
  obtain ⟨kt, hu, hk, d, hd⟩ := mapKs_spec hm
  unfold mapUpdate at h
  split at h
  · rename_i b
    split at h
    · rename_i es clock hb
      cases hmr with
      | map hl =>
        rename_i l
        obtain ⟨en, h1, hE⟩ := ER.of_map hI hb hl
        have hg := run_getObj_at (P := C.P) h1 (fun _ _ _ e => by cases e)
        have hset : ∀ o, (setObj l.c o).run C.P w = .ok () { w with heap := w.heap.setIfInBounds l.c o } := fun o => run_setObj_at' o h1 (fun _ _ _ e => by cases e)
        split at h
        · rename_i i v0 born hf
          cases h
          obtain ⟨hc, cr, hr, hfr⟩ := findKey_ok hI hks hk hd hkey hE hf
          cases cr with
          | none => exact hfr.elim
          | some q =>
            obtain ⟨i', cv⟩ := q
            obtain ⟨rfl, _, a, e', ha, he', _, hka, hva, hborn, heq⟩ := hfr
            have hok : keyOk ks k key = true := by
              unfold findKey at hf
              split at hf
              · assumption
              · cases hf
            have hst := stays_ok hI hkey hka hok heq
            have hen : en[i']? = some e' := by simpa using he'
            refine ⟨ρ, { w with heap := w.heap.setIfInBounds l.c (.map (en.modify i' fun e => { e with key := ck, val := cx }) clock) }, ?_, ext_set hI (by rw [hb]; simp) hl setBlock_upd _ fun o' ho => ?_⟩
            · unfold Instr.mapUpdate
              simp only [Sem.run_bind, run_underlying hu, Result.andThen_ok, hg, hc, hr, hen, Option.map_some, Option.getD_some, hst, hset]
            · cases ho
              refine OR.of_er (setBlock_at h1) (hE.set fun e he => ?_)
              rw [hen] at he; cases he
              exact ⟨hborn, hkey, hx⟩
        · rename_i hf
          cases h
          obtain ⟨hc, cr, hr, hfr⟩ := findKey_ok hI hks hk hd hkey hE hf
          cases cr with
          | some _ => exact hfr.elim
          | none =>
            refine ⟨ρ, { w with heap := w.heap.setIfInBounds l.c (.map (en.push { key := ck, val := cx, born := clock }) (clock + 1)) }, ?_, ext_set hI (by rw [hb]; simp) hl setBlock_upd _ fun o' ho => ?_⟩
            · unfold Instr.mapUpdate
              simp only [Sem.run_bind, run_underlying hu, Result.andThen_ok, hg, hc, hr, hset]
            · cases ho
              exact OR.of_er (setBlock_at h1) (hE.snoc (e := { key := ck, val := cx, born := clock }) hkey hx)
        · cases h
    · cases h
  · cases h
theorem delNth_eq {α : Type} : ∀ (i : Nat) (l : List α), delNth i l = l.eraseIdx i
  | _, [] => by simp [delNth]
  | 0, _ :: _ => by simp [delNth]
  | i + 1, a :: l => by simp [delNth, delNth_eq i l]
theorem ER.del {es : List (V × V × Nat)} {en : Array MapEntry} (h : ER ρ es en.toList) {i : Nat} (hi : i < en.size) : ER ρ (delNth i es) (en.eraseIdxIfInBounds i).toList := by
  rw [delNth_eq, Array.eraseIdxIfInBounds, dif_pos hi, Array.toList_eraseIdx]
  have hl := h.len
  refine ⟨?_, fun j k' v' n' hj => ?_⟩
  · rw [List.length_eraseIdx, List.length_eraseIdx]
    simp only [hl]
  · rw [List.getElem?_eraseIdx] at hj ⊢
    split at hj
    · rename_i hlt
      rw [if_pos hlt]
      exact h.rel j k' v' n' hj
    · rename_i hlt
      rw [if_neg hlt]
      exact h.rel (j + 1) k' v' n' hj
theorem mapDelete_ok (hI : Inv C ρ s w) {ks : TypeId → Option Ks} (hks : KsOk C.P ks) {t e : TypeId} {k : Ks} (hm : mapKs C.P t = some (k, e)) {m key : V} {cm ck : Value} (hmr : VR ρ m cm) (hkey : VR ρ key ck) (h : mapDelete ks s k m key = some s') {ts : Array TypeId} (h0 : ts[0]? = some t) {d0 : TypeId} :
    VOk C ρ s w (.tup []) s' (Builtin.delete_ ts d0 #[cm, ck]) := by
  obtain ⟨kt, hu, hk, d, hd⟩ := mapKs_spec hm
  have tup : VR ρ (.tup []) (.tuple #[]) := .tup rfl fun i y cy hy _ => by simp at hy
  unfold mapDelete at h
  split at h
  · rename_i b
    split at h
    · rename_i es clock hb
      cases hmr with
      | map hl =>
        rename_i l
        obtain ⟨en, h1, hE⟩ := ER.of_map hI hb hl
        have hg := run_getObj_at (P := C.P) h1 (fun _ _ _ e => by cases e)
        have hset : ∀ o, (setObj l.c o).run C.P w = .ok () { w with heap := w.heap.setIfInBounds l.c o } := fun o => run_setObj_at' o h1 (fun _ _ _ e => by cases e)
        split at h
        · rename_i i v0 born hf
          cases h
          obtain ⟨hc, cr, hr, hfr⟩ := findKey_ok hI hks hk hd hkey hE hf
          cases cr with
          | none => exact hfr.elim
          | some q =>
            obtain ⟨i', cv⟩ := q
            obtain ⟨rfl, _, a, e', ha, he', _, hka, hva, hborn, heq⟩ := hfr
            have hen : en[i']? = some e' := by simpa using he'
            have hlt : i' < en.size := (Array.getElem?_eq_some_iff.1 hen).1
            refine ⟨.tuple #[], ρ, { w with heap := w.heap.setIfInBounds l.c (.map (en.eraseIdxIfInBounds i') clock) }, ?_, tup, ext_set hI (by rw [hb]; simp) hl setBlock_upd _ fun o' ho => ?_⟩
            · simp only [Builtin.delete_, h0, Sem.run_bind, run_underlying hu, Result.andThen_ok, hg, hc, hr, hset, Sem.run_pure, List.getElem?_toArray, List.getElem?_cons_zero, List.getElem?_cons_succ]
            · cases ho
              exact OR.of_er (setBlock_at h1) (hE.del hlt)
        · rename_i hf
          cases h
          obtain ⟨hc, cr, hr, hfr⟩ := findKey_ok hI hks hk hd hkey hE hf
          cases cr with
          | some _ => exact hfr.elim
          | none =>
            refine ⟨.tuple #[], ρ, { w with heap := w.heap.setIfInBounds l.c (.map en clock) }, ?_, tup, ext_set hI (by rw [hb]; simp) hl setBlock_upd _ fun o' ho => ?_⟩
            · simp only [Builtin.delete_, h0, Sem.run_bind, run_underlying hu, Result.andThen_ok, hg, hc, hr, hset, Sem.run_pure, List.getElem?_toArray, List.getElem?_cons_zero, List.getElem?_cons_succ]
            · cases ho
              exact OR.of_er (setBlock_at h1) hE
        · cases h
    · cases h
  · cases h
theorem mapEntry_ok (hI : Inv C ρ s w) {ks : TypeId → Option Ks} (hks : KsOk C.P ks) {t e : TypeId} {k : Ks} (hm : mapKs C.P t = some (k, e)) {z : V} (hz : zeroOf C.P e = some z) {b : Nm} {es : List (V × V × Nat)} {clock : Nat} {key : V} {cm ck : Value} (hmr : VR ρ (.map b) cm) (hkey : VR ρ key ck) (hb : s.heap.get b = some (.map es clock))
    (h : (match findKey s.heap ks k key es with
      | some (some (i, v, born)) => some (V.tup [v, .int .i64 born], { s with heap := s.heap.set (some (.map (setNth i (key, v, born) es) clock)) b })
      | some none => some (.tup [z, .int .i64 clock], { s with heap := s.heap.set (some (.map (snoc es (key, z, clock)) (clock + 1))) b })
      | none => none) = some (v, s')) : VOk C ρ s w v s' (Instr.mapEntry t cm ck) := by
  obtain ⟨kt, hu, hk, d, hd⟩ := mapKs_spec hm
  obtain ⟨cz, hz1, hz2⟩ := zeroOf_spec hz
  have tup : ∀ (x : V) (cx : Value) (n : Nat), VR ρ x cx → VR ρ (.tup [x, .int .i64 n]) (.tuple #[cx, .int .i64 n]) := by
    intro x cx n hx
    refine .tup rfl fun i y cy hy hcy => ?_
    match i with
    | 0 => simp at hy hcy; subst hy; subst hcy; exact hx
    | 1 => simp at hy hcy; subst hy; subst hcy; exact .int _ _
    | i + 2 => simp at hy
  cases hmr with
  | map hl =>
    rename_i l
    obtain ⟨en, h1, hE⟩ := ER.of_map hI hb hl
    have hg := run_getObj_at (P := C.P) h1 (fun _ _ _ e => by cases e)
    have hset : ∀ o, (setObj l.c o).run C.P w = .ok () { w with heap := w.heap.setIfInBounds l.c o } := fun o => run_setObj_at' o h1 (fun _ _ _ e => by cases e)
    split at h
    · rename_i i v0 born hf
      cases h
      obtain ⟨hc, cr, hr, hfr⟩ := findKey_ok hI hks hk hd hkey hE hf
      cases cr with
      | none => exact hfr.elim
      | some q =>
        obtain ⟨i', cv⟩ := q
        obtain ⟨rfl, _, a, e', ha, he', hcv, hka, hva, hborn, heq⟩ := hfr
        have hok : keyOk ks k key = true := by
          unfold findKey at hf
          split at hf
          · assumption
          · cases hf
        have hst := stays_ok hI hkey hka hok heq
        have hen : en[i']? = some e' := by simpa using he'
        refine ⟨.tuple #[cv, .int .i64 born], ρ, { w with heap := w.heap.setIfInBounds l.c (.map (en.modify i' fun e => { e with key := ck }) clock) }, ?_, tup _ _ _ (by rw [hcv]; exact hva), ext_set hI (by rw [hb]; simp) hl setBlock_upd _ fun o' ho => ?_⟩
        · unfold Instr.mapEntry
          simp only [Sem.run_bind, run_underlying hu, Result.andThen_ok, hg, hc, hr, hen, Option.map_some, Option.getD_some, hst, hset, goInt, hborn, Sem.run_pure]
        · cases ho
          refine OR.of_er (setBlock_at h1) (hE.set fun e he => ?_)
          rw [hen] at he; cases he
          exact ⟨hborn, hkey, hva⟩
    · rename_i hf
      cases h
      obtain ⟨hc, cr, hr, hfr⟩ := findKey_ok hI hks hk hd hkey hE hf
      cases cr with
      | some _ => exact hfr.elim
      | none =>
        refine ⟨.tuple #[cz, .int .i64 clock], ρ, { w with heap := w.heap.setIfInBounds l.c (.map (en.push { key := ck, val := cz, born := clock }) (clock + 1)) }, ?_, tup _ _ _ (hz2 ρ), ext_set hI (by rw [hb]; simp) hl setBlock_upd _ fun o' ho => ?_⟩
        · unfold Instr.mapEntry
          simp only [Sem.run_bind, run_underlying hu, Result.andThen_ok, hg, hc, hr, hz1, hset, goInt, Sem.run_pure]
        · cases ho
          exact OR.of_er (setBlock_at h1) (hE.snoc (e := { key := ck, val := cz, born := clock }) hkey (hz2 ρ))
    · cases h
end
end Go.Eng
end
section
namespace Go.Eng
section
variable {C : Ctx} {ρ : Rho} {s s' : St} {w : World} {v : V}
theorem setBorn_spec {n : Nat} {v : V} : ∀ {es es' : List (V × V × Nat)}, setBorn n v es = some es' → ∃ i k x, es[i]? = some (k, x, n) ∧ es' = setNth i (k, v, n) es ∧ ∀ j < i, ∀ p, es[j]? = some p → p.2.2 ≠ n
  | [], es', h => by simp [setBorn] at h
  | (k, x, m) :: es, es', h => by
    simp only [setBorn] at h
    split at h
    · rename_i hm
      rw [Nat.beq_eq] at hm
      subst hm; cases h
      exact ⟨0, k, x, rfl, rfl, fun j hj => by omega⟩
    · rename_i hm
      split at h
      · rename_i r hr
        cases h
        obtain ⟨i, k', x', h1, h2, h3⟩ := setBorn_spec hr
        refine ⟨i + 1, k', x', by simpa using h1, by rw [h2]; rfl, fun j hj p hp => ?_⟩
        cases j with
        | zero =>
          simp at hp; subst hp
          intro e
          simp only at e
          subst e
          rw [Bool.eq_false_iff] at hm
          exact hm (by rw [Nat.beq_eq])
        | succ j => exact h3 j (by omega) p (by simpa using hp)
      · cases h
theorem findIdx_of : ∀ {L : List MapEntry} {p : MapEntry → Bool} {i : Nat} {e : MapEntry}, L[i]? = some e → p e = true → (∀ j < i, ∀ x, L[j]? = some x → p x = false) → L.findIdx? p = some i
  | [], p, i, e, h, _, _ => by simp at h
  | a :: L, p, 0, e, h, he, _ => by simp at h; subst h; simp [List.findIdx?_cons, he]
  | a :: L, p, i + 1, e, h, he, hj => by
    have h0 := hj 0 (by omega) a rfl
    have := findIdx_of (L := L) (p := p) (i := i) (e := e) (by simpa using h) he (fun j hlt x hx => hj (j + 1) (by omega) x (by simpa using hx))
    simp [List.findIdx?_cons, h0, this]
theorem entryStore_ok (hI : Inv C ρ s w) {t : TypeId} {b : Nm} {es es' : List (V × V × Nat)} {clock n : Nat} {x y : V} {cm cn cx : Value} (hmr : VR ρ (.map b) cm) (hn : VR ρ y cn) (en : natOf y = some n) (hx : VR ρ x cx) (hb : s.heap.get b = some (.map es clock))
    (h : setBorn n x es = some es') : ∃ ρ' w', (Instr.entryStore t cm cn cx).run C.P w = .ok () w' ∧ Ext C ρ s w ρ' { s with heap := s.heap.set (some (.map es' clock)) b } w' := by
  obtain ⟨kk, rfl⟩ := natOf_spec hn en
  cases hmr with
  | map hl =>
    rename_i l
    obtain ⟨arr, h1, hE⟩ := ER.of_map hI hb hl
    have hg := run_getObj_at (P := C.P) h1 (fun _ _ _ e => by cases e)
    have hset : ∀ o, (setObj l.c o).run C.P w = .ok () { w with heap := w.heap.setIfInBounds l.c o } := fun o => run_setObj_at' o h1 (fun _ _ _ e => by cases e)
    obtain ⟨i, k, x0, h2, rfl, h3⟩ := setBorn_spec h
    obtain ⟨e, e1, e2, e3, e4⟩ := hE.rel i k x0 n h2
    have hfi : arr.findIdx? (fun e => (e.born : Int) == (n : Int)) = some i := by
      have ha : arr = arr.toList.toArray := by simp
      rw [ha, List.findIdx?_toArray]
      refine findIdx_of e1 (by simp [e2]) fun j hj q hq => ?_
      have hlt : j < es.length := by
        have := (List.getElem?_eq_some_iff.1 hq).1
        rw [hE.len] at this; exact this
      obtain ⟨q', g1, g2, _⟩ := hE.rel j es[j].1 es[j].2.1 es[j].2.2 (by rw [List.getElem?_eq_getElem hlt])
      rw [hq] at g1; cases g1
      have := h3 j hj es[j] (List.getElem?_eq_getElem hlt)
      rw [g2]
      simp; omega
    refine ⟨ρ, { w with heap := w.heap.setIfInBounds l.c (.map (arr.modify i fun e => { e with val := cx }) clock) }, ?_, ext_set hI (by rw [hb]; simp) hl setBlock_upd _ fun o' ho => ?_⟩
    · unfold Instr.entryStore
      simp only [Sem.run_bind, Result.andThen_ok, hg, asInt, asIntOf, Sem.run_pure, hfi, hset]
    · cases ho
      refine OR.of_er (setBlock_at h1) (hE.set fun e' he => ?_)
      have he' : e' = e := by
        have : arr[i]? = some e := by simpa using e1
        rw [this] at he; cases he; rfl
      subst he'
      exact ⟨e2, e3, hx⟩
theorem rangeStr_ok (hI : Inv C ρ s w) {t : TypeId} (hu : C.P.underlying t = some .string) {l : List Nat} {cx : Value} (hx : VR ρ (.str l) cx) : VOk C ρ s w (.it s.next) (new s (.sIter l 0)).2 (Instr.range t cx) := by
  cases hx with
  | str e =>
    rename_i bs
    have hext := ext_new hI (.stringIter bs 0) (.sIter l 0) 1 0 0 ⟨bs, heap_alloc_new w _, e⟩
    refine ⟨_, _, _, ?_, .it (Rho.add_same ρ s.next ⟨w.heap.size, 0, 1, 0⟩), hext⟩
    simp [Instr.range, run_underlying hu]
theorem rangeNil_ok (hI : Inv C ρ s w) {t k e : TypeId} (hu : C.P.underlying t = some (.map k e)) {cx : Value} (hx : VR ρ .nilm cx) : VOk C ρ s w (.it s.next) (new s (.mIter none 0 [] 0)).2 (Instr.range t cx) := by
  cases hx
  have hext := ext_new hI (.mapIter none 0 #[] 0) (.mIter none 0 [] 0) 1 0 0 ⟨none, heap_alloc_new w _, rfl⟩
  refine ⟨_, _, _, ?_, .it (Rho.add_same ρ s.next ⟨w.heap.size, 0, 1, 0⟩), hext⟩
  simp [Instr.range, run_underlying hu]
theorem rangeMap_ok (hI : Inv C ρ s w) {t k e : TypeId} (hu : C.P.underlying t = some (.map k e)) {m : Nm} {es : List (V × V × Nat)} {clock : Nat} {cx : Value} (hx : VR ρ (.map m) cx) (hb : s.heap.get m = some (.map es clock)) :
    VOk C ρ s w (.it s.next) (new s (.mIter (some m) clock [] clock)).2 (Instr.range t cx) := by
  cases hx with
  | map hl =>
    rename_i l
    obtain ⟨arr, h1, hE⟩ := ER.of_map hI hb hl
    have hg := run_getObj_at (P := C.P) h1 (fun _ _ _ e => by cases e)
    have hle : ρ.Le (ρ.add s.next ⟨w.heap.size, 0, 1, 0⟩) := Rho.le_add hI.next_none.1
    have hext := ext_new hI (.mapIter (some l.c) clock #[] clock) (.mIter (some m) clock [] clock) 1 0 0 ⟨some l.c, heap_alloc_new w _, l, hle.blk _ _ hl, rfl⟩
    refine ⟨_, _, _, ?_, .it (Rho.add_same ρ s.next ⟨w.heap.size, 0, 1, 0⟩), hext⟩
    simp only [Instr.range, Sem.run_bind, run_underlying hu, Result.andThen_ok, hg, Sem.run_pure]
    simp
theorem dec_eq (bs : ByteArray) (i : Nat) (g1 g2 g3 : Option Nat) (h1 : ∀ k g, (k = 1 ∧ g = g1 ∨ k = 2 ∧ g = g2 ∨ k = 3 ∧ g = g3) → g = if i + k < bs.size then some (bs.get! (i + k)).toNat else none) :
    dec (bs.get! (i + 0)).toNat g1 g2 g3 = Utf8.decode bs i := by
  have cont : ∀ k g, (k = 1 ∧ g = g1 ∨ k = 2 ∧ g = g2 ∨ k = 3 ∧ g = g3) → (decide (i + k < bs.size) && (bs.get! (i + k)).toNat / 64 == 2) = contB g ∧ (contB g = true → (bs.get! (i + k)).toNat % 64 = low6 g) := by
    intro k g hk
    rw [h1 k g hk]
    by_cases c : i + k < bs.size
    · rw [if_pos c]
      refine ⟨?_, fun _ => rfl⟩
      rw [decide_eq_true c, Bool.true_and]
      rw [Bool.eq_iff_iff, contB, Nat.beq_eq, beq_iff_eq]
    · rw [if_neg c]
      exact ⟨by simp [c, contB], fun h => by simp [contB] at h⟩
  obtain ⟨c1, l1⟩ := cont 1 g1 (.inl ⟨rfl, rfl⟩)
  obtain ⟨c2, l2⟩ := cont 2 g2 (.inr (.inl ⟨rfl, rfl⟩))
  obtain ⟨c3, l3⟩ := cont 3 g3 (.inr (.inr ⟨rfl, rfl⟩))
  have b1 : ∀ a b : Nat, Nat.blt a b = decide (a < b) := fun a b => by rw [Bool.eq_iff_iff, Nat.blt_eq, decide_eq_true_iff]
  have b2 : ∀ a b : Nat, Nat.beq a b = (a == b) := fun a b => by rw [Bool.eq_iff_iff, Nat.beq_eq, beq_iff_eq]
  have b3 : ∀ a b : Nat, Nat.ble a b = decide (a ≤ b) := fun a b => by rw [Bool.eq_iff_iff, Nat.ble_eq, decide_eq_true_iff]
  unfold dec Utf8.decode
  simp only [c1, c2, c3, b1, b2, b3, decide_eq_true_eq, valid_nat, ge_iff_le]
  split
  · rfl
  · split
    · rename_i h
      simp only [Bool.and_eq_true] at h
      rw [l1 h.2]; rfl
    · split
      · rename_i h
        simp only [Bool.and_eq_true] at h
        rw [l1 h.1.2, l2 h.2]; rfl
      · split
        · rename_i h
          simp only [Bool.and_eq_true] at h
          rw [l1 h.1.1.2, l2 h.1.2, l3 h.2]; rfl
        · rfl
theorem get_list (bs : ByteArray) (k : Nat) : (bs.data.toList.map UInt8.toNat)[k]? = if k < bs.size then some (bs.get! k).toNat else none := by
  by_cases c : k < bs.size
  · rw [if_pos c]
    have hlt : k < bs.data.size := c
    have : bs.get! k = bs.data[k] := by
      cases bs with
      | mk d => simp [ByteArray.get!, getElem!_pos d k hlt]
    rw [this]; simp
    exact ⟨_, Array.getElem?_eq_getElem hlt, rfl⟩
  · rw [if_neg c]
    have hlt : ¬ k < bs.data.size := c
    simp
    omega
theorem decode_eq (bs : ByteArray) (pos : Nat) (h : pos < bs.size) : decode ((bs.data.toList.map UInt8.toNat).drop pos) = Utf8.decode bs pos := by
  cases hd : (bs.data.toList.map UInt8.toNat).drop pos with
  | nil =>
    have : (bs.data.toList.map UInt8.toNat).length ≤ pos := List.drop_eq_nil_iff.1 hd
    have h2 : bs.data.toList.length = bs.size := rfl
    simp at this
    have h3 : bs.data.size = bs.size := rfl
    omega
  | cons b0 r =>
    have hk : ∀ k, (b0 :: r)[k]? = if pos + k < bs.size then some (bs.get! (pos + k)).toNat else none := by
      intro k
      rw [← hd, List.getElem?_drop, get_list]
    have h0 := hk 0
    rw [if_pos (by omega)] at h0
    simp only [List.getElem?_cons_zero, Option.some.injEq] at h0
    subst h0
    simp only [decode]
    apply dec_eq
    rintro k g (⟨rfl, rfl⟩ | ⟨rfl, rfl⟩ | ⟨rfl, rfl⟩) <;> rw [nth_eq, ← hk] <;> rfl
theorem nextStr_ok (hI : Inv C ρ s w) {t : TypeId} {b : Nm} {l : List Nat} {pos : Nat} {cx : Value} (hx : VR ρ (.it b) cx) (hb : s.heap.get b = some (.sIter l pos))
    (h : (if Nat.blt pos l.length then
        some (V.tup [.bool true, .int .i64 pos, .int .i32 (decode (l.drop pos)).1], { s with heap := s.heap.set (some (.sIter l (pos + (decode (l.drop pos)).2))) b })
      else some (.tup [.bool false], s)) = some (v, s')) : VOk C ρ s w v s' (Instr.next cx true t) := by
  cases hx with
  | it hl =>
    rename_i loc
    obtain ⟨bs, h1, rfl⟩ := hI.obj _ _ _ hb hl
    have hg := run_getObj_at (P := C.P) h1 (fun _ _ _ e => by cases e)
    have hset : ∀ o, (setObj loc.c o).run C.P w = .ok () { w with heap := w.heap.setIfInBounds loc.c o } := fun o => run_setObj_at' o h1 (fun _ _ _ e => by cases e)
    have hlen : (bs.data.toList.map UInt8.toNat).length = bs.size := by simp
    rw [hlen] at h
    by_cases c : pos < bs.size
    · have hc : Nat.blt pos bs.size = true := by rw [Nat.blt_eq]; exact c
      rw [if_pos hc, decode_eq bs pos c] at h
      cases h
      refine ⟨.tuple #[.bool true, goInt pos, .int .i32 (Utf8.decode bs pos).1], ρ, { w with heap := w.heap.setIfInBounds loc.c (.stringIter bs (pos + (Utf8.decode bs pos).2)) }, ?_, ?_, ext_set hI (by rw [hb]; simp) hl setBlock_upd _ fun o' ho => ?_⟩
      · unfold Instr.next
        simp only [Sem.run_bind, hg, Result.andThen_ok]
        rw [if_pos c]
        simp only [Sem.run_bind, hset, Result.andThen_ok, Sem.run_pure]
      · refine .tup rfl fun i y cy hy hcy => ?_
        match i with
        | 0 => simp at hy hcy; subst hy; subst hcy; exact .bool _
        | 1 => simp at hy hcy; subst hy; subst hcy; exact .int _ _
        | 2 => simp at hy hcy; subst hy; subst hcy; exact .int _ _
        | i + 3 => simp at hy
      · cases ho
        exact ⟨bs, setBlock_at h1, rfl⟩
    · have hc : ¬ Nat.blt pos bs.size = true := by rw [Nat.blt_eq]; exact c
      rw [if_neg hc] at h
      cases h
      refine VOk.same hI (cv := .tuple #[.bool false]) ?_ ?_
      · unfold Instr.next
        simp only [Sem.run_bind, hg, Result.andThen_ok]
        rw [if_neg c]; rfl
      · refine .tup rfl fun i y cy hy hcy => ?_
        match i with
        | 0 => simp at hy hcy; subst hy; subst hcy; exact .bool _
        | i + 1 => simp at hy
end
end Go.Eng
end
section
namespace Go.Eng
section
variable {C : Ctx} {ρ : Rho} {s s' : St} {w : World} {v : V}
theorem okTup {x : V} {cx : Value} (okb b : Bool) (hx : VR ρ x cx) : VR ρ (if okb then .tup [x, .bool b] else x) (if okb then .tuple #[cx, .bool b] else cx) := by
  cases okb with
  | false => exact hx
  | true =>
    refine .tup rfl fun i y cy hy hcy => ?_
    match i with
    | 0 => simp at hy hcy; subst hy; subst hcy; exact hx
    | 1 => simp at hy hcy; subst hy; subst hcy; exact .bool _
    | i + 2 => simp at hy
theorem assertT_ok (hI : Inv C ρ s w) {t xt : TypeId} {d : TypeDesc} (hu : C.P.underlying t = some d) (hd : ∀ ms, d ≠ .interface ms) {z : V} (hz : zeroOf C.P t = some z) {x : V} {okb : Bool}
    (h : (match x with
      | .iface u v => if Nat.beq t u then some ((if okb then V.tup [v, .bool true] else v), s) else if okb then some (.tup [z, .bool false], s) else none
      | .nili => if okb then some (.tup [z, .bool false], s) else none
      | _ => none) = some (v, s')) {cx : Value} (hx : VR ρ x cx) : VOk C ρ s w v s' (Instr.typeAssert cx xt t okb) := by
  obtain ⟨cz, hz1, hz2⟩ := zeroOf_spec hz
  cases x <;> try (cases h; done)
  · rename_i u y
    simp only at h
    cases hx with
    | iface hy =>
      rename_i cy
      split at h
      · rename_i he
        rw [Nat.beq_eq] at he
        subst he
        cases h
        refine VOk.same hI ?_ (okTup okb true hy)
        unfold Instr.typeAssert
        rw [Sem.run_bind, run_underlying hu, Result.andThen_ok]
        cases d <;> first
          | exact absurd rfl (hd _)
          | simp
      · rename_i he
        rw [Nat.beq_eq] at he
        split at h
        · cases h
          have hne : ¬ u = t := fun e => he e.symm
          rename_i hok
          subst hok
          refine VOk.same hI ?_ (okTup true false (hz2 ρ))
          unfold Instr.typeAssert
          rw [Sem.run_bind, run_underlying hu, Result.andThen_ok]
          cases d <;> first
            | exact absurd rfl (hd _)
            | simp [hne, hz1]
        · cases h
  · simp only at h
    cases hx
    split at h
    · cases h
      rename_i hok
      subst hok
      refine VOk.same hI ?_ (okTup true false (hz2 ρ))
      unfold Instr.typeAssert
      rw [Sem.run_bind, run_underlying hu, Result.andThen_ok]
      cases d <;> first
        | exact absurd rfl (hd _)
        | simp [hz1]
    · cases h
def HmOk (P : Program) (hm : TypeId → List (String × TypeId) → Option Bool) : Prop :=
  ∀ u ms b, hm u ms = some b → ∃ i, P.info? u = some i ∧ b = (Instr.missingMethod ms.toArray i.methods).isNone
theorem assertI_ok (hI : Inv C ρ s w) {t xt : TypeId} {ms : Array (String × TypeId)} (hu : C.P.underlying t = some (.interface ms)) (hz : zeroOf C.P t = some .nili) {hm : TypeId → List (String × TypeId) → Option Bool} (hhm : HmOk C.P hm) {x : V} {okb : Bool}
    (h : (match x with
      | .iface u v => match hm u ms.toList with
        | some true => some ((if okb then V.tup [.iface u v, .bool true] else .iface u v), s)
        | some false => if okb then some (.tup [.nili, .bool false], s) else none
        | none => none
      | .nili => if okb then some (.tup [.nili, .bool false], s) else none
      | _ => none) = some (v, s')) {cx : Value} (hx : VR ρ x cx) : VOk C ρ s w v s' (Instr.typeAssert cx xt t okb) := by
  obtain ⟨cz, hz1, hz2⟩ := zeroOf_spec hz
  cases x <;> try (cases h; done)
  · rename_i u y
    simp only at h
    cases hx with
    | iface hy =>
      rename_i cy
      split at h
      · rename_i hm'
        obtain ⟨i, hi, hb⟩ := hhm _ _ _ hm'
        have hnone : Instr.missingMethod ms i.methods = none := by simpa using hb.symm
        cases h
        refine VOk.same hI ?_ (okTup okb true (.iface hy))
        unfold Instr.typeAssert
        rw [Sem.run_bind, run_underlying hu, Result.andThen_ok]
        simp [typeInfo, hi, hnone]
      · rename_i hm'
        obtain ⟨i, hi, hb⟩ := hhm _ _ _ hm'
        obtain ⟨m, hsome⟩ : ∃ m, Instr.missingMethod ms i.methods = some m := by
          cases hq : Instr.missingMethod ms i.methods with
          | some m => exact ⟨m, rfl⟩
          | none => simp [hq] at hb
        split at h
        · cases h
          rename_i hok
          subst hok
          refine VOk.same hI ?_ (okTup true false (hz2 ρ))
          unfold Instr.typeAssert
          rw [Sem.run_bind, run_underlying hu, Result.andThen_ok]
          simp [typeInfo, hi, hsome, hz1]
        · cases h
      · cases h
  · simp only at h
    cases hx
    split at h
    · cases h
      rename_i hok
      subst hok
      refine VOk.same hI ?_ (okTup true false (hz2 ρ))
      unfold Instr.typeAssert
      rw [Sem.run_bind, run_underlying hu, Result.andThen_ok]
      simp [hz1]
    · cases h
theorem ER.filter {p : V × V × Nat → Bool} {q : MapEntry → Bool} (hpq : ∀ k x n (e : MapEntry), e.born = n → p (k, x, n) = q e) : ∀ {es : List (V × V × Nat)} {L : List MapEntry}, ER ρ es L → ER ρ (es.filter p) (L.filter q)
  | [], L, h => by
    have : L = [] := List.length_eq_zero_iff.1 (by rw [h.len]; rfl)
    subst this; simpa using h
  | (k, x, n) :: es, L, h => by
    cases L with
    | nil => have := h.len; simp at this
    | cons e L =>
      obtain ⟨e', h1, h2, h3, h4⟩ := h.rel 0 k x n rfl
      simp only [List.getElem?_cons_zero, Option.some.injEq] at h1
      subst h1
      have ih := h.tail.filter hpq
      have := hpq k x n e h2
      simp only [List.filter_cons, ← this]
      split
      · refine ⟨by simp [ih.len], fun i k' v' n' hi => ?_⟩
        cases i with
        | zero => simp at hi; obtain ⟨rfl, rfl, rfl⟩ := hi; exact ⟨e, rfl, h2, h3, h4⟩
        | succ i => simp only [List.getElem?_cons_succ] at hi ⊢; exact ih.rel i k' v' n' hi
      · exact ih
theorem ER.append {es es' : List (V × V × Nat)} {L L' : List MapEntry} (h : ER ρ es L) (h' : ER ρ es' L') : ER ρ (es ++ es') (L ++ L') := by
  refine ⟨by simp [h.len, h'.len], fun i k v n hi => ?_⟩
  by_cases c : i < es.length
  · rw [List.getElem?_append_left c] at hi
    rw [List.getElem?_append_left (by rw [h.len]; exact c)]
    exact h.rel i k v n hi
  · rw [List.getElem?_append_right (by omega)] at hi
    rw [List.getElem?_append_right (by rw [h.len]; omega), h.len]
    exact h'.rel _ k v n hi
theorem seenHas_eq (n : Nat) : ∀ l : List Nat, seenHas n l = l.contains n
  | [] => rfl
  | a :: l => by
    simp only [seenHas, List.contains_cons, seenHas_eq n l]
    congr 1
    rw [Bool.eq_iff_iff, Nat.beq_eq, beq_iff_eq]; exact eq_comm
theorem entry_ok (hI : Inv C ρ s w) {b m : Nm} {es : List (V × V × Nat)} {clock since n last : Nat} {seen : List Nat} {cx : Value} {k x : V} {q : Nat} (hx : VR ρ (.it b) cx) (hb : s.heap.get b = some (.mIter (some m) since seen last)) (hm : s.heap.get m = some (.map es clock)) (hc : clock = last)
    (hl : seen.getLast? = some n) (hf : es.find? (fun e => Nat.beq e.2.2 n) = some (k, x, q)) : VOk C ρ s w (.tup [k, x]) s (Instr.entry cx) := by
  cases hx with
  | it hloc =>
    obtain ⟨cm, h1, lb, h2, rfl⟩ := hI.obj _ _ _ hb hloc
    obtain ⟨en, h3, hE⟩ := ER.of_map hI hm h2
    have hg := run_getObj_at (P := C.P) h1 (fun _ _ _ e => by cases e)
    have hg' := run_getObj_at (P := C.P) h3 (fun _ _ _ e => by cases e)
    have key : ∀ {es : List (V × V × Nat)} {L : List MapEntry}, ER ρ es L → es.find? (fun e => Nat.beq e.2.2 n) = some (k, x, q) → ∃ e, L.find? (·.born == n) = some e ∧ VR ρ k e.key ∧ VR ρ x e.val := by
      intro es
      induction es with
      | nil => intro L _ h; simp at h
      | cons p es ih =>
        intro L hE h
        cases L with
        | nil => have := hE.len; simp at this
        | cons e L =>
          obtain ⟨pk, px, pn⟩ := p
          obtain ⟨e', g1, g2, g3, g4⟩ := hE.rel 0 pk px pn rfl
          simp only [List.getElem?_cons_zero, Option.some.injEq] at g1
          subst g1
          have hbb : Nat.beq pn n = (e.born == n) := by rw [g2, Bool.eq_iff_iff, Nat.beq_eq, beq_iff_eq]
          simp only [List.find?_cons, hbb] at h ⊢
          split at h
          · cases h
            exact ⟨e, by simp_all, g3, g4⟩
          · exact ih hE.tail h
    obtain ⟨e, g1, g2, g3⟩ := key hE hf
    have hback : seen.toArray.back? = some n := by simpa using hl
    have hfind : en.find? (·.born == n) = some e := by
      have : en = en.toList.toArray := by simp
      rw [this, List.find?_toArray]; exact g1
    refine VOk.same hI (cv := .tuple #[e.key, e.val]) ?_ ?_
    · unfold Instr.entry
      simp only [Sem.run_bind, hg, Result.andThen_ok, hback, hg', hc]
      simp [hfind]
    · refine .tup rfl fun i y cy hy hcy => ?_
      match i with
      | 0 => simp at hy hcy; subst hy; subst hcy; exact g2
      | 1 => simp at hy hcy; subst hy; subst hcy; exact g3
      | i + 2 => simp at hy
def mCands (en : Array MapEntry) (since : Nat) (seen : Array Nat) : Array (Option MapEntry) :=
  let left := en.filter fun e => !seen.contains e.born
  let old := left.filter (·.born < since)
  let new := left.filter (·.born ≥ since)
  (if old.isEmpty then #[none] else #[]) ++ (old ++ new).map some
def CandR (ρ : Rho) : Option (V × V × Nat) → Option MapEntry → Prop
  | none, none => True
  | some (k, v, n), some e => e.born = n ∧ VR ρ k e.key ∧ VR ρ v e.val
  | _, _ => False
theorem cands_gen {O N : List (V × V × Nat)} {oA nA : Array MapEntry} (ho : ER ρ O oA.toList) (hn : ER ρ N nA.toList) :
    ((if oA.isEmpty then #[none] else #[]) ++ (oA ++ nA).map some : Array (Option MapEntry)).size = ((if O.isEmpty then [none] else []) ++ (O ++ N).map some).length ∧
      ∀ (i : Nat) c, ((if O.isEmpty then [none] else []) ++ (O ++ N).map some)[i]? = some c → ∃ d, ((if oA.isEmpty then #[none] else #[]) ++ (oA ++ nA).map some : Array (Option MapEntry))[i]? = some d ∧ CandR ρ c d := by
  have hboth := ho.append hn
  have hemp : O.isEmpty = oA.isEmpty := by
    have := ho.len
    rw [Bool.eq_iff_iff, List.isEmpty_iff_length_eq_zero, ← this, Array.isEmpty_iff_size_eq_zero]
    simp
  have hlist : ∀ (i : Nat) c, ((O ++ N).map some)[i]? = some c → ∃ d, ((oA ++ nA).map some)[i]? = some d ∧ CandR ρ c d := by
    intro i c hc
    rw [List.getElem?_map, Option.map_eq_some_iff] at hc
    obtain ⟨⟨k, x, n⟩, hi, rfl⟩ := hc
    obtain ⟨e, h1, h2, h3, h4⟩ := hboth.rel i k x n hi
    refine ⟨some e, ?_, h2, h3, h4⟩
    rw [Array.getElem?_map, ← Array.getElem?_toList, Array.toList_append, h1]; rfl
  have hlen := hboth.len
  rw [List.length_append, List.length_append, Array.length_toList, Array.length_toList] at hlen
  rw [hemp]
  split
  · refine ⟨?_, fun i c hc => ?_⟩
    · rw [Array.size_append, Array.size_map, Array.size_append, List.length_append, List.length_map, List.length_append, hlen]; rfl
    · cases i with
      | zero =>
        rw [List.getElem?_append_left (by simp)] at hc
        simp at hc; subst hc
        exact ⟨none, by rw [Array.getElem?_append_left (by simp)]; rfl, trivial⟩
      | succ i =>
        rw [List.getElem?_append_right (by simp)] at hc
        obtain ⟨d, h1, h2⟩ := hlist i c (by simpa using hc)
        refine ⟨d, ?_, h2⟩
        rw [Array.getElem?_append_right (by simp)]
        simpa using h1
  · refine ⟨?_, fun i c hc => ?_⟩
    · rw [Array.size_append, Array.size_map, Array.size_append, List.length_append, List.length_map, List.length_append, hlen]; rfl
    · rw [List.nil_append] at hc
      obtain ⟨d, h1, h2⟩ := hlist i c hc
      exact ⟨d, by rw [Array.empty_append]; exact h1, h2⟩
theorem cands_ok {es : List (V × V × Nat)} {en : Array MapEntry} (hE : ER ρ es en.toList) (since : Nat) (seen : List Nat) :
    (mCands en since seen.toArray).size = (cands es since seen).length ∧ ∀ (i : Nat) c, (cands es since seen)[i]? = some c → ∃ d, (mCands en since seen.toArray)[i]? = some d ∧ CandR ρ c d := by
  have hleft : ER ρ (es.filter fun e => !seenHas e.2.2 seen) (en.filter fun e => !seen.toArray.contains e.born).toList := by
    rw [Array.toList_filter]
    exact hE.filter fun k x n e h => by simp [seenHas_eq, h]
  have hold : ER ρ ((es.filter fun e => !seenHas e.2.2 seen).filter fun e => Nat.blt e.2.2 since) ((en.filter fun e => !seen.toArray.contains e.born).filter (·.born < since)).toList := by
    rw [Array.toList_filter]
    exact hleft.filter fun k x n e h => by rw [Bool.eq_iff_iff, Nat.blt_eq, decide_eq_true_iff, h]
  have hnew : ER ρ ((es.filter fun e => !seenHas e.2.2 seen).filter fun e => Nat.ble since e.2.2) ((en.filter fun e => !seen.toArray.contains e.born).filter (·.born ≥ since)).toList := by
    rw [Array.toList_filter]
    exact hleft.filter fun k x n e h => by rw [Bool.eq_iff_iff, Nat.ble_eq, decide_eq_true_iff, h]
  exact cands_gen hold hnew
def choice (w : World) (n : Nat) : Nat := w.tape w.drawn (.mapNext n) % n
theorem run_mapChoice {P : Program} (w : World) (n : Nat) : (choose (.mapNext n)).run P w = if n ≤ 1 then .ok 0 w else .ok (choice w n) w.drew := by
  rw [run_choose_drew]
  by_cases h : n ≤ 1
  · simp [Question.forced, h]
  · simp [Question.forced, h, Question.cut, choice]
theorem next_found {C : Ctx} {ρ : Rho} {s s' : St} {w : World} {v : V} (hI : Inv C ρ s w) {b m : Nm} {loc lb : Loc} (hloc : ρ.blk b = some loc) (hm : ρ.blk m = some lb) {since last clock : Nat} {seen : List Nat} (hb : s.heap.get b = some (.mIter (some m) since seen last))
    (h1 : w.heap[loc.c]? = some (.mapIter (some lb.c) since seen.toArray last)) {c : Option (V × V × Nat)} {d : Option MapEntry} (hcd : CandR ρ c d) (h : nextOf s b m since clock seen (some c) = some (v, s')) :
    ∃ cv ρ' w', ((match d with
      | some e => do
        setObj loc.c (.mapIter (some lb.c) since (seen.toArray.push e.born) clock)
        pure (.tuple #[.bool true, e.key, e.val])
      | none => pure (.tuple #[.bool false]) : Sem Value)).run C.P w = .ok cv w' ∧ VR ρ' v cv ∧ Ext C ρ s w ρ' s' w' := by
  cases c with
  | none => cases d with
    | some _ => exact hcd.elim
    | none =>
      simp only [nextOf] at h
      cases h
      refine ⟨_, ρ, w, rfl, .tup rfl fun i y cy hy hcy => ?_, Ext.refl hI⟩
      match i with
      | 0 => simp at hy hcy; subst hy; subst hcy; exact .bool _
      | i + 1 => simp at hy
  | some p => cases d with
    | none => exact hcd.elim
    | some e =>
      obtain ⟨k, x, n⟩ := p
      obtain ⟨rfl, hk, hx⟩ := hcd
      simp only [nextOf] at h
      cases h
      have hset := run_setObj_at' (P := C.P) (.mapIter (some lb.c) since (seen.toArray.push e.born) clock) h1 (fun _ _ _ e => by cases e)
      refine ⟨.tuple #[.bool true, e.key, e.val], ρ, { w with heap := w.heap.setIfInBounds loc.c (.mapIter (some lb.c) since (seen.toArray.push e.born) clock) }, by simp only [Sem.run_bind, hset, Result.andThen_ok, Sem.run_pure], .tup rfl fun i y cy hy hcy => ?_, ext_set hI (by rw [hb]; simp) hloc setBlock_upd _ fun o' ho => ?_⟩
      · match i with
        | 0 => simp at hy hcy; subst hy; subst hcy; exact .bool _
        | 1 => simp at hy hcy; subst hy; subst hcy; exact hk
        | 2 => simp at hy hcy; subst hy; subst hcy; exact hx
        | i + 3 => simp at hy
      · cases ho
        refine ⟨some lb.c, ?_, lb, hm, rfl⟩
        rw [setBlock_at h1]
        simp [snoc]
theorem nextMap_ok (hI : Inv C ρ s w) {t : TypeId} {b : Nm} {cx : Value} (hx : VR ρ (.it b) cx) {br : Nat} :
    ∃ n, (n = 0 ∨ n < br) ∧ ∀ (or : Nat → Nat) (v : V) (s' : St), or s.drawn = n → nextMap or br s b = some (v, s') → VOk C ρ s w v s' (Instr.next cx false t) := by
  cases hx with
  | it hloc =>
    rename_i loc
    by_cases hex : ∃ m es clock since last seen, s.heap.get b = some (.mIter (some m) since seen last) ∧ s.heap.get m = some (.map es clock)
    · obtain ⟨m, es, clock, since, last, seen, hb, hm⟩ := hex
      obtain ⟨cm, h1, lb, h2, rfl⟩ := hI.obj _ _ _ hb hloc
      obtain ⟨en, h3, hE⟩ := ER.of_map hI hm h2
      obtain ⟨c1, c2⟩ := cands_ok hE since seen
      have hg := run_getObj_at (P := C.P) h1 (fun _ _ _ e => by cases e)
      have hg' := run_getObj_at (P := C.P) h3 (fun _ _ _ e => by cases e)
      have hcond : (!seen.isEmpty && !es.isEmpty && es.all (fun e => Nat.ble last e.2.2)) = (!seen.toArray.isEmpty && !en.isEmpty && en.all (·.born ≥ last)) := by
        have e1 : seen.isEmpty = seen.toArray.isEmpty := by simp
        have e2 : es.isEmpty = en.isEmpty := by
          have := hE.len
          rw [Bool.eq_iff_iff, List.isEmpty_iff_length_eq_zero, ← this, Array.isEmpty_iff_size_eq_zero]
          simp
        have e3 : es.all (fun e => Nat.ble last e.2.2) = en.all (·.born ≥ last) := by
          rw [← Array.all_toList]
          generalize en.toList = L at hE
          clear h3 c1 c2 hg' e2 hm
          induction es generalizing L with
          | nil =>
            have : L = [] := List.length_eq_zero_iff.1 (by rw [hE.len]; rfl)
            subst this; rfl
          | cons p es ih =>
            cases L with
            | nil => have := hE.len; simp at this
            | cons e L =>
              obtain ⟨k, x, n⟩ := p
              obtain ⟨e', g1, g2, _⟩ := hE.rel 0 k x n rfl
              simp only [List.getElem?_cons_zero, Option.some.injEq] at g1
              subst g1
              simp only [List.all_cons, ih _ hE.tail]
              congr 1
              rw [Bool.eq_iff_iff, Nat.ble_eq, decide_eq_true_iff, g2]
        rw [e1, e2, e3]
      have hrun : ∀ cd : Bool, (!seen.toArray.isEmpty && !en.isEmpty && en.all (·.born ≥ last)) = cd → cd = false → (Instr.next (.pointer (some ⟨loc.c, 0, none⟩)) false t).run C.P w =
          ((choose (.mapNext (mCands en since seen.toArray).size)).run C.P w).andThen fun n w' => ((match (mCands en since seen.toArray)[n]? with
            | some (some e) => do
              setObj loc.c (.mapIter (some lb.c) since (seen.toArray.push e.born) clock)
              pure (.tuple #[.bool true, e.key, e.val])
            | some none => pure (.tuple #[.bool false])
            | none => stuck "Next: no such candidate" : Sem Value)).run C.P w' := by
        rintro cd hcd rfl
        unfold Instr.next
        simp only [Sem.run_bind, hg, Result.andThen_ok, hg']
        rw [if_neg (by rw [hcd]; simp), Sem.run_bind]
        rfl
      by_cases hbig : (cands es since seen).length ≤ 1
      · refine ⟨0, .inl rfl, fun or v s' _ h => ?_⟩
        unfold nextMap at h
        rw [hb] at h
        simp only [hm] at h
        split at h
        · cases h
        · rename_i hc0
          rw [(by rw [Nat.ble_eq]; exact hbig : Nat.ble (cands es since seen).length 1 = true)] at h
          simp only [nth_eq] at h
          cases hcc : (cands es since seen)[0]? with
          | none => rw [hcc] at h; simp [nextOf] at h
          | some c =>
            rw [hcc] at h
            obtain ⟨d, hd, hcd⟩ := c2 0 c hcc
            obtain ⟨cv, ρ', w', r1, r2, r3⟩ := next_found hI hloc h2 hb h1 hcd h
            refine ⟨cv, ρ', w', ?_, r2, r3⟩
            rw [hrun _ rfl (by rw [← hcond]; exact hc0), run_mapChoice, c1, if_pos hbig, Result.andThen_ok, hd]
            cases d <;> exact r1
      · refine ⟨if (cands es since seen).length ≤ br then choice w (cands es since seen).length else 0, ?_, fun or v s' hor h => ?_⟩
        · split
          · right
            exact Nat.lt_of_lt_of_le (Nat.mod_lt _ (by omega)) (by assumption)
          · exact .inl rfl
        · unfold nextMap at h
          rw [hb] at h
          simp only [hm] at h
          split at h
          · cases h
          · rename_i hc0
            rw [(by rw [Bool.eq_false_iff, ne_eq, Nat.ble_eq]; exact hbig : Nat.ble (cands es since seen).length 1 = false)] at h
            simp only at h
            split at h
            · rename_i hbr
              rw [Nat.ble_eq] at hbr
              rw [if_pos hbr] at hor
              have hlt : choice w (cands es since seen).length < (cands es since seen).length := Nat.mod_lt _ (by omega)
              rw [hor, Nat.mod_eq_of_lt hlt, nth_eq] at h
              have hID := ext_drew hI (s.drawn + 1) (w.drawn + 1)
              cases hcc : (cands es since seen)[choice w (cands es since seen).length]? with
              | none => rw [hcc] at h; simp [nextOf] at h
              | some c =>
                rw [hcc] at h
                obtain ⟨d, hd, hcd⟩ := c2 _ c hcc
                obtain ⟨cv, ρ', w', r1, r2, r3⟩ := next_found (w := w.drew) hID.inv hloc h2 (by exact hb) (by exact h1) hcd h
                refine ⟨cv, ρ', w', ?_, r2, hID.trans r3⟩
                rw [hrun _ rfl (by rw [← hcond]; exact hc0), run_mapChoice, c1, if_neg hbig, Result.andThen_ok, hd]
                cases d <;> exact r1
            · cases h
    · refine ⟨0, .inl rfl, fun or v s' _ h => ?_⟩
      unfold nextMap at h
      split at h
      · rename_i m since seen last hb
        cases m with
        | none =>
          cases h
          obtain ⟨cm, h1, h2⟩ := hI.obj _ _ _ hb hloc
          have h2' : cm = none := h2
          subst h2'
          have hg := run_getObj_at (P := C.P) h1 (fun _ _ _ e => by cases e)
          refine VOk.same hI (cv := .tuple #[.bool false]) ?_ ?_
          · unfold Instr.next
            simp only [Sem.run_bind, hg, Result.andThen_ok, Sem.run_pure]
          · refine .tup rfl fun i y cy hy hcy => ?_
            match i with
            | 0 => simp at hy hcy; subst hy; subst hcy; exact .bool _
            | i + 1 => simp at hy
        | some m =>
          simp only at h
          split at h
          · rename_i es clock hm
            exact absurd ⟨m, es, clock, since, last, seen, hb, hm⟩ hex
          · cases h
      · cases h
end
end Go.Eng
end
