/- What the evaluator answers is what the model does. -/
import Derived.Test.YtipedikaiaamjaaGreatDoorEngB
import Derived.Test.YtipedikaiaamjaaGreatDoorEngA
import Derived.CallsIn
import Derived.ControlIn
import Derived.Scope
import Derived.RangeFuncRecord
section
namespace Go.Eng
section
variable {C : Ctx} {ρ : Rho} {s s' : St} {w : World} {v : V}
theorem VR.undef (ρ : Rho) : VR ρ Eng.undef Go.undef := .tup rfl fun i v cv hv => by simp at hv
theorem OpOk.unit {m : Sem Unit} (h : ∃ ρ' w', m.run C.P w = .ok () w' ∧ Ext C ρ s w ρ' s' w') : OpOk C ρ s w Eng.undef s' ((do m; pure .skip : Sem Next).run C.P w) := by
  obtain ⟨ρ', w', h1, h2⟩ := h
  exact ⟨Go.undef, ρ', w', .inr ⟨by simp [h1], rfl⟩, VR.undef ρ', h2⟩
theorem OpOk.same (hI : Inv C ρ s w) {cv : Value} (hv : VR ρ v cv) : OpOk C ρ s w v s ((pure (.value cv) : Sem Next).run C.P w) := ⟨cv, ρ, w, .inl rfl, hv, Ext.refl hI⟩
theorem elemSz_spec {t e : TypeId} {n : Nat} (h : elemSz C.P t = some (e, n)) : C.P.underlying t = some (.slice e) ∧ szOf C.P e = some n := by
  unfold elemSz at h
  split at h
  · rename_i e' he
    unfold elemOf at he
    split at he
    · cases he
      split at h
      · cases h; exact ⟨by assumption, by assumption⟩
      · cases h
    · cases he
  · cases h
theorem aro_rel (hG : GR C ρ) {τ : Tr V} {a : Act} (hτ : TR ρ τ a.tmps) {x : Option Operand} {ax : Option Ar} (h : aro C.G x = some ax) : OVR ρ (optArg τ ax) (x.map a.eval) ∧ (x.isSome = ax.isSome) := by
  cases x with
  | none => simp only [aro, Option.some.injEq] at h; subst h; exact ⟨.none, rfl⟩
  | some x =>
    simp only [aro] at h
    split at h
    · rename_i b hb
      cases h; exact ⟨.some (arg_rel hG hτ hb), rfl⟩
    · cases h
theorem arr_rel (hG : GR C ρ) {τ : Tr V} {a : Act} (hτ : TR ρ τ a.tmps) {xs : Array Operand} {as : List Ar} (h : ars C.G xs.toList = some as) :
    (as.map (arg τ)).length = (xs.map a.eval).size ∧ ∀ (i : Nat) v cv, (as.map (arg τ))[i]? = some v → (xs.map a.eval)[i]? = some cv → VR ρ v cv := by
  obtain ⟨h1, h2⟩ := args_rel hG hτ h
  refine ⟨by simpa using h1, fun i v cv hv hc => h2 i v cv hv ?_⟩
  rw [← hc]; simp
theorem exec_mv (hI : Inv C ρ s w) (hG : GR C ρ) {τ : Tr V} {a : Act} (hτ : TR ρ τ a.tmps) {o : Oper} {x : Operand} {ax : Ar} (ho : o.op = .move x ∨ o.op = .assign x) (hx : ar C.G x = some ax) : OpOk C ρ s w (arg τ ax) s ((execOp a.eval o).run C.P w) := by
  have := OpOk.same hI (arg_rel hG hτ hx)
  rcases ho with ho | ho <;> (simp only [execOp, ho]; exact this)
theorem exec_pick (hI : Inv C ρ s w) (hG : GR C ρ) {τ : Tr V} {a : Act} (hτ : TR ρ τ a.tmps) {o : Oper} {c x y : Operand} {ac ax ay : Ar} (ho : o.op = .pick c x y) (hc : ar C.G c = some ac) (hx : ar C.G x = some ax) (hy : ar C.G y = some ay)
    {b : Bool} (hb : arg τ ac = .bool b) : OpOk C ρ s w (if b then arg τ ax else arg τ ay) s ((execOp a.eval o).run C.P w) := by
  have rc := arg_rel hG hτ hc
  rw [hb] at rc
  have rx := arg_rel hG hτ hx
  have ry := arg_rel hG hτ hy
  refine ⟨if b then a.eval x else a.eval y, ρ, w, .inl ?_, by cases b <;> assumption, Ext.refl hI⟩
  generalize hq : a.eval c = q at rc
  cases rc
  simp only [execOp, ho, hq]
  simp [asBool]
theorem exec_box (hI : Inv C ρ s w) (hG : GR C ρ) {τ : Tr V} {a : Act} (hτ : TR ρ τ a.tmps) {o : Oper} {e : TypeId} {x : Operand} {ax : Ar} {n : Nat} (ho : o.op = .box e x) (hx : ar C.G x = some ax) (hn : szOf C.P e = some n)
    (h : (match notTup (arg τ ax) && Nat.beq (arg τ ax).cells.length n with
      | true => let (b, s) := new s (.row [(arg τ ax).cells] n e); some (V.ptr b 0 0, s)
      | false => none) = some (v, s')) : OpOk C ρ s w v s' ((execOp a.eval o).run C.P w) := by
  have rx := arg_rel hG hτ hx
  obtain ⟨h1, h2, _⟩ := szOf_spec hn
  split at h
  · rename_i hc
    simp only [Bool.and_eq_true, Nat.beq_eq] at hc
    have hl := hc.2
    subst hl
    cases h
    simp only [execOp, ho]
    exact (box_ok hI rx (rx.all_scalar hc.1) (by intro e; rw [e] at h2; simp at h2) h1).op
  · cases h
theorem storeAt_ok (hI : Inv C ρ s w) {t : TypeId} {n : Nat} {agg : Bool} (hn : tyOf C.P t = some (n, agg)) {x y : V} {cx cy : Value} (rx : VR ρ x cx) (ry : VR ρ y cy) (h : store s n x y = some s') : ∃ ρ' w', (Instr.storeAt t cx cy).run C.P w = .ok () w' ∧ Ext C ρ s w ρ' s' w' := by
  obtain ⟨ad, w', rfl, h1, h2⟩ := store_spec hI hn rx ry h
  exact ⟨ρ, w', by simp [Instr.storeAt, Instr.sureAddr, h1], h2⟩
theorem okV_some {x : Option V} {s s' : St} {v : V} (h : okV x s = some (v, s')) : x = some v ∧ s' = s := by
  unfold okV at h
  split at h
  · cases h; exact ⟨rfl, rfl⟩
  · cases h
theorem okS_some {x : Option St} {s' : St} {v : V} (h : okS x = some (v, s')) : x = some s' ∧ v = Eng.undef := by
  unfold okS at h
  split at h
  · cases h; exact ⟨rfl, rfl⟩
  · cases h
theorem conv_ok (hI : Inv C ρ s w) {src dst : TypeId} {k : Cv} (hk : convOf C.P src dst = some k) {or : Nat → Nat} {br : Nat} {ks : TypeId → Option Ks} {hm : TypeId → List (String × TypeId) → Option Bool} {τ : Tr V} {ax : Ar} {cx : Value} (rx : VR ρ (arg τ ax) cx)
    (h : exec or br ks hm τ s (.conv k ax) = some (v, s')) : VOk C ρ s w v s' (convert src dst cx) := by
  simp only [exec] at h
  generalize arg τ ax = y at h rx
  unfold convOf at hk
  split at hk
  · rename_i k1 k2 hs hd
    cases hk
    cases y <;> try (cases h; done)
    cases h
    exact conv_int_ok hI hs hd rx
  · rename_i k1 hs hd
    cases hk
    cases y <;> try (cases h; done)
    cases h
    exact conv_rune_ok hI hs hd rx
  · rename_i hs hd
    cases hk
    cases y <;> try (cases h; done)
    cases h
    exact conv_str_ok hI hs hd rx
  · rename_i e hs hd
    split at hk
    · rename_i n hn
      cases hk
      cases y <;> try (cases h; done)
      · cases h; exact toUnsafe_nil hI hs hd rx
      · rename_i b i j
        cases j with
        | succ j => cases h
        | zero =>
          simp only at h
          split at h
          · rename_i es sz ty hb
            split at h
            · rename_i hi
              rw [Nat.blt_eq] at hi
              cases h
              exact toUnsafe_ok hI hs hd hn rx hb hi
            · cases h
          · cases h
    · cases hk
  · rename_i e hs hd
    split at hk
    · rename_i n hn
      cases hk
      cases y <;> try (cases h; done)
      · cases h; exact fromUnsafe_nil hI hs hd rx
      · rename_i b i j
        cases j with
        | succ j => cases h
        | zero =>
          simp only at h
          split at h
          · rename_i es sz ty hb
            split at h
            · rename_i hi
              simp only [Bool.and_eq_true, Nat.blt_eq, Nat.beq_eq] at hi
              obtain ⟨rfl, hi⟩ := hi
              cases h
              exact fromUnsafe_ok hI hs hd hn rx hb hi
            · cases h
          · cases h
    · cases hk
  · rename_i e hs hd
    split at hk
    · rename_i he
      split at hk
      · rename_i hn
        cases hk
        cases y <;> try (cases h; done)
        cases h
        exact conv_bytes_ok hI hs hd he hn rx
      · cases hk
    · cases hk
  · cases hk
theorem builtinOk (hI : Inv C ρ s w) (hG : GR C ρ) {τ : Tr V} {a : Act} (hτ : TR ρ τ a.tmps) {ks : TypeId → Option Ks} (hks : KsOk C.P ks) {hm : TypeId → List (String × TypeId) → Option Bool} {or : Nat → Nat} {br : Nat} {b : Builtin} {ts : Array TypeId} {as : Array Operand} {op : AOp}
    (hop : builtinOf C.P C.G b ts as.toList = some op) (h : exec or br ks hm τ s op = some (v, s')) (d0 : TypeId) (consts : Array Bool) : OpOk C ρ s w v s' ((builtin b ts d0 consts (as.map a.eval)).run C.P w) := by
  unfold builtinOf at hop
  split at hop
  ·
    rename_i x has
    have hasx : as = #[x] := by apply Array.ext'; simpa using has
    subst hasx
    rw [show Array.map a.eval #[x] = #[a.eval x] from by simp]
    split at hop
    · rename_i hd
      split at hop
      · rename_i ax hx
        cases hop
        have rx := arg_rel hG hτ hx
        simp only [exec] at h
        generalize arg τ ax = y at h rx
        cases y <;> try (cases h; done)
        cases h
        exact (lenS_ok hI hd rx).op
      · cases hop
    · rename_i e hd
      split at hop
      · rename_i ax hx
        cases hop
        have rx := arg_rel hG hτ hx
        simp only [exec] at h
        obtain ⟨h1, rfl⟩ := okV_some h
        exact (lenL_ok hI hd rx h1).op
      · cases hop
    · rename_i k e hd
      split at hop
      · rename_i ax hx
        cases hop
        have rx := arg_rel hG hτ hx
        simp only [exec] at h
        obtain ⟨h1, rfl⟩ := okV_some h
        exact (lenM_ok hI hd rx h1).op
      · cases hop
    · rename_i n e hd
      split at hop
      · cases hop
        simp only [exec] at h
        cases h
        obtain ⟨t, h0, hu⟩ := under0_spec hd
        exact (VOk.same (cv := .int .i64 n) hI (by simp [Builtin.len_, h0, run_underlying hu, goInt]) (.int _ _)).op
      · cases hop
    · cases hop
  ·
    rename_i x has
    have hasx : as = #[x] := by apply Array.ext'; simpa using has
    subst hasx
    rw [show Array.map a.eval #[x] = #[a.eval x] from by simp]
    split at hop
    · rename_i e hd
      split at hop
      · rename_i ax hx
        cases hop
        have rx := arg_rel hG hτ hx
        simp only [exec] at h
        exact (cap_ok hI hd h rx).op
      · cases hop
    · cases hop
  ·
    rename_i x y has
    have hasx : as = #[x, y] := by apply Array.ext'; simpa using has
    subst hasx
    rw [show Array.map a.eval #[x, y] = #[a.eval x, a.eval y] from by simp]
    split at hop
    · rename_i t tx h0 h1
      split at hop
      · rename_i e n d ax ay he hd hx hy
        obtain ⟨hu, hn⟩ := elemSz_spec he
        have rx := arg_rel hG hτ hx
        have ry := arg_rel hG hτ hy
        split at hop
        · rename_i z hz
          split at hop
          · cases hop
            simp only [exec] at h
            generalize arg τ ax = q at h rx
            split at h
            · rename_i m hm'
              split at h
              · rename_i hmax
                rw [Nat.ble_eq] at hmax
                have := (appendZ_ok (d0 := d0) hI hu hn hz hd rx ry hm' hmax h).op
                rw [← append_types h0 h1] at this
                exact this
              · cases h
            · cases h
          · cases hop
            simp only [exec] at h
            have := (append_ok (d0 := d0) hI hu hn hz (.inl ⟨_, hd⟩) rx ry h).op
            rw [← append_types h0 h1] at this
            exact this
          · cases hop
            simp only [exec] at h
            have := (append_ok (d0 := d0) hI hu hn hz (.inr hd) rx ry h).op
            rw [← append_types h0 h1] at this
            exact this
          · cases hop
        · cases hop
      · cases hop
    · cases hop
  ·
    rename_i x has
    have hasx : as = #[x] := by apply Array.ext'; simpa using has
    subst hasx
    rw [show Array.map a.eval #[x] = #[a.eval x] from by simp]
    split at hop
    · rename_i ax hx
      cases hop
      have rx := arg_rel hG hτ hx
      simp only [exec] at h
      generalize arg τ ax = y at h rx
      split at h
      · cases h
        exact (uData_ok hI rx).op
      · cases h
    · cases hop
  ·
    rename_i x n has
    have hasx : as = #[x, n] := by apply Array.ext'; simpa using has
    subst hasx
    rw [show Array.map a.eval #[x, n] = #[a.eval x, a.eval n] from by simp]
    split at hop
    · rename_i e ax an hd hx hn
      cases hop
      have rx := arg_rel hG hτ hx
      have rn := arg_rel hG hτ hn
      simp only [exec] at h
      generalize arg τ ax = y at h rx
      split at h
      · rename_i b' i' n' hn'
        split at h
        · rename_i fs sz ty hb
          split at h
          · rename_i hc
            simp only [Bool.and_eq_true, Nat.beq_eq, Nat.ble_eq] at hc
            obtain ⟨⟨rfl, rfl⟩, hmax⟩ := hc
            split at h
            · rename_i es hes
              split at h
              · rename_i l hl
                cases h
                exact (uStr_ok hI hd rx rn hn' hb hmax hes hl).op
              · cases h
            · cases h
          · cases h
        · cases h
      · cases h
    · cases hop
  ·
    rename_i x y has
    have hasx : as = #[x, y] := by apply Array.ext'; simpa using has
    subst hasx
    rw [show Array.map a.eval #[x, y] = #[a.eval x, a.eval y] from by simp]
    split at hop
    · rename_i ax ay hx hy
      cases hop
      have rx := arg_rel hG hτ hx
      have ry := arg_rel hG hτ hy
      simp only [exec] at h
      generalize arg τ ax = p at h rx
      generalize arg τ ay = q at h ry
      split at h
      · cases h; exact (min2_ok hI rx ry).op
      · cases h
    · cases hop
  ·
    rename_i x y has
    have hasx : as = #[x, y] := by apply Array.ext'; simpa using has
    subst hasx
    rw [show Array.map a.eval #[x, y] = #[a.eval x, a.eval y] from by simp]
    split at hop
    · rename_i ax ay hx hy
      cases hop
      have rx := arg_rel hG hτ hx
      have ry := arg_rel hG hτ hy
      simp only [exec] at h
      generalize arg τ ax = p at h rx
      generalize arg τ ay = q at h ry
      split at h
      · cases h; exact (max2_ok hI rx ry).op
      · cases h
    · cases hop
  ·
    rename_i x y has
    have hasx : as = #[x, y] := by apply Array.ext'; simpa using has
    subst hasx
    rw [show Array.map a.eval #[x, y] = #[a.eval x, a.eval y] from by simp]
    split at hop
    · rename_i t h0
      split at hop
      · rename_i k e ax ay hm' hx hy
        cases hop
        simp only [exec] at h
        split at h
        · rename_i s1 h1
          cases h
          exact (mapDelete_ok hI hks hm' (arg_rel hG hτ hx) (arg_rel hG hτ hy) h1 h0).op
        · cases h
      · cases hop
    · cases hop
  · cases hop
theorem exec_ok (hI : Inv C ρ s w) (hG : GR C ρ) {τ : Tr V} {a : Act} (hτ : TR ρ τ a.tmps) {ks : TypeId → Option Ks} (hks : KsOk C.P ks) {hm : TypeId → List (String × TypeId) → Option Bool} (hhm : HmOk C.P hm) {or : Nat → Nat} {br : Nat} {o : Oper} {op : AOp} (hop : opOf C.P C.G o = some op)
    (hnx : ∀ x, op ≠ .nextMap x) (h : exec or br ks hm τ s op = some (v, s')) : OpOk C ρ s w v s' ((execOp a.eval o).run C.P w) := by
  unfold opOf at hop
  split at hop
  ·
    rename_i x ho
    split at hop
    · rename_i ax hx; cases hop; simp only [exec] at h; cases h; exact exec_mv hI hG hτ (.inl ho) hx
    · cases hop
  ·
    rename_i x ho
    split at hop
    · rename_i ax hx; cases hop; simp only [exec] at h; cases h; exact exec_mv hI hG hτ (.inr ho) hx
    · cases hop
  ·
    rename_i c x y ho
    split at hop
    · rename_i ac ax ay hc hx hy
      cases hop
      simp only [exec] at h
      split at h
      · rename_i hb; cases h; exact exec_pick hI hG hτ ho hc hx hy hb
      · rename_i hb; cases h; exact exec_pick hI hG hτ ho hc hx hy hb
      · cases h
    · cases hop
  ·
    rename_i e ho
    split at hop
    · rename_i z hz
      cases hop
      simp only [exec] at h
      cases h
      simp only [execOp, ho]
      exact (alloc_ok hI hz).op
    · cases hop
  ·
    rename_i e x ho
    split at hop
    · rename_i n ax hn hx
      cases hop
      simp only [exec] at h
      exact exec_box hI hG hτ ho hx hn h
    · cases hop
  ·
    rename_i t ps ho
    split at hop
    · rename_i z hz
      split at hop
      · rename_i fs hn hu
        split at hop
        · rename_i places hp
          split at hop
          · rename_i l hl
            cases hop
            simp only [exec] at h
            split at h
            · rename_i cs hcs
              cases h
              simp only [execOp, ho]
              exact (build_struct_ok hI hG hτ hz hn hu hp hl hcs).op
            · cases h
          · cases hop
        · cases hop
      · rename_i m e hn hu
        split at hop
        · rename_i n hs
          split at hop
          · rename_i l hl
            cases hop
            simp only [exec] at h
            split at h
            · rename_i cs hcs
              cases h
              simp only [execOp, ho]
              exact (build_array_ok hI hG hτ hz hn hu hs hl hcs).op
            · cases h
          · cases hop
        · cases hop
      · cases hop
    · cases hop
  ·
    rename_i t n ps ho
    split at hop
    · rename_i e m he
      obtain ⟨hu, hn⟩ := elemSz_spec he
      split at hop
      · rename_i z l hz hl
        split at hop
        · rename_i hmax
          rw [Nat.ble_eq] at hmax
          cases hop
          simp only [exec] at h
          split at h
          · rename_i es hes
            cases h
            simp only [execOp, ho]
            exact (buildSlice_ok hI hG hτ hu hn hz hl hmax hes).op
          · cases h
        · cases hop
      · cases hop
    · cases hop
  ·
    rename_i t m k x ho
    split at hop
    · rename_i kk e am ak ax hk hm' hk' hx
      cases hop
      simp only [exec] at h
      obtain ⟨h1, rfl⟩ := okS_some h
      simp only [execOp, ho]
      exact OpOk.unit (mapUpdate_ok hI hks hk (arg_rel hG hτ hm') (arg_rel hG hτ hk') (arg_rel hG hτ hx) h1)
    · cases hop
  ·
    rename_i t m k x ho
    split at hop
    · rename_i kk e am ak ax hk hm' hk' hx
      cases hop
      simp only [exec] at h
      obtain ⟨h1, rfl⟩ := okS_some h
      simp only [execOp, ho]
      exact OpOk.unit (mapUpdate_ok hI hks hk (arg_rel hG hτ hm') (arg_rel hG hτ hk') (arg_rel hG hτ hx) h1)
    · cases hop
  ·
    rename_i t x ho
    split at hop
    · rename_i n agg ax hn hx
      cases hop
      simp only [exec] at h
      obtain ⟨h, rfl⟩ := okV_some h
      simp only [execOp, ho]
      exact (load_ok hI hn (arg_rel hG hτ hx) h).op
    · cases hop
  ·
    rename_i t x y ho
    split at hop
    · rename_i n agg ax ay hn hx hy
      cases hop
      simp only [exec] at h
      obtain ⟨h1, rfl⟩ := okS_some h
      simp only [execOp, ho]
      exact OpOk.unit (storeAt_ok hI hn (arg_rel hG hτ hx) (arg_rel hG hτ hy) h1)
    · cases hop
  ·
    rename_i x ho
    split at hop
    · rename_i ax hx
      cases hop
      simp only [exec] at h
      exact nilCheck_ok ho hI h (arg_rel hG hτ hx)
    · cases hop
  ·
    rename_i op' t x y p ho
    split at hop
    · rename_i ax ay hx hy
      have rx := arg_rel hG hτ hx
      have ry := arg_rel hG hτ hy
      simp only [execOp, ho]
      have plain : ∀ (ax' ay' : Ar) (q : BinOp), ax' = ax → ay' = ay → q = op' → okV (bin q (arg τ ax') (arg τ ay')) s = some (v, s') → OpOk C ρ s w v s' ((do pure (.value (← (do eqGuard op' t x y (a.eval x) (a.eval y); binOp op' t (a.eval x) (a.eval y)))) : Sem Next).run C.P w) := by
        rintro _ _ _ rfl rfl rfl h
        obtain ⟨h1, rfl⟩ := okV_some h
        exact (bin_ok hI rx ry h1).op
      have eqs : ∀ (hq : op' = .eql ∨ op' = .neq), (match nilOp y with
          | some k => if nilKind C.P t = some k then some (AOp.isNil k (decide (op' = .neq)) ax) else none
          | none => match nilOp x with
          | some k => if nilKind C.P t = some k then some (.isNil k (decide (op' = .neq)) ay) else none
          | none => match ksF C.P 5 t with
          | some .int | some .str => some (.bin op' ax ay)
          | some k => if aggKs k && C.P.eqGuardType C.P.depth t then none else some (.eq (decide (op' = .neq)) k ax ay)
          | none => none) = some op → OpOk C ρ s w v s' ((do pure (.value (← (do eqGuard op' t x y (a.eval x) (a.eval y); binOp op' t (a.eval x) (a.eval y)))) : Sem Next).run C.P w) := by
        intro hq hop
        split at hop
        · rename_i k hk
          split at hop
          · rename_i hkk
            cases hop
            simp only [exec] at h
            split at h
            · rename_i b hb
              cases h
              exact (isNil_ok hI hq hb hkk (.inl ⟨hk, rx⟩)).op
            · cases h
          · cases hop
        · split at hop
          · rename_i k hk
            split at hop
            · rename_i hkk
              cases hop
              simp only [exec] at h
              split at h
              · rename_i b hb
                cases h
                exact (isNil_ok hI hq hb hkk (.inr ⟨hk, ry⟩)).op
              · cases h
            · cases hop
          · split at hop
            · cases hop; simp only [exec] at h; exact plain _ _ _ rfl rfl rfl h
            · cases hop; simp only [exec] at h; exact plain _ _ _ rfl rfl rfl h
            · rename_i k h1 h2 hk
              split at hop
              · cases hop
              · rename_i hg
                cases hop
                simp only [exec] at h
                split at h
                · rename_i b hb
                  cases h
                  exact (eq_ok hI hks hq hk h1 h2 (by simpa using hg) rx ry (f := 49) (by omega) hb x y).op
                · cases h
            · cases hop
      cases op' <;> first
        | exact eqs (.inl rfl) hop
        | exact eqs (.inr rfl) hop
        | (cases hop; simp only [exec] at h; exact plain _ _ _ rfl rfl rfl h)
    · cases hop
  ·
    rename_i q t x ho
    split at hop
    · rename_i ax hx
      cases hop
      simp only [exec] at h
      obtain ⟨h1, rfl⟩ := okV_some h
      simp only [execOp, ho]
      exact (un_ok hI (arg_rel hG hτ hx) h1).op
    · cases hop
  ·
    rename_i src dst x ho
    split at hop
    · rename_i k ax hk hx
      cases hop
      have rx := arg_rel hG hτ hx
      simp only [execOp, ho]
      exact (conv_ok hI hk rx h).op
    · cases hop
  ·
    rename_i t x ho
    split at hop
    · cases hop
    · rename_i d ax hni hu hx
      cases hop
      simp only [exec] at h
      cases h
      simp only [execOp, ho]
      exact (mkIface_ok hI hu (fun ms e => hni ms e) (arg_rel hG hτ hx)).op
    · cases hop
  ·
    rename_i fn x y ho
    split at hop
    · cases hop
    · rename_i hy
      split at hop
      · rename_i ax ay hx hy'
        cases hop
        simp only [exec] at h
        cases h
        simp only [execOp, ho]
        obtain ⟨x1, x2⟩ := arr_rel hG hτ hx
        obtain ⟨y1, y2⟩ := arr_rel hG hτ hy'
        exact (mkFunc_ok hI (by simpa using hy) x1 y1 x2 y2).op
      · cases hop
  ·
    rename_i t r ho
    split at hop
    · rename_i k e hu
      split at hop
      · cases hop
        simp only [exec] at h
        cases h
        simp only [execOp, ho]
        exact (mkMap_ok hI hu none (.inl rfl)).op
      · cases hop
        simp only [exec] at h
        cases h
        simp only [execOp, ho]
        exact (mkMap_ok hI hu _ (.inr ⟨_, _, rfl⟩)).op
      · cases hop
    · cases hop
  ·
    rename_i t l c ho
    split at hop
    · rename_i e n he
      obtain ⟨hu, hn⟩ := elemSz_spec he
      split at hop
      · rename_i z al ac hz hl hc
        cases hop
        simp only [exec] at h
        split at h
        · rename_i l' c' hl' hc'
          split at h
          · rename_i hb
            simp only [Bool.and_eq_true, Nat.ble_eq] at hb
            cases h
            simp only [execOp, ho]
            exact (mkSlice_ok hI hu hn hz (arg_rel hG hτ hl) (arg_rel hG hτ hc) hl' hc' hb.1 hb.2).op
          · cases h
        · cases h
      · cases hop
    · cases hop
  ·
    rename_i t x lo hi mx ho
    split at hop
    · rename_i k ax alo ahi amx hk hx hlo hhi hmx
      split at hop
      · rename_i hok
        cases hop
        simp only [execOp, ho]
        have rx := arg_rel hG hτ hx
        obtain ⟨rlo, _⟩ := aro_rel hG hτ hlo
        obtain ⟨rhi, shi⟩ := aro_rel hG hτ hhi
        obtain ⟨rmx, smx⟩ := aro_rel hG hτ hmx
        unfold slOf at hk
        split at hk
        · rename_i hu
          cases hk
          have : mx = none := by
            cases mx with
            | none => rfl
            | some m =>
              cases amx with
              | none => simp at smx
              | some _ => simp [mxOk] at hok
          subst this
          simp only [exec] at h
          generalize arg τ ax = y at h rx
          cases y <;> try (cases h; done)
          simp only at h
          split at h
          · rename_i p q c hb
            split at h
            · rename_i r hr
              cases h
              exact (slice_str_ok hI hu rx rlo rhi hb hr).op
            · cases h
          · cases h
        · rename_i e hu
          split at hk
          · rename_i n hn
            cases hk
            have hh : (mx.map a.eval).isSome = true → (hi.map a.eval).isSome = true := by
              intro hm
              rw [Option.isSome_map] at hm ⊢
              rw [shi]
              rw [smx] at hm
              cases amx with
              | none => cases hm
              | some _ => cases ahi with
                | none => simp [mxOk] at hok
                | some _ => rfl
            simp only [exec] at h
            generalize arg τ ax = y at h rx
            cases y <;> try (cases h; done)
            · simp only at h
              split at h
              · rename_i q hq
                cases h
                exact (slice_ok hI hu hn rx rlo rhi rmx hh (by simp only; rw [hq])).op
              · cases h
            · simp only at h
              split at h
              · rename_i hc
                have hc' := hc
                rw [Nat.beq_eq] at hc'
                subst hc'
                split at h
                · rename_i p q c hq
                  cases h
                  exact (slice_ok hI hu hn rx rlo rhi rmx hh (by simp only; rw [if_pos hc, hq])).op
                · cases h
              · cases h
            · simp only at h
              split at h
              · rename_i hc
                split at h
                · rename_i p q c hq
                  split at h
                  · rename_i r hr
                    cases h
                    exact (slice_ok hI hu hn rx rlo rhi rmx hh (by simp only; rw [if_pos hc, hq]; simp only [hr])).op
                  · cases h
                · cases h
              · cases h
          · cases hk
        · cases hk
      · cases hop
    · cases hop
  ·
    rename_i t x f ho
    split at hop
    · rename_i fd ax hf hx
      split at hop
      · rename_i n hn
        cases hop
        simp only [exec] at h
        simp only [execOp, ho]
        have rx := arg_rel hG hτ hx
        generalize arg τ ax = y at h rx
        cases y <;> try (cases h; done)
        · cases h; exact (fieldAddr_ok hI hf hn rx rfl).op
        · cases h; exact (fieldAddr_ok hI hf hn rx rfl).op
      · cases hop
    · cases hop
  ·
    rename_i t x f ho
    split at hop
    · rename_i fd ax hf hx
      split at hop
      · rename_i n agg hn
        cases hop
        simp only [exec] at h
        simp only [execOp, ho]
        have rx := arg_rel hG hτ hx
        generalize arg τ ax = y at h rx
        cases y <;> try (cases h; done)
        simp only at h
        split at h
        · rename_i r hr
          obtain ⟨h1, rfl⟩ := okV_some h
          generalize a.eval x = cx at rx ⊢
          cases rx with
          | agg r1 r2 r3 => exact (field_ok hI hf hn (.agg r1 r2 r3) hr h1).op
        · cases h
      · cases hop
    · cases hop
  ·
    rename_i t x i ho
    split at hop
    · rename_i e ax ai hu hx hi
      split at hop
      · rename_i n hn
        cases hop
        simp only [exec] at h
        simp only [execOp, ho]
        have rx := arg_rel hG hτ hx
        have ri := arg_rel hG hτ hi
        split at h
        · rename_i i' hi'
          generalize arg τ ax = y at h rx
          cases y <;> try (cases h; done)
          · simp only at h
            split at h
            · rename_i hc
              cases h
              exact (indexAddr_slice_ok hI hu hn rx ri hi' (by simp only; rw [if_pos hc])).op
            · cases h
          · simp only at h
            split at h
            · rename_i u hu'
              split at h
              · rename_i hc
                cases h
                exact (indexAddr_slice_ok hI hu hn rx ri hi' (by simp only [hu']; rw [if_pos hc])).op
              · cases h
            · cases h
        · cases h
      · cases hop
    · rename_i m e ax ai hu hx hi
      split at hop
      · rename_i n hn
        cases hop
        simp only [exec] at h
        simp only [execOp, ho]
        have rx := arg_rel hG hτ hx
        have ri := arg_rel hG hτ hi
        split at h
        · rename_i i' hi'
          split at h
          · rename_i hlt
            rw [Nat.blt_eq] at hlt
            generalize arg τ ax = y at h rx
            cases y <;> try (cases h; done)
            · cases h; exact (indexAddr_arr_ok hI hu hn rx ri hi' hlt rfl).op
            · cases h; exact (indexAddr_arr_ok hI hu hn rx ri hi' hlt rfl).op
          · cases h
        · cases h
      · cases hop
    · cases hop
  ·
    rename_i t x i ho
    split at hop
    · rename_i ax ai hu hx hi
      cases hop
      simp only [exec] at h
      simp only [execOp, ho]
      have rx := arg_rel hG hτ hx
      have ri := arg_rel hG hτ hi
      generalize arg τ ax = y at h rx
      cases y <;> try (cases h; done)
      split at h
      · rename_i l i' hl hi'
        cases hl
        split at h
        · rename_i c hc
          rw [nth_eq] at hc
          cases h
          exact (indexStr_ok hI hu rx ri hi' hc).op
        · cases h
      · cases h
    · rename_i m e ax ai hu hx hi
      split at hop
      · rename_i n agg hn
        cases hop
        simp only [exec] at h
        simp only [execOp, ho]
        have rx := arg_rel hG hτ hx
        have ri := arg_rel hG hτ hi
        generalize arg τ ax = y at h rx
        cases y <;> try (cases h; done)
        split at h
        · rename_i l i' hl hi'
          cases hl
          split at h
          · rename_i hlt
            rw [Nat.blt_eq] at hlt
            split at h
            · rename_i r hr
              obtain ⟨h1, rfl⟩ := okV_some h
              exact (indexArr_ok hI hu hn rx ri hi' hlt hr h1).op
            · cases h
          · cases h
        · cases h
      · cases hop
    · cases hop
  ·
    rename_i t x i ok ho
    split at hop
    · rename_i k e ax ai hk hx hi
      split at hop
      · rename_i z hz
        cases hop
        simp only [exec] at h
        simp only [execOp, ho]
        have rx := arg_rel hG hτ hx
        have ri := arg_rel hG hτ hi
        split at h
        · rename_i r hr
          cases h
          refine (lookup_ok hI hks hk hz rx ri ok ?_).op
          unfold lookupIn at hr
          generalize arg τ ax = y at hr
          cases y <;> try (cases hr; done)
          · simp only at hr
            split at hr
            · rename_i hok; cases hr; exact .inl ⟨rfl, rfl, hok⟩
            · cases hr
          · simp only at hr
            split at hr
            · rename_i es clock hb
              split at hr
              · rename_i fr hf; cases hr; exact .inr ⟨_, es, clock, fr, rfl, hb, hf, rfl⟩
              · cases hr
            · cases hr
        · cases h
      · cases hop
    · cases hop
  ·
    rename_i t m k ho
    split at hop
    · rename_i kk e am ak hk hm' hk'
      split at hop
      · rename_i z hz
        cases hop
        simp only [exec] at h
        simp only [execOp, ho]
        have rm := arg_rel hG hτ hm'
        have rk := arg_rel hG hτ hk'
        generalize arg τ am = y at h rm
        cases y <;> try (cases h; done)
        simp only at h
        split at h
        · rename_i es clock hb
          exact (mapEntry_ok hI hks hk hz rm rk hb h).op
        · cases h
      · cases hop
    · cases hop
  ·
    rename_i t m n x ho
    split at hop
    · rename_i am an ax hm' hn hx
      cases hop
      simp only [exec] at h
      simp only [execOp, ho]
      have rm := arg_rel hG hτ hm'
      have rn := arg_rel hG hτ hn
      have rx := arg_rel hG hτ hx
      generalize arg τ am = y at h rm
      split at h
      · rename_i b n' hb1 hn'
        split at h
        · rename_i es clock hb
          split at h
          · rename_i es' hes
            cases h
            exact OpOk.unit (entryStore_ok hI rm rn hn' rx hb hes)
          · cases h
        · cases h
      · cases h
    · cases hop
  ·
    rename_i t x ho
    split at hop
    · rename_i ax hu hx
      cases hop
      simp only [exec] at h
      simp only [execOp, ho]
      have rx := arg_rel hG hτ hx
      generalize arg τ ax = y at h rx
      cases y <;> try (cases h; done)
      cases h
      exact (rangeStr_ok hI hu rx).op
    · rename_i k e ax hu hx
      cases hop
      simp only [exec] at h
      simp only [execOp, ho]
      have rx := arg_rel hG hτ hx
      generalize arg τ ax = y at h rx
      cases y <;> try (cases h; done)
      · cases h; exact (rangeNil_ok hI hu rx).op
      · simp only at h
        split at h
        · rename_i es clock hb
          cases h
          exact (rangeMap_ok hI hu rx hb).op
        · cases h
    · cases hop
  ·
    rename_i x b ho
    split at hop
    · rename_i ax hx
      cases b with
      | false => cases hop; exact absurd rfl (hnx _)
      | true =>
        cases hop
        simp only [if_true, exec] at h
        simp only [execOp, ho]
        have rx := arg_rel hG hτ hx
        generalize arg τ ax = y at h rx
        cases y <;> try (cases h; done)
        simp only at h
        split at h
        · rename_i l pos hb
          exact (nextStr_ok hI rx hb h).op
        · cases h
    · cases hop
  ·
    rename_i x ho
    split at hop
    · rename_i ax hx
      cases hop
      simp only [exec] at h
      simp only [execOp, ho]
      have rx := arg_rel hG hτ hx
      generalize arg τ ax = y at h rx
      cases y <;> try (cases h; done)
      simp only at h
      split at h
      · rename_i m since seen last hb
        split at h
        · rename_i es clock hm'
          split at h
          · rename_i hc
            rw [Nat.beq_eq] at hc
            split at h
            · rename_i n hl
              split at h
              · rename_i k u q hf
                cases h
                exact (entry_ok hI rx hb hm' hc hl hf).op
              · cases h
            · cases h
          · cases h
        · cases h
      · cases h
    · cases hop
  ·
    rename_i x xt t ok ho
    split at hop
    · rename_i ms ax hu hx
      split at hop
      · rename_i hz
        cases hop
        simp only [exec] at h
        simp only [execOp, ho]
        have rx := arg_rel hG hτ hx
        exact (assertI_ok hI hu hz hhm h rx).op
      · cases hop
    · rename_i d ax hni hu hx
      split at hop
      · rename_i z hz
        cases hop
        simp only [exec] at h
        simp only [execOp, ho]
        have rx := arg_rel hG hτ hx
        exact (assertT_ok hI hu (fun ms e => hni ms e) hz h rx).op
      · cases hop
    · cases hop
  ·
    rename_i x i ho
    split at hop
    · rename_i ax hx
      cases hop
      simp only [exec] at h
      simp only [execOp, ho]
      have rx := arg_rel hG hτ hx
      generalize arg τ ax = y at h rx
      cases y <;> try (cases h; done)
      simp only at h
      obtain ⟨h1, rfl⟩ := okV_some h
      exact (extract_ok hI rx h1).op
    · cases hop
  ·
    rename_i c ho
    unfold callOp at hop
    split at hop
    · rename_i b hc
      have hr : ∀ Q : Result Next → Prop, (∀ consts, Q ((builtin b c.argTypes o.type consts (c.args.map a.eval)).run C.P w)) → Q ((execOp a.eval o).run C.P w) := by
        intro Q hq
        simp only [execOp, ho, resolve, hc, Sem.run_bind, Sem.run_pure, Result.andThen_ok, invoke]
        exact hq _
      exact hr (OpOk C ρ s w v s') fun consts => builtinOk hI hG hτ hks hop h _ consts
    · split at hop
      · split at hop
        · cases hop; simp only [exec] at h; cases h
        · split at hop
          · cases hop; simp only [exec] at h; cases h
          · cases hop
      · cases hop
    · split at hop
      · cases hop; simp only [exec] at h; cases h
      · cases hop
  · cases hop
theorem exec_next (hI : Inv C ρ s w) (hG : GR C ρ) {τ : Tr V} {a : Act} (hτ : TR ρ τ a.tmps) {ks : TypeId → Option Ks} {hm : TypeId → List (String × TypeId) → Option Bool} {br : Nat} {o : Oper} {ax : Ar} (hop : opOf C.P C.G o = some (.nextMap ax)) :
    ∃ n, (n = 0 ∨ n < br) ∧ ∀ (or : Nat → Nat) (v : V) (s' : St), or s.drawn = n → exec or br ks hm τ s (.nextMap ax) = some (v, s') → OpOk C ρ s w v s' ((execOp a.eval o).run C.P w) := by
  have key : ∃ x, o.op = .next x false ∧ ar C.G x = some ax := by
    unfold opOf at hop
    split at hop
    case h_29 =>
      rename_i x b ho
      split at hop
      · rename_i ax' hx
        cases b with
        | true => cases hop
        | false => cases hop; exact ⟨x, ho, hx⟩
      · cases hop
    all_goals first
      | (repeat' (first | (cases hop; done) | split at hop))
        done
      | skip
    all_goals
      unfold callOp at hop
      unfold builtinOf at hop
      repeat' (first | (cases hop; done) | split at hop)
  obtain ⟨x, ho, hx⟩ := key
  have rx := arg_rel hG hτ hx
  by_cases hit : ∃ b, arg τ ax = .it b
  · obtain ⟨b, hb⟩ := hit
    rw [hb] at rx
    obtain ⟨n, hn, hall⟩ := nextMap_ok hI (t := o.type) rx (br := br)
    refine ⟨n, hn, fun or v s' hor h => ?_⟩
    simp only [exec, hb] at h
    simp only [execOp, ho]
    exact (hall or v s' hor h).op
  · refine ⟨0, .inl rfl, fun or v s' _ h => ?_⟩
    simp only [exec] at h
    split at h
    · rename_i b hb; exact absurd ⟨b, hb⟩ hit
    · cases h
end
end Go.Eng
end
section
namespace Go.Eng
section
variable {C : Ctx} {ρ : Rho} {s s' : St} {w : World} {v : V}
theorem TR.mono {ρ ρ' : Rho} (h : ρ.Le ρ') {τ : Tr V} {tmps : Array Value} (hτ : TR ρ τ tmps) : TR ρ' τ tmps := ⟨hτ.fits, fun p hp => (hτ.rel p hp).mono h⟩
theorem Nm.pos (p : Nm) : 0 < p.val := by cases p <;> simp [Nm.val] <;> (first | omega | exact Nm.pos _)
theorem TR.put {τ : Tr V} {a : Act} (hτ : TR ρ τ a.tmps) {d : Option Nat} (hd : ∀ t, d = some t → t < a.tmps.size) {v : V} {cv : Value} (hv : VR ρ v cv) : TR ρ (put τ (d.map nm) v) (a.put d cv).tmps := by
  cases d with
  | none => exact hτ
  | some t =>
    have ht := hd t rfl
    simp only [Option.map_some, Eng.put, Act.put]
    refine ⟨fun p x hp => ?_, fun p hp => ?_⟩
    · rw [Tr.get_set] at hp
      rw [Array.size_setIfInBounds]
      split at hp
      · rename_i e
        rw [← e, val_nm]; omega
      · exact hτ.fits p x hp
    · rw [Array.size_setIfInBounds] at hp
      rw [Tr.get_set]
      split
      · rename_i e
        rw [← e, val_nm, Nat.add_sub_cancel, Array.getD, dif_pos (by simpa using ht)]
        simpa using hv
      · rename_i e
        have hne : t ≠ p.val - 1 := by
          intro he
          apply e
          apply Nm.val_inj
          rw [val_nm, he]
          have := Nm.pos p
          omega
        have := hτ.rel p hp
        rw [Array.getD_eq_getD_getElem?] at this ⊢
        rw [Array.getElem?_setIfInBounds, if_neg hne]; exact this
end
end Go.Eng
end
section
namespace Go
section
variable {P : Program} {b : Frame} {a : Act} {w : World} {k : List Item} {cs : List Frame}
theorem stepR_scope {c : Code} : step P (lone (b.atR a (.code (.scope c) :: k)) cs w) = .next (lone (b.atR a (.code c :: .inScope c :: k)) cs w) :=
  step_lone_go (by simp [stepG, stepG.exec, Frame.atR])
theorem stepR_inScope {c : Code} : step P (lone (b.atR a (.inScope c :: k)) cs w) = .next (lone (b.atR a k) cs w) :=
  step_lone_go (by simp [stepG, stepG.exec, Frame.atR])
end
theorem wpIn_scope {F : Fence} {n : Nat} {P : Program} {Q : Exit → Act → World → Prop} {a : Act} {w : World} {c : Code} (h : c.wpIn F n P (Exit.noGoto Q) a w) : (Code.scope c).wpIn F n P Q a w := by
  intro b k cs hro hb hr
  have h0 : (lone (b.atR a (.code (.scope c) :: k)) cs w).fenced P F := fenced_calm hb hr rfl
  obtain ⟨e, a₁, w₁, hq, harr⟩ := h b (.inScope c :: k) cs hro hb hr
  cases e with
  | normal => exact ⟨.normal, a₁, w₁, hq, .head h0 stepR_scope (StepsIn.trans harr (.one (fenced_calm hb hr rfl) stepR_inScope))⟩
  | exit id' =>
    have hx : exitTo id' (.inScope c :: k) = exitTo id' k := by simp [exitTo]
    exact ⟨.exit id', a₁, w₁, hq, fun k' hk => .head h0 stepR_scope (harr.1 k' (by rw [hx]; exact hk)),
      fun hr' hk => let ⟨k₁, h1, h2⟩ := harr.2 hr' (by rw [hx]; exact hk); ⟨k₁, h1, .head h0 stepR_scope h2⟩⟩
  | goto l => exact hq.elim
  | ret => exact ⟨_, a₁, w₁, hq, .of_steps (.one h0 stepR_scope) harr⟩
  | panic ch => exact ⟨_, a₁, w₁, hq, .of_steps (.one h0 stepR_scope) harr⟩
  | outgrown => exact ⟨_, a₁, w₁, hq, .of_steps (.one h0 stepR_scope) harr⟩
end Go
end
section
namespace Go.Eng
mutual
theorem eqbV_sound : ∀ {a b : V}, eqbV a b = true → a = b
  | .bool _, b, h => by cases b <;> simp_all [eqbV]
  | .int .., b, h => by cases b <;> simp_all [eqbV]
  | .str _, b, h => by cases b <;> simp_all [eqbV]
  | .nilp, b, h => by cases b <;> simp_all [eqbV]
  | .ptr .., b, h => by cases b <;> simp_all [eqbV]
  | .rp cs j, b, h => by
    cases b <;> try (simp [eqbV] at h; done)
    rename_i cs' j'
    simp only [eqbV, Bool.and_eq_true, decide_eq_true_eq] at h
    rw [eqbVs_sound h.1, h.2]
  | .nils, b, h => by cases b <;> simp_all [eqbV]
  | .row .., b, h => by cases b <;> simp_all [eqbV]
  | .dsl es c, b, h => by
    cases b <;> try (simp [eqbV] at h; done)
    simp only [eqbV, Bool.and_eq_true, decide_eq_true_eq] at h
    rw [eqbVs_sound h.1, h.2]
  | .nilm, b, h => by cases b <;> simp_all [eqbV]
  | .map _, b, h => by cases b <;> simp_all [eqbV]
  | .clo f a c, b, h => by
    cases b <;> try (simp [eqbV] at h; done)
    simp only [eqbV, Bool.and_eq_true, decide_eq_true_eq] at h
    rw [h.1.1, eqbVs_sound h.1.2, eqbVs_sound h.2]
  | .nilf, b, h => by cases b <;> simp_all [eqbV]
  | .iface t v, b, h => by
    cases b <;> try (simp [eqbV] at h; done)
    simp only [eqbV, Bool.and_eq_true, decide_eq_true_eq] at h
    rw [h.1, eqbV_sound h.2]
  | .nili, b, h => by cases b <;> simp_all [eqbV]
  | .agg cs, b, h => by
    cases b <;> try (simp [eqbV] at h; done)
    simp only [eqbV] at h
    rw [eqbVs_sound h]
  | .tup cs, b, h => by
    cases b <;> try (simp [eqbV] at h; done)
    simp only [eqbV] at h
    rw [eqbVs_sound h]
  | .it _, b, h => by cases b <;> simp_all [eqbV]
theorem eqbVs_sound : ∀ {a b : List V}, eqbVs a b = true → a = b
  | [], b, h => by cases b <;> simp_all [eqbVs]
  | v :: vs, b, h => by
    cases b <;> try (simp [eqbVs] at h; done)
    simp only [eqbVs, Bool.and_eq_true] at h
    rw [eqbV_sound h.1, eqbVs_sound h.2]
end
section
variable {τ τ' : Tr V}
theorem arg_congr {x : Ar} (h : ∀ p ∈ x.name, τ.get p = τ'.get p) : arg τ x = arg τ' x := by
  cases x with
  | t p => simp only [arg, h p (by simp [Ar.name])]
  | c v => rfl
theorem optArg_congr {x : Option Ar} (h : ∀ y ∈ x.toList, arg τ y = arg τ' y) : optArg τ x = optArg τ' x := by
  cases x with
  | none => rfl
  | some y => simp only [optArg, h y (by simp)]
theorem wanted_congr {g : Option (Nm × Bool)} (h : ∀ p ∈ guardName g, τ.get p = τ'.get p) : wanted τ g = wanted τ' g := by
  cases g with
  | none => rfl
  | some x => obtain ⟨p, b⟩ := x; simp only [wanted, h p (by simp [guardName])]
theorem map_congr' {as : List Ar} (h : ∀ x ∈ as, arg τ x = arg τ' x) : as.map (arg τ) = as.map (arg τ') := List.map_congr_left h
theorem exec_congr {or : Nat → Nat} {br : Nat} {ks : TypeId → Option Ks} {hm : TypeId → List (String × TypeId) → Option Bool} {s : St} {o : AOp} (h : ∀ x ∈ o.ars, arg τ x = arg τ' x) : exec or br ks hm τ s o = exec or br ks hm τ' s o := by
  cases o with
  | build z parts =>
    have : (parts.map fun (off, n, x) => (off, n, arg τ x)) = parts.map fun (off, n, x) => (off, n, arg τ' x) := List.map_congr_left fun p hp => by
      simp only [h p.2.2 (List.mem_map.2 ⟨p, hp, rfl⟩)]
    simp only [exec, this]
  | buildSlice sz ty z n parts =>
    have : (parts.map fun (i, x) => (i, arg τ x)) = parts.map fun (i, x) => (i, arg τ' x) := List.map_congr_left fun p hp => by
      simp only [h p.2 (List.mem_map.2 ⟨p, hp, rfl⟩)]
    simp only [exec, this]
  | mkFunc fn a b =>
    have h1 := map_congr' (τ := τ) (τ' := τ') (as := a) fun x hx => h x (by simp [AOp.ars, hx])
    have h2 := map_congr' (τ := τ) (τ' := τ') (as := b) fun x hx => h x (by simp [AOp.ars, hx])
    simp only [exec, h1, h2]
  | slice k x lo hi mx =>
    have h0 := h x (by simp [AOp.ars])
    have h1 := optArg_congr (τ := τ) (τ' := τ') (x := lo) fun y hy => h y (by simp only [AOp.ars]; simp [Option.mem_toList.1 hy])
    have h2 := optArg_congr (τ := τ) (τ' := τ') (x := hi) fun y hy => h y (by simp only [AOp.ars]; simp [Option.mem_toList.1 hy])
    have h3 := optArg_congr (τ := τ) (τ' := τ') (x := mx) fun y hy => h y (by simp only [AOp.ars]; simp [Option.mem_toList.1 hy])
    simp only [exec, h0, h1, h2, h3]
  | call f args => rfl
  | bad w => rfl
  | mkMap => rfl
  | alloc z ty => rfl
  | _ =>
    simp only [AOp.ars, List.mem_cons, List.not_mem_nil, or_false, forall_eq_or_imp, forall_eq] at h
    simp only [exec, h]
theorem execCall_congr {E : Env} {ev : Eval} {s : St} {f : Callee} {args : List Ar} (h : ∀ x ∈ (AOp.call f args).ars, arg τ x = arg τ' x) : execCall E ev τ s f args = execCall E ev τ' s f args := by
  have h1 : args.map (arg τ) = args.map (arg τ') := map_congr' fun x hx => h x (by simp [AOp.ars, hx])
  cases f with
  | fn f => simp only [execCall, h1]
  | val f => simp only [execCall, h1, h f (by simp [AOp.ars])]
  | invoke r m => simp only [execCall, h1, h r (by simp [AOp.ars])]
theorem oper_congr {E : Env} {ev : Eval} {s : St} {o : AOp} (h : ∀ x ∈ o.ars, arg τ x = arg τ' x) : oper E ev τ s o = oper E ev τ' s o := by
  unfold oper
  split
  · exact execCall_congr h
  · congr 1; funext n; rw [exec_congr h]
  · rw [exec_congr h]
theorem looks_args {o : AOper} (h : ∀ p ∈ o.looks, τ.get p = τ'.get p) : ∀ x ∈ o.op.ars, arg τ x = arg τ' x :=
  fun x hx => arg_congr fun p hp => h p (by simp only [AOper.looks, List.mem_append, List.mem_flatMap]; exact .inr ⟨x, hx, hp⟩)
theorem looks_guard {o : AOper} (h : ∀ p ∈ o.looks, τ.get p = τ'.get p) : wanted τ o.guard = wanted τ' o.guard :=
  wanted_congr fun p hp => h p (by simp only [AOper.looks, List.mem_append]; exact .inl hp)
theorem lightV_congr {E : Env} {s : St} {o : AOper} (h : ∀ p ∈ o.looks, τ.get p = τ'.get p) : lightV E τ s o = lightV E τ' s o := by
  unfold lightV
  rw [looks_guard h, exec_congr (looks_args h)]
theorem okV_st {x : Option V} {s s' : St} {v : V} (h : okV x s = some (v, s')) : s' = s := by
  unfold okV at h
  split at h
  · cases h; rfl
  · cases h
theorem exec_light {or : Nat → Nat} {br : Nat} {ks : TypeId → Option Ks} {hm : TypeId → List (String × TypeId) → Option Bool} {s s' : St} {v : V} {o : AOp} (hl : lightOp o = true) (h : exec or br ks hm τ s o = some (v, s')) : s' = s := by
  cases o <;> try (simp [lightOp] at hl; done)
  all_goals
    simp only [exec] at h
  all_goals first
    | exact okV_st h
    | (cases h; rfl)
    | skip
  all_goals
    repeat' (first | (cases h; done) | (cases h; rfl) | (exact okV_st h) | split at h)
  all_goals (simp [lightOp] at hl)
end
end Go.Eng
end
section
namespace Go.Eng
def fence (ro : Option Nat) : Fence := { Fence.wide with round := ro }
theorem fence_in (ro : Option Nat) (l : Nat) : (fence ro).inRound l = fence (some l) := rfl
theorem fence_none : fence none = Fence.wide := rfl
def returns (K : Value → World → Prop) : Ending → World → Prop
  | .returned v, w => K v w
  | _, _ => False
def Gives (P : Program) (K : Value → World → Prop) : Result Next → Prop
  | .ok (.value v) w => K v w
  | .ok .skip w => K Go.undef w
  | .ok (.enter f args) w => Calls P f args w (returns K)
  | .ok (.round l f tmps assign body) w => RoundIn Fence.wide 0 P l f tmps assign body w (returns K)
  | _ => False
theorem callsIn_fence {ro : Option Nat} {n : Nat} {P : Program} {f : FuncId} {args : Array Value} {w : World} {R : Ending → World → Prop} (h : Calls P f args w R) : CallsIn (fence ro) n P f args w R := by
  have h' : CallsIn Fence.wide n P f args w R := callsIn_wide.2 h
  exact h'
theorem roundIn_fence {ro : Option Nat} {n : Nat} {P : Program} {l : Nat} {f : FuncId} {tmps : Array Value} {assign body : Code} {w : World} {R : Ending → World → Prop} (h : RoundIn Fence.wide 0 P l f tmps assign body w R) :
    RoundIn (fence ro) n P l f tmps assign body w R := ⟨trivial, fun c cs _ => h.2 c cs (room_wide _)⟩
theorem Gives.upon {P : Program} {K : Value → World → Prop} {r : Result Next} (h : Gives P K r) {ro : Option Nat} {n : Nat} {o : Oper} {a : Act} {next : Act → World → Prop} {Q : Exit → Act → World → Prop}
    (hn : ∀ v w, K v w → next (a.put o.dst v) w) : o.uponIn (fence ro) n P a next Q r := by
  have hd : (fence ro).depth.isSome = true → 1 ≤ n := fun h => by simp [fence, Fence.wide] at h
  cases r with
  | halt x w => exact h.elim
  | ok x w =>
    cases x <;> try (exact h.elim)
    · exact hn _ _ h
    · exact hn _ _ h
    · refine ⟨hd, callsIn_fence (h.mono fun e w' he => ?_)⟩
      cases e <;> first | exact hn _ _ he | exact he.elim
    · refine ⟨hd, roundIn_fence (h.mono fun e w' he => ?_)⟩
      cases e <;> first | exact hn _ _ he | exact he.elim
theorem Gives.mono {P : Program} {K K' : Value → World → Prop} {r : Result Next} (h : Gives P K r) (hk : ∀ v w, K v w → K' v w) : Gives P K' r := by
  cases r with
  | halt x w => exact h.elim
  | ok x w =>
    cases x <;> try (exact h.elim)
    · exact hk _ _ h
    · exact hk _ _ h
    · exact Calls.mono h fun e w' he => by cases e <;> first | exact hk _ _ he | exact he.elim
    · exact RoundIn.mono h fun e w' he => by cases e <;> first | exact hk _ _ he | exact he.elim
section
variable {C : Ctx}
def Post (C : Ctx) (ρ : Rho) (s : St) (w : World) (R : V × St → Prop) (cv : Value) (w' : World) : Prop :=
  ∃ ρ' v s', R (v, s') ∧ VR ρ' v cv ∧ Ext C ρ s w ρ' s' w'
def AR (ρ : Rho) (args : List V) (cargs : Array Value) : Prop := args.length = cargs.size ∧ ∀ (i : Nat) v cv, args[i]? = some v → cargs[i]? = some cv → VR ρ v cv
theorem AR.mono {ρ ρ' : Rho} (h : ρ.Le ρ') {args : List V} {cargs : Array Value} (ha : AR ρ args cargs) : AR ρ' args cargs := ⟨ha.1, fun i v cv e k => (ha.2 i v cv e k).mono h⟩
theorem AR.app {ρ : Rho} {a b : List V} {a' b' : Array Value} (h : AR ρ a a') (k : AR ρ b b') : AR ρ (a ++ b) (a' ++ b') := by
  refine ⟨by simp [h.1, k.1], fun i v cv hv hc => ?_⟩
  rw [List.getElem?_append] at hv
  rw [Array.getElem?_append, ← h.1] at hc
  split at hv
  · rename_i hlt; rw [if_pos hlt] at hc; exact h.2 i v cv hv hc
  · rename_i hge; rw [if_neg hge] at hc; exact k.2 _ v cv hv hc
theorem AR.one {ρ : Rho} {v : V} {cv : Value} (h : VR ρ v cv) : AR ρ [v] #[cv] := by
  refine ⟨rfl, fun i x y hx hy => ?_⟩
  cases i with
  | zero => simp at hx hy; subst hx; subst hy; exact h
  | succ i => simp at hx
theorem AR.nil {ρ : Rho} : AR ρ [] #[] := ⟨rfl, fun i x y hx => by simp at hx⟩
def mark (r : Nat) : Deferred := { target := .collected r, args := #[] }
def Marked (ρ : Rho) (s : St) (lo : Nat) (w : World) (rs : List Nat) : Prop :=
  rs.Nodup ∧ ∀ r ∈ rs, lo ≤ r ∧ r < w.heap.size ∧ w.heap[r]? = some (.deferred (some [])) ∧ ¬ Owns ρ s r ∧ ρ.imm r = none
theorem Marked.nil {ρ : Rho} {s : St} {lo : Nat} {w : World} : Marked ρ s lo w [] := ⟨List.nodup_nil, fun r hr => by simp at hr⟩
theorem Marked.ext {ρ ρ' : Rho} {s s' : St} {lo : Nat} {w w' : World} {rs : List Nat} (h : Marked ρ s lo w rs) (e : Ext C ρ s w ρ' s' w') : Marked ρ' s' lo w' rs :=
  ⟨h.1, fun r hr => by
    obtain ⟨h1, h2, h3, h4, h5⟩ := h.2 r hr
    refine ⟨h1, Nat.lt_of_lt_of_le h2 e.size, by rw [e.frame r h2 h4]; exact h3, fun ho => h4 (e.own r h2 ho), ?_⟩
    cases hc : ρ'.imm r with
    | none => rfl
    | some o =>
      rcases e.imm r o hc with k | k | k
      · rw [h5] at k; cases k
      · omega
      · exact (h4 k).elim⟩
theorem Marked.app {ρ ρ' : Rho} {s s' : St} {lo : Nat} {w w' : World} {rs rs' : List Nat} (h : Marked ρ s lo w rs) (e : Ext C ρ s w ρ' s' w') (hlo : lo ≤ w.heap.size) (h' : Marked ρ' s' w.heap.size w' rs') : Marked ρ' s' lo w' (rs' ++ rs) := by
  have h1 := h.ext e
  refine ⟨List.nodup_append.2 ⟨h'.1, h1.1, fun a ha b hb hab => ?_⟩, fun r hr => ?_⟩
  · subst hab
    have := (h'.2 a ha).1
    have := (h.2 a hb).2.1
    omega
  · rcases List.mem_append.1 hr with hr | hr
    · obtain ⟨a, b⟩ := h'.2 r hr
      exact ⟨Nat.le_trans hlo a, b⟩
    · exact h1.2 r hr
theorem Ext.free {ρ ρ' : Rho} {s s' : St} {w w' : World} (e : Ext C ρ s w ρ' s' w') {r : Nat} (hr : w.heap.size ≤ r) (hn : ¬ Owns ρ' s' r) (hi : ρ'.imm r = none) (o : Obj) : Ext C ρ s w ρ' s' (w'.putObj r o) := by
  have hne : ∀ c o', ρ'.imm c = some o' → c ≠ r := fun c o' hc he => by
    subst he
    rw [hi] at hc; cases hc
  refine { e with inv := ?_, size := by simpa using e.size, frame := fun c hc ho => ?_ }
  · refine { e.inv with obj := fun b l o' hb hl => ?_, imm := fun c o' hc => ?_, lt := fun b l hb => by simpa using e.inv.lt b l hb }
    · exact (e.inv.obj b l o' hb hl).of_block (.refl _) (World.putObj_heap_other (fun he => hn ⟨b, l, by rw [hb]; simp, hl, he⟩))
    · rw [World.putObj_heap_other (hne c o' hc)]; exact e.inv.imm c o' hc
  · have : c ≠ r := by omega
    show (w'.putObj r o).heap[c]? = _
    rw [World.putObj_heap_other this]; exact e.frame c hc ho
theorem get_initT : ∀ (vs : List V) (n : Nm) (τ : Tr V) (p : Nm), (initT vs n τ).get p = if n.val ≤ p.val ∧ p.val < n.val + vs.length then vs[p.val - n.val]? else τ.get p
  | [], n, τ, p => by
    rw [if_neg (by simp)]; rfl
  | v :: vs, n, τ, p => by
    have ih := get_initT vs n.succ (τ.set (some v) n) p
    simp only [initT, ih, Nm.val_succ, List.length_cons, Tr.get_set]
    by_cases h1 : n.val + 1 ≤ p.val ∧ p.val < n.val + 1 + vs.length
    · rw [if_pos h1, if_pos (by omega)]
      have : p.val - n.val = (p.val - (n.val + 1)) + 1 := by omega
      rw [this, List.getElem?_cons_succ]
    · rw [if_neg h1]
      by_cases h2 : n = p
      · subst h2; rw [if_pos rfl, if_pos (by omega)]; simp
      · have : n.val ≠ p.val := fun e => h2 (Nm.val_inj e)
        rw [if_neg h2, if_neg (by omega)]
theorem TR.enter {ρ : Rho} {args : List V} {cargs : Array Value} (h : AR ρ args cargs) (nt : Nat) : TR ρ (initT args .h .leaf) (cargs ++ Array.replicate (nt - cargs.size) Go.undef) := by
  have hg : ∀ p : Nm, (initT args .h .leaf).get p = args[p.val - 1]? := fun p => by
    have := Nm.pos p
    rw [get_initT]
    show (if 1 ≤ p.val ∧ p.val < 1 + args.length then _ else _) = _
    split
    · rfl
    · rw [Tr.get_leaf, List.getElem?_eq_none (by omega)]
  refine ⟨fun p v hv => ?_, fun p hp => ?_⟩
  · rw [hg] at hv
    have := (List.getElem?_eq_some_iff.1 hv).1
    rw [h.1] at this
    simp; omega
  · rw [hg]
    rw [Array.getD_eq_getD_getElem?, Array.getElem?_append]
    split
    · rename_i hlt
      have hlt' : p.val - 1 < args.length := by rw [h.1]; exact hlt
      rw [List.getElem?_eq_getElem hlt', Array.getElem?_eq_getElem hlt]
      exact h.2 (p.val - 1) _ _ (List.getElem?_eq_getElem hlt') (Array.getElem?_eq_getElem hlt)
    · rename_i hge
      rw [List.getElem?_eq_none (by rw [h.1]; omega)]
      simp only [Array.size_append, Array.size_replicate] at hp
      rw [Array.getElem?_replicate, if_pos (by omega)]
      exact VR.undef ρ
theorem TR.at {ρ : Rho} {τ : Tr V} {tmps : Array Value} (h : TR ρ τ tmps) (t : Nat) : VR ρ ((τ.get (nm t)).getD Eng.undef) (tmps.getD t Go.undef) := by
  by_cases ht : t < tmps.size
  · have := h.rel (nm t) (by rw [val_nm]; omega)
    rw [val_nm, Nat.add_sub_cancel] at this; exact this
  · have h1 : τ.get (nm t) = none := by
      cases hg : τ.get (nm t) with
      | none => rfl
      | some v => have := h.fits _ _ hg; rw [val_nm] at this; omega
    rw [h1, Array.getD_eq_getD_getElem?, Array.getElem?_eq_none (by omega)]
    exact VR.undef ρ
def resVar (tmps : Array Value) : ResultVar → Sem Value
  | .tmp t => pure (tmps.getD t Go.undef)
  | .cell a t => do loadVar t (← asAddr (tmps.getD a Go.undef))
theorem results_eq (fn : Func) (tmps : Array Value) : Go.results fn tmps = (do let vs ← fn.results.mapM (resVar tmps); pure (if h : vs.size = 1 then vs[0] else .tuple vs) : Sem Value) := by
  unfold Go.results
  congr 1
theorem results_ok {ρ : Rho} {s : St} {w : World} (hI : Inv C ρ s w) {τ : Tr V} {tmps : Array Value} (hτ : TR ρ τ tmps) : ∀ {rs : List ResultVar} {ars : List ARes} {vs : List V}, resOf C.P rs = some ars → results s.heap τ ars = some vs →
    ∃ cvs : List Value, (rs.mapM (resVar tmps)).run C.P w = .ok cvs w ∧ cvs.length = vs.length ∧ ∀ (i : Nat) v cv, vs[i]? = some v → cvs[i]? = some cv → VR ρ v cv
  | [], ars, vs, h, hr => by
    simp [resOf] at h; subst h; simp [results] at hr; subst hr
    exact ⟨[], by simp, rfl, fun i v cv hv => by simp at hv⟩
  | .tmp t :: rs, ars, vs, h, hr => by
    simp only [resOf] at h
    split at h
    · rename_i l hl
      cases h
      simp only [results] at hr
      split at hr
      · rename_i vs' hvs
        cases hr
        obtain ⟨cvs, h1, h2, h3⟩ := results_ok hI hτ hl hvs
        refine ⟨tmps.getD t Go.undef :: cvs, ?_, by simp [h2], fun i v cv hv hc => ?_⟩
        · rw [List.mapM_cons, Sem.run_bind]
          simp only [resVar]
          rw [Sem.run_pure, Result.andThen_ok, Sem.run_bind, h1, Result.andThen_ok, Sem.run_pure]
        · cases i with
          | zero => simp only [List.getElem?_cons_zero, Option.some.injEq] at hv hc; subst hv; subst hc; exact hτ.at t
          | succ i => exact h3 i v cv (by simpa using hv) (by simpa using hc)
      · cases hr
    · cases h
  | .cell a t :: rs, ars, vs, h, hr => by
    simp only [resOf] at h
    split at h
    · rename_i n agg l ht hl
      cases h
      simp only [results] at hr
      split at hr
      · rename_i v' vs' hv' hvs
        cases hr
        obtain ⟨cvs, h1, h2, h3⟩ := results_ok hI hτ hl hvs
        obtain ⟨ad, cv', e1, e2, e3⟩ := load_spec hI ht (hτ.at a) hv'
        refine ⟨cv' :: cvs, ?_, by simp [h2], fun i v cv hv hc => ?_⟩
        · have ha : (asAddr (tmps.getD a Go.undef)).run C.P w = .ok ad w := by rw [e1]; rfl
          have hb : (resVar tmps (.cell a t)).run C.P w = .ok cv' w := by
            unfold resVar
            rw [Sem.run_bind, ha, Result.andThen_ok, e2]
          rw [List.mapM_cons, Sem.run_bind, hb, Result.andThen_ok, Sem.run_bind, h1, Result.andThen_ok, Sem.run_pure]
        · cases i with
          | zero => simp only [List.getElem?_cons_zero, Option.some.injEq] at hv hc; subst hv; subst hc; exact e3
          | succ i => exact h3 i v cv (by simpa using hv) (by simpa using hc)
      · cases hr
    · cases h
theorem results_run {ρ : Rho} {s : St} {w : World} (hI : Inv C ρ s w) {τ : Tr V} {tmps : Array Value} (hτ : TR ρ τ tmps) {fn : Func} {ars : List ARes} {vs : List V} (h : resOf C.P fn.results.toList = some ars) (hr : results s.heap τ ars = some vs) :
    ∃ cv, (Go.results fn tmps).run C.P w = .ok cv w ∧ VR ρ (resultV vs) cv := by
  obtain ⟨cvs, h1, h2, h3⟩ := results_ok hI hτ h hr
  rw [results_eq, Array.mapM_eq_mapM_toList]
  simp only [map_eq_pure_bind]
  rw [Sem.run_bind, Sem.run_bind, h1, Result.andThen_ok, Sem.run_pure, Result.andThen_ok, Sem.run_pure]
  refine ⟨_, rfl, ?_⟩
  split
  · rename_i hs
    match cvs, vs, h2, hs with
    | [c], [v], _, _ => exact h3 0 v c rfl rfl
  · rename_i hs
    have hv : resultV vs = .tup vs := by
      match vs, cvs, h2, hs with
      | [], _, _, _ => rfl
      | [_], [_], _, hs => simp at hs
      | _ :: _ :: _, _, _, _ => rfl
    rw [hv]
    exact .tup (by simp [h2]) fun i v cv hv hc => h3 i v cv hv (by simpa using hc)
theorem leaves_ok {ρ ρ' : Rho} {s s' : St} {w : World} (hI : Inv C ρ s w) {fn : Func} {tmps : Array Value} {R : Ending → World → Prop} : ∀ (rs : List Nat) (w' : World), Ext C ρ s w ρ' s' w' → Marked ρ' s' w.heap.size w' rs →
    (∀ w'', Ext C ρ s w ρ' s' w'' → LeavesInM Fence.wide 0 C.P fn tmps R [] .returning w'') → LeavesInM Fence.wide 0 C.P fn tmps R (rs.map mark) .returning w'
  | [], w', e, _, h => h w' e
  | r :: rs, w', e, hm, h => by
    obtain ⟨h1, h2, h3, h4, h5⟩ := hm.2 r (by simp)
    refine ⟨by simp, .inl ⟨r, w'.putObj r (.deferred none), rfl, run_takeDeferred h3, ?_⟩⟩
    refine leaves_ok hI rs _ (e.free h1 h4 h5 _) ⟨(List.nodup_cons.1 hm.1).2, fun r' hr' => ?_⟩ h
    obtain ⟨k1, k2, k3, k4⟩ := hm.2 r' (by simp [hr'])
    have hne : r' ≠ r := fun he => (List.nodup_cons.1 hm.1).1 (he ▸ hr')
    exact ⟨k1, by simpa using k2, by rw [World.putObj_heap_other hne]; exact k3, k4⟩
end
end Go.Eng
end
section
namespace Go.Eng
def exOf : Ex → Exit
  | .normal => .normal
  | .ret => .ret
  | .exit id => .exit id
def CPost (C : Ctx) (ρ : Rho) (s : St) (w : World) (a : Act) (R : Ex × Tr V × St → Prop) (e : Exit) (a' : Act) (w' : World) : Prop :=
  ∃ ex τ' s' ρ' rs, R (ex, τ', s') ∧ exOf ex = e ∧ TR ρ' τ' a'.tmps ∧ Ext C ρ s w ρ' s' w' ∧ a'.tmps.size = a.tmps.size ∧ a'.defers = rs.map mark ++ a.defers ∧ Marked ρ' s' w.heap.size w' rs
def Sound (C : Ctx) (E : Env) (ev : Eval) : Prop :=
  ∀ (c : Code) (nt : Nat) (ro : Option Nat) (ρ : Rho) (s : St) (w : World) (τ : Tr V) (a : Act) (R : Ex × Tr V × St → Prop) (m : Nat), Inv C ρ s w → GR C ρ → TR ρ τ a.tmps → nt ≤ a.tmps.size →
    (ev (codeOf C.P C.G nt ro.isSome c) τ s).All E.branch R → c.wpIn (fence ro) m C.P (CPost C ρ s w a R) a w
structure EnvOk (C : Ctx) (E : Env) : Prop where
  fns : ∀ g fn, E.fns (nm g) = some fn → ∃ F c, C.P.funcs[g]? = some F ∧ F.body = some c ∧ F.name ≠ "runtime.NumGoroutine" ∧ fnOf C.P C.G F = some fn
  over : ∀ g h, E.over (nm g) = some h → ∀ ρ s w args cargs R, Inv C ρ s w → GR C ρ → AR ρ args cargs → (h args s).All E.branch R → Gives C.P (Post C ρ s w R) ((callFunc g cargs).run C.P w)
  mixed : C.P.follows .mixedOrders = true
  ks : KsOk C.P E.ks
  hm : HmOk C.P E.hasMethods
  methods : ∀ t name f n agg, E.methods t name = some (f, n, agg) → ∃ g, nm g = f ∧
    (n = 0 → ∀ w v, (Go.method (C.P.types.size + Made.depth) t v name).run C.P w = .ok (g, v) w) ∧
    (n ≠ 0 → ∃ e, tyOf C.P e = some (n, agg) ∧ ∀ w a cv, (loadVar e a).run C.P w = .ok cv w → (Go.method (C.P.types.size + Made.depth) t (.pointer (some a)) name).run C.P w = .ok (g, cv) w)
section
variable {C : Ctx} {E : Env} {ev : Eval} {ρ : Rho} {s : St} {w : World}
theorem callB_ok (hE : EnvOk C E) (hS : Sound C E ev) (hI : Inv C ρ s w) (hG : GR C ρ) {g : Nat} {args : List V} {cargs : Array Value} (ha : AR ρ args cargs) {R : V × St → Prop} (h : (callB E ev (nm g) args s).All E.branch R) :
    (callFunc g cargs).run C.P w = .ok (.enter g cargs) w ∧ Calls C.P g cargs w (returns (Post C ρ s w R)) := by
  unfold callB at h
  split at h
  · rename_i fn hfn
    obtain ⟨F, c, hF, hc, hn, hf⟩ := hE.fns g fn hfn
    refine ⟨?_, ?_⟩
    · simp [callFunc, hF, hc, hn]
    · unfold fnOf at hf
      rw [hc] at hf
      simp only at hf
      split at hf
      · rename_i ars hars
        cases hf
        simp only at h
        have hb := T.all_bind h
        have hτ := TR.enter ha F.ntmps
        have hw := hS c F.ntmps none ρ s w _ { tmps := cargs ++ Array.replicate (F.ntmps - cargs.size) Go.undef, defers := [] } _ 0 hI hG hτ (by simp; omega) hb
        rw [fence_none] at hw
        refine callsIn_wide.1 (callsIn_of_wp_marks (n := 0) hF hc trivial (wpIn_mono hw ?_) rfl)
        rintro e a' w' ⟨ex, τ', s', ρ', rs, hR, he, hτ', hext, hsz, hd, hm⟩
        have fin : ∀ vs, results s'.heap τ' ars = some vs → R (resultV vs, s') → LeavesInM Fence.wide 0 C.P F a'.tmps (returns (Post C ρ s w R)) a'.defers .returning w' := by
          intro vs hvs hR'
          rw [hd, List.append_nil]
          refine leaves_ok hI rs w' hext hm fun w'' hext' => ?_
          obtain ⟨cv, h1, h2⟩ := results_run hext'.inv hτ' hars hvs
          exact ⟨cv, h1, ρ', resultV vs, s', hR', h2, hext'⟩
        cases ex with
        | exit id => exact hR.elim
        | normal =>
          subst he
          simp only [leave] at hR
          split at hR
          · rename_i vs hvs; exact fin vs hvs hR
          · exact hR.elim
        | ret =>
          subst he
          simp only [leave] at hR
          split at hR
          · rename_i vs hvs; exact fin vs hvs hR
          · exact hR.elim
      · cases hf
  · exact h.elim
theorem callF_ok (hE : EnvOk C E) (hS : Sound C E ev) (hI : Inv C ρ s w) (hG : GR C ρ) {g : Nat} {args : List V} {cargs : Array Value} (ha : AR ρ args cargs) {R : V × St → Prop} (h : (callF E ev (nm g) args s).All E.branch R) :
    Gives C.P (Post C ρ s w R) ((callFunc g cargs).run C.P w) := by
  unfold callF at h
  split at h
  · rename_i f hf
    exact hE.over g f hf ρ s w args cargs R hI hG ha h
  · obtain ⟨h1, h2⟩ := callB_ok hE hS hI hG ha h
    rw [h1]; exact h2
theorem callM_ok (hE : EnvOk C E) (hS : Sound C E ev) (hI : Inv C ρ s w) (hG : GR C ρ) {r : V} {cr : Value} (hr : VR ρ r cr) {m : String} {args : List V} {cargs : Array Value} (ha : AR ρ args cargs) {R : V × St → Prop} (h : (callM E ev r m args s).All E.branch R) :
    Gives C.P (Post C ρ s w R) ((callMethod cr m cargs).run C.P w) := by
  unfold callM at h
  cases r <;> try (exact h.elim)
  rename_i t v
  simp only at h
  cases hr with
  | iface hv =>
    rename_i cv
    split at h
    · rename_i f n agg hm
      obtain ⟨g, rfl, h0, h1⟩ := hE.methods t m f n agg hm
      cases n with
      | zero =>
        simp only at h
        have := callF_ok hE hS hI hG ((AR.one hv).app ha) h
        simpa [callMethod, h0 rfl] using this
      | succ n =>
        simp only at h
        split at h
        · rename_i x hx
          obtain ⟨e, he, hl⟩ := h1 (by omega)
          obtain ⟨ad, cv', e1, e2, e3⟩ := load_spec hI he hv hx
          subst e1
          have := callF_ok hE hS hI hG ((AR.one e3).app ha) h
          simpa [callMethod, hl w ad cv' e2] using this
        · exact h.elim
    · exact h.elim
theorem setParams_ok : ∀ {params : List Nat} {args : List V} {cargs : List Value} {τ τ₁ : Tr V} {tmps : Array Value}, TR ρ τ tmps → args.length = cargs.length → (∀ (i : Nat) v cv, args[i]? = some v → cargs[i]? = some cv → VR ρ v cv) →
    (∀ p ∈ params, p < tmps.size) → setParams (params.map nm) args τ = some τ₁ →
    args.length = params.length ∧ TR ρ τ₁ ((params.zip cargs).foldl (fun t x => t.setIfInBounds x.1 x.2) tmps) ∧ ((params.zip cargs).foldl (fun t x => t.setIfInBounds x.1 x.2) tmps).size = tmps.size
  | [], args, cargs, τ, τ₁, tmps, hτ, hl, hv, hp, h => by
    cases args with
    | nil => simp only [List.map_nil, setParams, Option.some.injEq] at h; subst h; exact ⟨rfl, by simpa using hτ, by simp⟩
    | cons v args => simp [setParams] at h
  | p :: params, args, cargs, τ, τ₁, tmps, hτ, hl, hv, hp, h => by
    cases args with
    | nil => simp [setParams] at h
    | cons v args =>
      cases cargs with
      | nil => simp at hl
      | cons cv cargs =>
        simp only [List.map_cons, setParams] at h
        have h0 := hv 0 v cv rfl rfl
        have h1 := TR.put (a := { tmps, defers := [] }) hτ (d := some p) (fun t e => by cases e; exact hp p (by simp)) h0
        have := setParams_ok (params := params) (args := args) (cargs := cargs) (tmps := tmps.setIfInBounds p cv) h1 (by simpa using hl) (fun i v cv e k => hv (i + 1) v cv (by simpa using e) (by simpa using k))
          (fun q hq => by rw [Array.size_setIfInBounds]; exact hp q (by simp [hq])) h
        obtain ⟨k1, k2, k3⟩ := this
        refine ⟨by simp [k1], by simpa using k2, ?_⟩
        rw [List.zip_cons_cons, List.foldl_cons, k3, Array.size_setIfInBounds]
theorem putObj_upd (w : World) (c : Nat) (o : Obj) : Upd w (w.putObj c o) c := ⟨rfl, rfl, rfl, by simp, fun d hd => World.putObj_heap_other hd⟩
theorem loop_set {ρ : Rho} {s : St} {w : World} (hI : Inv C ρ s w) {b : Nm} {l : Loc} (hl : ρ.blk b = some l) {τ : Tr V} {ps : List Nm} {as bd : ACode} {st st' : Nat} {pd pd' : Option Ex} {r : Go.Loop} {st2 : LoopState} {pd2 : Option Code}
    (hb : s.heap.get b = some (.loop τ ps as bd st pd)) (hr : w.heap[l.c]? = some (.loop r)) (h1 : st2 = loopSt st') (h2 : pendingOf pd' = some pd2) :
    Ext C ρ s w ρ { s with heap := s.heap.set (some (.loop τ ps as bd st' pd')) b } (w.putObj l.c (.loop { r with state := st2, pending := pd2 })) := by
  refine ext_set hI (by rw [hb]; simp) hl (putObj_upd w l.c _) _ fun o' ho' => ?_
  cases ho'
  obtain ⟨r', k1, k2, k3, k4, k5, k6, k7⟩ := hI.obj b l _ hb hl
  rw [hr] at k1; cases k1
  exact ⟨_, World.putObj_heap_same (hI.lt b l hl), h1, h2, k4, k5, k6, k7⟩
theorem round_ok (hS : Sound C E ev) (hI : Inv C ρ s w) (hG : GR C ρ) {b : Nm} {l : Loc} (hl : ρ.blk b = some l) {args : List V} {cargs : Array Value} (ha : AR ρ args cargs) {R : V × St → Prop} (h : (round ev b args s).All E.branch R) :
    Gives C.P (Post C ρ s w R) ((Instr.yield l.c cargs).run C.P w) := by
  unfold round at h
  split at h
  · rename_i τ ps as bd hb
    obtain ⟨r, k1, k2, k3, k4, k5, k6, nt, k7, k8, k9⟩ := hI.obj b l _ hb hl
    split at h
    · rename_i τ₁ hp
      subst k5
      obtain ⟨p1, p2, p3⟩ := setParams_ok (params := r.params.toList) (cargs := cargs.toList) k4 (by simpa using ha.1) (fun i v cv e k => ha.2 i v cv e (by simpa using k)) k6 hp
      rw [run_yield k1 (by rw [← ha.1, p1]; simp)]
      have hz : (r.params.zip cargs).foldl (fun tmps x => tmps.setIfInBounds x.1 x.2) r.tmps = (r.params.toList.zip cargs.toList).foldl (fun t x => t.setIfInBounds x.1 x.2) r.tmps := by
        rw [← Array.foldl_toList]; simp
      show RoundIn Fence.wide 0 C.P l.c r.fn ((r.params.zip cargs).foldl (fun tmps x => tmps.setIfInBounds x.1 x.2) r.tmps) r.assign r.body w _
      rw [hz]
      refine roundIn_of_wpIn trivial ?_
      have h1 := T.all_bind h
      rw [← k8] at h1
      have hw := hS r.assign nt (some l.c) ρ s w τ₁ { tmps := (r.params.toList.zip cargs.toList).foldl (fun t x => t.setIfInBounds x.1 x.2) r.tmps, defers := [] } _ 0 hI hG p2 (by rw [p3]; exact k7) h1
      rw [← fence_none, fence_in]
      refine wpIn_mono hw ?_
      rintro e a₁ w₁ ⟨ex, τ', s', ρ', rs, hR, he, hτ', hext, hsz, -, -⟩
      cases ex <;> try (exact hR.elim)
      subst he
      simp only [beginRound] at hR
      split at hR
      · rename_i τx psx asx bdx hb'
        have hl' := hext.le.blk b l hl
        obtain ⟨r', q1, q2, q3, q4, q5, q6, q7⟩ := hext.inv.obj b l _ hb' hl'
        have hbusy := loop_set (st' := 2) (pd' := none) (st2 := .busy) (pd2 := r'.pending) hext.inv hl' hb' q1 rfl (by simpa [pendingOf] using q3)
        refine ⟨_, run_beginRound q1 q2, ?_⟩
        have hext2 := hext.trans hbusy
        have h2 := T.all_bind hR
        rw [← k9] at h2
        have hw2 := hS r.body nt (some l.c) ρ' _ _ τ' a₁ _ 0 hbusy.inv (hG.mono hext2.le) hτ' (by rw [hsz, p3]; exact k7) h2
        refine wpIn_mono hw2 ?_
        rintro e a₂ w₂ ⟨ex, τ'', s'', ρ'', rs', hR', he, -, hext3, -, -, -⟩
        simp only [endRound] at hR'
        split at hR'
        · rename_i τy psy asy bdy hb''
          have hl'' := hext3.le.blk b l hl'
          obtain ⟨r'', q1', q2', q3', -⟩ := hext3.inv.obj b l _ hb'' hl''
          have hx := hext2.trans hext3
          cases ex with
          | normal =>
            subst he
            refine ⟨_, _, run_endRound none q1', ρ'', _, _, hR', .bool true, hx.trans (loop_set hext3.inv hl'' hb'' q1' rfl rfl)⟩
          | ret =>
            subst he
            refine ⟨_, _, run_endRound (some .ret) q1', ρ'', _, _, hR', .bool false, hx.trans (loop_set hext3.inv hl'' hb'' q1' rfl rfl)⟩
          | exit id =>
            subst he
            refine ⟨_, _, run_endRound (some (.exit id)) q1', ρ'', _, _, hR', .bool false, hx.trans (loop_set hext3.inv hl'' hb'' q1' rfl rfl)⟩
        · exact hR'.elim
      · exact hR.elim
    · exact h.elim
  · exact h.elim
theorem callV_ok (hE : EnvOk C E) (hS : Sound C E ev) (hI : Inv C ρ s w) (hG : GR C ρ) {f : V} {cf : Value} (hf : VR ρ f cf) {args : List V} {cargs : Array Value} (ha : AR ρ args cargs) {R : V × St → Prop} (h : (callV E ev f args s).All E.branch R) :
    Gives C.P (Post C ρ s w R) ((do let d ← Deferred.ofValue cf cargs; invoke d.target d.args : Sem Next).run C.P w) := by
  unfold callV at h
  split at h
  · rename_i g first cap
    cases hf with
    | clo hy h1 h2 h3 h4 =>
      rename_i a' b'
      have := callF_ok hE hS hI hG (AR.app (AR.app ⟨h1, h3⟩ ha) ⟨h2, h4⟩) h
      simpa [Deferred.ofValue, invoke] using this
  · rename_i i b
    cases hf with
    | clo hy => simp [isYield] at hy
    | yld hl =>
      have := round_ok hS hI hG hl ha h
      simpa [Deferred.ofValue, invoke] using this
  · rename_i m r
    cases hf with
    | clo hy h1 h2 h3 h4 =>
      rename_i a' b'
      obtain ⟨x, rfl⟩ : ∃ x, a' = #[x] := by
        cases a' with
        | mk l => match l, h1 with
          | [x], _ => exact ⟨x, rfl⟩
      have := callM_ok hE hS hI hG (h3 0 r x rfl rfl) ha h
      have e : (#[x] ++ cargs).extract 1 (cargs.size + 1) = cargs := by
        apply Array.ext'
        simp
      simpa [Deferred.ofValue, invoke, Nat.add_comm 1, e] using this
  · exact h.elim
end
end Go.Eng
end
section
namespace Go.Eng
section
variable {C : Ctx} {E : Env} {ev : Eval} {ρ : Rho} {s : St} {w : World} {τ : Tr V} {a : Act}
theorem callOp_call {G : Globals} {c : Call} {f : Callee} {l : List Ar} (h : callOp C.P G c = some (.call f l)) :
    ars G c.args.toList = some l ∧ ((∃ g, c.callee = .value (.func g) ∧ f = .fn (nm g)) ∨ (∃ x ax, c.callee = .value x ∧ ar G x = some ax ∧ f = .val ax) ∨ (∃ r ax m, c.callee = .invoke r m ∧ ar G r = some ax ∧ f = .invoke ax m)) := by
  unfold callOp at h
  split at h
  · unfold builtinOf at h
    repeat' (first | (cases h; done) | split at h)
  · rename_i x hc
    split at h
    · rename_i as has
      split at h
      · rename_i g
        cases h
        exact ⟨has, .inl ⟨g, hc, rfl⟩⟩
      · split at h
        · rename_i ax hx
          cases h
          exact ⟨has, .inr (.inl ⟨_, ax, hc, hx, rfl⟩)⟩
        · cases h
    · cases h
  · rename_i r m hc
    split at h
    · rename_i ax as hr has
      cases h
      exact ⟨has, .inr (.inr ⟨r, ax, m, hc, hr, rfl⟩)⟩
    · cases h
theorem opOf_call {G : Globals} {o : Oper} {f : Callee} {l : List Ar} (h : opOf C.P G o = some (.call f l)) : ∃ c, o.op = .call c ∧ callOp C.P G c = some (.call f l) := by
  unfold opOf at h
  split at h
  all_goals first
    | (rename_i c ho; exact ⟨c, ho, h⟩)
    | (repeat' (first | (cases h; done) | split at h))
theorem opOf_defer {G : Globals} {o : Oper} {op : AOp} (h : opOf C.P G o = some op) : ∀ c, o.op ≠ .defer c := by
  intro c hc
  simp [opOf, hc] at h
theorem oper_ok (hE : EnvOk C E) (hS : Sound C E ev) (hI : Inv C ρ s w) (hG : GR C ρ) (hτ : TR ρ τ a.tmps) {o : Oper} {op : AOp} (hop : opOf C.P C.G o = some op) {R : V × St → Prop} (h : (oper E ev τ s op).All E.branch R) :
    Gives C.P (Post C ρ s w R) ((execOp a.eval o).run C.P w) := by
  have fin : ∀ {v : V} {s' : St}, R (v, s') → OpOk C ρ s w v s' ((execOp a.eval o).run C.P w) → Gives C.P (Post C ρ s w R) ((execOp a.eval o).run C.P w) := by
    rintro v s' hR ⟨cv, ρ', w', h1, h2, h3⟩
    rcases h1 with h1 | ⟨h1, rfl⟩
    · rw [h1]; exact ⟨ρ', v, s', hR, h2, h3⟩
    · rw [h1]; exact ⟨ρ', v, s', hR, h2, h3⟩
  unfold oper at h
  split at h
  · rename_i f l
    obtain ⟨c, ho, hc⟩ := opOf_call hop
    obtain ⟨has, hcase⟩ := callOp_call hc
    obtain ⟨e1, e2⟩ := args_rel hG hτ has
    have hA : AR ρ (l.map (arg τ)) (c.args.map a.eval) := by
      refine ⟨by simpa using e1, fun i v cv hv hcv => e2 i v cv hv ?_⟩
      rw [← Array.toList_map, Array.getElem?_toList]; exact hcv
    simp only [execOp, ho]
    rcases hcase with ⟨g, hcal, rfl⟩ | ⟨x, ax, hcal, hx, rfl⟩ | ⟨r, ax, m, hcal, hr, rfl⟩
    · simp only [execCall] at h
      have := callF_ok hE hS hI hG hA h
      simpa [resolve, hcal, Deferred.ofValue, invoke, Act.eval] using this
    · simp only [execCall] at h
      have := callV_ok hE hS hI hG (arg_rel hG hτ hx) hA h
      simpa [resolve, hcal] using this
    · simp only [execCall] at h
      have := callM_ok hE hS hI hG (arg_rel hG hτ hr) hA h
      have e : (#[a.eval r] ++ c.args.map a.eval).extract 1 (c.args.size + 1) = c.args.map a.eval := by
        apply Array.ext'
        simp [List.take_of_length_le]
      simpa [resolve, hcal, invoke, Nat.add_comm 1, e] using this
  · rename_i x
    obtain ⟨n, hn, hall⟩ := exec_next hI hG hτ (ks := E.ks) (hm := E.hasMethods) (br := E.branch) hop
    obtain ⟨y, hy, hR⟩ := T.all_ofO (h n hn)
    exact fin hR (hall (fun _ => n) y.1 y.2 rfl hy)
  · rename_i hnc hnn
    obtain ⟨y, hy, hR⟩ := T.all_ofO h
    exact fin hR (exec_ok hI hG hτ hE.ks hE.hm hop hnn hy)
theorem wanted_ok (hτ : TR ρ τ a.tmps) {ops : Array Oper} {o : Oper} (hg : guardOk ops o.guard = true) : Region.wanted o (yielded ops a.tmps) = wanted τ (operOf C.P C.G ops o).guard := by
  unfold Region.wanted operOf
  simp only
  cases hgd : o.guard with
  | none => rfl
  | some x =>
    obtain ⟨j, b⟩ := x
    rw [hgd] at hg
    simp only [guardOk] at hg
    obtain ⟨d, hd⟩ := Option.isSome_iff_exists.1 hg
    simp only [hd, wanted, yielded]
    have hr := hτ.at d
    by_cases hlt : d < a.tmps.size
    · have e1 : (some d).bind (fun x => a.tmps[x]?) = some (a.tmps.getD d Go.undef) := by simp [hlt]
      rw [e1]
      generalize a.tmps.getD d Go.undef = z at hr
      cases hv : τ.get (nm d) with
      | none =>
        rw [hv] at hr
        simp only [Option.getD_none, undef] at hr
        cases hr with
        | tup => rfl
      | some v =>
        rw [hv] at hr
        simp only [Option.getD_some] at hr
        cases hr <;> first | rfl | (rename_i b'; cases b' <;> cases b <;> rfl)
    · have e1 : (some d).bind (fun x => a.tmps[x]?) = none := by rw [Option.bind_some, Array.getElem?_eq_none (Nat.le_of_not_lt hlt)]
      rw [e1]
      have hv : τ.get (nm d) = none := by
        cases hv : τ.get (nm d) with
        | none => rfl
        | some v =>
          have := hτ.fits _ _ hv
          rw [val_nm, Nat.add_sub_cancel] at this
          exact absurd this hlt
      rw [hv]; rfl
theorem fine_spec {nt : Nat} {ops : Array Oper} {o : Oper} (h : operFine nt ops o = true) (hn : nt ≤ a.tmps.size) : (∀ t, o.dst = some t → t < a.tmps.size) ∧ guardOk ops o.guard = true := by
  simp only [operFine, Bool.and_eq_true] at h
  refine ⟨fun t ht => ?_, h.2⟩
  rw [ht] at h
  have h1 := h.1
  simp only [Nat.blt_eq] at h1
  exact Nat.lt_of_lt_of_le h1 hn
theorem put_size (a : Act) (d : Option Tmp) (v : Value) : (a.put d v).tmps.size = a.tmps.size := by
  cases d <;> simp [Act.put]
theorem put_defers (a : Act) (d : Option Tmp) (v : Value) : (a.put d v).defers = a.defers := by
  cases d <;> rfl
theorem step_ok (hE : EnvOk C E) (hS : Sound C E ev) (hI : Inv C ρ s w) (hG : GR C ρ) (hτ : TR ρ τ a.tmps) {ops : Array Oper} {i : Nat} {o : Oper} (hi : ops[i]? = some o) {nt : Nat} (hn : nt ≤ a.tmps.size) (hf : operFine nt ops o = true)
    {ro : Option Nat} {m : Nat} {Q : Exit → Act → World → Prop} {rest : List Nat} {R : V × St → Prop}
    (hno : ((∃ op, opOf C.P C.G o = some op) ∨ wanted τ (operOf C.P C.G ops o).guard = false))
    (h1 : wanted τ (operOf C.P C.G ops o).guard = true → (oper E ev τ s (operOf C.P C.G ops o).op).All E.branch R)
    (h2 : wanted τ (operOf C.P C.G ops o).guard = false → R (undef, s))
    (hk : ∀ v s' ρ' cv w', R (v, s') → VR ρ' v cv → Ext C ρ s w ρ' s' w' → wpOpsIn (fence ro) m C.P ops Q rest (a.put o.dst cv) w') :
    wpOpsIn (fence ro) m C.P ops Q (i :: rest) a w := by
  simp only [wpOpsIn, hi]
  obtain ⟨hd, hg⟩ := fine_spec hf hn
  rw [wanted_ok (C := C) hτ hg]
  cases hw : wanted τ (operOf C.P C.G ops o).guard with
  | true =>
    rw [if_pos rfl]
    rcases hno with ⟨op, hop⟩ | hno
    · refine ⟨fun f _ => trivial, ?_⟩
      rw [Oper.semAt_eq _ _ _ (opOf_defer hop)]
      have h1' := h1 hw
      have e : (operOf C.P C.G ops o).op = op := by simp [operOf, hop]
      rw [e] at h1'
      refine (oper_ok hE hS hI hG hτ hop h1').upon ?_
      rintro cv w' ⟨ρ', v, s', hR, hv, hx⟩
      exact hk v s' ρ' cv w' hR hv hx
    · rw [hw] at hno; cases hno
  | false =>
    rw [if_neg (by simp)]
    exact ⟨fun f _ => trivial, hk undef s ρ _ w (h2 hw) (VR.undef ρ) (Ext.refl hI)⟩
theorem oper_bad {ops : Array Oper} {o : Oper} {R : V × St → Prop} (h : (oper E ev τ s (operOf C.P C.G ops o).op).All E.branch R) : ∃ op, opOf C.P C.G o = some op := by
  cases hop : opOf C.P C.G o with
  | some op => exact ⟨op, rfl⟩
  | none =>
    simp only [operOf, hop, Option.getD_none, oper, exec] at h
    exact h.elim
def RPost (C : Ctx) (ρ : Rho) (s : St) (w : World) (a : Act) (R : Tr V × St → Prop) (Q : Exit → Act → World → Prop) : Prop :=
  ∀ τ' s' ρ' a' w', R (τ', s') → TR ρ' τ' a'.tmps → Ext C ρ s w ρ' s' w' → a'.tmps.size = a.tmps.size → a'.defers = a.defers → Q .normal a' w'
theorem RPost.step {ρ' : Rho} {s' : St} {w' : World} {R : Tr V × St → Prop} {Q : Exit → Act → World → Prop} (h : RPost C ρ s w a R Q) {a' : Act} (e : Ext C ρ s w ρ' s' w') (h1 : a'.tmps.size = a.tmps.size) (h2 : a'.defers = a.defers) : RPost C ρ' s' w' a' R Q :=
  fun τ'' s'' ρ'' a'' w'' hR hτ hx k1 k2 => h τ'' s'' ρ'' a'' w'' hR hτ (e.trans hx) (k1.trans h1) (k2.trans h2)
theorem opers_ok (hE : EnvOk C E) (hS : Sound C E ev) {ops : Array Oper} {nt : Nat} (hf : ∀ (i : Nat) o, ops[i]? = some o → operFine nt ops o = true) {ro : Option Nat} {m : Nat} {Q : Exit → Act → World → Prop} {R : Tr V × St → Prop} :
    ∀ (is : List Nat) (ρ : Rho) (s : St) (w : World) (τ : Tr V) (a : Act), Inv C ρ s w → GR C ρ → TR ρ τ a.tmps → nt ≤ a.tmps.size → (∀ i ∈ is, ∃ o, ops[i]? = some o) →
      (opers E ev (is.map (operAt C.P C.G ops)) τ s).All E.branch R → RPost C ρ s w a R Q → wpOpsIn (fence ro) m C.P ops Q is a w
  | [], ρ, s, w, τ, a, hI, hG, hτ, hn, _, h, hQ => by
    simp only [List.map_nil, opers, T.All] at h
    simp only [wpOpsIn]
    exact hQ τ s ρ a w h hτ (Ext.refl hI) rfl rfl
  | i :: is, ρ, s, w, τ, a, hI, hG, hτ, hn, hex, h, hQ => by
    obtain ⟨o, ho⟩ := hex i (by simp)
    have e : operAt C.P C.G ops i = operOf C.P C.G ops o := by simp [operAt, ho]
    simp only [List.map_cons, opers, e] at h
    obtain ⟨hd, hg⟩ := fine_spec (hf i o ho) hn
    refine step_ok hE hS hI hG hτ ho hn (hf i o ho) (R := fun r => (opers E ev (is.map (operAt C.P C.G ops)) (put τ (operOf C.P C.G ops o).dst r.1) r.2).All E.branch R) ?_ ?_ ?_ ?_
    · cases hw : wanted τ (operOf C.P C.G ops o).guard with
      | true => rw [hw] at h; exact .inl (oper_bad (T.all_bind h))
      | false => exact .inr rfl
    · intro hw; rw [hw] at h; exact T.all_bind h
    · intro hw; rw [hw] at h; exact h
    · intro v s' ρ' cv w' hR hv hx
      exact opers_ok hE hS hf is ρ' s' w' _ _ hx.inv (hG.mono hx.le) ((hτ.mono hx.le).put hd hv) (by rw [put_size]; exact hn) (fun j hj => hex j (by simp [hj])) hR (hQ.step hx (put_size _ _ _) (put_defers _ _ _))
theorem region_map (ops : Array Oper) : ops.toList.map (operOf C.P C.G ops) = (List.range ops.size).map (operAt C.P C.G ops) := by
  apply List.ext_getElem?
  intro i
  simp only [List.getElem?_map, Array.getElem?_toList]
  by_cases hi : i < ops.size
  · rw [List.getElem?_range hi]
    simp [operAt, Array.getElem?_eq_getElem hi]
  · rw [Array.getElem?_eq_none (by omega), List.getElem?_eq_none (by simp; omega)]
    rfl
end
end Go.Eng
end
section
namespace Go.Eng
variable {C : Ctx} {ρ : Rho} {s s' : St} {w : World} {v : V}
def allocOf (τ : Tr V) : AOp → Option (O × (Nm → V))
  | .alloc zero ty => some (.row [zero] zero.length ty, fun b => .ptr b 0 0)
  | .mkSlice sz ty zero len cap => match natOf (arg τ len), natOf (arg τ cap) with
    | some l, some c => if Nat.ble l c && Nat.ble c 1000000 then some (.row (rep l zero) sz ty, fun b => .row b sz 0 l (Nat.beq l c)) else none
    | _, _ => none
  | .buildSlice sz ty zero len parts => match fillElems (parts.map fun (i, x) => (i, arg τ x)) sz (rep len zero) with
    | some es => some (.row es sz ty, fun b => .row b sz 0 len true)
    | none => none
  | _ => none
def nmOf : V → Option Nm
  | .ptr b _ _ => some b
  | .row b _ _ _ _ => some b
  | _ => none
theorem allocOf_nm {τ : Tr V} {op : AOp} {ob : O} {f : Nm → V} (h : allocOf τ op = some (ob, f)) (b : Nm) : nmOf (f b) = some b := by
  unfold allocOf at h
  split at h
  · cases h; rfl
  · split at h
    · split at h
      · cases h; rfl
      · cases h
    · cases h
  · split at h
    · cases h; rfl
    · cases h
  · cases h
theorem allocOf_congr {τ τ' : Tr V} {o : AOp} (h : ∀ x ∈ o.ars, arg τ x = arg τ' x) : allocOf τ o = allocOf τ' o := by
  cases o <;> try rfl
  case mkSlice sz ty zero len cap =>
    simp only [allocOf]
    rw [h len (by simp [AOp.ars]), h cap (by simp [AOp.ars])]
  case buildSlice sz ty zero len parts =>
    simp only [allocOf]
    have : (parts.map fun (i, x) => (i, arg τ x)) = parts.map fun (i, x) => (i, arg τ' x) := by
      refine List.map_congr_left fun p hp => ?_
      obtain ⟨i, x⟩ := p
      simp only
      rw [h x (by simp only [AOp.ars, List.mem_map]; exact ⟨_, hp, rfl⟩)]
    rw [this]
theorem exec_alloc {o : AOper} (hf : freshOp o = true) {or : Nat → Nat} {br : Nat} {ks : TypeId → Option Ks} {hm : TypeId → List (String × TypeId) → Option Bool} {τ : Tr V} (h : exec or br ks hm τ s o.op = some (v, s')) :
    ∃ ob f, allocOf τ o.op = some (ob, f) ∧ v = f s.next ∧ s' = (new s ob).2 := by
  obtain ⟨d, op, g⟩ := o
  cases op <;> try (simp [freshOp] at hf; done)
  case alloc z ty =>
    simp only [exec, Option.some.injEq] at h
    cases h
    exact ⟨_, _, rfl, rfl, rfl⟩
  case mkSlice sz ty zero len cap =>
    simp only [exec] at h
    simp only [allocOf]
    split at h
    · rename_i l c hl hc
      split at h
      · rename_i hb
        cases h
        rw [hl, hc]
        simp only [if_pos hb]
        exact ⟨_, _, rfl, rfl, rfl⟩
      · cases h
    · cases h
  case buildSlice sz ty zero len parts =>
    simp only [exec] at h
    simp only [allocOf]
    split at h
    · rename_i es hes
      cases h
      rw [hes]
      exact ⟨_, _, rfl, rfl, rfl⟩
    · cases h
theorem fresh_gd {o : AOper} (hf : freshOp o = true) : o.guard = none ∧ ∃ d, o.dst = some d := by
  obtain ⟨d, op, g⟩ := o
  cases g with
  | some x => cases op <;> cases d <;> simp [freshOp] at hf
  | none =>
    cases d with
    | none => cases op <;> simp [freshOp] at hf
    | some d => exact ⟨rfl, d, rfl⟩
theorem fresh_not_light {o : AOper} (hf : freshOp o = true) : lightOp o.op = false := by
  obtain ⟨d, op, g⟩ := o
  cases op <;> first | rfl | (simp [freshOp] at hf)
theorem oper_fresh {E : Env} {ev : Eval} {τ : Tr V} {o : AOper} (hf : freshOp o = true) : oper E ev τ s o.op = .ofO (exec (fun _ => 0) E.branch E.ks E.hasMethods τ s o.op) := by
  obtain ⟨d, op, g⟩ := o
  cases op <;> first | rfl | (simp [freshOp] at hf)
def Made (C : Ctx) (ρ : Rho) (w : World) (f : Nm → V) (ob : O) (m : Sem Value) : Prop :=
  ∃ cv obj sz N, m.run C.P w = .ok cv (w.alloc obj) ∧ ∀ b, ρ.blk b = none → VR (ρ.add b ⟨w.heap.size, 0, sz, N⟩) (f b) cv ∧ OR C (ρ.add b ⟨w.heap.size, 0, sz, N⟩) ⟨w.heap.size, 0, sz, N⟩ ob (w.alloc obj)
theorem rows_real {es : List (List V)} {sz N : Nat} {arr : Array Value} {ty : TypeId} {fr : Nat × Nat} (hsz : 0 < sz) (hty : C.P.cellsOf ty = sz) (hN : es.length ≤ N) (hfit : N * sz ≤ arr.size) (hfr : ∀ k, k < arr.size ∨ sz ≠ 1 → fr.2 ≤ k ∨ k < fr.1)
    (hr : RR ρ es sz arr) {len cap : Nat} {clip : Bool} (hlc : len ≤ cap) (hcN : cap ≤ N) (hcl : clip = true → cap = len) (b : Nm) (hb : ρ.blk b = none) :
    VR (ρ.add b ⟨w.heap.size, 0, sz, N⟩) (.row b sz 0 len clip) (.slice (some ⟨w.heap.size, 0, none⟩) len cap) ∧ OR C (ρ.add b ⟨w.heap.size, 0, sz, N⟩) ⟨w.heap.size, 0, sz, N⟩ (.row es sz ty) (w.alloc (.cells arr ty fr)) := by
  have hle : ρ.Le (ρ.add b ⟨w.heap.size, 0, sz, N⟩) := Rho.le_add hb
  exact ⟨.row (Rho.add_same ρ b ⟨w.heap.size, 0, sz, N⟩) rfl hlc (by simpa using hcN) (fun _ => by simp) hcl,
    rfl, ⟨hsz, hty, Nat.dvd_zero _⟩, hN, hr.all, arr, fr, heap_alloc_new w _, by simpa using hfit, hfr, fun i e he => by simpa using (hr.rel i e he).mono hle⟩
theorem alloc_made {e : TypeId} {z : List V} (hz : zeroCells C.P e = some z) : Made C ρ w (fun b => .ptr b 0 0) (.row [z] z.length e) (Instr.alloc e true (.tuple #[])) := by
  obtain ⟨n, cv, h1, h2, h3, _, h4, h5, h6⟩ := zeroCells_spec hz
  have hn0 := (szOf_spec h1).2.1
  refine ⟨.pointer (some ⟨w.heap.size, 0, none⟩), .cells cv.cells e, z.length, 1, by simp [Instr.alloc, h4, newVar, newRow], fun b hb => ⟨?_, rfl, ⟨by omega, by rw [h2]; exact (szOf_spec h1).1, Nat.dvd_zero _⟩, by simp, by simpa using h3, cv.cells, (0, 0), heap_alloc_new w _, by simp [h2, h5], fun k _ => .inl (Nat.zero_le _), ?_⟩⟩
  · have := VR.ptr (ρ := ρ.add b ⟨w.heap.size, 0, z.length, 1⟩) (i := 0) (j := 0) (Rho.add_same ρ b _)
    simpa using this
  · have hle : ρ.Le (ρ.add b ⟨w.heap.size, 0, z.length, 1⟩) := Rho.le_add hb
    intro i e he j x hx
    cases i with
    | zero =>
      simp at he; subst he
      obtain ⟨c', e1, e2⟩ := h6 ρ j x hx
      exact ⟨c', by simpa using e1, e2.mono hle⟩
    | succ i => simp at he
theorem mkSlice_made {t e : TypeId} {n : Nat} {z : List V} (hu : C.P.underlying t = some (.slice e)) (hn : szOf C.P e = some n) (hz : zeroCells C.P e = some z) {xl xc : V} {cl cc : Value} (hl : VR ρ xl cl) (hc : VR ρ xc cc)
    {l c : Nat} (el : natOf xl = some l) (ec : natOf xc = some c) (hlc : l ≤ c) (hmax : c ≤ 1000000) :
    Made C ρ w (fun b => .row b n 0 l (Nat.beq l c)) (.row (rep l z) n e) (Instr.makeSlice t cl cc) := by
  obtain ⟨k, rfl⟩ := natOf_spec hl el
  obtain ⟨k', rfl⟩ := natOf_spec hc ec
  obtain ⟨n', cv, h1, h2, h3, h4, h5, h6, h7⟩ := zeroCells_spec hz
  rw [hn] at h1; cases h1
  obtain ⟨hcell, hn0, hsz⟩ := szOf_spec hn
  have hinfo : ∃ i, C.P.info? e = some i ∧ i.bytes ≤ 4096 := by
    unfold Program.cellsOf at hcell
    cases hi : C.P.info? e with
    | none => simp [hi] at hcell; omega
    | some i => refine ⟨i, rfl, ?_⟩; simpa [Program.bytesOf, hi] using h4
  obtain ⟨i, hi, hb⟩ := hinfo
  have hzr : LR ρ z (fun i => cv.cells[i]?) := h7 ρ
  rw [rep_eq]
  refine ⟨.slice (some ⟨w.heap.size, 0, none⟩) l c, .cells ((Array.range (c * n)).map (cv.cells[· % cv.cells.size]!)) e, n, c, ?_, fun b hb' => rows_real (es := List.replicate l z) (sz := n) (N := c) (arr := (Array.range (c * n)).map (cv.cells[· % cv.cells.size]!)) (ty := e) (fr := (0, 0)) hn0 hcell (by rw [List.length_replicate]; exact hlc) (by rw [Array.size_map, Array.size_range]; exact Nat.le_refl _) (fun k _ => .inl (Nat.zero_le _))
    (zeros_rel hzr (by rw [h2, h6]) h2 h3 (Nat.mul_le_mul_right _ hlc)) (len := l) (cap := c) (clip := Nat.beq l c) hlc (Nat.le_refl _) (fun h => by rw [Nat.beq_eq] at h; omega) b hb'⟩
  have hbc : ¬ ((c : Int) < 0) := by omega
  have hm : i.bytes * c ≤ 4096 * 1000000 := Nat.mul_le_mul hb hmax
  have hbig : ¬ ((i.bytes : Int) * (c : Int) > 2 ^ 48) := by
    rw [← Int.natCast_mul]
    generalize i.bytes * c = q at hm
    omega
  simp only [Instr.makeSlice, Sem.run_bind, run_underlying hu, Result.andThen_ok, asInt, asIntOf, Sem.run_pure, typeInfo, run_program, hi]
  rw [wrap64_small (by omega), wrap64_small (by omega)]
  have hcond : (decide ((c : Int) < 0) || decide ((i.bytes : Int) * (c : Int) > 2 ^ 48) || decide ((l : Int) < 0) || decide ((l : Int) > (c : Int))) = false := by
    simp only [Bool.or_eq_false_iff, decide_eq_false_iff_not]
    exact ⟨⟨⟨hbc, hbig⟩, by omega⟩, by omega⟩
  simp only [hcond, Bool.false_eq_true, if_false, Result.andThen_ok, run_askRoom, hsz, Sem.run_bind, Int.toNat_natCast]
  by_cases h0 : c * n = 0
  · rw [if_pos h0]
    have e0 : Array.range 0 = #[] := rfl
    simp only [Sem.run_pure, Result.andThen_ok, newRow, Sem.run_bind, run_newObj, h0, e0, List.map_toArray, List.map_nil]
    rfl
  · rw [if_neg h0]
    simp only [Sem.run_bind, h5, Sem.run_pure, Result.andThen_ok, newRow, run_newObj]
    rfl
theorem buildSlice_made (hG : GR C ρ) {τ : Tr V} {a : Act} (hτ : TR ρ τ a.tmps) {t e : TypeId} {n m : Nat} {z : List V} (hu : C.P.underlying t = some (.slice e)) (hn : szOf C.P e = some m) (hz : zeroCells C.P e = some z) {ps : Array (Nat × Operand)} {l : List (Nat × Ar)} {es : List (List V)}
    (hl : partsIx C.G ps.toList = some l) (hmax : n * m ≤ 100000) (hf : fillElems (l.map fun (i, x) => (i, arg τ x)) m (rep n z) = some es) :
    Made C ρ w (fun b => .row b m 0 n true) (.row es m e) (Instr.buildSlice t n (ps.map fun (i, x) => (i, a.eval x))) := by
  obtain ⟨n', cv, h1, h2, h3, h4, h5, h6, h7⟩ := zeroCells_spec hz
  rw [hn] at h1; cases h1
  obtain ⟨hcell, hn0, hsz⟩ := szOf_spec hn
  rw [rep_eq] at hf
  have hz0 := zeros_rel (h7 ρ) (by rw [h2, h6]) h2 h3 (l := n) (m := n * m) (Nat.le_refl _)
  obtain ⟨arr', k1, k2, k3, k4⟩ := fill_elems hG hτ hl hz0 hf
  rw [List.length_replicate] at k4
  refine ⟨.slice (some ⟨w.heap.size, 0, none⟩) n n, .cells arr' e, m, n, ?_, fun b hb => rows_real (es := es) (sz := m) (N := n) (arr := arr') (ty := e) (fr := (0, 0)) hn0 hcell (by omega) (by rw [k3]; simp) (fun k _ => .inl (Nat.zero_le _)) k2 (len := n) (cap := n) (clip := true) (Nat.le_refl _) (Nat.le_refl _) (fun _ => rfl) b hb⟩
  rw [← parts_map] at k1
  have hbig : ¬ (16777216 < n * m) := by omega
  simp only [Instr.buildSlice, Sem.run_bind, run_underlying hu, Result.andThen_ok, hsz]
  rw [if_neg (by simpa using hbig)]
  by_cases h0 : n * m = 0
  · have e0 : Array.range 0 = #[] := rfl
    have em : ∀ f : Nat → Value, (Array.range 0).map f = #[] := fun f => by simp
    rw [h0, em] at k1
    rw [h0, if_pos rfl]
    simp only [Sem.run_pure, Sem.run_bind, Result.andThen_ok, em, k1]
    rfl
  · simp only [if_neg h0, Sem.run_bind, Sem.run_pure, h5, Result.andThen_ok, k1]
    rfl
theorem opOf_alloc {G : Globals} {o : Oper} {z : List V} {ty : TypeId} (h : opOf C.P G o = some (.alloc z ty)) : o.op = .alloc ty ∧ zeroCells C.P ty = some z := by
  unfold opOf at h
  split at h
  case h_4 =>
    rename_i e ho
    split at h
    · rename_i z' hz; cases h; exact ⟨ho, hz⟩
    · cases h
  all_goals first
    | (repeat' (first | (cases h; done) | split at h))
      done
    | skip
  all_goals
    unfold callOp at h
    unfold builtinOf at h
    repeat' (first | (cases h; done) | split at h)
theorem opOf_mkSlice {G : Globals} {o : Oper} {sz ty : Nat} {z : List V} {al ac : Ar} (h : opOf C.P G o = some (.mkSlice sz ty z al ac)) : ∃ t l c, o.op = .makeSlice t l c ∧ elemSz C.P t = some (ty, sz) ∧ zeroCells C.P ty = some z ∧ ar G l = some al ∧ ar G c = some ac := by
  unfold opOf at h
  split at h
  all_goals first
    | (repeat' (first | (cases h; done) | split at h))
      done
    | skip
  all_goals first
    | (rename_i t l c ho
       split at h
       · rename_i e n he
         split at h
         · rename_i z' l' c' hz hl hc
           cases h
           exact ⟨t, l, c, ho, he, hz, hl, hc⟩
         · cases h
       · cases h)
    | skip
  all_goals
    unfold callOp at h
    unfold builtinOf at h
    repeat' (first | (cases h; done) | split at h)
theorem opOf_buildSlice {G : Globals} {o : Oper} {sz ty : Nat} {z : List V} {n : Nat} {l : List (Nat × Ar)} (h : opOf C.P G o = some (.buildSlice sz ty z n l)) : ∃ t ps, o.op = .buildSlice t n ps ∧ elemSz C.P t = some (ty, sz) ∧ zeroCells C.P ty = some z ∧ partsIx G ps.toList = some l ∧ n * sz ≤ 100000 := by
  unfold opOf at h
  split at h
  all_goals first
    | (repeat' (first | (cases h; done) | split at h))
      done
    | skip
  all_goals first
    | (rename_i t n ps ho
       split at h
       · rename_i e m he
         split at h
         · rename_i z' l' hz hl
           split at h
           · rename_i hmax
             rw [Nat.ble_eq] at hmax
             cases h
             exact ⟨t, ps, ho, he, hz, hl, hmax⟩
           · cases h
         · cases h
       · cases h)
    | skip
  all_goals
    unfold callOp at h
    unfold builtinOf at h
    repeat' (first | (cases h; done) | split at h)
set_option maxHeartbeats 2000000 in
theorem made_ok (hG : GR C ρ) {τ : Tr V} {a : Act} (hτ : TR ρ τ a.tmps) {o : Oper} {ops : Array Oper} (hf : freshOp (operOf C.P C.G ops o) = true) {ob : O} {f : Nm → V} (ha : allocOf τ (operOf C.P C.G ops o).op = some (ob, f)) :
    ∃ cv obj sz N, (execOp a.eval o).run C.P w = .ok (.value cv) (w.alloc obj) ∧ ∀ b, ρ.blk b = none → VR (ρ.add b ⟨w.heap.size, 0, sz, N⟩) (f b) cv ∧ OR C (ρ.add b ⟨w.heap.size, 0, sz, N⟩) ⟨w.heap.size, 0, sz, N⟩ ob (w.alloc obj) := by
  have key : ∀ {m : Sem Value}, execOp a.eval o = (do pure (.value (← m)) : Sem Next) → Made C ρ w f ob m → ∃ cv obj sz N, (execOp a.eval o).run C.P w = .ok (.value cv) (w.alloc obj) ∧ ∀ b, ρ.blk b = none → VR (ρ.add b ⟨w.heap.size, 0, sz, N⟩) (f b) cv ∧ OR C (ρ.add b ⟨w.heap.size, 0, sz, N⟩) ⟨w.heap.size, 0, sz, N⟩ ob (w.alloc obj) := by
    rintro m e ⟨cv, obj, sz, N, h1, h2⟩
    exact ⟨cv, obj, sz, N, by rw [e]; simp [h1], h2⟩
  cases hop : opOf C.P C.G o with
  | none => simp [operOf, hop, freshOp] at hf
  | some op =>
    have e0 : (operOf C.P C.G ops o).op = op := by simp [operOf, hop]
    rw [e0] at ha
    unfold allocOf at ha
    split at ha
    · rename_i z ty
      cases ha
      obtain ⟨ho, hz⟩ := opOf_alloc hop
      exact key (m := Instr.alloc ty true (.tuple #[])) (by simp only [execOp, ho]) (alloc_made hz)
    · rename_i sz ty z al ac
      obtain ⟨t, l, c, ho, he, hz, hl, hc⟩ := opOf_mkSlice hop
      obtain ⟨hu, hn⟩ := elemSz_spec he
      split at ha
      · rename_i l' c' hl' hc'
        split at ha
        · rename_i hb
          simp only [Bool.and_eq_true, Nat.ble_eq] at hb
          cases ha
          exact key (m := Instr.makeSlice t (a.eval l) (a.eval c)) (by simp only [execOp, ho]) (mkSlice_made hu hn hz (arg_rel hG hτ hl) (arg_rel hG hτ hc) hl' hc' hb.1 hb.2)
        · cases ha
      · cases ha
    · rename_i sz ty z n l
      obtain ⟨t, ps, ho, he, hz, hl, hmax⟩ := opOf_buildSlice hop
      obtain ⟨hu, hn⟩ := elemSz_spec he
      split at ha
      · rename_i es hes
        cases ha
        exact key (m := Instr.buildSlice t n (ps.map fun (i, x) => (i, a.eval x))) (by simp only [execOp, ho]) (buildSlice_made hG hτ hu hn hz hl hmax hes)
      · cases ha
    · cases ha
end Go.Eng
end
section
namespace Go.Eng
def On (A : Array Bool) (i : Nat) : Prop := A.getD i false = true
theorem on_lt {A : Array Bool} {i : Nat} (h : On A i) : i < A.size := by
  unfold On at h
  rw [Array.getD_eq_getD_getElem?] at h
  rcases Nat.lt_or_ge i A.size with hl | hl
  · exact hl
  · rw [Array.getElem?_eq_none hl] at h; cases h
theorem on_set {A : Array Bool} {i j : Nat} (hi : i < A.size) : On (A.setIfInBounds i true) j ↔ i = j ∨ On A j := by
  unfold On
  rw [Array.getD_eq_getD_getElem?, Array.getD_eq_getD_getElem?, Array.getElem?_setIfInBounds]
  split
  · rename_i e; subst e; simp [hi]
  · rename_i e; simp [e]
theorem on_set_of {A : Array Bool} {i j : Nat} (h : On A j) : On (A.setIfInBounds i true) j := by
  by_cases hi : i < A.size
  · exact (on_set hi).2 (.inr h)
  · rw [Array.setIfInBounds_eq_of_size_le (by omega)]; exact h
theorem not_on {A : Array Bool} {i : Nat} (hi : i < A.size) : ¬ On A i ↔ A.getD i true = false := by
  unfold On
  rw [Array.getD_eq_getD_getElem?, Array.getD_eq_getD_getElem?, Array.getElem?_eq_getElem hi]
  simp
section
variable {md : Region.Mode} {ops : Array Oper}
theorem mem_preds {i p : Nat} : p ∈ preds md ops i ↔ ∃ o, ops[i]? = some o ∧ ∃ e ∈ o.after, Region.binds md e = true ∧ e.on = p := by
  unfold preds
  split
  · rename_i o ho
    simp [ho, and_assoc]
  · rename_i ho
    simp [ho]
theorem ready_iff {A : Array Bool} (hs : A.size = ops.size) {j : Nat} : j ∈ Region.ready md ops A ↔ j < ops.size ∧ ¬ On A j ∧ ∀ p ∈ preds md ops j, On A p := by
  rw [mem_ready]
  constructor
  · rintro ⟨h0, o, ho, hall⟩
    have hlt : j < ops.size := (Array.getElem?_eq_some_iff.1 ho).1
    refine ⟨hlt, (not_on (by omega)).2 h0, fun p hp => ?_⟩
    obtain ⟨o', ho', e, he, hb, rfl⟩ := mem_preds.1 hp
    rw [ho] at ho'; cases ho'
    exact hall e he hb
  · rintro ⟨hlt, hn, hall⟩
    refine ⟨(not_on (by omega)).1 hn, ops[j], Array.getElem?_eq_getElem hlt, fun e he hb => hall e.on (mem_preds.2 ⟨_, Array.getElem?_eq_getElem hlt, e, he, hb, rfl⟩)⟩
theorem lin_cases (g t : Nat) (listed : Array Bool) : (Region.ready md ops listed = [] ∧ Region.linearise.go md ops (g + 1) t listed [] = []) ∨
    ∃ i t', i ∈ Region.ready md ops listed ∧ Region.linearise.go md ops (g + 1) t listed [] = i :: Region.linearise.go md ops g t' (listed.setIfInBounds i true) [] := by
  have e : Region.linearise.go md ops (g + 1) t listed [] = match (Region.ready md ops listed)[t % (Region.ready md ops listed).length]? with
      | some i => Region.linearise.go md ops g (t / (Region.ready md ops listed).length) (listed.setIfInBounds i true) [i]
      | none => [].reverse := by
    simp only [Region.linearise.go]; rfl
  rw [e]
  cases hi : (Region.ready md ops listed)[t % (Region.ready md ops listed).length]? with
  | none =>
    left
    refine ⟨?_, rfl⟩
    cases hr : Region.ready md ops listed with
    | nil => rfl
    | cons x xs =>
      rw [hr] at hi
      have hlt : t % (x :: xs).length < (x :: xs).length := Nat.mod_lt _ (by simp)
      rw [List.getElem?_eq_none_iff] at hi
      omega
  | some i =>
    right
    refine ⟨i, t / (Region.ready md ops listed).length, List.mem_of_getElem? hi, ?_⟩
    simp only []
    rw [linearise_go_acc]
    rfl
theorem topo_done {D : Array Bool} (hs : D.size = ops.size) (hr : Region.ready md ops D = []) : ∀ (l done : List Nat), topo md ops done l = true → (∀ i ∈ done, On D i) → ∀ i ∈ l, On D i
  | [], _, _, _ => fun i hi => by simp at hi
  | i :: l, done, h, hd => by
    simp only [topo, Bool.and_eq_true, Nat.blt_eq, List.all_eq_true] at h
    obtain ⟨⟨h1, h2⟩, h3⟩ := h
    have hi : On D i := by
      refine Classical.byContradiction fun hn => ?_
      have : i ∈ Region.ready md ops D := (ready_iff hs).2 ⟨h1, hn, fun p hp => hd p (by simpa using h2 p hp)⟩
      rw [hr] at this; simp at this
    intro j hj
    rcases List.mem_cons.1 hj with rfl | hj
    · exact hi
    · exact topo_done hs hr l (i :: done) h3 (fun k hk => (List.mem_cons.1 hk).elim (fun e => e ▸ hi) (hd k)) j hj
theorem anc_done {D : Array Bool} (hd : ∀ i, On D i → ∀ p ∈ preds md ops i, On D p) : ∀ (f : Nat) (l : List Nat), (∀ i ∈ l, On D i) → ∀ i ∈ anc md ops f l, On D i
  | 0, l, h => h
  | f + 1, l, h => anc_done hd f _ fun i hi => by
    rcases List.mem_append.1 hi with hi | hi
    · exact h i hi
    · obtain ⟨j, hj, hp⟩ := List.mem_flatMap.1 hi
      exact hd j (h j hj) i hp
end
section
variable {C : Ctx} {E : Env} {ev : Eval} {md : Region.Mode} {ops : Array Oper}
theorem Ext.ghost {ρ : Rho} {s : St} {w : World} (hI : Inv C ρ s w) (o : O) : Ext C ρ s w ρ (new s o).2 w := by
  have hn := hI.next_none
  have hown : ∀ c, Owns ρ (new s o).2 c → Owns ρ s c := by
    rintro c ⟨b, l, hb, hl, hc⟩
    refine ⟨b, l, ?_, hl, hc⟩
    simp only [new, Tr.get_set] at hb
    split at hb
    · rename_i e; subst e; rw [hn.1] at hl; cases hl
    · exact hb
  have hget : ∀ b, b ≠ s.next → (new s o).2.heap.get b = s.heap.get b := fun b hb => by simp only [new, Tr.get_set]; rw [if_neg (fun e => hb e.symm)]
  have hne : ∀ b l, ρ.blk b = some l → b ≠ s.next := fun b l hb he => by rw [he, hn.1] at hb; cases hb
  refine ⟨⟨fun b l o' hb hl => ?_, fun b b' l l' hb hb' hl hl' => ?_, hI.imm, fun b l hb hl => ?_, hI.lt, fun b hb => ?_⟩, .refl _, rfl, rfl, rfl, Nat.le_refl _, fun _ _ _ => rfl, fun c _ h => hown c h, ?_, fun b hb hlt => ⟨?_, hb⟩, fun _ _ h => .inl h⟩
  · rw [hget b (hne b l hl)] at hb; exact hI.obj b l o' hb hl
  · rw [hget b (hne b l hl)] at hb; rw [hget b' (hne b' l' hl')] at hb'; exact hI.inj b b' l l' hb hb' hl hl'
  · rw [hget b (hne b l hl)] at hb; exact hI.sep b l hb hl
  · have hb' : s.next.val + 1 ≤ b.val := by simpa [new, Nm.val_succ] using hb
    obtain ⟨h1, h2⟩ := hI.fresh b (by omega)
    exact ⟨h1, by rw [hget b (fun e => by rw [e] at hb'; omega)]; exact h2⟩
  · simp [new, Nm.val_succ]
  · exact hget b (fun e => by rw [e] at hlt; omega)
theorem Ext.realize {ρ0 ρ : Rho} {s0 s : St} {w0 w : World} (e : Ext C ρ0 s0 w0 ρ s w) {b : Nm} (h0 : s0.next.val ≤ b.val) (h1 : b.val < s.next.val) (hb : ρ.blk b = none) {o : O} (ho : s.heap.get b = some o) {obj : Obj} {sz N base : Nat}
    (hor : OR C (ρ.add b ⟨w.heap.size, base, sz, N⟩) ⟨w.heap.size, base, sz, N⟩ o (w.alloc obj)) : Ext C ρ0 s0 w0 (ρ.add b ⟨w.heap.size, base, sz, N⟩) s (w.alloc obj) := by
  have hI := e.inv
  have hle : ρ.Le (ρ.add b ⟨w.heap.size, base, sz, N⟩) := Rho.le_add hb
  have hblk : ∀ b' l, (ρ.add b ⟨w.heap.size, base, sz, N⟩).blk b' = some l → (b' = b ∧ l = ⟨w.heap.size, base, sz, N⟩) ∨ (b' ≠ b ∧ ρ.blk b' = some l) := fun b' l h => by
    by_cases hbb : b' = b
    · subst hbb; rw [Rho.add_same] at h; cases h; exact .inl ⟨rfl, rfl⟩
    · rw [Rho.add_other _ _ hbb] at h; exact .inr ⟨hbb, h⟩
  refine ⟨⟨fun b' l o' hb' hl => ?_, fun b' b'' l l' hb' hb'' hl hl' hc => ?_, fun c o' hc => ?_, fun b' l hb' hl => ?_, fun b' l hl => ?_, fun b' hb' => ?_⟩, e.le.trans hle, e.os, e.tape, e.output, ?_, fun c hc hn => ?_, fun c hc ho' => ?_, e.next, fun b' hb' hlt => ?_, e.imm⟩
  · rcases hblk b' l hl with ⟨rfl, rfl⟩ | ⟨hne, hl'⟩
    · rw [ho] at hb'; cases hb'; exact hor
    · exact (hI.obj b' l o' hb' hl').of_block hle (heap_alloc_lt w obj (hI.lt b' l hl'))
  · rcases hblk b' l hl with ⟨rfl, rfl⟩ | ⟨hne, k1⟩ <;> rcases hblk b'' l' hl' with ⟨rfl, rfl⟩ | ⟨hne', k2⟩
    · rfl
    · have := hI.lt b'' l' k2; simp only at hc; omega
    · have := hI.lt b' l k1; simp only at hc; omega
    · exact hI.inj b' b'' l l' hb' hb'' k1 k2 hc
  · have h := hI.imm c o' hc
    rw [heap_alloc_lt w obj (Array.getElem?_eq_some_iff.1 h).1]; exact h
  · rcases hblk b' l hl with ⟨rfl, rfl⟩ | ⟨hne, k⟩
    · cases hc : ρ.imm w.heap.size with
      | none => exact hc
      | some o' => have := (Array.getElem?_eq_some_iff.1 (hI.imm _ _ hc)).1; omega
    · exact hI.sep b' l hb' k
  · rcases hblk b' l hl with ⟨rfl, rfl⟩ | ⟨hne, k⟩
    · simp
    · have := hI.lt b' l k; simp; omega
  · obtain ⟨k1, k2⟩ := hI.fresh b' hb'
    exact ⟨by rw [Rho.add_other _ _ (fun he => by rw [he] at hb'; omega)]; exact k1, k2⟩
  · have := e.size; simp; omega
  · rw [heap_alloc_lt w obj (Nat.lt_of_lt_of_le hc e.size)]; exact e.frame c hc hn
  · obtain ⟨b', l, hb', hl, hcc⟩ := ho'
    rcases hblk b' l hl with ⟨rfl, rfl⟩ | ⟨hne, k⟩
    · have := e.size; simp only at hcc; omega
    · exact e.own c hc ⟨b', l, hb', k, hcc⟩
  · obtain ⟨k1, k2⟩ := e.unreal b' hb' hlt
    exact ⟨k1, by rw [Rho.add_other _ _ (fun he => by rw [he] at hlt; omega)]; exact k2⟩
def PendL (E : Env) (τ : Tr V) (s : St) (o : AOper) : Prop := lightOp o.op = true ∧ ∃ v, lightV E τ s o = some v ∧ ∀ d, o.dst = some d → τ.get d = some v
def PendF (lo : Nat) (ρ : Rho) (s : St) (τ : Tr V) (o : AOper) : Prop :=
  freshOp o = true ∧ ∃ b d ob f, allocOf τ o.op = some (ob, f) ∧ o.dst = some d ∧ lo ≤ b.val ∧ b.val < s.next.val ∧ ρ.blk b = none ∧ s.heap.get b = some ob ∧ τ.get d = some (f b)
structure Fine (C : Ctx) (md : Region.Mode) (ops : Array Oper) : Prop where
  one : ∀ i j d, i < ops.size → j < ops.size → i ≠ j → (operAt C.P C.G ops j).dst = some d → (operAt C.P C.G ops i).dst ≠ some d
  look : ∀ i j d, i < ops.size → j < ops.size → (operAt C.P C.G ops j).dst = some d → d ∈ (operAt C.P C.G ops i).looks → j ∈ preds md ops i
  topo : ∃ l, topo md ops [] l = true ∧ ∀ i, i < ops.size → i ∈ l
structure Sim (C : Ctx) (E : Env) (md : Region.Mode) (ops : Array Oper) (ρ0 : Rho) (s0 : St) (w0 : World) (a0 : Act) (D K : Array Bool) (pend : List Nat) (ρ : Rho) (s : St) (w : World) (τ : Tr V) (a : Act) : Prop where
  dsz : D.size = ops.size
  ksz : K.size = ops.size
  sub : ∀ i, On D i → On K i
  down : ∀ i, On D i → ∀ p ∈ preds md ops i, On D p
  pen : ∀ i, On K i → ¬ On D i → PendF s0.next.val ρ s τ (operAt C.P C.G ops i) ∨ (PendL E τ s (operAt C.P C.G ops i) ∧ i ∈ pend)
  kl : ∀ i, On K i → ∀ j, j < ops.size → ∀ d, (operAt C.P C.G ops j).dst = some d → d ∈ (operAt C.P C.G ops i).looks → On K j
  two : ∀ i j, On K i → ¬ On D i → On K j → ¬ On D j → i ≠ j → ∀ b d d', freshOp (operAt C.P C.G ops i) = true → freshOp (operAt C.P C.G ops j) = true → (operAt C.P C.G ops i).dst = some d → (operAt C.P C.G ops j).dst = some d' →
    (τ.get d).bind nmOf = some b → (τ.get d').bind nmOf = some b → False
  ext : Ext C ρ0 s0 w0 ρ s w
  tr : ∃ τ', TR ρ τ' a.tmps ∧ ∀ p, (∀ i, On K i → ¬ On D i → (operAt C.P C.G ops i).dst ≠ some p) → τ'.get p = τ.get p
  size : a.tmps.size = a0.tmps.size
  defs : a.defers = a0.defers
variable {ρ0 ρ : Rho} {s0 s : St} {w0 w : World} {a0 a : Act} {D K : Array Bool} {pend : List Nat} {τ : Tr V}
theorem TR.congr {ρ : Rho} {τ τ' : Tr V} {tmps : Array Value} (h : TR ρ τ' tmps) (e : ∀ p, τ'.get p = τ.get p) : TR ρ τ tmps :=
  ⟨fun p v hp => h.fits p v (by rw [e]; exact hp), fun p hp => by rw [← e]; exact h.rel p hp⟩
theorem get_put {τ : Tr V} {d : Option Nm} {v : V} {p : Nm} (h : d ≠ some p) : (put τ d v).get p = τ.get p := by
  cases d with
  | none => rfl
  | some q => simp only [put, Tr.get_set]; rw [if_neg (fun e => h (by rw [e]))]
theorem get_put_same {τ : Tr V} {p : Nm} {v : V} : (put τ (some p) v).get p = some v := by simp [put]
theorem holds_spec {d : Option Nm} {v : V} (h : holds τ d v = true) : ∀ p, d = some p → τ.get p = some v := by
  intro p hp
  subst hp
  simp only [holds] at h
  split at h
  · rename_i u hu; rw [hu, eqbV_sound h]
  · cases h
theorem lightV_put {o : AOper} {d : Option Nm} {v : V} (h : ∀ p, d = some p → p ∉ o.looks) : lightV E (put τ d v) s o = lightV E τ s o :=
  lightV_congr fun p hp => get_put fun e => h p e hp
theorem allocOf_put {o : AOper} {d : Option Nm} {v : V} (h : ∀ p, d = some p → p ∉ o.looks) : allocOf (put τ d v) o.op = allocOf τ o.op :=
  allocOf_congr (looks_args fun p hp => get_put fun e => h p e hp)
theorem dst_operAt {i : Nat} {o : Oper} (hi : ops[i]? = some o) : (operAt C.P C.G ops i).dst = o.dst.map nm := by simp [operAt, hi, operOf]
theorem Sim.agree (hF : Fine C md ops) (h : Sim C E md ops ρ0 s0 w0 a0 D K pend ρ s w τ a) {τ' : Tr V} (he : ∀ p, (∀ i, On K i → ¬ On D i → (operAt C.P C.G ops i).dst ≠ some p) → τ'.get p = τ.get p) {i : Nat} (hi : i ∈ Region.ready md ops D) : ∀ p ∈ (operAt C.P C.G ops i).looks, τ'.get p = τ.get p := by
  obtain ⟨hlt, hn, hp⟩ := (ready_iff h.dsz).1 hi
  intro p hpl
  refine he p fun j hj hjn hd => hjn (hp j ?_)
  exact hF.look i j p hlt (by have := on_lt hj; have := h.ksz; omega) hd hpl
theorem Sim.light (hF : Fine C md ops) (h : Sim C E md ops ρ0 s0 w0 a0 D K pend ρ s w τ a) {i : Nat} (hi : i < ops.size) (hn : ¬ On K i) (hl : lookOk (fun i => (operAt C.P C.G ops i).looks) (fun i => (operAt C.P C.G ops i).dst) ops.size K i = true) (hlight : lightOp (operAt C.P C.G ops i).op = true) {v : V} (hv : lightV E τ s (operAt C.P C.G ops i) = some v) :
    Sim C E md ops ρ0 s0 w0 a0 D (K.setIfInBounds i true) (i :: pend) ρ s w (put τ (operAt C.P C.G ops i).dst v) a := by
  have hks : i < K.size := by rw [h.ksz]; exact hi
  have hlook : ∀ j, j < ops.size → ∀ d, (operAt C.P C.G ops j).dst = some d → d ∈ (operAt C.P C.G ops i).looks → On K j := fun j hj d hd hdl => by
    simp only [lookOk, List.all_eq_true, List.mem_range] at hl
    have := hl j hj
    simp only [hd, Bool.or_eq_true, Bool.not_eq_true'] at this
    rcases this with h1 | h1
    · simp [hdl] at h1
    · exact h1
  have hnD : ¬ On D i := fun hd => hn (h.sub i hd)
  refine ⟨h.dsz, by simpa using h.ksz, fun j hj => on_set_of (h.sub j hj), h.down, fun j hj hjn => ?_, fun j hj k hk d hd hdl => ?_, fun j k hj hjn hk hkn hjk b d d' q1 q2 q3 q4 q5 q6 => ?_, h.ext, ?_, h.size, h.defs⟩
  · rcases (on_set hks).1 hj with rfl | hj'
    · refine .inr ⟨⟨hlight, v, ?_, fun d hd => by rw [hd]; exact get_put_same⟩, by simp⟩
      rw [lightV_put fun p hp hpl => hn (hlook i hi p hp hpl)]; exact hv
    · have hjs : j < ops.size := by have := on_lt hj'; have := h.ksz; omega
      have hne : j ≠ i := fun e => hn (e ▸ hj')
      rcases h.pen j hj' hjn with ⟨k0, b, d, ob, f, k1, k3, k4, k5, k6, k7, k8⟩ | ⟨⟨k1, u, k2, k3⟩, k4⟩
      · refine .inl ⟨k0, b, d, ob, f, ?_, k3, k4, k5, k6, k7, ?_⟩
        · rw [allocOf_put fun p hp hpl => hn (h.kl j hj' i hi p hp hpl)]; exact k1
        · rw [get_put (hF.one i j d hi hjs (Ne.symm hne) k3)]; exact k8
      · refine .inr ⟨⟨k1, u, ?_, fun d hd => ?_⟩, by simp [k4]⟩
        · rw [lightV_put fun p hp hpl => hn (h.kl j hj' i hi p hp hpl)]; exact k2
        · rw [get_put (hF.one i j d hi hjs (Ne.symm hne) hd)]; exact k3 d hd
  · rcases (on_set hks).1 hj with rfl | hj'
    · exact on_set_of (hlook k hk d hd hdl)
    · exact on_set_of (h.kl j hj' k hk d hd hdl)
  · have hnj : ∀ j, freshOp (operAt C.P C.G ops j) = true → i ≠ j := fun j q e => by
      subst e; rw [fresh_not_light q] at hlight; cases hlight
    have hj' := ((on_set hks).1 hj).resolve_left (hnj j q1)
    have hk' := ((on_set hks).1 hk).resolve_left (hnj k q2)
    have l1 : j < ops.size := by have := on_lt hj'; have := h.ksz; omega
    have l2 : k < ops.size := by have := on_lt hk'; have := h.ksz; omega
    rw [get_put (hF.one i j d hi l1 (hnj j q1) q3)] at q5
    rw [get_put (hF.one i k d' hi l2 (hnj k q2) q4)] at q6
    exact h.two j k hj' hjn hk' hkn hjk b d d' q1 q2 q3 q4 q5 q6
  · obtain ⟨τ', h1, h2⟩ := h.tr
    refine ⟨τ', h1, fun p hp => ?_⟩
    rw [get_put (hp i ((on_set hks).2 (.inl rfl)) hnD)]
    exact h2 p fun j hj hjn => hp j (on_set_of hj) hjn
theorem recheck_spec : ∀ {l : List AOper}, recheck E τ s l = true → ∀ o ∈ l, ∃ v, lightV E τ s o = some v ∧ ∀ d, o.dst = some d → τ.get d = some v
  | [], _, o, ho => by simp at ho
  | x :: l, h, o, ho => by
    simp only [recheck] at h
    split at h
    · rename_i v hv
      split at h
      · rename_i hh
        rcases List.mem_cons.1 ho with rfl | ho
        · exact ⟨v, hv, holds_spec hh⟩
        · exact recheck_spec h o ho
      · cases h
    · cases h
theorem Sim.fresh (hF : Fine C md ops) (h : Sim C E md ops ρ0 s0 w0 a0 D K pend ρ s w τ a) {i : Nat} (hi : i < ops.size) (hn : ¬ On K i) (hl : lookOk (fun i => (operAt C.P C.G ops i).looks) (fun i => (operAt C.P C.G ops i).dst) ops.size K i = true) (hfr : freshOp (operAt C.P C.G ops i) = true) {v : V} {s' : St}
    (hx : exec (fun _ => 0) E.branch E.ks E.hasMethods τ s (operAt C.P C.G ops i).op = some (v, s')) (hr : recheck E (put τ (operAt C.P C.G ops i).dst v) s' (pend.map (operAt C.P C.G ops)) = true) :
    Sim C E md ops ρ0 s0 w0 a0 D (K.setIfInBounds i true) pend ρ s' w (put τ (operAt C.P C.G ops i).dst v) a := by
  have hks : i < K.size := by rw [h.ksz]; exact hi
  have hlook : ∀ j, j < ops.size → ∀ d, (operAt C.P C.G ops j).dst = some d → d ∈ (operAt C.P C.G ops i).looks → On K j := fun j hj d hd hdl => by
    simp only [lookOk, List.all_eq_true, List.mem_range] at hl
    have := hl j hj
    simp only [hd, Bool.or_eq_true, Bool.not_eq_true'] at this
    rcases this with h1 | h1
    · simp [hdl] at h1
    · exact h1
  have hnD : ¬ On D i := fun hd => hn (h.sub i hd)
  obtain ⟨hgd, dd, hdd⟩ := fresh_gd hfr
  obtain ⟨ob, f, ha, rfl, rfl⟩ := exec_alloc hfr hx
  have hI := h.ext.inv
  have hnn := hI.next_none
  have old : ∀ j, On K j → ¬ On D j → freshOp (operAt C.P C.G ops j) = true → ∀ d b, (operAt C.P C.G ops j).dst = some d → (τ.get d).bind nmOf = some b → b ≠ s.next := fun j hj hjn hjf d b q3 q5 e => by
    rcases h.pen j hj hjn with ⟨k0, b', d', ob', f', k1, k3, k4, k5, k6, k7, k8⟩ | ⟨⟨k4, -⟩, -⟩
    · rw [q3] at k3; cases k3
      rw [k8] at q5
      have : b' = b := by simpa [allocOf_nm k1 b'] using q5
      rw [← this] at e; rw [e] at k5; omega
    · rw [fresh_not_light hjf] at k4; cases k4
  have self : ∀ d, (operAt C.P C.G ops i).dst = some d → ((put τ (operAt C.P C.G ops i).dst (f s.next)).get d).bind nmOf = some s.next := fun d hd => by
    rw [hd, get_put_same]; exact allocOf_nm ha _
  refine ⟨h.dsz, by simpa using h.ksz, fun j hj => on_set_of (h.sub j hj), h.down, fun j hj hjn => ?_, fun j hj k hk d hd hdl => ?_, fun j k hj hjn hk hkn hjk b d d' q1 q2 q3 q4 q5 q6 => ?_, h.ext.trans (Ext.ghost hI _), ?_, h.size, h.defs⟩
  · rcases (on_set hks).1 hj with rfl | hj'
    · refine .inl ⟨hfr, s.next, dd, ob, f, ?_, hdd, h.ext.next, by simp [new, Nm.val_succ], hnn.1, by simp [new], by rw [hdd]; exact get_put_same⟩
      rw [allocOf_put fun p hp hpl => hn (hlook _ hi p hp hpl)]; exact ha
    · have hjs : j < ops.size := by have := on_lt hj'; have := h.ksz; omega
      have hne : j ≠ i := fun e => hn (e ▸ hj')
      rcases h.pen j hj' hjn with ⟨k0, b, d, ob', f', k1, k3, k4, k5, k6, k7, k8⟩ | ⟨⟨k1, -⟩, k4⟩
      · refine .inl ⟨k0, b, d, ob', f', ?_, k3, k4, ?_, k6, ?_, ?_⟩
        · rw [allocOf_put fun p hp hpl => hn (h.kl j hj' i hi p hp hpl)]; exact k1
        · simp only [new, Nm.val_succ]; omega
        · simp only [new, Tr.get_set]; rw [if_neg (fun e => by rw [e] at k5; omega)]; exact k7
        · rw [get_put (hF.one i j d hi hjs (Ne.symm hne) k3)]; exact k8
      · exact .inr ⟨⟨k1, recheck_spec hr _ (List.mem_map.2 ⟨j, k4, rfl⟩)⟩, k4⟩
  · rcases (on_set hks).1 hj with rfl | hj'
    · exact on_set_of (hlook k hk d hd hdl)
    · exact on_set_of (h.kl j hj' k hk d hd hdl)
  · rcases (on_set hks).1 hj with rfl | hj' <;> rcases (on_set hks).1 hk with rfl | hk'
    · exact hjk rfl
    · have l2 : k < ops.size := by have := on_lt hk'; have := h.ksz; omega
      have e1 : s.next = b := Option.some.inj ((self d q3).symm.trans q5)
      rw [get_put (hF.one _ k d' hi l2 hjk q4)] at q6
      exact old k hk' hkn q2 d' b q4 q6 e1.symm
    · have l1 : j < ops.size := by have := on_lt hj'; have := h.ksz; omega
      have e1 : s.next = b := Option.some.inj ((self d' q4).symm.trans q6)
      rw [get_put (hF.one _ j d hi l1 (Ne.symm hjk) q3)] at q5
      exact old j hj' hjn q1 d b q3 q5 e1.symm
    · have l1 : j < ops.size := by have := on_lt hj'; have := h.ksz; omega
      have l2 : k < ops.size := by have := on_lt hk'; have := h.ksz; omega
      rw [get_put (hF.one i j d hi l1 (fun e => hn (e ▸ hj')) q3)] at q5
      rw [get_put (hF.one i k d' hi l2 (fun e => hn (e ▸ hk')) q4)] at q6
      exact h.two j k hj' hjn hk' hkn hjk b d d' q1 q2 q3 q4 q5 q6
  · obtain ⟨τ', h1, h2⟩ := h.tr
    refine ⟨τ', h1, fun p hp => ?_⟩
    rw [get_put (hp i ((on_set hks).2 (.inl rfl)) hnD)]
    exact h2 p fun j hj hjn => hp j (on_set_of hj) hjn
end
end Go.Eng
end
section
namespace Go.Eng
section
variable {C : Ctx} {E : Env} {ev : Eval} {md : Region.Mode} {ops : Array Oper}
variable {ρ0 ρ : Rho} {s0 s : St} {w0 w : World} {a0 a : Act} {D K : Array Bool} {pend : List Nat} {τ : Tr V}
theorem oper_light {o : AOp} (hl : lightOp o = true) : oper E ev τ s o = .ofO (exec (fun _ => 0) E.branch E.ks E.hasMethods τ s o) := by
  cases o <;> first | rfl | (simp [lightOp] at hl)
theorem Sim.late (hE : EnvOk C E) (hS : Sound C E ev) (hF : Fine C md ops) (hG : GR C ρ) (h : Sim C E md ops ρ0 s0 w0 a0 D K pend ρ s w τ a) {nt : Nat} (hn : nt ≤ a.tmps.size) (hf : ∀ (i : Nat) o, ops[i]? = some o → operFine nt ops o = true)
    {i : Nat} (hi : i ∈ Region.ready md ops D) (hK : On K i) {ro : Option Nat} {m : Nat} {Q : Exit → Act → World → Prop} {rest : List Nat}
    (hk : ∀ ρ' w' a', Sim C E md ops ρ0 s0 w0 a0 (D.setIfInBounds i true) K pend ρ' s w' τ a' → wpOpsIn (fence ro) m C.P ops Q rest a' w') : wpOpsIn (fence ro) m C.P ops Q (i :: rest) a w := by
  obtain ⟨hlt, hnD, hp⟩ := (ready_iff h.dsz).1 hi
  have hds : i < D.size := by rw [h.dsz]; exact hlt
  obtain ⟨o, ho⟩ : ∃ o, ops[i]? = some o := ⟨_, Array.getElem?_eq_getElem hlt⟩
  have eo : operAt C.P C.G ops i = operOf C.P C.G ops o := by simp [operAt, ho]
  obtain ⟨hd, hg⟩ := fine_spec (hf i o ho) hn
  obtain ⟨τ', hτ, he⟩ := h.tr
  have hag := h.agree hF he hi
  have hkn : ∀ j, On K j → j < ops.size := fun j hj => by have := on_lt hj; have := h.ksz; omega
  have next : ∀ (ρ' : Rho) (w' : World) (v : V) (cv : Value), Ext C ρ0 s0 w0 ρ' s w' → ρ.Le ρ' → VR ρ' v cv →
      (∀ d, (operAt C.P C.G ops i).dst = some d → τ.get d = some v) →
      (∀ j, On K j → ¬ On D j → j ≠ i → freshOp (operAt C.P C.G ops j) = true → ∀ b d, (operAt C.P C.G ops j).dst = some d → (τ.get d).bind nmOf = some b → ρ.blk b = none → b.val < s.next.val → ρ'.blk b = none) →
      Sim C E md ops ρ0 s0 w0 a0 (D.setIfInBounds i true) K pend ρ' s w' τ (a.put o.dst cv) := by
    intro ρ' w' v cv hx hle hv hdv hfr
    refine ⟨by simpa using h.dsz, h.ksz, fun j hj => ?_, fun j hj p hpp => ?_, fun j hj hjn => ?_, h.kl, fun j k hj hjn hk hkn => h.two j k hj (fun e => hjn (on_set_of e)) hk (fun e => hkn (on_set_of e)), hx, ?_, by rw [put_size]; exact h.size, by rw [put_defers]; exact h.defs⟩
    · rcases (on_set hds).1 hj with rfl | hj
      · exact hK
      · exact h.sub j hj
    · rcases (on_set hds).1 hj with rfl | hj
      · exact on_set_of (hp p hpp)
      · exact on_set_of (h.down j hj p hpp)
    · have hji : j ≠ i := fun e => hjn ((on_set hds).2 (.inl e.symm))
      have hjn' : ¬ On D j := fun e => hjn (on_set_of e)
      rcases h.pen j hj hjn' with ⟨k0, b, d, ob, f, k1, k3, k4, k5, k6, k7, k8⟩ | hpl
      · exact .inl ⟨k0, b, d, ob, f, k1, k3, k4, k5, hfr j hj hjn' hji k0 b d k3 (by rw [k8]; exact allocOf_nm k1 b) k6 k5, k7, k8⟩
      · exact .inr hpl
    · refine ⟨put τ' (o.dst.map nm) v, (hτ.mono hle).put hd hv, fun p hpp => ?_⟩
      have ed : (operAt C.P C.G ops i).dst = o.dst.map nm := dst_operAt ho
      by_cases hpd : o.dst.map nm = some p
      · rw [hpd, get_put_same, hdv p (by rw [ed]; exact hpd)]
      · rw [get_put hpd]
        refine he p fun j hj hjn => ?_
        by_cases hji : j = i
        · subst hji; rw [ed]; exact hpd
        · exact hpp j hj fun hon => by
            rcases (on_set hds).1 hon with e | e
            · exact hji e.symm
            · exact hjn e
  rcases h.pen i hK hnD with ⟨k0, b, d, ob, f, k1, k3, k4, k5, k6, k7, k8⟩ | ⟨⟨k1, u, k2, k3⟩, -⟩
  ·
    have hfr : freshOp (operOf C.P C.G ops o) = true := by rw [← eo]; exact k0
    have ha : allocOf τ' (operOf C.P C.G ops o).op = some (ob, f) := by rw [← eo, ← k1]; exact allocOf_congr (looks_args hag)
    obtain ⟨cv, obj, sz, N, hrun, hmk⟩ := made_ok (C := C) (w := w) hG hτ hfr ha
    obtain ⟨hv, hor⟩ := hmk b k6
    have hop : ∃ op, opOf C.P C.G o = some op := by
      cases hop : opOf C.P C.G o with
      | none => simp [operOf, hop, freshOp] at hfr
      | some op => exact ⟨op, rfl⟩
    obtain ⟨op, hop⟩ := hop
    have hguard : wanted τ' (operOf C.P C.G ops o).guard = true := by rw [(fresh_gd hfr).1]; rfl
    simp only [wpOpsIn, ho]
    rw [wanted_ok (C := C) hτ hg, hguard, if_pos rfl]
    refine ⟨fun f _ => trivial, ?_⟩
    rw [Oper.semAt_eq _ _ _ (opOf_defer hop)]
    rw [hrun]
    show wpOpsIn (fence ro) m C.P ops Q rest (a.put o.dst _) _
    have hle : ρ.Le (ρ.add b ⟨w.heap.size, 0, sz, N⟩) := Rho.le_add k6
    have hx : Ext C ρ0 s0 w0 (ρ.add b ⟨w.heap.size, 0, sz, N⟩) s (w.alloc obj) := h.ext.realize k4 k5 k6 k7 hor
    refine hk _ _ _ (next _ _ (f b) _ hx hle hv (fun d' hd' => by rw [k3] at hd'; cases hd'; exact k8) (fun j hj hjn hji q0 b' d' q2 q3 q4 q5 => ?_))
    by_cases hbb : b' = b
    ·
      exfalso
      subst hbb
      exact h.two j i hj hjn hK hnD hji b' d' d q0 k0 q2 k3 q3 (by rw [k8]; exact allocOf_nm k1 b')
    · rw [Rho.add_other _ _ hbb]; exact q4
  · have hlv : lightV E τ' s (operAt C.P C.G ops i) = some u := by rw [lightV_congr hag]; exact k2
    rw [eo] at k1 k3 hlv
    unfold lightV at hlv
    refine step_ok (τ := τ') (nt := nt) hE hS h.ext.inv hG hτ ho hn (hf i o ho) (R := fun r => r = (u, s)) ?_ ?_ ?_ ?_
    · cases hop : opOf C.P C.G o with
      | some op => exact .inl ⟨op, rfl⟩
      | none => simp [operOf, hop, lightOp] at k1
    · intro hw
      rw [hw] at hlv
      simp only at hlv
      split at hlv
      · rename_i v' s' hex
        cases hlv
        have := exec_light k1 hex
        subst this
        rw [oper_light k1, hex]
        rfl
      · cases hlv
    · intro hw
      rw [hw] at hlv
      cases hlv; rfl
    · rintro v s' ρ' cv w' hR hv hx
      cases hR
      refine hk _ _ _ (next ρ' w' u cv (h.ext.trans hx) hx.le hv (fun d' hd' => k3 d' (by rw [← eo]; exact hd')) (fun j hj hjn hji q0 b d q2 q3 q4 q5 => (hx.unreal b q4 q5).2))
end
end Go.Eng
end
section
namespace Go.Eng
section
variable {C : Ctx} {E : Env} {ev : Eval} {md : Region.Mode} {ops : Array Oper}
variable {ρ0 ρ : Rho} {s0 s : St} {w0 w : World} {a0 a : Act} {D K : Array Bool} {pend : List Nat} {τ : Tr V}
theorem Sim.heavy (hE : EnvOk C E) (hS : Sound C E ev) (hF : Fine C md ops) (hG : GR C ρ) (h : Sim C E md ops ρ0 s0 w0 a0 D K pend ρ s w τ a) {nt : Nat} (hn : nt ≤ a.tmps.size) (hf : ∀ (i : Nat) o, ops[i]? = some o → operFine nt ops o = true)
    {i : Nat} (hi : i ∈ Region.ready md ops D) (hK : ¬ On K i) {checks : List Nat} (hc : ∀ j ∈ pend, j ∉ anc md ops 4 (preds md ops i) → j ∈ checks) {N : Tr V → St → Prop}
    (h1 : wanted τ (operAt C.P C.G ops i).guard = true → (oper E ev τ s (operAt C.P C.G ops i).op).All E.branch fun r => recheck E (put τ (operAt C.P C.G ops i).dst r.1) r.2 (checks.map (operAt C.P C.G ops)) = true ∧ N (put τ (operAt C.P C.G ops i).dst r.1) r.2)
    (h2 : wanted τ (operAt C.P C.G ops i).guard = false → recheck E (put τ (operAt C.P C.G ops i).dst undef) s (checks.map (operAt C.P C.G ops)) = true ∧ N (put τ (operAt C.P C.G ops i).dst undef) s)
    {ro : Option Nat} {m : Nat} {Q : Exit → Act → World → Prop} {rest : List Nat}
    (hk : ∀ ρ' s' w' τ' a', Sim C E md ops ρ0 s0 w0 a0 (D.setIfInBounds i true) (K.setIfInBounds i true) checks ρ' s' w' τ' a' → N τ' s' → wpOpsIn (fence ro) m C.P ops Q rest a' w') : wpOpsIn (fence ro) m C.P ops Q (i :: rest) a w := by
  obtain ⟨hlt, hnD, hp⟩ := (ready_iff h.dsz).1 hi
  have hds : i < D.size := by rw [h.dsz]; exact hlt
  have hks : i < K.size := by rw [h.ksz]; exact hlt
  obtain ⟨o, ho⟩ : ∃ o, ops[i]? = some o := ⟨_, Array.getElem?_eq_getElem hlt⟩
  have eo : operAt C.P C.G ops i = operOf C.P C.G ops o := by simp [operAt, ho]
  obtain ⟨hd, hg⟩ := fine_spec (hf i o ho) hn
  obtain ⟨τ', hτ, he⟩ := h.tr
  have hag := h.agree hF he hi
  have ew : wanted τ' (operAt C.P C.G ops i).guard = wanted τ (operAt C.P C.G ops i).guard := looks_guard hag
  have eop : oper E ev τ' s (operAt C.P C.G ops i).op = oper E ev τ s (operAt C.P C.G ops i).op := oper_congr (looks_args hag)
  rw [← ew, ← eop] at h1
  rw [← ew] at h2
  rw [eo] at h1 h2
  have hkn : ∀ j, On K j → j < ops.size := fun j hj => by have := on_lt hj; have := h.ksz; omega
  refine step_ok (τ := τ') (nt := nt) hE hS h.ext.inv hG hτ ho hn (hf i o ho)
    (R := fun r => recheck E (put τ (operOf C.P C.G ops o).dst r.1) r.2 (checks.map (operAt C.P C.G ops)) = true ∧ N (put τ (operOf C.P C.G ops o).dst r.1) r.2) ?_ h1 h2 ?_
  · cases hw : wanted τ' (operOf C.P C.G ops o).guard with
    | true => exact .inl (oper_bad (h1 hw))
    | false => exact .inr rfl
  · rintro v s' ρ' cv w' ⟨hr, hN⟩ hv hx
    refine hk ρ' s' w' _ _ ?_ hN
    have hcd : ∀ j, On K j → ¬ On D j → j ∈ pend → j ∈ checks := fun j hj hjn hjp => hc j hjp fun hja => hjn (anc_done h.down 4 _ (fun k hk => hp k hk) j hja)
    have ed : (operOf C.P C.G ops o).dst = (operAt C.P C.G ops i).dst := by rw [eo]
    have hpend : ∀ j, On (K.setIfInBounds i true) j → ¬ On (D.setIfInBounds i true) j → j ≠ i ∧ On K j ∧ ¬ On D j := fun j hj hjn => by
      have hji : j ≠ i := fun e => hjn ((on_set hds).2 (.inl e.symm))
      exact ⟨hji, ((on_set hks).1 hj).resolve_left (fun e => hji e.symm), fun e => hjn (on_set_of e)⟩
    refine ⟨by simpa using h.dsz, by simpa using h.ksz, fun j hj => ?_, fun j hj p hpp => ?_, fun j hj hjn => ?_, fun j hj k hk' d hdk hdl => ?_, fun j k hj hjn hk' hkn' hjk b d d' q1 q2 q3 q4 q5 q6 => ?_, h.ext.trans hx, ?_, by rw [put_size]; exact h.size, by rw [put_defers]; exact h.defs⟩
    · rcases (on_set hds).1 hj with rfl | hj
      · exact (on_set hks).2 (.inl rfl)
      · exact on_set_of (h.sub j hj)
    · rcases (on_set hds).1 hj with rfl | hj
      · exact on_set_of (hp p hpp)
      · exact on_set_of (h.down j hj p hpp)
    · obtain ⟨hji, hjK, hjD⟩ := hpend j hj hjn
      rcases h.pen j hjK hjD with ⟨k0, b, d, ob, f, k1, k3, k4, k5, k6, k7, k8⟩ | ⟨⟨k1, -⟩, k4⟩
      · obtain ⟨u1, u2⟩ := hx.unreal b k6 k5
        refine .inl ⟨k0, b, d, ob, f, ?_, k3, k4, Nat.lt_of_lt_of_le k5 hx.next, u2, by rw [u1]; exact k7, ?_⟩
        · rw [ed, allocOf_put fun p hp hpl => hK (h.kl j hjK i hlt p hp hpl)]; exact k1
        · rw [ed, get_put (hF.one i j d hlt (hkn j hjK) (Ne.symm hji) k3)]; exact k8
      · have hjc := hcd j hjK hjD k4
        exact .inr ⟨⟨k1, recheck_spec hr _ (List.mem_map.2 ⟨j, hjc, rfl⟩)⟩, hjc⟩
    · rcases (on_set hks).1 hj with rfl | hj
      · exact on_set_of (h.sub k (hp k (hF.look _ k d hlt hk' hdk hdl)))
      · exact on_set_of (h.kl j hj k hk' d hdk hdl)
    · obtain ⟨hji, hjK, hjD⟩ := hpend j hj hjn
      obtain ⟨hki, hkK, hkD⟩ := hpend k hk' hkn'
      rw [ed, get_put (hF.one i j d hlt (hkn j hjK) (Ne.symm hji) q3)] at q5
      rw [ed, get_put (hF.one i k d' hlt (hkn k hkK) (Ne.symm hki) q4)] at q6
      exact h.two j k hjK hjD hkK hkD hjk b d d' q1 q2 q3 q4 q5 q6
    · refine ⟨put τ' (o.dst.map nm) v, (hτ.mono hx.le).put hd hv, fun p hpp => ?_⟩
      have e2 : (operOf C.P C.G ops o).dst = o.dst.map nm := rfl
      rw [e2]
      by_cases hpd : o.dst.map nm = some p
      · rw [hpd, get_put_same, get_put_same]
      · rw [get_put hpd, get_put hpd]
        refine he p fun j hj hjn => ?_
        have hji : j ≠ i := fun e => hK (e ▸ hj)
        exact hpp j (on_set_of hj) fun hon => by
          rcases (on_set hds).1 hon with e | e
          · exact hji e.symm
          · exact hjn e
theorem Sim.done (h : Sim C E md ops ρ0 s0 w0 a0 D K pend ρ s w τ a) (hall : ∀ i, i < ops.size → On D i) : TR ρ τ a.tmps := by
  obtain ⟨τ', h1, h2⟩ := h.tr
  refine h1.congr fun p => h2 p fun i hi hn => absurd (hall i ?_) hn
  have := on_lt hi
  have := h.ksz
  omega
def lightAt (C : Ctx) (ops : Array Oper) (i : Nat) : Bool := lightOp (operAt C.P C.G ops i).op
def freshAt (C : Ctx) (ops : Array Oper) (i : Nat) : Bool := freshOp (operAt C.P C.G ops i)
def looksAt (C : Ctx) (ops : Array Oper) (i : Nat) : List Nm := (operAt C.P C.G ops i).looks
def dstAt (C : Ctx) (ops : Array Oper) (i : Nat) : Option Nm := (operAt C.P C.G ops i).dst
def open' (ops : Array Oper) (D : Array Bool) : Nat := (List.range ops.size).countP fun i => !D.getD i false
theorem open_zero (h : open' ops D = 0) : ∀ i, i < ops.size → On D i := fun i hi => by
  unfold open' at h
  rw [List.countP_eq_zero] at h
  have := h i (List.mem_range.2 hi)
  simpa [On] using this
theorem countP_lt {p q : Nat → Bool} {i : Nat} (hpq : ∀ j, q j = true → p j = true) (hp : p i = true) (hq : q i = false) : ∀ {l : List Nat}, i ∈ l → l.countP q < l.countP p
  | [], h => by simp at h
  | x :: l, h => by
    have hle : l.countP q ≤ l.countP p := List.countP_mono_left fun j _ => hpq j
    rw [List.countP_cons, List.countP_cons]
    rcases List.mem_cons.1 h with rfl | h
    · rw [hp, hq]; simp; omega
    · have := countP_lt hpq hp hq h
      cases hqx : q x with
      | false => simp; omega
      | true => rw [hpq x hqx]; simp; omega
theorem open_set (hs : D.size = ops.size) {i : Nat} (hi : i < ops.size) (hn : ¬ On D i) : open' ops (D.setIfInBounds i true) < open' ops D := by
  unfold open'
  refine countP_lt (i := i) (fun j hj => ?_) ?_ ?_ (List.mem_range.2 hi)
  · simp only [Bool.not_eq_true'] at hj ⊢
    have : ¬ On (D.setIfInBounds i true) j := by unfold On; rw [hj]; simp
    have h' : ¬ On D j := fun e => this (on_set_of e)
    unfold On at h'
    simpa using h'
  · unfold On at hn; simpa using hn
  · have : On (D.setIfInBounds i true) i := (on_set (by omega)).2 (.inl rfl)
    unfold On at this
    simp only [this]; rfl
theorem fresh_step {i : Nat} {pend : List Nat} {l : List (Nat × DK × List Nat)} {R : Tr V × St → Prop} (hf : freshOp (operAt C.P C.G ops i) = true) (hr : (drun E ev (((i, .fresh, pend) :: l).map (stepOf C.P C.G ops)) τ s).All E.branch R) :
    ∃ v s', exec (fun _ => 0) E.branch E.ks E.hasMethods τ s (operAt C.P C.G ops i).op = some (v, s') ∧ recheck E (put τ (operAt C.P C.G ops i).dst v) s' (pend.map (operAt C.P C.G ops)) = true ∧ (drun E ev (l.map (stepOf C.P C.G ops)) (put τ (operAt C.P C.G ops i).dst v) s').All E.branch R := by
  simp only [List.map_cons, drun, stepOf] at hr
  have hw : wanted τ (operAt C.P C.G ops i).guard = true := by rw [(fresh_gd hf).1]; rfl
  rw [hw, oper_fresh hf] at hr
  simp only at hr
  obtain ⟨⟨v, s'⟩, h1, h2⟩ := T.all_ofO (T.all_bind hr)
  simp only at h2
  split at h2
  · rename_i hre
    exact ⟨v, s', h1, hre, h2⟩
  · exact h2.elim
theorem sim_run (hE : EnvOk C E) (hS : Sound C E ev) (hF : Fine C md ops) {mds : List Region.Mode} (hmd : md ∈ mds) (hG0 : GR C ρ0) {nt : Nat} (hn : nt ≤ a0.tmps.size) (hf : ∀ (i : Nat) o, ops[i]? = some o → operFine nt ops o = true)
    {ro : Option Nat} {m : Nat} {Q : Exit → Act → World → Prop} {R : Tr V × St → Prop} (hQ : RPost C ρ0 s0 w0 a0 R Q) :
    ∀ (g f : Nat) (K : Array Bool) (pend : List Nat) (l : List (Nat × DK × List Nat)) (D : Array Bool) (ρ : Rho) (s : St) (w : World) (τ : Tr V) (a : Act) (t : Nat), planGo (freshAt C ops) (lightAt C ops) (looksAt C ops) (dstAt C ops) mds ops f K pend = some l →
      Sim C E md ops ρ0 s0 w0 a0 D K pend ρ s w τ a → (drun E ev (l.map (stepOf C.P C.G ops)) τ s).All E.branch R → open' ops D ≤ g → wpOpsIn (fence ro) m C.P ops Q (Region.linearise.go md ops g t D []) a w := by
  intro g
  induction g with
  | zero =>
    intro f
    induction f with
    | zero =>
      intro K pend l D ρ s w τ a t hl h hr hg
      have hall := open_zero (Nat.le_zero.1 hg)
      simp only [planGo] at hl
      split at hl
      · cases hl
        simp only [List.map_nil, drun, T.All] at hr
        simp only [Region.linearise.go, List.reverse_nil, wpOpsIn]
        exact hQ τ s ρ a w hr (h.done hall) h.ext h.size h.defs
      · cases hl
    | succ f _ =>
      intro K pend l D ρ s w τ a t hl h hr hg
      have hall := open_zero (Nat.le_zero.1 hg)
      have hno : ∀ (p : Nat → Bool) i, (List.range ops.size).find? p = some i → i < ops.size := fun p i hp => List.mem_range.1 (List.mem_of_find?_eq_some hp)
      have hfull : ∀ i, i < ops.size → On K i := fun i hi => h.sub i (hall i hi)
      have hempty : ∀ md', Region.ready md' ops K = [] := fun md' => by
        cases hr' : Region.ready md' ops K with
        | nil => rfl
        | cons x xs =>
          have : x ∈ Region.ready md' ops K := by rw [hr']; simp
          obtain ⟨k1, k2, -⟩ := (ready_iff h.ksz).1 this
          exact absurd (hfull x k1) k2
      have hany : ∀ i, (mds.any fun md => (Region.ready md ops K).contains i) = false := fun i => by
        rw [List.any_eq_false]; intro md' _; rw [hempty md']; simp
      simp only [planGo] at hl
      split at hl
      · rename_i i _ hfi
        have hp := List.find?_some hfi
        rw [hany i] at hp; simp at hp
      · split at hl
        · rename_i i hfi
          have hp := List.find?_some hfi
          rw [hany i] at hp; simp at hp
        · split at hl
          · rename_i i hfi
            have hp := List.find?_some hfi
            rw [hany i] at hp; simp at hp
          · split at hl
            · rename_i i hfi
              have hp := List.find?_some hfi
              rw [hany i] at hp; simp at hp
            · split at hl
              · cases hl
                simp only [List.map_nil, drun, T.All] at hr
                simp only [Region.linearise.go, List.reverse_nil, wpOpsIn]
                exact hQ τ s ρ a w hr (h.done hall) h.ext h.size h.defs
              · cases hl
  | succ g ihg =>
    intro f
    induction f with
    | zero =>
      intro K pend l D ρ s w τ a t hl h hr hg
      have hend : Region.ready md ops K = [] ∧ l = [] := by
        simp only [planGo] at hl
        split at hl
        · rename_i he
          cases hl
          simp only [List.all_eq_true] at he
          exact ⟨by simpa using he md hmd, rfl⟩
        · cases hl
      obtain ⟨hempty, rfl⟩ := hend
      rcases lin_cases (md := md) (ops := ops) g t D with ⟨e1, e2⟩ | ⟨i, t', e1, e2⟩
      · rw [e2]
        simp only [List.map_nil, drun, T.All] at hr
        simp only [wpOpsIn]
        obtain ⟨L, hL1, hL2⟩ := hF.topo
        exact hQ τ s ρ a w hr (h.done fun i hi => topo_done h.dsz e1 L [] hL1 (fun _ h => by simp at h) i (hL2 i hi)) h.ext h.size h.defs
      · rw [e2]
        obtain ⟨k1, k2, k3⟩ := (ready_iff h.dsz).1 e1
        by_cases hK : On K i
        · refine h.late hE hS hF (hG0.mono h.ext.le) (by rw [h.size]; exact hn) hf e1 hK fun ρ' w' a' h' => ?_
          exact ihg 0 K pend [] _ ρ' s w' τ a' t' hl h' hr (by have := open_set h.dsz k1 k2; omega)
        · exfalso
          have : i ∈ Region.ready md ops K := (ready_iff h.ksz).2 ⟨k1, hK, fun p hp => h.sub p (k3 p hp)⟩
          rw [hempty] at this; simp at this
    | succ f ihf =>
      intro K pend l D ρ s w τ a t hl h hr hg
      have hl0 := hl
      simp only [planGo] at hl
      split at hl
      ·
        rename_i i hpe hfi
        have hp := List.find?_some hfi
        have hi : i < ops.size := List.mem_range.1 (List.mem_of_find?_eq_some hfi)
        simp only [Bool.and_eq_true] at hp
        obtain ⟨⟨p1, p2⟩, p3⟩ := hp
        obtain ⟨md', -, hmr⟩ := List.any_eq_true.1 p2
        obtain ⟨-, hnK, -⟩ := (ready_iff h.ksz).1 (by simpa using hmr)
        split at hl
        · rename_i l' hl'
          cases hl
          obtain ⟨v, s', g1, g2, g3⟩ := fresh_step p1 hr
          exact ihf _ _ _ D ρ _ w _ a t hl' (h.fresh hF hi hnK p3 p1 g1 g2) g3 hg
        · cases hl
      · split at hl
        ·
          rename_i i hfi
          have hp := List.find?_some hfi
          have hi : i < ops.size := List.mem_range.1 (List.mem_of_find?_eq_some hfi)
          simp only [Bool.and_eq_true] at hp
          obtain ⟨⟨p1, p2⟩, p3⟩ := hp
          obtain ⟨md', -, hmr⟩ := List.any_eq_true.1 p2
          obtain ⟨-, hnK, -⟩ := (ready_iff h.ksz).1 (by simpa using hmr)
          split at hl
          · rename_i l' hl'
            cases hl
            simp only [List.map_cons, drun, stepOf] at hr
            split at hr
            · rename_i v hv
              exact ihf _ _ _ D ρ s w _ a t hl' (h.light hF hi hnK p3 p1 hv) hr hg
            · exact hr.elim
          · cases hl
        · split at hl
          ·
            rename_i i hfi
            have hp := List.find?_some hfi
            have hi : i < ops.size := List.mem_range.1 (List.mem_of_find?_eq_some hfi)
            simp only [Bool.and_eq_true] at hp
            obtain ⟨p1, p2⟩ := hp
            have honly : ∀ j ∈ Region.ready md ops K, j = i := fun j hj => by
              have := List.all_eq_true.1 p2 md hmd
              have := List.all_eq_true.1 this j hj
              exact Nat.eq_of_beq_eq_true this
            obtain ⟨md', -, hmr⟩ := List.any_eq_true.1 p1
            obtain ⟨-, hnK, -⟩ := (ready_iff h.ksz).1 (by simpa using hmr)
            rcases lin_cases (md := md) (ops := ops) g t D with ⟨e1, e2⟩ | ⟨j, t', e1, e2⟩
            · exfalso
              obtain ⟨L, hL1, hL2⟩ := hF.topo
              exact hnK (h.sub i (topo_done h.dsz e1 L [] hL1 (fun _ h => by simp at h) i (hL2 i hi)))
            · rw [e2]
              obtain ⟨k1, k2, k3⟩ := (ready_iff h.dsz).1 e1
              by_cases hK : On K j
              · refine h.late hE hS hF (hG0.mono h.ext.le) (by rw [h.size]; exact hn) hf e1 hK fun ρ' w' a' h' => ?_
                exact ihg (f + 1) K pend _ _ ρ' s w' τ a' t' hl0 h' hr (by have := open_set h.dsz k1 k2; omega)
              · have hji := honly j ((ready_iff h.ksz).2 ⟨k1, hK, fun p hp => h.sub p (k3 p hp)⟩)
                subst hji
                split at hl
                · rename_i l' hl'
                  cases hl
                  simp only [List.map_cons, drun, stepOf] at hr
                  refine h.heavy hE hS hF (hG0.mono h.ext.le) (by rw [h.size]; exact hn) hf e1 hK (checks := pend.filter fun j' => mds.any fun md => !(anc md ops 4 (preds md ops j)).contains j') (fun j' hj' hja => ?_)
                    (N := fun τ' s' => (drun E ev (l'.map (stepOf C.P C.G ops)) τ' s').All E.branch R) (fun hw => ?_) (fun hw => ?_) fun ρ' s' w' τ' a' h' hN => ?_
                  · exact List.mem_filter.2 ⟨hj', List.any_eq_true.2 ⟨md, hmd, by simpa using hja⟩⟩
                  · rw [hw] at hr
                    refine T.all_mono (fun r hr' => ?_) (T.all_bind hr)
                    split at hr'
                    · rename_i hre; exact ⟨hre, hr'⟩
                    · exact hr'.elim
                  · rw [hw] at hr
                    simp only at hr
                    split at hr
                    · rename_i hre; exact ⟨hre, hr⟩
                    · exact hr.elim
                  · exact ihg f _ _ l' _ ρ' s' w' τ' a' t' hl' h' hN (by have := open_set h.dsz k1 k2; omega)
                · cases hl
          · split at hl
            ·
              rename_i i hfi
              have hp := List.find?_some hfi
              have hi : i < ops.size := List.mem_range.1 (List.mem_of_find?_eq_some hfi)
              simp only [Bool.and_eq_true] at hp
              obtain ⟨⟨p1, p2⟩, p3⟩ := hp
              obtain ⟨md', -, hmr⟩ := List.any_eq_true.1 p2
              obtain ⟨-, hnK, -⟩ := (ready_iff h.ksz).1 (by simpa using hmr)
              split at hl
              · rename_i l' hl'
                cases hl
                obtain ⟨v, s', g1, g2, g3⟩ := fresh_step p1 hr
                exact ihf _ _ _ D ρ _ w _ a t hl' (h.fresh hF hi hnK p3 p1 g1 g2) g3 hg
              · cases hl
            ·
              split at hl
              · rename_i he
                cases hl
                simp only [List.all_eq_true] at he
                have hempty : Region.ready md ops K = [] := by simpa using he md hmd
                rcases lin_cases (md := md) (ops := ops) g t D with ⟨e1, e2⟩ | ⟨i, t', e1, e2⟩
                · rw [e2]
                  simp only [List.map_nil, drun, T.All] at hr
                  simp only [wpOpsIn]
                  obtain ⟨L, hL1, hL2⟩ := hF.topo
                  exact hQ τ s ρ a w hr (h.done fun i hi => topo_done h.dsz e1 L [] hL1 (fun _ h => by simp at h) i (hL2 i hi)) h.ext h.size h.defs
                · rw [e2]
                  obtain ⟨k1, k2, k3⟩ := (ready_iff h.dsz).1 e1
                  by_cases hK : On K i
                  · refine h.late hE hS hF (hG0.mono h.ext.le) (by rw [h.size]; exact hn) hf e1 hK fun ρ' w' a' h' => ?_
                    exact ihg (f + 1) K pend [] _ ρ' s w' τ a' t' hl0 h' hr (by have := open_set h.dsz k1 k2; omega)
                  · exfalso
                    have : i ∈ Region.ready md ops K := (ready_iff h.ksz).2 ⟨k1, hK, fun p hp => h.sub p (k3 p hp)⟩
                    rw [hempty] at this; simp at this
              · cases hl
end
end Go.Eng
end
section
namespace Go.Eng
section
variable {C : Ctx} {E : Env} {ρ : Rho} {s : St} {w : World} {τ : Tr V} {a : Act}
theorem fine_of {ops : Array Oper} {mds : List Region.Mode} (h : drawFine C.P C.G mds ops = true) {md : Region.Mode} (hmd : md ∈ mds) : Fine C md ops := by
  simp only [drawFine, Bool.and_eq_true, List.all_eq_true, List.mem_range] at h
  obtain ⟨h1, h2⟩ := h
  refine ⟨fun i j d hi hj hij hd hd' => ?_, fun i j d hi hj hd hdl => ?_, ⟨Region.linearise md ops 0, (h2 md hmd).1, fun i hi => by simpa using (h2 md hmd).2 i hi⟩⟩
  · have := h1 i hi j hj
    simp only [hd, hd', Bool.and_eq_true, Bool.or_eq_true, Bool.not_eq_true'] at this
    rcases this.1 with h3 | h3
    · exact hij (Nat.eq_of_beq_eq_true h3)
    · simp at h3
  · have := h1 i hi j hj
    simp only [hd, Bool.and_eq_true, Bool.or_eq_true, Bool.not_eq_true', List.all_eq_true] at this
    rcases this.2 with h3 | h3
    · simp [hdl] at h3
    · simpa using h3 md hmd
theorem on_replicate {n i : Nat} : ¬ On (Array.replicate n false) i := by
  unfold On
  rw [Array.getD_eq_getD_getElem?, Array.getElem?_replicate]
  split <;> simp
theorem draw_ok {ev : Eval} (hE : EnvOk C E) (hS : Sound C E ev) (hI : Inv C ρ s w) (hG : GR C ρ) (hτ : TR ρ τ a.tmps) {ops : Array Oper} {nt : Nat} (hn : nt ≤ a.tmps.size) (hf : ∀ (i : Nat) o, ops[i]? = some o → operFine nt ops o = true)
    {l : List DStep} (hl : drawOf C.P C.G ops = some l) {ro : Option Nat} {m id : Nat} {Q : Exit → Act → World → Prop} {R : Tr V × St → Prop} (h : (drun E ev l τ s).All E.branch R) (hQ : RPost C ρ s w a R Q) :
    (Code.region id ops true).wpIn (fence ro) m C.P Q a w := by
  unfold drawOf at hl
  split at hl
  · rename_i hfine
    split at hl
    · rename_i l' hl'
      cases hl
      have key : ∀ md ∈ modesOf ops, ∀ t, wpOpsIn (fence ro) m C.P ops Q (Region.linearise md ops t) a { w with drawn := w.drawn + 1 } := by
        intro md hmd t
        have hx : Ext C ρ s w ρ s { w with drawn := w.drawn + 1 } := ext_drew hI s.drawn (w.drawn + 1)
        refine sim_run hE hS (fine_of hfine hmd) hmd hG hn hf hQ ops.size ops.size _ [] l' (Array.replicate ops.size false) ρ s _ τ a t hl' ?_ h ?_
        · exact ⟨by simp, by simp, fun i hi => hi, fun i hi => absurd hi on_replicate, fun i hi => absurd hi on_replicate, fun i hi => absurd hi on_replicate, fun i j hi => absurd hi on_replicate, hx, ⟨τ, hτ, fun _ _ => rfl⟩, rfl, rfl⟩
        · unfold open'
          have := List.countP_le_length (p := fun i => !(Array.replicate ops.size false).getD i false) (l := List.range ops.size)
          simpa using this
      refine wpIn_region_draw fun t => ?_
      unfold Region.schedule
      have hmx := hE.mixed
      rw [hmx]
      simpa using key .any (by simp [modesOf]) t
    · cases hl
  · cases hl
theorem CPost.trans {R : Ex × Tr V × St → Prop} {ρ' : Rho} {s' : St} {w' : World} {a' : Act} {rs : List Nat} (e : Ext C ρ s w ρ' s' w') (h1 : a'.tmps.size = a.tmps.size) (h2 : a'.defers = rs.map mark ++ a.defers) (h3 : Marked ρ' s' w.heap.size w' rs) {x : Exit} {a'' : Act} {w'' : World} (h : CPost C ρ' s' w' a' R x a'' w'') :
    CPost C ρ s w a R x a'' w'' := by
  obtain ⟨ex, τ, s'', ρ'', rs', k1, k2, k3, k4, k5, k6, k7⟩ := h
  exact ⟨ex, τ, s'', ρ'', rs' ++ rs, k1, k2, k3, e.trans k4, k5.trans h1, by rw [k6, h2]; simp, h3.app k4 e.size k7⟩
theorem CPost.here {R : Ex × Tr V × St → Prop} (hI : Inv C ρ s w) (hτ : TR ρ τ a.tmps) {ex : Ex} (hR : R (ex, τ, s)) : CPost C ρ s w a R (exOf ex) a w :=
  ⟨ex, τ, s, ρ, [], hR, rfl, hτ, Ext.refl hI, rfl, rfl, Marked.nil⟩
theorem CPost.plain {R : Ex × Tr V × St → Prop} {R' : Ex × Tr V × St → Prop} {x : Exit} {a' : Act} {w' : World} (h : CPost C ρ s w a R x a' w') (hr : ∀ r, R r → R' r) : CPost C ρ s w a R' x a' w' := by
  obtain ⟨ex, τ, s', ρ', rs, k1, k⟩ := h
  exact ⟨ex, τ, s', ρ', rs, hr _ k1, k⟩
theorem Ext.junk (hI : Inv C ρ s w) (o : Obj) : Ext C ρ s w ρ s (w.alloc o) := by
  refine ⟨⟨fun b l o' hb hl => (hI.obj b l o' hb hl).of_block (.refl _) (heap_alloc_lt w o (hI.lt b l hl)), hI.inj, fun c o' hc => ?_, hI.sep, fun b l hl => ?_, hI.fresh⟩, .refl _, rfl, rfl, rfl, by simp, fun c hc _ => heap_alloc_lt w o hc, fun _ _ h => h, Nat.le_refl _, fun _ h _ => ⟨rfl, h⟩, fun _ _ h => .inl h⟩
  · have h := hI.imm c o' hc
    rw [heap_alloc_lt w o (Array.getElem?_eq_some_iff.1 h).1]; exact h
  · have := hI.lt b l hl; simp; omega
theorem range_ok {n : Nat} (hE : EnvOk C E) (hS : Sound C E (eval E n)) (hI : Inv C ρ s w) (hG : GR C ρ) (hτ : TR ρ τ a.tmps) {g : Operand} {ps : Array Tmp} {assign body : Code} {nt : Nat} (hn : nt ≤ a.tmps.size) {ag : Ar} (hg : ar C.G g = some ag) (hps : ps.toList.all (fun p => Nat.blt p nt) = true)
    {R : Ex × Tr V × St → Prop} {m : Nat} (h : (eval E (n + 1) (.rangeFunc ag (ps.toList.map nm) (codeOf C.P C.G nt true assign) (codeOf C.P C.G nt true body)) τ s).All E.branch R) :
    (Code.rangeFunc g ps assign body).wpIn (fence none) m C.P (CPost C ρ s w a R) a w := by
  simp only [eval] at h
  have rg := arg_rel hG hτ hg
  split at h
  · rename_i gf first cap hc
    rw [hc] at rg
    generalize hcg : a.eval g = cg at rg
    cases rg with
    | clo hy h1 h2 h3 h4 =>
      rename_i a' b'
      have hx0 : Ext C ρ s w ρ s (w.alloc (.deferred (some []))) := Ext.junk hI _
      refine wpIn_rangeFunc fun fn _ => ?_
      let rec' : Go.Loop := { state := .ready, pending := none, fn, tmps := a.tmps, params := ps, assign, body, defers := w.heap.size }
      let ob : O := .loop τ (ps.toList.map nm) (codeOf C.P C.G nt true assign) (codeOf C.P C.G nt true body) 0 none
      let ρ1 : Rho := ρ.add s.next ⟨w.heap.size + 1, 0, 1, 1⟩
      have hle : ρ.Le ρ1 := Rho.le_add hI.next_none.1
      have hsz : (w.alloc (.deferred (some []))).heap.size = w.heap.size + 1 := by simp
      have hx1 : Ext C ρ s (w.alloc (.deferred (some []))) ρ1 (new s ob).2 ((w.alloc (.deferred (some []))).alloc (.loop rec')) := by
        have := ext_new hx0.inv (.loop rec') ob 1 1 0
        rw [hsz] at this
        refine this ⟨rec', ?_, rfl, rfl, hτ.mono hle, rfl, fun p hp => ?_, nt, hn, rfl, rfl⟩
        · have := heap_alloc_new (w.alloc (.deferred (some []))) (.loop rec')
          rw [hsz] at this; exact this
        · have := List.all_eq_true.1 hps p hp
          simp only [Nat.blt_eq] at this
          exact Nat.lt_of_lt_of_le this hn
      have hx := hx0.trans hx1
      have hyl : VR ρ1 (.clo (.yield 0) [.it (new s ob).1] []) (.func (.yield (w.heap.size + 1)) #[] #[]) := .yld (b := s.next) (l := ⟨w.heap.size + 1, 0, 1, 1⟩) (Rho.add_same _ _ _)
      have hA : AR ρ1 (first ++ [.clo (.yield 0) [.it (new s ob).1] []] ++ cap) (a' ++ #[.func (.yield (w.heap.size + 1)) #[] #[]] ++ b') :=
        AR.app (AR.app (AR.mono hle ⟨h1, h3⟩) (AR.one hyl)) (AR.mono hle ⟨h2, h4⟩)
      obtain ⟨c1, c2⟩ := callB_ok hE hS hx.inv (hG.mono hx.le) hA (T.all_bind h)
      have hm0 : Marked ρ1 (new s ob).2 w.heap.size ((w.alloc (.deferred (some []))).alloc (.loop rec')) [w.heap.size] := by
        refine Marked.ext ⟨by simp, fun r hr => ?_⟩ hx1
        rw [List.mem_singleton] at hr; subst hr
        refine ⟨Nat.le_refl _, by simp, heap_alloc_new w _, ?_, ?_⟩
        · rintro ⟨b, l, hb, hl, hc⟩
          have := hI.lt b l hl; omega
        · cases hc : ρ.imm w.heap.size with
          | none => rfl
          | some o => have := (Array.getElem?_eq_some_iff.1 (hI.imm _ _ hc)).1; omega
      refine ⟨w.heap.size + 1, [mark w.heap.size], (w.alloc (.deferred (some []))).alloc (.loop rec'), { target := .fn (.func gf) b', args := a' ++ #[.func (.yield (w.heap.size + 1)) #[] #[]] }, (w.alloc (.deferred (some []))).alloc (.loop rec'), gf, a' ++ #[.func (.yield (w.heap.size + 1)) #[] #[]] ++ b', (w.alloc (.deferred (some []))).alloc (.loop rec'), run_enterLoop_outer fn a.tmps ps assign body, ?_, fun _ _ => trivial, ?_, fun hd => by simp [fence, Fence.wide] at hd, ?_⟩
      · have e2 : ∀ v : Value, a.eval (.const v) = v := fun _ => rfl
        simp [resolve, hcg, Deferred.ofValue, e2]
      · simp only [invoke]; exact c1
      · refine callsIn_fence (Calls.mono c2 fun e w₃ he => ?_)
        cases e with
        | panicked chain => exact he.elim
        | outgrown => exact he.elim
        | returned v =>
          obtain ⟨ρ', v', s', hR, -, hx2⟩ := he
          have hbl : ρ'.blk s.next = some ⟨w.heap.size + 1, 0, 1, 1⟩ := hx2.le.blk _ _ (Rho.add_same _ _ _)
          simp only [endLoop] at hR
          have hm2 := hm0.ext hx2
          have fin : ∀ (ex : Ex) (w₄ : World), R (ex, τ, { s' with heap := s'.heap.set none s.next }) → Ext C ρ' s' w₃ ρ' { s' with heap := s'.heap.set none s.next } w₄ → CPost C ρ s w a R (exOf ex) { a with defers := [mark w.heap.size] ++ a.defers } w₄ := by
            intro ex w₄ hR' hx3
            exact ⟨ex, τ, _, ρ', [w.heap.size], hR', rfl, hτ.mono ((hx.trans hx2).trans hx3).le, (hx.trans hx2).trans hx3, rfl, rfl, hm2.ext hx3⟩
          split at hR
          · rename_i τx psx asx bdx st pd hb
            have hb' : s'.heap.get s.next = some (.loop τx psx asx bdx st pd) := hb
            obtain ⟨r, q1, q2, q3, -⟩ := hx2.inv.obj s.next _ _ hb' hbl
            have hx3 : ∀ o, Ext C ρ' s' w₃ ρ' { s' with heap := s'.heap.set none s.next } (w₃.putObj (w.heap.size + 1) o) := fun o =>
              ext_set hx2.inv (b := s.next) (l := ⟨w.heap.size + 1, 0, 1, 1⟩) (by rw [hb']; simp) hbl (putObj_upd w₃ _ o) none (fun o' ho' => by cases ho')
            split at hR
            · split at hR
              · have hp : r.pending = none := by simpa [pendingOf] using q3.symm
                refine ⟨none, _, by rw [run_endLoop q1 (by rw [q2]; simp [loopSt]), hp], ?_⟩
                exact fin .normal _ hR (hx3 _)
              · exact hR.elim
            · split at hR
              · exact hR.elim
              · rename_i ex
                cases ex with
                | normal => simp [pendingOf] at q3
                | ret =>
                  have hp : r.pending = some .ret := by simpa [pendingOf] using q3.symm
                  refine ⟨some .ret, _, by rw [run_endLoop q1 (by rw [q2]; simp [loopSt]), hp], ?_⟩
                  exact wpIn_ret (fin .ret _ hR (hx3 _))
                | exit id =>
                  have hp : r.pending = some (.exit id) := by simpa [pendingOf] using q3.symm
                  refine ⟨some (.exit id), _, by rw [run_endLoop q1 (by rw [q2]; simp [loopSt]), hp], ?_⟩
                  exact wpIn_exit (fin (.exit id) _ hR (hx3 _))
            · exact hR.elim
          · exact hR.elim
  · exact h.elim
end
end Go.Eng
end
section
namespace Go.Eng
section
variable {C : Ctx} {E : Env}
def Rounds (C : Ctx) (E : Env) (c : ACode) (ρ : Rho) (s : St) (w : World) (a : Act) (R : Ex × Tr V × St → Prop) (k : Nat) (a₁ : Act) (w₁ : World) : Prop :=
  ∃ ρ₁ s₁ τ₁ rs, Ext C ρ s w ρ₁ s₁ w₁ ∧ TR ρ₁ τ₁ a₁.tmps ∧ a₁.tmps.size = a.tmps.size ∧ a₁.defers = rs.map mark ++ a.defers ∧ Marked ρ₁ s₁ w.heap.size w₁ rs ∧ (eval E k (.loop c) τ₁ s₁).All E.branch R
theorem least {p : Nat → Prop} (h : ∃ k, p k) : ∃ k, p k ∧ ∀ j, p j → k ≤ j := by
  obtain ⟨k, hk⟩ := h
  induction k using Nat.strongRecOn with
  | _ k ih =>
    by_cases hx : ∃ j, j < k ∧ p j
    · obtain ⟨j, hj, hp⟩ := hx; exact ih j hj hp
    · exact ⟨k, hk, fun j hj => Nat.le_of_not_lt fun hlt => hx ⟨j, hlt, hj⟩⟩
theorem loop_ok {n : Nat} (hS : ∀ j, j ≤ n → Sound C E (eval E j)) {c : Code} {nt : Nat} {ro : Option Nat} {ρ : Rho} {s : St} {w : World} {τ : Tr V} {a : Act} {R : Ex × Tr V × St → Prop} {m : Nat} (hI : Inv C ρ s w) (hG : GR C ρ) (hτ : TR ρ τ a.tmps) (hn : nt ≤ a.tmps.size)
    (h : (eval E (n + 1) (.loop (codeOf C.P C.G nt ro.isSome c)) τ s).All E.branch R) : (Code.loop c).wpIn (fence ro) m C.P (CPost C ρ s w a R) a w := by
  classical
  let J : Nat → Act → World → Prop := fun k a₁ w₁ => k ≤ n + 1 ∧ Rounds C E (codeOf C.P C.G nt ro.isSome c) ρ s w a R k a₁ w₁
  have h0 : J (n + 1) a w := ⟨Nat.le_refl _, ρ, s, τ, [], Ext.refl hI, hτ, rfl, rfl, Marked.nil, h⟩
  refine wpIn_loop (fun a₁ w₁ => ∃ k, J k a₁ w₁) (fun a₁ w₁ => if h : ∃ k, J k a₁ w₁ then Classical.choose (least h) else 0) ⟨_, h0⟩ ?_
  intro a₁ w₁ hJ
  obtain ⟨hk, ρ₁, s₁, τ₁, rs, hx, hτ₁, hsz, hdf, hm, hr⟩ := (Classical.choose_spec (least hJ)).1
  simp only [dif_pos hJ]
  generalize Classical.choose (least hJ) = k at *
  cases k with
  | zero => exact hr.elim
  | succ k =>
    simp only [eval] at hr
    have hw := hS k (by omega) c nt ro ρ₁ s₁ w₁ τ₁ a₁ _ m hx.inv (hG.mono hx.le) hτ₁ (by rw [hsz]; exact hn) (T.all_bind hr)
    refine wpIn_mono hw ?_
    rintro e a₂ w₂ ⟨ex, τ₂, s₂, ρ₂, rs₂, hR, he, hτ₂, hx₂, hsz₂, hdf₂, hm₂⟩
    have hd : a₂.defers = (rs₂ ++ rs).map mark ++ a.defers := by rw [hdf₂, hdf]; simp
    have hmm := hm.app hx₂ hx.size hm₂
    cases ex with
    | normal =>
      subst he
      have hJ' : J k a₂ w₂ := ⟨by omega, ρ₂, s₂, τ₂, rs₂ ++ rs, hx.trans hx₂, hτ₂, hsz₂.trans hsz, hd, hmm, hR⟩
      refine ⟨⟨k, hJ'⟩, ?_⟩
      rw [dif_pos ⟨k, hJ'⟩]
      exact Nat.lt_succ_of_le ((Classical.choose_spec (least ⟨k, hJ'⟩)).2 k hJ')
    | ret => subst he; exact ⟨.ret, τ₂, s₂, ρ₂, rs₂ ++ rs, hR, rfl, hτ₂, hx.trans hx₂, hsz₂.trans hsz, hd, hmm⟩
    | exit id => subst he; exact ⟨.exit id, τ₂, s₂, ρ₂, rs₂ ++ rs, hR, rfl, hτ₂, hx.trans hx₂, hsz₂.trans hsz, hd, hmm⟩
theorem eval_sound (hE : EnvOk C E) : ∀ n, Sound C E (eval E n) := by
  intro n
  induction n using Nat.strongRecOn with
  | _ n ih =>
    cases n with
    | zero => intro c nt ro ρ s w τ a R m _ _ _ _ h; exact h.elim
    | succ n =>
      have hS := ih n (Nat.lt_succ_self n)
      have hS' : ∀ j, j ≤ n → Sound C E (eval E j) := fun j hj => ih j (by omega)
      intro c nt ro ρ s w τ a R m hI hG hτ hn h
      cases c with
      | skip => exact wpIn_skip (CPost.here hI hτ (ex := .normal) h)
      | label l => exact wpIn_label (CPost.here hI hτ (ex := .normal) h)
      | exit id => exact wpIn_exit (CPost.here hI hτ (ex := .exit id) h)
      | ret => exact wpIn_ret (CPost.here hI hτ (ex := .ret) h)
      | goto l => exact h.elim
      | refuse why => exact h.elim
      | region id ops d =>
        have hQ : ∀ R' : Tr V × St → Prop, (∀ τ s, R' (τ, s) → R (.normal, τ, s)) → RPost C ρ s w a R' (CPost C ρ s w a R) := fun R' hR' τ' s' ρ' a' w' hr hτ' hx h1 h2 =>
          ⟨.normal, τ', s', ρ', [], hR' _ _ hr, rfl, hτ', hx, h1, by simp [h2], Marked.nil⟩
        simp only [codeOf] at h
        split at h
        · rename_i hfn
          have hf : ∀ (i : Nat) o, ops[i]? = some o → operFine nt ops o = true := fun i o ho => List.all_eq_true.1 hfn o (by simpa using Array.mem_of_getElem? ho)
          simp only [eval] at h
          rw [region_map] at h
          refine wpIn_region (opers_ok hE hS hf _ ρ s w τ a hI hG hτ hn (fun i hi => ⟨_, Array.getElem?_eq_getElem (List.mem_range.1 hi)⟩) (T.all_bind h) (hQ _ fun τ s hr => hr))
        · rename_i hfn
          have hf : ∀ (i : Nat) o, ops[i]? = some o → operFine nt ops o = true := fun i o ho => List.all_eq_true.1 hfn o (by simpa using Array.mem_of_getElem? ho)
          split at h
          · rename_i l hl
            simp only [eval] at h
            exact draw_ok hE hS hI hG hτ hn hf hl (T.all_bind h) (hQ _ fun τ s hr => hr)
          · exact h.elim
        · exact h.elim
      | seq x y =>
        simp only [codeOf, eval] at h
        have hw := hS x nt ro ρ s w τ a _ m hI hG hτ hn (T.all_bind h)
        refine wpIn_seq (wpIn_mono hw ?_)
        rintro e a₁ w₁ ⟨ex, τ₁, s₁, ρ₁, rs, hR, he, hτ₁, hx, hsz, hdf, hm⟩
        cases ex with
        | normal =>
          subst he
          exact wpIn_mono (hS y nt ro ρ₁ s₁ w₁ τ₁ a₁ R m hx.inv (hG.mono hx.le) hτ₁ (by rw [hsz]; exact hn) hR) fun e a₂ w₂ h2 => CPost.trans hx hsz hdf hm h2
        | ret => subst he; exact ⟨.ret, τ₁, s₁, ρ₁, rs, hR, rfl, hτ₁, hx, hsz, hdf, hm⟩
        | exit id => subst he; exact ⟨.exit id, τ₁, s₁, ρ₁, rs, hR, rfl, hτ₁, hx, hsz, hdf, hm⟩
      | cond c x y =>
        simp only [codeOf] at h
        split at h
        · rename_i ac hc
          have rc := arg_rel hG hτ hc
          simp only [eval] at h
          split at h
          · rename_i hv
            rw [hv] at rc
            generalize hcc : a.eval c = cc at rc
            cases rc
            exact wpIn_cond_true hcc (hS x nt ro ρ s w τ a R m hI hG hτ hn h)
          · rename_i hv
            rw [hv] at rc
            generalize hcc : a.eval c = cc at rc
            cases rc
            exact wpIn_cond_false hcc (hS y nt ro ρ s w τ a R m hI hG hτ hn h)
          · exact h.elim
        · exact h.elim
      | block id x =>
        simp only [codeOf, eval] at h
        have hw := hS x nt ro ρ s w τ a _ m hI hG hτ hn (T.all_bind h)
        refine wpIn_block (wpIn_mono hw ?_)
        rintro e a₁ w₁ ⟨ex, τ₁, s₁, ρ₁, rs, hR, he, hτ₁, hx, hsz, hdf, hm⟩
        cases ex with
        | normal => subst he; exact ⟨.normal, τ₁, s₁, ρ₁, rs, hR, rfl, hτ₁, hx, hsz, hdf, hm⟩
        | ret => subst he; exact ⟨.ret, τ₁, s₁, ρ₁, rs, hR, rfl, hτ₁, hx, hsz, hdf, hm⟩
        | exit k =>
          subst he
          simp only [endBlock] at hR
          show if k = id then _ else _
          by_cases hk : k = id
          · subst hk
            rw [if_pos rfl]
            rw [if_pos (Nat.beq_refl k)] at hR
            exact ⟨.normal, τ₁, s₁, ρ₁, rs, hR, rfl, hτ₁, hx, hsz, hdf, hm⟩
          · rw [if_neg hk]
            rw [if_neg (fun e => hk (Nat.eq_of_beq_eq_true e))] at hR
            exact ⟨.exit k, τ₁, s₁, ρ₁, rs, hR, rfl, hτ₁, hx, hsz, hdf, hm⟩
      | loop x => exact loop_ok hS' hI hG hτ hn h
      | scope x =>
        simp only [codeOf, eval] at h
        cases n with
        | zero => exact h.elim
        | succ n =>
          have hw := hS x nt ro ρ s w τ a R m hI hG hτ hn h
          refine wpIn_scope (wpIn_mono hw ?_)
          rintro e a₁ w₁ ⟨ex, τ₁, s₁, ρ₁, rs, hR, he, hr⟩
          cases ex <;> (subst he; exact ⟨_, τ₁, s₁, ρ₁, rs, hR, rfl, hr⟩)
      | rangeFunc g ps assign body =>
        simp only [codeOf] at h
        cases ro with
        | some l =>
          simp only [Option.isSome_some] at h
          exact h.elim
        | none =>
          simp only [Option.isSome_none] at h
          split at h
          · rename_i ag _ hg
            split at h
            · rename_i hps
              exact range_ok hE hS hI hG hτ hn hg hps h
            · exact h.elim
          · exact h.elim
end
end Go.Eng
end
