/- The law as the statement calls it. -/
import Derived.Test.YtblfcamalggdfaaGreatDoorOd
import Derived.Test.YtblfcamalggdfaaGreatDoorEngD
import Derived.Test.YtblfcamalggdfaaGreatDoorCards
import Derived.Test.YtblfcamalggdfaaGreatDoorTie
import Derived.WalkKit
import Derived.ProofKit
import Derived.OpenShut
import Derived.ReadAgain
import Derived.LaidHandle
import Derived.Lib.SmallJoins
import Derived.ChangeSlices
import Derived.Deep.DeepHandedRow
import Derived.Deep.DeepWitnessRowRef
import Derived.Lib.LaidTab
import Derived.Shelf.Vars
set_option linter.unusedVariables false
set_option maxRecDepth 20000
set_option maxHeartbeats 4000000
namespace Go.Proofs.YtblfcamalggdfaaGreatDoor.runCompares
open Go.ChangeShapes Go.WideShapes Go.ChangeAt Go.RowKit Go.Eng Go.Joins Go.Deep
theorem own : ownKnob Tryz.prog.godebug = none := by kernel_rfl
def GlobRow (W : World) (p : Nm) (cs : List V) : Prop := ∀ g, nm g = p → cs.all scalarV = true ∧ LR (Rho.start W).bare cs (fun k => (Rho.start W).cell g k)
theorem glob4 {W : World} (h : laidMet Tryz.prog (Rows.runComparesRow.laid.filter fun x => x.2.handleName?.isNone) W) : GlobRow W (.i (.o (.h))) g4 := by
  intro g hg
  obtain rfl := nm_of (n := 4) (by kernel_rfl) hg
  exact laid_texts h (n := "demotic/dialect.effects") (strs := [[99, 97, 108, 108, 115], [112, 114, 105, 110, 116, 115], [114, 101, 97, 100, 115], [116, 114, 97, 112, 115], [119, 114, 105, 116, 101, 115]]) (List.mem_of_getElem? (i := 4) rfl) (g := 4) (t := 33) (e := 9) (by kernel_rfl) (by kernel_rfl) (by kernel_rfl) (by kernel_rfl) (by kernel_rfl)
theorem glob6 {W : World} (h : laidMet Tryz.prog (Rows.runComparesRow.laid.filter fun x => x.2.handleName?.isNone) W) : GlobRow W (.i (.i (.h))) g6 := by
  intro g hg
  obtain rfl := nm_of (n := 6) (by kernel_rfl) hg
  exact laid_texts h (n := "demotic/dialect.others") (strs := [[98, 108, 111, 99, 107, 115], [99, 111, 109, 109, 117, 116, 101, 115], [101, 110, 100], [112, 117, 114, 101]]) (List.mem_of_getElem? (i := 5) rfl) (g := 6) (t := 33) (e := 9) (by kernel_rfl) (by kernel_rfl) (by kernel_rfl) (by kernel_rfl) (by kernel_rfl)
theorem glob7 {W : World} (h : laidMet Tryz.prog (Rows.runComparesRow.laid.filter fun x => x.2.handleName?.isNone) W) : GlobRow W (.o (.o (.o (.h)))) g7 := by
  intro g hg
  obtain rfl := nm_of (n := 7) (by kernel_rfl) hg
  exact laid_texts h (n := "demotic/dialect.classes") (strs := [[97, 110, 121], [97, 114, 114], [105, 110, 116], [109, 101, 109], [110, 117, 109]]) (List.mem_of_getElem? (i := 6) rfl) (g := 7) (t := 33) (e := 9) (by kernel_rfl) (by kernel_rfl) (by kernel_rfl) (by kernel_rfl) (by kernel_rfl)
theorem handles : (Rows.runComparesRow.laid.filter fun x => x.2.handleName?.isSome) = [("errors.errorType", Rows.laid_errors_errorType)] := by kernel_rfl
theorem parts {W : World} (h : laidMetH Tryz.prog Rows.runComparesRow.laid W) : laidMet Tryz.prog (Rows.runComparesRow.laid.filter fun x => x.2.handleName?.isNone) W ∧ handlesMet Tryz.prog [("errors.errorType", Rows.laid_errors_errorType)] W := by
  unfold laidMetH at h
  rw [handles] at h
  exact h
theorem et : Tryz.prog.globalNamed "errors.errorType" = some 1 := by kernel_rfl
theorem rt : (Tryz.prog.cutTypes.find? (·.1 == "internal/reflectlite.rtype")).map (·.2) = some 233 := by kernel_rfl
theorem oneRow : ((List.range 552).filter fun t => Tryz.prog.rowNamed t [101, 114, 114, 111, 114]) = [127] := by kernel_rfl
theorem size : Tryz.prog.types.size = 552 := by kernel_rfl
theorem handle_cells {W : World} (h : laidMetH Tryz.prog Rows.runComparesRow.laid W) : W.var? Tryz.prog "errors.errorType" = some #[.iface 233 (.agg #[.pointer (some ⟨13, 127, none⟩)])] := by
  obtain ⟨name, u, ty, e1, e2, e3, e4, e5⟩ := (parts h).2 _ (List.mem_singleton.2 rfl)
  have en : name = [101, 114, 114, 111, 114] := (Option.some.inj e1).symm
  subst en
  obtain rfl := Option.some.inj (rt.symm.trans e2)
  have hm : ty ∈ (List.range 552).filter fun t => Tryz.prog.rowNamed t [101, 114, 114, 111, 114] := List.mem_filter.2 ⟨List.mem_range.2 (by rw [← size]; exact e3), e4⟩
  rw [oneRow] at hm
  obtain rfl := List.mem_singleton.1 hm
  have hh : typeHandle Tryz.prog 127 = .pointer (some ⟨13, 127, none⟩) := by kernel_rfl
  rw [hh] at e5
  exact e5
theorem handle_heap {W : World} (h : laidMetH Tryz.prog Rows.runComparesRow.laid W) : ErrT 1 233 13 127 fun c => W.heap[c]? := by
  have e := handle_cells h
  unfold World.var? at e
  rw [et] at e
  simp only [Option.bind_some] at e
  split at e
  · rename_i cs ty fr hc
    cases e
    exact ⟨ty, fr, hc⟩
  · cases e
theorem start_ok {W : World} (hL : laidMetH Tryz.prog Rows.runComparesRow.laid W) (hsh : W.ShapedOpen Tryz.prog) : GR ctx (Rho.start W) where
  glob := fun g cs h => by
    have hm := (parts hL).1
    have ok : AllT (GlobRow W) gT := ⟨⟨⟨⟨trivial, AllT.some' (glob7 hm), trivial⟩, AllT.none', trivial⟩, AllT.none', trivial⟩, AllT.none', ⟨⟨trivial, AllT.some' (glob4 hm), trivial⟩, AllT.none', ⟨trivial, AllT.some' (glob6 hm), trivial⟩⟩⟩
    exact AllT.get ok h g rfl
  more := by
    refine ⟨?_, handle_heap hL⟩
    have h0 : ((begin Tryz.prog (fun _ _ => 0) default).world.heap[2]?).bind Obj.row? = some (#[.int .i64 0], 3) := by kernel_rfl
    have hg : 2 < Tryz.prog.globals.size := of_decide_eq_true (by kernel_rfl)
    obtain ⟨m, hm⟩ := cell_of_shapedOpen_int (k := .i64) hsh hg h0 rfl (by kernel_rfl) (by kernel_rfl) (by kernel_rfl)
    obtain ⟨cs, hh, hs, -⟩ := hsh.1 2 _ 3 hg h0
    have hs' : cs.size = 1 := hs
    have hcs : cs = #[.int .i64 m] := by
      simp only [World.cell?, hh] at hm
      apply Array.ext
      · simpa using hs'
      · intro i h1 h2
        have : i = 0 := by omega
        subst this
        simpa [Array.getElem?_eq_getElem h1] using hm
    exact ⟨m, _, _, by show W.heap[2]? = _; rw [hh, hcs]⟩
section
variable {H : Type} {enc : TypeId × Value → H} {P : Program} {w : World} {base : Nat} {spare : Nat → Bool} {held : Bool}
theorem array5 {l : Array Value} (h : l.size = 5) : ∃ a b c d e, l = #[a, b, c, d, e] := by
  obtain ⟨l⟩ := l
  match l, h with
  | [a, b, c, d, e], _ => exact ⟨a, b, c, d, e, rfl⟩
theorem open_agg5 {r : Reach} {b0 : Nat} {t : TypeId} {f0 f1 f2 f3 f4 : Field} {v : Value} {d : DataW H} {p : List MemPlace} (hs : P.underlying t = some (.struct #[f0, f1, f2, f3, f4])) (hone : oneCellFields P #[f0, f1, f2, f3, f4] = true) (hC : P.cellsOf t = 5)
    (hv : Value.okWide P w r b0 t v) (h : DataW.Trod enc P w base spare held t v d p) :
    ∃ (v0 v1 v2 v3 v4 : Value) (y0 y1 y2 y3 y4 : DataW H × List MemPlace) (n : Nat), v = .agg #[v0, v1, v2, v3, v4] ∧
      DataW.trod enc P w base spare held n f0.type [v0] = some y0 ∧ DataW.trod enc P w base spare held n f1.type [v1] = some y1 ∧ DataW.trod enc P w base spare held n f2.type [v2] = some y2 ∧ DataW.trod enc P w base spare held n f3.type [v3] = some y3 ∧ DataW.trod enc P w base spare held n f4.type [v4] = some y4 := by
  obtain ⟨cs, rfl, hsz⟩ := okWide_struct hs hv
  obtain ⟨c0, c1, c2, c3, c4, rfl⟩ := array5 (hsz.trans hC)
  obtain ⟨fuel, hf⟩ := h
  obtain ⟨xs, n, _, -, hl, hlen, hf⟩ := DataW.trod_struct hs hf
  obtain ⟨o0, k0⟩ := hone_of hone 0 f0 rfl
  obtain ⟨o1, k1⟩ := hone_of hone 1 f1 rfl
  obtain ⟨o2, k2⟩ := hone_of hone 2 f2 rfl
  obtain ⟨o3, k3⟩ := hone_of hone 3 f3 rfl
  obtain ⟨o4, k4⟩ := hone_of hone 4 f4 rfl
  match xs, hlen with
  | [y0, y1, y2, y3, y4], _ =>
    have h0 := hf 0 f0 rfl
    have h1 := hf 1 f1 rfl
    have h2 := hf 2 f2 rfl
    have h3 := hf 3 f3 rfl
    have h4 := hf 4 f4 rfl
    exact ⟨c0, c1, c2, c3, c4, y0, y1, y2, y3, y4, n, rfl, by simpa [Value.cells, o0, k0] using h0, by simpa [Value.cells, o1, k1] using h1, by simpa [Value.cells, o2, k2] using h2, by simpa [Value.cells, o3, k3] using h3, by simpa [Value.cells, o4, k4] using h4⟩
theorem slice_data {W : World} {t e : TypeId} {n : Nat} {c : Value} {y : DataW H × List MemPlace} (ht : P.underlying t = some (.slice e)) (he : P.underlying e = some (.int .i64)) (hc : P.cellsOf e = 1)
    (h : DataW.trod enc P W 0 (fun _ => true) true n t [c] = some y) : ∃ v xs, VR (Rho.start W) v c ∧ intsOf v = some xs := by
  rcases open_ints ht he hc h with ⟨e1, -⟩ | ⟨a, len, cap, zs, e1, -, hl, hm, hz, -, hcell, -⟩
  · cases e1
    exact ⟨.nils, [], .nils, rfl⟩
  · cases e1
    have hz' : zs.length = cap := by simpa using hz
    have hlen : (zs.take len).length = len := by rw [List.length_take, hz']; exact Nat.min_eq_left hl
    have hmax : maxLen < 9223372036854775808 := by unfold maxLen; decide
    refine ⟨.dsl ((zs.take len).map iv) false, zs.take len, ?_, intsOf_dsl (by omega) false⟩
    have getI : ∀ (i : Nat) x, ((zs.take len).map iv)[i]? = some x → ∃ z, x = .int .i64 z ∧ W.cell? (a.add i) = some (.int .i64 z) := by
      intro i x hx
      rw [List.getElem?_map] at hx
      cases hz0 : (zs.take len)[i]? with
      | none => rw [hz0] at hx; cases hx
      | some z =>
        rw [hz0] at hx
        cases hx
        have hi : i < (zs.take len).length := (List.getElem?_eq_some_iff.1 hz0).1
        have hi' : i < zs.length := by omega
        refine ⟨z, rfl, ?_⟩
        have hg : zs.getD i 0 = z := by
          rw [List.getElem?_take_of_lt (by omega)] at hz0
          rw [List.getD_eq_getElem?_getD, hz0]; rfl
        rw [← hg]
        exact hcell i hi'
    have spot : ∀ v, W.cell? (a.add 0) = some v → a.spot = none := by
      intro v hv
      cases hs : a.spot with
      | none => rfl
      | some s =>
        exfalso
        have e0 : a.add 0 = a := by simp [Addr.add]
        rw [e0] at hv
        unfold World.cell? at hv
        split at hv
        · simp [hs] at hv
        · cases hv
    have cellI : ∀ (i : Nat) x, W.cell? (a.add i) = some x → (Rho.start W).cell a.block (a.off + i) = some x := by
      intro i x hx
      have hb : (a.add i).block = a.block ∧ (a.add i).off = a.off + i := by
        unfold Addr.add
        split
        · rename_i h0; subst h0; exact ⟨rfl, rfl⟩
        · exact ⟨rfl, rfl⟩
      unfold World.cell? at hx
      rw [hb.1, hb.2] at hx
      unfold Rho.cell Rho.start
      simp only
      split at hx
      · rename_i arr ty fr hh
        rw [hh]
        split at hx
        · cases hx
        · exact hx
      · cases hx
    refine .dsl (sz := 1) (by simpa using hlen) hl (fun hh => by cases hh) (fun hne => ?_) (fun i x hx => ?_) (fun i x j v hx hv => ?_) (fun i x j v cv hx hv hcv => ?_)
    · cases hzz : (zs.take len).map iv with
      | nil => exact absurd hzz hne
      | cons x l =>
        obtain ⟨z, -, hz2⟩ := getI 0 x (by rw [hzz]; rfl)
        exact spot _ hz2
    · obtain ⟨z, rfl, -⟩ := getI i x hx
      exact ⟨rfl, rfl⟩
    · obtain ⟨z, rfl, hz2⟩ := getI i x hx
      cases j with
      | zero => exact ⟨_, by simpa using cellI i _ hz2⟩
      | succ j => simp [V.cells] at hv
    · obtain ⟨z, rfl, hz2⟩ := getI i x hx
      cases j with
      | zero =>
        simp only [V.cells, List.getElem?_cons_zero, Option.some.injEq] at hv
        subst hv
        have := cellI i _ hz2
        rw [show a.off + i * 1 + 0 = a.off + i by omega, this] at hcv
        cases hcv
        exact .int _ _
      | succ j => simp [V.cells] at hv
theorem trodAll_carry {W W' : World} : ∀ {ts : List TypeId} {vs : List Value} {ds : List (DataW H)} {ps : List MemPlace}, DataW.TrodAll enc P W base spare held ts vs ds ps → (∀ p ∈ ps, W.sameAt W' p) → DataW.TrodAll enc P W' base spare held ts vs ds ps
  | [], [], [], _, h, _ => h
  | _ :: _, _ :: _, _ :: _, _, ⟨p, q, ⟨n, h1⟩, h2, e⟩, hs => ⟨p, q, ⟨n, DataW.trod_carry n _ _ _ h1 fun x hx => hs x (by rw [e]; exact List.mem_append_left _ hx)⟩, trodAll_carry h2 (fun x hx => hs x (by rw [e]; exact List.mem_append_right _ hx)), e⟩
end
theorem outcome_data {H : Type} {enc : TypeId × Value → H} {W : World} {base : Nat} {v : Value} {d : DataW H} {p : List MemPlace} (hv : Value.okWide Tryz.prog W .any base 24 v) (h : DataW.Trod enc Tryz.prog W 0 (fun _ => true) true 24 v d p) :
    ∃ e t s a b r q, VR (Rho.start W) (ocV e t s a b) v ∧ intsOf a = some r ∧ intsOf b = some q := by
  obtain ⟨c0, c1, c2, c3, c4, y0, y1, y2, y3, y4, n, rfl, h0, h1, h2, h3, h4⟩ := open_agg5 Tryz.underlying24 (by kernel_rfl) (by kernel_rfl) hv h
  obtain ⟨x0, e0, -, -⟩ := DataW.trod_int Tryz.underlying3 h0
  obtain ⟨x2, e2, -, -⟩ := DataW.trod_int Tryz.underlying2 h2
  obtain ⟨x4, e4, -, -⟩ := DataW.trod_int Tryz.underlying3 h4
  obtain ⟨a, r, ha, hr⟩ := slice_data Tryz.underlying22 Tryz.underlying2 (by kernel_rfl) h1
  obtain ⟨b, q, hb, hq⟩ := slice_data Tryz.underlying22 Tryz.underlying2 (by kernel_rfl) h3
  cases e0; cases e2; cases e4
  refine ⟨x0, x2, x4, a, b, r, q, .agg ?_ rfl ?_, hr, hq⟩
  · simp only [List.all_cons, List.all_nil, scalar_int, intsOf_scalar hr, intsOf_scalar hq, Bool.and_self]
  · intro i x cx hx hcx
    match i with
    | 0 => cases hx; cases hcx; exact .int _ _
    | 1 => cases hx; cases hcx; exact ha
    | 2 => cases hx; cases hcx; exact .int _ _
    | 3 => cases hx; cases hcx; exact hb
    | 4 => cases hx; cases hcx; exact .int _ _
    | i + 5 => simp at hx
theorem walk {v1 v2 : V} {c1 c2 : Value} {W : World} (hL : laidMetH Tryz.prog Rows.runComparesRow.laid W) (hsh : W.ShapedOpen Tryz.prog) (h1 : VR (Rho.start W) v1 c1) (h2 : VR (Rho.start W) v2 c2) (hrun : (callB kE3 (eval kE3 40) (nm 3) [v1, v2] St.start).Is fun r => r.1 = .bool true) :
    Calls Tryz.prog 3 #[c1, c2] W fun e w' => e = .returned (.bool true) ∧ w'.os = W.os ∧ w'.tape = W.tape ∧ w'.output = W.output ∧ W.heap.size ≤ w'.heap.size ∧ ∀ c, c < W.heap.size → w'.heap[c]? = W.heap[c]? := by
  have hA : AR (Rho.start W) [v1, v2] #[c1, c2] := ⟨rfl, fun i v cv hv hc => by
    match i with
    | 0 => cases hv; cases hc; exact h1
    | 1 => cases hv; cases hc; exact h2
    | i + 2 => simp at hv⟩
  refine Calls.mono (callB_ok (C := ctx) env_ok3 (eval_sound env_ok3 40) (inv_start ctx W) (start_ok hL hsh) hA (T.Is_all hrun)).2 ?_
  intro e w' he
  cases e with
  | returned v =>
    obtain ⟨ρ', x, s', hq, hv, hx⟩ := he
    refine ⟨?_, hx.os, hx.tape, hx.output, hx.size, fun c hc => hx.frame c hc ?_⟩
    · cases hq
      cases hv
      rfl
    · rintro ⟨b, l, hb, hl, -⟩
      cases hl
  | panicked c => exact he.elim
  | outgrown => exact he.elim
theorem kids : Kids Tryz.prog (· < Tryz.prog.types.size) := kids_rows (by kernel_rfl) (by kernel_rfl)
theorem full : ∀ t e, t < Tryz.prog.types.size → Tryz.prog.underlying t = some (.slice e) → 0 < Tryz.prog.cellsOf e := slices_full_of Tryz.prog (by kernel_rfl)
theorem contract (H : Type) (enc : TypeId × Value → H) (W : World) (base : Nat) (args : Array Value) (ds gs : List (DataW H)) (before : List MemPlace)
    (hval : ∀ (j : Nat) t v, Tryz.f3.params[j]? = some t → args[j]? = some v → Value.okWide Tryz.prog W .any base t v)
    (hW : DataW.Whole enc Tryz.prog Tryz.f3.params.toList Rows.runComparesSpec.vars false W args.toList ds gs before) (hL : laidMetH Tryz.prog Rows.runComparesRow.laid W) (hsh : W.ShapedOpen Tryz.prog) :
    Calls Tryz.prog 3 args W fun e W' => ∃ v, e = .returned v ∧ Rows.runComparesSpec.post enc Tryz.prog Tryz.f3 false true false false W args v W' := by
  have hW' := hW
  obtain ⟨p, q, hA0, hV, rfl, hfz, hnd⟩ := hW
  have hA : DataW.TrodAll enc Tryz.prog W 0 (fun _ => true) true Tryz.f3.params.toList args.toList ds p := hA0
  have hAk := hA
  have hlt : ∀ x ∈ p, x.block < W.heap.size := DataW.TrodAll.lt hA
  rw [Tryz.params3] at hA hval
  obtain ⟨v1, vs1, d1, ds1, p1, q1, hargs, rfl, rfl, h1, r1⟩ := trodAll_cons hA
  obtain ⟨v2, vs2, d2, ds2, p2, q2, hargs2, rfl, rfl, h2, r2⟩ := trodAll_cons r1
  obtain ⟨rfl, rfl, rfl⟩ := trodAll_nil r2
  obtain rfl : args = #[v1, v2] := by cases args; simp_all
  obtain ⟨rfl, rfl⟩ := trodVars_none hV
  obtain ⟨e1, t1, s1, a, b, ra, pa, hv1, ia, ib⟩ := outcome_data (hval 0 24 v1 rfl rfl) h1
  obtain ⟨e2, t2, s2, a', b', ra', pa', hv2, ia', ib'⟩ := outcome_data (hval 1 24 v2 rfl rfl) h2
  clear hA0
  simp only [List.append_nil] at hW'
  refine (walk hL hsh hv1 hv2 (law_is ia ib ia' ib')).mono fun e W' ⟨he, k1, k2, k3, k4, k5⟩ => ?_
  subst he
  have hsame : ∀ x ∈ p1 ++ (p2 ++ []), W.sameAt W' x := fun x hx => by
    have hb := hlt x hx
    cases x with
    | cell c off => simp only [World.sameAt, World.cell?]; rw [k5 c hb]
    | map c => exact k5 c hb
  have hargs' : DataW.TrodAll enc Tryz.prog W' 0 (fun b => decide (b < W.heap.size)) true Tryz.f3.params.toList #[v1, v2].toList [d1, d2] (p1 ++ (p2 ++ [])) :=
    trodAll_carry (DataW.TrodAll.respare kids full (by rw [Tryz.params3]; decide +kernel) hAk (fun x hx => by simpa using hlt x hx)) hsame
  refine ⟨_, rfl, _, _, _, _, _, _, hW', trodAll_cons_mk (shut_bool Tryz.underlying4 _) trodAll_mk0, hargs', rfl, ⟨k1, k3, fun i hi => ?_⟩, fun h => (nomatch h)⟩
  rw [k5 i hi]
  cases W.heap[i]? with
  | none => rfl
  | some o => cases o <;> first | rfl | exact ⟨rfl, rfl, rfl, fun _ _ => rfl⟩ | exact .inr ⟨rfl, rfl⟩
end Go.Proofs.YtblfcamalggdfaaGreatDoor.runCompares
