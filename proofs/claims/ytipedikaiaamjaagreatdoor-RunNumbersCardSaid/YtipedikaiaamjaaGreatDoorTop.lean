/- The law as the statement calls it. -/
import Derived.Test.YtipedikaiaamjaaGreatDoorOk
import Derived.Test.YtipedikaiaamjaaGreatDoorEngD
import Derived.Test.YtipedikaiaamjaaGreatDoorCards
import Derived.Test.YtipedikaiaamjaaGreatDoorTie
import Derived.WalkKit
import Derived.ProofKit
import Derived.OpenShut
import Derived.ReadAgain
import Derived.LaidHandle
import Derived.Lib.SmallJoins
import Derived.ChangeSlices
import Derived.Deep.DeepHandedRow
import Derived.Deep.DeepWitnessRowRef
import Derived.Lib.LaidTab
import Derived.Shelf.Vars
set_option linter.unusedVariables false
set_option maxRecDepth 20000
set_option maxHeartbeats 4000000
namespace Go.Proofs.YtipedikaiaamjaaGreatDoor.runNumbers
open Go.ChangeShapes Go.WideShapes Go.ChangeAt Go.RowKit Go.Eng Go.Joins Go.Deep
theorem own : ownKnob Tryz.prog.godebug = none := by kernel_rfl
def GlobRow (W : World) (p : Nm) (cs : List V) : Prop := ∀ g, nm g = p → cs.all scalarV = true ∧ LR (Rho.start W).bare cs (fun k => (Rho.start W).cell g k)
theorem glob4 {W : World} (h : laidMet Tryz.prog (Rows.runNumbersRow.laid.filter fun x => x.2.handleName?.isNone) W) : GlobRow W (.i (.o (.h))) g4 := by
  intro g hg
  obtain rfl := nm_of (n := 4) (by kernel_rfl) hg
  exact laid_texts h (n := "demotic/dialect.effects") (strs := [[99, 97, 108, 108, 115], [112, 114, 105, 110, 116, 115], [114, 101, 97, 100, 115], [116, 114, 97, 112, 115], [119, 114, 105, 116, 101, 115]]) (List.mem_of_getElem? (i := 4) rfl) (g := 4) (t := 25) (e := 9) (by kernel_rfl) (by kernel_rfl) (by kernel_rfl) (by kernel_rfl) (by kernel_rfl)
theorem glob6 {W : World} (h : laidMet Tryz.prog (Rows.runNumbersRow.laid.filter fun x => x.2.handleName?.isNone) W) : GlobRow W (.i (.i (.h))) g6 := by
  intro g hg
  obtain rfl := nm_of (n := 6) (by kernel_rfl) hg
  exact laid_texts h (n := "demotic/dialect.others") (strs := [[98, 108, 111, 99, 107, 115], [99, 111, 109, 109, 117, 116, 101, 115], [101, 110, 100], [112, 117, 114, 101]]) (List.mem_of_getElem? (i := 5) rfl) (g := 6) (t := 25) (e := 9) (by kernel_rfl) (by kernel_rfl) (by kernel_rfl) (by kernel_rfl) (by kernel_rfl)
theorem glob7 {W : World} (h : laidMet Tryz.prog (Rows.runNumbersRow.laid.filter fun x => x.2.handleName?.isNone) W) : GlobRow W (.o (.o (.o (.h)))) g7 := by
  intro g hg
  obtain rfl := nm_of (n := 7) (by kernel_rfl) hg
  exact laid_texts h (n := "demotic/dialect.classes") (strs := [[97, 110, 121], [97, 114, 114], [105, 110, 116], [109, 101, 109], [110, 117, 109]]) (List.mem_of_getElem? (i := 6) rfl) (g := 7) (t := 25) (e := 9) (by kernel_rfl) (by kernel_rfl) (by kernel_rfl) (by kernel_rfl) (by kernel_rfl)
theorem handles : (Rows.runNumbersRow.laid.filter fun x => x.2.handleName?.isSome) = [("errors.errorType", Rows.laid_errors_errorType)] := by kernel_rfl
theorem parts {W : World} (h : laidMetH Tryz.prog Rows.runNumbersRow.laid W) : laidMet Tryz.prog (Rows.runNumbersRow.laid.filter fun x => x.2.handleName?.isNone) W ∧ handlesMet Tryz.prog [("errors.errorType", Rows.laid_errors_errorType)] W := by
  unfold laidMetH at h
  rw [handles] at h
  exact h
theorem et : Tryz.prog.globalNamed "errors.errorType" = some 1 := by kernel_rfl
theorem rt : (Tryz.prog.cutTypes.find? (·.1 == "internal/reflectlite.rtype")).map (·.2) = some 237 := by kernel_rfl
theorem oneRow : ((List.range 552).filter fun t => Tryz.prog.rowNamed t [101, 114, 114, 111, 114]) = [135] := by kernel_rfl
theorem size : Tryz.prog.types.size = 552 := by kernel_rfl
theorem handle_cells {W : World} (h : laidMetH Tryz.prog Rows.runNumbersRow.laid W) : W.var? Tryz.prog "errors.errorType" = some #[.iface 237 (.agg #[.pointer (some ⟨13, 135, none⟩)])] := by
  obtain ⟨name, u, ty, e1, e2, e3, e4, e5⟩ := (parts h).2 _ (List.mem_singleton.2 rfl)
  have en : name = [101, 114, 114, 111, 114] := (Option.some.inj e1).symm
  subst en
  obtain rfl := Option.some.inj (rt.symm.trans e2)
  have hm : ty ∈ (List.range 552).filter fun t => Tryz.prog.rowNamed t [101, 114, 114, 111, 114] := List.mem_filter.2 ⟨List.mem_range.2 (by rw [← size]; exact e3), e4⟩
  rw [oneRow] at hm
  obtain rfl := List.mem_singleton.1 hm
  have hh : typeHandle Tryz.prog 135 = .pointer (some ⟨13, 135, none⟩) := by kernel_rfl
  rw [hh] at e5
  exact e5
theorem handle_heap {W : World} (h : laidMetH Tryz.prog Rows.runNumbersRow.laid W) : ErrT 1 237 13 135 fun c => W.heap[c]? := by
  have e := handle_cells h
  unfold World.var? at e
  rw [et] at e
  simp only [Option.bind_some] at e
  split at e
  · rename_i cs ty fr hc
    cases e
    exact ⟨ty, fr, hc⟩
  · cases e
theorem start_ok {W : World} (hL : laidMetH Tryz.prog Rows.runNumbersRow.laid W) (hsh : W.ShapedOpen Tryz.prog) : GR ctx (Rho.start W) where
  glob := fun g cs h => by
    have hm := (parts hL).1
    have ok : AllT (GlobRow W) gT := ⟨⟨⟨⟨trivial, AllT.some' (glob7 hm), trivial⟩, AllT.none', trivial⟩, AllT.none', trivial⟩, AllT.none', ⟨⟨trivial, AllT.some' (glob4 hm), trivial⟩, AllT.none', ⟨trivial, AllT.some' (glob6 hm), trivial⟩⟩⟩
    exact AllT.get ok h g rfl
  more := by
    refine ⟨?_, handle_heap hL⟩
    have h0 : ((begin Tryz.prog (fun _ _ => 0) default).world.heap[2]?).bind Obj.row? = some (#[.int .i64 0], 3) := by kernel_rfl
    have hg : 2 < Tryz.prog.globals.size := of_decide_eq_true (by kernel_rfl)
    obtain ⟨m, hm⟩ := cell_of_shapedOpen_int (k := .i64) hsh hg h0 rfl (by kernel_rfl) (by kernel_rfl) (by kernel_rfl)
    obtain ⟨cs, hh, hs, -⟩ := hsh.1 2 _ 3 hg h0
    have hs' : cs.size = 1 := hs
    have hcs : cs = #[.int .i64 m] := by
      simp only [World.cell?, hh] at hm
      apply Array.ext
      · simpa using hs'
      · intro i h1 h2
        have : i = 0 := by omega
        subst this
        simpa [Array.getElem?_eq_getElem h1] using hm
    exact ⟨m, _, _, by show W.heap[2]? = _; rw [hh, hcs]⟩
theorem walk (a b c : Int) {W : World} (hL : laidMetH Tryz.prog Rows.runNumbersRow.laid W) (hsh : W.ShapedOpen Tryz.prog) :
    Calls Tryz.prog 3 #[.int .i64 a, .int .i64 b, .int .i64 c] W fun e w' => e = .returned (.bool true) ∧ w'.os = W.os ∧ w'.tape = W.tape ∧ w'.output = W.output ∧ W.heap.size ≤ w'.heap.size ∧ ∀ c, c < W.heap.size → w'.heap[c]? = W.heap[c]? := by
  have hA : AR (Rho.start W) [.int .i64 a, .int .i64 b, .int .i64 c] #[.int .i64 a, .int .i64 b, .int .i64 c] := ⟨rfl, fun i v cv hv hc => by
    match i with
    | 0 => cases hv; cases hc; exact .int _ _
    | 1 => cases hv; cases hc; exact .int _ _
    | 2 => cases hv; cases hc; exact .int _ _
    | i + 3 => simp at hv⟩
  refine Calls.mono (callB_ok (C := ctx) env_ok7 (eval_sound env_ok7 60) (inv_start ctx W) (start_ok hL hsh) hA (T.Is_all (law_is a b c))).2 ?_
  intro e w' he
  cases e with
  | returned v =>
    obtain ⟨ρ', x, s', hq, hv, hx⟩ := he
    refine ⟨?_, hx.os, hx.tape, hx.output, hx.size, fun c hc => hx.frame c hc ?_⟩
    · cases hq
      cases hv
      rfl
    · rintro ⟨b, l, hb, hl, -⟩
      cases hl
  | panicked c => exact he.elim
  | outgrown => exact he.elim
set_option maxRecDepth 100000 in
theorem contract (H : Type) (enc : TypeId × Value → H) (W : World) (base : Nat) (args : Array Value) (ds gs : List (DataW H)) (before : List MemPlace)
    (hval : ∀ (j : Nat) t v, Tryz.f3.params[j]? = some t → args[j]? = some v → Value.okWide Tryz.prog W .any base t v)
    (hW : DataW.Whole enc Tryz.prog Tryz.f3.params.toList Rows.runNumbersSpec.vars false W args.toList ds gs before) (hL : laidMetH Tryz.prog Rows.runNumbersRow.laid W) (hsh : W.ShapedOpen Tryz.prog) :
    Calls Tryz.prog 3 args W fun e W' => ∃ v, e = .returned v ∧ Rows.runNumbersSpec.post enc Tryz.prog Tryz.f3 false true false false W args v W' := by
  have hW' := hW
  obtain ⟨p, q, hA0, hV, rfl, hfz, hnd⟩ := hW
  have hA : DataW.TrodAll enc Tryz.prog W 0 (fun _ => true) true Tryz.f3.params.toList args.toList ds p := hA0
  rw [Tryz.params3] at hA hval
  obtain ⟨v0, vs0, d0, ds0, p0, q0, hargs, rfl, rfl, h0, r0⟩ := trodAll_cons hA
  obtain ⟨v1, vs1, d1, ds1, p1, q1, hargs1, rfl, rfl, h1, r1⟩ := trodAll_cons r0
  obtain ⟨v2, vs2, d2, ds2, p2, q2, hargs2, rfl, rfl, h2, r2⟩ := trodAll_cons r1
  obtain ⟨rfl, rfl, rfl⟩ := trodAll_nil r2
  obtain rfl : args = #[v0, v1, v2] := by cases args; simp_all
  obtain ⟨rfl, rfl⟩ := trodVars_none hV
  obtain ⟨a, rfl, rfl, rfl, ha⟩ := open_int Tryz.underlying3 (hval 0 3 v0 rfl rfl) h0
  obtain ⟨b, rfl, rfl, rfl, hb⟩ := open_int Tryz.underlying2 (hval 1 2 v1 rfl rfl) h1
  obtain ⟨c, rfl, rfl, rfl, hc⟩ := open_int Tryz.underlying2 (hval 2 2 v2 rfl rfl) h2
  clear hA0
  simp only [List.append_nil] at hW'
  refine (walk a b c hL hsh).mono fun e W' ⟨he, k1, k2, k3, k4, k5⟩ => ?_
  subst he
  refine ⟨_, rfl, _, _, _, _, _, _, hW', trodAll_cons_mk (shut_bool Tryz.underlying4 _) trodAll_mk0, trodAll_cons_mk (shut_int Tryz.underlying3 ha) (trodAll_cons_mk (shut_int Tryz.underlying2 hb) (trodAll_cons_mk (shut_int Tryz.underlying2 hc) trodAll_mk0)), rfl, ⟨k1, k3, fun i hi => ?_⟩, fun h => (nomatch h)⟩
  rw [k5 i hi]
  cases W.heap[i]? with
  | none => rfl
  | some o => cases o <;> first | rfl | exact ⟨rfl, rfl, rfl, fun _ _ => rfl⟩ | exact .inr ⟨rfl, rfl⟩
end Go.Proofs.YtipedikaiaamjaaGreatDoor.runNumbers
