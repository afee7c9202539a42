/- The law as the statement calls it: the runs of the 40 cases. -/
import Derived.Test.YtfblhonbphjiaaaGreatDoorOe
import Derived.Test.YtfblhonbphjiaaaGreatDoorEngD
import Derived.Test.YtfblhonbphjiaaaGreatDoorLa
import Derived.Test.YtfblhonbphjiaaaGreatDoorLb
import Derived.Test.YtfblhonbphjiaaaGreatDoorLc
import Derived.Test.YtfblhonbphjiaaaGreatDoorLd
import Derived.Test.YtfblhonbphjiaaaGreatDoorLe
import Derived.Test.YtfblhonbphjiaaaGreatDoorLf
import Derived.Test.YtfblhonbphjiaaaGreatDoorLg
import Derived.Test.YtfblhonbphjiaaaGreatDoorLh
import Derived.Test.YtfblhonbphjiaaaGreatDoorCards
import Derived.Test.YtfblhonbphjiaaaGreatDoorTie
import Derived.WalkKit
import Derived.ProofKit
import Derived.OpenShut
import Derived.ReadAgain
import Derived.LaidHandle
import Derived.Lib.SmallJoins
import Derived.ChangeSlices
import Derived.Deep.DeepHandedRow
import Derived.Deep.DeepWitnessRowRef
import Derived.Lib.LaidTab
import Derived.Shelf.Vars
set_option linter.unusedVariables false
set_option maxRecDepth 20000
set_option maxHeartbeats 4000000
namespace Go.Proofs.YtfblhonbphjiaaaGreatDoor.patternLarge
open Go.ChangeShapes Go.WideShapes Go.ChangeAt Go.RowKit Go.Eng Go.Joins Go.Deep
theorem own : ownKnob Tryz.prog.godebug = none := by kernel_rfl
def GlobRow (W : World) (p : Nm) (cs : List V) : Prop := ∀ g, nm g = p → cs.all scalarV = true ∧ LR (Rho.start W).bare cs (fun k => (Rho.start W).cell g k)
theorem glob0 {W : World} (h : laidMet Tryz.prog (Rows.patternLargeRow.laid.filter fun x => x.2.handleName?.isNone) W) : GlobRow W (.h) g0 := by
  intro g hg
  obtain rfl := nm_of (n := 0) (by kernel_rfl) hg
  exact laid_texts h (n := "demotic/dialect.effects") (strs := [[99, 97, 108, 108, 115], [112, 114, 105, 110, 116, 115], [114, 101, 97, 100, 115], [116, 114, 97, 112, 115], [119, 114, 105, 116, 101, 115]]) (List.mem_of_getElem? (i := 6) rfl) (g := 0) (t := 25) (e := 9) (by kernel_rfl) (by kernel_rfl) (by kernel_rfl) (by kernel_rfl) (by kernel_rfl)
theorem glob1 {W : World} (h : laidMet Tryz.prog (Rows.patternLargeRow.laid.filter fun x => x.2.handleName?.isNone) W) : GlobRow W (.o .h) g1 := by
  intro g hg
  obtain rfl := nm_of (n := 1) (by kernel_rfl) hg
  exact laid_texts h (n := "demotic/dialect.others") (strs := [[98, 108, 111, 99, 107, 115], [99, 111, 109, 109, 117, 116, 101, 115], [101, 110, 100], [112, 117, 114, 101]]) (List.mem_of_getElem? (i := 7) rfl) (g := 1) (t := 25) (e := 9) (by kernel_rfl) (by kernel_rfl) (by kernel_rfl) (by kernel_rfl) (by kernel_rfl)
theorem glob2 {W : World} (h : laidMet Tryz.prog (Rows.patternLargeRow.laid.filter fun x => x.2.handleName?.isNone) W) : GlobRow W (.i .h) g2 := by
  intro g hg
  obtain rfl := nm_of (n := 2) (by kernel_rfl) hg
  exact laid_texts h (n := "demotic/dialect.classes") (strs := [[97, 110, 121], [97, 114, 114], [105, 110, 116], [109, 101, 109], [110, 117, 109]]) (List.mem_of_getElem? (i := 8) rfl) (g := 2) (t := 25) (e := 9) (by kernel_rfl) (by kernel_rfl) (by kernel_rfl) (by kernel_rfl) (by kernel_rfl)
theorem handles : (Rows.patternLargeRow.laid.filter fun x => x.2.handleName?.isSome) = [("errors.errorType", Rows.laid_errors_errorType)] := by kernel_rfl
theorem parts {W : World} (h : laidMetH Tryz.prog Rows.patternLargeRow.laid W) : laidMet Tryz.prog (Rows.patternLargeRow.laid.filter fun x => x.2.handleName?.isNone) W := by
  unfold laidMetH at h
  rw [handles] at h
  exact h.1
theorem start_ok {W : World} (hL : laidMetH Tryz.prog Rows.patternLargeRow.laid W) (hsh : W.ShapedOpen Tryz.prog) : GR ctx (Rho.start W) where
  glob := fun g cs h => by
    have hm := parts hL
    have ok : AllT (GlobRow W) gT := ⟨⟨trivial, AllT.some' (glob1 hm), trivial⟩, AllT.some' (glob0 hm), ⟨trivial, AllT.some' (glob2 hm), trivial⟩⟩
    exact AllT.get ok h g rfl
  more := by
    have h0 : ((begin Tryz.prog (fun _ _ => 0) default).world.heap[4]?).bind Obj.row? = some (#[.int .i64 0], 3) := by kernel_rfl
    have hg : 4 < Tryz.prog.globals.size := of_decide_eq_true (by kernel_rfl)
    obtain ⟨m, hm⟩ := cell_of_shapedOpen_int (k := .i64) hsh hg h0 rfl (by kernel_rfl) (by kernel_rfl) (by kernel_rfl)
    obtain ⟨cs, hh, hs, -⟩ := hsh.1 4 _ 3 hg h0
    have hs' : cs.size = 1 := hs
    have hcs : cs = #[.int .i64 m] := by
      simp only [World.cell?, hh] at hm
      apply Array.ext
      · simpa using hs'
      · intro i h1 h2
        have : i = 0 := by omega
        subst this
        simpa [Array.getElem?_eq_getElem h1] using hm
    exact ⟨m, _, _, by show W.heap[4]? = _; rw [hh, hcs]⟩
theorem rem_cases (n : Int) (h : (Lit.int .i64 n).wf = true) : ∃ r : Nat, r < 40 ∧ Int.tmod (IntKind.wrap .u64 n) 40 = (r : Int) := by
  have h0 : 0 ≤ IntKind.wrap .u64 n := by
    unfold IntKind.wrap
    simp only [IntKind.signed, Bool.false_and, Bool.false_eq_true, if_false]
    exact Int.emod_nonneg _ (by decide)
  refine ⟨(Int.tmod (IntKind.wrap .u64 n) 40).toNat, ?_, ?_⟩
  · rw [Int.tmod_eq_emod_of_nonneg h0]; omega
  · rw [Int.tmod_eq_emod_of_nonneg h0]; omega
theorem ran (n : Int) : ∀ r : Nat, r < 40 → allB 3 (fun r => match r.1 with | .bool b => b | _ => false) (top (.int .u64 (r : Int)) (kcall kE3 ktab 10000 2999) 10000 [.int .i64 n] St.start fun v s => .ret (v, s)) = true
  | 0, _ => ran0 n
  | 1, _ => ran1 n
  | 2, _ => ran2 n
  | 3, _ => ran3 n
  | 4, _ => ran4 n
  | 5, _ => ran5 n
  | 6, _ => ran6 n
  | 7, _ => ran7 n
  | 8, _ => ran8 n
  | 9, _ => ran9 n
  | 10, _ => ran10 n
  | 11, _ => ran11 n
  | 12, _ => ran12 n
  | 13, _ => ran13 n
  | 14, _ => ran14 n
  | 15, _ => ran15 n
  | 16, _ => ran16 n
  | 17, _ => ran17 n
  | 18, _ => ran18 n
  | 19, _ => ran19 n
  | 20, _ => ran20 n
  | 21, _ => ran21 n
  | 22, _ => ran22 n
  | 23, _ => ran23 n
  | 24, _ => ran24 n
  | 25, _ => ran25 n
  | 26, _ => ran26 n
  | 27, _ => ran27 n
  | 28, _ => ran28 n
  | 29, _ => ran29 n
  | 30, _ => ran30 n
  | 31, _ => ran31 n
  | 32, _ => ran32 n
  | 33, _ => ran33 n
  | 34, _ => ran34 n
  | 35, _ => ran35 n
  | 36, _ => ran36 n
  | 37, _ => ran37 n
  | 38, _ => ran38 n
  | 39, _ => ran39 n
  | r + 40, h => absurd h (by omega)
theorem top_split (n : Int) : (kcall kE3 ktab 10000 3000).f t4 [.int .i64 n] St.start (fun v s => .ret (v, s)) = top (.int .u64 (Int.tmod (IntKind.wrap .u64 n) 40)) (kcall kE3 ktab 10000 2999) 10000 [.int .i64 n] St.start fun v s => .ret (v, s) := by kernel_rfl
theorem runs (n : Int) (h : (Lit.int .i64 n).wf = true) : allB kE3.branch (fun r => match r.1 with | .bool b => b | _ => false) ((kcall kE3 ktab 10000 3000).f (nm 3) [.int .i64 n] St.start fun v s => .ret (v, s)) = true := by
  obtain ⟨r, hr, e⟩ := rem_cases n h
  have e3 : nm 3 = t4 := by decide
  rw [e3, top_split n, e]
  exact ran n r hr
theorem walk (n : Int) (h : (Lit.int .i64 n).wf = true) {W : World} (hL : laidMetH Tryz.prog Rows.patternLargeRow.laid W) (hsh : W.ShapedOpen Tryz.prog) :
    Calls Tryz.prog 3 #[.int .i64 n] W fun e w' => e = .returned (.bool true) ∧ w'.os = W.os ∧ w'.tape = W.tape ∧ w'.output = W.output ∧ W.heap.size ≤ w'.heap.size ∧ ∀ c, c < W.heap.size → w'.heap[c]? = W.heap[c]? :=
  run_true (C := ctx) (g := 3) (m := 10000) (n := 3000) env_ok3 tab_ok3 (start_ok hL hsh) (AR.one (.int .i64 n)) (by kernel_rfl) (runs n h)
set_option maxRecDepth 100000 in
theorem contract (H : Type) (enc : TypeId × Value → H) (W : World) (base : Nat) (args : Array Value) (ds gs : List (DataW H)) (before : List MemPlace)
    (hval : ∀ (j : Nat) t v, Tryz.f3.params[j]? = some t → args[j]? = some v → Value.okWide Tryz.prog W .any base t v)
    (hW : DataW.Whole enc Tryz.prog Tryz.f3.params.toList Rows.patternLargeSpec.vars false W args.toList ds gs before) (hL : laidMetH Tryz.prog Rows.patternLargeRow.laid W) (hsh : W.ShapedOpen Tryz.prog) :
    Calls Tryz.prog 3 args W fun e W' => ∃ v, e = .returned v ∧ Rows.patternLargeSpec.post enc Tryz.prog Tryz.f3 false true false false W args v W' := by
  have hW' := hW
  obtain ⟨p, q, hA0, hV, rfl, hfz, hnd⟩ := hW
  have hA : DataW.TrodAll enc Tryz.prog W 0 (fun _ => true) true Tryz.f3.params.toList args.toList ds p := hA0
  rw [Tryz.params3] at hA hval
  obtain ⟨v0, vs0, d0, ds0, p0, q0, hargs, rfl, rfl, h0, r0⟩ := trodAll_cons hA
  obtain ⟨rfl, rfl, rfl⟩ := trodAll_nil r0
  obtain rfl : args = #[v0] := by cases args; simp_all
  obtain ⟨rfl, rfl⟩ := trodVars_none hV
  obtain ⟨n, rfl, rfl, rfl, hn⟩ := open_int Tryz.underlying3 (hval 0 3 v0 rfl rfl) h0
  clear hA0
  simp only [List.append_nil] at hW'
  refine (walk n hn hL hsh).mono fun e W' ⟨he, h1, h2, h3, h4, h5⟩ => ?_
  subst he
  refine ⟨_, rfl, _, _, _, _, _, _, hW', trodAll_cons_mk (shut_bool Tryz.underlying4 _) trodAll_mk0, trodAll_cons_mk (shut_int Tryz.underlying3 hn) trodAll_mk0, rfl, ⟨h1, h3, fun i hi => ?_⟩, fun h => (nomatch h)⟩
  rw [h5 i hi]
  cases W.heap[i]? with
  | none => rfl
  | some o => cases o <;> first | rfl | exact ⟨rfl, rfl, rfl, fun _ _ => rfl⟩ | exact .inr ⟨rfl, rfl⟩
end Go.Proofs.YtfblhonbphjiaaaGreatDoor.patternLarge
