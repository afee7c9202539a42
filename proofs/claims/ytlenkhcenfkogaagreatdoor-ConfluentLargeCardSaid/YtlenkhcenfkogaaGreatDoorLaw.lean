/- The law ConfluentLarge returns true for every input, with no condition, and leaves its argument as it was. -/
import Derived.Test.YtlenkhcenfkogaaGreatDoorOd
import Derived.Test.YtlenkhcenfkogaaGreatDoorEngD
import Derived.Test.YtlenkhcenfkogaaGreatDoorRa
import Derived.Test.YtlenkhcenfkogaaGreatDoorRb
import Derived.Test.YtlenkhcenfkogaaGreatDoorRc
import Derived.Test.YtlenkhcenfkogaaGreatDoorRd
import Derived.Test.YtlenkhcenfkogaaGreatDoorRe
import Derived.Test.YtlenkhcenfkogaaGreatDoorRf
import Derived.Test.YtlenkhcenfkogaaGreatDoorCards
import Derived.Test.YtlenkhcenfkogaaGreatDoorTie
import Derived.WalkKit
import Derived.ProofKit
import Derived.OpenShut
import Derived.Deep.DeepHandedRow
import Derived.Deep.DeepWitnessRowRef
import Derived.Lib.LaidTab
import Derived.Shelf.Vars
set_option linter.unusedVariables false
namespace Go.Proofs.YtlenkhcenfkogaaGreatDoor.confluentLarge
open Go.ChangeShapes Go.WideShapes Go.ChangeAt Go.RowKit Go.Eng
theorem own : ownKnob Tryz.prog.godebug = none := by kernel_rfl
def GlobRow (W : World) (p : Nm) (cs : List V) : Prop := ∀ g, nm g = p → cs.all scalarV = true ∧ LR (Rho.start W).bare cs (fun k => (Rho.start W).cell g k)
theorem glob0 {W : World} (h : laidMet Tryz.prog Rows.confluentLargeRow.laid W) : GlobRow W (.h) g0 := by
  intro g hg
  obtain rfl := nm_of (n := 0) (by kernel_rfl) hg
  exact laid_texts h (n := "demotic/dialect.effects") (strs := [[99, 97, 108, 108, 115], [112, 114, 105, 110, 116, 115], [114, 101, 97, 100, 115], [116, 114, 97, 112, 115], [119, 114, 105, 116, 101, 115]]) (List.mem_of_getElem? (i := 6) rfl) (g := 0) (t := 40) (e := 9) (by kernel_rfl) (by kernel_rfl) (by kernel_rfl) (by kernel_rfl) (by kernel_rfl)
theorem glob1 {W : World} (h : laidMet Tryz.prog Rows.confluentLargeRow.laid W) : GlobRow W (.o .h) g1 := by
  intro g hg
  obtain rfl := nm_of (n := 1) (by kernel_rfl) hg
  exact laid_texts h (n := "demotic/dialect.others") (strs := [[98, 108, 111, 99, 107, 115], [99, 111, 109, 109, 117, 116, 101, 115], [101, 110, 100], [112, 117, 114, 101]]) (List.mem_of_getElem? (i := 7) rfl) (g := 1) (t := 40) (e := 9) (by kernel_rfl) (by kernel_rfl) (by kernel_rfl) (by kernel_rfl) (by kernel_rfl)
theorem glob2 {W : World} (h : laidMet Tryz.prog Rows.confluentLargeRow.laid W) : GlobRow W (.i .h) g2 := by
  intro g hg
  obtain rfl := nm_of (n := 2) (by kernel_rfl) hg
  exact laid_texts h (n := "demotic/dialect.classes") (strs := [[97, 110, 121], [97, 114, 114], [105, 110, 116], [109, 101, 109], [110, 117, 109]]) (List.mem_of_getElem? (i := 8) rfl) (g := 2) (t := 40) (e := 9) (by kernel_rfl) (by kernel_rfl) (by kernel_rfl) (by kernel_rfl) (by kernel_rfl)
theorem noHandles : (Rows.confluentLargeRow.laid.filter fun x => x.2.handleName?.isSome) = [] := by kernel_rfl
theorem met {W : World} (h : laidMetH Tryz.prog Rows.confluentLargeRow.laid W) : laidMet Tryz.prog Rows.confluentLargeRow.laid W := by
  simp only [laidMetH, noHandles] at h
  exact h
theorem start_ok {W : World} (hL : laidMetH Tryz.prog Rows.confluentLargeRow.laid W) (hsh : W.ShapedOpen Tryz.prog) : GR ctx (Rho.start W) where
  glob := fun g cs h => by
    have hm := met hL
    have ok : AllT (GlobRow W) gT := ⟨⟨trivial, AllT.some' (glob1 hm), trivial⟩, AllT.some' (glob0 hm), ⟨trivial, AllT.some' (glob2 hm), trivial⟩⟩
    exact AllT.get ok h g rfl
  more := by
    have h0 : ((begin Tryz.prog (fun _ _ => 0) default).world.heap[3]?).bind Obj.row? = some (#[.int .i64 0], 3) := by kernel_rfl
    have hg : 3 < Tryz.prog.globals.size := of_decide_eq_true (by kernel_rfl)
    obtain ⟨m, hm⟩ := cell_of_shapedOpen_int (k := .i64) hsh hg h0 rfl (by kernel_rfl) (by kernel_rfl) (by kernel_rfl)
    obtain ⟨cs, hh, hs, -⟩ := hsh.1 3 _ 3 hg h0
    have hs' : cs.size = 1 := hs
    have hcs : cs = #[.int .i64 m] := by
      simp only [World.cell?, hh] at hm
      apply Array.ext
      · simpa using hs'
      · intro i h1 h2
        have : i = 0 := by omega
        subst this
        simpa [Array.getElem?_eq_getElem h1] using hm
    exact ⟨m, _, _, by show W.heap[3]? = _; rw [hh, hcs]⟩
theorem rem_cases (n : Int) (h : (Lit.int .i64 n).wf = true) : ∃ r : Nat, r < 18 ∧ Int.tmod (IntKind.wrap .u64 n) 18 = (r : Int) := by
  have h0 : 0 ≤ IntKind.wrap .u64 n := by
    unfold IntKind.wrap
    simp only [IntKind.signed, Bool.false_and, Bool.false_eq_true, if_false]
    exact Int.emod_nonneg _ (by decide)
  refine ⟨(Int.tmod (IntKind.wrap .u64 n) 18).toNat, ?_, ?_⟩
  · rw [Int.tmod_eq_emod_of_nonneg h0]; omega
  · rw [Int.tmod_eq_emod_of_nonneg h0]; omega
theorem ran (n : Int) : ∀ r : Nat, r < 18 → allB 2 (fun r => match r.1 with | .bool b => b | _ => false) (top (.int .u64 (r : Int)) (kcall kE3 ktab3 10000 2999) 10000 [.int .i64 n] St.start fun v s => .ret (v, s)) = true
  | 0, _ => ran0 n
  | 1, _ => ran1 n
  | 2, _ => ran2 n
  | 3, _ => ran3 n
  | 4, _ => ran4 n
  | 5, _ => ran5 n
  | 6, _ => ran6 n
  | 7, _ => ran7 n
  | 8, _ => ran8 n
  | 9, _ => ran9 n
  | 10, _ => ran10 n
  | 11, _ => ran11 n
  | 12, _ => ran12 n
  | 13, _ => ran13 n
  | 14, _ => ran14 n
  | 15, _ => ran15 n
  | 16, _ => ran16 n
  | 17, _ => ran17 n
  | r + 18, h => absurd h (by omega)
theorem top_split (n : Int) : (kcall kE3 ktab3 10000 3000).f t4 [.int .i64 n] St.start (fun v s => .ret (v, s)) = top (.int .u64 (Int.tmod (IntKind.wrap .u64 n) 18)) (kcall kE3 ktab3 10000 2999) 10000 [.int .i64 n] St.start fun v s => .ret (v, s) := by kernel_rfl
theorem runs (n : Int) (h : (Lit.int .i64 n).wf = true) : allB kE3.branch (fun r => match r.1 with | .bool b => b | _ => false) ((kcall kE3 ktab3 10000 3000).f (nm 3) [.int .i64 n] St.start fun v s => .ret (v, s)) = true := by
  obtain ⟨r, hr, e⟩ := rem_cases n h
  have e3 : nm 3 = t4 := by decide
  rw [e3, top_split n, e]
  exact ran n r hr
theorem walk (n : Int) (h : (Lit.int .i64 n).wf = true) {W : World} (hL : laidMetH Tryz.prog Rows.confluentLargeRow.laid W) (hsh : W.ShapedOpen Tryz.prog) :
    Calls Tryz.prog 3 #[.int .i64 n] W fun e w' => e = .returned (.bool true) ∧ w'.os = W.os ∧ w'.tape = W.tape ∧ w'.output = W.output ∧ W.heap.size ≤ w'.heap.size ∧ ∀ c, c < W.heap.size → w'.heap[c]? = W.heap[c]? :=
  run_true (C := ctx) (g := 3) (m := 10000) (n := 3000) env_ok3 tab_ok3 (start_ok hL hsh) (AR.one (.int .i64 n)) (by kernel_rfl) (runs n h)
set_option maxRecDepth 100000 in
theorem contract (H : Type) (enc : TypeId × Value → H) (W : World) (base : Nat) (args : Array Value) (ds gs : List (DataW H)) (before : List MemPlace)
    (hval : ∀ (j : Nat) t v, Tryz.f3.params[j]? = some t → args[j]? = some v → Value.okWide Tryz.prog W .any base t v)
    (hW : DataW.Whole enc Tryz.prog Tryz.f3.params.toList Rows.confluentLargeSpec.vars false W args.toList ds gs before) (hL : laidMetH Tryz.prog Rows.confluentLargeRow.laid W) (hsh : W.ShapedOpen Tryz.prog) :
    Calls Tryz.prog 3 args W fun e W' => ∃ v, e = .returned v ∧ Rows.confluentLargeSpec.post enc Tryz.prog Tryz.f3 false true false false W args v W' := by
  have hW' := hW
  obtain ⟨p, q, hA0, hV, rfl, hfz, hnd⟩ := hW
  have hA : DataW.TrodAll enc Tryz.prog W 0 (fun _ => true) true Tryz.f3.params.toList args.toList ds p := hA0
  rw [Tryz.params3] at hA hval
  obtain ⟨v0, vs0, d0, ds0, p0, q0, hargs, rfl, rfl, h0, r0⟩ := trodAll_cons hA
  obtain ⟨rfl, rfl, rfl⟩ := trodAll_nil r0
  obtain rfl : args = #[v0] := by cases args; simp_all
  obtain ⟨rfl, rfl⟩ := trodVars_none hV
  obtain ⟨n, rfl, rfl, rfl, hn⟩ := open_int Tryz.underlying3 (hval 0 3 v0 rfl rfl) h0
  clear hA0
  simp only [List.append_nil] at hW'
  refine (walk n hn hL hsh).mono fun e W' ⟨he, h1, h2, h3, h4, h5⟩ => ?_
  subst he
  refine ⟨_, rfl, _, _, _, _, _, _, hW', trodAll_cons_mk (shut_bool Tryz.underlying4 _) trodAll_mk0, trodAll_cons_mk (shut_int Tryz.underlying3 hn) trodAll_mk0, rfl, ⟨h1, h3, fun i hi => ?_⟩, fun h => (nomatch h)⟩
  rw [h5 i hi]
  cases W.heap[i]? with
  | none => rfl
  | some o => cases o <;> first | rfl | exact ⟨rfl, rfl, rfl, fun _ _ => rfl⟩ | exact .inr ⟨rfl, rfl⟩
set_option maxRecDepth 100000
noncomputable def low : Nat := (World.holding Tryz.prog default ⟨#[], #[], []⟩).heap.size
def putCells (g : Nat) (cs : Array Value) (h : Array Obj) : Array Obj := h.modify g fun
  | .cells _ t frozen => .cells cs t frozen
  | o => o
noncomputable def laidWorld (os : Os) : World :=
  let w := World.holding Tryz.prog os ⟨#[.cells #[.string { data := #[99, 97, 108, 108, 115] }, .string { data := #[112, 114, 105, 110, 116, 115] }, .string { data := #[114, 101, 97, 100, 115] }, .string { data := #[116, 114, 97, 112, 115] }, .string { data := #[119, 114, 105, 116, 101, 115] }] 9, .cells #[.string { data := #[98, 108, 111, 99, 107, 115] }, .string { data := #[99, 111, 109, 109, 117, 116, 101, 115] }, .string { data := #[101, 110, 100] }, .string { data := #[112, 117, 114, 101] }] 9, .cells #[.string { data := #[97, 110, 121] }, .string { data := #[97, 114, 114] }, .string { data := #[105, 110, 116] }, .string { data := #[109, 101, 109] }, .string { data := #[110, 117, 109] }] 9, .cells #[.string { data := #[105, 110, 118, 97, 108, 105, 100, 32, 115, 121, 110, 116, 97, 120] }] 304, .cells #[.string { data := #[118, 97, 108, 117, 101, 32, 111, 117, 116, 32, 111, 102, 32, 114, 97, 110, 103, 101] }] 304], #[], []⟩
  { w with heap := (putCells 10 #[.int .u8 128, .int .u8 191, .int .u8 160, .int .u8 191, .int .u8 128, .int .u8 159, .int .u8 144, .int .u8 191, .int .u8 128, .int .u8 143, .int .u8 0, .int .u8 0, .int .u8 0, .int .u8 0, .int .u8 0, .int .u8 0, .int .u8 0, .int .u8 0, .int .u8 0, .int .u8 0, .int .u8 0, .int .u8 0, .int .u8 0, .int .u8 0, .int .u8 0, .int .u8 0, .int .u8 0, .int .u8 0, .int .u8 0, .int .u8 0, .int .u8 0, .int .u8 0] (putCells 9 #[.int .u8 240, .int .u8 240, .int .u8 240, .int .u8 240, .int .u8 240, .int .u8 240, .int .u8 240, .int .u8 240, .int .u8 240, .int .u8 240, .int .u8 240, .int .u8 240, .int .u8 240, .int .u8 240, .int .u8 240, .int .u8 240, .int .u8 240, .int .u8 240, .int .u8 240, .int .u8 240, .int .u8 240, .int .u8 240, .int .u8 240, .int .u8 240, .int .u8 240, .int .u8 240, .int .u8 240, .int .u8 240, .int .u8 240, .int .u8 240, .int .u8 240, .int .u8 240, .int .u8 240, .int .u8 240, .int .u8 240, .int .u8 240, .int .u8 240, .int .u8 240, .int .u8 240, .int .u8 240, .int .u8 240, .int .u8 240, .int .u8 240, .int .u8 240, .int .u8 240, .int .u8 240, .int .u8 240, .int .u8 240, .int .u8 240, .int .u8 240, .int .u8 240, .int .u8 240, .int .u8 240, .int .u8 240, .int .u8 240, .int .u8 240, .int .u8 240, .int .u8 240, .int .u8 240, .int .u8 240, .int .u8 240, .int .u8 240, .int .u8 240, .int .u8 240, .int .u8 240, .int .u8 240, .int .u8 240, .int .u8 240, .int .u8 240, .int .u8 240, .int .u8 240, .int .u8 240, .int .u8 240, .int .u8 240, .int .u8 240, .int .u8 240, .int .u8 240, .int .u8 240, .int .u8 240, .int .u8 240, .int .u8 240, .int .u8 240, .int .u8 240, .int .u8 240, .int .u8 240, .int .u8 240, .int .u8 240, .int .u8 240, .int .u8 240, .int .u8 240, .int .u8 240, .int .u8 240, .int .u8 240, .int .u8 240, .int .u8 240, .int .u8 240, .int .u8 240, .int .u8 240, .int .u8 240, .int .u8 240, .int .u8 240, .int .u8 240, .int .u8 240, .int .u8 240, .int .u8 240, .int .u8 240, .int .u8 240, .int .u8 240, .int .u8 240, .int .u8 240, .int .u8 240, .int .u8 240, .int .u8 240, .int .u8 240, .int .u8 240, .int .u8 240, .int .u8 240, .int .u8 240, .int .u8 240, .int .u8 240, .int .u8 240, .int .u8 240, .int .u8 240, .int .u8 240, .int .u8 240, .int .u8 240, .int .u8 240, .int .u8 240, .int .u8 241, .int .u8 241, .int .u8 241, .int .u8 241, .int .u8 241, .int .u8 241, .int .u8 241, .int .u8 241, .int .u8 241, .int .u8 241, .int .u8 241, .int .u8 241, .int .u8 241, .int .u8 241, .int .u8 241, .int .u8 241, .int .u8 241, .int .u8 241, .int .u8 241, .int .u8 241, .int .u8 241, .int .u8 241, .int .u8 241, .int .u8 241, .int .u8 241, .int .u8 241, .int .u8 241, .int .u8 241, .int .u8 241, .int .u8 241, .int .u8 241, .int .u8 241, .int .u8 241, .int .u8 241, .int .u8 241, .int .u8 241, .int .u8 241, .int .u8 241, .int .u8 241, .int .u8 241, .int .u8 241, .int .u8 241, .int .u8 241, .int .u8 241, .int .u8 241, .int .u8 241, .int .u8 241, .int .u8 241, .int .u8 241, .int .u8 241, .int .u8 241, .int .u8 241, .int .u8 241, .int .u8 241, .int .u8 241, .int .u8 241, .int .u8 241, .int .u8 241, .int .u8 241, .int .u8 241, .int .u8 241, .int .u8 241, .int .u8 241, .int .u8 241, .int .u8 241, .int .u8 241, .int .u8 2, .int .u8 2, .int .u8 2, .int .u8 2, .int .u8 2, .int .u8 2, .int .u8 2, .int .u8 2, .int .u8 2, .int .u8 2, .int .u8 2, .int .u8 2, .int .u8 2, .int .u8 2, .int .u8 2, .int .u8 2, .int .u8 2, .int .u8 2, .int .u8 2, .int .u8 2, .int .u8 2, .int .u8 2, .int .u8 2, .int .u8 2, .int .u8 2, .int .u8 2, .int .u8 2, .int .u8 2, .int .u8 2, .int .u8 2, .int .u8 19, .int .u8 3, .int .u8 3, .int .u8 3, .int .u8 3, .int .u8 3, .int .u8 3, .int .u8 3, .int .u8 3, .int .u8 3, .int .u8 3, .int .u8 3, .int .u8 3, .int .u8 35, .int .u8 3, .int .u8 3, .int .u8 52, .int .u8 4, .int .u8 4, .int .u8 4, .int .u8 68, .int .u8 241, .int .u8 241, .int .u8 241, .int .u8 241, .int .u8 241, .int .u8 241, .int .u8 241, .int .u8 241, .int .u8 241, .int .u8 241, .int .u8 241] (putCells 8 #[.int .u8 0, .int .u8 1, .int .u8 56, .int .u8 2, .int .u8 57, .int .u8 49, .int .u8 28, .int .u8 3, .int .u8 61, .int .u8 58, .int .u8 42, .int .u8 50, .int .u8 38, .int .u8 29, .int .u8 17, .int .u8 4, .int .u8 62, .int .u8 47, .int .u8 59, .int .u8 36, .int .u8 45, .int .u8 43, .int .u8 51, .int .u8 22, .int .u8 53, .int .u8 39, .int .u8 33, .int .u8 30, .int .u8 24, .int .u8 18, .int .u8 12, .int .u8 5, .int .u8 63, .int .u8 55, .int .u8 48, .int .u8 27, .int .u8 60, .int .u8 41, .int .u8 37, .int .u8 16, .int .u8 46, .int .u8 35, .int .u8 44, .int .u8 21, .int .u8 52, .int .u8 32, .int .u8 23, .int .u8 11, .int .u8 54, .int .u8 26, .int .u8 40, .int .u8 15, .int .u8 34, .int .u8 20, .int .u8 31, .int .u8 10, .int .u8 25, .int .u8 14, .int .u8 19, .int .u8 9, .int .u8 13, .int .u8 8, .int .u8 7, .int .u8 6] (putCells 7 #[.int .u8 0, .int .u8 1, .int .u8 28, .int .u8 2, .int .u8 29, .int .u8 14, .int .u8 24, .int .u8 3, .int .u8 30, .int .u8 22, .int .u8 20, .int .u8 15, .int .u8 25, .int .u8 17, .int .u8 4, .int .u8 8, .int .u8 31, .int .u8 27, .int .u8 13, .int .u8 23, .int .u8 21, .int .u8 19, .int .u8 16, .int .u8 7, .int .u8 26, .int .u8 12, .int .u8 18, .int .u8 6, .int .u8 11, .int .u8 5, .int .u8 10, .int .u8 9] (putCells 6 #[.int .u64 1, .int .u64 10, .int .u64 100, .int .u64 1000, .int .u64 10000, .int .u64 100000, .int .u64 1000000, .int .u64 10000000, .int .u64 100000000, .int .u64 1000000000, .int .u64 10000000000, .int .u64 100000000000, .int .u64 1000000000000, .int .u64 10000000000000, .int .u64 100000000000000, .int .u64 1000000000000000, .int .u64 10000000000000000, .int .u64 100000000000000000, .int .u64 1000000000000000000, .int .u64 10000000000000000000] (putCells 5 #[.iface 302 (.pointer (some ⟨low + 4, 0, none⟩))] (putCells 4 #[.iface 302 (.pointer (some ⟨low + 3, 0, none⟩))] (putCells 2 #[.slice (some ⟨low + 2, 0, none⟩) 5 5] (putCells 1 #[.slice (some ⟨low + 1, 0, none⟩) 4 4] (putCells 0 #[.slice (some ⟨low + 0, 0, none⟩) 5 5] w.heap)))))))))) }
theorem laid_met (os : Os) : laidMet Tryz.prog Rows.confluentLargeRow.laid ((laidWorld os).forCall (fun _ _ => 0) ⟨#[], #[.int .i64 0], []⟩).memory :=
  laidMet_of_run' 8 (by kernel_rfl) (by kernel_rfl)
theorem laid_metH (os : Os) : laidMetH Tryz.prog Rows.confluentLargeRow.laid ((laidWorld os).forCall (fun _ _ => 0) ⟨#[], #[.int .i64 0], []⟩).memory := by
  simp only [laidMetH, noHandles]
  exact laid_met os
theorem reads (os : Os) {H : Type} (enc : TypeId × Value → H) : ∃ places, DataW.whole enc Tryz.prog ((laidWorld os).forCall (fun _ _ => 0) ⟨#[], #[.int .i64 0], []⟩).memory Tryz.f3.params.toList Rows.confluentLargeSpec.vars false #[Value.int .i64 0].toList 8 = some ([.lit (.int .i64 0)], [], places) :=
  ⟨[], by kernel_rfl⟩
set_option maxRecDepth 100000 in
theorem lifted (os : Os) (started : os.Started) (H : Type) (enc : TypeId × Value → H) (F : Stop.Interp) :
    ReturnsInHanded {} Tryz.checked os 3 .any ((OpenSpec.ofChange Rows.confluentLargeSpec).preRow enc Tryz.prog Tryz.f3 Rows.confluentLargeRow.domain false Rows.confluentLargeRow.laid) (((OpenSpec.ofChange Rows.confluentLargeSpec).at F).post enc Tryz.prog Tryz.f3 false true false false) := by
  obtain ⟨places, hx⟩ := reads os enc
  refine returnsInHanded_of_row (C := Tryz.checked) (s := OpenSpec.ofChange Rows.confluentLargeSpec) own started (by kernel_rfl) Tryz.func3
    (witness_row_atRef (enc := enc) (C := Tryz.checked) false (laidWorld os) #[.int .i64 0] rfl (by kernel_rfl) (by kernel_rfl) (by kernel_rfl)
      (OpenSpec.preRow_of_cond 8 hx (by kernel_rfl) (fun k hk => by cases hk) (by kernel_rfl) (laid_metH os))) ?_
  intro W base args ds gs before hval hW _ _ _ hL hsh _
  exact contract H enc W base args ds gs before hval hW hL hsh
theorem said : Rows.ConfluentLargeSaid :=
  OpenClaim.holds_of_cond 3 Tryz.f3 rfl rfl rfl rfl rfl rfl rfl ⟨rfl, rfl, rfl, rfl, rfl⟩ rfl rfl rfl rfl rfl (by kernel_rfl) Tryz.func3 (by kernel_rfl)
    (of_decide_eq_true (by kernel_rfl)) (by unfold Func.isWrapper; first | (rw [if_pos (by decide +kernel)]; kernel_rfl) | (rw [if_neg (by decide +kernel)]; exact ⟨rfl, rfl⟩))
    (fun os started H enc _ F => by rw [OpenClaim.pre_eq_preRow]; exact lifted os started H enc F)
theorem plain (f : FuncId) (fn : Func) (hf : Tryz.pinned.checked.prog.funcNamed "demotic/demoticlaw13.ConfluentLarge" = some f) (hfn : Tryz.pinned.checked.prog.funcs[f]? = some fn) :
    true = Tryz.pinned.checked.prog.looks [] ∧ ∀ (j : Nat) t, fn.params[j]? = some t → Tryz.pinned.checked.prog.wantsStandIn t = false := by
  obtain rfl : f = 3 := Option.some.inj ((show Tryz.prog.funcNamed "demotic/demoticlaw13.ConfluentLarge" = some 3 by kernel_rfl).symm.trans hf) |>.symm
  obtain rfl : fn = Tryz.f3 := (Option.some.inj (Tryz.func3.symm.trans hfn)).symm
  refine ⟨by kernel_rfl, fun j t ht => ?_⟩
  rw [Tryz.params3] at ht
  obtain rfl : t = 3 := by simpa using Array.mem_of_getElem? ht
  exact (show Tryz.prog.wantsStandIn 3 = false by kernel_rfl)
theorem card : Rows.ConfluentLargeCardSaid :=
  Claim7.holds_tied_plain_at .later [] _ _ _ _ said (fun _ h => by cases h) (by kernel_rfl) (fun _ h => by cases h) confluentLarge_row_tie rfl ⟨rfl, rfl⟩ (by kernel_rfl) rfl plain (by kernel_rfl)
end Go.Proofs.YtlenkhcenfkogaaGreatDoor.confluentLarge
