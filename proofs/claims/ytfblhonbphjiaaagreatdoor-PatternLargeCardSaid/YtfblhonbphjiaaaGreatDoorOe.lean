/- The fourth layer: the law over what is kept. -/
import Derived.KernelRfl
import Derived.Test.YtfblhonbphjiaaaGreatDoorOc
import Derived.Test.YtfblhonbphjiaaaGreatDoorRa
import Derived.Test.YtfblhonbphjiaaaGreatDoorVa
import Derived.Test.YtfblhonbphjiaaaGreatDoorVb
import Derived.Test.YtfblhonbphjiaaaGreatDoorVc
import Derived.Test.YtfblhonbphjiaaaGreatDoorVd
import Derived.Test.YtfblhonbphjiaaaGreatDoorVe
import Derived.Test.YtfblhonbphjiaaaGreatDoorVf
import Derived.Test.YtfblhonbphjiaaaGreatDoorVg
import Derived.Test.YtfblhonbphjiaaaGreatDoorVh
set_option linter.unusedVariables false
set_option linter.unusedSimpArgs false
set_option maxRecDepth 20000
set_option maxHeartbeats 4000000
namespace Go.Eng
open Go.Proofs
theorem memoP_const {v : V} {s : St} {args : List V} : ∀ {tab : List (List V × V)}, (∀ r ∈ tab, r.2 = v) → (∃ r ∈ tab, eqbVs args r.1 = true) → memoP tab args s = .ret (v, s)
  | [], _, ⟨_, h, _⟩ => nomatch h
  | (a, u) :: tab, h1, ⟨r, hr, hre⟩ => by
    unfold memoP
    split
    · rw [show u = v from h1 (a, u) (by simp)]
    · rename_i hne
      refine memoP_const (fun r hr => h1 r (by simp [hr])) ⟨r, ?_, hre⟩
      rcases List.mem_cons.1 hr with rfl | hr
      · simp only at hre; rw [hre] at hne; cases hne
      · exact hr
theorem keptAll : ∀ n : Nat, n < 40 → KeptV kE2 ktab 28 10000 3000 ([modV (n + 1), .nils], .int .i64 0)
  | 0, _ => keptVer0
  | 1, _ => keptVer1
  | 2, _ => keptVer2
  | 3, _ => keptVer3
  | 4, _ => keptVer4
  | 5, _ => keptVer5
  | 6, _ => keptVer6
  | 7, _ => keptVer7
  | 8, _ => keptVer8
  | 9, _ => keptVer9
  | 10, _ => keptVer10
  | 11, _ => keptVer11
  | 12, _ => keptVer12
  | 13, _ => keptVer13
  | 14, _ => keptVer14
  | 15, _ => keptVer15
  | 16, _ => keptVer16
  | 17, _ => keptVer17
  | 18, _ => keptVer18
  | 19, _ => keptVer19
  | 20, _ => keptVer20
  | 21, _ => keptVer21
  | 22, _ => keptVer22
  | 23, _ => keptVer23
  | 24, _ => keptVer24
  | 25, _ => keptVer25
  | 26, _ => keptVer26
  | 27, _ => keptVer27
  | 28, _ => keptVer28
  | 29, _ => keptVer29
  | 30, _ => keptVer30
  | 31, _ => keptVer31
  | 32, _ => keptVer32
  | 33, _ => keptVer33
  | 34, _ => keptVer34
  | 35, _ => keptVer35
  | 36, _ => keptVer36
  | 37, _ => keptVer37
  | 38, _ => keptVer38
  | 39, _ => keptVer39
  | n + 40, h => absurd h (by omega)
theorem kept_verT : ∀ r ∈ verT, KeptV kE2 ktab 28 10000 3000 r := by
  intro r hr
  obtain ⟨n, hn, rfl⟩ := List.mem_map.1 hr
  exact keptAll n (List.mem_range.1 hn)
theorem ver_ok : OverOk ctx kE2.branch 28 ovVer := by
  intro ρ s w args cargs R hI hG hA h
  refine memoV_ok env_ok2 tab_ok2 (by kernel_rfl) kept_verT ρ s w args cargs R hI hG hA ?_
  unfold ovVer at h
  unfold memoV
  split at h
  · rename_i dargs B hd
    split at h
    · rename_i m x
      split at h
      · rename_i hc
        simp only [Bool.and_eq_true] at hc
        simp only [hd]
        rw [memoP_const (tab := verT) (v := .int .i64 0) (fun r hr => by obtain ⟨n, hn, rfl⟩ := List.mem_map.1 hr; rfl) ⟨_, List.mem_map.2 ⟨modK m, List.mem_range.2 (by simpa [Nat.blt_eq] using hc.1), rfl⟩, hc.2⟩]
        exact h
      · exact h.elim
    · exact h.elim
  · exact h.elim
theorem wcode : WCode kE2 where
  f1 := by rw [fns_eq2]; kernel_rfl
  f2 := by rw [fns_eq2]; kernel_rfl
  f3 := by rw [fns_eq2]; kernel_rfl
  f4 := by rw [fns_eq2]; kernel_rfl
  f5 := by rw [fns_eq2]; kernel_rfl
  f6 := by rw [fns_eq2]; kernel_rfl
  f7 := by rw [fns_eq2]; kernel_rfl
  o1 := by kernel_rfl
  o2 := by kernel_rfl
  o3 := by kernel_rfl
  o4 := by kernel_rfl
  o5 := by kernel_rfl
  o6 := by kernel_rfl
  o7 := by kernel_rfl
  o8 := by kernel_rfl
  ito := ⟨memoP rT43, by kernel_rfl, fun s => by kernel_rfl⟩
theorem ov6 : OvRow (.i (.i (.h))) (memoP [([], .bool true)]) := .of (br := kE2.branch) rfl (n := 6) (by kernel_rfl) (memoP_ok env_ok2 tab_ok2 (by kernel_rfl) (List.forall_mem_cons.2 ⟨keptAw, fun _ h => nomatch h⟩))
theorem ov28 : OvRow (.i (.o (.i (.i (.h))))) ovVer := .of (br := kE2.branch) rfl (n := 28) (by kernel_rfl) ver_ok
theorem ov10 : OvRow (.i (.i (.o (.h)))) (ovTerm (kcall kE2 ktab 10000 3000)) := .of (br := kE2.branch) rfl (n := 10) (by kernel_rfl) (term_ok wcode env_ok2 (by rw [fns_eq2]; kernel_rfl) (by decide) (call_x tab_ok2 10000 3000))
set_option maxRecDepth 20000 in
theorem ov_ok3 : AllT OvRow overT3 := ⟨⟨⟨⟨⟨⟨⟨trivial, AllT.none', ⟨trivial, AllT.some' ov191, trivial⟩⟩, AllT.none', trivial⟩, AllT.none', ⟨trivial, AllT.some' ov47, trivial⟩⟩, AllT.none', trivial⟩, AllT.none', ⟨⟨⟨⟨⟨trivial, AllT.some' ov131, trivial⟩, AllT.none', trivial⟩, AllT.none', trivial⟩, AllT.none', trivial⟩, AllT.none', ⟨⟨trivial, AllT.some' ov43, ⟨trivial, AllT.some' ov107, trivial⟩⟩, AllT.none', trivial⟩⟩⟩, AllT.none', ⟨trivial, AllT.none', ⟨⟨⟨trivial, AllT.none', ⟨⟨⟨trivial, AllT.some' ov293, trivial⟩, AllT.none', trivial⟩, AllT.none', trivial⟩⟩, AllT.none', ⟨trivial, AllT.some' ov53, trivial⟩⟩, AllT.none', ⟨⟨trivial, AllT.none', ⟨trivial, AllT.none', ⟨trivial, AllT.some' ov237, trivial⟩⟩⟩, AllT.none', trivial⟩⟩⟩⟩, AllT.none', ⟨⟨⟨⟨⟨trivial, AllT.none', ⟨trivial, AllT.some' ov96, trivial⟩⟩, AllT.none', ⟨⟨trivial, AllT.none', ⟨⟨trivial, AllT.some' ov336, trivial⟩, AllT.none', trivial⟩⟩, AllT.none', trivial⟩⟩, AllT.none', trivial⟩, AllT.none', ⟨trivial, AllT.none', ⟨⟨trivial, AllT.none', ⟨trivial, AllT.none', ⟨trivial, AllT.some' ov236, trivial⟩⟩⟩, AllT.some' ov28, trivial⟩⟩⟩, AllT.none', ⟨⟨⟨⟨⟨⟨trivial, AllT.some' ov130, trivial⟩, AllT.none', trivial⟩, AllT.none', trivial⟩, AllT.none', trivial⟩, AllT.some' ov10, ⟨trivial, AllT.none', ⟨⟨⟨trivial, AllT.some' ov154, trivial⟩, AllT.none', trivial⟩, AllT.none', trivial⟩⟩⟩, AllT.some' ov6, ⟨⟨trivial, AllT.none', ⟨⟨⟨trivial, AllT.some' ov150, trivial⟩, AllT.none', trivial⟩, AllT.none', trivial⟩⟩, AllT.none', ⟨⟨⟨trivial, AllT.none', ⟨⟨trivial, AllT.some' ov334, trivial⟩, AllT.none', trivial⟩⟩, AllT.none', trivial⟩, AllT.none', trivial⟩⟩⟩⟩⟩
set_option maxRecDepth 20000 in
theorem env_ok3 : EnvOk ctx kE3 where
  fns := fun g fn h => fns_ok h
  over := fun g h he => by
    have he' : getT (nm g) overT3 = some h := he
    rw [getT_eq] at he'
    exact AllT.get ov_ok3 he' g rfl
  mixed := by kernel_rfl
  ks := ks_ok
  hm := fun _ _ _ h => by cases h
  methods := me_ok
end Go.Eng
