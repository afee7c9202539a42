/- The layer of the law. -/
import Derived.KernelRfl
import Derived.Test.YtipedikaiaamjaaGreatDoorLw
import Derived.Test.YtipedikaiaamjaaGreatDoorRa
set_option linter.unusedVariables false
set_option linter.unusedSimpArgs false
set_option maxRecDepth 20000
set_option maxHeartbeats 4000000
namespace Go.Eng
open Go.Proofs
theorem kD : widths (fun b => keptB kE2 4 [.int .i64 (b : Int)] (.str (dgS b))) = true := by kernel_rfl
theorem bnds {b : Nat} (h : (Nat.ble 1 b && Nat.ble b 64) = true) : 1 ≤ b ∧ b ≤ 64 := by
  simpa only [Bool.and_eq_true, Nat.ble_eq] using h
theorem dg_ok : OverOk ctx kE2.branch 4 ovDg := by
  intro ρ s w args cargs R hI hG hA h
  unfold ovDg at h
  split at h
  · rename_i b
    split at h
    · rename_i hb
      obtain ⟨h1, h2⟩ := bnds hb
      refine memoP_ok env_ok2 tab_ok2 (by kernel_rfl) (tab := [([.int .i64 (b : Int)], .str (dgS b))]) (List.forall_mem_cons.2 ⟨keptB_ok (widths_at kD b h1 h2), fun _ h => nomatch h⟩) ρ s w _ cargs R hI hG hA ?_
      have e : eqbVs [.int .i64 (.ofNat b)] [.int .i64 (b : Int)] = true := by simp [eqbVs, eqbV]
      simp only [memoP, e]
      exact h
    · exact h.elim
  · exact h.elim
theorem tw_ok : OverOk ctx kE2.branch 5 ovTw := by
  intro ρ s w args cargs R hI hG hA h
  unfold ovTw at h
  split at h
  · rename_i b n
    split at h
    · rename_i hb
      obtain ⟨h1, h2⟩ := bnds hb
      obtain ⟨H, x, d⟩ := s
      have e : nm 5 = t6 := by decide
      exact exact_run env_ok2 hI hG hA (n := 20) (by rw [e]; exact tw_run (by rw [fns_eq2]; kernel_rfl) h1 h2) h
    · exact h.elim
  · exact h.elim
theorem lo_ok : OverOk ctx kE2.branch 8 ovLo := by
  intro ρ s w args cargs R hI hG hA h
  unfold ovLo at h
  split at h
  · rename_i b
    split at h
    · rename_i hb
      obtain ⟨h1, h2⟩ := bnds hb
      obtain ⟨H, x, d⟩ := s
      have e : nm 8 = t9 := by decide
      exact exact_run env_ok2 hI hG hA (n := 20) (by rw [e]; exact lo_run (by rw [fns_eq2]; kernel_rfl) h1 h2) h
    · exact h.elim
  · exact h.elim
theorem ov8 : OvRow (.i (.o (.o (.h)))) ovLo := .of (br := kE2.branch) rfl (n := 8) (by kernel_rfl) lo_ok
noncomputable def overTL : Tr (List V → St → T (V × St)) := .node (.node (.node (.leaf) none (.node (.node (.leaf) none (.node (.leaf) none (.node (.leaf) (some ovIxB) (.leaf)))) none (.node (.node (.node (.node (.leaf) (some (memoP rT139)) (.leaf)) none (.leaf)) (some ovIx) (.leaf)) none (.node (.node (.node (.leaf) none (.node (.leaf) (some ovNo) (.leaf))) none (.leaf)) none (.leaf))))) none (.node (.node (.node (.node (.leaf) none (.node (.node (.node (.leaf) (some (ovTy tyCHK rT289)) (.leaf)) none (.leaf)) none (.leaf))) none (.leaf)) none (.node (.leaf) none (.node (.leaf) none (.node (.node (.node (.leaf) (some ovCmp) (.leaf)) none (.leaf)) none (.leaf))))) none (.node (.node (.node (.leaf) (some (ovTy tyKIND rT37)) (.leaf)) none (.node (.leaf) none (.node (.leaf) (some (memoP rT117)) (.leaf)))) none (.node (.node (.leaf) none (.node (.leaf) none (.node (.node (.leaf) (some ovCnt) (.leaf)) none (.leaf)))) none (.node (.node (.node (.node (.leaf) (some (ovTy tyBITS rT285)) (.leaf)) none (.leaf)) none (.leaf)) none (.leaf)))))) none (.node (.node (.node (.leaf) (some ovLo) (.leaf)) none (.node (.node (.leaf) none (.node (.leaf) none (.node (.node (.leaf) (some (memoV rT180)) (.leaf)) none (.leaf)))) none (.leaf))) none (.node (.node (.node (.leaf) none (.node (.node (.leaf) none (.node (.node (.leaf) (some ovIx) (.leaf)) none (.leaf))) none (.node (.leaf) none (.node (.leaf) (some (memoP rT242)) (.leaf))))) none (.node (.node (.leaf) (some (ovAs 175 139 137)) (.node (.leaf) (some ovAdd) (.leaf))) none (.node (.leaf) none (.node (.leaf) (some (memoX memoV122 memoR122 t305)) (.leaf))))) none (.node (.node (.leaf) none (.node (.leaf) (some (ovTy tyRNG rT54)) (.leaf))) none (.leaf))))
noncomputable def kEL : Env := { kE0 with over := fun p => getT p overTL }
theorem fns_eqL (p : Nm) : kEL.fns p = fnsOf Tryz.prog gG p := by kernel_rfl
set_option maxRecDepth 20000 in
theorem ov_ok6 : AllT OvRow overTL := ⟨⟨⟨trivial, AllT.none', ⟨⟨trivial, AllT.none', ⟨trivial, AllT.none', ⟨trivial, AllT.some' ov115, trivial⟩⟩⟩, AllT.none', ⟨⟨⟨⟨trivial, AllT.some' ov139, trivial⟩, AllT.none', trivial⟩, AllT.some' ov43, trivial⟩, AllT.none', ⟨⟨⟨trivial, AllT.none', ⟨trivial, AllT.some' ov411, trivial⟩⟩, AllT.none', trivial⟩, AllT.none', trivial⟩⟩⟩⟩, AllT.none', ⟨⟨⟨⟨trivial, AllT.none', ⟨⟨⟨trivial, AllT.some' ov289, trivial⟩, AllT.none', trivial⟩, AllT.none', trivial⟩⟩, AllT.none', trivial⟩, AllT.none', ⟨trivial, AllT.none', ⟨trivial, AllT.none', ⟨⟨⟨trivial, AllT.some' ov313, trivial⟩, AllT.none', trivial⟩, AllT.none', trivial⟩⟩⟩⟩, AllT.none', ⟨⟨⟨trivial, AllT.some' ov37, trivial⟩, AllT.none', ⟨trivial, AllT.none', ⟨trivial, AllT.some' ov117, trivial⟩⟩⟩, AllT.none', ⟨⟨trivial, AllT.none', ⟨trivial, AllT.none', ⟨⟨trivial, AllT.some' ov365, trivial⟩, AllT.none', trivial⟩⟩⟩, AllT.none', ⟨⟨⟨⟨trivial, AllT.some' ov285, trivial⟩, AllT.none', trivial⟩, AllT.none', trivial⟩, AllT.none', trivial⟩⟩⟩⟩⟩, AllT.none', ⟨⟨⟨trivial, AllT.some' ov8, trivial⟩, AllT.none', ⟨⟨trivial, AllT.none', ⟨trivial, AllT.none', ⟨⟨trivial, AllT.some' ov180, trivial⟩, AllT.none', trivial⟩⟩⟩, AllT.none', trivial⟩⟩, AllT.none', ⟨⟨⟨trivial, AllT.none', ⟨⟨trivial, AllT.none', ⟨⟨trivial, AllT.some' ov338, trivial⟩, AllT.none', trivial⟩⟩, AllT.none', ⟨trivial, AllT.none', ⟨trivial, AllT.some' ov242, trivial⟩⟩⟩⟩, AllT.none', ⟨⟨trivial, AllT.some' ov42, ⟨trivial, AllT.some' ov106, trivial⟩⟩, AllT.none', ⟨trivial, AllT.none', ⟨trivial, AllT.some' ov122, trivial⟩⟩⟩⟩, AllT.none', ⟨⟨trivial, AllT.none', ⟨trivial, AllT.some' ov54, trivial⟩⟩, AllT.none', trivial⟩⟩⟩⟩
set_option maxRecDepth 20000 in
theorem env_ok6 : EnvOk ctx kEL where
  fns := fun g fn h => fns_ok h
  over := fun g h he => by
    have he' : getT (nm g) overTL = some h := he
    rw [getT_eq] at he'
    exact AllT.get ov_ok6 he' g rfl
  mixed := by kernel_rfl
  ks := ks_ok
  hm := fun _ _ _ h => by cases h
  methods := me_ok
theorem hi_ok : OverOk ctx kE2.branch 9 ovHi := by
  intro ρ s w args cargs R hI hG hA h
  unfold ovHi at h
  split at h
  · rename_i b
    split at h
    · rename_i hb
      obtain ⟨h1, h2⟩ := bnds hb
      obtain ⟨H, x, d⟩ := s
      have e : nm 9 = t10 := by decide
      exact exact_run env_ok6 hI hG hA (n := 20) (by rw [e]; exact hi_run (by rw [fns_eqL]; kernel_rfl) (by kernel_rfl) h1 h2) h
    · exact h.elim
  · exact h.elim
theorem ov4 : OvRow (.i (.o (.h))) ovDg := .of (br := kE2.branch) rfl (n := 4) (by kernel_rfl) dg_ok
theorem ov5 : OvRow (.o (.i (.h))) ovTw := .of (br := kE2.branch) rfl (n := 5) (by kernel_rfl) tw_ok
theorem ov9 : OvRow (.o (.i (.o (.h)))) ovHi := .of (br := kE2.branch) rfl (n := 9) (by kernel_rfl) hi_ok
theorem ov6 : OvRow (.i (.i (.h))) ovEva := .of (br := kE3.branch) rfl (n := 6) (by kernel_rfl) eva_ok
theorem ov10 : OvRow (.i (.i (.o (.h)))) (memoP [([], .bool true)]) := .of (br := kE2.branch) rfl (n := 10) (by kernel_rfl) (memoP_ok env_ok2 tab_ok2 (by kernel_rfl) (List.forall_mem_cons.2 ⟨keptAw, fun _ h => nomatch h⟩))
noncomputable def overT4 : Tr (List V → St → T (V × St)) := .node (.node (.node (.leaf) none (.node (.node (.leaf) none (.node (.leaf) none (.node (.leaf) (some ovIxB) (.leaf)))) none (.node (.node (.leaf) (some ovIx) (.leaf)) none (.node (.node (.node (.leaf) none (.node (.leaf) (some ovNo) (.leaf))) none (.leaf)) none (.leaf))))) none (.node (.node (.leaf) (some ovHi) (.node (.leaf) none (.node (.leaf) none (.node (.node (.node (.leaf) (some ovCmp) (.leaf)) none (.leaf)) none (.leaf))))) (some ovTw) (.node (.leaf) none (.node (.node (.leaf) none (.node (.leaf) none (.node (.node (.leaf) (some ovCnt) (.leaf)) none (.leaf)))) none (.leaf))))) none (.node (.node (.node (.leaf) (some ovLo) (.leaf)) (some ovDg) (.leaf)) none (.node (.node (.node (.leaf) none (.node (.node (.leaf) none (.node (.node (.leaf) (some ovIx) (.leaf)) none (.leaf))) none (.leaf))) (some (memoP [([], .bool true)])) (.node (.node (.leaf) none (.node (.leaf) (some ovAdd) (.leaf))) none (.leaf))) (some ovEva) (.leaf)))
noncomputable def kE4 : Env := { kE0 with over := fun p => getT p overT4 }
theorem fns_eq4 (p : Nm) : kE4.fns p = fnsOf Tryz.prog gG p := by kernel_rfl
set_option maxRecDepth 20000 in
theorem ov_ok7 : AllT OvRow overT4 := ⟨⟨⟨trivial, AllT.none', ⟨⟨trivial, AllT.none', ⟨trivial, AllT.none', ⟨trivial, AllT.some' ov115, trivial⟩⟩⟩, AllT.none', ⟨⟨trivial, AllT.some' ov43, trivial⟩, AllT.none', ⟨⟨⟨trivial, AllT.none', ⟨trivial, AllT.some' ov411, trivial⟩⟩, AllT.none', trivial⟩, AllT.none', trivial⟩⟩⟩⟩, AllT.none', ⟨⟨trivial, AllT.some' ov9, ⟨trivial, AllT.none', ⟨trivial, AllT.none', ⟨⟨⟨trivial, AllT.some' ov313, trivial⟩, AllT.none', trivial⟩, AllT.none', trivial⟩⟩⟩⟩, AllT.some' ov5, ⟨trivial, AllT.none', ⟨⟨trivial, AllT.none', ⟨trivial, AllT.none', ⟨⟨trivial, AllT.some' ov365, trivial⟩, AllT.none', trivial⟩⟩⟩, AllT.none', trivial⟩⟩⟩⟩, AllT.none', ⟨⟨⟨trivial, AllT.some' ov8, trivial⟩, AllT.some' ov4, trivial⟩, AllT.none', ⟨⟨⟨trivial, AllT.none', ⟨⟨trivial, AllT.none', ⟨⟨trivial, AllT.some' ov338, trivial⟩, AllT.none', trivial⟩⟩, AllT.none', trivial⟩⟩, AllT.some' ov10, ⟨⟨trivial, AllT.none', ⟨trivial, AllT.some' ov106, trivial⟩⟩, AllT.none', trivial⟩⟩, AllT.some' ov6, trivial⟩⟩⟩
set_option maxRecDepth 20000 in
theorem env_ok7 : EnvOk ctx kE4 where
  fns := fun g fn h => fns_ok h
  over := fun g h he => by
    have he' : getT (nm g) overT4 = some h := he
    rw [getT_eq] at he'
    exact AllT.get ov_ok7 he' g rfl
  mixed := by kernel_rfl
  ks := ks_ok
  hm := fun _ _ _ h => by cases h
  methods := me_ok
theorem law_is (bits n0 k0 : Int) : (callB kE4 (eval kE4 60) (nm 3) [.int .i64 bits, .int .i64 n0, .int .i64 k0] St.start).Is fun r => r.1 = .bool true := by
  have h0 : 0 ≤ IntKind.wrap .u64 bits := by rw [wrap_u64_eq]; exact Int.emod_nonneg _ (by decide)
  have hr : (IntKind.wrap .u64 bits).tmod 64 = (IntKind.wrap .u64 bits) % 64 := Int.tmod_eq_emod_of_nonneg h0
  obtain ⟨b, h1, h2, r1⟩ : ∃ b : Nat, 1 ≤ b ∧ b ≤ 64 ∧ (IntKind.wrap .u64 bits).tmod 64 = ((b - 1 : Nat) : Int) := by
    refine ⟨((IntKind.wrap .u64 bits) % 64).toNat + 1, by omega, by omega, ?_⟩
    rw [hr]; omega
  have fn := fit_wrapB h1 h2 n0
  have fk := fit_wrapB h1 h2 k0
  have e : nm 3 = t4 := by decide
  rw [e]
  exact law_run (by rw [fns_eq4]; kernel_rfl) (by rw [fns_eq4]; kernel_rfl) (by kernel_rfl) (by kernel_rfl) (by kernel_rfl) (by kernel_rfl) (by kernel_rfl) (by kernel_rfl) (by kernel_rfl) h1 h2 r1 rfl rfl fn fk
end Go.Eng
