/- Contracts of the term functions of the program and of its reference. -/
import Derived.Test.YtlenkhcenfkogaaGreatDoorTmb
import Derived.Test.YtlenkhcenfkogaaGreatDoorTmc
import Derived.Test.YtlenkhcenfkogaaGreatDoorTmd
import Derived.Test.YtlenkhcenfkogaaGreatDoorTme
set_option linter.unusedSimpArgs false
set_option linter.unusedVariables false
set_option maxRecDepth 20000
set_option maxHeartbeats 8000000
namespace Go.Eng
variable {C : Ctx}
theorem res_ok {E : Env} (hE : EnvOk C E) (hu : nm 23 = u24) (h1 : E.fns u24 = some a23) : OverOk C E.branch 23 (ovR resF) := ovR_ok hE (n := 20) fun es ck t r hp hd hr => by
  obtain ⟨⟨r0, s1⟩, e1, e2, e3⟩ := (res_run h1 es ck t r hr).to
  simp only at e2 e3
  subst e2
  exact ⟨r.V, s1, [], by rw [hu]; exact e1, frz_tm .., by simp, e3⟩
theorem full_ok {E : Env} (hE : EnvOk C E) (hr : nm 23 = u24) (h1 : E.fns u24 = some a23) (hf : nm 11 = u12) (h2 : E.fns u12 = some a11) : ∀ k, OverOk C E.branch 11 (ovR (full k))
  | 0 => ovR_ok hE (n := 0) fun es ck t r hp hd hr => by cases hr
  | k + 1 => by
    have ih := full_ok hE hr h1 hf h2 k
    have hE' := (hE.overWith hr (res_ok hE hr h1)).overWith hf ih
    refine ovR_ok hE' (n := 20) fun es ck t r hp hd hr => ?_
    obtain ⟨⟨r0, s1⟩, e1, B, e2, e3, e4⟩ := (full_run (F := full k) (E := { E with over := overWith u12 (ovR (full k)) (overWith u24 (ovR resF) E.over) }) h2 rfl rfl es hp ck t r hd hr).to
    exact ⟨r0, s1, B, by rw [hf]; exact e1, e2, e3, e4⟩
theorem nam_ok {E : Env} (hE : EnvOk C E) (hl : nm 47 = u48) (h1 : E.fns u48 = some a47) (hf : nm 25 = u26) (h2 : E.fns u26 = some a25) : ∀ k, OverOk C E.branch 25 (ovN (nam k))
  | 0 => ovN_ok hE (n := 0) fun es ck t r es' ck' hp hd hr => by cases hr
  | k + 1 => by
    have ih := nam_ok hE hl h1 hf h2 k
    have hE' := (hE.overWith hl (ovL_ok hE h1 hl)).overWith hf ih
    refine ovN_ok hE' (n := 20) fun es ck t r es' ck' hp hd hr => ⟨nam_pure (k + 1) _ _ _ _ _ _ hp hr, ?_⟩
    obtain ⟨⟨r0, s1⟩, e1, B, e2, e3, e4⟩ := (nam_run (F := nam k) (E := { E with over := overWith u26 (ovN (nam k)) (overWith u48 ovL E.over) }) h2 rfl rfl (nam_pure k) es hp ck t r es' ck' hd hr).to
    exact ⟨r0, s1, B, by rw [hf]; exact e1, e2, e3, e4⟩
theorem wr_ok {E : Env} (hE : EnvOk C E) (hl : nm 12 = u13) (h1 : E.fns u13 = some a12) (h3 : E.fns u27 = some a26) (o3 : E.over u27 = none) (hf : nm 9 = u10) (h2 : E.fns u10 = some a9) : ∀ k, OverOk C E.branch 9 (ovS (wrF k))
  | 0 => ovS_ok hE (n := 0) fun t l hd hr => by
    unfold wrF at hr
    split at hr
    · rename_i hc
      have := hc.2.2
      cases t <;> simp [Tm.depth] at this
    · cases hr
  | k + 1 => by
    have ih := wr_ok hE hl h1 h3 o3 hf h2 k
    have hE' := (hE.overWith hl (ovD_ok hE h1 h3 o3 hl)).overWith hf ih
    refine ovS_ok hE' (n := 20) fun t l hd hr => ?_
    obtain ⟨⟨r0, s1⟩, e1, e2⟩ := (wr_run (k := k) (E := { E with over := overWith u10 (ovS (wrF k)) (overWith u13 ovD E.over) }) h2 rfl rfl t l hd hr).to
    simp only at e2
    subst e2
    exact ⟨s1, by rw [hf]; exact e1⟩
end Go.Eng
