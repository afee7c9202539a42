/- The second layer: rows of definitions are kept. -/
import Derived.Test.YtfblhonbphjiaaaGreatDoorOa
import Derived.KernelRfl
set_option linter.unusedVariables false
set_option linter.unusedSimpArgs false
set_option maxRecDepth 20000
set_option maxHeartbeats 4000000
namespace Go.Eng
open Go.Proofs
set_option maxRecDepth 20000 in
theorem ov_ok1 : AllT OvRow overT1 := ⟨⟨⟨⟨⟨⟨⟨trivial, AllT.none', ⟨trivial, AllT.some' ov191, trivial⟩⟩, AllT.none', trivial⟩, AllT.none', ⟨trivial, AllT.some' ov47, trivial⟩⟩, AllT.none', trivial⟩, AllT.none', ⟨⟨⟨⟨⟨trivial, AllT.some' ov131, trivial⟩, AllT.none', trivial⟩, AllT.none', trivial⟩, AllT.none', trivial⟩, AllT.none', ⟨⟨trivial, AllT.some' ov43, trivial⟩, AllT.none', trivial⟩⟩⟩, AllT.none', ⟨trivial, AllT.none', ⟨⟨⟨trivial, AllT.none', ⟨⟨⟨trivial, AllT.some' ov293, trivial⟩, AllT.none', trivial⟩, AllT.none', trivial⟩⟩, AllT.none', ⟨trivial, AllT.some' ov53, trivial⟩⟩, AllT.none', ⟨⟨trivial, AllT.none', ⟨trivial, AllT.none', ⟨trivial, AllT.some' ov237, trivial⟩⟩⟩, AllT.none', trivial⟩⟩⟩⟩, AllT.none', ⟨⟨⟨⟨⟨trivial, AllT.none', ⟨trivial, AllT.some' ov96, trivial⟩⟩, AllT.none', ⟨⟨trivial, AllT.none', ⟨⟨trivial, AllT.some' ov336, trivial⟩, AllT.none', trivial⟩⟩, AllT.none', trivial⟩⟩, AllT.none', trivial⟩, AllT.none', ⟨trivial, AllT.none', ⟨⟨trivial, AllT.none', ⟨trivial, AllT.none', ⟨trivial, AllT.some' ov236, trivial⟩⟩⟩, AllT.none', trivial⟩⟩⟩, AllT.none', ⟨⟨⟨⟨⟨⟨trivial, AllT.some' ov130, trivial⟩, AllT.none', trivial⟩, AllT.none', trivial⟩, AllT.none', trivial⟩, AllT.none', ⟨trivial, AllT.none', ⟨⟨⟨trivial, AllT.some' ov154, trivial⟩, AllT.none', trivial⟩, AllT.none', trivial⟩⟩⟩, AllT.none', ⟨⟨trivial, AllT.none', ⟨⟨⟨trivial, AllT.some' ov150, trivial⟩, AllT.none', trivial⟩, AllT.none', trivial⟩⟩, AllT.none', ⟨⟨⟨trivial, AllT.none', ⟨⟨trivial, AllT.some' ov334, trivial⟩, AllT.none', trivial⟩⟩, AllT.none', trivial⟩, AllT.none', trivial⟩⟩⟩⟩⟩
set_option maxRecDepth 20000 in
theorem env_ok1 : EnvOk ctx kE1 where
  fns := fun g fn h => fns_ok h
  over := fun g h he => by
    have he' : getT (nm g) overT1 = some h := he
    rw [getT_eq] at he'
    exact AllT.get ov_ok1 he' g rfl
  mixed := by kernel_rfl
  ks := ks_ok
  hm := fun _ _ _ h => by cases h
  methods := me_ok
theorem kR107_0 : KeptV kE1 ktab 107 10000 3000 (rA107_0, rR107_0) := ⟨by decide +kernel, by decide +kernel⟩
theorem kR107_1 : KeptV kE1 ktab 107 10000 3000 (rA107_1, rR107_1) := ⟨by decide +kernel, by decide +kernel⟩
theorem kR107_2 : KeptV kE1 ktab 107 10000 3000 (rA107_2, rR107_2) := ⟨by decide +kernel, by decide +kernel⟩
theorem ov107 : OvRow (.o (.o (.i (.i (.o (.i (.h))))))) (memoV rT107) := .of (br := kE1.branch) rfl (n := 107) (by kernel_rfl) (memoV_ok env_ok1 tab_ok1 (by kernel_rfl) (List.forall_mem_cons.2 ⟨kR107_0, List.forall_mem_cons.2 ⟨kR107_1, List.forall_mem_cons.2 ⟨kR107_2, fun _ h => nomatch h⟩⟩⟩))
end Go.Eng
