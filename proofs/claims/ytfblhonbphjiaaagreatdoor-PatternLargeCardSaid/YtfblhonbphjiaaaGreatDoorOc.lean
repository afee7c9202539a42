/- The third layer. -/
import Derived.Test.YtfblhonbphjiaaaGreatDoorOb
set_option linter.unusedVariables false
set_option linter.unusedSimpArgs false
set_option maxRecDepth 20000
set_option maxHeartbeats 4000000
namespace Go.Eng
open Go.Proofs
set_option maxRecDepth 20000 in
theorem ov_ok2 : AllT OvRow overT2 := ⟨⟨⟨⟨⟨⟨⟨trivial, AllT.none', ⟨trivial, AllT.some' ov191, trivial⟩⟩, AllT.none', trivial⟩, AllT.none', ⟨trivial, AllT.some' ov47, trivial⟩⟩, AllT.none', trivial⟩, AllT.none', ⟨⟨⟨⟨⟨trivial, AllT.some' ov131, trivial⟩, AllT.none', trivial⟩, AllT.none', trivial⟩, AllT.none', trivial⟩, AllT.none', ⟨⟨trivial, AllT.some' ov43, ⟨trivial, AllT.some' ov107, trivial⟩⟩, AllT.none', trivial⟩⟩⟩, AllT.none', ⟨trivial, AllT.none', ⟨⟨⟨trivial, AllT.none', ⟨⟨⟨trivial, AllT.some' ov293, trivial⟩, AllT.none', trivial⟩, AllT.none', trivial⟩⟩, AllT.none', ⟨trivial, AllT.some' ov53, trivial⟩⟩, AllT.none', ⟨⟨trivial, AllT.none', ⟨trivial, AllT.none', ⟨trivial, AllT.some' ov237, trivial⟩⟩⟩, AllT.none', trivial⟩⟩⟩⟩, AllT.none', ⟨⟨⟨⟨⟨trivial, AllT.none', ⟨trivial, AllT.some' ov96, trivial⟩⟩, AllT.none', ⟨⟨trivial, AllT.none', ⟨⟨trivial, AllT.some' ov336, trivial⟩, AllT.none', trivial⟩⟩, AllT.none', trivial⟩⟩, AllT.none', trivial⟩, AllT.none', ⟨trivial, AllT.none', ⟨⟨trivial, AllT.none', ⟨trivial, AllT.none', ⟨trivial, AllT.some' ov236, trivial⟩⟩⟩, AllT.none', trivial⟩⟩⟩, AllT.none', ⟨⟨⟨⟨⟨⟨trivial, AllT.some' ov130, trivial⟩, AllT.none', trivial⟩, AllT.none', trivial⟩, AllT.none', trivial⟩, AllT.none', ⟨trivial, AllT.none', ⟨⟨⟨trivial, AllT.some' ov154, trivial⟩, AllT.none', trivial⟩, AllT.none', trivial⟩⟩⟩, AllT.none', ⟨⟨trivial, AllT.none', ⟨⟨⟨trivial, AllT.some' ov150, trivial⟩, AllT.none', trivial⟩, AllT.none', trivial⟩⟩, AllT.none', ⟨⟨⟨trivial, AllT.none', ⟨⟨trivial, AllT.some' ov334, trivial⟩, AllT.none', trivial⟩⟩, AllT.none', trivial⟩, AllT.none', trivial⟩⟩⟩⟩⟩
set_option maxRecDepth 20000 in
theorem env_ok2 : EnvOk ctx kE2 where
  fns := fun g fn h => fns_ok h
  over := fun g h he => by
    have he' : getT (nm g) overT2 = some h := he
    rw [getT_eq] at he'
    exact AllT.get ov_ok2 he' g rfl
  mixed := by kernel_rfl
  ks := ks_ok
  hm := fun _ _ _ h => by cases h
  methods := me_ok
end Go.Eng
