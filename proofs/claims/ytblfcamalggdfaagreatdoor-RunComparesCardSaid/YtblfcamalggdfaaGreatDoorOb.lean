/- What is handed back in place of calls is what they do. -/
import Derived.Test.YtblfcamalggdfaaGreatDoorOa
import Derived.Test.YtblfcamalggdfaaGreatDoorSc
import Derived.Test.YtblfcamalggdfaaGreatDoorAc
import Derived.KernelRfl
set_option linter.unusedVariables false
set_option linter.unusedSimpArgs false
set_option maxRecDepth 20000
set_option maxHeartbeats 4000000
namespace Go.Eng
open Go.Proofs
theorem ov38 : OvRow (.i (.i (.i (.o (.o (.h)))))) (ovAs 165 131 129) := .of (br := 3) rfl (n := 38) (by kernel_rfl) ovAs_ok
set_option maxRecDepth 20000 in
theorem ov_ok1 : AllT OvRow overT1 := ⟨⟨⟨⟨trivial, AllT.none', ⟨trivial, AllT.none', ⟨trivial, AllT.none', ⟨trivial, AllT.some' ov119, trivial⟩⟩⟩⟩, AllT.none', ⟨⟨⟨trivial, AllT.none', ⟨trivial, AllT.some' ov99, trivial⟩⟩, AllT.none', trivial⟩, AllT.none', trivial⟩⟩, AllT.none', ⟨⟨⟨trivial, AllT.none', ⟨⟨trivial, AllT.none', ⟨⟨trivial, AllT.some' ov337, trivial⟩, AllT.none', trivial⟩⟩, AllT.none', ⟨trivial, AllT.none', ⟨trivial, AllT.some' ov241, trivial⟩⟩⟩⟩, AllT.none', trivial⟩, AllT.none', ⟨⟨⟨trivial, AllT.none', ⟨⟨trivial, AllT.some' ov165, trivial⟩, AllT.none', trivial⟩⟩, AllT.none', trivial⟩, AllT.none', trivial⟩⟩⟩, AllT.none', ⟨⟨⟨⟨trivial, AllT.none', ⟨⟨trivial, AllT.some' ov80, trivial⟩, AllT.none', trivial⟩⟩, AllT.none', ⟨trivial, AllT.none', ⟨trivial, AllT.none', ⟨⟨⟨trivial, AllT.some' ov312, trivial⟩, AllT.none', trivial⟩, AllT.none', trivial⟩⟩⟩⟩, AllT.none', ⟨trivial, AllT.none', ⟨⟨trivial, AllT.none', ⟨trivial, AllT.none', ⟨⟨trivial, AllT.some' ov364, trivial⟩, AllT.none', trivial⟩⟩⟩, AllT.none', trivial⟩⟩⟩, AllT.none', ⟨⟨trivial, AllT.none', ⟨trivial, AllT.none', ⟨⟨⟨trivial, AllT.none', ⟨trivial, AllT.some' ov410, trivial⟩⟩, AllT.none', trivial⟩, AllT.none', trivial⟩⟩⟩, AllT.none', ⟨⟨⟨trivial, AllT.some' ov38, trivial⟩, AllT.none', trivial⟩, AllT.none', trivial⟩⟩⟩⟩
set_option maxRecDepth 20000 in
theorem env_ok1 : EnvOk ctx kE1 where
  fns := fun g fn h => fns_ok h
  over := fun g h he => by
    have he' : getT (nm g) overT1 = some h := he
    rw [getT_eq] at he'
    exact AllT.get ov_ok1 he' g rfl
  mixed := by kernel_rfl
  ks := ks_ok
  hm := fun _ _ _ h => by cases h
  methods := me_ok
end Go.Eng
