/- The second and the third layer. -/
import Derived.Test.YtipedikaiaamjaaGreatDoorOa
import Derived.Test.YtipedikaiaamjaaGreatDoorAc
import Derived.KernelRfl
set_option linter.unusedVariables false
set_option linter.unusedSimpArgs false
set_option maxRecDepth 20000
set_option maxHeartbeats 4000000
namespace Go.Eng
open Go.Proofs
theorem ov42 : OvRow (.i (.i (.o (.i (.o (.h)))))) (ovAs 175 139 137) := .of (br := 3) rfl (n := 42) (by kernel_rfl) ovAs_ok
set_option maxRecDepth 20000 in
theorem ov_ok1 : AllT OvRow overT1 := ⟨⟨⟨trivial, AllT.none', ⟨⟨trivial, AllT.none', ⟨trivial, AllT.none', ⟨trivial, AllT.some' ov115, trivial⟩⟩⟩, AllT.none', ⟨⟨⟨⟨trivial, AllT.some' ov139, trivial⟩, AllT.none', trivial⟩, AllT.some' ov43, trivial⟩, AllT.none', ⟨⟨⟨trivial, AllT.none', ⟨trivial, AllT.some' ov411, trivial⟩⟩, AllT.none', trivial⟩, AllT.none', trivial⟩⟩⟩⟩, AllT.none', ⟨⟨⟨⟨trivial, AllT.none', ⟨⟨⟨trivial, AllT.some' ov289, trivial⟩, AllT.none', trivial⟩, AllT.none', trivial⟩⟩, AllT.none', trivial⟩, AllT.none', ⟨trivial, AllT.none', ⟨trivial, AllT.none', ⟨⟨⟨trivial, AllT.some' ov313, trivial⟩, AllT.none', trivial⟩, AllT.none', trivial⟩⟩⟩⟩, AllT.none', ⟨⟨⟨trivial, AllT.some' ov37, trivial⟩, AllT.none', ⟨trivial, AllT.none', ⟨trivial, AllT.some' ov117, trivial⟩⟩⟩, AllT.none', ⟨⟨trivial, AllT.none', ⟨trivial, AllT.none', ⟨⟨trivial, AllT.some' ov365, trivial⟩, AllT.none', trivial⟩⟩⟩, AllT.none', ⟨⟨⟨⟨trivial, AllT.some' ov285, trivial⟩, AllT.none', trivial⟩, AllT.none', trivial⟩, AllT.none', trivial⟩⟩⟩⟩⟩, AllT.none', ⟨trivial, AllT.none', ⟨⟨⟨trivial, AllT.none', ⟨⟨trivial, AllT.none', ⟨⟨trivial, AllT.some' ov338, trivial⟩, AllT.none', trivial⟩⟩, AllT.none', ⟨trivial, AllT.none', ⟨trivial, AllT.some' ov242, trivial⟩⟩⟩⟩, AllT.none', ⟨⟨trivial, AllT.some' ov42, ⟨trivial, AllT.some' ov106, trivial⟩⟩, AllT.none', ⟨trivial, AllT.none', ⟨trivial, AllT.some' ov122, trivial⟩⟩⟩⟩, AllT.none', ⟨⟨trivial, AllT.none', ⟨trivial, AllT.some' ov54, trivial⟩⟩, AllT.none', trivial⟩⟩⟩⟩
set_option maxRecDepth 20000 in
theorem env_ok1 : EnvOk ctx kE1 where
  fns := fun g fn h => fns_ok h
  over := fun g h he => by
    have he' : getT (nm g) overT1 = some h := he
    rw [getT_eq] at he'
    exact AllT.get ov_ok1 he' g rfl
  mixed := by kernel_rfl
  ks := ks_ok
  hm := fun _ _ _ h => by cases h
  methods := me_ok
theorem kR180_0 : KeptV kE1 ktab 180 10000 3000 (rA180_0, rR180_0) := ⟨by decide +kernel, by decide +kernel⟩
theorem kR180_1 : KeptV kE1 ktab 180 10000 3000 (rA180_1, rR180_1) := ⟨by decide +kernel, by decide +kernel⟩
theorem kR180_2 : KeptV kE1 ktab 180 10000 3000 (rA180_2, rR180_2) := ⟨by decide +kernel, by decide +kernel⟩
theorem kR180_3 : KeptV kE1 ktab 180 10000 3000 (rA180_3, rR180_3) := ⟨by decide +kernel, by decide +kernel⟩
theorem kR180_4 : KeptV kE1 ktab 180 10000 3000 (rA180_4, rR180_4) := ⟨by decide +kernel, by decide +kernel⟩
theorem kR180_5 : KeptV kE1 ktab 180 10000 3000 (rA180_5, rR180_5) := ⟨by decide +kernel, by decide +kernel⟩
theorem kR180_6 : KeptV kE1 ktab 180 10000 3000 (rA180_6, rR180_6) := ⟨by decide +kernel, by decide +kernel⟩
theorem kR180_7 : KeptV kE1 ktab 180 10000 3000 (rA180_7, rR180_7) := ⟨by decide +kernel, by decide +kernel⟩
theorem kR180_8 : KeptV kE1 ktab 180 10000 3000 (rA180_8, rR180_8) := ⟨by decide +kernel, by decide +kernel⟩
theorem kR180_9 : KeptV kE1 ktab 180 10000 3000 (rA180_9, rR180_9) := ⟨by decide +kernel, by decide +kernel⟩
theorem kR180_10 : KeptV kE1 ktab 180 10000 3000 (rA180_10, rR180_10) := ⟨by decide +kernel, by decide +kernel⟩
theorem kR180_11 : KeptV kE1 ktab 180 10000 3000 (rA180_11, rR180_11) := ⟨by decide +kernel, by decide +kernel⟩
theorem kR180_12 : KeptV kE1 ktab 180 10000 3000 (rA180_12, rR180_12) := ⟨by decide +kernel, by decide +kernel⟩
theorem kR180_13 : KeptV kE1 ktab 180 10000 3000 (rA180_13, rR180_13) := ⟨by decide +kernel, by decide +kernel⟩
theorem kR180_14 : KeptV kE1 ktab 180 10000 3000 (rA180_14, rR180_14) := ⟨by decide +kernel, by decide +kernel⟩
theorem kR180_15 : KeptV kE1 ktab 180 10000 3000 (rA180_15, rR180_15) := ⟨by decide +kernel, by decide +kernel⟩
theorem kR180_16 : KeptV kE1 ktab 180 10000 3000 (rA180_16, rR180_16) := ⟨by decide +kernel, by decide +kernel⟩
theorem kR180_17 : KeptV kE1 ktab 180 10000 3000 (rA180_17, rR180_17) := ⟨by decide +kernel, by decide +kernel⟩
theorem kR180_18 : KeptV kE1 ktab 180 10000 3000 (rA180_18, rR180_18) := ⟨by decide +kernel, by decide +kernel⟩
theorem ov180 : OvRow (.i (.o (.i (.o (.i (.i (.o (.h)))))))) (memoV rT180) := .of (br := kE1.branch) rfl (n := 180) (by kernel_rfl) (memoV_ok env_ok1 tab_ok1 (by kernel_rfl) (List.forall_mem_cons.2 ⟨kR180_0, List.forall_mem_cons.2 ⟨kR180_1, List.forall_mem_cons.2 ⟨kR180_2, List.forall_mem_cons.2 ⟨kR180_3, List.forall_mem_cons.2 ⟨kR180_4, List.forall_mem_cons.2 ⟨kR180_5, List.forall_mem_cons.2 ⟨kR180_6, List.forall_mem_cons.2 ⟨kR180_7, List.forall_mem_cons.2 ⟨kR180_8, List.forall_mem_cons.2 ⟨kR180_9, List.forall_mem_cons.2 ⟨kR180_10, List.forall_mem_cons.2 ⟨kR180_11, List.forall_mem_cons.2 ⟨kR180_12, List.forall_mem_cons.2 ⟨kR180_13, List.forall_mem_cons.2 ⟨kR180_14, List.forall_mem_cons.2 ⟨kR180_15, List.forall_mem_cons.2 ⟨kR180_16, List.forall_mem_cons.2 ⟨kR180_17, List.forall_mem_cons.2 ⟨kR180_18, fun _ h => nomatch h⟩⟩⟩⟩⟩⟩⟩⟩⟩⟩⟩⟩⟩⟩⟩⟩⟩⟩⟩))
set_option maxRecDepth 20000 in
theorem ov_ok2 : AllT OvRow overT2 := ⟨⟨⟨trivial, AllT.none', ⟨⟨trivial, AllT.none', ⟨trivial, AllT.none', ⟨trivial, AllT.some' ov115, trivial⟩⟩⟩, AllT.none', ⟨⟨⟨⟨trivial, AllT.some' ov139, trivial⟩, AllT.none', trivial⟩, AllT.some' ov43, trivial⟩, AllT.none', ⟨⟨⟨trivial, AllT.none', ⟨trivial, AllT.some' ov411, trivial⟩⟩, AllT.none', trivial⟩, AllT.none', trivial⟩⟩⟩⟩, AllT.none', ⟨⟨⟨⟨trivial, AllT.none', ⟨⟨⟨trivial, AllT.some' ov289, trivial⟩, AllT.none', trivial⟩, AllT.none', trivial⟩⟩, AllT.none', trivial⟩, AllT.none', ⟨trivial, AllT.none', ⟨trivial, AllT.none', ⟨⟨⟨trivial, AllT.some' ov313, trivial⟩, AllT.none', trivial⟩, AllT.none', trivial⟩⟩⟩⟩, AllT.none', ⟨⟨⟨trivial, AllT.some' ov37, trivial⟩, AllT.none', ⟨trivial, AllT.none', ⟨trivial, AllT.some' ov117, trivial⟩⟩⟩, AllT.none', ⟨⟨trivial, AllT.none', ⟨trivial, AllT.none', ⟨⟨trivial, AllT.some' ov365, trivial⟩, AllT.none', trivial⟩⟩⟩, AllT.none', ⟨⟨⟨⟨trivial, AllT.some' ov285, trivial⟩, AllT.none', trivial⟩, AllT.none', trivial⟩, AllT.none', trivial⟩⟩⟩⟩⟩, AllT.none', ⟨⟨trivial, AllT.none', ⟨⟨trivial, AllT.none', ⟨trivial, AllT.none', ⟨⟨trivial, AllT.some' ov180, trivial⟩, AllT.none', trivial⟩⟩⟩, AllT.none', trivial⟩⟩, AllT.none', ⟨⟨⟨trivial, AllT.none', ⟨⟨trivial, AllT.none', ⟨⟨trivial, AllT.some' ov338, trivial⟩, AllT.none', trivial⟩⟩, AllT.none', ⟨trivial, AllT.none', ⟨trivial, AllT.some' ov242, trivial⟩⟩⟩⟩, AllT.none', ⟨⟨trivial, AllT.some' ov42, ⟨trivial, AllT.some' ov106, trivial⟩⟩, AllT.none', ⟨trivial, AllT.none', ⟨trivial, AllT.some' ov122, trivial⟩⟩⟩⟩, AllT.none', ⟨⟨trivial, AllT.none', ⟨trivial, AllT.some' ov54, trivial⟩⟩, AllT.none', trivial⟩⟩⟩⟩
set_option maxRecDepth 20000 in
theorem env_ok2 : EnvOk ctx kE2 where
  fns := fun g fn h => fns_ok h
  over := fun g h he => by
    have he' : getT (nm g) overT2 = some h := he
    rw [getT_eq] at he'
    exact AllT.get ov_ok2 he' g rfl
  mixed := by kernel_rfl
  ks := ks_ok
  hm := fun _ _ _ h => by cases h
  methods := me_ok
end Go.Eng
