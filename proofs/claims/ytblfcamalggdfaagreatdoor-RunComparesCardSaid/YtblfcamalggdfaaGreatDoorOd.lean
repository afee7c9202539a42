/- The law over what its callees do. -/
import Derived.Test.YtblfcamalggdfaaGreatDoorOc
import Derived.Test.YtblfcamalggdfaaGreatDoorRa
import Derived.Test.YtblfcamalggdfaaGreatDoorCmf
import Derived.KernelRfl
set_option linter.unusedVariables false
set_option linter.unusedSimpArgs false
set_option maxRecDepth 20000
set_option maxHeartbeats 4000000
namespace Go.Eng
open Go.Proofs
theorem ov8 : OvRow (.i (.o (.o (.h)))) ovEqI := .of (br := kE0.branch) rfl (n := 8) (by kernel_rfl) (ovEqI_ok env_ok0 fun a b xs ys ha hb => eq_run (by rw [fns_eq0]; kernel_rfl) ha hb)
theorem ov9 : OvRow (.o (.i (.o (.h)))) ovEqI := .of (br := kE0.branch) rfl (n := 9) (by kernel_rfl) (ovEqI_ok env_ok0 fun a b xs ys ha hb => sa_run (by rw [fns_eq0]; kernel_rfl) ha hb)
noncomputable def overT2 : Tr (List V → St → T (V × St)) := .node (.node (.leaf) none (.node (.node (.leaf) (some ovEqI) (.leaf)) none (.leaf))) none (.node (.node (.node (.leaf) (some ovEqI) (.leaf)) none (.leaf)) none (.leaf))
noncomputable def kE2 : Env := { fns := fnsOf Tryz.prog gG, over := fun p => getT p overT2, ks := fun t => ksT.get (nm t), branch := 3, methods := meOf meT, hasMethods := fun _ _ => none }
theorem fns_eq2 (p : Nm) : kE2.fns p = fnsOf Tryz.prog gG p := by kernel_rfl
set_option maxRecDepth 20000 in
theorem ov_ok2 : AllT OvRow overT2 := ⟨⟨trivial, AllT.none', ⟨⟨trivial, AllT.some' ov9, trivial⟩, AllT.none', trivial⟩⟩, AllT.none', ⟨⟨⟨trivial, AllT.some' ov8, trivial⟩, AllT.none', trivial⟩, AllT.none', trivial⟩⟩
set_option maxRecDepth 20000 in
theorem env_ok2 : EnvOk ctx kE2 where
  fns := fun g fn h => fns_ok h
  over := fun g h he => by
    have he' : getT (nm g) overT2 = some h := he
    rw [getT_eq] at he'
    exact AllT.get ov_ok2 he' g rfl
  mixed := by kernel_rfl
  ks := ks_ok
  hm := fun _ _ _ h => by cases h
  methods := me_ok
noncomputable def overT3 : Tr (List V → St → T (V × St)) := .node (.node (.node (.node (.leaf) (some ovT) (.leaf)) none (.leaf)) none (.leaf)) none (.node (.node (.leaf) (some (ovOc cmpF)) (.leaf)) none (.node (.leaf) (some (ovOc rcF)) (.leaf)))
noncomputable def kE3 : Env := { fns := fnsOf Tryz.prog gG, over := fun p => getT p overT3, ks := fun t => ksT.get (nm t), branch := 3, methods := meOf meT, hasMethods := fun _ _ => none }
theorem fns_eq3 (p : Nm) : kE3.fns p = fnsOf Tryz.prog gG p := by kernel_rfl
theorem ov4 : OvRow (.i (.o (.h))) (ovOc cmpF) := .of (br := kE2.branch) rfl (n := 4) (by kernel_rfl) (ovOc_ok env_ok2 fun e1 t1 s1 e2 t2 s2 a b a' b' r1 p1 r2 p2 ha hb ha' hb' => cp_run (by rw [fns_eq2]; kernel_rfl) (by kernel_rfl) ha hb ha' hb')
theorem ov6 : OvRow (.i (.i (.h))) (ovOc rcF) := .of (br := kE2.branch) rfl (n := 6) (by kernel_rfl) (ovOc_ok env_ok2 fun e1 t1 s1 e2 t2 s2 a b a' b' r1 p1 r2 p2 ha hb ha' hb' => rc_run (by rw [fns_eq2]; kernel_rfl) (by kernel_rfl) ha hb ha' hb')
theorem ovAw : OverOk ctx kE1.branch 7 (memoP [([], .bool true)]) := memoP_ok env_ok1 tab_ok1 (by kernel_rfl) (List.forall_mem_cons.2 ⟨keptAw, fun _ h => nomatch h⟩)
theorem ov7 : OvRow (.o (.o (.o (.h)))) ovT := .of (br := kE1.branch) rfl (n := 7) (by kernel_rfl) (ovAw.weak fun args s R h => by
  unfold ovT at h
  split at h
  · exact h
  · exact h.elim)
set_option maxRecDepth 20000 in
theorem ov_ok3 : AllT OvRow overT3 := ⟨⟨⟨⟨trivial, AllT.some' ov7, trivial⟩, AllT.none', trivial⟩, AllT.none', trivial⟩, AllT.none', ⟨⟨trivial, AllT.some' ov4, trivial⟩, AllT.none', ⟨trivial, AllT.some' ov6, trivial⟩⟩⟩
set_option maxRecDepth 20000 in
theorem env_ok3 : EnvOk ctx kE3 where
  fns := fun g fn h => fns_ok h
  over := fun g h he => by
    have he' : getT (nm g) overT3 = some h := he
    rw [getT_eq] at he'
    exact AllT.get ov_ok3 he' g rfl
  mixed := by kernel_rfl
  ks := ks_ok
  hm := fun _ _ _ h => by cases h
  methods := me_ok
theorem law_is {e1 t1 s1 e2 t2 s2 : Int} {a b a' b' : V} {r1 p1 r2 p2 : List Int} (ha : intsOf a = some r1) (hb : intsOf b = some p1) (ha' : intsOf a' = some r2) (hb' : intsOf b' = some p2) :
    (callB kE3 (eval kE3 40) uLW [ocV e1 t1 s1 a b, ocV e2 t2 s2 a' b'] St.start).Is fun r => r.1 = .bool true :=
  law_run (by rw [fns_eq3]; kernel_rfl) (by rw [fns_eq3]; kernel_rfl) (by kernel_rfl) (by kernel_rfl) (by kernel_rfl) (by kernel_rfl) ha hb ha' hb'
end Go.Eng
