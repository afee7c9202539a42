/- The tables of the law are those of the program. -/
import Derived.Test.YtlenkhcenfkogaaGreatDoorOc
import Derived.Test.YtlenkhcenfkogaaGreatDoorSd
import Derived.KernelRfl
import Derived.Test.YtlenkhcenfkogaaGreatDoorTmf
import Derived.Test.YtlenkhcenfkogaaGreatDoorUa
import Derived.Test.YtlenkhcenfkogaaGreatDoorUb
import Derived.Test.YtlenkhcenfkogaaGreatDoorUc
import Derived.Test.YtlenkhcenfkogaaGreatDoorUd
import Derived.Test.YtlenkhcenfkogaaGreatDoorUe
import Derived.Test.YtlenkhcenfkogaaGreatDoorUf
import Derived.Test.YtlenkhcenfkogaaGreatDoorUg
import Derived.Test.YtlenkhcenfkogaaGreatDoorUh
import Derived.Test.YtlenkhcenfkogaaGreatDoorUi
set_option linter.unusedVariables false
set_option linter.unusedSimpArgs false
set_option maxRecDepth 20000
namespace Go.Eng
open Go.Proofs
theorem em3 : (fnB Tryz.prog gG Tryz.f3).bind (kfun kE3 lm3) = some m3 := by kernel_rfl
theorem em4 : (fnB Tryz.prog gG Tryz.f4).bind (kfun kE3 lm4) = some m4 := by kernel_rfl
theorem em7 : (fnB Tryz.prog gG Tryz.f7).bind (kfun kE3 lm7) = some m7 := by kernel_rfl
theorem em8 : (fnB Tryz.prog gG Tryz.f8).bind (kfun kE3 lm8) = some m8 := by kernel_rfl
theorem em10 : (fnB Tryz.prog gG Tryz.f10).bind (kfun kE3 lm10) = some m10 := by kernel_rfl
theorem em12 : (fnB Tryz.prog gG Tryz.f12).bind (kfun kE3 lm12) = some m12 := by kernel_rfl
theorem em22 : (fnB Tryz.prog gG Tryz.f22).bind (kfun kE3 lm22) = some m22 := by kernel_rfl
theorem em23 : (fnB Tryz.prog gG Tryz.f23).bind (kfun kE3 lm23) = some m23 := by kernel_rfl
theorem em24 : (fnB Tryz.prog gG Tryz.f24).bind (kfun kE3 lm24) = some m24 := by kernel_rfl
theorem em26 : (fnB Tryz.prog gG Tryz.f26).bind (kfun kE3 lm26) = some m26 := by kernel_rfl
theorem em42 : (fnB Tryz.prog gG Tryz.f42).bind (kfun kE3 lm42) = some m42 := by kernel_rfl
theorem em43 : (fnB Tryz.prog gG Tryz.f43).bind (kfun kE3 lm43) = some m43 := by kernel_rfl
theorem em44 : (fnB Tryz.prog gG Tryz.f44).bind (kfun kE3 lm44) = some m44 := by kernel_rfl
theorem em45 : (fnB Tryz.prog gG Tryz.f45).bind (kfun kE3 lm45) = some m45 := by kernel_rfl
theorem em46 : (fnB Tryz.prog gG Tryz.f46).bind (kfun kE3 lm46) = some m46 := by kernel_rfl
theorem em76 : (fnB Tryz.prog gG Tryz.f76).bind (kfun kE3 lm76) = some m76 := by kernel_rfl
theorem em77 : (fnB Tryz.prog gG Tryz.f77).bind (kfun kE3 lm77) = some m77 := by kernel_rfl
theorem em112 : (fnB Tryz.prog gG Tryz.f112).bind (kfun kE3 lm112) = some m112 := by kernel_rfl
theorem em116 : (fnB Tryz.prog gG Tryz.f116).bind (kfun kE3 lm116) = some m116 := by kernel_rfl
theorem em117 : (fnB Tryz.prog gG Tryz.f117).bind (kfun kE3 lm117) = some m117 := by kernel_rfl
theorem em141 : (fnB Tryz.prog gG Tryz.f141).bind (kfun kE3 lm141) = some m141 := by kernel_rfl
theorem em169 : (fnB Tryz.prog gG Tryz.f169).bind (kfun kE3 lm169) = some m169 := by kernel_rfl
theorem em237 : (fnB Tryz.prog gG Tryz.f237).bind (kfun kE3 lm237) = some m237 := by kernel_rfl
theorem em238 : (fnB Tryz.prog gG Tryz.f238).bind (kfun kE3 lm238) = some m238 := by kernel_rfl
theorem em239 : (fnB Tryz.prog gG Tryz.f239).bind (kfun kE3 lm239) = some m239 := by kernel_rfl
theorem em240 : (fnB Tryz.prog gG Tryz.f240).bind (kfun kE3 lm240) = some m240 := by kernel_rfl
theorem em241 : (fnB Tryz.prog gG Tryz.f241).bind (kfun kE3 lm241) = some m241 := by kernel_rfl
theorem em242 : (fnB Tryz.prog gG Tryz.f242).bind (kfun kE3 lm242) = some m242 := by kernel_rfl
theorem em244 : (fnB Tryz.prog gG Tryz.f244).bind (kfun kE3 lm244) = some m244 := by kernel_rfl
theorem fns_eq3 (p : Nm) : kE3.fns p = fnsOf Tryz.prog gG p := by kernel_rfl
theorem rm3 : FnRow kE3 (.o (.o (.h))) m3 := fn_row (n := 3) fns_eq3 (by kernel_rfl) Tryz.func3 em3
theorem rm4 : FnRow kE3 (.i (.o (.h))) m4 := fn_row (n := 4) fns_eq3 (by kernel_rfl) Tryz.func4 em4
theorem rm7 : FnRow kE3 (.o (.o (.o (.h)))) m7 := fn_row (n := 7) fns_eq3 (by kernel_rfl) Tryz.func7 em7
theorem rm8 : FnRow kE3 (.i (.o (.o (.h)))) m8 := fn_row (n := 8) fns_eq3 (by kernel_rfl) Tryz.func8 em8
theorem rm10 : FnRow kE3 (.i (.i (.o (.h)))) m10 := fn_row (n := 10) fns_eq3 (by kernel_rfl) Tryz.func10 em10
theorem rm12 : FnRow kE3 (.i (.o (.i (.h)))) m12 := fn_row (n := 12) fns_eq3 (by kernel_rfl) Tryz.func12 em12
theorem rm22 : FnRow kE3 (.i (.i (.i (.o (.h))))) m22 := fn_row (n := 22) fns_eq3 (by kernel_rfl) Tryz.func22 em22
theorem rm23 : FnRow kE3 (.o (.o (.o (.i (.h))))) m23 := fn_row (n := 23) fns_eq3 (by kernel_rfl) Tryz.func23 em23
theorem rm24 : FnRow kE3 (.i (.o (.o (.i (.h))))) m24 := fn_row (n := 24) fns_eq3 (by kernel_rfl) Tryz.func24 em24
theorem rm26 : FnRow kE3 (.i (.i (.o (.i (.h))))) m26 := fn_row (n := 26) fns_eq3 (by kernel_rfl) Tryz.func26 em26
theorem rm42 : FnRow kE3 (.i (.i (.o (.i (.o (.h)))))) m42 := fn_row (n := 42) fns_eq3 (by kernel_rfl) Tryz.func42 em42
theorem rm43 : FnRow kE3 (.o (.o (.i (.i (.o (.h)))))) m43 := fn_row (n := 43) fns_eq3 (by kernel_rfl) Tryz.func43 em43
theorem rm44 : FnRow kE3 (.i (.o (.i (.i (.o (.h)))))) m44 := fn_row (n := 44) fns_eq3 (by kernel_rfl) Tryz.func44 em44
theorem rm45 : FnRow kE3 (.o (.i (.i (.i (.o (.h)))))) m45 := fn_row (n := 45) fns_eq3 (by kernel_rfl) Tryz.func45 em45
theorem rm46 : FnRow kE3 (.i (.i (.i (.i (.o (.h)))))) m46 := fn_row (n := 46) fns_eq3 (by kernel_rfl) Tryz.func46 em46
theorem rm76 : FnRow kE3 (.i (.o (.i (.i (.o (.o (.h))))))) m76 := fn_row (n := 76) fns_eq3 (by kernel_rfl) Tryz.func76 em76
theorem rm77 : FnRow kE3 (.o (.i (.i (.i (.o (.o (.h))))))) m77 := fn_row (n := 77) fns_eq3 (by kernel_rfl) Tryz.func77 em77
theorem rm112 : FnRow kE3 (.i (.o (.o (.o (.i (.i (.h))))))) m112 := fn_row (n := 112) fns_eq3 (by kernel_rfl) Tryz.func112 em112
theorem rm116 : FnRow kE3 (.i (.o (.i (.o (.i (.i (.h))))))) m116 := fn_row (n := 116) fns_eq3 (by kernel_rfl) Tryz.func116 em116
theorem rm117 : FnRow kE3 (.o (.i (.i (.o (.i (.i (.h))))))) m117 := fn_row (n := 117) fns_eq3 (by kernel_rfl) Tryz.func117 em117
theorem rm141 : FnRow kE3 (.o (.i (.i (.i (.o (.o (.o (.h)))))))) m141 := fn_row (n := 141) fns_eq3 (by kernel_rfl) Tryz.func141 em141
theorem rm169 : FnRow kE3 (.o (.i (.o (.i (.o (.i (.o (.h)))))))) m169 := fn_row (n := 169) fns_eq3 (by kernel_rfl) Tryz.func169 em169
theorem rm237 : FnRow kE3 (.o (.i (.i (.i (.o (.i (.i (.h)))))))) m237 := fn_row (n := 237) fns_eq3 (by kernel_rfl) Tryz.func237 em237
theorem rm238 : FnRow kE3 (.i (.i (.i (.i (.o (.i (.i (.h)))))))) m238 := fn_row (n := 238) fns_eq3 (by kernel_rfl) Tryz.func238 em238
theorem rm239 : FnRow kE3 (.o (.o (.o (.o (.i (.i (.i (.h)))))))) m239 := fn_row (n := 239) fns_eq3 (by kernel_rfl) Tryz.func239 em239
theorem rm240 : FnRow kE3 (.i (.o (.o (.o (.i (.i (.i (.h)))))))) m240 := fn_row (n := 240) fns_eq3 (by kernel_rfl) Tryz.func240 em240
theorem rm241 : FnRow kE3 (.o (.i (.o (.o (.i (.i (.i (.h)))))))) m241 := fn_row (n := 241) fns_eq3 (by kernel_rfl) Tryz.func241 em241
theorem rm242 : FnRow kE3 (.i (.i (.o (.o (.i (.i (.i (.h)))))))) m242 := fn_row (n := 242) fns_eq3 (by kernel_rfl) Tryz.func242 em242
theorem rm244 : FnRow kE3 (.i (.o (.i (.o (.i (.i (.i (.h)))))))) m244 := fn_row (n := 244) fns_eq3 (by kernel_rfl) Tryz.func244 em244
set_option maxRecDepth 20000 in
theorem tab_ok3 : TabOk kE3 ktab3 := tab_of ⟨⟨⟨⟨⟨trivial, AllT.none', ⟨trivial, AllT.none', ⟨trivial, AllT.none', ⟨trivial, AllT.some' rm239, trivial⟩⟩⟩⟩, AllT.some' rm7, ⟨trivial, AllT.some' rm23, trivial⟩⟩, AllT.some' rm3, ⟨trivial, AllT.none', ⟨⟨trivial, AllT.some' rm43, trivial⟩, AllT.none', trivial⟩⟩⟩, AllT.none', ⟨⟨⟨trivial, AllT.none', ⟨trivial, AllT.none', ⟨trivial, AllT.none', ⟨trivial, AllT.some' rm241, trivial⟩⟩⟩⟩, AllT.none', ⟨⟨trivial, AllT.none', ⟨⟨trivial, AllT.some' rm169, trivial⟩, AllT.none', trivial⟩⟩, AllT.none', trivial⟩⟩, AllT.none', ⟨⟨trivial, AllT.none', ⟨trivial, AllT.none', ⟨trivial, AllT.some' rm117, trivial⟩⟩⟩, AllT.none', ⟨⟨⟨⟨trivial, AllT.some' rm141, trivial⟩, AllT.some' rm77, trivial⟩, AllT.some' rm45, ⟨trivial, AllT.none', ⟨trivial, AllT.some' rm237, trivial⟩⟩⟩, AllT.none', trivial⟩⟩⟩⟩, AllT.none', ⟨⟨⟨⟨trivial, AllT.none', ⟨trivial, AllT.none', ⟨trivial, AllT.some' rm112, ⟨trivial, AllT.some' rm240, trivial⟩⟩⟩⟩, AllT.some' rm8, ⟨trivial, AllT.some' rm24, trivial⟩⟩, AllT.some' rm4, ⟨⟨trivial, AllT.none', ⟨trivial, AllT.none', ⟨trivial, AllT.some' rm116, ⟨trivial, AllT.some' rm244, trivial⟩⟩⟩⟩, AllT.some' rm12, ⟨⟨⟨trivial, AllT.some' rm76, trivial⟩, AllT.some' rm44, trivial⟩, AllT.none', trivial⟩⟩⟩, AllT.none', ⟨⟨⟨trivial, AllT.none', ⟨trivial, AllT.none', ⟨trivial, AllT.none', ⟨trivial, AllT.some' rm242, trivial⟩⟩⟩⟩, AllT.some' rm10, ⟨⟨trivial, AllT.some' rm42, trivial⟩, AllT.some' rm26, trivial⟩⟩, AllT.none', ⟨⟨trivial, AllT.some' rm22, trivial⟩, AllT.none', ⟨⟨trivial, AllT.some' rm46, ⟨trivial, AllT.none', ⟨trivial, AllT.some' rm238, trivial⟩⟩⟩, AllT.none', trivial⟩⟩⟩⟩⟩
theorem ov6 : OvRow (.i (.i (.h))) (memoP uniT) := .of (br := kE2.branch) rfl (n := 6) (by kernel_rfl) (memoP_ok env_ok2 tab_ok2 (by kernel_rfl) (List.forall_mem_cons.2 ⟨keptU0, List.forall_mem_cons.2 ⟨keptU1, List.forall_mem_cons.2 ⟨keptU2, List.forall_mem_cons.2 ⟨keptU3, List.forall_mem_cons.2 ⟨keptU4, List.forall_mem_cons.2 ⟨keptU5, List.forall_mem_cons.2 ⟨keptU6, List.forall_mem_cons.2 ⟨keptU7, List.forall_mem_cons.2 ⟨keptU8, List.forall_mem_cons.2 ⟨keptU9, List.forall_mem_cons.2 ⟨keptU10, List.forall_mem_cons.2 ⟨keptU11, List.forall_mem_cons.2 ⟨keptU12, List.forall_mem_cons.2 ⟨keptU13, List.forall_mem_cons.2 ⟨keptU14, List.forall_mem_cons.2 ⟨keptU15, List.forall_mem_cons.2 ⟨keptU16, List.forall_mem_cons.2 ⟨keptU17, fun _ h => nomatch h⟩⟩⟩⟩⟩⟩⟩⟩⟩⟩⟩⟩⟩⟩⟩⟩⟩⟩))
theorem ov11 : OvRow (.o (.o (.i (.h)))) ovFullD := .of (br := kE1.branch) rfl (n := 11) (by kernel_rfl) (ovFullD_ok (full_ok env_ok1 (by decide) (by rw [fns_eq1]; kernel_rfl) (by decide) (by rw [fns_eq1]; kernel_rfl) 40))
theorem ov25 : OvRow (.o (.i (.o (.i (.h))))) ovNamD := .of (br := kE1.branch) rfl (n := 25) (by kernel_rfl) (ovNamD_ok (nam_ok env_ok1 (by decide) (by rw [fns_eq1]; kernel_rfl) (by decide) (by rw [fns_eq1]; kernel_rfl) 40))
theorem ov9 : OvRow (.o (.i (.o (.h)))) ovWrD := .of (br := kE1.branch) rfl (n := 9) (by kernel_rfl) (ovWrD_ok (wr_ok env_ok1 (by decide) (by rw [fns_eq1]; kernel_rfl) (by rw [fns_eq1]; kernel_rfl) (by kernel_rfl) (by decide) (by rw [fns_eq1]; kernel_rfl) 40))
set_option maxRecDepth 20000 in
theorem ov_ok3 : AllT OvRow overT3 := ⟨⟨⟨⟨⟨⟨trivial, AllT.none', ⟨⟨trivial, AllT.some' ov159, trivial⟩, AllT.none', trivial⟩⟩, AllT.none', trivial⟩, AllT.none', trivial⟩, AllT.none', ⟨⟨trivial, AllT.none', ⟨trivial, AllT.none', ⟨trivial, AllT.none', ⟨trivial, AllT.some' ov243, trivial⟩⟩⟩⟩, AllT.some' ov11, trivial⟩⟩, AllT.none', ⟨⟨trivial, AllT.some' ov9, ⟨trivial, AllT.some' ov25, trivial⟩⟩, AllT.some' ov5, trivial⟩⟩, AllT.none', ⟨⟨⟨trivial, AllT.none', ⟨trivial, AllT.none', ⟨trivial, AllT.some' ov56, trivial⟩⟩⟩, AllT.none', ⟨trivial, AllT.none', ⟨⟨⟨trivial, AllT.none', ⟨trivial, AllT.some' ov204, trivial⟩⟩, AllT.none', trivial⟩, AllT.none', trivial⟩⟩⟩, AllT.none', ⟨⟨⟨trivial, AllT.none', ⟨⟨trivial, AllT.none', ⟨trivial, AllT.some' ov210, trivial⟩⟩, AllT.none', ⟨⟨trivial, AllT.some' ov178, trivial⟩, AllT.none', trivial⟩⟩⟩, AllT.none', ⟨trivial, AllT.none', ⟨⟨⟨trivial, AllT.some' ov154, trivial⟩, AllT.none', trivial⟩, AllT.none', trivial⟩⟩⟩, AllT.some' ov6, ⟨trivial, AllT.none', ⟨⟨⟨⟨trivial, AllT.some' ov142, trivial⟩, AllT.none', trivial⟩, AllT.none', trivial⟩, AllT.none', trivial⟩⟩⟩⟩⟩
set_option maxRecDepth 20000 in
theorem env_ok3 : EnvOk ctx kE3 where
  fns := fun g fn h => fns_ok h
  over := fun g h he => by
    have he' : getT (nm g) overT3 = some h := he
    rw [getT_eq] at he'
    exact AllT.get ov_ok3 he' g rfl
  mixed := by kernel_rfl
  ks := ks_ok
  hm := fun _ _ _ h => by cases h
  methods := me_ok
end Go.Eng
