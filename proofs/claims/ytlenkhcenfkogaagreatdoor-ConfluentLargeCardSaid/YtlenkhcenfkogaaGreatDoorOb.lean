/- The tables of the second layer are those of the program. -/
import Derived.Test.YtlenkhcenfkogaaGreatDoorOa
import Derived.Test.YtlenkhcenfkogaaGreatDoorSb
import Derived.KernelRfl
set_option linter.unusedVariables false
set_option linter.unusedSimpArgs false
set_option maxRecDepth 20000
namespace Go.Eng
open Go.Proofs
theorem ek5 : (fnB Tryz.prog gG Tryz.f5).bind (kfun kE1 lk5) = some k5 := by kernel_rfl
theorem ek6 : (fnB Tryz.prog gG Tryz.f6).bind (kfun kE1 lk6) = some k6 := by kernel_rfl
theorem ek13 : (fnB Tryz.prog gG Tryz.f13).bind (kfun kE1 lk13) = some k13 := by kernel_rfl
theorem ek14 : (fnB Tryz.prog gG Tryz.f14).bind (kfun kE1 lk14) = some k14 := by kernel_rfl
theorem ek15 : (fnB Tryz.prog gG Tryz.f15).bind (kfun kE1 lk15) = some k15 := by kernel_rfl
theorem ek16 : (fnB Tryz.prog gG Tryz.f16).bind (kfun kE1 lk16) = some k16 := by kernel_rfl
theorem ek17 : (fnB Tryz.prog gG Tryz.f17).bind (kfun kE1 lk17) = some k17 := by kernel_rfl
theorem ek18 : (fnB Tryz.prog gG Tryz.f18).bind (kfun kE1 lk18) = some k18 := by kernel_rfl
theorem ek19 : (fnB Tryz.prog gG Tryz.f19).bind (kfun kE1 lk19) = some k19 := by kernel_rfl
theorem ek20 : (fnB Tryz.prog gG Tryz.f20).bind (kfun kE1 lk20) = some k20 := by kernel_rfl
theorem ek21 : (fnB Tryz.prog gG Tryz.f21).bind (kfun kE1 lk21) = some k21 := by kernel_rfl
theorem ek27 : (fnB Tryz.prog gG Tryz.f27).bind (kfun kE1 lk27) = some k27 := by kernel_rfl
theorem ek28 : (fnB Tryz.prog gG Tryz.f28).bind (kfun kE1 lk28) = some k28 := by kernel_rfl
theorem ek29 : (fnB Tryz.prog gG Tryz.f29).bind (kfun kE1 lk29) = some k29 := by kernel_rfl
theorem ek30 : (fnB Tryz.prog gG Tryz.f30).bind (kfun kE1 lk30) = some k30 := by kernel_rfl
theorem ek31 : (fnB Tryz.prog gG Tryz.f31).bind (kfun kE1 lk31) = some k31 := by kernel_rfl
theorem ek32 : (fnB Tryz.prog gG Tryz.f32).bind (kfun kE1 lk32) = some k32 := by kernel_rfl
theorem ek33 : (fnB Tryz.prog gG Tryz.f33).bind (kfun kE1 lk33) = some k33 := by kernel_rfl
theorem ek34 : (fnB Tryz.prog gG Tryz.f34).bind (kfun kE1 lk34) = some k34 := by kernel_rfl
theorem ek35 : (fnB Tryz.prog gG Tryz.f35).bind (kfun kE1 lk35) = some k35 := by kernel_rfl
theorem ek36 : (fnB Tryz.prog gG Tryz.f36).bind (kfun kE1 lk36) = some k36 := by kernel_rfl
theorem ek37 : (fnB Tryz.prog gG Tryz.f37).bind (kfun kE1 lk37) = some k37 := by kernel_rfl
theorem ek38 : (fnB Tryz.prog gG Tryz.f38).bind (kfun kE1 lk38) = some k38 := by kernel_rfl
theorem ek39 : (fnB Tryz.prog gG Tryz.f39).bind (kfun kE1 lk39) = some k39 := by kernel_rfl
theorem ek40 : (fnB Tryz.prog gG Tryz.f40).bind (kfun kE1 lk40) = some k40 := by kernel_rfl
theorem ek41 : (fnB Tryz.prog gG Tryz.f41).bind (kfun kE1 lk41) = some k41 := by kernel_rfl
theorem ek48 : (fnB Tryz.prog gG Tryz.f48).bind (kfun kE1 lk48) = some k48 := by kernel_rfl
theorem ek49 : (fnB Tryz.prog gG Tryz.f49).bind (kfun kE1 lk49) = some k49 := by kernel_rfl
theorem ek50 : (fnB Tryz.prog gG Tryz.f50).bind (kfun kE1 lk50) = some k50 := by kernel_rfl
theorem ek51 : (fnB Tryz.prog gG Tryz.f51).bind (kfun kE1 lk51) = some k51 := by kernel_rfl
theorem ek52 : (fnB Tryz.prog gG Tryz.f52).bind (kfun kE1 lk52) = some k52 := by kernel_rfl
theorem ek53 : (fnB Tryz.prog gG Tryz.f53).bind (kfun kE1 lk53) = some k53 := by kernel_rfl
theorem ek54 : (fnB Tryz.prog gG Tryz.f54).bind (kfun kE1 lk54) = some k54 := by kernel_rfl
theorem ek57 : (fnB Tryz.prog gG Tryz.f57).bind (kfun kE1 lk57) = some k57 := by kernel_rfl
theorem ek69 : (fnB Tryz.prog gG Tryz.f69).bind (kfun kE1 lk69) = some k69 := by kernel_rfl
theorem ek70 : (fnB Tryz.prog gG Tryz.f70).bind (kfun kE1 lk70) = some k70 := by kernel_rfl
theorem ek71 : (fnB Tryz.prog gG Tryz.f71).bind (kfun kE1 lk71) = some k71 := by kernel_rfl
theorem ek72 : (fnB Tryz.prog gG Tryz.f72).bind (kfun kE1 lk72) = some k72 := by kernel_rfl
theorem ek73 : (fnB Tryz.prog gG Tryz.f73).bind (kfun kE1 lk73) = some k73 := by kernel_rfl
theorem ek74 : (fnB Tryz.prog gG Tryz.f74).bind (kfun kE1 lk74) = some k74 := by kernel_rfl
theorem ek75 : (fnB Tryz.prog gG Tryz.f75).bind (kfun kE1 lk75) = some k75 := by kernel_rfl
theorem ek78 : (fnB Tryz.prog gG Tryz.f78).bind (kfun kE1 lk78) = some k78 := by kernel_rfl
theorem ek79 : (fnB Tryz.prog gG Tryz.f79).bind (kfun kE1 lk79) = some k79 := by kernel_rfl
theorem ek80 : (fnB Tryz.prog gG Tryz.f80).bind (kfun kE1 lk80) = some k80 := by kernel_rfl
theorem ek81 : (fnB Tryz.prog gG Tryz.f81).bind (kfun kE1 lk81) = some k81 := by kernel_rfl
theorem ek82 : (fnB Tryz.prog gG Tryz.f82).bind (kfun kE1 lk82) = some k82 := by kernel_rfl
theorem ek83 : (fnB Tryz.prog gG Tryz.f83).bind (kfun kE1 lk83) = some k83 := by kernel_rfl
theorem ek84 : (fnB Tryz.prog gG Tryz.f84).bind (kfun kE1 lk84) = some k84 := by kernel_rfl
theorem ek85 : (fnB Tryz.prog gG Tryz.f85).bind (kfun kE1 lk85) = some k85 := by kernel_rfl
theorem ek86 : (fnB Tryz.prog gG Tryz.f86).bind (kfun kE1 lk86) = some k86 := by kernel_rfl
theorem ek94 : (fnB Tryz.prog gG Tryz.f94).bind (kfun kE1 lk94) = some k94 := by kernel_rfl
theorem ek104 : (fnB Tryz.prog gG Tryz.f104).bind (kfun kE1 lk104) = some k104 := by kernel_rfl
theorem ek105 : (fnB Tryz.prog gG Tryz.f105).bind (kfun kE1 lk105) = some k105 := by kernel_rfl
theorem ek106 : (fnB Tryz.prog gG Tryz.f106).bind (kfun kE1 lk106) = some k106 := by kernel_rfl
theorem ek107 : (fnB Tryz.prog gG Tryz.f107).bind (kfun kE1 lk107) = some k107 := by kernel_rfl
theorem ek108 : (fnB Tryz.prog gG Tryz.f108).bind (kfun kE1 lk108) = some k108 := by kernel_rfl
theorem ek109 : (fnB Tryz.prog gG Tryz.f109).bind (kfun kE1 lk109) = some k109 := by kernel_rfl
theorem ek110 : (fnB Tryz.prog gG Tryz.f110).bind (kfun kE1 lk110) = some k110 := by kernel_rfl
theorem ek111 : (fnB Tryz.prog gG Tryz.f111).bind (kfun kE1 lk111) = some k111 := by kernel_rfl
theorem ek112 : (fnB Tryz.prog gG Tryz.f112).bind (kfun kE1 lk112) = some k112 := by kernel_rfl
theorem ek113 : (fnB Tryz.prog gG Tryz.f113).bind (kfun kE1 lk113) = some k113 := by kernel_rfl
theorem ek115 : (fnB Tryz.prog gG Tryz.f115).bind (kfun kE1 lk115) = some k115 := by kernel_rfl
theorem ek118 : (fnB Tryz.prog gG Tryz.f118).bind (kfun kE1 lk118) = some k118 := by kernel_rfl
theorem ek119 : (fnB Tryz.prog gG Tryz.f119).bind (kfun kE1 lk119) = some k119 := by kernel_rfl
theorem ek120 : (fnB Tryz.prog gG Tryz.f120).bind (kfun kE1 lk120) = some k120 := by kernel_rfl
theorem ek121 : (fnB Tryz.prog gG Tryz.f121).bind (kfun kE1 lk121) = some k121 := by kernel_rfl
theorem ek122 : (fnB Tryz.prog gG Tryz.f122).bind (kfun kE1 lk122) = some k122 := by kernel_rfl
theorem ek123 : (fnB Tryz.prog gG Tryz.f123).bind (kfun kE1 lk123) = some k123 := by kernel_rfl
theorem ek124 : (fnB Tryz.prog gG Tryz.f124).bind (kfun kE1 lk124) = some k124 := by kernel_rfl
theorem ek132 : (fnB Tryz.prog gG Tryz.f132).bind (kfun kE1 lk132) = some k132 := by kernel_rfl
theorem ek135 : (fnB Tryz.prog gG Tryz.f135).bind (kfun kE1 lk135) = some k135 := by kernel_rfl
theorem ek136 : (fnB Tryz.prog gG Tryz.f136).bind (kfun kE1 lk136) = some k136 := by kernel_rfl
theorem ek137 : (fnB Tryz.prog gG Tryz.f137).bind (kfun kE1 lk137) = some k137 := by kernel_rfl
theorem ek138 : (fnB Tryz.prog gG Tryz.f138).bind (kfun kE1 lk138) = some k138 := by kernel_rfl
theorem ek139 : (fnB Tryz.prog gG Tryz.f139).bind (kfun kE1 lk139) = some k139 := by kernel_rfl
theorem ek141 : (fnB Tryz.prog gG Tryz.f141).bind (kfun kE1 lk141) = some k141 := by kernel_rfl
theorem ek155 : (fnB Tryz.prog gG Tryz.f155).bind (kfun kE1 lk155) = some k155 := by kernel_rfl
theorem ek160 : (fnB Tryz.prog gG Tryz.f160).bind (kfun kE1 lk160) = some k160 := by kernel_rfl
theorem ek161 : (fnB Tryz.prog gG Tryz.f161).bind (kfun kE1 lk161) = some k161 := by kernel_rfl
theorem ek162 : (fnB Tryz.prog gG Tryz.f162).bind (kfun kE1 lk162) = some k162 := by kernel_rfl
theorem ek163 : (fnB Tryz.prog gG Tryz.f163).bind (kfun kE1 lk163) = some k163 := by kernel_rfl
theorem ek164 : (fnB Tryz.prog gG Tryz.f164).bind (kfun kE1 lk164) = some k164 := by kernel_rfl
theorem ek169 : (fnB Tryz.prog gG Tryz.f169).bind (kfun kE1 lk169) = some k169 := by kernel_rfl
theorem ek184 : (fnB Tryz.prog gG Tryz.f184).bind (kfun kE1 lk184) = some k184 := by kernel_rfl
theorem ek186 : (fnB Tryz.prog gG Tryz.f186).bind (kfun kE1 lk186) = some k186 := by kernel_rfl
theorem ek190 : (fnB Tryz.prog gG Tryz.f190).bind (kfun kE1 lk190) = some k190 := by kernel_rfl
theorem ek237 : (fnB Tryz.prog gG Tryz.f237).bind (kfun kE1 lk237) = some k237 := by kernel_rfl
theorem ek238 : (fnB Tryz.prog gG Tryz.f238).bind (kfun kE1 lk238) = some k238 := by kernel_rfl
theorem ek239 : (fnB Tryz.prog gG Tryz.f239).bind (kfun kE1 lk239) = some k239 := by kernel_rfl
theorem ek240 : (fnB Tryz.prog gG Tryz.f240).bind (kfun kE1 lk240) = some k240 := by kernel_rfl
theorem ek241 : (fnB Tryz.prog gG Tryz.f241).bind (kfun kE1 lk241) = some k241 := by kernel_rfl
theorem ek242 : (fnB Tryz.prog gG Tryz.f242).bind (kfun kE1 lk242) = some k242 := by kernel_rfl
theorem ek244 : (fnB Tryz.prog gG Tryz.f244).bind (kfun kE1 lk244) = some k244 := by kernel_rfl
theorem fns_eq1 (p : Nm) : kE1.fns p = fnsOf Tryz.prog gG p := by kernel_rfl
theorem rk5 : FnRow kE1 (.o (.i (.h))) k5 := fn_row (n := 5) fns_eq1 (by kernel_rfl) Tryz.func5 ek5
theorem rk6 : FnRow kE1 (.i (.i (.h))) k6 := fn_row (n := 6) fns_eq1 (by kernel_rfl) Tryz.func6 ek6
theorem rk13 : FnRow kE1 (.o (.i (.i (.h)))) k13 := fn_row (n := 13) fns_eq1 (by kernel_rfl) Tryz.func13 ek13
theorem rk14 : FnRow kE1 (.i (.i (.i (.h)))) k14 := fn_row (n := 14) fns_eq1 (by kernel_rfl) Tryz.func14 ek14
theorem rk15 : FnRow kE1 (.o (.o (.o (.o (.h))))) k15 := fn_row (n := 15) fns_eq1 (by kernel_rfl) Tryz.func15 ek15
theorem rk16 : FnRow kE1 (.i (.o (.o (.o (.h))))) k16 := fn_row (n := 16) fns_eq1 (by kernel_rfl) Tryz.func16 ek16
theorem rk17 : FnRow kE1 (.o (.i (.o (.o (.h))))) k17 := fn_row (n := 17) fns_eq1 (by kernel_rfl) Tryz.func17 ek17
theorem rk18 : FnRow kE1 (.i (.i (.o (.o (.h))))) k18 := fn_row (n := 18) fns_eq1 (by kernel_rfl) Tryz.func18 ek18
theorem rk19 : FnRow kE1 (.o (.o (.i (.o (.h))))) k19 := fn_row (n := 19) fns_eq1 (by kernel_rfl) Tryz.func19 ek19
theorem rk20 : FnRow kE1 (.i (.o (.i (.o (.h))))) k20 := fn_row (n := 20) fns_eq1 (by kernel_rfl) Tryz.func20 ek20
theorem rk21 : FnRow kE1 (.o (.i (.i (.o (.h))))) k21 := fn_row (n := 21) fns_eq1 (by kernel_rfl) Tryz.func21 ek21
theorem rk27 : FnRow kE1 (.o (.o (.i (.i (.h))))) k27 := fn_row (n := 27) fns_eq1 (by kernel_rfl) Tryz.func27 ek27
theorem rk28 : FnRow kE1 (.i (.o (.i (.i (.h))))) k28 := fn_row (n := 28) fns_eq1 (by kernel_rfl) Tryz.func28 ek28
theorem rk29 : FnRow kE1 (.o (.i (.i (.i (.h))))) k29 := fn_row (n := 29) fns_eq1 (by kernel_rfl) Tryz.func29 ek29
theorem rk30 : FnRow kE1 (.i (.i (.i (.i (.h))))) k30 := fn_row (n := 30) fns_eq1 (by kernel_rfl) Tryz.func30 ek30
theorem rk31 : FnRow kE1 (.o (.o (.o (.o (.o (.h)))))) k31 := fn_row (n := 31) fns_eq1 (by kernel_rfl) Tryz.func31 ek31
theorem rk32 : FnRow kE1 (.i (.o (.o (.o (.o (.h)))))) k32 := fn_row (n := 32) fns_eq1 (by kernel_rfl) Tryz.func32 ek32
theorem rk33 : FnRow kE1 (.o (.i (.o (.o (.o (.h)))))) k33 := fn_row (n := 33) fns_eq1 (by kernel_rfl) Tryz.func33 ek33
theorem rk34 : FnRow kE1 (.i (.i (.o (.o (.o (.h)))))) k34 := fn_row (n := 34) fns_eq1 (by kernel_rfl) Tryz.func34 ek34
theorem rk35 : FnRow kE1 (.o (.o (.i (.o (.o (.h)))))) k35 := fn_row (n := 35) fns_eq1 (by kernel_rfl) Tryz.func35 ek35
theorem rk36 : FnRow kE1 (.i (.o (.i (.o (.o (.h)))))) k36 := fn_row (n := 36) fns_eq1 (by kernel_rfl) Tryz.func36 ek36
theorem rk37 : FnRow kE1 (.o (.i (.i (.o (.o (.h)))))) k37 := fn_row (n := 37) fns_eq1 (by kernel_rfl) Tryz.func37 ek37
theorem rk38 : FnRow kE1 (.i (.i (.i (.o (.o (.h)))))) k38 := fn_row (n := 38) fns_eq1 (by kernel_rfl) Tryz.func38 ek38
theorem rk39 : FnRow kE1 (.o (.o (.o (.i (.o (.h)))))) k39 := fn_row (n := 39) fns_eq1 (by kernel_rfl) Tryz.func39 ek39
theorem rk40 : FnRow kE1 (.i (.o (.o (.i (.o (.h)))))) k40 := fn_row (n := 40) fns_eq1 (by kernel_rfl) Tryz.func40 ek40
theorem rk41 : FnRow kE1 (.o (.i (.o (.i (.o (.h)))))) k41 := fn_row (n := 41) fns_eq1 (by kernel_rfl) Tryz.func41 ek41
theorem rk48 : FnRow kE1 (.i (.o (.o (.o (.i (.h)))))) k48 := fn_row (n := 48) fns_eq1 (by kernel_rfl) Tryz.func48 ek48
theorem rk49 : FnRow kE1 (.o (.i (.o (.o (.i (.h)))))) k49 := fn_row (n := 49) fns_eq1 (by kernel_rfl) Tryz.func49 ek49
theorem rk50 : FnRow kE1 (.i (.i (.o (.o (.i (.h)))))) k50 := fn_row (n := 50) fns_eq1 (by kernel_rfl) Tryz.func50 ek50
theorem rk51 : FnRow kE1 (.o (.o (.i (.o (.i (.h)))))) k51 := fn_row (n := 51) fns_eq1 (by kernel_rfl) Tryz.func51 ek51
theorem rk52 : FnRow kE1 (.i (.o (.i (.o (.i (.h)))))) k52 := fn_row (n := 52) fns_eq1 (by kernel_rfl) Tryz.func52 ek52
theorem rk53 : FnRow kE1 (.o (.i (.i (.o (.i (.h)))))) k53 := fn_row (n := 53) fns_eq1 (by kernel_rfl) Tryz.func53 ek53
theorem rk54 : FnRow kE1 (.i (.i (.i (.o (.i (.h)))))) k54 := fn_row (n := 54) fns_eq1 (by kernel_rfl) Tryz.func54 ek54
theorem rk57 : FnRow kE1 (.o (.i (.o (.i (.i (.h)))))) k57 := fn_row (n := 57) fns_eq1 (by kernel_rfl) Tryz.func57 ek57
theorem rk69 : FnRow kE1 (.o (.i (.i (.o (.o (.o (.h))))))) k69 := fn_row (n := 69) fns_eq1 (by kernel_rfl) Tryz.func69 ek69
theorem rk70 : FnRow kE1 (.i (.i (.i (.o (.o (.o (.h))))))) k70 := fn_row (n := 70) fns_eq1 (by kernel_rfl) Tryz.func70 ek70
theorem rk71 : FnRow kE1 (.o (.o (.o (.i (.o (.o (.h))))))) k71 := fn_row (n := 71) fns_eq1 (by kernel_rfl) Tryz.func71 ek71
theorem rk72 : FnRow kE1 (.i (.o (.o (.i (.o (.o (.h))))))) k72 := fn_row (n := 72) fns_eq1 (by kernel_rfl) Tryz.func72 ek72
theorem rk73 : FnRow kE1 (.o (.i (.o (.i (.o (.o (.h))))))) k73 := fn_row (n := 73) fns_eq1 (by kernel_rfl) Tryz.func73 ek73
theorem rk74 : FnRow kE1 (.i (.i (.o (.i (.o (.o (.h))))))) k74 := fn_row (n := 74) fns_eq1 (by kernel_rfl) Tryz.func74 ek74
theorem rk75 : FnRow kE1 (.o (.o (.i (.i (.o (.o (.h))))))) k75 := fn_row (n := 75) fns_eq1 (by kernel_rfl) Tryz.func75 ek75
theorem rk78 : FnRow kE1 (.i (.i (.i (.i (.o (.o (.h))))))) k78 := fn_row (n := 78) fns_eq1 (by kernel_rfl) Tryz.func78 ek78
theorem rk79 : FnRow kE1 (.o (.o (.o (.o (.i (.o (.h))))))) k79 := fn_row (n := 79) fns_eq1 (by kernel_rfl) Tryz.func79 ek79
theorem rk80 : FnRow kE1 (.i (.o (.o (.o (.i (.o (.h))))))) k80 := fn_row (n := 80) fns_eq1 (by kernel_rfl) Tryz.func80 ek80
theorem rk81 : FnRow kE1 (.o (.i (.o (.o (.i (.o (.h))))))) k81 := fn_row (n := 81) fns_eq1 (by kernel_rfl) Tryz.func81 ek81
theorem rk82 : FnRow kE1 (.i (.i (.o (.o (.i (.o (.h))))))) k82 := fn_row (n := 82) fns_eq1 (by kernel_rfl) Tryz.func82 ek82
theorem rk83 : FnRow kE1 (.o (.o (.i (.o (.i (.o (.h))))))) k83 := fn_row (n := 83) fns_eq1 (by kernel_rfl) Tryz.func83 ek83
theorem rk84 : FnRow kE1 (.i (.o (.i (.o (.i (.o (.h))))))) k84 := fn_row (n := 84) fns_eq1 (by kernel_rfl) Tryz.func84 ek84
theorem rk85 : FnRow kE1 (.o (.i (.i (.o (.i (.o (.h))))))) k85 := fn_row (n := 85) fns_eq1 (by kernel_rfl) Tryz.func85 ek85
theorem rk86 : FnRow kE1 (.i (.i (.i (.o (.i (.o (.h))))))) k86 := fn_row (n := 86) fns_eq1 (by kernel_rfl) Tryz.func86 ek86
theorem rk94 : FnRow kE1 (.i (.i (.i (.i (.i (.o (.h))))))) k94 := fn_row (n := 94) fns_eq1 (by kernel_rfl) Tryz.func94 ek94
theorem rk104 : FnRow kE1 (.i (.o (.o (.i (.o (.i (.h))))))) k104 := fn_row (n := 104) fns_eq1 (by kernel_rfl) Tryz.func104 ek104
theorem rk105 : FnRow kE1 (.o (.i (.o (.i (.o (.i (.h))))))) k105 := fn_row (n := 105) fns_eq1 (by kernel_rfl) Tryz.func105 ek105
theorem rk106 : FnRow kE1 (.i (.i (.o (.i (.o (.i (.h))))))) k106 := fn_row (n := 106) fns_eq1 (by kernel_rfl) Tryz.func106 ek106
theorem rk107 : FnRow kE1 (.o (.o (.i (.i (.o (.i (.h))))))) k107 := fn_row (n := 107) fns_eq1 (by kernel_rfl) Tryz.func107 ek107
theorem rk108 : FnRow kE1 (.i (.o (.i (.i (.o (.i (.h))))))) k108 := fn_row (n := 108) fns_eq1 (by kernel_rfl) Tryz.func108 ek108
theorem rk109 : FnRow kE1 (.o (.i (.i (.i (.o (.i (.h))))))) k109 := fn_row (n := 109) fns_eq1 (by kernel_rfl) Tryz.func109 ek109
theorem rk110 : FnRow kE1 (.i (.i (.i (.i (.o (.i (.h))))))) k110 := fn_row (n := 110) fns_eq1 (by kernel_rfl) Tryz.func110 ek110
theorem rk111 : FnRow kE1 (.o (.o (.o (.o (.i (.i (.h))))))) k111 := fn_row (n := 111) fns_eq1 (by kernel_rfl) Tryz.func111 ek111
theorem rk112 : FnRow kE1 (.i (.o (.o (.o (.i (.i (.h))))))) k112 := fn_row (n := 112) fns_eq1 (by kernel_rfl) Tryz.func112 ek112
theorem rk113 : FnRow kE1 (.o (.i (.o (.o (.i (.i (.h))))))) k113 := fn_row (n := 113) fns_eq1 (by kernel_rfl) Tryz.func113 ek113
theorem rk115 : FnRow kE1 (.o (.o (.i (.o (.i (.i (.h))))))) k115 := fn_row (n := 115) fns_eq1 (by kernel_rfl) Tryz.func115 ek115
theorem rk118 : FnRow kE1 (.i (.i (.i (.o (.i (.i (.h))))))) k118 := fn_row (n := 118) fns_eq1 (by kernel_rfl) Tryz.func118 ek118
theorem rk119 : FnRow kE1 (.o (.o (.o (.i (.i (.i (.h))))))) k119 := fn_row (n := 119) fns_eq1 (by kernel_rfl) Tryz.func119 ek119
theorem rk120 : FnRow kE1 (.i (.o (.o (.i (.i (.i (.h))))))) k120 := fn_row (n := 120) fns_eq1 (by kernel_rfl) Tryz.func120 ek120
theorem rk121 : FnRow kE1 (.o (.i (.o (.i (.i (.i (.h))))))) k121 := fn_row (n := 121) fns_eq1 (by kernel_rfl) Tryz.func121 ek121
theorem rk122 : FnRow kE1 (.i (.i (.o (.i (.i (.i (.h))))))) k122 := fn_row (n := 122) fns_eq1 (by kernel_rfl) Tryz.func122 ek122
theorem rk123 : FnRow kE1 (.o (.o (.i (.i (.i (.i (.h))))))) k123 := fn_row (n := 123) fns_eq1 (by kernel_rfl) Tryz.func123 ek123
theorem rk124 : FnRow kE1 (.i (.o (.i (.i (.i (.i (.h))))))) k124 := fn_row (n := 124) fns_eq1 (by kernel_rfl) Tryz.func124 ek124
theorem rk132 : FnRow kE1 (.i (.o (.i (.o (.o (.o (.o (.h)))))))) k132 := fn_row (n := 132) fns_eq1 (by kernel_rfl) Tryz.func132 ek132
theorem rk135 : FnRow kE1 (.o (.o (.o (.i (.o (.o (.o (.h)))))))) k135 := fn_row (n := 135) fns_eq1 (by kernel_rfl) Tryz.func135 ek135
theorem rk136 : FnRow kE1 (.i (.o (.o (.i (.o (.o (.o (.h)))))))) k136 := fn_row (n := 136) fns_eq1 (by kernel_rfl) Tryz.func136 ek136
theorem rk137 : FnRow kE1 (.o (.i (.o (.i (.o (.o (.o (.h)))))))) k137 := fn_row (n := 137) fns_eq1 (by kernel_rfl) Tryz.func137 ek137
theorem rk138 : FnRow kE1 (.i (.i (.o (.i (.o (.o (.o (.h)))))))) k138 := fn_row (n := 138) fns_eq1 (by kernel_rfl) Tryz.func138 ek138
theorem rk139 : FnRow kE1 (.o (.o (.i (.i (.o (.o (.o (.h)))))))) k139 := fn_row (n := 139) fns_eq1 (by kernel_rfl) Tryz.func139 ek139
theorem rk141 : FnRow kE1 (.o (.i (.i (.i (.o (.o (.o (.h)))))))) k141 := fn_row (n := 141) fns_eq1 (by kernel_rfl) Tryz.func141 ek141
theorem rk155 : FnRow kE1 (.o (.o (.i (.i (.i (.o (.o (.h)))))))) k155 := fn_row (n := 155) fns_eq1 (by kernel_rfl) Tryz.func155 ek155
theorem rk160 : FnRow kE1 (.i (.o (.o (.o (.o (.i (.o (.h)))))))) k160 := fn_row (n := 160) fns_eq1 (by kernel_rfl) Tryz.func160 ek160
theorem rk161 : FnRow kE1 (.o (.i (.o (.o (.o (.i (.o (.h)))))))) k161 := fn_row (n := 161) fns_eq1 (by kernel_rfl) Tryz.func161 ek161
theorem rk162 : FnRow kE1 (.i (.i (.o (.o (.o (.i (.o (.h)))))))) k162 := fn_row (n := 162) fns_eq1 (by kernel_rfl) Tryz.func162 ek162
theorem rk163 : FnRow kE1 (.o (.o (.i (.o (.o (.i (.o (.h)))))))) k163 := fn_row (n := 163) fns_eq1 (by kernel_rfl) Tryz.func163 ek163
theorem rk164 : FnRow kE1 (.i (.o (.i (.o (.o (.i (.o (.h)))))))) k164 := fn_row (n := 164) fns_eq1 (by kernel_rfl) Tryz.func164 ek164
theorem rk169 : FnRow kE1 (.o (.i (.o (.i (.o (.i (.o (.h)))))))) k169 := fn_row (n := 169) fns_eq1 (by kernel_rfl) Tryz.func169 ek169
theorem rk184 : FnRow kE1 (.i (.o (.o (.i (.i (.i (.o (.h)))))))) k184 := fn_row (n := 184) fns_eq1 (by kernel_rfl) Tryz.func184 ek184
theorem rk186 : FnRow kE1 (.i (.i (.o (.i (.i (.i (.o (.h)))))))) k186 := fn_row (n := 186) fns_eq1 (by kernel_rfl) Tryz.func186 ek186
theorem rk190 : FnRow kE1 (.i (.i (.i (.i (.i (.i (.o (.h)))))))) k190 := fn_row (n := 190) fns_eq1 (by kernel_rfl) Tryz.func190 ek190
theorem rk237 : FnRow kE1 (.o (.i (.i (.i (.o (.i (.i (.h)))))))) k237 := fn_row (n := 237) fns_eq1 (by kernel_rfl) Tryz.func237 ek237
theorem rk238 : FnRow kE1 (.i (.i (.i (.i (.o (.i (.i (.h)))))))) k238 := fn_row (n := 238) fns_eq1 (by kernel_rfl) Tryz.func238 ek238
theorem rk239 : FnRow kE1 (.o (.o (.o (.o (.i (.i (.i (.h)))))))) k239 := fn_row (n := 239) fns_eq1 (by kernel_rfl) Tryz.func239 ek239
theorem rk240 : FnRow kE1 (.i (.o (.o (.o (.i (.i (.i (.h)))))))) k240 := fn_row (n := 240) fns_eq1 (by kernel_rfl) Tryz.func240 ek240
theorem rk241 : FnRow kE1 (.o (.i (.o (.o (.i (.i (.i (.h)))))))) k241 := fn_row (n := 241) fns_eq1 (by kernel_rfl) Tryz.func241 ek241
theorem rk242 : FnRow kE1 (.i (.i (.o (.o (.i (.i (.i (.h)))))))) k242 := fn_row (n := 242) fns_eq1 (by kernel_rfl) Tryz.func242 ek242
theorem rk244 : FnRow kE1 (.i (.o (.i (.o (.i (.i (.i (.h)))))))) k244 := fn_row (n := 244) fns_eq1 (by kernel_rfl) Tryz.func244 ek244
set_option maxRecDepth 20000 in
theorem tab_ok1 : TabOk kE1 ktab1 := tab_of ⟨⟨⟨⟨⟨⟨trivial, AllT.some' rk31, trivial⟩, AllT.some' rk15, ⟨⟨trivial, AllT.some' rk79, trivial⟩, AllT.none', ⟨trivial, AllT.some' rk111, ⟨trivial, AllT.some' rk239, trivial⟩⟩⟩⟩, AllT.none', ⟨⟨⟨⟨trivial, AllT.some' rk135, trivial⟩, AllT.some' rk71, trivial⟩, AllT.some' rk39, trivial⟩, AllT.none', ⟨trivial, AllT.none', ⟨trivial, AllT.some' rk119, trivial⟩⟩⟩⟩, AllT.none', ⟨⟨⟨trivial, AllT.some' rk35, ⟨⟨trivial, AllT.some' rk163, trivial⟩, AllT.none', trivial⟩⟩, AllT.some' rk19, ⟨⟨trivial, AllT.some' rk83, trivial⟩, AllT.some' rk51, ⟨trivial, AllT.some' rk115, trivial⟩⟩⟩, AllT.none', ⟨⟨⟨⟨trivial, AllT.some' rk139, trivial⟩, AllT.some' rk75, trivial⟩, AllT.none', ⟨trivial, AllT.some' rk107, trivial⟩⟩, AllT.some' rk27, ⟨⟨⟨trivial, AllT.some' rk155, trivial⟩, AllT.none', trivial⟩, AllT.none', ⟨trivial, AllT.some' rk123, trivial⟩⟩⟩⟩⟩, AllT.none', ⟨⟨⟨⟨trivial, AllT.some' rk33, ⟨⟨trivial, AllT.some' rk161, trivial⟩, AllT.none', trivial⟩⟩, AllT.some' rk17, ⟨⟨trivial, AllT.some' rk81, trivial⟩, AllT.some' rk49, ⟨trivial, AllT.some' rk113, ⟨trivial, AllT.some' rk241, trivial⟩⟩⟩⟩, AllT.none', ⟨⟨⟨⟨trivial, AllT.some' rk137, trivial⟩, AllT.some' rk73, trivial⟩, AllT.some' rk41, ⟨⟨trivial, AllT.some' rk169, trivial⟩, AllT.some' rk105, trivial⟩⟩, AllT.none', ⟨trivial, AllT.some' rk57, ⟨trivial, AllT.some' rk121, trivial⟩⟩⟩⟩, AllT.some' rk5, ⟨⟨⟨⟨trivial, AllT.some' rk69, trivial⟩, AllT.some' rk37, trivial⟩, AllT.some' rk21, ⟨⟨trivial, AllT.some' rk85, trivial⟩, AllT.some' rk53, trivial⟩⟩, AllT.some' rk13, ⟨⟨⟨⟨trivial, AllT.some' rk141, trivial⟩, AllT.none', trivial⟩, AllT.none', ⟨trivial, AllT.some' rk109, ⟨trivial, AllT.some' rk237, trivial⟩⟩⟩, AllT.some' rk29, trivial⟩⟩⟩⟩, AllT.none', ⟨⟨⟨⟨⟨trivial, AllT.some' rk32, ⟨⟨trivial, AllT.some' rk160, trivial⟩, AllT.none', trivial⟩⟩, AllT.some' rk16, ⟨⟨trivial, AllT.some' rk80, trivial⟩, AllT.some' rk48, ⟨trivial, AllT.some' rk112, ⟨trivial, AllT.some' rk240, trivial⟩⟩⟩⟩, AllT.none', ⟨⟨⟨⟨trivial, AllT.some' rk136, trivial⟩, AllT.some' rk72, trivial⟩, AllT.some' rk40, ⟨trivial, AllT.some' rk104, trivial⟩⟩, AllT.none', ⟨trivial, AllT.none', ⟨⟨trivial, AllT.some' rk184, trivial⟩, AllT.some' rk120, trivial⟩⟩⟩⟩, AllT.none', ⟨⟨⟨⟨⟨trivial, AllT.some' rk132, trivial⟩, AllT.none', trivial⟩, AllT.some' rk36, ⟨⟨trivial, AllT.some' rk164, trivial⟩, AllT.none', trivial⟩⟩, AllT.some' rk20, ⟨⟨trivial, AllT.some' rk84, trivial⟩, AllT.some' rk52, ⟨trivial, AllT.none', ⟨trivial, AllT.some' rk244, trivial⟩⟩⟩⟩, AllT.none', ⟨⟨trivial, AllT.none', ⟨trivial, AllT.some' rk108, trivial⟩⟩, AllT.some' rk28, ⟨trivial, AllT.none', ⟨trivial, AllT.some' rk124, trivial⟩⟩⟩⟩⟩, AllT.none', ⟨⟨⟨⟨trivial, AllT.some' rk34, ⟨⟨trivial, AllT.some' rk162, trivial⟩, AllT.none', trivial⟩⟩, AllT.some' rk18, ⟨⟨trivial, AllT.some' rk82, trivial⟩, AllT.some' rk50, ⟨trivial, AllT.none', ⟨trivial, AllT.some' rk242, trivial⟩⟩⟩⟩, AllT.none', ⟨⟨⟨⟨trivial, AllT.some' rk138, trivial⟩, AllT.some' rk74, trivial⟩, AllT.none', ⟨trivial, AllT.some' rk106, trivial⟩⟩, AllT.none', ⟨trivial, AllT.none', ⟨⟨trivial, AllT.some' rk186, trivial⟩, AllT.some' rk122, trivial⟩⟩⟩⟩, AllT.some' rk6, ⟨⟨⟨⟨trivial, AllT.some' rk70, trivial⟩, AllT.some' rk38, trivial⟩, AllT.none', ⟨⟨trivial, AllT.some' rk86, trivial⟩, AllT.some' rk54, ⟨trivial, AllT.some' rk118, trivial⟩⟩⟩, AllT.some' rk14, ⟨⟨⟨trivial, AllT.some' rk78, trivial⟩, AllT.none', ⟨trivial, AllT.some' rk110, ⟨trivial, AllT.some' rk238, trivial⟩⟩⟩, AllT.some' rk30, ⟨⟨trivial, AllT.some' rk94, trivial⟩, AllT.none', ⟨⟨trivial, AllT.some' rk190, trivial⟩, AllT.none', trivial⟩⟩⟩⟩⟩⟩⟩
set_option maxRecDepth 20000 in
theorem ov_ok1 : AllT OvRow overT1 := ⟨⟨⟨⟨⟨⟨trivial, AllT.none', ⟨⟨trivial, AllT.some' ov159, trivial⟩, AllT.none', trivial⟩⟩, AllT.none', trivial⟩, AllT.none', trivial⟩, AllT.none', ⟨⟨trivial, AllT.none', ⟨trivial, AllT.none', ⟨trivial, AllT.none', ⟨trivial, AllT.some' ov243, trivial⟩⟩⟩⟩, AllT.none', trivial⟩⟩, AllT.none', trivial⟩, AllT.none', ⟨⟨⟨trivial, AllT.none', ⟨trivial, AllT.none', ⟨trivial, AllT.some' ov56, trivial⟩⟩⟩, AllT.none', ⟨trivial, AllT.none', ⟨⟨⟨trivial, AllT.none', ⟨trivial, AllT.some' ov204, trivial⟩⟩, AllT.none', trivial⟩, AllT.none', trivial⟩⟩⟩, AllT.none', ⟨⟨⟨trivial, AllT.none', ⟨⟨trivial, AllT.none', ⟨trivial, AllT.some' ov210, trivial⟩⟩, AllT.none', ⟨⟨trivial, AllT.some' ov178, trivial⟩, AllT.none', trivial⟩⟩⟩, AllT.none', ⟨trivial, AllT.none', ⟨⟨⟨trivial, AllT.some' ov154, trivial⟩, AllT.none', trivial⟩, AllT.none', trivial⟩⟩⟩, AllT.none', ⟨trivial, AllT.none', ⟨⟨⟨⟨trivial, AllT.some' ov142, trivial⟩, AllT.none', trivial⟩, AllT.none', trivial⟩, AllT.none', trivial⟩⟩⟩⟩⟩
set_option maxRecDepth 20000 in
theorem env_ok1 : EnvOk ctx kE1 where
  fns := fun g fn h => fns_ok h
  over := fun g h he => by
    have he' : getT (nm g) overT1 = some h := he
    rw [getT_eq] at he'
    exact AllT.get ov_ok1 he' g rfl
  mixed := by kernel_rfl
  ks := ks_ok
  hm := fun _ _ _ h => by cases h
  methods := me_ok
theorem kept5 : KeptP kE1 ktab1 5 10000 3000 ([], memoV5) := ⟨by decide +kernel, by decide +kernel, by decide +kernel⟩
theorem ov5 : OvRow (.o (.i (.h))) (memoP [([], memoV5)]) := .of (br := kE1.branch) rfl (n := 5) (by kernel_rfl) (memoP_ok env_ok1 tab_ok1 (by kernel_rfl) (List.forall_mem_cons.2 ⟨kept5, fun _ h => nomatch h⟩))
end Go.Eng
