/- The tables of the third layer are those of the program. -/
import Derived.Test.YtlenkhcenfkogaaGreatDoorOb
import Derived.Test.YtlenkhcenfkogaaGreatDoorSc
import Derived.KernelRfl
set_option linter.unusedVariables false
set_option linter.unusedSimpArgs false
set_option maxRecDepth 20000
namespace Go.Eng
open Go.Proofs
theorem eq6 : (fnB Tryz.prog gG Tryz.f6).bind (kfun kE2 lq6) = some q6 := by kernel_rfl
theorem eq16 : (fnB Tryz.prog gG Tryz.f16).bind (kfun kE2 lq16) = some q16 := by kernel_rfl
theorem eq17 : (fnB Tryz.prog gG Tryz.f17).bind (kfun kE2 lq17) = some q17 := by kernel_rfl
theorem eq18 : (fnB Tryz.prog gG Tryz.f18).bind (kfun kE2 lq18) = some q18 := by kernel_rfl
theorem eq19 : (fnB Tryz.prog gG Tryz.f19).bind (kfun kE2 lq19) = some q19 := by kernel_rfl
theorem eq20 : (fnB Tryz.prog gG Tryz.f20).bind (kfun kE2 lq20) = some q20 := by kernel_rfl
theorem eq31 : (fnB Tryz.prog gG Tryz.f31).bind (kfun kE2 lq31) = some q31 := by kernel_rfl
theorem eq32 : (fnB Tryz.prog gG Tryz.f32).bind (kfun kE2 lq32) = some q32 := by kernel_rfl
theorem eq33 : (fnB Tryz.prog gG Tryz.f33).bind (kfun kE2 lq33) = some q33 := by kernel_rfl
theorem eq34 : (fnB Tryz.prog gG Tryz.f34).bind (kfun kE2 lq34) = some q34 := by kernel_rfl
theorem eq35 : (fnB Tryz.prog gG Tryz.f35).bind (kfun kE2 lq35) = some q35 := by kernel_rfl
theorem eq36 : (fnB Tryz.prog gG Tryz.f36).bind (kfun kE2 lq36) = some q36 := by kernel_rfl
theorem eq37 : (fnB Tryz.prog gG Tryz.f37).bind (kfun kE2 lq37) = some q37 := by kernel_rfl
theorem eq38 : (fnB Tryz.prog gG Tryz.f38).bind (kfun kE2 lq38) = some q38 := by kernel_rfl
theorem eq39 : (fnB Tryz.prog gG Tryz.f39).bind (kfun kE2 lq39) = some q39 := by kernel_rfl
theorem eq40 : (fnB Tryz.prog gG Tryz.f40).bind (kfun kE2 lq40) = some q40 := by kernel_rfl
theorem eq41 : (fnB Tryz.prog gG Tryz.f41).bind (kfun kE2 lq41) = some q41 := by kernel_rfl
theorem eq54 : (fnB Tryz.prog gG Tryz.f54).bind (kfun kE2 lq54) = some q54 := by kernel_rfl
theorem eq57 : (fnB Tryz.prog gG Tryz.f57).bind (kfun kE2 lq57) = some q57 := by kernel_rfl
theorem eq69 : (fnB Tryz.prog gG Tryz.f69).bind (kfun kE2 lq69) = some q69 := by kernel_rfl
theorem eq70 : (fnB Tryz.prog gG Tryz.f70).bind (kfun kE2 lq70) = some q70 := by kernel_rfl
theorem eq71 : (fnB Tryz.prog gG Tryz.f71).bind (kfun kE2 lq71) = some q71 := by kernel_rfl
theorem eq72 : (fnB Tryz.prog gG Tryz.f72).bind (kfun kE2 lq72) = some q72 := by kernel_rfl
theorem eq73 : (fnB Tryz.prog gG Tryz.f73).bind (kfun kE2 lq73) = some q73 := by kernel_rfl
theorem eq74 : (fnB Tryz.prog gG Tryz.f74).bind (kfun kE2 lq74) = some q74 := by kernel_rfl
theorem eq75 : (fnB Tryz.prog gG Tryz.f75).bind (kfun kE2 lq75) = some q75 := by kernel_rfl
theorem eq82 : (fnB Tryz.prog gG Tryz.f82).bind (kfun kE2 lq82) = some q82 := by kernel_rfl
theorem eq94 : (fnB Tryz.prog gG Tryz.f94).bind (kfun kE2 lq94) = some q94 := by kernel_rfl
theorem eq104 : (fnB Tryz.prog gG Tryz.f104).bind (kfun kE2 lq104) = some q104 := by kernel_rfl
theorem eq105 : (fnB Tryz.prog gG Tryz.f105).bind (kfun kE2 lq105) = some q105 := by kernel_rfl
theorem eq106 : (fnB Tryz.prog gG Tryz.f106).bind (kfun kE2 lq106) = some q106 := by kernel_rfl
theorem eq107 : (fnB Tryz.prog gG Tryz.f107).bind (kfun kE2 lq107) = some q107 := by kernel_rfl
theorem eq108 : (fnB Tryz.prog gG Tryz.f108).bind (kfun kE2 lq108) = some q108 := by kernel_rfl
theorem eq109 : (fnB Tryz.prog gG Tryz.f109).bind (kfun kE2 lq109) = some q109 := by kernel_rfl
theorem eq110 : (fnB Tryz.prog gG Tryz.f110).bind (kfun kE2 lq110) = some q110 := by kernel_rfl
theorem eq111 : (fnB Tryz.prog gG Tryz.f111).bind (kfun kE2 lq111) = some q111 := by kernel_rfl
theorem eq112 : (fnB Tryz.prog gG Tryz.f112).bind (kfun kE2 lq112) = some q112 := by kernel_rfl
theorem eq113 : (fnB Tryz.prog gG Tryz.f113).bind (kfun kE2 lq113) = some q113 := by kernel_rfl
theorem eq115 : (fnB Tryz.prog gG Tryz.f115).bind (kfun kE2 lq115) = some q115 := by kernel_rfl
theorem eq132 : (fnB Tryz.prog gG Tryz.f132).bind (kfun kE2 lq132) = some q132 := by kernel_rfl
theorem eq135 : (fnB Tryz.prog gG Tryz.f135).bind (kfun kE2 lq135) = some q135 := by kernel_rfl
theorem eq136 : (fnB Tryz.prog gG Tryz.f136).bind (kfun kE2 lq136) = some q136 := by kernel_rfl
theorem eq137 : (fnB Tryz.prog gG Tryz.f137).bind (kfun kE2 lq137) = some q137 := by kernel_rfl
theorem eq138 : (fnB Tryz.prog gG Tryz.f138).bind (kfun kE2 lq138) = some q138 := by kernel_rfl
theorem eq139 : (fnB Tryz.prog gG Tryz.f139).bind (kfun kE2 lq139) = some q139 := by kernel_rfl
theorem eq141 : (fnB Tryz.prog gG Tryz.f141).bind (kfun kE2 lq141) = some q141 := by kernel_rfl
theorem eq155 : (fnB Tryz.prog gG Tryz.f155).bind (kfun kE2 lq155) = some q155 := by kernel_rfl
theorem eq160 : (fnB Tryz.prog gG Tryz.f160).bind (kfun kE2 lq160) = some q160 := by kernel_rfl
theorem eq161 : (fnB Tryz.prog gG Tryz.f161).bind (kfun kE2 lq161) = some q161 := by kernel_rfl
theorem eq162 : (fnB Tryz.prog gG Tryz.f162).bind (kfun kE2 lq162) = some q162 := by kernel_rfl
theorem eq163 : (fnB Tryz.prog gG Tryz.f163).bind (kfun kE2 lq163) = some q163 := by kernel_rfl
theorem eq164 : (fnB Tryz.prog gG Tryz.f164).bind (kfun kE2 lq164) = some q164 := by kernel_rfl
theorem eq169 : (fnB Tryz.prog gG Tryz.f169).bind (kfun kE2 lq169) = some q169 := by kernel_rfl
theorem eq184 : (fnB Tryz.prog gG Tryz.f184).bind (kfun kE2 lq184) = some q184 := by kernel_rfl
theorem eq186 : (fnB Tryz.prog gG Tryz.f186).bind (kfun kE2 lq186) = some q186 := by kernel_rfl
theorem eq190 : (fnB Tryz.prog gG Tryz.f190).bind (kfun kE2 lq190) = some q190 := by kernel_rfl
theorem eq237 : (fnB Tryz.prog gG Tryz.f237).bind (kfun kE2 lq237) = some q237 := by kernel_rfl
theorem eq244 : (fnB Tryz.prog gG Tryz.f244).bind (kfun kE2 lq244) = some q244 := by kernel_rfl
theorem fns_eq2 (p : Nm) : kE2.fns p = fnsOf Tryz.prog gG p := by kernel_rfl
theorem rq6 : FnRow kE2 (.i (.i (.h))) q6 := fn_row (n := 6) fns_eq2 (by kernel_rfl) Tryz.func6 eq6
theorem rq16 : FnRow kE2 (.i (.o (.o (.o (.h))))) q16 := fn_row (n := 16) fns_eq2 (by kernel_rfl) Tryz.func16 eq16
theorem rq17 : FnRow kE2 (.o (.i (.o (.o (.h))))) q17 := fn_row (n := 17) fns_eq2 (by kernel_rfl) Tryz.func17 eq17
theorem rq18 : FnRow kE2 (.i (.i (.o (.o (.h))))) q18 := fn_row (n := 18) fns_eq2 (by kernel_rfl) Tryz.func18 eq18
theorem rq19 : FnRow kE2 (.o (.o (.i (.o (.h))))) q19 := fn_row (n := 19) fns_eq2 (by kernel_rfl) Tryz.func19 eq19
theorem rq20 : FnRow kE2 (.i (.o (.i (.o (.h))))) q20 := fn_row (n := 20) fns_eq2 (by kernel_rfl) Tryz.func20 eq20
theorem rq31 : FnRow kE2 (.o (.o (.o (.o (.o (.h)))))) q31 := fn_row (n := 31) fns_eq2 (by kernel_rfl) Tryz.func31 eq31
theorem rq32 : FnRow kE2 (.i (.o (.o (.o (.o (.h)))))) q32 := fn_row (n := 32) fns_eq2 (by kernel_rfl) Tryz.func32 eq32
theorem rq33 : FnRow kE2 (.o (.i (.o (.o (.o (.h)))))) q33 := fn_row (n := 33) fns_eq2 (by kernel_rfl) Tryz.func33 eq33
theorem rq34 : FnRow kE2 (.i (.i (.o (.o (.o (.h)))))) q34 := fn_row (n := 34) fns_eq2 (by kernel_rfl) Tryz.func34 eq34
theorem rq35 : FnRow kE2 (.o (.o (.i (.o (.o (.h)))))) q35 := fn_row (n := 35) fns_eq2 (by kernel_rfl) Tryz.func35 eq35
theorem rq36 : FnRow kE2 (.i (.o (.i (.o (.o (.h)))))) q36 := fn_row (n := 36) fns_eq2 (by kernel_rfl) Tryz.func36 eq36
theorem rq37 : FnRow kE2 (.o (.i (.i (.o (.o (.h)))))) q37 := fn_row (n := 37) fns_eq2 (by kernel_rfl) Tryz.func37 eq37
theorem rq38 : FnRow kE2 (.i (.i (.i (.o (.o (.h)))))) q38 := fn_row (n := 38) fns_eq2 (by kernel_rfl) Tryz.func38 eq38
theorem rq39 : FnRow kE2 (.o (.o (.o (.i (.o (.h)))))) q39 := fn_row (n := 39) fns_eq2 (by kernel_rfl) Tryz.func39 eq39
theorem rq40 : FnRow kE2 (.i (.o (.o (.i (.o (.h)))))) q40 := fn_row (n := 40) fns_eq2 (by kernel_rfl) Tryz.func40 eq40
theorem rq41 : FnRow kE2 (.o (.i (.o (.i (.o (.h)))))) q41 := fn_row (n := 41) fns_eq2 (by kernel_rfl) Tryz.func41 eq41
theorem rq54 : FnRow kE2 (.i (.i (.i (.o (.i (.h)))))) q54 := fn_row (n := 54) fns_eq2 (by kernel_rfl) Tryz.func54 eq54
theorem rq57 : FnRow kE2 (.o (.i (.o (.i (.i (.h)))))) q57 := fn_row (n := 57) fns_eq2 (by kernel_rfl) Tryz.func57 eq57
theorem rq69 : FnRow kE2 (.o (.i (.i (.o (.o (.o (.h))))))) q69 := fn_row (n := 69) fns_eq2 (by kernel_rfl) Tryz.func69 eq69
theorem rq70 : FnRow kE2 (.i (.i (.i (.o (.o (.o (.h))))))) q70 := fn_row (n := 70) fns_eq2 (by kernel_rfl) Tryz.func70 eq70
theorem rq71 : FnRow kE2 (.o (.o (.o (.i (.o (.o (.h))))))) q71 := fn_row (n := 71) fns_eq2 (by kernel_rfl) Tryz.func71 eq71
theorem rq72 : FnRow kE2 (.i (.o (.o (.i (.o (.o (.h))))))) q72 := fn_row (n := 72) fns_eq2 (by kernel_rfl) Tryz.func72 eq72
theorem rq73 : FnRow kE2 (.o (.i (.o (.i (.o (.o (.h))))))) q73 := fn_row (n := 73) fns_eq2 (by kernel_rfl) Tryz.func73 eq73
theorem rq74 : FnRow kE2 (.i (.i (.o (.i (.o (.o (.h))))))) q74 := fn_row (n := 74) fns_eq2 (by kernel_rfl) Tryz.func74 eq74
theorem rq75 : FnRow kE2 (.o (.o (.i (.i (.o (.o (.h))))))) q75 := fn_row (n := 75) fns_eq2 (by kernel_rfl) Tryz.func75 eq75
theorem rq82 : FnRow kE2 (.i (.i (.o (.o (.i (.o (.h))))))) q82 := fn_row (n := 82) fns_eq2 (by kernel_rfl) Tryz.func82 eq82
theorem rq94 : FnRow kE2 (.i (.i (.i (.i (.i (.o (.h))))))) q94 := fn_row (n := 94) fns_eq2 (by kernel_rfl) Tryz.func94 eq94
theorem rq104 : FnRow kE2 (.i (.o (.o (.i (.o (.i (.h))))))) q104 := fn_row (n := 104) fns_eq2 (by kernel_rfl) Tryz.func104 eq104
theorem rq105 : FnRow kE2 (.o (.i (.o (.i (.o (.i (.h))))))) q105 := fn_row (n := 105) fns_eq2 (by kernel_rfl) Tryz.func105 eq105
theorem rq106 : FnRow kE2 (.i (.i (.o (.i (.o (.i (.h))))))) q106 := fn_row (n := 106) fns_eq2 (by kernel_rfl) Tryz.func106 eq106
theorem rq107 : FnRow kE2 (.o (.o (.i (.i (.o (.i (.h))))))) q107 := fn_row (n := 107) fns_eq2 (by kernel_rfl) Tryz.func107 eq107
theorem rq108 : FnRow kE2 (.i (.o (.i (.i (.o (.i (.h))))))) q108 := fn_row (n := 108) fns_eq2 (by kernel_rfl) Tryz.func108 eq108
theorem rq109 : FnRow kE2 (.o (.i (.i (.i (.o (.i (.h))))))) q109 := fn_row (n := 109) fns_eq2 (by kernel_rfl) Tryz.func109 eq109
theorem rq110 : FnRow kE2 (.i (.i (.i (.i (.o (.i (.h))))))) q110 := fn_row (n := 110) fns_eq2 (by kernel_rfl) Tryz.func110 eq110
theorem rq111 : FnRow kE2 (.o (.o (.o (.o (.i (.i (.h))))))) q111 := fn_row (n := 111) fns_eq2 (by kernel_rfl) Tryz.func111 eq111
theorem rq112 : FnRow kE2 (.i (.o (.o (.o (.i (.i (.h))))))) q112 := fn_row (n := 112) fns_eq2 (by kernel_rfl) Tryz.func112 eq112
theorem rq113 : FnRow kE2 (.o (.i (.o (.o (.i (.i (.h))))))) q113 := fn_row (n := 113) fns_eq2 (by kernel_rfl) Tryz.func113 eq113
theorem rq115 : FnRow kE2 (.o (.o (.i (.o (.i (.i (.h))))))) q115 := fn_row (n := 115) fns_eq2 (by kernel_rfl) Tryz.func115 eq115
theorem rq132 : FnRow kE2 (.i (.o (.i (.o (.o (.o (.o (.h)))))))) q132 := fn_row (n := 132) fns_eq2 (by kernel_rfl) Tryz.func132 eq132
theorem rq135 : FnRow kE2 (.o (.o (.o (.i (.o (.o (.o (.h)))))))) q135 := fn_row (n := 135) fns_eq2 (by kernel_rfl) Tryz.func135 eq135
theorem rq136 : FnRow kE2 (.i (.o (.o (.i (.o (.o (.o (.h)))))))) q136 := fn_row (n := 136) fns_eq2 (by kernel_rfl) Tryz.func136 eq136
theorem rq137 : FnRow kE2 (.o (.i (.o (.i (.o (.o (.o (.h)))))))) q137 := fn_row (n := 137) fns_eq2 (by kernel_rfl) Tryz.func137 eq137
theorem rq138 : FnRow kE2 (.i (.i (.o (.i (.o (.o (.o (.h)))))))) q138 := fn_row (n := 138) fns_eq2 (by kernel_rfl) Tryz.func138 eq138
theorem rq139 : FnRow kE2 (.o (.o (.i (.i (.o (.o (.o (.h)))))))) q139 := fn_row (n := 139) fns_eq2 (by kernel_rfl) Tryz.func139 eq139
theorem rq141 : FnRow kE2 (.o (.i (.i (.i (.o (.o (.o (.h)))))))) q141 := fn_row (n := 141) fns_eq2 (by kernel_rfl) Tryz.func141 eq141
theorem rq155 : FnRow kE2 (.o (.o (.i (.i (.i (.o (.o (.h)))))))) q155 := fn_row (n := 155) fns_eq2 (by kernel_rfl) Tryz.func155 eq155
theorem rq160 : FnRow kE2 (.i (.o (.o (.o (.o (.i (.o (.h)))))))) q160 := fn_row (n := 160) fns_eq2 (by kernel_rfl) Tryz.func160 eq160
theorem rq161 : FnRow kE2 (.o (.i (.o (.o (.o (.i (.o (.h)))))))) q161 := fn_row (n := 161) fns_eq2 (by kernel_rfl) Tryz.func161 eq161
theorem rq162 : FnRow kE2 (.i (.i (.o (.o (.o (.i (.o (.h)))))))) q162 := fn_row (n := 162) fns_eq2 (by kernel_rfl) Tryz.func162 eq162
theorem rq163 : FnRow kE2 (.o (.o (.i (.o (.o (.i (.o (.h)))))))) q163 := fn_row (n := 163) fns_eq2 (by kernel_rfl) Tryz.func163 eq163
theorem rq164 : FnRow kE2 (.i (.o (.i (.o (.o (.i (.o (.h)))))))) q164 := fn_row (n := 164) fns_eq2 (by kernel_rfl) Tryz.func164 eq164
theorem rq169 : FnRow kE2 (.o (.i (.o (.i (.o (.i (.o (.h)))))))) q169 := fn_row (n := 169) fns_eq2 (by kernel_rfl) Tryz.func169 eq169
theorem rq184 : FnRow kE2 (.i (.o (.o (.i (.i (.i (.o (.h)))))))) q184 := fn_row (n := 184) fns_eq2 (by kernel_rfl) Tryz.func184 eq184
theorem rq186 : FnRow kE2 (.i (.i (.o (.i (.i (.i (.o (.h)))))))) q186 := fn_row (n := 186) fns_eq2 (by kernel_rfl) Tryz.func186 eq186
theorem rq190 : FnRow kE2 (.i (.i (.i (.i (.i (.i (.o (.h)))))))) q190 := fn_row (n := 190) fns_eq2 (by kernel_rfl) Tryz.func190 eq190
theorem rq237 : FnRow kE2 (.o (.i (.i (.i (.o (.i (.i (.h)))))))) q237 := fn_row (n := 237) fns_eq2 (by kernel_rfl) Tryz.func237 eq237
theorem rq244 : FnRow kE2 (.i (.o (.i (.o (.i (.i (.i (.h)))))))) q244 := fn_row (n := 244) fns_eq2 (by kernel_rfl) Tryz.func244 eq244
set_option maxRecDepth 20000 in
theorem tab_ok2 : TabOk kE2 ktab2 := tab_of ⟨⟨⟨⟨⟨⟨trivial, AllT.some' rq31, trivial⟩, AllT.none', ⟨trivial, AllT.none', ⟨trivial, AllT.some' rq111, trivial⟩⟩⟩, AllT.none', ⟨⟨⟨⟨trivial, AllT.some' rq135, trivial⟩, AllT.some' rq71, trivial⟩, AllT.some' rq39, trivial⟩, AllT.none', trivial⟩⟩, AllT.none', ⟨⟨⟨trivial, AllT.some' rq35, ⟨⟨trivial, AllT.some' rq163, trivial⟩, AllT.none', trivial⟩⟩, AllT.some' rq19, ⟨trivial, AllT.none', ⟨trivial, AllT.some' rq115, trivial⟩⟩⟩, AllT.none', ⟨⟨⟨⟨trivial, AllT.some' rq139, trivial⟩, AllT.some' rq75, trivial⟩, AllT.none', ⟨trivial, AllT.some' rq107, trivial⟩⟩, AllT.none', ⟨⟨⟨trivial, AllT.some' rq155, trivial⟩, AllT.none', trivial⟩, AllT.none', trivial⟩⟩⟩⟩, AllT.none', ⟨⟨⟨⟨trivial, AllT.some' rq33, ⟨⟨trivial, AllT.some' rq161, trivial⟩, AllT.none', trivial⟩⟩, AllT.some' rq17, ⟨trivial, AllT.none', ⟨trivial, AllT.some' rq113, trivial⟩⟩⟩, AllT.none', ⟨⟨⟨⟨trivial, AllT.some' rq137, trivial⟩, AllT.some' rq73, trivial⟩, AllT.some' rq41, ⟨⟨trivial, AllT.some' rq169, trivial⟩, AllT.some' rq105, trivial⟩⟩, AllT.none', ⟨trivial, AllT.some' rq57, trivial⟩⟩⟩, AllT.none', ⟨⟨⟨⟨trivial, AllT.some' rq69, trivial⟩, AllT.some' rq37, trivial⟩, AllT.none', trivial⟩, AllT.none', ⟨⟨⟨⟨trivial, AllT.some' rq141, trivial⟩, AllT.none', trivial⟩, AllT.none', ⟨trivial, AllT.some' rq109, ⟨trivial, AllT.some' rq237, trivial⟩⟩⟩, AllT.none', trivial⟩⟩⟩⟩, AllT.none', ⟨⟨⟨⟨⟨trivial, AllT.some' rq32, ⟨⟨trivial, AllT.some' rq160, trivial⟩, AllT.none', trivial⟩⟩, AllT.some' rq16, ⟨trivial, AllT.none', ⟨trivial, AllT.some' rq112, trivial⟩⟩⟩, AllT.none', ⟨⟨⟨⟨trivial, AllT.some' rq136, trivial⟩, AllT.some' rq72, trivial⟩, AllT.some' rq40, ⟨trivial, AllT.some' rq104, trivial⟩⟩, AllT.none', ⟨trivial, AllT.none', ⟨⟨trivial, AllT.some' rq184, trivial⟩, AllT.none', trivial⟩⟩⟩⟩, AllT.none', ⟨⟨⟨⟨⟨trivial, AllT.some' rq132, trivial⟩, AllT.none', trivial⟩, AllT.some' rq36, ⟨⟨trivial, AllT.some' rq164, trivial⟩, AllT.none', trivial⟩⟩, AllT.some' rq20, ⟨trivial, AllT.none', ⟨trivial, AllT.none', ⟨trivial, AllT.some' rq244, trivial⟩⟩⟩⟩, AllT.none', ⟨⟨trivial, AllT.none', ⟨trivial, AllT.some' rq108, trivial⟩⟩, AllT.none', trivial⟩⟩⟩, AllT.none', ⟨⟨⟨⟨trivial, AllT.some' rq34, ⟨⟨trivial, AllT.some' rq162, trivial⟩, AllT.none', trivial⟩⟩, AllT.some' rq18, ⟨⟨trivial, AllT.some' rq82, trivial⟩, AllT.none', trivial⟩⟩, AllT.none', ⟨⟨⟨⟨trivial, AllT.some' rq138, trivial⟩, AllT.some' rq74, trivial⟩, AllT.none', ⟨trivial, AllT.some' rq106, trivial⟩⟩, AllT.none', ⟨trivial, AllT.none', ⟨⟨trivial, AllT.some' rq186, trivial⟩, AllT.none', trivial⟩⟩⟩⟩, AllT.some' rq6, ⟨⟨⟨⟨trivial, AllT.some' rq70, trivial⟩, AllT.some' rq38, trivial⟩, AllT.none', ⟨trivial, AllT.some' rq54, trivial⟩⟩, AllT.none', ⟨⟨trivial, AllT.none', ⟨trivial, AllT.some' rq110, trivial⟩⟩, AllT.none', ⟨⟨trivial, AllT.some' rq94, trivial⟩, AllT.none', ⟨⟨trivial, AllT.some' rq190, trivial⟩, AllT.none', trivial⟩⟩⟩⟩⟩⟩⟩
theorem keptNS : KeptP kE1 ktab1 244 10000 3000 ([.int .i64 0], .str [35, 48]) := ⟨by decide +kernel, by decide +kernel, by decide +kernel⟩
theorem okNS : OverOk ctx kE1.branch 244 ovNS := ovNS_ok (memoP_ok env_ok1 tab_ok1 (by kernel_rfl) (List.forall_mem_cons.2 ⟨keptNS, fun _ h => nomatch h⟩))
theorem ov238 : OvRow (.i (.i (.i (.i (.o (.i (.i (.h)))))))) (ovFz1 (ovT (wtF 40))) := .of (br := kE1.branch) rfl (n := 238) (by kernel_rfl) (ovFz1_ok (st_ok env_ok1 (qn := t245) (gn := 244) (by decide) okNS (by decide) (by decide) (by decide) (by decide) (by decide) (by decide) (by decide) (by decide) (by decide) (by decide) (by decide) (by decide) (by decide) (by decide) (by decide) (by decide) (by decide) (by decide) (by kernel_rfl) (by kernel_rfl) (by kernel_rfl) (by decide) (by rw [fns_eq1]; kernel_rfl) (by decide) (by rw [fns_eq1]; kernel_rfl) (by rw [fns_eq1]; kernel_rfl) (by rw [fns_eq1]; kernel_rfl) (by rw [fns_eq1]; kernel_rfl) (by rw [fns_eq1]; kernel_rfl) (by kernel_rfl) (by kernel_rfl) (by kernel_rfl) (by kernel_rfl) (by kernel_rfl) 40))
theorem ov21 : OvRow (.o (.i (.i (.o (.h))))) (ovFzQ (ovQ pY (putF 40))) := .of (br := kE1.branch) rfl (n := 21) (by kernel_rfl) (ovFzQ_ok (put_ok env_ok1 (by decide) (by rw [fns_eq1]; kernel_rfl) 40))
theorem ov19 : OvRow (.o (.o (.i (.o (.h))))) (ovFzQ (ovZ pY (szF 40))) := .of (br := kE1.branch) rfl (n := 19) (by kernel_rfl) (ovFzQ_ok (sz_ok env_ok1 (q := t245) (gq := 244) (by decide) okNS (by decide) (by decide) (by kernel_rfl) (by decide) (by rw [fns_eq1]; kernel_rfl) (by decide) (by rw [fns_eq1]; kernel_rfl) 40))
set_option maxRecDepth 20000 in
theorem ov_ok2 : AllT OvRow overT2 := ⟨⟨⟨⟨⟨⟨trivial, AllT.none', ⟨⟨trivial, AllT.some' ov159, trivial⟩, AllT.none', trivial⟩⟩, AllT.none', trivial⟩, AllT.none', trivial⟩, AllT.none', ⟨⟨trivial, AllT.none', ⟨trivial, AllT.none', ⟨trivial, AllT.none', ⟨trivial, AllT.some' ov243, trivial⟩⟩⟩⟩, AllT.none', trivial⟩⟩, AllT.none', ⟨trivial, AllT.some' ov5, ⟨⟨trivial, AllT.some' ov21, trivial⟩, AllT.none', trivial⟩⟩⟩, AllT.none', ⟨⟨⟨trivial, AllT.none', ⟨trivial, AllT.none', ⟨trivial, AllT.some' ov56, trivial⟩⟩⟩, AllT.none', ⟨trivial, AllT.none', ⟨⟨⟨trivial, AllT.none', ⟨trivial, AllT.some' ov204, trivial⟩⟩, AllT.none', trivial⟩, AllT.none', trivial⟩⟩⟩, AllT.none', ⟨⟨⟨trivial, AllT.none', ⟨⟨trivial, AllT.none', ⟨trivial, AllT.some' ov210, trivial⟩⟩, AllT.none', ⟨⟨trivial, AllT.some' ov178, trivial⟩, AllT.none', trivial⟩⟩⟩, AllT.none', ⟨trivial, AllT.none', ⟨⟨⟨trivial, AllT.some' ov154, trivial⟩, AllT.none', trivial⟩, AllT.none', trivial⟩⟩⟩, AllT.none', ⟨trivial, AllT.none', ⟨⟨⟨⟨trivial, AllT.some' ov142, trivial⟩, AllT.none', trivial⟩, AllT.none', ⟨trivial, AllT.none', ⟨trivial, AllT.some' ov238, trivial⟩⟩⟩, AllT.none', trivial⟩⟩⟩⟩⟩
set_option maxRecDepth 20000 in
theorem env_ok2 : EnvOk ctx kE2 where
  fns := fun g fn h => fns_ok h
  over := fun g h he => by
    have he' : getT (nm g) overT2 = some h := he
    rw [getT_eq] at he'
    exact AllT.get ov_ok2 he' g rfl
  mixed := by kernel_rfl
  ks := ks_ok
  hm := fun _ _ _ h => by cases h
  methods := me_ok
end Go.Eng
