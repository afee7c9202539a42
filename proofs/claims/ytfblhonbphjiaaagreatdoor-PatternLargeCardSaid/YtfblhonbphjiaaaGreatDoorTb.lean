/- The closures are those of the program. -/
import Derived.KernelRfl
import Derived.Test.YtfblhonbphjiaaaGreatDoorSb
import Derived.Test.YtfblhonbphjiaaaGreatDoorEngD
set_option linter.unusedVariables false
set_option linter.unusedSimpArgs false
set_option maxRecDepth 20000
set_option maxHeartbeats 4000000
namespace Go.Eng
open Go.Proofs
theorem e3 : (fnB Tryz.prog gG Tryz.f3).bind (kfun kE0 l3) = some k3 := by kernel_rfl
theorem e4 : (fnB Tryz.prog gG Tryz.f4).bind (kfun kE0 l4) = some k4 := by kernel_rfl
theorem e5 : (fnB Tryz.prog gG Tryz.f5).bind (kfun kE0 l5) = some k5 := by kernel_rfl
theorem e6 : (fnB Tryz.prog gG Tryz.f6).bind (kfun kE0 l6) = some k6 := by kernel_rfl
theorem e7 : (fnB Tryz.prog gG Tryz.f7).bind (kfun kE0 l7) = some k7 := by kernel_rfl
theorem e8 : (fnB Tryz.prog gG Tryz.f8).bind (kfun kE0 l8) = some k8 := by kernel_rfl
theorem e9 : (fnB Tryz.prog gG Tryz.f9).bind (kfun kE0 l9) = some k9 := by kernel_rfl
theorem e10 : (fnB Tryz.prog gG Tryz.f10).bind (kfun kE0 l10) = some k10 := by kernel_rfl
theorem e11 : (fnB Tryz.prog gG Tryz.f11).bind (kfun kE0 l11) = some k11 := by kernel_rfl
theorem e12 : (fnB Tryz.prog gG Tryz.f12).bind (kfun kE0 l12) = some k12 := by kernel_rfl
theorem e13 : (fnB Tryz.prog gG Tryz.f13).bind (kfun kE0 l13) = some k13 := by kernel_rfl
theorem e14 : (fnB Tryz.prog gG Tryz.f14).bind (kfun kE0 l14) = some k14 := by kernel_rfl
theorem e15 : (fnB Tryz.prog gG Tryz.f15).bind (kfun kE0 l15) = some k15 := by kernel_rfl
theorem e16 : (fnB Tryz.prog gG Tryz.f16).bind (kfun kE0 l16) = some k16 := by kernel_rfl
theorem e17 : (fnB Tryz.prog gG Tryz.f17).bind (kfun kE0 l17) = some k17 := by kernel_rfl
theorem e18 : (fnB Tryz.prog gG Tryz.f18).bind (kfun kE0 l18) = some k18 := by kernel_rfl
theorem e19 : (fnB Tryz.prog gG Tryz.f19).bind (kfun kE0 l19) = some k19 := by kernel_rfl
theorem e20 : (fnB Tryz.prog gG Tryz.f20).bind (kfun kE0 l20) = some k20 := by kernel_rfl
theorem e21 : (fnB Tryz.prog gG Tryz.f21).bind (kfun kE0 l21) = some k21 := by kernel_rfl
theorem e22 : (fnB Tryz.prog gG Tryz.f22).bind (kfun kE0 l22) = some k22 := by kernel_rfl
theorem e23 : (fnB Tryz.prog gG Tryz.f23).bind (kfun kE0 l23) = some k23 := by kernel_rfl
theorem e24 : (fnB Tryz.prog gG Tryz.f24).bind (kfun kE0 l24) = some k24 := by kernel_rfl
theorem e25 : (fnB Tryz.prog gG Tryz.f25).bind (kfun kE0 l25) = some k25 := by kernel_rfl
theorem e26 : (fnB Tryz.prog gG Tryz.f26).bind (kfun kE0 l26) = some k26 := by kernel_rfl
theorem e27 : (fnB Tryz.prog gG Tryz.f27).bind (kfun kE0 l27) = some k27 := by kernel_rfl
theorem e28 : (fnB Tryz.prog gG Tryz.f28).bind (kfun kE0 l28) = some k28 := by kernel_rfl
theorem e29 : (fnB Tryz.prog gG Tryz.f29).bind (kfun kE0 l29) = some k29 := by kernel_rfl
theorem e30 : (fnB Tryz.prog gG Tryz.f30).bind (kfun kE0 l30) = some k30 := by kernel_rfl
theorem e31 : (fnB Tryz.prog gG Tryz.f31).bind (kfun kE0 l31) = some k31 := by kernel_rfl
theorem e32 : (fnB Tryz.prog gG Tryz.f32).bind (kfun kE0 l32) = some k32 := by kernel_rfl
theorem e33 : (fnB Tryz.prog gG Tryz.f33).bind (kfun kE0 l33) = some k33 := by kernel_rfl
theorem e34 : (fnB Tryz.prog gG Tryz.f34).bind (kfun kE0 l34) = some k34 := by kernel_rfl
theorem e35 : (fnB Tryz.prog gG Tryz.f35).bind (kfun kE0 l35) = some k35 := by kernel_rfl
theorem e36 : (fnB Tryz.prog gG Tryz.f36).bind (kfun kE0 l36) = some k36 := by kernel_rfl
theorem e37 : (fnB Tryz.prog gG Tryz.f37).bind (kfun kE0 l37) = some k37 := by kernel_rfl
theorem e38 : (fnB Tryz.prog gG Tryz.f38).bind (kfun kE0 l38) = some k38 := by kernel_rfl
theorem e39 : (fnB Tryz.prog gG Tryz.f39).bind (kfun kE0 l39) = some k39 := by kernel_rfl
theorem e40 : (fnB Tryz.prog gG Tryz.f40).bind (kfun kE0 l40) = some k40 := by kernel_rfl
theorem e41 : (fnB Tryz.prog gG Tryz.f41).bind (kfun kE0 l41) = some k41 := by kernel_rfl
theorem e42 : (fnB Tryz.prog gG Tryz.f42).bind (kfun kE0 l42) = some k42 := by kernel_rfl
theorem e43 : (fnB Tryz.prog gG Tryz.f43).bind (kfun kE0 l43) = some k43 := by kernel_rfl
theorem e44 : (fnB Tryz.prog gG Tryz.f44).bind (kfun kE0 l44) = some k44 := by kernel_rfl
theorem e45 : (fnB Tryz.prog gG Tryz.f45).bind (kfun kE0 l45) = some k45 := by kernel_rfl
theorem e46 : (fnB Tryz.prog gG Tryz.f46).bind (kfun kE0 l46) = some k46 := by kernel_rfl
theorem e47 : (fnB Tryz.prog gG Tryz.f47).bind (kfun kE0 l47) = some k47 := by kernel_rfl
theorem e48 : (fnB Tryz.prog gG Tryz.f48).bind (kfun kE0 l48) = some k48 := by kernel_rfl
theorem e49 : (fnB Tryz.prog gG Tryz.f49).bind (kfun kE0 l49) = some k49 := by kernel_rfl
theorem e50 : (fnB Tryz.prog gG Tryz.f50).bind (kfun kE0 l50) = some k50 := by kernel_rfl
theorem e51 : (fnB Tryz.prog gG Tryz.f51).bind (kfun kE0 l51) = some k51 := by kernel_rfl
theorem e52 : (fnB Tryz.prog gG Tryz.f52).bind (kfun kE0 l52) = some k52 := by kernel_rfl
theorem e53 : (fnB Tryz.prog gG Tryz.f53).bind (kfun kE0 l53) = some k53 := by kernel_rfl
theorem e54 : (fnB Tryz.prog gG Tryz.f54).bind (kfun kE0 l54) = some k54 := by kernel_rfl
theorem e55 : (fnB Tryz.prog gG Tryz.f55).bind (kfun kE0 l55) = some k55 := by kernel_rfl
theorem e56 : (fnB Tryz.prog gG Tryz.f56).bind (kfun kE0 l56) = some k56 := by kernel_rfl
theorem e57 : (fnB Tryz.prog gG Tryz.f57).bind (kfun kE0 l57) = some k57 := by kernel_rfl
theorem e58 : (fnB Tryz.prog gG Tryz.f58).bind (kfun kE0 l58) = some k58 := by kernel_rfl
theorem e59 : (fnB Tryz.prog gG Tryz.f59).bind (kfun kE0 l59) = some k59 := by kernel_rfl
theorem e60 : (fnB Tryz.prog gG Tryz.f60).bind (kfun kE0 l60) = some k60 := by kernel_rfl
theorem e61 : (fnB Tryz.prog gG Tryz.f61).bind (kfun kE0 l61) = some k61 := by kernel_rfl
theorem e62 : (fnB Tryz.prog gG Tryz.f62).bind (kfun kE0 l62) = some k62 := by kernel_rfl
theorem e65 : (fnB Tryz.prog gG Tryz.f65).bind (kfun kE0 l65) = some k65 := by kernel_rfl
theorem e66 : (fnB Tryz.prog gG Tryz.f66).bind (kfun kE0 l66) = some k66 := by kernel_rfl
theorem e67 : (fnB Tryz.prog gG Tryz.f67).bind (kfun kE0 l67) = some k67 := by kernel_rfl
theorem e68 : (fnB Tryz.prog gG Tryz.f68).bind (kfun kE0 l68) = some k68 := by kernel_rfl
theorem e69 : (fnB Tryz.prog gG Tryz.f69).bind (kfun kE0 l69) = some k69 := by kernel_rfl
theorem e70 : (fnB Tryz.prog gG Tryz.f70).bind (kfun kE0 l70) = some k70 := by kernel_rfl
theorem e71 : (fnB Tryz.prog gG Tryz.f71).bind (kfun kE0 l71) = some k71 := by kernel_rfl
theorem e76 : (fnB Tryz.prog gG Tryz.f76).bind (kfun kE0 l76) = some k76 := by kernel_rfl
theorem e77 : (fnB Tryz.prog gG Tryz.f77).bind (kfun kE0 l77) = some k77 := by kernel_rfl
theorem e78 : (fnB Tryz.prog gG Tryz.f78).bind (kfun kE0 l78) = some k78 := by kernel_rfl
theorem e88 : (fnB Tryz.prog gG Tryz.f88).bind (kfun kE0 l88) = some k88 := by kernel_rfl
theorem e89 : (fnB Tryz.prog gG Tryz.f89).bind (kfun kE0 l89) = some k89 := by kernel_rfl
theorem e90 : (fnB Tryz.prog gG Tryz.f90).bind (kfun kE0 l90) = some k90 := by kernel_rfl
theorem e91 : (fnB Tryz.prog gG Tryz.f91).bind (kfun kE0 l91) = some k91 := by kernel_rfl
theorem e92 : (fnB Tryz.prog gG Tryz.f92).bind (kfun kE0 l92) = some k92 := by kernel_rfl
theorem e93 : (fnB Tryz.prog gG Tryz.f93).bind (kfun kE0 l93) = some k93 := by kernel_rfl
theorem e94 : (fnB Tryz.prog gG Tryz.f94).bind (kfun kE0 l94) = some k94 := by kernel_rfl
theorem e96 : (fnB Tryz.prog gG Tryz.f96).bind (kfun kE0 l96) = some k96 := by kernel_rfl
theorem e99 : (fnB Tryz.prog gG Tryz.f99).bind (kfun kE0 l99) = some k99 := by kernel_rfl
theorem e100 : (fnB Tryz.prog gG Tryz.f100).bind (kfun kE0 l100) = some k100 := by kernel_rfl
theorem e103 : (fnB Tryz.prog gG Tryz.f103).bind (kfun kE0 l103) = some k103 := by kernel_rfl
theorem e107 : (fnB Tryz.prog gG Tryz.f107).bind (kfun kE0 l107) = some k107 := by kernel_rfl
theorem e108 : (fnB Tryz.prog gG Tryz.f108).bind (kfun kE0 l108) = some k108 := by kernel_rfl
theorem e109 : (fnB Tryz.prog gG Tryz.f109).bind (kfun kE0 l109) = some k109 := by kernel_rfl
theorem e110 : (fnB Tryz.prog gG Tryz.f110).bind (kfun kE0 l110) = some k110 := by kernel_rfl
theorem e111 : (fnB Tryz.prog gG Tryz.f111).bind (kfun kE0 l111) = some k111 := by kernel_rfl
theorem e112 : (fnB Tryz.prog gG Tryz.f112).bind (kfun kE0 l112) = some k112 := by kernel_rfl
theorem e114 : (fnB Tryz.prog gG Tryz.f114).bind (kfun kE0 l114) = some k114 := by kernel_rfl
theorem e115 : (fnB Tryz.prog gG Tryz.f115).bind (kfun kE0 l115) = some k115 := by kernel_rfl
theorem e116 : (fnB Tryz.prog gG Tryz.f116).bind (kfun kE0 l116) = some k116 := by kernel_rfl
theorem e117 : (fnB Tryz.prog gG Tryz.f117).bind (kfun kE0 l117) = some k117 := by kernel_rfl
theorem e118 : (fnB Tryz.prog gG Tryz.f118).bind (kfun kE0 l118) = some k118 := by kernel_rfl
theorem e119 : (fnB Tryz.prog gG Tryz.f119).bind (kfun kE0 l119) = some k119 := by kernel_rfl
theorem e120 : (fnB Tryz.prog gG Tryz.f120).bind (kfun kE0 l120) = some k120 := by kernel_rfl
theorem e121 : (fnB Tryz.prog gG Tryz.f121).bind (kfun kE0 l121) = some k121 := by kernel_rfl
theorem e122 : (fnB Tryz.prog gG Tryz.f122).bind (kfun kE0 l122) = some k122 := by kernel_rfl
theorem e123 : (fnB Tryz.prog gG Tryz.f123).bind (kfun kE0 l123) = some k123 := by kernel_rfl
theorem e124 : (fnB Tryz.prog gG Tryz.f124).bind (kfun kE0 l124) = some k124 := by kernel_rfl
theorem e125 : (fnB Tryz.prog gG Tryz.f125).bind (kfun kE0 l125) = some k125 := by kernel_rfl
theorem e126 : (fnB Tryz.prog gG Tryz.f126).bind (kfun kE0 l126) = some k126 := by kernel_rfl
theorem e127 : (fnB Tryz.prog gG Tryz.f127).bind (kfun kE0 l127) = some k127 := by kernel_rfl
theorem e128 : (fnB Tryz.prog gG Tryz.f128).bind (kfun kE0 l128) = some k128 := by kernel_rfl
theorem e129 : (fnB Tryz.prog gG Tryz.f129).bind (kfun kE0 l129) = some k129 := by kernel_rfl
theorem e130 : (fnB Tryz.prog gG Tryz.f130).bind (kfun kE0 l130) = some k130 := by kernel_rfl
theorem e131 : (fnB Tryz.prog gG Tryz.f131).bind (kfun kE0 l131) = some k131 := by kernel_rfl
theorem e132 : (fnB Tryz.prog gG Tryz.f132).bind (kfun kE0 l132) = some k132 := by kernel_rfl
theorem e133 : (fnB Tryz.prog gG Tryz.f133).bind (kfun kE0 l133) = some k133 := by kernel_rfl
theorem e134 : (fnB Tryz.prog gG Tryz.f134).bind (kfun kE0 l134) = some k134 := by kernel_rfl
theorem e135 : (fnB Tryz.prog gG Tryz.f135).bind (kfun kE0 l135) = some k135 := by kernel_rfl
theorem e136 : (fnB Tryz.prog gG Tryz.f136).bind (kfun kE0 l136) = some k136 := by kernel_rfl
theorem e137 : (fnB Tryz.prog gG Tryz.f137).bind (kfun kE0 l137) = some k137 := by kernel_rfl
theorem e140 : (fnB Tryz.prog gG Tryz.f140).bind (kfun kE0 l140) = some k140 := by kernel_rfl
theorem e141 : (fnB Tryz.prog gG Tryz.f141).bind (kfun kE0 l141) = some k141 := by kernel_rfl
theorem e142 : (fnB Tryz.prog gG Tryz.f142).bind (kfun kE0 l142) = some k142 := by kernel_rfl
theorem e143 : (fnB Tryz.prog gG Tryz.f143).bind (kfun kE0 l143) = some k143 := by kernel_rfl
theorem e145 : (fnB Tryz.prog gG Tryz.f145).bind (kfun kE0 l145) = some k145 := by kernel_rfl
theorem e147 : (fnB Tryz.prog gG Tryz.f147).bind (kfun kE0 l147) = some k147 := by kernel_rfl
theorem e148 : (fnB Tryz.prog gG Tryz.f148).bind (kfun kE0 l148) = some k148 := by kernel_rfl
theorem e149 : (fnB Tryz.prog gG Tryz.f149).bind (kfun kE0 l149) = some k149 := by kernel_rfl
theorem e150 : (fnB Tryz.prog gG Tryz.f150).bind (kfun kE0 l150) = some k150 := by kernel_rfl
theorem e151 : (fnB Tryz.prog gG Tryz.f151).bind (kfun kE0 l151) = some k151 := by kernel_rfl
theorem e152 : (fnB Tryz.prog gG Tryz.f152).bind (kfun kE0 l152) = some k152 := by kernel_rfl
theorem e153 : (fnB Tryz.prog gG Tryz.f153).bind (kfun kE0 l153) = some k153 := by kernel_rfl
theorem e155 : (fnB Tryz.prog gG Tryz.f155).bind (kfun kE0 l155) = some k155 := by kernel_rfl
theorem e156 : (fnB Tryz.prog gG Tryz.f156).bind (kfun kE0 l156) = some k156 := by kernel_rfl
theorem e157 : (fnB Tryz.prog gG Tryz.f157).bind (kfun kE0 l157) = some k157 := by kernel_rfl
theorem e158 : (fnB Tryz.prog gG Tryz.f158).bind (kfun kE0 l158) = some k158 := by kernel_rfl
theorem e159 : (fnB Tryz.prog gG Tryz.f159).bind (kfun kE0 l159) = some k159 := by kernel_rfl
theorem e160 : (fnB Tryz.prog gG Tryz.f160).bind (kfun kE0 l160) = some k160 := by kernel_rfl
theorem e163 : (fnB Tryz.prog gG Tryz.f163).bind (kfun kE0 l163) = some k163 := by kernel_rfl
theorem e164 : (fnB Tryz.prog gG Tryz.f164).bind (kfun kE0 l164) = some k164 := by kernel_rfl
theorem e165 : (fnB Tryz.prog gG Tryz.f165).bind (kfun kE0 l165) = some k165 := by kernel_rfl
theorem e166 : (fnB Tryz.prog gG Tryz.f166).bind (kfun kE0 l166) = some k166 := by kernel_rfl
theorem e167 : (fnB Tryz.prog gG Tryz.f167).bind (kfun kE0 l167) = some k167 := by kernel_rfl
theorem e168 : (fnB Tryz.prog gG Tryz.f168).bind (kfun kE0 l168) = some k168 := by kernel_rfl
theorem e169 : (fnB Tryz.prog gG Tryz.f169).bind (kfun kE0 l169) = some k169 := by kernel_rfl
theorem e170 : (fnB Tryz.prog gG Tryz.f170).bind (kfun kE0 l170) = some k170 := by kernel_rfl
theorem e171 : (fnB Tryz.prog gG Tryz.f171).bind (kfun kE0 l171) = some k171 := by kernel_rfl
theorem e172 : (fnB Tryz.prog gG Tryz.f172).bind (kfun kE0 l172) = some k172 := by kernel_rfl
theorem e173 : (fnB Tryz.prog gG Tryz.f173).bind (kfun kE0 l173) = some k173 := by kernel_rfl
theorem e174 : (fnB Tryz.prog gG Tryz.f174).bind (kfun kE0 l174) = some k174 := by kernel_rfl
theorem e175 : (fnB Tryz.prog gG Tryz.f175).bind (kfun kE0 l175) = some k175 := by kernel_rfl
theorem e176 : (fnB Tryz.prog gG Tryz.f176).bind (kfun kE0 l176) = some k176 := by kernel_rfl
theorem e177 : (fnB Tryz.prog gG Tryz.f177).bind (kfun kE0 l177) = some k177 := by kernel_rfl
theorem e178 : (fnB Tryz.prog gG Tryz.f178).bind (kfun kE0 l178) = some k178 := by kernel_rfl
theorem e179 : (fnB Tryz.prog gG Tryz.f179).bind (kfun kE0 l179) = some k179 := by kernel_rfl
theorem e183 : (fnB Tryz.prog gG Tryz.f183).bind (kfun kE0 l183) = some k183 := by kernel_rfl
theorem e186 : (fnB Tryz.prog gG Tryz.f186).bind (kfun kE0 l186) = some k186 := by kernel_rfl
theorem e188 : (fnB Tryz.prog gG Tryz.f188).bind (kfun kE0 l188) = some k188 := by kernel_rfl
theorem e189 : (fnB Tryz.prog gG Tryz.f189).bind (kfun kE0 l189) = some k189 := by kernel_rfl
theorem e190 : (fnB Tryz.prog gG Tryz.f190).bind (kfun kE0 l190) = some k190 := by kernel_rfl
theorem e191 : (fnB Tryz.prog gG Tryz.f191).bind (kfun kE0 l191) = some k191 := by kernel_rfl
theorem e192 : (fnB Tryz.prog gG Tryz.f192).bind (kfun kE0 l192) = some k192 := by kernel_rfl
theorem e193 : (fnB Tryz.prog gG Tryz.f193).bind (kfun kE0 l193) = some k193 := by kernel_rfl
theorem e195 : (fnB Tryz.prog gG Tryz.f195).bind (kfun kE0 l195) = some k195 := by kernel_rfl
theorem e196 : (fnB Tryz.prog gG Tryz.f196).bind (kfun kE0 l196) = some k196 := by kernel_rfl
theorem e210 : (fnB Tryz.prog gG Tryz.f210).bind (kfun kE0 l210) = some k210 := by kernel_rfl
theorem e211 : (fnB Tryz.prog gG Tryz.f211).bind (kfun kE0 l211) = some k211 := by kernel_rfl
theorem e212 : (fnB Tryz.prog gG Tryz.f212).bind (kfun kE0 l212) = some k212 := by kernel_rfl
theorem e213 : (fnB Tryz.prog gG Tryz.f213).bind (kfun kE0 l213) = some k213 := by kernel_rfl
theorem e214 : (fnB Tryz.prog gG Tryz.f214).bind (kfun kE0 l214) = some k214 := by kernel_rfl
theorem e215 : (fnB Tryz.prog gG Tryz.f215).bind (kfun kE0 l215) = some k215 := by kernel_rfl
theorem e216 : (fnB Tryz.prog gG Tryz.f216).bind (kfun kE0 l216) = some k216 := by kernel_rfl
theorem e217 : (fnB Tryz.prog gG Tryz.f217).bind (kfun kE0 l217) = some k217 := by kernel_rfl
theorem e218 : (fnB Tryz.prog gG Tryz.f218).bind (kfun kE0 l218) = some k218 := by kernel_rfl
theorem e219 : (fnB Tryz.prog gG Tryz.f219).bind (kfun kE0 l219) = some k219 := by kernel_rfl
theorem e220 : (fnB Tryz.prog gG Tryz.f220).bind (kfun kE0 l220) = some k220 := by kernel_rfl
theorem e225 : (fnB Tryz.prog gG Tryz.f225).bind (kfun kE0 l225) = some k225 := by kernel_rfl
theorem e226 : (fnB Tryz.prog gG Tryz.f226).bind (kfun kE0 l226) = some k226 := by kernel_rfl
theorem e229 : (fnB Tryz.prog gG Tryz.f229).bind (kfun kE0 l229) = some k229 := by kernel_rfl
theorem e233 : (fnB Tryz.prog gG Tryz.f233).bind (kfun kE0 l233) = some k233 := by kernel_rfl
theorem e235 : (fnB Tryz.prog gG Tryz.f235).bind (kfun kE0 l235) = some k235 := by kernel_rfl
theorem e238 : (fnB Tryz.prog gG Tryz.f238).bind (kfun kE0 l238) = some k238 := by kernel_rfl
theorem e239 : (fnB Tryz.prog gG Tryz.f239).bind (kfun kE0 l239) = some k239 := by kernel_rfl
theorem e240 : (fnB Tryz.prog gG Tryz.f240).bind (kfun kE0 l240) = some k240 := by kernel_rfl
theorem e241 : (fnB Tryz.prog gG Tryz.f241).bind (kfun kE0 l241) = some k241 := by kernel_rfl
theorem e242 : (fnB Tryz.prog gG Tryz.f242).bind (kfun kE0 l242) = some k242 := by kernel_rfl
theorem e243 : (fnB Tryz.prog gG Tryz.f243).bind (kfun kE0 l243) = some k243 := by kernel_rfl
theorem e244 : (fnB Tryz.prog gG Tryz.f244).bind (kfun kE0 l244) = some k244 := by kernel_rfl
theorem e245 : (fnB Tryz.prog gG Tryz.f245).bind (kfun kE0 l245) = some k245 := by kernel_rfl
theorem e246 : (fnB Tryz.prog gG Tryz.f246).bind (kfun kE0 l246) = some k246 := by kernel_rfl
theorem e247 : (fnB Tryz.prog gG Tryz.f247).bind (kfun kE0 l247) = some k247 := by kernel_rfl
theorem e248 : (fnB Tryz.prog gG Tryz.f248).bind (kfun kE0 l248) = some k248 := by kernel_rfl
theorem e253 : (fnB Tryz.prog gG Tryz.f253).bind (kfun kE0 l253) = some k253 := by kernel_rfl
theorem e255 : (fnB Tryz.prog gG Tryz.f255).bind (kfun kE0 l255) = some k255 := by kernel_rfl
theorem e258 : (fnB Tryz.prog gG Tryz.f258).bind (kfun kE0 l258) = some k258 := by kernel_rfl
theorem e259 : (fnB Tryz.prog gG Tryz.f259).bind (kfun kE0 l259) = some k259 := by kernel_rfl
theorem e260 : (fnB Tryz.prog gG Tryz.f260).bind (kfun kE0 l260) = some k260 := by kernel_rfl
theorem e262 : (fnB Tryz.prog gG Tryz.f262).bind (kfun kE0 l262) = some k262 := by kernel_rfl
theorem e263 : (fnB Tryz.prog gG Tryz.f263).bind (kfun kE0 l263) = some k263 := by kernel_rfl
theorem e264 : (fnB Tryz.prog gG Tryz.f264).bind (kfun kE0 l264) = some k264 := by kernel_rfl
theorem e276 : (fnB Tryz.prog gG Tryz.f276).bind (kfun kE0 l276) = some k276 := by kernel_rfl
theorem e277 : (fnB Tryz.prog gG Tryz.f277).bind (kfun kE0 l277) = some k277 := by kernel_rfl
theorem e281 : (fnB Tryz.prog gG Tryz.f281).bind (kfun kE0 l281) = some k281 := by kernel_rfl
theorem e282 : (fnB Tryz.prog gG Tryz.f282).bind (kfun kE0 l282) = some k282 := by kernel_rfl
theorem e283 : (fnB Tryz.prog gG Tryz.f283).bind (kfun kE0 l283) = some k283 := by kernel_rfl
theorem e284 : (fnB Tryz.prog gG Tryz.f284).bind (kfun kE0 l284) = some k284 := by kernel_rfl
theorem e285 : (fnB Tryz.prog gG Tryz.f285).bind (kfun kE0 l285) = some k285 := by kernel_rfl
theorem e286 : (fnB Tryz.prog gG Tryz.f286).bind (kfun kE0 l286) = some k286 := by kernel_rfl
theorem e287 : (fnB Tryz.prog gG Tryz.f287).bind (kfun kE0 l287) = some k287 := by kernel_rfl
theorem e292 : (fnB Tryz.prog gG Tryz.f292).bind (kfun kE0 l292) = some k292 := by kernel_rfl
theorem e298 : (fnB Tryz.prog gG Tryz.f298).bind (kfun kE0 l298) = some k298 := by kernel_rfl
theorem e299 : (fnB Tryz.prog gG Tryz.f299).bind (kfun kE0 l299) = some k299 := by kernel_rfl
theorem e303 : (fnB Tryz.prog gG Tryz.f303).bind (kfun kE0 l303) = some k303 := by kernel_rfl
theorem e304 : (fnB Tryz.prog gG Tryz.f304).bind (kfun kE0 l304) = some k304 := by kernel_rfl
theorem e306 : (fnB Tryz.prog gG Tryz.f306).bind (kfun kE0 l306) = some k306 := by kernel_rfl
theorem e307 : (fnB Tryz.prog gG Tryz.f307).bind (kfun kE0 l307) = some k307 := by kernel_rfl
theorem e308 : (fnB Tryz.prog gG Tryz.f308).bind (kfun kE0 l308) = some k308 := by kernel_rfl
theorem e309 : (fnB Tryz.prog gG Tryz.f309).bind (kfun kE0 l309) = some k309 := by kernel_rfl
theorem e314 : (fnB Tryz.prog gG Tryz.f314).bind (kfun kE0 l314) = some k314 := by kernel_rfl
theorem e316 : (fnB Tryz.prog gG Tryz.f316).bind (kfun kE0 l316) = some k316 := by kernel_rfl
theorem e317 : (fnB Tryz.prog gG Tryz.f317).bind (kfun kE0 l317) = some k317 := by kernel_rfl
theorem e318 : (fnB Tryz.prog gG Tryz.f318).bind (kfun kE0 l318) = some k318 := by kernel_rfl
theorem e319 : (fnB Tryz.prog gG Tryz.f319).bind (kfun kE0 l319) = some k319 := by kernel_rfl
theorem e320 : (fnB Tryz.prog gG Tryz.f320).bind (kfun kE0 l320) = some k320 := by kernel_rfl
theorem e324 : (fnB Tryz.prog gG Tryz.f324).bind (kfun kE0 l324) = some k324 := by kernel_rfl
theorem e325 : (fnB Tryz.prog gG Tryz.f325).bind (kfun kE0 l325) = some k325 := by kernel_rfl
theorem e327 : (fnB Tryz.prog gG Tryz.f327).bind (kfun kE0 l327) = some k327 := by kernel_rfl
theorem e328 : (fnB Tryz.prog gG Tryz.f328).bind (kfun kE0 l328) = some k328 := by kernel_rfl
theorem e329 : (fnB Tryz.prog gG Tryz.f329).bind (kfun kE0 l329) = some k329 := by kernel_rfl
theorem e330 : (fnB Tryz.prog gG Tryz.f330).bind (kfun kE0 l330) = some k330 := by kernel_rfl
theorem e331 : (fnB Tryz.prog gG Tryz.f331).bind (kfun kE0 l331) = some k331 := by kernel_rfl
theorem e335 : (fnB Tryz.prog gG Tryz.f335).bind (kfun kE0 l335) = some k335 := by kernel_rfl
theorem e338 : (fnB Tryz.prog gG Tryz.f338).bind (kfun kE0 l338) = some k338 := by kernel_rfl
theorem e339 : (fnB Tryz.prog gG Tryz.f339).bind (kfun kE0 l339) = some k339 := by kernel_rfl
theorem e340 : (fnB Tryz.prog gG Tryz.f340).bind (kfun kE0 l340) = some k340 := by kernel_rfl
theorem e341 : (fnB Tryz.prog gG Tryz.f341).bind (kfun kE0 l341) = some k341 := by kernel_rfl
theorem e342 : (fnB Tryz.prog gG Tryz.f342).bind (kfun kE0 l342) = some k342 := by kernel_rfl
theorem e348 : (fnB Tryz.prog gG Tryz.f348).bind (kfun kE0 l348) = some k348 := by kernel_rfl
theorem e357 : (fnB Tryz.prog gG Tryz.f357).bind (kfun kE0 l357) = some k357 := by kernel_rfl
theorem e358 : (fnB Tryz.prog gG Tryz.f358).bind (kfun kE0 l358) = some k358 := by kernel_rfl
theorem e359 : (fnB Tryz.prog gG Tryz.f359).bind (kfun kE0 l359) = some k359 := by kernel_rfl
theorem e360 : (fnB Tryz.prog gG Tryz.f360).bind (kfun kE0 l360) = some k360 := by kernel_rfl
theorem e361 : (fnB Tryz.prog gG Tryz.f361).bind (kfun kE0 l361) = some k361 := by kernel_rfl
theorem e362 : (fnB Tryz.prog gG Tryz.f362).bind (kfun kE0 l362) = some k362 := by kernel_rfl
theorem e363 : (fnB Tryz.prog gG Tryz.f363).bind (kfun kE0 l363) = some k363 := by kernel_rfl
theorem e365 : (fnB Tryz.prog gG Tryz.f365).bind (kfun kE0 l365) = some k365 := by kernel_rfl
theorem e375 : (fnB Tryz.prog gG Tryz.f375).bind (kfun kE0 l375) = some k375 := by kernel_rfl
theorem e376 : (fnB Tryz.prog gG Tryz.f376).bind (kfun kE0 l376) = some k376 := by kernel_rfl
theorem e377 : (fnB Tryz.prog gG Tryz.f377).bind (kfun kE0 l377) = some k377 := by kernel_rfl
theorem e379 : (fnB Tryz.prog gG Tryz.f379).bind (kfun kE0 l379) = some k379 := by kernel_rfl
theorem e380 : (fnB Tryz.prog gG Tryz.f380).bind (kfun kE0 l380) = some k380 := by kernel_rfl
theorem e382 : (fnB Tryz.prog gG Tryz.f382).bind (kfun kE0 l382) = some k382 := by kernel_rfl
theorem e388 : (fnB Tryz.prog gG Tryz.f388).bind (kfun kE0 l388) = some k388 := by kernel_rfl
theorem e390 : (fnB Tryz.prog gG Tryz.f390).bind (kfun kE0 l390) = some k390 := by kernel_rfl
theorem e395 : (fnB Tryz.prog gG Tryz.f395).bind (kfun kE0 l395) = some k395 := by kernel_rfl
theorem e397 : (fnB Tryz.prog gG Tryz.f397).bind (kfun kE0 l397) = some k397 := by kernel_rfl
theorem e401 : (fnB Tryz.prog gG Tryz.f401).bind (kfun kE0 l401) = some k401 := by kernel_rfl
theorem e403 : (fnB Tryz.prog gG Tryz.f403).bind (kfun kE0 l403) = some k403 := by kernel_rfl
theorem e404 : (fnB Tryz.prog gG Tryz.f404).bind (kfun kE0 l404) = some k404 := by kernel_rfl
theorem e435 : (fnB Tryz.prog gG Tryz.f435).bind (kfun kE0 l435) = some k435 := by kernel_rfl
theorem e436 : (fnB Tryz.prog gG Tryz.f436).bind (kfun kE0 l436) = some k436 := by kernel_rfl
theorem e437 : (fnB Tryz.prog gG Tryz.f437).bind (kfun kE0 l437) = some k437 := by kernel_rfl
theorem e439 : (fnB Tryz.prog gG Tryz.f439).bind (kfun kE0 l439) = some k439 := by kernel_rfl
theorem fns_eq0 (p : Nm) : kE0.fns p = fnsOf Tryz.prog gG p := by kernel_rfl
theorem fns_eq1 (p : Nm) : kE1.fns p = fnsOf Tryz.prog gG p := by kernel_rfl
theorem fns_eq2 (p : Nm) : kE2.fns p = fnsOf Tryz.prog gG p := by kernel_rfl
theorem fns_eq3 (p : Nm) : kE3.fns p = fnsOf Tryz.prog gG p := by kernel_rfl
theorem r3 : FnRow kE0 (.o (.o (.h))) k3 := fn_row (n := 3) fns_eq0 (by kernel_rfl) Tryz.func3 e3
theorem r4 : FnRow kE0 (.i (.o (.h))) k4 := fn_row (n := 4) fns_eq0 (by kernel_rfl) Tryz.func4 e4
theorem r5 : FnRow kE0 (.o (.i (.h))) k5 := fn_row (n := 5) fns_eq0 (by kernel_rfl) Tryz.func5 e5
theorem r6 : FnRow kE0 (.i (.i (.h))) k6 := fn_row (n := 6) fns_eq0 (by kernel_rfl) Tryz.func6 e6
theorem r7 : FnRow kE0 (.o (.o (.o (.h)))) k7 := fn_row (n := 7) fns_eq0 (by kernel_rfl) Tryz.func7 e7
theorem r8 : FnRow kE0 (.i (.o (.o (.h)))) k8 := fn_row (n := 8) fns_eq0 (by kernel_rfl) Tryz.func8 e8
theorem r9 : FnRow kE0 (.o (.i (.o (.h)))) k9 := fn_row (n := 9) fns_eq0 (by kernel_rfl) Tryz.func9 e9
theorem r10 : FnRow kE0 (.i (.i (.o (.h)))) k10 := fn_row (n := 10) fns_eq0 (by kernel_rfl) Tryz.func10 e10
theorem r11 : FnRow kE0 (.o (.o (.i (.h)))) k11 := fn_row (n := 11) fns_eq0 (by kernel_rfl) Tryz.func11 e11
theorem r12 : FnRow kE0 (.i (.o (.i (.h)))) k12 := fn_row (n := 12) fns_eq0 (by kernel_rfl) Tryz.func12 e12
theorem r13 : FnRow kE0 (.o (.i (.i (.h)))) k13 := fn_row (n := 13) fns_eq0 (by kernel_rfl) Tryz.func13 e13
theorem r14 : FnRow kE0 (.i (.i (.i (.h)))) k14 := fn_row (n := 14) fns_eq0 (by kernel_rfl) Tryz.func14 e14
theorem r15 : FnRow kE0 (.o (.o (.o (.o (.h))))) k15 := fn_row (n := 15) fns_eq0 (by kernel_rfl) Tryz.func15 e15
theorem r16 : FnRow kE0 (.i (.o (.o (.o (.h))))) k16 := fn_row (n := 16) fns_eq0 (by kernel_rfl) Tryz.func16 e16
theorem r17 : FnRow kE0 (.o (.i (.o (.o (.h))))) k17 := fn_row (n := 17) fns_eq0 (by kernel_rfl) Tryz.func17 e17
theorem r18 : FnRow kE0 (.i (.i (.o (.o (.h))))) k18 := fn_row (n := 18) fns_eq0 (by kernel_rfl) Tryz.func18 e18
theorem r19 : FnRow kE0 (.o (.o (.i (.o (.h))))) k19 := fn_row (n := 19) fns_eq0 (by kernel_rfl) Tryz.func19 e19
theorem r20 : FnRow kE0 (.i (.o (.i (.o (.h))))) k20 := fn_row (n := 20) fns_eq0 (by kernel_rfl) Tryz.func20 e20
theorem r21 : FnRow kE0 (.o (.i (.i (.o (.h))))) k21 := fn_row (n := 21) fns_eq0 (by kernel_rfl) Tryz.func21 e21
theorem r22 : FnRow kE0 (.i (.i (.i (.o (.h))))) k22 := fn_row (n := 22) fns_eq0 (by kernel_rfl) Tryz.func22 e22
theorem r23 : FnRow kE0 (.o (.o (.o (.i (.h))))) k23 := fn_row (n := 23) fns_eq0 (by kernel_rfl) Tryz.func23 e23
theorem r24 : FnRow kE0 (.i (.o (.o (.i (.h))))) k24 := fn_row (n := 24) fns_eq0 (by kernel_rfl) Tryz.func24 e24
theorem r25 : FnRow kE0 (.o (.i (.o (.i (.h))))) k25 := fn_row (n := 25) fns_eq0 (by kernel_rfl) Tryz.func25 e25
theorem r26 : FnRow kE0 (.i (.i (.o (.i (.h))))) k26 := fn_row (n := 26) fns_eq0 (by kernel_rfl) Tryz.func26 e26
theorem r27 : FnRow kE0 (.o (.o (.i (.i (.h))))) k27 := fn_row (n := 27) fns_eq0 (by kernel_rfl) Tryz.func27 e27
theorem r28 : FnRow kE0 (.i (.o (.i (.i (.h))))) k28 := fn_row (n := 28) fns_eq0 (by kernel_rfl) Tryz.func28 e28
theorem r29 : FnRow kE0 (.o (.i (.i (.i (.h))))) k29 := fn_row (n := 29) fns_eq0 (by kernel_rfl) Tryz.func29 e29
theorem r30 : FnRow kE0 (.i (.i (.i (.i (.h))))) k30 := fn_row (n := 30) fns_eq0 (by kernel_rfl) Tryz.func30 e30
theorem r31 : FnRow kE0 (.o (.o (.o (.o (.o (.h)))))) k31 := fn_row (n := 31) fns_eq0 (by kernel_rfl) Tryz.func31 e31
theorem r32 : FnRow kE0 (.i (.o (.o (.o (.o (.h)))))) k32 := fn_row (n := 32) fns_eq0 (by kernel_rfl) Tryz.func32 e32
theorem r33 : FnRow kE0 (.o (.i (.o (.o (.o (.h)))))) k33 := fn_row (n := 33) fns_eq0 (by kernel_rfl) Tryz.func33 e33
theorem r34 : FnRow kE0 (.i (.i (.o (.o (.o (.h)))))) k34 := fn_row (n := 34) fns_eq0 (by kernel_rfl) Tryz.func34 e34
theorem r35 : FnRow kE0 (.o (.o (.i (.o (.o (.h)))))) k35 := fn_row (n := 35) fns_eq0 (by kernel_rfl) Tryz.func35 e35
theorem r36 : FnRow kE0 (.i (.o (.i (.o (.o (.h)))))) k36 := fn_row (n := 36) fns_eq0 (by kernel_rfl) Tryz.func36 e36
theorem r37 : FnRow kE0 (.o (.i (.i (.o (.o (.h)))))) k37 := fn_row (n := 37) fns_eq0 (by kernel_rfl) Tryz.func37 e37
theorem r38 : FnRow kE0 (.i (.i (.i (.o (.o (.h)))))) k38 := fn_row (n := 38) fns_eq0 (by kernel_rfl) Tryz.func38 e38
theorem r39 : FnRow kE0 (.o (.o (.o (.i (.o (.h)))))) k39 := fn_row (n := 39) fns_eq0 (by kernel_rfl) Tryz.func39 e39
theorem r40 : FnRow kE0 (.i (.o (.o (.i (.o (.h)))))) k40 := fn_row (n := 40) fns_eq0 (by kernel_rfl) Tryz.func40 e40
theorem r41 : FnRow kE0 (.o (.i (.o (.i (.o (.h)))))) k41 := fn_row (n := 41) fns_eq0 (by kernel_rfl) Tryz.func41 e41
theorem r42 : FnRow kE0 (.i (.i (.o (.i (.o (.h)))))) k42 := fn_row (n := 42) fns_eq0 (by kernel_rfl) Tryz.func42 e42
theorem r43 : FnRow kE0 (.o (.o (.i (.i (.o (.h)))))) k43 := fn_row (n := 43) fns_eq0 (by kernel_rfl) Tryz.func43 e43
theorem r44 : FnRow kE0 (.i (.o (.i (.i (.o (.h)))))) k44 := fn_row (n := 44) fns_eq0 (by kernel_rfl) Tryz.func44 e44
theorem r45 : FnRow kE0 (.o (.i (.i (.i (.o (.h)))))) k45 := fn_row (n := 45) fns_eq0 (by kernel_rfl) Tryz.func45 e45
theorem r46 : FnRow kE0 (.i (.i (.i (.i (.o (.h)))))) k46 := fn_row (n := 46) fns_eq0 (by kernel_rfl) Tryz.func46 e46
theorem r47 : FnRow kE0 (.o (.o (.o (.o (.i (.h)))))) k47 := fn_row (n := 47) fns_eq0 (by kernel_rfl) Tryz.func47 e47
theorem r48 : FnRow kE0 (.i (.o (.o (.o (.i (.h)))))) k48 := fn_row (n := 48) fns_eq0 (by kernel_rfl) Tryz.func48 e48
theorem r49 : FnRow kE0 (.o (.i (.o (.o (.i (.h)))))) k49 := fn_row (n := 49) fns_eq0 (by kernel_rfl) Tryz.func49 e49
theorem r50 : FnRow kE0 (.i (.i (.o (.o (.i (.h)))))) k50 := fn_row (n := 50) fns_eq0 (by kernel_rfl) Tryz.func50 e50
theorem r51 : FnRow kE0 (.o (.o (.i (.o (.i (.h)))))) k51 := fn_row (n := 51) fns_eq0 (by kernel_rfl) Tryz.func51 e51
theorem r52 : FnRow kE0 (.i (.o (.i (.o (.i (.h)))))) k52 := fn_row (n := 52) fns_eq0 (by kernel_rfl) Tryz.func52 e52
theorem r53 : FnRow kE0 (.o (.i (.i (.o (.i (.h)))))) k53 := fn_row (n := 53) fns_eq0 (by kernel_rfl) Tryz.func53 e53
theorem r54 : FnRow kE0 (.i (.i (.i (.o (.i (.h)))))) k54 := fn_row (n := 54) fns_eq0 (by kernel_rfl) Tryz.func54 e54
theorem r55 : FnRow kE0 (.o (.o (.o (.i (.i (.h)))))) k55 := fn_row (n := 55) fns_eq0 (by kernel_rfl) Tryz.func55 e55
theorem r56 : FnRow kE0 (.i (.o (.o (.i (.i (.h)))))) k56 := fn_row (n := 56) fns_eq0 (by kernel_rfl) Tryz.func56 e56
theorem r57 : FnRow kE0 (.o (.i (.o (.i (.i (.h)))))) k57 := fn_row (n := 57) fns_eq0 (by kernel_rfl) Tryz.func57 e57
theorem r58 : FnRow kE0 (.i (.i (.o (.i (.i (.h)))))) k58 := fn_row (n := 58) fns_eq0 (by kernel_rfl) Tryz.func58 e58
theorem r59 : FnRow kE0 (.o (.o (.i (.i (.i (.h)))))) k59 := fn_row (n := 59) fns_eq0 (by kernel_rfl) Tryz.func59 e59
theorem r60 : FnRow kE0 (.i (.o (.i (.i (.i (.h)))))) k60 := fn_row (n := 60) fns_eq0 (by kernel_rfl) Tryz.func60 e60
theorem r61 : FnRow kE0 (.o (.i (.i (.i (.i (.h)))))) k61 := fn_row (n := 61) fns_eq0 (by kernel_rfl) Tryz.func61 e61
theorem r62 : FnRow kE0 (.i (.i (.i (.i (.i (.h)))))) k62 := fn_row (n := 62) fns_eq0 (by kernel_rfl) Tryz.func62 e62
theorem r65 : FnRow kE0 (.o (.i (.o (.o (.o (.o (.h))))))) k65 := fn_row (n := 65) fns_eq0 (by kernel_rfl) Tryz.func65 e65
theorem r66 : FnRow kE0 (.i (.i (.o (.o (.o (.o (.h))))))) k66 := fn_row (n := 66) fns_eq0 (by kernel_rfl) Tryz.func66 e66
theorem r67 : FnRow kE0 (.o (.o (.i (.o (.o (.o (.h))))))) k67 := fn_row (n := 67) fns_eq0 (by kernel_rfl) Tryz.func67 e67
theorem r68 : FnRow kE0 (.i (.o (.i (.o (.o (.o (.h))))))) k68 := fn_row (n := 68) fns_eq0 (by kernel_rfl) Tryz.func68 e68
theorem r69 : FnRow kE0 (.o (.i (.i (.o (.o (.o (.h))))))) k69 := fn_row (n := 69) fns_eq0 (by kernel_rfl) Tryz.func69 e69
theorem r70 : FnRow kE0 (.i (.i (.i (.o (.o (.o (.h))))))) k70 := fn_row (n := 70) fns_eq0 (by kernel_rfl) Tryz.func70 e70
theorem r71 : FnRow kE0 (.o (.o (.o (.i (.o (.o (.h))))))) k71 := fn_row (n := 71) fns_eq0 (by kernel_rfl) Tryz.func71 e71
theorem r76 : FnRow kE0 (.i (.o (.i (.i (.o (.o (.h))))))) k76 := fn_row (n := 76) fns_eq0 (by kernel_rfl) Tryz.func76 e76
theorem r77 : FnRow kE0 (.o (.i (.i (.i (.o (.o (.h))))))) k77 := fn_row (n := 77) fns_eq0 (by kernel_rfl) Tryz.func77 e77
theorem r78 : FnRow kE0 (.i (.i (.i (.i (.o (.o (.h))))))) k78 := fn_row (n := 78) fns_eq0 (by kernel_rfl) Tryz.func78 e78
theorem r88 : FnRow kE0 (.i (.o (.o (.i (.i (.o (.h))))))) k88 := fn_row (n := 88) fns_eq0 (by kernel_rfl) Tryz.func88 e88
theorem r89 : FnRow kE0 (.o (.i (.o (.i (.i (.o (.h))))))) k89 := fn_row (n := 89) fns_eq0 (by kernel_rfl) Tryz.func89 e89
theorem r90 : FnRow kE0 (.i (.i (.o (.i (.i (.o (.h))))))) k90 := fn_row (n := 90) fns_eq0 (by kernel_rfl) Tryz.func90 e90
theorem r91 : FnRow kE0 (.o (.o (.i (.i (.i (.o (.h))))))) k91 := fn_row (n := 91) fns_eq0 (by kernel_rfl) Tryz.func91 e91
theorem r92 : FnRow kE0 (.i (.o (.i (.i (.i (.o (.h))))))) k92 := fn_row (n := 92) fns_eq0 (by kernel_rfl) Tryz.func92 e92
theorem r93 : FnRow kE0 (.o (.i (.i (.i (.i (.o (.h))))))) k93 := fn_row (n := 93) fns_eq0 (by kernel_rfl) Tryz.func93 e93
theorem r94 : FnRow kE0 (.i (.i (.i (.i (.i (.o (.h))))))) k94 := fn_row (n := 94) fns_eq0 (by kernel_rfl) Tryz.func94 e94
theorem r96 : FnRow kE0 (.i (.o (.o (.o (.o (.i (.h))))))) k96 := fn_row (n := 96) fns_eq0 (by kernel_rfl) Tryz.func96 e96
theorem r99 : FnRow kE0 (.o (.o (.i (.o (.o (.i (.h))))))) k99 := fn_row (n := 99) fns_eq0 (by kernel_rfl) Tryz.func99 e99
theorem r100 : FnRow kE0 (.i (.o (.i (.o (.o (.i (.h))))))) k100 := fn_row (n := 100) fns_eq0 (by kernel_rfl) Tryz.func100 e100
theorem r103 : FnRow kE0 (.o (.o (.o (.i (.o (.i (.h))))))) k103 := fn_row (n := 103) fns_eq0 (by kernel_rfl) Tryz.func103 e103
theorem r107 : FnRow kE0 (.o (.o (.i (.i (.o (.i (.h))))))) k107 := fn_row (n := 107) fns_eq0 (by kernel_rfl) Tryz.func107 e107
theorem r108 : FnRow kE0 (.i (.o (.i (.i (.o (.i (.h))))))) k108 := fn_row (n := 108) fns_eq0 (by kernel_rfl) Tryz.func108 e108
theorem r109 : FnRow kE0 (.o (.i (.i (.i (.o (.i (.h))))))) k109 := fn_row (n := 109) fns_eq0 (by kernel_rfl) Tryz.func109 e109
theorem r110 : FnRow kE0 (.i (.i (.i (.i (.o (.i (.h))))))) k110 := fn_row (n := 110) fns_eq0 (by kernel_rfl) Tryz.func110 e110
theorem r111 : FnRow kE0 (.o (.o (.o (.o (.i (.i (.h))))))) k111 := fn_row (n := 111) fns_eq0 (by kernel_rfl) Tryz.func111 e111
theorem r112 : FnRow kE0 (.i (.o (.o (.o (.i (.i (.h))))))) k112 := fn_row (n := 112) fns_eq0 (by kernel_rfl) Tryz.func112 e112
theorem r114 : FnRow kE0 (.i (.i (.o (.o (.i (.i (.h))))))) k114 := fn_row (n := 114) fns_eq0 (by kernel_rfl) Tryz.func114 e114
theorem r115 : FnRow kE0 (.o (.o (.i (.o (.i (.i (.h))))))) k115 := fn_row (n := 115) fns_eq0 (by kernel_rfl) Tryz.func115 e115
theorem r116 : FnRow kE0 (.i (.o (.i (.o (.i (.i (.h))))))) k116 := fn_row (n := 116) fns_eq0 (by kernel_rfl) Tryz.func116 e116
theorem r117 : FnRow kE0 (.o (.i (.i (.o (.i (.i (.h))))))) k117 := fn_row (n := 117) fns_eq0 (by kernel_rfl) Tryz.func117 e117
theorem r118 : FnRow kE0 (.i (.i (.i (.o (.i (.i (.h))))))) k118 := fn_row (n := 118) fns_eq0 (by kernel_rfl) Tryz.func118 e118
theorem r119 : FnRow kE0 (.o (.o (.o (.i (.i (.i (.h))))))) k119 := fn_row (n := 119) fns_eq0 (by kernel_rfl) Tryz.func119 e119
theorem r120 : FnRow kE0 (.i (.o (.o (.i (.i (.i (.h))))))) k120 := fn_row (n := 120) fns_eq0 (by kernel_rfl) Tryz.func120 e120
theorem r121 : FnRow kE0 (.o (.i (.o (.i (.i (.i (.h))))))) k121 := fn_row (n := 121) fns_eq0 (by kernel_rfl) Tryz.func121 e121
theorem r122 : FnRow kE0 (.i (.i (.o (.i (.i (.i (.h))))))) k122 := fn_row (n := 122) fns_eq0 (by kernel_rfl) Tryz.func122 e122
theorem r123 : FnRow kE0 (.o (.o (.i (.i (.i (.i (.h))))))) k123 := fn_row (n := 123) fns_eq0 (by kernel_rfl) Tryz.func123 e123
theorem r124 : FnRow kE0 (.i (.o (.i (.i (.i (.i (.h))))))) k124 := fn_row (n := 124) fns_eq0 (by kernel_rfl) Tryz.func124 e124
theorem r125 : FnRow kE0 (.o (.i (.i (.i (.i (.i (.h))))))) k125 := fn_row (n := 125) fns_eq0 (by kernel_rfl) Tryz.func125 e125
theorem r126 : FnRow kE0 (.i (.i (.i (.i (.i (.i (.h))))))) k126 := fn_row (n := 126) fns_eq0 (by kernel_rfl) Tryz.func126 e126
theorem r127 : FnRow kE0 (.o (.o (.o (.o (.o (.o (.o (.h)))))))) k127 := fn_row (n := 127) fns_eq0 (by kernel_rfl) Tryz.func127 e127
theorem r128 : FnRow kE0 (.i (.o (.o (.o (.o (.o (.o (.h)))))))) k128 := fn_row (n := 128) fns_eq0 (by kernel_rfl) Tryz.func128 e128
theorem r129 : FnRow kE0 (.o (.i (.o (.o (.o (.o (.o (.h)))))))) k129 := fn_row (n := 129) fns_eq0 (by kernel_rfl) Tryz.func129 e129
theorem r130 : FnRow kE0 (.i (.i (.o (.o (.o (.o (.o (.h)))))))) k130 := fn_row (n := 130) fns_eq0 (by kernel_rfl) Tryz.func130 e130
theorem r131 : FnRow kE0 (.o (.o (.i (.o (.o (.o (.o (.h)))))))) k131 := fn_row (n := 131) fns_eq0 (by kernel_rfl) Tryz.func131 e131
theorem r132 : FnRow kE0 (.i (.o (.i (.o (.o (.o (.o (.h)))))))) k132 := fn_row (n := 132) fns_eq0 (by kernel_rfl) Tryz.func132 e132
theorem r133 : FnRow kE0 (.o (.i (.i (.o (.o (.o (.o (.h)))))))) k133 := fn_row (n := 133) fns_eq0 (by kernel_rfl) Tryz.func133 e133
theorem r134 : FnRow kE0 (.i (.i (.i (.o (.o (.o (.o (.h)))))))) k134 := fn_row (n := 134) fns_eq0 (by kernel_rfl) Tryz.func134 e134
theorem r135 : FnRow kE0 (.o (.o (.o (.i (.o (.o (.o (.h)))))))) k135 := fn_row (n := 135) fns_eq0 (by kernel_rfl) Tryz.func135 e135
theorem r136 : FnRow kE0 (.i (.o (.o (.i (.o (.o (.o (.h)))))))) k136 := fn_row (n := 136) fns_eq0 (by kernel_rfl) Tryz.func136 e136
theorem r137 : FnRow kE0 (.o (.i (.o (.i (.o (.o (.o (.h)))))))) k137 := fn_row (n := 137) fns_eq0 (by kernel_rfl) Tryz.func137 e137
theorem r140 : FnRow kE0 (.i (.o (.i (.i (.o (.o (.o (.h)))))))) k140 := fn_row (n := 140) fns_eq0 (by kernel_rfl) Tryz.func140 e140
theorem r141 : FnRow kE0 (.o (.i (.i (.i (.o (.o (.o (.h)))))))) k141 := fn_row (n := 141) fns_eq0 (by kernel_rfl) Tryz.func141 e141
theorem r142 : FnRow kE0 (.i (.i (.i (.i (.o (.o (.o (.h)))))))) k142 := fn_row (n := 142) fns_eq0 (by kernel_rfl) Tryz.func142 e142
theorem r143 : FnRow kE0 (.o (.o (.o (.o (.i (.o (.o (.h)))))))) k143 := fn_row (n := 143) fns_eq0 (by kernel_rfl) Tryz.func143 e143
theorem r145 : FnRow kE0 (.o (.i (.o (.o (.i (.o (.o (.h)))))))) k145 := fn_row (n := 145) fns_eq0 (by kernel_rfl) Tryz.func145 e145
theorem r147 : FnRow kE0 (.o (.o (.i (.o (.i (.o (.o (.h)))))))) k147 := fn_row (n := 147) fns_eq0 (by kernel_rfl) Tryz.func147 e147
theorem r148 : FnRow kE0 (.i (.o (.i (.o (.i (.o (.o (.h)))))))) k148 := fn_row (n := 148) fns_eq0 (by kernel_rfl) Tryz.func148 e148
theorem r149 : FnRow kE0 (.o (.i (.i (.o (.i (.o (.o (.h)))))))) k149 := fn_row (n := 149) fns_eq0 (by kernel_rfl) Tryz.func149 e149
theorem r150 : FnRow kE0 (.i (.i (.i (.o (.i (.o (.o (.h)))))))) k150 := fn_row (n := 150) fns_eq0 (by kernel_rfl) Tryz.func150 e150
theorem r151 : FnRow kE0 (.o (.o (.o (.i (.i (.o (.o (.h)))))))) k151 := fn_row (n := 151) fns_eq0 (by kernel_rfl) Tryz.func151 e151
theorem r152 : FnRow kE0 (.i (.o (.o (.i (.i (.o (.o (.h)))))))) k152 := fn_row (n := 152) fns_eq0 (by kernel_rfl) Tryz.func152 e152
theorem r153 : FnRow kE0 (.o (.i (.o (.i (.i (.o (.o (.h)))))))) k153 := fn_row (n := 153) fns_eq0 (by kernel_rfl) Tryz.func153 e153
theorem r155 : FnRow kE0 (.o (.o (.i (.i (.i (.o (.o (.h)))))))) k155 := fn_row (n := 155) fns_eq0 (by kernel_rfl) Tryz.func155 e155
theorem r156 : FnRow kE0 (.i (.o (.i (.i (.i (.o (.o (.h)))))))) k156 := fn_row (n := 156) fns_eq0 (by kernel_rfl) Tryz.func156 e156
theorem r157 : FnRow kE0 (.o (.i (.i (.i (.i (.o (.o (.h)))))))) k157 := fn_row (n := 157) fns_eq0 (by kernel_rfl) Tryz.func157 e157
theorem r158 : FnRow kE0 (.i (.i (.i (.i (.i (.o (.o (.h)))))))) k158 := fn_row (n := 158) fns_eq0 (by kernel_rfl) Tryz.func158 e158
theorem r159 : FnRow kE0 (.o (.o (.o (.o (.o (.i (.o (.h)))))))) k159 := fn_row (n := 159) fns_eq0 (by kernel_rfl) Tryz.func159 e159
theorem r160 : FnRow kE0 (.i (.o (.o (.o (.o (.i (.o (.h)))))))) k160 := fn_row (n := 160) fns_eq0 (by kernel_rfl) Tryz.func160 e160
theorem r163 : FnRow kE0 (.o (.o (.i (.o (.o (.i (.o (.h)))))))) k163 := fn_row (n := 163) fns_eq0 (by kernel_rfl) Tryz.func163 e163
theorem r164 : FnRow kE0 (.i (.o (.i (.o (.o (.i (.o (.h)))))))) k164 := fn_row (n := 164) fns_eq0 (by kernel_rfl) Tryz.func164 e164
theorem r165 : FnRow kE0 (.o (.i (.i (.o (.o (.i (.o (.h)))))))) k165 := fn_row (n := 165) fns_eq0 (by kernel_rfl) Tryz.func165 e165
theorem r166 : FnRow kE0 (.i (.i (.i (.o (.o (.i (.o (.h)))))))) k166 := fn_row (n := 166) fns_eq0 (by kernel_rfl) Tryz.func166 e166
theorem r167 : FnRow kE0 (.o (.o (.o (.i (.o (.i (.o (.h)))))))) k167 := fn_row (n := 167) fns_eq0 (by kernel_rfl) Tryz.func167 e167
theorem r168 : FnRow kE0 (.i (.o (.o (.i (.o (.i (.o (.h)))))))) k168 := fn_row (n := 168) fns_eq0 (by kernel_rfl) Tryz.func168 e168
theorem r169 : FnRow kE0 (.o (.i (.o (.i (.o (.i (.o (.h)))))))) k169 := fn_row (n := 169) fns_eq0 (by kernel_rfl) Tryz.func169 e169
theorem r170 : FnRow kE0 (.i (.i (.o (.i (.o (.i (.o (.h)))))))) k170 := fn_row (n := 170) fns_eq0 (by kernel_rfl) Tryz.func170 e170
theorem r171 : FnRow kE0 (.o (.o (.i (.i (.o (.i (.o (.h)))))))) k171 := fn_row (n := 171) fns_eq0 (by kernel_rfl) Tryz.func171 e171
theorem r172 : FnRow kE0 (.i (.o (.i (.i (.o (.i (.o (.h)))))))) k172 := fn_row (n := 172) fns_eq0 (by kernel_rfl) Tryz.func172 e172
theorem r173 : FnRow kE0 (.o (.i (.i (.i (.o (.i (.o (.h)))))))) k173 := fn_row (n := 173) fns_eq0 (by kernel_rfl) Tryz.func173 e173
theorem r174 : FnRow kE0 (.i (.i (.i (.i (.o (.i (.o (.h)))))))) k174 := fn_row (n := 174) fns_eq0 (by kernel_rfl) Tryz.func174 e174
theorem r175 : FnRow kE0 (.o (.o (.o (.o (.i (.i (.o (.h)))))))) k175 := fn_row (n := 175) fns_eq0 (by kernel_rfl) Tryz.func175 e175
theorem r176 : FnRow kE0 (.i (.o (.o (.o (.i (.i (.o (.h)))))))) k176 := fn_row (n := 176) fns_eq0 (by kernel_rfl) Tryz.func176 e176
theorem r177 : FnRow kE0 (.o (.i (.o (.o (.i (.i (.o (.h)))))))) k177 := fn_row (n := 177) fns_eq0 (by kernel_rfl) Tryz.func177 e177
theorem r178 : FnRow kE0 (.i (.i (.o (.o (.i (.i (.o (.h)))))))) k178 := fn_row (n := 178) fns_eq0 (by kernel_rfl) Tryz.func178 e178
theorem r179 : FnRow kE0 (.o (.o (.i (.o (.i (.i (.o (.h)))))))) k179 := fn_row (n := 179) fns_eq0 (by kernel_rfl) Tryz.func179 e179
theorem r183 : FnRow kE0 (.o (.o (.o (.i (.i (.i (.o (.h)))))))) k183 := fn_row (n := 183) fns_eq0 (by kernel_rfl) Tryz.func183 e183
theorem r186 : FnRow kE0 (.i (.i (.o (.i (.i (.i (.o (.h)))))))) k186 := fn_row (n := 186) fns_eq0 (by kernel_rfl) Tryz.func186 e186
theorem r188 : FnRow kE0 (.i (.o (.i (.i (.i (.i (.o (.h)))))))) k188 := fn_row (n := 188) fns_eq0 (by kernel_rfl) Tryz.func188 e188
theorem r189 : FnRow kE0 (.o (.i (.i (.i (.i (.i (.o (.h)))))))) k189 := fn_row (n := 189) fns_eq0 (by kernel_rfl) Tryz.func189 e189
theorem r190 : FnRow kE0 (.i (.i (.i (.i (.i (.i (.o (.h)))))))) k190 := fn_row (n := 190) fns_eq0 (by kernel_rfl) Tryz.func190 e190
theorem r191 : FnRow kE0 (.o (.o (.o (.o (.o (.o (.i (.h)))))))) k191 := fn_row (n := 191) fns_eq0 (by kernel_rfl) Tryz.func191 e191
theorem r192 : FnRow kE0 (.i (.o (.o (.o (.o (.o (.i (.h)))))))) k192 := fn_row (n := 192) fns_eq0 (by kernel_rfl) Tryz.func192 e192
theorem r193 : FnRow kE0 (.o (.i (.o (.o (.o (.o (.i (.h)))))))) k193 := fn_row (n := 193) fns_eq0 (by kernel_rfl) Tryz.func193 e193
theorem r195 : FnRow kE0 (.o (.o (.i (.o (.o (.o (.i (.h)))))))) k195 := fn_row (n := 195) fns_eq0 (by kernel_rfl) Tryz.func195 e195
theorem r196 : FnRow kE0 (.i (.o (.i (.o (.o (.o (.i (.h)))))))) k196 := fn_row (n := 196) fns_eq0 (by kernel_rfl) Tryz.func196 e196
theorem r210 : FnRow kE0 (.i (.i (.o (.o (.i (.o (.i (.h)))))))) k210 := fn_row (n := 210) fns_eq0 (by kernel_rfl) Tryz.func210 e210
theorem r211 : FnRow kE0 (.o (.o (.i (.o (.i (.o (.i (.h)))))))) k211 := fn_row (n := 211) fns_eq0 (by kernel_rfl) Tryz.func211 e211
theorem r212 : FnRow kE0 (.i (.o (.i (.o (.i (.o (.i (.h)))))))) k212 := fn_row (n := 212) fns_eq0 (by kernel_rfl) Tryz.func212 e212
theorem r213 : FnRow kE0 (.o (.i (.i (.o (.i (.o (.i (.h)))))))) k213 := fn_row (n := 213) fns_eq0 (by kernel_rfl) Tryz.func213 e213
theorem r214 : FnRow kE0 (.i (.i (.i (.o (.i (.o (.i (.h)))))))) k214 := fn_row (n := 214) fns_eq0 (by kernel_rfl) Tryz.func214 e214
theorem r215 : FnRow kE0 (.o (.o (.o (.i (.i (.o (.i (.h)))))))) k215 := fn_row (n := 215) fns_eq0 (by kernel_rfl) Tryz.func215 e215
theorem r216 : FnRow kE0 (.i (.o (.o (.i (.i (.o (.i (.h)))))))) k216 := fn_row (n := 216) fns_eq0 (by kernel_rfl) Tryz.func216 e216
theorem r217 : FnRow kE0 (.o (.i (.o (.i (.i (.o (.i (.h)))))))) k217 := fn_row (n := 217) fns_eq0 (by kernel_rfl) Tryz.func217 e217
theorem r218 : FnRow kE0 (.i (.i (.o (.i (.i (.o (.i (.h)))))))) k218 := fn_row (n := 218) fns_eq0 (by kernel_rfl) Tryz.func218 e218
theorem r219 : FnRow kE0 (.o (.o (.i (.i (.i (.o (.i (.h)))))))) k219 := fn_row (n := 219) fns_eq0 (by kernel_rfl) Tryz.func219 e219
theorem r220 : FnRow kE0 (.i (.o (.i (.i (.i (.o (.i (.h)))))))) k220 := fn_row (n := 220) fns_eq0 (by kernel_rfl) Tryz.func220 e220
theorem r225 : FnRow kE0 (.o (.i (.o (.o (.o (.i (.i (.h)))))))) k225 := fn_row (n := 225) fns_eq0 (by kernel_rfl) Tryz.func225 e225
theorem r226 : FnRow kE0 (.i (.i (.o (.o (.o (.i (.i (.h)))))))) k226 := fn_row (n := 226) fns_eq0 (by kernel_rfl) Tryz.func226 e226
theorem r229 : FnRow kE0 (.o (.i (.i (.o (.o (.i (.i (.h)))))))) k229 := fn_row (n := 229) fns_eq0 (by kernel_rfl) Tryz.func229 e229
theorem r233 : FnRow kE0 (.o (.i (.o (.i (.o (.i (.i (.h)))))))) k233 := fn_row (n := 233) fns_eq0 (by kernel_rfl) Tryz.func233 e233
theorem r235 : FnRow kE0 (.o (.o (.i (.i (.o (.i (.i (.h)))))))) k235 := fn_row (n := 235) fns_eq0 (by kernel_rfl) Tryz.func235 e235
theorem r238 : FnRow kE0 (.i (.i (.i (.i (.o (.i (.i (.h)))))))) k238 := fn_row (n := 238) fns_eq0 (by kernel_rfl) Tryz.func238 e238
theorem r239 : FnRow kE0 (.o (.o (.o (.o (.i (.i (.i (.h)))))))) k239 := fn_row (n := 239) fns_eq0 (by kernel_rfl) Tryz.func239 e239
theorem r240 : FnRow kE0 (.i (.o (.o (.o (.i (.i (.i (.h)))))))) k240 := fn_row (n := 240) fns_eq0 (by kernel_rfl) Tryz.func240 e240
theorem r241 : FnRow kE0 (.o (.i (.o (.o (.i (.i (.i (.h)))))))) k241 := fn_row (n := 241) fns_eq0 (by kernel_rfl) Tryz.func241 e241
theorem r242 : FnRow kE0 (.i (.i (.o (.o (.i (.i (.i (.h)))))))) k242 := fn_row (n := 242) fns_eq0 (by kernel_rfl) Tryz.func242 e242
theorem r243 : FnRow kE0 (.o (.o (.i (.o (.i (.i (.i (.h)))))))) k243 := fn_row (n := 243) fns_eq0 (by kernel_rfl) Tryz.func243 e243
theorem r244 : FnRow kE0 (.i (.o (.i (.o (.i (.i (.i (.h)))))))) k244 := fn_row (n := 244) fns_eq0 (by kernel_rfl) Tryz.func244 e244
theorem r245 : FnRow kE0 (.o (.i (.i (.o (.i (.i (.i (.h)))))))) k245 := fn_row (n := 245) fns_eq0 (by kernel_rfl) Tryz.func245 e245
theorem r246 : FnRow kE0 (.i (.i (.i (.o (.i (.i (.i (.h)))))))) k246 := fn_row (n := 246) fns_eq0 (by kernel_rfl) Tryz.func246 e246
theorem r247 : FnRow kE0 (.o (.o (.o (.i (.i (.i (.i (.h)))))))) k247 := fn_row (n := 247) fns_eq0 (by kernel_rfl) Tryz.func247 e247
theorem r248 : FnRow kE0 (.i (.o (.o (.i (.i (.i (.i (.h)))))))) k248 := fn_row (n := 248) fns_eq0 (by kernel_rfl) Tryz.func248 e248
theorem r253 : FnRow kE0 (.o (.i (.i (.i (.i (.i (.i (.h)))))))) k253 := fn_row (n := 253) fns_eq0 (by kernel_rfl) Tryz.func253 e253
theorem r255 : FnRow kE0 (.o (.o (.o (.o (.o (.o (.o (.o (.h))))))))) k255 := fn_row (n := 255) fns_eq0 (by kernel_rfl) Tryz.func255 e255
theorem r258 : FnRow kE0 (.i (.i (.o (.o (.o (.o (.o (.o (.h))))))))) k258 := fn_row (n := 258) fns_eq0 (by kernel_rfl) Tryz.func258 e258
theorem r259 : FnRow kE0 (.o (.o (.i (.o (.o (.o (.o (.o (.h))))))))) k259 := fn_row (n := 259) fns_eq0 (by kernel_rfl) Tryz.func259 e259
theorem r260 : FnRow kE0 (.i (.o (.i (.o (.o (.o (.o (.o (.h))))))))) k260 := fn_row (n := 260) fns_eq0 (by kernel_rfl) Tryz.func260 e260
theorem r262 : FnRow kE0 (.i (.i (.i (.o (.o (.o (.o (.o (.h))))))))) k262 := fn_row (n := 262) fns_eq0 (by kernel_rfl) Tryz.func262 e262
theorem r263 : FnRow kE0 (.o (.o (.o (.i (.o (.o (.o (.o (.h))))))))) k263 := fn_row (n := 263) fns_eq0 (by kernel_rfl) Tryz.func263 e263
theorem r264 : FnRow kE0 (.i (.o (.o (.i (.o (.o (.o (.o (.h))))))))) k264 := fn_row (n := 264) fns_eq0 (by kernel_rfl) Tryz.func264 e264
theorem r276 : FnRow kE0 (.i (.o (.i (.o (.i (.o (.o (.o (.h))))))))) k276 := fn_row (n := 276) fns_eq0 (by kernel_rfl) Tryz.func276 e276
theorem r277 : FnRow kE0 (.o (.i (.i (.o (.i (.o (.o (.o (.h))))))))) k277 := fn_row (n := 277) fns_eq0 (by kernel_rfl) Tryz.func277 e277
theorem r281 : FnRow kE0 (.o (.i (.o (.i (.i (.o (.o (.o (.h))))))))) k281 := fn_row (n := 281) fns_eq0 (by kernel_rfl) Tryz.func281 e281
theorem r282 : FnRow kE0 (.i (.i (.o (.i (.i (.o (.o (.o (.h))))))))) k282 := fn_row (n := 282) fns_eq0 (by kernel_rfl) Tryz.func282 e282
theorem r283 : FnRow kE0 (.o (.o (.i (.i (.i (.o (.o (.o (.h))))))))) k283 := fn_row (n := 283) fns_eq0 (by kernel_rfl) Tryz.func283 e283
theorem r284 : FnRow kE0 (.i (.o (.i (.i (.i (.o (.o (.o (.h))))))))) k284 := fn_row (n := 284) fns_eq0 (by kernel_rfl) Tryz.func284 e284
theorem r285 : FnRow kE0 (.o (.i (.i (.i (.i (.o (.o (.o (.h))))))))) k285 := fn_row (n := 285) fns_eq0 (by kernel_rfl) Tryz.func285 e285
theorem r286 : FnRow kE0 (.i (.i (.i (.i (.i (.o (.o (.o (.h))))))))) k286 := fn_row (n := 286) fns_eq0 (by kernel_rfl) Tryz.func286 e286
theorem r287 : FnRow kE0 (.o (.o (.o (.o (.o (.i (.o (.o (.h))))))))) k287 := fn_row (n := 287) fns_eq0 (by kernel_rfl) Tryz.func287 e287
theorem r292 : FnRow kE0 (.i (.o (.i (.o (.o (.i (.o (.o (.h))))))))) k292 := fn_row (n := 292) fns_eq0 (by kernel_rfl) Tryz.func292 e292
theorem r298 : FnRow kE0 (.i (.i (.o (.i (.o (.i (.o (.o (.h))))))))) k298 := fn_row (n := 298) fns_eq0 (by kernel_rfl) Tryz.func298 e298
theorem r299 : FnRow kE0 (.o (.o (.i (.i (.o (.i (.o (.o (.h))))))))) k299 := fn_row (n := 299) fns_eq0 (by kernel_rfl) Tryz.func299 e299
theorem r303 : FnRow kE0 (.o (.o (.o (.o (.i (.i (.o (.o (.h))))))))) k303 := fn_row (n := 303) fns_eq0 (by kernel_rfl) Tryz.func303 e303
theorem r304 : FnRow kE0 (.i (.o (.o (.o (.i (.i (.o (.o (.h))))))))) k304 := fn_row (n := 304) fns_eq0 (by kernel_rfl) Tryz.func304 e304
theorem r306 : FnRow kE0 (.i (.i (.o (.o (.i (.i (.o (.o (.h))))))))) k306 := fn_row (n := 306) fns_eq0 (by kernel_rfl) Tryz.func306 e306
theorem r307 : FnRow kE0 (.o (.o (.i (.o (.i (.i (.o (.o (.h))))))))) k307 := fn_row (n := 307) fns_eq0 (by kernel_rfl) Tryz.func307 e307
theorem r308 : FnRow kE0 (.i (.o (.i (.o (.i (.i (.o (.o (.h))))))))) k308 := fn_row (n := 308) fns_eq0 (by kernel_rfl) Tryz.func308 e308
theorem r309 : FnRow kE0 (.o (.i (.i (.o (.i (.i (.o (.o (.h))))))))) k309 := fn_row (n := 309) fns_eq0 (by kernel_rfl) Tryz.func309 e309
theorem r314 : FnRow kE0 (.i (.i (.o (.i (.i (.i (.o (.o (.h))))))))) k314 := fn_row (n := 314) fns_eq0 (by kernel_rfl) Tryz.func314 e314
theorem r316 : FnRow kE0 (.i (.o (.i (.i (.i (.i (.o (.o (.h))))))))) k316 := fn_row (n := 316) fns_eq0 (by kernel_rfl) Tryz.func316 e316
theorem r317 : FnRow kE0 (.o (.i (.i (.i (.i (.i (.o (.o (.h))))))))) k317 := fn_row (n := 317) fns_eq0 (by kernel_rfl) Tryz.func317 e317
theorem r318 : FnRow kE0 (.i (.i (.i (.i (.i (.i (.o (.o (.h))))))))) k318 := fn_row (n := 318) fns_eq0 (by kernel_rfl) Tryz.func318 e318
theorem r319 : FnRow kE0 (.o (.o (.o (.o (.o (.o (.i (.o (.h))))))))) k319 := fn_row (n := 319) fns_eq0 (by kernel_rfl) Tryz.func319 e319
theorem r320 : FnRow kE0 (.i (.o (.o (.o (.o (.o (.i (.o (.h))))))))) k320 := fn_row (n := 320) fns_eq0 (by kernel_rfl) Tryz.func320 e320
theorem r324 : FnRow kE0 (.i (.o (.i (.o (.o (.o (.i (.o (.h))))))))) k324 := fn_row (n := 324) fns_eq0 (by kernel_rfl) Tryz.func324 e324
theorem r325 : FnRow kE0 (.o (.i (.i (.o (.o (.o (.i (.o (.h))))))))) k325 := fn_row (n := 325) fns_eq0 (by kernel_rfl) Tryz.func325 e325
theorem r327 : FnRow kE0 (.o (.o (.o (.i (.o (.o (.i (.o (.h))))))))) k327 := fn_row (n := 327) fns_eq0 (by kernel_rfl) Tryz.func327 e327
theorem r328 : FnRow kE0 (.i (.o (.o (.i (.o (.o (.i (.o (.h))))))))) k328 := fn_row (n := 328) fns_eq0 (by kernel_rfl) Tryz.func328 e328
theorem r329 : FnRow kE0 (.o (.i (.o (.i (.o (.o (.i (.o (.h))))))))) k329 := fn_row (n := 329) fns_eq0 (by kernel_rfl) Tryz.func329 e329
theorem r330 : FnRow kE0 (.i (.i (.o (.i (.o (.o (.i (.o (.h))))))))) k330 := fn_row (n := 330) fns_eq0 (by kernel_rfl) Tryz.func330 e330
theorem r331 : FnRow kE0 (.o (.o (.i (.i (.o (.o (.i (.o (.h))))))))) k331 := fn_row (n := 331) fns_eq0 (by kernel_rfl) Tryz.func331 e331
theorem r335 : FnRow kE0 (.o (.o (.o (.o (.i (.o (.i (.o (.h))))))))) k335 := fn_row (n := 335) fns_eq0 (by kernel_rfl) Tryz.func335 e335
theorem r338 : FnRow kE0 (.i (.i (.o (.o (.i (.o (.i (.o (.h))))))))) k338 := fn_row (n := 338) fns_eq0 (by kernel_rfl) Tryz.func338 e338
theorem r339 : FnRow kE0 (.o (.o (.i (.o (.i (.o (.i (.o (.h))))))))) k339 := fn_row (n := 339) fns_eq0 (by kernel_rfl) Tryz.func339 e339
theorem r340 : FnRow kE0 (.i (.o (.i (.o (.i (.o (.i (.o (.h))))))))) k340 := fn_row (n := 340) fns_eq0 (by kernel_rfl) Tryz.func340 e340
theorem r341 : FnRow kE0 (.o (.i (.i (.o (.i (.o (.i (.o (.h))))))))) k341 := fn_row (n := 341) fns_eq0 (by kernel_rfl) Tryz.func341 e341
theorem r342 : FnRow kE0 (.i (.i (.i (.o (.i (.o (.i (.o (.h))))))))) k342 := fn_row (n := 342) fns_eq0 (by kernel_rfl) Tryz.func342 e342
theorem r348 : FnRow kE0 (.i (.o (.i (.i (.i (.o (.i (.o (.h))))))))) k348 := fn_row (n := 348) fns_eq0 (by kernel_rfl) Tryz.func348 e348
theorem r357 : FnRow kE0 (.o (.i (.i (.o (.o (.i (.i (.o (.h))))))))) k357 := fn_row (n := 357) fns_eq0 (by kernel_rfl) Tryz.func357 e357
theorem r358 : FnRow kE0 (.i (.i (.i (.o (.o (.i (.i (.o (.h))))))))) k358 := fn_row (n := 358) fns_eq0 (by kernel_rfl) Tryz.func358 e358
theorem r359 : FnRow kE0 (.o (.o (.o (.i (.o (.i (.i (.o (.h))))))))) k359 := fn_row (n := 359) fns_eq0 (by kernel_rfl) Tryz.func359 e359
theorem r360 : FnRow kE0 (.i (.o (.o (.i (.o (.i (.i (.o (.h))))))))) k360 := fn_row (n := 360) fns_eq0 (by kernel_rfl) Tryz.func360 e360
theorem r361 : FnRow kE0 (.o (.i (.o (.i (.o (.i (.i (.o (.h))))))))) k361 := fn_row (n := 361) fns_eq0 (by kernel_rfl) Tryz.func361 e361
theorem r362 : FnRow kE0 (.i (.i (.o (.i (.o (.i (.i (.o (.h))))))))) k362 := fn_row (n := 362) fns_eq0 (by kernel_rfl) Tryz.func362 e362
theorem r363 : FnRow kE0 (.o (.o (.i (.i (.o (.i (.i (.o (.h))))))))) k363 := fn_row (n := 363) fns_eq0 (by kernel_rfl) Tryz.func363 e363
theorem r365 : FnRow kE0 (.o (.i (.i (.i (.o (.i (.i (.o (.h))))))))) k365 := fn_row (n := 365) fns_eq0 (by kernel_rfl) Tryz.func365 e365
theorem r375 : FnRow kE0 (.o (.o (.o (.i (.i (.i (.i (.o (.h))))))))) k375 := fn_row (n := 375) fns_eq0 (by kernel_rfl) Tryz.func375 e375
theorem r376 : FnRow kE0 (.i (.o (.o (.i (.i (.i (.i (.o (.h))))))))) k376 := fn_row (n := 376) fns_eq0 (by kernel_rfl) Tryz.func376 e376
theorem r377 : FnRow kE0 (.o (.i (.o (.i (.i (.i (.i (.o (.h))))))))) k377 := fn_row (n := 377) fns_eq0 (by kernel_rfl) Tryz.func377 e377
theorem r379 : FnRow kE0 (.o (.o (.i (.i (.i (.i (.i (.o (.h))))))))) k379 := fn_row (n := 379) fns_eq0 (by kernel_rfl) Tryz.func379 e379
theorem r380 : FnRow kE0 (.i (.o (.i (.i (.i (.i (.i (.o (.h))))))))) k380 := fn_row (n := 380) fns_eq0 (by kernel_rfl) Tryz.func380 e380
theorem r382 : FnRow kE0 (.i (.i (.i (.i (.i (.i (.i (.o (.h))))))))) k382 := fn_row (n := 382) fns_eq0 (by kernel_rfl) Tryz.func382 e382
theorem r388 : FnRow kE0 (.i (.o (.i (.o (.o (.o (.o (.i (.h))))))))) k388 := fn_row (n := 388) fns_eq0 (by kernel_rfl) Tryz.func388 e388
theorem r390 : FnRow kE0 (.i (.i (.i (.o (.o (.o (.o (.i (.h))))))))) k390 := fn_row (n := 390) fns_eq0 (by kernel_rfl) Tryz.func390 e390
theorem r395 : FnRow kE0 (.o (.o (.i (.i (.o (.o (.o (.i (.h))))))))) k395 := fn_row (n := 395) fns_eq0 (by kernel_rfl) Tryz.func395 e395
theorem r397 : FnRow kE0 (.o (.i (.i (.i (.o (.o (.o (.i (.h))))))))) k397 := fn_row (n := 397) fns_eq0 (by kernel_rfl) Tryz.func397 e397
theorem r401 : FnRow kE0 (.o (.i (.o (.o (.i (.o (.o (.i (.h))))))))) k401 := fn_row (n := 401) fns_eq0 (by kernel_rfl) Tryz.func401 e401
theorem r403 : FnRow kE0 (.o (.o (.i (.o (.i (.o (.o (.i (.h))))))))) k403 := fn_row (n := 403) fns_eq0 (by kernel_rfl) Tryz.func403 e403
theorem r404 : FnRow kE0 (.i (.o (.i (.o (.i (.o (.o (.i (.h))))))))) k404 := fn_row (n := 404) fns_eq0 (by kernel_rfl) Tryz.func404 e404
theorem r435 : FnRow kE0 (.o (.o (.i (.o (.i (.i (.o (.i (.h))))))))) k435 := fn_row (n := 435) fns_eq0 (by kernel_rfl) Tryz.func435 e435
theorem r436 : FnRow kE0 (.i (.o (.i (.o (.i (.i (.o (.i (.h))))))))) k436 := fn_row (n := 436) fns_eq0 (by kernel_rfl) Tryz.func436 e436
theorem r437 : FnRow kE0 (.o (.i (.i (.o (.i (.i (.o (.i (.h))))))))) k437 := fn_row (n := 437) fns_eq0 (by kernel_rfl) Tryz.func437 e437
theorem r439 : FnRow kE0 (.o (.o (.o (.i (.i (.i (.o (.i (.h))))))))) k439 := fn_row (n := 439) fns_eq0 (by kernel_rfl) Tryz.func439 e439
set_option maxRecDepth 20000 in
theorem tab_ok0 : TabOk kE0 ktab := tab_of ⟨⟨⟨⟨⟨⟨⟨⟨⟨trivial, AllT.some' r255, trivial⟩, AllT.some' r127, trivial⟩, AllT.none', ⟨⟨trivial, AllT.some' r319, trivial⟩, AllT.some' r191, trivial⟩⟩, AllT.some' r31, ⟨⟨⟨trivial, AllT.some' r287, trivial⟩, AllT.some' r159, trivial⟩, AllT.none', trivial⟩⟩, AllT.some' r15, ⟨⟨⟨trivial, AllT.some' r143, trivial⟩, AllT.none', ⟨⟨trivial, AllT.some' r335, trivial⟩, AllT.none', trivial⟩⟩, AllT.some' r47, ⟨⟨⟨trivial, AllT.some' r303, trivial⟩, AllT.some' r175, trivial⟩, AllT.some' r111, ⟨trivial, AllT.some' r239, trivial⟩⟩⟩⟩, AllT.some' r7, ⟨⟨⟨⟨⟨trivial, AllT.some' r263, trivial⟩, AllT.some' r135, trivial⟩, AllT.some' r71, ⟨⟨trivial, AllT.some' r327, trivial⟩, AllT.none', trivial⟩⟩, AllT.some' r39, ⟨⟨trivial, AllT.some' r167, trivial⟩, AllT.some' r103, ⟨⟨trivial, AllT.some' r359, trivial⟩, AllT.none', trivial⟩⟩⟩, AllT.some' r23, ⟨⟨⟨trivial, AllT.some' r151, trivial⟩, AllT.none', ⟨trivial, AllT.some' r215, trivial⟩⟩, AllT.some' r55, ⟨⟨trivial, AllT.some' r183, ⟨trivial, AllT.some' r439, trivial⟩⟩, AllT.some' r119, ⟨⟨trivial, AllT.some' r375, trivial⟩, AllT.some' r247, trivial⟩⟩⟩⟩⟩, AllT.some' r3, ⟨⟨⟨⟨⟨⟨trivial, AllT.some' r259, trivial⟩, AllT.some' r131, trivial⟩, AllT.some' r67, ⟨trivial, AllT.some' r195, trivial⟩⟩, AllT.some' r35, ⟨⟨trivial, AllT.some' r163, trivial⟩, AllT.some' r99, trivial⟩⟩, AllT.some' r19, ⟨⟨⟨trivial, AllT.some' r147, ⟨trivial, AllT.some' r403, trivial⟩⟩, AllT.none', ⟨⟨trivial, AllT.some' r339, trivial⟩, AllT.some' r211, trivial⟩⟩, AllT.some' r51, ⟨⟨⟨trivial, AllT.some' r307, trivial⟩, AllT.some' r179, ⟨trivial, AllT.some' r435, trivial⟩⟩, AllT.some' r115, ⟨trivial, AllT.some' r243, trivial⟩⟩⟩⟩, AllT.some' r11, ⟨⟨⟨⟨trivial, AllT.none', ⟨trivial, AllT.some' r395, trivial⟩⟩, AllT.none', ⟨⟨trivial, AllT.some' r331, trivial⟩, AllT.none', trivial⟩⟩, AllT.some' r43, ⟨⟨⟨trivial, AllT.some' r299, trivial⟩, AllT.some' r171, trivial⟩, AllT.some' r107, ⟨⟨trivial, AllT.some' r363, trivial⟩, AllT.some' r235, trivial⟩⟩⟩, AllT.some' r27, ⟨⟨⟨⟨trivial, AllT.some' r283, trivial⟩, AllT.some' r155, trivial⟩, AllT.some' r91, ⟨trivial, AllT.some' r219, trivial⟩⟩, AllT.some' r59, ⟨trivial, AllT.some' r123, ⟨⟨trivial, AllT.some' r379, trivial⟩, AllT.none', trivial⟩⟩⟩⟩⟩⟩, AllT.none', ⟨⟨⟨⟨⟨⟨trivial, AllT.some' r129, trivial⟩, AllT.some' r65, ⟨trivial, AllT.some' r193, trivial⟩⟩, AllT.some' r33, ⟨trivial, AllT.none', ⟨trivial, AllT.some' r225, trivial⟩⟩⟩, AllT.some' r17, ⟨⟨⟨trivial, AllT.some' r145, ⟨trivial, AllT.some' r401, trivial⟩⟩, AllT.none', trivial⟩, AllT.some' r49, ⟨⟨trivial, AllT.some' r177, trivial⟩, AllT.none', ⟨trivial, AllT.some' r241, trivial⟩⟩⟩⟩, AllT.some' r9, ⟨⟨⟨⟨trivial, AllT.some' r137, trivial⟩, AllT.none', ⟨⟨trivial, AllT.some' r329, trivial⟩, AllT.none', trivial⟩⟩, AllT.some' r41, ⟨⟨trivial, AllT.some' r169, trivial⟩, AllT.none', ⟨⟨trivial, AllT.some' r361, trivial⟩, AllT.some' r233, trivial⟩⟩⟩, AllT.some' r25, ⟨⟨⟨⟨trivial, AllT.some' r281, trivial⟩, AllT.some' r153, trivial⟩, AllT.some' r89, ⟨trivial, AllT.some' r217, trivial⟩⟩, AllT.some' r57, ⟨trivial, AllT.some' r121, ⟨⟨trivial, AllT.some' r377, trivial⟩, AllT.none', trivial⟩⟩⟩⟩⟩, AllT.some' r5, ⟨⟨⟨⟨⟨trivial, AllT.some' r133, trivial⟩, AllT.some' r69, ⟨⟨trivial, AllT.some' r325, trivial⟩, AllT.none', trivial⟩⟩, AllT.some' r37, ⟨⟨trivial, AllT.some' r165, trivial⟩, AllT.none', ⟨⟨trivial, AllT.some' r357, trivial⟩, AllT.some' r229, trivial⟩⟩⟩, AllT.some' r21, ⟨⟨⟨⟨trivial, AllT.some' r277, trivial⟩, AllT.some' r149, trivial⟩, AllT.none', ⟨⟨trivial, AllT.some' r341, trivial⟩, AllT.some' r213, trivial⟩⟩, AllT.some' r53, ⟨⟨⟨trivial, AllT.some' r309, trivial⟩, AllT.none', ⟨trivial, AllT.some' r437, trivial⟩⟩, AllT.some' r117, ⟨trivial, AllT.some' r245, trivial⟩⟩⟩⟩, AllT.some' r13, ⟨⟨⟨⟨trivial, AllT.some' r141, ⟨trivial, AllT.some' r397, trivial⟩⟩, AllT.some' r77, trivial⟩, AllT.some' r45, ⟨⟨trivial, AllT.some' r173, trivial⟩, AllT.some' r109, ⟨⟨trivial, AllT.some' r365, trivial⟩, AllT.none', trivial⟩⟩⟩, AllT.some' r29, ⟨⟨⟨⟨trivial, AllT.some' r285, trivial⟩, AllT.some' r157, trivial⟩, AllT.some' r93, trivial⟩, AllT.some' r61, ⟨⟨⟨trivial, AllT.some' r317, trivial⟩, AllT.some' r189, trivial⟩, AllT.some' r125, ⟨trivial, AllT.some' r253, trivial⟩⟩⟩⟩⟩⟩⟩, AllT.none', ⟨⟨⟨⟨⟨⟨⟨trivial, AllT.some' r128, trivial⟩, AllT.none', ⟨⟨trivial, AllT.some' r320, trivial⟩, AllT.some' r192, trivial⟩⟩, AllT.some' r32, ⟨⟨trivial, AllT.some' r160, trivial⟩, AllT.some' r96, trivial⟩⟩, AllT.some' r16, ⟨trivial, AllT.some' r48, ⟨⟨⟨trivial, AllT.some' r304, trivial⟩, AllT.some' r176, trivial⟩, AllT.some' r112, ⟨trivial, AllT.some' r240, trivial⟩⟩⟩⟩, AllT.some' r8, ⟨⟨⟨⟨⟨trivial, AllT.some' r264, trivial⟩, AllT.some' r136, trivial⟩, AllT.none', ⟨⟨trivial, AllT.some' r328, trivial⟩, AllT.none', trivial⟩⟩, AllT.some' r40, ⟨⟨trivial, AllT.some' r168, trivial⟩, AllT.none', ⟨⟨trivial, AllT.some' r360, trivial⟩, AllT.none', trivial⟩⟩⟩, AllT.some' r24, ⟨⟨⟨trivial, AllT.some' r152, trivial⟩, AllT.some' r88, ⟨trivial, AllT.some' r216, trivial⟩⟩, AllT.some' r56, ⟨trivial, AllT.some' r120, ⟨⟨trivial, AllT.some' r376, trivial⟩, AllT.some' r248, trivial⟩⟩⟩⟩⟩, AllT.some' r4, ⟨⟨⟨⟨⟨⟨trivial, AllT.some' r260, trivial⟩, AllT.some' r132, ⟨trivial, AllT.some' r388, trivial⟩⟩, AllT.some' r68, ⟨⟨trivial, AllT.some' r324, trivial⟩, AllT.some' r196, trivial⟩⟩, AllT.some' r36, ⟨⟨⟨trivial, AllT.some' r292, trivial⟩, AllT.some' r164, trivial⟩, AllT.some' r100, trivial⟩⟩, AllT.some' r20, ⟨⟨⟨⟨trivial, AllT.some' r276, trivial⟩, AllT.some' r148, ⟨trivial, AllT.some' r404, trivial⟩⟩, AllT.none', ⟨⟨trivial, AllT.some' r340, trivial⟩, AllT.some' r212, trivial⟩⟩, AllT.some' r52, ⟨⟨⟨trivial, AllT.some' r308, trivial⟩, AllT.none', ⟨trivial, AllT.some' r436, trivial⟩⟩, AllT.some' r116, ⟨trivial, AllT.some' r244, trivial⟩⟩⟩⟩, AllT.some' r12, ⟨⟨⟨⟨trivial, AllT.some' r140, trivial⟩, AllT.some' r76, trivial⟩, AllT.some' r44, ⟨⟨trivial, AllT.some' r172, trivial⟩, AllT.some' r108, trivial⟩⟩, AllT.some' r28, ⟨⟨⟨⟨trivial, AllT.some' r284, trivial⟩, AllT.some' r156, trivial⟩, AllT.some' r92, ⟨⟨trivial, AllT.some' r348, trivial⟩, AllT.some' r220, trivial⟩⟩, AllT.some' r60, ⟨⟨⟨trivial, AllT.some' r316, trivial⟩, AllT.some' r188, trivial⟩, AllT.some' r124, ⟨⟨trivial, AllT.some' r380, trivial⟩, AllT.none', trivial⟩⟩⟩⟩⟩⟩, AllT.none', ⟨⟨⟨⟨⟨⟨⟨trivial, AllT.some' r258, trivial⟩, AllT.some' r130, trivial⟩, AllT.some' r66, trivial⟩, AllT.some' r34, ⟨trivial, AllT.none', ⟨trivial, AllT.some' r226, trivial⟩⟩⟩, AllT.some' r18, ⟨⟨trivial, AllT.none', ⟨⟨trivial, AllT.some' r338, trivial⟩, AllT.some' r210, trivial⟩⟩, AllT.some' r50, ⟨⟨⟨trivial, AllT.some' r306, trivial⟩, AllT.some' r178, trivial⟩, AllT.some' r114, ⟨trivial, AllT.some' r242, trivial⟩⟩⟩⟩, AllT.some' r10, ⟨⟨⟨trivial, AllT.none', ⟨⟨trivial, AllT.some' r330, trivial⟩, AllT.none', trivial⟩⟩, AllT.some' r42, ⟨⟨⟨trivial, AllT.some' r298, trivial⟩, AllT.some' r170, trivial⟩, AllT.none', ⟨⟨trivial, AllT.some' r362, trivial⟩, AllT.none', trivial⟩⟩⟩, AllT.some' r26, ⟨⟨⟨⟨trivial, AllT.some' r282, trivial⟩, AllT.none', trivial⟩, AllT.some' r90, ⟨trivial, AllT.some' r218, trivial⟩⟩, AllT.some' r58, ⟨⟨⟨trivial, AllT.some' r314, trivial⟩, AllT.some' r186, trivial⟩, AllT.some' r122, trivial⟩⟩⟩⟩, AllT.some' r6, ⟨⟨⟨⟨⟨⟨trivial, AllT.some' r262, trivial⟩, AllT.some' r134, ⟨trivial, AllT.some' r390, trivial⟩⟩, AllT.some' r70, trivial⟩, AllT.some' r38, ⟨⟨trivial, AllT.some' r166, trivial⟩, AllT.none', ⟨⟨trivial, AllT.some' r358, trivial⟩, AllT.none', trivial⟩⟩⟩, AllT.some' r22, ⟨⟨⟨trivial, AllT.some' r150, trivial⟩, AllT.none', ⟨⟨trivial, AllT.some' r342, trivial⟩, AllT.some' r214, trivial⟩⟩, AllT.some' r54, ⟨trivial, AllT.some' r118, ⟨trivial, AllT.some' r246, trivial⟩⟩⟩⟩, AllT.some' r14, ⟨⟨⟨⟨trivial, AllT.some' r142, trivial⟩, AllT.some' r78, trivial⟩, AllT.some' r46, ⟨⟨trivial, AllT.some' r174, trivial⟩, AllT.some' r110, ⟨trivial, AllT.some' r238, trivial⟩⟩⟩, AllT.some' r30, ⟨⟨⟨⟨trivial, AllT.some' r286, trivial⟩, AllT.some' r158, trivial⟩, AllT.some' r94, trivial⟩, AllT.some' r62, ⟨⟨⟨trivial, AllT.some' r318, trivial⟩, AllT.some' r190, trivial⟩, AllT.some' r126, ⟨⟨trivial, AllT.some' r382, trivial⟩, AllT.none', trivial⟩⟩⟩⟩⟩⟩⟩⟩
theorem tab_ok1 : TabOk kE1 ktab := tab_ok0.share
theorem tab_ok2 : TabOk kE2 ktab := tab_ok0.share
theorem tab_ok3 : TabOk kE3 ktab := tab_ok0.share
end Go.Eng
