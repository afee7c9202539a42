/- The tables of the second layer are those of the program. -/
import Derived.Test.YtblfcamalggdfaaGreatDoorOb
set_option linter.unusedVariables false
set_option linter.unusedSimpArgs false
set_option maxRecDepth 20000
set_option maxHeartbeats 4000000
namespace Go.Eng
open Go.Proofs
theorem ek7 : (fnB Tryz.prog gG Tryz.f7).bind (kfun kE1 lk7) = some k7 := by kernel_rfl
theorem ek9 : (fnB Tryz.prog gG Tryz.f9).bind (kfun kE1 lk9) = some k9 := by kernel_rfl
theorem ek10 : (fnB Tryz.prog gG Tryz.f10).bind (kfun kE1 lk10) = some k10 := by kernel_rfl
theorem ek11 : (fnB Tryz.prog gG Tryz.f11).bind (kfun kE1 lk11) = some k11 := by kernel_rfl
theorem ek12 : (fnB Tryz.prog gG Tryz.f12).bind (kfun kE1 lk12) = some k12 := by kernel_rfl
theorem ek13 : (fnB Tryz.prog gG Tryz.f13).bind (kfun kE1 lk13) = some k13 := by kernel_rfl
theorem ek14 : (fnB Tryz.prog gG Tryz.f14).bind (kfun kE1 lk14) = some k14 := by kernel_rfl
theorem ek15 : (fnB Tryz.prog gG Tryz.f15).bind (kfun kE1 lk15) = some k15 := by kernel_rfl
theorem ek16 : (fnB Tryz.prog gG Tryz.f16).bind (kfun kE1 lk16) = some k16 := by kernel_rfl
theorem ek17 : (fnB Tryz.prog gG Tryz.f17).bind (kfun kE1 lk17) = some k17 := by kernel_rfl
theorem ek18 : (fnB Tryz.prog gG Tryz.f18).bind (kfun kE1 lk18) = some k18 := by kernel_rfl
theorem ek19 : (fnB Tryz.prog gG Tryz.f19).bind (kfun kE1 lk19) = some k19 := by kernel_rfl
theorem ek20 : (fnB Tryz.prog gG Tryz.f20).bind (kfun kE1 lk20) = some k20 := by kernel_rfl
theorem ek21 : (fnB Tryz.prog gG Tryz.f21).bind (kfun kE1 lk21) = some k21 := by kernel_rfl
theorem ek22 : (fnB Tryz.prog gG Tryz.f22).bind (kfun kE1 lk22) = some k22 := by kernel_rfl
theorem ek23 : (fnB Tryz.prog gG Tryz.f23).bind (kfun kE1 lk23) = some k23 := by kernel_rfl
theorem ek24 : (fnB Tryz.prog gG Tryz.f24).bind (kfun kE1 lk24) = some k24 := by kernel_rfl
theorem ek25 : (fnB Tryz.prog gG Tryz.f25).bind (kfun kE1 lk25) = some k25 := by kernel_rfl
theorem ek26 : (fnB Tryz.prog gG Tryz.f26).bind (kfun kE1 lk26) = some k26 := by kernel_rfl
theorem ek27 : (fnB Tryz.prog gG Tryz.f27).bind (kfun kE1 lk27) = some k27 := by kernel_rfl
theorem ek28 : (fnB Tryz.prog gG Tryz.f28).bind (kfun kE1 lk28) = some k28 := by kernel_rfl
theorem ek29 : (fnB Tryz.prog gG Tryz.f29).bind (kfun kE1 lk29) = some k29 := by kernel_rfl
theorem ek30 : (fnB Tryz.prog gG Tryz.f30).bind (kfun kE1 lk30) = some k30 := by kernel_rfl
theorem ek31 : (fnB Tryz.prog gG Tryz.f31).bind (kfun kE1 lk31) = some k31 := by kernel_rfl
theorem ek32 : (fnB Tryz.prog gG Tryz.f32).bind (kfun kE1 lk32) = some k32 := by kernel_rfl
theorem ek33 : (fnB Tryz.prog gG Tryz.f33).bind (kfun kE1 lk33) = some k33 := by kernel_rfl
theorem ek34 : (fnB Tryz.prog gG Tryz.f34).bind (kfun kE1 lk34) = some k34 := by kernel_rfl
theorem ek35 : (fnB Tryz.prog gG Tryz.f35).bind (kfun kE1 lk35) = some k35 := by kernel_rfl
theorem ek36 : (fnB Tryz.prog gG Tryz.f36).bind (kfun kE1 lk36) = some k36 := by kernel_rfl
theorem ek37 : (fnB Tryz.prog gG Tryz.f37).bind (kfun kE1 lk37) = some k37 := by kernel_rfl
theorem ek39 : (fnB Tryz.prog gG Tryz.f39).bind (kfun kE1 lk39) = some k39 := by kernel_rfl
theorem ek40 : (fnB Tryz.prog gG Tryz.f40).bind (kfun kE1 lk40) = some k40 := by kernel_rfl
theorem ek41 : (fnB Tryz.prog gG Tryz.f41).bind (kfun kE1 lk41) = some k41 := by kernel_rfl
theorem ek42 : (fnB Tryz.prog gG Tryz.f42).bind (kfun kE1 lk42) = some k42 := by kernel_rfl
theorem ek43 : (fnB Tryz.prog gG Tryz.f43).bind (kfun kE1 lk43) = some k43 := by kernel_rfl
theorem ek44 : (fnB Tryz.prog gG Tryz.f44).bind (kfun kE1 lk44) = some k44 := by kernel_rfl
theorem ek45 : (fnB Tryz.prog gG Tryz.f45).bind (kfun kE1 lk45) = some k45 := by kernel_rfl
theorem ek46 : (fnB Tryz.prog gG Tryz.f46).bind (kfun kE1 lk46) = some k46 := by kernel_rfl
theorem ek47 : (fnB Tryz.prog gG Tryz.f47).bind (kfun kE1 lk47) = some k47 := by kernel_rfl
theorem ek48 : (fnB Tryz.prog gG Tryz.f48).bind (kfun kE1 lk48) = some k48 := by kernel_rfl
theorem ek49 : (fnB Tryz.prog gG Tryz.f49).bind (kfun kE1 lk49) = some k49 := by kernel_rfl
theorem ek55 : (fnB Tryz.prog gG Tryz.f55).bind (kfun kE1 lk55) = some k55 := by kernel_rfl
theorem ek59 : (fnB Tryz.prog gG Tryz.f59).bind (kfun kE1 lk59) = some k59 := by kernel_rfl
theorem ek61 : (fnB Tryz.prog gG Tryz.f61).bind (kfun kE1 lk61) = some k61 := by kernel_rfl
theorem ek68 : (fnB Tryz.prog gG Tryz.f68).bind (kfun kE1 lk68) = some k68 := by kernel_rfl
theorem ek69 : (fnB Tryz.prog gG Tryz.f69).bind (kfun kE1 lk69) = some k69 := by kernel_rfl
theorem ek70 : (fnB Tryz.prog gG Tryz.f70).bind (kfun kE1 lk70) = some k70 := by kernel_rfl
theorem ek71 : (fnB Tryz.prog gG Tryz.f71).bind (kfun kE1 lk71) = some k71 := by kernel_rfl
theorem ek72 : (fnB Tryz.prog gG Tryz.f72).bind (kfun kE1 lk72) = some k72 := by kernel_rfl
theorem ek73 : (fnB Tryz.prog gG Tryz.f73).bind (kfun kE1 lk73) = some k73 := by kernel_rfl
theorem ek74 : (fnB Tryz.prog gG Tryz.f74).bind (kfun kE1 lk74) = some k74 := by kernel_rfl
theorem ek75 : (fnB Tryz.prog gG Tryz.f75).bind (kfun kE1 lk75) = some k75 := by kernel_rfl
theorem ek81 : (fnB Tryz.prog gG Tryz.f81).bind (kfun kE1 lk81) = some k81 := by kernel_rfl
theorem ek82 : (fnB Tryz.prog gG Tryz.f82).bind (kfun kE1 lk82) = some k82 := by kernel_rfl
theorem ek83 : (fnB Tryz.prog gG Tryz.f83).bind (kfun kE1 lk83) = some k83 := by kernel_rfl
theorem ek84 : (fnB Tryz.prog gG Tryz.f84).bind (kfun kE1 lk84) = some k84 := by kernel_rfl
theorem ek85 : (fnB Tryz.prog gG Tryz.f85).bind (kfun kE1 lk85) = some k85 := by kernel_rfl
theorem ek87 : (fnB Tryz.prog gG Tryz.f87).bind (kfun kE1 lk87) = some k87 := by kernel_rfl
theorem ek88 : (fnB Tryz.prog gG Tryz.f88).bind (kfun kE1 lk88) = some k88 := by kernel_rfl
theorem ek89 : (fnB Tryz.prog gG Tryz.f89).bind (kfun kE1 lk89) = some k89 := by kernel_rfl
theorem ek90 : (fnB Tryz.prog gG Tryz.f90).bind (kfun kE1 lk90) = some k90 := by kernel_rfl
theorem ek91 : (fnB Tryz.prog gG Tryz.f91).bind (kfun kE1 lk91) = some k91 := by kernel_rfl
theorem ek96 : (fnB Tryz.prog gG Tryz.f96).bind (kfun kE1 lk96) = some k96 := by kernel_rfl
theorem ek97 : (fnB Tryz.prog gG Tryz.f97).bind (kfun kE1 lk97) = some k97 := by kernel_rfl
theorem ek98 : (fnB Tryz.prog gG Tryz.f98).bind (kfun kE1 lk98) = some k98 := by kernel_rfl
theorem ek101 : (fnB Tryz.prog gG Tryz.f101).bind (kfun kE1 lk101) = some k101 := by kernel_rfl
theorem ek103 : (fnB Tryz.prog gG Tryz.f103).bind (kfun kE1 lk103) = some k103 := by kernel_rfl
theorem ek112 : (fnB Tryz.prog gG Tryz.f112).bind (kfun kE1 lk112) = some k112 := by kernel_rfl
theorem ek113 : (fnB Tryz.prog gG Tryz.f113).bind (kfun kE1 lk113) = some k113 := by kernel_rfl
theorem ek114 : (fnB Tryz.prog gG Tryz.f114).bind (kfun kE1 lk114) = some k114 := by kernel_rfl
theorem ek115 : (fnB Tryz.prog gG Tryz.f115).bind (kfun kE1 lk115) = some k115 := by kernel_rfl
theorem ek116 : (fnB Tryz.prog gG Tryz.f116).bind (kfun kE1 lk116) = some k116 := by kernel_rfl
theorem ek117 : (fnB Tryz.prog gG Tryz.f117).bind (kfun kE1 lk117) = some k117 := by kernel_rfl
theorem ek118 : (fnB Tryz.prog gG Tryz.f118).bind (kfun kE1 lk118) = some k118 := by kernel_rfl
theorem ek120 : (fnB Tryz.prog gG Tryz.f120).bind (kfun kE1 lk120) = some k120 := by kernel_rfl
theorem ek121 : (fnB Tryz.prog gG Tryz.f121).bind (kfun kE1 lk121) = some k121 := by kernel_rfl
theorem ek122 : (fnB Tryz.prog gG Tryz.f122).bind (kfun kE1 lk122) = some k122 := by kernel_rfl
theorem ek123 : (fnB Tryz.prog gG Tryz.f123).bind (kfun kE1 lk123) = some k123 := by kernel_rfl
theorem ek124 : (fnB Tryz.prog gG Tryz.f124).bind (kfun kE1 lk124) = some k124 := by kernel_rfl
theorem ek125 : (fnB Tryz.prog gG Tryz.f125).bind (kfun kE1 lk125) = some k125 := by kernel_rfl
theorem ek128 : (fnB Tryz.prog gG Tryz.f128).bind (kfun kE1 lk128) = some k128 := by kernel_rfl
theorem ek129 : (fnB Tryz.prog gG Tryz.f129).bind (kfun kE1 lk129) = some k129 := by kernel_rfl
theorem ek130 : (fnB Tryz.prog gG Tryz.f130).bind (kfun kE1 lk130) = some k130 := by kernel_rfl
theorem ek131 : (fnB Tryz.prog gG Tryz.f131).bind (kfun kE1 lk131) = some k131 := by kernel_rfl
theorem ek134 : (fnB Tryz.prog gG Tryz.f134).bind (kfun kE1 lk134) = some k134 := by kernel_rfl
theorem ek136 : (fnB Tryz.prog gG Tryz.f136).bind (kfun kE1 lk136) = some k136 := by kernel_rfl
theorem ek139 : (fnB Tryz.prog gG Tryz.f139).bind (kfun kE1 lk139) = some k139 := by kernel_rfl
theorem ek141 : (fnB Tryz.prog gG Tryz.f141).bind (kfun kE1 lk141) = some k141 := by kernel_rfl
theorem ek142 : (fnB Tryz.prog gG Tryz.f142).bind (kfun kE1 lk142) = some k142 := by kernel_rfl
theorem ek154 : (fnB Tryz.prog gG Tryz.f154).bind (kfun kE1 lk154) = some k154 := by kernel_rfl
theorem ek155 : (fnB Tryz.prog gG Tryz.f155).bind (kfun kE1 lk155) = some k155 := by kernel_rfl
theorem ek156 : (fnB Tryz.prog gG Tryz.f156).bind (kfun kE1 lk156) = some k156 := by kernel_rfl
theorem ek163 : (fnB Tryz.prog gG Tryz.f163).bind (kfun kE1 lk163) = some k163 := by kernel_rfl
theorem ek167 : (fnB Tryz.prog gG Tryz.f167).bind (kfun kE1 lk167) = some k167 := by kernel_rfl
theorem ek171 : (fnB Tryz.prog gG Tryz.f171).bind (kfun kE1 lk171) = some k171 := by kernel_rfl
theorem ek172 : (fnB Tryz.prog gG Tryz.f172).bind (kfun kE1 lk172) = some k172 := by kernel_rfl
theorem ek175 : (fnB Tryz.prog gG Tryz.f175).bind (kfun kE1 lk175) = some k175 := by kernel_rfl
theorem ek179 : (fnB Tryz.prog gG Tryz.f179).bind (kfun kE1 lk179) = some k179 := by kernel_rfl
theorem ek180 : (fnB Tryz.prog gG Tryz.f180).bind (kfun kE1 lk180) = some k180 := by kernel_rfl
theorem ek181 : (fnB Tryz.prog gG Tryz.f181).bind (kfun kE1 lk181) = some k181 := by kernel_rfl
theorem ek182 : (fnB Tryz.prog gG Tryz.f182).bind (kfun kE1 lk182) = some k182 := by kernel_rfl
theorem ek184 : (fnB Tryz.prog gG Tryz.f184).bind (kfun kE1 lk184) = some k184 := by kernel_rfl
theorem ek185 : (fnB Tryz.prog gG Tryz.f185).bind (kfun kE1 lk185) = some k185 := by kernel_rfl
theorem ek186 : (fnB Tryz.prog gG Tryz.f186).bind (kfun kE1 lk186) = some k186 := by kernel_rfl
theorem ek189 : (fnB Tryz.prog gG Tryz.f189).bind (kfun kE1 lk189) = some k189 := by kernel_rfl
theorem ek197 : (fnB Tryz.prog gG Tryz.f197).bind (kfun kE1 lk197) = some k197 := by kernel_rfl
theorem ek199 : (fnB Tryz.prog gG Tryz.f199).bind (kfun kE1 lk199) = some k199 := by kernel_rfl
theorem ek200 : (fnB Tryz.prog gG Tryz.f200).bind (kfun kE1 lk200) = some k200 := by kernel_rfl
theorem ek208 : (fnB Tryz.prog gG Tryz.f208).bind (kfun kE1 lk208) = some k208 := by kernel_rfl
theorem ek209 : (fnB Tryz.prog gG Tryz.f209).bind (kfun kE1 lk209) = some k209 := by kernel_rfl
theorem ek210 : (fnB Tryz.prog gG Tryz.f210).bind (kfun kE1 lk210) = some k210 := by kernel_rfl
theorem ek211 : (fnB Tryz.prog gG Tryz.f211).bind (kfun kE1 lk211) = some k211 := by kernel_rfl
theorem ek212 : (fnB Tryz.prog gG Tryz.f212).bind (kfun kE1 lk212) = some k212 := by kernel_rfl
theorem ek213 : (fnB Tryz.prog gG Tryz.f213).bind (kfun kE1 lk213) = some k213 := by kernel_rfl
theorem ek214 : (fnB Tryz.prog gG Tryz.f214).bind (kfun kE1 lk214) = some k214 := by kernel_rfl
theorem ek215 : (fnB Tryz.prog gG Tryz.f215).bind (kfun kE1 lk215) = some k215 := by kernel_rfl
theorem ek216 : (fnB Tryz.prog gG Tryz.f216).bind (kfun kE1 lk216) = some k216 := by kernel_rfl
theorem ek217 : (fnB Tryz.prog gG Tryz.f217).bind (kfun kE1 lk217) = some k217 := by kernel_rfl
theorem ek218 : (fnB Tryz.prog gG Tryz.f218).bind (kfun kE1 lk218) = some k218 := by kernel_rfl
theorem ek219 : (fnB Tryz.prog gG Tryz.f219).bind (kfun kE1 lk219) = some k219 := by kernel_rfl
theorem ek221 : (fnB Tryz.prog gG Tryz.f221).bind (kfun kE1 lk221) = some k221 := by kernel_rfl
theorem ek223 : (fnB Tryz.prog gG Tryz.f223).bind (kfun kE1 lk223) = some k223 := by kernel_rfl
theorem ek226 : (fnB Tryz.prog gG Tryz.f226).bind (kfun kE1 lk226) = some k226 := by kernel_rfl
theorem ek228 : (fnB Tryz.prog gG Tryz.f228).bind (kfun kE1 lk228) = some k228 := by kernel_rfl
theorem ek230 : (fnB Tryz.prog gG Tryz.f230).bind (kfun kE1 lk230) = some k230 := by kernel_rfl
theorem ek233 : (fnB Tryz.prog gG Tryz.f233).bind (kfun kE1 lk233) = some k233 := by kernel_rfl
theorem ek234 : (fnB Tryz.prog gG Tryz.f234).bind (kfun kE1 lk234) = some k234 := by kernel_rfl
theorem ek236 : (fnB Tryz.prog gG Tryz.f236).bind (kfun kE1 lk236) = some k236 := by kernel_rfl
theorem ek238 : (fnB Tryz.prog gG Tryz.f238).bind (kfun kE1 lk238) = some k238 := by kernel_rfl
theorem ek239 : (fnB Tryz.prog gG Tryz.f239).bind (kfun kE1 lk239) = some k239 := by kernel_rfl
theorem ek240 : (fnB Tryz.prog gG Tryz.f240).bind (kfun kE1 lk240) = some k240 := by kernel_rfl
theorem ek242 : (fnB Tryz.prog gG Tryz.f242).bind (kfun kE1 lk242) = some k242 := by kernel_rfl
theorem ek243 : (fnB Tryz.prog gG Tryz.f243).bind (kfun kE1 lk243) = some k243 := by kernel_rfl
theorem ek244 : (fnB Tryz.prog gG Tryz.f244).bind (kfun kE1 lk244) = some k244 := by kernel_rfl
theorem ek245 : (fnB Tryz.prog gG Tryz.f245).bind (kfun kE1 lk245) = some k245 := by kernel_rfl
theorem ek246 : (fnB Tryz.prog gG Tryz.f246).bind (kfun kE1 lk246) = some k246 := by kernel_rfl
theorem ek248 : (fnB Tryz.prog gG Tryz.f248).bind (kfun kE1 lk248) = some k248 := by kernel_rfl
theorem ek249 : (fnB Tryz.prog gG Tryz.f249).bind (kfun kE1 lk249) = some k249 := by kernel_rfl
theorem ek250 : (fnB Tryz.prog gG Tryz.f250).bind (kfun kE1 lk250) = some k250 := by kernel_rfl
theorem ek251 : (fnB Tryz.prog gG Tryz.f251).bind (kfun kE1 lk251) = some k251 := by kernel_rfl
theorem ek252 : (fnB Tryz.prog gG Tryz.f252).bind (kfun kE1 lk252) = some k252 := by kernel_rfl
theorem ek253 : (fnB Tryz.prog gG Tryz.f253).bind (kfun kE1 lk253) = some k253 := by kernel_rfl
theorem ek254 : (fnB Tryz.prog gG Tryz.f254).bind (kfun kE1 lk254) = some k254 := by kernel_rfl
theorem ek261 : (fnB Tryz.prog gG Tryz.f261).bind (kfun kE1 lk261) = some k261 := by kernel_rfl
theorem ek265 : (fnB Tryz.prog gG Tryz.f265).bind (kfun kE1 lk265) = some k265 := by kernel_rfl
theorem ek267 : (fnB Tryz.prog gG Tryz.f267).bind (kfun kE1 lk267) = some k267 := by kernel_rfl
theorem ek271 : (fnB Tryz.prog gG Tryz.f271).bind (kfun kE1 lk271) = some k271 := by kernel_rfl
theorem ek272 : (fnB Tryz.prog gG Tryz.f272).bind (kfun kE1 lk272) = some k272 := by kernel_rfl
theorem ek273 : (fnB Tryz.prog gG Tryz.f273).bind (kfun kE1 lk273) = some k273 := by kernel_rfl
theorem ek274 : (fnB Tryz.prog gG Tryz.f274).bind (kfun kE1 lk274) = some k274 := by kernel_rfl
theorem ek275 : (fnB Tryz.prog gG Tryz.f275).bind (kfun kE1 lk275) = some k275 := by kernel_rfl
theorem ek276 : (fnB Tryz.prog gG Tryz.f276).bind (kfun kE1 lk276) = some k276 := by kernel_rfl
theorem ek277 : (fnB Tryz.prog gG Tryz.f277).bind (kfun kE1 lk277) = some k277 := by kernel_rfl
theorem ek280 : (fnB Tryz.prog gG Tryz.f280).bind (kfun kE1 lk280) = some k280 := by kernel_rfl
theorem ek285 : (fnB Tryz.prog gG Tryz.f285).bind (kfun kE1 lk285) = some k285 := by kernel_rfl
theorem ek288 : (fnB Tryz.prog gG Tryz.f288).bind (kfun kE1 lk288) = some k288 := by kernel_rfl
theorem ek289 : (fnB Tryz.prog gG Tryz.f289).bind (kfun kE1 lk289) = some k289 := by kernel_rfl
theorem ek290 : (fnB Tryz.prog gG Tryz.f290).bind (kfun kE1 lk290) = some k290 := by kernel_rfl
theorem ek291 : (fnB Tryz.prog gG Tryz.f291).bind (kfun kE1 lk291) = some k291 := by kernel_rfl
theorem ek292 : (fnB Tryz.prog gG Tryz.f292).bind (kfun kE1 lk292) = some k292 := by kernel_rfl
theorem ek293 : (fnB Tryz.prog gG Tryz.f293).bind (kfun kE1 lk293) = some k293 := by kernel_rfl
theorem ek294 : (fnB Tryz.prog gG Tryz.f294).bind (kfun kE1 lk294) = some k294 := by kernel_rfl
theorem ek295 : (fnB Tryz.prog gG Tryz.f295).bind (kfun kE1 lk295) = some k295 := by kernel_rfl
theorem ek296 : (fnB Tryz.prog gG Tryz.f296).bind (kfun kE1 lk296) = some k296 := by kernel_rfl
theorem ek297 : (fnB Tryz.prog gG Tryz.f297).bind (kfun kE1 lk297) = some k297 := by kernel_rfl
theorem ek298 : (fnB Tryz.prog gG Tryz.f298).bind (kfun kE1 lk298) = some k298 := by kernel_rfl
theorem ek299 : (fnB Tryz.prog gG Tryz.f299).bind (kfun kE1 lk299) = some k299 := by kernel_rfl
theorem ek300 : (fnB Tryz.prog gG Tryz.f300).bind (kfun kE1 lk300) = some k300 := by kernel_rfl
theorem ek311 : (fnB Tryz.prog gG Tryz.f311).bind (kfun kE1 lk311) = some k311 := by kernel_rfl
theorem ek313 : (fnB Tryz.prog gG Tryz.f313).bind (kfun kE1 lk313) = some k313 := by kernel_rfl
theorem ek315 : (fnB Tryz.prog gG Tryz.f315).bind (kfun kE1 lk315) = some k315 := by kernel_rfl
theorem ek316 : (fnB Tryz.prog gG Tryz.f316).bind (kfun kE1 lk316) = some k316 := by kernel_rfl
theorem ek317 : (fnB Tryz.prog gG Tryz.f317).bind (kfun kE1 lk317) = some k317 := by kernel_rfl
theorem ek318 : (fnB Tryz.prog gG Tryz.f318).bind (kfun kE1 lk318) = some k318 := by kernel_rfl
theorem ek319 : (fnB Tryz.prog gG Tryz.f319).bind (kfun kE1 lk319) = some k319 := by kernel_rfl
theorem ek324 : (fnB Tryz.prog gG Tryz.f324).bind (kfun kE1 lk324) = some k324 := by kernel_rfl
theorem ek325 : (fnB Tryz.prog gG Tryz.f325).bind (kfun kE1 lk325) = some k325 := by kernel_rfl
theorem ek326 : (fnB Tryz.prog gG Tryz.f326).bind (kfun kE1 lk326) = some k326 := by kernel_rfl
theorem ek327 : (fnB Tryz.prog gG Tryz.f327).bind (kfun kE1 lk327) = some k327 := by kernel_rfl
theorem ek328 : (fnB Tryz.prog gG Tryz.f328).bind (kfun kE1 lk328) = some k328 := by kernel_rfl
theorem ek329 : (fnB Tryz.prog gG Tryz.f329).bind (kfun kE1 lk329) = some k329 := by kernel_rfl
theorem ek330 : (fnB Tryz.prog gG Tryz.f330).bind (kfun kE1 lk330) = some k330 := by kernel_rfl
theorem ek331 : (fnB Tryz.prog gG Tryz.f331).bind (kfun kE1 lk331) = some k331 := by kernel_rfl
theorem ek332 : (fnB Tryz.prog gG Tryz.f332).bind (kfun kE1 lk332) = some k332 := by kernel_rfl
theorem ek333 : (fnB Tryz.prog gG Tryz.f333).bind (kfun kE1 lk333) = some k333 := by kernel_rfl
theorem ek343 : (fnB Tryz.prog gG Tryz.f343).bind (kfun kE1 lk343) = some k343 := by kernel_rfl
theorem ek344 : (fnB Tryz.prog gG Tryz.f344).bind (kfun kE1 lk344) = some k344 := by kernel_rfl
theorem ek349 : (fnB Tryz.prog gG Tryz.f349).bind (kfun kE1 lk349) = some k349 := by kernel_rfl
theorem ek350 : (fnB Tryz.prog gG Tryz.f350).bind (kfun kE1 lk350) = some k350 := by kernel_rfl
theorem ek351 : (fnB Tryz.prog gG Tryz.f351).bind (kfun kE1 lk351) = some k351 := by kernel_rfl
theorem ek353 : (fnB Tryz.prog gG Tryz.f353).bind (kfun kE1 lk353) = some k353 := by kernel_rfl
theorem ek367 : (fnB Tryz.prog gG Tryz.f367).bind (kfun kE1 lk367) = some k367 := by kernel_rfl
theorem ek368 : (fnB Tryz.prog gG Tryz.f368).bind (kfun kE1 lk368) = some k368 := by kernel_rfl
theorem ek371 : (fnB Tryz.prog gG Tryz.f371).bind (kfun kE1 lk371) = some k371 := by kernel_rfl
theorem ek378 : (fnB Tryz.prog gG Tryz.f378).bind (kfun kE1 lk378) = some k378 := by kernel_rfl
theorem ek379 : (fnB Tryz.prog gG Tryz.f379).bind (kfun kE1 lk379) = some k379 := by kernel_rfl
theorem ek382 : (fnB Tryz.prog gG Tryz.f382).bind (kfun kE1 lk382) = some k382 := by kernel_rfl
theorem ek384 : (fnB Tryz.prog gG Tryz.f384).bind (kfun kE1 lk384) = some k384 := by kernel_rfl
theorem ek389 : (fnB Tryz.prog gG Tryz.f389).bind (kfun kE1 lk389) = some k389 := by kernel_rfl
theorem ek391 : (fnB Tryz.prog gG Tryz.f391).bind (kfun kE1 lk391) = some k391 := by kernel_rfl
theorem ek396 : (fnB Tryz.prog gG Tryz.f396).bind (kfun kE1 lk396) = some k396 := by kernel_rfl
theorem ek399 : (fnB Tryz.prog gG Tryz.f399).bind (kfun kE1 lk399) = some k399 := by kernel_rfl
theorem ek400 : (fnB Tryz.prog gG Tryz.f400).bind (kfun kE1 lk400) = some k400 := by kernel_rfl
theorem ek407 : (fnB Tryz.prog gG Tryz.f407).bind (kfun kE1 lk407) = some k407 := by kernel_rfl
theorem fns_eq1 (p : Nm) : kE1.fns p = fnsOf Tryz.prog gG p := by kernel_rfl
theorem rk7 : FnRow kE1 (.o (.o (.o (.h)))) k7 := fn_row (n := 7) fns_eq1 (by kernel_rfl) Tryz.func7 ek7
theorem rk9 : FnRow kE1 (.o (.i (.o (.h)))) k9 := fn_row (n := 9) fns_eq1 (by kernel_rfl) Tryz.func9 ek9
theorem rk10 : FnRow kE1 (.i (.i (.o (.h)))) k10 := fn_row (n := 10) fns_eq1 (by kernel_rfl) Tryz.func10 ek10
theorem rk11 : FnRow kE1 (.o (.o (.i (.h)))) k11 := fn_row (n := 11) fns_eq1 (by kernel_rfl) Tryz.func11 ek11
theorem rk12 : FnRow kE1 (.i (.o (.i (.h)))) k12 := fn_row (n := 12) fns_eq1 (by kernel_rfl) Tryz.func12 ek12
theorem rk13 : FnRow kE1 (.o (.i (.i (.h)))) k13 := fn_row (n := 13) fns_eq1 (by kernel_rfl) Tryz.func13 ek13
theorem rk14 : FnRow kE1 (.i (.i (.i (.h)))) k14 := fn_row (n := 14) fns_eq1 (by kernel_rfl) Tryz.func14 ek14
theorem rk15 : FnRow kE1 (.o (.o (.o (.o (.h))))) k15 := fn_row (n := 15) fns_eq1 (by kernel_rfl) Tryz.func15 ek15
theorem rk16 : FnRow kE1 (.i (.o (.o (.o (.h))))) k16 := fn_row (n := 16) fns_eq1 (by kernel_rfl) Tryz.func16 ek16
theorem rk17 : FnRow kE1 (.o (.i (.o (.o (.h))))) k17 := fn_row (n := 17) fns_eq1 (by kernel_rfl) Tryz.func17 ek17
theorem rk18 : FnRow kE1 (.i (.i (.o (.o (.h))))) k18 := fn_row (n := 18) fns_eq1 (by kernel_rfl) Tryz.func18 ek18
theorem rk19 : FnRow kE1 (.o (.o (.i (.o (.h))))) k19 := fn_row (n := 19) fns_eq1 (by kernel_rfl) Tryz.func19 ek19
theorem rk20 : FnRow kE1 (.i (.o (.i (.o (.h))))) k20 := fn_row (n := 20) fns_eq1 (by kernel_rfl) Tryz.func20 ek20
theorem rk21 : FnRow kE1 (.o (.i (.i (.o (.h))))) k21 := fn_row (n := 21) fns_eq1 (by kernel_rfl) Tryz.func21 ek21
theorem rk22 : FnRow kE1 (.i (.i (.i (.o (.h))))) k22 := fn_row (n := 22) fns_eq1 (by kernel_rfl) Tryz.func22 ek22
theorem rk23 : FnRow kE1 (.o (.o (.o (.i (.h))))) k23 := fn_row (n := 23) fns_eq1 (by kernel_rfl) Tryz.func23 ek23
theorem rk24 : FnRow kE1 (.i (.o (.o (.i (.h))))) k24 := fn_row (n := 24) fns_eq1 (by kernel_rfl) Tryz.func24 ek24
theorem rk25 : FnRow kE1 (.o (.i (.o (.i (.h))))) k25 := fn_row (n := 25) fns_eq1 (by kernel_rfl) Tryz.func25 ek25
theorem rk26 : FnRow kE1 (.i (.i (.o (.i (.h))))) k26 := fn_row (n := 26) fns_eq1 (by kernel_rfl) Tryz.func26 ek26
theorem rk27 : FnRow kE1 (.o (.o (.i (.i (.h))))) k27 := fn_row (n := 27) fns_eq1 (by kernel_rfl) Tryz.func27 ek27
theorem rk28 : FnRow kE1 (.i (.o (.i (.i (.h))))) k28 := fn_row (n := 28) fns_eq1 (by kernel_rfl) Tryz.func28 ek28
theorem rk29 : FnRow kE1 (.o (.i (.i (.i (.h))))) k29 := fn_row (n := 29) fns_eq1 (by kernel_rfl) Tryz.func29 ek29
theorem rk30 : FnRow kE1 (.i (.i (.i (.i (.h))))) k30 := fn_row (n := 30) fns_eq1 (by kernel_rfl) Tryz.func30 ek30
theorem rk31 : FnRow kE1 (.o (.o (.o (.o (.o (.h)))))) k31 := fn_row (n := 31) fns_eq1 (by kernel_rfl) Tryz.func31 ek31
theorem rk32 : FnRow kE1 (.i (.o (.o (.o (.o (.h)))))) k32 := fn_row (n := 32) fns_eq1 (by kernel_rfl) Tryz.func32 ek32
theorem rk33 : FnRow kE1 (.o (.i (.o (.o (.o (.h)))))) k33 := fn_row (n := 33) fns_eq1 (by kernel_rfl) Tryz.func33 ek33
theorem rk34 : FnRow kE1 (.i (.i (.o (.o (.o (.h)))))) k34 := fn_row (n := 34) fns_eq1 (by kernel_rfl) Tryz.func34 ek34
theorem rk35 : FnRow kE1 (.o (.o (.i (.o (.o (.h)))))) k35 := fn_row (n := 35) fns_eq1 (by kernel_rfl) Tryz.func35 ek35
theorem rk36 : FnRow kE1 (.i (.o (.i (.o (.o (.h)))))) k36 := fn_row (n := 36) fns_eq1 (by kernel_rfl) Tryz.func36 ek36
theorem rk37 : FnRow kE1 (.o (.i (.i (.o (.o (.h)))))) k37 := fn_row (n := 37) fns_eq1 (by kernel_rfl) Tryz.func37 ek37
theorem rk39 : FnRow kE1 (.o (.o (.o (.i (.o (.h)))))) k39 := fn_row (n := 39) fns_eq1 (by kernel_rfl) Tryz.func39 ek39
theorem rk40 : FnRow kE1 (.i (.o (.o (.i (.o (.h)))))) k40 := fn_row (n := 40) fns_eq1 (by kernel_rfl) Tryz.func40 ek40
theorem rk41 : FnRow kE1 (.o (.i (.o (.i (.o (.h)))))) k41 := fn_row (n := 41) fns_eq1 (by kernel_rfl) Tryz.func41 ek41
theorem rk42 : FnRow kE1 (.i (.i (.o (.i (.o (.h)))))) k42 := fn_row (n := 42) fns_eq1 (by kernel_rfl) Tryz.func42 ek42
theorem rk43 : FnRow kE1 (.o (.o (.i (.i (.o (.h)))))) k43 := fn_row (n := 43) fns_eq1 (by kernel_rfl) Tryz.func43 ek43
theorem rk44 : FnRow kE1 (.i (.o (.i (.i (.o (.h)))))) k44 := fn_row (n := 44) fns_eq1 (by kernel_rfl) Tryz.func44 ek44
theorem rk45 : FnRow kE1 (.o (.i (.i (.i (.o (.h)))))) k45 := fn_row (n := 45) fns_eq1 (by kernel_rfl) Tryz.func45 ek45
theorem rk46 : FnRow kE1 (.i (.i (.i (.i (.o (.h)))))) k46 := fn_row (n := 46) fns_eq1 (by kernel_rfl) Tryz.func46 ek46
theorem rk47 : FnRow kE1 (.o (.o (.o (.o (.i (.h)))))) k47 := fn_row (n := 47) fns_eq1 (by kernel_rfl) Tryz.func47 ek47
theorem rk48 : FnRow kE1 (.i (.o (.o (.o (.i (.h)))))) k48 := fn_row (n := 48) fns_eq1 (by kernel_rfl) Tryz.func48 ek48
theorem rk49 : FnRow kE1 (.o (.i (.o (.o (.i (.h)))))) k49 := fn_row (n := 49) fns_eq1 (by kernel_rfl) Tryz.func49 ek49
theorem rk55 : FnRow kE1 (.o (.o (.o (.i (.i (.h)))))) k55 := fn_row (n := 55) fns_eq1 (by kernel_rfl) Tryz.func55 ek55
theorem rk59 : FnRow kE1 (.o (.o (.i (.i (.i (.h)))))) k59 := fn_row (n := 59) fns_eq1 (by kernel_rfl) Tryz.func59 ek59
theorem rk61 : FnRow kE1 (.o (.i (.i (.i (.i (.h)))))) k61 := fn_row (n := 61) fns_eq1 (by kernel_rfl) Tryz.func61 ek61
theorem rk68 : FnRow kE1 (.i (.o (.i (.o (.o (.o (.h))))))) k68 := fn_row (n := 68) fns_eq1 (by kernel_rfl) Tryz.func68 ek68
theorem rk69 : FnRow kE1 (.o (.i (.i (.o (.o (.o (.h))))))) k69 := fn_row (n := 69) fns_eq1 (by kernel_rfl) Tryz.func69 ek69
theorem rk70 : FnRow kE1 (.i (.i (.i (.o (.o (.o (.h))))))) k70 := fn_row (n := 70) fns_eq1 (by kernel_rfl) Tryz.func70 ek70
theorem rk71 : FnRow kE1 (.o (.o (.o (.i (.o (.o (.h))))))) k71 := fn_row (n := 71) fns_eq1 (by kernel_rfl) Tryz.func71 ek71
theorem rk72 : FnRow kE1 (.i (.o (.o (.i (.o (.o (.h))))))) k72 := fn_row (n := 72) fns_eq1 (by kernel_rfl) Tryz.func72 ek72
theorem rk73 : FnRow kE1 (.o (.i (.o (.i (.o (.o (.h))))))) k73 := fn_row (n := 73) fns_eq1 (by kernel_rfl) Tryz.func73 ek73
theorem rk74 : FnRow kE1 (.i (.i (.o (.i (.o (.o (.h))))))) k74 := fn_row (n := 74) fns_eq1 (by kernel_rfl) Tryz.func74 ek74
theorem rk75 : FnRow kE1 (.o (.o (.i (.i (.o (.o (.h))))))) k75 := fn_row (n := 75) fns_eq1 (by kernel_rfl) Tryz.func75 ek75
theorem rk81 : FnRow kE1 (.o (.i (.o (.o (.i (.o (.h))))))) k81 := fn_row (n := 81) fns_eq1 (by kernel_rfl) Tryz.func81 ek81
theorem rk82 : FnRow kE1 (.i (.i (.o (.o (.i (.o (.h))))))) k82 := fn_row (n := 82) fns_eq1 (by kernel_rfl) Tryz.func82 ek82
theorem rk83 : FnRow kE1 (.o (.o (.i (.o (.i (.o (.h))))))) k83 := fn_row (n := 83) fns_eq1 (by kernel_rfl) Tryz.func83 ek83
theorem rk84 : FnRow kE1 (.i (.o (.i (.o (.i (.o (.h))))))) k84 := fn_row (n := 84) fns_eq1 (by kernel_rfl) Tryz.func84 ek84
theorem rk85 : FnRow kE1 (.o (.i (.i (.o (.i (.o (.h))))))) k85 := fn_row (n := 85) fns_eq1 (by kernel_rfl) Tryz.func85 ek85
theorem rk87 : FnRow kE1 (.o (.o (.o (.i (.i (.o (.h))))))) k87 := fn_row (n := 87) fns_eq1 (by kernel_rfl) Tryz.func87 ek87
theorem rk88 : FnRow kE1 (.i (.o (.o (.i (.i (.o (.h))))))) k88 := fn_row (n := 88) fns_eq1 (by kernel_rfl) Tryz.func88 ek88
theorem rk89 : FnRow kE1 (.o (.i (.o (.i (.i (.o (.h))))))) k89 := fn_row (n := 89) fns_eq1 (by kernel_rfl) Tryz.func89 ek89
theorem rk90 : FnRow kE1 (.i (.i (.o (.i (.i (.o (.h))))))) k90 := fn_row (n := 90) fns_eq1 (by kernel_rfl) Tryz.func90 ek90
theorem rk91 : FnRow kE1 (.o (.o (.i (.i (.i (.o (.h))))))) k91 := fn_row (n := 91) fns_eq1 (by kernel_rfl) Tryz.func91 ek91
theorem rk96 : FnRow kE1 (.i (.o (.o (.o (.o (.i (.h))))))) k96 := fn_row (n := 96) fns_eq1 (by kernel_rfl) Tryz.func96 ek96
theorem rk97 : FnRow kE1 (.o (.i (.o (.o (.o (.i (.h))))))) k97 := fn_row (n := 97) fns_eq1 (by kernel_rfl) Tryz.func97 ek97
theorem rk98 : FnRow kE1 (.i (.i (.o (.o (.o (.i (.h))))))) k98 := fn_row (n := 98) fns_eq1 (by kernel_rfl) Tryz.func98 ek98
theorem rk101 : FnRow kE1 (.o (.i (.i (.o (.o (.i (.h))))))) k101 := fn_row (n := 101) fns_eq1 (by kernel_rfl) Tryz.func101 ek101
theorem rk103 : FnRow kE1 (.o (.o (.o (.i (.o (.i (.h))))))) k103 := fn_row (n := 103) fns_eq1 (by kernel_rfl) Tryz.func103 ek103
theorem rk112 : FnRow kE1 (.i (.o (.o (.o (.i (.i (.h))))))) k112 := fn_row (n := 112) fns_eq1 (by kernel_rfl) Tryz.func112 ek112
theorem rk113 : FnRow kE1 (.o (.i (.o (.o (.i (.i (.h))))))) k113 := fn_row (n := 113) fns_eq1 (by kernel_rfl) Tryz.func113 ek113
theorem rk114 : FnRow kE1 (.i (.i (.o (.o (.i (.i (.h))))))) k114 := fn_row (n := 114) fns_eq1 (by kernel_rfl) Tryz.func114 ek114
theorem rk115 : FnRow kE1 (.o (.o (.i (.o (.i (.i (.h))))))) k115 := fn_row (n := 115) fns_eq1 (by kernel_rfl) Tryz.func115 ek115
theorem rk116 : FnRow kE1 (.i (.o (.i (.o (.i (.i (.h))))))) k116 := fn_row (n := 116) fns_eq1 (by kernel_rfl) Tryz.func116 ek116
theorem rk117 : FnRow kE1 (.o (.i (.i (.o (.i (.i (.h))))))) k117 := fn_row (n := 117) fns_eq1 (by kernel_rfl) Tryz.func117 ek117
theorem rk118 : FnRow kE1 (.i (.i (.i (.o (.i (.i (.h))))))) k118 := fn_row (n := 118) fns_eq1 (by kernel_rfl) Tryz.func118 ek118
theorem rk120 : FnRow kE1 (.i (.o (.o (.i (.i (.i (.h))))))) k120 := fn_row (n := 120) fns_eq1 (by kernel_rfl) Tryz.func120 ek120
theorem rk121 : FnRow kE1 (.o (.i (.o (.i (.i (.i (.h))))))) k121 := fn_row (n := 121) fns_eq1 (by kernel_rfl) Tryz.func121 ek121
theorem rk122 : FnRow kE1 (.i (.i (.o (.i (.i (.i (.h))))))) k122 := fn_row (n := 122) fns_eq1 (by kernel_rfl) Tryz.func122 ek122
theorem rk123 : FnRow kE1 (.o (.o (.i (.i (.i (.i (.h))))))) k123 := fn_row (n := 123) fns_eq1 (by kernel_rfl) Tryz.func123 ek123
theorem rk124 : FnRow kE1 (.i (.o (.i (.i (.i (.i (.h))))))) k124 := fn_row (n := 124) fns_eq1 (by kernel_rfl) Tryz.func124 ek124
theorem rk125 : FnRow kE1 (.o (.i (.i (.i (.i (.i (.h))))))) k125 := fn_row (n := 125) fns_eq1 (by kernel_rfl) Tryz.func125 ek125
theorem rk128 : FnRow kE1 (.i (.o (.o (.o (.o (.o (.o (.h)))))))) k128 := fn_row (n := 128) fns_eq1 (by kernel_rfl) Tryz.func128 ek128
theorem rk129 : FnRow kE1 (.o (.i (.o (.o (.o (.o (.o (.h)))))))) k129 := fn_row (n := 129) fns_eq1 (by kernel_rfl) Tryz.func129 ek129
theorem rk130 : FnRow kE1 (.i (.i (.o (.o (.o (.o (.o (.h)))))))) k130 := fn_row (n := 130) fns_eq1 (by kernel_rfl) Tryz.func130 ek130
theorem rk131 : FnRow kE1 (.o (.o (.i (.o (.o (.o (.o (.h)))))))) k131 := fn_row (n := 131) fns_eq1 (by kernel_rfl) Tryz.func131 ek131
theorem rk134 : FnRow kE1 (.i (.i (.i (.o (.o (.o (.o (.h)))))))) k134 := fn_row (n := 134) fns_eq1 (by kernel_rfl) Tryz.func134 ek134
theorem rk136 : FnRow kE1 (.i (.o (.o (.i (.o (.o (.o (.h)))))))) k136 := fn_row (n := 136) fns_eq1 (by kernel_rfl) Tryz.func136 ek136
theorem rk139 : FnRow kE1 (.o (.o (.i (.i (.o (.o (.o (.h)))))))) k139 := fn_row (n := 139) fns_eq1 (by kernel_rfl) Tryz.func139 ek139
theorem rk141 : FnRow kE1 (.o (.i (.i (.i (.o (.o (.o (.h)))))))) k141 := fn_row (n := 141) fns_eq1 (by kernel_rfl) Tryz.func141 ek141
theorem rk142 : FnRow kE1 (.i (.i (.i (.i (.o (.o (.o (.h)))))))) k142 := fn_row (n := 142) fns_eq1 (by kernel_rfl) Tryz.func142 ek142
theorem rk154 : FnRow kE1 (.i (.i (.o (.i (.i (.o (.o (.h)))))))) k154 := fn_row (n := 154) fns_eq1 (by kernel_rfl) Tryz.func154 ek154
theorem rk155 : FnRow kE1 (.o (.o (.i (.i (.i (.o (.o (.h)))))))) k155 := fn_row (n := 155) fns_eq1 (by kernel_rfl) Tryz.func155 ek155
theorem rk156 : FnRow kE1 (.i (.o (.i (.i (.i (.o (.o (.h)))))))) k156 := fn_row (n := 156) fns_eq1 (by kernel_rfl) Tryz.func156 ek156
theorem rk163 : FnRow kE1 (.o (.o (.i (.o (.o (.i (.o (.h)))))))) k163 := fn_row (n := 163) fns_eq1 (by kernel_rfl) Tryz.func163 ek163
theorem rk167 : FnRow kE1 (.o (.o (.o (.i (.o (.i (.o (.h)))))))) k167 := fn_row (n := 167) fns_eq1 (by kernel_rfl) Tryz.func167 ek167
theorem rk171 : FnRow kE1 (.o (.o (.i (.i (.o (.i (.o (.h)))))))) k171 := fn_row (n := 171) fns_eq1 (by kernel_rfl) Tryz.func171 ek171
theorem rk172 : FnRow kE1 (.i (.o (.i (.i (.o (.i (.o (.h)))))))) k172 := fn_row (n := 172) fns_eq1 (by kernel_rfl) Tryz.func172 ek172
theorem rk175 : FnRow kE1 (.o (.o (.o (.o (.i (.i (.o (.h)))))))) k175 := fn_row (n := 175) fns_eq1 (by kernel_rfl) Tryz.func175 ek175
theorem rk179 : FnRow kE1 (.o (.o (.i (.o (.i (.i (.o (.h)))))))) k179 := fn_row (n := 179) fns_eq1 (by kernel_rfl) Tryz.func179 ek179
theorem rk180 : FnRow kE1 (.i (.o (.i (.o (.i (.i (.o (.h)))))))) k180 := fn_row (n := 180) fns_eq1 (by kernel_rfl) Tryz.func180 ek180
theorem rk181 : FnRow kE1 (.o (.i (.i (.o (.i (.i (.o (.h)))))))) k181 := fn_row (n := 181) fns_eq1 (by kernel_rfl) Tryz.func181 ek181
theorem rk182 : FnRow kE1 (.i (.i (.i (.o (.i (.i (.o (.h)))))))) k182 := fn_row (n := 182) fns_eq1 (by kernel_rfl) Tryz.func182 ek182
theorem rk184 : FnRow kE1 (.i (.o (.o (.i (.i (.i (.o (.h)))))))) k184 := fn_row (n := 184) fns_eq1 (by kernel_rfl) Tryz.func184 ek184
theorem rk185 : FnRow kE1 (.o (.i (.o (.i (.i (.i (.o (.h)))))))) k185 := fn_row (n := 185) fns_eq1 (by kernel_rfl) Tryz.func185 ek185
theorem rk186 : FnRow kE1 (.i (.i (.o (.i (.i (.i (.o (.h)))))))) k186 := fn_row (n := 186) fns_eq1 (by kernel_rfl) Tryz.func186 ek186
theorem rk189 : FnRow kE1 (.o (.i (.i (.i (.i (.i (.o (.h)))))))) k189 := fn_row (n := 189) fns_eq1 (by kernel_rfl) Tryz.func189 ek189
theorem rk197 : FnRow kE1 (.o (.i (.i (.o (.o (.o (.i (.h)))))))) k197 := fn_row (n := 197) fns_eq1 (by kernel_rfl) Tryz.func197 ek197
theorem rk199 : FnRow kE1 (.o (.o (.o (.i (.o (.o (.i (.h)))))))) k199 := fn_row (n := 199) fns_eq1 (by kernel_rfl) Tryz.func199 ek199
theorem rk200 : FnRow kE1 (.i (.o (.o (.i (.o (.o (.i (.h)))))))) k200 := fn_row (n := 200) fns_eq1 (by kernel_rfl) Tryz.func200 ek200
theorem rk208 : FnRow kE1 (.i (.o (.o (.o (.i (.o (.i (.h)))))))) k208 := fn_row (n := 208) fns_eq1 (by kernel_rfl) Tryz.func208 ek208
theorem rk209 : FnRow kE1 (.o (.i (.o (.o (.i (.o (.i (.h)))))))) k209 := fn_row (n := 209) fns_eq1 (by kernel_rfl) Tryz.func209 ek209
theorem rk210 : FnRow kE1 (.i (.i (.o (.o (.i (.o (.i (.h)))))))) k210 := fn_row (n := 210) fns_eq1 (by kernel_rfl) Tryz.func210 ek210
theorem rk211 : FnRow kE1 (.o (.o (.i (.o (.i (.o (.i (.h)))))))) k211 := fn_row (n := 211) fns_eq1 (by kernel_rfl) Tryz.func211 ek211
theorem rk212 : FnRow kE1 (.i (.o (.i (.o (.i (.o (.i (.h)))))))) k212 := fn_row (n := 212) fns_eq1 (by kernel_rfl) Tryz.func212 ek212
theorem rk213 : FnRow kE1 (.o (.i (.i (.o (.i (.o (.i (.h)))))))) k213 := fn_row (n := 213) fns_eq1 (by kernel_rfl) Tryz.func213 ek213
theorem rk214 : FnRow kE1 (.i (.i (.i (.o (.i (.o (.i (.h)))))))) k214 := fn_row (n := 214) fns_eq1 (by kernel_rfl) Tryz.func214 ek214
theorem rk215 : FnRow kE1 (.o (.o (.o (.i (.i (.o (.i (.h)))))))) k215 := fn_row (n := 215) fns_eq1 (by kernel_rfl) Tryz.func215 ek215
theorem rk216 : FnRow kE1 (.i (.o (.o (.i (.i (.o (.i (.h)))))))) k216 := fn_row (n := 216) fns_eq1 (by kernel_rfl) Tryz.func216 ek216
theorem rk217 : FnRow kE1 (.o (.i (.o (.i (.i (.o (.i (.h)))))))) k217 := fn_row (n := 217) fns_eq1 (by kernel_rfl) Tryz.func217 ek217
theorem rk218 : FnRow kE1 (.i (.i (.o (.i (.i (.o (.i (.h)))))))) k218 := fn_row (n := 218) fns_eq1 (by kernel_rfl) Tryz.func218 ek218
theorem rk219 : FnRow kE1 (.o (.o (.i (.i (.i (.o (.i (.h)))))))) k219 := fn_row (n := 219) fns_eq1 (by kernel_rfl) Tryz.func219 ek219
theorem rk221 : FnRow kE1 (.o (.i (.i (.i (.i (.o (.i (.h)))))))) k221 := fn_row (n := 221) fns_eq1 (by kernel_rfl) Tryz.func221 ek221
theorem rk223 : FnRow kE1 (.o (.o (.o (.o (.o (.i (.i (.h)))))))) k223 := fn_row (n := 223) fns_eq1 (by kernel_rfl) Tryz.func223 ek223
theorem rk226 : FnRow kE1 (.i (.i (.o (.o (.o (.i (.i (.h)))))))) k226 := fn_row (n := 226) fns_eq1 (by kernel_rfl) Tryz.func226 ek226
theorem rk228 : FnRow kE1 (.i (.o (.i (.o (.o (.i (.i (.h)))))))) k228 := fn_row (n := 228) fns_eq1 (by kernel_rfl) Tryz.func228 ek228
theorem rk230 : FnRow kE1 (.i (.i (.i (.o (.o (.i (.i (.h)))))))) k230 := fn_row (n := 230) fns_eq1 (by kernel_rfl) Tryz.func230 ek230
theorem rk233 : FnRow kE1 (.o (.i (.o (.i (.o (.i (.i (.h)))))))) k233 := fn_row (n := 233) fns_eq1 (by kernel_rfl) Tryz.func233 ek233
theorem rk234 : FnRow kE1 (.i (.i (.o (.i (.o (.i (.i (.h)))))))) k234 := fn_row (n := 234) fns_eq1 (by kernel_rfl) Tryz.func234 ek234
theorem rk236 : FnRow kE1 (.i (.o (.i (.i (.o (.i (.i (.h)))))))) k236 := fn_row (n := 236) fns_eq1 (by kernel_rfl) Tryz.func236 ek236
theorem rk238 : FnRow kE1 (.i (.i (.i (.i (.o (.i (.i (.h)))))))) k238 := fn_row (n := 238) fns_eq1 (by kernel_rfl) Tryz.func238 ek238
theorem rk239 : FnRow kE1 (.o (.o (.o (.o (.i (.i (.i (.h)))))))) k239 := fn_row (n := 239) fns_eq1 (by kernel_rfl) Tryz.func239 ek239
theorem rk240 : FnRow kE1 (.i (.o (.o (.o (.i (.i (.i (.h)))))))) k240 := fn_row (n := 240) fns_eq1 (by kernel_rfl) Tryz.func240 ek240
theorem rk242 : FnRow kE1 (.i (.i (.o (.o (.i (.i (.i (.h)))))))) k242 := fn_row (n := 242) fns_eq1 (by kernel_rfl) Tryz.func242 ek242
theorem rk243 : FnRow kE1 (.o (.o (.i (.o (.i (.i (.i (.h)))))))) k243 := fn_row (n := 243) fns_eq1 (by kernel_rfl) Tryz.func243 ek243
theorem rk244 : FnRow kE1 (.i (.o (.i (.o (.i (.i (.i (.h)))))))) k244 := fn_row (n := 244) fns_eq1 (by kernel_rfl) Tryz.func244 ek244
theorem rk245 : FnRow kE1 (.o (.i (.i (.o (.i (.i (.i (.h)))))))) k245 := fn_row (n := 245) fns_eq1 (by kernel_rfl) Tryz.func245 ek245
theorem rk246 : FnRow kE1 (.i (.i (.i (.o (.i (.i (.i (.h)))))))) k246 := fn_row (n := 246) fns_eq1 (by kernel_rfl) Tryz.func246 ek246
theorem rk248 : FnRow kE1 (.i (.o (.o (.i (.i (.i (.i (.h)))))))) k248 := fn_row (n := 248) fns_eq1 (by kernel_rfl) Tryz.func248 ek248
theorem rk249 : FnRow kE1 (.o (.i (.o (.i (.i (.i (.i (.h)))))))) k249 := fn_row (n := 249) fns_eq1 (by kernel_rfl) Tryz.func249 ek249
theorem rk250 : FnRow kE1 (.i (.i (.o (.i (.i (.i (.i (.h)))))))) k250 := fn_row (n := 250) fns_eq1 (by kernel_rfl) Tryz.func250 ek250
theorem rk251 : FnRow kE1 (.o (.o (.i (.i (.i (.i (.i (.h)))))))) k251 := fn_row (n := 251) fns_eq1 (by kernel_rfl) Tryz.func251 ek251
theorem rk252 : FnRow kE1 (.i (.o (.i (.i (.i (.i (.i (.h)))))))) k252 := fn_row (n := 252) fns_eq1 (by kernel_rfl) Tryz.func252 ek252
theorem rk253 : FnRow kE1 (.o (.i (.i (.i (.i (.i (.i (.h)))))))) k253 := fn_row (n := 253) fns_eq1 (by kernel_rfl) Tryz.func253 ek253
theorem rk254 : FnRow kE1 (.i (.i (.i (.i (.i (.i (.i (.h)))))))) k254 := fn_row (n := 254) fns_eq1 (by kernel_rfl) Tryz.func254 ek254
theorem rk261 : FnRow kE1 (.o (.i (.i (.o (.o (.o (.o (.o (.h))))))))) k261 := fn_row (n := 261) fns_eq1 (by kernel_rfl) Tryz.func261 ek261
theorem rk265 : FnRow kE1 (.o (.i (.o (.i (.o (.o (.o (.o (.h))))))))) k265 := fn_row (n := 265) fns_eq1 (by kernel_rfl) Tryz.func265 ek265
theorem rk267 : FnRow kE1 (.o (.o (.i (.i (.o (.o (.o (.o (.h))))))))) k267 := fn_row (n := 267) fns_eq1 (by kernel_rfl) Tryz.func267 ek267
theorem rk271 : FnRow kE1 (.o (.o (.o (.o (.i (.o (.o (.o (.h))))))))) k271 := fn_row (n := 271) fns_eq1 (by kernel_rfl) Tryz.func271 ek271
theorem rk272 : FnRow kE1 (.i (.o (.o (.o (.i (.o (.o (.o (.h))))))))) k272 := fn_row (n := 272) fns_eq1 (by kernel_rfl) Tryz.func272 ek272
theorem rk273 : FnRow kE1 (.o (.i (.o (.o (.i (.o (.o (.o (.h))))))))) k273 := fn_row (n := 273) fns_eq1 (by kernel_rfl) Tryz.func273 ek273
theorem rk274 : FnRow kE1 (.i (.i (.o (.o (.i (.o (.o (.o (.h))))))))) k274 := fn_row (n := 274) fns_eq1 (by kernel_rfl) Tryz.func274 ek274
theorem rk275 : FnRow kE1 (.o (.o (.i (.o (.i (.o (.o (.o (.h))))))))) k275 := fn_row (n := 275) fns_eq1 (by kernel_rfl) Tryz.func275 ek275
theorem rk276 : FnRow kE1 (.i (.o (.i (.o (.i (.o (.o (.o (.h))))))))) k276 := fn_row (n := 276) fns_eq1 (by kernel_rfl) Tryz.func276 ek276
theorem rk277 : FnRow kE1 (.o (.i (.i (.o (.i (.o (.o (.o (.h))))))))) k277 := fn_row (n := 277) fns_eq1 (by kernel_rfl) Tryz.func277 ek277
theorem rk280 : FnRow kE1 (.i (.o (.o (.i (.i (.o (.o (.o (.h))))))))) k280 := fn_row (n := 280) fns_eq1 (by kernel_rfl) Tryz.func280 ek280
theorem rk285 : FnRow kE1 (.o (.i (.i (.i (.i (.o (.o (.o (.h))))))))) k285 := fn_row (n := 285) fns_eq1 (by kernel_rfl) Tryz.func285 ek285
theorem rk288 : FnRow kE1 (.i (.o (.o (.o (.o (.i (.o (.o (.h))))))))) k288 := fn_row (n := 288) fns_eq1 (by kernel_rfl) Tryz.func288 ek288
theorem rk289 : FnRow kE1 (.o (.i (.o (.o (.o (.i (.o (.o (.h))))))))) k289 := fn_row (n := 289) fns_eq1 (by kernel_rfl) Tryz.func289 ek289
theorem rk290 : FnRow kE1 (.i (.i (.o (.o (.o (.i (.o (.o (.h))))))))) k290 := fn_row (n := 290) fns_eq1 (by kernel_rfl) Tryz.func290 ek290
theorem rk291 : FnRow kE1 (.o (.o (.i (.o (.o (.i (.o (.o (.h))))))))) k291 := fn_row (n := 291) fns_eq1 (by kernel_rfl) Tryz.func291 ek291
theorem rk292 : FnRow kE1 (.i (.o (.i (.o (.o (.i (.o (.o (.h))))))))) k292 := fn_row (n := 292) fns_eq1 (by kernel_rfl) Tryz.func292 ek292
theorem rk293 : FnRow kE1 (.o (.i (.i (.o (.o (.i (.o (.o (.h))))))))) k293 := fn_row (n := 293) fns_eq1 (by kernel_rfl) Tryz.func293 ek293
theorem rk294 : FnRow kE1 (.i (.i (.i (.o (.o (.i (.o (.o (.h))))))))) k294 := fn_row (n := 294) fns_eq1 (by kernel_rfl) Tryz.func294 ek294
theorem rk295 : FnRow kE1 (.o (.o (.o (.i (.o (.i (.o (.o (.h))))))))) k295 := fn_row (n := 295) fns_eq1 (by kernel_rfl) Tryz.func295 ek295
theorem rk296 : FnRow kE1 (.i (.o (.o (.i (.o (.i (.o (.o (.h))))))))) k296 := fn_row (n := 296) fns_eq1 (by kernel_rfl) Tryz.func296 ek296
theorem rk297 : FnRow kE1 (.o (.i (.o (.i (.o (.i (.o (.o (.h))))))))) k297 := fn_row (n := 297) fns_eq1 (by kernel_rfl) Tryz.func297 ek297
theorem rk298 : FnRow kE1 (.i (.i (.o (.i (.o (.i (.o (.o (.h))))))))) k298 := fn_row (n := 298) fns_eq1 (by kernel_rfl) Tryz.func298 ek298
theorem rk299 : FnRow kE1 (.o (.o (.i (.i (.o (.i (.o (.o (.h))))))))) k299 := fn_row (n := 299) fns_eq1 (by kernel_rfl) Tryz.func299 ek299
theorem rk300 : FnRow kE1 (.i (.o (.i (.i (.o (.i (.o (.o (.h))))))))) k300 := fn_row (n := 300) fns_eq1 (by kernel_rfl) Tryz.func300 ek300
theorem rk311 : FnRow kE1 (.o (.o (.o (.i (.i (.i (.o (.o (.h))))))))) k311 := fn_row (n := 311) fns_eq1 (by kernel_rfl) Tryz.func311 ek311
theorem rk313 : FnRow kE1 (.o (.i (.o (.i (.i (.i (.o (.o (.h))))))))) k313 := fn_row (n := 313) fns_eq1 (by kernel_rfl) Tryz.func313 ek313
theorem rk315 : FnRow kE1 (.o (.o (.i (.i (.i (.i (.o (.o (.h))))))))) k315 := fn_row (n := 315) fns_eq1 (by kernel_rfl) Tryz.func315 ek315
theorem rk316 : FnRow kE1 (.i (.o (.i (.i (.i (.i (.o (.o (.h))))))))) k316 := fn_row (n := 316) fns_eq1 (by kernel_rfl) Tryz.func316 ek316
theorem rk317 : FnRow kE1 (.o (.i (.i (.i (.i (.i (.o (.o (.h))))))))) k317 := fn_row (n := 317) fns_eq1 (by kernel_rfl) Tryz.func317 ek317
theorem rk318 : FnRow kE1 (.i (.i (.i (.i (.i (.i (.o (.o (.h))))))))) k318 := fn_row (n := 318) fns_eq1 (by kernel_rfl) Tryz.func318 ek318
theorem rk319 : FnRow kE1 (.o (.o (.o (.o (.o (.o (.i (.o (.h))))))))) k319 := fn_row (n := 319) fns_eq1 (by kernel_rfl) Tryz.func319 ek319
theorem rk324 : FnRow kE1 (.i (.o (.i (.o (.o (.o (.i (.o (.h))))))))) k324 := fn_row (n := 324) fns_eq1 (by kernel_rfl) Tryz.func324 ek324
theorem rk325 : FnRow kE1 (.o (.i (.i (.o (.o (.o (.i (.o (.h))))))))) k325 := fn_row (n := 325) fns_eq1 (by kernel_rfl) Tryz.func325 ek325
theorem rk326 : FnRow kE1 (.i (.i (.i (.o (.o (.o (.i (.o (.h))))))))) k326 := fn_row (n := 326) fns_eq1 (by kernel_rfl) Tryz.func326 ek326
theorem rk327 : FnRow kE1 (.o (.o (.o (.i (.o (.o (.i (.o (.h))))))))) k327 := fn_row (n := 327) fns_eq1 (by kernel_rfl) Tryz.func327 ek327
theorem rk328 : FnRow kE1 (.i (.o (.o (.i (.o (.o (.i (.o (.h))))))))) k328 := fn_row (n := 328) fns_eq1 (by kernel_rfl) Tryz.func328 ek328
theorem rk329 : FnRow kE1 (.o (.i (.o (.i (.o (.o (.i (.o (.h))))))))) k329 := fn_row (n := 329) fns_eq1 (by kernel_rfl) Tryz.func329 ek329
theorem rk330 : FnRow kE1 (.i (.i (.o (.i (.o (.o (.i (.o (.h))))))))) k330 := fn_row (n := 330) fns_eq1 (by kernel_rfl) Tryz.func330 ek330
theorem rk331 : FnRow kE1 (.o (.o (.i (.i (.o (.o (.i (.o (.h))))))))) k331 := fn_row (n := 331) fns_eq1 (by kernel_rfl) Tryz.func331 ek331
theorem rk332 : FnRow kE1 (.i (.o (.i (.i (.o (.o (.i (.o (.h))))))))) k332 := fn_row (n := 332) fns_eq1 (by kernel_rfl) Tryz.func332 ek332
theorem rk333 : FnRow kE1 (.o (.i (.i (.i (.o (.o (.i (.o (.h))))))))) k333 := fn_row (n := 333) fns_eq1 (by kernel_rfl) Tryz.func333 ek333
theorem rk343 : FnRow kE1 (.o (.o (.o (.i (.i (.o (.i (.o (.h))))))))) k343 := fn_row (n := 343) fns_eq1 (by kernel_rfl) Tryz.func343 ek343
theorem rk344 : FnRow kE1 (.i (.o (.o (.i (.i (.o (.i (.o (.h))))))))) k344 := fn_row (n := 344) fns_eq1 (by kernel_rfl) Tryz.func344 ek344
theorem rk349 : FnRow kE1 (.o (.i (.i (.i (.i (.o (.i (.o (.h))))))))) k349 := fn_row (n := 349) fns_eq1 (by kernel_rfl) Tryz.func349 ek349
theorem rk350 : FnRow kE1 (.i (.i (.i (.i (.i (.o (.i (.o (.h))))))))) k350 := fn_row (n := 350) fns_eq1 (by kernel_rfl) Tryz.func350 ek350
theorem rk351 : FnRow kE1 (.o (.o (.o (.o (.o (.i (.i (.o (.h))))))))) k351 := fn_row (n := 351) fns_eq1 (by kernel_rfl) Tryz.func351 ek351
theorem rk353 : FnRow kE1 (.o (.i (.o (.o (.o (.i (.i (.o (.h))))))))) k353 := fn_row (n := 353) fns_eq1 (by kernel_rfl) Tryz.func353 ek353
theorem rk367 : FnRow kE1 (.o (.o (.o (.o (.i (.i (.i (.o (.h))))))))) k367 := fn_row (n := 367) fns_eq1 (by kernel_rfl) Tryz.func367 ek367
theorem rk368 : FnRow kE1 (.i (.o (.o (.o (.i (.i (.i (.o (.h))))))))) k368 := fn_row (n := 368) fns_eq1 (by kernel_rfl) Tryz.func368 ek368
theorem rk371 : FnRow kE1 (.o (.o (.i (.o (.i (.i (.i (.o (.h))))))))) k371 := fn_row (n := 371) fns_eq1 (by kernel_rfl) Tryz.func371 ek371
theorem rk378 : FnRow kE1 (.i (.i (.o (.i (.i (.i (.i (.o (.h))))))))) k378 := fn_row (n := 378) fns_eq1 (by kernel_rfl) Tryz.func378 ek378
theorem rk379 : FnRow kE1 (.o (.o (.i (.i (.i (.i (.i (.o (.h))))))))) k379 := fn_row (n := 379) fns_eq1 (by kernel_rfl) Tryz.func379 ek379
theorem rk382 : FnRow kE1 (.i (.i (.i (.i (.i (.i (.i (.o (.h))))))))) k382 := fn_row (n := 382) fns_eq1 (by kernel_rfl) Tryz.func382 ek382
theorem rk384 : FnRow kE1 (.i (.o (.o (.o (.o (.o (.o (.i (.h))))))))) k384 := fn_row (n := 384) fns_eq1 (by kernel_rfl) Tryz.func384 ek384
theorem rk389 : FnRow kE1 (.o (.i (.i (.o (.o (.o (.o (.i (.h))))))))) k389 := fn_row (n := 389) fns_eq1 (by kernel_rfl) Tryz.func389 ek389
theorem rk391 : FnRow kE1 (.o (.o (.o (.i (.o (.o (.o (.i (.h))))))))) k391 := fn_row (n := 391) fns_eq1 (by kernel_rfl) Tryz.func391 ek391
theorem rk396 : FnRow kE1 (.i (.o (.i (.i (.o (.o (.o (.i (.h))))))))) k396 := fn_row (n := 396) fns_eq1 (by kernel_rfl) Tryz.func396 ek396
theorem rk399 : FnRow kE1 (.o (.o (.o (.o (.i (.o (.o (.i (.h))))))))) k399 := fn_row (n := 399) fns_eq1 (by kernel_rfl) Tryz.func399 ek399
theorem rk400 : FnRow kE1 (.i (.o (.o (.o (.i (.o (.o (.i (.h))))))))) k400 := fn_row (n := 400) fns_eq1 (by kernel_rfl) Tryz.func400 ek400
theorem rk407 : FnRow kE1 (.o (.o (.o (.i (.i (.o (.o (.i (.h))))))))) k407 := fn_row (n := 407) fns_eq1 (by kernel_rfl) Tryz.func407 ek407
set_option maxRecDepth 20000 in
theorem tab_ok1 : TabOk kE1 ktab1 := tab_of ⟨⟨⟨⟨⟨⟨⟨trivial, AllT.none', ⟨⟨trivial, AllT.some' rk319, trivial⟩, AllT.none', trivial⟩⟩, AllT.some' rk31, ⟨trivial, AllT.none', ⟨⟨trivial, AllT.some' rk351, trivial⟩, AllT.some' rk223, trivial⟩⟩⟩, AllT.some' rk15, ⟨⟨⟨⟨trivial, AllT.some' rk271, trivial⟩, AllT.none', ⟨trivial, AllT.some' rk399, trivial⟩⟩, AllT.none', trivial⟩, AllT.some' rk47, ⟨⟨trivial, AllT.some' rk175, trivial⟩, AllT.none', ⟨⟨trivial, AllT.some' rk367, trivial⟩, AllT.some' rk239, trivial⟩⟩⟩⟩, AllT.some' rk7, ⟨⟨⟨⟨trivial, AllT.none', ⟨trivial, AllT.some' rk391, trivial⟩⟩, AllT.some' rk71, ⟨⟨trivial, AllT.some' rk327, trivial⟩, AllT.some' rk199, trivial⟩⟩, AllT.some' rk39, ⟨⟨⟨trivial, AllT.some' rk295, trivial⟩, AllT.some' rk167, trivial⟩, AllT.some' rk103, trivial⟩⟩, AllT.some' rk23, ⟨⟨⟨trivial, AllT.none', ⟨trivial, AllT.some' rk407, trivial⟩⟩, AllT.some' rk87, ⟨⟨trivial, AllT.some' rk343, trivial⟩, AllT.some' rk215, trivial⟩⟩, AllT.some' rk55, ⟨⟨⟨trivial, AllT.some' rk311, trivial⟩, AllT.none', trivial⟩, AllT.none', trivial⟩⟩⟩⟩, AllT.none', ⟨⟨⟨⟨⟨trivial, AllT.some' rk131, trivial⟩, AllT.none', trivial⟩, AllT.some' rk35, ⟨⟨⟨trivial, AllT.some' rk291, trivial⟩, AllT.some' rk163, trivial⟩, AllT.none', trivial⟩⟩, AllT.some' rk19, ⟨⟨⟨⟨trivial, AllT.some' rk275, trivial⟩, AllT.none', trivial⟩, AllT.some' rk83, ⟨trivial, AllT.some' rk211, trivial⟩⟩, AllT.none', ⟨⟨trivial, AllT.some' rk179, trivial⟩, AllT.some' rk115, ⟨⟨trivial, AllT.some' rk371, trivial⟩, AllT.some' rk243, trivial⟩⟩⟩⟩, AllT.some' rk11, ⟨⟨⟨⟨⟨trivial, AllT.some' rk267, trivial⟩, AllT.some' rk139, trivial⟩, AllT.some' rk75, ⟨⟨trivial, AllT.some' rk331, trivial⟩, AllT.none', trivial⟩⟩, AllT.some' rk43, ⟨⟨⟨trivial, AllT.some' rk299, trivial⟩, AllT.some' rk171, trivial⟩, AllT.none', trivial⟩⟩, AllT.some' rk27, ⟨⟨⟨trivial, AllT.some' rk155, trivial⟩, AllT.some' rk91, ⟨trivial, AllT.some' rk219, trivial⟩⟩, AllT.some' rk59, ⟨⟨⟨trivial, AllT.some' rk315, trivial⟩, AllT.none', trivial⟩, AllT.some' rk123, ⟨⟨trivial, AllT.some' rk379, trivial⟩, AllT.some' rk251, trivial⟩⟩⟩⟩⟩⟩, AllT.none', ⟨⟨⟨⟨⟨⟨trivial, AllT.some' rk129, trivial⟩, AllT.none', trivial⟩, AllT.some' rk33, ⟨⟨⟨trivial, AllT.some' rk289, trivial⟩, AllT.none', trivial⟩, AllT.some' rk97, ⟨⟨trivial, AllT.some' rk353, trivial⟩, AllT.none', trivial⟩⟩⟩, AllT.some' rk17, ⟨⟨⟨⟨trivial, AllT.some' rk273, trivial⟩, AllT.none', trivial⟩, AllT.some' rk81, ⟨trivial, AllT.some' rk209, trivial⟩⟩, AllT.some' rk49, ⟨trivial, AllT.some' rk113, trivial⟩⟩⟩, AllT.some' rk9, ⟨⟨⟨⟨⟨trivial, AllT.some' rk265, trivial⟩, AllT.none', trivial⟩, AllT.some' rk73, ⟨⟨trivial, AllT.some' rk329, trivial⟩, AllT.none', trivial⟩⟩, AllT.some' rk41, ⟨⟨⟨trivial, AllT.some' rk297, trivial⟩, AllT.none', trivial⟩, AllT.none', ⟨trivial, AllT.some' rk233, trivial⟩⟩⟩, AllT.some' rk25, ⟨⟨trivial, AllT.some' rk89, ⟨trivial, AllT.some' rk217, trivial⟩⟩, AllT.none', ⟨⟨⟨trivial, AllT.some' rk313, trivial⟩, AllT.some' rk185, trivial⟩, AllT.some' rk121, ⟨trivial, AllT.some' rk249, trivial⟩⟩⟩⟩⟩, AllT.none', ⟨⟨⟨⟨⟨⟨trivial, AllT.some' rk261, trivial⟩, AllT.none', ⟨trivial, AllT.some' rk389, trivial⟩⟩, AllT.some' rk69, ⟨⟨trivial, AllT.some' rk325, trivial⟩, AllT.some' rk197, trivial⟩⟩, AllT.some' rk37, ⟨⟨⟨trivial, AllT.some' rk293, trivial⟩, AllT.none', trivial⟩, AllT.some' rk101, trivial⟩⟩, AllT.some' rk21, ⟨⟨⟨⟨trivial, AllT.some' rk277, trivial⟩, AllT.none', trivial⟩, AllT.some' rk85, ⟨trivial, AllT.some' rk213, trivial⟩⟩, AllT.none', ⟨⟨trivial, AllT.some' rk181, trivial⟩, AllT.some' rk117, ⟨trivial, AllT.some' rk245, trivial⟩⟩⟩⟩, AllT.some' rk13, ⟨⟨⟨⟨trivial, AllT.some' rk141, trivial⟩, AllT.none', ⟨⟨trivial, AllT.some' rk333, trivial⟩, AllT.none', trivial⟩⟩, AllT.some' rk45, trivial⟩, AllT.some' rk29, ⟨⟨⟨⟨trivial, AllT.some' rk285, trivial⟩, AllT.none', trivial⟩, AllT.none', ⟨⟨trivial, AllT.some' rk349, trivial⟩, AllT.some' rk221, trivial⟩⟩, AllT.some' rk61, ⟨⟨⟨trivial, AllT.some' rk317, trivial⟩, AllT.some' rk189, trivial⟩, AllT.some' rk125, ⟨trivial, AllT.some' rk253, trivial⟩⟩⟩⟩⟩⟩⟩, AllT.none', ⟨⟨⟨⟨⟨⟨⟨trivial, AllT.some' rk128, ⟨trivial, AllT.some' rk384, trivial⟩⟩, AllT.none', trivial⟩, AllT.some' rk32, ⟨⟨⟨trivial, AllT.some' rk288, trivial⟩, AllT.none', trivial⟩, AllT.some' rk96, trivial⟩⟩, AllT.some' rk16, ⟨⟨⟨⟨trivial, AllT.some' rk272, trivial⟩, AllT.none', ⟨trivial, AllT.some' rk400, trivial⟩⟩, AllT.none', ⟨trivial, AllT.some' rk208, trivial⟩⟩, AllT.some' rk48, ⟨trivial, AllT.some' rk112, ⟨⟨trivial, AllT.some' rk368, trivial⟩, AllT.some' rk240, trivial⟩⟩⟩⟩, AllT.none', ⟨⟨⟨⟨trivial, AllT.some' rk136, trivial⟩, AllT.some' rk72, ⟨⟨trivial, AllT.some' rk328, trivial⟩, AllT.some' rk200, trivial⟩⟩, AllT.some' rk40, ⟨⟨⟨trivial, AllT.some' rk296, trivial⟩, AllT.none', trivial⟩, AllT.none', trivial⟩⟩, AllT.some' rk24, ⟨⟨⟨⟨trivial, AllT.some' rk280, trivial⟩, AllT.none', trivial⟩, AllT.some' rk88, ⟨⟨trivial, AllT.some' rk344, trivial⟩, AllT.some' rk216, trivial⟩⟩, AllT.none', ⟨⟨trivial, AllT.some' rk184, trivial⟩, AllT.some' rk120, ⟨trivial, AllT.some' rk248, trivial⟩⟩⟩⟩⟩, AllT.none', ⟨⟨⟨⟨trivial, AllT.some' rk68, ⟨⟨trivial, AllT.some' rk324, trivial⟩, AllT.none', trivial⟩⟩, AllT.some' rk36, ⟨⟨⟨trivial, AllT.some' rk292, trivial⟩, AllT.none', trivial⟩, AllT.none', ⟨trivial, AllT.some' rk228, trivial⟩⟩⟩, AllT.some' rk20, ⟨⟨⟨⟨trivial, AllT.some' rk276, trivial⟩, AllT.none', trivial⟩, AllT.some' rk84, ⟨trivial, AllT.some' rk212, trivial⟩⟩, AllT.none', ⟨⟨trivial, AllT.some' rk180, trivial⟩, AllT.some' rk116, ⟨trivial, AllT.some' rk244, trivial⟩⟩⟩⟩, AllT.some' rk12, ⟨⟨⟨⟨trivial, AllT.none', ⟨trivial, AllT.some' rk396, trivial⟩⟩, AllT.none', ⟨⟨trivial, AllT.some' rk332, trivial⟩, AllT.none', trivial⟩⟩, AllT.some' rk44, ⟨⟨⟨trivial, AllT.some' rk300, trivial⟩, AllT.some' rk172, trivial⟩, AllT.none', ⟨trivial, AllT.some' rk236, trivial⟩⟩⟩, AllT.some' rk28, ⟨⟨⟨trivial, AllT.some' rk156, trivial⟩, AllT.none', trivial⟩, AllT.none', ⟨⟨⟨trivial, AllT.some' rk316, trivial⟩, AllT.none', trivial⟩, AllT.some' rk124, ⟨trivial, AllT.some' rk252, trivial⟩⟩⟩⟩⟩⟩, AllT.none', ⟨⟨⟨⟨⟨⟨trivial, AllT.some' rk130, trivial⟩, AllT.none', trivial⟩, AllT.some' rk34, ⟨⟨⟨trivial, AllT.some' rk290, trivial⟩, AllT.none', trivial⟩, AllT.some' rk98, ⟨trivial, AllT.some' rk226, trivial⟩⟩⟩, AllT.some' rk18, ⟨⟨⟨⟨trivial, AllT.some' rk274, trivial⟩, AllT.none', trivial⟩, AllT.some' rk82, ⟨trivial, AllT.some' rk210, trivial⟩⟩, AllT.none', ⟨trivial, AllT.some' rk114, ⟨trivial, AllT.some' rk242, trivial⟩⟩⟩⟩, AllT.some' rk10, ⟨⟨⟨trivial, AllT.some' rk74, ⟨⟨trivial, AllT.some' rk330, trivial⟩, AllT.none', trivial⟩⟩, AllT.some' rk42, ⟨⟨⟨trivial, AllT.some' rk298, trivial⟩, AllT.none', trivial⟩, AllT.none', ⟨trivial, AllT.some' rk234, trivial⟩⟩⟩, AllT.some' rk26, ⟨⟨⟨trivial, AllT.some' rk154, trivial⟩, AllT.some' rk90, ⟨trivial, AllT.some' rk218, trivial⟩⟩, AllT.none', ⟨⟨trivial, AllT.some' rk186, trivial⟩, AllT.some' rk122, ⟨⟨trivial, AllT.some' rk378, trivial⟩, AllT.some' rk250, trivial⟩⟩⟩⟩⟩, AllT.none', ⟨⟨⟨⟨⟨trivial, AllT.some' rk134, trivial⟩, AllT.some' rk70, ⟨⟨trivial, AllT.some' rk326, trivial⟩, AllT.none', trivial⟩⟩, AllT.none', ⟨⟨⟨trivial, AllT.some' rk294, trivial⟩, AllT.none', trivial⟩, AllT.none', ⟨trivial, AllT.some' rk230, trivial⟩⟩⟩, AllT.some' rk22, ⟨⟨trivial, AllT.none', ⟨trivial, AllT.some' rk214, trivial⟩⟩, AllT.none', ⟨⟨trivial, AllT.some' rk182, trivial⟩, AllT.some' rk118, ⟨trivial, AllT.some' rk246, trivial⟩⟩⟩⟩, AllT.some' rk14, ⟨⟨⟨⟨trivial, AllT.some' rk142, trivial⟩, AllT.none', trivial⟩, AllT.some' rk46, ⟨trivial, AllT.none', ⟨trivial, AllT.some' rk238, trivial⟩⟩⟩, AllT.some' rk30, ⟨⟨trivial, AllT.none', ⟨⟨trivial, AllT.some' rk350, trivial⟩, AllT.none', trivial⟩⟩, AllT.none', ⟨⟨⟨trivial, AllT.some' rk318, trivial⟩, AllT.none', trivial⟩, AllT.none', ⟨⟨trivial, AllT.some' rk382, trivial⟩, AllT.some' rk254, trivial⟩⟩⟩⟩⟩⟩⟩⟩
end Go.Eng
