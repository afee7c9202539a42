/- The law over what its callees do, by symbolic evaluation. -/
import Derived.Test.YtipedikaiaamjaaGreatDoorEv
set_option linter.unusedSimpArgs false
set_option linter.unusedVariables false
set_option maxRecDepth 20000
set_option maxHeartbeats 16000000
namespace Go.Eng
abbrev z1 : Nm := .h
abbrev z2 : Nm := .o (.h)
abbrev z3 : Nm := .i (.h)
abbrev z4 : Nm := .o (.o (.h))
abbrev z5 : Nm := .i (.o (.h))
abbrev z6 : Nm := .o (.i (.h))
abbrev z7 : Nm := .i (.i (.h))
abbrev z8 : Nm := .o (.o (.o (.h)))
abbrev z9 : Nm := .i (.o (.o (.h)))
abbrev z10 : Nm := .o (.i (.o (.h)))
abbrev z11 : Nm := .i (.i (.o (.h)))
abbrev z12 : Nm := .o (.o (.i (.h)))
abbrev z13 : Nm := .i (.o (.i (.h)))
abbrev z14 : Nm := .o (.i (.i (.h)))
abbrev z15 : Nm := .i (.i (.i (.h)))
abbrev z16 : Nm := .o (.o (.o (.o (.h))))
abbrev z17 : Nm := .i (.o (.o (.o (.h))))
abbrev z18 : Nm := .o (.i (.o (.o (.h))))
abbrev z19 : Nm := .i (.i (.o (.o (.h))))
abbrev z20 : Nm := .o (.o (.i (.o (.h))))
abbrev z21 : Nm := .i (.o (.i (.o (.h))))
abbrev z22 : Nm := .o (.i (.i (.o (.h))))
abbrev z23 : Nm := .i (.i (.i (.o (.h))))
abbrev z24 : Nm := .o (.o (.o (.i (.h))))
abbrev z25 : Nm := .i (.o (.o (.i (.h))))
abbrev z26 : Nm := .o (.i (.o (.i (.h))))
abbrev z27 : Nm := .i (.i (.o (.i (.h))))
abbrev z28 : Nm := .o (.o (.i (.i (.h))))
abbrev z29 : Nm := .i (.o (.i (.i (.h))))
abbrev z30 : Nm := .o (.i (.i (.i (.h))))
abbrev z31 : Nm := .i (.i (.i (.i (.h))))
abbrev z32 : Nm := .o (.o (.o (.o (.o (.h)))))
abbrev z33 : Nm := .i (.o (.o (.o (.o (.h)))))
abbrev z34 : Nm := .o (.i (.o (.o (.o (.h)))))
abbrev z35 : Nm := .i (.i (.o (.o (.o (.h)))))
abbrev z36 : Nm := .o (.o (.i (.o (.o (.h)))))
abbrev z37 : Nm := .i (.o (.i (.o (.o (.h)))))
abbrev z38 : Nm := .o (.i (.i (.o (.o (.h)))))
abbrev z39 : Nm := .i (.i (.i (.o (.o (.h)))))
abbrev z40 : Nm := .o (.o (.o (.i (.o (.h)))))
abbrev z41 : Nm := .i (.o (.o (.i (.o (.h)))))
abbrev z42 : Nm := .o (.i (.o (.i (.o (.h)))))
abbrev z43 : Nm := .i (.i (.o (.i (.o (.h)))))
abbrev z44 : Nm := .o (.o (.i (.i (.o (.h)))))
abbrev z45 : Nm := .i (.o (.i (.i (.o (.h)))))
abbrev z46 : Nm := .o (.i (.i (.i (.o (.h)))))
abbrev z47 : Nm := .i (.i (.i (.i (.o (.h)))))
abbrev z48 : Nm := .o (.o (.o (.o (.i (.h)))))
abbrev z49 : Nm := .i (.o (.o (.o (.i (.h)))))
abbrev z50 : Nm := .o (.i (.o (.o (.i (.h)))))
abbrev z51 : Nm := .i (.i (.o (.o (.i (.h)))))
abbrev z52 : Nm := .o (.o (.i (.o (.i (.h)))))
abbrev z53 : Nm := .i (.o (.i (.o (.i (.h)))))
abbrev z54 : Nm := .o (.i (.i (.o (.i (.h)))))
abbrev z55 : Nm := .i (.i (.i (.o (.i (.h)))))
abbrev z56 : Nm := .o (.o (.o (.i (.i (.h)))))
abbrev z57 : Nm := .i (.o (.o (.i (.i (.h)))))
abbrev z58 : Nm := .o (.i (.o (.i (.i (.h)))))
abbrev z59 : Nm := .i (.i (.o (.i (.i (.h)))))
abbrev z60 : Nm := .o (.o (.i (.i (.i (.h)))))
abbrev z61 : Nm := .i (.o (.i (.i (.i (.h)))))
abbrev z62 : Nm := .o (.i (.i (.i (.i (.h)))))
abbrev z63 : Nm := .i (.i (.i (.i (.i (.h)))))
abbrev z64 : Nm := .o (.o (.o (.o (.o (.o (.h))))))
abbrev z65 : Nm := .i (.o (.o (.o (.o (.o (.h))))))
abbrev z66 : Nm := .o (.i (.o (.o (.o (.o (.h))))))
abbrev z67 : Nm := .i (.i (.o (.o (.o (.o (.h))))))
abbrev z68 : Nm := .o (.o (.i (.o (.o (.o (.h))))))
abbrev z69 : Nm := .i (.o (.i (.o (.o (.o (.h))))))
abbrev z70 : Nm := .o (.i (.i (.o (.o (.o (.h))))))
abbrev z71 : Nm := .i (.i (.i (.o (.o (.o (.h))))))
abbrev z72 : Nm := .o (.o (.o (.i (.o (.o (.h))))))
abbrev z73 : Nm := .i (.o (.o (.i (.o (.o (.h))))))
abbrev z74 : Nm := .o (.i (.o (.i (.o (.o (.h))))))
abbrev z75 : Nm := .i (.i (.o (.i (.o (.o (.h))))))
abbrev z76 : Nm := .o (.o (.i (.i (.o (.o (.h))))))
abbrev z77 : Nm := .i (.o (.i (.i (.o (.o (.h))))))
abbrev z78 : Nm := .o (.i (.i (.i (.o (.o (.h))))))
abbrev z79 : Nm := .i (.i (.i (.i (.o (.o (.h))))))
abbrev z80 : Nm := .o (.o (.o (.o (.i (.o (.h))))))
abbrev z81 : Nm := .i (.o (.o (.o (.i (.o (.h))))))
abbrev z82 : Nm := .o (.i (.o (.o (.i (.o (.h))))))
abbrev z83 : Nm := .i (.i (.o (.o (.i (.o (.h))))))
abbrev z84 : Nm := .o (.o (.i (.o (.i (.o (.h))))))
abbrev z85 : Nm := .i (.o (.i (.o (.i (.o (.h))))))
abbrev z86 : Nm := .o (.i (.i (.o (.i (.o (.h))))))
abbrev z87 : Nm := .i (.i (.i (.o (.i (.o (.h))))))
abbrev z88 : Nm := .o (.o (.o (.i (.i (.o (.h))))))
abbrev z89 : Nm := .i (.o (.o (.i (.i (.o (.h))))))
abbrev z90 : Nm := .o (.i (.o (.i (.i (.o (.h))))))
abbrev z91 : Nm := .i (.i (.o (.i (.i (.o (.h))))))
abbrev z92 : Nm := .o (.o (.i (.i (.i (.o (.h))))))
abbrev z93 : Nm := .i (.o (.i (.i (.i (.o (.h))))))
abbrev z94 : Nm := .o (.i (.i (.i (.i (.o (.h))))))
abbrev z95 : Nm := .i (.i (.i (.i (.i (.o (.h))))))
abbrev z96 : Nm := .o (.o (.o (.o (.o (.i (.h))))))
abbrev z97 : Nm := .i (.o (.o (.o (.o (.i (.h))))))
abbrev z98 : Nm := .o (.i (.o (.o (.o (.i (.h))))))
abbrev z99 : Nm := .i (.i (.o (.o (.o (.i (.h))))))
abbrev z100 : Nm := .o (.o (.i (.o (.o (.i (.h))))))
abbrev z101 : Nm := .i (.o (.i (.o (.o (.i (.h))))))
abbrev z102 : Nm := .o (.i (.i (.o (.o (.i (.h))))))
abbrev z103 : Nm := .i (.i (.i (.o (.o (.i (.h))))))
abbrev z104 : Nm := .o (.o (.o (.i (.o (.i (.h))))))
abbrev z105 : Nm := .i (.o (.o (.i (.o (.i (.h))))))
abbrev z106 : Nm := .o (.i (.o (.i (.o (.i (.h))))))
abbrev z107 : Nm := .i (.i (.o (.i (.o (.i (.h))))))
abbrev z108 : Nm := .o (.o (.i (.i (.o (.i (.h))))))
abbrev z109 : Nm := .i (.o (.i (.i (.o (.i (.h))))))
abbrev z110 : Nm := .o (.i (.i (.i (.o (.i (.h))))))
abbrev z111 : Nm := .i (.i (.i (.i (.o (.i (.h))))))
abbrev z112 : Nm := .o (.o (.o (.o (.i (.i (.h))))))
abbrev z113 : Nm := .i (.o (.o (.o (.i (.i (.h))))))
abbrev z114 : Nm := .o (.i (.o (.o (.i (.i (.h))))))
abbrev z115 : Nm := .i (.i (.o (.o (.i (.i (.h))))))
abbrev z116 : Nm := .o (.o (.i (.o (.i (.i (.h))))))
abbrev z117 : Nm := .i (.o (.i (.o (.i (.i (.h))))))
abbrev z118 : Nm := .o (.i (.i (.o (.i (.i (.h))))))
abbrev z119 : Nm := .i (.i (.i (.o (.i (.i (.h))))))
abbrev z120 : Nm := .o (.o (.o (.i (.i (.i (.h))))))
abbrev z121 : Nm := .i (.o (.o (.i (.i (.i (.h))))))
abbrev z122 : Nm := .o (.i (.o (.i (.i (.i (.h))))))
abbrev z123 : Nm := .i (.i (.o (.i (.i (.i (.h))))))
abbrev z124 : Nm := .o (.o (.i (.i (.i (.i (.h))))))
abbrev z125 : Nm := .i (.o (.i (.i (.i (.i (.h))))))
abbrev z126 : Nm := .o (.i (.i (.i (.i (.i (.h))))))
abbrev z127 : Nm := .i (.i (.i (.i (.i (.i (.h))))))
abbrev z128 : Nm := .o (.o (.o (.o (.o (.o (.o (.h)))))))
abbrev z129 : Nm := .i (.o (.o (.o (.o (.o (.o (.h)))))))
abbrev z130 : Nm := .o (.i (.o (.o (.o (.o (.o (.h)))))))
abbrev z131 : Nm := .i (.i (.o (.o (.o (.o (.o (.h)))))))
abbrev z132 : Nm := .o (.o (.i (.o (.o (.o (.o (.h)))))))
abbrev z133 : Nm := .i (.o (.i (.o (.o (.o (.o (.h)))))))
abbrev z134 : Nm := .o (.i (.i (.o (.o (.o (.o (.h)))))))
abbrev z135 : Nm := .i (.i (.i (.o (.o (.o (.o (.h)))))))
abbrev z136 : Nm := .o (.o (.o (.i (.o (.o (.o (.h)))))))
abbrev z137 : Nm := .i (.o (.o (.i (.o (.o (.o (.h)))))))
abbrev z138 : Nm := .o (.i (.o (.i (.o (.o (.o (.h)))))))
abbrev z139 : Nm := .i (.i (.o (.i (.o (.o (.o (.h)))))))
abbrev z140 : Nm := .o (.o (.i (.i (.o (.o (.o (.h)))))))
abbrev z141 : Nm := .i (.o (.i (.i (.o (.o (.o (.h)))))))
abbrev z142 : Nm := .o (.i (.i (.i (.o (.o (.o (.h)))))))
abbrev z143 : Nm := .i (.i (.i (.i (.o (.o (.o (.h)))))))
abbrev z144 : Nm := .o (.o (.o (.o (.i (.o (.o (.h)))))))
abbrev z145 : Nm := .i (.o (.o (.o (.i (.o (.o (.h)))))))
abbrev z146 : Nm := .o (.i (.o (.o (.i (.o (.o (.h)))))))
abbrev z147 : Nm := .i (.i (.o (.o (.i (.o (.o (.h)))))))
abbrev z148 : Nm := .o (.o (.i (.o (.i (.o (.o (.h)))))))
abbrev z149 : Nm := .i (.o (.i (.o (.i (.o (.o (.h)))))))
abbrev z150 : Nm := .o (.i (.i (.o (.i (.o (.o (.h)))))))
abbrev z151 : Nm := .i (.i (.i (.o (.i (.o (.o (.h)))))))
abbrev z152 : Nm := .o (.o (.o (.i (.i (.o (.o (.h)))))))
abbrev z153 : Nm := .i (.o (.o (.i (.i (.o (.o (.h)))))))
abbrev z154 : Nm := .o (.i (.o (.i (.i (.o (.o (.h)))))))
abbrev z155 : Nm := .i (.i (.o (.i (.i (.o (.o (.h)))))))
abbrev z156 : Nm := .o (.o (.i (.i (.i (.o (.o (.h)))))))
abbrev z157 : Nm := .i (.o (.i (.i (.i (.o (.o (.h)))))))
abbrev z158 : Nm := .o (.i (.i (.i (.i (.o (.o (.h)))))))
abbrev z159 : Nm := .i (.i (.i (.i (.i (.o (.o (.h)))))))
abbrev z160 : Nm := .o (.o (.o (.o (.o (.i (.o (.h)))))))
abbrev z161 : Nm := .i (.o (.o (.o (.o (.i (.o (.h)))))))
abbrev z162 : Nm := .o (.i (.o (.o (.o (.i (.o (.h)))))))
abbrev z163 : Nm := .i (.i (.o (.o (.o (.i (.o (.h)))))))
abbrev z164 : Nm := .o (.o (.i (.o (.o (.i (.o (.h)))))))
abbrev z165 : Nm := .i (.o (.i (.o (.o (.i (.o (.h)))))))
abbrev z166 : Nm := .o (.i (.i (.o (.o (.i (.o (.h)))))))
abbrev z167 : Nm := .i (.i (.i (.o (.o (.i (.o (.h)))))))
abbrev z168 : Nm := .o (.o (.o (.i (.o (.i (.o (.h)))))))
abbrev z169 : Nm := .i (.o (.o (.i (.o (.i (.o (.h)))))))
abbrev z170 : Nm := .o (.i (.o (.i (.o (.i (.o (.h)))))))
abbrev z171 : Nm := .i (.i (.o (.i (.o (.i (.o (.h)))))))
abbrev z172 : Nm := .o (.o (.i (.i (.o (.i (.o (.h)))))))
abbrev z173 : Nm := .i (.o (.i (.i (.o (.i (.o (.h)))))))
abbrev z174 : Nm := .o (.i (.i (.i (.o (.i (.o (.h)))))))
abbrev z175 : Nm := .i (.i (.i (.i (.o (.i (.o (.h)))))))
abbrev z176 : Nm := .o (.o (.o (.o (.i (.i (.o (.h)))))))
abbrev z177 : Nm := .i (.o (.o (.o (.i (.i (.o (.h)))))))
abbrev z178 : Nm := .o (.i (.o (.o (.i (.i (.o (.h)))))))
abbrev z179 : Nm := .i (.i (.o (.o (.i (.i (.o (.h)))))))
abbrev z180 : Nm := .o (.o (.i (.o (.i (.i (.o (.h)))))))
abbrev z181 : Nm := .i (.o (.i (.o (.i (.i (.o (.h)))))))
abbrev z182 : Nm := .o (.i (.i (.o (.i (.i (.o (.h)))))))
abbrev z183 : Nm := .i (.i (.i (.o (.i (.i (.o (.h)))))))
abbrev z184 : Nm := .o (.o (.o (.i (.i (.i (.o (.h)))))))
abbrev z185 : Nm := .i (.o (.o (.i (.i (.i (.o (.h)))))))
abbrev z186 : Nm := .o (.i (.o (.i (.i (.i (.o (.h)))))))
abbrev z187 : Nm := .i (.i (.o (.i (.i (.i (.o (.h)))))))
abbrev z188 : Nm := .o (.o (.i (.i (.i (.i (.o (.h)))))))
abbrev z189 : Nm := .i (.o (.i (.i (.i (.i (.o (.h)))))))
abbrev z190 : Nm := .o (.i (.i (.i (.i (.i (.o (.h)))))))
abbrev z191 : Nm := .i (.i (.i (.i (.i (.i (.o (.h)))))))
abbrev z192 : Nm := .o (.o (.o (.o (.o (.o (.i (.h)))))))
abbrev z193 : Nm := .i (.o (.o (.o (.o (.o (.i (.h)))))))
abbrev z194 : Nm := .o (.i (.o (.o (.o (.o (.i (.h)))))))
abbrev z195 : Nm := .i (.i (.o (.o (.o (.o (.i (.h)))))))
abbrev z196 : Nm := .o (.o (.i (.o (.o (.o (.i (.h)))))))
abbrev z197 : Nm := .i (.o (.i (.o (.o (.o (.i (.h)))))))
abbrev z198 : Nm := .o (.i (.i (.o (.o (.o (.i (.h)))))))
abbrev z199 : Nm := .i (.i (.i (.o (.o (.o (.i (.h)))))))
abbrev z200 : Nm := .o (.o (.o (.i (.o (.o (.i (.h)))))))
abbrev z201 : Nm := .i (.o (.o (.i (.o (.o (.i (.h)))))))
abbrev z202 : Nm := .o (.i (.o (.i (.o (.o (.i (.h)))))))
abbrev z203 : Nm := .i (.i (.o (.i (.o (.o (.i (.h)))))))
abbrev z204 : Nm := .o (.o (.i (.i (.o (.o (.i (.h)))))))
abbrev z205 : Nm := .i (.o (.i (.i (.o (.o (.i (.h)))))))
abbrev z206 : Nm := .o (.i (.i (.i (.o (.o (.i (.h)))))))
abbrev z207 : Nm := .i (.i (.i (.i (.o (.o (.i (.h)))))))
abbrev z208 : Nm := .o (.o (.o (.o (.i (.o (.i (.h)))))))
abbrev z209 : Nm := .i (.o (.o (.o (.i (.o (.i (.h)))))))
abbrev z210 : Nm := .o (.i (.o (.o (.i (.o (.i (.h)))))))
abbrev z211 : Nm := .i (.i (.o (.o (.i (.o (.i (.h)))))))
abbrev z212 : Nm := .o (.o (.i (.o (.i (.o (.i (.h)))))))
abbrev z213 : Nm := .i (.o (.i (.o (.i (.o (.i (.h)))))))
abbrev z214 : Nm := .o (.i (.i (.o (.i (.o (.i (.h)))))))
abbrev z215 : Nm := .i (.i (.i (.o (.i (.o (.i (.h)))))))
abbrev z216 : Nm := .o (.o (.o (.i (.i (.o (.i (.h)))))))
abbrev z217 : Nm := .i (.o (.o (.i (.i (.o (.i (.h)))))))
abbrev z218 : Nm := .o (.i (.o (.i (.i (.o (.i (.h)))))))
abbrev z219 : Nm := .i (.i (.o (.i (.i (.o (.i (.h)))))))
abbrev z220 : Nm := .o (.o (.i (.i (.i (.o (.i (.h)))))))
abbrev z221 : Nm := .i (.o (.i (.i (.i (.o (.i (.h)))))))
abbrev z222 : Nm := .o (.i (.i (.i (.i (.o (.i (.h)))))))
abbrev z223 : Nm := .i (.i (.i (.i (.i (.o (.i (.h)))))))
abbrev z224 : Nm := .o (.o (.o (.o (.o (.i (.i (.h)))))))
abbrev z225 : Nm := .i (.o (.o (.o (.o (.i (.i (.h)))))))
abbrev z226 : Nm := .o (.i (.o (.o (.o (.i (.i (.h)))))))
abbrev z227 : Nm := .i (.i (.o (.o (.o (.i (.i (.h)))))))
abbrev z228 : Nm := .o (.o (.i (.o (.o (.i (.i (.h)))))))
abbrev z229 : Nm := .i (.o (.i (.o (.o (.i (.i (.h)))))))
abbrev z230 : Nm := .o (.i (.i (.o (.o (.i (.i (.h)))))))
abbrev z231 : Nm := .i (.i (.i (.o (.o (.i (.i (.h)))))))
abbrev z232 : Nm := .o (.o (.o (.i (.o (.i (.i (.h)))))))
abbrev z233 : Nm := .i (.o (.o (.i (.o (.i (.i (.h)))))))
abbrev z234 : Nm := .o (.i (.o (.i (.o (.i (.i (.h)))))))
abbrev z235 : Nm := .i (.i (.o (.i (.o (.i (.i (.h)))))))
abbrev z236 : Nm := .o (.o (.i (.i (.o (.i (.i (.h)))))))
abbrev z237 : Nm := .i (.o (.i (.i (.o (.i (.i (.h)))))))
abbrev z238 : Nm := .o (.i (.i (.i (.o (.i (.i (.h)))))))
abbrev z239 : Nm := .i (.i (.i (.i (.o (.i (.i (.h)))))))
abbrev z240 : Nm := .o (.o (.o (.o (.i (.i (.i (.h)))))))
abbrev z241 : Nm := .i (.o (.o (.o (.i (.i (.i (.h)))))))
abbrev z242 : Nm := .o (.i (.o (.o (.i (.i (.i (.h)))))))
abbrev z243 : Nm := .i (.i (.o (.o (.i (.i (.i (.h)))))))
abbrev z244 : Nm := .o (.o (.i (.o (.i (.i (.i (.h)))))))
abbrev z245 : Nm := .i (.o (.i (.o (.i (.i (.i (.h)))))))
abbrev z246 : Nm := .o (.i (.i (.o (.i (.i (.i (.h)))))))
abbrev z247 : Nm := .i (.i (.i (.o (.i (.i (.i (.h)))))))
abbrev z248 : Nm := .o (.o (.o (.i (.i (.i (.i (.h)))))))
abbrev z249 : Nm := .i (.o (.o (.i (.i (.i (.i (.h)))))))
abbrev z250 : Nm := .o (.i (.o (.i (.i (.i (.i (.h)))))))
abbrev z251 : Nm := .i (.i (.o (.i (.i (.i (.i (.h)))))))
abbrev z252 : Nm := .o (.o (.i (.i (.i (.i (.i (.h)))))))
abbrev z253 : Nm := .i (.o (.i (.i (.i (.i (.i (.h)))))))
abbrev z254 : Nm := .o (.i (.i (.i (.i (.i (.i (.h)))))))
abbrev z255 : Nm := .i (.i (.i (.i (.i (.i (.i (.h)))))))
abbrev z256 : Nm := .o (.o (.o (.o (.o (.o (.o (.o (.h))))))))
abbrev z257 : Nm := .i (.o (.o (.o (.o (.o (.o (.o (.h))))))))
abbrev z258 : Nm := .o (.i (.o (.o (.o (.o (.o (.o (.h))))))))
abbrev z259 : Nm := .i (.i (.o (.o (.o (.o (.o (.o (.h))))))))
abbrev z260 : Nm := .o (.o (.i (.o (.o (.o (.o (.o (.h))))))))
abbrev z261 : Nm := .i (.o (.i (.o (.o (.o (.o (.o (.h))))))))
abbrev z262 : Nm := .o (.i (.i (.o (.o (.o (.o (.o (.h))))))))
abbrev z263 : Nm := .i (.i (.i (.o (.o (.o (.o (.o (.h))))))))
abbrev z264 : Nm := .o (.o (.o (.i (.o (.o (.o (.o (.h))))))))
abbrev z265 : Nm := .i (.o (.o (.i (.o (.o (.o (.o (.h))))))))
abbrev z266 : Nm := .o (.i (.o (.i (.o (.o (.o (.o (.h))))))))
abbrev z267 : Nm := .i (.i (.o (.i (.o (.o (.o (.o (.h))))))))
abbrev z268 : Nm := .o (.o (.i (.i (.o (.o (.o (.o (.h))))))))
abbrev z269 : Nm := .i (.o (.i (.i (.o (.o (.o (.o (.h))))))))
abbrev z270 : Nm := .o (.i (.i (.i (.o (.o (.o (.o (.h))))))))
abbrev z271 : Nm := .i (.i (.i (.i (.o (.o (.o (.o (.h))))))))
abbrev z272 : Nm := .o (.o (.o (.o (.i (.o (.o (.o (.h))))))))
abbrev z273 : Nm := .i (.o (.o (.o (.i (.o (.o (.o (.h))))))))
abbrev z274 : Nm := .o (.i (.o (.o (.i (.o (.o (.o (.h))))))))
abbrev z275 : Nm := .i (.i (.o (.o (.i (.o (.o (.o (.h))))))))
abbrev z276 : Nm := .o (.o (.i (.o (.i (.o (.o (.o (.h))))))))
abbrev z277 : Nm := .i (.o (.i (.o (.i (.o (.o (.o (.h))))))))
abbrev z278 : Nm := .o (.i (.i (.o (.i (.o (.o (.o (.h))))))))
abbrev z279 : Nm := .i (.i (.i (.o (.i (.o (.o (.o (.h))))))))
abbrev z280 : Nm := .o (.o (.o (.i (.i (.o (.o (.o (.h))))))))
abbrev z281 : Nm := .i (.o (.o (.i (.i (.o (.o (.o (.h))))))))
abbrev z282 : Nm := .o (.i (.o (.i (.i (.o (.o (.o (.h))))))))
abbrev z283 : Nm := .i (.i (.o (.i (.i (.o (.o (.o (.h))))))))
abbrev z284 : Nm := .o (.o (.i (.i (.i (.o (.o (.o (.h))))))))
abbrev z285 : Nm := .i (.o (.i (.i (.i (.o (.o (.o (.h))))))))
abbrev z286 : Nm := .o (.i (.i (.i (.i (.o (.o (.o (.h))))))))
abbrev z287 : Nm := .i (.i (.i (.i (.i (.o (.o (.o (.h))))))))
abbrev z288 : Nm := .o (.o (.o (.o (.o (.i (.o (.o (.h))))))))
abbrev z289 : Nm := .i (.o (.o (.o (.o (.i (.o (.o (.h))))))))
abbrev z290 : Nm := .o (.i (.o (.o (.o (.i (.o (.o (.h))))))))
abbrev z291 : Nm := .i (.i (.o (.o (.o (.i (.o (.o (.h))))))))
abbrev z292 : Nm := .o (.o (.i (.o (.o (.i (.o (.o (.h))))))))
abbrev z293 : Nm := .i (.o (.i (.o (.o (.i (.o (.o (.h))))))))
abbrev z294 : Nm := .o (.i (.i (.o (.o (.i (.o (.o (.h))))))))
abbrev z295 : Nm := .i (.i (.i (.o (.o (.i (.o (.o (.h))))))))
abbrev z296 : Nm := .o (.o (.o (.i (.o (.i (.o (.o (.h))))))))
abbrev z297 : Nm := .i (.o (.o (.i (.o (.i (.o (.o (.h))))))))
def q3 : AFn := ⟨.seq (.region [⟨(some z7), .mv (.c (.bool false)), none⟩]) (.seq (.region [⟨(some z44), .mv (.t z1), none⟩, ⟨(some z45), .conv (.int .u64) (.t z44), none⟩, ⟨(some z46), .bin .rem (.t z45) (.c (.int .u64 64)), none⟩, ⟨(some z47), .conv (.int .i64) (.t z46), none⟩, ⟨(some z48), .bin .add (.c (.int .i64 1)) (.t z47), none⟩, ⟨(some z8), .mv (.t z48), none⟩]) (.seq (.region [⟨(some z49), .mv (.t z8), none⟩, ⟨(some z50), .call (.fn z5) [(.t z49)], none⟩, ⟨(some z51), .bin .add (.c (.str [105])) (.t z50), none⟩, ⟨(some z9), .mv (.t z51), none⟩]) (.seq (.region [⟨(some z52), .mv (.t z8), none⟩, ⟨(some z53), .mv (.t z2), none⟩, ⟨(some z54), .call (.fn z6) [(.t z52), (.t z53)], none⟩, ⟨(some z55), .mv (.t z8), none⟩, ⟨(some z56), .mv (.t z3), none⟩, ⟨(some z57), .call (.fn z6) [(.t z55), (.t z56)], none⟩, ⟨(some z2), .mv (.t z54), none⟩, ⟨(some z3), .mv (.t z57), none⟩]) (.seq (.region [⟨(some z58), .mv (.t z9), none⟩, ⟨(some z59), .mv (.t z9), none⟩, ⟨(some z60), .buildSlice 1 9 [(.str [])] 2 [(0, (.t z58)), (1, (.t z59))], none⟩, ⟨(some z10), .mv (.t z60), none⟩]) (.seq (.region [⟨(some z61), .buildSlice 1 9 [(.str [])] 5 [(0, (.c (.str [97, 100, 100]))), (1, (.c (.str [109, 117, 108]))), (2, (.c (.str [97, 110, 100]))), (3, (.c (.str [111, 114]))), (4, (.c (.str [120, 111, 114])))], none⟩, ⟨(some z11), .mv (.t z61), none⟩]) (.seq (.seq (.region [⟨(some z12), .mv (.c (.int .i64 0)), none⟩]) (.block 0 (.loop (.seq (.seq (.region [⟨(some z62), .mv (.t z12), none⟩, ⟨(some z63), .mv (.t z11), none⟩, ⟨(some z64), .lenL (.t z63), none⟩, ⟨(some z65), .bin .lss (.t z62) (.t z64), none⟩]) (.cond (.t z65) (.skip) (.exit 0))) (.seq (.block 1 (.seq (.region [⟨(some z69), .mv (.t z11), none⟩, ⟨(some z70), .mv (.t z12), none⟩, ⟨(some z71), .indexAddr 1 none (.t z69) (.t z70), none⟩, ⟨(some z72), .load 1 false (.t z71), none⟩, ⟨(some z73), .mv (.t z9), none⟩, ⟨(some z74), .call (.fn z8) [(.t z72), (.t z73)], none⟩, ⟨(some z75), .mv (.t z10), none⟩, ⟨(some z76), .mv (.t z2), none⟩, ⟨(some z77), .mv (.t z3), none⟩, ⟨(some z78), .buildSlice 1 2 [(.int .i64 0)] 2 [(0, (.t z76)), (1, (.t z77))], none⟩, ⟨(some z79), .call (.fn z7) [(.t z74), (.t z75), (.t z78)], none⟩, ⟨(some z68), .mv (.t z79), none⟩, ⟨(some z80), .extract (.t z68) 0, none⟩, ⟨(some z81), .extract (.t z68) 1, none⟩, ⟨(some z82), .extract (.t z68) 2, none⟩, ⟨(some z13), .mv (.t z80), none⟩, ⟨(some z14), .mv (.t z81), none⟩, ⟨(some z15), .mv (.t z82), none⟩]) (.seq (.region [⟨(some z84), .mv (.t z11), none⟩, ⟨(some z85), .mv (.t z12), none⟩, ⟨(some z86), .indexAddr 1 none (.t z84) (.t z85), none⟩, ⟨(some z87), .load 1 false (.t z86), none⟩, ⟨(some z88), .mv (.t z9), none⟩, ⟨(some z89), .call (.fn z8) [(.t z87), (.t z88)], none⟩, ⟨(some z90), .mv (.t z10), none⟩, ⟨(some z91), .mv (.t z3), none⟩, ⟨(some z92), .mv (.t z2), none⟩, ⟨(some z93), .buildSlice 1 2 [(.int .i64 0)] 2 [(0, (.t z91)), (1, (.t z92))], none⟩, ⟨(some z94), .call (.fn z7) [(.t z89), (.t z90), (.t z93)], none⟩, ⟨(some z83), .mv (.t z94), none⟩, ⟨(some z95), .extract (.t z83) 0, none⟩, ⟨(some z96), .extract (.t z83) 1, none⟩, ⟨(some z97), .extract (.t z83) 2, none⟩, ⟨(some z16), .mv (.t z95), none⟩, ⟨(some z17), .mv (.t z96), none⟩, ⟨(some z18), .mv (.t z97), none⟩]) (.seq (.region [⟨(some z98), .mv (.t z15), none⟩, ⟨(some z99), .bin .neq (.t z98) (.c (.int .i64 0)), none⟩, ⟨(some z100), .mv (.t z99), none⟩, ⟨(some z101), .mv (.t z18), (some (z100, false))⟩, ⟨(some z102), .bin .neq (.t z101) (.c (.int .i64 0)), (some (z100, false))⟩, ⟨(some z103), .pick (.t z100) (.c (.bool true)) (.t z102), none⟩, ⟨(some z104), .mv (.t z103), none⟩, ⟨(some z105), .mv (.t z14), (some (z104, false))⟩, ⟨(some z106), .bin .neq (.t z105) (.c (.int .i64 0)), (some (z104, false))⟩, ⟨(some z107), .pick (.t z104) (.c (.bool true)) (.t z106), none⟩, ⟨(some z108), .mv (.t z107), none⟩, ⟨(some z109), .mv (.t z17), (some (z108, false))⟩, ⟨(some z110), .bin .neq (.t z109) (.c (.int .i64 0)), (some (z108, false))⟩, ⟨(some z111), .pick (.t z108) (.c (.bool true)) (.t z110), none⟩, ⟨(some z112), .mv (.t z111), none⟩, ⟨(some z113), .mv (.t z13), (some (z112, false))⟩, ⟨(some z114), .mv (.t z16), (some (z112, false))⟩, ⟨(some z115), .bin .neq (.t z113) (.t z114), (some (z112, false))⟩, ⟨(some z116), .pick (.t z112) (.c (.bool true)) (.t z115), none⟩, ⟨(some z117), .mv (.t z116), none⟩, ⟨(some z118), .mv (.t z13), (some (z117, false))⟩, ⟨(some z119), .mv (.t z8), (some (z117, false))⟩, ⟨(some z120), .call (.fn z9) [(.t z119)], (some (z117, false))⟩, ⟨(some z121), .bin .lss (.t z118) (.t z120), (some (z117, false))⟩, ⟨(some z122), .pick (.t z117) (.c (.bool true)) (.t z121), none⟩, ⟨(some z123), .mv (.t z122), none⟩, ⟨(some z124), .mv (.t z13), (some (z123, false))⟩, ⟨(some z125), .mv (.t z8), (some (z123, false))⟩, ⟨(some z126), .call (.fn z10) [(.t z125)], (some (z123, false))⟩, ⟨(some z127), .bin .gtr (.t z124) (.t z126), (some (z123, false))⟩, ⟨(some z128), .pick (.t z123) (.c (.bool true)) (.t z127), none⟩]) (.cond (.t z128) (.seq (.region [⟨(some z7), .mv (.c (.bool false)), none⟩]) (.ret)) (.skip)))))) (.region [⟨(some z66), .mv (.t z12), none⟩, ⟨(some z67), .bin .add (.t z66) (.c (.int .i64 1)), none⟩, ⟨(some z12), .mv (.t z67), none⟩])))))) (.seq (.seq (.region [⟨(some z19), .mv (.c (.int .i64 0)), none⟩]) (.block 2 (.loop (.seq (.seq (.region [⟨(some z129), .mv (.t z19), none⟩, ⟨(some z130), .bin .lss (.t z129) (.c (.int .i64 2)), none⟩]) (.cond (.t z130) (.skip) (.exit 2))) (.seq (.block 3 (.seq (.region [⟨(some z20), .mv (.c (.str [100, 105, 118, 115])), none⟩, ⟨(some z21), .mv (.c (.str [114, 101, 109, 115])), none⟩]) (.seq (.seq (.region [⟨(some z133), .mv (.t z19), none⟩, ⟨(some z134), .bin .eql (.t z133) (.c (.int .i64 1)), none⟩]) (.cond (.t z134) (.region [⟨(some z20), .mv (.c (.str [100, 105, 118, 117])), none⟩, ⟨(some z21), .mv (.c (.str [114, 101, 109, 117])), none⟩]) (.skip))) (.seq (.region [⟨(some z136), .mv (.t z20), none⟩, ⟨(some z137), .mv (.t z9), none⟩, ⟨(some z138), .call (.fn z8) [(.t z136), (.t z137)], none⟩, ⟨(some z139), .mv (.t z10), none⟩, ⟨(some z140), .mv (.t z2), none⟩, ⟨(some z141), .mv (.t z3), none⟩, ⟨(some z142), .buildSlice 1 2 [(.int .i64 0)] 2 [(0, (.t z140)), (1, (.t z141))], none⟩, ⟨(some z143), .call (.fn z7) [(.t z138), (.t z139), (.t z142)], none⟩, ⟨(some z135), .mv (.t z143), none⟩, ⟨(some z144), .extract (.t z135) 0, none⟩, ⟨(some z145), .extract (.t z135) 1, none⟩, ⟨(some z146), .extract (.t z135) 2, none⟩, ⟨(some z22), .mv (.t z144), none⟩, ⟨(some z23), .mv (.t z145), none⟩, ⟨(some z24), .mv (.t z146), none⟩]) (.seq (.region [⟨(some z148), .mv (.t z21), none⟩, ⟨(some z149), .mv (.t z9), none⟩, ⟨(some z150), .call (.fn z8) [(.t z148), (.t z149)], none⟩, ⟨(some z151), .mv (.t z10), none⟩, ⟨(some z152), .mv (.t z2), none⟩, ⟨(some z153), .mv (.t z3), none⟩, ⟨(some z154), .buildSlice 1 2 [(.int .i64 0)] 2 [(0, (.t z152)), (1, (.t z153))], none⟩, ⟨(some z155), .call (.fn z7) [(.t z150), (.t z151), (.t z154)], none⟩, ⟨(some z147), .mv (.t z155), none⟩, ⟨(some z156), .extract (.t z147) 0, none⟩, ⟨(some z157), .extract (.t z147) 1, none⟩, ⟨(some z158), .extract (.t z147) 2, none⟩, ⟨(some z25), .mv (.t z156), none⟩, ⟨(some z26), .mv (.t z157), none⟩, ⟨(some z27), .mv (.t z158), none⟩]) (.seq (.seq (.region [⟨(some z159), .mv (.t z24), none⟩, ⟨(some z160), .bin .neq (.t z159) (.c (.int .i64 0)), none⟩, ⟨(some z161), .mv (.t z160), none⟩, ⟨(some z162), .mv (.t z27), (some (z161, false))⟩, ⟨(some z163), .bin .neq (.t z162) (.c (.int .i64 0)), (some (z161, false))⟩, ⟨(some z164), .pick (.t z161) (.c (.bool true)) (.t z163), none⟩, ⟨(some z165), .mv (.t z164), none⟩, ⟨(some z166), .mv (.t z23), (some (z165, false))⟩, ⟨(some z167), .bin .eql (.t z166) (.c (.int .i64 1)), (some (z165, false))⟩, ⟨(some z168), .mv (.t z3), (some (z165, false))⟩, ⟨(some z169), .bin .eql (.t z168) (.c (.int .i64 0)), (some (z165, false))⟩, ⟨(some z170), .eq true .bool (.t z167) (.t z169), (some (z165, false))⟩, ⟨(some z171), .pick (.t z165) (.c (.bool true)) (.t z170), none⟩, ⟨(some z172), .mv (.t z171), none⟩, ⟨(some z173), .mv (.t z26), (some (z172, false))⟩, ⟨(some z174), .mv (.t z23), (some (z172, false))⟩, ⟨(some z175), .bin .neq (.t z173) (.t z174), (some (z172, false))⟩, ⟨(some z176), .pick (.t z172) (.c (.bool true)) (.t z175), none⟩]) (.cond (.t z176) (.seq (.region [⟨(some z7), .mv (.c (.bool false)), none⟩]) (.ret)) (.skip))) (.seq (.region [⟨(some z177), .mv (.t z3), none⟩, ⟨(some z178), .bin .neq (.t z177) (.c (.int .i64 0)), none⟩, ⟨(some z179), .mv (.t z178), none⟩, ⟨(some z180), .mv (.t z8), (some (z179, true))⟩, ⟨(some z181), .mv (.t z22), (some (z179, true))⟩, ⟨(some z182), .mv (.t z3), (some (z179, true))⟩, ⟨(some z183), .bin .mul (.t z181) (.t z182), (some (z179, true))⟩, ⟨(some z184), .mv (.t z25), (some (z179, true))⟩, ⟨(some z185), .bin .add (.t z183) (.t z184), (some (z179, true))⟩, ⟨(some z186), .call (.fn z6) [(.t z180), (.t z185)], (some (z179, true))⟩, ⟨(some z187), .mv (.t z2), (some (z179, true))⟩, ⟨(some z188), .bin .neq (.t z186) (.t z187), (some (z179, true))⟩, ⟨(some z189), .pick (.t z179) (.t z188) (.c (.bool false)), none⟩]) (.cond (.t z189) (.seq (.region [⟨(some z7), .mv (.c (.bool false)), none⟩]) (.ret)) (.skip))))))))) (.region [⟨(some z131), .mv (.t z19), none⟩, ⟨(some z132), .bin .add (.t z131) (.c (.int .i64 1)), none⟩, ⟨(some z19), .mv (.t z132), none⟩])))))) (.seq (.region [⟨(some z191), .mv (.t z9), none⟩, ⟨(some z192), .call (.fn z8) [(.c (.str [115, 117, 98])), (.t z191)], none⟩, ⟨(some z193), .mv (.t z10), none⟩, ⟨(some z194), .mv (.t z2), none⟩, ⟨(some z195), .mv (.t z3), none⟩, ⟨(some z196), .buildSlice 1 2 [(.int .i64 0)] 2 [(0, (.t z194)), (1, (.t z195))], none⟩, ⟨(some z197), .call (.fn z7) [(.t z192), (.t z193), (.t z196)], none⟩, ⟨(some z190), .mv (.t z197), none⟩, ⟨(some z198), .extract (.t z190) 0, none⟩, ⟨(some z199), .extract (.t z190) 1, none⟩, ⟨(some z200), .extract (.t z190) 2, none⟩, ⟨(some z28), .mv (.t z198), none⟩, ⟨(some z29), .mv (.t z199), none⟩, ⟨(some z30), .mv (.t z200), none⟩]) (.seq (.region [⟨(some z202), .mv (.t z9), none⟩, ⟨(some z203), .call (.fn z8) [(.c (.str [97, 100, 100])), (.t z202)], none⟩, ⟨(some z204), .mv (.t z10), none⟩, ⟨(some z205), .mv (.t z28), none⟩, ⟨(some z206), .mv (.t z3), none⟩, ⟨(some z207), .buildSlice 1 2 [(.int .i64 0)] 2 [(0, (.t z205)), (1, (.t z206))], none⟩, ⟨(some z208), .call (.fn z7) [(.t z203), (.t z204), (.t z207)], none⟩, ⟨(some z201), .mv (.t z208), none⟩, ⟨(some z209), .extract (.t z201) 0, none⟩, ⟨(some z210), .extract (.t z201) 1, none⟩, ⟨(some z211), .extract (.t z201) 2, none⟩, ⟨(some z31), .mv (.t z209), none⟩, ⟨(some z32), .mv (.t z210), none⟩, ⟨(some z33), .mv (.t z211), none⟩]) (.seq (.seq (.region [⟨(some z212), .mv (.t z30), none⟩, ⟨(some z213), .bin .neq (.t z212) (.c (.int .i64 0)), none⟩, ⟨(some z214), .mv (.t z213), none⟩, ⟨(some z215), .mv (.t z33), (some (z214, false))⟩, ⟨(some z216), .bin .neq (.t z215) (.c (.int .i64 0)), (some (z214, false))⟩, ⟨(some z217), .pick (.t z214) (.c (.bool true)) (.t z216), none⟩, ⟨(some z218), .mv (.t z217), none⟩, ⟨(some z219), .mv (.t z31), (some (z218, false))⟩, ⟨(some z220), .mv (.t z2), (some (z218, false))⟩, ⟨(some z221), .bin .neq (.t z219) (.t z220), (some (z218, false))⟩, ⟨(some z222), .pick (.t z218) (.c (.bool true)) (.t z221), none⟩]) (.cond (.t z222) (.seq (.region [⟨(some z7), .mv (.c (.bool false)), none⟩]) (.ret)) (.skip))) (.seq (.seq (.region [⟨(some z223), .mv (.t z8), none⟩, ⟨(some z224), .bin .lss (.t z223) (.c (.int .i64 2)), none⟩]) (.cond (.t z224) (.seq (.region [⟨(some z225), .call (.fn z11) [], none⟩, ⟨(some z7), .mv (.t z225), none⟩]) (.ret)) (.skip))) (.seq (.region [⟨(some z226), .mv (.t z8), none⟩, ⟨(some z227), .bin .sub (.t z226) (.c (.int .i64 1)), none⟩, ⟨(some z228), .call (.fn z5) [(.t z227)], none⟩, ⟨(some z229), .bin .add (.c (.str [105])) (.t z228), none⟩, ⟨(some z34), .mv (.t z229), none⟩]) (.seq (.region [⟨(some z231), .mv (.t z34), none⟩, ⟨(some z232), .call (.fn z8) [(.c (.str [116, 114, 117, 110, 99])), (.t z231)], none⟩, ⟨(some z233), .mv (.t z9), none⟩, ⟨(some z234), .buildSlice 1 9 [(.str [])] 1 [(0, (.t z233))], none⟩, ⟨(some z235), .mv (.t z2), none⟩, ⟨(some z236), .buildSlice 1 2 [(.int .i64 0)] 1 [(0, (.t z235))], none⟩, ⟨(some z237), .call (.fn z7) [(.t z232), (.t z234), (.t z236)], none⟩, ⟨(some z230), .mv (.t z237), none⟩, ⟨(some z238), .extract (.t z230) 0, none⟩, ⟨(some z239), .extract (.t z230) 1, none⟩, ⟨(some z240), .extract (.t z230) 2, none⟩, ⟨(some z35), .mv (.t z238), none⟩, ⟨(some z36), .mv (.t z239), none⟩, ⟨(some z37), .mv (.t z240), none⟩]) (.seq (.region [⟨(some z242), .mv (.t z9), none⟩, ⟨(some z243), .call (.fn z8) [(.c (.str [101, 120, 116, 115])), (.t z242)], none⟩, ⟨(some z244), .mv (.t z34), none⟩, ⟨(some z245), .buildSlice 1 9 [(.str [])] 1 [(0, (.t z244))], none⟩, ⟨(some z246), .mv (.t z35), none⟩, ⟨(some z247), .buildSlice 1 2 [(.int .i64 0)] 1 [(0, (.t z246))], none⟩, ⟨(some z248), .call (.fn z7) [(.t z243), (.t z245), (.t z247)], none⟩, ⟨(some z241), .mv (.t z248), none⟩, ⟨(some z249), .extract (.t z241) 0, none⟩, ⟨(some z250), .extract (.t z241) 1, none⟩, ⟨(some z251), .extract (.t z241) 2, none⟩, ⟨(some z38), .mv (.t z249), none⟩, ⟨(some z39), .mv (.t z250), none⟩, ⟨(some z40), .mv (.t z251), none⟩]) (.seq (.region [⟨(some z253), .mv (.t z9), none⟩, ⟨(some z254), .call (.fn z8) [(.c (.str [101, 120, 116, 117])), (.t z253)], none⟩, ⟨(some z255), .mv (.t z34), none⟩, ⟨(some z256), .buildSlice 1 9 [(.str [])] 1 [(0, (.t z255))], none⟩, ⟨(some z257), .mv (.t z35), none⟩, ⟨(some z258), .buildSlice 1 2 [(.int .i64 0)] 1 [(0, (.t z257))], none⟩, ⟨(some z259), .call (.fn z7) [(.t z254), (.t z256), (.t z258)], none⟩, ⟨(some z252), .mv (.t z259), none⟩, ⟨(some z260), .extract (.t z252) 0, none⟩, ⟨(some z261), .extract (.t z252) 1, none⟩, ⟨(some z262), .extract (.t z252) 2, none⟩, ⟨(some z41), .mv (.t z260), none⟩, ⟨(some z42), .mv (.t z261), none⟩, ⟨(some z43), .mv (.t z262), none⟩]) (.seq (.region [⟨(some z263), .mv (.t z37), none⟩, ⟨(some z264), .bin .eql (.t z263) (.c (.int .i64 0)), none⟩, ⟨(some z265), .mv (.t z264), none⟩, ⟨(some z266), .mv (.t z40), (some (z265, true))⟩, ⟨(some z267), .bin .eql (.t z266) (.c (.int .i64 0)), (some (z265, true))⟩, ⟨(some z268), .pick (.t z265) (.t z267) (.c (.bool false)), none⟩, ⟨(some z269), .mv (.t z268), none⟩, ⟨(some z270), .mv (.t z43), (some (z269, true))⟩, ⟨(some z271), .bin .eql (.t z270) (.c (.int .i64 0)), (some (z269, true))⟩, ⟨(some z272), .pick (.t z269) (.t z271) (.c (.bool false)), none⟩, ⟨(some z273), .mv (.t z272), none⟩, ⟨(some z274), .mv (.t z8), (some (z273, true))⟩, ⟨(some z275), .bin .sub (.t z274) (.c (.int .i64 1)), (some (z273, true))⟩, ⟨(some z276), .mv (.t z38), (some (z273, true))⟩, ⟨(some z277), .call (.fn z6) [(.t z275), (.t z276)], (some (z273, true))⟩, ⟨(some z278), .mv (.t z8), (some (z273, true))⟩, ⟨(some z279), .bin .sub (.t z278) (.c (.int .i64 1)), (some (z273, true))⟩, ⟨(some z280), .mv (.t z2), (some (z273, true))⟩, ⟨(some z281), .call (.fn z6) [(.t z279), (.t z280)], (some (z273, true))⟩, ⟨(some z282), .bin .eql (.t z277) (.t z281), (some (z273, true))⟩, ⟨(some z283), .pick (.t z273) (.t z282) (.c (.bool false)), none⟩, ⟨(some z284), .mv (.t z283), none⟩, ⟨(some z285), .mv (.t z8), (some (z284, true))⟩, ⟨(some z286), .bin .sub (.t z285) (.c (.int .i64 1)), (some (z284, true))⟩, ⟨(some z287), .mv (.t z41), (some (z284, true))⟩, ⟨(some z288), .call (.fn z6) [(.t z286), (.t z287)], (some (z284, true))⟩, ⟨(some z289), .mv (.t z8), (some (z284, true))⟩, ⟨(some z290), .bin .sub (.t z289) (.c (.int .i64 1)), (some (z284, true))⟩, ⟨(some z291), .mv (.t z2), (some (z284, true))⟩, ⟨(some z292), .call (.fn z6) [(.t z290), (.t z291)], (some (z284, true))⟩, ⟨(some z293), .bin .eql (.t z288) (.t z292), (some (z284, true))⟩, ⟨(some z294), .pick (.t z284) (.t z293) (.c (.bool false)), none⟩, ⟨(some z295), .mv (.t z294), none⟩, ⟨(some z296), .call (.fn z11) [], (some (z295, true))⟩, ⟨(some z297), .pick (.t z295) (.t z296) (.c (.bool false)), none⟩, ⟨(some z7), .mv (.t z297), none⟩]) (.ret))))))))))))))))), [.tmp z7]⟩
def q7 : AFn := ⟨.seq (.region [⟨(some z5), .alloc [(.str []), .nils, .nils, .nils, .nils, .nils] 34, none⟩]) (.seq (.region [⟨(some z6), .mv (.t z1), none⟩, ⟨(some z7), .bin .add (.c (.str [97, 114, 105, 116, 104, 46])) (.t z6), none⟩, ⟨(some z8), .mv (.t z2), none⟩, ⟨(some z9), .buildSlice 1 9 [(.str [])] 1 [(0, (.t z8))], none⟩, ⟨(some z10), .build [(.str []), .nils, .nils, .nils, .nils, .nils] [(0, 1, (.t z7)), (2, 1, (.t z9))], none⟩, ⟨none, .store 6 (.t z5) (.t z10), none⟩]) (.ret)), [.cell z5 6 true]⟩
def q5 : AFn := ⟨.seq (.region [⟨(some z5), .mv (.c (.int .i64 0)), none⟩]) (.seq (.region [⟨(some z6), .mv (.t z2), none⟩, ⟨(some z7), .mv (.t z1), none⟩, ⟨(some z8), .bin .sub (.c (.int .i64 64)) (.t z7), none⟩, ⟨(some z9), .bin .shl (.t z6) (.t z8), none⟩, ⟨(some z10), .mv (.t z1), none⟩, ⟨(some z11), .bin .sub (.c (.int .i64 64)) (.t z10), none⟩, ⟨(some z12), .bin .shr (.t z9) (.t z11), none⟩, ⟨(some z5), .mv (.t z12), none⟩]) (.ret)), [.tmp z5]⟩
def q8 : AFn := ⟨.seq (.region [⟨(some z3), .mv (.c (.int .i64 0)), none⟩]) (.seq (.region [⟨(some z4), .mv (.t z1), none⟩, ⟨(some z5), .bin .sub (.t z4) (.c (.int .i64 1)), none⟩, ⟨(some z6), .bin .shl (.c (.int .i64 (-1))) (.t z5), none⟩, ⟨(some z3), .mv (.t z6), none⟩]) (.ret)), [.tmp z3]⟩
def q9 : AFn := ⟨.seq (.region [⟨(some z3), .mv (.c (.int .i64 0)), none⟩]) (.seq (.region [⟨(some z4), .mv (.t z1), none⟩, ⟨(some z5), .call (.fn z9) [(.t z4)], none⟩, ⟨(some z6), .bin .add (.t z5) (.c (.int .i64 1)), none⟩, ⟨(some z7), .un .neg (.t z6), none⟩, ⟨(some z3), .mv (.t z7), none⟩]) (.ret)), [.tmp z3]⟩
theorem natOf_cast' (k : IntKind) (n : Nat) : natOf (.int k (n : Int)) = some n := rfl
def dgS (n : Nat) : List Nat := match Nat.blt n 10 with
  | true => [48 + n]
  | false => [48 + n / 10, 48 + n % 10]
theorem tyS_dg (n : Nat) : 105 :: dgS n = tyS n := by
  unfold dgS tyS
  cases Nat.blt n 10 <;> rfl
theorem dgS_len (n : Nat) : Nat.ble (1 + (dgS n).length) 1000000000 = true := by
  unfold dgS
  cases Nat.blt n 10 <;> rfl
def ovDg (args : List V) (s : St) : T (V × St) := match args with
  | [.int .i64 (.ofNat b)] => match Nat.ble 1 b && Nat.ble b 64 with
    | true => .ret (.str (dgS b), s)
    | false => .fail
  | _ => .fail
def ovTw (args : List V) (s : St) : T (V × St) := match args with
  | [.int .i64 (.ofNat b), .int .i64 n] => match Nat.ble 1 b && Nat.ble b 64 with
    | true => .ret (.int .i64 (wrapB b n), s)
    | false => .fail
  | _ => .fail
def ovLo (args : List V) (s : St) : T (V × St) := match args with
  | [.int .i64 (.ofNat b)] => match Nat.ble 1 b && Nat.ble b 64 with
    | true => .ret (.int .i64 (-(2 ^ (b - 1))), s)
    | false => .fail
  | _ => .fail
def ovHi (args : List V) (s : St) : T (V × St) := match args with
  | [.int .i64 (.ofNat b)] => match Nat.ble 1 b && Nat.ble b 64 with
    | true => .ret (.int .i64 (2 ^ (b - 1) - 1), s)
    | false => .fail
  | _ => .fail
theorem le_and {b : Nat} (h1 : 1 ≤ b) (h2 : b ≤ 64) : (Nat.ble 1 b && Nat.ble b 64) = true := by
  rw [Bool.and_eq_true, Nat.ble_eq, Nat.ble_eq]; exact ⟨h1, h2⟩
theorem ovDg_at {b : Nat} (h1 : 1 ≤ b) (h2 : b ≤ 64) (s : St) : ovDg [.int .i64 (b : Int)] s = .ret (.str (dgS b), s) := by
  show (match Nat.ble 1 b && Nat.ble b 64 with | true => _ | false => _) = _
  rw [le_and h1 h2]
theorem ovTw_at {b : Nat} (h1 : 1 ≤ b) (h2 : b ≤ 64) (n : Int) (s : St) : ovTw [.int .i64 (b : Int), .int .i64 n] s = .ret (.int .i64 (wrapB b n), s) := by
  show (match Nat.ble 1 b && Nat.ble b 64 with | true => _ | false => _) = _
  rw [le_and h1 h2]
theorem ovLo_at {b : Nat} (h1 : 1 ≤ b) (h2 : b ≤ 64) (s : St) : ovLo [.int .i64 (b : Int)] s = .ret (.int .i64 (-(2 ^ (b - 1))), s) := by
  show (match Nat.ble 1 b && Nat.ble b 64 with | true => _ | false => _) = _
  rw [le_and h1 h2]
theorem ovHi_at {b : Nat} (h1 : 1 ≤ b) (h2 : b ≤ 64) (s : St) : ovHi [.int .i64 (b : Int)] s = .ret (.int .i64 (2 ^ (b - 1) - 1), s) := by
  show (match Nat.ble 1 b && Nat.ble b 64 with | true => _ | false => _) = _
  rw [le_and h1 h2]
theorem sub64 {b : Nat} (h1 : 1 ≤ b) (h2 : b ≤ 64) : IntKind.wrap .i64 (64 - (b : Int)) = ((64 - b : Nat) : Int) := by
  rw [wrap_i64 (by omega) (by omega)]; omega
theorem tw_run {E : Env} (h : E.fns z6 = some q5) {b : Nat} (h1 : 1 ≤ b) (h2 : b ≤ 64) {n : Int} {H : Tr O} {x : Nm} {d : Nat} : callB E (eval E 20) z6 [.int .i64 (b : Int), .int .i64 n] ⟨H, x, d⟩ = .ret (.int .i64 (wrapB b n), ⟨H, x, d⟩) := by
  have q1 := sub64 h1 h2
  have q3 : ¬ ((64 - b : Nat) : Int) < 0 := by omega
  have q4 : min ((64 - b : Nat) : Int).toNat 64 = 64 - b := by omega
  simp (maxSteps := 10000000) (implicitDefEqProofs := false) only [callB, eval_skip, eval_region, eval_draw, eval_seq, eval_cond, eval_block, eval_loop, eval_exit, eval_ret, opers_nil, opers_cons, andThen_normal, andThen_ret, andThen_exit, initT, ↓T.ret_bind, ↓T.fail_bind, T.ofO_some, T.ofO_none, ↓cnd_true, ↓cnd_false, oper, exec, arg, Tr.get, Tr.set, Tr.root, Tr.left, Tr.right, put, okV, okS, new, Nm.succ, load, loadCells, nth, window, dropExact, takeExact, pack, store, splice, bin, lookupIn, findKey, keyOk, List.length_cons, List.length_nil, Nat.beq, Option.getD_some, Option.getD_none, Bool.and_true, Bool.true_and, Nat.reduceAdd, List.all_cons, List.all_nil, beq_self_eq_true, BEq.rfl, Nat.reduceBEq, decide_true, decide_false, Int.reduceEq, ite_true, if_true, Nat.reduceMul, Nat.zero_add, Nat.add_zero, eqK, Bool.false_eq_true, ite_false, findKeyIn_str, Option.map_some, Option.map_none, Option.isSome_some, Option.isSome_none, un, Bool.not_true, Bool.not_false, results, resultV, leave, endBlock, if_false, Nat.reduceEqDiff, ↓reduceIte, scalar_int, scalar_str, scalar_bool, scalar_nils, scalar_nilp, scalar_row, scalar_ptr, scalar_map, scalar_dsl, notTup_agg, notTup_int, notTup_str, cells_agg, cells_int, cells_str, cells_bool, cells_nils, cells_row, cells_dsl, cells_ptr, cells_map, T.Is_ret, List.map_cons, List.map_nil, execCall, callF, Int.reduceLT, cast_0, cast_1, cast_2, blt_02, blt_12, ble_1, ble_2, natOf_0, natOf_1, wrap_01, wrap_11, lenL, grow, append, fillElems, rep, List.cons_append, List.nil_append, Int.lt_irrefl, and_self, not_false_eq_true, not_true_eq_false, elems, drun_nil, drun_light, drun_heavy, lightV, wanted, recheck, holds, eqbV_str, eqbV_map, eqbV_ptr, eqbV_int, lenM, mapUpdate, snoc, fillParts, List.map_cons, List.map_nil, eqbV_nils, opers_guard, h, q5, q1, q3, q4, bits64, wrapB]
theorem two_pow {b : Nat} (h1 : 1 ≤ b) (h2 : b ≤ 64) : (0 : Int) < 2 ^ (b - 1) ∧ (2 : Int) ^ (b - 1) ≤ 9223372036854775808 := by
  refine ⟨pow_pos' _, ?_⟩
  have e : (9223372036854775808 : Int) = 2 ^ (b - 1) * 2 ^ (64 - b) := by
    rw [← Int.pow_add, show b - 1 + (64 - b) = 63 by omega]; rfl
  rw [e]
  have p1 := pow_pos' (b - 1)
  have p2 := pow_pos' (64 - b)
  have := Int.mul_le_mul_of_nonneg_left (show (1 : Int) ≤ 2 ^ (64 - b) by omega) (show (0 : Int) ≤ 2 ^ (b - 1) by omega)
  omega
theorem lo_run {E : Env} (h : E.fns z9 = some q8) {b : Nat} (h1 : 1 ≤ b) (h2 : b ≤ 64) {H : Tr O} {x : Nm} {d : Nat} : callB E (eval E 20) z9 [.int .i64 (b : Int)] ⟨H, x, d⟩ = .ret (.int .i64 (-(2 ^ (b - 1))), ⟨H, x, d⟩) := by
  obtain ⟨p1, p2⟩ := two_pow h1 h2
  have q1 : IntKind.wrap .i64 ((b : Int) - 1) = ((b - 1 : Nat) : Int) := by
    rw [wrap_i64 (by omega) (by omega)]; omega
  have q3 : ¬ ((b - 1 : Nat) : Int) < 0 := by omega
  have q4 : min ((b - 1 : Nat) : Int).toNat 64 = b - 1 := by omega
  have q5 : IntKind.wrap .i64 (-1 * 2 ^ (b - 1)) = -(2 ^ (b - 1)) := by
    rw [wrap_i64_eq]
    generalize (2 : Int) ^ (b - 1) = P at *
    split <;> omega
  simp (maxSteps := 10000000) (implicitDefEqProofs := false) only [callB, eval_skip, eval_region, eval_draw, eval_seq, eval_cond, eval_block, eval_loop, eval_exit, eval_ret, opers_nil, opers_cons, andThen_normal, andThen_ret, andThen_exit, initT, ↓T.ret_bind, ↓T.fail_bind, T.ofO_some, T.ofO_none, ↓cnd_true, ↓cnd_false, oper, exec, arg, Tr.get, Tr.set, Tr.root, Tr.left, Tr.right, put, okV, okS, new, Nm.succ, load, loadCells, nth, window, dropExact, takeExact, pack, store, splice, bin, lookupIn, findKey, keyOk, List.length_cons, List.length_nil, Nat.beq, Option.getD_some, Option.getD_none, Bool.and_true, Bool.true_and, Nat.reduceAdd, List.all_cons, List.all_nil, beq_self_eq_true, BEq.rfl, Nat.reduceBEq, decide_true, decide_false, Int.reduceEq, ite_true, if_true, Nat.reduceMul, Nat.zero_add, Nat.add_zero, eqK, Bool.false_eq_true, ite_false, findKeyIn_str, Option.map_some, Option.map_none, Option.isSome_some, Option.isSome_none, un, Bool.not_true, Bool.not_false, results, resultV, leave, endBlock, if_false, Nat.reduceEqDiff, ↓reduceIte, scalar_int, scalar_str, scalar_bool, scalar_nils, scalar_nilp, scalar_row, scalar_ptr, scalar_map, scalar_dsl, notTup_agg, notTup_int, notTup_str, cells_agg, cells_int, cells_str, cells_bool, cells_nils, cells_row, cells_dsl, cells_ptr, cells_map, T.Is_ret, List.map_cons, List.map_nil, execCall, callF, Int.reduceLT, cast_0, cast_1, cast_2, blt_02, blt_12, ble_1, ble_2, natOf_0, natOf_1, wrap_01, wrap_11, lenL, grow, append, fillElems, rep, List.cons_append, List.nil_append, Int.lt_irrefl, and_self, not_false_eq_true, not_true_eq_false, elems, drun_nil, drun_light, drun_heavy, lightV, wanted, recheck, holds, eqbV_str, eqbV_map, eqbV_ptr, eqbV_int, lenM, mapUpdate, snoc, fillParts, List.map_cons, List.map_nil, eqbV_nils, opers_guard, h, q8, q1, q3, q4, bits64, q5]
theorem hi_run {E : Env} (h : E.fns z10 = some q9) (o : E.over z9 = some ovLo) {b : Nat} (h1 : 1 ≤ b) (h2 : b ≤ 64) {H : Tr O} {x : Nm} {d : Nat} : callB E (eval E 20) z10 [.int .i64 (b : Int)] ⟨H, x, d⟩ = .ret (.int .i64 (2 ^ (b - 1) - 1), ⟨H, x, d⟩) := by
  obtain ⟨p1, p2⟩ := two_pow h1 h2
  have e := fun s => ovLo_at h1 h2 s
  have q5 : IntKind.wrap .i64 (-(2 ^ (b - 1)) + 1) = -(2 ^ (b - 1)) + 1 := by
    rw [wrap_i64_eq]
    generalize (2 : Int) ^ (b - 1) = P at *
    split <;> omega
  have q6 : IntKind.wrap .i64 (0 - (-(2 ^ (b - 1)) + 1)) = 2 ^ (b - 1) - 1 := by
    rw [wrap_i64_eq]
    generalize (2 : Int) ^ (b - 1) = P at *
    split <;> omega
  simp (maxSteps := 10000000) (implicitDefEqProofs := false) only [callB, eval_skip, eval_region, eval_draw, eval_seq, eval_cond, eval_block, eval_loop, eval_exit, eval_ret, opers_nil, opers_cons, andThen_normal, andThen_ret, andThen_exit, initT, ↓T.ret_bind, ↓T.fail_bind, T.ofO_some, T.ofO_none, ↓cnd_true, ↓cnd_false, oper, exec, arg, Tr.get, Tr.set, Tr.root, Tr.left, Tr.right, put, okV, okS, new, Nm.succ, load, loadCells, nth, window, dropExact, takeExact, pack, store, splice, bin, lookupIn, findKey, keyOk, List.length_cons, List.length_nil, Nat.beq, Option.getD_some, Option.getD_none, Bool.and_true, Bool.true_and, Nat.reduceAdd, List.all_cons, List.all_nil, beq_self_eq_true, BEq.rfl, Nat.reduceBEq, decide_true, decide_false, Int.reduceEq, ite_true, if_true, Nat.reduceMul, Nat.zero_add, Nat.add_zero, eqK, Bool.false_eq_true, ite_false, findKeyIn_str, Option.map_some, Option.map_none, Option.isSome_some, Option.isSome_none, un, Bool.not_true, Bool.not_false, results, resultV, leave, endBlock, if_false, Nat.reduceEqDiff, ↓reduceIte, scalar_int, scalar_str, scalar_bool, scalar_nils, scalar_nilp, scalar_row, scalar_ptr, scalar_map, scalar_dsl, notTup_agg, notTup_int, notTup_str, cells_agg, cells_int, cells_str, cells_bool, cells_nils, cells_row, cells_dsl, cells_ptr, cells_map, T.Is_ret, List.map_cons, List.map_nil, execCall, callF, Int.reduceLT, cast_0, cast_1, cast_2, blt_02, blt_12, ble_1, ble_2, natOf_0, natOf_1, wrap_01, wrap_11, lenL, grow, append, fillElems, rep, List.cons_append, List.nil_append, Int.lt_irrefl, and_self, not_false_eq_true, not_true_eq_false, elems, drun_nil, drun_light, drun_heavy, lightV, wanted, recheck, holds, eqbV_str, eqbV_map, eqbV_ptr, eqbV_int, lenM, mapUpdate, snoc, fillParts, List.map_cons, List.map_nil, eqbV_nils, opers_guard, h, o, e, q9, q5, q6]
theorem cnd_f {c : Bool} (h : c = false) : V.bool c = .bool false := by rw [h]
theorem brec_f (p q : Bool) : @Bool.rec (fun _ => Bool) q p false = q := rfl
theorem brec_t (p q : Bool) : @Bool.rec (fun _ => Bool) q p true = p := rfl
theorem vcond_f (u v : V) : vcond false u v = v := rfl
theorem vcond_t (u v : V) : vcond true u v = u := rfl
theorem evF_add : evF [97, 114, 105, 116, 104, 46, 97, 100, 100] = some .fAdd := rfl
theorem evF_mul : evF [97, 114, 105, 116, 104, 46, 109, 117, 108] = some .fMul := rfl
theorem evF_and : evF [97, 114, 105, 116, 104, 46, 97, 110, 100] = some .fAnd := rfl
theorem evF_or : evF [97, 114, 105, 116, 104, 46, 111, 114] = some .fOr := rfl
theorem evF_xor : evF [97, 114, 105, 116, 104, 46, 120, 111, 114] = some .fXor := rfl
theorem evF_sub : evF [97, 114, 105, 116, 104, 46, 115, 117, 98] = some .fSub := rfl
theorem evF_divs : evF [97, 114, 105, 116, 104, 46, 100, 105, 118, 115] = some .fDivs := rfl
theorem evF_rems : evF [97, 114, 105, 116, 104, 46, 114, 101, 109, 115] = some .fRems := rfl
theorem evF_divu : evF [97, 114, 105, 116, 104, 46, 100, 105, 118, 117] = some .fDivu := rfl
theorem evF_remu : evF [97, 114, 105, 116, 104, 46, 114, 101, 109, 117] = some .fRemu := rfl
theorem evF_trunc : evF [97, 114, 105, 116, 104, 46, 116, 114, 117, 110, 99] = some .fTrunc := rfl
theorem evF_exts : evF [97, 114, 105, 116, 104, 46, 101, 120, 116, 115] = some .fExts := rfl
theorem evF_extu : evF [97, 114, 105, 116, 104, 46, 101, 120, 116, 117] = some .fExtu := rfl
theorem aw_at (s : St) : memoP [([], .bool true)] [] s = .ret (.bool true, s) := by simp only [memoP, eqbVs]
theorem bitN_comm {f : Nat → Nat → Nat} (hf : ∀ a b, f a b = f b a) (n k : Int) : bitN f k n = bitN f n k := by
  unfold bitN
  rw [hf]
theorem beq_11 : Nat.beq 1 1 = true := rfl
theorem beq_22 : Nat.beq 2 2 = true := rfl
theorem dec_eq_self (a : Int) : decide (a = a) = true := by simp
theorem xor_f (b : Bool) : xor true b = !b := by cases b <;> rfl
theorem beq_tt' : (true == true) = true := rfl
theorem beq_ff' : (false == false) = true := rfl
theorem notTup_row (b : Nm) (a c d : Nat) (e : Bool) : notTup (.row b a c d e) = true := rfl
theorem notTup_nils : notTup .nils = true := rfl
theorem notTup_dsl (es : List V) (c : Bool) : notTup (.dsl es c) = true := rfl
theorem ble_8 : Nat.ble 8 1000000000 = true := rfl
theorem ble_9 : Nat.ble 9 1000000000 = true := rfl
theorem ble_10 : Nat.ble 10 1000000000 = true := rfl
theorem ble_11 : Nat.ble 11 1000000000 = true := rfl
theorem blt_05 : Nat.blt 0 5 = true := rfl
theorem blt_15 : Nat.blt 1 5 = true := rfl
theorem blt_25 : Nat.blt 2 5 = true := rfl
theorem blt_35 : Nat.blt 3 5 = true := rfl
theorem blt_45 : Nat.blt 4 5 = true := rfl
theorem cast_5 : ((5 : Nat) : Int) = 5 := rfl
theorem natOf_2 (k : IntKind) : natOf (.int k 2) = some 2 := rfl
theorem natOf_3 (k : IntKind) : natOf (.int k 3) = some 3 := rfl
theorem natOf_4 (k : IntKind) : natOf (.int k 4) = some 4 := rfl
theorem wrap_21 : IntKind.wrap .i64 (2 + 1) = 3 := by decide
theorem wrap_31 : IntKind.wrap .i64 (3 + 1) = 4 := by decide
theorem wrap_41 : IntKind.wrap .i64 (4 + 1) = 5 := by decide
theorem tyN_tyS {b : Nat} (h1 : 1 ≤ b) (h2 : b ≤ 64) : tyN (tyS b) = some b := by
  have h : ∀ b : Nat, b < 65 → 1 ≤ b → tyN (tyS b) = some b := by decide
  exact h b (by omega) h1
theorem law_run {E : Env} (hl : E.fns z4 = some q3) (ho : E.fns z8 = some q7) (oo : E.over z8 = none) (od : E.over z5 = some ovDg) (ot : E.over z6 = some ovTw) (ol : E.over z9 = some ovLo) (oh : E.over z10 = some ovHi) (oe : E.over z7 = some ovEva) (oa : E.over z11 = some (memoP [([], .bool true)]))
    {b : Nat} (h1 : 1 ≤ b) (h2 : b ≤ 64) {bits n0 k0 n k : Int} (r1 : (IntKind.wrap .u64 bits).tmod 64 = ((b - 1 : Nat) : Int)) (wn : wrapB b n0 = n) (wk : wrapB b k0 = k) (fn : fitB b n = true) (fk : fitB b k = true) :
    (callB E (eval E 60) z4 [.int .i64 bits, .int .i64 n0, .int .i64 k0] St.start).Is fun r => r.1 = .bool true := by
  have r2 : IntKind.wrap .i64 ((b - 1 : Nat) : Int) = ((b - 1 : Nat) : Int) := wrap_i64 (by omega) (by omega)
  have r3 : IntKind.wrap .i64 (1 + ((b - 1 : Nat) : Int)) = (b : Int) := by
    rw [wrap_i64 (by omega) (by omega)]; omega
  have d1 := fun s => ovDg_at h1 h2 s
  have d2 := fun n s => ovTw_at h1 h2 n s
  have d3 := fun s => ovLo_at h1 h2 s
  have d4 := fun s => ovHi_at h1 h2 s
  have g1 := dgS_len b
  have g2 := tyS_dg b
  have g3 : tyN (tyS b) = some b := tyN_tyS h1 h2
  have g4 := bytesEq_self (tyS b)
  have g5 : ∀ z, fitB b (wrapB b z) = true := fun z => fit_wrapB h1 h2 z
  have ca : k + n = n + k := Int.add_comm k n
  have cm : k * n = n * k := Int.mul_comm k n
  have c1 : bitN Nat.land k n = bitN Nat.land n k := bitN_comm Nat.and_comm n k
  have c2 : bitN Nat.lor k n = bitN Nat.lor n k := bitN_comm Nat.or_comm n k
  have c3 : bitN Nat.xor k n = bitN Nat.xor n k := bitN_comm Nat.xor_comm n k
  have lo : ∀ z, decide (wrapB b z < -(2 ^ (b - 1))) = false := fun z => by
    have := fitB_iff.1 (g5 z)
    simp only [decide_eq_false_iff_not]; omega
  have hi : ∀ z, decide (2 ^ (b - 1) - 1 < wrapB b z) = false := fun z => by
    have := fitB_iff.1 (g5 z)
    simp only [decide_eq_false_iff_not]; omega
  have bs := back_sub h1 h2 (k := k) fn
  have e1 := back_divs h1 h2 (k := k) fn
  have e2 := back_divu h1 h2 (k := k) fn
  have both : (decide (k = 0) = true ∧ True) ∨ (decide (k = 0) = false ∧ decide (unsB b k = 0) = false) := by
    by_cases hk : k = 0
    · exact .inl ⟨by simp [hk], trivial⟩
    · exact .inr ⟨by simp [hk], by simp [unsB_ne h1 h2 fk hk]⟩
  have key : (decide ((b : Int) < 2) = true ∧ True ∧ True ∧ True ∧ True ∧ True ∧ True ∧ True ∧ True ∧ True ∧ True) ∨ (decide ((b : Int) < 2) = false ∧ IntKind.wrap .i64 ((b : Int) - 1) = ((b - 1 : Nat) : Int) ∧ (∀ s, ovDg [.int .i64 ((b - 1 : Nat) : Int)] s = .ret (.str (dgS (b - 1)), s)) ∧ (∀ n s, ovTw [.int .i64 ((b - 1 : Nat) : Int), .int .i64 n] s = .ret (.int .i64 (wrapB (b - 1) n), s)) ∧ Nat.ble (1 + (dgS (b - 1)).length) 1000000000 = true ∧ 105 :: dgS (b - 1) = tyS (b - 1) ∧ tyN (tyS (b - 1)) = some (b - 1) ∧ (∀ z, fitB (b - 1) (wrapB (b - 1) z) = true) ∧ Nat.beq (b - 1 + 1) b = true ∧ wrapB (b - 1) (wrapB b (wrapB (b - 1) n)) = wrapB (b - 1) n ∧ wrapB (b - 1) (wrapB b (IntKind.wrap .i64 (unsB (b - 1) (wrapB (b - 1) n)))) = wrapB (b - 1) n) := by
    by_cases hb : b = 1
    · exact .inl ⟨by rw [decide_eq_true_eq]; omega, trivial, trivial, trivial, trivial, trivial, trivial, trivial, trivial, trivial, trivial⟩
    · have j1 : 1 ≤ b - 1 := by omega
      have j2 : b - 1 ≤ 64 := by omega
      exact .inr ⟨by rw [decide_eq_false_iff_not]; omega, by rw [wrap_i64 (by omega) (by omega)]; omega, ovDg_at j1 j2, ovTw_at j1 j2, dgS_len _, tyS_dg _, tyN_tyS j1 j2, fun _ => fit_wrapB j1 j2 _, by rw [Nat.beq_eq]; omega, back_exts (show 2 ≤ b by omega) h2 n, back_extu (show 2 ≤ b by omega) h2 n⟩
  rcases both with ⟨hk, hu⟩ | ⟨hk, hu⟩ <;> rcases key with ⟨b2, r5, d5, d6, g6, g7, g8, g9, be, x1, x2⟩ | ⟨b2, r5, d5, d6, g6, g7, g8, g9, be, x1, x2⟩
  all_goals
    simp (maxSteps := 10000000) (implicitDefEqProofs := false) only [callB, eval_skip, eval_region, eval_draw, eval_seq, eval_cond, eval_block, eval_loop, eval_exit, eval_ret, opers_nil, opers_cons, andThen_normal, andThen_ret, andThen_exit, initT, ↓T.ret_bind, ↓T.fail_bind, T.ofO_some, T.ofO_none, ↓cnd_true, ↓cnd_false, oper, exec, arg, Tr.get, Tr.set, Tr.root, Tr.left, Tr.right, put, okV, okS, new, Nm.succ, load, loadCells, nth, window, dropExact, takeExact, pack, store, splice, bin, lookupIn, findKey, keyOk, List.length_cons, List.length_nil, Nat.beq, Option.getD_some, Option.getD_none, Bool.and_true, Bool.true_and, Nat.reduceAdd, List.all_cons, List.all_nil, beq_self_eq_true, BEq.rfl, Nat.reduceBEq, decide_true, decide_false, Int.reduceEq, ite_true, if_true, Nat.reduceMul, Nat.zero_add, Nat.add_zero, eqK, Bool.false_eq_true, ite_false, findKeyIn_str, Option.map_some, Option.map_none, Option.isSome_some, Option.isSome_none, un, Bool.not_true, Bool.not_false, results, resultV, leave, endBlock, if_false, Nat.reduceEqDiff, ↓reduceIte, scalar_int, scalar_str, scalar_bool, scalar_nils, scalar_nilp, scalar_row, scalar_ptr, scalar_map, scalar_dsl, notTup_agg, notTup_int, notTup_str, cells_agg, cells_int, cells_str, cells_bool, cells_nils, cells_row, cells_dsl, cells_ptr, cells_map, T.Is_ret, List.map_cons, List.map_nil, execCall, callF, Int.reduceLT, cast_0, cast_1, cast_2, blt_02, blt_12, ble_1, ble_2, natOf_0, natOf_1, wrap_01, wrap_11, lenL, grow, append, fillElems, rep, List.cons_append, List.nil_append, Int.lt_irrefl, and_self, not_false_eq_true, not_true_eq_false, elems, drun_nil, drun_light, drun_heavy, lightV, wanted, recheck, holds, eqbV_str, eqbV_map, eqbV_ptr, eqbV_int, lenM, mapUpdate, snoc, fillParts, List.map_cons, List.map_nil, eqbV_nils, opers_guard, St.start, hl, ho, oo, od, ot, ol, oh, oe, oa, q3, q7, r1, r2, r3, d1, d2, d3, d4, g1, g2, g3, g4, g5, wn, wk, fn, fk, ca, cm, c1, c2, c3, lo, hi, evF_add, evF_mul, evF_and, evF_or, evF_xor, evF_sub, evF_divs, evF_rems, evF_divu, evF_remu, evF_trunc, evF_exts, evF_extu, ovEva, evG, evK, ev2, brec_f, brec_t, vcond_f, vcond_t, aw_at, beq_11, beq_22, dec_eq_self, xor_f, eqV, beq_tt', beq_ff', cast_5, natOf_2, natOf_3, natOf_4, wrap_21, wrap_31, wrap_41, Nat.reduceLT, blt_05, blt_15, blt_25, blt_35, blt_45, ble_8, ble_9, ble_10, ble_11, notTup_row, notTup_nils, notTup_dsl, beq_tf, beq_ft, hk, bs, hu, e1, e2, b2, r5, d5, d6, g6, g7, g8, g9, be, x1, x2, ev1]
end Go.Eng
