/- The tables of the first layer are those of the program. -/
import Derived.Test.YtblfcamalggdfaaGreatDoorSa
import Derived.KernelRfl
import Derived.Shelf.Strings.Search2
import Derived.Shelf.Strings.Search3
set_option linter.unusedVariables false
set_option linter.unusedSimpArgs false
set_option maxRecDepth 20000
set_option maxHeartbeats 4000000
namespace Go.Proofs
open Go.Shelf
def Tryz.lays219_ren : Go.Shelf.Ren := ⟨fun | 219 => 80 | 217 => 108 | 225 => 109 | 224 => 110 | 267 => 111 | 266 => 165 | 314 => 166 | n => n, fun | 9 => 9 | 3 => 3 | 4 => 4 | 5 => 5 | 46 => 247 | 146 => 308 | 51 => 307 | n => n, fun | 1 => 2 | n => n⟩
theorem Tryz.lays219 : Go.Proofs.Lays.n219 Tryz.prog Tryz.lays219_ren where
  mixed := by kernel_rfl
  f217 := Tryz.func108.trans (congrArg some (by kernel_rfl))
  f219 := Tryz.func80.trans (congrArg some (by kernel_rfl))
  f224 := Tryz.func110.trans (congrArg some (by kernel_rfl))
  f225 := Tryz.func109.trans (congrArg some (by kernel_rfl))
  f266 := Tryz.func165.trans (congrArg some (by kernel_rfl))
  f267 := Tryz.func111.trans (congrArg some (by kernel_rfl))
  f314 := Tryz.func166.trans (congrArg some (by kernel_rfl))
  t3 := Tryz.underlying3
  a3 := Tryz.isAgg3
  z3 := Tryz.sizeOf3
  v3 := Tryz.zeroValue3
  t4 := Tryz.underlying4
  a4 := Tryz.isAgg4
  z4 := Tryz.sizeOf4
  v4 := Tryz.zeroValue4
  t5 := Tryz.underlying5
  a5 := Tryz.isAgg5
  z5 := Tryz.sizeOf5
  v5 := Tryz.zeroValue5
  t9 := Tryz.underlying9
  a9 := Tryz.isAgg9
  z9 := Tryz.sizeOf9
  v9 := Tryz.zeroValue9
  t46 := Tryz.underlying247
  a46 := Tryz.isAgg247
  z46 := Tryz.sizeOf247
  v46 := Tryz.zeroValue247
  t51 := Tryz.underlying307
  a51 := Tryz.isAgg307
  z51 := Tryz.sizeOf307
  v51 := Tryz.zeroValue307
  t146 := Tryz.underlying308
  a146 := Tryz.isAgg308
  z146 := Tryz.sizeOf308
  v146 := Tryz.zeroValue308
  g1 := by kernel_rfl
def Tryz.lays143_ren : Go.Shelf.Ren := ⟨fun | 143 => 337 | 219 => 80 | 217 => 108 | 225 => 109 | 224 => 110 | 267 => 111 | 266 => 165 | 314 => 166 | n => n, fun | 9 => 9 | 3 => 3 | 4 => 4 | 5 => 5 | 46 => 247 | 146 => 308 | 51 => 307 | n => n, fun | 1 => 2 | n => n⟩
theorem Tryz.lays143 : Go.Proofs.Lays.n143 Tryz.prog Tryz.lays143_ren where
  mixed := by kernel_rfl
  f143 := Tryz.func337.trans (congrArg some (by kernel_rfl))
  f217 := Tryz.func108.trans (congrArg some (by kernel_rfl))
  f219 := Tryz.func80.trans (congrArg some (by kernel_rfl))
  f224 := Tryz.func110.trans (congrArg some (by kernel_rfl))
  f225 := Tryz.func109.trans (congrArg some (by kernel_rfl))
  f266 := Tryz.func165.trans (congrArg some (by kernel_rfl))
  f267 := Tryz.func111.trans (congrArg some (by kernel_rfl))
  f314 := Tryz.func166.trans (congrArg some (by kernel_rfl))
  t3 := Tryz.underlying3
  a3 := Tryz.isAgg3
  z3 := Tryz.sizeOf3
  v3 := Tryz.zeroValue3
  t4 := Tryz.underlying4
  a4 := Tryz.isAgg4
  z4 := Tryz.sizeOf4
  v4 := Tryz.zeroValue4
  t5 := Tryz.underlying5
  a5 := Tryz.isAgg5
  z5 := Tryz.sizeOf5
  v5 := Tryz.zeroValue5
  t9 := Tryz.underlying9
  a9 := Tryz.isAgg9
  z9 := Tryz.sizeOf9
  v9 := Tryz.zeroValue9
  t46 := Tryz.underlying247
  a46 := Tryz.isAgg247
  z46 := Tryz.sizeOf247
  v46 := Tryz.zeroValue247
  t51 := Tryz.underlying307
  a51 := Tryz.isAgg307
  z51 := Tryz.sizeOf307
  v51 := Tryz.zeroValue307
  t146 := Tryz.underlying308
  a146 := Tryz.isAgg308
  z146 := Tryz.sizeOf308
  v146 := Tryz.zeroValue308
  g1 := by kernel_rfl
end Go.Proofs
namespace Go.Eng
open Go.Proofs
theorem eh23 : (fnB Tryz.prog gG Tryz.f23).bind (kfun kE0 lh23) = some h23 := by kernel_rfl
theorem eh39 : (fnB Tryz.prog gG Tryz.f39).bind (kfun kE0 lh39) = some h39 := by kernel_rfl
theorem eh46 : (fnB Tryz.prog gG Tryz.f46).bind (kfun kE0 lh46) = some h46 := by kernel_rfl
theorem eh47 : (fnB Tryz.prog gG Tryz.f47).bind (kfun kE0 lh47) = some h47 := by kernel_rfl
theorem eh88 : (fnB Tryz.prog gG Tryz.f88).bind (kfun kE0 lh88) = some h88 := by kernel_rfl
theorem eh119 : (fnB Tryz.prog gG Tryz.f119).bind (kfun kE0 lh119) = some h119 := by kernel_rfl
theorem eh131 : (fnB Tryz.prog gG Tryz.f131).bind (kfun kE0 lh131) = some h131 := by kernel_rfl
theorem eh134 : (fnB Tryz.prog gG Tryz.f134).bind (kfun kE0 lh134) = some h134 := by kernel_rfl
theorem eh201 : (fnB Tryz.prog gG Tryz.f201).bind (kfun kE0 lh201) = some h201 := by kernel_rfl
theorem eh202 : (fnB Tryz.prog gG Tryz.f202).bind (kfun kE0 lh202) = some h202 := by kernel_rfl
theorem eh203 : (fnB Tryz.prog gG Tryz.f203).bind (kfun kE0 lh203) = some h203 := by kernel_rfl
theorem eh204 : (fnB Tryz.prog gG Tryz.f204).bind (kfun kE0 lh204) = some h204 := by kernel_rfl
theorem eh205 : (fnB Tryz.prog gG Tryz.f205).bind (kfun kE0 lh205) = some h205 := by kernel_rfl
theorem eh206 : (fnB Tryz.prog gG Tryz.f206).bind (kfun kE0 lh206) = some h206 := by kernel_rfl
theorem eh207 : (fnB Tryz.prog gG Tryz.f207).bind (kfun kE0 lh207) = some h207 := by kernel_rfl
theorem eh223 : (fnB Tryz.prog gG Tryz.f223).bind (kfun kE0 lh223) = some h223 := by kernel_rfl
theorem eh241 : (fnB Tryz.prog gG Tryz.f241).bind (kfun kE0 lh241) = some h241 := by kernel_rfl
theorem eh254 : (fnB Tryz.prog gG Tryz.f254).bind (kfun kE0 lh254) = some h254 := by kernel_rfl
theorem eh262 : (fnB Tryz.prog gG Tryz.f262).bind (kfun kE0 lh262) = some h262 := by kernel_rfl
theorem eh263 : (fnB Tryz.prog gG Tryz.f263).bind (kfun kE0 lh263) = some h263 := by kernel_rfl
theorem eh264 : (fnB Tryz.prog gG Tryz.f264).bind (kfun kE0 lh264) = some h264 := by kernel_rfl
theorem eh265 : (fnB Tryz.prog gG Tryz.f265).bind (kfun kE0 lh265) = some h265 := by kernel_rfl
theorem eh266 : (fnB Tryz.prog gG Tryz.f266).bind (kfun kE0 lh266) = some h266 := by kernel_rfl
theorem eh280 : (fnB Tryz.prog gG Tryz.f280).bind (kfun kE0 lh280) = some h280 := by kernel_rfl
theorem eh286 : (fnB Tryz.prog gG Tryz.f286).bind (kfun kE0 lh286) = some h286 := by kernel_rfl
theorem eh287 : (fnB Tryz.prog gG Tryz.f287).bind (kfun kE0 lh287) = some h287 := by kernel_rfl
theorem eh288 : (fnB Tryz.prog gG Tryz.f288).bind (kfun kE0 lh288) = some h288 := by kernel_rfl
theorem eh300 : (fnB Tryz.prog gG Tryz.f300).bind (kfun kE0 lh300) = some h300 := by kernel_rfl
theorem eh301 : (fnB Tryz.prog gG Tryz.f301).bind (kfun kE0 lh301) = some h301 := by kernel_rfl
theorem eh302 : (fnB Tryz.prog gG Tryz.f302).bind (kfun kE0 lh302) = some h302 := by kernel_rfl
theorem eh305 : (fnB Tryz.prog gG Tryz.f305).bind (kfun kE0 lh305) = some h305 := by kernel_rfl
theorem eh309 : (fnB Tryz.prog gG Tryz.f309).bind (kfun kE0 lh309) = some h309 := by kernel_rfl
theorem eh311 : (fnB Tryz.prog gG Tryz.f311).bind (kfun kE0 lh311) = some h311 := by kernel_rfl
theorem eh324 : (fnB Tryz.prog gG Tryz.f324).bind (kfun kE0 lh324) = some h324 := by kernel_rfl
theorem eh336 : (fnB Tryz.prog gG Tryz.f336).bind (kfun kE0 lh336) = some h336 := by kernel_rfl
theorem eh342 : (fnB Tryz.prog gG Tryz.f342).bind (kfun kE0 lh342) = some h342 := by kernel_rfl
theorem eh365 : (fnB Tryz.prog gG Tryz.f365).bind (kfun kE0 lh365) = some h365 := by kernel_rfl
theorem fns_eq0 (p : Nm) : kE0.fns p = fnsOf Tryz.prog gG p := by kernel_rfl
theorem rh23 : FnRow kE0 (.o (.o (.o (.i (.h))))) h23 := fn_row (n := 23) fns_eq0 (by kernel_rfl) Tryz.func23 eh23
theorem rh39 : FnRow kE0 (.o (.o (.o (.i (.o (.h)))))) h39 := fn_row (n := 39) fns_eq0 (by kernel_rfl) Tryz.func39 eh39
theorem rh46 : FnRow kE0 (.i (.i (.i (.i (.o (.h)))))) h46 := fn_row (n := 46) fns_eq0 (by kernel_rfl) Tryz.func46 eh46
theorem rh47 : FnRow kE0 (.o (.o (.o (.o (.i (.h)))))) h47 := fn_row (n := 47) fns_eq0 (by kernel_rfl) Tryz.func47 eh47
theorem rh88 : FnRow kE0 (.i (.o (.o (.i (.i (.o (.h))))))) h88 := fn_row (n := 88) fns_eq0 (by kernel_rfl) Tryz.func88 eh88
theorem rh119 : FnRow kE0 (.o (.o (.o (.i (.i (.i (.h))))))) h119 := fn_row (n := 119) fns_eq0 (by kernel_rfl) Tryz.func119 eh119
theorem rh131 : FnRow kE0 (.o (.o (.i (.o (.o (.o (.o (.h)))))))) h131 := fn_row (n := 131) fns_eq0 (by kernel_rfl) Tryz.func131 eh131
theorem rh134 : FnRow kE0 (.i (.i (.i (.o (.o (.o (.o (.h)))))))) h134 := fn_row (n := 134) fns_eq0 (by kernel_rfl) Tryz.func134 eh134
theorem rh201 : FnRow kE0 (.o (.i (.o (.i (.o (.o (.i (.h)))))))) h201 := fn_row (n := 201) fns_eq0 (by kernel_rfl) Tryz.func201 eh201
theorem rh202 : FnRow kE0 (.i (.i (.o (.i (.o (.o (.i (.h)))))))) h202 := fn_row (n := 202) fns_eq0 (by kernel_rfl) Tryz.func202 eh202
theorem rh203 : FnRow kE0 (.o (.o (.i (.i (.o (.o (.i (.h)))))))) h203 := fn_row (n := 203) fns_eq0 (by kernel_rfl) Tryz.func203 eh203
theorem rh204 : FnRow kE0 (.i (.o (.i (.i (.o (.o (.i (.h)))))))) h204 := fn_row (n := 204) fns_eq0 (by kernel_rfl) Tryz.func204 eh204
theorem rh205 : FnRow kE0 (.o (.i (.i (.i (.o (.o (.i (.h)))))))) h205 := fn_row (n := 205) fns_eq0 (by kernel_rfl) Tryz.func205 eh205
theorem rh206 : FnRow kE0 (.i (.i (.i (.i (.o (.o (.i (.h)))))))) h206 := fn_row (n := 206) fns_eq0 (by kernel_rfl) Tryz.func206 eh206
theorem rh207 : FnRow kE0 (.o (.o (.o (.o (.i (.o (.i (.h)))))))) h207 := fn_row (n := 207) fns_eq0 (by kernel_rfl) Tryz.func207 eh207
theorem rh223 : FnRow kE0 (.o (.o (.o (.o (.o (.i (.i (.h)))))))) h223 := fn_row (n := 223) fns_eq0 (by kernel_rfl) Tryz.func223 eh223
theorem rh241 : FnRow kE0 (.o (.i (.o (.o (.i (.i (.i (.h)))))))) h241 := fn_row (n := 241) fns_eq0 (by kernel_rfl) Tryz.func241 eh241
theorem rh254 : FnRow kE0 (.i (.i (.i (.i (.i (.i (.i (.h)))))))) h254 := fn_row (n := 254) fns_eq0 (by kernel_rfl) Tryz.func254 eh254
theorem rh262 : FnRow kE0 (.i (.i (.i (.o (.o (.o (.o (.o (.h))))))))) h262 := fn_row (n := 262) fns_eq0 (by kernel_rfl) Tryz.func262 eh262
theorem rh263 : FnRow kE0 (.o (.o (.o (.i (.o (.o (.o (.o (.h))))))))) h263 := fn_row (n := 263) fns_eq0 (by kernel_rfl) Tryz.func263 eh263
theorem rh264 : FnRow kE0 (.i (.o (.o (.i (.o (.o (.o (.o (.h))))))))) h264 := fn_row (n := 264) fns_eq0 (by kernel_rfl) Tryz.func264 eh264
theorem rh265 : FnRow kE0 (.o (.i (.o (.i (.o (.o (.o (.o (.h))))))))) h265 := fn_row (n := 265) fns_eq0 (by kernel_rfl) Tryz.func265 eh265
theorem rh266 : FnRow kE0 (.i (.i (.o (.i (.o (.o (.o (.o (.h))))))))) h266 := fn_row (n := 266) fns_eq0 (by kernel_rfl) Tryz.func266 eh266
theorem rh280 : FnRow kE0 (.i (.o (.o (.i (.i (.o (.o (.o (.h))))))))) h280 := fn_row (n := 280) fns_eq0 (by kernel_rfl) Tryz.func280 eh280
theorem rh286 : FnRow kE0 (.i (.i (.i (.i (.i (.o (.o (.o (.h))))))))) h286 := fn_row (n := 286) fns_eq0 (by kernel_rfl) Tryz.func286 eh286
theorem rh287 : FnRow kE0 (.o (.o (.o (.o (.o (.i (.o (.o (.h))))))))) h287 := fn_row (n := 287) fns_eq0 (by kernel_rfl) Tryz.func287 eh287
theorem rh288 : FnRow kE0 (.i (.o (.o (.o (.o (.i (.o (.o (.h))))))))) h288 := fn_row (n := 288) fns_eq0 (by kernel_rfl) Tryz.func288 eh288
theorem rh300 : FnRow kE0 (.i (.o (.i (.i (.o (.i (.o (.o (.h))))))))) h300 := fn_row (n := 300) fns_eq0 (by kernel_rfl) Tryz.func300 eh300
theorem rh301 : FnRow kE0 (.o (.i (.i (.i (.o (.i (.o (.o (.h))))))))) h301 := fn_row (n := 301) fns_eq0 (by kernel_rfl) Tryz.func301 eh301
theorem rh302 : FnRow kE0 (.i (.i (.i (.i (.o (.i (.o (.o (.h))))))))) h302 := fn_row (n := 302) fns_eq0 (by kernel_rfl) Tryz.func302 eh302
theorem rh305 : FnRow kE0 (.o (.i (.o (.o (.i (.i (.o (.o (.h))))))))) h305 := fn_row (n := 305) fns_eq0 (by kernel_rfl) Tryz.func305 eh305
theorem rh309 : FnRow kE0 (.o (.i (.i (.o (.i (.i (.o (.o (.h))))))))) h309 := fn_row (n := 309) fns_eq0 (by kernel_rfl) Tryz.func309 eh309
theorem rh311 : FnRow kE0 (.o (.o (.o (.i (.i (.i (.o (.o (.h))))))))) h311 := fn_row (n := 311) fns_eq0 (by kernel_rfl) Tryz.func311 eh311
theorem rh324 : FnRow kE0 (.i (.o (.i (.o (.o (.o (.i (.o (.h))))))))) h324 := fn_row (n := 324) fns_eq0 (by kernel_rfl) Tryz.func324 eh324
theorem rh336 : FnRow kE0 (.i (.o (.o (.o (.i (.o (.i (.o (.h))))))))) h336 := fn_row (n := 336) fns_eq0 (by kernel_rfl) Tryz.func336 eh336
theorem rh342 : FnRow kE0 (.i (.i (.i (.o (.i (.o (.i (.o (.h))))))))) h342 := fn_row (n := 342) fns_eq0 (by kernel_rfl) Tryz.func342 eh342
theorem rh365 : FnRow kE0 (.o (.i (.i (.i (.o (.i (.i (.o (.h))))))))) h365 := fn_row (n := 365) fns_eq0 (by kernel_rfl) Tryz.func365 eh365
set_option maxRecDepth 20000 in
theorem tab_ok0 : TabOk kE0 ktab0 := tab_of ⟨⟨⟨⟨⟨⟨trivial, AllT.none', ⟨⟨⟨trivial, AllT.some' rh287, trivial⟩, AllT.none', trivial⟩, AllT.none', ⟨trivial, AllT.some' rh223, trivial⟩⟩⟩, AllT.none', ⟨⟨trivial, AllT.none', ⟨trivial, AllT.some' rh207, trivial⟩⟩, AllT.some' rh47, trivial⟩⟩, AllT.none', ⟨⟨⟨⟨⟨trivial, AllT.some' rh263, trivial⟩, AllT.none', trivial⟩, AllT.none', trivial⟩, AllT.some' rh39, trivial⟩, AllT.some' rh23, ⟨trivial, AllT.none', ⟨⟨⟨trivial, AllT.some' rh311, trivial⟩, AllT.none', trivial⟩, AllT.some' rh119, trivial⟩⟩⟩⟩, AllT.none', ⟨⟨⟨⟨⟨trivial, AllT.some' rh131, trivial⟩, AllT.none', trivial⟩, AllT.none', trivial⟩, AllT.none', trivial⟩, AllT.none', ⟨⟨⟨trivial, AllT.none', ⟨trivial, AllT.some' rh203, trivial⟩⟩, AllT.none', trivial⟩, AllT.none', trivial⟩⟩⟩, AllT.none', ⟨⟨⟨trivial, AllT.none', ⟨trivial, AllT.none', ⟨⟨⟨trivial, AllT.some' rh305, trivial⟩, AllT.none', trivial⟩, AllT.none', ⟨trivial, AllT.some' rh241, trivial⟩⟩⟩⟩, AllT.none', ⟨⟨⟨⟨⟨trivial, AllT.some' rh265, trivial⟩, AllT.none', trivial⟩, AllT.none', ⟨trivial, AllT.some' rh201, trivial⟩⟩, AllT.none', trivial⟩, AllT.none', trivial⟩⟩, AllT.none', ⟨⟨trivial, AllT.none', ⟨trivial, AllT.none', ⟨⟨⟨trivial, AllT.some' rh309, trivial⟩, AllT.none', trivial⟩, AllT.none', trivial⟩⟩⟩, AllT.none', ⟨⟨⟨trivial, AllT.none', ⟨trivial, AllT.some' rh205, trivial⟩⟩, AllT.none', ⟨⟨⟨trivial, AllT.some' rh301, trivial⟩, AllT.none', trivial⟩, AllT.none', ⟨⟨trivial, AllT.some' rh365, trivial⟩, AllT.none', trivial⟩⟩⟩, AllT.none', trivial⟩⟩⟩⟩, AllT.none', ⟨⟨⟨⟨⟨trivial, AllT.none', ⟨⟨⟨trivial, AllT.some' rh288, trivial⟩, AllT.none', trivial⟩, AllT.none', trivial⟩⟩, AllT.none', ⟨⟨trivial, AllT.none', ⟨⟨trivial, AllT.some' rh336, trivial⟩, AllT.none', trivial⟩⟩, AllT.none', trivial⟩⟩, AllT.none', ⟨⟨⟨⟨⟨trivial, AllT.some' rh264, trivial⟩, AllT.none', trivial⟩, AllT.none', trivial⟩, AllT.none', trivial⟩, AllT.none', ⟨⟨⟨⟨trivial, AllT.some' rh280, trivial⟩, AllT.none', trivial⟩, AllT.some' rh88, trivial⟩, AllT.none', trivial⟩⟩⟩, AllT.none', ⟨⟨⟨⟨trivial, AllT.none', ⟨⟨trivial, AllT.some' rh324, trivial⟩, AllT.none', trivial⟩⟩, AllT.none', trivial⟩, AllT.none', trivial⟩, AllT.none', ⟨⟨⟨trivial, AllT.none', ⟨trivial, AllT.some' rh204, trivial⟩⟩, AllT.none', ⟨⟨⟨trivial, AllT.some' rh300, trivial⟩, AllT.none', trivial⟩, AllT.none', trivial⟩⟩, AllT.none', trivial⟩⟩⟩, AllT.none', ⟨⟨trivial, AllT.none', ⟨⟨⟨⟨⟨trivial, AllT.some' rh266, trivial⟩, AllT.none', trivial⟩, AllT.none', ⟨trivial, AllT.some' rh202, trivial⟩⟩, AllT.none', trivial⟩, AllT.none', trivial⟩⟩, AllT.none', ⟨⟨⟨⟨⟨⟨trivial, AllT.some' rh262, trivial⟩, AllT.some' rh134, trivial⟩, AllT.none', trivial⟩, AllT.none', trivial⟩, AllT.none', ⟨⟨trivial, AllT.none', ⟨⟨trivial, AllT.some' rh342, trivial⟩, AllT.none', trivial⟩⟩, AllT.none', trivial⟩⟩, AllT.none', ⟨⟨⟨trivial, AllT.none', ⟨trivial, AllT.some' rh206, trivial⟩⟩, AllT.some' rh46, ⟨⟨⟨trivial, AllT.some' rh302, trivial⟩, AllT.none', trivial⟩, AllT.none', trivial⟩⟩, AllT.none', ⟨⟨⟨⟨trivial, AllT.some' rh286, trivial⟩, AllT.none', trivial⟩, AllT.none', trivial⟩, AllT.none', ⟨trivial, AllT.none', ⟨trivial, AllT.some' rh254, trivial⟩⟩⟩⟩⟩⟩⟩⟩
theorem ks_ok : KsOk Tryz.prog fun t => ksT.get (nm t) := ks_of (tab := ksT) ⟨⟨⟨trivial, AllT.none', ⟨⟨⟨⟨⟨trivial, AllT.some' (ks_row (n := 131) (by kernel_rfl) (by kernel_rfl) (by kernel_rfl)), trivial⟩, AllT.none', trivial⟩, AllT.none', trivial⟩, AllT.none', trivial⟩, AllT.none', trivial⟩⟩, AllT.none', ⟨⟨⟨⟨⟨⟨trivial, AllT.some' (ks_row (n := 129) (by kernel_rfl) (by kernel_rfl) (by kernel_rfl)), trivial⟩, AllT.none', trivial⟩, AllT.none', trivial⟩, AllT.none', trivial⟩, AllT.some' (ks_row (n := 9) (by kernel_rfl) (by kernel_rfl) (by kernel_rfl)), trivial⟩, AllT.none', ⟨⟨⟨trivial, AllT.none', ⟨⟨trivial, AllT.some' (ks_row (n := 165) (by kernel_rfl) (by kernel_rfl) (by kernel_rfl)), trivial⟩, AllT.none', trivial⟩⟩, AllT.none', trivial⟩, AllT.none', ⟨⟨⟨⟨⟨trivial, AllT.some' (ks_row (n := 269) (by kernel_rfl) (by kernel_rfl) (by kernel_rfl)), trivial⟩, AllT.none', trivial⟩, AllT.none', trivial⟩, AllT.none', trivial⟩, AllT.none', trivial⟩⟩⟩⟩, AllT.none', ⟨trivial, AllT.none', ⟨trivial, AllT.none', ⟨⟨trivial, AllT.none', ⟨⟨trivial, AllT.none', ⟨⟨trivial, AllT.some' (ks_row (n := 342) (by kernel_rfl) (by kernel_rfl) (by kernel_rfl)), trivial⟩, AllT.none', trivial⟩⟩, AllT.none', trivial⟩⟩, AllT.none', trivial⟩⟩⟩⟩
theorem me_ok : MeOk Tryz.prog (meOf meT) := me_of (tab := meT) trivial
noncomputable def ctx : Ctx where
  P := Tryz.prog
  G := gG
  X imm := (∃ m ty fr, imm 2 = some (.cells #[.int .i64 m] ty fr)) ∧ ErrT 1 233 13 127 imm
  grows := fun f f' h ⟨⟨m, ty, fr, e⟩, h2⟩ => ⟨⟨m, ty, fr, h _ _ e⟩, ErrT.mono h h2⟩
def OvRow (p : Nm) (h : List V → St → T (V × St)) : Prop := ∀ g, nm g = p → ∀ ρ s w args cargs R, Inv ctx ρ s w → GR ctx ρ → AR ρ args cargs → (h args s).All 3 R → Gives ctx.P (Post ctx ρ s w R) ((callFunc g cargs).run ctx.P w)
theorem maxlen {ρ : Rho} {s : St} {w : World} (hI : Inv ctx ρ s w) (hG : GR ctx ρ) : ∃ m, w.cell? ⟨2, 0, none⟩ = some (.int .i64 m) := by
  obtain ⟨⟨m, ty, fr, e⟩, -⟩ := hG.more
  exact ⟨m, by rw [cell_of_heap (hI.imm _ _ e)]; rfl⟩
theorem nm_of {g n : Nat} {p : Nm} (hp : p.val = n + 1) (h : nm g = p) : g = n := by have := congrArg Nm.val h; rw [val_nm, hp] at this; omega
theorem OvRow.of {br n : Nat} {p : Nm} {h : List V → St → T (V × St)} (hb : br = 3) (hp : p.val = n + 1) (hh : OverOk ctx br n h) : OvRow p h := by
  intro g hg
  obtain rfl := nm_of hp hg
  subst hb
  exact hh
theorem run80 (cargs : Array Value) (w : World) : (callFunc 80 cargs).run Tryz.prog w = .ok (.enter 80 cargs) w := enters_of Tryz.func80 (by kernel_rfl) rfl cargs w
set_option maxRecDepth 20000 in
theorem ov80 : OvRow (.i (.o (.o (.o (.i (.o (.h))))))) ovIx := by
  intro g hg ρ s w args cargs R hI hG hA h
  obtain rfl := nm_of (n := 80) (by kernel_rfl) hg
  obtain ⟨m, hm⟩ := maxlen hI hG
  exact over_ix hI hA h (fun cargs => run80 cargs w) (fun a b hab => Any.stringslite_Index Tryz.lays219 a b m w hab hm)
theorem run99 (x y c : Nat) (hc : c ≤ 1) (w : World) : (callFunc 99 #[.int .u64 (x : Int), .int .u64 (y : Int), .int .u64 (c : Int)]).run Tryz.prog w = .ok (.value (addP x y c)) w := by rw [run_callFunc_extern Tryz.func99 rfl rfl rfl rfl, add_run x y c hc]; rfl
set_option maxRecDepth 20000 in
theorem ov99 : OvRow (.o (.o (.i (.o (.o (.i (.h))))))) ovAdd := by
  intro g hg ρ s w args cargs R hI hG hA h
  obtain rfl := nm_of (n := 99) (by kernel_rfl) hg
  exact over_add hI hA h (fun x y c hc => run99 x y c hc w)
theorem run165 (a : ByteArray) (c : Int) (w : World) : (callFunc 165 #[.string a, .int .u8 c]).run Tryz.prog w = .ok (.value (.int .i64 (Lib.indexByte a.data.toList c.toNat.toUInt8))) w := by rw [run_callFunc_extern Tryz.func165 rfl rfl rfl rfl, Lib.run_indexByteString]; rfl
set_option maxRecDepth 20000 in
theorem ov165 : OvRow (.o (.i (.i (.o (.o (.i (.o (.h)))))))) ovIxB := by
  intro g hg ρ s w args cargs R hI hG hA h
  obtain rfl := nm_of (n := 165) (by kernel_rfl) hg
  exact over_ixB hI hA h (fun a c => run165 a c w)
theorem run312 (a b : ByteArray) (w : World) : (callFunc 312 #[.string a, .string b]).run Tryz.prog w = .ok (.value (.int .i64 (Lib.compareBytes a.data.toList b.data.toList))) w := by rw [run_callFunc_extern Tryz.func312 rfl rfl rfl rfl, Lib.run_compareString]; rfl
set_option maxRecDepth 20000 in
theorem ov312 : OvRow (.i (.o (.o (.i (.i (.i (.o (.o (.h))))))))) ovCmp := by
  intro g hg ρ s w args cargs R hI hG hA h
  obtain rfl := nm_of (n := 312) (by kernel_rfl) hg
  exact over_cmp hI hA h (fun a b => run312 a b w)
theorem run337 (cargs : Array Value) (w : World) : (callFunc 337 cargs).run Tryz.prog w = .ok (.enter 337 cargs) w := enters_of Tryz.func337 (by kernel_rfl) rfl cargs w
set_option maxRecDepth 20000 in
theorem ov337 : OvRow (.o (.i (.o (.o (.i (.o (.i (.o (.h))))))))) ovIx := by
  intro g hg ρ s w args cargs R hI hG hA h
  obtain rfl := nm_of (n := 337) (by kernel_rfl) hg
  obtain ⟨m, hm⟩ := maxlen hI hG
  exact over_ix hI hA h (fun cargs => run337 cargs w) (fun a b hab => Any.strings_Index Tryz.lays143 a b m w hab hm)
theorem run364 (a : ByteArray) (c : Int) (w : World) : (callFunc 364 #[.string a, .int .u8 c]).run Tryz.prog w = .ok (.value (.int .i64 (Lib.countByte a.data.toList c.toNat.toUInt8))) w := by rw [run_callFunc_extern Tryz.func364 rfl rfl rfl rfl, Lib.run_countString]; rfl
set_option maxRecDepth 20000 in
theorem ov364 : OvRow (.i (.o (.i (.i (.o (.i (.i (.o (.h))))))))) ovCnt := by
  intro g hg ρ s w args cargs R hI hG hA h
  obtain rfl := nm_of (n := 364) (by kernel_rfl) hg
  exact over_cnt hI hA h (fun a c => run364 a c w)
theorem run410 (x : Value) (w : World) : (callFunc 410 #[x]).run Tryz.prog w = .ok (.value (x)) w := by rw [run_callFunc_extern Tryz.func410 rfl rfl rfl rfl]; rfl
set_option maxRecDepth 20000 in
theorem ov410 : OvRow (.i (.i (.o (.i (.i (.o (.o (.i (.h))))))))) ovNo := by
  intro g hg ρ s w args cargs R hI hG hA h
  obtain rfl := nm_of (n := 410) (by kernel_rfl) hg
  exact over_no hI hA h (fun x => run410 x w)
set_option maxRecDepth 20000 in
theorem ov_ok0 : AllT OvRow overT0 := ⟨⟨⟨trivial, AllT.none', ⟨⟨⟨trivial, AllT.none', ⟨trivial, AllT.some' ov99, trivial⟩⟩, AllT.none', trivial⟩, AllT.none', trivial⟩⟩, AllT.none', ⟨⟨⟨trivial, AllT.none', ⟨⟨trivial, AllT.none', ⟨⟨trivial, AllT.some' ov337, trivial⟩, AllT.none', trivial⟩⟩, AllT.none', trivial⟩⟩, AllT.none', trivial⟩, AllT.none', ⟨⟨⟨trivial, AllT.none', ⟨⟨trivial, AllT.some' ov165, trivial⟩, AllT.none', trivial⟩⟩, AllT.none', trivial⟩, AllT.none', trivial⟩⟩⟩, AllT.none', ⟨⟨⟨⟨trivial, AllT.none', ⟨⟨trivial, AllT.some' ov80, trivial⟩, AllT.none', trivial⟩⟩, AllT.none', ⟨trivial, AllT.none', ⟨trivial, AllT.none', ⟨⟨⟨trivial, AllT.some' ov312, trivial⟩, AllT.none', trivial⟩, AllT.none', trivial⟩⟩⟩⟩, AllT.none', ⟨trivial, AllT.none', ⟨⟨trivial, AllT.none', ⟨trivial, AllT.none', ⟨⟨trivial, AllT.some' ov364, trivial⟩, AllT.none', trivial⟩⟩⟩, AllT.none', trivial⟩⟩⟩, AllT.none', ⟨⟨trivial, AllT.none', ⟨trivial, AllT.none', ⟨⟨⟨trivial, AllT.none', ⟨trivial, AllT.some' ov410, trivial⟩⟩, AllT.none', trivial⟩, AllT.none', trivial⟩⟩⟩, AllT.none', trivial⟩⟩⟩
set_option maxRecDepth 20000 in
theorem env_ok0 : EnvOk ctx kE0 where
  fns := fun g fn h => fns_ok h
  over := fun g h he => by
    have he' : getT (nm g) overT0 = some h := he
    rw [getT_eq] at he'
    exact AllT.get ov_ok0 he' g rfl
  mixed := by kernel_rfl
  ks := ks_ok
  hm := fun _ _ _ h => by cases h
  methods := me_ok
theorem kept119 : allB 3 (chk memoV119 memoR119 t305) ((kcall kE0 ktab0 10000 3000).f t120 [] St.start fun v s => .ret (v, s)) = true := by decide +kernel
set_option maxRecDepth 20000 in
theorem ov119 : OvRow (.o (.o (.o (.i (.i (.i (.h))))))) (memoX memoV119 memoR119 t305) := by
  intro g hg ρ s w args cargs R hI hG hA h
  obtain rfl := nm_of (n := 119) (by kernel_rfl) hg
  rw [memoX_eq] at h
  have e : nm 119 = t120 := Nm.val_inj (by rw [val_nm]; kernel_rfl)
  have hov : kE0.over (nm 119) = none := by rw [e]; kernel_rfl
  have hk := kept119
  rw [← e] at hk
  exact memo_ok env_ok0 tab_ok0 hov hk hI hG hA h
theorem keptR0 : KeptP kE0 ktab0 241 10000 3000 (rdA0, rdR0) := ⟨by decide +kernel, by decide +kernel, by decide +kernel⟩
theorem keptR1 : KeptP kE0 ktab0 241 10000 3000 (rdA1, rdR1) := ⟨by decide +kernel, by decide +kernel, by decide +kernel⟩
theorem keptR2 : KeptP kE0 ktab0 241 10000 3000 (rdA2, rdR2) := ⟨by decide +kernel, by decide +kernel, by decide +kernel⟩
theorem keptR3 : KeptP kE0 ktab0 241 10000 3000 (rdA3, rdR3) := ⟨by decide +kernel, by decide +kernel, by decide +kernel⟩
theorem keptR4 : KeptP kE0 ktab0 241 10000 3000 (rdA4, rdR4) := ⟨by decide +kernel, by decide +kernel, by decide +kernel⟩
theorem ov241 : OvRow (.o (.i (.o (.o (.i (.i (.i (.h)))))))) (memoP rdT) := .of (br := kE0.branch) rfl (n := 241) (by kernel_rfl) (memoP_ok env_ok0 tab_ok0 (by kernel_rfl) (List.forall_mem_cons.2 ⟨keptR0, List.forall_mem_cons.2 ⟨keptR1, List.forall_mem_cons.2 ⟨keptR2, List.forall_mem_cons.2 ⟨keptR3, List.forall_mem_cons.2 ⟨keptR4, fun _ h => nomatch h⟩⟩⟩⟩⟩))
end Go.Eng
