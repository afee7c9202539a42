/- The tables of the first layer are those of the program. -/
import Derived.Test.YtlenkhcenfkogaaGreatDoorSa
import Derived.KernelRfl
import Derived.Shelf.Strings.Search2
import Derived.Shelf.Strings.Search3
set_option linter.unusedVariables false
set_option linter.unusedSimpArgs false
set_option maxRecDepth 20000
namespace Go.Proofs
open Go.Shelf
def Tryz.lays219_ren : Go.Shelf.Ren := ⟨fun | 219 => 159 | 217 => 186 | 225 => 187 | 224 => 188 | 267 => 189 | 266 => 210 | 314 => 211 | n => n, fun | 9 => 9 | 3 => 3 | 4 => 4 | 5 => 5 | 46 => 22 | 146 => 299 | 51 => 240 | n => n, fun | 1 => 3 | n => n⟩
theorem Tryz.lays219 : Go.Proofs.Lays.n219 Tryz.prog Tryz.lays219_ren where
  mixed := by kernel_rfl
  f217 := Tryz.func186.trans (congrArg some (by kernel_rfl))
  f219 := Tryz.func159.trans (congrArg some (by kernel_rfl))
  f224 := Tryz.func188.trans (congrArg some (by kernel_rfl))
  f225 := Tryz.func187.trans (congrArg some (by kernel_rfl))
  f266 := Tryz.func210.trans (congrArg some (by kernel_rfl))
  f267 := Tryz.func189.trans (congrArg some (by kernel_rfl))
  f314 := Tryz.func211.trans (congrArg some (by kernel_rfl))
  t3 := Tryz.underlying3
  a3 := Tryz.isAgg3
  z3 := Tryz.sizeOf3
  v3 := Tryz.zeroValue3
  t4 := Tryz.underlying4
  a4 := Tryz.isAgg4
  z4 := Tryz.sizeOf4
  v4 := Tryz.zeroValue4
  t5 := Tryz.underlying5
  a5 := Tryz.isAgg5
  z5 := Tryz.sizeOf5
  v5 := Tryz.zeroValue5
  t9 := Tryz.underlying9
  a9 := Tryz.isAgg9
  z9 := Tryz.sizeOf9
  v9 := Tryz.zeroValue9
  t46 := Tryz.underlying22
  a46 := Tryz.isAgg22
  z46 := Tryz.sizeOf22
  v46 := Tryz.zeroValue22
  t51 := Tryz.underlying240
  a51 := Tryz.isAgg240
  z51 := Tryz.sizeOf240
  v51 := Tryz.zeroValue240
  t146 := Tryz.underlying299
  a146 := Tryz.isAgg299
  z146 := Tryz.sizeOf299
  v146 := Tryz.zeroValue299
  g1 := by kernel_rfl
def Tryz.lays143_ren : Go.Shelf.Ren := ⟨fun | 143 => 178 | 219 => 159 | 217 => 186 | 225 => 187 | 224 => 188 | 267 => 189 | 266 => 210 | 314 => 211 | n => n, fun | 9 => 9 | 3 => 3 | 4 => 4 | 5 => 5 | 46 => 22 | 146 => 299 | 51 => 240 | n => n, fun | 1 => 3 | n => n⟩
theorem Tryz.lays143 : Go.Proofs.Lays.n143 Tryz.prog Tryz.lays143_ren where
  mixed := by kernel_rfl
  f143 := Tryz.func178.trans (congrArg some (by kernel_rfl))
  f217 := Tryz.func186.trans (congrArg some (by kernel_rfl))
  f219 := Tryz.func159.trans (congrArg some (by kernel_rfl))
  f224 := Tryz.func188.trans (congrArg some (by kernel_rfl))
  f225 := Tryz.func187.trans (congrArg some (by kernel_rfl))
  f266 := Tryz.func210.trans (congrArg some (by kernel_rfl))
  f267 := Tryz.func189.trans (congrArg some (by kernel_rfl))
  f314 := Tryz.func211.trans (congrArg some (by kernel_rfl))
  t3 := Tryz.underlying3
  a3 := Tryz.isAgg3
  z3 := Tryz.sizeOf3
  v3 := Tryz.zeroValue3
  t4 := Tryz.underlying4
  a4 := Tryz.isAgg4
  z4 := Tryz.sizeOf4
  v4 := Tryz.zeroValue4
  t5 := Tryz.underlying5
  a5 := Tryz.isAgg5
  z5 := Tryz.sizeOf5
  v5 := Tryz.zeroValue5
  t9 := Tryz.underlying9
  a9 := Tryz.isAgg9
  z9 := Tryz.sizeOf9
  v9 := Tryz.zeroValue9
  t46 := Tryz.underlying22
  a46 := Tryz.isAgg22
  z46 := Tryz.sizeOf22
  v46 := Tryz.zeroValue22
  t51 := Tryz.underlying240
  a51 := Tryz.isAgg240
  z51 := Tryz.sizeOf240
  v51 := Tryz.zeroValue240
  t146 := Tryz.underlying299
  a146 := Tryz.isAgg299
  z146 := Tryz.sizeOf299
  v146 := Tryz.zeroValue299
  g1 := by kernel_rfl
end Go.Proofs
namespace Go.Eng
open Go.Proofs
theorem eh56 : (fnB Tryz.prog gG Tryz.f56).bind (kfun kE0 lh56) = some h56 := by kernel_rfl
theorem eh87 : (fnB Tryz.prog gG Tryz.f87).bind (kfun kE0 lh87) = some h87 := by kernel_rfl
theorem eh88 : (fnB Tryz.prog gG Tryz.f88).bind (kfun kE0 lh88) = some h88 := by kernel_rfl
theorem eh89 : (fnB Tryz.prog gG Tryz.f89).bind (kfun kE0 lh89) = some h89 := by kernel_rfl
theorem eh90 : (fnB Tryz.prog gG Tryz.f90).bind (kfun kE0 lh90) = some h90 := by kernel_rfl
theorem eh91 : (fnB Tryz.prog gG Tryz.f91).bind (kfun kE0 lh91) = some h91 := by kernel_rfl
theorem eh92 : (fnB Tryz.prog gG Tryz.f92).bind (kfun kE0 lh92) = some h92 := by kernel_rfl
theorem eh93 : (fnB Tryz.prog gG Tryz.f93).bind (kfun kE0 lh93) = some h93 := by kernel_rfl
theorem eh125 : (fnB Tryz.prog gG Tryz.f125).bind (kfun kE0 lh125) = some h125 := by kernel_rfl
theorem eh126 : (fnB Tryz.prog gG Tryz.f126).bind (kfun kE0 lh126) = some h126 := by kernel_rfl
theorem eh127 : (fnB Tryz.prog gG Tryz.f127).bind (kfun kE0 lh127) = some h127 := by kernel_rfl
theorem eh128 : (fnB Tryz.prog gG Tryz.f128).bind (kfun kE0 lh128) = some h128 := by kernel_rfl
theorem eh129 : (fnB Tryz.prog gG Tryz.f129).bind (kfun kE0 lh129) = some h129 := by kernel_rfl
theorem eh142 : (fnB Tryz.prog gG Tryz.f142).bind (kfun kE0 lh142) = some h142 := by kernel_rfl
theorem eh143 : (fnB Tryz.prog gG Tryz.f143).bind (kfun kE0 lh143) = some h143 := by kernel_rfl
theorem eh144 : (fnB Tryz.prog gG Tryz.f144).bind (kfun kE0 lh144) = some h144 := by kernel_rfl
theorem eh147 : (fnB Tryz.prog gG Tryz.f147).bind (kfun kE0 lh147) = some h147 := by kernel_rfl
theorem eh151 : (fnB Tryz.prog gG Tryz.f151).bind (kfun kE0 lh151) = some h151 := by kernel_rfl
theorem eh153 : (fnB Tryz.prog gG Tryz.f153).bind (kfun kE0 lh153) = some h153 := by kernel_rfl
theorem eh173 : (fnB Tryz.prog gG Tryz.f173).bind (kfun kE0 lh173) = some h173 := by kernel_rfl
theorem eh174 : (fnB Tryz.prog gG Tryz.f174).bind (kfun kE0 lh174) = some h174 := by kernel_rfl
theorem eh175 : (fnB Tryz.prog gG Tryz.f175).bind (kfun kE0 lh175) = some h175 := by kernel_rfl
theorem eh177 : (fnB Tryz.prog gG Tryz.f177).bind (kfun kE0 lh177) = some h177 := by kernel_rfl
theorem eh183 : (fnB Tryz.prog gG Tryz.f183).bind (kfun kE0 lh183) = some h183 := by kernel_rfl
theorem eh201 : (fnB Tryz.prog gG Tryz.f201).bind (kfun kE0 lh201) = some h201 := by kernel_rfl
theorem eh205 : (fnB Tryz.prog gG Tryz.f205).bind (kfun kE0 lh205) = some h205 := by kernel_rfl
theorem fns_eq0 (p : Nm) : kE0.fns p = fnsOf Tryz.prog gG p := by kernel_rfl
theorem rh56 : FnRow kE0 (.i (.o (.o (.i (.i (.h)))))) h56 := fn_row (n := 56) fns_eq0 (by kernel_rfl) Tryz.func56 eh56
theorem rh87 : FnRow kE0 (.o (.o (.o (.i (.i (.o (.h))))))) h87 := fn_row (n := 87) fns_eq0 (by kernel_rfl) Tryz.func87 eh87
theorem rh88 : FnRow kE0 (.i (.o (.o (.i (.i (.o (.h))))))) h88 := fn_row (n := 88) fns_eq0 (by kernel_rfl) Tryz.func88 eh88
theorem rh89 : FnRow kE0 (.o (.i (.o (.i (.i (.o (.h))))))) h89 := fn_row (n := 89) fns_eq0 (by kernel_rfl) Tryz.func89 eh89
theorem rh90 : FnRow kE0 (.i (.i (.o (.i (.i (.o (.h))))))) h90 := fn_row (n := 90) fns_eq0 (by kernel_rfl) Tryz.func90 eh90
theorem rh91 : FnRow kE0 (.o (.o (.i (.i (.i (.o (.h))))))) h91 := fn_row (n := 91) fns_eq0 (by kernel_rfl) Tryz.func91 eh91
theorem rh92 : FnRow kE0 (.i (.o (.i (.i (.i (.o (.h))))))) h92 := fn_row (n := 92) fns_eq0 (by kernel_rfl) Tryz.func92 eh92
theorem rh93 : FnRow kE0 (.o (.i (.i (.i (.i (.o (.h))))))) h93 := fn_row (n := 93) fns_eq0 (by kernel_rfl) Tryz.func93 eh93
theorem rh125 : FnRow kE0 (.o (.i (.i (.i (.i (.i (.h))))))) h125 := fn_row (n := 125) fns_eq0 (by kernel_rfl) Tryz.func125 eh125
theorem rh126 : FnRow kE0 (.i (.i (.i (.i (.i (.i (.h))))))) h126 := fn_row (n := 126) fns_eq0 (by kernel_rfl) Tryz.func126 eh126
theorem rh127 : FnRow kE0 (.o (.o (.o (.o (.o (.o (.o (.h)))))))) h127 := fn_row (n := 127) fns_eq0 (by kernel_rfl) Tryz.func127 eh127
theorem rh128 : FnRow kE0 (.i (.o (.o (.o (.o (.o (.o (.h)))))))) h128 := fn_row (n := 128) fns_eq0 (by kernel_rfl) Tryz.func128 eh128
theorem rh129 : FnRow kE0 (.o (.i (.o (.o (.o (.o (.o (.h)))))))) h129 := fn_row (n := 129) fns_eq0 (by kernel_rfl) Tryz.func129 eh129
theorem rh142 : FnRow kE0 (.i (.i (.i (.i (.o (.o (.o (.h)))))))) h142 := fn_row (n := 142) fns_eq0 (by kernel_rfl) Tryz.func142 eh142
theorem rh143 : FnRow kE0 (.o (.o (.o (.o (.i (.o (.o (.h)))))))) h143 := fn_row (n := 143) fns_eq0 (by kernel_rfl) Tryz.func143 eh143
theorem rh144 : FnRow kE0 (.i (.o (.o (.o (.i (.o (.o (.h)))))))) h144 := fn_row (n := 144) fns_eq0 (by kernel_rfl) Tryz.func144 eh144
theorem rh147 : FnRow kE0 (.o (.o (.i (.o (.i (.o (.o (.h)))))))) h147 := fn_row (n := 147) fns_eq0 (by kernel_rfl) Tryz.func147 eh147
theorem rh151 : FnRow kE0 (.o (.o (.o (.i (.i (.o (.o (.h)))))))) h151 := fn_row (n := 151) fns_eq0 (by kernel_rfl) Tryz.func151 eh151
theorem rh153 : FnRow kE0 (.o (.i (.o (.i (.i (.o (.o (.h)))))))) h153 := fn_row (n := 153) fns_eq0 (by kernel_rfl) Tryz.func153 eh153
theorem rh173 : FnRow kE0 (.o (.i (.i (.i (.o (.i (.o (.h)))))))) h173 := fn_row (n := 173) fns_eq0 (by kernel_rfl) Tryz.func173 eh173
theorem rh174 : FnRow kE0 (.i (.i (.i (.i (.o (.i (.o (.h)))))))) h174 := fn_row (n := 174) fns_eq0 (by kernel_rfl) Tryz.func174 eh174
theorem rh175 : FnRow kE0 (.o (.o (.o (.o (.i (.i (.o (.h)))))))) h175 := fn_row (n := 175) fns_eq0 (by kernel_rfl) Tryz.func175 eh175
theorem rh177 : FnRow kE0 (.o (.i (.o (.o (.i (.i (.o (.h)))))))) h177 := fn_row (n := 177) fns_eq0 (by kernel_rfl) Tryz.func177 eh177
theorem rh183 : FnRow kE0 (.o (.o (.o (.i (.i (.i (.o (.h)))))))) h183 := fn_row (n := 183) fns_eq0 (by kernel_rfl) Tryz.func183 eh183
theorem rh201 : FnRow kE0 (.o (.i (.o (.i (.o (.o (.i (.h)))))))) h201 := fn_row (n := 201) fns_eq0 (by kernel_rfl) Tryz.func201 eh201
theorem rh205 : FnRow kE0 (.o (.i (.i (.i (.o (.o (.i (.h)))))))) h205 := fn_row (n := 205) fns_eq0 (by kernel_rfl) Tryz.func205 eh205
set_option maxRecDepth 20000 in
theorem tab_ok0 : TabOk kE0 ktab0 := tab_of ⟨⟨⟨⟨⟨⟨⟨⟨trivial, AllT.some' rh127, trivial⟩, AllT.none', trivial⟩, AllT.none', trivial⟩, AllT.none', ⟨⟨⟨trivial, AllT.some' rh143, trivial⟩, AllT.none', trivial⟩, AllT.none', ⟨⟨trivial, AllT.some' rh175, trivial⟩, AllT.none', trivial⟩⟩⟩, AllT.none', ⟨trivial, AllT.none', ⟨⟨⟨trivial, AllT.some' rh151, trivial⟩, AllT.some' rh87, trivial⟩, AllT.none', ⟨⟨trivial, AllT.some' rh183, trivial⟩, AllT.none', trivial⟩⟩⟩⟩, AllT.none', ⟨⟨trivial, AllT.none', ⟨⟨⟨trivial, AllT.some' rh147, trivial⟩, AllT.none', trivial⟩, AllT.none', trivial⟩⟩, AllT.none', ⟨trivial, AllT.none', ⟨⟨trivial, AllT.some' rh91, trivial⟩, AllT.none', trivial⟩⟩⟩⟩, AllT.none', ⟨⟨⟨⟨⟨⟨trivial, AllT.some' rh129, trivial⟩, AllT.none', trivial⟩, AllT.none', trivial⟩, AllT.none', ⟨trivial, AllT.none', ⟨⟨trivial, AllT.some' rh177, trivial⟩, AllT.none', trivial⟩⟩⟩, AllT.none', ⟨⟨⟨trivial, AllT.none', ⟨trivial, AllT.some' rh201, trivial⟩⟩, AllT.none', trivial⟩, AllT.none', ⟨⟨⟨trivial, AllT.some' rh153, trivial⟩, AllT.some' rh89, trivial⟩, AllT.none', trivial⟩⟩⟩, AllT.none', ⟨trivial, AllT.none', ⟨⟨⟨trivial, AllT.none', ⟨trivial, AllT.some' rh205, trivial⟩⟩, AllT.none', ⟨⟨trivial, AllT.some' rh173, trivial⟩, AllT.none', trivial⟩⟩, AllT.none', ⟨⟨trivial, AllT.some' rh93, trivial⟩, AllT.none', ⟨trivial, AllT.some' rh125, trivial⟩⟩⟩⟩⟩⟩, AllT.none', ⟨⟨⟨⟨⟨⟨⟨trivial, AllT.some' rh128, trivial⟩, AllT.none', trivial⟩, AllT.none', trivial⟩, AllT.none', ⟨⟨⟨trivial, AllT.some' rh144, trivial⟩, AllT.none', trivial⟩, AllT.none', trivial⟩⟩, AllT.none', ⟨trivial, AllT.none', ⟨⟨trivial, AllT.some' rh88, trivial⟩, AllT.some' rh56, trivial⟩⟩⟩, AllT.none', ⟨trivial, AllT.none', ⟨trivial, AllT.none', ⟨⟨trivial, AllT.some' rh92, trivial⟩, AllT.none', trivial⟩⟩⟩⟩, AllT.none', ⟨⟨trivial, AllT.none', ⟨trivial, AllT.none', ⟨⟨trivial, AllT.some' rh90, trivial⟩, AllT.none', trivial⟩⟩⟩, AllT.none', ⟨trivial, AllT.none', ⟨⟨⟨⟨trivial, AllT.some' rh142, trivial⟩, AllT.none', trivial⟩, AllT.none', ⟨⟨trivial, AllT.some' rh174, trivial⟩, AllT.none', trivial⟩⟩, AllT.none', ⟨trivial, AllT.none', ⟨trivial, AllT.some' rh126, trivial⟩⟩⟩⟩⟩⟩⟩
theorem ks_ok : KsOk Tryz.prog fun t => ksT.get (nm t) := ks_of (tab := ksT) ⟨⟨trivial, AllT.none', ⟨⟨trivial, AllT.some' (ks_row (n := 9) (by kernel_rfl) (by kernel_rfl) (by kernel_rfl)), trivial⟩, AllT.none', trivial⟩⟩, AllT.none', ⟨⟨trivial, AllT.none', ⟨⟨trivial, AllT.none', ⟨⟨⟨trivial, AllT.some' (ks_row (n := 148) (by kernel_rfl) (by kernel_rfl) (by kernel_rfl)), trivial⟩, AllT.none', trivial⟩, AllT.none', trivial⟩⟩, AllT.none', trivial⟩⟩, AllT.none', ⟨trivial, AllT.none', ⟨⟨⟨trivial, AllT.none', ⟨trivial, AllT.some' (ks_row (n := 102) (by kernel_rfl) (by kernel_rfl) (by kernel_rfl)), trivial⟩⟩, AllT.none', trivial⟩, AllT.none', ⟨⟨trivial, AllT.none', ⟨⟨⟨trivial, AllT.some' (ks_row (n := 302) (by kernel_rfl) (by kernel_rfl) (by kernel_rfl)), trivial⟩, AllT.none', trivial⟩, AllT.none', trivial⟩⟩, AllT.none', ⟨⟨trivial, AllT.some' (ks_row (n := 94) (by kernel_rfl) (by kernel_rfl) (by kernel_rfl)), trivial⟩, AllT.none', ⟨trivial, AllT.none', ⟨trivial, AllT.some' (ks_row (n := 254) (by kernel_rfl) (by kernel_rfl) (by kernel_rfl)), trivial⟩⟩⟩⟩⟩⟩⟩⟩
set_option maxRecDepth 20000 in
theorem me100 : MeRow Tryz.prog (.i (.o (.i (.o (.o (.i (.h))))))) ("String", t239, 0, false) := me_row (n := 100) (by kernel_rfl) (g := 238) (by kernel_rfl) (i := (Tryz.prog.info? 100).get (by kernel_rfl)) (by kernel_rfl) (m := (((Tryz.prog.info? 100).get (by kernel_rfl)).methods.find? (·.name == "String")).get (by kernel_rfl)) (by kernel_rfl) (by kernel_rfl) (by kernel_rfl) (d := (Tryz.prog.underlying 100).get (by kernel_rfl)) (by kernel_rfl) (by kernel_rfl)
set_option maxRecDepth 20000 in
theorem me102 : MeRow Tryz.prog (.i (.i (.i (.o (.o (.i (.h))))))) ("String", t245, 0, false) := me_row (n := 102) (by kernel_rfl) (g := 244) (by kernel_rfl) (i := (Tryz.prog.info? 102).get (by kernel_rfl)) (by kernel_rfl) (m := (((Tryz.prog.info? 102).get (by kernel_rfl)).methods.find? (·.name == "String")).get (by kernel_rfl)) (by kernel_rfl) (by kernel_rfl) (by kernel_rfl) (d := (Tryz.prog.underlying 102).get (by kernel_rfl)) (by kernel_rfl) (by kernel_rfl)
set_option maxRecDepth 20000 in
theorem me148 : MeRow Tryz.prog (.i (.o (.i (.o (.i (.o (.o (.h)))))))) ("String", t246, 0, false) := me_row (n := 148) (by kernel_rfl) (g := 245) (by kernel_rfl) (i := (Tryz.prog.info? 148).get (by kernel_rfl)) (by kernel_rfl) (m := (((Tryz.prog.info? 148).get (by kernel_rfl)).methods.find? (·.name == "String")).get (by kernel_rfl)) (by kernel_rfl) (by kernel_rfl) (by kernel_rfl) (d := (Tryz.prog.underlying 148).get (by kernel_rfl)) (by kernel_rfl) (by kernel_rfl)
set_option maxRecDepth 20000 in
theorem me149 : MeRow Tryz.prog (.o (.i (.i (.o (.i (.o (.o (.h)))))))) ("String", t247, 0, false) := me_row (n := 149) (by kernel_rfl) (g := 246) (by kernel_rfl) (i := (Tryz.prog.info? 149).get (by kernel_rfl)) (by kernel_rfl) (m := (((Tryz.prog.info? 149).get (by kernel_rfl)).methods.find? (·.name == "String")).get (by kernel_rfl)) (by kernel_rfl) (by kernel_rfl) (by kernel_rfl) (d := (Tryz.prog.underlying 149).get (by kernel_rfl)) (by kernel_rfl) (by kernel_rfl)
set_option maxRecDepth 20000 in
theorem me94 : MeRow Tryz.prog (.i (.i (.i (.i (.i (.o (.h))))))) ("String", t238, 0, false) := me_row (n := 94) (by kernel_rfl) (g := 237) (by kernel_rfl) (i := (Tryz.prog.info? 94).get (by kernel_rfl)) (by kernel_rfl) (m := (((Tryz.prog.info? 94).get (by kernel_rfl)).methods.find? (·.name == "String")).get (by kernel_rfl)) (by kernel_rfl) (by kernel_rfl) (by kernel_rfl) (d := (Tryz.prog.underlying 94).get (by kernel_rfl)) (by kernel_rfl) (by kernel_rfl)
theorem me_ok : MeOk Tryz.prog (meOf meT) := me_of (tab := meT) ⟨⟨trivial, AllT.none', ⟨trivial, AllT.none', ⟨⟨trivial, AllT.none', ⟨⟨⟨trivial, AllT.some' me149, trivial⟩, AllT.none', trivial⟩, AllT.none', trivial⟩⟩, AllT.none', trivial⟩⟩⟩, AllT.none', ⟨⟨trivial, AllT.none', ⟨⟨⟨trivial, AllT.none', ⟨trivial, AllT.some' me100, trivial⟩⟩, AllT.none', ⟨⟨⟨trivial, AllT.some' me148, trivial⟩, AllT.none', trivial⟩, AllT.none', trivial⟩⟩, AllT.none', trivial⟩⟩, AllT.none', ⟨trivial, AllT.none', ⟨⟨⟨trivial, AllT.none', ⟨trivial, AllT.some' me102, trivial⟩⟩, AllT.none', trivial⟩, AllT.none', ⟨trivial, AllT.none', ⟨⟨trivial, AllT.some' me94, trivial⟩, AllT.none', trivial⟩⟩⟩⟩⟩⟩
noncomputable def ctx : Ctx where
  P := Tryz.prog
  G := gG
  X imm := ∃ m ty fr, imm 3 = some (.cells #[.int .i64 m] ty fr)
  grows := fun f f' h ⟨m, ty, fr, e⟩ => ⟨m, ty, fr, h _ _ e⟩
def OvRow (p : Nm) (h : List V → St → T (V × St)) : Prop := ∀ g, nm g = p → ∀ ρ s w args cargs R, Inv ctx ρ s w → GR ctx ρ → AR ρ args cargs → (h args s).All 2 R → Gives ctx.P (Post ctx ρ s w R) ((callFunc g cargs).run ctx.P w)
theorem maxlen {ρ : Rho} {s : St} {w : World} (hI : Inv ctx ρ s w) (hG : GR ctx ρ) : ∃ m, w.cell? ⟨3, 0, none⟩ = some (.int .i64 m) := by
  obtain ⟨m, ty, fr, e⟩ := hG.more
  exact ⟨m, by rw [cell_of_heap (hI.imm _ _ e)]; rfl⟩
theorem nm_of {g n : Nat} {p : Nm} (hp : p.val = n + 1) (h : nm g = p) : g = n := by have := congrArg Nm.val h; rw [val_nm, hp] at this; omega
theorem OvRow.of {br n : Nat} {p : Nm} {h : List V → St → T (V × St)} (hb : br = 2) (hp : p.val = n + 1) (hh : OverOk ctx br n h) : OvRow p h := by
  intro g hg
  obtain rfl := nm_of hp hg
  subst hb
  exact hh
theorem run154 (a b : ByteArray) (w : World) : (callFunc 154 #[.string a, .string b]).run Tryz.prog w = .ok (.value (.int .i64 (Lib.compareBytes a.data.toList b.data.toList))) w := by rw [run_callFunc_extern Tryz.func154 rfl rfl rfl rfl, Lib.run_compareString]; rfl
set_option maxRecDepth 20000 in
theorem ov154 : OvRow (.i (.i (.o (.i (.i (.o (.o (.h)))))))) ovCmp := by
  intro g hg ρ s w args cargs R hI hG hA h
  obtain rfl := nm_of (n := 154) (by kernel_rfl) hg
  exact over_cmp hI hA h (fun a b => run154 a b w)
theorem run159 (cargs : Array Value) (w : World) : (callFunc 159 cargs).run Tryz.prog w = .ok (.enter 159 cargs) w := enters_of Tryz.func159 (by kernel_rfl) rfl cargs w
set_option maxRecDepth 20000 in
theorem ov159 : OvRow (.o (.o (.o (.o (.o (.i (.o (.h)))))))) ovIx := by
  intro g hg ρ s w args cargs R hI hG hA h
  obtain rfl := nm_of (n := 159) (by kernel_rfl) hg
  obtain ⟨m, hm⟩ := maxlen hI hG
  exact over_ix hI hA h (fun cargs => run159 cargs w) (fun a b hab => Any.stringslite_Index Tryz.lays219 a b m w hab hm)
theorem run178 (cargs : Array Value) (w : World) : (callFunc 178 cargs).run Tryz.prog w = .ok (.enter 178 cargs) w := enters_of Tryz.func178 (by kernel_rfl) rfl cargs w
set_option maxRecDepth 20000 in
theorem ov178 : OvRow (.i (.i (.o (.o (.i (.i (.o (.h)))))))) ovIx := by
  intro g hg ρ s w args cargs R hI hG hA h
  obtain rfl := nm_of (n := 178) (by kernel_rfl) hg
  obtain ⟨m, hm⟩ := maxlen hI hG
  exact over_ix hI hA h (fun cargs => run178 cargs w) (fun a b hab => Any.strings_Index Tryz.lays143 a b m w hab hm)
theorem run204 (a : ByteArray) (c : Int) (w : World) : (callFunc 204 #[.string a, .int .u8 c]).run Tryz.prog w = .ok (.value (.int .i64 (Lib.countByte a.data.toList c.toNat.toUInt8))) w := by rw [run_callFunc_extern Tryz.func204 rfl rfl rfl rfl, Lib.run_countString]; rfl
set_option maxRecDepth 20000 in
theorem ov204 : OvRow (.i (.o (.i (.i (.o (.o (.i (.h)))))))) ovCnt := by
  intro g hg ρ s w args cargs R hI hG hA h
  obtain rfl := nm_of (n := 204) (by kernel_rfl) hg
  exact over_cnt hI hA h (fun a c => run204 a c w)
theorem run210 (a : ByteArray) (c : Int) (w : World) : (callFunc 210 #[.string a, .int .u8 c]).run Tryz.prog w = .ok (.value (.int .i64 (Lib.indexByte a.data.toList c.toNat.toUInt8))) w := by rw [run_callFunc_extern Tryz.func210 rfl rfl rfl rfl, Lib.run_indexByteString]; rfl
set_option maxRecDepth 20000 in
theorem ov210 : OvRow (.i (.i (.o (.o (.i (.o (.i (.h)))))))) ovIxB := by
  intro g hg ρ s w args cargs R hI hG hA h
  obtain rfl := nm_of (n := 210) (by kernel_rfl) hg
  exact over_ixB hI hA h (fun a c => run210 a c w)
theorem run243 (x : Value) (w : World) : (callFunc 243 #[x]).run Tryz.prog w = .ok (.value (x)) w := by rw [run_callFunc_extern Tryz.func243 rfl rfl rfl rfl]; rfl
set_option maxRecDepth 20000 in
theorem ov243 : OvRow (.o (.o (.i (.o (.i (.i (.i (.h)))))))) ovNo := by
  intro g hg ρ s w args cargs R hI hG hA h
  obtain rfl := nm_of (n := 243) (by kernel_rfl) hg
  exact over_no hI hA h (fun x => run243 x w)
set_option maxRecDepth 20000 in
theorem ov_ok0 : AllT OvRow overT0 := ⟨⟨⟨⟨⟨⟨trivial, AllT.none', ⟨⟨trivial, AllT.some' ov159, trivial⟩, AllT.none', trivial⟩⟩, AllT.none', trivial⟩, AllT.none', trivial⟩, AllT.none', ⟨⟨trivial, AllT.none', ⟨trivial, AllT.none', ⟨trivial, AllT.none', ⟨trivial, AllT.some' ov243, trivial⟩⟩⟩⟩, AllT.none', trivial⟩⟩, AllT.none', trivial⟩, AllT.none', ⟨⟨trivial, AllT.none', ⟨trivial, AllT.none', ⟨⟨⟨trivial, AllT.none', ⟨trivial, AllT.some' ov204, trivial⟩⟩, AllT.none', trivial⟩, AllT.none', trivial⟩⟩⟩, AllT.none', ⟨⟨⟨trivial, AllT.none', ⟨⟨trivial, AllT.none', ⟨trivial, AllT.some' ov210, trivial⟩⟩, AllT.none', ⟨⟨trivial, AllT.some' ov178, trivial⟩, AllT.none', trivial⟩⟩⟩, AllT.none', ⟨trivial, AllT.none', ⟨⟨⟨trivial, AllT.some' ov154, trivial⟩, AllT.none', trivial⟩, AllT.none', trivial⟩⟩⟩, AllT.none', trivial⟩⟩⟩
set_option maxRecDepth 20000 in
theorem env_ok0 : EnvOk ctx kE0 where
  fns := fun g fn h => fns_ok h
  over := fun g h he => by
    have he' : getT (nm g) overT0 = some h := he
    rw [getT_eq] at he'
    exact AllT.get ov_ok0 he' g rfl
  mixed := by kernel_rfl
  ks := ks_ok
  hm := fun _ _ _ h => by cases h
  methods := me_ok
theorem kept56 : allB 2 (chk memoV56 memoR56 t305) ((kcall kE0 ktab0 10000 3000).f t57 [] St.start fun v s => .ret (v, s)) = true := by decide +kernel
set_option maxRecDepth 20000 in
theorem ov56 : OvRow (.i (.o (.o (.i (.i (.h)))))) (memoX memoV56 memoR56 t305) := by
  intro g hg ρ s w args cargs R hI hG hA h
  obtain rfl := nm_of (n := 56) (by kernel_rfl) hg
  rw [memoX_eq] at h
  have e : nm 56 = t57 := Nm.val_inj (by rw [val_nm]; kernel_rfl)
  have hov : kE0.over (nm 56) = none := by rw [e]; kernel_rfl
  have hk := kept56
  rw [← e] at hk
  exact memo_ok env_ok0 tab_ok0 hov hk hI hG hA h
theorem kept142 : allB 2 (chk memoV142 memoR142 t350) ((kcall kE0 ktab0 10000 3000).f t143 [] St.start fun v s => .ret (v, s)) = true := by decide +kernel
set_option maxRecDepth 20000 in
theorem ov142 : OvRow (.i (.i (.i (.i (.o (.o (.o (.h)))))))) (memoX memoV142 memoR142 t350) := by
  intro g hg ρ s w args cargs R hI hG hA h
  obtain rfl := nm_of (n := 142) (by kernel_rfl) hg
  rw [memoX_eq] at h
  have e : nm 142 = t143 := Nm.val_inj (by rw [val_nm]; kernel_rfl)
  have hov : kE0.over (nm 142) = none := by rw [e]; kernel_rfl
  have hk := kept142
  rw [← e] at hk
  exact memo_ok env_ok0 tab_ok0 hov hk hI hG hA h
end Go.Eng
