/- The first layer: rows of pure functions and dialect.Core are kept. -/
import Derived.Test.YtfblhonbphjiaaaGreatDoorTb
import Derived.KernelRfl
import Derived.Shelf.Strings.Search2
import Derived.Shelf.Strings.Search3
set_option linter.unusedVariables false
set_option linter.unusedSimpArgs false
set_option maxRecDepth 20000
set_option maxHeartbeats 4000000
namespace Go.Proofs
open Go.Shelf
def Tryz.lays219_ren : Go.Shelf.Ren := ⟨fun | 219 => 237 | 217 => 299 | 225 => 300 | 224 => 301 | 267 => 302 | 266 => 336 | 314 => 337 | n => n, fun | 9 => 9 | 3 => 3 | 4 => 4 | 5 => 5 | 46 => 22 | 146 => 491 | 51 => 402 | n => n, fun | 1 => 4 | n => n⟩
theorem Tryz.lays219 : Go.Proofs.Lays.n219 Tryz.prog Tryz.lays219_ren where
  mixed := by kernel_rfl
  f217 := Tryz.func299.trans (congrArg some (by kernel_rfl))
  f219 := Tryz.func237.trans (congrArg some (by kernel_rfl))
  f224 := Tryz.func301.trans (congrArg some (by kernel_rfl))
  f225 := Tryz.func300.trans (congrArg some (by kernel_rfl))
  f266 := Tryz.func336.trans (congrArg some (by kernel_rfl))
  f267 := Tryz.func302.trans (congrArg some (by kernel_rfl))
  f314 := Tryz.func337.trans (congrArg some (by kernel_rfl))
  t3 := Tryz.underlying3
  a3 := Tryz.isAgg3
  z3 := Tryz.sizeOf3
  v3 := Tryz.zeroValue3
  t4 := Tryz.underlying4
  a4 := Tryz.isAgg4
  z4 := Tryz.sizeOf4
  v4 := Tryz.zeroValue4
  t5 := Tryz.underlying5
  a5 := Tryz.isAgg5
  z5 := Tryz.sizeOf5
  v5 := Tryz.zeroValue5
  t9 := Tryz.underlying9
  a9 := Tryz.isAgg9
  z9 := Tryz.sizeOf9
  v9 := Tryz.zeroValue9
  t46 := Tryz.underlying22
  a46 := Tryz.isAgg22
  z46 := Tryz.sizeOf22
  v46 := Tryz.zeroValue22
  t51 := Tryz.underlying402
  a51 := Tryz.isAgg402
  z51 := Tryz.sizeOf402
  v51 := Tryz.zeroValue402
  t146 := Tryz.underlying491
  a146 := Tryz.isAgg491
  z146 := Tryz.sizeOf491
  v146 := Tryz.zeroValue491
  g1 := by kernel_rfl
def Tryz.lays143_ren : Go.Shelf.Ren := ⟨fun | 143 => 293 | 219 => 237 | 217 => 299 | 225 => 300 | 224 => 301 | 267 => 302 | 266 => 336 | 314 => 337 | n => n, fun | 9 => 9 | 3 => 3 | 4 => 4 | 5 => 5 | 46 => 22 | 146 => 491 | 51 => 402 | n => n, fun | 1 => 4 | n => n⟩
theorem Tryz.lays143 : Go.Proofs.Lays.n143 Tryz.prog Tryz.lays143_ren where
  mixed := by kernel_rfl
  f143 := Tryz.func293.trans (congrArg some (by kernel_rfl))
  f217 := Tryz.func299.trans (congrArg some (by kernel_rfl))
  f219 := Tryz.func237.trans (congrArg some (by kernel_rfl))
  f224 := Tryz.func301.trans (congrArg some (by kernel_rfl))
  f225 := Tryz.func300.trans (congrArg some (by kernel_rfl))
  f266 := Tryz.func336.trans (congrArg some (by kernel_rfl))
  f267 := Tryz.func302.trans (congrArg some (by kernel_rfl))
  f314 := Tryz.func337.trans (congrArg some (by kernel_rfl))
  t3 := Tryz.underlying3
  a3 := Tryz.isAgg3
  z3 := Tryz.sizeOf3
  v3 := Tryz.zeroValue3
  t4 := Tryz.underlying4
  a4 := Tryz.isAgg4
  z4 := Tryz.sizeOf4
  v4 := Tryz.zeroValue4
  t5 := Tryz.underlying5
  a5 := Tryz.isAgg5
  z5 := Tryz.sizeOf5
  v5 := Tryz.zeroValue5
  t9 := Tryz.underlying9
  a9 := Tryz.isAgg9
  z9 := Tryz.sizeOf9
  v9 := Tryz.zeroValue9
  t46 := Tryz.underlying22
  a46 := Tryz.isAgg22
  z46 := Tryz.sizeOf22
  v46 := Tryz.zeroValue22
  t51 := Tryz.underlying402
  a51 := Tryz.isAgg402
  z51 := Tryz.sizeOf402
  v51 := Tryz.zeroValue402
  t146 := Tryz.underlying491
  a146 := Tryz.isAgg491
  z146 := Tryz.sizeOf491
  v146 := Tryz.zeroValue491
  g1 := by kernel_rfl
end Go.Proofs
namespace Go.Eng
open Go.Proofs
theorem ks_ok : KsOk Tryz.prog fun t => ksT.get (nm t) := ks_of (tab := ksT) ⟨⟨⟨⟨trivial, AllT.none', ⟨⟨⟨trivial, AllT.none', ⟨trivial, AllT.some' (ks_row (n := 199) (by kernel_rfl) (by kernel_rfl) (by kernel_rfl)), trivial⟩⟩, AllT.none', trivial⟩, AllT.none', trivial⟩⟩, AllT.none', trivial⟩, AllT.none', ⟨⟨trivial, AllT.some' (ks_row (n := 9) (by kernel_rfl) (by kernel_rfl) (by kernel_rfl)), trivial⟩, AllT.none', trivial⟩⟩, AllT.none', ⟨⟨trivial, AllT.none', ⟨trivial, AllT.none', ⟨trivial, AllT.none', ⟨⟨trivial, AllT.none', ⟨trivial, AllT.some' (ks_row (n := 220) (by kernel_rfl) (by kernel_rfl) (by kernel_rfl)), trivial⟩⟩, AllT.none', trivial⟩⟩⟩⟩, AllT.none', ⟨⟨⟨trivial, AllT.none', ⟨trivial, AllT.none', ⟨trivial, AllT.none', ⟨trivial, AllT.none', ⟨trivial, AllT.some' (ks_row (n := 498) (by kernel_rfl) (by kernel_rfl) (by kernel_rfl)), trivial⟩⟩⟩⟩⟩, AllT.none', ⟨⟨trivial, AllT.none', ⟨trivial, AllT.none', ⟨⟨trivial, AllT.some' (ks_row (n := 362) (by kernel_rfl) (by kernel_rfl) (by kernel_rfl)), trivial⟩, AllT.none', trivial⟩⟩⟩, AllT.none', ⟨trivial, AllT.none', ⟨⟨⟨trivial, AllT.some' (ks_row (n := 314) (by kernel_rfl) (by kernel_rfl) (by kernel_rfl)), trivial⟩, AllT.none', trivial⟩, AllT.none', trivial⟩⟩⟩⟩, AllT.none', ⟨trivial, AllT.none', ⟨trivial, AllT.none', ⟨trivial, AllT.none', ⟨⟨trivial, AllT.some' (ks_row (n := 190) (by kernel_rfl) (by kernel_rfl) (by kernel_rfl)), trivial⟩, AllT.none', trivial⟩⟩⟩⟩⟩⟩⟩
set_option maxRecDepth 20000 in
theorem me143 : MeRow Tryz.prog (.o (.o (.o (.o (.i (.o (.o (.h)))))))) ("String", t436, 0, false) := me_row (n := 143) (by kernel_rfl) (g := 435) (by kernel_rfl) (i := (Tryz.prog.info? 143).get (by kernel_rfl)) (by kernel_rfl) (m := (((Tryz.prog.info? 143).get (by kernel_rfl)).methods.find? (·.name == "String")).get (by kernel_rfl)) (by kernel_rfl) (by kernel_rfl) (by kernel_rfl) (d := (Tryz.prog.underlying 143).get (by kernel_rfl)) (by kernel_rfl) (by kernel_rfl)
set_option maxRecDepth 20000 in
theorem me190 : MeRow Tryz.prog (.i (.i (.i (.i (.i (.i (.o (.h)))))))) ("String", t438, 0, false) := me_row (n := 190) (by kernel_rfl) (g := 437) (by kernel_rfl) (i := (Tryz.prog.info? 190).get (by kernel_rfl)) (by kernel_rfl) (m := (((Tryz.prog.info? 190).get (by kernel_rfl)).methods.find? (·.name == "String")).get (by kernel_rfl)) (by kernel_rfl) (by kernel_rfl) (by kernel_rfl) (d := (Tryz.prog.underlying 190).get (by kernel_rfl)) (by kernel_rfl) (by kernel_rfl)
set_option maxRecDepth 20000 in
theorem me194 : MeRow Tryz.prog (.i (.i (.o (.o (.o (.o (.i (.h)))))))) ("String", t439, 0, false) := me_row (n := 194) (by kernel_rfl) (g := 438) (by kernel_rfl) (i := (Tryz.prog.info? 194).get (by kernel_rfl)) (by kernel_rfl) (m := (((Tryz.prog.info? 194).get (by kernel_rfl)).methods.find? (·.name == "String")).get (by kernel_rfl)) (by kernel_rfl) (by kernel_rfl) (by kernel_rfl) (d := (Tryz.prog.underlying 194).get (by kernel_rfl)) (by kernel_rfl) (by kernel_rfl)
set_option maxRecDepth 20000 in
theorem me199 : MeRow Tryz.prog (.o (.o (.o (.i (.o (.o (.i (.h)))))))) ("String", t440, 0, false) := me_row (n := 199) (by kernel_rfl) (g := 439) (by kernel_rfl) (i := (Tryz.prog.info? 199).get (by kernel_rfl)) (by kernel_rfl) (m := (((Tryz.prog.info? 199).get (by kernel_rfl)).methods.find? (·.name == "String")).get (by kernel_rfl)) (by kernel_rfl) (by kernel_rfl) (by kernel_rfl) (d := (Tryz.prog.underlying 199).get (by kernel_rfl)) (by kernel_rfl) (by kernel_rfl)
set_option maxRecDepth 20000 in
theorem me220 : MeRow Tryz.prog (.i (.o (.i (.i (.i (.o (.i (.h)))))))) ("String", t110, 0, false) := me_row (n := 220) (by kernel_rfl) (g := 109) (by kernel_rfl) (i := (Tryz.prog.info? 220).get (by kernel_rfl)) (by kernel_rfl) (m := (((Tryz.prog.info? 220).get (by kernel_rfl)).methods.find? (·.name == "String")).get (by kernel_rfl)) (by kernel_rfl) (by kernel_rfl) (by kernel_rfl) (d := (Tryz.prog.underlying 220).get (by kernel_rfl)) (by kernel_rfl) (by kernel_rfl)
theorem me_ok : MeOk Tryz.prog (meOf meT) := me_of (tab := meT) ⟨⟨⟨⟨⟨trivial, AllT.none', ⟨⟨⟨trivial, AllT.some' me143, trivial⟩, AllT.none', trivial⟩, AllT.none', trivial⟩⟩, AllT.none', ⟨⟨⟨trivial, AllT.none', ⟨trivial, AllT.some' me199, trivial⟩⟩, AllT.none', trivial⟩, AllT.none', trivial⟩⟩, AllT.none', trivial⟩, AllT.none', trivial⟩, AllT.none', ⟨⟨trivial, AllT.none', ⟨trivial, AllT.none', ⟨trivial, AllT.none', ⟨⟨trivial, AllT.none', ⟨trivial, AllT.some' me220, trivial⟩⟩, AllT.none', trivial⟩⟩⟩⟩, AllT.none', ⟨⟨⟨⟨⟨trivial, AllT.none', ⟨trivial, AllT.some' me194, trivial⟩⟩, AllT.none', trivial⟩, AllT.none', trivial⟩, AllT.none', trivial⟩, AllT.none', ⟨trivial, AllT.none', ⟨trivial, AllT.none', ⟨trivial, AllT.none', ⟨⟨trivial, AllT.some' me190, trivial⟩, AllT.none', trivial⟩⟩⟩⟩⟩⟩⟩
noncomputable def ctx : Ctx where
  P := Tryz.prog
  G := gG
  X imm := ∃ m ty fr, imm 4 = some (.cells #[.int .i64 m] ty fr)
  grows := fun f f' h ⟨m, ty, fr, e⟩ => ⟨m, ty, fr, h _ _ e⟩
def OvRow (p : Nm) (h : List V → St → T (V × St)) : Prop := ∀ g, nm g = p → ∀ ρ s w args cargs R, Inv ctx ρ s w → GR ctx ρ → AR ρ args cargs → (h args s).All 3 R → Gives ctx.P (Post ctx ρ s w R) ((callFunc g cargs).run ctx.P w)
theorem maxlen {ρ : Rho} {s : St} {w : World} (hI : Inv ctx ρ s w) (hG : GR ctx ρ) : ∃ m, w.cell? ⟨4, 0, none⟩ = some (.int .i64 m) := by
  obtain ⟨m, ty, fr, e⟩ := hG.more
  exact ⟨m, by rw [cell_of_heap (hI.imm _ _ e)]; rfl⟩
theorem nm_of {g n : Nat} {p : Nm} (hp : p.val = n + 1) (h : nm g = p) : g = n := by have := congrArg Nm.val h; rw [val_nm, hp] at this; omega
theorem OvRow.of {br n : Nat} {p : Nm} {h : List V → St → T (V × St)} (hb : br = 3) (hp : p.val = n + 1) (hh : OverOk ctx br n h) : OvRow p h := by
  intro g hg
  obtain rfl := nm_of hp hg
  subst hb
  exact hh
theorem run154 (x : Value) (w : World) : (callFunc 154 #[x]).run Tryz.prog w = .ok (.value (x)) w := by rw [run_callFunc_extern Tryz.func154 rfl rfl rfl rfl]; rfl
set_option maxRecDepth 20000 in
theorem ov154 : OvRow (.i (.i (.o (.i (.i (.o (.o (.h)))))))) ovNo := by
  intro g hg ρ s w args cargs R hI hG hA h
  obtain rfl := nm_of (n := 154) (by kernel_rfl) hg
  exact over_no hI hA h (fun x => run154 x w)
theorem run236 (a b : ByteArray) (w : World) : (callFunc 236 #[.string a, .string b]).run Tryz.prog w = .ok (.value (.int .i64 (Lib.compareBytes a.data.toList b.data.toList))) w := by rw [run_callFunc_extern Tryz.func236 rfl rfl rfl rfl, Lib.run_compareString]; rfl
set_option maxRecDepth 20000 in
theorem ov236 : OvRow (.i (.o (.i (.i (.o (.i (.i (.h)))))))) ovCmp := by
  intro g hg ρ s w args cargs R hI hG hA h
  obtain rfl := nm_of (n := 236) (by kernel_rfl) hg
  exact over_cmp hI hA h (fun a b => run236 a b w)
theorem run237 (cargs : Array Value) (w : World) : (callFunc 237 cargs).run Tryz.prog w = .ok (.enter 237 cargs) w := enters_of Tryz.func237 (by kernel_rfl) rfl cargs w
set_option maxRecDepth 20000 in
theorem ov237 : OvRow (.o (.i (.i (.i (.o (.i (.i (.h)))))))) ovIx := by
  intro g hg ρ s w args cargs R hI hG hA h
  obtain rfl := nm_of (n := 237) (by kernel_rfl) hg
  obtain ⟨m, hm⟩ := maxlen hI hG
  exact over_ix hI hA h (fun cargs => run237 cargs w) (fun a b hab => Any.stringslite_Index Tryz.lays219 a b m w hab hm)
theorem run293 (cargs : Array Value) (w : World) : (callFunc 293 cargs).run Tryz.prog w = .ok (.enter 293 cargs) w := enters_of Tryz.func293 (by kernel_rfl) rfl cargs w
set_option maxRecDepth 20000 in
theorem ov293 : OvRow (.o (.i (.i (.o (.o (.i (.o (.o (.h))))))))) ovIx := by
  intro g hg ρ s w args cargs R hI hG hA h
  obtain rfl := nm_of (n := 293) (by kernel_rfl) hg
  obtain ⟨m, hm⟩ := maxlen hI hG
  exact over_ix hI hA h (fun cargs => run293 cargs w) (fun a b hab => Any.strings_Index Tryz.lays143 a b m w hab hm)
theorem run334 (a : ByteArray) (c : Int) (w : World) : (callFunc 334 #[.string a, .int .u8 c]).run Tryz.prog w = .ok (.value (.int .i64 (Lib.countByte a.data.toList c.toNat.toUInt8))) w := by rw [run_callFunc_extern Tryz.func334 rfl rfl rfl rfl, Lib.run_countString]; rfl
set_option maxRecDepth 20000 in
theorem ov334 : OvRow (.i (.i (.i (.i (.o (.o (.i (.o (.h))))))))) ovCnt := by
  intro g hg ρ s w args cargs R hI hG hA h
  obtain rfl := nm_of (n := 334) (by kernel_rfl) hg
  exact over_cnt hI hA h (fun a c => run334 a c w)
theorem run336 (a : ByteArray) (c : Int) (w : World) : (callFunc 336 #[.string a, .int .u8 c]).run Tryz.prog w = .ok (.value (.int .i64 (Lib.indexByte a.data.toList c.toNat.toUInt8))) w := by rw [run_callFunc_extern Tryz.func336 rfl rfl rfl rfl, Lib.run_indexByteString]; rfl
set_option maxRecDepth 20000 in
theorem ov336 : OvRow (.i (.o (.o (.o (.i (.o (.i (.o (.h))))))))) ovIxB := by
  intro g hg ρ s w args cargs R hI hG hA h
  obtain rfl := nm_of (n := 336) (by kernel_rfl) hg
  exact over_ixB hI hA h (fun a c => run336 a c w)
set_option maxRecDepth 20000 in
theorem ov_ok0 : AllT OvRow overT0 := ⟨⟨trivial, AllT.none', ⟨trivial, AllT.none', ⟨⟨⟨trivial, AllT.none', ⟨⟨⟨trivial, AllT.some' ov293, trivial⟩, AllT.none', trivial⟩, AllT.none', trivial⟩⟩, AllT.none', trivial⟩, AllT.none', ⟨⟨trivial, AllT.none', ⟨trivial, AllT.none', ⟨trivial, AllT.some' ov237, trivial⟩⟩⟩, AllT.none', trivial⟩⟩⟩⟩, AllT.none', ⟨⟨⟨⟨trivial, AllT.none', ⟨⟨trivial, AllT.none', ⟨⟨trivial, AllT.some' ov336, trivial⟩, AllT.none', trivial⟩⟩, AllT.none', trivial⟩⟩, AllT.none', trivial⟩, AllT.none', ⟨trivial, AllT.none', ⟨⟨trivial, AllT.none', ⟨trivial, AllT.none', ⟨trivial, AllT.some' ov236, trivial⟩⟩⟩, AllT.none', trivial⟩⟩⟩, AllT.none', ⟨⟨trivial, AllT.none', ⟨trivial, AllT.none', ⟨⟨⟨trivial, AllT.some' ov154, trivial⟩, AllT.none', trivial⟩, AllT.none', trivial⟩⟩⟩, AllT.none', ⟨trivial, AllT.none', ⟨⟨⟨trivial, AllT.none', ⟨⟨trivial, AllT.some' ov334, trivial⟩, AllT.none', trivial⟩⟩, AllT.none', trivial⟩, AllT.none', trivial⟩⟩⟩⟩⟩
set_option maxRecDepth 20000 in
theorem env_ok0 : EnvOk ctx kE0 where
  fns := fun g fn h => fns_ok h
  over := fun g h he => by
    have he' : getT (nm g) overT0 = some h := he
    rw [getT_eq] at he'
    exact AllT.get ov_ok0 he' g rfl
  mixed := by kernel_rfl
  ks := ks_ok
  hm := fun _ _ _ h => by cases h
  methods := me_ok
theorem kept53 : allB 3 (chk memoV53 memoR53 t305) ((kcall kE0 ktab 10000 3000).f t54 [] St.start fun v s => .ret (v, s)) = true := by decide +kernel
set_option maxRecDepth 20000 in
theorem ov53 : OvRow (.o (.i (.i (.o (.i (.h)))))) (memoX memoV53 memoR53 t305) := by
  intro g hg ρ s w args cargs R hI hG hA h
  obtain rfl := nm_of (n := 53) (by kernel_rfl) hg
  rw [memoX_eq] at h
  have e : nm 53 = t54 := Nm.val_inj (by rw [val_nm]; kernel_rfl)
  have hov : kE0.over (nm 53) = none := by rw [e]; kernel_rfl
  have hk := kept53
  rw [← e] at hk
  exact memo_ok env_ok0 tab_ok0 hov hk hI hG hA h
theorem kR47_0 : KeptP kE0 ktab 47 10000 3000 (rA47_0, rR47_0) := ⟨by decide +kernel, by decide +kernel, by decide +kernel⟩
theorem ov47 : OvRow (.o (.o (.o (.o (.i (.h)))))) (memoP rT47) := .of (br := kE0.branch) rfl (n := 47) (by kernel_rfl) (memoP_ok env_ok0 tab_ok0 (by kernel_rfl) (List.forall_mem_cons.2 ⟨kR47_0, fun _ h => nomatch h⟩))
theorem kR131_0 : KeptP kE0 ktab 131 10000 3000 (rA131_0, rR131_0) := ⟨by decide +kernel, by decide +kernel, by decide +kernel⟩
theorem kR131_1 : KeptP kE0 ktab 131 10000 3000 (rA131_1, rR131_1) := ⟨by decide +kernel, by decide +kernel, by decide +kernel⟩
theorem ov131 : OvRow (.o (.o (.i (.o (.o (.o (.o (.h)))))))) (memoP rT131) := .of (br := kE0.branch) rfl (n := 131) (by kernel_rfl) (memoP_ok env_ok0 tab_ok0 (by kernel_rfl) (List.forall_mem_cons.2 ⟨kR131_0, List.forall_mem_cons.2 ⟨kR131_1, fun _ h => nomatch h⟩⟩))
theorem kR96_0 : KeptP kE0 ktab 96 10000 3000 (rA96_0, rR96_0) := ⟨by decide +kernel, by decide +kernel, by decide +kernel⟩
theorem kR96_1 : KeptP kE0 ktab 96 10000 3000 (rA96_1, rR96_1) := ⟨by decide +kernel, by decide +kernel, by decide +kernel⟩
theorem kR96_2 : KeptP kE0 ktab 96 10000 3000 (rA96_2, rR96_2) := ⟨by decide +kernel, by decide +kernel, by decide +kernel⟩
theorem kR96_3 : KeptP kE0 ktab 96 10000 3000 (rA96_3, rR96_3) := ⟨by decide +kernel, by decide +kernel, by decide +kernel⟩
theorem kR96_4 : KeptP kE0 ktab 96 10000 3000 (rA96_4, rR96_4) := ⟨by decide +kernel, by decide +kernel, by decide +kernel⟩
theorem kR96_5 : KeptP kE0 ktab 96 10000 3000 (rA96_5, rR96_5) := ⟨by decide +kernel, by decide +kernel, by decide +kernel⟩
theorem kR96_6 : KeptP kE0 ktab 96 10000 3000 (rA96_6, rR96_6) := ⟨by decide +kernel, by decide +kernel, by decide +kernel⟩
theorem kR96_7 : KeptP kE0 ktab 96 10000 3000 (rA96_7, rR96_7) := ⟨by decide +kernel, by decide +kernel, by decide +kernel⟩
theorem kR96_8 : KeptP kE0 ktab 96 10000 3000 (rA96_8, rR96_8) := ⟨by decide +kernel, by decide +kernel, by decide +kernel⟩
theorem kR96_9 : KeptP kE0 ktab 96 10000 3000 (rA96_9, rR96_9) := ⟨by decide +kernel, by decide +kernel, by decide +kernel⟩
theorem kR96_10 : KeptP kE0 ktab 96 10000 3000 (rA96_10, rR96_10) := ⟨by decide +kernel, by decide +kernel, by decide +kernel⟩
theorem kR96_11 : KeptP kE0 ktab 96 10000 3000 (rA96_11, rR96_11) := ⟨by decide +kernel, by decide +kernel, by decide +kernel⟩
theorem kR96_12 : KeptP kE0 ktab 96 10000 3000 (rA96_12, rR96_12) := ⟨by decide +kernel, by decide +kernel, by decide +kernel⟩
theorem kR96_13 : KeptP kE0 ktab 96 10000 3000 (rA96_13, rR96_13) := ⟨by decide +kernel, by decide +kernel, by decide +kernel⟩
theorem kR96_14 : KeptP kE0 ktab 96 10000 3000 (rA96_14, rR96_14) := ⟨by decide +kernel, by decide +kernel, by decide +kernel⟩
theorem kR96_15 : KeptP kE0 ktab 96 10000 3000 (rA96_15, rR96_15) := ⟨by decide +kernel, by decide +kernel, by decide +kernel⟩
theorem ov96 : OvRow (.i (.o (.o (.o (.o (.i (.h))))))) (memoP rT96) := .of (br := kE0.branch) rfl (n := 96) (by kernel_rfl) (memoP_ok env_ok0 tab_ok0 (by kernel_rfl) (List.forall_mem_cons.2 ⟨kR96_0, List.forall_mem_cons.2 ⟨kR96_1, List.forall_mem_cons.2 ⟨kR96_2, List.forall_mem_cons.2 ⟨kR96_3, List.forall_mem_cons.2 ⟨kR96_4, List.forall_mem_cons.2 ⟨kR96_5, List.forall_mem_cons.2 ⟨kR96_6, List.forall_mem_cons.2 ⟨kR96_7, List.forall_mem_cons.2 ⟨kR96_8, List.forall_mem_cons.2 ⟨kR96_9, List.forall_mem_cons.2 ⟨kR96_10, List.forall_mem_cons.2 ⟨kR96_11, List.forall_mem_cons.2 ⟨kR96_12, List.forall_mem_cons.2 ⟨kR96_13, List.forall_mem_cons.2 ⟨kR96_14, List.forall_mem_cons.2 ⟨kR96_15, fun _ h => nomatch h⟩⟩⟩⟩⟩⟩⟩⟩⟩⟩⟩⟩⟩⟩⟩⟩))
theorem kR43_0 : KeptP kE0 ktab 43 10000 3000 (rA43_0, rR43_0) := ⟨by decide +kernel, by decide +kernel, by decide +kernel⟩
theorem kR43_1 : KeptP kE0 ktab 43 10000 3000 (rA43_1, rR43_1) := ⟨by decide +kernel, by decide +kernel, by decide +kernel⟩
theorem kR43_2 : KeptP kE0 ktab 43 10000 3000 (rA43_2, rR43_2) := ⟨by decide +kernel, by decide +kernel, by decide +kernel⟩
theorem kR43_3 : KeptP kE0 ktab 43 10000 3000 (rA43_3, rR43_3) := ⟨by decide +kernel, by decide +kernel, by decide +kernel⟩
theorem kR43_4 : KeptP kE0 ktab 43 10000 3000 (rA43_4, rR43_4) := ⟨by decide +kernel, by decide +kernel, by decide +kernel⟩
theorem kR43_5 : KeptP kE0 ktab 43 10000 3000 (rA43_5, rR43_5) := ⟨by decide +kernel, by decide +kernel, by decide +kernel⟩
theorem kR43_6 : KeptP kE0 ktab 43 10000 3000 (rA43_6, rR43_6) := ⟨by decide +kernel, by decide +kernel, by decide +kernel⟩
theorem kR43_7 : KeptP kE0 ktab 43 10000 3000 (rA43_7, rR43_7) := ⟨by decide +kernel, by decide +kernel, by decide +kernel⟩
theorem kR43_8 : KeptP kE0 ktab 43 10000 3000 (rA43_8, rR43_8) := ⟨by decide +kernel, by decide +kernel, by decide +kernel⟩
theorem kR43_9 : KeptP kE0 ktab 43 10000 3000 (rA43_9, rR43_9) := ⟨by decide +kernel, by decide +kernel, by decide +kernel⟩
theorem kR43_10 : KeptP kE0 ktab 43 10000 3000 (rA43_10, rR43_10) := ⟨by decide +kernel, by decide +kernel, by decide +kernel⟩
theorem kR43_11 : KeptP kE0 ktab 43 10000 3000 (rA43_11, rR43_11) := ⟨by decide +kernel, by decide +kernel, by decide +kernel⟩
theorem kR43_12 : KeptP kE0 ktab 43 10000 3000 (rA43_12, rR43_12) := ⟨by decide +kernel, by decide +kernel, by decide +kernel⟩
theorem kR43_13 : KeptP kE0 ktab 43 10000 3000 (rA43_13, rR43_13) := ⟨by decide +kernel, by decide +kernel, by decide +kernel⟩
theorem kR43_14 : KeptP kE0 ktab 43 10000 3000 (rA43_14, rR43_14) := ⟨by decide +kernel, by decide +kernel, by decide +kernel⟩
theorem kR43_15 : KeptP kE0 ktab 43 10000 3000 (rA43_15, rR43_15) := ⟨by decide +kernel, by decide +kernel, by decide +kernel⟩
theorem kR43_16 : KeptP kE0 ktab 43 10000 3000 (rA43_16, rR43_16) := ⟨by decide +kernel, by decide +kernel, by decide +kernel⟩
theorem kR43_17 : KeptP kE0 ktab 43 10000 3000 (rA43_17, rR43_17) := ⟨by decide +kernel, by decide +kernel, by decide +kernel⟩
theorem kR43_18 : KeptP kE0 ktab 43 10000 3000 (rA43_18, rR43_18) := ⟨by decide +kernel, by decide +kernel, by decide +kernel⟩
theorem kR43_19 : KeptP kE0 ktab 43 10000 3000 (rA43_19, rR43_19) := ⟨by decide +kernel, by decide +kernel, by decide +kernel⟩
theorem kR43_20 : KeptP kE0 ktab 43 10000 3000 (rA43_20, rR43_20) := ⟨by decide +kernel, by decide +kernel, by decide +kernel⟩
theorem kR43_21 : KeptP kE0 ktab 43 10000 3000 (rA43_21, rR43_21) := ⟨by decide +kernel, by decide +kernel, by decide +kernel⟩
theorem kR43_22 : KeptP kE0 ktab 43 10000 3000 (rA43_22, rR43_22) := ⟨by decide +kernel, by decide +kernel, by decide +kernel⟩
theorem kR43_23 : KeptP kE0 ktab 43 10000 3000 (rA43_23, rR43_23) := ⟨by decide +kernel, by decide +kernel, by decide +kernel⟩
theorem kR43_24 : KeptP kE0 ktab 43 10000 3000 (rA43_24, rR43_24) := ⟨by decide +kernel, by decide +kernel, by decide +kernel⟩
theorem kR43_25 : KeptP kE0 ktab 43 10000 3000 (rA43_25, rR43_25) := ⟨by decide +kernel, by decide +kernel, by decide +kernel⟩
theorem kR43_26 : KeptP kE0 ktab 43 10000 3000 (rA43_26, rR43_26) := ⟨by decide +kernel, by decide +kernel, by decide +kernel⟩
theorem kR43_27 : KeptP kE0 ktab 43 10000 3000 (rA43_27, rR43_27) := ⟨by decide +kernel, by decide +kernel, by decide +kernel⟩
theorem kR43_28 : KeptP kE0 ktab 43 10000 3000 (rA43_28, rR43_28) := ⟨by decide +kernel, by decide +kernel, by decide +kernel⟩
theorem kR43_29 : KeptP kE0 ktab 43 10000 3000 (rA43_29, rR43_29) := ⟨by decide +kernel, by decide +kernel, by decide +kernel⟩
theorem kR43_30 : KeptP kE0 ktab 43 10000 3000 (rA43_30, rR43_30) := ⟨by decide +kernel, by decide +kernel, by decide +kernel⟩
theorem kR43_31 : KeptP kE0 ktab 43 10000 3000 (rA43_31, rR43_31) := ⟨by decide +kernel, by decide +kernel, by decide +kernel⟩
theorem kR43_32 : KeptP kE0 ktab 43 10000 3000 (rA43_32, rR43_32) := ⟨by decide +kernel, by decide +kernel, by decide +kernel⟩
theorem kR43_33 : KeptP kE0 ktab 43 10000 3000 (rA43_33, rR43_33) := ⟨by decide +kernel, by decide +kernel, by decide +kernel⟩
theorem kR43_34 : KeptP kE0 ktab 43 10000 3000 (rA43_34, rR43_34) := ⟨by decide +kernel, by decide +kernel, by decide +kernel⟩
theorem kR43_35 : KeptP kE0 ktab 43 10000 3000 (rA43_35, rR43_35) := ⟨by decide +kernel, by decide +kernel, by decide +kernel⟩
theorem kR43_36 : KeptP kE0 ktab 43 10000 3000 (rA43_36, rR43_36) := ⟨by decide +kernel, by decide +kernel, by decide +kernel⟩
theorem kR43_37 : KeptP kE0 ktab 43 10000 3000 (rA43_37, rR43_37) := ⟨by decide +kernel, by decide +kernel, by decide +kernel⟩
theorem kR43_38 : KeptP kE0 ktab 43 10000 3000 (rA43_38, rR43_38) := ⟨by decide +kernel, by decide +kernel, by decide +kernel⟩
theorem kR43_39 : KeptP kE0 ktab 43 10000 3000 (rA43_39, rR43_39) := ⟨by decide +kernel, by decide +kernel, by decide +kernel⟩
theorem ov43 : OvRow (.o (.o (.i (.i (.o (.h)))))) (memoP rT43) := .of (br := kE0.branch) rfl (n := 43) (by kernel_rfl) (memoP_ok env_ok0 tab_ok0 (by kernel_rfl) (List.forall_mem_cons.2 ⟨kR43_0, List.forall_mem_cons.2 ⟨kR43_1, List.forall_mem_cons.2 ⟨kR43_2, List.forall_mem_cons.2 ⟨kR43_3, List.forall_mem_cons.2 ⟨kR43_4, List.forall_mem_cons.2 ⟨kR43_5, List.forall_mem_cons.2 ⟨kR43_6, List.forall_mem_cons.2 ⟨kR43_7, List.forall_mem_cons.2 ⟨kR43_8, List.forall_mem_cons.2 ⟨kR43_9, List.forall_mem_cons.2 ⟨kR43_10, List.forall_mem_cons.2 ⟨kR43_11, List.forall_mem_cons.2 ⟨kR43_12, List.forall_mem_cons.2 ⟨kR43_13, List.forall_mem_cons.2 ⟨kR43_14, List.forall_mem_cons.2 ⟨kR43_15, List.forall_mem_cons.2 ⟨kR43_16, List.forall_mem_cons.2 ⟨kR43_17, List.forall_mem_cons.2 ⟨kR43_18, List.forall_mem_cons.2 ⟨kR43_19, List.forall_mem_cons.2 ⟨kR43_20, List.forall_mem_cons.2 ⟨kR43_21, List.forall_mem_cons.2 ⟨kR43_22, List.forall_mem_cons.2 ⟨kR43_23, List.forall_mem_cons.2 ⟨kR43_24, List.forall_mem_cons.2 ⟨kR43_25, List.forall_mem_cons.2 ⟨kR43_26, List.forall_mem_cons.2 ⟨kR43_27, List.forall_mem_cons.2 ⟨kR43_28, List.forall_mem_cons.2 ⟨kR43_29, List.forall_mem_cons.2 ⟨kR43_30, List.forall_mem_cons.2 ⟨kR43_31, List.forall_mem_cons.2 ⟨kR43_32, List.forall_mem_cons.2 ⟨kR43_33, List.forall_mem_cons.2 ⟨kR43_34, List.forall_mem_cons.2 ⟨kR43_35, List.forall_mem_cons.2 ⟨kR43_36, List.forall_mem_cons.2 ⟨kR43_37, List.forall_mem_cons.2 ⟨kR43_38, List.forall_mem_cons.2 ⟨kR43_39, fun _ h => nomatch h⟩⟩⟩⟩⟩⟩⟩⟩⟩⟩⟩⟩⟩⟩⟩⟩⟩⟩⟩⟩⟩⟩⟩⟩⟩⟩⟩⟩⟩⟩⟩⟩⟩⟩⟩⟩⟩⟩⟩⟩))
theorem kR150_0 : KeptP kE0 ktab 150 10000 3000 (rA150_0, rR150_0) := ⟨by decide +kernel, by decide +kernel, by decide +kernel⟩
theorem kR150_1 : KeptP kE0 ktab 150 10000 3000 (rA150_1, rR150_1) := ⟨by decide +kernel, by decide +kernel, by decide +kernel⟩
theorem kR150_2 : KeptP kE0 ktab 150 10000 3000 (rA150_2, rR150_2) := ⟨by decide +kernel, by decide +kernel, by decide +kernel⟩
theorem ov150 : OvRow (.i (.i (.i (.o (.i (.o (.o (.h)))))))) (memoP rT150) := .of (br := kE0.branch) rfl (n := 150) (by kernel_rfl) (memoP_ok env_ok0 tab_ok0 (by kernel_rfl) (List.forall_mem_cons.2 ⟨kR150_0, List.forall_mem_cons.2 ⟨kR150_1, List.forall_mem_cons.2 ⟨kR150_2, fun _ h => nomatch h⟩⟩⟩))
theorem kR191_0 : KeptP kE0 ktab 191 10000 3000 (rA191_0, rR191_0) := ⟨by decide +kernel, by decide +kernel, by decide +kernel⟩
theorem ov191 : OvRow (.o (.o (.o (.o (.o (.o (.i (.h)))))))) (memoP rT191) := .of (br := kE0.branch) rfl (n := 191) (by kernel_rfl) (memoP_ok env_ok0 tab_ok0 (by kernel_rfl) (List.forall_mem_cons.2 ⟨kR191_0, fun _ h => nomatch h⟩))
theorem kR130_0 : KeptP kE0 ktab 130 10000 3000 (rA130_0, rR130_0) := ⟨by decide +kernel, by decide +kernel, by decide +kernel⟩
theorem ov130 : OvRow (.i (.i (.o (.o (.o (.o (.o (.h)))))))) (memoP rT130) := .of (br := kE0.branch) rfl (n := 130) (by kernel_rfl) (memoP_ok env_ok0 tab_ok0 (by kernel_rfl) (List.forall_mem_cons.2 ⟨kR130_0, fun _ h => nomatch h⟩))
end Go.Eng
