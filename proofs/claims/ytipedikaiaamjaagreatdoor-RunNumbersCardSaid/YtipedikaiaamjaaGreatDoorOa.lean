/- The first layer: rows of pure functions and dialect.Core are kept. -/
import Derived.Test.YtipedikaiaamjaaGreatDoorTb
import Derived.KernelRfl
import Derived.Shelf.Strings.Search2
import Derived.Shelf.Strings.Search3
set_option linter.unusedVariables false
set_option linter.unusedSimpArgs false
set_option maxRecDepth 20000
set_option maxHeartbeats 4000000
namespace Go.Proofs
open Go.Shelf
def Tryz.lays219_ren : Go.Shelf.Ren := ⟨fun | 219 => 43 | 217 => 85 | 225 => 86 | 224 => 87 | 267 => 88 | 266 => 115 | 314 => 116 | n => n, fun | 9 => 9 | 3 => 3 | 4 => 4 | 5 => 5 | 46 => 22 | 146 => 250 | 51 => 249 | n => n, fun | 1 => 2 | n => n⟩
theorem Tryz.lays219 : Go.Proofs.Lays.n219 Tryz.prog Tryz.lays219_ren where
  mixed := by kernel_rfl
  f217 := Tryz.func85.trans (congrArg some (by kernel_rfl))
  f219 := Tryz.func43.trans (congrArg some (by kernel_rfl))
  f224 := Tryz.func87.trans (congrArg some (by kernel_rfl))
  f225 := Tryz.func86.trans (congrArg some (by kernel_rfl))
  f266 := Tryz.func115.trans (congrArg some (by kernel_rfl))
  f267 := Tryz.func88.trans (congrArg some (by kernel_rfl))
  f314 := Tryz.func116.trans (congrArg some (by kernel_rfl))
  t3 := Tryz.underlying3
  a3 := Tryz.isAgg3
  z3 := Tryz.sizeOf3
  v3 := Tryz.zeroValue3
  t4 := Tryz.underlying4
  a4 := Tryz.isAgg4
  z4 := Tryz.sizeOf4
  v4 := Tryz.zeroValue4
  t5 := Tryz.underlying5
  a5 := Tryz.isAgg5
  z5 := Tryz.sizeOf5
  v5 := Tryz.zeroValue5
  t9 := Tryz.underlying9
  a9 := Tryz.isAgg9
  z9 := Tryz.sizeOf9
  v9 := Tryz.zeroValue9
  t46 := Tryz.underlying22
  a46 := Tryz.isAgg22
  z46 := Tryz.sizeOf22
  v46 := Tryz.zeroValue22
  t51 := Tryz.underlying249
  a51 := Tryz.isAgg249
  z51 := Tryz.sizeOf249
  v51 := Tryz.zeroValue249
  t146 := Tryz.underlying250
  a146 := Tryz.isAgg250
  z146 := Tryz.sizeOf250
  v146 := Tryz.zeroValue250
  g1 := by kernel_rfl
def Tryz.lays143_ren : Go.Shelf.Ren := ⟨fun | 143 => 338 | 219 => 43 | 217 => 85 | 225 => 86 | 224 => 87 | 267 => 88 | 266 => 115 | 314 => 116 | n => n, fun | 9 => 9 | 3 => 3 | 4 => 4 | 5 => 5 | 46 => 22 | 146 => 250 | 51 => 249 | n => n, fun | 1 => 2 | n => n⟩
theorem Tryz.lays143 : Go.Proofs.Lays.n143 Tryz.prog Tryz.lays143_ren where
  mixed := by kernel_rfl
  f143 := Tryz.func338.trans (congrArg some (by kernel_rfl))
  f217 := Tryz.func85.trans (congrArg some (by kernel_rfl))
  f219 := Tryz.func43.trans (congrArg some (by kernel_rfl))
  f224 := Tryz.func87.trans (congrArg some (by kernel_rfl))
  f225 := Tryz.func86.trans (congrArg some (by kernel_rfl))
  f266 := Tryz.func115.trans (congrArg some (by kernel_rfl))
  f267 := Tryz.func88.trans (congrArg some (by kernel_rfl))
  f314 := Tryz.func116.trans (congrArg some (by kernel_rfl))
  t3 := Tryz.underlying3
  a3 := Tryz.isAgg3
  z3 := Tryz.sizeOf3
  v3 := Tryz.zeroValue3
  t4 := Tryz.underlying4
  a4 := Tryz.isAgg4
  z4 := Tryz.sizeOf4
  v4 := Tryz.zeroValue4
  t5 := Tryz.underlying5
  a5 := Tryz.isAgg5
  z5 := Tryz.sizeOf5
  v5 := Tryz.zeroValue5
  t9 := Tryz.underlying9
  a9 := Tryz.isAgg9
  z9 := Tryz.sizeOf9
  v9 := Tryz.zeroValue9
  t46 := Tryz.underlying22
  a46 := Tryz.isAgg22
  z46 := Tryz.sizeOf22
  v46 := Tryz.zeroValue22
  t51 := Tryz.underlying249
  a51 := Tryz.isAgg249
  z51 := Tryz.sizeOf249
  v51 := Tryz.zeroValue249
  t146 := Tryz.underlying250
  a146 := Tryz.isAgg250
  z146 := Tryz.sizeOf250
  v146 := Tryz.zeroValue250
  g1 := by kernel_rfl
end Go.Proofs
namespace Go.Eng
open Go.Proofs
theorem ks_ok : KsOk Tryz.prog fun t => ksT.get (nm t) := ks_of (tab := ksT) ⟨⟨⟨⟨⟨trivial, AllT.none', ⟨trivial, AllT.none', ⟨⟨trivial, AllT.some' (ks_row (n := 175) (by kernel_rfl) (by kernel_rfl) (by kernel_rfl)), trivial⟩, AllT.none', trivial⟩⟩⟩, AllT.none', trivial⟩, AllT.none', ⟨trivial, AllT.none', ⟨⟨⟨⟨trivial, AllT.some' (ks_row (n := 139) (by kernel_rfl) (by kernel_rfl) (by kernel_rfl)), trivial⟩, AllT.none', trivial⟩, AllT.none', trivial⟩, AllT.none', trivial⟩⟩⟩, AllT.none', ⟨⟨trivial, AllT.some' (ks_row (n := 9) (by kernel_rfl) (by kernel_rfl) (by kernel_rfl)), ⟨⟨⟨⟨trivial, AllT.some' (ks_row (n := 137) (by kernel_rfl) (by kernel_rfl) (by kernel_rfl)), trivial⟩, AllT.none', trivial⟩, AllT.none', trivial⟩, AllT.none', trivial⟩⟩, AllT.none', trivial⟩⟩, AllT.none', ⟨⟨⟨⟨trivial, AllT.none', ⟨⟨⟨⟨trivial, AllT.some' (ks_row (n := 272) (by kernel_rfl) (by kernel_rfl) (by kernel_rfl)), trivial⟩, AllT.none', trivial⟩, AllT.none', trivial⟩, AllT.none', trivial⟩⟩, AllT.none', trivial⟩, AllT.none', trivial⟩, AllT.none', ⟨trivial, AllT.none', ⟨⟨trivial, AllT.none', ⟨⟨trivial, AllT.none', ⟨⟨trivial, AllT.some' (ks_row (n := 342) (by kernel_rfl) (by kernel_rfl) (by kernel_rfl)), trivial⟩, AllT.none', trivial⟩⟩, AllT.none', trivial⟩⟩, AllT.none', ⟨⟨trivial, AllT.none', ⟨⟨⟨trivial, AllT.some' (ks_row (n := 302) (by kernel_rfl) (by kernel_rfl) (by kernel_rfl)), trivial⟩, AllT.none', trivial⟩, AllT.none', trivial⟩⟩, AllT.none', trivial⟩⟩⟩⟩⟩
theorem me_ok : MeOk Tryz.prog (meOf meT) := me_of (tab := meT) trivial
noncomputable def ctx : Ctx where
  P := Tryz.prog
  G := gG
  X imm := (∃ m ty fr, imm 2 = some (.cells #[.int .i64 m] ty fr)) ∧ ErrT 1 237 13 135 imm
  grows := fun f f' h ⟨⟨m, ty, fr, e⟩, h2⟩ => ⟨⟨m, ty, fr, h _ _ e⟩, ErrT.mono h h2⟩
def OvRow (p : Nm) (h : List V → St → T (V × St)) : Prop := ∀ g, nm g = p → ∀ ρ s w args cargs R, Inv ctx ρ s w → GR ctx ρ → AR ρ args cargs → (h args s).All 3 R → Gives ctx.P (Post ctx ρ s w R) ((callFunc g cargs).run ctx.P w)
theorem maxlen {ρ : Rho} {s : St} {w : World} (hI : Inv ctx ρ s w) (hG : GR ctx ρ) : ∃ m, w.cell? ⟨2, 0, none⟩ = some (.int .i64 m) := by
  obtain ⟨⟨m, ty, fr, e⟩, -⟩ := hG.more
  exact ⟨m, by rw [cell_of_heap (hI.imm _ _ e)]; rfl⟩
theorem nm_of {g n : Nat} {p : Nm} (hp : p.val = n + 1) (h : nm g = p) : g = n := by have := congrArg Nm.val h; rw [val_nm, hp] at this; omega
theorem OvRow.of {br n : Nat} {p : Nm} {h : List V → St → T (V × St)} (hb : br = 3) (hp : p.val = n + 1) (hh : OverOk ctx br n h) : OvRow p h := by
  intro g hg
  obtain rfl := nm_of hp hg
  subst hb
  exact hh
theorem run43 (cargs : Array Value) (w : World) : (callFunc 43 cargs).run Tryz.prog w = .ok (.enter 43 cargs) w := enters_of Tryz.func43 (by kernel_rfl) rfl cargs w
set_option maxRecDepth 20000 in
theorem ov43 : OvRow (.o (.o (.i (.i (.o (.h)))))) ovIx := by
  intro g hg ρ s w args cargs R hI hG hA h
  obtain rfl := nm_of (n := 43) (by kernel_rfl) hg
  obtain ⟨m, hm⟩ := maxlen hI hG
  exact over_ix hI hA h (fun cargs => run43 cargs w) (fun a b hab => Any.stringslite_Index Tryz.lays219 a b m w hab hm)
theorem run106 (x y c : Nat) (hc : c ≤ 1) (w : World) : (callFunc 106 #[.int .u64 (x : Int), .int .u64 (y : Int), .int .u64 (c : Int)]).run Tryz.prog w = .ok (.value (addP x y c)) w := by rw [run_callFunc_extern Tryz.func106 rfl rfl rfl rfl, add_run x y c hc]; rfl
set_option maxRecDepth 20000 in
theorem ov106 : OvRow (.i (.i (.o (.i (.o (.i (.h))))))) ovAdd := by
  intro g hg ρ s w args cargs R hI hG hA h
  obtain rfl := nm_of (n := 106) (by kernel_rfl) hg
  exact over_add hI hA h (fun x y c hc => run106 x y c hc w)
theorem run115 (a : ByteArray) (c : Int) (w : World) : (callFunc 115 #[.string a, .int .u8 c]).run Tryz.prog w = .ok (.value (.int .i64 (Lib.indexByte a.data.toList c.toNat.toUInt8))) w := by rw [run_callFunc_extern Tryz.func115 rfl rfl rfl rfl, Lib.run_indexByteString]; rfl
set_option maxRecDepth 20000 in
theorem ov115 : OvRow (.o (.o (.i (.o (.i (.i (.h))))))) ovIxB := by
  intro g hg ρ s w args cargs R hI hG hA h
  obtain rfl := nm_of (n := 115) (by kernel_rfl) hg
  exact over_ixB hI hA h (fun a c => run115 a c w)
theorem run313 (a b : ByteArray) (w : World) : (callFunc 313 #[.string a, .string b]).run Tryz.prog w = .ok (.value (.int .i64 (Lib.compareBytes a.data.toList b.data.toList))) w := by rw [run_callFunc_extern Tryz.func313 rfl rfl rfl rfl, Lib.run_compareString]; rfl
set_option maxRecDepth 20000 in
theorem ov313 : OvRow (.o (.i (.o (.i (.i (.i (.o (.o (.h))))))))) ovCmp := by
  intro g hg ρ s w args cargs R hI hG hA h
  obtain rfl := nm_of (n := 313) (by kernel_rfl) hg
  exact over_cmp hI hA h (fun a b => run313 a b w)
theorem run338 (cargs : Array Value) (w : World) : (callFunc 338 cargs).run Tryz.prog w = .ok (.enter 338 cargs) w := enters_of Tryz.func338 (by kernel_rfl) rfl cargs w
set_option maxRecDepth 20000 in
theorem ov338 : OvRow (.i (.i (.o (.o (.i (.o (.i (.o (.h))))))))) ovIx := by
  intro g hg ρ s w args cargs R hI hG hA h
  obtain rfl := nm_of (n := 338) (by kernel_rfl) hg
  obtain ⟨m, hm⟩ := maxlen hI hG
  exact over_ix hI hA h (fun cargs => run338 cargs w) (fun a b hab => Any.strings_Index Tryz.lays143 a b m w hab hm)
theorem run365 (a : ByteArray) (c : Int) (w : World) : (callFunc 365 #[.string a, .int .u8 c]).run Tryz.prog w = .ok (.value (.int .i64 (Lib.countByte a.data.toList c.toNat.toUInt8))) w := by rw [run_callFunc_extern Tryz.func365 rfl rfl rfl rfl, Lib.run_countString]; rfl
set_option maxRecDepth 20000 in
theorem ov365 : OvRow (.o (.i (.i (.i (.o (.i (.i (.o (.h))))))))) ovCnt := by
  intro g hg ρ s w args cargs R hI hG hA h
  obtain rfl := nm_of (n := 365) (by kernel_rfl) hg
  exact over_cnt hI hA h (fun a c => run365 a c w)
theorem run411 (x : Value) (w : World) : (callFunc 411 #[x]).run Tryz.prog w = .ok (.value (x)) w := by rw [run_callFunc_extern Tryz.func411 rfl rfl rfl rfl]; rfl
set_option maxRecDepth 20000 in
theorem ov411 : OvRow (.o (.o (.i (.i (.i (.o (.o (.i (.h))))))))) ovNo := by
  intro g hg ρ s w args cargs R hI hG hA h
  obtain rfl := nm_of (n := 411) (by kernel_rfl) hg
  exact over_no hI hA h (fun x => run411 x w)
set_option maxRecDepth 20000 in
theorem ov_ok0 : AllT OvRow overT0 := ⟨⟨⟨trivial, AllT.none', ⟨⟨trivial, AllT.none', ⟨trivial, AllT.none', ⟨trivial, AllT.some' ov115, trivial⟩⟩⟩, AllT.none', ⟨⟨trivial, AllT.some' ov43, trivial⟩, AllT.none', ⟨⟨⟨trivial, AllT.none', ⟨trivial, AllT.some' ov411, trivial⟩⟩, AllT.none', trivial⟩, AllT.none', trivial⟩⟩⟩⟩, AllT.none', ⟨⟨trivial, AllT.none', ⟨trivial, AllT.none', ⟨trivial, AllT.none', ⟨⟨⟨trivial, AllT.some' ov313, trivial⟩, AllT.none', trivial⟩, AllT.none', trivial⟩⟩⟩⟩, AllT.none', ⟨trivial, AllT.none', ⟨⟨trivial, AllT.none', ⟨trivial, AllT.none', ⟨⟨trivial, AllT.some' ov365, trivial⟩, AllT.none', trivial⟩⟩⟩, AllT.none', trivial⟩⟩⟩⟩, AllT.none', ⟨trivial, AllT.none', ⟨⟨⟨trivial, AllT.none', ⟨⟨trivial, AllT.none', ⟨⟨trivial, AllT.some' ov338, trivial⟩, AllT.none', trivial⟩⟩, AllT.none', trivial⟩⟩, AllT.none', ⟨⟨trivial, AllT.none', ⟨trivial, AllT.some' ov106, trivial⟩⟩, AllT.none', trivial⟩⟩, AllT.none', trivial⟩⟩⟩
set_option maxRecDepth 20000 in
theorem env_ok0 : EnvOk ctx kE0 where
  fns := fun g fn h => fns_ok h
  over := fun g h he => by
    have he' : getT (nm g) overT0 = some h := he
    rw [getT_eq] at he'
    exact AllT.get ov_ok0 he' g rfl
  mixed := by kernel_rfl
  ks := ks_ok
  hm := fun _ _ _ h => by cases h
  methods := me_ok
theorem kept122 : allB 3 (chk memoV122 memoR122 t305) ((kcall kE0 ktab 10000 3000).f t123 [] St.start fun v s => .ret (v, s)) = true := by decide +kernel
set_option maxRecDepth 20000 in
theorem ov122 : OvRow (.i (.i (.o (.i (.i (.i (.h))))))) (memoX memoV122 memoR122 t305) := by
  intro g hg ρ s w args cargs R hI hG hA h
  obtain rfl := nm_of (n := 122) (by kernel_rfl) hg
  rw [memoX_eq] at h
  have e : nm 122 = t123 := Nm.val_inj (by rw [val_nm]; kernel_rfl)
  have hov : kE0.over (nm 122) = none := by rw [e]; kernel_rfl
  have hk := kept122
  rw [← e] at hk
  exact memo_ok env_ok0 tab_ok0 hov hk hI hG hA h
theorem kR139_0 : KeptP kE0 ktab 139 10000 3000 (rA139_0, rR139_0) := ⟨by decide +kernel, by decide +kernel, by decide +kernel⟩
theorem kR139_1 : KeptP kE0 ktab 139 10000 3000 (rA139_1, rR139_1) := ⟨by decide +kernel, by decide +kernel, by decide +kernel⟩
theorem kR139_2 : KeptP kE0 ktab 139 10000 3000 (rA139_2, rR139_2) := ⟨by decide +kernel, by decide +kernel, by decide +kernel⟩
theorem kR139_3 : KeptP kE0 ktab 139 10000 3000 (rA139_3, rR139_3) := ⟨by decide +kernel, by decide +kernel, by decide +kernel⟩
theorem kR139_4 : KeptP kE0 ktab 139 10000 3000 (rA139_4, rR139_4) := ⟨by decide +kernel, by decide +kernel, by decide +kernel⟩
theorem kR139_5 : KeptP kE0 ktab 139 10000 3000 (rA139_5, rR139_5) := ⟨by decide +kernel, by decide +kernel, by decide +kernel⟩
theorem kR139_6 : KeptP kE0 ktab 139 10000 3000 (rA139_6, rR139_6) := ⟨by decide +kernel, by decide +kernel, by decide +kernel⟩
theorem kR139_7 : KeptP kE0 ktab 139 10000 3000 (rA139_7, rR139_7) := ⟨by decide +kernel, by decide +kernel, by decide +kernel⟩
theorem kR139_8 : KeptP kE0 ktab 139 10000 3000 (rA139_8, rR139_8) := ⟨by decide +kernel, by decide +kernel, by decide +kernel⟩
theorem kR139_9 : KeptP kE0 ktab 139 10000 3000 (rA139_9, rR139_9) := ⟨by decide +kernel, by decide +kernel, by decide +kernel⟩
theorem kR139_10 : KeptP kE0 ktab 139 10000 3000 (rA139_10, rR139_10) := ⟨by decide +kernel, by decide +kernel, by decide +kernel⟩
theorem kR139_11 : KeptP kE0 ktab 139 10000 3000 (rA139_11, rR139_11) := ⟨by decide +kernel, by decide +kernel, by decide +kernel⟩
theorem kR139_12 : KeptP kE0 ktab 139 10000 3000 (rA139_12, rR139_12) := ⟨by decide +kernel, by decide +kernel, by decide +kernel⟩
theorem kR139_13 : KeptP kE0 ktab 139 10000 3000 (rA139_13, rR139_13) := ⟨by decide +kernel, by decide +kernel, by decide +kernel⟩
theorem kR139_14 : KeptP kE0 ktab 139 10000 3000 (rA139_14, rR139_14) := ⟨by decide +kernel, by decide +kernel, by decide +kernel⟩
theorem kR139_15 : KeptP kE0 ktab 139 10000 3000 (rA139_15, rR139_15) := ⟨by decide +kernel, by decide +kernel, by decide +kernel⟩
theorem kR139_16 : KeptP kE0 ktab 139 10000 3000 (rA139_16, rR139_16) := ⟨by decide +kernel, by decide +kernel, by decide +kernel⟩
theorem kR139_17 : KeptP kE0 ktab 139 10000 3000 (rA139_17, rR139_17) := ⟨by decide +kernel, by decide +kernel, by decide +kernel⟩
theorem kR139_18 : KeptP kE0 ktab 139 10000 3000 (rA139_18, rR139_18) := ⟨by decide +kernel, by decide +kernel, by decide +kernel⟩
theorem kR139_19 : KeptP kE0 ktab 139 10000 3000 (rA139_19, rR139_19) := ⟨by decide +kernel, by decide +kernel, by decide +kernel⟩
theorem kR139_20 : KeptP kE0 ktab 139 10000 3000 (rA139_20, rR139_20) := ⟨by decide +kernel, by decide +kernel, by decide +kernel⟩
theorem kR139_21 : KeptP kE0 ktab 139 10000 3000 (rA139_21, rR139_21) := ⟨by decide +kernel, by decide +kernel, by decide +kernel⟩
theorem kR139_22 : KeptP kE0 ktab 139 10000 3000 (rA139_22, rR139_22) := ⟨by decide +kernel, by decide +kernel, by decide +kernel⟩
theorem kR139_23 : KeptP kE0 ktab 139 10000 3000 (rA139_23, rR139_23) := ⟨by decide +kernel, by decide +kernel, by decide +kernel⟩
theorem kR139_24 : KeptP kE0 ktab 139 10000 3000 (rA139_24, rR139_24) := ⟨by decide +kernel, by decide +kernel, by decide +kernel⟩
theorem kR139_25 : KeptP kE0 ktab 139 10000 3000 (rA139_25, rR139_25) := ⟨by decide +kernel, by decide +kernel, by decide +kernel⟩
theorem kR139_26 : KeptP kE0 ktab 139 10000 3000 (rA139_26, rR139_26) := ⟨by decide +kernel, by decide +kernel, by decide +kernel⟩
theorem ov139 : OvRow (.o (.o (.i (.i (.o (.o (.o (.h)))))))) (memoP rT139) := .of (br := kE0.branch) rfl (n := 139) (by kernel_rfl) (memoP_ok env_ok0 tab_ok0 (by kernel_rfl) (List.forall_mem_cons.2 ⟨kR139_0, List.forall_mem_cons.2 ⟨kR139_1, List.forall_mem_cons.2 ⟨kR139_2, List.forall_mem_cons.2 ⟨kR139_3, List.forall_mem_cons.2 ⟨kR139_4, List.forall_mem_cons.2 ⟨kR139_5, List.forall_mem_cons.2 ⟨kR139_6, List.forall_mem_cons.2 ⟨kR139_7, List.forall_mem_cons.2 ⟨kR139_8, List.forall_mem_cons.2 ⟨kR139_9, List.forall_mem_cons.2 ⟨kR139_10, List.forall_mem_cons.2 ⟨kR139_11, List.forall_mem_cons.2 ⟨kR139_12, List.forall_mem_cons.2 ⟨kR139_13, List.forall_mem_cons.2 ⟨kR139_14, List.forall_mem_cons.2 ⟨kR139_15, List.forall_mem_cons.2 ⟨kR139_16, List.forall_mem_cons.2 ⟨kR139_17, List.forall_mem_cons.2 ⟨kR139_18, List.forall_mem_cons.2 ⟨kR139_19, List.forall_mem_cons.2 ⟨kR139_20, List.forall_mem_cons.2 ⟨kR139_21, List.forall_mem_cons.2 ⟨kR139_22, List.forall_mem_cons.2 ⟨kR139_23, List.forall_mem_cons.2 ⟨kR139_24, List.forall_mem_cons.2 ⟨kR139_25, List.forall_mem_cons.2 ⟨kR139_26, fun _ h => nomatch h⟩⟩⟩⟩⟩⟩⟩⟩⟩⟩⟩⟩⟩⟩⟩⟩⟩⟩⟩⟩⟩⟩⟩⟩⟩⟩⟩))
theorem kR242_0 : KeptP kE0 ktab 242 10000 3000 (rA242_0, rR242_0) := ⟨by decide +kernel, by decide +kernel, by decide +kernel⟩
theorem kR242_1 : KeptP kE0 ktab 242 10000 3000 (rA242_1, rR242_1) := ⟨by decide +kernel, by decide +kernel, by decide +kernel⟩
theorem kR242_2 : KeptP kE0 ktab 242 10000 3000 (rA242_2, rR242_2) := ⟨by decide +kernel, by decide +kernel, by decide +kernel⟩
theorem kR242_3 : KeptP kE0 ktab 242 10000 3000 (rA242_3, rR242_3) := ⟨by decide +kernel, by decide +kernel, by decide +kernel⟩
theorem kR242_4 : KeptP kE0 ktab 242 10000 3000 (rA242_4, rR242_4) := ⟨by decide +kernel, by decide +kernel, by decide +kernel⟩
theorem kR242_5 : KeptP kE0 ktab 242 10000 3000 (rA242_5, rR242_5) := ⟨by decide +kernel, by decide +kernel, by decide +kernel⟩
theorem ov242 : OvRow (.i (.i (.o (.o (.i (.i (.i (.h)))))))) (memoP rT242) := .of (br := kE0.branch) rfl (n := 242) (by kernel_rfl) (memoP_ok env_ok0 tab_ok0 (by kernel_rfl) (List.forall_mem_cons.2 ⟨kR242_0, List.forall_mem_cons.2 ⟨kR242_1, List.forall_mem_cons.2 ⟨kR242_2, List.forall_mem_cons.2 ⟨kR242_3, List.forall_mem_cons.2 ⟨kR242_4, List.forall_mem_cons.2 ⟨kR242_5, fun _ h => nomatch h⟩⟩⟩⟩⟩⟩))
theorem kR117_0 : KeptP kE0 ktab 117 10000 3000 (rA117_0, rR117_0) := ⟨by decide +kernel, by decide +kernel, by decide +kernel⟩
theorem ov117 : OvRow (.o (.i (.i (.o (.i (.i (.h))))))) (memoP rT117) := .of (br := kE0.branch) rfl (n := 117) (by kernel_rfl) (memoP_ok env_ok0 tab_ok0 (by kernel_rfl) (List.forall_mem_cons.2 ⟨kR117_0, fun _ h => nomatch h⟩))
noncomputable def widths (f : Nat → Bool) : Bool := (List.range 64).all fun i => f (i + 1)
theorem widths_at {f : Nat → Bool} (h : widths f = true) (k : Nat) (h1 : 1 ≤ k) (h2 : k ≤ 64) : f k = true := by
  have := List.all_eq_true.1 h (k - 1) (List.mem_range.2 (by omega))
  rwa [show k - 1 + 1 = k by omega] at this
noncomputable def keptB (E : Env) (g : Nat) (args : List V) (v : V) : Bool := pureVs args && (pureV v && allB E.branch (fun x => eqTK x.1 v) ((kcall E ktab 10000 3000).f (nm g) args St.start fun v s => .ret (v, s)))
theorem keptB_ok {E : Env} {g : Nat} {args : List V} {v : V} (h : keptB E g args v = true) : KeptP E ktab g 10000 3000 (args, v) := by
  simp only [keptB, Bool.and_eq_true] at h
  exact h
theorem kT37 : widths (fun b => keptB kE0 37 [.str (tyS b)] (tyKIND b)) = true := by kernel_rfl
theorem kS37_0 : KeptP kE0 ktab 37 10000 3000 ([(.str [105, 110, 100, 101, 120])], (.tup [(.int .i64 1), (.int .i64 0)])) := ⟨by decide +kernel, by decide +kernel, by decide +kernel⟩
theorem ov37 : OvRow (.o (.i (.i (.o (.o (.h)))))) (ovTy tyKIND rT37) := .of (br := kE0.branch) rfl (n := 37) (by kernel_rfl) (ovTy_ok env_ok0 tab_ok0 (by kernel_rfl) (fun k h1 h2 => keptB_ok (widths_at kT37 k h1 h2)) (List.forall_mem_cons.2 ⟨kS37_0, fun _ h => nomatch h⟩))
theorem kT285 : widths (fun b => keptB kE0 285 [.str (tyS b)] (tyBITS b)) = true := by kernel_rfl
theorem ov285 : OvRow (.o (.i (.i (.i (.i (.o (.o (.o (.h))))))))) (ovTy tyBITS rT285) := .of (br := kE0.branch) rfl (n := 285) (by kernel_rfl) (ovTy_ok env_ok0 tab_ok0 (by kernel_rfl) (fun k h1 h2 => keptB_ok (widths_at kT285 k h1 h2)) (fun _ h => nomatch h))
theorem kT289 : widths (fun b => keptB kE0 289 [.str (tyS b)] (tyCHK b)) = true := by kernel_rfl
theorem kS289_0 : KeptP kE0 ktab 289 10000 3000 ([(.str [105, 110, 100, 101, 120])], (.int .i64 0)) := ⟨by decide +kernel, by decide +kernel, by decide +kernel⟩
theorem ov289 : OvRow (.o (.i (.o (.o (.o (.i (.o (.o (.h))))))))) (ovTy tyCHK rT289) := .of (br := kE0.branch) rfl (n := 289) (by kernel_rfl) (ovTy_ok env_ok0 tab_ok0 (by kernel_rfl) (fun k h1 h2 => keptB_ok (widths_at kT289 k h1 h2)) (List.forall_mem_cons.2 ⟨kS289_0, fun _ h => nomatch h⟩))
theorem kT54 : widths (fun b => keptB kE0 54 [.str (tyS b)] (tyRNG b)) = true := by kernel_rfl
theorem kS54_0 : KeptP kE0 ktab 54 10000 3000 ([(.str [105, 110, 100, 101, 120])], (.tup [(.int .i64 (-9223372036854775808)), (.int .i64 9223372036854775807), (.int .i64 0)])) := ⟨by decide +kernel, by decide +kernel, by decide +kernel⟩
theorem ov54 : OvRow (.i (.i (.i (.o (.i (.h)))))) (ovTy tyRNG rT54) := .of (br := kE0.branch) rfl (n := 54) (by kernel_rfl) (ovTy_ok env_ok0 tab_ok0 (by kernel_rfl) (fun k h1 h2 => keptB_ok (widths_at kT54 k h1 h2)) (List.forall_mem_cons.2 ⟨kS54_0, fun _ h => nomatch h⟩))
end Go.Eng
