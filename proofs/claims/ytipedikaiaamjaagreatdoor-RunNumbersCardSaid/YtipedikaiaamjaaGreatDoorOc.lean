/- Functions on numbers are kept. -/
import Derived.KernelRfl
import Derived.Test.YtipedikaiaamjaaGreatDoorOb
import Derived.Test.YtipedikaiaamjaaGreatDoorNa
set_option linter.unusedVariables false
set_option linter.unusedSimpArgs false
set_option maxRecDepth 20000
set_option maxHeartbeats 4000000
namespace Go.Eng
open Go.Proofs
theorem kA : widths (fun b => pureV (tyASK b) && allB kE2.branch (fun x => eqTK x.1 (tyASK b)) ((kcall kE2 ktab 10000 3000).f (nm 51) [.str (tyS b), .clo (.func 96) [] []] St.start fun v s => .ret (v, s))) = true := by kernel_rfl
theorem ov51 : OvRow (.o (.o (.i (.o (.i (.h)))))) (ovAsk 96 tyASK) := .of (br := kE2.branch) rfl (n := 51) (by kernel_rfl) (ovAsk_ok env_ok2 tab_ok2 (by kernel_rfl) fun k h1 h2 => by simpa only [Bool.and_eq_true] using widths_at kA k h1 h2)
noncomputable def overTA : Tr (List V → St → T (V × St)) := .node (.node (.node (.leaf) none (.node (.node (.leaf) none (.node (.leaf) (some (ovAsk 96 tyASK)) (.node (.leaf) (some ovIxB) (.leaf)))) none (.node (.node (.node (.node (.leaf) (some (memoP rT139)) (.leaf)) none (.leaf)) (some ovIx) (.leaf)) none (.node (.node (.node (.leaf) none (.node (.leaf) (some ovNo) (.leaf))) none (.leaf)) none (.leaf))))) none (.node (.node (.node (.node (.leaf) none (.node (.node (.node (.leaf) (some (ovTy tyCHK rT289)) (.leaf)) none (.leaf)) none (.leaf))) none (.leaf)) none (.node (.leaf) none (.node (.leaf) none (.node (.node (.node (.leaf) (some ovCmp) (.leaf)) none (.leaf)) none (.leaf))))) none (.node (.node (.node (.leaf) (some (ovTy tyKIND rT37)) (.leaf)) none (.node (.leaf) none (.node (.leaf) (some (memoP rT117)) (.leaf)))) none (.node (.node (.leaf) none (.node (.leaf) none (.node (.node (.leaf) (some ovCnt) (.leaf)) none (.leaf)))) none (.node (.node (.node (.node (.leaf) (some (ovTy tyBITS rT285)) (.leaf)) none (.leaf)) none (.leaf)) none (.leaf)))))) none (.node (.node (.leaf) none (.node (.node (.leaf) none (.node (.leaf) none (.node (.node (.leaf) (some (memoV rT180)) (.leaf)) none (.leaf)))) none (.leaf))) none (.node (.node (.node (.leaf) none (.node (.node (.leaf) none (.node (.node (.leaf) (some ovIx) (.leaf)) none (.leaf))) none (.node (.leaf) none (.node (.leaf) (some (memoP rT242)) (.leaf))))) none (.node (.node (.leaf) (some (ovAs 175 139 137)) (.node (.leaf) (some ovAdd) (.leaf))) none (.node (.leaf) none (.node (.leaf) (some (memoX memoV122 memoR122 t305)) (.leaf))))) none (.node (.node (.leaf) none (.node (.leaf) (some (ovTy tyRNG rT54)) (.leaf))) none (.leaf))))
noncomputable def kEA : Env := { kE0 with over := fun p => getT p overTA }
theorem fns_eqA (p : Nm) : kEA.fns p = fnsOf Tryz.prog gG p := by kernel_rfl
set_option maxRecDepth 20000 in
theorem ov_ok4 : AllT OvRow overTA := ⟨⟨⟨trivial, AllT.none', ⟨⟨trivial, AllT.none', ⟨trivial, AllT.some' ov51, ⟨trivial, AllT.some' ov115, trivial⟩⟩⟩, AllT.none', ⟨⟨⟨⟨trivial, AllT.some' ov139, trivial⟩, AllT.none', trivial⟩, AllT.some' ov43, trivial⟩, AllT.none', ⟨⟨⟨trivial, AllT.none', ⟨trivial, AllT.some' ov411, trivial⟩⟩, AllT.none', trivial⟩, AllT.none', trivial⟩⟩⟩⟩, AllT.none', ⟨⟨⟨⟨trivial, AllT.none', ⟨⟨⟨trivial, AllT.some' ov289, trivial⟩, AllT.none', trivial⟩, AllT.none', trivial⟩⟩, AllT.none', trivial⟩, AllT.none', ⟨trivial, AllT.none', ⟨trivial, AllT.none', ⟨⟨⟨trivial, AllT.some' ov313, trivial⟩, AllT.none', trivial⟩, AllT.none', trivial⟩⟩⟩⟩, AllT.none', ⟨⟨⟨trivial, AllT.some' ov37, trivial⟩, AllT.none', ⟨trivial, AllT.none', ⟨trivial, AllT.some' ov117, trivial⟩⟩⟩, AllT.none', ⟨⟨trivial, AllT.none', ⟨trivial, AllT.none', ⟨⟨trivial, AllT.some' ov365, trivial⟩, AllT.none', trivial⟩⟩⟩, AllT.none', ⟨⟨⟨⟨trivial, AllT.some' ov285, trivial⟩, AllT.none', trivial⟩, AllT.none', trivial⟩, AllT.none', trivial⟩⟩⟩⟩⟩, AllT.none', ⟨⟨trivial, AllT.none', ⟨⟨trivial, AllT.none', ⟨trivial, AllT.none', ⟨⟨trivial, AllT.some' ov180, trivial⟩, AllT.none', trivial⟩⟩⟩, AllT.none', trivial⟩⟩, AllT.none', ⟨⟨⟨trivial, AllT.none', ⟨⟨trivial, AllT.none', ⟨⟨trivial, AllT.some' ov338, trivial⟩, AllT.none', trivial⟩⟩, AllT.none', ⟨trivial, AllT.none', ⟨trivial, AllT.some' ov242, trivial⟩⟩⟩⟩, AllT.none', ⟨⟨trivial, AllT.some' ov42, ⟨trivial, AllT.some' ov106, trivial⟩⟩, AllT.none', ⟨trivial, AllT.none', ⟨trivial, AllT.some' ov122, trivial⟩⟩⟩⟩, AllT.none', ⟨⟨trivial, AllT.none', ⟨trivial, AllT.some' ov54, trivial⟩⟩, AllT.none', trivial⟩⟩⟩⟩
set_option maxRecDepth 20000 in
theorem env_ok4 : EnvOk ctx kEA where
  fns := fun g fn h => fns_ok h
  over := fun g h he => by
    have he' : getT (nm g) overTA = some h := he
    rw [getT_eq] at he'
    exact AllT.get ov_ok4 he' g rfl
  mixed := by kernel_rfl
  ks := ks_ok
  hm := fun _ _ _ h => by cases h
  methods := me_ok
theorem ov110 : OvRow (.i (.i (.i (.i (.o (.i (.h))))))) (ovWr .i64 wrapB) := .of (br := kEA.branch) rfl (n := 110) (by kernel_rfl) (num_ok env_ok4 fun t b n ht => by
  have e : nm 110 = t111 := by decide
  rw [e]
  exact wr_run (by rw [fns_eqA]; kernel_rfl) (by rw [fns_eqA]; kernel_rfl) (by rw [fns_eqA]; kernel_rfl) (by kernel_rfl) (by kernel_rfl) (by kernel_rfl) ht)
theorem ov111 : OvRow (.o (.o (.o (.o (.i (.i (.h))))))) (ovWr .u64 unsB) := .of (br := kEA.branch) rfl (n := 111) (by kernel_rfl) (num_ok env_ok4 fun t b n ht => by
  have e : nm 111 = t112 := by decide
  rw [e]
  exact un_run (by rw [fns_eqA]; kernel_rfl) (by rw [fns_eqA]; kernel_rfl) (by rw [fns_eqA]; kernel_rfl) (by kernel_rfl) (by kernel_rfl) (by kernel_rfl) ht)
theorem ov145 : OvRow (.o (.i (.o (.o (.i (.o (.o (.h)))))))) ovAdd1 := .of (br := kE2.branch) rfl (n := 145) (by kernel_rfl) (add1_ok env_ok2 (by decide) (by rw [fns_eq2]; kernel_rfl))
theorem ov146 : OvRow (.i (.i (.o (.o (.i (.o (.o (.h)))))))) ovSub1 := .of (br := kE2.branch) rfl (n := 146) (by kernel_rfl) (sub1_ok env_ok2 (by decide) (by rw [fns_eq2]; kernel_rfl))
theorem ov38 : OvRow (.i (.i (.i (.o (.o (.h)))))) ovFit := .of (br := kE2.branch) rfl (n := 38) (by kernel_rfl) (fit_ok env_ok2 (by decide) (by rw [fns_eq2]; kernel_rfl) (by rw [fns_eq2]; kernel_rfl) (by rw [fns_eq2]; kernel_rfl) (by kernel_rfl) (by kernel_rfl) (r1 := rT37) (r2 := rT54) (by kernel_rfl) (by kernel_rfl))
noncomputable def overTD : Tr (List V → St → T (V × St)) := .node (.node (.node (.node (.node (.leaf) none (.node (.leaf) none (.node (.leaf) (some (ovWr .u64 unsB)) (.leaf)))) none (.leaf)) none (.node (.node (.leaf) none (.node (.leaf) none (.node (.leaf) (some ovIxB) (.leaf)))) none (.node (.node (.node (.node (.leaf) (some (memoP rT139)) (.leaf)) none (.leaf)) (some ovIx) (.leaf)) none (.node (.node (.node (.leaf) none (.node (.leaf) (some ovNo) (.leaf))) none (.leaf)) none (.leaf))))) none (.node (.node (.node (.node (.leaf) none (.node (.node (.node (.leaf) (some (ovTy tyCHK rT289)) (.leaf)) none (.leaf)) none (.leaf))) none (.leaf)) none (.node (.leaf) none (.node (.leaf) none (.node (.node (.node (.leaf) (some ovCmp) (.leaf)) none (.leaf)) none (.leaf))))) none (.node (.node (.node (.leaf) (some (ovTy tyKIND rT37)) (.leaf)) none (.node (.leaf) none (.node (.leaf) (some (memoP rT117)) (.leaf)))) none (.node (.node (.leaf) none (.node (.leaf) none (.node (.node (.leaf) (some ovCnt) (.leaf)) none (.leaf)))) none (.node (.node (.node (.node (.leaf) (some (ovTy tyBITS rT285)) (.leaf)) none (.leaf)) none (.leaf)) none (.leaf)))))) none (.node (.node (.leaf) none (.node (.node (.leaf) none (.node (.leaf) none (.node (.node (.leaf) (some (memoV rT180)) (.leaf)) none (.leaf)))) none (.leaf))) none (.node (.node (.node (.leaf) none (.node (.node (.leaf) none (.node (.node (.leaf) (some ovIx) (.leaf)) none (.leaf))) none (.node (.leaf) none (.node (.leaf) (some (memoP rT242)) (.leaf))))) none (.node (.node (.leaf) (some (ovAs 175 139 137)) (.node (.leaf) (some ovAdd) (.leaf))) none (.node (.leaf) none (.node (.leaf) (some (memoX memoV122 memoR122 t305)) (.leaf))))) none (.node (.node (.leaf) none (.node (.leaf) (some (ovTy tyRNG rT54)) (.leaf))) none (.node (.node (.leaf) none (.node (.leaf) (some (ovWr .i64 wrapB)) (.leaf))) none (.leaf)))))
noncomputable def kED : Env := { kE0 with over := fun p => getT p overTD }
theorem fns_eqD (p : Nm) : kED.fns p = fnsOf Tryz.prog gG p := by kernel_rfl
set_option maxRecDepth 20000 in
theorem ov_ok5 : AllT OvRow overTD := ⟨⟨⟨⟨⟨trivial, AllT.none', ⟨trivial, AllT.none', ⟨trivial, AllT.some' ov111, trivial⟩⟩⟩, AllT.none', trivial⟩, AllT.none', ⟨⟨trivial, AllT.none', ⟨trivial, AllT.none', ⟨trivial, AllT.some' ov115, trivial⟩⟩⟩, AllT.none', ⟨⟨⟨⟨trivial, AllT.some' ov139, trivial⟩, AllT.none', trivial⟩, AllT.some' ov43, trivial⟩, AllT.none', ⟨⟨⟨trivial, AllT.none', ⟨trivial, AllT.some' ov411, trivial⟩⟩, AllT.none', trivial⟩, AllT.none', trivial⟩⟩⟩⟩, AllT.none', ⟨⟨⟨⟨trivial, AllT.none', ⟨⟨⟨trivial, AllT.some' ov289, trivial⟩, AllT.none', trivial⟩, AllT.none', trivial⟩⟩, AllT.none', trivial⟩, AllT.none', ⟨trivial, AllT.none', ⟨trivial, AllT.none', ⟨⟨⟨trivial, AllT.some' ov313, trivial⟩, AllT.none', trivial⟩, AllT.none', trivial⟩⟩⟩⟩, AllT.none', ⟨⟨⟨trivial, AllT.some' ov37, trivial⟩, AllT.none', ⟨trivial, AllT.none', ⟨trivial, AllT.some' ov117, trivial⟩⟩⟩, AllT.none', ⟨⟨trivial, AllT.none', ⟨trivial, AllT.none', ⟨⟨trivial, AllT.some' ov365, trivial⟩, AllT.none', trivial⟩⟩⟩, AllT.none', ⟨⟨⟨⟨trivial, AllT.some' ov285, trivial⟩, AllT.none', trivial⟩, AllT.none', trivial⟩, AllT.none', trivial⟩⟩⟩⟩⟩, AllT.none', ⟨⟨trivial, AllT.none', ⟨⟨trivial, AllT.none', ⟨trivial, AllT.none', ⟨⟨trivial, AllT.some' ov180, trivial⟩, AllT.none', trivial⟩⟩⟩, AllT.none', trivial⟩⟩, AllT.none', ⟨⟨⟨trivial, AllT.none', ⟨⟨trivial, AllT.none', ⟨⟨trivial, AllT.some' ov338, trivial⟩, AllT.none', trivial⟩⟩, AllT.none', ⟨trivial, AllT.none', ⟨trivial, AllT.some' ov242, trivial⟩⟩⟩⟩, AllT.none', ⟨⟨trivial, AllT.some' ov42, ⟨trivial, AllT.some' ov106, trivial⟩⟩, AllT.none', ⟨trivial, AllT.none', ⟨trivial, AllT.some' ov122, trivial⟩⟩⟩⟩, AllT.none', ⟨⟨trivial, AllT.none', ⟨trivial, AllT.some' ov54, trivial⟩⟩, AllT.none', ⟨⟨trivial, AllT.none', ⟨trivial, AllT.some' ov110, trivial⟩⟩, AllT.none', trivial⟩⟩⟩⟩⟩
set_option maxRecDepth 20000 in
theorem env_ok5 : EnvOk ctx kED where
  fns := fun g fn h => fns_ok h
  over := fun g h he => by
    have he' : getT (nm g) overTD = some h := he
    rw [getT_eq] at he'
    exact AllT.get ov_ok5 he' g rfl
  mixed := by kernel_rfl
  ks := ks_ok
  hm := fun _ _ _ h => by cases h
  methods := me_ok
theorem divC : DivC kED divG where
  ds := by rw [fns_eqD]; kernel_rfl
  rs := by rw [fns_eqD]; kernel_rfl
  du := by rw [fns_eqD]; kernel_rfl
  ru := by rw [fns_eqD]; kernel_rfl
  o1 := by kernel_rfl
  o2 := by kernel_rfl
  o3 := by kernel_rfl
  o4 := by kernel_rfl
  un := by kernel_rfl
  wr := by kernel_rfl
  dv := by rw [fns_eqD]; kernel_rfl
  g := fun g f h => by
    unfold divG at h
    split at h
    · cases h; exact .inl ⟨rfl, by decide⟩
    · cases h; exact .inr (.inl ⟨rfl, by decide⟩)
    · cases h; exact .inr (.inr (.inl ⟨rfl, by decide⟩))
    · cases h; exact .inr (.inr (.inr ⟨rfl, by decide⟩))
    · cases h
theorem ov234 : OvRow (.i (.i (.o (.i (.o (.i (.i (.h)))))))) (ovDiv divG) := .of (br := kED.branch) rfl (n := 234) (by kernel_rfl) (div_ok env_ok5 divC (by decide))
set_option maxRecDepth 20000 in
theorem ov_ok3 : AllT OvRow overT3 := ⟨⟨⟨⟨⟨trivial, AllT.none', ⟨trivial, AllT.none', ⟨trivial, AllT.some' ov111, trivial⟩⟩⟩, AllT.none', trivial⟩, AllT.none', ⟨⟨trivial, AllT.none', ⟨trivial, AllT.none', ⟨trivial, AllT.some' ov115, trivial⟩⟩⟩, AllT.none', ⟨⟨⟨⟨trivial, AllT.some' ov139, trivial⟩, AllT.none', trivial⟩, AllT.some' ov43, trivial⟩, AllT.none', ⟨⟨⟨trivial, AllT.none', ⟨trivial, AllT.some' ov411, trivial⟩⟩, AllT.none', trivial⟩, AllT.none', trivial⟩⟩⟩⟩, AllT.none', ⟨⟨⟨⟨trivial, AllT.none', ⟨⟨⟨trivial, AllT.some' ov289, trivial⟩, AllT.none', trivial⟩, AllT.none', trivial⟩⟩, AllT.none', ⟨⟨⟨trivial, AllT.some' ov145, trivial⟩, AllT.none', trivial⟩, AllT.none', trivial⟩⟩, AllT.none', ⟨trivial, AllT.none', ⟨trivial, AllT.none', ⟨⟨⟨trivial, AllT.some' ov313, trivial⟩, AllT.none', trivial⟩, AllT.none', trivial⟩⟩⟩⟩, AllT.none', ⟨⟨⟨trivial, AllT.some' ov37, trivial⟩, AllT.none', ⟨trivial, AllT.none', ⟨trivial, AllT.some' ov117, trivial⟩⟩⟩, AllT.none', ⟨⟨trivial, AllT.none', ⟨trivial, AllT.none', ⟨⟨trivial, AllT.some' ov365, trivial⟩, AllT.none', trivial⟩⟩⟩, AllT.none', ⟨⟨⟨⟨trivial, AllT.some' ov285, trivial⟩, AllT.none', trivial⟩, AllT.none', trivial⟩, AllT.none', trivial⟩⟩⟩⟩⟩, AllT.none', ⟨⟨trivial, AllT.none', ⟨⟨trivial, AllT.none', ⟨trivial, AllT.none', ⟨⟨trivial, AllT.some' ov180, trivial⟩, AllT.none', trivial⟩⟩⟩, AllT.none', trivial⟩⟩, AllT.none', ⟨⟨⟨trivial, AllT.none', ⟨⟨⟨trivial, AllT.some' ov146, trivial⟩, AllT.none', ⟨⟨trivial, AllT.some' ov338, trivial⟩, AllT.none', trivial⟩⟩, AllT.none', ⟨trivial, AllT.none', ⟨trivial, AllT.some' ov242, trivial⟩⟩⟩⟩, AllT.none', ⟨⟨trivial, AllT.some' ov42, ⟨trivial, AllT.some' ov106, ⟨trivial, AllT.some' ov234, trivial⟩⟩⟩, AllT.none', ⟨trivial, AllT.none', ⟨trivial, AllT.some' ov122, trivial⟩⟩⟩⟩, AllT.none', ⟨⟨⟨trivial, AllT.some' ov38, trivial⟩, AllT.none', ⟨trivial, AllT.some' ov54, trivial⟩⟩, AllT.none', ⟨⟨trivial, AllT.none', ⟨trivial, AllT.some' ov110, trivial⟩⟩, AllT.none', trivial⟩⟩⟩⟩⟩
set_option maxRecDepth 20000 in
theorem env_ok3 : EnvOk ctx kE3 where
  fns := fun g fn h => fns_ok h
  over := fun g h he => by
    have he' : getT (nm g) overT3 = some h := he
    rw [getT_eq] at he'
    exact AllT.get ov_ok3 he' g rfl
  mixed := by kernel_rfl
  ks := ks_ok
  hm := fun _ _ _ h => by cases h
  methods := me_ok
end Go.Eng
