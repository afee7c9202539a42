/- Guarded operations, and rows of bytes. -/
import Derived.Test.YtfblhonbphjiaaaGreatDoorEngE
section
namespace Go.Eng
variable {C : Ctx}
theorem over_datas {E : Env} (hE : EnvOk C E) {ρ : Rho} {s : St} {w : World} (hI : Inv C ρ s w) (hG : GR C ρ) {g n : Nat} {args : List V} {cargs : Array Value} (hA : AR ρ args cargs) (hp : pureVs args = true)
    {Q R' : V × St → Prop} (hrun : (callB E (eval E n) (nm g) args St.start).All E.branch Q) (hQ : ∀ r s1, Q (r, s1) → pureV r = true ∧ R' (r, s)) :
    Gives C.P (Post C ρ s w R') ((callFunc g cargs).run C.P w) := by
  obtain ⟨e1, e2⟩ := callB_ok hE (eval_sound hE n) (inv_bare hI) hG.bare (hA.toBare hp) hrun
  rw [e1]
  refine Calls.mono e2 ?_
  intro e w' he
  cases e with
  | returned cv =>
    obtain ⟨ρ1, r, s1, hq, hr, hx1⟩ := he
    obtain ⟨h1, h2⟩ := hQ r s1 hq
    exact ⟨{ blk := ρ.blk, imm := ρ1.imm }, r, s, h2, VR.ofBare (ρ := ρ1) (ρ' := { blk := ρ.blk, imm := ρ1.imm }) (fun _ _ h => h) (hr.toBare h1), Ext.lift0 hI hx1⟩
  | panicked c => exact he.elim
  | outgrown => exact he.elim
theorem T.Is_bind {α β : Type} {Q : α → Prop} {P : β → Prop} {f : α → T β} : ∀ {t : T α}, t.Is Q → (∀ x, Q x → (f x).Is P) → (t.bind f).Is P
  | .ret x, h, k => k x h
theorem T.bind_assoc {α β γ : Type} (f : α → T β) (g : β → T γ) : ∀ t : T α, (t.bind f).bind g = t.bind fun x => (f x).bind g
  | .ret _ => rfl
  | .ask k => by
    show T.ask _ = T.ask _
    congr 1
    funext n
    exact T.bind_assoc f g (k n)
  | .fail => rfl
  | .test c t => by
    show T.test _ _ = T.test _ _
    rw [T.bind_assoc f g t]
theorem T.Is_mono {α : Type} {Q P : α → Prop} : ∀ {t : T α}, t.Is Q → (∀ x, Q x → P x) → t.Is P
  | .ret x, h, k => k x h
theorem T.Is_all {α : Type} {br : Nat} {Q : α → Prop} : ∀ {t : T α}, t.Is Q → t.All br Q
  | .ret _, h => h
section
variable {E : Env} {τ : Tr V} {H : Tr O} {x : Nm} {d : Nat}
theorem opers_guard {ev : Eval} {p : Option Nm} {o : AOp} {g : Nm × Bool} {os : List AOper} : opers E ev (⟨p, o, some g⟩ :: os) τ ⟨H, x, d⟩ = cnd (.bool (wanted τ (some g))) ((oper E ev τ ⟨H, x, d⟩ o).bind fun r => opers E ev os (put τ p r.1) r.2) (opers E ev os (put τ p undef) ⟨H, x, d⟩) := by
  show (match wanted τ (some g) with | true => _ | false => _) = _
  cases wanted τ (some g) <;> rfl
theorem drun_guard {ev : Eval} {p : Option Nm} {o : AOp} {g : Nm × Bool} {cs : List AOper} {ds : List DStep} : drun E ev (⟨⟨p, o, some g⟩, .light, cs⟩ :: ds) τ ⟨H, x, d⟩ = cnd (.bool (wanted τ (some g))) ((T.ofO (exec (fun _ => 0) E.branch E.ks E.hasMethods τ ⟨H, x, d⟩ o)).bind fun r => drun E ev ds (put τ p r.1) ⟨H, x, d⟩) (drun E ev ds (put τ p undef) ⟨H, x, d⟩) := by
  show (match (match wanted τ (some g) with | true => (match exec (fun _ => 0) E.branch E.ks E.hasMethods τ ⟨H, x, d⟩ o with | some (v, _) => some v | none => none) | false => some undef) with | some v => drun E ev ds (put τ p v) ⟨H, x, d⟩ | none => .fail) = _
  cases wanted τ (some g) with
  | false => rfl
  | true =>
    cases exec (fun _ => 0) E.branch E.ks E.hasMethods τ ⟨H, x, d⟩ o with
    | none => rfl
    | some r => rfl
theorem drun_guardH {ev : Eval} {p : Option Nm} {o : AOp} {g : Nm × Bool} {cs : List AOper} {ds : List DStep} : drun E ev (⟨⟨p, o, some g⟩, .heavy, cs⟩ :: ds) τ ⟨H, x, d⟩ = cnd (.bool (wanted τ (some g))) ((oper E ev τ ⟨H, x, d⟩ o).bind fun r => cnd (.bool (recheck E (put τ p r.1) r.2 cs)) (drun E ev ds (put τ p r.1) r.2) .fail) (cnd (.bool (recheck E (put τ p undef) ⟨H, x, d⟩ cs)) (drun E ev ds (put τ p undef) ⟨H, x, d⟩) .fail) := by
  show (match wanted τ (some g) with | true => (oper E ev τ ⟨H, x, d⟩ o).bind _ | false => _) = _
  cases wanted τ (some g) with
  | true =>
    show (oper E ev τ ⟨H, x, d⟩ o).bind _ = (oper E ev τ ⟨H, x, d⟩ o).bind _
    congr 1
    funext r
    show (match recheck E (put τ p r.1) r.2 cs with | true => drun E ev ds (put τ p r.1) r.2 | false => .fail) = _
    cases recheck E (put τ p r.1) r.2 cs <;> rfl
  | false =>
    show (match recheck E (put τ p undef) ⟨H, x, d⟩ cs with | true => drun E ev ds (put τ p undef) ⟨H, x, d⟩ | false => .fail) = _
    cases recheck E (put τ p undef) ⟨H, x, d⟩ cs <;> rfl
end
theorem root_node {α : Type} (l r : Tr α) (v : Option α) : (Tr.node l v r).root = v := rfl
theorem left_node {α : Type} (l r : Tr α) (v : Option α) : (Tr.node l v r).left = l := rfl
theorem right_node {α : Type} (l r : Tr α) (v : Option α) : (Tr.node l v r).right = r := rfl
theorem root_leaf {α : Type} : (Tr.leaf : Tr α).root = none := rfl
theorem left_leaf {α : Type} : (Tr.leaf : Tr α).left = .leaf := rfl
theorem right_leaf {α : Type} : (Tr.leaf : Tr α).right = .leaf := rfl
theorem beq_ft : (false == true) = false := rfl
theorem beq_tf : (true == false) = false := rfl
def iv (n : Int) : V := .int .i64 n
def intsL : List V → Option (List Int)
  | [] => some []
  | v :: vs => match v with
    | .int .i64 n => match intsL vs with
      | some l => some (n :: l)
      | none => none
    | _ => none
def intsOf : V → Option (List Int)
  | .nils => some []
  | .dsl es _ => match intsL es with
    | some l => if l.length < 9223372036854775808 then some l else none
    | none => none
  | _ => none
theorem intsL_spec : ∀ {es : List V} {xs : List Int}, intsL es = some xs → es = xs.map iv
  | [], xs, h => by cases h; rfl
  | v :: vs, xs, h => by
    unfold intsL at h
    split at h
    · split at h
      · rename_i l hl
        cases h
        rw [intsL_spec hl]; rfl
      · cases h
    · cases h
theorem intsL_map : ∀ xs : List Int, intsL (xs.map iv) = some xs
  | [] => rfl
  | x :: xs => by simp only [List.map_cons, intsL, iv, intsL_map xs]
theorem intsOf_cases {a : V} {xs : List Int} (h : intsOf a = some xs) : (a = .nils ∧ xs = []) ∨ (∃ c, a = .dsl (xs.map iv) c) ∧ xs.length < 9223372036854775808 := by
  unfold intsOf at h
  split at h
  · cases h; exact .inl ⟨rfl, rfl⟩
  · split at h
    · rename_i hl
      split at h
      · cases h; exact .inr ⟨⟨_, by rw [intsL_spec hl]⟩, by assumption⟩
      · cases h
    · cases h
  · cases h
theorem intsOf_dsl {xs : List Int} (h : xs.length < 9223372036854775808) (c : Bool) : intsOf (.dsl (xs.map iv) c) = some xs := by
  simp only [intsOf, intsL_map, if_pos h]
theorem pure_ints : ∀ xs : List Int, pureVs (xs.map iv) = true
  | [] => rfl
  | x :: xs => by simp [pureVs, pureV, iv, pure_ints xs]
theorem intsOf_pure {a : V} {xs : List Int} (h : intsOf a = some xs) : pureV a = true := by
  rcases intsOf_cases h with ⟨rfl, -⟩ | ⟨⟨c, rfl⟩, -⟩
  · rfl
  · simp [pureV, pure_ints]
theorem intsOf_scalar {a : V} {xs : List Int} (h : intsOf a = some xs) : scalarV a = true := by
  rcases intsOf_cases h with ⟨rfl, -⟩ | ⟨⟨c, rfl⟩, -⟩ <;> rfl
theorem intsOf_cells {a : V} {xs : List Int} (h : intsOf a = some xs) : a.cells = [a] := by
  rcases intsOf_cases h with ⟨rfl, -⟩ | ⟨⟨c, rfl⟩, -⟩ <;> rfl
theorem intsOf_notTup {a : V} {xs : List Int} (h : intsOf a = some xs) : notTup a = true := by
  rcases intsOf_cases h with ⟨rfl, -⟩ | ⟨⟨c, rfl⟩, -⟩ <;> rfl
theorem len_ints {a : V} {xs : List Int} (h : intsOf a = some xs) : lenL a = some (.int .i64 (xs.length : Int)) := by
  rcases intsOf_cases h with ⟨rfl, rfl⟩ | ⟨⟨c, rfl⟩, -⟩
  · rfl
  · simp [lenL]
theorem nth_ints {xs : List Int} {i : Nat} {z : Int} (h : xs[i]? = some z) : nth i (xs.map iv) = some (.int .i64 z) := by
  rw [nth_eq, List.getElem?_map, h]; rfl
theorem eqbV_agg (a b : List V) : eqbV (.agg a) (.agg b) = eqbVs a b := by simp [eqbV]
theorem eqbV_nils : eqbV .nils .nils = true := by simp [eqbV]
theorem eqbV_bool' (a : Bool) : eqbV (.bool a) (.bool a) = true := by simp [eqbV]
theorem eqbV_int' (k : IntKind) (n : Int) : eqbV (.int k n) (.int k n) = true := by simp [eqbV]
theorem eqbVs_nil : eqbVs [] [] = true := by simp [eqbVs]
theorem eqbVs_cons (a b : V) (x y : List V) : eqbVs (a :: x) (b :: y) = (eqbV a b && eqbVs x y) := by simp [eqbVs]
theorem eqbVs_ints : ∀ xs : List Int, eqbVs (xs.map iv) (xs.map iv) = true
  | [] => by simp [eqbVs]
  | x :: xs => by simp [eqbVs, eqbV, iv, eqbVs_ints xs]
theorem eqbV_ints {a : V} {xs : List Int} (h : intsOf a = some xs) : eqbV a a = true := by
  rcases intsOf_cases h with ⟨rfl, -⟩ | ⟨⟨c, rfl⟩, -⟩
  · simp [eqbV]
  · simp [eqbV, eqbVs_ints]
theorem eqV_bool (H : Tr O) (ks : TypeId → Option Ks) (f : Nat) (a b : Bool) : eqV H ks (f + 1) .bool (.bool a) (.bool b) = some (a == b) := rfl
theorem natOf_nat (k : IntKind) (i : Nat) : natOf (.int k (i : Int)) = some i := rfl
theorem wrap_nat {i : Nat} (h : i + 1 < 9223372036854775808) : IntKind.wrap .i64 ((i : Int) + 1) = ((i + 1 : Nat) : Int) := by
  have := wrap64_small (n := i + 1) (by omega)
  rw [← this]; rfl
theorem OverOk.weak {br g : Nat} {h h' : List V → St → T (V × St)} (hh : OverOk C br g h) (hw : ∀ args s R, (h' args s).All br R → (h args s).All br R) : OverOk C br g h' :=
  fun ρ s w args cargs R hI hG hA k => hh ρ s w args cargs R hI hG hA (hw _ _ _ k)
def ovEqI (args : List V) (s : St) : T (V × St) := match args with
  | [a, b] => match intsOf a, intsOf b with
    | some xs, some ys => .ret (.bool (decide (xs = ys)), s)
    | _, _ => .fail
  | _ => .fail
end Go.Eng
end
section
namespace Go.Eng
def bs (l : List Nat) : List (List V) := l.map fun c => [V.int .u8 (Int.ofNat c)]
theorem bs_cons (c : Nat) (l : List Nat) : bs (c :: l) = [V.int .u8 (Int.ofNat c)] :: bs l := rfl
theorem bs_append (a b : List Nat) : bs (a ++ b) = bs a ++ bs b := by simp [bs]
theorem bs_length (l : List Nat) : (bs l).length = l.length := by simp [bs]
theorem bs_all (l : List Nat) : (bs l).all (fun e => Nat.beq e.length 1) = true := by
  simp [bs, List.all_eq_true]
theorem elems_str (H : Tr O) (l : List Nat) : elems H (.str l) = some (bs l) := rfl
theorem takeExact_all {α : Type} : ∀ l : List α, takeExact l.length l = some l
  | [] => rfl
  | a :: l => by simp [takeExact, takeExact_all l]
theorem window_whole {α : Type} (l : List α) : window 0 l.length l = some l := by
  simp [window, dropExact, takeExact_all]
theorem window_bs (l : List Nat) : window 0 l.length (bs l) = some (bs l) := by
  rw [← bs_length l]; exact window_whole _
def okB (l : List Nat) : Bool := l.all fun c => Nat.blt c 256
theorem bytesOf_bs : ∀ l : List Nat, okB l = true → bytesOf (bs l) = some l
  | [], _ => rfl
  | c :: l, h => by
    simp only [okB, List.all_cons, Bool.and_eq_true] at h
    have ih := bytesOf_bs l (by simpa [okB] using h.2)
    show (match Nat.blt c 256 with | true => (match bytesOf (bs l) with | some l => some (c :: l) | none => none) | false => none) = _
    rw [h.1, ih]
theorem append_bs0 {s : St} {ty : TypeId} {c : Nat} {l : List Nat} : append s 1 ty .nils (some (bs (c :: l))) = grow s 1 ty (bs (c :: l)) := by
  rw [bs_cons]
  simp only [append]
  rw [← bs_cons, bs_all, if_pos rfl]
theorem append_bs {s : St} {ty : TypeId} {b : Nm} {a : List Nat} {c : Nat} {l : List Nat} (hb : s.heap.get b = some (.row (bs a) 1 ty)) : append s 1 ty (.row b 1 0 a.length false) (some (bs (c :: l))) = grow { s with heap := s.heap.set none b } 1 ty (bs (a ++ c :: l)) := by
  rw [bs_cons]
  simp only [append]
  rw [← bs_cons, bs_all, if_pos rfl, hb]
  have h1 : Nat.beq 1 1 = true := rfl
  have h2 : Nat.beq ty ty = true := Nat.beq_refl ty
  simp only [h1, h2, if_true, window_bs, bs_append]
end Go.Eng
end
