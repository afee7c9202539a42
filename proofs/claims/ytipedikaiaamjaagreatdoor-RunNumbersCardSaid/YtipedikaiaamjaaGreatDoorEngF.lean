/- Guarded operations, and rows of bytes. -/
import Derived.Test.YtipedikaiaamjaaGreatDoorEngE
section
namespace Go.Eng
variable {C : Ctx}
theorem over_datas {E : Env} (hE : EnvOk C E) {ρ : Rho} {s : St} {w : World} (hI : Inv C ρ s w) (hG : GR C ρ) {g n : Nat} {args : List V} {cargs : Array Value} (hA : AR ρ args cargs) (hp : pureVs args = true)
    {Q R' : V × St → Prop} (hrun : (callB E (eval E n) (nm g) args St.start).All E.branch Q) (hQ : ∀ r s1, Q (r, s1) → pureV r = true ∧ R' (r, s)) :
    Gives C.P (Post C ρ s w R') ((callFunc g cargs).run C.P w) := by
  obtain ⟨e1, e2⟩ := callB_ok hE (eval_sound hE n) (inv_bare hI) hG.bare (hA.toBare hp) hrun
  rw [e1]
  refine Calls.mono e2 ?_
  intro e w' he
  cases e with
  | returned cv =>
    obtain ⟨ρ1, r, s1, hq, hr, hx1⟩ := he
    obtain ⟨h1, h2⟩ := hQ r s1 hq
    exact ⟨{ blk := ρ.blk, imm := ρ1.imm }, r, s, h2, VR.ofBare (ρ := ρ1) (ρ' := { blk := ρ.blk, imm := ρ1.imm }) (fun _ _ h => h) (hr.toBare h1), Ext.lift0 hI hx1⟩
  | panicked c => exact he.elim
  | outgrown => exact he.elim
theorem T.Is_bind {α β : Type} {Q : α → Prop} {P : β → Prop} {f : α → T β} : ∀ {t : T α}, t.Is Q → (∀ x, Q x → (f x).Is P) → (t.bind f).Is P
  | .ret x, h, k => k x h
theorem T.bind_assoc {α β γ : Type} (f : α → T β) (g : β → T γ) : ∀ t : T α, (t.bind f).bind g = t.bind fun x => (f x).bind g
  | .ret _ => rfl
  | .ask k => by
    show T.ask _ = T.ask _
    congr 1
    funext n
    exact T.bind_assoc f g (k n)
  | .fail => rfl
  | .ite c t e => by
    show T.ite _ _ _ = T.ite _ _ _
    rw [T.bind_assoc f g t, T.bind_assoc f g e]
theorem T.Is_mono {α : Type} {Q P : α → Prop} : ∀ {t : T α}, t.Is Q → (∀ x, Q x → P x) → t.Is P
  | .ret x, h, k => k x h
theorem T.Is_all {α : Type} {br : Nat} {Q : α → Prop} : ∀ {t : T α}, t.Is Q → t.All br Q
  | .ret _, h => h
section
variable {E : Env} {τ : Tr V} {H : Tr O} {x : Nm} {d : Nat}
theorem opers_guard {ev : Eval} {p : Option Nm} {o : AOp} {g : Nm × Bool} {os : List AOper} : opers E ev (⟨p, o, some g⟩ :: os) τ ⟨H, x, d⟩ = cnd (.bool (wanted τ (some g))) ((oper E ev τ ⟨H, x, d⟩ o).bind fun r => opers E ev os (put τ p r.1) r.2) (opers E ev os (put τ p undef) ⟨H, x, d⟩) := by
  show (match wanted τ (some g) with | true => _ | false => _) = _
  cases wanted τ (some g) <;> rfl
theorem drun_guard {ev : Eval} {p : Option Nm} {o : AOp} {g : Nm × Bool} {cs : List AOper} {ds : List DStep} : drun E ev (⟨⟨p, o, some g⟩, .light, cs⟩ :: ds) τ ⟨H, x, d⟩ = cnd (.bool (wanted τ (some g))) ((T.ofO (exec (fun _ => 0) E.branch E.ks E.hasMethods τ ⟨H, x, d⟩ o)).bind fun r => drun E ev ds (put τ p r.1) ⟨H, x, d⟩) (drun E ev ds (put τ p undef) ⟨H, x, d⟩) := by
  show (match (match wanted τ (some g) with | true => (match exec (fun _ => 0) E.branch E.ks E.hasMethods τ ⟨H, x, d⟩ o with | some (v, _) => some v | none => none) | false => some undef) with | some v => drun E ev ds (put τ p v) ⟨H, x, d⟩ | none => .fail) = _
  cases wanted τ (some g) with
  | false => rfl
  | true =>
    cases exec (fun _ => 0) E.branch E.ks E.hasMethods τ ⟨H, x, d⟩ o with
    | none => rfl
    | some r => rfl
theorem drun_guardH {ev : Eval} {p : Option Nm} {o : AOp} {g : Nm × Bool} {cs : List AOper} {ds : List DStep} : drun E ev (⟨⟨p, o, some g⟩, .heavy, cs⟩ :: ds) τ ⟨H, x, d⟩ = cnd (.bool (wanted τ (some g))) ((oper E ev τ ⟨H, x, d⟩ o).bind fun r => cnd (.bool (recheck E (put τ p r.1) r.2 cs)) (drun E ev ds (put τ p r.1) r.2) .fail) (cnd (.bool (recheck E (put τ p undef) ⟨H, x, d⟩ cs)) (drun E ev ds (put τ p undef) ⟨H, x, d⟩) .fail) := by
  show (match wanted τ (some g) with | true => (oper E ev τ ⟨H, x, d⟩ o).bind _ | false => _) = _
  cases wanted τ (some g) with
  | true =>
    show (oper E ev τ ⟨H, x, d⟩ o).bind _ = (oper E ev τ ⟨H, x, d⟩ o).bind _
    congr 1
    funext r
    show (match recheck E (put τ p r.1) r.2 cs with | true => drun E ev ds (put τ p r.1) r.2 | false => .fail) = _
    cases recheck E (put τ p r.1) r.2 cs <;> rfl
  | false =>
    show (match recheck E (put τ p undef) ⟨H, x, d⟩ cs with | true => drun E ev ds (put τ p undef) ⟨H, x, d⟩ | false => .fail) = _
    cases recheck E (put τ p undef) ⟨H, x, d⟩ cs <;> rfl
end
theorem root_node {α : Type} (l r : Tr α) (v : Option α) : (Tr.node l v r).root = v := rfl
theorem left_node {α : Type} (l r : Tr α) (v : Option α) : (Tr.node l v r).left = l := rfl
theorem right_node {α : Type} (l r : Tr α) (v : Option α) : (Tr.node l v r).right = r := rfl
theorem root_leaf {α : Type} : (Tr.leaf : Tr α).root = none := rfl
theorem left_leaf {α : Type} : (Tr.leaf : Tr α).left = .leaf := rfl
theorem right_leaf {α : Type} : (Tr.leaf : Tr α).right = .leaf := rfl
theorem beq_ft : (false == true) = false := rfl
theorem beq_tf : (true == false) = false := rfl
theorem eqbV_nils : eqbV .nils .nils = true := by simp [eqbV]
end Go.Eng
end
section
namespace Go.Eng
def bs (l : List Nat) : List (List V) := l.map fun c => [V.int .u8 (Int.ofNat c)]
theorem bs_cons (c : Nat) (l : List Nat) : bs (c :: l) = [V.int .u8 (Int.ofNat c)] :: bs l := rfl
theorem bs_append (a b : List Nat) : bs (a ++ b) = bs a ++ bs b := by simp [bs]
theorem bs_length (l : List Nat) : (bs l).length = l.length := by simp [bs]
theorem bs_all (l : List Nat) : (bs l).all (fun e => Nat.beq e.length 1) = true := by
  simp [bs, List.all_eq_true]
theorem elems_str (H : Tr O) (l : List Nat) : elems H (.str l) = some (bs l) := rfl
theorem takeExact_all {α : Type} : ∀ l : List α, takeExact l.length l = some l
  | [] => rfl
  | a :: l => by simp [takeExact, takeExact_all l]
theorem window_whole {α : Type} (l : List α) : window 0 l.length l = some l := by
  simp [window, dropExact, takeExact_all]
theorem window_bs (l : List Nat) : window 0 l.length (bs l) = some (bs l) := by
  rw [← bs_length l]; exact window_whole _
def okB (l : List Nat) : Bool := l.all fun c => Nat.blt c 256
theorem bytesOf_bs : ∀ l : List Nat, okB l = true → bytesOf (bs l) = some l
  | [], _ => rfl
  | c :: l, h => by
    simp only [okB, List.all_cons, Bool.and_eq_true] at h
    have ih := bytesOf_bs l (by simpa [okB] using h.2)
    show (match Nat.blt c 256 with | true => (match bytesOf (bs l) with | some l => some (c :: l) | none => none) | false => none) = _
    rw [h.1, ih]
theorem append_bs0 {s : St} {ty : TypeId} {c : Nat} {l : List Nat} : append s 1 ty .nils (some (bs (c :: l))) = grow s 1 ty (bs (c :: l)) := by
  rw [bs_cons]
  simp only [append]
  rw [← bs_cons, bs_all, if_pos rfl]
theorem append_bs {s : St} {ty : TypeId} {b : Nm} {a : List Nat} {c : Nat} {l : List Nat} (hb : s.heap.get b = some (.row (bs a) 1 ty)) : append s 1 ty (.row b 1 0 a.length false) (some (bs (c :: l))) = grow { s with heap := s.heap.set none b } 1 ty (bs (a ++ c :: l)) := by
  rw [bs_cons]
  simp only [append]
  rw [← bs_cons, bs_all, if_pos rfl, hb]
  have h1 : Nat.beq 1 1 = true := rfl
  have h2 : Nat.beq ty ty = true := Nat.beq_refl ty
  simp only [h1, h2, if_true, window_bs, bs_append]
end Go.Eng
end
