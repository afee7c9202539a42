/- Strings of terms. -/
import Derived.Test.YtlenkhcenfkogaaGreatDoorEngI
namespace Go.Eng
def bs (l : List Nat) : List (List V) := l.map fun c => [V.int .u8 (Int.ofNat c)]
theorem bs_cons (c : Nat) (l : List Nat) : bs (c :: l) = [V.int .u8 (Int.ofNat c)] :: bs l := rfl
theorem bs_append (a b : List Nat) : bs (a ++ b) = bs a ++ bs b := by simp [bs]
theorem bs_length (l : List Nat) : (bs l).length = l.length := by simp [bs]
theorem bs_all (l : List Nat) : (bs l).all (fun e => Nat.beq e.length 1) = true := by
  simp [bs, List.all_eq_true]
theorem elems_str (H : Tr O) (l : List Nat) : elems H (.str l) = some (bs l) := rfl
theorem takeExact_all {α : Type} : ∀ l : List α, takeExact l.length l = some l
  | [] => rfl
  | a :: l => by simp [takeExact, takeExact_all l]
theorem window_whole {α : Type} (l : List α) : window 0 l.length l = some l := by
  simp [window, dropExact, takeExact_all]
theorem window_bs (l : List Nat) : window 0 l.length (bs l) = some (bs l) := by
  rw [← bs_length l]; exact window_whole _
def okB (l : List Nat) : Bool := l.all fun c => Nat.blt c 256
theorem bytesOf_bs : ∀ l : List Nat, okB l = true → bytesOf (bs l) = some l
  | [], _ => rfl
  | c :: l, h => by
    simp only [okB, List.all_cons, Bool.and_eq_true] at h
    have ih := bytesOf_bs l (by simpa [okB] using h.2)
    show (match Nat.blt c 256 with | true => (match bytesOf (bs l) with | some l => some (c :: l) | none => none) | false => none) = _
    rw [h.1, ih]
theorem append_bs0 {s : St} {ty : TypeId} {c : Nat} {l : List Nat} : append s 1 ty .nils (some (bs (c :: l))) = grow s 1 ty (bs (c :: l)) := by
  rw [bs_cons]
  simp only [append]
  rw [← bs_cons, bs_all, if_pos rfl]
theorem append_bs {s : St} {ty : TypeId} {b : Nm} {a : List Nat} {c : Nat} {l : List Nat} (hb : s.heap.get b = some (.row (bs a) 1 ty)) : append s 1 ty (.row b 1 0 a.length false) (some (bs (c :: l))) = grow { s with heap := s.heap.set none b } 1 ty (bs (a ++ c :: l)) := by
  rw [bs_cons]
  simp only [append]
  rw [← bs_cons, bs_all, if_pos rfl, hb]
  have h1 : Nat.beq 1 1 = true := rfl
  have h2 : Nat.beq ty ty = true := Nat.beq_refl ty
  simp only [h1, h2, if_true, window_bs, bs_append]
end Go.Eng
