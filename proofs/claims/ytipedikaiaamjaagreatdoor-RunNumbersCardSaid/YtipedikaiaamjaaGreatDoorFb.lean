/- Closed facts of the row, second part. -/
import Derived.Test.YtipedikaiaamjaaGreatDoorCards
import Derived.Test.YtipedikaiaamjaaGreatDoorTie
import Derived.JoinedCond
import Derived.KernelRfl
set_option linter.unusedVariables false
set_option maxRecDepth 100000
set_option maxHeartbeats 4000000
namespace Go.Proofs.YtipedikaiaamjaaGreatDoor.runNumbers
theorem j10 : ((Rows.runNumbersRow.inPlace == Tryz.prog.inPlace 3)) = true := by kernel_rfl
theorem j11 : ((Rows.runNumbersRow.unfollowed == Tryz.prog.unfollowed 3)) = true := by kernel_rfl
theorem goes_false {P : Program} (h : P.funcs.any Func.goes = false) (f : FuncId) : P.goes f = false := by
  have one : ∀ g : Nat, (P.funcs[g]?).any Func.goes = false := fun g => by
    cases hg : P.funcs[g]? with
    | none => rfl
    | some fn =>
      obtain ⟨hi, e⟩ := Array.getElem?_eq_some_iff.1 hg
      rw [Array.any_eq_false] at h
      have := h g hi
      rw [e] at this
      simpa using this
  unfold Program.goes
  rw [Bool.or_eq_false_iff]
  refine ⟨?_, by rw [h, Bool.and_false]⟩
  rw [List.any_eq_false]
  intro g _
  rw [one g]
  exact Bool.false_ne_true
theorem noGo : Tryz.prog.funcs.any Func.goes = false := by kernel_rfl
theorem jGoes : false = Rows.runNumbersRow.goesBy Tryz.pinned.checked.prog := by
  have h : ∀ f, Tryz.pinned.checked.prog.goes f = false := fun f => goes_false (P := Tryz.pinned.checked.prog) noGo f
  unfold OpenClaim.goesBy Program.goesAt Program.goesFrom
  have e : (Tryz.pinned.checked.prog.funcNamed Rows.runNumbersRow.func).any Tryz.pinned.checked.prog.goes = false := by
    cases Tryz.pinned.checked.prog.funcNamed Rows.runNumbersRow.func with
    | none => rfl
    | some f => exact h f
  rw [e]
  rfl
end Go.Proofs.YtipedikaiaamjaaGreatDoor.runNumbers
