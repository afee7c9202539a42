/-
  DERIVED. GIVEN WITH THE SEED: THE CARDS: each row of YtblfcamalggdfaaGreatDoorRows.lean that lists a variable, with what it lists TIED to the program's text (the seventh form; the later family's looks); each row that meets fmt, with fmt's text TOLD by the authors' own Lean function (tested against real Go, not proved from fmt's source: count such statements apart). THE CARD IS WHAT COUNTS. Prove the row's statement (the work); the ties are given (YtblfcamalggdfaaGreatDoorTie.lean); close each card by the builder's one call (the guide's Derived/Test/ToyasCard.lean, 'card_holds'). Laid BY PROGRAM, IN A SANDBOX (cutbox-door.mjs). By AI agents, Wed Nov 11 2026. No macro, syntax, notation, axiom, sorry.
-/
import Derived.Test.YtblfcamalggdfaaGreatDoorRows
import GoSem.ClaimSeven
namespace Go.Proofs.YtblfcamalggdfaaGreatDoor
namespace Rows

/-- THE TIED CARD OF 'demoticlaw09.RunCompares'. -/
def runComparesCard : Claim7 := { stood := { row := runComparesRow, standIns := [], harness := (true, "12a3e0178dd6e0bb0acd952ca58106f7a58024c5fbf4fc3d36237d4950dcb647"), looks := true }, kinds := [], alts := [], laidByText := true, laidKinds := [.data, .data, .data, .data, .handle, .widerDeep, .widerDeep, .widerDeep, .widerDeep, .sentinel, .widerDeep, .pinned], laidTests := true, laidLooks := .later }
def RunComparesCardSaid : Prop := Claim7.holds Tryz.pinned (.plain (OpenSpec.ofChange runComparesSpec)) runComparesCard

/-- THE SECOND FORM's CARD OF 'demoticlaw09.RunCompares'. -/
def runComparesUptoCard : Claim7 := { stood := { row := runComparesUptoRow, standIns := [], harness := (true, "12a3e0178dd6e0bb0acd952ca58106f7a58024c5fbf4fc3d36237d4950dcb647"), looks := true }, kinds := [], alts := [], laidByText := true, laidKinds := [.data, .data, .data, .data, .handle, .widerDeep, .widerDeep, .widerDeep, .widerDeep, .sentinel, .widerDeep, .pinned], laidTests := true, laidLooks := .later }
def RunComparesUptoCardSaid : Prop := Claim7.holds Tryz.pinned (.plain (OpenSpec.upto runComparesSpec)) runComparesUptoCard
end Rows
end Go.Proofs.YtblfcamalggdfaaGreatDoor
