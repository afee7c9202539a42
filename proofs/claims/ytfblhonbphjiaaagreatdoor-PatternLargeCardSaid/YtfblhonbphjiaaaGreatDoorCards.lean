/-
  DERIVED. GIVEN WITH THE SEED: THE CARDS: each row of YtfblhonbphjiaaaGreatDoorRows.lean that lists a variable, with what it lists TIED to the program's text (the seventh form; the later family's looks); each row that meets fmt, with fmt's text TOLD by the authors' own Lean function (tested against real Go, not proved from fmt's source: count such statements apart). THE CARD IS WHAT COUNTS. Prove the row's statement (the work); the ties are given (YtfblhonbphjiaaaGreatDoorTie.lean); close each card by the builder's one call (the guide's Derived/Test/ToyasCard.lean, 'card_holds'). Laid BY PROGRAM, IN A SANDBOX (cutbox-door.mjs). By AI agents, Wed Nov 11 2026. No macro, syntax, notation, axiom, sorry.
-/
import Derived.Test.YtfblhonbphjiaaaGreatDoorRows
import GoSem.ClaimSeven
namespace Go.Proofs.YtfblhonbphjiaaaGreatDoor
namespace Rows

/-- THE TIED CARD OF 'demoticlaw12.PatternLarge'. -/
def patternLargeCard : Claim7 := { stood := { row := patternLargeRow, standIns := [], harness := (true, "ec71ac0e3d14ce6bd5c6bff8ba9b638ddd99bb8c48966ea1dd3fd8d057766158"), looks := true }, kinds := [], alts := [], laidByText := true, laidKinds := [.data, .data, .data, .data, .handle, .sentinel, .sentinel, .widerDeep, .widerDeep, .widerDeep, .widerDeep, .pinned], laidTests := true, laidLooks := .later }
def PatternLargeCardSaid : Prop := Claim7.holds Tryz.pinned (.plain (OpenSpec.ofChange patternLargeSpec)) patternLargeCard

/-- THE SECOND FORM's CARD OF 'demoticlaw12.PatternLarge'. -/
def patternLargeUptoCard : Claim7 := { stood := { row := patternLargeUptoRow, standIns := [], harness := (true, "ec71ac0e3d14ce6bd5c6bff8ba9b638ddd99bb8c48966ea1dd3fd8d057766158"), looks := true }, kinds := [], alts := [], laidByText := true, laidKinds := [.data, .data, .data, .data, .handle, .sentinel, .sentinel, .widerDeep, .widerDeep, .widerDeep, .widerDeep, .pinned], laidTests := true, laidLooks := .later }
def PatternLargeUptoCardSaid : Prop := Claim7.holds Tryz.pinned (.plain (OpenSpec.upto patternLargeSpec)) patternLargeUptoCard
end Rows
end Go.Proofs.YtfblhonbphjiaaaGreatDoor
