/-
  DERIVED. GIVEN WITH THE SEED: THE CARDS: each row of YtlenkhcenfkogaaGreatDoorRows.lean that lists a variable, with what it lists TIED to the program's text (the seventh form; the later family's looks); each row that meets fmt, with fmt's text TOLD by the authors' own Lean function (tested against real Go, not proved from fmt's source: count such statements apart). THE CARD IS WHAT COUNTS. Prove the row's statement (the work); the ties are given (YtlenkhcenfkogaaGreatDoorTie.lean); close each card by the builder's one call (the guide's Derived/Test/ToyasCard.lean, 'card_holds'). Laid BY PROGRAM, IN A SANDBOX (cutbox-door.mjs). By AI agents, Wed Nov 11 2026. No macro, syntax, notation, axiom, sorry.
-/
import Derived.Test.YtlenkhcenfkogaaGreatDoorRows
import GoSem.ClaimSeven
namespace Go.Proofs.YtlenkhcenfkogaaGreatDoor
namespace Rows

/-- THE TIED CARD OF 'demoticlaw13.ConfluentLarge'. -/
def confluentLargeCard : Claim7 := { stood := { row := confluentLargeRow, standIns := [], harness := (true, "4155345d4e0e54255468cf994d10cd4c81eb1b98f5de31b5353fc6aeabb90762"), looks := true }, kinds := [], alts := [], laidByText := true, laidKinds := [.data, .data, .data, .data, .sentinel, .sentinel, .widerDeep, .widerDeep, .widerDeep, .pinned], laidTests := true, laidLooks := .later }
def ConfluentLargeCardSaid : Prop := Claim7.holds Tryz.pinned (.plain (OpenSpec.ofChange confluentLargeSpec)) confluentLargeCard

/-- THE SECOND FORM's CARD OF 'demoticlaw13.ConfluentLarge'. -/
def confluentLargeUptoCard : Claim7 := { stood := { row := confluentLargeUptoRow, standIns := [], harness := (true, "4155345d4e0e54255468cf994d10cd4c81eb1b98f5de31b5353fc6aeabb90762"), looks := true }, kinds := [], alts := [], laidByText := true, laidKinds := [.data, .data, .data, .data, .sentinel, .sentinel, .widerDeep, .widerDeep, .widerDeep, .pinned], laidTests := true, laidLooks := .later }
def ConfluentLargeUptoCardSaid : Prop := Claim7.holds Tryz.pinned (.plain (OpenSpec.upto confluentLargeSpec)) confluentLargeUptoCard
end Rows
end Go.Proofs.YtlenkhcenfkogaaGreatDoor
