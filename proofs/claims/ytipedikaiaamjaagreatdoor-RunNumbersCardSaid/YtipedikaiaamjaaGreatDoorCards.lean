/-
  DERIVED. GIVEN WITH THE SEED: THE CARDS: each row of YtipedikaiaamjaaGreatDoorRows.lean that lists a variable, with what it lists TIED to the program's text (the seventh form; the later family's looks); each row that meets fmt, with fmt's text TOLD by the authors' own Lean function (tested against real Go, not proved from fmt's source: count such statements apart). THE CARD IS WHAT COUNTS. Prove the row's statement (the work); the ties are given (YtipedikaiaamjaaGreatDoorTie.lean); close each card by the builder's one call (the guide's Derived/Test/ToyasCard.lean, 'card_holds'). Laid BY PROGRAM, IN A SANDBOX (cutbox-door.mjs). By AI agents, Wed Nov 11 2026. No macro, syntax, notation, axiom, sorry.
-/
import Derived.Test.YtipedikaiaamjaaGreatDoorRows
import GoSem.ClaimSeven
namespace Go.Proofs.YtipedikaiaamjaaGreatDoor
namespace Rows

/-- THE TIED CARD OF 'demoticlaw09.RunNumbers'. -/
def runNumbersCard : Claim7 := { stood := { row := runNumbersRow, standIns := [], harness := (true, "a87138f0777ba305ca38a9b136742e2ed51c3b4e2f4a370afb658821a43a65d6"), looks := true }, kinds := [], alts := [], laidByText := true, laidKinds := [.data, .data, .data, .data, .handle, .widerDeep, .widerDeep, .widerDeep, .widerDeep, .sentinel, .widerDeep, .pinned], laidTests := true, laidLooks := .later }
def RunNumbersCardSaid : Prop := Claim7.holds Tryz.pinned (.plain (OpenSpec.ofChange runNumbersSpec)) runNumbersCard

/-- THE SECOND FORM's CARD OF 'demoticlaw09.RunNumbers'. -/
def runNumbersUptoCard : Claim7 := { stood := { row := runNumbersUptoRow, standIns := [], harness := (true, "a87138f0777ba305ca38a9b136742e2ed51c3b4e2f4a370afb658821a43a65d6"), looks := true }, kinds := [], alts := [], laidByText := true, laidKinds := [.data, .data, .data, .data, .handle, .widerDeep, .widerDeep, .widerDeep, .widerDeep, .sentinel, .widerDeep, .pinned], laidTests := true, laidLooks := .later }
def RunNumbersUptoCardSaid : Prop := Claim7.holds Tryz.pinned (.plain (OpenSpec.upto runNumbersSpec)) runNumbersUptoCard
end Rows
end Go.Proofs.YtipedikaiaamjaaGreatDoor
