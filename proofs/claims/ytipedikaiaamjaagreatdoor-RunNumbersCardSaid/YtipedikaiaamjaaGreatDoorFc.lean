/- Closed facts of the row, third part. -/
import Derived.Test.YtipedikaiaamjaaGreatDoorCards
import Derived.Test.YtipedikaiaamjaaGreatDoorTie
import Derived.JoinedCond
import Derived.KernelRfl
set_option linter.unusedVariables false
set_option maxRecDepth 100000
set_option maxHeartbeats 4000000
namespace Go.Proofs.YtipedikaiaamjaaGreatDoor.runNumbers
theorem j12 : ((Rows.runNumbersRow.recurses == Tryz.prog.recurses 3)) = true := by kernel_rfl
theorem j13 : ((Rows.runNumbersRow.named == Tryz.prog.varsNamed 3)) = true := by kernel_rfl
end Go.Proofs.YtipedikaiaamjaaGreatDoor.runNumbers
