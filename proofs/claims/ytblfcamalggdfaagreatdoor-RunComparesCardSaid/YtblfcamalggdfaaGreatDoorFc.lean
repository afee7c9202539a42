/- Closed facts of the row, third part. -/
import Derived.Test.YtblfcamalggdfaaGreatDoorCards
import Derived.Test.YtblfcamalggdfaaGreatDoorTie
import Derived.JoinedCond
import Derived.KernelRfl
set_option linter.unusedVariables false
set_option maxRecDepth 100000
set_option maxHeartbeats 4000000
namespace Go.Proofs.YtblfcamalggdfaaGreatDoor.runCompares
theorem j12 : ((Rows.runComparesRow.recurses == Tryz.prog.recurses 3)) = true := by kernel_rfl
theorem j13 : ((Rows.runComparesRow.named == Tryz.prog.varsNamed 3)) = true := by kernel_rfl
end Go.Proofs.YtblfcamalggdfaaGreatDoor.runCompares
