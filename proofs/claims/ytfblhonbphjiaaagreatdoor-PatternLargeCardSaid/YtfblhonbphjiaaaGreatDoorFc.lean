/- Closed facts of the row, third part. -/
import Derived.Test.YtfblhonbphjiaaaGreatDoorCards
import Derived.Test.YtfblhonbphjiaaaGreatDoorTie
import Derived.JoinedCond
import Derived.KernelRfl
set_option linter.unusedVariables false
set_option maxRecDepth 100000
set_option maxHeartbeats 4000000
namespace Go.Proofs.YtfblhonbphjiaaaGreatDoor.patternLarge
theorem j12 : ((Rows.patternLargeRow.recurses == Tryz.prog.recurses 3)) = true := by kernel_rfl
theorem j13 : ((Rows.patternLargeRow.named == Tryz.prog.varsNamed 3)) = true := by kernel_rfl
end Go.Proofs.YtfblhonbphjiaaaGreatDoor.patternLarge
