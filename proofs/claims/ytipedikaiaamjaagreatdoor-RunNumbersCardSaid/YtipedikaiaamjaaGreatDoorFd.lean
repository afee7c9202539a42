/- The closed facts of the row together. -/
import Derived.Test.YtipedikaiaamjaaGreatDoorFa
import Derived.Test.YtipedikaiaamjaaGreatDoorFb
import Derived.Test.YtipedikaiaamjaaGreatDoorFc
import Derived.Test.YtipedikaiaamjaaGreatDoorCards
import Derived.Test.YtipedikaiaamjaaGreatDoorTie
import Derived.JoinedCond
import Derived.KernelRfl
set_option linter.unusedVariables false
set_option maxRecDepth 100000
set_option maxHeartbeats 4000000
namespace Go.Proofs.YtipedikaiaamjaaGreatDoor.runNumbers
theorem and_mk {a b : Bool} (h : a = true) (k : b = true) : (a && b) = true := by rw [h, k]; rfl
theorem jClosed : joinedFacts Tryz.prog 3 Tryz.f3 jS Rows.runNumbersRow = true := (and_mk (and_mk (and_mk (and_mk (and_mk (and_mk (and_mk (and_mk (and_mk (and_mk (and_mk (and_mk (and_mk (and_mk (and_mk (and_mk (and_mk (and_mk (and_mk (and_mk (and_mk (and_mk (and_mk (and_mk (and_mk (and_mk (and_mk (and_mk (and_mk (and_mk (and_mk j1 j2) j3) j4) j5) j6) j7) j8) j9) j10) j11) j12) j13) j14) j15) j16) j17) j18) j19) j20) j21) j22) j23) j24) j25) j26) j27) j28) j29) j30) j31) j32)
end Go.Proofs.YtipedikaiaamjaaGreatDoor.runNumbers
