/- The function awake returns true, by the kernel. -/
import Derived.Test.YtipedikaiaamjaaGreatDoorSb
set_option linter.unusedVariables false
set_option linter.unusedSimpArgs false
set_option maxRecDepth 20000
set_option maxHeartbeats 4000000
namespace Go.Eng
open Go.Proofs
theorem keptAw : KeptP kE2 ktab 10 10000 3000 ([], .bool true) := ⟨by decide +kernel, by decide +kernel, by decide +kernel⟩
end Go.Eng
