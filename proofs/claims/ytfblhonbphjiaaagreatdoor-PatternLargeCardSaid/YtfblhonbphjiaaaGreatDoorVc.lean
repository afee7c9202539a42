/- verify.Check finds nothing wrong with modules of the law, by the kernel. -/
import Derived.Test.YtfblhonbphjiaaaGreatDoorSb
section
set_option linter.unusedVariables false
set_option linter.unusedSimpArgs false
set_option maxRecDepth 20000
set_option maxHeartbeats 4000000
namespace Go.Eng
open Go.Proofs
theorem keptVer2 : KeptV kE2 ktab 28 10000 3000 ([modV 3, .nils], .int .i64 0) := ⟨by decide +kernel, by decide +kernel⟩
end Go.Eng
end
section
set_option linter.unusedVariables false
set_option linter.unusedSimpArgs false
set_option maxRecDepth 20000
set_option maxHeartbeats 4000000
namespace Go.Eng
open Go.Proofs
theorem keptVer10 : KeptV kE2 ktab 28 10000 3000 ([modV 11, .nils], .int .i64 0) := ⟨by decide +kernel, by decide +kernel⟩
end Go.Eng
end
section
set_option linter.unusedVariables false
set_option linter.unusedSimpArgs false
set_option maxRecDepth 20000
set_option maxHeartbeats 4000000
namespace Go.Eng
open Go.Proofs
theorem keptVer18 : KeptV kE2 ktab 28 10000 3000 ([modV 19, .nils], .int .i64 0) := ⟨by decide +kernel, by decide +kernel⟩
end Go.Eng
end
section
set_option linter.unusedVariables false
set_option linter.unusedSimpArgs false
set_option maxRecDepth 20000
set_option maxHeartbeats 4000000
namespace Go.Eng
open Go.Proofs
theorem keptVer26 : KeptV kE2 ktab 28 10000 3000 ([modV 27, .nils], .int .i64 0) := ⟨by decide +kernel, by decide +kernel⟩
end Go.Eng
end
section
set_option linter.unusedVariables false
set_option linter.unusedSimpArgs false
set_option maxRecDepth 20000
set_option maxHeartbeats 4000000
namespace Go.Eng
open Go.Proofs
theorem keptVer34 : KeptV kE2 ktab 28 10000 3000 ([modV 35, .nils], .int .i64 0) := ⟨by decide +kernel, by decide +kernel⟩
end Go.Eng
end
