/- verify.Check finds nothing wrong with modules of the law, by the kernel. -/
import Derived.Test.YtfblhonbphjiaaaGreatDoorSb
section
set_option linter.unusedVariables false
set_option linter.unusedSimpArgs false
set_option maxRecDepth 20000
set_option maxHeartbeats 4000000
namespace Go.Eng
open Go.Proofs
theorem keptVer6 : KeptV kE2 ktab 28 10000 3000 ([modV 7, .nils], .int .i64 0) := ⟨by decide +kernel, by decide +kernel⟩
end Go.Eng
end
section
set_option linter.unusedVariables false
set_option linter.unusedSimpArgs false
set_option maxRecDepth 20000
set_option maxHeartbeats 4000000
namespace Go.Eng
open Go.Proofs
theorem keptVer14 : KeptV kE2 ktab 28 10000 3000 ([modV 15, .nils], .int .i64 0) := ⟨by decide +kernel, by decide +kernel⟩
end Go.Eng
end
section
set_option linter.unusedVariables false
set_option linter.unusedSimpArgs false
set_option maxRecDepth 20000
set_option maxHeartbeats 4000000
namespace Go.Eng
open Go.Proofs
theorem keptVer22 : KeptV kE2 ktab 28 10000 3000 ([modV 23, .nils], .int .i64 0) := ⟨by decide +kernel, by decide +kernel⟩
end Go.Eng
end
section
set_option linter.unusedVariables false
set_option linter.unusedSimpArgs false
set_option maxRecDepth 20000
set_option maxHeartbeats 4000000
namespace Go.Eng
open Go.Proofs
theorem keptVer30 : KeptV kE2 ktab 28 10000 3000 ([modV 31, .nils], .int .i64 0) := ⟨by decide +kernel, by decide +kernel⟩
end Go.Eng
end
section
set_option linter.unusedVariables false
set_option linter.unusedSimpArgs false
set_option maxRecDepth 20000
set_option maxHeartbeats 4000000
namespace Go.Eng
open Go.Proofs
theorem keptVer38 : KeptV kE2 ktab 28 10000 3000 ([modV 39, .nils], .int .i64 0) := ⟨by decide +kernel, by decide +kernel⟩
end Go.Eng
end
