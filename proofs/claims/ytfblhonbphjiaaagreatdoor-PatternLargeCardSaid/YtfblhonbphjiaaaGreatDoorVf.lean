/- verify.Check finds nothing wrong with modules of the law, by the kernel. -/
import Derived.Test.YtfblhonbphjiaaaGreatDoorSb
section
set_option linter.unusedVariables false
set_option linter.unusedSimpArgs false
set_option maxRecDepth 20000
set_option maxHeartbeats 4000000
namespace Go.Eng
open Go.Proofs
theorem keptVer5 : KeptV kE2 ktab 28 10000 3000 ([modV 6, .nils], .int .i64 0) := ⟨by decide +kernel, by decide +kernel⟩
end Go.Eng
end
section
set_option linter.unusedVariables false
set_option linter.unusedSimpArgs false
set_option maxRecDepth 20000
set_option maxHeartbeats 4000000
namespace Go.Eng
open Go.Proofs
theorem keptVer13 : KeptV kE2 ktab 28 10000 3000 ([modV 14, .nils], .int .i64 0) := ⟨by decide +kernel, by decide +kernel⟩
end Go.Eng
end
section
set_option linter.unusedVariables false
set_option linter.unusedSimpArgs false
set_option maxRecDepth 20000
set_option maxHeartbeats 4000000
namespace Go.Eng
open Go.Proofs
theorem keptVer21 : KeptV kE2 ktab 28 10000 3000 ([modV 22, .nils], .int .i64 0) := ⟨by decide +kernel, by decide +kernel⟩
end Go.Eng
end
section
set_option linter.unusedVariables false
set_option linter.unusedSimpArgs false
set_option maxRecDepth 20000
set_option maxHeartbeats 4000000
namespace Go.Eng
open Go.Proofs
theorem keptVer29 : KeptV kE2 ktab 28 10000 3000 ([modV 30, .nils], .int .i64 0) := ⟨by decide +kernel, by decide +kernel⟩
end Go.Eng
end
section
set_option linter.unusedVariables false
set_option linter.unusedSimpArgs false
set_option maxRecDepth 20000
set_option maxHeartbeats 4000000
namespace Go.Eng
open Go.Proofs
theorem keptVer37 : KeptV kE2 ktab 28 10000 3000 ([modV 38, .nils], .int .i64 0) := ⟨by decide +kernel, by decide +kernel⟩
end Go.Eng
end
