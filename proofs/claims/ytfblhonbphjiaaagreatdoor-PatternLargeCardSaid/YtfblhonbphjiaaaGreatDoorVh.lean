/- verify.Check finds nothing wrong with modules of the law, by the kernel. -/
import Derived.Test.YtfblhonbphjiaaaGreatDoorSb
section
set_option linter.unusedVariables false
set_option linter.unusedSimpArgs false
set_option maxRecDepth 20000
set_option maxHeartbeats 4000000
namespace Go.Eng
open Go.Proofs
theorem keptVer7 : KeptV kE2 ktab 28 10000 3000 ([modV 8, .nils], .int .i64 0) := ⟨by decide +kernel, by decide +kernel⟩
end Go.Eng
end
section
set_option linter.unusedVariables false
set_option linter.unusedSimpArgs false
set_option maxRecDepth 20000
set_option maxHeartbeats 4000000
namespace Go.Eng
open Go.Proofs
theorem keptVer15 : KeptV kE2 ktab 28 10000 3000 ([modV 16, .nils], .int .i64 0) := ⟨by decide +kernel, by decide +kernel⟩
end Go.Eng
end
section
set_option linter.unusedVariables false
set_option linter.unusedSimpArgs false
set_option maxRecDepth 20000
set_option maxHeartbeats 4000000
namespace Go.Eng
open Go.Proofs
theorem keptVer23 : KeptV kE2 ktab 28 10000 3000 ([modV 24, .nils], .int .i64 0) := ⟨by decide +kernel, by decide +kernel⟩
end Go.Eng
end
section
set_option linter.unusedVariables false
set_option linter.unusedSimpArgs false
set_option maxRecDepth 20000
set_option maxHeartbeats 4000000
namespace Go.Eng
open Go.Proofs
theorem keptVer31 : KeptV kE2 ktab 28 10000 3000 ([modV 32, .nils], .int .i64 0) := ⟨by decide +kernel, by decide +kernel⟩
end Go.Eng
end
section
set_option linter.unusedVariables false
set_option linter.unusedSimpArgs false
set_option maxRecDepth 20000
set_option maxHeartbeats 4000000
namespace Go.Eng
open Go.Proofs
theorem keptVer39 : KeptV kE2 ktab 28 10000 3000 ([modV 40, .nils], .int .i64 0) := ⟨by decide +kernel, by decide +kernel⟩
end Go.Eng
end
