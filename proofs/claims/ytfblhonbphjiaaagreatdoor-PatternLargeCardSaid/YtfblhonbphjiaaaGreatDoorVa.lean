/- verify.Check finds nothing wrong with modules of the law, by the kernel. -/
import Derived.Test.YtfblhonbphjiaaaGreatDoorSb
section
set_option linter.unusedVariables false
set_option linter.unusedSimpArgs false
set_option maxRecDepth 20000
set_option maxHeartbeats 4000000
namespace Go.Eng
open Go.Proofs
theorem keptVer0 : KeptV kE2 ktab 28 10000 3000 ([modV 1, .nils], .int .i64 0) := ⟨by decide +kernel, by decide +kernel⟩
end Go.Eng
end
section
set_option linter.unusedVariables false
set_option linter.unusedSimpArgs false
set_option maxRecDepth 20000
set_option maxHeartbeats 4000000
namespace Go.Eng
open Go.Proofs
theorem keptVer8 : KeptV kE2 ktab 28 10000 3000 ([modV 9, .nils], .int .i64 0) := ⟨by decide +kernel, by decide +kernel⟩
end Go.Eng
end
section
set_option linter.unusedVariables false
set_option linter.unusedSimpArgs false
set_option maxRecDepth 20000
set_option maxHeartbeats 4000000
namespace Go.Eng
open Go.Proofs
theorem keptVer16 : KeptV kE2 ktab 28 10000 3000 ([modV 17, .nils], .int .i64 0) := ⟨by decide +kernel, by decide +kernel⟩
end Go.Eng
end
section
set_option linter.unusedVariables false
set_option linter.unusedSimpArgs false
set_option maxRecDepth 20000
set_option maxHeartbeats 4000000
namespace Go.Eng
open Go.Proofs
theorem keptVer24 : KeptV kE2 ktab 28 10000 3000 ([modV 25, .nils], .int .i64 0) := ⟨by decide +kernel, by decide +kernel⟩
end Go.Eng
end
section
set_option linter.unusedVariables false
set_option linter.unusedSimpArgs false
set_option maxRecDepth 20000
set_option maxHeartbeats 4000000
namespace Go.Eng
open Go.Proofs
theorem keptVer32 : KeptV kE2 ktab 28 10000 3000 ([modV 33, .nils], .int .i64 0) := ⟨by decide +kernel, by decide +kernel⟩
end Go.Eng
end
