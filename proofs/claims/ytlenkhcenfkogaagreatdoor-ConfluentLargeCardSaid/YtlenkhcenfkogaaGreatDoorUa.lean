/- What confluent.Unify answers at these cases, by the kernel. -/
import Derived.Test.YtlenkhcenfkogaaGreatDoorSc
section
set_option linter.unusedVariables false
set_option linter.unusedSimpArgs false
set_option maxRecDepth 20000
namespace Go.Eng
open Go.Proofs
theorem keptU0 : KeptP kE2 ktab2 6 10000 3000 (uA0, uR0) := ⟨by decide +kernel, by decide +kernel, by decide +kernel⟩
end Go.Eng
end
section
set_option linter.unusedVariables false
set_option linter.unusedSimpArgs false
set_option maxRecDepth 20000
namespace Go.Eng
open Go.Proofs
theorem keptU1 : KeptP kE2 ktab2 6 10000 3000 (uA1, uR1) := ⟨by decide +kernel, by decide +kernel, by decide +kernel⟩
end Go.Eng
end
section
set_option linter.unusedVariables false
set_option linter.unusedSimpArgs false
set_option maxRecDepth 20000
namespace Go.Eng
open Go.Proofs
theorem keptU2 : KeptP kE2 ktab2 6 10000 3000 (uA2, uR2) := ⟨by decide +kernel, by decide +kernel, by decide +kernel⟩
end Go.Eng
end
section
set_option linter.unusedVariables false
set_option linter.unusedSimpArgs false
set_option maxRecDepth 20000
namespace Go.Eng
open Go.Proofs
theorem keptU3 : KeptP kE2 ktab2 6 10000 3000 (uA3, uR3) := ⟨by decide +kernel, by decide +kernel, by decide +kernel⟩
end Go.Eng
end
