/- What confluent.Unify answers at these cases, by the kernel. -/
import Derived.Test.YtlenkhcenfkogaaGreatDoorSc
section
set_option linter.unusedVariables false
set_option linter.unusedSimpArgs false
set_option maxRecDepth 20000
namespace Go.Eng
open Go.Proofs
theorem keptU11 : KeptP kE2 ktab2 6 10000 3000 (uA11, uR11) := ⟨by decide +kernel, by decide +kernel, by decide +kernel⟩
end Go.Eng
end
section
set_option linter.unusedVariables false
set_option linter.unusedSimpArgs false
set_option maxRecDepth 20000
namespace Go.Eng
open Go.Proofs
theorem keptU12 : KeptP kE2 ktab2 6 10000 3000 (uA12, uR12) := ⟨by decide +kernel, by decide +kernel, by decide +kernel⟩
end Go.Eng
end
section
set_option linter.unusedVariables false
set_option linter.unusedSimpArgs false
set_option maxRecDepth 20000
namespace Go.Eng
open Go.Proofs
theorem keptU13 : KeptP kE2 ktab2 6 10000 3000 (uA13, uR13) := ⟨by decide +kernel, by decide +kernel, by decide +kernel⟩
end Go.Eng
end
