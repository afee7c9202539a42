/- What confluent.Unify answers at these cases, by the kernel. -/
import Derived.Test.YtlenkhcenfkogaaGreatDoorSc
set_option linter.unusedVariables false
set_option linter.unusedSimpArgs false
set_option maxRecDepth 20000
namespace Go.Eng
open Go.Proofs
theorem keptU5 : KeptP kE2 ktab2 6 10000 3000 (uA5, uR5) := ⟨by decide +kernel, by decide +kernel, by decide +kernel⟩
end Go.Eng
