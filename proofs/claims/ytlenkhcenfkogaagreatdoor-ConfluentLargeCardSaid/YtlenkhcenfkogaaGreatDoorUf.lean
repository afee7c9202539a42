/- What confluent.Unify answers at these cases, by the kernel. -/
import Derived.Test.YtlenkhcenfkogaaGreatDoorSc
section
set_option linter.unusedVariables false
set_option linter.unusedSimpArgs false
set_option maxRecDepth 20000
namespace Go.Eng
open Go.Proofs
theorem keptU8 : KeptP kE2 ktab2 6 10000 3000 (uA8, uR8) := ⟨by decide +kernel, by decide +kernel, by decide +kernel⟩
end Go.Eng
end
section
set_option linter.unusedVariables false
set_option linter.unusedSimpArgs false
set_option maxRecDepth 20000
namespace Go.Eng
open Go.Proofs
theorem keptU9 : KeptP kE2 ktab2 6 10000 3000 (uA9, uR9) := ⟨by decide +kernel, by decide +kernel, by decide +kernel⟩
end Go.Eng
end
section
set_option linter.unusedVariables false
set_option linter.unusedSimpArgs false
set_option maxRecDepth 20000
namespace Go.Eng
open Go.Proofs
theorem keptU10 : KeptP kE2 ktab2 6 10000 3000 (uA10, uR10) := ⟨by decide +kernel, by decide +kernel, by decide +kernel⟩
end Go.Eng
end
