/- What run.Evaluate comes to at some widths, with numbers left open, by the kernel. -/
import Derived.KernelRfl
import Derived.Test.YtipedikaiaamjaaGreatDoorEd
section
set_option linter.unusedVariables false
set_option linter.unusedSimpArgs false
set_option maxRecDepth 20000
set_option maxHeartbeats 4000000
namespace Go.Eng
open Go.Proofs
theorem va9 : P2 .fAdd 9 := fun n k => by kernel_rfl
theorem vb9 : P2 .fMul 9 := fun n k => by kernel_rfl
theorem vc9 : P2 .fAnd 9 := fun n k => by kernel_rfl
theorem vd9 : P2 .fOr 9 := fun n k => by kernel_rfl
theorem ve9 : P2 .fXor 9 := fun n k => by kernel_rfl
theorem vf9 : P2 .fSub 9 := fun n k => by kernel_rfl
theorem vg9 : P2 .fDivs 9 := fun n k => by kernel_rfl
theorem vh9 : P2 .fRems 9 := fun n k => by kernel_rfl
theorem vi9 : P2 .fDivu 9 := fun n k => by kernel_rfl
theorem vj9 : P2 .fRemu 9 := fun n k => by kernel_rfl
theorem vk9 : P1 .fTrunc 9 := fun n => by kernel_rfl
theorem vl9 : P1 .fExts 9 := fun n => by kernel_rfl
theorem vm9 : P1 .fExtu 9 := fun n => by kernel_rfl
end Go.Eng
end
section
set_option linter.unusedVariables false
set_option linter.unusedSimpArgs false
set_option maxRecDepth 20000
set_option maxHeartbeats 4000000
namespace Go.Eng
open Go.Proofs
theorem va25 : P2 .fAdd 25 := fun n k => by kernel_rfl
theorem vb25 : P2 .fMul 25 := fun n k => by kernel_rfl
theorem vc25 : P2 .fAnd 25 := fun n k => by kernel_rfl
theorem vd25 : P2 .fOr 25 := fun n k => by kernel_rfl
theorem ve25 : P2 .fXor 25 := fun n k => by kernel_rfl
theorem vf25 : P2 .fSub 25 := fun n k => by kernel_rfl
theorem vg25 : P2 .fDivs 25 := fun n k => by kernel_rfl
theorem vh25 : P2 .fRems 25 := fun n k => by kernel_rfl
theorem vi25 : P2 .fDivu 25 := fun n k => by kernel_rfl
theorem vj25 : P2 .fRemu 25 := fun n k => by kernel_rfl
theorem vk25 : P1 .fTrunc 25 := fun n => by kernel_rfl
theorem vl25 : P1 .fExts 25 := fun n => by kernel_rfl
theorem vm25 : P1 .fExtu 25 := fun n => by kernel_rfl
end Go.Eng
end
section
set_option linter.unusedVariables false
set_option linter.unusedSimpArgs false
set_option maxRecDepth 20000
set_option maxHeartbeats 4000000
namespace Go.Eng
open Go.Proofs
theorem va41 : P2 .fAdd 41 := fun n k => by kernel_rfl
theorem vb41 : P2 .fMul 41 := fun n k => by kernel_rfl
theorem vc41 : P2 .fAnd 41 := fun n k => by kernel_rfl
theorem vd41 : P2 .fOr 41 := fun n k => by kernel_rfl
theorem ve41 : P2 .fXor 41 := fun n k => by kernel_rfl
theorem vf41 : P2 .fSub 41 := fun n k => by kernel_rfl
theorem vg41 : P2 .fDivs 41 := fun n k => by kernel_rfl
theorem vh41 : P2 .fRems 41 := fun n k => by kernel_rfl
theorem vi41 : P2 .fDivu 41 := fun n k => by kernel_rfl
theorem vj41 : P2 .fRemu 41 := fun n k => by kernel_rfl
theorem vk41 : P1 .fTrunc 41 := fun n => by kernel_rfl
theorem vl41 : P1 .fExts 41 := fun n => by kernel_rfl
theorem vm41 : P1 .fExtu 41 := fun n => by kernel_rfl
end Go.Eng
end
section
set_option linter.unusedVariables false
set_option linter.unusedSimpArgs false
set_option maxRecDepth 20000
set_option maxHeartbeats 4000000
namespace Go.Eng
open Go.Proofs
theorem va57 : P2 .fAdd 57 := fun n k => by kernel_rfl
theorem vb57 : P2 .fMul 57 := fun n k => by kernel_rfl
theorem vc57 : P2 .fAnd 57 := fun n k => by kernel_rfl
theorem vd57 : P2 .fOr 57 := fun n k => by kernel_rfl
theorem ve57 : P2 .fXor 57 := fun n k => by kernel_rfl
theorem vf57 : P2 .fSub 57 := fun n k => by kernel_rfl
theorem vg57 : P2 .fDivs 57 := fun n k => by kernel_rfl
theorem vh57 : P2 .fRems 57 := fun n k => by kernel_rfl
theorem vi57 : P2 .fDivu 57 := fun n k => by kernel_rfl
theorem vj57 : P2 .fRemu 57 := fun n k => by kernel_rfl
theorem vk57 : P1 .fTrunc 57 := fun n => by kernel_rfl
theorem vl57 : P1 .fExts 57 := fun n => by kernel_rfl
theorem vm57 : P1 .fExtu 57 := fun n => by kernel_rfl
end Go.Eng
end
