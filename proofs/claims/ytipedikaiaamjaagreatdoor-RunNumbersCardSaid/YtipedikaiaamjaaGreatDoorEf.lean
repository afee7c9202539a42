/- What run.Evaluate comes to at some widths, with numbers left open, by the kernel. -/
import Derived.KernelRfl
import Derived.Test.YtipedikaiaamjaaGreatDoorEd
section
set_option linter.unusedVariables false
set_option linter.unusedSimpArgs false
set_option maxRecDepth 20000
set_option maxHeartbeats 4000000
namespace Go.Eng
open Go.Proofs
theorem va5 : P2 .fAdd 5 := fun n k => by kernel_rfl
theorem vb5 : P2 .fMul 5 := fun n k => by kernel_rfl
theorem vc5 : P2 .fAnd 5 := fun n k => by kernel_rfl
theorem vd5 : P2 .fOr 5 := fun n k => by kernel_rfl
theorem ve5 : P2 .fXor 5 := fun n k => by kernel_rfl
theorem vf5 : P2 .fSub 5 := fun n k => by kernel_rfl
theorem vg5 : P2 .fDivs 5 := fun n k => by kernel_rfl
theorem vh5 : P2 .fRems 5 := fun n k => by kernel_rfl
theorem vi5 : P2 .fDivu 5 := fun n k => by kernel_rfl
theorem vj5 : P2 .fRemu 5 := fun n k => by kernel_rfl
theorem vk5 : P1 .fTrunc 5 := fun n => by kernel_rfl
theorem vl5 : P1 .fExts 5 := fun n => by kernel_rfl
theorem vm5 : P1 .fExtu 5 := fun n => by kernel_rfl
end Go.Eng
end
section
set_option linter.unusedVariables false
set_option linter.unusedSimpArgs false
set_option maxRecDepth 20000
set_option maxHeartbeats 4000000
namespace Go.Eng
open Go.Proofs
theorem va21 : P2 .fAdd 21 := fun n k => by kernel_rfl
theorem vb21 : P2 .fMul 21 := fun n k => by kernel_rfl
theorem vc21 : P2 .fAnd 21 := fun n k => by kernel_rfl
theorem vd21 : P2 .fOr 21 := fun n k => by kernel_rfl
theorem ve21 : P2 .fXor 21 := fun n k => by kernel_rfl
theorem vf21 : P2 .fSub 21 := fun n k => by kernel_rfl
theorem vg21 : P2 .fDivs 21 := fun n k => by kernel_rfl
theorem vh21 : P2 .fRems 21 := fun n k => by kernel_rfl
theorem vi21 : P2 .fDivu 21 := fun n k => by kernel_rfl
theorem vj21 : P2 .fRemu 21 := fun n k => by kernel_rfl
theorem vk21 : P1 .fTrunc 21 := fun n => by kernel_rfl
theorem vl21 : P1 .fExts 21 := fun n => by kernel_rfl
theorem vm21 : P1 .fExtu 21 := fun n => by kernel_rfl
end Go.Eng
end
section
set_option linter.unusedVariables false
set_option linter.unusedSimpArgs false
set_option maxRecDepth 20000
set_option maxHeartbeats 4000000
namespace Go.Eng
open Go.Proofs
theorem va37 : P2 .fAdd 37 := fun n k => by kernel_rfl
theorem vb37 : P2 .fMul 37 := fun n k => by kernel_rfl
theorem vc37 : P2 .fAnd 37 := fun n k => by kernel_rfl
theorem vd37 : P2 .fOr 37 := fun n k => by kernel_rfl
theorem ve37 : P2 .fXor 37 := fun n k => by kernel_rfl
theorem vf37 : P2 .fSub 37 := fun n k => by kernel_rfl
theorem vg37 : P2 .fDivs 37 := fun n k => by kernel_rfl
theorem vh37 : P2 .fRems 37 := fun n k => by kernel_rfl
theorem vi37 : P2 .fDivu 37 := fun n k => by kernel_rfl
theorem vj37 : P2 .fRemu 37 := fun n k => by kernel_rfl
theorem vk37 : P1 .fTrunc 37 := fun n => by kernel_rfl
theorem vl37 : P1 .fExts 37 := fun n => by kernel_rfl
theorem vm37 : P1 .fExtu 37 := fun n => by kernel_rfl
end Go.Eng
end
section
set_option linter.unusedVariables false
set_option linter.unusedSimpArgs false
set_option maxRecDepth 20000
set_option maxHeartbeats 4000000
namespace Go.Eng
open Go.Proofs
theorem va53 : P2 .fAdd 53 := fun n k => by kernel_rfl
theorem vb53 : P2 .fMul 53 := fun n k => by kernel_rfl
theorem vc53 : P2 .fAnd 53 := fun n k => by kernel_rfl
theorem vd53 : P2 .fOr 53 := fun n k => by kernel_rfl
theorem ve53 : P2 .fXor 53 := fun n k => by kernel_rfl
theorem vf53 : P2 .fSub 53 := fun n k => by kernel_rfl
theorem vg53 : P2 .fDivs 53 := fun n k => by kernel_rfl
theorem vh53 : P2 .fRems 53 := fun n k => by kernel_rfl
theorem vi53 : P2 .fDivu 53 := fun n k => by kernel_rfl
theorem vj53 : P2 .fRemu 53 := fun n k => by kernel_rfl
theorem vk53 : P1 .fTrunc 53 := fun n => by kernel_rfl
theorem vl53 : P1 .fExts 53 := fun n => by kernel_rfl
theorem vm53 : P1 .fExtu 53 := fun n => by kernel_rfl
end Go.Eng
end
