/- What run.Evaluate comes to at some widths, with numbers left open, by the kernel. -/
import Derived.KernelRfl
import Derived.Test.YtipedikaiaamjaaGreatDoorEd
section
set_option linter.unusedVariables false
set_option linter.unusedSimpArgs false
set_option maxRecDepth 20000
set_option maxHeartbeats 4000000
namespace Go.Eng
open Go.Proofs
theorem va11 : P2 .fAdd 11 := fun n k => by kernel_rfl
theorem vb11 : P2 .fMul 11 := fun n k => by kernel_rfl
theorem vc11 : P2 .fAnd 11 := fun n k => by kernel_rfl
theorem vd11 : P2 .fOr 11 := fun n k => by kernel_rfl
theorem ve11 : P2 .fXor 11 := fun n k => by kernel_rfl
theorem vf11 : P2 .fSub 11 := fun n k => by kernel_rfl
theorem vg11 : P2 .fDivs 11 := fun n k => by kernel_rfl
theorem vh11 : P2 .fRems 11 := fun n k => by kernel_rfl
theorem vi11 : P2 .fDivu 11 := fun n k => by kernel_rfl
theorem vj11 : P2 .fRemu 11 := fun n k => by kernel_rfl
theorem vk11 : P1 .fTrunc 11 := fun n => by kernel_rfl
theorem vl11 : P1 .fExts 11 := fun n => by kernel_rfl
theorem vm11 : P1 .fExtu 11 := fun n => by kernel_rfl
end Go.Eng
end
section
set_option linter.unusedVariables false
set_option linter.unusedSimpArgs false
set_option maxRecDepth 20000
set_option maxHeartbeats 4000000
namespace Go.Eng
open Go.Proofs
theorem va27 : P2 .fAdd 27 := fun n k => by kernel_rfl
theorem vb27 : P2 .fMul 27 := fun n k => by kernel_rfl
theorem vc27 : P2 .fAnd 27 := fun n k => by kernel_rfl
theorem vd27 : P2 .fOr 27 := fun n k => by kernel_rfl
theorem ve27 : P2 .fXor 27 := fun n k => by kernel_rfl
theorem vf27 : P2 .fSub 27 := fun n k => by kernel_rfl
theorem vg27 : P2 .fDivs 27 := fun n k => by kernel_rfl
theorem vh27 : P2 .fRems 27 := fun n k => by kernel_rfl
theorem vi27 : P2 .fDivu 27 := fun n k => by kernel_rfl
theorem vj27 : P2 .fRemu 27 := fun n k => by kernel_rfl
theorem vk27 : P1 .fTrunc 27 := fun n => by kernel_rfl
theorem vl27 : P1 .fExts 27 := fun n => by kernel_rfl
theorem vm27 : P1 .fExtu 27 := fun n => by kernel_rfl
end Go.Eng
end
section
set_option linter.unusedVariables false
set_option linter.unusedSimpArgs false
set_option maxRecDepth 20000
set_option maxHeartbeats 4000000
namespace Go.Eng
open Go.Proofs
theorem va43 : P2 .fAdd 43 := fun n k => by kernel_rfl
theorem vb43 : P2 .fMul 43 := fun n k => by kernel_rfl
theorem vc43 : P2 .fAnd 43 := fun n k => by kernel_rfl
theorem vd43 : P2 .fOr 43 := fun n k => by kernel_rfl
theorem ve43 : P2 .fXor 43 := fun n k => by kernel_rfl
theorem vf43 : P2 .fSub 43 := fun n k => by kernel_rfl
theorem vg43 : P2 .fDivs 43 := fun n k => by kernel_rfl
theorem vh43 : P2 .fRems 43 := fun n k => by kernel_rfl
theorem vi43 : P2 .fDivu 43 := fun n k => by kernel_rfl
theorem vj43 : P2 .fRemu 43 := fun n k => by kernel_rfl
theorem vk43 : P1 .fTrunc 43 := fun n => by kernel_rfl
theorem vl43 : P1 .fExts 43 := fun n => by kernel_rfl
theorem vm43 : P1 .fExtu 43 := fun n => by kernel_rfl
end Go.Eng
end
section
set_option linter.unusedVariables false
set_option linter.unusedSimpArgs false
set_option maxRecDepth 20000
set_option maxHeartbeats 4000000
namespace Go.Eng
open Go.Proofs
theorem va59 : P2 .fAdd 59 := fun n k => by kernel_rfl
theorem vb59 : P2 .fMul 59 := fun n k => by kernel_rfl
theorem vc59 : P2 .fAnd 59 := fun n k => by kernel_rfl
theorem vd59 : P2 .fOr 59 := fun n k => by kernel_rfl
theorem ve59 : P2 .fXor 59 := fun n k => by kernel_rfl
theorem vf59 : P2 .fSub 59 := fun n k => by kernel_rfl
theorem vg59 : P2 .fDivs 59 := fun n k => by kernel_rfl
theorem vh59 : P2 .fRems 59 := fun n k => by kernel_rfl
theorem vi59 : P2 .fDivu 59 := fun n k => by kernel_rfl
theorem vj59 : P2 .fRemu 59 := fun n k => by kernel_rfl
theorem vk59 : P1 .fTrunc 59 := fun n => by kernel_rfl
theorem vl59 : P1 .fExts 59 := fun n => by kernel_rfl
theorem vm59 : P1 .fExtu 59 := fun n => by kernel_rfl
end Go.Eng
end
