/- What run.Evaluate comes to at some widths, with numbers left open, by the kernel. -/
import Derived.KernelRfl
import Derived.Test.YtipedikaiaamjaaGreatDoorEd
section
set_option linter.unusedVariables false
set_option linter.unusedSimpArgs false
set_option maxRecDepth 20000
set_option maxHeartbeats 4000000
namespace Go.Eng
open Go.Proofs
theorem va12 : P2 .fAdd 12 := fun n k => by kernel_rfl
theorem vb12 : P2 .fMul 12 := fun n k => by kernel_rfl
theorem vc12 : P2 .fAnd 12 := fun n k => by kernel_rfl
theorem vd12 : P2 .fOr 12 := fun n k => by kernel_rfl
theorem ve12 : P2 .fXor 12 := fun n k => by kernel_rfl
theorem vf12 : P2 .fSub 12 := fun n k => by kernel_rfl
theorem vg12 : P2 .fDivs 12 := fun n k => by kernel_rfl
theorem vh12 : P2 .fRems 12 := fun n k => by kernel_rfl
theorem vi12 : P2 .fDivu 12 := fun n k => by kernel_rfl
theorem vj12 : P2 .fRemu 12 := fun n k => by kernel_rfl
theorem vk12 : P1 .fTrunc 12 := fun n => by kernel_rfl
theorem vl12 : P1 .fExts 12 := fun n => by kernel_rfl
theorem vm12 : P1 .fExtu 12 := fun n => by kernel_rfl
end Go.Eng
end
section
set_option linter.unusedVariables false
set_option linter.unusedSimpArgs false
set_option maxRecDepth 20000
set_option maxHeartbeats 4000000
namespace Go.Eng
open Go.Proofs
theorem va28 : P2 .fAdd 28 := fun n k => by kernel_rfl
theorem vb28 : P2 .fMul 28 := fun n k => by kernel_rfl
theorem vc28 : P2 .fAnd 28 := fun n k => by kernel_rfl
theorem vd28 : P2 .fOr 28 := fun n k => by kernel_rfl
theorem ve28 : P2 .fXor 28 := fun n k => by kernel_rfl
theorem vf28 : P2 .fSub 28 := fun n k => by kernel_rfl
theorem vg28 : P2 .fDivs 28 := fun n k => by kernel_rfl
theorem vh28 : P2 .fRems 28 := fun n k => by kernel_rfl
theorem vi28 : P2 .fDivu 28 := fun n k => by kernel_rfl
theorem vj28 : P2 .fRemu 28 := fun n k => by kernel_rfl
theorem vk28 : P1 .fTrunc 28 := fun n => by kernel_rfl
theorem vl28 : P1 .fExts 28 := fun n => by kernel_rfl
theorem vm28 : P1 .fExtu 28 := fun n => by kernel_rfl
end Go.Eng
end
section
set_option linter.unusedVariables false
set_option linter.unusedSimpArgs false
set_option maxRecDepth 20000
set_option maxHeartbeats 4000000
namespace Go.Eng
open Go.Proofs
theorem va44 : P2 .fAdd 44 := fun n k => by kernel_rfl
theorem vb44 : P2 .fMul 44 := fun n k => by kernel_rfl
theorem vc44 : P2 .fAnd 44 := fun n k => by kernel_rfl
theorem vd44 : P2 .fOr 44 := fun n k => by kernel_rfl
theorem ve44 : P2 .fXor 44 := fun n k => by kernel_rfl
theorem vf44 : P2 .fSub 44 := fun n k => by kernel_rfl
theorem vg44 : P2 .fDivs 44 := fun n k => by kernel_rfl
theorem vh44 : P2 .fRems 44 := fun n k => by kernel_rfl
theorem vi44 : P2 .fDivu 44 := fun n k => by kernel_rfl
theorem vj44 : P2 .fRemu 44 := fun n k => by kernel_rfl
theorem vk44 : P1 .fTrunc 44 := fun n => by kernel_rfl
theorem vl44 : P1 .fExts 44 := fun n => by kernel_rfl
theorem vm44 : P1 .fExtu 44 := fun n => by kernel_rfl
end Go.Eng
end
section
set_option linter.unusedVariables false
set_option linter.unusedSimpArgs false
set_option maxRecDepth 20000
set_option maxHeartbeats 4000000
namespace Go.Eng
open Go.Proofs
theorem va60 : P2 .fAdd 60 := fun n k => by kernel_rfl
theorem vb60 : P2 .fMul 60 := fun n k => by kernel_rfl
theorem vc60 : P2 .fAnd 60 := fun n k => by kernel_rfl
theorem vd60 : P2 .fOr 60 := fun n k => by kernel_rfl
theorem ve60 : P2 .fXor 60 := fun n k => by kernel_rfl
theorem vf60 : P2 .fSub 60 := fun n k => by kernel_rfl
theorem vg60 : P2 .fDivs 60 := fun n k => by kernel_rfl
theorem vh60 : P2 .fRems 60 := fun n k => by kernel_rfl
theorem vi60 : P2 .fDivu 60 := fun n k => by kernel_rfl
theorem vj60 : P2 .fRemu 60 := fun n k => by kernel_rfl
theorem vk60 : P1 .fTrunc 60 := fun n => by kernel_rfl
theorem vl60 : P1 .fExts 60 := fun n => by kernel_rfl
theorem vm60 : P1 .fExtu 60 := fun n => by kernel_rfl
end Go.Eng
end
