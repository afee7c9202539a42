/- What run.Evaluate comes to at some widths, with numbers left open, by the kernel. -/
import Derived.KernelRfl
import Derived.Test.YtipedikaiaamjaaGreatDoorEd
section
set_option linter.unusedVariables false
set_option linter.unusedSimpArgs false
set_option maxRecDepth 20000
set_option maxHeartbeats 4000000
namespace Go.Eng
open Go.Proofs
theorem va1 : P2 .fAdd 1 := fun n k => by kernel_rfl
theorem vb1 : P2 .fMul 1 := fun n k => by kernel_rfl
theorem vc1 : P2 .fAnd 1 := fun n k => by kernel_rfl
theorem vd1 : P2 .fOr 1 := fun n k => by kernel_rfl
theorem ve1 : P2 .fXor 1 := fun n k => by kernel_rfl
theorem vf1 : P2 .fSub 1 := fun n k => by kernel_rfl
theorem vg1 : P2 .fDivs 1 := fun n k => by kernel_rfl
theorem vh1 : P2 .fRems 1 := fun n k => by kernel_rfl
theorem vi1 : P2 .fDivu 1 := fun n k => by kernel_rfl
theorem vj1 : P2 .fRemu 1 := fun n k => by kernel_rfl
theorem vk1 : P1 .fTrunc 1 := fun n => by kernel_rfl
theorem vl1 : P1 .fExts 1 := fun n => by kernel_rfl
theorem vm1 : P1 .fExtu 1 := fun n => by kernel_rfl
end Go.Eng
end
section
set_option linter.unusedVariables false
set_option linter.unusedSimpArgs false
set_option maxRecDepth 20000
set_option maxHeartbeats 4000000
namespace Go.Eng
open Go.Proofs
theorem va17 : P2 .fAdd 17 := fun n k => by kernel_rfl
theorem vb17 : P2 .fMul 17 := fun n k => by kernel_rfl
theorem vc17 : P2 .fAnd 17 := fun n k => by kernel_rfl
theorem vd17 : P2 .fOr 17 := fun n k => by kernel_rfl
theorem ve17 : P2 .fXor 17 := fun n k => by kernel_rfl
theorem vf17 : P2 .fSub 17 := fun n k => by kernel_rfl
theorem vg17 : P2 .fDivs 17 := fun n k => by kernel_rfl
theorem vh17 : P2 .fRems 17 := fun n k => by kernel_rfl
theorem vi17 : P2 .fDivu 17 := fun n k => by kernel_rfl
theorem vj17 : P2 .fRemu 17 := fun n k => by kernel_rfl
theorem vk17 : P1 .fTrunc 17 := fun n => by kernel_rfl
theorem vl17 : P1 .fExts 17 := fun n => by kernel_rfl
theorem vm17 : P1 .fExtu 17 := fun n => by kernel_rfl
end Go.Eng
end
section
set_option linter.unusedVariables false
set_option linter.unusedSimpArgs false
set_option maxRecDepth 20000
set_option maxHeartbeats 4000000
namespace Go.Eng
open Go.Proofs
theorem va33 : P2 .fAdd 33 := fun n k => by kernel_rfl
theorem vb33 : P2 .fMul 33 := fun n k => by kernel_rfl
theorem vc33 : P2 .fAnd 33 := fun n k => by kernel_rfl
theorem vd33 : P2 .fOr 33 := fun n k => by kernel_rfl
theorem ve33 : P2 .fXor 33 := fun n k => by kernel_rfl
theorem vf33 : P2 .fSub 33 := fun n k => by kernel_rfl
theorem vg33 : P2 .fDivs 33 := fun n k => by kernel_rfl
theorem vh33 : P2 .fRems 33 := fun n k => by kernel_rfl
theorem vi33 : P2 .fDivu 33 := fun n k => by kernel_rfl
theorem vj33 : P2 .fRemu 33 := fun n k => by kernel_rfl
theorem vk33 : P1 .fTrunc 33 := fun n => by kernel_rfl
theorem vl33 : P1 .fExts 33 := fun n => by kernel_rfl
theorem vm33 : P1 .fExtu 33 := fun n => by kernel_rfl
end Go.Eng
end
section
set_option linter.unusedVariables false
set_option linter.unusedSimpArgs false
set_option maxRecDepth 20000
set_option maxHeartbeats 4000000
namespace Go.Eng
open Go.Proofs
theorem va49 : P2 .fAdd 49 := fun n k => by kernel_rfl
theorem vb49 : P2 .fMul 49 := fun n k => by kernel_rfl
theorem vc49 : P2 .fAnd 49 := fun n k => by kernel_rfl
theorem vd49 : P2 .fOr 49 := fun n k => by kernel_rfl
theorem ve49 : P2 .fXor 49 := fun n k => by kernel_rfl
theorem vf49 : P2 .fSub 49 := fun n k => by kernel_rfl
theorem vg49 : P2 .fDivs 49 := fun n k => by kernel_rfl
theorem vh49 : P2 .fRems 49 := fun n k => by kernel_rfl
theorem vi49 : P2 .fDivu 49 := fun n k => by kernel_rfl
theorem vj49 : P2 .fRemu 49 := fun n k => by kernel_rfl
theorem vk49 : P1 .fTrunc 49 := fun n => by kernel_rfl
theorem vl49 : P1 .fExts 49 := fun n => by kernel_rfl
theorem vm49 : P1 .fExtu 49 := fun n => by kernel_rfl
end Go.Eng
end
