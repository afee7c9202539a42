/- What run.Evaluate comes to at some widths, with numbers left open, by the kernel. -/
import Derived.KernelRfl
import Derived.Test.YtipedikaiaamjaaGreatDoorEd
section
set_option linter.unusedVariables false
set_option linter.unusedSimpArgs false
set_option maxRecDepth 20000
set_option maxHeartbeats 4000000
namespace Go.Eng
open Go.Proofs
theorem va14 : P2 .fAdd 14 := fun n k => by kernel_rfl
theorem vb14 : P2 .fMul 14 := fun n k => by kernel_rfl
theorem vc14 : P2 .fAnd 14 := fun n k => by kernel_rfl
theorem vd14 : P2 .fOr 14 := fun n k => by kernel_rfl
theorem ve14 : P2 .fXor 14 := fun n k => by kernel_rfl
theorem vf14 : P2 .fSub 14 := fun n k => by kernel_rfl
theorem vg14 : P2 .fDivs 14 := fun n k => by kernel_rfl
theorem vh14 : P2 .fRems 14 := fun n k => by kernel_rfl
theorem vi14 : P2 .fDivu 14 := fun n k => by kernel_rfl
theorem vj14 : P2 .fRemu 14 := fun n k => by kernel_rfl
theorem vk14 : P1 .fTrunc 14 := fun n => by kernel_rfl
theorem vl14 : P1 .fExts 14 := fun n => by kernel_rfl
theorem vm14 : P1 .fExtu 14 := fun n => by kernel_rfl
end Go.Eng
end
section
set_option linter.unusedVariables false
set_option linter.unusedSimpArgs false
set_option maxRecDepth 20000
set_option maxHeartbeats 4000000
namespace Go.Eng
open Go.Proofs
theorem va30 : P2 .fAdd 30 := fun n k => by kernel_rfl
theorem vb30 : P2 .fMul 30 := fun n k => by kernel_rfl
theorem vc30 : P2 .fAnd 30 := fun n k => by kernel_rfl
theorem vd30 : P2 .fOr 30 := fun n k => by kernel_rfl
theorem ve30 : P2 .fXor 30 := fun n k => by kernel_rfl
theorem vf30 : P2 .fSub 30 := fun n k => by kernel_rfl
theorem vg30 : P2 .fDivs 30 := fun n k => by kernel_rfl
theorem vh30 : P2 .fRems 30 := fun n k => by kernel_rfl
theorem vi30 : P2 .fDivu 30 := fun n k => by kernel_rfl
theorem vj30 : P2 .fRemu 30 := fun n k => by kernel_rfl
theorem vk30 : P1 .fTrunc 30 := fun n => by kernel_rfl
theorem vl30 : P1 .fExts 30 := fun n => by kernel_rfl
theorem vm30 : P1 .fExtu 30 := fun n => by kernel_rfl
end Go.Eng
end
section
set_option linter.unusedVariables false
set_option linter.unusedSimpArgs false
set_option maxRecDepth 20000
set_option maxHeartbeats 4000000
namespace Go.Eng
open Go.Proofs
theorem va46 : P2 .fAdd 46 := fun n k => by kernel_rfl
theorem vb46 : P2 .fMul 46 := fun n k => by kernel_rfl
theorem vc46 : P2 .fAnd 46 := fun n k => by kernel_rfl
theorem vd46 : P2 .fOr 46 := fun n k => by kernel_rfl
theorem ve46 : P2 .fXor 46 := fun n k => by kernel_rfl
theorem vf46 : P2 .fSub 46 := fun n k => by kernel_rfl
theorem vg46 : P2 .fDivs 46 := fun n k => by kernel_rfl
theorem vh46 : P2 .fRems 46 := fun n k => by kernel_rfl
theorem vi46 : P2 .fDivu 46 := fun n k => by kernel_rfl
theorem vj46 : P2 .fRemu 46 := fun n k => by kernel_rfl
theorem vk46 : P1 .fTrunc 46 := fun n => by kernel_rfl
theorem vl46 : P1 .fExts 46 := fun n => by kernel_rfl
theorem vm46 : P1 .fExtu 46 := fun n => by kernel_rfl
end Go.Eng
end
section
set_option linter.unusedVariables false
set_option linter.unusedSimpArgs false
set_option maxRecDepth 20000
set_option maxHeartbeats 4000000
namespace Go.Eng
open Go.Proofs
theorem va62 : P2 .fAdd 62 := fun n k => by kernel_rfl
theorem vb62 : P2 .fMul 62 := fun n k => by kernel_rfl
theorem vc62 : P2 .fAnd 62 := fun n k => by kernel_rfl
theorem vd62 : P2 .fOr 62 := fun n k => by kernel_rfl
theorem ve62 : P2 .fXor 62 := fun n k => by kernel_rfl
theorem vf62 : P2 .fSub 62 := fun n k => by kernel_rfl
theorem vg62 : P2 .fDivs 62 := fun n k => by kernel_rfl
theorem vh62 : P2 .fRems 62 := fun n k => by kernel_rfl
theorem vi62 : P2 .fDivu 62 := fun n k => by kernel_rfl
theorem vj62 : P2 .fRemu 62 := fun n k => by kernel_rfl
theorem vk62 : P1 .fTrunc 62 := fun n => by kernel_rfl
theorem vl62 : P1 .fExts 62 := fun n => by kernel_rfl
theorem vm62 : P1 .fExtu 62 := fun n => by kernel_rfl
end Go.Eng
end
