/- What run.Evaluate comes to at some widths, with numbers left open, by the kernel. -/
import Derived.KernelRfl
import Derived.Test.YtipedikaiaamjaaGreatDoorEd
section
set_option linter.unusedVariables false
set_option linter.unusedSimpArgs false
set_option maxRecDepth 20000
set_option maxHeartbeats 4000000
namespace Go.Eng
open Go.Proofs
theorem va8 : P2 .fAdd 8 := fun n k => by kernel_rfl
theorem vb8 : P2 .fMul 8 := fun n k => by kernel_rfl
theorem vc8 : P2 .fAnd 8 := fun n k => by kernel_rfl
theorem vd8 : P2 .fOr 8 := fun n k => by kernel_rfl
theorem ve8 : P2 .fXor 8 := fun n k => by kernel_rfl
theorem vf8 : P2 .fSub 8 := fun n k => by kernel_rfl
theorem vg8 : P2 .fDivs 8 := fun n k => by kernel_rfl
theorem vh8 : P2 .fRems 8 := fun n k => by kernel_rfl
theorem vi8 : P2 .fDivu 8 := fun n k => by kernel_rfl
theorem vj8 : P2 .fRemu 8 := fun n k => by kernel_rfl
theorem vk8 : P1 .fTrunc 8 := fun n => by kernel_rfl
theorem vl8 : P1 .fExts 8 := fun n => by kernel_rfl
theorem vm8 : P1 .fExtu 8 := fun n => by kernel_rfl
end Go.Eng
end
section
set_option linter.unusedVariables false
set_option linter.unusedSimpArgs false
set_option maxRecDepth 20000
set_option maxHeartbeats 4000000
namespace Go.Eng
open Go.Proofs
theorem va24 : P2 .fAdd 24 := fun n k => by kernel_rfl
theorem vb24 : P2 .fMul 24 := fun n k => by kernel_rfl
theorem vc24 : P2 .fAnd 24 := fun n k => by kernel_rfl
theorem vd24 : P2 .fOr 24 := fun n k => by kernel_rfl
theorem ve24 : P2 .fXor 24 := fun n k => by kernel_rfl
theorem vf24 : P2 .fSub 24 := fun n k => by kernel_rfl
theorem vg24 : P2 .fDivs 24 := fun n k => by kernel_rfl
theorem vh24 : P2 .fRems 24 := fun n k => by kernel_rfl
theorem vi24 : P2 .fDivu 24 := fun n k => by kernel_rfl
theorem vj24 : P2 .fRemu 24 := fun n k => by kernel_rfl
theorem vk24 : P1 .fTrunc 24 := fun n => by kernel_rfl
theorem vl24 : P1 .fExts 24 := fun n => by kernel_rfl
theorem vm24 : P1 .fExtu 24 := fun n => by kernel_rfl
end Go.Eng
end
section
set_option linter.unusedVariables false
set_option linter.unusedSimpArgs false
set_option maxRecDepth 20000
set_option maxHeartbeats 4000000
namespace Go.Eng
open Go.Proofs
theorem va40 : P2 .fAdd 40 := fun n k => by kernel_rfl
theorem vb40 : P2 .fMul 40 := fun n k => by kernel_rfl
theorem vc40 : P2 .fAnd 40 := fun n k => by kernel_rfl
theorem vd40 : P2 .fOr 40 := fun n k => by kernel_rfl
theorem ve40 : P2 .fXor 40 := fun n k => by kernel_rfl
theorem vf40 : P2 .fSub 40 := fun n k => by kernel_rfl
theorem vg40 : P2 .fDivs 40 := fun n k => by kernel_rfl
theorem vh40 : P2 .fRems 40 := fun n k => by kernel_rfl
theorem vi40 : P2 .fDivu 40 := fun n k => by kernel_rfl
theorem vj40 : P2 .fRemu 40 := fun n k => by kernel_rfl
theorem vk40 : P1 .fTrunc 40 := fun n => by kernel_rfl
theorem vl40 : P1 .fExts 40 := fun n => by kernel_rfl
theorem vm40 : P1 .fExtu 40 := fun n => by kernel_rfl
end Go.Eng
end
section
set_option linter.unusedVariables false
set_option linter.unusedSimpArgs false
set_option maxRecDepth 20000
set_option maxHeartbeats 4000000
namespace Go.Eng
open Go.Proofs
theorem va56 : P2 .fAdd 56 := fun n k => by kernel_rfl
theorem vb56 : P2 .fMul 56 := fun n k => by kernel_rfl
theorem vc56 : P2 .fAnd 56 := fun n k => by kernel_rfl
theorem vd56 : P2 .fOr 56 := fun n k => by kernel_rfl
theorem ve56 : P2 .fXor 56 := fun n k => by kernel_rfl
theorem vf56 : P2 .fSub 56 := fun n k => by kernel_rfl
theorem vg56 : P2 .fDivs 56 := fun n k => by kernel_rfl
theorem vh56 : P2 .fRems 56 := fun n k => by kernel_rfl
theorem vi56 : P2 .fDivu 56 := fun n k => by kernel_rfl
theorem vj56 : P2 .fRemu 56 := fun n k => by kernel_rfl
theorem vk56 : P1 .fTrunc 56 := fun n => by kernel_rfl
theorem vl56 : P1 .fExts 56 := fun n => by kernel_rfl
theorem vm56 : P1 .fExtu 56 := fun n => by kernel_rfl
end Go.Eng
end
