/- What run.Evaluate comes to at some widths, with numbers left open, by the kernel. -/
import Derived.KernelRfl
import Derived.Test.YtipedikaiaamjaaGreatDoorEd
section
set_option linter.unusedVariables false
set_option linter.unusedSimpArgs false
set_option maxRecDepth 20000
set_option maxHeartbeats 4000000
namespace Go.Eng
open Go.Proofs
theorem va6 : P2 .fAdd 6 := fun n k => by kernel_rfl
theorem vb6 : P2 .fMul 6 := fun n k => by kernel_rfl
theorem vc6 : P2 .fAnd 6 := fun n k => by kernel_rfl
theorem vd6 : P2 .fOr 6 := fun n k => by kernel_rfl
theorem ve6 : P2 .fXor 6 := fun n k => by kernel_rfl
theorem vf6 : P2 .fSub 6 := fun n k => by kernel_rfl
theorem vg6 : P2 .fDivs 6 := fun n k => by kernel_rfl
theorem vh6 : P2 .fRems 6 := fun n k => by kernel_rfl
theorem vi6 : P2 .fDivu 6 := fun n k => by kernel_rfl
theorem vj6 : P2 .fRemu 6 := fun n k => by kernel_rfl
theorem vk6 : P1 .fTrunc 6 := fun n => by kernel_rfl
theorem vl6 : P1 .fExts 6 := fun n => by kernel_rfl
theorem vm6 : P1 .fExtu 6 := fun n => by kernel_rfl
end Go.Eng
end
section
set_option linter.unusedVariables false
set_option linter.unusedSimpArgs false
set_option maxRecDepth 20000
set_option maxHeartbeats 4000000
namespace Go.Eng
open Go.Proofs
theorem va22 : P2 .fAdd 22 := fun n k => by kernel_rfl
theorem vb22 : P2 .fMul 22 := fun n k => by kernel_rfl
theorem vc22 : P2 .fAnd 22 := fun n k => by kernel_rfl
theorem vd22 : P2 .fOr 22 := fun n k => by kernel_rfl
theorem ve22 : P2 .fXor 22 := fun n k => by kernel_rfl
theorem vf22 : P2 .fSub 22 := fun n k => by kernel_rfl
theorem vg22 : P2 .fDivs 22 := fun n k => by kernel_rfl
theorem vh22 : P2 .fRems 22 := fun n k => by kernel_rfl
theorem vi22 : P2 .fDivu 22 := fun n k => by kernel_rfl
theorem vj22 : P2 .fRemu 22 := fun n k => by kernel_rfl
theorem vk22 : P1 .fTrunc 22 := fun n => by kernel_rfl
theorem vl22 : P1 .fExts 22 := fun n => by kernel_rfl
theorem vm22 : P1 .fExtu 22 := fun n => by kernel_rfl
end Go.Eng
end
section
set_option linter.unusedVariables false
set_option linter.unusedSimpArgs false
set_option maxRecDepth 20000
set_option maxHeartbeats 4000000
namespace Go.Eng
open Go.Proofs
theorem va38 : P2 .fAdd 38 := fun n k => by kernel_rfl
theorem vb38 : P2 .fMul 38 := fun n k => by kernel_rfl
theorem vc38 : P2 .fAnd 38 := fun n k => by kernel_rfl
theorem vd38 : P2 .fOr 38 := fun n k => by kernel_rfl
theorem ve38 : P2 .fXor 38 := fun n k => by kernel_rfl
theorem vf38 : P2 .fSub 38 := fun n k => by kernel_rfl
theorem vg38 : P2 .fDivs 38 := fun n k => by kernel_rfl
theorem vh38 : P2 .fRems 38 := fun n k => by kernel_rfl
theorem vi38 : P2 .fDivu 38 := fun n k => by kernel_rfl
theorem vj38 : P2 .fRemu 38 := fun n k => by kernel_rfl
theorem vk38 : P1 .fTrunc 38 := fun n => by kernel_rfl
theorem vl38 : P1 .fExts 38 := fun n => by kernel_rfl
theorem vm38 : P1 .fExtu 38 := fun n => by kernel_rfl
end Go.Eng
end
section
set_option linter.unusedVariables false
set_option linter.unusedSimpArgs false
set_option maxRecDepth 20000
set_option maxHeartbeats 4000000
namespace Go.Eng
open Go.Proofs
theorem va54 : P2 .fAdd 54 := fun n k => by kernel_rfl
theorem vb54 : P2 .fMul 54 := fun n k => by kernel_rfl
theorem vc54 : P2 .fAnd 54 := fun n k => by kernel_rfl
theorem vd54 : P2 .fOr 54 := fun n k => by kernel_rfl
theorem ve54 : P2 .fXor 54 := fun n k => by kernel_rfl
theorem vf54 : P2 .fSub 54 := fun n k => by kernel_rfl
theorem vg54 : P2 .fDivs 54 := fun n k => by kernel_rfl
theorem vh54 : P2 .fRems 54 := fun n k => by kernel_rfl
theorem vi54 : P2 .fDivu 54 := fun n k => by kernel_rfl
theorem vj54 : P2 .fRemu 54 := fun n k => by kernel_rfl
theorem vk54 : P1 .fTrunc 54 := fun n => by kernel_rfl
theorem vl54 : P1 .fExts 54 := fun n => by kernel_rfl
theorem vm54 : P1 .fExtu 54 := fun n => by kernel_rfl
end Go.Eng
end
