/- What run.Evaluate comes to at some widths, with numbers left open, by the kernel. -/
import Derived.KernelRfl
import Derived.Test.YtipedikaiaamjaaGreatDoorEd
section
set_option linter.unusedVariables false
set_option linter.unusedSimpArgs false
set_option maxRecDepth 20000
set_option maxHeartbeats 4000000
namespace Go.Eng
open Go.Proofs
theorem va3 : P2 .fAdd 3 := fun n k => by kernel_rfl
theorem vb3 : P2 .fMul 3 := fun n k => by kernel_rfl
theorem vc3 : P2 .fAnd 3 := fun n k => by kernel_rfl
theorem vd3 : P2 .fOr 3 := fun n k => by kernel_rfl
theorem ve3 : P2 .fXor 3 := fun n k => by kernel_rfl
theorem vf3 : P2 .fSub 3 := fun n k => by kernel_rfl
theorem vg3 : P2 .fDivs 3 := fun n k => by kernel_rfl
theorem vh3 : P2 .fRems 3 := fun n k => by kernel_rfl
theorem vi3 : P2 .fDivu 3 := fun n k => by kernel_rfl
theorem vj3 : P2 .fRemu 3 := fun n k => by kernel_rfl
theorem vk3 : P1 .fTrunc 3 := fun n => by kernel_rfl
theorem vl3 : P1 .fExts 3 := fun n => by kernel_rfl
theorem vm3 : P1 .fExtu 3 := fun n => by kernel_rfl
end Go.Eng
end
section
set_option linter.unusedVariables false
set_option linter.unusedSimpArgs false
set_option maxRecDepth 20000
set_option maxHeartbeats 4000000
namespace Go.Eng
open Go.Proofs
theorem va19 : P2 .fAdd 19 := fun n k => by kernel_rfl
theorem vb19 : P2 .fMul 19 := fun n k => by kernel_rfl
theorem vc19 : P2 .fAnd 19 := fun n k => by kernel_rfl
theorem vd19 : P2 .fOr 19 := fun n k => by kernel_rfl
theorem ve19 : P2 .fXor 19 := fun n k => by kernel_rfl
theorem vf19 : P2 .fSub 19 := fun n k => by kernel_rfl
theorem vg19 : P2 .fDivs 19 := fun n k => by kernel_rfl
theorem vh19 : P2 .fRems 19 := fun n k => by kernel_rfl
theorem vi19 : P2 .fDivu 19 := fun n k => by kernel_rfl
theorem vj19 : P2 .fRemu 19 := fun n k => by kernel_rfl
theorem vk19 : P1 .fTrunc 19 := fun n => by kernel_rfl
theorem vl19 : P1 .fExts 19 := fun n => by kernel_rfl
theorem vm19 : P1 .fExtu 19 := fun n => by kernel_rfl
end Go.Eng
end
section
set_option linter.unusedVariables false
set_option linter.unusedSimpArgs false
set_option maxRecDepth 20000
set_option maxHeartbeats 4000000
namespace Go.Eng
open Go.Proofs
theorem va35 : P2 .fAdd 35 := fun n k => by kernel_rfl
theorem vb35 : P2 .fMul 35 := fun n k => by kernel_rfl
theorem vc35 : P2 .fAnd 35 := fun n k => by kernel_rfl
theorem vd35 : P2 .fOr 35 := fun n k => by kernel_rfl
theorem ve35 : P2 .fXor 35 := fun n k => by kernel_rfl
theorem vf35 : P2 .fSub 35 := fun n k => by kernel_rfl
theorem vg35 : P2 .fDivs 35 := fun n k => by kernel_rfl
theorem vh35 : P2 .fRems 35 := fun n k => by kernel_rfl
theorem vi35 : P2 .fDivu 35 := fun n k => by kernel_rfl
theorem vj35 : P2 .fRemu 35 := fun n k => by kernel_rfl
theorem vk35 : P1 .fTrunc 35 := fun n => by kernel_rfl
theorem vl35 : P1 .fExts 35 := fun n => by kernel_rfl
theorem vm35 : P1 .fExtu 35 := fun n => by kernel_rfl
end Go.Eng
end
section
set_option linter.unusedVariables false
set_option linter.unusedSimpArgs false
set_option maxRecDepth 20000
set_option maxHeartbeats 4000000
namespace Go.Eng
open Go.Proofs
theorem va51 : P2 .fAdd 51 := fun n k => by kernel_rfl
theorem vb51 : P2 .fMul 51 := fun n k => by kernel_rfl
theorem vc51 : P2 .fAnd 51 := fun n k => by kernel_rfl
theorem vd51 : P2 .fOr 51 := fun n k => by kernel_rfl
theorem ve51 : P2 .fXor 51 := fun n k => by kernel_rfl
theorem vf51 : P2 .fSub 51 := fun n k => by kernel_rfl
theorem vg51 : P2 .fDivs 51 := fun n k => by kernel_rfl
theorem vh51 : P2 .fRems 51 := fun n k => by kernel_rfl
theorem vi51 : P2 .fDivu 51 := fun n k => by kernel_rfl
theorem vj51 : P2 .fRemu 51 := fun n k => by kernel_rfl
theorem vk51 : P1 .fTrunc 51 := fun n => by kernel_rfl
theorem vl51 : P1 .fExts 51 := fun n => by kernel_rfl
theorem vm51 : P1 .fExtu 51 := fun n => by kernel_rfl
end Go.Eng
end
