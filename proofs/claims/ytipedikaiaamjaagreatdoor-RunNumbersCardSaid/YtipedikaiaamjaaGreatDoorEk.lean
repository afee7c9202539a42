/- What run.Evaluate comes to at some widths, with numbers left open, by the kernel. -/
import Derived.KernelRfl
import Derived.Test.YtipedikaiaamjaaGreatDoorEd
section
set_option linter.unusedVariables false
set_option linter.unusedSimpArgs false
set_option maxRecDepth 20000
set_option maxHeartbeats 4000000
namespace Go.Eng
open Go.Proofs
theorem va10 : P2 .fAdd 10 := fun n k => by kernel_rfl
theorem vb10 : P2 .fMul 10 := fun n k => by kernel_rfl
theorem vc10 : P2 .fAnd 10 := fun n k => by kernel_rfl
theorem vd10 : P2 .fOr 10 := fun n k => by kernel_rfl
theorem ve10 : P2 .fXor 10 := fun n k => by kernel_rfl
theorem vf10 : P2 .fSub 10 := fun n k => by kernel_rfl
theorem vg10 : P2 .fDivs 10 := fun n k => by kernel_rfl
theorem vh10 : P2 .fRems 10 := fun n k => by kernel_rfl
theorem vi10 : P2 .fDivu 10 := fun n k => by kernel_rfl
theorem vj10 : P2 .fRemu 10 := fun n k => by kernel_rfl
theorem vk10 : P1 .fTrunc 10 := fun n => by kernel_rfl
theorem vl10 : P1 .fExts 10 := fun n => by kernel_rfl
theorem vm10 : P1 .fExtu 10 := fun n => by kernel_rfl
end Go.Eng
end
section
set_option linter.unusedVariables false
set_option linter.unusedSimpArgs false
set_option maxRecDepth 20000
set_option maxHeartbeats 4000000
namespace Go.Eng
open Go.Proofs
theorem va26 : P2 .fAdd 26 := fun n k => by kernel_rfl
theorem vb26 : P2 .fMul 26 := fun n k => by kernel_rfl
theorem vc26 : P2 .fAnd 26 := fun n k => by kernel_rfl
theorem vd26 : P2 .fOr 26 := fun n k => by kernel_rfl
theorem ve26 : P2 .fXor 26 := fun n k => by kernel_rfl
theorem vf26 : P2 .fSub 26 := fun n k => by kernel_rfl
theorem vg26 : P2 .fDivs 26 := fun n k => by kernel_rfl
theorem vh26 : P2 .fRems 26 := fun n k => by kernel_rfl
theorem vi26 : P2 .fDivu 26 := fun n k => by kernel_rfl
theorem vj26 : P2 .fRemu 26 := fun n k => by kernel_rfl
theorem vk26 : P1 .fTrunc 26 := fun n => by kernel_rfl
theorem vl26 : P1 .fExts 26 := fun n => by kernel_rfl
theorem vm26 : P1 .fExtu 26 := fun n => by kernel_rfl
end Go.Eng
end
section
set_option linter.unusedVariables false
set_option linter.unusedSimpArgs false
set_option maxRecDepth 20000
set_option maxHeartbeats 4000000
namespace Go.Eng
open Go.Proofs
theorem va42 : P2 .fAdd 42 := fun n k => by kernel_rfl
theorem vb42 : P2 .fMul 42 := fun n k => by kernel_rfl
theorem vc42 : P2 .fAnd 42 := fun n k => by kernel_rfl
theorem vd42 : P2 .fOr 42 := fun n k => by kernel_rfl
theorem ve42 : P2 .fXor 42 := fun n k => by kernel_rfl
theorem vf42 : P2 .fSub 42 := fun n k => by kernel_rfl
theorem vg42 : P2 .fDivs 42 := fun n k => by kernel_rfl
theorem vh42 : P2 .fRems 42 := fun n k => by kernel_rfl
theorem vi42 : P2 .fDivu 42 := fun n k => by kernel_rfl
theorem vj42 : P2 .fRemu 42 := fun n k => by kernel_rfl
theorem vk42 : P1 .fTrunc 42 := fun n => by kernel_rfl
theorem vl42 : P1 .fExts 42 := fun n => by kernel_rfl
theorem vm42 : P1 .fExtu 42 := fun n => by kernel_rfl
end Go.Eng
end
section
set_option linter.unusedVariables false
set_option linter.unusedSimpArgs false
set_option maxRecDepth 20000
set_option maxHeartbeats 4000000
namespace Go.Eng
open Go.Proofs
theorem va58 : P2 .fAdd 58 := fun n k => by kernel_rfl
theorem vb58 : P2 .fMul 58 := fun n k => by kernel_rfl
theorem vc58 : P2 .fAnd 58 := fun n k => by kernel_rfl
theorem vd58 : P2 .fOr 58 := fun n k => by kernel_rfl
theorem ve58 : P2 .fXor 58 := fun n k => by kernel_rfl
theorem vf58 : P2 .fSub 58 := fun n k => by kernel_rfl
theorem vg58 : P2 .fDivs 58 := fun n k => by kernel_rfl
theorem vh58 : P2 .fRems 58 := fun n k => by kernel_rfl
theorem vi58 : P2 .fDivu 58 := fun n k => by kernel_rfl
theorem vj58 : P2 .fRemu 58 := fun n k => by kernel_rfl
theorem vk58 : P1 .fTrunc 58 := fun n => by kernel_rfl
theorem vl58 : P1 .fExts 58 := fun n => by kernel_rfl
theorem vm58 : P1 .fExtu 58 := fun n => by kernel_rfl
end Go.Eng
end
