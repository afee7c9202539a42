/- What run.Evaluate comes to at some widths, with numbers left open, by the kernel. -/
import Derived.KernelRfl
import Derived.Test.YtipedikaiaamjaaGreatDoorEd
section
set_option linter.unusedVariables false
set_option linter.unusedSimpArgs false
set_option maxRecDepth 20000
set_option maxHeartbeats 4000000
namespace Go.Eng
open Go.Proofs
theorem va4 : P2 .fAdd 4 := fun n k => by kernel_rfl
theorem vb4 : P2 .fMul 4 := fun n k => by kernel_rfl
theorem vc4 : P2 .fAnd 4 := fun n k => by kernel_rfl
theorem vd4 : P2 .fOr 4 := fun n k => by kernel_rfl
theorem ve4 : P2 .fXor 4 := fun n k => by kernel_rfl
theorem vf4 : P2 .fSub 4 := fun n k => by kernel_rfl
theorem vg4 : P2 .fDivs 4 := fun n k => by kernel_rfl
theorem vh4 : P2 .fRems 4 := fun n k => by kernel_rfl
theorem vi4 : P2 .fDivu 4 := fun n k => by kernel_rfl
theorem vj4 : P2 .fRemu 4 := fun n k => by kernel_rfl
theorem vk4 : P1 .fTrunc 4 := fun n => by kernel_rfl
theorem vl4 : P1 .fExts 4 := fun n => by kernel_rfl
theorem vm4 : P1 .fExtu 4 := fun n => by kernel_rfl
end Go.Eng
end
section
set_option linter.unusedVariables false
set_option linter.unusedSimpArgs false
set_option maxRecDepth 20000
set_option maxHeartbeats 4000000
namespace Go.Eng
open Go.Proofs
theorem va20 : P2 .fAdd 20 := fun n k => by kernel_rfl
theorem vb20 : P2 .fMul 20 := fun n k => by kernel_rfl
theorem vc20 : P2 .fAnd 20 := fun n k => by kernel_rfl
theorem vd20 : P2 .fOr 20 := fun n k => by kernel_rfl
theorem ve20 : P2 .fXor 20 := fun n k => by kernel_rfl
theorem vf20 : P2 .fSub 20 := fun n k => by kernel_rfl
theorem vg20 : P2 .fDivs 20 := fun n k => by kernel_rfl
theorem vh20 : P2 .fRems 20 := fun n k => by kernel_rfl
theorem vi20 : P2 .fDivu 20 := fun n k => by kernel_rfl
theorem vj20 : P2 .fRemu 20 := fun n k => by kernel_rfl
theorem vk20 : P1 .fTrunc 20 := fun n => by kernel_rfl
theorem vl20 : P1 .fExts 20 := fun n => by kernel_rfl
theorem vm20 : P1 .fExtu 20 := fun n => by kernel_rfl
end Go.Eng
end
section
set_option linter.unusedVariables false
set_option linter.unusedSimpArgs false
set_option maxRecDepth 20000
set_option maxHeartbeats 4000000
namespace Go.Eng
open Go.Proofs
theorem va36 : P2 .fAdd 36 := fun n k => by kernel_rfl
theorem vb36 : P2 .fMul 36 := fun n k => by kernel_rfl
theorem vc36 : P2 .fAnd 36 := fun n k => by kernel_rfl
theorem vd36 : P2 .fOr 36 := fun n k => by kernel_rfl
theorem ve36 : P2 .fXor 36 := fun n k => by kernel_rfl
theorem vf36 : P2 .fSub 36 := fun n k => by kernel_rfl
theorem vg36 : P2 .fDivs 36 := fun n k => by kernel_rfl
theorem vh36 : P2 .fRems 36 := fun n k => by kernel_rfl
theorem vi36 : P2 .fDivu 36 := fun n k => by kernel_rfl
theorem vj36 : P2 .fRemu 36 := fun n k => by kernel_rfl
theorem vk36 : P1 .fTrunc 36 := fun n => by kernel_rfl
theorem vl36 : P1 .fExts 36 := fun n => by kernel_rfl
theorem vm36 : P1 .fExtu 36 := fun n => by kernel_rfl
end Go.Eng
end
section
set_option linter.unusedVariables false
set_option linter.unusedSimpArgs false
set_option maxRecDepth 20000
set_option maxHeartbeats 4000000
namespace Go.Eng
open Go.Proofs
theorem va52 : P2 .fAdd 52 := fun n k => by kernel_rfl
theorem vb52 : P2 .fMul 52 := fun n k => by kernel_rfl
theorem vc52 : P2 .fAnd 52 := fun n k => by kernel_rfl
theorem vd52 : P2 .fOr 52 := fun n k => by kernel_rfl
theorem ve52 : P2 .fXor 52 := fun n k => by kernel_rfl
theorem vf52 : P2 .fSub 52 := fun n k => by kernel_rfl
theorem vg52 : P2 .fDivs 52 := fun n k => by kernel_rfl
theorem vh52 : P2 .fRems 52 := fun n k => by kernel_rfl
theorem vi52 : P2 .fDivu 52 := fun n k => by kernel_rfl
theorem vj52 : P2 .fRemu 52 := fun n k => by kernel_rfl
theorem vk52 : P1 .fTrunc 52 := fun n => by kernel_rfl
theorem vl52 : P1 .fExts 52 := fun n => by kernel_rfl
theorem vm52 : P1 .fExtu 52 := fun n => by kernel_rfl
end Go.Eng
end
