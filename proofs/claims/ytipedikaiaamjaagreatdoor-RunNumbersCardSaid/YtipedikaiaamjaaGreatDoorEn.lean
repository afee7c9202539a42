/- What run.Evaluate comes to at some widths, with numbers left open, by the kernel. -/
import Derived.KernelRfl
import Derived.Test.YtipedikaiaamjaaGreatDoorEd
section
set_option linter.unusedVariables false
set_option linter.unusedSimpArgs false
set_option maxRecDepth 20000
set_option maxHeartbeats 4000000
namespace Go.Eng
open Go.Proofs
theorem va13 : P2 .fAdd 13 := fun n k => by kernel_rfl
theorem vb13 : P2 .fMul 13 := fun n k => by kernel_rfl
theorem vc13 : P2 .fAnd 13 := fun n k => by kernel_rfl
theorem vd13 : P2 .fOr 13 := fun n k => by kernel_rfl
theorem ve13 : P2 .fXor 13 := fun n k => by kernel_rfl
theorem vf13 : P2 .fSub 13 := fun n k => by kernel_rfl
theorem vg13 : P2 .fDivs 13 := fun n k => by kernel_rfl
theorem vh13 : P2 .fRems 13 := fun n k => by kernel_rfl
theorem vi13 : P2 .fDivu 13 := fun n k => by kernel_rfl
theorem vj13 : P2 .fRemu 13 := fun n k => by kernel_rfl
theorem vk13 : P1 .fTrunc 13 := fun n => by kernel_rfl
theorem vl13 : P1 .fExts 13 := fun n => by kernel_rfl
theorem vm13 : P1 .fExtu 13 := fun n => by kernel_rfl
end Go.Eng
end
section
set_option linter.unusedVariables false
set_option linter.unusedSimpArgs false
set_option maxRecDepth 20000
set_option maxHeartbeats 4000000
namespace Go.Eng
open Go.Proofs
theorem va29 : P2 .fAdd 29 := fun n k => by kernel_rfl
theorem vb29 : P2 .fMul 29 := fun n k => by kernel_rfl
theorem vc29 : P2 .fAnd 29 := fun n k => by kernel_rfl
theorem vd29 : P2 .fOr 29 := fun n k => by kernel_rfl
theorem ve29 : P2 .fXor 29 := fun n k => by kernel_rfl
theorem vf29 : P2 .fSub 29 := fun n k => by kernel_rfl
theorem vg29 : P2 .fDivs 29 := fun n k => by kernel_rfl
theorem vh29 : P2 .fRems 29 := fun n k => by kernel_rfl
theorem vi29 : P2 .fDivu 29 := fun n k => by kernel_rfl
theorem vj29 : P2 .fRemu 29 := fun n k => by kernel_rfl
theorem vk29 : P1 .fTrunc 29 := fun n => by kernel_rfl
theorem vl29 : P1 .fExts 29 := fun n => by kernel_rfl
theorem vm29 : P1 .fExtu 29 := fun n => by kernel_rfl
end Go.Eng
end
section
set_option linter.unusedVariables false
set_option linter.unusedSimpArgs false
set_option maxRecDepth 20000
set_option maxHeartbeats 4000000
namespace Go.Eng
open Go.Proofs
theorem va45 : P2 .fAdd 45 := fun n k => by kernel_rfl
theorem vb45 : P2 .fMul 45 := fun n k => by kernel_rfl
theorem vc45 : P2 .fAnd 45 := fun n k => by kernel_rfl
theorem vd45 : P2 .fOr 45 := fun n k => by kernel_rfl
theorem ve45 : P2 .fXor 45 := fun n k => by kernel_rfl
theorem vf45 : P2 .fSub 45 := fun n k => by kernel_rfl
theorem vg45 : P2 .fDivs 45 := fun n k => by kernel_rfl
theorem vh45 : P2 .fRems 45 := fun n k => by kernel_rfl
theorem vi45 : P2 .fDivu 45 := fun n k => by kernel_rfl
theorem vj45 : P2 .fRemu 45 := fun n k => by kernel_rfl
theorem vk45 : P1 .fTrunc 45 := fun n => by kernel_rfl
theorem vl45 : P1 .fExts 45 := fun n => by kernel_rfl
theorem vm45 : P1 .fExtu 45 := fun n => by kernel_rfl
end Go.Eng
end
section
set_option linter.unusedVariables false
set_option linter.unusedSimpArgs false
set_option maxRecDepth 20000
set_option maxHeartbeats 4000000
namespace Go.Eng
open Go.Proofs
theorem va61 : P2 .fAdd 61 := fun n k => by kernel_rfl
theorem vb61 : P2 .fMul 61 := fun n k => by kernel_rfl
theorem vc61 : P2 .fAnd 61 := fun n k => by kernel_rfl
theorem vd61 : P2 .fOr 61 := fun n k => by kernel_rfl
theorem ve61 : P2 .fXor 61 := fun n k => by kernel_rfl
theorem vf61 : P2 .fSub 61 := fun n k => by kernel_rfl
theorem vg61 : P2 .fDivs 61 := fun n k => by kernel_rfl
theorem vh61 : P2 .fRems 61 := fun n k => by kernel_rfl
theorem vi61 : P2 .fDivu 61 := fun n k => by kernel_rfl
theorem vj61 : P2 .fRemu 61 := fun n k => by kernel_rfl
theorem vk61 : P1 .fTrunc 61 := fun n => by kernel_rfl
theorem vl61 : P1 .fExts 61 := fun n => by kernel_rfl
theorem vm61 : P1 .fExtu 61 := fun n => by kernel_rfl
end Go.Eng
end
