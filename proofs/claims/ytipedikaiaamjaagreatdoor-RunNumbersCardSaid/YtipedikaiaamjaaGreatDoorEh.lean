/- What run.Evaluate comes to at some widths, with numbers left open, by the kernel. -/
import Derived.KernelRfl
import Derived.Test.YtipedikaiaamjaaGreatDoorEd
section
set_option linter.unusedVariables false
set_option linter.unusedSimpArgs false
set_option maxRecDepth 20000
set_option maxHeartbeats 4000000
namespace Go.Eng
open Go.Proofs
theorem va7 : P2 .fAdd 7 := fun n k => by kernel_rfl
theorem vb7 : P2 .fMul 7 := fun n k => by kernel_rfl
theorem vc7 : P2 .fAnd 7 := fun n k => by kernel_rfl
theorem vd7 : P2 .fOr 7 := fun n k => by kernel_rfl
theorem ve7 : P2 .fXor 7 := fun n k => by kernel_rfl
theorem vf7 : P2 .fSub 7 := fun n k => by kernel_rfl
theorem vg7 : P2 .fDivs 7 := fun n k => by kernel_rfl
theorem vh7 : P2 .fRems 7 := fun n k => by kernel_rfl
theorem vi7 : P2 .fDivu 7 := fun n k => by kernel_rfl
theorem vj7 : P2 .fRemu 7 := fun n k => by kernel_rfl
theorem vk7 : P1 .fTrunc 7 := fun n => by kernel_rfl
theorem vl7 : P1 .fExts 7 := fun n => by kernel_rfl
theorem vm7 : P1 .fExtu 7 := fun n => by kernel_rfl
end Go.Eng
end
section
set_option linter.unusedVariables false
set_option linter.unusedSimpArgs false
set_option maxRecDepth 20000
set_option maxHeartbeats 4000000
namespace Go.Eng
open Go.Proofs
theorem va23 : P2 .fAdd 23 := fun n k => by kernel_rfl
theorem vb23 : P2 .fMul 23 := fun n k => by kernel_rfl
theorem vc23 : P2 .fAnd 23 := fun n k => by kernel_rfl
theorem vd23 : P2 .fOr 23 := fun n k => by kernel_rfl
theorem ve23 : P2 .fXor 23 := fun n k => by kernel_rfl
theorem vf23 : P2 .fSub 23 := fun n k => by kernel_rfl
theorem vg23 : P2 .fDivs 23 := fun n k => by kernel_rfl
theorem vh23 : P2 .fRems 23 := fun n k => by kernel_rfl
theorem vi23 : P2 .fDivu 23 := fun n k => by kernel_rfl
theorem vj23 : P2 .fRemu 23 := fun n k => by kernel_rfl
theorem vk23 : P1 .fTrunc 23 := fun n => by kernel_rfl
theorem vl23 : P1 .fExts 23 := fun n => by kernel_rfl
theorem vm23 : P1 .fExtu 23 := fun n => by kernel_rfl
end Go.Eng
end
section
set_option linter.unusedVariables false
set_option linter.unusedSimpArgs false
set_option maxRecDepth 20000
set_option maxHeartbeats 4000000
namespace Go.Eng
open Go.Proofs
theorem va39 : P2 .fAdd 39 := fun n k => by kernel_rfl
theorem vb39 : P2 .fMul 39 := fun n k => by kernel_rfl
theorem vc39 : P2 .fAnd 39 := fun n k => by kernel_rfl
theorem vd39 : P2 .fOr 39 := fun n k => by kernel_rfl
theorem ve39 : P2 .fXor 39 := fun n k => by kernel_rfl
theorem vf39 : P2 .fSub 39 := fun n k => by kernel_rfl
theorem vg39 : P2 .fDivs 39 := fun n k => by kernel_rfl
theorem vh39 : P2 .fRems 39 := fun n k => by kernel_rfl
theorem vi39 : P2 .fDivu 39 := fun n k => by kernel_rfl
theorem vj39 : P2 .fRemu 39 := fun n k => by kernel_rfl
theorem vk39 : P1 .fTrunc 39 := fun n => by kernel_rfl
theorem vl39 : P1 .fExts 39 := fun n => by kernel_rfl
theorem vm39 : P1 .fExtu 39 := fun n => by kernel_rfl
end Go.Eng
end
section
set_option linter.unusedVariables false
set_option linter.unusedSimpArgs false
set_option maxRecDepth 20000
set_option maxHeartbeats 4000000
namespace Go.Eng
open Go.Proofs
theorem va55 : P2 .fAdd 55 := fun n k => by kernel_rfl
theorem vb55 : P2 .fMul 55 := fun n k => by kernel_rfl
theorem vc55 : P2 .fAnd 55 := fun n k => by kernel_rfl
theorem vd55 : P2 .fOr 55 := fun n k => by kernel_rfl
theorem ve55 : P2 .fXor 55 := fun n k => by kernel_rfl
theorem vf55 : P2 .fSub 55 := fun n k => by kernel_rfl
theorem vg55 : P2 .fDivs 55 := fun n k => by kernel_rfl
theorem vh55 : P2 .fRems 55 := fun n k => by kernel_rfl
theorem vi55 : P2 .fDivu 55 := fun n k => by kernel_rfl
theorem vj55 : P2 .fRemu 55 := fun n k => by kernel_rfl
theorem vk55 : P1 .fTrunc 55 := fun n => by kernel_rfl
theorem vl55 : P1 .fExts 55 := fun n => by kernel_rfl
theorem vm55 : P1 .fExtu 55 := fun n => by kernel_rfl
end Go.Eng
end
