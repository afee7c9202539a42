/- What run.Evaluate comes to at some widths, with numbers left open, by the kernel. -/
import Derived.KernelRfl
import Derived.Test.YtipedikaiaamjaaGreatDoorEd
section
set_option linter.unusedVariables false
set_option linter.unusedSimpArgs false
set_option maxRecDepth 20000
set_option maxHeartbeats 4000000
namespace Go.Eng
open Go.Proofs
theorem va2 : P2 .fAdd 2 := fun n k => by kernel_rfl
theorem vb2 : P2 .fMul 2 := fun n k => by kernel_rfl
theorem vc2 : P2 .fAnd 2 := fun n k => by kernel_rfl
theorem vd2 : P2 .fOr 2 := fun n k => by kernel_rfl
theorem ve2 : P2 .fXor 2 := fun n k => by kernel_rfl
theorem vf2 : P2 .fSub 2 := fun n k => by kernel_rfl
theorem vg2 : P2 .fDivs 2 := fun n k => by kernel_rfl
theorem vh2 : P2 .fRems 2 := fun n k => by kernel_rfl
theorem vi2 : P2 .fDivu 2 := fun n k => by kernel_rfl
theorem vj2 : P2 .fRemu 2 := fun n k => by kernel_rfl
theorem vk2 : P1 .fTrunc 2 := fun n => by kernel_rfl
theorem vl2 : P1 .fExts 2 := fun n => by kernel_rfl
theorem vm2 : P1 .fExtu 2 := fun n => by kernel_rfl
end Go.Eng
end
section
set_option linter.unusedVariables false
set_option linter.unusedSimpArgs false
set_option maxRecDepth 20000
set_option maxHeartbeats 4000000
namespace Go.Eng
open Go.Proofs
theorem va18 : P2 .fAdd 18 := fun n k => by kernel_rfl
theorem vb18 : P2 .fMul 18 := fun n k => by kernel_rfl
theorem vc18 : P2 .fAnd 18 := fun n k => by kernel_rfl
theorem vd18 : P2 .fOr 18 := fun n k => by kernel_rfl
theorem ve18 : P2 .fXor 18 := fun n k => by kernel_rfl
theorem vf18 : P2 .fSub 18 := fun n k => by kernel_rfl
theorem vg18 : P2 .fDivs 18 := fun n k => by kernel_rfl
theorem vh18 : P2 .fRems 18 := fun n k => by kernel_rfl
theorem vi18 : P2 .fDivu 18 := fun n k => by kernel_rfl
theorem vj18 : P2 .fRemu 18 := fun n k => by kernel_rfl
theorem vk18 : P1 .fTrunc 18 := fun n => by kernel_rfl
theorem vl18 : P1 .fExts 18 := fun n => by kernel_rfl
theorem vm18 : P1 .fExtu 18 := fun n => by kernel_rfl
end Go.Eng
end
section
set_option linter.unusedVariables false
set_option linter.unusedSimpArgs false
set_option maxRecDepth 20000
set_option maxHeartbeats 4000000
namespace Go.Eng
open Go.Proofs
theorem va34 : P2 .fAdd 34 := fun n k => by kernel_rfl
theorem vb34 : P2 .fMul 34 := fun n k => by kernel_rfl
theorem vc34 : P2 .fAnd 34 := fun n k => by kernel_rfl
theorem vd34 : P2 .fOr 34 := fun n k => by kernel_rfl
theorem ve34 : P2 .fXor 34 := fun n k => by kernel_rfl
theorem vf34 : P2 .fSub 34 := fun n k => by kernel_rfl
theorem vg34 : P2 .fDivs 34 := fun n k => by kernel_rfl
theorem vh34 : P2 .fRems 34 := fun n k => by kernel_rfl
theorem vi34 : P2 .fDivu 34 := fun n k => by kernel_rfl
theorem vj34 : P2 .fRemu 34 := fun n k => by kernel_rfl
theorem vk34 : P1 .fTrunc 34 := fun n => by kernel_rfl
theorem vl34 : P1 .fExts 34 := fun n => by kernel_rfl
theorem vm34 : P1 .fExtu 34 := fun n => by kernel_rfl
end Go.Eng
end
section
set_option linter.unusedVariables false
set_option linter.unusedSimpArgs false
set_option maxRecDepth 20000
set_option maxHeartbeats 4000000
namespace Go.Eng
open Go.Proofs
theorem va50 : P2 .fAdd 50 := fun n k => by kernel_rfl
theorem vb50 : P2 .fMul 50 := fun n k => by kernel_rfl
theorem vc50 : P2 .fAnd 50 := fun n k => by kernel_rfl
theorem vd50 : P2 .fOr 50 := fun n k => by kernel_rfl
theorem ve50 : P2 .fXor 50 := fun n k => by kernel_rfl
theorem vf50 : P2 .fSub 50 := fun n k => by kernel_rfl
theorem vg50 : P2 .fDivs 50 := fun n k => by kernel_rfl
theorem vh50 : P2 .fRems 50 := fun n k => by kernel_rfl
theorem vi50 : P2 .fDivu 50 := fun n k => by kernel_rfl
theorem vj50 : P2 .fRemu 50 := fun n k => by kernel_rfl
theorem vk50 : P1 .fTrunc 50 := fun n => by kernel_rfl
theorem vl50 : P1 .fExts 50 := fun n => by kernel_rfl
theorem vm50 : P1 .fExtu 50 := fun n => by kernel_rfl
end Go.Eng
end
