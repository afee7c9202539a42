/- What run.Evaluate comes to at some widths, with numbers left open, by the kernel. -/
import Derived.KernelRfl
import Derived.Test.YtipedikaiaamjaaGreatDoorEd
section
set_option linter.unusedVariables false
set_option linter.unusedSimpArgs false
set_option maxRecDepth 20000
set_option maxHeartbeats 4000000
namespace Go.Eng
open Go.Proofs
theorem va15 : P2 .fAdd 15 := fun n k => by kernel_rfl
theorem vb15 : P2 .fMul 15 := fun n k => by kernel_rfl
theorem vc15 : P2 .fAnd 15 := fun n k => by kernel_rfl
theorem vd15 : P2 .fOr 15 := fun n k => by kernel_rfl
theorem ve15 : P2 .fXor 15 := fun n k => by kernel_rfl
theorem vf15 : P2 .fSub 15 := fun n k => by kernel_rfl
theorem vg15 : P2 .fDivs 15 := fun n k => by kernel_rfl
theorem vh15 : P2 .fRems 15 := fun n k => by kernel_rfl
theorem vi15 : P2 .fDivu 15 := fun n k => by kernel_rfl
theorem vj15 : P2 .fRemu 15 := fun n k => by kernel_rfl
theorem vk15 : P1 .fTrunc 15 := fun n => by kernel_rfl
theorem vl15 : P1 .fExts 15 := fun n => by kernel_rfl
theorem vm15 : P1 .fExtu 15 := fun n => by kernel_rfl
end Go.Eng
end
section
set_option linter.unusedVariables false
set_option linter.unusedSimpArgs false
set_option maxRecDepth 20000
set_option maxHeartbeats 4000000
namespace Go.Eng
open Go.Proofs
theorem va31 : P2 .fAdd 31 := fun n k => by kernel_rfl
theorem vb31 : P2 .fMul 31 := fun n k => by kernel_rfl
theorem vc31 : P2 .fAnd 31 := fun n k => by kernel_rfl
theorem vd31 : P2 .fOr 31 := fun n k => by kernel_rfl
theorem ve31 : P2 .fXor 31 := fun n k => by kernel_rfl
theorem vf31 : P2 .fSub 31 := fun n k => by kernel_rfl
theorem vg31 : P2 .fDivs 31 := fun n k => by kernel_rfl
theorem vh31 : P2 .fRems 31 := fun n k => by kernel_rfl
theorem vi31 : P2 .fDivu 31 := fun n k => by kernel_rfl
theorem vj31 : P2 .fRemu 31 := fun n k => by kernel_rfl
theorem vk31 : P1 .fTrunc 31 := fun n => by kernel_rfl
theorem vl31 : P1 .fExts 31 := fun n => by kernel_rfl
theorem vm31 : P1 .fExtu 31 := fun n => by kernel_rfl
end Go.Eng
end
section
set_option linter.unusedVariables false
set_option linter.unusedSimpArgs false
set_option maxRecDepth 20000
set_option maxHeartbeats 4000000
namespace Go.Eng
open Go.Proofs
theorem va47 : P2 .fAdd 47 := fun n k => by kernel_rfl
theorem vb47 : P2 .fMul 47 := fun n k => by kernel_rfl
theorem vc47 : P2 .fAnd 47 := fun n k => by kernel_rfl
theorem vd47 : P2 .fOr 47 := fun n k => by kernel_rfl
theorem ve47 : P2 .fXor 47 := fun n k => by kernel_rfl
theorem vf47 : P2 .fSub 47 := fun n k => by kernel_rfl
theorem vg47 : P2 .fDivs 47 := fun n k => by kernel_rfl
theorem vh47 : P2 .fRems 47 := fun n k => by kernel_rfl
theorem vi47 : P2 .fDivu 47 := fun n k => by kernel_rfl
theorem vj47 : P2 .fRemu 47 := fun n k => by kernel_rfl
theorem vk47 : P1 .fTrunc 47 := fun n => by kernel_rfl
theorem vl47 : P1 .fExts 47 := fun n => by kernel_rfl
theorem vm47 : P1 .fExtu 47 := fun n => by kernel_rfl
end Go.Eng
end
section
set_option linter.unusedVariables false
set_option linter.unusedSimpArgs false
set_option maxRecDepth 20000
set_option maxHeartbeats 4000000
namespace Go.Eng
open Go.Proofs
theorem va63 : P2 .fAdd 63 := fun n k => by kernel_rfl
theorem vb63 : P2 .fMul 63 := fun n k => by kernel_rfl
theorem vc63 : P2 .fAnd 63 := fun n k => by kernel_rfl
theorem vd63 : P2 .fOr 63 := fun n k => by kernel_rfl
theorem ve63 : P2 .fXor 63 := fun n k => by kernel_rfl
theorem vf63 : P2 .fSub 63 := fun n k => by kernel_rfl
theorem vg63 : P2 .fDivs 63 := fun n k => by kernel_rfl
theorem vh63 : P2 .fRems 63 := fun n k => by kernel_rfl
theorem vi63 : P2 .fDivu 63 := fun n k => by kernel_rfl
theorem vj63 : P2 .fRemu 63 := fun n k => by kernel_rfl
theorem vk63 : P1 .fTrunc 63 := fun n => by kernel_rfl
theorem vl63 : P1 .fExts 63 := fun n => by kernel_rfl
theorem vm63 : P1 .fExtu 63 := fun n => by kernel_rfl
end Go.Eng
end
