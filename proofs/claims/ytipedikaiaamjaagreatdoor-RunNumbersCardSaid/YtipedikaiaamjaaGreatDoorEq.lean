/- What run.Evaluate comes to at some widths, with numbers left open, by the kernel. -/
import Derived.KernelRfl
import Derived.Test.YtipedikaiaamjaaGreatDoorEd
section
set_option linter.unusedVariables false
set_option linter.unusedSimpArgs false
set_option maxRecDepth 20000
set_option maxHeartbeats 4000000
namespace Go.Eng
open Go.Proofs
theorem va16 : P2 .fAdd 16 := fun n k => by kernel_rfl
theorem vb16 : P2 .fMul 16 := fun n k => by kernel_rfl
theorem vc16 : P2 .fAnd 16 := fun n k => by kernel_rfl
theorem vd16 : P2 .fOr 16 := fun n k => by kernel_rfl
theorem ve16 : P2 .fXor 16 := fun n k => by kernel_rfl
theorem vf16 : P2 .fSub 16 := fun n k => by kernel_rfl
theorem vg16 : P2 .fDivs 16 := fun n k => by kernel_rfl
theorem vh16 : P2 .fRems 16 := fun n k => by kernel_rfl
theorem vi16 : P2 .fDivu 16 := fun n k => by kernel_rfl
theorem vj16 : P2 .fRemu 16 := fun n k => by kernel_rfl
theorem vk16 : P1 .fTrunc 16 := fun n => by kernel_rfl
theorem vl16 : P1 .fExts 16 := fun n => by kernel_rfl
theorem vm16 : P1 .fExtu 16 := fun n => by kernel_rfl
end Go.Eng
end
section
set_option linter.unusedVariables false
set_option linter.unusedSimpArgs false
set_option maxRecDepth 20000
set_option maxHeartbeats 4000000
namespace Go.Eng
open Go.Proofs
theorem va32 : P2 .fAdd 32 := fun n k => by kernel_rfl
theorem vb32 : P2 .fMul 32 := fun n k => by kernel_rfl
theorem vc32 : P2 .fAnd 32 := fun n k => by kernel_rfl
theorem vd32 : P2 .fOr 32 := fun n k => by kernel_rfl
theorem ve32 : P2 .fXor 32 := fun n k => by kernel_rfl
theorem vf32 : P2 .fSub 32 := fun n k => by kernel_rfl
theorem vg32 : P2 .fDivs 32 := fun n k => by kernel_rfl
theorem vh32 : P2 .fRems 32 := fun n k => by kernel_rfl
theorem vi32 : P2 .fDivu 32 := fun n k => by kernel_rfl
theorem vj32 : P2 .fRemu 32 := fun n k => by kernel_rfl
theorem vk32 : P1 .fTrunc 32 := fun n => by kernel_rfl
theorem vl32 : P1 .fExts 32 := fun n => by kernel_rfl
theorem vm32 : P1 .fExtu 32 := fun n => by kernel_rfl
end Go.Eng
end
section
set_option linter.unusedVariables false
set_option linter.unusedSimpArgs false
set_option maxRecDepth 20000
set_option maxHeartbeats 4000000
namespace Go.Eng
open Go.Proofs
theorem va48 : P2 .fAdd 48 := fun n k => by kernel_rfl
theorem vb48 : P2 .fMul 48 := fun n k => by kernel_rfl
theorem vc48 : P2 .fAnd 48 := fun n k => by kernel_rfl
theorem vd48 : P2 .fOr 48 := fun n k => by kernel_rfl
theorem ve48 : P2 .fXor 48 := fun n k => by kernel_rfl
theorem vf48 : P2 .fSub 48 := fun n k => by kernel_rfl
theorem vg48 : P2 .fDivs 48 := fun n k => by kernel_rfl
theorem vh48 : P2 .fRems 48 := fun n k => by kernel_rfl
theorem vi48 : P2 .fDivu 48 := fun n k => by kernel_rfl
theorem vj48 : P2 .fRemu 48 := fun n k => by kernel_rfl
theorem vk48 : P1 .fTrunc 48 := fun n => by kernel_rfl
theorem vl48 : P1 .fExts 48 := fun n => by kernel_rfl
theorem vm48 : P1 .fExtu 48 := fun n => by kernel_rfl
end Go.Eng
end
section
set_option linter.unusedVariables false
set_option linter.unusedSimpArgs false
set_option maxRecDepth 20000
set_option maxHeartbeats 4000000
namespace Go.Eng
open Go.Proofs
theorem va64 : P2 .fAdd 64 := fun n k => by kernel_rfl
theorem vb64 : P2 .fMul 64 := fun n k => by kernel_rfl
theorem vc64 : P2 .fAnd 64 := fun n k => by kernel_rfl
theorem vd64 : P2 .fOr 64 := fun n k => by kernel_rfl
theorem ve64 : P2 .fXor 64 := fun n k => by kernel_rfl
theorem vf64 : P2 .fSub 64 := fun n k => by kernel_rfl
theorem vg64 : P2 .fDivs 64 := fun n k => by kernel_rfl
theorem vh64 : P2 .fRems 64 := fun n k => by kernel_rfl
theorem vi64 : P2 .fDivu 64 := fun n k => by kernel_rfl
theorem vj64 : P2 .fRemu 64 := fun n k => by kernel_rfl
end Go.Eng
end
