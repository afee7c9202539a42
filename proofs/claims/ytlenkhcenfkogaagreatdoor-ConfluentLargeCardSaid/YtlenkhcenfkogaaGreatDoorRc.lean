/- What the law answers at these cases, by the kernel. -/
import Derived.KernelRfl
import Derived.Test.YtlenkhcenfkogaaGreatDoorSd
section
set_option linter.unusedVariables false
set_option linter.unusedSimpArgs false
set_option maxRecDepth 20000
namespace Go.Eng
open Go.Proofs
theorem ran8 (n : Int) : allB 2 (fun r => match r.1 with | .bool b => b | _ => false) (top (.int .u64 8) (kcall kE3 ktab3 10000 2999) 10000 [.int .i64 n] St.start fun v s => .ret (v, s)) = true := by kernel_rfl
end Go.Eng
end
section
set_option linter.unusedVariables false
set_option linter.unusedSimpArgs false
set_option maxRecDepth 20000
namespace Go.Eng
open Go.Proofs
theorem ran9 (n : Int) : allB 2 (fun r => match r.1 with | .bool b => b | _ => false) (top (.int .u64 9) (kcall kE3 ktab3 10000 2999) 10000 [.int .i64 n] St.start fun v s => .ret (v, s)) = true := by kernel_rfl
end Go.Eng
end
section
set_option linter.unusedVariables false
set_option linter.unusedSimpArgs false
set_option maxRecDepth 20000
namespace Go.Eng
open Go.Proofs
theorem ran10 (n : Int) : allB 2 (fun r => match r.1 with | .bool b => b | _ => false) (top (.int .u64 10) (kcall kE3 ktab3 10000 2999) 10000 [.int .i64 n] St.start fun v s => .ret (v, s)) = true := by kernel_rfl
end Go.Eng
end
