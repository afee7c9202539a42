/- The law at some remainders, by the kernel. -/
import Derived.KernelRfl
import Derived.Test.YtfblhonbphjiaaaGreatDoorSb
section
set_option linter.unusedVariables false
set_option linter.unusedSimpArgs false
set_option maxRecDepth 20000
set_option maxHeartbeats 4000000
namespace Go.Eng
open Go.Proofs
theorem ran6 (n : Int) : allB 3 (fun r => match r.1 with | .bool b => b | _ => false) (top (.int .u64 6) (kcall kE3 ktab 10000 2999) 10000 [.int .i64 n] St.start fun v s => .ret (v, s)) = true := by kernel_rfl
end Go.Eng
end
section
set_option linter.unusedVariables false
set_option linter.unusedSimpArgs false
set_option maxRecDepth 20000
set_option maxHeartbeats 4000000
namespace Go.Eng
open Go.Proofs
theorem ran14 (n : Int) : allB 3 (fun r => match r.1 with | .bool b => b | _ => false) (top (.int .u64 14) (kcall kE3 ktab 10000 2999) 10000 [.int .i64 n] St.start fun v s => .ret (v, s)) = true := by kernel_rfl
end Go.Eng
end
section
set_option linter.unusedVariables false
set_option linter.unusedSimpArgs false
set_option maxRecDepth 20000
set_option maxHeartbeats 4000000
namespace Go.Eng
open Go.Proofs
theorem ran22 (n : Int) : allB 3 (fun r => match r.1 with | .bool b => b | _ => false) (top (.int .u64 22) (kcall kE3 ktab 10000 2999) 10000 [.int .i64 n] St.start fun v s => .ret (v, s)) = true := by kernel_rfl
end Go.Eng
end
section
set_option linter.unusedVariables false
set_option linter.unusedSimpArgs false
set_option maxRecDepth 20000
set_option maxHeartbeats 4000000
namespace Go.Eng
open Go.Proofs
theorem ran30 (n : Int) : allB 3 (fun r => match r.1 with | .bool b => b | _ => false) (top (.int .u64 30) (kcall kE3 ktab 10000 2999) 10000 [.int .i64 n] St.start fun v s => .ret (v, s)) = true := by kernel_rfl
end Go.Eng
end
section
set_option linter.unusedVariables false
set_option linter.unusedSimpArgs false
set_option maxRecDepth 20000
set_option maxHeartbeats 4000000
namespace Go.Eng
open Go.Proofs
theorem ran38 (n : Int) : allB 3 (fun r => match r.1 with | .bool b => b | _ => false) (top (.int .u64 38) (kcall kE3 ktab 10000 2999) 10000 [.int .i64 n] St.start fun v s => .ret (v, s)) = true := by kernel_rfl
end Go.Eng
end
