/- The law at some remainders, by the kernel. -/
import Derived.KernelRfl
import Derived.Test.YtfblhonbphjiaaaGreatDoorSb
section
set_option linter.unusedVariables false
set_option linter.unusedSimpArgs false
set_option maxRecDepth 20000
set_option maxHeartbeats 4000000
namespace Go.Eng
open Go.Proofs
theorem ran7 (n : Int) : allB 3 (fun r => match r.1 with | .bool b => b | _ => false) (top (.int .u64 7) (kcall kE3 ktab 10000 2999) 10000 [.int .i64 n] St.start fun v s => .ret (v, s)) = true := by kernel_rfl
end Go.Eng
end
section
set_option linter.unusedVariables false
set_option linter.unusedSimpArgs false
set_option maxRecDepth 20000
set_option maxHeartbeats 4000000
namespace Go.Eng
open Go.Proofs
theorem ran15 (n : Int) : allB 3 (fun r => match r.1 with | .bool b => b | _ => false) (top (.int .u64 15) (kcall kE3 ktab 10000 2999) 10000 [.int .i64 n] St.start fun v s => .ret (v, s)) = true := by kernel_rfl
end Go.Eng
end
section
set_option linter.unusedVariables false
set_option linter.unusedSimpArgs false
set_option maxRecDepth 20000
set_option maxHeartbeats 4000000
namespace Go.Eng
open Go.Proofs
theorem ran23 (n : Int) : allB 3 (fun r => match r.1 with | .bool b => b | _ => false) (top (.int .u64 23) (kcall kE3 ktab 10000 2999) 10000 [.int .i64 n] St.start fun v s => .ret (v, s)) = true := by kernel_rfl
end Go.Eng
end
section
set_option linter.unusedVariables false
set_option linter.unusedSimpArgs false
set_option maxRecDepth 20000
set_option maxHeartbeats 4000000
namespace Go.Eng
open Go.Proofs
theorem ran31 (n : Int) : allB 3 (fun r => match r.1 with | .bool b => b | _ => false) (top (.int .u64 31) (kcall kE3 ktab 10000 2999) 10000 [.int .i64 n] St.start fun v s => .ret (v, s)) = true := by kernel_rfl
end Go.Eng
end
section
set_option linter.unusedVariables false
set_option linter.unusedSimpArgs false
set_option maxRecDepth 20000
set_option maxHeartbeats 4000000
namespace Go.Eng
open Go.Proofs
theorem ran39 (n : Int) : allB 3 (fun r => match r.1 with | .bool b => b | _ => false) (top (.int .u64 39) (kcall kE3 ktab 10000 2999) 10000 [.int .i64 n] St.start fun v s => .ret (v, s)) = true := by kernel_rfl
end Go.Eng
end
