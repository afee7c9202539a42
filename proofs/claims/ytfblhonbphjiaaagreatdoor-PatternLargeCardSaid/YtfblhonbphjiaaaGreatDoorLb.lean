/- The law at some remainders, by the kernel. -/
import Derived.KernelRfl
import Derived.Test.YtfblhonbphjiaaaGreatDoorSb
section
set_option linter.unusedVariables false
set_option linter.unusedSimpArgs false
set_option maxRecDepth 20000
set_option maxHeartbeats 4000000
namespace Go.Eng
open Go.Proofs
theorem ran1 (n : Int) : allB 3 (fun r => match r.1 with | .bool b => b | _ => false) (top (.int .u64 1) (kcall kE3 ktab 10000 2999) 10000 [.int .i64 n] St.start fun v s => .ret (v, s)) = true := by kernel_rfl
end Go.Eng
end
section
set_option linter.unusedVariables false
set_option linter.unusedSimpArgs false
set_option maxRecDepth 20000
set_option maxHeartbeats 4000000
namespace Go.Eng
open Go.Proofs
theorem ran9 (n : Int) : allB 3 (fun r => match r.1 with | .bool b => b | _ => false) (top (.int .u64 9) (kcall kE3 ktab 10000 2999) 10000 [.int .i64 n] St.start fun v s => .ret (v, s)) = true := by kernel_rfl
end Go.Eng
end
section
set_option linter.unusedVariables false
set_option linter.unusedSimpArgs false
set_option maxRecDepth 20000
set_option maxHeartbeats 4000000
namespace Go.Eng
open Go.Proofs
theorem ran17 (n : Int) : allB 3 (fun r => match r.1 with | .bool b => b | _ => false) (top (.int .u64 17) (kcall kE3 ktab 10000 2999) 10000 [.int .i64 n] St.start fun v s => .ret (v, s)) = true := by kernel_rfl
end Go.Eng
end
section
set_option linter.unusedVariables false
set_option linter.unusedSimpArgs false
set_option maxRecDepth 20000
set_option maxHeartbeats 4000000
namespace Go.Eng
open Go.Proofs
theorem ran25 (n : Int) : allB 3 (fun r => match r.1 with | .bool b => b | _ => false) (top (.int .u64 25) (kcall kE3 ktab 10000 2999) 10000 [.int .i64 n] St.start fun v s => .ret (v, s)) = true := by kernel_rfl
end Go.Eng
end
section
set_option linter.unusedVariables false
set_option linter.unusedSimpArgs false
set_option maxRecDepth 20000
set_option maxHeartbeats 4000000
namespace Go.Eng
open Go.Proofs
theorem ran33 (n : Int) : allB 3 (fun r => match r.1 with | .bool b => b | _ => false) (top (.int .u64 33) (kcall kE3 ktab 10000 2999) 10000 [.int .i64 n] St.start fun v s => .ret (v, s)) = true := by kernel_rfl
end Go.Eng
end
