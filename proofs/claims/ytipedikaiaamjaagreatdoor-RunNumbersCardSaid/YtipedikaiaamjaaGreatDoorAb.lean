/- The walk through errors.As. -/
import Derived.Test.YtipedikaiaamjaaGreatDoorAa
set_option linter.unusedVariables false
namespace Go.Proofs.AsRun
open Go.RowKit Go.Extern.Stop Go.Stop Go.Extern
theorem cell_lt {w : World} {a : Addr} {v : Value} (h : w.cell? a = some v) : a.block < w.heap.size := by
  rcases Nat.lt_or_ge a.block w.heap.size with h' | h'
  · exact h'
  · simp [World.cell?, Array.getElem?_eq_none h'] at h
theorem cell_alloc {w : World} {a : Addr} {v : Value} (o : Obj) (h : w.cell? a = some v) : (w.alloc o).cell? a = some v := by
  rw [World.cell?_alloc_lt _ _ a (cell_lt h)]; exact h
set_option maxRecDepth 100000 in
set_option maxHeartbeats 4000000 in
theorem as79 (sb so : Nat) (ta va : Addr) (n : Int) (w W' : World) (hs : w.cell? ⟨sb, so + 1, none⟩ = some (.iface 137 (.int .i64 n))) (hv : w.cell? va = some (.pointer (some ta)))
    (hst : (storeVar 137 ta (.int .i64 n)).run Tryz.prog ((w.alloc (.cells #[.pointer (some ⟨13, 139, none⟩), .pointer (some va), .int .u64 150] 184)).alloc (.cells #[.int .i64 n] 137)) = .ok () W') :
    Calls Tryz.prog 84 #[.iface 175 (.pointer (some ⟨sb, so, none⟩)), .iface 139 (.pointer (some ta)), .agg #[.pointer (some ⟨13, 139, none⟩), .pointer (some va), .int .u64 150], .iface 237 (.agg #[.pointer (some ⟨13, 137, none⟩)])] w fun ev w' => ev = .returned (.bool true) ∧ w' = W' := by
  have hs1 := cell_alloc (.cells #[.pointer (some ⟨13, 139, none⟩), .pointer (some va), .int .u64 150] 184) hs
  have hv1 := cell_alloc (.cells #[.pointer (some ⟨13, 139, none⟩), .pointer (some va), .int .u64 150] 184) hv
  have hv2 := cell_alloc (.cells #[.int .i64 n] 137) hv1
  have e1 := elemV131 va ta _ hv1
  have e2 := elemV131 va ta _ hv2
  have st := set129 ta ⟨w.heap.size + 1, 0, none⟩ n _ W' (by rw [World.cell?_alloc_at _ _ _ _ (by simp)]; rfl) hst
  have h105 := @run_callFunc_extern Tryz.prog 112 _ ReflectliteType.typeOf Tryz.func112 (by kernel_rfl) (by kernel_rfl) (by kernel_rfl) (by kernel_rfl)
  have h436 := @run_callFunc_extern Tryz.prog 437 _ (ReflectliteType.relation "AssignableTo" ReflectliteType.assignableTo) Tryz.func437 (by kernel_rfl) (by kernel_rfl) (by kernel_rfl) (by kernel_rfl)
  have h106 := @run_callFunc_extern Tryz.prog 113 _ (ReflectliteValue.method (ReflectliteValue.valueError "reflectlite.Value.Elem" 0) ReflectliteValue.elem) Tryz.func113 (by kernel_rfl) (by kernel_rfl) (by kernel_rfl) (by kernel_rfl)
  have h107 := @run_callFunc_extern Tryz.prog 114 _ ReflectliteValue.set Tryz.func114 (by kernel_rfl) (by kernel_rfl) (by kernel_rfl) (by kernel_rfl)
  have h76 := @run_callFunc_extern Tryz.prog 81 _ (fun args => ReflectliteValue.unpack (args.getD 0 (.tuple #[]))) Tryz.func81 (by kernel_rfl) (by kernel_rfl) (by kernel_rfl) (by kernel_rfl)
  have tO := typeOf165
  have tO' := typeOf129
  have a1 := assignable165
  have a2 := assignable129
  have v1 := valueOf129
  have mA : ∀ (h : Value) (w : World), (Go.method 652 237 (.agg #[h]) "AssignableTo").run Tryz.prog w = .ok (437, .agg #[h]) w := fun h w => by kernel_rfl
  have nA : ∀ (v : Value) (w : World), (Instr.typeAssert (.iface 175 v) 135 242 true).run Tryz.prog w = .ok (.tuple #[.nilIface, .bool false]) w := fun v w => run_typeAssert_lacksB Tryz.underlying242 (by kernel_rfl) (by kernel_rfl) v 135 w
  have nU : ∀ (v : Value) (w : World), (Instr.typeAssert (.iface 175 v) 135 245 true).run Tryz.prog w = .ok (.tuple #[.iface 175 v, .bool true]) w := fun v w => run_typeAssert_hasB Tryz.underlying245 (by kernel_rfl) v 135 w
  have mU : ∀ (h : Value) (w : World), (Go.method 652 175 h "Unwrap").run Tryz.prog w = .ok (432, h) w := fun h w => by kernel_rfl
  go_enter Tryz.func84, Tryz.ntmps84
  go_wp2
  refine wp_loop_rounds 2 ?_
  rw [rounds_succ]
  go_wp2
  rw [rounds_succ]
  go_wp2
  go_ret
  exact ⟨rfl, rfl⟩
set_option maxRecDepth 100000 in
set_option maxHeartbeats 4000000 in
theorem as38 (sb so : Nat) (ta : Addr) (n : Int) (w W' : World) (hg : w.cell? ⟨1, 0, none⟩ = some (.iface 237 (.agg #[.pointer (some ⟨13, 135, none⟩)]))) (hs : w.cell? ⟨sb, so + 1, none⟩ = some (.iface 137 (.int .i64 n)))
    (hst : ∀ W, W = (((w.alloc (.cells #[.pointer (some ta)] 139)).alloc (.cells #[.pointer (some ⟨13, 139, none⟩), .pointer (some ⟨w.heap.size, 0, none⟩), .int .u64 150] 184)).alloc (.cells #[.pointer (some ⟨13, 139, none⟩), .pointer (some ⟨w.heap.size, 0, none⟩), .int .u64 150] 184)).alloc (.cells #[.int .i64 n] 137) → (storeVar 137 ta (.int .i64 n)).run Tryz.prog W = .ok () W') :
    Calls Tryz.prog 42 #[.iface 175 (.pointer (some ⟨sb, so, none⟩)), .iface 139 (.pointer (some ta))] w fun ev w' => ev = .returned (.bool true) ∧ w' = W' := by
  have h76 := @run_callFunc_extern Tryz.prog 81 _ (fun args => ReflectliteValue.unpack (args.getD 0 (.tuple #[]))) Tryz.func81 (by kernel_rfl) (by kernel_rfl) (by kernel_rfl) (by kernel_rfl)
  have h77 := @run_callFunc_extern Tryz.prog 82 _ (ReflectliteValue.methodAny (ReflectliteValue.valueError "reflectlite.Value.Type" 0) (fun t _ _ _ => ReflectliteType.toType t)) Tryz.func82 (by kernel_rfl) (by kernel_rfl) (by kernel_rfl) (by kernel_rfl)
  have h78 := @run_callFunc_extern Tryz.prog 83 _ (ReflectliteValue.method (ReflectliteValue.valueError "reflectlite.Value.IsNil" 0) ReflectliteValue.isNil) Tryz.func83 (by kernel_rfl) (by kernel_rfl) (by kernel_rfl) (by kernel_rfl)
  have h426 := @run_callFunc_extern Tryz.prog 427 _ (ReflectliteType.abiMethod fun t => do pure (.int .u8 (← Rtype.kind t))) Tryz.func427 (by kernel_rfl) (by kernel_rfl) (by kernel_rfl) (by kernel_rfl)
  have h438 := @run_callFunc_extern Tryz.prog 439 _ (ReflectliteType.method ReflectliteType.elem) Tryz.func439 (by kernel_rfl) (by kernel_rfl) (by kernel_rfl) (by kernel_rfl)
  have h439 := @run_callFunc_extern Tryz.prog 440 _ (ReflectliteType.relation "Implements" ReflectliteType.implements_) Tryz.func440 (by kernel_rfl) (by kernel_rfl) (by kernel_rfl) (by kernel_rfl)
  have mK : ∀ (h : Value) (w : World), (Go.method 652 237 (.agg #[h]) "Kind").run Tryz.prog w = .ok (427, h) w := fun h w => by kernel_rfl
  have mE : ∀ (h : Value) (w : World), (Go.method 652 237 (.agg #[h]) "Elem").run Tryz.prog w = .ok (439, .agg #[h]) w := fun h w => by kernel_rfl
  have mI : ∀ (h : Value) (w : World), (Go.method 652 237 (.agg #[h]) "Implements").run Tryz.prog w = .ok (440, .agg #[h]) w := fun h w => by kernel_rfl
  have f6 := valueOf131
  have f7 := type131
  have k1 := kind131
  have k2 := kind129
  have e1 := elem131
  have i1 := implements129
  have g1 := cell_alloc (.cells #[.pointer (some ta)] 139) hg
  have g2 := cell_alloc (.cells #[.pointer (some ⟨13, 139, none⟩), .pointer (some ⟨w.heap.size, 0, none⟩), .int .u64 150] 184) g1
  have s1 := cell_alloc (.cells #[.pointer (some ta)] 139) hs
  have s2 := cell_alloc (.cells #[.pointer (some ⟨13, 139, none⟩), .pointer (some ⟨w.heap.size, 0, none⟩), .int .u64 150] 184) s1
  have v1 : (w.alloc (.cells #[.pointer (some ta)] 139)).cell? ⟨w.heap.size, 0, none⟩ = some (.pointer (some ta)) := by rw [World.cell?_alloc_at _ _ _ _ rfl]; rfl
  have v2 := cell_alloc (.cells #[.pointer (some ⟨13, 139, none⟩), .pointer (some ⟨w.heap.size, 0, none⟩), .int .u64 150] 184) v1
  have n1 := isNil131 ⟨w.heap.size, 0, none⟩ ta _ v2
  have n0 := isNil131 ⟨w.heap.size, 0, none⟩ ta _ v1
  have c79 := as79 sb so ta ⟨w.heap.size, 0, none⟩ n _ W' s2 v2 (hst _ rfl)
  go_enter Tryz.func42, Tryz.ntmps42
  go_wp2_with (go_at_call 84; refine c79.mono ?_; rintro e w' ⟨rfl, rfl⟩)
  go_ret
  exact ⟨rfl, rfl⟩
end Go.Proofs.AsRun
