/- Facts on the library where errors.As is called. -/
import Derived.Test.YtipedikaiaamjaaGreatDoorEngH
import Derived.Test.YtipedikaiaamjaaGreatDoorSb
import Derived.WalkKit
import Derived.LaidEql
import Derived.Stop.Asserts
import Derived.RowKitTokens
set_option linter.unusedVariables false
set_option linter.unusedSimpArgs false
namespace Go.Proofs.AsRun
open Go.RowKit Go.Extern.Stop Go.Stop Go.Extern
theorem valueOf131 (t : Addr) (w : World) : (ReflectliteValue.unpack (.iface 139 (.pointer (some t)))).run Tryz.prog w
    = .ok (.agg #[.pointer (some ⟨13, 139, none⟩), .pointer (some ⟨w.heap.size, 0, none⟩), .int .u64 150]) (w.alloc (.cells #[.pointer (some t)] 139)) := by kernel_rfl
theorem type131 (a : Addr) (w : World) : (ReflectliteValue.methodAny (ReflectliteValue.valueError "reflectlite.Value.Type" 0) (fun t _ _ _ => ReflectliteType.toType t) #[.agg #[.pointer (some ⟨13, 139, none⟩), .pointer (some a), .int .u64 150]]).run Tryz.prog w
    = .ok (.iface 237 (.agg #[.pointer (some ⟨13, 139, none⟩)])) w := by kernel_rfl
theorem kind131 (w : World) : ((ReflectliteType.abiMethod fun t => (fun a : Nat => Value.int IntKind.u8 (a : Int)) <$> Rtype.kind t) #[.pointer (some ⟨13, 139, none⟩)]).run Tryz.prog w = .ok (.int .u8 22) w := by kernel_rfl
theorem kind129 (w : World) : ((ReflectliteType.abiMethod fun t => (fun a : Nat => Value.int IntKind.u8 (a : Int)) <$> Rtype.kind t) #[.pointer (some ⟨13, 137, none⟩)]).run Tryz.prog w = .ok (.int .u8 6) w := by kernel_rfl
theorem rlm (z : Sem Value) (f : TypeId → Addr → Nat → Nat → Sem Value) (v : Value) :
    ReflectliteValue.method z f #[v] = (do match ← ReflectliteValue.parts v with | none => z | some (t, a, fl) => f t a fl (fl % 32)) := rfl
theorem parts131 (a : Addr) (w : World) : (ReflectliteValue.parts (.agg #[.pointer (some ⟨13, 139, none⟩), .pointer (some a), .int .u64 150])).run Tryz.prog w = .ok (some (139, a, 150)) w := by kernel_rfl
theorem isNil131 (a p : Addr) (W : World) (ha : W.cell? a = some (.pointer (some p))) :
    (ReflectliteValue.method (ReflectliteValue.valueError "reflectlite.Value.IsNil" 0) ReflectliteValue.isNil #[.agg #[.pointer (some ⟨13, 139, none⟩), .pointer (some a), .int .u64 150]]).run Tryz.prog W = .ok (.bool false) W := by
  rw [rlm]
  simp only [Sem.run_bind, parts131, Result.andThen]
  simp [ReflectliteValue.isNil, loadVar, isAgg, underlying, Tryz.underlying139, ha, Result.andThen]
theorem elem131 (w : World) : (ReflectliteType.method ReflectliteType.elem #[.agg #[.pointer (some ⟨13, 139, none⟩)]]).run Tryz.prog w = .ok (.iface 237 (.agg #[.pointer (some ⟨13, 137, none⟩)])) w := by kernel_rfl
theorem implements129 (w : World) : (ReflectliteType.relation "Implements" ReflectliteType.implements_ #[.agg #[.pointer (some ⟨13, 137, none⟩)], .iface 237 (.agg #[.pointer (some ⟨13, 135, none⟩)])]).run Tryz.prog w = .ok (.bool true) w := by kernel_rfl
theorem typeOf165 (v : Value) (w : World) : (ReflectliteType.typeOf #[.iface 175 v]).run Tryz.prog w = .ok (.iface 237 (.agg #[.pointer (some ⟨13, 175, none⟩)])) w := by kernel_rfl
theorem typeOf129 (v : Value) (w : World) : (ReflectliteType.typeOf #[.iface 137 v]).run Tryz.prog w = .ok (.iface 237 (.agg #[.pointer (some ⟨13, 137, none⟩)])) w := by kernel_rfl
theorem assignable165 (w : World) : (ReflectliteType.relation "AssignableTo" ReflectliteType.assignableTo #[.agg #[.pointer (some ⟨13, 175, none⟩)], .iface 237 (.agg #[.pointer (some ⟨13, 137, none⟩)])]).run Tryz.prog w = .ok (.bool false) w := by kernel_rfl
theorem assignable129 (w : World) : (ReflectliteType.relation "AssignableTo" ReflectliteType.assignableTo #[.agg #[.pointer (some ⟨13, 137, none⟩)], .iface 237 (.agg #[.pointer (some ⟨13, 137, none⟩)])]).run Tryz.prog w = .ok (.bool true) w := by kernel_rfl
theorem valueOf129 (n : Int) (w : World) : (ReflectliteValue.unpack (.iface 137 (.int .i64 n))).run Tryz.prog w
    = .ok (.agg #[.pointer (some ⟨13, 137, none⟩), .pointer (some ⟨w.heap.size, 0, none⟩), .int .u64 134]) (w.alloc (.cells #[.int .i64 n] 137)) := by kernel_rfl
theorem elemOf131 (w : World) : (Rtype.elem? 139).run Tryz.prog w = .ok (some 137) w := by kernel_rfl
theorem mk129 (p : Addr) (w : World) : (ReflectliteValue.mk 137 p ReflectliteValue.flagAddr).run Tryz.prog w = .ok (.agg #[.pointer (some ⟨13, 137, none⟩), .pointer (some p), .int .u64 390]) w := by kernel_rfl
theorem elemV131 (a p : Addr) (W : World) (ha : W.cell? a = some (.pointer (some p))) :
    (ReflectliteValue.method (ReflectliteValue.valueError "reflectlite.Value.Elem" 0) ReflectliteValue.elem #[.agg #[.pointer (some ⟨13, 139, none⟩), .pointer (some a), .int .u64 150]]).run Tryz.prog W
      = .ok (.agg #[.pointer (some ⟨13, 137, none⟩), .pointer (some p), .int .u64 390]) W := by
  rw [rlm]
  simp only [Sem.run_bind, parts131, Result.andThen]
  simp [ReflectliteValue.elem, loadVar, isAgg, underlying, Tryz.underlying139, ha, Result.andThen, elemOf131, mk129]
theorem rls (v x : Value) : ReflectliteValue.set #[v, x] = (do
    let (some (dst, a, fl), some (src, b, _)) := (← ReflectliteValue.parts v, ← ReflectliteValue.parts x)
      | unsupported (.noEntry "extern/(internal/reflectlite.Value).Set.zeroValue")
    if fl / ReflectliteValue.flagAddr % 2 == 0 then unsupported (.noEntry "extern/(internal/reflectlite.Value).Set.unaddressable")
    let val ← loadVar src b
    if ← Rtype.directlyAssignable dst src then storeVar dst a val
    else if ← Rtype.implements dst src then
      if (← Rtype.kind src) == 20 then
        match val with
        | .nilIface => unsupported (.noEntry "extern/reflectlite: a nil value of one interface type handed on as a value of another")
        | _ => storeVar dst a val
      else storeVar dst a (.iface src val)
    else panicString ("reflectlite.Set: value of type " ++ (← Rtype.spelt src) ++ " is not assignable to type " ++ (← Rtype.spelt dst))
    pure (.tuple #[])) := rfl
theorem parts129a (a : Addr) (w : World) : (ReflectliteValue.parts (.agg #[.pointer (some ⟨13, 137, none⟩), .pointer (some a), .int .u64 390])).run Tryz.prog w = .ok (some (137, a, 390)) w := by kernel_rfl
theorem parts129 (a : Addr) (w : World) : (ReflectliteValue.parts (.agg #[.pointer (some ⟨13, 137, none⟩), .pointer (some a), .int .u64 134])).run Tryz.prog w = .ok (some (137, a, 134)) w := by kernel_rfl
theorem direct129 (w : World) : (Rtype.directlyAssignable 137 137).run Tryz.prog w = .ok true w := by kernel_rfl
theorem set129 (ta b : Addr) (n : Int) (W W' : World) (hb : W.cell? b = some (.int .i64 n)) (hs : (storeVar 137 ta (.int .i64 n)).run Tryz.prog W = .ok () W') :
    (ReflectliteValue.set #[.agg #[.pointer (some ⟨13, 137, none⟩), .pointer (some ta), .int .u64 390], .agg #[.pointer (some ⟨13, 137, none⟩), .pointer (some b), .int .u64 134]]).run Tryz.prog W
      = .ok (.tuple #[]) W' := by
  rw [rls]
  simp only [Sem.run_bind, parts129a, parts129, Result.andThen]
  simp [ReflectliteValue.flagAddr, loadVar, isAgg, underlying, Tryz.underlying137, hb, Result.andThen, direct129, hs]
end Go.Proofs.AsRun
