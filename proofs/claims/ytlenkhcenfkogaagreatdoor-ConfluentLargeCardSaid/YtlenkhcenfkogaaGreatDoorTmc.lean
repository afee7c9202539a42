/- Contracts of the term functions of the program and of its reference. -/
import Derived.Test.YtlenkhcenfkogaaGreatDoorTma
set_option linter.unusedSimpArgs false
set_option linter.unusedVariables false
set_option maxRecDepth 20000
set_option maxHeartbeats 8000000
namespace Go.Eng
theorem full_run {E : Env} {F : List (V × V × Nat) → Tm → Option Tm} (h1 : E.fns u12 = some a11) (o1 : E.over u24 = some (ovR resF)) (o2 : E.over u12 = some (ovR F)) (es : List (V × V × Nat)) (hp : pureEs es = true) (ck : Nat) (t r : Tm) (hd : t.depth ≤ 40) (hr : fullS F es t = some r) :
    (callB E (eval E 20) u12 [t.V, .map .h] (St.one es ck)).Is fun x => ∃ B, frz x.2.heap 3 x.1 = some (r.V, B) ∧ .h ∉ B ∧ x.2.heap.get .h = some (.map es ck) := by
  have ht := tmOf_self 40 t hd
  unfold fullS at hr
  split at hr
  · rename_i s n i hk
    cases hr
    rw [t.any_V] at ht ⊢
    simp (maxSteps := 10000000) (implicitDefEqProofs := false) only [callB, eval_skip, eval_region, eval_draw, eval_seq, eval_cond, eval_block, eval_loop, eval_exit, eval_ret, opers_nil, opers_cons, andThen_normal, andThen_ret, andThen_exit, initT, ↓T.ret_bind, ↓T.fail_bind, T.ofO_some, T.ofO_none, ↓cnd_true, ↓cnd_false, oper, exec, arg, Tr.get, Tr.set, Tr.root, Tr.left, Tr.right, put, okV, okS, new, Nm.succ, load, loadCells, nth, window, dropExact, takeExact, pack, store, splice, bin, lookupIn, findKey, keyOk, List.length_cons, List.length_nil, Nat.beq, Option.getD_some, Option.getD_none, Bool.and_true, Bool.true_and, Nat.reduceAdd, List.all_cons, List.all_nil, beq_self_eq_true, BEq.rfl, Nat.reduceBEq, decide_true, decide_false, Int.reduceEq, ite_true, if_true, Nat.reduceMul, Nat.zero_add, Nat.add_zero, eqK, Bool.false_eq_true, ite_false, findKeyIn_str, Option.map_some, Option.map_none, Option.isSome_some, Option.isSome_none, un, Bool.not_true, Bool.not_false, results, resultV, leave, endBlock, if_false, Nat.reduceEqDiff, ↓reduceIte, scalar_int, scalar_str, scalar_bool, scalar_nils, scalar_nilp, scalar_row, scalar_ptr, scalar_map, scalar_dsl, notTup_agg, notTup_int, notTup_str, cells_agg, cells_int, cells_str, cells_bool, cells_nils, cells_row, cells_dsl, cells_ptr, cells_map, T.Is_ret, List.map_cons, List.map_nil, execCall, callF, Int.reduceLT, cast_0, cast_1, cast_2, blt_02, blt_12, ble_1, ble_2, natOf_0, natOf_1, wrap_01, wrap_11, lenL, grow, append, fillElems, rep, List.cons_append, List.nil_append, Int.lt_irrefl, and_self, not_false_eq_true, not_true_eq_false, elems, drun_nil, drun_light, drun_heavy, lightV, wanted, recheck, holds, eqbV_str, eqbV_map, eqbV_ptr, eqbV_int, lenM, mapUpdate, snoc, h1, o1, a11, St.one, t.kids_scalar, ovR, hp, ht, hk, Tm.leaf_V]
    exact ⟨[], rfl, by simp, trivial⟩
  · rename_i s n i c x y hk
    split at hr
    · rename_i hdd
      split at hr
      · rename_i x' hx'
        split at hr
        · rename_i y' hy'
          cases hr
          have hx := tmOf_self 40 x hdd.1
          have hy := tmOf_self 40 y hdd.2
          rw [x.any_V] at hx
          rw [y.any_V] at hy
          rw [t.any_V] at ht ⊢
          simp (maxSteps := 10000000) (implicitDefEqProofs := false) only [callB, eval_skip, eval_region, eval_draw, eval_seq, eval_cond, eval_block, eval_loop, eval_exit, eval_ret, opers_nil, opers_cons, andThen_normal, andThen_ret, andThen_exit, initT, ↓T.ret_bind, ↓T.fail_bind, T.ofO_some, T.ofO_none, ↓cnd_true, ↓cnd_false, oper, exec, arg, Tr.get, Tr.set, Tr.root, Tr.left, Tr.right, put, okV, okS, new, Nm.succ, load, loadCells, nth, window, dropExact, takeExact, pack, store, splice, bin, lookupIn, findKey, keyOk, List.length_cons, List.length_nil, Nat.beq, Option.getD_some, Option.getD_none, Bool.and_true, Bool.true_and, Nat.reduceAdd, List.all_cons, List.all_nil, beq_self_eq_true, BEq.rfl, Nat.reduceBEq, decide_true, decide_false, Int.reduceEq, ite_true, if_true, Nat.reduceMul, Nat.zero_add, Nat.add_zero, eqK, Bool.false_eq_true, ite_false, findKeyIn_str, Option.map_some, Option.map_none, Option.isSome_some, Option.isSome_none, un, Bool.not_true, Bool.not_false, results, resultV, leave, endBlock, if_false, Nat.reduceEqDiff, ↓reduceIte, scalar_int, scalar_str, scalar_bool, scalar_nils, scalar_nilp, scalar_row, scalar_ptr, scalar_map, scalar_dsl, notTup_agg, notTup_int, notTup_str, cells_agg, cells_int, cells_str, cells_bool, cells_nils, cells_row, cells_dsl, cells_ptr, cells_map, T.Is_ret, List.map_cons, List.map_nil, execCall, callF, Int.reduceLT, cast_0, cast_1, cast_2, blt_02, blt_12, ble_1, ble_2, natOf_0, natOf_1, wrap_01, wrap_11, lenL, grow, append, fillElems, rep, List.cons_append, List.nil_append, Int.lt_irrefl, and_self, not_false_eq_true, not_true_eq_false, elems, drun_nil, drun_light, drun_heavy, lightV, wanted, recheck, holds, eqbV_str, eqbV_map, eqbV_ptr, eqbV_int, lenM, mapUpdate, snoc, h1, o1, o2, a11, St.one, t.kids_scalar, ovR, hp, ht, hk, Tm.node_V, hx, hy, hx', hy', Tm.V_cells, Tm.V_notTup, Tm.kids_scalar]
          refine ⟨[.o (.o (.o .h))], ?_, by decide, trivial⟩
          simp only [frz, frzCells, frzRow, pk, window, dropExact, takeExact, Tr.get, Tr.root, Tr.left, Tr.right, ↓frz_kids, List.append_nil, List.nil_append, Tm.any_V]
        · cases hr
      · cases hr
    · cases hr
  · cases hr
end Go.Eng
