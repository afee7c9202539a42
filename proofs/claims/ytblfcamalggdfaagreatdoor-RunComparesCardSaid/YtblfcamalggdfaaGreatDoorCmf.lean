/- What the comparing functions do. -/
import Derived.Test.YtblfcamalggdfaaGreatDoorCme
set_option linter.unusedSimpArgs false
set_option linter.unusedVariables false
set_option maxRecDepth 20000
set_option maxHeartbeats 8000000
namespace Go.Eng
section
variable {E : Env}
def ovT (args : List V) (s : St) : T (V × St) := match args with
  | [] => .ret (.bool true, s)
  | _ => .fail
theorem cmp_sym (e1 t1 e2 t2 : Int) (r1 p1 r2 p2 : List Int) : cmpF e2 t2 e1 t1 r2 p2 r1 p1 = cmpF e1 t1 e2 t2 r1 p1 r2 p2 := by
  unfold cmpF
  rw [Bool.eq_iff_iff]
  simp only [Bool.and_eq_true, Bool.not_eq_true', decide_eq_false_iff_not, decide_eq_true_eq]
  constructor
  · rintro ⟨a, rfl, rfl, rfl, rfl⟩; exact ⟨a, rfl, rfl, rfl, rfl⟩
  · rintro ⟨a, rfl, rfl, rfl, rfl⟩; exact ⟨a, rfl, rfl, rfl, rfl⟩
theorem rc_cmp (e1 t1 e2 t2 : Int) (r1 p1 r2 p2 : List Int) : rcF e1 t1 e2 t2 r1 p1 r2 p2 = cmpF e1 t1 e2 t2 r1 p1 r2 p2 := by
  unfold rcF cmpF
  rw [Bool.eq_iff_iff]
  simp only [Bool.and_eq_true, Bool.not_eq_true', decide_eq_false_iff_not, decide_eq_true_eq]
  constructor
  · rintro ⟨a, b, c, d, e⟩; exact ⟨b, a, e, d, c⟩
  · rintro ⟨a, b, c, d, e⟩; exact ⟨b, a, e, d, c⟩
theorem cmp_self (e1 t1 : Int) (r1 p1 : List Int) : cmpF e1 t1 e1 t1 r1 p1 r1 p1 = !decide (e1 = 2) := by
  unfold cmpF; simp
theorem law_run (h : E.fns uLW = some aLW) (h1 : E.fns uOU = some aOU) (h2 : E.over uOU = none) (o1 : E.over uCP = some (ovOc cmpF)) (o2 : E.over uRC = some (ovOc rcF)) (o3 : E.over uAW = some ovT) {e1 t1 s1 e2 t2 s2 : Int} {a b a' b' : V} {r1 p1 r2 p2 : List Int} (ha : intsOf a = some r1) (hb : intsOf b = some p1) (ha' : intsOf a' = some r2) (hb' : intsOf b' = some p2) :
    (callB E (eval E 40) uLW [.agg [.int .i64 e1, a, .int .i64 t1, b, .int .i64 s1], .agg [.int .i64 e2, a', .int .i64 t2, b', .int .i64 s2]] St.start).Is fun r => r.1 = .bool true := by
  have sa := intsOf_scalar ha
  have sb := intsOf_scalar hb
  have sa' := intsOf_scalar ha'
  have sb' := intsOf_scalar hb'
  have qa := eqbV_ints ha
  have qb := eqbV_ints hb
  have qa' := eqbV_ints ha'
  have qb' := eqbV_ints hb'
  have m1 : ∀ e t s, ocOf (.agg [.int .i64 e, a, .int .i64 t, b, .int .i64 s]) = some (e, t, r1, p1) := fun e t s => ocOf_mk ha hb
  have m2 : ∀ e t s, ocOf (.agg [.int .i64 e, a', .int .i64 t, b', .int .i64 s]) = some (e, t, r2, p2) := fun e t s => ocOf_mk ha' hb'
  have k1 := cmp_sym e1 t1 e2 t2 r1 p1 r2 p2
  have k2 := rc_cmp e1 t1 e2 t2 r1 p1 r2 p2
  have k3 := cmp_self e1 t1 r1 p1
  by_cases c1 : e1 = 2
  · rw [decide_eq_true c1] at k3
    have c1' := decide_eq_true c1
    cases hX : cmpF e1 t1 e2 t2 r1 p1 r2 p2 <;> rw [hX] at k1 k2 <;>
      simp (maxSteps := 10000000) (implicitDefEqProofs := false) only [callB, eval_skip, eval_region, eval_draw, eval_seq, eval_cond, eval_block, eval_loop, eval_exit, eval_ret, opers_nil, opers_cons, andThen_normal, andThen_ret, andThen_exit, initT, ↓T.ret_bind, ↓T.fail_bind, T.ofO_some, T.ofO_none, ↓cnd_true, ↓cnd_false, oper, exec, arg, Tr.get, Tr.set, root_node, left_node, right_node, root_leaf, left_leaf, right_leaf, put, okV, okS, new, Nm.succ, load, loadCells, nth, window, dropExact, takeExact, pack, store, splice, bin, lookupIn, findKey, keyOk, List.length_cons, List.length_nil, Nat.beq, Option.getD_some, Option.getD_none, Bool.and_true, Bool.true_and, Nat.reduceAdd, List.all_cons, List.all_nil, beq_self_eq_true, BEq.rfl, Nat.reduceBEq, decide_true, decide_false, Int.reduceEq, ite_true, if_true, Nat.reduceMul, Nat.zero_add, Nat.add_zero, eqK, Bool.false_eq_true, ite_false, findKeyIn_str, Option.map_some, Option.map_none, Option.isSome_some, Option.isSome_none, un, Bool.not_true, Bool.not_false, results, resultV, leave, endBlock, if_false, Nat.reduceEqDiff, ↓reduceIte, scalar_int, scalar_str, scalar_bool, scalar_nils, scalar_nilp, scalar_row, scalar_ptr, scalar_map, scalar_dsl, notTup_agg, notTup_int, notTup_str, cells_agg, cells_int, cells_str, cells_bool, cells_nils, cells_row, cells_dsl, cells_ptr, cells_map, T.Is_ret, List.map_cons, List.map_nil, execCall, callF, Int.reduceLT, cast_0, cast_1, cast_2, blt_02, blt_12, ble_1, ble_2, natOf_0, natOf_1, wrap_01, wrap_11, grow, append, fillElems, rep, List.cons_append, List.nil_append, Int.lt_irrefl, and_self, not_false_eq_true, not_true_eq_false, elems, drun_nil, drun_light, drun_heavy, lightV, wanted, recheck, holds, eqbV_str, eqbV_map, eqbV_ptr, eqbV_int, lenM, mapUpdate, snoc, opers_guard, drun_guard, drun_guardH, beq_ft, beq_tf, eqV_bool, Bool.xor_false, Bool.false_xor, Bool.xor_true, Bool.true_xor, h, h1, h2, o1, o2, o3, aLW, aOU, St.start, ovOc, ovT, m1, m2, k1, k2, k3, hX, c1', sa, sb, sa', sb', intsOf_notTup ha, intsOf_notTup hb, intsOf_notTup ha', intsOf_notTup hb', qa, qb, qa', qb', eqbV_agg, eqbVs_nil, eqbVs_cons, eqbV_int', eqbV_bool', intsOf_cells ha, intsOf_cells hb, intsOf_cells ha', intsOf_cells hb', eq_self, fillParts, putPart]
  · rw [decide_eq_false c1] at k3
    have c1' := decide_eq_false c1
    cases hX : cmpF e1 t1 e2 t2 r1 p1 r2 p2 <;> rw [hX] at k1 k2 <;>
      simp (maxSteps := 10000000) (implicitDefEqProofs := false) only [callB, eval_skip, eval_region, eval_draw, eval_seq, eval_cond, eval_block, eval_loop, eval_exit, eval_ret, opers_nil, opers_cons, andThen_normal, andThen_ret, andThen_exit, initT, ↓T.ret_bind, ↓T.fail_bind, T.ofO_some, T.ofO_none, ↓cnd_true, ↓cnd_false, oper, exec, arg, Tr.get, Tr.set, root_node, left_node, right_node, root_leaf, left_leaf, right_leaf, put, okV, okS, new, Nm.succ, load, loadCells, nth, window, dropExact, takeExact, pack, store, splice, bin, lookupIn, findKey, keyOk, List.length_cons, List.length_nil, Nat.beq, Option.getD_some, Option.getD_none, Bool.and_true, Bool.true_and, Nat.reduceAdd, List.all_cons, List.all_nil, beq_self_eq_true, BEq.rfl, Nat.reduceBEq, decide_true, decide_false, Int.reduceEq, ite_true, if_true, Nat.reduceMul, Nat.zero_add, Nat.add_zero, eqK, Bool.false_eq_true, ite_false, findKeyIn_str, Option.map_some, Option.map_none, Option.isSome_some, Option.isSome_none, un, Bool.not_true, Bool.not_false, results, resultV, leave, endBlock, if_false, Nat.reduceEqDiff, ↓reduceIte, scalar_int, scalar_str, scalar_bool, scalar_nils, scalar_nilp, scalar_row, scalar_ptr, scalar_map, scalar_dsl, notTup_agg, notTup_int, notTup_str, cells_agg, cells_int, cells_str, cells_bool, cells_nils, cells_row, cells_dsl, cells_ptr, cells_map, T.Is_ret, List.map_cons, List.map_nil, execCall, callF, Int.reduceLT, cast_0, cast_1, cast_2, blt_02, blt_12, ble_1, ble_2, natOf_0, natOf_1, wrap_01, wrap_11, grow, append, fillElems, rep, List.cons_append, List.nil_append, Int.lt_irrefl, and_self, not_false_eq_true, not_true_eq_false, elems, drun_nil, drun_light, drun_heavy, lightV, wanted, recheck, holds, eqbV_str, eqbV_map, eqbV_ptr, eqbV_int, lenM, mapUpdate, snoc, opers_guard, drun_guard, drun_guardH, beq_ft, beq_tf, eqV_bool, Bool.xor_false, Bool.false_xor, Bool.xor_true, Bool.true_xor, h, h1, h2, o1, o2, o3, aLW, aOU, St.start, ovOc, ovT, m1, m2, k1, k2, k3, hX, c1', sa, sb, sa', sb', intsOf_notTup ha, intsOf_notTup hb, intsOf_notTup ha', intsOf_notTup hb', qa, qb, qa', qb', eqbV_agg, eqbVs_nil, eqbVs_cons, eqbV_int', eqbV_bool', intsOf_cells ha, intsOf_cells hb, intsOf_cells ha', intsOf_cells hb', eq_self, fillParts, putPart]
end
end Go.Eng
