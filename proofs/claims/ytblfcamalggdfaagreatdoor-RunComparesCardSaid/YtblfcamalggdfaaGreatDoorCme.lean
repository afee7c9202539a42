/- What the comparing functions do. -/
import Derived.Test.YtblfcamalggdfaaGreatDoorCmd
set_option linter.unusedSimpArgs false
set_option linter.unusedVariables false
set_option maxRecDepth 20000
set_option maxHeartbeats 8000000
namespace Go.Eng
section
variable {E : Env}
def rcF (e1 t1 e2 t2 : Int) (r1 p1 r2 p2 : List Int) : Bool := decide (e1 = e2) && (!decide (e1 = 2) && (decide (p1 = p2) && (decide (t1 = t2) && decide (r1 = r2))))
theorem rc_run (h : E.fns uRC = some aRC) (o : E.over uSA = some ovEqI) {e1 t1 s1 e2 t2 s2 : Int} {a b a' b' : V} {r1 p1 r2 p2 : List Int} (ha : intsOf a = some r1) (hb : intsOf b = some p1) (ha' : intsOf a' = some r2) (hb' : intsOf b' = some p2) :
    (callB E (eval E 20) uRC [.agg [.int .i64 e1, a, .int .i64 t1, b, .int .i64 s1], .agg [.int .i64 e2, a', .int .i64 t2, b', .int .i64 s2]] St.start).Is fun r => r.1 = .bool (rcF e1 t1 e2 t2 r1 p1 r2 p2) := by
  have sa := intsOf_scalar ha
  have sb := intsOf_scalar hb
  have sa' := intsOf_scalar ha'
  have sb' := intsOf_scalar hb'
  unfold rcF
  by_cases c2 : e1 = e2
  · by_cases c1 : e1 = 2
    · have c1' : e2 = 2 := by rw [← c2]; exact c1
      simp (maxSteps := 10000000) (implicitDefEqProofs := false) only [callB, eval_skip, eval_region, eval_draw, eval_seq, eval_cond, eval_block, eval_loop, eval_exit, eval_ret, opers_nil, opers_cons, andThen_normal, andThen_ret, andThen_exit, initT, ↓T.ret_bind, ↓T.fail_bind, T.ofO_some, T.ofO_none, ↓cnd_true, ↓cnd_false, oper, exec, arg, Tr.get, Tr.set, root_node, left_node, right_node, root_leaf, left_leaf, right_leaf, put, okV, okS, new, Nm.succ, load, loadCells, nth, window, dropExact, takeExact, pack, store, splice, bin, lookupIn, findKey, keyOk, List.length_cons, List.length_nil, Nat.beq, Option.getD_some, Option.getD_none, Bool.and_true, Bool.true_and, Nat.reduceAdd, List.all_cons, List.all_nil, beq_self_eq_true, BEq.rfl, Nat.reduceBEq, decide_true, decide_false, Int.reduceEq, ite_true, if_true, Nat.reduceMul, Nat.zero_add, Nat.add_zero, eqK, Bool.false_eq_true, ite_false, findKeyIn_str, Option.map_some, Option.map_none, Option.isSome_some, Option.isSome_none, un, Bool.not_true, Bool.not_false, results, resultV, leave, endBlock, if_false, Nat.reduceEqDiff, ↓reduceIte, scalar_int, scalar_str, scalar_bool, scalar_nils, scalar_nilp, scalar_row, scalar_ptr, scalar_map, scalar_dsl, notTup_agg, notTup_int, notTup_str, cells_agg, cells_int, cells_str, cells_bool, cells_nils, cells_row, cells_dsl, cells_ptr, cells_map, T.Is_ret, List.map_cons, List.map_nil, execCall, callF, Int.reduceLT, cast_0, cast_1, cast_2, blt_02, blt_12, ble_1, ble_2, natOf_0, natOf_1, wrap_01, wrap_11, grow, append, fillElems, rep, List.cons_append, List.nil_append, Int.lt_irrefl, and_self, not_false_eq_true, not_true_eq_false, elems, drun_nil, drun_light, drun_heavy, lightV, wanted, recheck, holds, eqbV_str, eqbV_map, eqbV_ptr, eqbV_int, lenM, mapUpdate, snoc, opers_guard, drun_guard, drun_guardH, beq_ft, beq_tf, eqV_bool, Bool.xor_false, Bool.false_xor, Bool.xor_true, Bool.true_xor, h, o, aRC, St.start, c1, c1', ovEqI, ha, hb, ha', hb', sa, sb, sa', sb', intsOf_cells ha, intsOf_cells hb, intsOf_cells ha', intsOf_cells hb', eq_self, Bool.false_and, Bool.and_false]
    · by_cases c3 : p1 = p2
      · by_cases c4 : t1 = t2
        · simp (maxSteps := 10000000) (implicitDefEqProofs := false) only [callB, eval_skip, eval_region, eval_draw, eval_seq, eval_cond, eval_block, eval_loop, eval_exit, eval_ret, opers_nil, opers_cons, andThen_normal, andThen_ret, andThen_exit, initT, ↓T.ret_bind, ↓T.fail_bind, T.ofO_some, T.ofO_none, ↓cnd_true, ↓cnd_false, oper, exec, arg, Tr.get, Tr.set, root_node, left_node, right_node, root_leaf, left_leaf, right_leaf, put, okV, okS, new, Nm.succ, load, loadCells, nth, window, dropExact, takeExact, pack, store, splice, bin, lookupIn, findKey, keyOk, List.length_cons, List.length_nil, Nat.beq, Option.getD_some, Option.getD_none, Bool.and_true, Bool.true_and, Nat.reduceAdd, List.all_cons, List.all_nil, beq_self_eq_true, BEq.rfl, Nat.reduceBEq, decide_true, decide_false, Int.reduceEq, ite_true, if_true, Nat.reduceMul, Nat.zero_add, Nat.add_zero, eqK, Bool.false_eq_true, ite_false, findKeyIn_str, Option.map_some, Option.map_none, Option.isSome_some, Option.isSome_none, un, Bool.not_true, Bool.not_false, results, resultV, leave, endBlock, if_false, Nat.reduceEqDiff, ↓reduceIte, scalar_int, scalar_str, scalar_bool, scalar_nils, scalar_nilp, scalar_row, scalar_ptr, scalar_map, scalar_dsl, notTup_agg, notTup_int, notTup_str, cells_agg, cells_int, cells_str, cells_bool, cells_nils, cells_row, cells_dsl, cells_ptr, cells_map, T.Is_ret, List.map_cons, List.map_nil, execCall, callF, Int.reduceLT, cast_0, cast_1, cast_2, blt_02, blt_12, ble_1, ble_2, natOf_0, natOf_1, wrap_01, wrap_11, grow, append, fillElems, rep, List.cons_append, List.nil_append, Int.lt_irrefl, and_self, not_false_eq_true, not_true_eq_false, elems, drun_nil, drun_light, drun_heavy, lightV, wanted, recheck, holds, eqbV_str, eqbV_map, eqbV_ptr, eqbV_int, lenM, mapUpdate, snoc, opers_guard, drun_guard, drun_guardH, beq_ft, beq_tf, eqV_bool, Bool.xor_false, Bool.false_xor, Bool.xor_true, Bool.true_xor, h, o, aRC, St.start, decide_eq_false c1, decide_eq_true c2, decide_eq_true c3, decide_eq_true c4, ovEqI, ha, hb, ha', hb', sa, sb, sa', sb', intsOf_cells ha, intsOf_cells hb, intsOf_cells ha', intsOf_cells hb', eq_self, Bool.false_and, Bool.and_false]
        · simp (maxSteps := 10000000) (implicitDefEqProofs := false) only [callB, eval_skip, eval_region, eval_draw, eval_seq, eval_cond, eval_block, eval_loop, eval_exit, eval_ret, opers_nil, opers_cons, andThen_normal, andThen_ret, andThen_exit, initT, ↓T.ret_bind, ↓T.fail_bind, T.ofO_some, T.ofO_none, ↓cnd_true, ↓cnd_false, oper, exec, arg, Tr.get, Tr.set, root_node, left_node, right_node, root_leaf, left_leaf, right_leaf, put, okV, okS, new, Nm.succ, load, loadCells, nth, window, dropExact, takeExact, pack, store, splice, bin, lookupIn, findKey, keyOk, List.length_cons, List.length_nil, Nat.beq, Option.getD_some, Option.getD_none, Bool.and_true, Bool.true_and, Nat.reduceAdd, List.all_cons, List.all_nil, beq_self_eq_true, BEq.rfl, Nat.reduceBEq, decide_true, decide_false, Int.reduceEq, ite_true, if_true, Nat.reduceMul, Nat.zero_add, Nat.add_zero, eqK, Bool.false_eq_true, ite_false, findKeyIn_str, Option.map_some, Option.map_none, Option.isSome_some, Option.isSome_none, un, Bool.not_true, Bool.not_false, results, resultV, leave, endBlock, if_false, Nat.reduceEqDiff, ↓reduceIte, scalar_int, scalar_str, scalar_bool, scalar_nils, scalar_nilp, scalar_row, scalar_ptr, scalar_map, scalar_dsl, notTup_agg, notTup_int, notTup_str, cells_agg, cells_int, cells_str, cells_bool, cells_nils, cells_row, cells_dsl, cells_ptr, cells_map, T.Is_ret, List.map_cons, List.map_nil, execCall, callF, Int.reduceLT, cast_0, cast_1, cast_2, blt_02, blt_12, ble_1, ble_2, natOf_0, natOf_1, wrap_01, wrap_11, grow, append, fillElems, rep, List.cons_append, List.nil_append, Int.lt_irrefl, and_self, not_false_eq_true, not_true_eq_false, elems, drun_nil, drun_light, drun_heavy, lightV, wanted, recheck, holds, eqbV_str, eqbV_map, eqbV_ptr, eqbV_int, lenM, mapUpdate, snoc, opers_guard, drun_guard, drun_guardH, beq_ft, beq_tf, eqV_bool, Bool.xor_false, Bool.false_xor, Bool.xor_true, Bool.true_xor, h, o, aRC, St.start, decide_eq_false c1, decide_eq_true c2, decide_eq_true c3, decide_eq_false c4, ovEqI, ha, hb, ha', hb', sa, sb, sa', sb', intsOf_cells ha, intsOf_cells hb, intsOf_cells ha', intsOf_cells hb', eq_self, Bool.false_and, Bool.and_false]
      · simp (maxSteps := 10000000) (implicitDefEqProofs := false) only [callB, eval_skip, eval_region, eval_draw, eval_seq, eval_cond, eval_block, eval_loop, eval_exit, eval_ret, opers_nil, opers_cons, andThen_normal, andThen_ret, andThen_exit, initT, ↓T.ret_bind, ↓T.fail_bind, T.ofO_some, T.ofO_none, ↓cnd_true, ↓cnd_false, oper, exec, arg, Tr.get, Tr.set, root_node, left_node, right_node, root_leaf, left_leaf, right_leaf, put, okV, okS, new, Nm.succ, load, loadCells, nth, window, dropExact, takeExact, pack, store, splice, bin, lookupIn, findKey, keyOk, List.length_cons, List.length_nil, Nat.beq, Option.getD_some, Option.getD_none, Bool.and_true, Bool.true_and, Nat.reduceAdd, List.all_cons, List.all_nil, beq_self_eq_true, BEq.rfl, Nat.reduceBEq, decide_true, decide_false, Int.reduceEq, ite_true, if_true, Nat.reduceMul, Nat.zero_add, Nat.add_zero, eqK, Bool.false_eq_true, ite_false, findKeyIn_str, Option.map_some, Option.map_none, Option.isSome_some, Option.isSome_none, un, Bool.not_true, Bool.not_false, results, resultV, leave, endBlock, if_false, Nat.reduceEqDiff, ↓reduceIte, scalar_int, scalar_str, scalar_bool, scalar_nils, scalar_nilp, scalar_row, scalar_ptr, scalar_map, scalar_dsl, notTup_agg, notTup_int, notTup_str, cells_agg, cells_int, cells_str, cells_bool, cells_nils, cells_row, cells_dsl, cells_ptr, cells_map, T.Is_ret, List.map_cons, List.map_nil, execCall, callF, Int.reduceLT, cast_0, cast_1, cast_2, blt_02, blt_12, ble_1, ble_2, natOf_0, natOf_1, wrap_01, wrap_11, grow, append, fillElems, rep, List.cons_append, List.nil_append, Int.lt_irrefl, and_self, not_false_eq_true, not_true_eq_false, elems, drun_nil, drun_light, drun_heavy, lightV, wanted, recheck, holds, eqbV_str, eqbV_map, eqbV_ptr, eqbV_int, lenM, mapUpdate, snoc, opers_guard, drun_guard, drun_guardH, beq_ft, beq_tf, eqV_bool, Bool.xor_false, Bool.false_xor, Bool.xor_true, Bool.true_xor, h, o, aRC, St.start, decide_eq_false c1, decide_eq_true c2, decide_eq_false c3, ovEqI, ha, hb, ha', hb', sa, sb, sa', sb', intsOf_cells ha, intsOf_cells hb, intsOf_cells ha', intsOf_cells hb', eq_self, Bool.false_and, Bool.and_false]
  · simp (maxSteps := 10000000) (implicitDefEqProofs := false) only [callB, eval_skip, eval_region, eval_draw, eval_seq, eval_cond, eval_block, eval_loop, eval_exit, eval_ret, opers_nil, opers_cons, andThen_normal, andThen_ret, andThen_exit, initT, ↓T.ret_bind, ↓T.fail_bind, T.ofO_some, T.ofO_none, ↓cnd_true, ↓cnd_false, oper, exec, arg, Tr.get, Tr.set, root_node, left_node, right_node, root_leaf, left_leaf, right_leaf, put, okV, okS, new, Nm.succ, load, loadCells, nth, window, dropExact, takeExact, pack, store, splice, bin, lookupIn, findKey, keyOk, List.length_cons, List.length_nil, Nat.beq, Option.getD_some, Option.getD_none, Bool.and_true, Bool.true_and, Nat.reduceAdd, List.all_cons, List.all_nil, beq_self_eq_true, BEq.rfl, Nat.reduceBEq, decide_true, decide_false, Int.reduceEq, ite_true, if_true, Nat.reduceMul, Nat.zero_add, Nat.add_zero, eqK, Bool.false_eq_true, ite_false, findKeyIn_str, Option.map_some, Option.map_none, Option.isSome_some, Option.isSome_none, un, Bool.not_true, Bool.not_false, results, resultV, leave, endBlock, if_false, Nat.reduceEqDiff, ↓reduceIte, scalar_int, scalar_str, scalar_bool, scalar_nils, scalar_nilp, scalar_row, scalar_ptr, scalar_map, scalar_dsl, notTup_agg, notTup_int, notTup_str, cells_agg, cells_int, cells_str, cells_bool, cells_nils, cells_row, cells_dsl, cells_ptr, cells_map, T.Is_ret, List.map_cons, List.map_nil, execCall, callF, Int.reduceLT, cast_0, cast_1, cast_2, blt_02, blt_12, ble_1, ble_2, natOf_0, natOf_1, wrap_01, wrap_11, grow, append, fillElems, rep, List.cons_append, List.nil_append, Int.lt_irrefl, and_self, not_false_eq_true, not_true_eq_false, elems, drun_nil, drun_light, drun_heavy, lightV, wanted, recheck, holds, eqbV_str, eqbV_map, eqbV_ptr, eqbV_int, lenM, mapUpdate, snoc, opers_guard, drun_guard, drun_guardH, beq_ft, beq_tf, eqV_bool, Bool.xor_false, Bool.false_xor, Bool.xor_true, Bool.true_xor, h, o, aRC, St.start, decide_eq_false c2, ovEqI, ha, hb, ha', hb', sa, sb, sa', sb', intsOf_cells ha, intsOf_cells hb, intsOf_cells ha', intsOf_cells hb', eq_self, Bool.false_and, Bool.and_false]
def ocV (e t s : Int) (a b : V) : V := .agg [.int .i64 e, a, .int .i64 t, b, .int .i64 s]
def ocOf : V → Option (Int × Int × List Int × List Int)
  | .agg [.int .i64 e, a, .int .i64 t, b, .int .i64 _] => match intsOf a with
    | some r => match intsOf b with
      | some p => some (e, t, r, p)
      | none => none
    | none => none
  | _ => none
theorem ocOf_spec {v : V} {e t : Int} {r p : List Int} (h : ocOf v = some (e, t, r, p)) : ∃ s a b, v = ocV e t s a b ∧ intsOf a = some r ∧ intsOf b = some p := by
  unfold ocOf at h
  split at h
  · split at h
    · rename_i hr
      split at h
      · rename_i hp
        cases h
        exact ⟨_, _, _, rfl, hr, hp⟩
      · cases h
    · cases h
  · cases h
theorem ocOf_mk {e t s : Int} {a b : V} {r p : List Int} (ha : intsOf a = some r) (hb : intsOf b = some p) : ocOf (.agg [.int .i64 e, a, .int .i64 t, b, .int .i64 s]) = some (e, t, r, p) := by simp only [ocOf, ha, hb]
def ovOc (F : Int → Int → Int → Int → List Int → List Int → List Int → List Int → Bool) (args : List V) (s : St) : T (V × St) := match args with
  | [x, y] => match ocOf x, ocOf y with
    | some (e1, t1, r1, p1), some (e2, t2, r2, p2) => .ret (.bool (F e1 t1 e2 t2 r1 p1 r2 p2), s)
    | _, _ => .fail
  | _ => .fail
theorem pure_oc {e t s : Int} {a b : V} {r p : List Int} (ha : intsOf a = some r) (hb : intsOf b = some p) : pureV (ocV e t s a b) = true := by
  simp [ocV, pureV, pureVs, intsOf_pure ha, intsOf_pure hb]
theorem ovEqI_ok {C : Ctx} (hE : EnvOk C E) {g : Nat} (hrun : ∀ (a b : V) (xs ys : List Int), intsOf a = some xs → intsOf b = some ys → (callB E (eval E (xs.length + 30)) (nm g) [a, b] St.start).Is (RetP (decide (xs = ys)))) : OverOk C E.branch g ovEqI := by
  intro ρ s w args cargs R hI hG hA h
  unfold ovEqI at h
  split at h
  · split at h
    · rename_i xs ys hx hy
      refine over_datas hE hI hG hA (by simp [pureVs, intsOf_pure hx, intsOf_pure hy]) (T.Is_all (hrun _ _ _ _ hx hy)) ?_
      rintro r s1 ⟨q1, q2⟩
      cases q1
      exact ⟨rfl, h⟩
    · exact h.elim
  · exact h.elim
theorem ovOc_ok {C : Ctx} (hE : EnvOk C E) {g : Nat} {F : Int → Int → Int → Int → List Int → List Int → List Int → List Int → Bool} (hrun : ∀ (e1 t1 s1 e2 t2 s2 : Int) (a b a' b' : V) (r1 p1 r2 p2 : List Int), intsOf a = some r1 → intsOf b = some p1 → intsOf a' = some r2 → intsOf b' = some p2 →
    (callB E (eval E 20) (nm g) [ocV e1 t1 s1 a b, ocV e2 t2 s2 a' b'] St.start).Is fun r => r.1 = .bool (F e1 t1 e2 t2 r1 p1 r2 p2)) : OverOk C E.branch g (ovOc F) := by
  intro ρ s w args cargs R hI hG hA h
  unfold ovOc at h
  split at h
  · split at h
    · rename_i e1 t1 r1 p1 e2 t2 r2 p2 hx hy
      obtain ⟨s1, a, b, rfl, ha, hb⟩ := ocOf_spec hx
      obtain ⟨s2, a', b', rfl, ha', hb'⟩ := ocOf_spec hy
      refine over_datas hE hI hG hA (by simp [pureVs, pure_oc ha hb, pure_oc ha' hb']) (T.Is_all (hrun _ _ _ _ _ _ _ _ _ _ _ _ _ _ ha hb ha' hb')) ?_
      rintro r s1 q1
      cases q1
      exact ⟨rfl, h⟩
    · exact h.elim
  · exact h.elim
end
end Go.Eng
