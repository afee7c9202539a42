/- Contracts of the term functions of the program and of its reference. -/
import Derived.Test.YtlenkhcenfkogaaGreatDoorTma
set_option linter.unusedSimpArgs false
set_option linter.unusedVariables false
set_option maxRecDepth 20000
set_option maxHeartbeats 8000000
namespace Go.Eng
def ovD (args : List V) (s : St) : T (V × St) := match args with
  | [.int .i64 i] => if i = 0 then .ret (.str [48], s) else .fail
  | _ => .fail
theorem dig_0 {E : Env} (h1 : E.fns u13 = some a12) (h2 : E.fns u27 = some a26) (o2 : E.over u27 = none) : (callB E (eval E 20) u13 [.int .i64 0] St.start).Is fun x => x.1 = .str [48] := by
  simp (maxSteps := 10000000) (implicitDefEqProofs := false) only [callB, eval_skip, eval_region, eval_draw, eval_seq, eval_cond, eval_block, eval_loop, eval_exit, eval_ret, opers_nil, opers_cons, andThen_normal, andThen_ret, andThen_exit, initT, ↓T.ret_bind, ↓T.fail_bind, T.ofO_some, T.ofO_none, ↓cnd_true, ↓cnd_false, oper, exec, arg, Tr.get, Tr.set, Tr.root, Tr.left, Tr.right, put, okV, okS, new, Nm.succ, load, loadCells, nth, window, dropExact, takeExact, pack, store, splice, bin, lookupIn, findKey, keyOk, List.length_cons, List.length_nil, Nat.beq, Option.getD_some, Option.getD_none, Bool.and_true, Bool.true_and, Nat.reduceAdd, List.all_cons, List.all_nil, beq_self_eq_true, BEq.rfl, Nat.reduceBEq, decide_true, decide_false, Int.reduceEq, ite_true, if_true, Nat.reduceMul, Nat.zero_add, Nat.add_zero, eqK, Bool.false_eq_true, ite_false, findKeyIn_str, Option.map_some, Option.map_none, Option.isSome_some, Option.isSome_none, un, Bool.not_true, Bool.not_false, results, resultV, leave, endBlock, if_false, Nat.reduceEqDiff, ↓reduceIte, scalar_int, scalar_str, scalar_bool, scalar_nils, scalar_nilp, scalar_row, scalar_ptr, scalar_map, scalar_dsl, notTup_agg, notTup_int, notTup_str, cells_agg, cells_int, cells_str, cells_bool, cells_nils, cells_row, cells_dsl, cells_ptr, cells_map, T.Is_ret, List.map_cons, List.map_nil, execCall, callF, Int.reduceLT, cast_0, cast_1, cast_2, blt_02, blt_12, ble_1, ble_2, natOf_0, natOf_1, wrap_01, wrap_11, lenL, grow, append, fillElems, rep, List.cons_append, List.nil_append, Int.lt_irrefl, and_self, not_false_eq_true, not_true_eq_false, elems, drun_nil, drun_light, drun_heavy, lightV, wanted, recheck, holds, eqbV_str, eqbV_map, eqbV_ptr, eqbV_int, lenM, mapUpdate, snoc, h1, h2, o2, a12, a26, St.start, wrap_u0, wrap_u48, wrap_u48', wrap_r48, encode_48, Int.add_zero]
theorem ovD_ok {C : Ctx} {E : Env} (hE : EnvOk C E) (h1 : E.fns u13 = some a12) (h2 : E.fns u27 = some a26) (o2 : E.over u27 = none) (hu : nm 12 = u13) : OverOk C E.branch 12 ovD := by
  intro ρ s w args cargs R hI hG hA h
  unfold ovD at h
  split at h
  · split at h
    · rename_i i hi
      subst hi
      obtain ⟨x, e1, e2⟩ := (dig_0 h1 h2 o2).to
      refine over_data hE hI hG hA rfl (n := 20) (Q := fun y => y = x) (by rw [hu, e1]; rfl) ?_
      rintro r1 s2 hq
      subst hq
      simp only at e2
      subst e2
      exact ⟨rfl, h⟩
    · exact h.elim
  · exact h.elim
theorem wr_run {E : Env} {k : Nat} (h1 : E.fns u10 = some a9) (o1 : E.over u13 = some ovD) (o2 : E.over u10 = some (ovS (wrF k))) (t : Tm) (l : List Nat) (hd : t.depth ≤ 40) (hr : wrF (k + 1) t = some l) :
    (callB E (eval E 20) u10 [t.V] St.start).Is fun x => x.1 = .str l := by
  unfold wrF at hr
  split at hr
  · rename_i hc
    obtain ⟨ha, hb, hk⟩ := hc
    cases hr
    cases t with
    | leaf s n i =>
      simp only [okW, Bool.or_eq_true, Bool.and_eq_true, decide_eq_true_eq] at ha
      by_cases hs : s = 63
      · simp only [wr, hs, if_true, List.length_cons] at hb ⊢
        have hb1 : Nat.ble (1 + n.length) 1000000000 = true := by rw [Nat.ble_eq]; omega
        simp (maxSteps := 10000000) (implicitDefEqProofs := false) only [callB, eval_skip, eval_region, eval_draw, eval_seq, eval_cond, eval_block, eval_loop, eval_exit, eval_ret, opers_nil, opers_cons, andThen_normal, andThen_ret, andThen_exit, initT, ↓T.ret_bind, ↓T.fail_bind, T.ofO_some, T.ofO_none, ↓cnd_true, ↓cnd_false, oper, exec, arg, Tr.get, Tr.set, Tr.root, Tr.left, Tr.right, put, okV, okS, new, Nm.succ, load, loadCells, nth, window, dropExact, takeExact, pack, store, splice, bin, lookupIn, findKey, keyOk, List.length_cons, List.length_nil, Nat.beq, Option.getD_some, Option.getD_none, Bool.and_true, Bool.true_and, Nat.reduceAdd, List.all_cons, List.all_nil, beq_self_eq_true, BEq.rfl, Nat.reduceBEq, decide_true, decide_false, Int.reduceEq, ite_true, if_true, Nat.reduceMul, Nat.zero_add, Nat.add_zero, eqK, Bool.false_eq_true, ite_false, findKeyIn_str, Option.map_some, Option.map_none, Option.isSome_some, Option.isSome_none, un, Bool.not_true, Bool.not_false, results, resultV, leave, endBlock, if_false, Nat.reduceEqDiff, ↓reduceIte, scalar_int, scalar_str, scalar_bool, scalar_nils, scalar_nilp, scalar_row, scalar_ptr, scalar_map, scalar_dsl, notTup_agg, notTup_int, notTup_str, cells_agg, cells_int, cells_str, cells_bool, cells_nils, cells_row, cells_dsl, cells_ptr, cells_map, T.Is_ret, List.map_cons, List.map_nil, execCall, callF, Int.reduceLT, cast_0, cast_1, cast_2, blt_02, blt_12, ble_1, ble_2, natOf_0, natOf_1, wrap_01, wrap_11, lenL, grow, append, fillElems, rep, List.cons_append, List.nil_append, Int.lt_irrefl, and_self, not_false_eq_true, not_true_eq_false, elems, drun_nil, drun_light, drun_heavy, lightV, wanted, recheck, holds, eqbV_str, eqbV_map, eqbV_ptr, eqbV_int, lenM, mapUpdate, snoc, h1, a9, St.start, Tm.leaf_V, hs, hb1]
      · rcases ha with ha | ⟨ha, hi⟩
        · exact absurd ha hs
        · subst ha hi
          simp (maxSteps := 10000000) (implicitDefEqProofs := false) only [callB, eval_skip, eval_region, eval_draw, eval_seq, eval_cond, eval_block, eval_loop, eval_exit, eval_ret, opers_nil, opers_cons, andThen_normal, andThen_ret, andThen_exit, initT, ↓T.ret_bind, ↓T.fail_bind, T.ofO_some, T.ofO_none, ↓cnd_true, ↓cnd_false, oper, exec, arg, Tr.get, Tr.set, Tr.root, Tr.left, Tr.right, put, okV, okS, new, Nm.succ, load, loadCells, nth, window, dropExact, takeExact, pack, store, splice, bin, lookupIn, findKey, keyOk, List.length_cons, List.length_nil, Nat.beq, Option.getD_some, Option.getD_none, Bool.and_true, Bool.true_and, Nat.reduceAdd, List.all_cons, List.all_nil, beq_self_eq_true, BEq.rfl, Nat.reduceBEq, decide_true, decide_false, Int.reduceEq, ite_true, if_true, Nat.reduceMul, Nat.zero_add, Nat.add_zero, eqK, Bool.false_eq_true, ite_false, findKeyIn_str, Option.map_some, Option.map_none, Option.isSome_some, Option.isSome_none, un, Bool.not_true, Bool.not_false, results, resultV, leave, endBlock, if_false, Nat.reduceEqDiff, ↓reduceIte, scalar_int, scalar_str, scalar_bool, scalar_nils, scalar_nilp, scalar_row, scalar_ptr, scalar_map, scalar_dsl, notTup_agg, notTup_int, notTup_str, cells_agg, cells_int, cells_str, cells_bool, cells_nils, cells_row, cells_dsl, cells_ptr, cells_map, T.Is_ret, List.map_cons, List.map_nil, execCall, callF, Int.reduceLT, cast_0, cast_1, cast_2, blt_02, blt_12, ble_1, ble_2, natOf_0, natOf_1, wrap_01, wrap_11, lenL, grow, append, fillElems, rep, List.cons_append, List.nil_append, Int.lt_irrefl, and_self, not_false_eq_true, not_true_eq_false, elems, drun_nil, drun_light, drun_heavy, lightV, wanted, recheck, holds, eqbV_str, eqbV_map, eqbV_ptr, eqbV_int, lenM, mapUpdate, snoc, h1, o1, a9, St.start, Tm.leaf_V, ovD, wr, ble_2]
    | node s n i c x y =>
      simp only [okW, Bool.and_eq_true, Bool.not_eq_true', decide_eq_false_iff_not] at ha
      obtain ⟨⟨⟨hs, hs2⟩, hx⟩, hy⟩ := ha
      simp only [wr, List.length_append, List.length_cons, List.length_nil] at hb
      simp only [Tm.depth] at hd hk
      have tx := tmOf_self 40 x (by omega)
      have ty := tmOf_self 40 y (by omega)
      rw [x.any_V] at tx
      rw [y.any_V] at ty
      have fx : wrF k x = some (wr x) := if_pos ⟨hx, by omega, by omega⟩
      have fy : wrF k y = some (wr y) := if_pos ⟨hy, by omega, by omega⟩
      have b0 : Nat.ble (1 + n.length) 1000000000 = true := by rw [Nat.ble_eq]; omega
      have b1 : Nat.ble (n.length + 1 + 1) 1000000000 = true := by rw [Nat.ble_eq]; omega
      have b2 : Nat.ble (n.length + 1 + 1 + (wr x).length) 1000000000 = true := by rw [Nat.ble_eq]; omega
      have b3 : Nat.ble (n.length + 1 + (wr x).length + 1 + 1) 1000000000 = true := by rw [Nat.ble_eq]; omega
      have b4 : Nat.ble (n.length + 1 + (wr x).length + 1 + 1 + (wr y).length) 1000000000 = true := by rw [Nat.ble_eq]; omega
      have b5 : Nat.ble (n.length + 1 + (wr x).length + 1 + (wr y).length + 1 + 1) 1000000000 = true := by rw [Nat.ble_eq]; omega
      simp (maxSteps := 10000000) (implicitDefEqProofs := false) only [callB, eval_skip, eval_region, eval_draw, eval_seq, eval_cond, eval_block, eval_loop, eval_exit, eval_ret, opers_nil, opers_cons, andThen_normal, andThen_ret, andThen_exit, initT, ↓T.ret_bind, ↓T.fail_bind, T.ofO_some, T.ofO_none, ↓cnd_true, ↓cnd_false, oper, exec, arg, Tr.get, Tr.set, Tr.root, Tr.left, Tr.right, put, okV, okS, new, Nm.succ, load, loadCells, nth, window, dropExact, takeExact, pack, store, splice, bin, lookupIn, findKey, keyOk, List.length_cons, List.length_nil, Nat.beq, Option.getD_some, Option.getD_none, Bool.and_true, Bool.true_and, Nat.reduceAdd, List.all_cons, List.all_nil, beq_self_eq_true, BEq.rfl, Nat.reduceBEq, decide_true, decide_false, Int.reduceEq, ite_true, if_true, Nat.reduceMul, Nat.zero_add, Nat.add_zero, eqK, Bool.false_eq_true, ite_false, findKeyIn_str, Option.map_some, Option.map_none, Option.isSome_some, Option.isSome_none, un, Bool.not_true, Bool.not_false, results, resultV, leave, endBlock, if_false, Nat.reduceEqDiff, ↓reduceIte, scalar_int, scalar_str, scalar_bool, scalar_nils, scalar_nilp, scalar_row, scalar_ptr, scalar_map, scalar_dsl, notTup_agg, notTup_int, notTup_str, cells_agg, cells_int, cells_str, cells_bool, cells_nils, cells_row, cells_dsl, cells_ptr, cells_map, T.Is_ret, List.map_cons, List.map_nil, execCall, callF, Int.reduceLT, cast_0, cast_1, cast_2, blt_02, blt_12, ble_1, ble_2, natOf_0, natOf_1, wrap_01, wrap_11, lenL, grow, append, fillElems, rep, List.cons_append, List.nil_append, Int.lt_irrefl, and_self, not_false_eq_true, not_true_eq_false, elems, drun_nil, drun_light, drun_heavy, lightV, wanted, recheck, holds, eqbV_str, eqbV_map, eqbV_ptr, eqbV_int, lenM, mapUpdate, snoc, h1, o2, a9, St.start, Tm.node_V, hs, hs2, ovS, tx, ty, fx, fy, Tm.V_cells, Tm.V_notTup, Tm.kids_scalar, b0, b1, b2, b3, b4, b5, List.length_append, wr]
  · cases hr
end Go.Eng
