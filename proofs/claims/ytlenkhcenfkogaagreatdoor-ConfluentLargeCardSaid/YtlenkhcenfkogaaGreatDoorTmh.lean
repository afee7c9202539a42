/- Contracts of the term functions of the program and of its reference. -/
import Derived.Test.YtlenkhcenfkogaaGreatDoorTmg
import Derived.Test.YtlenkhcenfkogaaGreatDoorEngJ
set_option linter.unusedSimpArgs false
set_option linter.unusedVariables false
set_option maxRecDepth 20000
set_option maxHeartbeats 8000000
namespace Go.Eng
abbrev x1 : Nm := .h
abbrev x2 : Nm := .o (.h)
abbrev x3 : Nm := .i (.h)
abbrev x4 : Nm := .o (.o (.h))
abbrev x5 : Nm := .i (.o (.h))
abbrev x6 : Nm := .o (.i (.h))
abbrev x7 : Nm := .i (.i (.h))
abbrev x8 : Nm := .o (.o (.o (.h)))
abbrev x9 : Nm := .i (.o (.o (.h)))
abbrev x10 : Nm := .o (.i (.o (.h)))
abbrev x11 : Nm := .i (.i (.o (.h)))
abbrev x12 : Nm := .o (.o (.i (.h)))
abbrev x13 : Nm := .i (.o (.i (.h)))
abbrev x14 : Nm := .o (.i (.i (.h)))
abbrev x15 : Nm := .i (.i (.i (.h)))
abbrev x16 : Nm := .o (.o (.o (.o (.h))))
abbrev x17 : Nm := .i (.o (.o (.o (.h))))
abbrev x18 : Nm := .o (.i (.o (.o (.h))))
abbrev x19 : Nm := .i (.i (.o (.o (.h))))
abbrev x20 : Nm := .o (.o (.i (.o (.h))))
abbrev x21 : Nm := .i (.o (.i (.o (.h))))
abbrev x22 : Nm := .o (.i (.i (.o (.h))))
abbrev x23 : Nm := .i (.i (.i (.o (.h))))
abbrev x24 : Nm := .o (.o (.o (.i (.h))))
abbrev x25 : Nm := .i (.o (.o (.i (.h))))
abbrev x26 : Nm := .o (.i (.o (.i (.h))))
abbrev x27 : Nm := .i (.i (.o (.i (.h))))
abbrev x28 : Nm := .o (.o (.i (.i (.h))))
abbrev x29 : Nm := .i (.o (.i (.i (.h))))
abbrev x30 : Nm := .o (.i (.i (.i (.h))))
abbrev x238 : Nm := .o (.i (.i (.i (.o (.i (.i (.h)))))))
abbrev x239 : Nm := .i (.i (.i (.i (.o (.i (.i (.h)))))))
abbrev x240 : Nm := .o (.o (.o (.o (.i (.i (.i (.h)))))))
abbrev x241 : Nm := .i (.o (.o (.o (.i (.i (.i (.h)))))))
abbrev x242 : Nm := .o (.i (.o (.o (.i (.i (.i (.h)))))))
abbrev x243 : Nm := .i (.i (.o (.o (.i (.i (.i (.h)))))))
abbrev x244 : Nm := .o (.o (.i (.o (.i (.i (.i (.h)))))))
def c237 : AFn := ⟨.seq (.region [⟨(some x3), .mv (.c (.str [])), none⟩]) (.seq (.region [⟨(some x4), .mv (.t x1), none⟩, ⟨(some x5), .bin .add (.c (.str [63])) (.t x4), none⟩, ⟨(some x3), .mv (.t x5), none⟩]) (.ret)), [.tmp x3]⟩
def c238 : AFn := ⟨.seq (.region [⟨(some x2), .box 2 100 (.t x1), none⟩, ⟨(some x3), .mv (.c (.str [])), none⟩]) (.seq (.region [⟨(some x4), .load 2 true (.t x2), none⟩, ⟨(some x5), .call (.fn x240) [(.t x4), (.c (.str [40])), (.c (.str [41]))], none⟩, ⟨(some x3), .mv (.t x5), none⟩]) (.ret)), [.tmp x3]⟩
def c239 : AFn := ⟨.seq (.region [⟨(some x4), .box 2 100 (.t x1), none⟩, ⟨(some x7), .mv (.c (.str [])), none⟩]) (.seq (.region [⟨(some x8), .alloc [.nilp, .nils] 334, none⟩]) (.seq (.region [⟨(some x11), .mv (.t x2), none⟩, ⟨(some x12), .fieldAddr 0 (.t x4), none⟩, ⟨(some x13), .load 1 false (.t x12), none⟩, ⟨(some x14), .bin .add (.t x11) (.t x13), none⟩, ⟨(some x15), .call (.fn x241) [(.t x8), (.t x14)], none⟩]) (.seq (.seq (.region [⟨(some x16), .fieldAddr 1 (.t x4), none⟩, ⟨(some x17), .load 1 false (.t x16), none⟩, ⟨(some x18), .lenL (.t x17), none⟩, ⟨(some x19), .mv (.c (.int .i64 0)), none⟩]) (.block 0 (.loop (.seq (.region [⟨(some x20), .bin .lss (.t x19) (.t x18), none⟩]) (.seq (.cond (.t x20) (.skip) (.exit 0)) (.seq (.block 1 (.seq (.region [⟨(some x21), .indexAddr 1 none (.t x17) (.t x19), none⟩, ⟨(some x22), .load 1 false (.t x21), none⟩, ⟨(some x10), .mv (.t x22), none⟩]) (.region [⟨(some x23), .mv (.t x10), none⟩, ⟨(some x24), .call (.invoke (.t x23) "String") [], none⟩, ⟨(some x25), .bin .add (.c (.str [32])) (.t x24), none⟩, ⟨(some x26), .call (.fn x241) [(.t x8), (.t x25)], none⟩]))) (.region [⟨(some x27), .bin .add (.t x19) (.c (.int .i64 1)), none⟩, ⟨(some x19), .mv (.t x27), none⟩]))))))) (.seq (.region [⟨(some x28), .call (.fn x242) [(.t x8)], none⟩, ⟨(some x29), .mv (.t x3), none⟩, ⟨(some x30), .bin .add (.t x28) (.t x29), none⟩, ⟨(some x7), .mv (.t x30), none⟩]) (.ret))))), [.tmp x7]⟩
def c240 : AFn := ⟨.seq (.region [⟨(some x5), .mv (.c (.int .i64 0)), none⟩, ⟨(some x6), .mv (.c .nili), none⟩]) (.seq (.region [⟨(some x7), .mv (.t x1), none⟩, ⟨(some x8), .call (.fn x243) [(.t x7)], none⟩]) (.seq (.region [⟨(some x9), .mv (.t x1), none⟩, ⟨(some x10), .mv (.t x1), none⟩, ⟨(some x11), .nilCheck (.t x10), none⟩, ⟨(some x12), .fieldAddr 1 (.t x11), none⟩, ⟨(some x13), .load 1 false (.t x12), none⟩, ⟨(some x14), .mv (.t x2), none⟩, ⟨(some x15), .append 1 5 (.t x13) (.t x14), none⟩, ⟨(some x16), .nilCheck (.t x9), none⟩, ⟨(some x17), .fieldAddr 1 (.t x16), none⟩, ⟨none, .store 1 (.t x17) (.t x15), none⟩]) (.seq (.region [⟨(some x18), .mv (.t x2), none⟩, ⟨(some x19), .lenS (.t x18), none⟩, ⟨(some x5), .mv (.t x19), none⟩, ⟨(some x6), .mv (.c .nili), none⟩]) (.ret)))), [.tmp x5, .tmp x6]⟩
def c241 : AFn := ⟨.seq (.region [⟨(some x3), .mv (.c (.str [])), none⟩]) (.seq (.draw [⟨⟨(some x4), .mv (.t x1), none⟩, .light, []⟩, ⟨⟨(some x5), .nilCheck (.t x4), none⟩, .light, []⟩, ⟨⟨(some x6), .fieldAddr 1 (.t x5), none⟩, .light, []⟩, ⟨⟨(some x7), .load 1 false (.t x6), none⟩, .light, []⟩, ⟨⟨(some x9), .mv (.t x1), none⟩, .light, []⟩, ⟨⟨(some x10), .nilCheck (.t x9), none⟩, .light, []⟩, ⟨⟨(some x11), .fieldAddr 1 (.t x10), none⟩, .light, []⟩, ⟨⟨(some x12), .load 1 false (.t x11), none⟩, .light, []⟩, ⟨⟨(some x13), .lenL (.t x12), none⟩, .light, []⟩, ⟨⟨(some x8), .uData (.t x7), none⟩, .heavy, [⟨(some x13), .lenL (.t x12), none⟩, ⟨(some x12), .load 1 false (.t x11), none⟩, ⟨(some x11), .fieldAddr 1 (.t x10), none⟩, ⟨(some x10), .nilCheck (.t x9), none⟩, ⟨(some x9), .mv (.t x1), none⟩]⟩, ⟨⟨(some x14), .uStr 5 (.t x8) (.t x13), none⟩, .heavy, []⟩, ⟨⟨(some x3), .mv (.t x14), none⟩, .light, []⟩]) (.ret)), [.tmp x3]⟩
def c242 : AFn := ⟨.seq (.region [⟨(some x3), .mv (.t x1), none⟩, ⟨(some x4), .nilCheck (.t x3), none⟩, ⟨(some x5), .fieldAddr 0 (.t x4), none⟩, ⟨(some x6), .load 1 false (.t x5), none⟩, ⟨(some x7), .isNil .ptr false (.t x6), none⟩]) (.cond (.t x7) (.region [⟨(some x8), .mv (.t x1), none⟩, ⟨(some x9), .mv (.t x1), none⟩, ⟨(some x10), .conv .toUnsafe (.t x9), none⟩, ⟨(some x11), .call (.fn x244) [(.t x10)], none⟩, ⟨(some x12), .conv (.fromUnsafe 334) (.t x11), none⟩, ⟨(some x13), .nilCheck (.t x8), none⟩, ⟨(some x14), .fieldAddr 0 (.t x13), none⟩, ⟨none, .store 1 (.t x14) (.t x12), none⟩]) (.seq (.region [⟨(some x15), .mv (.t x1), none⟩, ⟨(some x16), .nilCheck (.t x15), none⟩, ⟨(some x17), .fieldAddr 0 (.t x16), none⟩, ⟨(some x18), .load 1 false (.t x17), none⟩, ⟨(some x19), .mv (.t x1), none⟩, ⟨(some x20), .eq true .ptr (.t x18) (.t x19), none⟩]) (.cond (.t x20) (.bad "(*strings.Builder).copyCheck builder.go:41: unsupported: a written strings.Builder's value in another place: whether the library's copy check passes hangs on where the compiler lays the two") (.skip)))), []⟩
theorem natOf_cast (k : IntKind) (n : Nat) : natOf (.int k (n : Int)) = some n := rfl
theorem ovNo_one (a : V) (s : St) : ovNo [a] s = .ret (a, s) := rfl
theorem beq_334 : Nat.beq 334 334 = true := rfl
theorem xor_ft : xor false true = true := rfl
theorem xor_ff : xor false false = false := rfl
theorem xor_tt : xor true true = false := rfl
theorem xor_tf : xor true false = true := rfl
theorem blt_01 : Nat.blt 0 1 = true := rfl
theorem text_run {E : Env} (h1 : E.fns x239 = some c238) (h2 : E.fns x240 = some c239) (h3 : E.fns x241 = some c240) (h4 : E.fns x242 = some c241) (h5 : E.fns x243 = some c242) (o2 : E.over x240 = none) (o3 : E.over x241 = none) (o4 : E.over x242 = none) (o5 : E.over x243 = none) (o6 : E.over x244 = some ovNo)
    (op lx ly : List Nat) (c : Bool) (x y : PT) (hx : ∀ ev s, callM E ev (x.V pY) "String" [] s = .ret (.str lx, s)) (hy : ∀ ev s, callM E ev (y.V pY) "String" [] s = .ret (.str ly, s))
    (hn : op.length + lx.length + ly.length + 10 ≤ 1000000000) (hb : okB (40 :: (op ++ 32 :: lx ++ 32 :: ly)) = true) :
    (callB E (eval E 40) x239 [.agg [.str op, .dsl [x.V pY, y.V pY] c]] St.start).Is fun r => r.1 = .str (40 :: op ++ 32 :: lx ++ 32 :: ly ++ [41]) := by
  have b0 : Nat.ble (1 + op.length) 1000000000 = true := by rw [Nat.ble_eq]; omega
  have b1 : Nat.ble (1 + lx.length) 1000000000 = true := by rw [Nat.ble_eq]; omega
  have b2 : Nat.ble (1 + ly.length) 1000000000 = true := by rw [Nat.ble_eq]; omega
  have g1 : Nat.ble (op.length + 1) 1000000000 = true := by rw [Nat.ble_eq]; omega
  have g2 : Nat.ble (op.length + (lx.length + 1) + 1) 1000000000 = true := by rw [Nat.ble_eq]; omega
  have g3 : Nat.ble (op.length + (lx.length + 1) + (ly.length + 1) + 1) 1000000000 = true := by rw [Nat.ble_eq]; omega
  have a1 : ∀ H z d, append ⟨H, z, d⟩ 1 5 .nils (some (bs (40 :: op))) = grow ⟨H, z, d⟩ 1 5 (bs (40 :: op)) := fun _ _ _ => append_bs0
  have a2 : ∀ H z d b, Tr.get b H = some (.row (bs (40 :: op)) 1 5) → append ⟨H, z, d⟩ 1 5 (.row b 1 0 (op.length + 1) false) (some (bs (32 :: lx))) = grow ⟨H.set none b, z, d⟩ 1 5 (bs (40 :: (op ++ 32 :: lx))) := fun H z d b h => append_bs (s := ⟨H, z, d⟩) h
  have a3 : ∀ H z d b, Tr.get b H = some (.row (bs (40 :: (op ++ 32 :: lx))) 1 5) → append ⟨H, z, d⟩ 1 5 (.row b 1 0 (op.length + (lx.length + 1) + 1) false) (some (bs (32 :: ly))) = grow ⟨H.set none b, z, d⟩ 1 5 (bs (40 :: (op ++ 32 :: lx ++ 32 :: ly))) := fun H z d b h => by
    have := append_bs (s := ⟨H, z, d⟩) (l := ly) (c := 32) h
    rw [List.length_cons, List.length_append] at this
    exact this
  have g4 : Nat.ble (op.length + (lx.length + 1) + (ly.length + 1)) 1000000000 = true := by rw [Nat.ble_eq]; omega
  have w3 : takeExact (op.length + (lx.length + 1) + (ly.length + 1) + 1) (bs (40 :: (op ++ 32 :: lx ++ 32 :: ly))) = some (bs (40 :: (op ++ 32 :: lx ++ 32 :: ly))) := by
    have := takeExact_all (bs (40 :: (op ++ 32 :: lx ++ 32 :: ly)))
    rw [bs_length, List.length_cons, List.length_append, List.length_append] at this
    exact this
  have g5 : Nat.ble (op.length + (lx.length + 1) + (ly.length + 1) + 1 + 1) 1000000000 = true := by rw [Nat.ble_eq]; omega
  have y3 := bytesOf_bs _ hb
  simp (maxSteps := 10000000) (implicitDefEqProofs := false) only [callB, eval_skip, eval_region, eval_draw, eval_seq, eval_cond, eval_block, eval_loop, eval_exit, eval_ret, opers_nil, opers_cons, andThen_normal, andThen_ret, andThen_exit, initT, ↓T.ret_bind, ↓T.fail_bind, T.ofO_some, T.ofO_none, ↓cnd_true, ↓cnd_false, oper, exec, arg, Tr.get, Tr.set, Tr.root, Tr.left, Tr.right, put, okV, okS, new, Nm.succ, load, loadCells, nth, window, dropExact, takeExact, pack, store, splice, bin, lookupIn, findKey, keyOk, List.length_cons, List.length_nil, Nat.beq, Option.getD_some, Option.getD_none, Bool.and_true, Bool.true_and, Nat.reduceAdd, List.all_cons, List.all_nil, beq_self_eq_true, BEq.rfl, Nat.reduceBEq, decide_true, decide_false, Int.reduceEq, ite_true, if_true, Nat.reduceMul, Nat.zero_add, Nat.add_zero, eqK, Bool.false_eq_true, ite_false, findKeyIn_str, Option.map_some, Option.map_none, Option.isSome_some, Option.isSome_none, un, Bool.not_true, Bool.not_false, results, resultV, leave, endBlock, if_false, Nat.reduceEqDiff, ↓reduceIte, scalar_int, scalar_str, scalar_bool, scalar_nils, scalar_nilp, scalar_row, scalar_ptr, scalar_map, scalar_dsl, notTup_agg, notTup_int, notTup_str, cells_agg, cells_int, cells_str, cells_bool, cells_nils, cells_row, cells_dsl, cells_ptr, cells_map, T.Is_ret, List.map_cons, List.map_nil, execCall, callF, Int.reduceLT, cast_0, cast_1, cast_2, blt_02, blt_12, ble_1, ble_2, natOf_0, natOf_1, wrap_01, wrap_11, lenL, grow, fillElems, rep, List.cons_append, List.nil_append, Int.lt_irrefl, and_self, not_false_eq_true, not_true_eq_false, drun_nil, drun_light, drun_heavy, lightV, wanted, recheck, holds, eqbV_str, eqbV_map, eqbV_ptr, eqbV_int, lenM, mapUpdate, snoc, fillParts, List.map_cons, List.map_nil, eqbV_nils, eqbV_row, scalar_iface, notTup_iface, cells_iface, ↓nb_hh, ↓nb_nn, ↓nb_hn, ↓nb_nh, ↓nb_nm, ↓nb_hm, h1, h2, h3, h4, h5, o2, o3, o4, o5, o6, ovNo_one, c238, c239, c240, c241, c242, St.start, hx, hy, b0, b1, b2, g1, g2, g3, a1, a2, a3, PT.V_scalar, PT.V_notTup, PT.V_cells, elems_str, w3, y3, g4, g5, bs_length, List.length_append, nilV, beq_334, blt_01, xor_ft, xor_ff, xor_tt, xor_tf, eq_self, eqV, eqPtr, Nm.eqb, natOf_cast]
  rw [a2 _ _ _ _ rfl]
  simp (maxSteps := 10000000) (implicitDefEqProofs := false) only [callB, eval_skip, eval_region, eval_draw, eval_seq, eval_cond, eval_block, eval_loop, eval_exit, eval_ret, opers_nil, opers_cons, andThen_normal, andThen_ret, andThen_exit, initT, ↓T.ret_bind, ↓T.fail_bind, T.ofO_some, T.ofO_none, ↓cnd_true, ↓cnd_false, oper, exec, arg, Tr.get, Tr.set, Tr.root, Tr.left, Tr.right, put, okV, okS, new, Nm.succ, load, loadCells, nth, window, dropExact, takeExact, pack, store, splice, bin, lookupIn, findKey, keyOk, List.length_cons, List.length_nil, Nat.beq, Option.getD_some, Option.getD_none, Bool.and_true, Bool.true_and, Nat.reduceAdd, List.all_cons, List.all_nil, beq_self_eq_true, BEq.rfl, Nat.reduceBEq, decide_true, decide_false, Int.reduceEq, ite_true, if_true, Nat.reduceMul, Nat.zero_add, Nat.add_zero, eqK, Bool.false_eq_true, ite_false, findKeyIn_str, Option.map_some, Option.map_none, Option.isSome_some, Option.isSome_none, un, Bool.not_true, Bool.not_false, results, resultV, leave, endBlock, if_false, Nat.reduceEqDiff, ↓reduceIte, scalar_int, scalar_str, scalar_bool, scalar_nils, scalar_nilp, scalar_row, scalar_ptr, scalar_map, scalar_dsl, notTup_agg, notTup_int, notTup_str, cells_agg, cells_int, cells_str, cells_bool, cells_nils, cells_row, cells_dsl, cells_ptr, cells_map, T.Is_ret, List.map_cons, List.map_nil, execCall, callF, Int.reduceLT, cast_0, cast_1, cast_2, blt_02, blt_12, ble_1, ble_2, natOf_0, natOf_1, wrap_01, wrap_11, lenL, grow, fillElems, rep, List.cons_append, List.nil_append, Int.lt_irrefl, and_self, not_false_eq_true, not_true_eq_false, drun_nil, drun_light, drun_heavy, lightV, wanted, recheck, holds, eqbV_str, eqbV_map, eqbV_ptr, eqbV_int, lenM, mapUpdate, snoc, fillParts, List.map_cons, List.map_nil, eqbV_nils, eqbV_row, scalar_iface, notTup_iface, cells_iface, ↓nb_hh, ↓nb_nn, ↓nb_hn, ↓nb_nh, ↓nb_nm, ↓nb_hm, h1, h2, h3, h4, h5, o2, o3, o4, o5, o6, ovNo_one, c238, c239, c240, c241, c242, St.start, hx, hy, b0, b1, b2, g1, g2, g3, a1, a2, a3, PT.V_scalar, PT.V_notTup, PT.V_cells, elems_str, w3, y3, g4, g5, bs_length, List.length_append, nilV, beq_334, blt_01, xor_ft, xor_ff, xor_tt, xor_tf, eq_self, eqV, eqPtr, Nm.eqb, natOf_cast]
  rw [a3 _ _ _ _ rfl]
  simp (maxSteps := 10000000) (implicitDefEqProofs := false) only [callB, eval_skip, eval_region, eval_draw, eval_seq, eval_cond, eval_block, eval_loop, eval_exit, eval_ret, opers_nil, opers_cons, andThen_normal, andThen_ret, andThen_exit, initT, ↓T.ret_bind, ↓T.fail_bind, T.ofO_some, T.ofO_none, ↓cnd_true, ↓cnd_false, oper, exec, arg, Tr.get, Tr.set, Tr.root, Tr.left, Tr.right, put, okV, okS, new, Nm.succ, load, loadCells, nth, window, dropExact, takeExact, pack, store, splice, bin, lookupIn, findKey, keyOk, List.length_cons, List.length_nil, Nat.beq, Option.getD_some, Option.getD_none, Bool.and_true, Bool.true_and, Nat.reduceAdd, List.all_cons, List.all_nil, beq_self_eq_true, BEq.rfl, Nat.reduceBEq, decide_true, decide_false, Int.reduceEq, ite_true, if_true, Nat.reduceMul, Nat.zero_add, Nat.add_zero, eqK, Bool.false_eq_true, ite_false, findKeyIn_str, Option.map_some, Option.map_none, Option.isSome_some, Option.isSome_none, un, Bool.not_true, Bool.not_false, results, resultV, leave, endBlock, if_false, Nat.reduceEqDiff, ↓reduceIte, scalar_int, scalar_str, scalar_bool, scalar_nils, scalar_nilp, scalar_row, scalar_ptr, scalar_map, scalar_dsl, notTup_agg, notTup_int, notTup_str, cells_agg, cells_int, cells_str, cells_bool, cells_nils, cells_row, cells_dsl, cells_ptr, cells_map, T.Is_ret, List.map_cons, List.map_nil, execCall, callF, Int.reduceLT, cast_0, cast_1, cast_2, blt_02, blt_12, ble_1, ble_2, natOf_0, natOf_1, wrap_01, wrap_11, lenL, grow, fillElems, rep, List.cons_append, List.nil_append, Int.lt_irrefl, and_self, not_false_eq_true, not_true_eq_false, drun_nil, drun_light, drun_heavy, lightV, wanted, recheck, holds, eqbV_str, eqbV_map, eqbV_ptr, eqbV_int, lenM, mapUpdate, snoc, fillParts, List.map_cons, List.map_nil, eqbV_nils, eqbV_row, scalar_iface, notTup_iface, cells_iface, ↓nb_hh, ↓nb_nn, ↓nb_hn, ↓nb_nh, ↓nb_nm, ↓nb_hm, h1, h2, h3, h4, h5, o2, o3, o4, o5, o6, ovNo_one, c238, c239, c240, c241, c242, St.start, hx, hy, b0, b1, b2, g1, g2, g3, a1, a2, a3, PT.V_scalar, PT.V_notTup, PT.V_cells, elems_str, w3, y3, g4, g5, bs_length, List.length_append, nilV, beq_334, blt_01, xor_ft, xor_ff, xor_tt, xor_tf, eq_self, eqV, eqPtr, Nm.eqb, natOf_cast]
variable {C : Ctx}
def ovHS (args : List V) (s : St) : T (V × St) := match args with
  | [.str n] => if n.length + 1 ≤ 1000000000 then .ret (.str (63 :: n), s) else .fail
  | _ => .fail
theorem hs_run {E : Env} (h1 : E.fns x238 = some c237) (n : List Nat) (hn : n.length + 1 ≤ 1000000000) : (callB E (eval E 10) x238 [.str n] St.start).Is fun r => r.1 = .str (63 :: n) := by
  have b0 : Nat.ble (1 + n.length) 1000000000 = true := by rw [Nat.ble_eq]; omega
  have b1 : Nat.ble (n.length + 1) 1000000000 = true := by rw [Nat.ble_eq]; omega
  simp (maxSteps := 10000000) (implicitDefEqProofs := false) only [callB, eval_skip, eval_region, eval_draw, eval_seq, eval_cond, eval_block, eval_loop, eval_exit, eval_ret, opers_nil, opers_cons, andThen_normal, andThen_ret, andThen_exit, initT, ↓T.ret_bind, ↓T.fail_bind, T.ofO_some, T.ofO_none, ↓cnd_true, ↓cnd_false, oper, exec, arg, Tr.get, Tr.set, Tr.root, Tr.left, Tr.right, put, okV, okS, new, Nm.succ, load, loadCells, nth, window, dropExact, takeExact, pack, store, splice, bin, lookupIn, findKey, keyOk, List.length_cons, List.length_nil, Nat.beq, Option.getD_some, Option.getD_none, Bool.and_true, Bool.true_and, Nat.reduceAdd, List.all_cons, List.all_nil, beq_self_eq_true, BEq.rfl, Nat.reduceBEq, decide_true, decide_false, Int.reduceEq, ite_true, if_true, Nat.reduceMul, Nat.zero_add, Nat.add_zero, eqK, Bool.false_eq_true, ite_false, findKeyIn_str, Option.map_some, Option.map_none, Option.isSome_some, Option.isSome_none, un, Bool.not_true, Bool.not_false, results, resultV, leave, endBlock, if_false, Nat.reduceEqDiff, ↓reduceIte, scalar_int, scalar_str, scalar_bool, scalar_nils, scalar_nilp, scalar_row, scalar_ptr, scalar_map, scalar_dsl, notTup_agg, notTup_int, notTup_str, cells_agg, cells_int, cells_str, cells_bool, cells_nils, cells_row, cells_dsl, cells_ptr, cells_map, T.Is_ret, List.map_cons, List.map_nil, execCall, callF, Int.reduceLT, cast_0, cast_1, cast_2, blt_02, blt_12, ble_1, ble_2, natOf_0, natOf_1, wrap_01, wrap_11, lenL, grow, fillElems, rep, List.cons_append, List.nil_append, Int.lt_irrefl, and_self, not_false_eq_true, not_true_eq_false, drun_nil, drun_light, drun_heavy, lightV, wanted, recheck, holds, eqbV_str, eqbV_map, eqbV_ptr, eqbV_int, lenM, mapUpdate, snoc, fillParts, List.map_cons, List.map_nil, eqbV_nils, eqbV_row, scalar_iface, notTup_iface, cells_iface, ↓nb_hh, ↓nb_nn, ↓nb_hn, ↓nb_nh, ↓nb_nm, ↓nb_hm, h1, c237, St.start, b0, b1]
theorem hs_ok {E : Env} (hE : EnvOk C E) (hf : nm 237 = x238) (h1 : E.fns x238 = some c237) : OverOk C E.branch 237 ovHS := by
  intro ρ s w args cargs R hI hG hA h
  unfold ovHS at h
  split at h
  · split at h
    · rename_i n hn
      obtain ⟨x, e1, e2⟩ := (hs_run h1 n hn).to
      refine over_data hE hI hG hA rfl (n := 10) (Q := fun y => y = x) (by rw [hf, e1]; rfl) ?_
      rintro r1 s2 hq
      subst hq
      simp only at e2
      subst e2
      exact ⟨rfl, h⟩
    · exact h.elim
  · exact h.elim
def wtK (F : PT → Option (List Nat)) : PT → Option (List Nat)
  | .hole n => if n.length + 1 ≤ 1000000000 then some (63 :: n) else none
  | .num i => if i = 0 then some [35, 48] else none
  | .node op c x y => F (.node op c x y)
def wtS (F : PT → Option (List Nat)) : PT → Option (List Nat)
  | .node op _ x y => match wtK F x with
    | some lx => match wtK F y with
      | some ly => if op.length + lx.length + ly.length + 10 ≤ 1000000000 ∧ okB (40 :: (op ++ 32 :: lx ++ 32 :: ly)) = true then some (40 :: op ++ 32 :: lx ++ 32 :: ly ++ [41]) else none
      | none => none
    | none => none
  | _ => none
def wtF : Nat → PT → Option (List Nat)
  | 0 => fun _ => none
  | k + 1 => wtS (wtF k)
def ovT (F : PT → Option (List Nat)) (args : List V) (s : St) : T (V × St) := match args with
  | [v] => match ptOf pY 40 (.iface 100 v) with
    | some t => match F t with
      | some l => .ret (.str l, s)
      | none => .fail
    | none => .fail
  | _ => .fail
theorem callM_pt {E : Env} {F : PT → Option (List Nat)} {qh qn : Nm} (mh : E.methods 94 "String" = some (qh, 0, false)) (mn : E.methods 102 "String" = some (qn, 0, false)) (mo : E.methods 100 "String" = some (x239, 0, false)) (oh : E.over qh = some ovHS) (on : E.over qn = some ovNS) (oo : E.over x239 = some (ovT F))
    {x : PT} {l : List Nat} (hd : x.depth ≤ 40) (hx : wtK F x = some l) (ev : Eval) (s : St) : callM E ev (x.V pY) "String" [] s = .ret (.str l, s) := by
  cases x with
  | hole n =>
    simp only [wtK] at hx
    split at hx
    · rename_i hn
      cases hx
      simp only [PT.hole_V, callM, mh, callF, oh, ovHS, hn, if_true]
    · cases hx
  | num i =>
    simp only [wtK] at hx
    split at hx
    · rename_i hi
      cases hx
      simp only [PT.num_V, callM, mn, callF, on, ovNS, hi, if_true]
    · cases hx
  | node op c x y =>
    simp only [wtK] at hx
    have ht := ptOf_self pY 40 _ hd
    rw [PT.node_V] at ht
    simp only [PT.node_V, callM, mo, callF, oo, ovT, ht, hx]
theorem st_ok {E : Env} (hE : EnvOk C E) {qn : Nm} {gn : Nat} (hq : nm gn = qn) (oq : OverOk C E.branch gn ovNS) (d1 : qn.eqb x239 = false) (d2 : qn.eqb x238 = false) (d3 : (x238 : Nm).eqb x239 = false)
    (e1 : x240.eqb x239 = false) (e2 : x240.eqb x238 = false) (e3 : x240.eqb qn = false) (f1 : x241.eqb x239 = false) (f2 : x241.eqb x238 = false) (f3 : x241.eqb qn = false) (i1 : x242.eqb x239 = false) (i2 : x242.eqb x238 = false) (i3 : x242.eqb qn = false) (j1 : x243.eqb x239 = false) (j2 : x243.eqb x238 = false) (j3 : x243.eqb qn = false) (l1 : x244.eqb x239 = false) (l2 : x244.eqb x238 = false) (l3 : x244.eqb qn = false)
    (mh : E.methods 94 "String" = some (x238, 0, false)) (mn : E.methods 102 "String" = some (qn, 0, false)) (mo : E.methods 100 "String" = some (x239, 0, false))
    (hh : nm 237 = x238) (h0 : E.fns x238 = some c237) (hf : nm 238 = x239) (h1 : E.fns x239 = some c238) (h2 : E.fns x240 = some c239) (h3 : E.fns x241 = some c240) (h4 : E.fns x242 = some c241) (h5 : E.fns x243 = some c242)
    (o2 : E.over x240 = none) (o3 : E.over x241 = none) (o4 : E.over x242 = none) (o5 : E.over x243 = none) (o6 : E.over x244 = some ovNo) : ∀ k, OverOk C E.branch 238 (ovT (wtF k))
  | 0 => fun ρ s w args cargs R hI hG hA h => by
    unfold ovT at h
    split at h
    · split at h
      · exact h.elim
      · exact h.elim
    · exact h.elim
  | k + 1 => fun ρ s w args cargs R hI hG hA h => by
    have ih := st_ok hE hq oq d1 d2 d3 e1 e2 e3 f1 f2 f3 i1 i2 i3 j1 j2 j3 l1 l2 l3 mh mn mo hh h0 hf h1 h2 h3 h4 h5 o2 o3 o4 o5 o6 k
    have hE1 := hE.overWith hq oq
    have hE2 := hE1.overWith hh (hs_ok hE1 hh h0)
    have hE3 := hE2.overWith hf ih
    unfold ovT at h
    split at h
    · rename_i v
      split at h
      · rename_i t ht
        split at h
        · rename_i l hl
          obtain ⟨e, hd⟩ := ptOf_V _ _ _ _ ht
          cases t with
          | hole n => exact absurd hl (by simp [wtF, wtS])
          | num i => exact absurd hl (by simp [wtF, wtS])
          | node op c x y =>
            rw [PT.node_V] at e
            obtain rfl : v = .agg [.str op, .dsl [x.V pY, y.V pY] c] := by injection e
            simp only [PT.depth] at hd
            simp only [wtF, wtS] at hl
            split at hl
            · rename_i lx hx
              split at hl
              · rename_i ly hy
                split at hl
                · rename_i hc
                  cases hl
                  have oh : (overWith x239 (ovT (wtF k)) (overWith x238 ovHS (overWith qn ovNS E.over))) x238 = some ovHS := by simp only [overWith, d3, Nm.eqb_iff.2 rfl]
                  have on : (overWith x239 (ovT (wtF k)) (overWith x238 ovHS (overWith qn ovNS E.over))) qn = some ovNS := by simp only [overWith, d1, d2, Nm.eqb_iff.2 rfl]
                  have oo : (overWith x239 (ovT (wtF k)) (overWith x238 ovHS (overWith qn ovNS E.over))) x239 = some (ovT (wtF k)) := by simp only [overWith, Nm.eqb_iff.2 rfl]
                  obtain ⟨r, k1, k2⟩ := (text_run (E := { E with over := overWith x239 (ovT (wtF k)) (overWith x238 ovHS (overWith qn ovNS E.over)) }) h1 h2 h3 h4 h5
                    (by simp only [overWith, e1, e2, e3, o2]) (by simp only [overWith, f1, f2, f3, o3]) (by simp only [overWith, i1, i2, i3, o4]) (by simp only [overWith, j1, j2, j3, o5]) (by simp only [overWith, l1, l2, l3, o6])
                    op lx ly c x y (callM_pt (E := { E with over := overWith x239 (ovT (wtF k)) (overWith x238 ovHS (overWith qn ovNS E.over)) }) mh mn mo oh on oo (by omega) hx) (callM_pt (E := { E with over := overWith x239 (ovT (wtF k)) (overWith x238 ovHS (overWith qn ovNS E.over)) }) mh mn mo oh on oo (by omega) hy) hc.1 hc.2).to
                  refine over_data hE3 hI hG hA (by simp [pureV, pureVs, PT.pure]) (n := 40) (Q := fun y => y = r) (by rw [hf]; exact k1 ▸ rfl) ?_
                  rintro r1 s2 hq
                  subst hq
                  simp only at k2
                  subst k2
                  exact ⟨rfl, h⟩
                · cases hl
              · cases hl
            · cases hl
        · exact h.elim
      · exact h.elim
    · exact h.elim
def ovFz1 (h : List V → St → T (V × St)) (args : List V) (s : St) : T (V × St) := match args with
  | [v] => match frz s.heap 200 v with
    | some (v', B) => h [v'] { s with heap := dropB B s.heap }
    | none => .fail
  | _ => .fail
theorem ovFz1_ok {br g : Nat} {h : List V → St → T (V × St)} (hh : OverOk C br g h) : OverOk C br g (ovFz1 h) := by
  intro ρ s w args cargs R hI hG hA hr
  unfold ovFz1 at hr
  split at hr
  · rename_i v
    split at hr
    · rename_i v' B h1
      obtain ⟨x, rfl, hx⟩ := hA.single
      have f1 := frz_ok hI 200 v v' B h1
      have hB : ∀ z ∈ B, s.heap.get z ≠ none ∧ ρ.blk z ≠ none := fun z hz => ⟨(f1.live z hz).1, (f1.live z hz).2 x hx⟩
      have hle := Rho.frz_le hI B
      have hx1 := Ext.frz hI hB
      have hv' := f1.vr x hx _ hle fun b hb l hl => Rho.frz_imm hb hl
      refine (hh _ _ w _ _ R hx1.inv (hG.mono hle) (AR.one hv') hr).mono ?_
      rintro cv w' ⟨ρ2, r, s2, hR, hvr, hx4⟩
      exact ⟨ρ2, r, s2, hR, hvr, hx1.trans hx4⟩
    · exact hr.elim
  · exact hr.elim
end Go.Eng
