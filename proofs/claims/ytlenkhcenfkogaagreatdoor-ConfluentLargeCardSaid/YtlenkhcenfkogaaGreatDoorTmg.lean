/- Contracts of the term functions of the program and of its reference. -/
import Derived.Test.YtlenkhcenfkogaaGreatDoorEngI
import Derived.Test.YtlenkhcenfkogaaGreatDoorEngE
set_option linter.unusedSimpArgs false
set_option linter.unusedVariables false
set_option maxRecDepth 20000
set_option maxHeartbeats 8000000
namespace Go.Eng
abbrev p1 : Nm := .h
abbrev p2 : Nm := .o (.h)
abbrev p3 : Nm := .i (.h)
abbrev p5 : Nm := .i (.o (.h))
abbrev p6 : Nm := .o (.i (.h))
abbrev p7 : Nm := .i (.i (.h))
abbrev p8 : Nm := .o (.o (.o (.h)))
abbrev p9 : Nm := .i (.o (.o (.h)))
abbrev p10 : Nm := .o (.i (.o (.h)))
abbrev p11 : Nm := .i (.i (.o (.h)))
abbrev p12 : Nm := .o (.o (.i (.h)))
abbrev p13 : Nm := .i (.o (.i (.h)))
abbrev p14 : Nm := .o (.i (.i (.h)))
abbrev p15 : Nm := .i (.i (.i (.h)))
abbrev p16 : Nm := .o (.o (.o (.o (.h))))
abbrev p17 : Nm := .i (.o (.o (.o (.h))))
abbrev p18 : Nm := .o (.i (.o (.o (.h))))
abbrev p19 : Nm := .i (.i (.o (.o (.h))))
abbrev p20 : Nm := .o (.o (.i (.o (.h))))
abbrev p21 : Nm := .i (.o (.i (.o (.h))))
abbrev p22 : Nm := .o (.i (.i (.o (.h))))
abbrev p23 : Nm := .i (.i (.i (.o (.h))))
abbrev p24 : Nm := .o (.o (.o (.i (.h))))
abbrev p25 : Nm := .i (.o (.o (.i (.h))))
abbrev p26 : Nm := .o (.i (.o (.i (.h))))
abbrev p27 : Nm := .i (.i (.o (.i (.h))))
abbrev p28 : Nm := .o (.o (.i (.i (.h))))
abbrev p29 : Nm := .i (.o (.i (.i (.h))))
abbrev p30 : Nm := .o (.i (.i (.i (.h))))
abbrev p31 : Nm := .i (.i (.i (.i (.h))))
abbrev p32 : Nm := .o (.o (.o (.o (.o (.h)))))
abbrev p33 : Nm := .i (.o (.o (.o (.o (.h)))))
abbrev p34 : Nm := .o (.i (.o (.o (.o (.h)))))
abbrev p35 : Nm := .i (.i (.o (.o (.o (.h)))))
abbrev p36 : Nm := .o (.o (.i (.o (.o (.h)))))
abbrev p37 : Nm := .i (.o (.i (.o (.o (.h)))))
abbrev p38 : Nm := .o (.i (.i (.o (.o (.h)))))
abbrev p39 : Nm := .i (.i (.i (.o (.o (.h)))))
abbrev p40 : Nm := .o (.o (.o (.i (.o (.h)))))
abbrev p41 : Nm := .i (.o (.o (.i (.o (.h)))))
abbrev p42 : Nm := .o (.i (.o (.i (.o (.h)))))
abbrev p43 : Nm := .i (.i (.o (.i (.o (.h)))))
abbrev p44 : Nm := .o (.o (.i (.i (.o (.h)))))
abbrev p45 : Nm := .i (.o (.i (.i (.o (.h)))))
abbrev p46 : Nm := .o (.i (.i (.i (.o (.h)))))
abbrev p47 : Nm := .i (.i (.i (.i (.o (.h)))))
abbrev p48 : Nm := .o (.o (.o (.o (.i (.h)))))
abbrev p49 : Nm := .i (.o (.o (.o (.i (.h)))))
abbrev p50 : Nm := .o (.i (.o (.o (.i (.h)))))
abbrev p51 : Nm := .i (.i (.o (.o (.i (.h)))))
abbrev p52 : Nm := .o (.o (.i (.o (.i (.h)))))
def b21 : AFn := ⟨.seq (.region [⟨(some p5), .mv (.c .nili), none⟩]) (.seq (.seq (.region [⟨(some p13), .mv (.t p2), none⟩]) (.block 0 (.seq (.region [⟨(some p14), .assertT 94 (.str []) true (.t p13), none⟩, ⟨(some p15), .extract (.t p14) 1, none⟩, ⟨(some p16), .extract (.t p14) 0, none⟩]) (.cond (.t p15) (.seq (.region [⟨(some p6), .mv (.t p16), none⟩]) (.seq (.region [⟨(some p18), .mv (.t p1), none⟩, ⟨(some p19), .mv (.t p6), none⟩, ⟨(some p20), .lookup .str .nili (.t p18) (.t p19) true, none⟩, ⟨(some p17), .mv (.t p20), none⟩, ⟨(some p21), .extract (.t p17) 0, none⟩, ⟨(some p22), .extract (.t p17) 1, none⟩, ⟨(some p7), .mv (.t p21), none⟩, ⟨(some p8), .mv (.t p22), none⟩]) (.seq (.region [⟨(some p23), .mv (.t p8), none⟩]) (.cond (.t p23) (.seq (.region [⟨(some p24), .mv (.t p1), none⟩, ⟨(some p25), .mv (.t p7), none⟩, ⟨(some p26), .call (.fn p22) [(.t p24), (.t p25)], none⟩, ⟨(some p5), .mv (.t p26), none⟩]) (.ret)) (.skip))))) (.seq (.region [⟨(some p27), .assertT 100 (.agg [(.str []), .nils]) true (.t p13), none⟩, ⟨(some p28), .extract (.t p27) 1, none⟩, ⟨(some p29), .extract (.t p27) 0, none⟩]) (.cond (.t p28) (.seq (.region [⟨(some p9), .alloc [(.str []), .nils] 100, none⟩, ⟨none, .store 2 (.t p9) (.t p29), none⟩]) (.seq (.region [⟨(some p30), .fieldAddr 0 (.t p9), none⟩, ⟨(some p31), .load 1 false (.t p30), none⟩, ⟨(some p32), .build [(.str []), .nils] [(0, 1, (.t p31))], none⟩, ⟨(some p10), .alloc [(.str []), .nils] 100, none⟩, ⟨none, .store 2 (.t p10) (.t p32), none⟩]) (.seq (.seq (.region [⟨(some p33), .fieldAddr 1 (.t p9), none⟩, ⟨(some p34), .load 1 false (.t p33), none⟩, ⟨(some p35), .lenL (.t p34), none⟩, ⟨(some p36), .mv (.c (.int .i64 0)), none⟩]) (.block 1 (.loop (.seq (.region [⟨(some p37), .bin .lss (.t p36) (.t p35), none⟩]) (.seq (.cond (.t p37) (.skip) (.exit 1)) (.seq (.block 2 (.seq (.region [⟨(some p38), .indexAddr 1 none (.t p34) (.t p36), none⟩, ⟨(some p39), .load 1 false (.t p38), none⟩, ⟨(some p12), .mv (.t p39), none⟩]) (.draw [⟨⟨(some p40), .fieldAddr 1 (.t p10), none⟩, .light, []⟩, ⟨⟨(some p41), .load 1 false (.t p40), none⟩, .light, []⟩, ⟨⟨(some p42), .mv (.t p1), none⟩, .light, []⟩, ⟨⟨(some p43), .mv (.t p12), none⟩, .light, []⟩, ⟨⟨(some p44), .call (.fn p22) [(.t p42), (.t p43)], none⟩, .heavy, [⟨(some p41), .load 1 false (.t p40), none⟩, ⟨(some p40), .fieldAddr 1 (.t p10), none⟩]⟩, ⟨⟨(some p45), .buildSlice 1 60 [.nili] 1 [(0, (.t p44))], none⟩, .heavy, [⟨(some p41), .load 1 false (.t p40), none⟩, ⟨(some p40), .fieldAddr 1 (.t p10), none⟩]⟩, ⟨⟨(some p46), .append 1 60 (.t p41) (.t p45), none⟩, .heavy, []⟩, ⟨⟨(some p47), .fieldAddr 1 (.t p10), none⟩, .light, []⟩, ⟨⟨none, .store 1 (.t p47) (.t p46), none⟩, .heavy, []⟩]))) (.region [⟨(some p48), .bin .add (.t p36) (.c (.int .i64 1)), none⟩, ⟨(some p36), .mv (.t p48), none⟩]))))))) (.seq (.region [⟨(some p49), .load 2 true (.t p10), none⟩, ⟨(some p50), .mkIface 100 (.t p49), none⟩, ⟨(some p5), .mv (.t p50), none⟩]) (.ret))))) (.skip))))))) (.seq (.region [⟨(some p51), .mv (.t p2), none⟩, ⟨(some p5), .mv (.t p51), none⟩]) (.ret))), [.tmp p5]⟩
def b19 : AFn := ⟨.seq (.region [⟨(some p7), .mv (.c (.int .i64 0)), none⟩]) (.seq (.region [⟨(some p14), .mv (.t p1), none⟩, ⟨(some p15), .mv (.t p2), none⟩, ⟨(some p16), .call (.fn p38) [(.t p14), (.t p15)], none⟩]) (.block 0 (.seq (.region [⟨(some p20), .assertT 100 (.agg [(.str []), .nils]) true (.t p16), none⟩, ⟨(some p21), .extract (.t p20) 1, none⟩, ⟨(some p22), .extract (.t p20) 0, none⟩]) (.cond (.t p21) (.seq (.region [⟨(some p8), .alloc [(.str []), .nils] 100, none⟩, ⟨none, .store 2 (.t p8) (.t p22), none⟩]) (.seq (.region [⟨(some p23), .fieldAddr 0 (.t p8), none⟩, ⟨(some p24), .load 1 false (.t p23), none⟩, ⟨(some p25), .lenS (.t p24), none⟩, ⟨(some p26), .bin .add (.t p25) (.c (.int .i64 2)), none⟩, ⟨(some p9), .mv (.t p26), none⟩]) (.seq (.seq (.region [⟨(some p27), .fieldAddr 1 (.t p8), none⟩, ⟨(some p28), .load 1 false (.t p27), none⟩, ⟨(some p29), .lenL (.t p28), none⟩, ⟨(some p30), .mv (.c (.int .i64 0)), none⟩]) (.block 1 (.loop (.seq (.region [⟨(some p31), .bin .lss (.t p30) (.t p29), none⟩]) (.seq (.cond (.t p31) (.skip) (.exit 1)) (.seq (.block 2 (.seq (.region [⟨(some p32), .indexAddr 1 none (.t p28) (.t p30), none⟩, ⟨(some p33), .load 1 false (.t p32), none⟩, ⟨(some p11), .mv (.t p33), none⟩]) (.seq (.region [⟨(some p34), .mv (.t p9), none⟩, ⟨(some p35), .mv (.t p1), none⟩, ⟨(some p36), .mv (.t p11), none⟩, ⟨(some p37), .mv (.t p3), none⟩, ⟨(some p38), .mv (.t p9), none⟩, ⟨(some p39), .bin .sub (.t p37) (.t p38), none⟩, ⟨(some p40), .call (.fn p20) [(.t p35), (.t p36), (.t p39)], none⟩, ⟨(some p41), .bin .add (.c (.int .i64 1)) (.t p40), none⟩, ⟨(some p42), .bin .add (.t p34) (.t p41), none⟩, ⟨(some p9), .mv (.t p42), none⟩]) (.seq (.region [⟨(some p43), .mv (.t p9), none⟩, ⟨(some p44), .mv (.t p3), none⟩, ⟨(some p45), .bin .gtr (.t p43) (.t p44), none⟩]) (.cond (.t p45) (.seq (.region [⟨(some p46), .mv (.t p3), none⟩, ⟨(some p47), .bin .add (.t p46) (.c (.int .i64 1)), none⟩, ⟨(some p7), .mv (.t p47), none⟩]) (.ret)) (.skip)))))) (.region [⟨(some p48), .bin .add (.t p30) (.c (.int .i64 1)), none⟩, ⟨(some p30), .mv (.t p48), none⟩]))))))) (.seq (.region [⟨(some p49), .mv (.t p9), none⟩, ⟨(some p7), .mv (.t p49), none⟩]) (.ret))))) (.seq (.region [⟨(some p50), .assertT 94 (.str []) true (.t p16), none⟩, ⟨(some p51), .extract (.t p50) 1, none⟩, ⟨(some p52), .extract (.t p50) 0, none⟩]) (.cond (.t p51) (.seq (.region [⟨(some p12), .mv (.t p52), none⟩]) (.seq (.region [⟨(some p7), .mv (.c (.int .i64 2)), none⟩]) (.ret))) (.seq (.region [⟨(some p13), .mv (.t p16), none⟩]) (.seq (.region [⟨(some p17), .mv (.t p13), none⟩, ⟨(some p18), .call (.invoke (.t p17) "String") [], none⟩, ⟨(some p19), .lenS (.t p18), none⟩, ⟨(some p7), .mv (.t p19), none⟩]) (.ret))))))))), [.tmp p7]⟩
def b37 : AFn := ⟨.seq (.region [⟨(some p5), .mv (.c .nili), none⟩]) (.block 0 (.loop (.block 1 (.seq (.region [⟨(some p10), .mv (.t p2), none⟩, ⟨(some p11), .assertT 94 (.str []) true (.t p10), none⟩, ⟨(some p9), .mv (.t p11), none⟩, ⟨(some p12), .extract (.t p9) 0, none⟩, ⟨(some p13), .extract (.t p9) 1, none⟩, ⟨(some p6), .mv (.t p12), none⟩, ⟨(some p7), .mv (.t p13), none⟩]) (.seq (.seq (.region [⟨(some p14), .mv (.t p7), none⟩, ⟨(some p15), .un .not (.t p14), none⟩]) (.cond (.t p15) (.seq (.region [⟨(some p16), .mv (.t p2), none⟩, ⟨(some p5), .mv (.t p16), none⟩]) (.ret)) (.skip))) (.seq (.region [⟨(some p18), .mv (.t p1), none⟩, ⟨(some p19), .mv (.t p6), none⟩, ⟨(some p20), .lookup .str .nili (.t p18) (.t p19) true, none⟩, ⟨(some p17), .mv (.t p20), none⟩, ⟨(some p21), .extract (.t p17) 0, none⟩, ⟨(some p22), .extract (.t p17) 1, none⟩, ⟨(some p8), .mv (.t p21), none⟩, ⟨(some p7), .mv (.t p22), none⟩]) (.seq (.seq (.region [⟨(some p23), .mv (.t p7), none⟩, ⟨(some p24), .un .not (.t p23), none⟩]) (.cond (.t p24) (.seq (.region [⟨(some p25), .mv (.t p2), none⟩, ⟨(some p5), .mv (.t p25), none⟩]) (.ret)) (.skip))) (.region [⟨(some p26), .mv (.t p8), none⟩, ⟨(some p2), .mv (.t p26), none⟩])))))))), [.tmp p5]⟩
def pY : PTy := ⟨94, 102, 100⟩
theorem nb_hh : Nat.beq 94 94 = true := rfl
theorem nb_nn : Nat.beq 100 100 = true := rfl
theorem nb_hn : Nat.beq 94 100 = false := rfl
theorem nb_nh : Nat.beq 100 94 = false := rfl
theorem nb_nm : Nat.beq 100 102 = false := rfl
theorem nb_hm : Nat.beq 94 102 = false := rfl
theorem eqbV_nils : eqbV .nils .nils = true := rfl
theorem eqbV_row (b : Nm) (a c d : Nat) (e : Bool) : eqbV (.row b a c d e) (.row b a c d e) = true := by simp [eqbV]
theorem scalar_iface (t : TypeId) (v : V) : scalarV (.iface t v) = true := rfl
theorem notTup_iface (t : TypeId) (v : V) : notTup (.iface t v) = true := rfl
theorem cells_iface (t : TypeId) (v : V) : (V.iface t v).cells = [.iface t v] := rfl
theorem PT.hole_V (n : List Nat) : (PT.hole n).V pY = .iface 94 (.str n) := rfl
theorem PT.num_V (i : Int) : (PT.num i).V pY = .iface 102 (.int .i64 i) := rfl
theorem PT.node_V (op : List Nat) (c : Bool) (x y : PT) : (PT.node op c x y).V pY = .iface 100 (.agg [.str op, .dsl [x.V pY, y.V pY] c]) := rfl
theorem PT.V_scalar (t : PT) : scalarV (t.V pY) = true := by cases t <;> rfl
theorem PT.V_notTup (t : PT) : notTup (t.V pY) = true := by cases t <;> rfl
theorem PT.V_cells (t : PT) : (t.V pY).cells = [t.V pY] := by cases t <;> rfl
def putS (F : List (V × V × Nat) → PT → Option PT) (es : List (V × V × Nat)) : PT → Option PT
  | .hole n => match strKey n es 0 with
    | some (some (_, u, _)) => match ptOf pY 40 u with
      | some u => F es u
      | none => none
    | some none => some (.hole n)
    | none => none
  | .num i => some (.num i)
  | .node op _ x y => match F es x with
    | some x' => match F es y with
      | some y' => some (.node op false x' y')
      | none => none
    | none => none
theorem put_run {E : Env} {F : List (V × V × Nat) → PT → Option PT} (h1 : E.fns p22 = some b21) (o1 : E.over p22 = some (ovQ pY F)) (es : List (V × V × Nat)) (hp : pureEs es = true) (ck : Nat) (t r : PT) (hd : t.depth ≤ 40) (hr : putS F es t = some r) :
    (callB E (eval E 30) p22 [.map .h, t.V pY] (St.one es ck)).Is fun x => ∃ B, frz x.2.heap 6 x.1 = some (r.V pY, B) ∧ .h ∉ B ∧ x.2.heap.get .h = some (.map es ck) := by
  cases t with
  | hole n =>
    simp only [putS] at hr
    split at hr
    · rename_i j u b hk
      split at hr
      · rename_i q hq
        obtain ⟨e, hdq⟩ := ptOf_V _ _ _ _ hq
        subst e
        simp (maxSteps := 10000000) (implicitDefEqProofs := false) only [callB, eval_skip, eval_region, eval_draw, eval_seq, eval_cond, eval_block, eval_loop, eval_exit, eval_ret, opers_nil, opers_cons, andThen_normal, andThen_ret, andThen_exit, initT, ↓T.ret_bind, ↓T.fail_bind, T.ofO_some, T.ofO_none, ↓cnd_true, ↓cnd_false, oper, exec, arg, Tr.get, Tr.set, Tr.root, Tr.left, Tr.right, put, okV, okS, new, Nm.succ, load, loadCells, nth, window, dropExact, takeExact, pack, store, splice, bin, lookupIn, findKey, keyOk, List.length_cons, List.length_nil, Nat.beq, Option.getD_some, Option.getD_none, Bool.and_true, Bool.true_and, Nat.reduceAdd, List.all_cons, List.all_nil, beq_self_eq_true, BEq.rfl, Nat.reduceBEq, decide_true, decide_false, Int.reduceEq, ite_true, if_true, Nat.reduceMul, Nat.zero_add, Nat.add_zero, eqK, Bool.false_eq_true, ite_false, findKeyIn_str, Option.map_some, Option.map_none, Option.isSome_some, Option.isSome_none, un, Bool.not_true, Bool.not_false, results, resultV, leave, endBlock, if_false, Nat.reduceEqDiff, ↓reduceIte, scalar_int, scalar_str, scalar_bool, scalar_nils, scalar_nilp, scalar_row, scalar_ptr, scalar_map, scalar_dsl, notTup_agg, notTup_int, notTup_str, cells_agg, cells_int, cells_str, cells_bool, cells_nils, cells_row, cells_dsl, cells_ptr, cells_map, T.Is_ret, List.map_cons, List.map_nil, execCall, callF, Int.reduceLT, cast_0, cast_1, cast_2, blt_02, blt_12, ble_1, ble_2, natOf_0, natOf_1, wrap_01, wrap_11, lenL, grow, append, fillElems, rep, List.cons_append, List.nil_append, Int.lt_irrefl, and_self, not_false_eq_true, not_true_eq_false, elems, drun_nil, drun_light, drun_heavy, lightV, wanted, recheck, holds, eqbV_str, eqbV_map, eqbV_ptr, eqbV_int, lenM, mapUpdate, snoc, fillParts, List.map_cons, List.map_nil, eqbV_nils, eqbV_row, scalar_iface, notTup_iface, cells_iface, ↓nb_hh, ↓nb_nn, ↓nb_hn, ↓nb_nh, ↓nb_nm, ↓nb_hm, h1, o1, b21, St.one, PT.hole_V, hk, ovQ, hp, hq, hr]
        exact ⟨[], frz_pt .., by simp, trivial⟩
      · cases hr
    · rename_i hk
      cases hr
      simp (maxSteps := 10000000) (implicitDefEqProofs := false) only [callB, eval_skip, eval_region, eval_draw, eval_seq, eval_cond, eval_block, eval_loop, eval_exit, eval_ret, opers_nil, opers_cons, andThen_normal, andThen_ret, andThen_exit, initT, ↓T.ret_bind, ↓T.fail_bind, T.ofO_some, T.ofO_none, ↓cnd_true, ↓cnd_false, oper, exec, arg, Tr.get, Tr.set, Tr.root, Tr.left, Tr.right, put, okV, okS, new, Nm.succ, load, loadCells, nth, window, dropExact, takeExact, pack, store, splice, bin, lookupIn, findKey, keyOk, List.length_cons, List.length_nil, Nat.beq, Option.getD_some, Option.getD_none, Bool.and_true, Bool.true_and, Nat.reduceAdd, List.all_cons, List.all_nil, beq_self_eq_true, BEq.rfl, Nat.reduceBEq, decide_true, decide_false, Int.reduceEq, ite_true, if_true, Nat.reduceMul, Nat.zero_add, Nat.add_zero, eqK, Bool.false_eq_true, ite_false, findKeyIn_str, Option.map_some, Option.map_none, Option.isSome_some, Option.isSome_none, un, Bool.not_true, Bool.not_false, results, resultV, leave, endBlock, if_false, Nat.reduceEqDiff, ↓reduceIte, scalar_int, scalar_str, scalar_bool, scalar_nils, scalar_nilp, scalar_row, scalar_ptr, scalar_map, scalar_dsl, notTup_agg, notTup_int, notTup_str, cells_agg, cells_int, cells_str, cells_bool, cells_nils, cells_row, cells_dsl, cells_ptr, cells_map, T.Is_ret, List.map_cons, List.map_nil, execCall, callF, Int.reduceLT, cast_0, cast_1, cast_2, blt_02, blt_12, ble_1, ble_2, natOf_0, natOf_1, wrap_01, wrap_11, lenL, grow, append, fillElems, rep, List.cons_append, List.nil_append, Int.lt_irrefl, and_self, not_false_eq_true, not_true_eq_false, elems, drun_nil, drun_light, drun_heavy, lightV, wanted, recheck, holds, eqbV_str, eqbV_map, eqbV_ptr, eqbV_int, lenM, mapUpdate, snoc, fillParts, List.map_cons, List.map_nil, eqbV_nils, eqbV_row, scalar_iface, notTup_iface, cells_iface, ↓nb_hh, ↓nb_nn, ↓nb_hn, ↓nb_nh, ↓nb_nm, ↓nb_hm, h1, b21, St.one, PT.hole_V, hk]
      exact ⟨[], rfl, by simp, trivial⟩
    · cases hr
  | num i =>
    cases hr
    simp (maxSteps := 10000000) (implicitDefEqProofs := false) only [callB, eval_skip, eval_region, eval_draw, eval_seq, eval_cond, eval_block, eval_loop, eval_exit, eval_ret, opers_nil, opers_cons, andThen_normal, andThen_ret, andThen_exit, initT, ↓T.ret_bind, ↓T.fail_bind, T.ofO_some, T.ofO_none, ↓cnd_true, ↓cnd_false, oper, exec, arg, Tr.get, Tr.set, Tr.root, Tr.left, Tr.right, put, okV, okS, new, Nm.succ, load, loadCells, nth, window, dropExact, takeExact, pack, store, splice, bin, lookupIn, findKey, keyOk, List.length_cons, List.length_nil, Nat.beq, Option.getD_some, Option.getD_none, Bool.and_true, Bool.true_and, Nat.reduceAdd, List.all_cons, List.all_nil, beq_self_eq_true, BEq.rfl, Nat.reduceBEq, decide_true, decide_false, Int.reduceEq, ite_true, if_true, Nat.reduceMul, Nat.zero_add, Nat.add_zero, eqK, Bool.false_eq_true, ite_false, findKeyIn_str, Option.map_some, Option.map_none, Option.isSome_some, Option.isSome_none, un, Bool.not_true, Bool.not_false, results, resultV, leave, endBlock, if_false, Nat.reduceEqDiff, ↓reduceIte, scalar_int, scalar_str, scalar_bool, scalar_nils, scalar_nilp, scalar_row, scalar_ptr, scalar_map, scalar_dsl, notTup_agg, notTup_int, notTup_str, cells_agg, cells_int, cells_str, cells_bool, cells_nils, cells_row, cells_dsl, cells_ptr, cells_map, T.Is_ret, List.map_cons, List.map_nil, execCall, callF, Int.reduceLT, cast_0, cast_1, cast_2, blt_02, blt_12, ble_1, ble_2, natOf_0, natOf_1, wrap_01, wrap_11, lenL, grow, append, fillElems, rep, List.cons_append, List.nil_append, Int.lt_irrefl, and_self, not_false_eq_true, not_true_eq_false, elems, drun_nil, drun_light, drun_heavy, lightV, wanted, recheck, holds, eqbV_str, eqbV_map, eqbV_ptr, eqbV_int, lenM, mapUpdate, snoc, fillParts, List.map_cons, List.map_nil, eqbV_nils, eqbV_row, scalar_iface, notTup_iface, cells_iface, ↓nb_hh, ↓nb_nn, ↓nb_hn, ↓nb_nh, ↓nb_nm, ↓nb_hm, h1, b21, St.one, PT.num_V]
    exact ⟨[], rfl, by simp, trivial⟩
  | node op c x y =>
    simp only [putS] at hr
    split at hr
    · rename_i x' hx'
      split at hr
      · rename_i y' hy'
        cases hr
        simp only [PT.depth] at hd
        have hx := ptOf_self pY 40 x (by omega)
        have hy := ptOf_self pY 40 y (by omega)
        simp (maxSteps := 10000000) (implicitDefEqProofs := false) only [callB, eval_skip, eval_region, eval_draw, eval_seq, eval_cond, eval_block, eval_loop, eval_exit, eval_ret, opers_nil, opers_cons, andThen_normal, andThen_ret, andThen_exit, initT, ↓T.ret_bind, ↓T.fail_bind, T.ofO_some, T.ofO_none, ↓cnd_true, ↓cnd_false, oper, exec, arg, Tr.get, Tr.set, Tr.root, Tr.left, Tr.right, put, okV, okS, new, Nm.succ, load, loadCells, nth, window, dropExact, takeExact, pack, store, splice, bin, lookupIn, findKey, keyOk, List.length_cons, List.length_nil, Nat.beq, Option.getD_some, Option.getD_none, Bool.and_true, Bool.true_and, Nat.reduceAdd, List.all_cons, List.all_nil, beq_self_eq_true, BEq.rfl, Nat.reduceBEq, decide_true, decide_false, Int.reduceEq, ite_true, if_true, Nat.reduceMul, Nat.zero_add, Nat.add_zero, eqK, Bool.false_eq_true, ite_false, findKeyIn_str, Option.map_some, Option.map_none, Option.isSome_some, Option.isSome_none, un, Bool.not_true, Bool.not_false, results, resultV, leave, endBlock, if_false, Nat.reduceEqDiff, ↓reduceIte, scalar_int, scalar_str, scalar_bool, scalar_nils, scalar_nilp, scalar_row, scalar_ptr, scalar_map, scalar_dsl, notTup_agg, notTup_int, notTup_str, cells_agg, cells_int, cells_str, cells_bool, cells_nils, cells_row, cells_dsl, cells_ptr, cells_map, T.Is_ret, List.map_cons, List.map_nil, execCall, callF, Int.reduceLT, cast_0, cast_1, cast_2, blt_02, blt_12, ble_1, ble_2, natOf_0, natOf_1, wrap_01, wrap_11, lenL, grow, append, fillElems, rep, List.cons_append, List.nil_append, Int.lt_irrefl, and_self, not_false_eq_true, not_true_eq_false, elems, drun_nil, drun_light, drun_heavy, lightV, wanted, recheck, holds, eqbV_str, eqbV_map, eqbV_ptr, eqbV_int, lenM, mapUpdate, snoc, fillParts, List.map_cons, List.map_nil, eqbV_nils, eqbV_row, scalar_iface, notTup_iface, cells_iface, ↓nb_hh, ↓nb_nn, ↓nb_hn, ↓nb_nh, ↓nb_nm, ↓nb_hm, h1, o1, b21, St.one, PT.node_V, ovQ, hp, hx, hy, hx', hy', PT.V_scalar, PT.V_notTup, PT.V_cells]
        refine ⟨[.i (.i .h)], ?_, by decide, trivial⟩
        simp only [frz, frzCells, frzRow, pk, window, dropExact, takeExact, Tr.get, Tr.root, Tr.left, Tr.right, ↓frz_pt pY _ 0, List.append_nil, List.nil_append, PT.V_scalar]
      · cases hr
    · cases hr
def rsS (es : List (V × V × Nat)) : PT → Option PT
  | .hole n => match strKey n es 0 with
    | some (some (_, u, _)) => match ptOf pY 40 u with
      | some (.hole m) => match strKey m es 0 with
        | some none => some (.hole m)
        | _ => none
      | some u => some u
      | none => none
    | some none => some (.hole n)
    | none => none
  | t => some t
theorem rs_run {E : Env} (h1 : E.fns p38 = some b37) (es : List (V × V × Nat)) (hp : pureEs es = true) (ck : Nat) (t r : PT) (hr : rsS es t = some r) :
    (callB E (eval E 30) p38 [.map .h, t.V pY] (St.one es ck)).Is fun x => x.1 = r.V pY ∧ x.2.heap.get .h = some (.map es ck) := by
  cases t with
  | num i =>
    cases hr
    simp (maxSteps := 10000000) (implicitDefEqProofs := false) only [callB, eval_skip, eval_region, eval_draw, eval_seq, eval_cond, eval_block, eval_loop, eval_exit, eval_ret, opers_nil, opers_cons, andThen_normal, andThen_ret, andThen_exit, initT, ↓T.ret_bind, ↓T.fail_bind, T.ofO_some, T.ofO_none, ↓cnd_true, ↓cnd_false, oper, exec, arg, Tr.get, Tr.set, Tr.root, Tr.left, Tr.right, put, okV, okS, new, Nm.succ, load, loadCells, nth, window, dropExact, takeExact, pack, store, splice, bin, lookupIn, findKey, keyOk, List.length_cons, List.length_nil, Nat.beq, Option.getD_some, Option.getD_none, Bool.and_true, Bool.true_and, Nat.reduceAdd, List.all_cons, List.all_nil, beq_self_eq_true, BEq.rfl, Nat.reduceBEq, decide_true, decide_false, Int.reduceEq, ite_true, if_true, Nat.reduceMul, Nat.zero_add, Nat.add_zero, eqK, Bool.false_eq_true, ite_false, findKeyIn_str, Option.map_some, Option.map_none, Option.isSome_some, Option.isSome_none, un, Bool.not_true, Bool.not_false, results, resultV, leave, endBlock, if_false, Nat.reduceEqDiff, ↓reduceIte, scalar_int, scalar_str, scalar_bool, scalar_nils, scalar_nilp, scalar_row, scalar_ptr, scalar_map, scalar_dsl, notTup_agg, notTup_int, notTup_str, cells_agg, cells_int, cells_str, cells_bool, cells_nils, cells_row, cells_dsl, cells_ptr, cells_map, T.Is_ret, List.map_cons, List.map_nil, execCall, callF, Int.reduceLT, cast_0, cast_1, cast_2, blt_02, blt_12, ble_1, ble_2, natOf_0, natOf_1, wrap_01, wrap_11, lenL, grow, append, fillElems, rep, List.cons_append, List.nil_append, Int.lt_irrefl, and_self, not_false_eq_true, not_true_eq_false, elems, drun_nil, drun_light, drun_heavy, lightV, wanted, recheck, holds, eqbV_str, eqbV_map, eqbV_ptr, eqbV_int, lenM, mapUpdate, snoc, fillParts, List.map_cons, List.map_nil, eqbV_nils, eqbV_row, scalar_iface, notTup_iface, cells_iface, ↓nb_hh, ↓nb_nn, ↓nb_hn, ↓nb_nh, ↓nb_nm, ↓nb_hm, h1, b37, St.one, PT.num_V]
  | node op c x y =>
    cases hr
    simp (maxSteps := 10000000) (implicitDefEqProofs := false) only [callB, eval_skip, eval_region, eval_draw, eval_seq, eval_cond, eval_block, eval_loop, eval_exit, eval_ret, opers_nil, opers_cons, andThen_normal, andThen_ret, andThen_exit, initT, ↓T.ret_bind, ↓T.fail_bind, T.ofO_some, T.ofO_none, ↓cnd_true, ↓cnd_false, oper, exec, arg, Tr.get, Tr.set, Tr.root, Tr.left, Tr.right, put, okV, okS, new, Nm.succ, load, loadCells, nth, window, dropExact, takeExact, pack, store, splice, bin, lookupIn, findKey, keyOk, List.length_cons, List.length_nil, Nat.beq, Option.getD_some, Option.getD_none, Bool.and_true, Bool.true_and, Nat.reduceAdd, List.all_cons, List.all_nil, beq_self_eq_true, BEq.rfl, Nat.reduceBEq, decide_true, decide_false, Int.reduceEq, ite_true, if_true, Nat.reduceMul, Nat.zero_add, Nat.add_zero, eqK, Bool.false_eq_true, ite_false, findKeyIn_str, Option.map_some, Option.map_none, Option.isSome_some, Option.isSome_none, un, Bool.not_true, Bool.not_false, results, resultV, leave, endBlock, if_false, Nat.reduceEqDiff, ↓reduceIte, scalar_int, scalar_str, scalar_bool, scalar_nils, scalar_nilp, scalar_row, scalar_ptr, scalar_map, scalar_dsl, notTup_agg, notTup_int, notTup_str, cells_agg, cells_int, cells_str, cells_bool, cells_nils, cells_row, cells_dsl, cells_ptr, cells_map, T.Is_ret, List.map_cons, List.map_nil, execCall, callF, Int.reduceLT, cast_0, cast_1, cast_2, blt_02, blt_12, ble_1, ble_2, natOf_0, natOf_1, wrap_01, wrap_11, lenL, grow, append, fillElems, rep, List.cons_append, List.nil_append, Int.lt_irrefl, and_self, not_false_eq_true, not_true_eq_false, elems, drun_nil, drun_light, drun_heavy, lightV, wanted, recheck, holds, eqbV_str, eqbV_map, eqbV_ptr, eqbV_int, lenM, mapUpdate, snoc, fillParts, List.map_cons, List.map_nil, eqbV_nils, eqbV_row, scalar_iface, notTup_iface, cells_iface, ↓nb_hh, ↓nb_nn, ↓nb_hn, ↓nb_nh, ↓nb_nm, ↓nb_hm, h1, b37, St.one, PT.node_V]
  | hole n =>
    simp only [rsS] at hr
    split at hr
    · rename_i j u b hk
      cases hq : ptOf pY 40 u with
      | none => simp only [hq] at hr; cases hr
      | some q =>
        obtain ⟨e, hdq⟩ := ptOf_V _ _ _ _ hq
        subst e
        simp only [hq] at hr
        cases q with
        | hole m =>
          simp only at hr
          split at hr
          · rename_i hk2
            cases hr
            simp (maxSteps := 10000000) (implicitDefEqProofs := false) only [callB, eval_skip, eval_region, eval_draw, eval_seq, eval_cond, eval_block, eval_loop, eval_exit, eval_ret, opers_nil, opers_cons, andThen_normal, andThen_ret, andThen_exit, initT, ↓T.ret_bind, ↓T.fail_bind, T.ofO_some, T.ofO_none, ↓cnd_true, ↓cnd_false, oper, exec, arg, Tr.get, Tr.set, Tr.root, Tr.left, Tr.right, put, okV, okS, new, Nm.succ, load, loadCells, nth, window, dropExact, takeExact, pack, store, splice, bin, lookupIn, findKey, keyOk, List.length_cons, List.length_nil, Nat.beq, Option.getD_some, Option.getD_none, Bool.and_true, Bool.true_and, Nat.reduceAdd, List.all_cons, List.all_nil, beq_self_eq_true, BEq.rfl, Nat.reduceBEq, decide_true, decide_false, Int.reduceEq, ite_true, if_true, Nat.reduceMul, Nat.zero_add, Nat.add_zero, eqK, Bool.false_eq_true, ite_false, findKeyIn_str, Option.map_some, Option.map_none, Option.isSome_some, Option.isSome_none, un, Bool.not_true, Bool.not_false, results, resultV, leave, endBlock, if_false, Nat.reduceEqDiff, ↓reduceIte, scalar_int, scalar_str, scalar_bool, scalar_nils, scalar_nilp, scalar_row, scalar_ptr, scalar_map, scalar_dsl, notTup_agg, notTup_int, notTup_str, cells_agg, cells_int, cells_str, cells_bool, cells_nils, cells_row, cells_dsl, cells_ptr, cells_map, T.Is_ret, List.map_cons, List.map_nil, execCall, callF, Int.reduceLT, cast_0, cast_1, cast_2, blt_02, blt_12, ble_1, ble_2, natOf_0, natOf_1, wrap_01, wrap_11, lenL, grow, append, fillElems, rep, List.cons_append, List.nil_append, Int.lt_irrefl, and_self, not_false_eq_true, not_true_eq_false, elems, drun_nil, drun_light, drun_heavy, lightV, wanted, recheck, holds, eqbV_str, eqbV_map, eqbV_ptr, eqbV_int, lenM, mapUpdate, snoc, fillParts, List.map_cons, List.map_nil, eqbV_nils, eqbV_row, scalar_iface, notTup_iface, cells_iface, ↓nb_hh, ↓nb_nn, ↓nb_hn, ↓nb_nh, ↓nb_nm, ↓nb_hm, h1, b37, St.one, PT.hole_V, hk, hk2]
          · cases hr
        | num i =>
          cases hr
          simp (maxSteps := 10000000) (implicitDefEqProofs := false) only [callB, eval_skip, eval_region, eval_draw, eval_seq, eval_cond, eval_block, eval_loop, eval_exit, eval_ret, opers_nil, opers_cons, andThen_normal, andThen_ret, andThen_exit, initT, ↓T.ret_bind, ↓T.fail_bind, T.ofO_some, T.ofO_none, ↓cnd_true, ↓cnd_false, oper, exec, arg, Tr.get, Tr.set, Tr.root, Tr.left, Tr.right, put, okV, okS, new, Nm.succ, load, loadCells, nth, window, dropExact, takeExact, pack, store, splice, bin, lookupIn, findKey, keyOk, List.length_cons, List.length_nil, Nat.beq, Option.getD_some, Option.getD_none, Bool.and_true, Bool.true_and, Nat.reduceAdd, List.all_cons, List.all_nil, beq_self_eq_true, BEq.rfl, Nat.reduceBEq, decide_true, decide_false, Int.reduceEq, ite_true, if_true, Nat.reduceMul, Nat.zero_add, Nat.add_zero, eqK, Bool.false_eq_true, ite_false, findKeyIn_str, Option.map_some, Option.map_none, Option.isSome_some, Option.isSome_none, un, Bool.not_true, Bool.not_false, results, resultV, leave, endBlock, if_false, Nat.reduceEqDiff, ↓reduceIte, scalar_int, scalar_str, scalar_bool, scalar_nils, scalar_nilp, scalar_row, scalar_ptr, scalar_map, scalar_dsl, notTup_agg, notTup_int, notTup_str, cells_agg, cells_int, cells_str, cells_bool, cells_nils, cells_row, cells_dsl, cells_ptr, cells_map, T.Is_ret, List.map_cons, List.map_nil, execCall, callF, Int.reduceLT, cast_0, cast_1, cast_2, blt_02, blt_12, ble_1, ble_2, natOf_0, natOf_1, wrap_01, wrap_11, lenL, grow, append, fillElems, rep, List.cons_append, List.nil_append, Int.lt_irrefl, and_self, not_false_eq_true, not_true_eq_false, elems, drun_nil, drun_light, drun_heavy, lightV, wanted, recheck, holds, eqbV_str, eqbV_map, eqbV_ptr, eqbV_int, lenM, mapUpdate, snoc, fillParts, List.map_cons, List.map_nil, eqbV_nils, eqbV_row, scalar_iface, notTup_iface, cells_iface, ↓nb_hh, ↓nb_nn, ↓nb_hn, ↓nb_nh, ↓nb_nm, ↓nb_hm, h1, b37, St.one, PT.hole_V, PT.num_V, hk]
        | node op c x y =>
          cases hr
          simp (maxSteps := 10000000) (implicitDefEqProofs := false) only [callB, eval_skip, eval_region, eval_draw, eval_seq, eval_cond, eval_block, eval_loop, eval_exit, eval_ret, opers_nil, opers_cons, andThen_normal, andThen_ret, andThen_exit, initT, ↓T.ret_bind, ↓T.fail_bind, T.ofO_some, T.ofO_none, ↓cnd_true, ↓cnd_false, oper, exec, arg, Tr.get, Tr.set, Tr.root, Tr.left, Tr.right, put, okV, okS, new, Nm.succ, load, loadCells, nth, window, dropExact, takeExact, pack, store, splice, bin, lookupIn, findKey, keyOk, List.length_cons, List.length_nil, Nat.beq, Option.getD_some, Option.getD_none, Bool.and_true, Bool.true_and, Nat.reduceAdd, List.all_cons, List.all_nil, beq_self_eq_true, BEq.rfl, Nat.reduceBEq, decide_true, decide_false, Int.reduceEq, ite_true, if_true, Nat.reduceMul, Nat.zero_add, Nat.add_zero, eqK, Bool.false_eq_true, ite_false, findKeyIn_str, Option.map_some, Option.map_none, Option.isSome_some, Option.isSome_none, un, Bool.not_true, Bool.not_false, results, resultV, leave, endBlock, if_false, Nat.reduceEqDiff, ↓reduceIte, scalar_int, scalar_str, scalar_bool, scalar_nils, scalar_nilp, scalar_row, scalar_ptr, scalar_map, scalar_dsl, notTup_agg, notTup_int, notTup_str, cells_agg, cells_int, cells_str, cells_bool, cells_nils, cells_row, cells_dsl, cells_ptr, cells_map, T.Is_ret, List.map_cons, List.map_nil, execCall, callF, Int.reduceLT, cast_0, cast_1, cast_2, blt_02, blt_12, ble_1, ble_2, natOf_0, natOf_1, wrap_01, wrap_11, lenL, grow, append, fillElems, rep, List.cons_append, List.nil_append, Int.lt_irrefl, and_self, not_false_eq_true, not_true_eq_false, elems, drun_nil, drun_light, drun_heavy, lightV, wanted, recheck, holds, eqbV_str, eqbV_map, eqbV_ptr, eqbV_int, lenM, mapUpdate, snoc, fillParts, List.map_cons, List.map_nil, eqbV_nils, eqbV_row, scalar_iface, notTup_iface, cells_iface, ↓nb_hh, ↓nb_nn, ↓nb_hn, ↓nb_nh, ↓nb_nm, ↓nb_hm, h1, b37, St.one, PT.hole_V, PT.node_V, hk]
    · rename_i hk
      cases hr
      simp (maxSteps := 10000000) (implicitDefEqProofs := false) only [callB, eval_skip, eval_region, eval_draw, eval_seq, eval_cond, eval_block, eval_loop, eval_exit, eval_ret, opers_nil, opers_cons, andThen_normal, andThen_ret, andThen_exit, initT, ↓T.ret_bind, ↓T.fail_bind, T.ofO_some, T.ofO_none, ↓cnd_true, ↓cnd_false, oper, exec, arg, Tr.get, Tr.set, Tr.root, Tr.left, Tr.right, put, okV, okS, new, Nm.succ, load, loadCells, nth, window, dropExact, takeExact, pack, store, splice, bin, lookupIn, findKey, keyOk, List.length_cons, List.length_nil, Nat.beq, Option.getD_some, Option.getD_none, Bool.and_true, Bool.true_and, Nat.reduceAdd, List.all_cons, List.all_nil, beq_self_eq_true, BEq.rfl, Nat.reduceBEq, decide_true, decide_false, Int.reduceEq, ite_true, if_true, Nat.reduceMul, Nat.zero_add, Nat.add_zero, eqK, Bool.false_eq_true, ite_false, findKeyIn_str, Option.map_some, Option.map_none, Option.isSome_some, Option.isSome_none, un, Bool.not_true, Bool.not_false, results, resultV, leave, endBlock, if_false, Nat.reduceEqDiff, ↓reduceIte, scalar_int, scalar_str, scalar_bool, scalar_nils, scalar_nilp, scalar_row, scalar_ptr, scalar_map, scalar_dsl, notTup_agg, notTup_int, notTup_str, cells_agg, cells_int, cells_str, cells_bool, cells_nils, cells_row, cells_dsl, cells_ptr, cells_map, T.Is_ret, List.map_cons, List.map_nil, execCall, callF, Int.reduceLT, cast_0, cast_1, cast_2, blt_02, blt_12, ble_1, ble_2, natOf_0, natOf_1, wrap_01, wrap_11, lenL, grow, append, fillElems, rep, List.cons_append, List.nil_append, Int.lt_irrefl, and_self, not_false_eq_true, not_true_eq_false, elems, drun_nil, drun_light, drun_heavy, lightV, wanted, recheck, holds, eqbV_str, eqbV_map, eqbV_ptr, eqbV_int, lenM, mapUpdate, snoc, fillParts, List.map_cons, List.map_nil, eqbV_nils, eqbV_row, scalar_iface, notTup_iface, cells_iface, ↓nb_hh, ↓nb_nn, ↓nb_hn, ↓nb_nh, ↓nb_nm, ↓nb_hm, h1, b37, St.one, PT.hole_V, hk]
    · cases hr
def wI (x : Int) : Int := IntKind.wrap .i64 x
def szS (F : List (V × V × Nat) → PT → Int → Option Int) (es : List (V × V × Nat)) (t : PT) (most : Int) : Option Int := match rsS es t with
  | some (.hole _) => some 2
  | some (.num i) => if i = 0 then some 2 else none
  | some (.node op _ x y) => if x.depth ≤ 40 ∧ y.depth ≤ 40 then match F es x (wI (most - wI ((op.length : Int) + 2))) with
      | some a => if most < wI (wI ((op.length : Int) + 2) + wI (1 + a)) then some (wI (most + 1))
        else match F es y (wI (most - wI (wI ((op.length : Int) + 2) + wI (1 + a)))) with
          | some b => if most < wI (wI (wI ((op.length : Int) + 2) + wI (1 + a)) + wI (1 + b)) then some (wI (most + 1)) else some (wI (wI (wI ((op.length : Int) + 2) + wI (1 + a)) + wI (1 + b)))
          | none => none
      | none => none
    else none
  | none => none
def ovNS (args : List V) (s : St) : T (V × St) := match args with
  | [.int .i64 i] => if i = 0 then .ret (.str [35, 48], s) else .fail
  | _ => .fail
theorem wI_eq (x : Int) : IntKind.wrap .i64 x = wI x := rfl
theorem wI_01 : wI (0 + 1) = 1 := by decide
theorem wI_11 : wI (1 + 1) = 2 := by decide
theorem sz_run {E : Env} {F : List (V × V × Nat) → PT → Int → Option Int} {q : Nm} (h1 : E.fns p20 = some b19) (o1 : E.over p20 = some (ovZ pY F)) (o2 : E.over p38 = some (ovQ pY rsS)) (hm : E.methods 102 "String" = some (q, 0, false)) (o3 : E.over q = some ovNS)
    (es : List (V × V × Nat)) (hp : pureEs es = true) (ck : Nat) (t : PT) (most r : Int) (hd : t.depth ≤ 40) (hr : szS F es t most = some r) :
    (callB E (eval E 30) p20 [.map .h, t.V pY, .int .i64 most] (St.one es ck)).Is fun x => x.1 = .int .i64 r ∧ x.2.heap.get .h = some (.map es ck) := by
  have ht := ptOf_self pY 40 t hd
  unfold szS at hr
  split at hr
  · rename_i n hk
    cases hr
    simp (maxSteps := 10000000) (implicitDefEqProofs := false) only [callB, eval_skip, eval_region, eval_draw, eval_seq, eval_cond, eval_block, eval_loop, eval_exit, eval_ret, opers_nil, opers_cons, andThen_normal, andThen_ret, andThen_exit, initT, ↓T.ret_bind, ↓T.fail_bind, T.ofO_some, T.ofO_none, ↓cnd_true, ↓cnd_false, oper, exec, arg, Tr.get, Tr.set, Tr.root, Tr.left, Tr.right, put, okV, okS, new, Nm.succ, load, loadCells, nth, window, dropExact, takeExact, pack, store, splice, bin, lookupIn, findKey, keyOk, List.length_cons, List.length_nil, Nat.beq, Option.getD_some, Option.getD_none, Bool.and_true, Bool.true_and, Nat.reduceAdd, List.all_cons, List.all_nil, beq_self_eq_true, BEq.rfl, Nat.reduceBEq, decide_true, decide_false, Int.reduceEq, ite_true, if_true, Nat.reduceMul, Nat.zero_add, Nat.add_zero, eqK, Bool.false_eq_true, ite_false, findKeyIn_str, Option.map_some, Option.map_none, Option.isSome_some, Option.isSome_none, un, Bool.not_true, Bool.not_false, results, resultV, leave, endBlock, if_false, Nat.reduceEqDiff, ↓reduceIte, scalar_int, scalar_str, scalar_bool, scalar_nils, scalar_nilp, scalar_row, scalar_ptr, scalar_map, scalar_dsl, notTup_agg, notTup_int, notTup_str, cells_agg, cells_int, cells_str, cells_bool, cells_nils, cells_row, cells_dsl, cells_ptr, cells_map, T.Is_ret, List.map_cons, List.map_nil, execCall, callF, Int.reduceLT, cast_0, cast_1, cast_2, blt_02, blt_12, ble_1, ble_2, natOf_0, natOf_1, wrap_01, wrap_11, lenL, grow, append, fillElems, rep, List.cons_append, List.nil_append, Int.lt_irrefl, and_self, not_false_eq_true, not_true_eq_false, elems, drun_nil, drun_light, drun_heavy, lightV, wanted, recheck, holds, eqbV_str, eqbV_map, eqbV_ptr, eqbV_int, lenM, mapUpdate, snoc, fillParts, List.map_cons, List.map_nil, eqbV_nils, eqbV_row, scalar_iface, notTup_iface, cells_iface, ↓nb_hh, ↓nb_nn, ↓nb_hn, ↓nb_nh, ↓nb_nm, ↓nb_hm, h1, o2, b19, St.one, ovQ, hp, ht, hk, PT.hole_V]
  · rename_i i hk
    split at hr
    · rename_i hi
      cases hr
      simp (maxSteps := 10000000) (implicitDefEqProofs := false) only [callB, eval_skip, eval_region, eval_draw, eval_seq, eval_cond, eval_block, eval_loop, eval_exit, eval_ret, opers_nil, opers_cons, andThen_normal, andThen_ret, andThen_exit, initT, ↓T.ret_bind, ↓T.fail_bind, T.ofO_some, T.ofO_none, ↓cnd_true, ↓cnd_false, oper, exec, arg, Tr.get, Tr.set, Tr.root, Tr.left, Tr.right, put, okV, okS, new, Nm.succ, load, loadCells, nth, window, dropExact, takeExact, pack, store, splice, bin, lookupIn, findKey, keyOk, List.length_cons, List.length_nil, Nat.beq, Option.getD_some, Option.getD_none, Bool.and_true, Bool.true_and, Nat.reduceAdd, List.all_cons, List.all_nil, beq_self_eq_true, BEq.rfl, Nat.reduceBEq, decide_true, decide_false, Int.reduceEq, ite_true, if_true, Nat.reduceMul, Nat.zero_add, Nat.add_zero, eqK, Bool.false_eq_true, ite_false, findKeyIn_str, Option.map_some, Option.map_none, Option.isSome_some, Option.isSome_none, un, Bool.not_true, Bool.not_false, results, resultV, leave, endBlock, if_false, Nat.reduceEqDiff, ↓reduceIte, scalar_int, scalar_str, scalar_bool, scalar_nils, scalar_nilp, scalar_row, scalar_ptr, scalar_map, scalar_dsl, notTup_agg, notTup_int, notTup_str, cells_agg, cells_int, cells_str, cells_bool, cells_nils, cells_row, cells_dsl, cells_ptr, cells_map, T.Is_ret, List.map_cons, List.map_nil, execCall, callF, Int.reduceLT, cast_0, cast_1, cast_2, blt_02, blt_12, ble_1, ble_2, natOf_0, natOf_1, wrap_01, wrap_11, lenL, grow, append, fillElems, rep, List.cons_append, List.nil_append, Int.lt_irrefl, and_self, not_false_eq_true, not_true_eq_false, elems, drun_nil, drun_light, drun_heavy, lightV, wanted, recheck, holds, eqbV_str, eqbV_map, eqbV_ptr, eqbV_int, lenM, mapUpdate, snoc, fillParts, List.map_cons, List.map_nil, eqbV_nils, eqbV_row, scalar_iface, notTup_iface, cells_iface, ↓nb_hh, ↓nb_nn, ↓nb_hn, ↓nb_nh, ↓nb_nm, ↓nb_hm, h1, o2, o3, hm, callM, ovNS, b19, St.one, ovQ, hp, ht, hk, PT.num_V, hi]
    · cases hr
  · rename_i op c x y hk
    split at hr
    · rename_i hdd
      have hx := ptOf_self pY 40 x hdd.1
      have hy := ptOf_self pY 40 y hdd.2
      split at hr
      · rename_i a ha
        split at hr
        · rename_i hlt
          cases hr
          simp (maxSteps := 10000000) (implicitDefEqProofs := false) only [callB, eval_skip, eval_region, eval_draw, eval_seq, eval_cond, eval_block, eval_loop, eval_exit, eval_ret, opers_nil, opers_cons, andThen_normal, andThen_ret, andThen_exit, initT, ↓T.ret_bind, ↓T.fail_bind, T.ofO_some, T.ofO_none, ↓cnd_true, ↓cnd_false, oper, exec, arg, Tr.get, Tr.set, Tr.root, Tr.left, Tr.right, put, okV, okS, new, Nm.succ, load, loadCells, nth, window, dropExact, takeExact, pack, store, splice, bin, lookupIn, findKey, keyOk, List.length_cons, List.length_nil, Nat.beq, Option.getD_some, Option.getD_none, Bool.and_true, Bool.true_and, Nat.reduceAdd, List.all_cons, List.all_nil, beq_self_eq_true, BEq.rfl, Nat.reduceBEq, decide_true, decide_false, Int.reduceEq, ite_true, if_true, Nat.reduceMul, Nat.zero_add, Nat.add_zero, eqK, Bool.false_eq_true, ite_false, findKeyIn_str, Option.map_some, Option.map_none, Option.isSome_some, Option.isSome_none, un, Bool.not_true, Bool.not_false, results, resultV, leave, endBlock, if_false, Nat.reduceEqDiff, ↓reduceIte, scalar_int, scalar_str, scalar_bool, scalar_nils, scalar_nilp, scalar_row, scalar_ptr, scalar_map, scalar_dsl, notTup_agg, notTup_int, notTup_str, cells_agg, cells_int, cells_str, cells_bool, cells_nils, cells_row, cells_dsl, cells_ptr, cells_map, T.Is_ret, List.map_cons, List.map_nil, execCall, callF, Int.reduceLT, cast_0, cast_1, cast_2, blt_02, blt_12, ble_1, ble_2, natOf_0, natOf_1, wrap_01, wrap_11, lenL, grow, append, fillElems, rep, List.cons_append, List.nil_append, Int.lt_irrefl, and_self, not_false_eq_true, not_true_eq_false, elems, drun_nil, drun_light, drun_heavy, lightV, wanted, recheck, holds, eqbV_str, eqbV_map, eqbV_ptr, eqbV_int, lenM, mapUpdate, snoc, fillParts, List.map_cons, List.map_nil, eqbV_nils, eqbV_row, scalar_iface, notTup_iface, cells_iface, ↓nb_hh, ↓nb_nn, ↓nb_hn, ↓nb_nh, ↓nb_nm, ↓nb_hm, h1, o1, o2, b19, St.one, ovQ, ovZ, hp, ht, hk, PT.node_V, hx, hy, wI_eq, wI_01, wI_11, ha, hlt, PT.V_scalar, PT.V_notTup, PT.V_cells]
        · rename_i hlt
          split at hr
          · rename_i b hb
            split at hr
            · rename_i hlt2
              cases hr
              simp (maxSteps := 10000000) (implicitDefEqProofs := false) only [callB, eval_skip, eval_region, eval_draw, eval_seq, eval_cond, eval_block, eval_loop, eval_exit, eval_ret, opers_nil, opers_cons, andThen_normal, andThen_ret, andThen_exit, initT, ↓T.ret_bind, ↓T.fail_bind, T.ofO_some, T.ofO_none, ↓cnd_true, ↓cnd_false, oper, exec, arg, Tr.get, Tr.set, Tr.root, Tr.left, Tr.right, put, okV, okS, new, Nm.succ, load, loadCells, nth, window, dropExact, takeExact, pack, store, splice, bin, lookupIn, findKey, keyOk, List.length_cons, List.length_nil, Nat.beq, Option.getD_some, Option.getD_none, Bool.and_true, Bool.true_and, Nat.reduceAdd, List.all_cons, List.all_nil, beq_self_eq_true, BEq.rfl, Nat.reduceBEq, decide_true, decide_false, Int.reduceEq, ite_true, if_true, Nat.reduceMul, Nat.zero_add, Nat.add_zero, eqK, Bool.false_eq_true, ite_false, findKeyIn_str, Option.map_some, Option.map_none, Option.isSome_some, Option.isSome_none, un, Bool.not_true, Bool.not_false, results, resultV, leave, endBlock, if_false, Nat.reduceEqDiff, ↓reduceIte, scalar_int, scalar_str, scalar_bool, scalar_nils, scalar_nilp, scalar_row, scalar_ptr, scalar_map, scalar_dsl, notTup_agg, notTup_int, notTup_str, cells_agg, cells_int, cells_str, cells_bool, cells_nils, cells_row, cells_dsl, cells_ptr, cells_map, T.Is_ret, List.map_cons, List.map_nil, execCall, callF, Int.reduceLT, cast_0, cast_1, cast_2, blt_02, blt_12, ble_1, ble_2, natOf_0, natOf_1, wrap_01, wrap_11, lenL, grow, append, fillElems, rep, List.cons_append, List.nil_append, Int.lt_irrefl, and_self, not_false_eq_true, not_true_eq_false, elems, drun_nil, drun_light, drun_heavy, lightV, wanted, recheck, holds, eqbV_str, eqbV_map, eqbV_ptr, eqbV_int, lenM, mapUpdate, snoc, fillParts, List.map_cons, List.map_nil, eqbV_nils, eqbV_row, scalar_iface, notTup_iface, cells_iface, ↓nb_hh, ↓nb_nn, ↓nb_hn, ↓nb_nh, ↓nb_nm, ↓nb_hm, h1, o1, o2, b19, St.one, ovQ, ovZ, hp, ht, hk, PT.node_V, hx, hy, wI_eq, wI_01, wI_11, ha, hlt, hb, hlt2, PT.V_scalar, PT.V_notTup, PT.V_cells]
            · rename_i hlt2
              cases hr
              simp (maxSteps := 10000000) (implicitDefEqProofs := false) only [callB, eval_skip, eval_region, eval_draw, eval_seq, eval_cond, eval_block, eval_loop, eval_exit, eval_ret, opers_nil, opers_cons, andThen_normal, andThen_ret, andThen_exit, initT, ↓T.ret_bind, ↓T.fail_bind, T.ofO_some, T.ofO_none, ↓cnd_true, ↓cnd_false, oper, exec, arg, Tr.get, Tr.set, Tr.root, Tr.left, Tr.right, put, okV, okS, new, Nm.succ, load, loadCells, nth, window, dropExact, takeExact, pack, store, splice, bin, lookupIn, findKey, keyOk, List.length_cons, List.length_nil, Nat.beq, Option.getD_some, Option.getD_none, Bool.and_true, Bool.true_and, Nat.reduceAdd, List.all_cons, List.all_nil, beq_self_eq_true, BEq.rfl, Nat.reduceBEq, decide_true, decide_false, Int.reduceEq, ite_true, if_true, Nat.reduceMul, Nat.zero_add, Nat.add_zero, eqK, Bool.false_eq_true, ite_false, findKeyIn_str, Option.map_some, Option.map_none, Option.isSome_some, Option.isSome_none, un, Bool.not_true, Bool.not_false, results, resultV, leave, endBlock, if_false, Nat.reduceEqDiff, ↓reduceIte, scalar_int, scalar_str, scalar_bool, scalar_nils, scalar_nilp, scalar_row, scalar_ptr, scalar_map, scalar_dsl, notTup_agg, notTup_int, notTup_str, cells_agg, cells_int, cells_str, cells_bool, cells_nils, cells_row, cells_dsl, cells_ptr, cells_map, T.Is_ret, List.map_cons, List.map_nil, execCall, callF, Int.reduceLT, cast_0, cast_1, cast_2, blt_02, blt_12, ble_1, ble_2, natOf_0, natOf_1, wrap_01, wrap_11, lenL, grow, append, fillElems, rep, List.cons_append, List.nil_append, Int.lt_irrefl, and_self, not_false_eq_true, not_true_eq_false, elems, drun_nil, drun_light, drun_heavy, lightV, wanted, recheck, holds, eqbV_str, eqbV_map, eqbV_ptr, eqbV_int, lenM, mapUpdate, snoc, fillParts, List.map_cons, List.map_nil, eqbV_nils, eqbV_row, scalar_iface, notTup_iface, cells_iface, ↓nb_hh, ↓nb_nn, ↓nb_hn, ↓nb_nh, ↓nb_nm, ↓nb_hm, h1, o1, o2, b19, St.one, ovQ, ovZ, hp, ht, hk, PT.node_V, hx, hy, wI_eq, wI_01, wI_11, ha, hlt, hb, hlt2, PT.V_scalar, PT.V_notTup, PT.V_cells]
          · cases hr
      · cases hr
    · cases hr
  · cases hr
variable {C : Ctx}
def putF : Nat → List (V × V × Nat) → PT → Option PT
  | 0 => fun _ _ => none
  | k + 1 => putS (putF k)
def szF : Nat → List (V × V × Nat) → PT → Int → Option Int
  | 0 => fun _ _ _ => none
  | k + 1 => szS (szF k)
theorem put_ok {E : Env} (hE : EnvOk C E) (hf : nm 21 = p22) (h1 : E.fns p22 = some b21) : ∀ k, OverOk C E.branch 21 (ovQ pY (putF k))
  | 0 => ovQ_ok hE (n := 0) fun es ck t r hp hd hr => by cases hr
  | k + 1 => by
    have ih := put_ok hE hf h1 k
    have hE' := hE.overWith hf ih
    refine ovQ_ok hE' (n := 30) fun es ck t r hp hd hr => ?_
    obtain ⟨⟨r0, s1⟩, e1, B, e2, e3, e4⟩ := (put_run (F := putF k) (E := { E with over := overWith p22 (ovQ pY (putF k)) E.over }) h1 rfl es hp ck t r hd hr).to
    exact ⟨r0, s1, B, by rw [hf]; exact e1, e2, e3, e4⟩
theorem rs_ok {E : Env} (hE : EnvOk C E) (hf : nm 37 = p38) (h1 : E.fns p38 = some b37) : OverOk C E.branch 37 (ovQ pY rsS) := ovQ_ok hE (n := 30) fun es ck t r hp hd hr => by
  obtain ⟨⟨r0, s1⟩, e1, e2, e3⟩ := (rs_run h1 es hp ck t r hr).to
  simp only at e2 e3
  subst e2
  exact ⟨r.V pY, s1, [], by rw [hf]; exact e1, frz_pt pY _ 3 r, by simp, e3⟩
theorem sz_ok {E : Env} (hE : EnvOk C E) {q : Nm} {gq : Nat} (hq : nm gq = q) (oq : OverOk C E.branch gq ovNS) (hne : q.eqb p20 = false) (hne2 : q.eqb p38 = false) (hm : E.methods 102 "String" = some (q, 0, false)) (hr : nm 37 = p38) (h1 : E.fns p38 = some b37) (hf : nm 19 = p20) (h2 : E.fns p20 = some b19) : ∀ k, OverOk C E.branch 19 (ovZ pY (szF k))
  | 0 => ovZ_ok hE (n := 0) fun es ck t m r hp hd hr => by cases hr
  | k + 1 => by
    have ih := sz_ok hE hq oq hne hne2 hm hr h1 hf h2 k
    have hE1 := hE.overWith hq oq
    have hE2 := hE1.overWith hr (rs_ok hE1 hr h1)
    have hE' := hE2.overWith hf ih
    refine ovZ_ok hE' (n := 30) fun es ck t m r hp hd hr' => ?_
    have o3 : (overWith p20 (ovZ pY (szF k)) (overWith p38 (ovQ pY rsS) (overWith q ovNS E.over))) q = some ovNS := by
      simp only [overWith, hne, hne2, Nm.eqb_iff.2 rfl]
    obtain ⟨⟨r0, s1⟩, e1, e2, e3⟩ := (sz_run (F := szF k) (q := q) (E := { E with over := overWith p20 (ovZ pY (szF k)) (overWith p38 (ovQ pY rsS) (overWith q ovNS E.over)) }) h2 rfl rfl hm o3 es hp ck t m r hd hr').to
    simp only at e2 e3
    subst e2
    exact ⟨s1, by rw [hf]; exact e1, e3⟩
theorem ovNS_ok {br g : Nat} (h : OverOk C br g (memoP [([.int .i64 0], .str [35, 48])])) : OverOk C br g ovNS := by
  refine h.weaken fun args s R h => ?_
  unfold ovNS at h
  split at h
  · split at h
    · rename_i i hi
      subst hi
      exact h
    · exact h.elim
  · exact h.elim
end Go.Eng
