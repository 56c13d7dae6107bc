/- The law AccountLotsAdd: what it answers. -/
import Derived.Test.YtndipbefnipnpaaGreatLotsRfD
namespace Go.Proofs.YtndipbefnipnpaaGreat
open Go Go.Eng

set_option maxRecDepth 10000 in
set_option maxHeartbeats 4000000 in
theorem addLaw_c1 (H : Hp) (a b : List Lot) (va vb : AC) (ha : SlL H va a) (hb : SlL H vb b) (hLa : a.length * 24 ≤ 140737488355328) (hLb : b.length * 24 ≤ 140737488355328) :
    C1 E2 4 [.one va, .one vb] H fun r _ => r = .one (.b true) := by
  refine C1.body (E := E2) (nt := 105) (res := [.tmp 4]) Tryz.func4 rfl rfl rfl rfl rfl fun tm hargs => ?_
  have h0 := hargs 0 _ rfl
  have h1 := hargs 1 _ rfl
  clear hargs
  repeat' first | refine R1.ret ?_ | refine R1.exit ?_ | refine R1.skip ?_ | refine R1.s_ret ?_ | refine R1.s_exit ?_ | refine R1.s_assoc ?_ | refine R1.s_skip ?_ | refine R1.s_scope ?_ | ((first | refine R1.e_rg fun K hK => ?_ | refine R1.s_rg fun K hK => ?_ | refine R1.e_sq (by kernel_rfl) fun K hK => ?_ | refine R1.s_sq (by kernel_rfl) fun K hK => ?_); simp only [SG_nil, SG_cons, SU_yes, gw_n, gOf_n, List.map_cons, List.map_nil, Nat.zero_lt_succ, SK_move, SK_assign, SK_call, evTmp, ev_bool, ev_func, evs_cons, evs_nil, slot_put, putD_nt, slotOk, Nat.blt_eq, Nat.reduceLT, true_and, if_true, if_false, eqLt, eqGt, E2_P]; refine hK _ _ ?_; clear hK K)
  refine R1.s_rg fun K hK => ?_
  simp only [SG_cons, SU_yes, gw_n, gOf_n, List.map_cons, List.map_nil, Nat.zero_lt_succ, SK_move, SK_call, doCall_clo, doCall_clo, evTmp, ev_func, evs_cons, evs_nil, slot_put, putD_nt, slotOk, Nat.blt_eq, Nat.reduceLT, true_and, if_true, if_false, eqLt, eqGt, capArgs_nil, List.append_nil, E2_P, h0, body12]
  refine WE.con (copy_con _ a va ha hLa) fun v2 H2 f2 ⟨vx, hv, hx⟩ => ?_
  subst hv
  simp only [SG_cons, SU_yes, gw_n, SK_move, SK_call, doCall_clo, doCall_clo, evTmp, ev_func, evs_cons, evs_nil, slot_put, putD_nt, slotOk, Nat.blt_eq, Nat.reduceLT, true_and, if_true, if_false, eqLt, eqGt, capArgs_nil, List.append_nil, Nat.lt_add_one, E2_P, h1, body12]
  refine WE.con (copy_con _ b vb (hb.gr f2) hLb) fun v3 H3 f3 ⟨vy, hv, hy⟩ => ?_
  subst hv
  have g3 : Gr H H3 := f2.gr f3
  have hx := hx.gr f3
  simp only [SG_nil, SG_cons, SU_yes, gw_n, SK_assign, evTmp, slot_put, putD_nt, slotOk, Nat.blt_eq, Nat.reduceLT, true_and, if_true, if_false, eqLt, eqGt, Nat.lt_add_one]
  refine hK _ _ ?_
  clear hK K
  refine R1.s_rg fun K hK => ?_
  simp only [SG_cons, SU_yes, gw_n, gOf_n, List.map_cons, List.map_nil, SK_move, SK_call, doCall_clo, doCall_clo, evTmp, ev_func, evs_cons, evs_nil, slot_put, putD_nt, slotOk, Nat.blt_eq, Nat.reduceLT, true_and, if_true, if_false, eqLt, eqGt, capArgs_nil, List.append_nil, Nat.lt_add_one, E2_P, body8]
  refine WE.con (checkLots_con _ a vx hx) fun v4 H4 f4 hv => ?_
  subst hv
  have g4 := g3.gr f4
  have hx := hx.gr f4
  have hy := hy.gr f4
  simp only [SG_cons, SU_yes, gw_n, Nat.zero_lt_succ, SK_move, SK_call, doCall_clo, doCall_clo, evTmp, ev_func, evs_cons, evs_nil, slot_put, putD_nt, slotOk, Nat.blt_eq, Nat.reduceLT, true_and, if_true, if_false, eqLt, eqGt, capArgs_nil, List.append_nil, Nat.lt_add_one, E2_P, h0, body13]
  refine WE.con (refChk_con _ a va (ha.gr g4)) fun v5 H5 f5 hv => ?_
  subst hv
  have g5 := g4.gr f5
  have hx := hx.gr f5
  have hy := hy.gr f5
  simp only [SG_nil, SG_cons, SU_yes, gw_n, vN_val, SK_assign, SK_bin, evTmp, slot_put, putD_nt, slotOk, Nat.blt_eq, Nat.reduceLT, true_and, if_true, if_false, eqLt, eqGt, ii_eql, Nat.lt_add_one, beq_self_eq_true]
  refine hK _ _ ?_
  clear hK K
  clear f2 f3 f4 f5 g3 g4
  refine R1.s_rg fun K hK => ?_
  simp only [SG_cons, SU_yes, gw_n, gOf_n, List.map_cons, List.map_nil, SK_move, SK_call, doCall_clo, doCall_clo, evTmp, ev_func, evs_cons, evs_nil, slot_put, putD_nt, slotOk, Nat.blt_eq, Nat.reduceLT, true_and, if_true, if_false, eqLt, eqGt, capArgs_nil, List.append_nil, Nat.lt_add_one, E2_P, body14]
  refine WE.con (add_con _ a b vx vy hx hy) fun v6 H6 f6 ⟨vp, hv, hp⟩ => ?_
  subst hv
  have g6 := g5.gr f6
  have hx := hx.gr f6
  have hy := hy.gr f6
  simp only [SG_nil, SG_cons, SU_yes, gw_n, vN_val, SK_move, SK_assign, SK_extract, evTmp, slot_put, putD_nt, slotOk, Nat.blt_eq, Nat.reduceLT, true_and, if_true, if_false, eqLt, eqGt, ex_0, ex_1, Nat.lt_add_one]
  refine hK _ _ ?_
  clear hK K
  refine R1.s_rg fun K hK => ?_
  simp only [SG_cons, SU_yes, gw_n, gOf_n, List.map_cons, List.map_nil, Nat.zero_lt_succ, SK_move, SK_call, doCall_clo, doCall_clo, evTmp, ev_func, evs_cons, evs_nil, slot_put, putD_nt, slotOk, Nat.blt_eq, Nat.reduceLT, true_and, if_true, if_false, eqLt, eqGt, capArgs_nil, List.append_nil, Nat.lt_add_one, E2_P, h0, h1, body15]
  refine WE.con (refAdd_con _ a b va vb (ha.gr g6) (hb.gr g6)) fun v7 H7 f7 ⟨vq, hv, hq⟩ => ?_
  subst hv
  have g7 := g6.gr f7
  have hx := hx.gr f7
  have hy := hy.gr f7
  have hp := hp.gr f7
  simp only [SG_nil, SG_cons, SU_yes, gw_n, vN_val, SK_move, SK_assign, SK_extract, evTmp, slot_put, putD_nt, slotOk, Nat.blt_eq, Nat.reduceLT, true_and, if_true, if_false, eqLt, eqGt, ex_0, ex_1, Nat.lt_add_one]
  refine hK _ _ ?_
  clear hK K
  have hl1 : (combC 1 a b).1.length ≤ 4611686018427387904 := by have := comb_len 1 a b; omega
  have hl2 : (combC (-1) a b).1.length ≤ 4611686018427387904 := by have := comb_len (-1) a b; omega
  refine R1.s_rg fun K hK => ?_
  simp only [SG_cons, SU_yes, gw_n, gw_gwv, gwv_b, gOf_n, gOf_some, List.map_cons, List.map_nil, List.getElem?_cons_zero, List.getElem?_cons_succ, Option.elim_some, SK_move, SK_call, doCall_clo, doCall_clo, evTmp, ev_func, evs_cons, evs_nil, slot_put, putD_nt, slotOk, Nat.blt_eq, Nat.reduceLT, true_and, if_true, if_false, eqLt, eqGt, capArgs_nil, List.append_nil, Nat.lt_add_one, E2_P, body16]
  refine WE.con (same_con _ _ _ vp vq hp hq hl1) fun v8 H8 f8 hv => ?_
  rw [decide_eq_true rfl] at hv
  subst hv
  have g8 := g7.gr f8
  have hx := hx.gr f8
  have hy := hy.gr f8
  simp only [SG_nil, SG_cons, SU_yes, gw_n, gw_gwv, gwv_b, vN_val, pkN_b, SK_move, SK_assign, SK_pick, SK_bin, evTmp, ev_bool, slot_put, putD_nt, slotOk, Nat.blt_eq, Nat.reduceLT, true_and, if_true, if_false, eqLt, eqGt, ii_eql, Nat.lt_add_one, beq_self_eq_true]
  refine hK _ _ ?_
  clear hK K
  clear f6 f7 f8 g5 g6 g7 hp hq
  refine R1.s_rg fun K hK => ?_
  simp only [SG_cons, SU_yes, gw_n, gOf_n, List.map_cons, List.map_nil, SK_move, SK_call, doCall_clo, doCall_clo, evTmp, ev_func, evs_cons, evs_nil, slot_put, putD_nt, slotOk, Nat.blt_eq, Nat.reduceLT, true_and, if_true, if_false, eqLt, eqGt, capArgs_nil, List.append_nil, Nat.lt_add_one, E2_P, body17]
  refine WE.con (sub_con _ a b vx vy hx hy) fun v9 H9 f9 ⟨vp, hv, hp⟩ => ?_
  subst hv
  have g9 := g8.gr f9
  have hx := hx.gr f9
  have hy := hy.gr f9
  simp only [SG_nil, SG_cons, SU_yes, gw_n, vN_val, SK_move, SK_assign, SK_extract, evTmp, slot_put, putD_nt, slotOk, Nat.blt_eq, Nat.reduceLT, true_and, if_true, if_false, eqLt, eqGt, ex_0, ex_1, Nat.lt_add_one]
  refine hK _ _ ?_
  clear hK K
  refine R1.s_rg fun K hK => ?_
  simp only [SG_cons, SU_yes, gw_n, gOf_n, List.map_cons, List.map_nil, Nat.zero_lt_succ, SK_move, SK_call, doCall_clo, doCall_clo, evTmp, ev_func, evs_cons, evs_nil, slot_put, putD_nt, slotOk, Nat.blt_eq, Nat.reduceLT, true_and, if_true, if_false, eqLt, eqGt, capArgs_nil, List.append_nil, Nat.lt_add_one, E2_P, h0, h1, body18]
  refine WE.con (refSub_con _ a b va vb (ha.gr g9) (hb.gr g9)) fun v10 H10 f10 ⟨vq, hv, hq⟩ => ?_
  subst hv
  have g10 := g9.gr f10
  have hx := hx.gr f10
  have hy := hy.gr f10
  have hp := hp.gr f10
  simp only [SG_nil, SG_cons, SU_yes, gw_n, vN_val, SK_move, SK_assign, SK_extract, evTmp, slot_put, putD_nt, slotOk, Nat.blt_eq, Nat.reduceLT, true_and, if_true, if_false, eqLt, eqGt, ex_0, ex_1, Nat.lt_add_one]
  refine hK _ _ ?_
  clear hK K
  refine R1.s_rg fun K hK => ?_
  simp only [SG_cons, SU_yes, gw_n, gw_gwv, gwv_b, gOf_n, gOf_some, List.map_cons, List.map_nil, List.getElem?_cons_zero, List.getElem?_cons_succ, Option.elim_some, SK_move, SK_call, doCall_clo, doCall_clo, evTmp, ev_func, evs_cons, evs_nil, slot_put, putD_nt, slotOk, Nat.blt_eq, Nat.reduceLT, true_and, if_true, if_false, eqLt, eqGt, capArgs_nil, List.append_nil, Nat.lt_add_one, E2_P, body16]
  refine WE.con (same_con _ _ _ vp vq hp hq hl2) fun v11 H11 f11 hv => ?_
  rw [decide_eq_true rfl] at hv
  subst hv
  have g11 := g10.gr f11
  have hx := hx.gr f11
  have hy := hy.gr f11
  simp only [SG_nil, SG_cons, SU_yes, gw_n, gw_gwv, gwv_b, vN_val, pkN_b, SK_move, SK_assign, SK_pick, SK_bin, evTmp, ev_bool, slot_put, putD_nt, slotOk, Nat.blt_eq, Nat.reduceLT, true_and, if_true, if_false, eqLt, eqGt, ii_eql, Nat.lt_add_one, beq_self_eq_true]
  refine hK _ _ ?_
  clear hK K
  clear f9 f10 f11 g8 g9 g10 hp hq
  refine R1.s_rg fun K hK => ?_
  simp only [SG_cons, SU_yes, gw_n, gOf_n, List.map_cons, List.map_nil, SK_move, SK_call, doCall_clo, doCall_clo, evTmp, ev_func, evs_cons, evs_nil, slot_put, putD_nt, slotOk, Nat.blt_eq, Nat.reduceLT, true_and, if_true, if_false, eqLt, eqGt, capArgs_nil, List.append_nil, Nat.lt_add_one, E2_P, body10]
  refine WE.con (covers_con _ a b vx vy hx hy) fun v12 H12 f12 hv => ?_
  subst hv
  have g12 := g11.gr f12
  have hx := hx.gr f12
  have hy := hy.gr f12
  simp only [SG_nil, SG_cons, SU_yes, gw_n, vN_val, SK_move, SK_assign, SK_extract, evTmp, slot_put, putD_nt, slotOk, Nat.blt_eq, Nat.reduceLT, true_and, if_true, if_false, eqLt, eqGt, ex_0, ex_1, Nat.lt_add_one]
  refine hK _ _ ?_
  clear hK K
  refine R1.s_rg fun K hK => ?_
  simp only [SG_cons, SU_yes, gw_n, gOf_n, List.map_cons, List.map_nil, Nat.zero_lt_succ, SK_move, SK_call, doCall_clo, doCall_clo, evTmp, ev_func, evs_cons, evs_nil, slot_put, putD_nt, slotOk, Nat.blt_eq, Nat.reduceLT, true_and, if_true, if_false, eqLt, eqGt, capArgs_nil, List.append_nil, Nat.lt_add_one, E2_P, h0, h1, body19]
  refine WE.con (refCov_con _ a b va vb (ha.gr g12) (hb.gr g12)) fun v13 H13 f13 hv => ?_
  subst hv
  have g13 := g12.gr f13
  have hx := hx.gr f13
  have hy := hy.gr f13
  simp only [SG_nil, SG_cons, SU_yes, gw_n, vN_val, SK_move, SK_assign, SK_extract, evTmp, slot_put, putD_nt, slotOk, Nat.blt_eq, Nat.reduceLT, true_and, if_true, if_false, eqLt, eqGt, ex_0, ex_1, Nat.lt_add_one]
  refine hK _ _ ?_
  clear hK K
  refine R1.s_rg fun K hK => ?_
  simp only [SG_cons, SU_yes, gw_n, gw_gwv, gwv_b, gOf_n, gOf_some, List.map_cons, List.map_nil, List.getElem?_cons_zero, List.getElem?_cons_succ, Option.elim_some, vN_val, pkN_b, Nat.zero_lt_succ, SK_move, SK_pick, SK_bin, SK_call, doCall_clo, doCall_clo, evTmp, ev_bool, ev_func, evs_cons, evs_nil, slot_put, putD_nt, slotOk, Nat.blt_eq, Nat.reduceLT, true_and, if_true, if_false, eqLt, eqGt, capArgs_nil, List.append_nil, ii_eql, Nat.lt_add_one, bin_b, bool2_b, E2_P, h0, body16, plain_beql und4, beq_self_eq_true]
  refine WE.con (same_con _ _ _ vx va hx (ha.gr g13) (by omega)) fun v14 H14 f14 hv => ?_
  rw [decide_eq_true rfl] at hv
  subst hv
  simp only [SG_cons, SU_yes, gw_n, gw_gwv, gwv_b, pkN_b, SK_move, SK_pick, SK_call, doCall_clo, doCall_clo, evTmp, ev_bool, ev_func, evs_cons, evs_nil, slot_put, putD_nt, slotOk, Nat.blt_eq, Nat.reduceLT, true_and, if_true, if_false, eqLt, eqGt, capArgs_nil, List.append_nil, Nat.lt_add_one, E2_P, h1, body16]
  refine WE.con (same_con _ _ _ vy vb (hy.gr f14) (hb.gr (g13.gr f14)) (by omega)) fun v15 H15 f15 hv => ?_
  rw [decide_eq_true rfl] at hv
  subst hv
  simp only [SG_cons, SU_yes, gw_n, gw_gwv, gwv_b, pkN_b, SK_move, SK_pick, SK_call, doCall_clo, doCall_clo, evTmp, ev_bool, ev_func, evs_nil, slot_put, putD_nt, slotOk, Nat.blt_eq, Nat.reduceLT, true_and, if_true, if_false, eqLt, eqGt, capArgs_nil, List.append_nil, Nat.lt_add_one, E2_P, body9]
  refine WE.prim works_p fun H7 f7 n7 e7 => ?_
  simp only [SG_nil, SG_cons, SU_yes, gw_n, pkN_b, SK_assign, SK_pick, evTmp, ev_bool, slot_put, putD_nt, slotOk, Nat.blt_eq, Nat.reduceLT, true_and, if_true, if_false, eqLt, eqGt, Nat.lt_add_one]
  refine hK _ _ ?_
  clear hK K
  repeat' first | refine R1.ret ?_ | refine R1.exit ?_ | refine R1.skip ?_ | refine R1.s_ret ?_ | refine R1.s_exit ?_ | refine R1.s_assoc ?_ | refine R1.s_skip ?_ | refine R1.s_scope ?_ | ((first | refine R1.e_rg fun K hK => ?_ | refine R1.s_rg fun K hK => ?_ | refine R1.e_sq (by kernel_rfl) fun K hK => ?_ | refine R1.s_sq (by kernel_rfl) fun K hK => ?_); simp only [SG_nil, SG_cons, SU_yes, SU_no, gw_n, gw_gwv, gwv_b, gwv_u, gOf_n, gOf_some, List.map_cons, List.map_nil, List.getElem?_cons_zero, List.getElem?_cons_succ, Option.elim_some, Option.map_some, Option.bind_some, optP_some, boolP_b, boolP'_b, boolE_b, decide_eq_true_eq, decide_true, decide_false, valP_val, valP_guard, vN_val, ldN_some, stN_some, faN_some, iaN_some, lnN_some, pkN_b, sliceO_some, slice_lo, slice_hi, slice_1, indexAddr_0, Nat.add_one_sub_one, Nat.one_mul, len_sl, len_ns, len_str', posS, eq0S, cast0, Int.reduceLT, Int.reduceLE, Int.reduceBEq, Option.map_none, Nat.lt_add_left_iff_pos, Nat.zero_lt_succ, Nat.le_add_left, SK_move, SK_assign, SK_pick, SK_alloc, SK_box, SK_load, SK_store, SK_bin, SK_not, SK_fieldAddr, SK_field, SK_indexAddr, SK_slice, SK_extract, SK_nilCheck, SK_makeFunc, SK_makeMap, SK_makeSlice, SK_build, SK_buildSlice, SK_len, SK_append, SK_call, doCall_clo, doCall_clo, evTmp, ev_int, ev_bool, ev_str, ev_nilS, ev_func, opFev, evs_cons, evs_nil, slot_put, putD_nt, putD_none, putD_dfr, slotOk, Nat.blt_eq, Nat.reduceLT, Nat.reduceEqDiff, Nat.reduceLeDiff, reduceIte, true_and, and_true, true_or, or_true, if_true, if_false, Bool.false_eq_true, Bool.true_eq_false, not_false_eq_true, not_true_eq_false, ltV_ptr, ltV_sl, ltV_nil, ltV_str, ltV_i, nxNew, nxMod, get_newE, get_newL, get_modE, get_modN, ltAdd, ltSelf, eqLt, eqGt, eqLtA, eqGtA, eqSelfA, eqASelf, eqAA, ltAA, doLoad_ptr, doStore_ptr, rowOf_arr, rowOf_ro, ldO_agg, ldO_one, stO_arr, splice_eq, fieldAddr_at, Bool.not_eq_true', Bool.not_eq_false', decide_eq_false_iff_not, ne_eq, Nat.reduceLeDiff, Nat.lt_irrefl, gt_iff_lt, cells_one, cells_agg, noTup_one, noTup_agg, List.length_cons, List.length_nil, Nat.zero_add, Nat.add_zero, Nat.reduceAdd, Nat.reduceSub, Nat.reduceMul, Nat.le_refl, Nat.zero_le, capsOf_nil, capsOf_cons, capArgs_nil, capArgs_cons, List.cons_append, List.nil_append, List.append_nil, ex_0, ex_0a, ex_1, ex_1a, ex_2, ex_2a, ii_lss, ii_leq, ii_gtr, ii_geq, ii_eql, ii_neq, ii_add, ii_sub, ii_mul, ss_lss, ss_geq, ss_leq, ss_gtr, ss_eql, ss_neq, List.take_succ_cons, List.take_zero, List.drop_succ_cons, List.drop_zero, List.take_nil, List.drop_nil, List.headD_cons, Bool.not_true, Bool.not_false, Nat.lt_add_one, bin_agg, bin_b, agg2_agg, bool2_b, aggEq_nil, aggEq_s, aggEq_i, aggEq_b, aggO_some, fill_nil, fill_cons, Nat.zero_mul, partsF_nil, partsF_cons, repl_one]; refine hK _ _ ?_; clear hK K)
  exact ⟨_, _, callEnd_one (.b true) (.inr rfl) rfl (by simp only [slot_put, Nat.reduceEqDiff, reduceIte]), rfl⟩
end Go.Proofs.YtndipbefnipnpaaGreat
