/- The reference's good, gathers, CheckGoods; CopyTexts, CopyGoods: what they answer. -/
import Derived.Test.YtiejeicaaojdlaaGreatBkRef4
namespace Go.Proofs.YtiejeicaaojdlaaGreat
open Go Go.Eng

theorem bd_rGood : hasBody Tryz.prog 38 = true := by kernel_rfl
theorem bd_rGathers : hasBody Tryz.prog 40 = true := by kernel_rfl
theorem bd_rCheckGoods : hasBody Tryz.prog 10 = true := by kernel_rfl
theorem bd_copyTexts : hasBody Tryz.prog 36 = true := by kernel_rfl
theorem bd_copyGoods : hasBody Tryz.prog 9 = true := by kernel_rfl

set_option maxRecDepth 10000 in
set_option maxHeartbeats 4000000 in
theorem rGood_con (H : Hp) (v : AC) (gs : List Gd) (s : List UInt8) (hv : SlG H v gs) (hL : gs.length ≤ 1000000) :
    Con E2 38 [.one v, .one (.o (.str s))] H (fun _ => False) fun r _ => r = .one (.i .i64 (idxG 0 gs s)) := by
  refine Con.of rfl fun lg => ?_
  have hv : SlG ⟨H.t, H.nx, lg⟩ v gs := hv
  generalize (⟨H.t, H.nx, lg⟩ : Hp) = H at hv ⊢
  refine C1.body (E := E2) (nt := 20) (res := [.tmp 4]) Tryz.func38 rfl rfl rfl rfl rfl fun tm hargs => ?_
  have h0 := hargs 0 _ rfl
  have h1 := hargs 1 _ rfl
  clear hargs
  generalize hr0 : idxG 0 gs s = r0
  repeat' first | refine R1.ret ?_ | refine R1.exit ?_ | refine R1.skip ?_ | refine R1.s_ret ?_ | refine R1.s_exit ?_ | refine R1.s_assoc ?_ | refine R1.s_skip ?_ | refine R1.s_scope ?_ | ((first | refine R1.e_rg fun K hK => ?_ | refine R1.s_rg fun K hK => ?_ | refine R1.e_sq (by kernel_rfl) fun K hK => ?_ | refine R1.s_sq (by kernel_rfl) fun K hK => ?_); simp only [SG_nil, SG_cons, SU_yes, gw_n, gOf_n, List.map_cons, List.map_nil, SK_assign, ev_int, putD_nt, slotOk, Nat.blt_eq, Nat.reduceLT, true_and]; refine hK _ _ ?_; clear hK K)
  refine R1.s_block fun K k1 k2 k3 k4 => ?_
  refine R1.loop (fun k A H1 => ∃ i : Nat, k = gs.length - i ∧ i ≤ gs.length ∧ H1 = H ∧ idxG i (gs.drop i) s = r0 ∧ slot A.tm 0 = .one v ∧ slot A.tm 1 = .one (.o (.str s)) ∧ slot A.tm 5 = .one (.i .i64 (i : Int)) ∧ A.nt = 20 ∧ A.dfr = []) ?_ gs.length
    ⟨0, rfl, Nat.zero_le _, rfl, hr0, ?_⟩
  · clear h0 h1 tm
    rintro k A H1 ⟨i, rfl, hi, rfl, hr, t0, t1, t5, hnt, hdf⟩
    repeat' first | refine R1.ret ?_ | refine R1.exit ?_ | refine R1.skip ?_ | refine R1.s_ret ?_ | refine R1.s_exit ?_ | refine R1.s_assoc ?_ | refine R1.s_skip ?_ | refine R1.s_scope ?_ | ((first | refine R1.e_rg fun K hK => ?_ | refine R1.s_rg fun K hK => ?_ | refine R1.e_sq (by kernel_rfl) fun K hK => ?_ | refine R1.s_sq (by kernel_rfl) fun K hK => ?_); simp only [SG_nil, SG_cons, SU_yes, gw_n, gOf_n, List.map_cons, List.map_nil, vN_val, lnN_some, Nat.zero_lt_succ, SK_move, SK_bin, SK_len, evTmp, slot_put, putD_nt, slotOk, Nat.blt_eq, Nat.reduceLT, true_and, if_true, if_false, eqLt, eqGt, ii_lss, Nat.lt_add_one, E2_P, t0, t5, hnt, ln_goods, hv.len, hv.lt]; refine hK _ _ ?_; clear hK K)
    repeat refine R1.s_assoc ?_
    (first | refine R1.s_cnd fun Kx Ky hx hy => ?_ | refine R1.e_cnd fun Kx Ky hx hy => ?_); simp only [boolP'_b, decide_eq_true_eq, evTmp, slot_put, Nat.reduceLT, if_true, if_false, eqGt, Nat.lt_add_one]
    refine iteI (fun hc => hx ?_) (fun hc => hy ?_)
    · clear hx hy Kx Ky
      have hlt : i < gs.length := by omega
      obtain ⟨id, g, off, cells, rfl, hid, hgr, hat⟩ := hv.open (by omega)
      have ex : gs[i]? = some gs[i] := List.getElem?_eq_getElem hlt
      have hdr : gs.drop i = gs[i] :: gs.drop (i + 1) := List.drop_eq_getElem_cons hlt
      generalize gs[i] = x at ex hdr
      obtain ⟨u, hx1⟩ := hat i x ex
      have hw2 : IntKind.i64.wrap ((i : Int) + 1) = ((i + 1 : Nat) : Int) := by rw [wrapI (by omega) (by omega)]; omega
      rw [hdr, idxG] at hr
      repeat' first | refine R1.ret ?_ | refine R1.exit ?_ | refine R1.skip ?_ | refine R1.s_ret ?_ | refine R1.s_exit ?_ | refine R1.s_assoc ?_ | refine R1.s_skip ?_ | refine R1.s_scope ?_ | ((first | refine R1.e_rg fun K hK => ?_ | refine R1.s_rg fun K hK => ?_ | refine R1.e_sq (by kernel_rfl) fun K hK => ?_ | refine R1.s_sq (by kernel_rfl) fun K hK => ?_); simp only [SG_nil, SG_cons, SU_yes, SU_no, gw_n, gw_gwv, gwv_b, gwv_u, gOf_n, gOf_some, List.map_cons, List.map_nil, List.getElem?_cons_zero, List.getElem?_cons_succ, Option.elim_some, Option.map_some, Option.bind_some, optP_some, boolP_b, boolP'_b, boolE_b, decide_eq_true_eq, decide_true, decide_false, valP_val, valP_guard, vN_val, ldN_some, stN_some, faN_some, iaN_some, lnN_some, pkN_b, sliceO_some, slice_lo, slice_hi, slice_1, indexAddr_0, Nat.add_one_sub_one, Nat.one_mul, len_sl, len_ns, len_str', posS, eq0S, cast0, Int.reduceLT, Int.reduceLE, Int.reduceBEq, Option.map_none, Nat.lt_add_left_iff_pos, Nat.zero_lt_succ, Nat.le_add_left, SK_move, SK_assign, SK_pick, SK_alloc, SK_box, SK_load, SK_store, SK_bin, SK_not, SK_fieldAddr, SK_field, SK_indexAddr, SK_slice, SK_extract, SK_nilCheck, SK_makeFunc, SK_makeMap, SK_makeSlice, SK_build, SK_buildSlice, SK_len, SK_append, SK_call, doCall_clo, doCall_clo, evTmp, ev_int, ev_bool, ev_str, ev_nilS, ev_func, opFev, evs_cons, evs_nil, slot_put, putD_nt, putD_none, putD_dfr, slotOk, Nat.blt_eq, Nat.reduceLT, Nat.reduceEqDiff, Nat.reduceLeDiff, reduceIte, true_and, and_true, true_or, or_true, if_true, if_false, Bool.false_eq_true, Bool.true_eq_false, not_false_eq_true, not_true_eq_false, ltV_ptr, ltV_sl, ltV_nil, ltV_str, ltV_i, nxNew, nxMod, get_newE, get_newL, get_modE, get_modN, ltAdd, ltSelf, eqLt, eqGt, eqLtA, eqGtA, eqSelfA, eqASelf, eqAA, ltAA, doLoad_ptr, doStore_ptr, rowOf_arr, rowOf_ro, ldO_agg, ldO_one, stO_arr, splice_eq, fieldAddr_at, Bool.not_eq_true', Bool.not_eq_false', decide_eq_false_iff_not, ne_eq, Nat.reduceLeDiff, Nat.lt_irrefl, gt_iff_lt, cells_one, cells_agg, noTup_one, noTup_agg, List.length_cons, List.length_nil, Nat.zero_add, Nat.add_zero, Nat.reduceAdd, Nat.reduceSub, Nat.reduceMul, Nat.le_refl, Nat.zero_le, capsOf_nil, capsOf_cons, capArgs_nil, capArgs_cons, List.cons_append, List.nil_append, List.append_nil, ex_0, ex_0a, ex_1, ex_1a, ex_2, ex_2a, ii_lss, ii_leq, ii_gtr, ii_geq, ii_eql, ii_neq, ii_add, ii_sub, ii_mul, ss_lss, ss_geq, ss_leq, ss_gtr, ss_eql, ss_neq, List.take_succ_cons, List.take_zero, List.drop_succ_cons, List.drop_zero, List.take_nil, List.drop_nil, List.headD_cons, Bool.not_true, Bool.not_false, Nat.lt_add_one, bin_agg, bin_b, agg2_agg, bool2_b, aggEq_nil, aggEq_s, aggEq_i, aggEq_b, aggO_some, fill_nil, fill_cons, Nat.zero_mul, partsF_nil, partsF_cons, repl_one, SK_lookup, SK_mapUpdate, lkN_some, upN_some, ltV_mp, nilCheck_ptr, lookOut_f, lookOut_t, doCall_yl, ofValue_int, ofValue_bool, ev_nilP, ev_nilM, ev_nilF]; refine hK _ _ ?_; clear hK K)
      refine R1.s_block fun K2 q1 q2 q3 q4 => ?_
      repeat refine R1.s_assoc ?_
      refine R1.s_rg fun K hK => ?_
      simp only [SG_nil, SG_cons, SU_yes, gw_n, gOf_n, List.map_cons, List.map_nil, vN_val, ldN_some, faN_some, iaN_some, Nat.zero_lt_succ, SK_move, SK_load, SK_bin, SK_fieldAddr, SK_indexAddr, evTmp, slot_put, putD_nt, slotOk, Nat.blt_eq, Nat.reduceLT, Nat.reduceLeDiff, true_and, if_true, if_false, ltV_ptr, eqLt, eqGt, doLoad_ptr, ldO_one, fieldAddr_at, Nat.reduceLeDiff, Nat.zero_add, Nat.add_zero, Nat.reduceSub, Nat.le_refl, ss_eql, Nat.lt_add_one, E2_P, t0, t1, t5, hnt, el_goods, fd_good_0, ld_str, indexAddr_cast hlt, hid, hgr, hx1.f1, hx1.le1]
      refine hK _ _ ?_
      clear hK K
      by_cases hxs : x.1 = s
      · rw [if_pos hxs] at hr
        have ce : lEq x.1 s = true := by rw [lEq_eq, hxs, beq_self_eq_true]
        repeat refine R1.s_assoc ?_
        (first | refine R1.s_cnd fun Kx Ky hx hy => ?_ | refine R1.e_cnd fun Kx Ky hx hy => ?_); simp only [boolP'_b, evTmp, slot_put, Nat.reduceLT, if_true, if_false, eqGt, Nat.lt_add_one, ce]
        refine hx ?_
        clear hx hy Kx Ky
        repeat' first | refine R1.ret ?_ | refine R1.exit ?_ | refine R1.skip ?_ | refine R1.s_ret ?_ | refine R1.s_exit ?_ | refine R1.s_assoc ?_ | refine R1.s_skip ?_ | refine R1.s_scope ?_ | ((first | refine R1.e_rg fun K hK => ?_ | refine R1.s_rg fun K hK => ?_ | refine R1.e_sq (by kernel_rfl) fun K hK => ?_ | refine R1.s_sq (by kernel_rfl) fun K hK => ?_); simp only [SG_nil, SG_cons, SU_yes, gw_n, gOf_n, List.map_cons, List.map_nil, SK_move, SK_assign, evTmp, slot_put, putD_nt, slotOk, Nat.blt_eq, Nat.reduceLT, true_and, if_true, if_false, eqLt, eqGt, Nat.lt_add_one, hnt, t5]; refine hK _ _ ?_; clear hK K)
        exact q4 _ _ (k4 _ _ ⟨_, _, callEnd_one (.i .i64 (i : Int)) (.inr rfl) (by simp only [putD_dfr, hdf]) (by simp only [slot_put, Nat.reduceEqDiff, reduceIte]), Fr.refl _, fun _ => by rw [← hr]⟩)
      · rw [if_neg hxs] at hr
        have ce : lEq x.1 s = false := by rw [lEq_eq]; exact beq_false_of_ne hxs
        repeat refine R1.s_assoc ?_
        (first | refine R1.s_cnd fun Kx Ky hx hy => ?_ | refine R1.e_cnd fun Kx Ky hx hy => ?_); simp only [boolP'_b, evTmp, slot_put, Nat.reduceLT, if_true, if_false, Bool.false_eq_true, eqGt, Nat.lt_add_one, ce]
        refine hy ?_
        clear hx hy Kx Ky
        repeat' first | refine R1.ret ?_ | refine R1.exit ?_ | refine R1.skip ?_ | refine R1.s_ret ?_ | refine R1.s_exit ?_ | refine R1.s_assoc ?_ | refine R1.s_skip ?_ | refine R1.s_scope ?_ | ((first | refine R1.e_rg fun K hK => ?_ | refine R1.s_rg fun K hK => ?_ | refine R1.e_sq (by kernel_rfl) fun K hK => ?_ | refine R1.s_sq (by kernel_rfl) fun K hK => ?_); simp only [SG_nil, SG_cons, SU_yes, SU_no, gw_n, gw_gwv, gwv_b, gwv_u, gOf_n, gOf_some, List.map_cons, List.map_nil, List.getElem?_cons_zero, List.getElem?_cons_succ, Option.elim_some, Option.map_some, Option.bind_some, optP_some, boolP_b, boolP'_b, boolE_b, decide_eq_true_eq, decide_true, decide_false, valP_val, valP_guard, vN_val, ldN_some, stN_some, faN_some, iaN_some, lnN_some, pkN_b, sliceO_some, slice_lo, slice_hi, slice_1, indexAddr_0, Nat.add_one_sub_one, Nat.one_mul, len_sl, len_ns, len_str', posS, eq0S, cast0, Int.reduceLT, Int.reduceLE, Int.reduceBEq, Option.map_none, Nat.lt_add_left_iff_pos, Nat.zero_lt_succ, Nat.le_add_left, SK_move, SK_assign, SK_pick, SK_alloc, SK_box, SK_load, SK_store, SK_bin, SK_not, SK_fieldAddr, SK_field, SK_indexAddr, SK_slice, SK_extract, SK_nilCheck, SK_makeFunc, SK_makeMap, SK_makeSlice, SK_build, SK_buildSlice, SK_len, SK_append, SK_call, doCall_clo, doCall_clo, evTmp, ev_int, ev_bool, ev_str, ev_nilS, ev_func, opFev, evs_cons, evs_nil, slot_put, putD_nt, putD_none, putD_dfr, slotOk, Nat.blt_eq, Nat.reduceLT, Nat.reduceEqDiff, Nat.reduceLeDiff, reduceIte, true_and, and_true, true_or, or_true, if_true, if_false, Bool.false_eq_true, Bool.true_eq_false, not_false_eq_true, not_true_eq_false, ltV_ptr, ltV_sl, ltV_nil, ltV_str, ltV_i, nxNew, nxMod, get_newE, get_newL, get_modE, get_modN, ltAdd, ltSelf, eqLt, eqGt, eqLtA, eqGtA, eqSelfA, eqASelf, eqAA, ltAA, doLoad_ptr, doStore_ptr, rowOf_arr, rowOf_ro, ldO_agg, ldO_one, stO_arr, splice_eq, fieldAddr_at, Bool.not_eq_true', Bool.not_eq_false', decide_eq_false_iff_not, ne_eq, Nat.reduceLeDiff, Nat.lt_irrefl, gt_iff_lt, cells_one, cells_agg, noTup_one, noTup_agg, List.length_cons, List.length_nil, Nat.zero_add, Nat.add_zero, Nat.reduceAdd, Nat.reduceSub, Nat.reduceMul, Nat.le_refl, Nat.zero_le, capsOf_nil, capsOf_cons, capArgs_nil, capArgs_cons, List.cons_append, List.nil_append, List.append_nil, ex_0, ex_0a, ex_1, ex_1a, ex_2, ex_2a, ii_lss, ii_leq, ii_gtr, ii_geq, ii_eql, ii_neq, ii_add, ii_sub, ii_mul, ss_lss, ss_geq, ss_leq, ss_gtr, ss_eql, ss_neq, List.take_succ_cons, List.take_zero, List.drop_succ_cons, List.drop_zero, List.take_nil, List.drop_nil, List.headD_cons, Bool.not_true, Bool.not_false, Nat.lt_add_one, bin_agg, bin_b, agg2_agg, bool2_b, aggEq_nil, aggEq_s, aggEq_i, aggEq_b, aggO_some, fill_nil, fill_cons, Nat.zero_mul, partsF_nil, partsF_cons, repl_one, SK_lookup, SK_mapUpdate, lkN_some, upN_some, ltV_mp, nilCheck_ptr, lookOut_f, lookOut_t, doCall_yl, ofValue_int, ofValue_bool, ev_nilP, ev_nilM, ev_nilF, hnt]; refine hK _ _ ?_; clear hK K)
        refine q1 _ _ ?_
        repeat' first | refine R1.ret ?_ | refine R1.exit ?_ | refine R1.skip ?_ | refine R1.s_ret ?_ | refine R1.s_exit ?_ | refine R1.s_assoc ?_ | refine R1.s_skip ?_ | refine R1.s_scope ?_ | ((first | refine R1.e_rg fun K hK => ?_ | refine R1.s_rg fun K hK => ?_ | refine R1.e_sq (by kernel_rfl) fun K hK => ?_ | refine R1.s_sq (by kernel_rfl) fun K hK => ?_); simp only [SG_nil, SG_cons, SU_yes, gw_n, gOf_n, List.map_cons, List.map_nil, vN_val, SK_move, SK_assign, SK_bin, evTmp, ev_int, slot_put, putD_nt, slotOk, Nat.blt_eq, Nat.reduceLT, true_and, if_true, if_false, eqLt, eqGt, ii_add, Nat.lt_add_one, hnt, t5, hw2]; refine hK _ _ ?_; clear hK K)
        refine ⟨gs.length - (i + 1), by omega, i + 1, rfl, hlt, rfl, hr, ?_, ?_, ?_, ?_, ?_⟩
        · simp only [slot_put, Nat.reduceEqDiff, reduceIte, t0]
        · simp only [slot_put, Nat.reduceEqDiff, reduceIte, t1]
        · simp only [slot_put, Nat.reduceEqDiff, reduceIte]
        · simp only [putD_nt, hnt]
        · simp only [putD_dfr, hdf]
    · clear hx hy Kx Ky
      have hie : i = gs.length := by omega
      rw [hie, List.drop_length, idxG] at hr
      repeat' first | refine R1.ret ?_ | refine R1.exit ?_ | refine R1.skip ?_ | refine R1.s_ret ?_ | refine R1.s_exit ?_ | refine R1.s_assoc ?_ | refine R1.s_skip ?_ | refine R1.s_scope ?_ | ((first | refine R1.e_rg fun K hK => ?_ | refine R1.s_rg fun K hK => ?_ | refine R1.e_sq (by kernel_rfl) fun K hK => ?_ | refine R1.s_sq (by kernel_rfl) fun K hK => ?_); simp only [SG_nil, SG_cons, SU_yes, SU_no, gw_n, gw_gwv, gwv_b, gwv_u, gOf_n, gOf_some, List.map_cons, List.map_nil, List.getElem?_cons_zero, List.getElem?_cons_succ, Option.elim_some, Option.map_some, Option.bind_some, optP_some, boolP_b, boolP'_b, boolE_b, decide_eq_true_eq, decide_true, decide_false, valP_val, valP_guard, vN_val, ldN_some, stN_some, faN_some, iaN_some, lnN_some, pkN_b, sliceO_some, slice_lo, slice_hi, slice_1, indexAddr_0, Nat.add_one_sub_one, Nat.one_mul, len_sl, len_ns, len_str', posS, eq0S, cast0, Int.reduceLT, Int.reduceLE, Int.reduceBEq, Option.map_none, Nat.lt_add_left_iff_pos, Nat.zero_lt_succ, Nat.le_add_left, SK_move, SK_assign, SK_pick, SK_alloc, SK_box, SK_load, SK_store, SK_bin, SK_not, SK_fieldAddr, SK_field, SK_indexAddr, SK_slice, SK_extract, SK_nilCheck, SK_makeFunc, SK_makeMap, SK_makeSlice, SK_build, SK_buildSlice, SK_len, SK_append, SK_call, doCall_clo, doCall_clo, evTmp, ev_int, ev_bool, ev_str, ev_nilS, ev_func, opFev, evs_cons, evs_nil, slot_put, putD_nt, putD_none, putD_dfr, slotOk, Nat.blt_eq, Nat.reduceLT, Nat.reduceEqDiff, Nat.reduceLeDiff, reduceIte, true_and, and_true, true_or, or_true, if_true, if_false, Bool.false_eq_true, Bool.true_eq_false, not_false_eq_true, not_true_eq_false, ltV_ptr, ltV_sl, ltV_nil, ltV_str, ltV_i, nxNew, nxMod, get_newE, get_newL, get_modE, get_modN, ltAdd, ltSelf, eqLt, eqGt, eqLtA, eqGtA, eqSelfA, eqASelf, eqAA, ltAA, doLoad_ptr, doStore_ptr, rowOf_arr, rowOf_ro, ldO_agg, ldO_one, stO_arr, splice_eq, fieldAddr_at, Bool.not_eq_true', Bool.not_eq_false', decide_eq_false_iff_not, ne_eq, Nat.reduceLeDiff, Nat.lt_irrefl, gt_iff_lt, cells_one, cells_agg, noTup_one, noTup_agg, List.length_cons, List.length_nil, Nat.zero_add, Nat.add_zero, Nat.reduceAdd, Nat.reduceSub, Nat.reduceMul, Nat.le_refl, Nat.zero_le, capsOf_nil, capsOf_cons, capArgs_nil, capArgs_cons, List.cons_append, List.nil_append, List.append_nil, ex_0, ex_0a, ex_1, ex_1a, ex_2, ex_2a, ii_lss, ii_leq, ii_gtr, ii_geq, ii_eql, ii_neq, ii_add, ii_sub, ii_mul, ss_lss, ss_geq, ss_leq, ss_gtr, ss_eql, ss_neq, List.take_succ_cons, List.take_zero, List.drop_succ_cons, List.drop_zero, List.take_nil, List.drop_nil, List.headD_cons, Bool.not_true, Bool.not_false, Nat.lt_add_one, bin_agg, bin_b, agg2_agg, bool2_b, aggEq_nil, aggEq_s, aggEq_i, aggEq_b, aggO_some, fill_nil, fill_cons, Nat.zero_mul, partsF_nil, partsF_cons, repl_one, SK_lookup, SK_mapUpdate, lkN_some, upN_some, ltV_mp, nilCheck_ptr, lookOut_f, lookOut_t, doCall_yl, ofValue_int, ofValue_bool, ev_nilP, ev_nilM, ev_nilF, hnt]; refine hK _ _ ?_; clear hK K)
      refine k2 _ _ ?_
      repeat' first | refine R1.ret ?_ | refine R1.exit ?_ | refine R1.skip ?_ | refine R1.s_ret ?_ | refine R1.s_exit ?_ | refine R1.s_assoc ?_ | refine R1.s_skip ?_ | refine R1.s_scope ?_ | ((first | refine R1.e_rg fun K hK => ?_ | refine R1.s_rg fun K hK => ?_ | refine R1.e_sq (by kernel_rfl) fun K hK => ?_ | refine R1.s_sq (by kernel_rfl) fun K hK => ?_); simp only [SG_nil, SG_cons, SU_yes, gw_n, gOf_n, List.map_cons, List.map_nil, SK_assign, ev_int, putD_nt, slotOk, Nat.blt_eq, Nat.reduceLT, true_and, hnt]; refine hK _ _ ?_; clear hK K)
      exact ⟨_, _, callEnd_one (.i .i64 (-1)) (.inr rfl) (by simp only [putD_dfr, hdf]) (by simp only [slot_put, Nat.reduceEqDiff, reduceIte]), Fr.refl _, fun _ => by rw [← hr]⟩
  · simp only [slot_put, Nat.reduceEqDiff, reduceIte, putD_nt, putD_dfr, h0, h1, and_self, true_and]
    exact ⟨rfl, trivial⟩

/-- A slice is appended to nil. -/
theorem app_nil {P : Program} {H : Hp} {t e : TypeId} {sz by_ n : Nat} {z : Value} {v : AC} {cells : List AC} (he : elemT P t = some (e, sz)) (hb : bytesT P e = some by_) (hz : zeroT P e = some z) (hzl : (ofValue z).cells.length = sz) (hsz : sz ≠ 0)
    (hv : SlC H v sz n cells) (h2 : n ≤ 140737488355328 ∧ n * by_ ≤ 140737488355328) : ∃ v' H', doAppend P H t (.one (.o .nilS)) (.one v) = .val (.one v') H' ∧ SlC H' v' sz n cells ∧ Gr H H' ∧ ∀ id ∈ (AV.one v').ids, H.nx ≤ id := by
  rcases hv with ⟨hc, ⟨rfl, rfl⟩ | ⟨id, g, off, rfl, hid, row, hg, hle, hcut⟩⟩
  · rw [Nat.zero_mul] at hc
    have hc := List.eq_nil_of_length_eq_zero hc
    subst hc
    exact ⟨.o .nilS, H, (append_new he hb hz hzl hsz srcOf_nil (by omega) (by omega)).trans (if_pos rfl), ⟨by simp, .inl ⟨rfl, rfl⟩⟩, Fr.refl _, fun _ h => by cases h⟩
  · have src : srcOf H sz (.one (.o (.sl id g off n sz))) = some (n, cells) := by rw [srcOf_row hg hle, hcut]
    rcases Nat.eq_zero_or_pos n with h0 | h0
    · exact ⟨.o .nilS, H, (append_new he hb hz hzl hsz src h2.1 h2.2).trans (if_pos h0), ⟨hc, .inl ⟨rfl, h0⟩⟩, Fr.refl _, fun _ h => by cases h⟩
    · refine ⟨.o (.sl H.nx 0 0 n sz), H.new (.arr cells e 0 0), (append_new he hb hz hzl hsz src h2.1 h2.2).trans (if_neg (by omega)), ⟨hc, .inr ⟨H.nx, 0, 0, rfl, Nat.lt_succ_self _, cells, by rw [get_newE rfl]; rfl, by omega, ?_⟩⟩, (Fr.refl _).new _, fun k h => by rw [List.mem_singleton.1 h]; exact Nat.le_refl _⟩
      rw [List.drop_zero, List.take_of_length_le (by omega)]

set_option maxRecDepth 10000 in
theorem copyTexts_con (H : Hp) (v : AC) (l : List (List UInt8)) (hv : SlS H v l) (hL : l.length * 16 ≤ 140737488355328) :
    Con E2 36 [.one v] H (fun _ => False) fun r H' => ∃ v', r = .one v' ∧ SlS H' v' l ∧ ∀ id ∈ (AV.one v').ids, H.nx ≤ id := by
  refine Con.of rfl fun lg => ?_
  have hv : SlS ⟨H.t, H.nx, lg⟩ v l := hv
  have e0 : H.nx = (⟨H.t, H.nx, lg⟩ : Hp).nx := rfl
  rw [e0]
  clear e0
  generalize (⟨H.t, H.nx, lg⟩ : Hp) = H at hv ⊢
  refine C1.body (E := E2) (nt := 7) (res := [.tmp 2]) Tryz.func36 rfl rfl rfl rfl rfl fun tm hargs => ?_
  have h0 := hargs 0 _ rfl
  clear hargs
  obtain ⟨z, hz, hzl⟩ := zx_str
  obtain ⟨v', H', happ, hs, hg, hi⟩ := app_nil (P := Tryz.prog) (t := 71) el_strs by_str hz hzl (by decide) hv (by omega)
  have hlt := hv.lt
  repeat' first | refine R1.ret ?_ | refine R1.exit ?_ | refine R1.skip ?_ | refine R1.s_ret ?_ | refine R1.s_exit ?_ | refine R1.s_assoc ?_ | refine R1.s_skip ?_ | refine R1.s_scope ?_ | ((first | refine R1.e_rg fun K hK => ?_ | refine R1.s_rg fun K hK => ?_ | refine R1.e_sq (by kernel_rfl) fun K hK => ?_ | refine R1.s_sq (by kernel_rfl) fun K hK => ?_); simp only [SG_nil, SG_cons, SU_yes, gw_n, gOf_n, List.map_cons, List.map_nil, Nat.zero_lt_succ, SK_move, SK_assign, SK_append, evTmp, ev_nilS, slot_put, putD_nt, slotOk, Nat.blt_eq, Nat.reduceLT, true_and, if_true, if_false, ltV_nil, eqLt, eqGt, Nat.lt_add_one]; refine hK _ _ ?_; clear hK K)
  repeat refine R1.s_assoc ?_
  refine R1.s_rg fun K hK => ?_
  simp only [SG_nil, SG_cons, SU_yes, gw_n, gOf_n, List.map_cons, List.map_nil, vN_val, Nat.zero_lt_succ, SK_move, SK_assign, SK_append, evTmp, slot_put, putD_nt, slotOk, Nat.blt_eq, Nat.reduceLT, true_and, and_true, if_true, if_false, ltV_nil, eqLt, eqGt, Nat.lt_add_one, E2_P, h0, happ, hlt]
  refine hK _ _ ?_
  clear hK K
  repeat' first | refine R1.ret ?_ | refine R1.exit ?_ | refine R1.skip ?_ | refine R1.s_ret ?_ | refine R1.s_exit ?_ | refine R1.s_assoc ?_ | refine R1.s_skip ?_ | refine R1.s_scope ?_ | ((first | refine R1.e_rg fun K hK => ?_ | refine R1.s_rg fun K hK => ?_ | refine R1.e_sq (by kernel_rfl) fun K hK => ?_ | refine R1.s_sq (by kernel_rfl) fun K hK => ?_); simp only [SG_nil, SG_cons, SU_yes, SU_no, gw_n, gw_gwv, gwv_b, gwv_u, gOf_n, gOf_some, List.map_cons, List.map_nil, List.getElem?_cons_zero, List.getElem?_cons_succ, Option.elim_some, Option.map_some, Option.bind_some, optP_some, boolP_b, boolP'_b, boolE_b, decide_eq_true_eq, decide_true, decide_false, valP_val, valP_guard, vN_val, ldN_some, stN_some, faN_some, iaN_some, lnN_some, pkN_b, sliceO_some, slice_lo, slice_hi, slice_1, indexAddr_0, Nat.add_one_sub_one, Nat.one_mul, len_sl, len_ns, len_str', posS, eq0S, cast0, Int.reduceLT, Int.reduceLE, Int.reduceBEq, Option.map_none, Nat.lt_add_left_iff_pos, Nat.zero_lt_succ, Nat.le_add_left, SK_move, SK_assign, SK_pick, SK_alloc, SK_box, SK_load, SK_store, SK_bin, SK_not, SK_fieldAddr, SK_field, SK_indexAddr, SK_slice, SK_extract, SK_nilCheck, SK_makeFunc, SK_makeMap, SK_makeSlice, SK_build, SK_buildSlice, SK_len, SK_append, SK_call, doCall_clo, doCall_clo, evTmp, ev_int, ev_bool, ev_str, ev_nilS, ev_func, opFev, evs_cons, evs_nil, slot_put, putD_nt, putD_none, putD_dfr, slotOk, Nat.blt_eq, Nat.reduceLT, Nat.reduceEqDiff, Nat.reduceLeDiff, reduceIte, true_and, and_true, true_or, or_true, if_true, if_false, Bool.false_eq_true, Bool.true_eq_false, not_false_eq_true, not_true_eq_false, ltV_ptr, ltV_sl, ltV_nil, ltV_str, ltV_i, nxNew, nxMod, get_newE, get_newL, get_modE, get_modN, ltAdd, ltSelf, eqLt, eqGt, eqLtA, eqGtA, eqSelfA, eqASelf, eqAA, ltAA, doLoad_ptr, doStore_ptr, rowOf_arr, rowOf_ro, ldO_agg, ldO_one, stO_arr, splice_eq, fieldAddr_at, Bool.not_eq_true', Bool.not_eq_false', decide_eq_false_iff_not, ne_eq, Nat.reduceLeDiff, Nat.lt_irrefl, gt_iff_lt, cells_one, cells_agg, noTup_one, noTup_agg, List.length_cons, List.length_nil, Nat.zero_add, Nat.add_zero, Nat.reduceAdd, Nat.reduceSub, Nat.reduceMul, Nat.le_refl, Nat.zero_le, capsOf_nil, capsOf_cons, capArgs_nil, capArgs_cons, List.cons_append, List.nil_append, List.append_nil, ex_0, ex_0a, ex_1, ex_1a, ex_2, ex_2a, ii_lss, ii_leq, ii_gtr, ii_geq, ii_eql, ii_neq, ii_add, ii_sub, ii_mul, ss_lss, ss_geq, ss_leq, ss_gtr, ss_eql, ss_neq, List.take_succ_cons, List.take_zero, List.drop_succ_cons, List.drop_zero, List.take_nil, List.drop_nil, List.headD_cons, Bool.not_true, Bool.not_false, Nat.lt_add_one, bin_agg, bin_b, agg2_agg, bool2_b, aggEq_nil, aggEq_s, aggEq_i, aggEq_b, aggO_some, fill_nil, fill_cons, Nat.zero_mul, partsF_nil, partsF_cons, repl_one, SK_lookup, SK_mapUpdate, lkN_some, upN_some, ltV_mp, nilCheck_ptr, lookOut_f, lookOut_t, doCall_yl, ofValue_int, ofValue_bool, ev_nilP, ev_nilM, ev_nilF]; refine hK _ _ ?_; clear hK K)
  exact ⟨_, _, callEnd_one v' (.inr rfl) rfl (by simp only [slot_put, Nat.reduceEqDiff, reduceIte]), hg, fun _ => ⟨v', rfl, hs, hi⟩⟩

set_option maxRecDepth 10000 in
set_option maxHeartbeats 8000000 in
theorem copyGoods_con (H : Hp) (v : AC) (gs : List Gd) (hv : SlG H v gs) (hL : gs.length * 56 ≤ 140737488355328) (hB : ∀ x ∈ gs, x.2.2.length * 16 ≤ 140737488355328) :
    Con E2 9 [.one v] H (fun _ => False) fun r H' => ∃ v', r = .one v' ∧ SlG H' v' gs := by
  refine Con.of rfl fun lg => ?_
  have hv : SlG ⟨H.t, H.nx, lg⟩ v gs := hv
  generalize (⟨H.t, H.nx, lg⟩ : Hp) = H at hv ⊢
  refine C1.body (E := E2) (nt := 32) (res := [.tmp 2]) Tryz.func9 rfl rfl rfl rfl rfl fun tm hargs => ?_
  have h0 := hargs 0 _ rfl
  clear hargs
  obtain ⟨z, hz, hzl⟩ := zx_good
  repeat' first | refine R1.ret ?_ | refine R1.exit ?_ | refine R1.skip ?_ | refine R1.s_ret ?_ | refine R1.s_exit ?_ | refine R1.s_assoc ?_ | refine R1.s_skip ?_ | refine R1.s_scope ?_ | ((first | refine R1.e_rg fun K hK => ?_ | refine R1.s_rg fun K hK => ?_ | refine R1.e_sq (by kernel_rfl) fun K hK => ?_ | refine R1.s_sq (by kernel_rfl) fun K hK => ?_); simp only [SG_nil, SG_cons, SU_yes, gw_n, gOf_n, List.map_cons, List.map_nil, SK_assign, ev_int, ev_nilS, putD_nt, slotOk, Nat.blt_eq, Nat.reduceLT, true_and]; refine hK _ _ ?_; clear hK K)
  refine R1.s_block fun K k1 k2 k3 k4 => ?_
  refine R1.loop (fun k A H1 => ∃ (i : Nat) (v3 : AC) (r : Option Nat) (css : List (List AC)), k = gs.length - i ∧ i ≤ gs.length ∧ Gr H H1 ∧ OwnR H1 v3 73 3 i (css.flatMap id) r ∧ (∀ q, r = some q → H.nx ≤ q ∧ q < H1.nx) ∧
    Al (fun c x => c.length = 3 ∧ ∃ u, c = [.o (.str x.1), .o (.str x.2.1), u] ∧ SlS H1 u x.2.2 ∧ ∀ id ∈ (AV.one u).ids, some id ≠ r) css (gs.take i) ∧
    slot A.tm 0 = .one v ∧ slot A.tm 3 = .one v3 ∧ slot A.tm 4 = .one (.i .i64 (i : Int)) ∧ A.nt = 32 ∧ A.dfr = []) ?_ gs.length
    ⟨0, .o .nilS, none, [], rfl, Nat.zero_le _, Fr.refl _, .inl ⟨rfl, rfl, rfl, rfl⟩, fun q hq => (by cases hq), trivial, ?_⟩
  · clear h0 tm
    rintro k A H1 ⟨i, v3, r, css, rfl, hi, g1, hown, hrow, hal, t0, t3, t4, hnt, hdf⟩
    have hv1 := hv.gr g1
    repeat' first | refine R1.ret ?_ | refine R1.exit ?_ | refine R1.skip ?_ | refine R1.s_ret ?_ | refine R1.s_exit ?_ | refine R1.s_assoc ?_ | refine R1.s_skip ?_ | refine R1.s_scope ?_ | ((first | refine R1.e_rg fun K hK => ?_ | refine R1.s_rg fun K hK => ?_ | refine R1.e_sq (by kernel_rfl) fun K hK => ?_ | refine R1.s_sq (by kernel_rfl) fun K hK => ?_); simp only [SG_nil, SG_cons, SU_yes, gw_n, gOf_n, List.map_cons, List.map_nil, vN_val, lnN_some, Nat.zero_lt_succ, SK_move, SK_bin, SK_len, evTmp, slot_put, putD_nt, slotOk, Nat.blt_eq, Nat.reduceLT, true_and, if_true, if_false, eqLt, eqGt, ii_lss, Nat.lt_add_one, E2_P, t0, t4, hnt, ln_goods, hv1.len, hv1.lt]; refine hK _ _ ?_; clear hK K)
    repeat refine R1.s_assoc ?_
    (first | refine R1.s_cnd fun Kx Ky hx hy => ?_ | refine R1.e_cnd fun Kx Ky hx hy => ?_); simp only [boolP'_b, decide_eq_true_eq, evTmp, slot_put, Nat.reduceLT, if_true, if_false, eqGt, Nat.lt_add_one]
    refine iteI (fun hc => hx ?_) (fun hc => hy ?_)
    · clear hx hy Kx Ky
      have hlt : i < gs.length := by omega
      obtain ⟨id, g, off, cells, rfl, hid, hgr, hat⟩ := hv1.open (by omega)
      have ex : gs[i]? = some gs[i] := List.getElem?_eq_getElem hlt
      have htk : gs.take (i + 1) = gs.take i ++ [gs[i]] := List.take_succ_eq_append_getElem hlt
      have hBx := hB gs[i] (List.getElem_mem hlt)
      generalize gs[i] = x at ex htk hBx
      obtain ⟨u, hx1⟩ := hat i x ex
      have hw2 : IntKind.i64.wrap ((i : Int) + 1) = ((i + 1 : Nat) : Int) := by rw [wrapI (by omega) (by omega)]; omega
      repeat' first | refine R1.ret ?_ | refine R1.exit ?_ | refine R1.skip ?_ | refine R1.s_ret ?_ | refine R1.s_exit ?_ | refine R1.s_assoc ?_ | refine R1.s_skip ?_ | refine R1.s_scope ?_ | ((first | refine R1.e_rg fun K hK => ?_ | refine R1.s_rg fun K hK => ?_ | refine R1.e_sq (by kernel_rfl) fun K hK => ?_ | refine R1.s_sq (by kernel_rfl) fun K hK => ?_); simp only [SG_nil, SG_cons, SU_yes, SU_no, gw_n, gw_gwv, gwv_b, gwv_u, gOf_n, gOf_some, List.map_cons, List.map_nil, List.getElem?_cons_zero, List.getElem?_cons_succ, Option.elim_some, Option.map_some, Option.bind_some, optP_some, boolP_b, boolP'_b, boolE_b, decide_eq_true_eq, decide_true, decide_false, valP_val, valP_guard, vN_val, ldN_some, stN_some, faN_some, iaN_some, lnN_some, pkN_b, sliceO_some, slice_lo, slice_hi, slice_1, indexAddr_0, Nat.add_one_sub_one, Nat.one_mul, len_sl, len_ns, len_str', posS, eq0S, cast0, Int.reduceLT, Int.reduceLE, Int.reduceBEq, Option.map_none, Nat.lt_add_left_iff_pos, Nat.zero_lt_succ, Nat.le_add_left, SK_move, SK_assign, SK_pick, SK_alloc, SK_box, SK_load, SK_store, SK_bin, SK_not, SK_fieldAddr, SK_field, SK_indexAddr, SK_slice, SK_extract, SK_nilCheck, SK_makeFunc, SK_makeMap, SK_makeSlice, SK_build, SK_buildSlice, SK_len, SK_append, SK_call, doCall_clo, doCall_clo, evTmp, ev_int, ev_bool, ev_str, ev_nilS, ev_func, opFev, evs_cons, evs_nil, slot_put, putD_nt, putD_none, putD_dfr, slotOk, Nat.blt_eq, Nat.reduceLT, Nat.reduceEqDiff, Nat.reduceLeDiff, reduceIte, true_and, and_true, true_or, or_true, if_true, if_false, Bool.false_eq_true, Bool.true_eq_false, not_false_eq_true, not_true_eq_false, ltV_ptr, ltV_sl, ltV_nil, ltV_str, ltV_i, nxNew, nxMod, get_newE, get_newL, get_modE, get_modN, ltAdd, ltSelf, eqLt, eqGt, eqLtA, eqGtA, eqSelfA, eqASelf, eqAA, ltAA, doLoad_ptr, doStore_ptr, rowOf_arr, rowOf_ro, ldO_agg, ldO_one, stO_arr, splice_eq, fieldAddr_at, Bool.not_eq_true', Bool.not_eq_false', decide_eq_false_iff_not, ne_eq, Nat.reduceLeDiff, Nat.lt_irrefl, gt_iff_lt, cells_one, cells_agg, noTup_one, noTup_agg, List.length_cons, List.length_nil, Nat.zero_add, Nat.add_zero, Nat.reduceAdd, Nat.reduceSub, Nat.reduceMul, Nat.le_refl, Nat.zero_le, capsOf_nil, capsOf_cons, capArgs_nil, capArgs_cons, List.cons_append, List.nil_append, List.append_nil, ex_0, ex_0a, ex_1, ex_1a, ex_2, ex_2a, ii_lss, ii_leq, ii_gtr, ii_geq, ii_eql, ii_neq, ii_add, ii_sub, ii_mul, ss_lss, ss_geq, ss_leq, ss_gtr, ss_eql, ss_neq, List.take_succ_cons, List.take_zero, List.drop_succ_cons, List.drop_zero, List.take_nil, List.drop_nil, List.headD_cons, Bool.not_true, Bool.not_false, Nat.lt_add_one, bin_agg, bin_b, agg2_agg, bool2_b, aggEq_nil, aggEq_s, aggEq_i, aggEq_b, aggO_some, fill_nil, fill_cons, Nat.zero_mul, partsF_nil, partsF_cons, repl_one, SK_lookup, SK_mapUpdate, lkN_some, upN_some, ltV_mp, nilCheck_ptr, lookOut_f, lookOut_t, doCall_yl, ofValue_int, ofValue_bool, ev_nilP, ev_nilM, ev_nilF]; refine hK _ _ ?_; clear hK K)
      refine R1.s_block fun K2 q1 q2 q3 q4 => ?_
      repeat refine R1.s_assoc ?_
      (first | refine R1.s_sg (by kernel_rfl) fun K hK => ?_ | refine R1.e_sg (by kernel_rfl) fun K hK => ?_)
      simp only [SG_cons, SU_yes, gw_n, gOf_n, List.map_cons, List.map_nil, vN_val, ldN_some, faN_some, iaN_some, Nat.add_one_sub_one, Nat.zero_lt_succ, SK_move, SK_load, SK_fieldAddr, SK_indexAddr, SK_call, doCall_clo, doCall_clo, evTmp, ev_func, evs_cons, evs_nil, slot_put, putD_nt, slotOk, Nat.blt_eq, Nat.reduceLT, Nat.reduceLeDiff, true_and, if_true, if_false, ltV_ptr, eqLt, eqGt, doLoad_ptr, ldO_one, fieldAddr_at, Nat.reduceLeDiff, Nat.zero_add, Nat.add_zero, Nat.reduceAdd, Nat.reduceSub, Nat.le_refl, capArgs_nil, List.append_nil, Nat.lt_add_one, E2_P, t0, t3, t4, hnt, el_goods, fd_good_0, fd_good_1, fd_good_2, ld_str, ld_strs, indexAddr_cast hlt, hid, hgr, hx1.f1, hx1.f2, hx1.f3, hx1.le1, hx1.le2, hx1.le3, bd_copyTexts]
      refine WE.conG (copyTexts_con H1 u x.2.2 hx1.of hBx) fun w H2 g2 ⟨u', hw, hu', hid'⟩ => ?_
      subst hw
      have hown2 := hown.fr g2 fun _ _ h => h
      obtain ⟨hlt5, v6, H6, r6, happ, ho6, hf6, hr6⟩ := push_own el_goods by_good hz hzl (by decide) hown2 [.o (.str x.1), .o (.str x.2.1), u'] rfl (by omega)
      simp only [SG_nil, SG_cons, SU_yes, gw_n, Option.map_some, Option.bind_some, optP_some, vN_val, Nat.one_mul, SK_assign, SK_build, SK_buildSlice, SK_append, evTmp, opFev, slot_put, putD_nt, slotOk, Nat.blt_eq, Nat.reduceLT, Nat.reduceLeDiff, true_and, and_true, if_true, if_false, ltV_sl, nxNew, eqLt, eqGt, Nat.reduceLeDiff, cells_one, cells_agg, noTup_one, noTup_agg, List.length_cons, List.length_nil, Nat.zero_add, Nat.reduceAdd, Nat.le_refl, List.cons_append, List.nil_append, List.append_nil, List.take_succ_cons, List.take_zero, List.drop_succ_cons, List.drop_zero, List.drop_nil, Nat.lt_add_one, fill_nil, fill_cons, Nat.zero_mul, partsF_nil, partsF_cons, repl_one, E2_P, hnt, el_goods, zr_good, pt_good, pl_good_0, pl_good_1, pl_good_2, repl_one, happ]
      refine ⟨hlt5, ?_⟩
      refine hK _ _ ?_
      clear hK K
      refine q1 _ _ ?_
      repeat' first | refine R1.ret ?_ | refine R1.exit ?_ | refine R1.skip ?_ | refine R1.s_ret ?_ | refine R1.s_exit ?_ | refine R1.s_assoc ?_ | refine R1.s_skip ?_ | refine R1.s_scope ?_ | ((first | refine R1.e_rg fun K hK => ?_ | refine R1.s_rg fun K hK => ?_ | refine R1.e_sq (by kernel_rfl) fun K hK => ?_ | refine R1.s_sq (by kernel_rfl) fun K hK => ?_); simp only [SG_nil, SG_cons, SU_yes, gw_n, gOf_n, List.map_cons, List.map_nil, vN_val, SK_move, SK_assign, SK_bin, evTmp, ev_int, slot_put, putD_nt, slotOk, Nat.blt_eq, Nat.reduceLT, true_and, if_true, if_false, eqLt, eqGt, ii_add, Nat.lt_add_one, hnt, t4, hw2]; refine hK _ _ ?_; clear hK K)
      have g6 : Gr H H6 := (g1.gr g2).then hf6 fun q hq => .inl (hrow q hq).1
      have lt6 : r6 < H6.nx := by
        rcases ho6 with ⟨_, _, _, e⟩ | ⟨id, lo, gen, e, _, _, _, _, hl⟩
        · cases e
        · cases e; exact hl
      have keep : ∀ {H' : Hp} {u : AC} {l : List (List UInt8)}, SlS H2 u l → (∀ id ∈ (AV.one u).ids, some id ≠ r) → SlS H6 u l ∧ ∀ id ∈ (AV.one u).ids, some id ≠ some r6 := fun {H' u l} hu hi => ⟨SlC.fr hu hf6 fun k h e => hi k h e.symm, fun k h e => by
        cases e
        rcases hr6 with e | e
        · exact hi _ h e.symm
        · have := hu.lt _ h; omega⟩
      refine ⟨gs.length - (i + 1), by omega, i + 1, v6, some r6, css ++ [[.o (.str x.1), .o (.str x.2.1), u']], rfl, hlt, g6, ?_, fun q hq => ?_, ?_, ?_, ?_, ?_, ?_, ?_⟩
      · rw [List.flatMap_append]; exact ho6
      · cases hq
        refine ⟨?_, lt6⟩
        rcases hr6 with e | e
        · exact (hrow _ e).1
        · have := (g1.gr g2).nx; omega
      · rw [htk]
        refine Al.app (hal.mono fun c y ⟨hc, u, e, hu, hi⟩ => ?_) ?_
        · obtain ⟨a, b⟩ := keep (H' := H6) hu' fun k h e => by
            have h1 := hid' k h
            have h2 := (hrow k e.symm).2
            omega
          exact ⟨rfl, u', rfl, a, b⟩
        · obtain ⟨a, b⟩ := keep (H' := H6) (hu.gr g2) hi
          exact ⟨hc, u, e, a, b⟩
      · simp only [slot_put, Nat.reduceEqDiff, reduceIte, t0]
      · simp only [slot_put, Nat.reduceEqDiff, reduceIte]
      · simp only [slot_put, Nat.reduceEqDiff, reduceIte]
      · simp only [putD_nt, hnt]
      · simp only [putD_dfr, hdf]
    · clear hx hy Kx Ky
      have hie : i = gs.length := by omega
      subst hie
      rw [List.take_length] at hal
      repeat' first | refine R1.ret ?_ | refine R1.exit ?_ | refine R1.skip ?_ | refine R1.s_ret ?_ | refine R1.s_exit ?_ | refine R1.s_assoc ?_ | refine R1.s_skip ?_ | refine R1.s_scope ?_ | ((first | refine R1.e_rg fun K hK => ?_ | refine R1.s_rg fun K hK => ?_ | refine R1.e_sq (by kernel_rfl) fun K hK => ?_ | refine R1.s_sq (by kernel_rfl) fun K hK => ?_); simp only [SG_nil, SG_cons, SU_yes, SU_no, gw_n, gw_gwv, gwv_b, gwv_u, gOf_n, gOf_some, List.map_cons, List.map_nil, List.getElem?_cons_zero, List.getElem?_cons_succ, Option.elim_some, Option.map_some, Option.bind_some, optP_some, boolP_b, boolP'_b, boolE_b, decide_eq_true_eq, decide_true, decide_false, valP_val, valP_guard, vN_val, ldN_some, stN_some, faN_some, iaN_some, lnN_some, pkN_b, sliceO_some, slice_lo, slice_hi, slice_1, indexAddr_0, Nat.add_one_sub_one, Nat.one_mul, len_sl, len_ns, len_str', posS, eq0S, cast0, Int.reduceLT, Int.reduceLE, Int.reduceBEq, Option.map_none, Nat.lt_add_left_iff_pos, Nat.zero_lt_succ, Nat.le_add_left, SK_move, SK_assign, SK_pick, SK_alloc, SK_box, SK_load, SK_store, SK_bin, SK_not, SK_fieldAddr, SK_field, SK_indexAddr, SK_slice, SK_extract, SK_nilCheck, SK_makeFunc, SK_makeMap, SK_makeSlice, SK_build, SK_buildSlice, SK_len, SK_append, SK_call, doCall_clo, doCall_clo, evTmp, ev_int, ev_bool, ev_str, ev_nilS, ev_func, opFev, evs_cons, evs_nil, slot_put, putD_nt, putD_none, putD_dfr, slotOk, Nat.blt_eq, Nat.reduceLT, Nat.reduceEqDiff, Nat.reduceLeDiff, reduceIte, true_and, and_true, true_or, or_true, if_true, if_false, Bool.false_eq_true, Bool.true_eq_false, not_false_eq_true, not_true_eq_false, ltV_ptr, ltV_sl, ltV_nil, ltV_str, ltV_i, nxNew, nxMod, get_newE, get_newL, get_modE, get_modN, ltAdd, ltSelf, eqLt, eqGt, eqLtA, eqGtA, eqSelfA, eqASelf, eqAA, ltAA, doLoad_ptr, doStore_ptr, rowOf_arr, rowOf_ro, ldO_agg, ldO_one, stO_arr, splice_eq, fieldAddr_at, Bool.not_eq_true', Bool.not_eq_false', decide_eq_false_iff_not, ne_eq, Nat.reduceLeDiff, Nat.lt_irrefl, gt_iff_lt, cells_one, cells_agg, noTup_one, noTup_agg, List.length_cons, List.length_nil, Nat.zero_add, Nat.add_zero, Nat.reduceAdd, Nat.reduceSub, Nat.reduceMul, Nat.le_refl, Nat.zero_le, capsOf_nil, capsOf_cons, capArgs_nil, capArgs_cons, List.cons_append, List.nil_append, List.append_nil, ex_0, ex_0a, ex_1, ex_1a, ex_2, ex_2a, ii_lss, ii_leq, ii_gtr, ii_geq, ii_eql, ii_neq, ii_add, ii_sub, ii_mul, ss_lss, ss_geq, ss_leq, ss_gtr, ss_eql, ss_neq, List.take_succ_cons, List.take_zero, List.drop_succ_cons, List.drop_zero, List.take_nil, List.drop_nil, List.headD_cons, Bool.not_true, Bool.not_false, Nat.lt_add_one, bin_agg, bin_b, agg2_agg, bool2_b, aggEq_nil, aggEq_s, aggEq_i, aggEq_b, aggO_some, fill_nil, fill_cons, Nat.zero_mul, partsF_nil, partsF_cons, repl_one, SK_lookup, SK_mapUpdate, lkN_some, upN_some, ltV_mp, nilCheck_ptr, lookOut_f, lookOut_t, doCall_yl, ofValue_int, ofValue_bool, ev_nilP, ev_nilM, ev_nilF, hnt]; refine hK _ _ ?_; clear hK K)
      refine k2 _ _ ?_
      repeat' first | refine R1.ret ?_ | refine R1.exit ?_ | refine R1.skip ?_ | refine R1.s_ret ?_ | refine R1.s_exit ?_ | refine R1.s_assoc ?_ | refine R1.s_skip ?_ | refine R1.s_scope ?_ | ((first | refine R1.e_rg fun K hK => ?_ | refine R1.s_rg fun K hK => ?_ | refine R1.e_sq (by kernel_rfl) fun K hK => ?_ | refine R1.s_sq (by kernel_rfl) fun K hK => ?_); simp only [SG_nil, SG_cons, SU_yes, gw_n, gOf_n, List.map_cons, List.map_nil, SK_move, SK_assign, evTmp, slot_put, putD_nt, slotOk, Nat.blt_eq, Nat.reduceLT, true_and, if_true, if_false, eqLt, eqGt, Nat.lt_add_one, hnt, t3]; refine hK _ _ ?_; clear hK K)
      exact ⟨_, _, callEnd_one v3 (.inr rfl) (by simp only [putD_dfr, hdf]) (by simp only [slot_put, Nat.reduceEqDiff, reduceIte]), g1, fun _ => ⟨v3, rfl, css, hown.slc, hal.mono fun c x ⟨hc, u, e, hu, _⟩ => ⟨hc, u, e, hu⟩⟩⟩
  · simp only [slot_put, Nat.reduceEqDiff, reduceIte, putD_nt, putD_dfr, h0, and_self, true_and]
    exact ⟨rfl, trivial⟩
end Go.Proofs.YtiejeicaaojdlaaGreat
