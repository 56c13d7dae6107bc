/- The law AccountLotsScale (for lists that are not too long): what it answers. -/
import Derived.Test.YtndipbefnipnpaaGreatLotsRf3
namespace Go.Proofs.YtndipbefnipnpaaGreat
open Go Go.Eng

theorem body20 : hasBody Tryz.prog 20 = true := by kernel_rfl

theorem scale_len (l : List Lot) (k : Int) : (scaleC l k).1.length ≤ 64 := by
  by_cases h : (scaleC l k).2 = 0
  · exact (chk_ok (scale_ok h).2.1).2
  · have e : (scaleC l k).1 = [] := by
      unfold scaleC at h ⊢
      split at h
      · rename_i h1
        rw [if_pos h1]
        split at h
        · exact absurd rfl h
        · rename_i h2
          rw [if_neg h2]
          cases hr : scaleR k [] l with
          | none => rfl
          | some t => rw [hr] at h; exact absurd rfl h
      · rename_i h1
        rw [if_neg h1]
    rw [e]; exact Nat.zero_le _

set_option maxRecDepth 10000 in
set_option maxHeartbeats 4000000 in
theorem scaleLaw_c1 (H : Hp) (l : List Lot) (k : Int) (v : AC) (hl : SlL H v l) (hL : l.length * 24 ≤ 140737488355328) :
    C1 E2 6 [.one v, .one (.i .i64 k)] H fun r _ => r = .one (.b true) := by
  refine C1.body (E := E2) (nt := 40) (res := [.tmp 4]) Tryz.func6 rfl rfl rfl rfl rfl fun tm hargs => ?_
  have h0 := hargs 0 _ rfl
  have h1 := hargs 1 _ rfl
  clear hargs
  repeat' first | refine R1.ret ?_ | refine R1.exit ?_ | refine R1.skip ?_ | refine R1.s_ret ?_ | refine R1.s_exit ?_ | refine R1.s_assoc ?_ | refine R1.s_skip ?_ | refine R1.s_scope ?_ | ((first | refine R1.e_rg fun K hK => ?_ | refine R1.s_rg fun K hK => ?_ | refine R1.e_sq (by kernel_rfl) fun K hK => ?_ | refine R1.s_sq (by kernel_rfl) fun K hK => ?_); simp only [SG_nil, SG_cons, SU_yes, gw_n, gOf_n, List.map_cons, List.map_nil, Nat.zero_lt_succ, SK_move, SK_assign, SK_call, evTmp, ev_bool, ev_func, evs_cons, evs_nil, slot_put, putD_nt, slotOk, Nat.blt_eq, Nat.reduceLT, true_and, if_true, if_false, eqLt, eqGt, E2_P]; refine hK _ _ ?_; clear hK K)
  refine R1.s_rg fun K hK => ?_
  simp only [SG_cons, SU_yes, gw_n, gOf_n, List.map_cons, List.map_nil, Nat.zero_lt_succ, SK_move, SK_call, doCall_clo, doCall_clo, evTmp, ev_func, evs_cons, evs_nil, slot_put, putD_nt, slotOk, Nat.blt_eq, Nat.reduceLT, true_and, if_true, if_false, eqLt, eqGt, capArgs_nil, List.append_nil, E2_P, h0, body12]
  refine WE.con (copy_con _ l v hl hL) fun v2 H2 f2 ⟨vo, hv, ho⟩ => ?_
  subst hv
  simp only [SG_nil, SG_cons, SU_yes, gw_n, SK_assign, evTmp, slot_put, putD_nt, slotOk, Nat.blt_eq, Nat.reduceLT, true_and, if_true, if_false, eqGt, Nat.lt_add_one]
  refine hK _ _ ?_
  clear hK K
  refine R1.s_rg fun K hK => ?_
  simp only [SG_cons, SU_yes, gw_n, gOf_n, List.map_cons, List.map_nil, SK_move, SK_call, doCall_clo, doCall_clo, evTmp, ev_func, evs_cons, evs_nil, slot_put, putD_nt, slotOk, Nat.blt_eq, Nat.reduceLT, true_and, if_true, if_false, eqLt, eqGt, capArgs_nil, List.append_nil, Nat.lt_add_one, E2_P, h1, body20]
  refine WE.con (scale_con _ l k vo ho) fun v3 H3 f3 ⟨va, hv, ha⟩ => ?_
  subst hv
  have f3' := f2.gr f3
  simp only [SG_nil, SG_cons, SU_yes, gw_n, vN_val, SK_move, SK_assign, SK_extract, evTmp, slot_put, putD_nt, slotOk, Nat.blt_eq, Nat.reduceLT, true_and, if_true, if_false, eqLt, eqGt, ex_0, ex_1, Nat.lt_add_one]
  refine hK _ _ ?_
  clear hK K
  refine R1.s_rg fun K hK => ?_
  simp only [SG_cons, SU_yes, gw_n, gOf_n, List.map_cons, List.map_nil, Nat.zero_lt_succ, SK_move, SK_call, doCall_clo, doCall_clo, evTmp, ev_func, evs_cons, evs_nil, slot_put, putD_nt, slotOk, Nat.blt_eq, Nat.reduceLT, true_and, if_true, if_false, eqLt, eqGt, capArgs_nil, List.append_nil, Nat.lt_add_one, E2_P, h0, h1, body21]
  refine WE.con (refScale_con _ l k v (hl.gr f3')) fun v4 H4 f4 ⟨vb, hv, hb⟩ => ?_
  subst hv
  have f4' := f3'.gr f4
  simp only [SG_nil, SG_cons, SU_yes, gw_n, vN_val, SK_move, SK_assign, SK_extract, evTmp, slot_put, putD_nt, slotOk, Nat.blt_eq, Nat.reduceLT, true_and, if_true, if_false, eqLt, eqGt, ex_0, ex_1, Nat.lt_add_one]
  refine hK _ _ ?_
  clear hK K
  have hLs : (scaleC l k).1.length ≤ 4611686018427387904 := by have := scale_len l k; omega
  refine R1.s_rg fun K hK => ?_
  simp only [SG_cons, SU_yes, gw_n, gOf_n, gOf_some, List.map_cons, List.map_nil, List.getElem?_cons_zero, List.getElem?_cons_succ, Option.elim_some, SK_move, SK_call, doCall_clo, doCall_clo, evTmp, ev_func, evs_cons, evs_nil, slot_put, putD_nt, slotOk, Nat.blt_eq, Nat.reduceLT, true_and, if_true, if_false, eqLt, eqGt, capArgs_nil, List.append_nil, Nat.lt_add_one, E2_P, body16]
  refine WE.con (same_con _ _ _ va vb (ha.gr f4) hb hLs) fun v5 H5 f5 hv => ?_
  rw [decide_eq_true rfl] at hv
  subst hv
  simp only [SG_cons, SU_yes, gw_n, gw_gwv, gwv_b, vN_val, pkN_b, Nat.zero_lt_succ, SK_move, SK_pick, SK_bin, SK_call, doCall_clo, doCall_clo, evTmp, ev_bool, ev_func, evs_cons, evs_nil, slot_put, putD_nt, slotOk, Nat.blt_eq, Nat.reduceLT, true_and, if_true, if_false, eqLt, eqGt, capArgs_nil, List.append_nil, ii_eql, Nat.lt_add_one, E2_P, h0, body16, beq_self_eq_true]
  refine WE.con (same_con _ l l vo v (((ho.gr f3).gr f4).gr f5) (hl.gr (f4'.gr f5)) (by omega)) fun v6 H6 f6 hv => ?_
  rw [decide_eq_true rfl] at hv
  subst hv
  simp only [SG_cons, SU_yes, gw_n, gw_gwv, gwv_b, pkN_b, SK_move, SK_pick, SK_call, doCall_clo, doCall_clo, evTmp, ev_bool, ev_func, evs_nil, slot_put, putD_nt, slotOk, Nat.blt_eq, Nat.reduceLT, true_and, if_true, if_false, eqLt, eqGt, capArgs_nil, List.append_nil, Nat.lt_add_one, E2_P, body9]
  refine WE.prim works_p fun H7 f7 n7 e7 => ?_
  simp only [SG_nil, SG_cons, SU_yes, gw_n, pkN_b, SK_assign, SK_pick, evTmp, ev_bool, slot_put, putD_nt, slotOk, Nat.blt_eq, Nat.reduceLT, true_and, if_true, if_false, eqLt, eqGt, Nat.lt_add_one]
  refine hK _ _ ?_
  clear hK K
  repeat' first | refine R1.ret ?_ | refine R1.exit ?_ | refine R1.skip ?_ | refine R1.s_ret ?_ | refine R1.s_exit ?_ | refine R1.s_assoc ?_ | refine R1.s_skip ?_ | refine R1.s_scope ?_ | ((first | refine R1.e_rg fun K hK => ?_ | refine R1.s_rg fun K hK => ?_ | refine R1.e_sq (by kernel_rfl) fun K hK => ?_ | refine R1.s_sq (by kernel_rfl) fun K hK => ?_); simp only [SG_nil, SG_cons, SU_yes, SU_no, gw_n, gw_gwv, gwv_b, gwv_u, gOf_n, gOf_some, List.map_cons, List.map_nil, List.getElem?_cons_zero, List.getElem?_cons_succ, Option.elim_some, Option.map_some, Option.bind_some, optP_some, boolP_b, boolP'_b, boolE_b, decide_eq_true_eq, decide_true, decide_false, valP_val, valP_guard, vN_val, ldN_some, stN_some, faN_some, iaN_some, lnN_some, pkN_b, sliceO_some, slice_lo, slice_hi, slice_1, indexAddr_0, Nat.add_one_sub_one, Nat.one_mul, len_sl, len_ns, len_str', posS, eq0S, cast0, Int.reduceLT, Int.reduceLE, Int.reduceBEq, Option.map_none, Nat.lt_add_left_iff_pos, Nat.zero_lt_succ, Nat.le_add_left, SK_move, SK_assign, SK_pick, SK_alloc, SK_box, SK_load, SK_store, SK_bin, SK_not, SK_fieldAddr, SK_field, SK_indexAddr, SK_slice, SK_extract, SK_nilCheck, SK_makeFunc, SK_makeMap, SK_makeSlice, SK_build, SK_buildSlice, SK_len, SK_append, SK_call, doCall_clo, doCall_clo, evTmp, ev_int, ev_bool, ev_str, ev_nilS, ev_func, opFev, evs_cons, evs_nil, slot_put, putD_nt, putD_none, putD_dfr, slotOk, Nat.blt_eq, Nat.reduceLT, Nat.reduceEqDiff, Nat.reduceLeDiff, reduceIte, true_and, and_true, true_or, or_true, if_true, if_false, Bool.false_eq_true, Bool.true_eq_false, not_false_eq_true, not_true_eq_false, ltV_ptr, ltV_sl, ltV_nil, ltV_str, ltV_i, nxNew, nxMod, get_newE, get_newL, get_modE, get_modN, ltAdd, ltSelf, eqLt, eqGt, eqLtA, eqGtA, eqSelfA, eqASelf, eqAA, ltAA, doLoad_ptr, doStore_ptr, rowOf_arr, rowOf_ro, ldO_agg, ldO_one, stO_arr, splice_eq, fieldAddr_at, Bool.not_eq_true', Bool.not_eq_false', decide_eq_false_iff_not, ne_eq, Nat.reduceLeDiff, Nat.lt_irrefl, gt_iff_lt, cells_one, cells_agg, noTup_one, noTup_agg, List.length_cons, List.length_nil, Nat.zero_add, Nat.add_zero, Nat.reduceAdd, Nat.reduceSub, Nat.reduceMul, Nat.le_refl, Nat.zero_le, capsOf_nil, capsOf_cons, capArgs_nil, capArgs_cons, List.cons_append, List.nil_append, List.append_nil, ex_0, ex_0a, ex_1, ex_1a, ex_2, ex_2a, ii_lss, ii_leq, ii_gtr, ii_geq, ii_eql, ii_neq, ii_add, ii_sub, ii_mul, ss_lss, ss_geq, ss_leq, ss_gtr, ss_eql, ss_neq, List.take_succ_cons, List.take_zero, List.drop_succ_cons, List.drop_zero, List.take_nil, List.drop_nil, List.headD_cons, Bool.not_true, Bool.not_false, Nat.lt_add_one, bin_agg, bin_b, agg2_agg, bool2_b, aggEq_nil, aggEq_s, aggEq_i, aggEq_b, aggO_some, fill_nil, fill_cons, Nat.zero_mul, partsF_nil, partsF_cons, repl_one]; refine hK _ _ ?_; clear hK K)
  exact ⟨_, _, callEnd_one (.b true) (.inr rfl) rfl (by simp only [slot_put, Nat.reduceEqDiff, reduceIte]), rfl⟩
end Go.Proofs.YtndipbefnipnpaaGreat
