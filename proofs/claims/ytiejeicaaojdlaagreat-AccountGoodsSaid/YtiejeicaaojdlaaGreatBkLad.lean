/- A ladder of a book: what none, index, Ladder and absent answer. -/
import Derived.Test.YtiejeicaaojdlaaGreatBkNew
namespace Go.Proofs.YtiejeicaaojdlaaGreat
open Go Go.Eng

theorem bd_none : hasBody Tryz.prog 73 = true := by kernel_rfl
theorem bd_index : hasBody Tryz.prog 74 = true := by kernel_rfl
theorem bd_ladder : hasBody Tryz.prog 34 = true := by kernel_rfl
theorem bd_absent : hasBody Tryz.prog 31 = true := by kernel_rfl
theorem un_pbook : Tryz.prog.underlying 24 = some (.pointer 36) := by kernel_rfl
theorem un_mSI : Tryz.prog.underlying 32 = some (.map 9 3) := by kernel_rfl

/-- A book, or none: nil, or a zero one. -/
def BookO (H : Hp) (p : AC) : Option (List Lad) → Prop
  | some ls => BookR H p ls
  | none => p = .o .nilP ∨ ∃ kb, p = .o (.ptr kb 0 0 4) ∧ kb < H.nx ∧ H.get kb = some (.arr [.o .nilS, .o .nilM, .o .nilS, .o .nilS] 36 0 0)
theorem BookO.gr {H H' : Hp} {p : AC} {o : Option (List Lad)} (h : BookO H p o) (hg : Gr H H') : BookO H' p o := by
  cases o with
  | some ls => exact BookR.gr h hg
  | none =>
    refine Or.imp id ?_ h
    rintro ⟨kb, h1, h2, h3⟩
    exact ⟨kb, h1, Nat.lt_of_lt_of_le h2 hg.nx, by rw [hg.get _ h2 not_false]; exact h3⟩
theorem BookO.same {H H' : Hp} {p : AC} {o : Option (List Lad)} (ht : H'.t = H.t) (hn : H'.nx = H.nx) (h : BookO H p o) : BookO H' p o :=
  by
    obtain ⟨t, nx, l⟩ := H
    obtain ⟨t', nx', l'⟩ := H'
    cases ht; cases hn
    exact h

set_option maxRecDepth 10000 in
theorem none_con (H : Hp) (p : AC) (o : Option (List Lad)) (hp : BookO H p o) : Con E2 73 [.one p] H (fun _ => False) fun r _ => r = .one (.b o.isNone) := by
  refine Con.of rfl fun lg => ?_
  have hp : BookO ⟨H.t, H.nx, lg⟩ p o := BookO.same (H := H) rfl rfl hp
  generalize (⟨H.t, H.nx, lg⟩ : Hp) = H at hp ⊢
  refine C1.body (E := E2) (nt := 12) (res := [.tmp 2]) Tryz.func73 rfl rfl rfl rfl rfl fun tm hargs => ?_
  have h0 := hargs 0 _ rfl
  clear hargs
  have fin : ∀ (b : Bool) (A : AAct), slot A.tm 2 = .one (.b b) → A.dfr = [] → b = o.isNone → ∃ w H4, callEnd E2 [.tmp 2] (.ret, A, H) = .ok [(w, H4)] ∧ Gr H H4 ∧ ∀ _ : List Nat, w = .one (.b o.isNone) := fun b A h1 h2 h3 => ⟨_, _, callEnd_one (.b b) (.inr rfl) h2 h1, Fr.refl _, fun _ => by rw [h3]⟩
  cases o with
  | some ls =>
    obtain ⟨kb, m, lad, gr, fc, rfl, h2, h3, h4, h5, h6⟩ := hp
    repeat' first | refine R1.ret ?_ | refine R1.exit ?_ | refine R1.skip ?_ | refine R1.s_ret ?_ | refine R1.s_exit ?_ | refine R1.s_assoc ?_ | refine R1.s_skip ?_ | refine R1.s_scope ?_ | ((first | refine R1.e_rg fun K hK => ?_ | refine R1.s_rg fun K hK => ?_ | refine R1.e_sq (by kernel_rfl) fun K hK => ?_ | refine R1.s_sq (by kernel_rfl) fun K hK => ?_); simp only [SG_nil, SG_cons, SU_yes, gw_n, gOf_n, gOf_some, List.map_cons, List.map_nil, List.getElem?_cons_zero, List.getElem?_cons_succ, Option.elim_some, Nat.zero_lt_succ, SK_move, SK_assign, SK_bin, evTmp, ev_bool, slot_put, putD_nt, slotOk, Nat.blt_eq, Nat.reduceLT, true_and, if_true, if_false, eqLt, eqGt, Nat.lt_add_one, ev_nilP]; refine hK _ _ ?_; clear hK K)
    repeat refine R1.s_assoc ?_
    refine R1.s_rg fun K hK => ?_
    simp only [SG_nil, SG_cons, SU_yes, gw_n, gw_gwv, gwv_b, gOf_n, gOf_some, List.map_cons, List.map_nil, List.getElem?_cons_zero, List.getElem?_cons_succ, Option.elim_some, vN_val, ldN_some, faN_some, pkN_b, Nat.add_one_sub_one, Nat.zero_lt_succ, SK_move, SK_assign, SK_pick, SK_load, SK_bin, SK_fieldAddr, SK_nilCheck, evTmp, ev_bool, slot_put, putD_nt, slotOk, Nat.blt_eq, Nat.reduceLT, Nat.reduceLeDiff, true_and, if_true, if_false, Bool.false_eq_true, ltV_ptr, eqLt, eqGt, doLoad_ptr, rowOf_arr, ldO_one, fieldAddr_at, Nat.reduceLeDiff, List.length_cons, List.length_nil, Nat.zero_add, Nat.reduceAdd, Nat.le_refl, List.drop_succ_cons, List.drop_zero, List.headD_cons, Nat.lt_add_one, nilCheck_ptr, ev_nilP, ev_nilM, E2_P, h0, ad_pbook, eql_ptr_nil, h2, h4, fd_book_1, ld_mSI, ad_mSI, eql_mp_nil]
    refine hK _ _ ?_
    clear hK K
    repeat' first | refine R1.ret ?_ | refine R1.exit ?_ | refine R1.skip ?_ | refine R1.s_ret ?_ | refine R1.s_exit ?_ | refine R1.s_assoc ?_ | refine R1.s_skip ?_ | refine R1.s_scope ?_ | ((first | refine R1.e_rg fun K hK => ?_ | refine R1.s_rg fun K hK => ?_ | refine R1.e_sq (by kernel_rfl) fun K hK => ?_ | refine R1.s_sq (by kernel_rfl) fun K hK => ?_); simp only [SG_nil, SG_cons, SU_yes, SU_no, gw_n, gw_gwv, gwv_b, gwv_u, gOf_n, gOf_some, List.map_cons, List.map_nil, List.getElem?_cons_zero, List.getElem?_cons_succ, Option.elim_some, Option.map_some, Option.bind_some, optP_some, boolP_b, boolP'_b, boolE_b, decide_eq_true_eq, decide_true, decide_false, valP_val, valP_guard, vN_val, ldN_some, stN_some, faN_some, iaN_some, lnN_some, pkN_b, sliceO_some, slice_lo, slice_hi, slice_1, indexAddr_0, Nat.add_one_sub_one, Nat.one_mul, len_sl, len_ns, len_str', posS, eq0S, cast0, Int.reduceLT, Int.reduceLE, Int.reduceBEq, Option.map_none, Nat.lt_add_left_iff_pos, Nat.zero_lt_succ, Nat.le_add_left, SK_move, SK_assign, SK_pick, SK_alloc, SK_box, SK_load, SK_store, SK_bin, SK_not, SK_fieldAddr, SK_field, SK_indexAddr, SK_slice, SK_extract, SK_nilCheck, SK_makeFunc, SK_makeMap, SK_makeSlice, SK_build, SK_buildSlice, SK_len, SK_append, SK_call, doCall_clo, doCall_clo, evTmp, ev_int, ev_bool, ev_str, ev_nilS, ev_func, opFev, evs_cons, evs_nil, slot_put, putD_nt, putD_none, putD_dfr, slotOk, Nat.blt_eq, Nat.reduceLT, Nat.reduceEqDiff, Nat.reduceLeDiff, reduceIte, true_and, and_true, true_or, or_true, if_true, if_false, Bool.false_eq_true, Bool.true_eq_false, not_false_eq_true, not_true_eq_false, ltV_ptr, ltV_sl, ltV_nil, ltV_str, ltV_i, nxNew, nxMod, get_newE, get_newL, get_modE, get_modN, ltAdd, ltSelf, eqLt, eqGt, eqLtA, eqGtA, eqSelfA, eqASelf, eqAA, ltAA, doLoad_ptr, doStore_ptr, rowOf_arr, rowOf_ro, ldO_agg, ldO_one, stO_arr, splice_eq, fieldAddr_at, Bool.not_eq_true', Bool.not_eq_false', decide_eq_false_iff_not, ne_eq, Nat.reduceLeDiff, Nat.lt_irrefl, gt_iff_lt, cells_one, cells_agg, noTup_one, noTup_agg, List.length_cons, List.length_nil, Nat.zero_add, Nat.add_zero, Nat.reduceAdd, Nat.reduceSub, Nat.reduceMul, Nat.le_refl, Nat.zero_le, capsOf_nil, capsOf_cons, capArgs_nil, capArgs_cons, List.cons_append, List.nil_append, List.append_nil, ex_0, ex_0a, ex_1, ex_1a, ex_2, ex_2a, ii_lss, ii_leq, ii_gtr, ii_geq, ii_eql, ii_neq, ii_add, ii_sub, ii_mul, ss_lss, ss_geq, ss_leq, ss_gtr, ss_eql, ss_neq, List.take_succ_cons, List.take_zero, List.drop_succ_cons, List.drop_zero, List.take_nil, List.drop_nil, List.headD_cons, Bool.not_true, Bool.not_false, Nat.lt_add_one, bin_agg, bin_b, agg2_agg, bool2_b, aggEq_nil, aggEq_s, aggEq_i, aggEq_b, aggO_some, fill_nil, fill_cons, Nat.zero_mul, partsF_nil, partsF_cons, repl_one, SK_lookup, SK_mapUpdate, lkN_some, upN_some, ltV_mp, nilCheck_ptr, lookOut_f, lookOut_t, doCall_yl, ofValue_int, ofValue_bool, ev_nilP, ev_nilM, ev_nilF]; refine hK _ _ ?_; clear hK K)
    exact fin false _ (by simp only [slot_put, Nat.reduceEqDiff, reduceIte]) rfl rfl
  | none =>
    rcases hp with rfl | ⟨kb, rfl, h2, h4⟩
    · repeat' first | refine R1.ret ?_ | refine R1.exit ?_ | refine R1.skip ?_ | refine R1.s_ret ?_ | refine R1.s_exit ?_ | refine R1.s_assoc ?_ | refine R1.s_skip ?_ | refine R1.s_scope ?_ | ((first | refine R1.e_rg fun K hK => ?_ | refine R1.s_rg fun K hK => ?_ | refine R1.e_sq (by kernel_rfl) fun K hK => ?_ | refine R1.s_sq (by kernel_rfl) fun K hK => ?_); simp only [SG_nil, SG_cons, SU_yes, gw_n, gOf_n, gOf_some, List.map_cons, List.map_nil, List.getElem?_cons_zero, List.getElem?_cons_succ, Option.elim_some, Nat.zero_lt_succ, SK_move, SK_assign, SK_bin, evTmp, ev_bool, slot_put, putD_nt, slotOk, Nat.blt_eq, Nat.reduceLT, true_and, if_true, if_false, eqLt, eqGt, Nat.lt_add_one, ev_nilP]; refine hK _ _ ?_; clear hK K)
      repeat refine R1.s_assoc ?_
      refine R1.s_rg fun K hK => ?_
      simp only [SG_nil, SG_cons, SU_yes, SU_no, gw_n, gw_gwv, gwv_b, gOf_n, gOf_some, List.map_cons, List.map_nil, List.getElem?_cons_zero, List.getElem?_cons_succ, Option.elim_some, vN_val, pkN_b, Nat.zero_lt_succ, SK_move, SK_assign, SK_pick, SK_bin, evTmp, ev_bool, slot_put, putD_nt, slotOk, Nat.blt_eq, Nat.reduceLT, true_and, if_true, if_false, Bool.true_eq_false, eqLt, eqGt, Nat.lt_add_one, ev_nilP, E2_P, h0, ad_pbook, eql_nilP, plain_nilP un_pbook, nilP2_n]
      refine hK _ _ ?_
      clear hK K
      repeat' first | refine R1.ret ?_ | refine R1.exit ?_ | refine R1.skip ?_ | refine R1.s_ret ?_ | refine R1.s_exit ?_ | refine R1.s_assoc ?_ | refine R1.s_skip ?_ | refine R1.s_scope ?_ | ((first | refine R1.e_rg fun K hK => ?_ | refine R1.s_rg fun K hK => ?_ | refine R1.e_sq (by kernel_rfl) fun K hK => ?_ | refine R1.s_sq (by kernel_rfl) fun K hK => ?_); simp only [SG_nil, SG_cons, SU_yes, SU_no, gw_n, gw_gwv, gwv_b, gwv_u, gOf_n, gOf_some, List.map_cons, List.map_nil, List.getElem?_cons_zero, List.getElem?_cons_succ, Option.elim_some, Option.map_some, Option.bind_some, optP_some, boolP_b, boolP'_b, boolE_b, decide_eq_true_eq, decide_true, decide_false, valP_val, valP_guard, vN_val, ldN_some, stN_some, faN_some, iaN_some, lnN_some, pkN_b, sliceO_some, slice_lo, slice_hi, slice_1, indexAddr_0, Nat.add_one_sub_one, Nat.one_mul, len_sl, len_ns, len_str', posS, eq0S, cast0, Int.reduceLT, Int.reduceLE, Int.reduceBEq, Option.map_none, Nat.lt_add_left_iff_pos, Nat.zero_lt_succ, Nat.le_add_left, SK_move, SK_assign, SK_pick, SK_alloc, SK_box, SK_load, SK_store, SK_bin, SK_not, SK_fieldAddr, SK_field, SK_indexAddr, SK_slice, SK_extract, SK_nilCheck, SK_makeFunc, SK_makeMap, SK_makeSlice, SK_build, SK_buildSlice, SK_len, SK_append, SK_call, doCall_clo, doCall_clo, evTmp, ev_int, ev_bool, ev_str, ev_nilS, ev_func, opFev, evs_cons, evs_nil, slot_put, putD_nt, putD_none, putD_dfr, slotOk, Nat.blt_eq, Nat.reduceLT, Nat.reduceEqDiff, Nat.reduceLeDiff, reduceIte, true_and, and_true, true_or, or_true, if_true, if_false, Bool.false_eq_true, Bool.true_eq_false, not_false_eq_true, not_true_eq_false, ltV_ptr, ltV_sl, ltV_nil, ltV_str, ltV_i, nxNew, nxMod, get_newE, get_newL, get_modE, get_modN, ltAdd, ltSelf, eqLt, eqGt, eqLtA, eqGtA, eqSelfA, eqASelf, eqAA, ltAA, doLoad_ptr, doStore_ptr, rowOf_arr, rowOf_ro, ldO_agg, ldO_one, stO_arr, splice_eq, fieldAddr_at, Bool.not_eq_true', Bool.not_eq_false', decide_eq_false_iff_not, ne_eq, Nat.reduceLeDiff, Nat.lt_irrefl, gt_iff_lt, cells_one, cells_agg, noTup_one, noTup_agg, List.length_cons, List.length_nil, Nat.zero_add, Nat.add_zero, Nat.reduceAdd, Nat.reduceSub, Nat.reduceMul, Nat.le_refl, Nat.zero_le, capsOf_nil, capsOf_cons, capArgs_nil, capArgs_cons, List.cons_append, List.nil_append, List.append_nil, ex_0, ex_0a, ex_1, ex_1a, ex_2, ex_2a, ii_lss, ii_leq, ii_gtr, ii_geq, ii_eql, ii_neq, ii_add, ii_sub, ii_mul, ss_lss, ss_geq, ss_leq, ss_gtr, ss_eql, ss_neq, List.take_succ_cons, List.take_zero, List.drop_succ_cons, List.drop_zero, List.take_nil, List.drop_nil, List.headD_cons, Bool.not_true, Bool.not_false, Nat.lt_add_one, bin_agg, bin_b, agg2_agg, bool2_b, aggEq_nil, aggEq_s, aggEq_i, aggEq_b, aggO_some, fill_nil, fill_cons, Nat.zero_mul, partsF_nil, partsF_cons, repl_one, SK_lookup, SK_mapUpdate, lkN_some, upN_some, ltV_mp, nilCheck_ptr, lookOut_f, lookOut_t, doCall_yl, ofValue_int, ofValue_bool, ev_nilP, ev_nilM, ev_nilF]; refine hK _ _ ?_; clear hK K)
      exact fin true _ (by simp only [slot_put, Nat.reduceEqDiff, reduceIte]) rfl rfl
    · repeat' first | refine R1.ret ?_ | refine R1.exit ?_ | refine R1.skip ?_ | refine R1.s_ret ?_ | refine R1.s_exit ?_ | refine R1.s_assoc ?_ | refine R1.s_skip ?_ | refine R1.s_scope ?_ | ((first | refine R1.e_rg fun K hK => ?_ | refine R1.s_rg fun K hK => ?_ | refine R1.e_sq (by kernel_rfl) fun K hK => ?_ | refine R1.s_sq (by kernel_rfl) fun K hK => ?_); simp only [SG_nil, SG_cons, SU_yes, gw_n, gOf_n, gOf_some, List.map_cons, List.map_nil, List.getElem?_cons_zero, List.getElem?_cons_succ, Option.elim_some, Nat.zero_lt_succ, SK_move, SK_assign, SK_bin, evTmp, ev_bool, slot_put, putD_nt, slotOk, Nat.blt_eq, Nat.reduceLT, true_and, if_true, if_false, eqLt, eqGt, Nat.lt_add_one, ev_nilP]; refine hK _ _ ?_; clear hK K)
      repeat refine R1.s_assoc ?_
      refine R1.s_rg fun K hK => ?_
      simp only [SG_nil, SG_cons, SU_yes, gw_n, gw_gwv, gwv_b, gOf_n, gOf_some, List.map_cons, List.map_nil, List.getElem?_cons_zero, List.getElem?_cons_succ, Option.elim_some, vN_val, ldN_some, faN_some, pkN_b, Nat.add_one_sub_one, Nat.zero_lt_succ, SK_move, SK_assign, SK_pick, SK_load, SK_bin, SK_fieldAddr, SK_nilCheck, evTmp, ev_bool, slot_put, putD_nt, slotOk, Nat.blt_eq, Nat.reduceLT, Nat.reduceLeDiff, true_and, if_true, if_false, Bool.false_eq_true, ltV_ptr, eqLt, eqGt, doLoad_ptr, rowOf_arr, ldO_one, fieldAddr_at, Nat.reduceLeDiff, List.length_cons, List.length_nil, Nat.zero_add, Nat.reduceAdd, Nat.le_refl, List.drop_succ_cons, List.drop_zero, List.headD_cons, Nat.lt_add_one, nilCheck_ptr, ev_nilP, ev_nilM, E2_P, h0, ad_pbook, eql_ptr_nil, h2, h4, fd_book_1, ld_mSI, ad_mSI, eql_nilM, plain_nilM un_mSI, nilM2_n]
      refine hK _ _ ?_
      clear hK K
      repeat' first | refine R1.ret ?_ | refine R1.exit ?_ | refine R1.skip ?_ | refine R1.s_ret ?_ | refine R1.s_exit ?_ | refine R1.s_assoc ?_ | refine R1.s_skip ?_ | refine R1.s_scope ?_ | ((first | refine R1.e_rg fun K hK => ?_ | refine R1.s_rg fun K hK => ?_ | refine R1.e_sq (by kernel_rfl) fun K hK => ?_ | refine R1.s_sq (by kernel_rfl) fun K hK => ?_); simp only [SG_nil, SG_cons, SU_yes, SU_no, gw_n, gw_gwv, gwv_b, gwv_u, gOf_n, gOf_some, List.map_cons, List.map_nil, List.getElem?_cons_zero, List.getElem?_cons_succ, Option.elim_some, Option.map_some, Option.bind_some, optP_some, boolP_b, boolP'_b, boolE_b, decide_eq_true_eq, decide_true, decide_false, valP_val, valP_guard, vN_val, ldN_some, stN_some, faN_some, iaN_some, lnN_some, pkN_b, sliceO_some, slice_lo, slice_hi, slice_1, indexAddr_0, Nat.add_one_sub_one, Nat.one_mul, len_sl, len_ns, len_str', posS, eq0S, cast0, Int.reduceLT, Int.reduceLE, Int.reduceBEq, Option.map_none, Nat.lt_add_left_iff_pos, Nat.zero_lt_succ, Nat.le_add_left, SK_move, SK_assign, SK_pick, SK_alloc, SK_box, SK_load, SK_store, SK_bin, SK_not, SK_fieldAddr, SK_field, SK_indexAddr, SK_slice, SK_extract, SK_nilCheck, SK_makeFunc, SK_makeMap, SK_makeSlice, SK_build, SK_buildSlice, SK_len, SK_append, SK_call, doCall_clo, doCall_clo, evTmp, ev_int, ev_bool, ev_str, ev_nilS, ev_func, opFev, evs_cons, evs_nil, slot_put, putD_nt, putD_none, putD_dfr, slotOk, Nat.blt_eq, Nat.reduceLT, Nat.reduceEqDiff, Nat.reduceLeDiff, reduceIte, true_and, and_true, true_or, or_true, if_true, if_false, Bool.false_eq_true, Bool.true_eq_false, not_false_eq_true, not_true_eq_false, ltV_ptr, ltV_sl, ltV_nil, ltV_str, ltV_i, nxNew, nxMod, get_newE, get_newL, get_modE, get_modN, ltAdd, ltSelf, eqLt, eqGt, eqLtA, eqGtA, eqSelfA, eqASelf, eqAA, ltAA, doLoad_ptr, doStore_ptr, rowOf_arr, rowOf_ro, ldO_agg, ldO_one, stO_arr, splice_eq, fieldAddr_at, Bool.not_eq_true', Bool.not_eq_false', decide_eq_false_iff_not, ne_eq, Nat.reduceLeDiff, Nat.lt_irrefl, gt_iff_lt, cells_one, cells_agg, noTup_one, noTup_agg, List.length_cons, List.length_nil, Nat.zero_add, Nat.add_zero, Nat.reduceAdd, Nat.reduceSub, Nat.reduceMul, Nat.le_refl, Nat.zero_le, capsOf_nil, capsOf_cons, capArgs_nil, capArgs_cons, List.cons_append, List.nil_append, List.append_nil, ex_0, ex_0a, ex_1, ex_1a, ex_2, ex_2a, ii_lss, ii_leq, ii_gtr, ii_geq, ii_eql, ii_neq, ii_add, ii_sub, ii_mul, ss_lss, ss_geq, ss_leq, ss_gtr, ss_eql, ss_neq, List.take_succ_cons, List.take_zero, List.drop_succ_cons, List.drop_zero, List.take_nil, List.drop_nil, List.headD_cons, Bool.not_true, Bool.not_false, Nat.lt_add_one, bin_agg, bin_b, agg2_agg, bool2_b, aggEq_nil, aggEq_s, aggEq_i, aggEq_b, aggO_some, fill_nil, fill_cons, Nat.zero_mul, partsF_nil, partsF_cons, repl_one, SK_lookup, SK_mapUpdate, lkN_some, upN_some, ltV_mp, nilCheck_ptr, lookOut_f, lookOut_t, doCall_yl, ofValue_int, ofValue_bool, ev_nilP, ev_nilM, ev_nilF]; refine hK _ _ ?_; clear hK K)
      exact fin true _ (by simp only [slot_put, Nat.reduceEqDiff, reduceIte]) rfl rfl

set_option maxRecDepth 10000 in
theorem index_con (H : Hp) (p : AC) (ls : List Lad) (s : List UInt8) (hp : BookR H p ls) : Con E2 74 [.one p, .one (.o (.str s))] H (fun _ => False) fun r _ =>
    r = .tup [(false, [.i .i64 (((idxN 0 ls s).getD 0 : Nat) : Int)]), (false, [.i .i64 (if (idxN 0 ls s).isSome = true then 0 else 4)])] := by
  refine Con.of rfl fun lg => ?_
  have hp : BookR ⟨H.t, H.nx, lg⟩ p ls := hp
  generalize (⟨H.t, H.nx, lg⟩ : Hp) = H at hp ⊢
  refine C1.body (E := E2) (nt := 20) (res := [.tmp 4, .tmp 5]) Tryz.func74 rfl rfl rfl rfl rfl fun tm hargs => ?_
  have h0 := hargs 0 _ rfl
  have h1 := hargs 1 _ rfl
  clear hargs
  obtain ⟨kb, m, lad, gr, fc, rfl, h2, h3, h4, h5, h6⟩ := hp
  repeat' first | refine R1.ret ?_ | refine R1.exit ?_ | refine R1.skip ?_ | refine R1.s_ret ?_ | refine R1.s_exit ?_ | refine R1.s_assoc ?_ | refine R1.s_skip ?_ | refine R1.s_scope ?_ | ((first | refine R1.e_rg fun K hK => ?_ | refine R1.s_rg fun K hK => ?_ | refine R1.e_sq (by kernel_rfl) fun K hK => ?_ | refine R1.s_sq (by kernel_rfl) fun K hK => ?_); simp only [SG_nil, SG_cons, SU_yes, gw_n, gOf_n, List.map_cons, List.map_nil, Nat.zero_lt_succ, SK_move, SK_assign, SK_nilCheck, evTmp, ev_int, slot_put, putD_nt, slotOk, Nat.blt_eq, Nat.reduceLT, true_and, if_true, if_false, eqLt, eqGt]; refine hK _ _ ?_; clear hK K)
  repeat refine R1.s_assoc ?_
  refine R1.s_rg fun K hK => ?_
  simp only [SG_nil, SG_cons, SU_yes, gw_n, gOf_n, List.map_cons, List.map_nil, optP_some, vN_val, ldN_some, faN_some, Nat.add_one_sub_one, Nat.zero_lt_succ, SK_move, SK_assign, SK_load, SK_fieldAddr, SK_extract, SK_nilCheck, evTmp, slot_put, putD_nt, slotOk, Nat.blt_eq, Nat.reduceLT, Nat.reduceLeDiff, true_and, if_true, if_false, ltV_ptr, eqLt, eqGt, doLoad_ptr, rowOf_arr, ldO_one, fieldAddr_at, Nat.reduceLeDiff, List.length_cons, List.length_nil, Nat.zero_add, Nat.reduceAdd, Nat.le_refl, ex_0, ex_1, List.drop_succ_cons, List.drop_zero, List.headD_cons, Nat.lt_add_one, SK_lookup, lkN_some, ltV_mp, nilCheck_ptr, ofValue_int, E2_P, h0, h1, h2, h3, h4, fd_book_1, ld_mSI, mp_mSI, zv_int, look_pl h5]
  refine hK _ _ ?_
  clear hK K
  repeat refine R1.s_assoc ?_
  refine R1.s_rg fun K hK => ?_
  simp only [SG_cons, SU_yes, gw_n, gOf_n, List.map_cons, List.map_nil, SK_move, SK_call, doCall_clo, doCall_clo, evTmp, ev_int, ev_func, evs_cons, evs_nil, slot_put, putD_nt, slotOk, Nat.blt_eq, Nat.reduceLT, true_and, if_true, if_false, eqLt, eqGt, capArgs_nil, List.append_nil, Nat.lt_add_one, E2_P, bd_need]
  refine WE.con (need_con H _ 4) fun v H7 g7 hv => ?_
  subst hv
  simp only [SG_nil, SG_cons, SU_yes, gw_n, SK_assign, evTmp, slot_put, putD_nt, slotOk, Nat.blt_eq, Nat.reduceLT, true_and, if_true, if_false, eqLt, eqGt, Nat.lt_add_one]
  refine hK _ _ ?_
  clear hK K
  repeat' first | refine R1.ret ?_ | refine R1.exit ?_ | refine R1.skip ?_ | refine R1.s_ret ?_ | refine R1.s_exit ?_ | refine R1.s_assoc ?_ | refine R1.s_skip ?_ | refine R1.s_scope ?_ | ((first | refine R1.e_rg fun K hK => ?_ | refine R1.s_rg fun K hK => ?_ | refine R1.e_sq (by kernel_rfl) fun K hK => ?_ | refine R1.s_sq (by kernel_rfl) fun K hK => ?_); simp only [SG_nil, SG_cons, SU_yes, SU_no, gw_n, gw_gwv, gwv_b, gwv_u, gOf_n, gOf_some, List.map_cons, List.map_nil, List.getElem?_cons_zero, List.getElem?_cons_succ, Option.elim_some, Option.map_some, Option.bind_some, optP_some, boolP_b, boolP'_b, boolE_b, decide_eq_true_eq, decide_true, decide_false, valP_val, valP_guard, vN_val, ldN_some, stN_some, faN_some, iaN_some, lnN_some, pkN_b, sliceO_some, slice_lo, slice_hi, slice_1, indexAddr_0, Nat.add_one_sub_one, Nat.one_mul, len_sl, len_ns, len_str', posS, eq0S, cast0, Int.reduceLT, Int.reduceLE, Int.reduceBEq, Option.map_none, Nat.lt_add_left_iff_pos, Nat.zero_lt_succ, Nat.le_add_left, SK_move, SK_assign, SK_pick, SK_alloc, SK_box, SK_load, SK_store, SK_bin, SK_not, SK_fieldAddr, SK_field, SK_indexAddr, SK_slice, SK_extract, SK_nilCheck, SK_makeFunc, SK_makeMap, SK_makeSlice, SK_build, SK_buildSlice, SK_len, SK_append, SK_call, doCall_clo, doCall_clo, evTmp, ev_int, ev_bool, ev_str, ev_nilS, ev_func, opFev, evs_cons, evs_nil, slot_put, putD_nt, putD_none, putD_dfr, slotOk, Nat.blt_eq, Nat.reduceLT, Nat.reduceEqDiff, Nat.reduceLeDiff, reduceIte, true_and, and_true, true_or, or_true, if_true, if_false, Bool.false_eq_true, Bool.true_eq_false, not_false_eq_true, not_true_eq_false, ltV_ptr, ltV_sl, ltV_nil, ltV_str, ltV_i, nxNew, nxMod, get_newE, get_newL, get_modE, get_modN, ltAdd, ltSelf, eqLt, eqGt, eqLtA, eqGtA, eqSelfA, eqASelf, eqAA, ltAA, doLoad_ptr, doStore_ptr, rowOf_arr, rowOf_ro, ldO_agg, ldO_one, stO_arr, splice_eq, fieldAddr_at, Bool.not_eq_true', Bool.not_eq_false', decide_eq_false_iff_not, ne_eq, Nat.reduceLeDiff, Nat.lt_irrefl, gt_iff_lt, cells_one, cells_agg, noTup_one, noTup_agg, List.length_cons, List.length_nil, Nat.zero_add, Nat.add_zero, Nat.reduceAdd, Nat.reduceSub, Nat.reduceMul, Nat.le_refl, Nat.zero_le, capsOf_nil, capsOf_cons, capArgs_nil, capArgs_cons, List.cons_append, List.nil_append, List.append_nil, ex_0, ex_0a, ex_1, ex_1a, ex_2, ex_2a, ii_lss, ii_leq, ii_gtr, ii_geq, ii_eql, ii_neq, ii_add, ii_sub, ii_mul, ss_lss, ss_geq, ss_leq, ss_gtr, ss_eql, ss_neq, List.take_succ_cons, List.take_zero, List.drop_succ_cons, List.drop_zero, List.take_nil, List.drop_nil, List.headD_cons, Bool.not_true, Bool.not_false, Nat.lt_add_one, bin_agg, bin_b, agg2_agg, bool2_b, aggEq_nil, aggEq_s, aggEq_i, aggEq_b, aggO_some, fill_nil, fill_cons, Nat.zero_mul, partsF_nil, partsF_cons, repl_one, SK_lookup, SK_mapUpdate, lkN_some, upN_some, ltV_mp, nilCheck_ptr, lookOut_f, lookOut_t, doCall_yl, ofValue_int, ofValue_bool, ev_nilP, ev_nilM, ev_nilF]; refine hK _ _ ?_; clear hK K)
  exact ⟨_, _, callEnd_two _ _ (.inr rfl) rfl (by simp only [slot_put, Nat.reduceEqDiff, reduceIte]) (by simp only [slot_put, Nat.reduceEqDiff, reduceIte]), g7, fun _ => rfl⟩

/-- The error of asking for a ladder. -/
def ladE : Option (List Lad) → List UInt8 → Int
  | none, _ => 1
  | some ls, s => if (idxN 0 ls s).isSome = true then 0 else 4
/-- What the cells of the answer mean. -/
def LadA (H : Hp) (c : List AC) (o : Option (List Lad)) (s : List UInt8) : Prop :=
  (ladE o s ≠ 0 → c = [.o (.str []), .o .nilS]) ∧ ∀ ls i x, o = some ls → idxN 0 ls s = some i → ls[i]? = some x → LadR H c x
theorem ladE_none (s : List UInt8) : ladE none s = 1 := rfl
theorem ladE_some (ls : List Lad) (s : List UInt8) : ladE (some ls) s = if (idxN 0 ls s).isSome = true then 0 else 4 := rfl
theorem idx_at {ls : List Lad} {s : List UInt8} {i : Nat} (h : idxN 0 ls s = some i) : ∃ x, ls[i]? = some x ∧ x.1 = s := by
  obtain ⟨_, _, x, h3, h4⟩ := idxN_lt 0 ls s i h
  exact ⟨x, h3, h4⟩

/-- A result in cells of its own, and one in a slot. -/
theorem callEnd_cells_one {E : Env} {s q : Tmp} {t : TypeId} {n : Nat} {A : AAct} {H H2 : Hp} {e : AExit} {id g lim : Nat} {cells : List AC} {c : AC} (ht : loadT E.P t = some (true, n)) (he : e = .normal ∨ e = .ret) (hd : closeAll H A.dfr = some H2) (hs : slot A.tm s = .one (.o (.ptr id g 0 lim)))
    (hg : rowOf (H2.get id) g = some cells) (hl : n ≤ lim) (ho : cells.length = n) (hq : slot A.tm q = .one c) : callEnd E [.cell s t, .tmp q] (e, A, H) = .ok [(.tup [(true, cells), (false, [c])], H2)] := by
  have key : (optE (closeAll H A.dfr) (R.bad "marks") fun h2 => optE (resAll E.P [.cell s t, .tmp q] A.tm h2) (.bad "results") fun l => .ok [(tupOf l, h2)]) = .ok [(.tup [(true, cells), (false, [c])], H2)] := by
    rw [hd]
    have e1 : resF E.P (.cell s t) A.tm H2 = some (true, cells) := by
      have e0 : resF E.P (.cell s t) = match loadT E.P t with
          | some p => fun tm h => optE (tm.get s) none fun v => ANext.rec (motive := fun _ => Option (Bool × List AC)) (fun v _ => resV v) (fun _ => none) (fun _ _ => none) (fun _ _ => none) (fun _ => none) (doLoad h p.1 p.2 v)
          | none => fun _ _ => none := rfl
      rw [e0, ht]
      show optE (A.tm.get s) none (fun v => ANext.rec (motive := fun _ => Option (Bool × List AC)) (fun v _ => resV v) (fun _ => none) (fun _ _ => none) (fun _ _ => none) (fun _ => none) (doLoad H2 true n v)) = _
      rw [getS hs]
      show ANext.rec (motive := fun _ => Option (Bool × List AC)) (fun v _ => resV v) (fun _ => none) (fun _ _ => none) (fun _ _ => none) (fun _ => none) (doLoad H2 true n (.one (.o (.ptr id g 0 lim)))) = _
      rw [doLoad_ptr, hg, ldO_agg hl (by omega), List.drop_zero, List.take_of_length_le (by omega)]; rfl
    have hr : resAll E.P [.cell s t, .tmp q] A.tm H2 = some [(true, cells), (false, [c])] := by
      show optE (resF E.P (.cell s t) A.tm H2) none (fun x => optE (optE (optE (A.tm.get q) none resV) none fun x => optE (some []) none fun l => some (x :: l)) none fun l => some (x :: l)) = _
      rw [e1, getS hq]; rfl
    show optE (resAll E.P [.cell s t, .tmp q] A.tm H2) (R.bad "results") (fun l => R.ok [(tupOf l, H2)]) = _
    rw [hr]; rfl
  rcases he with rfl | rfl
  · exact key
  · exact key

set_option maxRecDepth 10000 in
set_option maxHeartbeats 4000000 in
theorem ladder_con (H : Hp) (p : AC) (o : Option (List Lad)) (s : List UInt8) (hp : BookO H p o) (hL : ∀ ls, o = some ls → ∀ x ∈ ls, x.2.length ≤ 1000000) : Con E2 34 [.one p, .one (.o (.str s))] H (fun _ => False) fun r H' =>
    ∃ c, r = .tup [(true, c), (false, [.i .i64 (ladE o s)])] ∧ LadA H' c o s ∧ c.length = 2 := by
  refine Con.of rfl fun lg => ?_
  have hp : BookO ⟨H.t, H.nx, lg⟩ p o := BookO.same (H := H) rfl rfl hp
  generalize (⟨H.t, H.nx, lg⟩ : Hp) = H at hp ⊢
  refine C1.body (E := E2) (nt := 29) (res := [.cell 4 78, .tmp 5]) Tryz.func34 rfl rfl rfl rfl rfl fun tm hargs => ?_
  have h0 := hargs 0 _ rfl
  have h1 := hargs 1 _ rfl
  clear hargs
  repeat refine R1.s_assoc ?_
  refine R1.s_rg fun K hK => ?_
  simp only [SG_nil, SG_cons, SU_yes, gw_n, gOf_n, List.map_cons, List.map_nil, optP_some, SK_assign, SK_alloc, ev_int, putD_nt, slotOk, Nat.blt_eq, Nat.reduceLT, true_and, List.length_cons, List.length_nil, Nat.zero_add, Nat.reduceAdd, E2_P, zr_lad]
  refine hK _ _ ?_
  clear hK K
  refine R1.gen (fun A1 H1 => Gr H H1 ∧ H.nx < H1.nx ∧ H1.get H.nx = some (.arr [.o (.str []), .o .nilS] 78 0 0) ∧ slot A1.tm 0 = .one p ∧ slot A1.tm 1 = .one (.o (.str s)) ∧ slot A1.tm 4 = .one (.o (.ptr H.nx 0 0 2)) ∧ A1.nt = 29 ∧ A1.dfr = [])
    ⟨(Fr.refl _).new _, ?_⟩ ?_
  · simp only [Nat.zero_lt_succ, slot_put, putD_nt, putD_dfr, Nat.reduceLT, and_true, if_true, if_false, nxNew, get_newE, eqLt, Nat.lt_add_one, h0, h1]
  rintro A1 H1 ⟨g1, n1, r4, t0, t1, t4, hnt, hdf⟩
  clear h0 h1 tm
  have hp1 := hp.gr g1
  repeat refine R1.s_assoc ?_
  refine R1.s_rg fun K hK => ?_
  simp only [SG_cons, SU_yes, gw_n, gOf_n, List.map_cons, List.map_nil, SK_move, SK_call, doCall_clo, doCall_clo, evTmp, ev_func, evs_cons, evs_nil, slot_put, putD_nt, slotOk, Nat.blt_eq, Nat.reduceLT, true_and, if_true, capArgs_nil, List.append_nil, E2_P, t0, hnt, bd_none]
  refine WE.con (none_con H1 p o hp1) fun v H2 g2 hv => ?_
  subst hv
  simp only [SG_nil]
  refine hK _ _ ?_
  clear hK K
  have hp2 := hp1.gr g2
  have g2' := g1.gr g2
  have r4 : H2.get H.nx = some (.arr [.o (.str []), .o .nilS] 78 0 0) := by rw [g2.get _ n1 not_false]; exact r4
  have n2 : H.nx < H2.nx := Nat.lt_of_lt_of_le n1 g2.nx
  have fin : ∀ (A : AAct) (H3 : Hp) (c : List AC) (e : Int), slot A.tm 4 = .one (.o (.ptr H.nx 0 0 2)) → slot A.tm 5 = .one (.i .i64 e) → A.dfr = [] → Gr H H3 → H3.get H.nx = some (.arr c 78 0 0) → c.length = 2 → e = ladE o s → LadA H3 c o s →
      ∃ w H4, callEnd E2 [.cell 4 78, .tmp 5] (.ret, A, H3) = .ok [(w, H4)] ∧ Gr H H4 ∧ ∀ lg' : List Nat, ∃ c, w = .tup [(true, c), (false, [.i .i64 (ladE o s)])] ∧ LadA ⟨H4.t, H4.nx, lg'⟩ c o s ∧ c.length = 2 := fun A H3 c e h4 h5 hd hg hr hc he ha =>
    ⟨_, H3, callEnd_cells_one (id := H.nx) (g := 0) ld_lad (.inr rfl) (by rw [hd]; rfl) h4 (by rw [hr]; exact rowOf_arr (Nat.le_refl _) (Nat.le_refl _)) (Nat.le_refl _) hc h5, hg, fun _ => ⟨c, by rw [he], ha, hc⟩⟩
  cases o with
  | none =>
    repeat refine R1.s_assoc ?_
    (first | refine R1.s_cnd fun Kx Ky hx hy => ?_ | refine R1.e_cnd fun Kx Ky hx hy => ?_); simp only [boolP'_b, evTmp, slot_put, if_true, if_false, eqGt, Nat.lt_add_one]
    refine hx ?_
    clear hx hy Kx Ky
    repeat' first | refine R1.ret ?_ | refine R1.exit ?_ | refine R1.skip ?_ | refine R1.s_ret ?_ | refine R1.s_exit ?_ | refine R1.s_assoc ?_ | refine R1.s_skip ?_ | refine R1.s_scope ?_ | ((first | refine R1.e_rg fun K hK => ?_ | refine R1.s_rg fun K hK => ?_ | refine R1.e_sq (by kernel_rfl) fun K hK => ?_ | refine R1.s_sq (by kernel_rfl) fun K hK => ?_); simp only [SG_nil, SG_cons, SU_yes, gw_n, gOf_n, List.map_cons, List.map_nil, optP_some, vN_val, stN_some, SK_assign, SK_store, SK_build, evTmp, ev_int, slot_put, putD_nt, putD_none, slotOk, Nat.blt_eq, Nat.reduceLT, true_and, if_true, if_false, ltV_ptr, eqLt, eqGt, doStore_ptr, stO_arr, cells_agg, noTup_agg, List.length_cons, List.length_nil, Nat.zero_add, Nat.reduceAdd, Nat.le_refl, List.nil_append, List.append_nil, List.take_zero, List.drop_succ_cons, List.drop_nil, Nat.lt_add_one, fill_nil, partsF_nil, E2_P, hnt, zr_lad, pt_lad, t4, sz_lad, r4, n2]; refine hK _ _ ?_; clear hK K)
    exact fin _ _ _ 1 (by simp only [slot_put, Nat.reduceEqDiff, reduceIte, t4]) (by simp only [slot_put, Nat.reduceEqDiff, reduceIte]) (by simp only [putD_dfr, hdf]) (g2'.mod _ (.inl (Nat.le_refl _))) (get_modE rfl) rfl rfl ⟨fun _ => rfl, fun ls i x h => by cases h⟩
  | some ls =>
    repeat refine R1.s_assoc ?_
    (first | refine R1.s_cnd fun Kx Ky hx hy => ?_ | refine R1.e_cnd fun Kx Ky hx hy => ?_); simp only [boolP'_b, evTmp, slot_put, if_true, if_false, eqGt, Nat.lt_add_one]
    refine hy ?_
    clear hx hy Kx Ky
    refine R1.s_skip ?_
    have hp2 : BookR H2 p ls := hp2
    repeat refine R1.s_assoc ?_
    refine R1.s_rg fun K hK => ?_
    simp only [SG_cons, SU_yes, gw_n, gOf_n, List.map_cons, List.map_nil, Nat.zero_lt_succ, SK_move, SK_call, doCall_clo, doCall_clo, evTmp, ev_func, evs_cons, evs_nil, slot_put, putD_nt, slotOk, Nat.blt_eq, Nat.reduceLT, true_and, if_true, if_false, eqLt, eqGt, capArgs_nil, List.append_nil, Nat.lt_add_one, E2_P, t0, t1, hnt, bd_index]
    refine WE.con (index_con H2 p ls s hp2) fun v H3 g3 hv => ?_
    subst hv
    simp only [SG_nil, SG_cons, SU_yes, gw_n, vN_val, SK_move, SK_assign, SK_extract, evTmp, slot_put, putD_nt, slotOk, Nat.blt_eq, Nat.reduceLT, true_and, if_true, if_false, eqLt, eqGt, ex_0, ex_1, Nat.lt_add_one, hnt]
    refine hK _ _ ?_
    clear hK K
    have hp3 := hp2.gr g3
    have r4 : H3.get H.nx = some (.arr [.o (.str []), .o .nilS] 78 0 0) := by rw [g3.get _ n2 not_false]; exact r4
    have n3 : H.nx < H3.nx := Nat.lt_of_lt_of_le n2 g3.nx
    have g3' := g2'.gr g3
    cases hfi : idxN 0 ls s with
    | none =>
      have hle : ladE (some ls) s = 4 := by rw [ladE_some, hfi]; rfl
      simp only [Option.isSome_none, Bool.false_eq_true, if_false]
      repeat' first | refine R1.ret ?_ | refine R1.exit ?_ | refine R1.skip ?_ | refine R1.s_ret ?_ | refine R1.s_exit ?_ | refine R1.s_assoc ?_ | refine R1.s_skip ?_ | refine R1.s_scope ?_ | ((first | refine R1.e_rg fun K hK => ?_ | refine R1.s_rg fun K hK => ?_ | refine R1.e_sq (by kernel_rfl) fun K hK => ?_ | refine R1.s_sq (by kernel_rfl) fun K hK => ?_); simp only [SG_nil, SG_cons, SU_yes, gw_n, gOf_n, List.map_cons, List.map_nil, vN_val, Int.reduceBEq, SK_move, SK_bin, evTmp, ev_int, slot_put, putD_nt, slotOk, Nat.blt_eq, Nat.reduceLT, true_and, if_true, if_false, eqLt, eqGt, ii_neq, Bool.not_false, Nat.lt_add_one, E2_P, hnt]; refine hK _ _ ?_; clear hK K)
      repeat refine R1.s_assoc ?_
      (first | refine R1.s_cnd fun Kx Ky hx hy => ?_ | refine R1.e_cnd fun Kx Ky hx hy => ?_); simp only [boolP'_b, evTmp, slot_put, Nat.reduceLT, if_true, if_false, eqGt, Nat.lt_add_one]
      refine hx ?_
      clear hx hy Kx Ky
      repeat' first | refine R1.ret ?_ | refine R1.exit ?_ | refine R1.skip ?_ | refine R1.s_ret ?_ | refine R1.s_exit ?_ | refine R1.s_assoc ?_ | refine R1.s_skip ?_ | refine R1.s_scope ?_ | ((first | refine R1.e_rg fun K hK => ?_ | refine R1.s_rg fun K hK => ?_ | refine R1.e_sq (by kernel_rfl) fun K hK => ?_ | refine R1.s_sq (by kernel_rfl) fun K hK => ?_); simp only [SG_nil, SG_cons, SU_yes, gw_n, gOf_n, List.map_cons, List.map_nil, optP_some, vN_val, stN_some, SK_move, SK_assign, SK_store, SK_build, evTmp, slot_put, putD_nt, putD_none, slotOk, Nat.blt_eq, Nat.reduceLT, true_and, if_true, if_false, ltV_ptr, eqLt, eqGt, doStore_ptr, stO_arr, cells_agg, noTup_agg, List.length_cons, List.length_nil, Nat.zero_add, Nat.reduceAdd, Nat.le_refl, List.nil_append, List.append_nil, List.take_zero, List.drop_succ_cons, List.drop_nil, Nat.lt_add_one, fill_nil, partsF_nil, E2_P, hnt, zr_lad, pt_lad, t4, sz_lad, r4, n3]; refine hK _ _ ?_; clear hK K)
      exact fin _ _ _ 4 (by simp only [slot_put, Nat.reduceEqDiff, reduceIte, t4]) (by simp only [slot_put, Nat.reduceEqDiff, reduceIte]) (by simp only [putD_dfr, hdf]) (g3'.mod _ (.inl (Nat.le_refl _))) (get_modE rfl) rfl hle.symm ⟨fun _ => rfl, fun ls' i x h h2 => by cases h; rw [hfi] at h2; cases h2⟩
    | some i =>
      have hle : ladE (some ls) s = 0 := by rw [ladE_some, hfi]; rfl
      obtain ⟨x, hx, hxs⟩ := idx_at hfi
      simp only [Option.isSome_some, if_true, Option.getD_some]
      repeat' first | refine R1.ret ?_ | refine R1.exit ?_ | refine R1.skip ?_ | refine R1.s_ret ?_ | refine R1.s_exit ?_ | refine R1.s_assoc ?_ | refine R1.s_skip ?_ | refine R1.s_scope ?_ | ((first | refine R1.e_rg fun K hK => ?_ | refine R1.s_rg fun K hK => ?_ | refine R1.e_sq (by kernel_rfl) fun K hK => ?_ | refine R1.s_sq (by kernel_rfl) fun K hK => ?_); simp only [SG_nil, SG_cons, SU_yes, gw_n, gOf_n, List.map_cons, List.map_nil, vN_val, Int.reduceBEq, SK_move, SK_bin, evTmp, ev_int, slot_put, putD_nt, slotOk, Nat.blt_eq, Nat.reduceLT, true_and, if_true, if_false, eqLt, eqGt, ii_neq, Bool.not_true, Nat.lt_add_one, E2_P, hnt]; refine hK _ _ ?_; clear hK K)
      repeat refine R1.s_assoc ?_
      (first | refine R1.s_cnd fun Kx Ky hx hy => ?_ | refine R1.e_cnd fun Kx Ky hx hy => ?_); simp only [boolP'_b, evTmp, slot_put, Nat.reduceLT, if_true, if_false, Bool.false_eq_true, eqGt, Nat.lt_add_one]
      refine hy ?_
      clear hx hy Kx Ky
      refine R1.s_skip ?_
      obtain ⟨kb, m, lad, gr, fc, rfl, k1, k2, k3, k4, k5⟩ := hp3
      have hlt : i < ls.length := (List.getElem?_eq_some_iff.1 hx).1
      obtain ⟨id, g, off, cells, rfl, hid, hg, hat⟩ := k5.open (by omega)
      obtain ⟨u, hu, hx0, hx1, _⟩ := hat i x hx
      repeat refine R1.s_assoc ?_
      refine R1.s_rg fun K hK => ?_
      simp only [SG_cons, SU_yes, gw_n, gOf_n, List.map_cons, List.map_nil, vN_val, ldN_some, faN_some, iaN_some, Nat.zero_lt_succ, SK_move, SK_load, SK_fieldAddr, SK_indexAddr, SK_nilCheck, SK_call, doCall_clo, doCall_clo, evTmp, ev_func, evs_cons, evs_nil, slot_put, putD_nt, slotOk, Nat.blt_eq, Nat.reduceLT, Nat.reduceLeDiff, true_and, if_true, if_false, ltV_ptr, eqLt, eqGt, doLoad_ptr, rowOf_arr, ldO_agg, ldO_one, fieldAddr_at, Nat.reduceLeDiff, List.length_cons, List.length_nil, Nat.zero_add, Nat.add_zero, Nat.reduceAdd, Nat.reduceSub, Nat.le_refl, capArgs_nil, List.append_nil, List.drop_zero, List.headD_cons, Nat.lt_add_one, nilCheck_ptr, E2_P, t0, hnt, k1, k3, fd_book_0, ld_lads, el_lads, ld_lad, indexAddr_cast hlt, hid, hg, hx0, hx1, bd_copied]
      refine WE.con (copied_con H3 x.1 u x.2 hu (hL ls rfl x (List.mem_of_getElem? hx))) fun w H6 g6 ⟨u', hv, hu', hid'⟩ => ?_
      subst hv
      have r4 : H6.get H.nx = some (.arr [.o (.str []), .o .nilS] 78 0 0) := by rw [g6.get _ n3 not_false]; exact r4
      have n6 : H.nx < H6.nx := Nat.lt_of_lt_of_le n3 g6.nx
      have hu6 : SlP (H6.mod H.nx (.arr [.o (.str x.1), u'] 78 0 0)) u' x.2 := SlC.fr hu' mod_fr fun k h e => by have := hid' k h; omega
      simp only [SG_nil, SG_cons, SU_yes, gw_n, vN_val, stN_some, SK_assign, SK_store, evTmp, ev_int, slot_put, putD_nt, putD_none, slotOk, Nat.blt_eq, Nat.reduceLT, true_and, if_true, if_false, ltV_ptr, eqLt, eqGt, doStore_ptr, stO_arr, cells_agg, noTup_agg, List.length_cons, List.length_nil, Nat.zero_add, Nat.reduceAdd, Nat.le_refl, List.nil_append, List.append_nil, List.take_zero, List.drop_succ_cons, List.drop_nil, Nat.lt_add_one, E2_P, hnt, t4, sz_lad, r4, n6]
      refine hK _ _ ?_
      clear hK K
      repeat' first | refine R1.ret ?_ | refine R1.exit ?_ | refine R1.skip ?_ | refine R1.s_ret ?_ | refine R1.s_exit ?_ | refine R1.s_assoc ?_ | refine R1.s_skip ?_ | refine R1.s_scope ?_ | ((first | refine R1.e_rg fun K hK => ?_ | refine R1.s_rg fun K hK => ?_ | refine R1.e_sq (by kernel_rfl) fun K hK => ?_ | refine R1.s_sq (by kernel_rfl) fun K hK => ?_); simp only [SG_nil, SG_cons, SU_yes, SU_no, gw_n, gw_gwv, gwv_b, gwv_u, gOf_n, gOf_some, List.map_cons, List.map_nil, List.getElem?_cons_zero, List.getElem?_cons_succ, Option.elim_some, Option.map_some, Option.bind_some, optP_some, boolP_b, boolP'_b, boolE_b, decide_eq_true_eq, decide_true, decide_false, valP_val, valP_guard, vN_val, ldN_some, stN_some, faN_some, iaN_some, lnN_some, pkN_b, sliceO_some, slice_lo, slice_hi, slice_1, indexAddr_0, Nat.add_one_sub_one, Nat.one_mul, len_sl, len_ns, len_str', posS, eq0S, cast0, Int.reduceLT, Int.reduceLE, Int.reduceBEq, Option.map_none, Nat.lt_add_left_iff_pos, Nat.zero_lt_succ, Nat.le_add_left, SK_move, SK_assign, SK_pick, SK_alloc, SK_box, SK_load, SK_store, SK_bin, SK_not, SK_fieldAddr, SK_field, SK_indexAddr, SK_slice, SK_extract, SK_nilCheck, SK_makeFunc, SK_makeMap, SK_makeSlice, SK_build, SK_buildSlice, SK_len, SK_append, SK_call, doCall_clo, doCall_clo, evTmp, ev_int, ev_bool, ev_str, ev_nilS, ev_func, opFev, evs_cons, evs_nil, slot_put, putD_nt, putD_none, putD_dfr, slotOk, Nat.blt_eq, Nat.reduceLT, Nat.reduceEqDiff, Nat.reduceLeDiff, reduceIte, true_and, and_true, true_or, or_true, if_true, if_false, Bool.false_eq_true, Bool.true_eq_false, not_false_eq_true, not_true_eq_false, ltV_ptr, ltV_sl, ltV_nil, ltV_str, ltV_i, nxNew, nxMod, get_newE, get_newL, get_modE, get_modN, ltAdd, ltSelf, eqLt, eqGt, eqLtA, eqGtA, eqSelfA, eqASelf, eqAA, ltAA, doLoad_ptr, doStore_ptr, rowOf_arr, rowOf_ro, ldO_agg, ldO_one, stO_arr, splice_eq, fieldAddr_at, Bool.not_eq_true', Bool.not_eq_false', decide_eq_false_iff_not, ne_eq, Nat.reduceLeDiff, Nat.lt_irrefl, gt_iff_lt, cells_one, cells_agg, noTup_one, noTup_agg, List.length_cons, List.length_nil, Nat.zero_add, Nat.add_zero, Nat.reduceAdd, Nat.reduceSub, Nat.reduceMul, Nat.le_refl, Nat.zero_le, capsOf_nil, capsOf_cons, capArgs_nil, capArgs_cons, List.cons_append, List.nil_append, List.append_nil, ex_0, ex_0a, ex_1, ex_1a, ex_2, ex_2a, ii_lss, ii_leq, ii_gtr, ii_geq, ii_eql, ii_neq, ii_add, ii_sub, ii_mul, ss_lss, ss_geq, ss_leq, ss_gtr, ss_eql, ss_neq, List.take_succ_cons, List.take_zero, List.drop_succ_cons, List.drop_zero, List.take_nil, List.drop_nil, List.headD_cons, Bool.not_true, Bool.not_false, Nat.lt_add_one, bin_agg, bin_b, agg2_agg, bool2_b, aggEq_nil, aggEq_s, aggEq_i, aggEq_b, aggO_some, fill_nil, fill_cons, Nat.zero_mul, partsF_nil, partsF_cons, repl_one, SK_lookup, SK_mapUpdate, lkN_some, upN_some, ltV_mp, nilCheck_ptr, lookOut_f, lookOut_t, doCall_yl, ofValue_int, ofValue_bool, ev_nilP, ev_nilM, ev_nilF]; refine hK _ _ ?_; clear hK K)
      exact fin _ _ _ 0 (by simp only [slot_put, Nat.reduceEqDiff, reduceIte, t4]) (by simp only [slot_put, Nat.reduceEqDiff, reduceIte]) (by simp only [putD_dfr, hdf]) ((g3'.gr g6).mod _ (.inl (Nat.le_refl _))) (get_modE rfl) rfl hle.symm ⟨fun h => absurd hle h, fun ls' j y h h2 h3 => by
        cases h
        rw [hfi] at h2
        cases h2
        rw [hx] at h3
        cases h3
        exact ⟨u', rfl, hu6⟩⟩

set_option maxRecDepth 10000 in
theorem absent_con (H : Hp) (p : AC) (o : Option (List Lad)) (hp : BookO H p o) (hL : ∀ ls, o = some ls → ∀ x ∈ ls, x.2.length ≤ 1000000) : Con E2 31 [.one p] H (fun _ => False) fun r _ => r = .one (.b o.isNone) := by
  refine Con.of rfl fun lg => ?_
  have hp : BookO ⟨H.t, H.nx, lg⟩ p o := BookO.same (H := H) rfl rfl hp
  generalize (⟨H.t, H.nx, lg⟩ : Hp) = H at hp ⊢
  refine C1.body (E := E2) (nt := 12) (res := [.tmp 2]) Tryz.func31 rfl rfl rfl rfl rfl fun tm hargs => ?_
  have h0 := hargs 0 _ rfl
  clear hargs
  repeat' first | refine R1.ret ?_ | refine R1.exit ?_ | refine R1.skip ?_ | refine R1.s_ret ?_ | refine R1.s_exit ?_ | refine R1.s_assoc ?_ | refine R1.s_skip ?_ | refine R1.s_scope ?_ | ((first | refine R1.e_rg fun K hK => ?_ | refine R1.s_rg fun K hK => ?_ | refine R1.e_sq (by kernel_rfl) fun K hK => ?_ | refine R1.s_sq (by kernel_rfl) fun K hK => ?_); simp only [SG_nil, SG_cons, SU_yes, gw_n, gOf_n, List.map_cons, List.map_nil, Nat.zero_lt_succ, SK_move, SK_assign, SK_call, evTmp, ev_bool, ev_str, ev_func, evs_cons, evs_nil, slot_put, putD_nt, slotOk, Nat.blt_eq, Nat.reduceLT, true_and, if_true, if_false, eqLt, eqGt]; refine hK _ _ ?_; clear hK K)
  repeat refine R1.s_assoc ?_
  refine R1.s_rg fun K hK => ?_
  simp only [SG_cons, SU_yes, gw_n, gOf_n, List.map_cons, List.map_nil, Nat.zero_lt_succ, SK_move, SK_call, doCall_clo, doCall_clo, evTmp, ev_str, ev_func, evs_cons, evs_nil, slot_put, putD_nt, slotOk, Nat.blt_eq, Nat.reduceLT, true_and, if_true, if_false, eqLt, eqGt, capArgs_nil, List.append_nil, E2_P, h0, bd_ladder]
  refine WE.con (ladder_con H p o [] hp hL) fun v H2 g2 ⟨c, hv, ha, hc⟩ => ?_
  subst hv
  simp only [SG_nil, SG_cons, SU_yes, gw_n, optP_some, vN_val, stN_some, SK_move, SK_assign, SK_alloc, SK_store, SK_extract, evTmp, slot_put, putD_nt, putD_none, slotOk, Nat.blt_eq, Nat.reduceLT, true_and, if_true, if_false, ltV_ptr, nxNew, get_newE, eqLt, eqGt, doStore_ptr, stO_arr, cells_agg, noTup_agg, List.length_cons, List.length_nil, Nat.zero_add, Nat.reduceAdd, Nat.le_refl, List.nil_append, List.append_nil, ex_0a, ex_1, List.take_zero, List.drop_succ_cons, List.drop_nil, Nat.lt_add_one, E2_P, zr_lad, sz_lad, hc]
  refine hK _ _ ?_
  clear hK K
  repeat' first | refine R1.ret ?_ | refine R1.exit ?_ | refine R1.skip ?_ | refine R1.s_ret ?_ | refine R1.s_exit ?_ | refine R1.s_assoc ?_ | refine R1.s_skip ?_ | refine R1.s_scope ?_ | ((first | refine R1.e_rg fun K hK => ?_ | refine R1.s_rg fun K hK => ?_ | refine R1.e_sq (by kernel_rfl) fun K hK => ?_ | refine R1.s_sq (by kernel_rfl) fun K hK => ?_); simp only [SG_nil, SG_cons, SU_yes, gw_n, gOf_n, List.map_cons, List.map_nil, vN_val, SK_move, SK_assign, SK_bin, evTmp, ev_int, slot_put, putD_nt, slotOk, Nat.blt_eq, Nat.reduceLT, true_and, if_true, if_false, eqLt, eqGt, ii_eql, Nat.lt_add_one]; refine hK _ _ ?_; clear hK K)
  refine ⟨_, _, callEnd_one (.b o.isNone) (.inr rfl) rfl ?_, (g2.new _).mod _ (.inl g2.nx), fun _ => rfl⟩
  simp only [slot_put, Nat.reduceEqDiff, reduceIte]
  have : (ladE o [] == 1) = o.isNone := by
    cases o with
    | none => rfl
    | some ls => rw [ladE_some]; split <;> rfl
  rw [this]
end Go.Proofs.YtiejeicaaojdlaaGreat
