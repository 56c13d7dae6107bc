/- The reference's Add, Sub, Covers; the law AccountLotsAdd: what they answer. -/
import Derived.Test.YtndipbefnipnpaaGreatLotsRfC
import Derived.Test.YtndipbefnipnpaaGreatLotsRf2
namespace Go.Proofs.YtndipbefnipnpaaGreat
open Go Go.Eng

theorem body15 : hasBody Tryz.prog 15 = true := by kernel_rfl
set_option maxRecDepth 10000 in
theorem refAdd_con (H : Hp) (a b : List Lot) (va vb : AC) (ha : SlL H va a) (hb : SlL H vb b) :
    Con E2 15 [.one va, .one vb] H (fun _ => False) fun v H' => ∃ vs, v = .tup [(false, [vs]), (false, [.i .i64 (combC 1 a b).2])] ∧ SlL H' vs (combC 1 a b).1 := by
  refine Con.of rfl fun lg => ?_
  have ha : SlL ⟨H.t, H.nx, lg⟩ va a := ha
  have hb : SlL ⟨H.t, H.nx, lg⟩ vb b := hb
  generalize (⟨H.t, H.nx, lg⟩ : Hp) = H at ha hb ⊢
  refine C1.body (E := E2) (nt := 11) (res := [.tmp 4, .tmp 5]) Tryz.func15 rfl rfl rfl rfl rfl fun tm hargs => ?_
  have h0 := hargs 0 _ rfl
  have h1 := hargs 1 _ rfl
  clear hargs
  repeat' first | refine R1.ret ?_ | refine R1.exit ?_ | refine R1.skip ?_ | refine R1.s_ret ?_ | refine R1.s_exit ?_ | refine R1.s_assoc ?_ | refine R1.s_skip ?_ | refine R1.s_scope ?_ | ((first | refine R1.e_rg fun K hK => ?_ | refine R1.s_rg fun K hK => ?_ | refine R1.e_sq (by kernel_rfl) fun K hK => ?_ | refine R1.s_sq (by kernel_rfl) fun K hK => ?_); simp only [SG_nil, SG_cons, SU_yes, gw_n, gOf_n, List.map_cons, List.map_nil, Nat.zero_lt_succ, SK_move, SK_assign, SK_call, evTmp, ev_int, ev_nilS, ev_func, evs_cons, evs_nil, slot_put, putD_nt, slotOk, Nat.blt_eq, Nat.reduceLT, true_and, if_true, if_false, eqLt, eqGt, Nat.lt_add_one, E2_P, h0, h1]; refine hK _ _ ?_; clear hK K)
  refine R1.s_rg fun K hK => ?_
  simp only [SG_cons, SU_yes, gw_n, gOf_n, List.map_cons, List.map_nil, Nat.zero_lt_succ, SK_move, SK_call, doCall_clo, doCall_clo, evTmp, ev_int, ev_func, evs_cons, evs_nil, slot_put, putD_nt, slotOk, Nat.blt_eq, Nat.reduceLT, true_and, if_true, if_false, eqLt, eqGt, capArgs_nil, List.append_nil, Nat.lt_add_one, E2_P, h0, h1, body40]
  refine WE.con (refComb_con 1 H a b va vb ha hb) fun v2 H2 hf ⟨vs, hv, hs⟩ => ?_
  subst hv
  simp only [SG_nil, SG_cons, SU_yes, gw_n, vN_val, SK_assign, SK_extract, evTmp, slot_put, putD_nt, slotOk, Nat.blt_eq, Nat.reduceLT, true_and, if_true, if_false, eqLt, eqGt, ex_0, ex_1, Nat.lt_add_one]
  refine hK _ _ ?_
  clear hK K
  repeat' first | refine R1.ret ?_ | refine R1.exit ?_ | refine R1.skip ?_ | refine R1.s_ret ?_ | refine R1.s_exit ?_ | refine R1.s_assoc ?_ | refine R1.s_skip ?_ | refine R1.s_scope ?_ | ((first | refine R1.e_rg fun K hK => ?_ | refine R1.s_rg fun K hK => ?_ | refine R1.e_sq (by kernel_rfl) fun K hK => ?_ | refine R1.s_sq (by kernel_rfl) fun K hK => ?_); simp only [SG_nil, SG_cons, SU_yes, SU_no, gw_n, gw_gwv, gwv_b, gwv_u, gOf_n, gOf_some, List.map_cons, List.map_nil, List.getElem?_cons_zero, List.getElem?_cons_succ, Option.elim_some, Option.map_some, Option.bind_some, optP_some, boolP_b, boolP'_b, boolE_b, decide_eq_true_eq, decide_true, decide_false, valP_val, valP_guard, vN_val, ldN_some, stN_some, faN_some, iaN_some, lnN_some, pkN_b, sliceO_some, slice_lo, slice_hi, slice_1, indexAddr_0, Nat.add_one_sub_one, Nat.one_mul, len_sl, len_ns, len_str', posS, eq0S, cast0, Int.reduceLT, Int.reduceLE, Int.reduceBEq, Option.map_none, Nat.lt_add_left_iff_pos, Nat.zero_lt_succ, Nat.le_add_left, SK_move, SK_assign, SK_pick, SK_alloc, SK_box, SK_load, SK_store, SK_bin, SK_not, SK_fieldAddr, SK_field, SK_indexAddr, SK_slice, SK_extract, SK_nilCheck, SK_makeFunc, SK_makeMap, SK_makeSlice, SK_build, SK_buildSlice, SK_len, SK_append, SK_call, doCall_clo, doCall_clo, evTmp, ev_int, ev_bool, ev_str, ev_nilS, ev_func, opFev, evs_cons, evs_nil, slot_put, putD_nt, putD_none, putD_dfr, slotOk, Nat.blt_eq, Nat.reduceLT, Nat.reduceEqDiff, Nat.reduceLeDiff, reduceIte, true_and, and_true, true_or, or_true, if_true, if_false, Bool.false_eq_true, Bool.true_eq_false, not_false_eq_true, not_true_eq_false, ltV_ptr, ltV_sl, ltV_nil, ltV_str, ltV_i, nxNew, nxMod, get_newE, get_newL, get_modE, get_modN, ltAdd, ltSelf, eqLt, eqGt, eqLtA, eqGtA, eqSelfA, eqASelf, eqAA, ltAA, doLoad_ptr, doStore_ptr, rowOf_arr, rowOf_ro, ldO_agg, ldO_one, stO_arr, splice_eq, fieldAddr_at, Bool.not_eq_true', Bool.not_eq_false', decide_eq_false_iff_not, ne_eq, Nat.reduceLeDiff, Nat.lt_irrefl, gt_iff_lt, cells_one, cells_agg, noTup_one, noTup_agg, List.length_cons, List.length_nil, Nat.zero_add, Nat.add_zero, Nat.reduceAdd, Nat.reduceSub, Nat.reduceMul, Nat.le_refl, Nat.zero_le, capsOf_nil, capsOf_cons, capArgs_nil, capArgs_cons, List.cons_append, List.nil_append, List.append_nil, ex_0, ex_0a, ex_1, ex_1a, ex_2, ex_2a, ii_lss, ii_leq, ii_gtr, ii_geq, ii_eql, ii_neq, ii_add, ii_sub, ii_mul, ss_lss, ss_geq, ss_leq, ss_gtr, ss_eql, ss_neq, List.take_succ_cons, List.take_zero, List.drop_succ_cons, List.drop_zero, List.take_nil, List.drop_nil, List.headD_cons, Bool.not_true, Bool.not_false, Nat.lt_add_one, bin_agg, bin_b, agg2_agg, bool2_b, aggEq_nil, aggEq_s, aggEq_i, aggEq_b, aggO_some, fill_nil, fill_cons, Nat.zero_mul, partsF_nil, partsF_cons, repl_one]; refine hK _ _ ?_; clear hK K)
  exact ⟨_, _, callEnd_two vs (.i .i64 (combC 1 a b).2) (.inr rfl) rfl (by simp only [slot_put, Nat.reduceEqDiff, reduceIte]) (by simp only [slot_put, Nat.reduceEqDiff, reduceIte]), hf, fun _ => ⟨_, rfl, hs⟩⟩

theorem body18 : hasBody Tryz.prog 18 = true := by kernel_rfl
set_option maxRecDepth 10000 in
theorem refSub_con (H : Hp) (a b : List Lot) (va vb : AC) (ha : SlL H va a) (hb : SlL H vb b) :
    Con E2 18 [.one va, .one vb] H (fun _ => False) fun v H' => ∃ vs, v = .tup [(false, [vs]), (false, [.i .i64 (combC (-1) a b).2])] ∧ SlL H' vs (combC (-1) a b).1 := by
  refine Con.of rfl fun lg => ?_
  have ha : SlL ⟨H.t, H.nx, lg⟩ va a := ha
  have hb : SlL ⟨H.t, H.nx, lg⟩ vb b := hb
  generalize (⟨H.t, H.nx, lg⟩ : Hp) = H at ha hb ⊢
  refine C1.body (E := E2) (nt := 11) (res := [.tmp 4, .tmp 5]) Tryz.func18 rfl rfl rfl rfl rfl fun tm hargs => ?_
  have h0 := hargs 0 _ rfl
  have h1 := hargs 1 _ rfl
  clear hargs
  repeat' first | refine R1.ret ?_ | refine R1.exit ?_ | refine R1.skip ?_ | refine R1.s_ret ?_ | refine R1.s_exit ?_ | refine R1.s_assoc ?_ | refine R1.s_skip ?_ | refine R1.s_scope ?_ | ((first | refine R1.e_rg fun K hK => ?_ | refine R1.s_rg fun K hK => ?_ | refine R1.e_sq (by kernel_rfl) fun K hK => ?_ | refine R1.s_sq (by kernel_rfl) fun K hK => ?_); simp only [SG_nil, SG_cons, SU_yes, gw_n, gOf_n, List.map_cons, List.map_nil, Nat.zero_lt_succ, SK_move, SK_assign, SK_call, evTmp, ev_int, ev_nilS, ev_func, evs_cons, evs_nil, slot_put, putD_nt, slotOk, Nat.blt_eq, Nat.reduceLT, true_and, if_true, if_false, eqLt, eqGt, Nat.lt_add_one, E2_P, h0, h1]; refine hK _ _ ?_; clear hK K)
  refine R1.s_rg fun K hK => ?_
  simp only [SG_cons, SU_yes, gw_n, gOf_n, List.map_cons, List.map_nil, Nat.zero_lt_succ, SK_move, SK_call, doCall_clo, doCall_clo, evTmp, ev_int, ev_func, evs_cons, evs_nil, slot_put, putD_nt, slotOk, Nat.blt_eq, Nat.reduceLT, true_and, if_true, if_false, eqLt, eqGt, capArgs_nil, List.append_nil, Nat.lt_add_one, E2_P, h0, h1, body40]
  refine WE.con (refComb_con (-1) H a b va vb ha hb) fun v2 H2 hf ⟨vs, hv, hs⟩ => ?_
  subst hv
  simp only [SG_nil, SG_cons, SU_yes, gw_n, vN_val, SK_assign, SK_extract, evTmp, slot_put, putD_nt, slotOk, Nat.blt_eq, Nat.reduceLT, true_and, if_true, if_false, eqLt, eqGt, ex_0, ex_1, Nat.lt_add_one]
  refine hK _ _ ?_
  clear hK K
  repeat' first | refine R1.ret ?_ | refine R1.exit ?_ | refine R1.skip ?_ | refine R1.s_ret ?_ | refine R1.s_exit ?_ | refine R1.s_assoc ?_ | refine R1.s_skip ?_ | refine R1.s_scope ?_ | ((first | refine R1.e_rg fun K hK => ?_ | refine R1.s_rg fun K hK => ?_ | refine R1.e_sq (by kernel_rfl) fun K hK => ?_ | refine R1.s_sq (by kernel_rfl) fun K hK => ?_); simp only [SG_nil, SG_cons, SU_yes, SU_no, gw_n, gw_gwv, gwv_b, gwv_u, gOf_n, gOf_some, List.map_cons, List.map_nil, List.getElem?_cons_zero, List.getElem?_cons_succ, Option.elim_some, Option.map_some, Option.bind_some, optP_some, boolP_b, boolP'_b, boolE_b, decide_eq_true_eq, decide_true, decide_false, valP_val, valP_guard, vN_val, ldN_some, stN_some, faN_some, iaN_some, lnN_some, pkN_b, sliceO_some, slice_lo, slice_hi, slice_1, indexAddr_0, Nat.add_one_sub_one, Nat.one_mul, len_sl, len_ns, len_str', posS, eq0S, cast0, Int.reduceLT, Int.reduceLE, Int.reduceBEq, Option.map_none, Nat.lt_add_left_iff_pos, Nat.zero_lt_succ, Nat.le_add_left, SK_move, SK_assign, SK_pick, SK_alloc, SK_box, SK_load, SK_store, SK_bin, SK_not, SK_fieldAddr, SK_field, SK_indexAddr, SK_slice, SK_extract, SK_nilCheck, SK_makeFunc, SK_makeMap, SK_makeSlice, SK_build, SK_buildSlice, SK_len, SK_append, SK_call, doCall_clo, doCall_clo, evTmp, ev_int, ev_bool, ev_str, ev_nilS, ev_func, opFev, evs_cons, evs_nil, slot_put, putD_nt, putD_none, putD_dfr, slotOk, Nat.blt_eq, Nat.reduceLT, Nat.reduceEqDiff, Nat.reduceLeDiff, reduceIte, true_and, and_true, true_or, or_true, if_true, if_false, Bool.false_eq_true, Bool.true_eq_false, not_false_eq_true, not_true_eq_false, ltV_ptr, ltV_sl, ltV_nil, ltV_str, ltV_i, nxNew, nxMod, get_newE, get_newL, get_modE, get_modN, ltAdd, ltSelf, eqLt, eqGt, eqLtA, eqGtA, eqSelfA, eqASelf, eqAA, ltAA, doLoad_ptr, doStore_ptr, rowOf_arr, rowOf_ro, ldO_agg, ldO_one, stO_arr, splice_eq, fieldAddr_at, Bool.not_eq_true', Bool.not_eq_false', decide_eq_false_iff_not, ne_eq, Nat.reduceLeDiff, Nat.lt_irrefl, gt_iff_lt, cells_one, cells_agg, noTup_one, noTup_agg, List.length_cons, List.length_nil, Nat.zero_add, Nat.add_zero, Nat.reduceAdd, Nat.reduceSub, Nat.reduceMul, Nat.le_refl, Nat.zero_le, capsOf_nil, capsOf_cons, capArgs_nil, capArgs_cons, List.cons_append, List.nil_append, List.append_nil, ex_0, ex_0a, ex_1, ex_1a, ex_2, ex_2a, ii_lss, ii_leq, ii_gtr, ii_geq, ii_eql, ii_neq, ii_add, ii_sub, ii_mul, ss_lss, ss_geq, ss_leq, ss_gtr, ss_eql, ss_neq, List.take_succ_cons, List.take_zero, List.drop_succ_cons, List.drop_zero, List.take_nil, List.drop_nil, List.headD_cons, Bool.not_true, Bool.not_false, Nat.lt_add_one, bin_agg, bin_b, agg2_agg, bool2_b, aggEq_nil, aggEq_s, aggEq_i, aggEq_b, aggO_some, fill_nil, fill_cons, Nat.zero_mul, partsF_nil, partsF_cons, repl_one]; refine hK _ _ ?_; clear hK K)
  exact ⟨_, _, callEnd_two vs (.i .i64 (combC (-1) a b).2) (.inr rfl) rfl (by simp only [slot_put, Nat.reduceEqDiff, reduceIte]) (by simp only [slot_put, Nat.reduceEqDiff, reduceIte]), hf, fun _ => ⟨_, rfl, hs⟩⟩

theorem cov_keys {a b : List Lot} (h : chkTwo a b = 0) : covC a b = (keysK a b).all fun s => decide (amt b s ≤ amt a s) := by
  rw [covC, if_pos h, Bool.eq_iff_iff, List.all_eq_true]
  refine (runUnit _).trans ?_
  have hk := keysK_amt (srt_ok (chk_ok (chkTwo_z h).1).1) (srt_ok (chk_ok (chkTwo_z h).2).1)
  unfold keysK
  constructor
  · intro hp s hs
    obtain ⟨p, hm, rfl⟩ := List.mem_map.1 hs
    rw [decide_eq_true_eq, (hk p hm).1, (hk p hm).2]
    exact hp p hm
  · intro hs p hm
    have := hs (keyP p) (List.mem_map.2 ⟨p, hm, rfl⟩)
    rw [decide_eq_true_eq, (hk p hm).1, (hk p hm).2] at this
    exact this

set_option maxRecDepth 10000 in
set_option maxHeartbeats 4000000 in
theorem refCov_con (H : Hp) (a b : List Lot) (va vb : AC) (ha : SlL H va a) (hb : SlL H vb b) :
    Con E2 19 [.one va, .one vb] H (fun _ => False) fun v _ => v = .tup [(false, [.b (covC a b)]), (false, [.i .i64 (chkTwo a b)])] := by
  refine Con.of rfl fun lg => ?_
  have ha : SlL ⟨H.t, H.nx, lg⟩ va a := ha
  have hb : SlL ⟨H.t, H.nx, lg⟩ vb b := hb
  generalize (⟨H.t, H.nx, lg⟩ : Hp) = H at ha hb ⊢
  refine C1.body (E := E2) (nt := 37) (res := [.tmp 4, .tmp 5]) Tryz.func19 rfl rfl rfl rfl rfl fun tm hargs => ?_
  have h0 := hargs 0 _ rfl
  have h1 := hargs 1 _ rfl
  clear hargs
  repeat' first | refine R1.ret ?_ | refine R1.exit ?_ | refine R1.skip ?_ | refine R1.s_ret ?_ | refine R1.s_exit ?_ | refine R1.s_assoc ?_ | refine R1.s_skip ?_ | refine R1.s_scope ?_ | ((first | refine R1.e_rg fun K hK => ?_ | refine R1.s_rg fun K hK => ?_ | refine R1.e_sq (by kernel_rfl) fun K hK => ?_ | refine R1.s_sq (by kernel_rfl) fun K hK => ?_); simp only [SG_nil, SG_cons, SU_yes, gw_n, gOf_n, List.map_cons, List.map_nil, Nat.zero_lt_succ, SK_move, SK_assign, SK_call, evTmp, ev_int, ev_bool, ev_func, evs_cons, evs_nil, slot_put, putD_nt, slotOk, Nat.blt_eq, Nat.reduceLT, true_and, if_true, if_false, eqLt, eqGt, Nat.lt_add_one, E2_P, h0, h1]; refine hK _ _ ?_; clear hK K)
  refine R1.s_rg fun K hK => ?_
  simp only [SG_cons, SU_yes, gw_n, gOf_n, List.map_cons, List.map_nil, Nat.zero_lt_succ, SK_move, SK_call, doCall_clo, doCall_clo, evTmp, ev_func, evs_cons, evs_nil, slot_put, putD_nt, slotOk, Nat.blt_eq, Nat.reduceLT, true_and, if_true, if_false, eqLt, eqGt, capArgs_nil, List.append_nil, Nat.lt_add_one, E2_P, h0, h1, body41]
  refine WE.con (refTwo_con _ a b va vb ha hb) fun v2 H2 hf hv => ?_
  subst hv
  simp only [SG_nil, SG_cons, SU_yes, gw_n, SK_assign, evTmp, slot_put, putD_nt, slotOk, Nat.blt_eq, Nat.reduceLT, true_and, if_true, if_false, eqGt, Nat.lt_add_one]
  refine hK _ _ ?_
  clear hK K
  have ha2 := ha.gr hf
  have hb2 := hb.gr hf
  repeat' first | refine R1.ret ?_ | refine R1.exit ?_ | refine R1.skip ?_ | refine R1.s_ret ?_ | refine R1.s_exit ?_ | refine R1.s_assoc ?_ | refine R1.s_skip ?_ | refine R1.s_scope ?_ | ((first | refine R1.e_rg fun K hK => ?_ | refine R1.s_rg fun K hK => ?_ | refine R1.e_sq (by kernel_rfl) fun K hK => ?_ | refine R1.s_sq (by kernel_rfl) fun K hK => ?_); simp only [SG_nil, SG_cons, SU_yes, gw_n, gOf_n, List.map_cons, List.map_nil, vN_val, SK_move, SK_bin, evTmp, ev_int, slot_put, putD_nt, slotOk, Nat.blt_eq, Nat.reduceLT, true_and, if_true, if_false, eqLt, eqGt, ii_neq, Nat.lt_add_one, E2_P]; refine hK _ _ ?_; clear hK K)
  (first | refine R1.s_cnd fun Kx Ky hx hy => ?_ | refine R1.e_cnd fun Kx Ky hx hy => ?_); simp only [boolP'_b, evTmp, slot_put, Nat.reduceLT, if_true, if_false, eqGt, Bool.not_eq_true', Nat.lt_add_one]
  refine iteI (fun hc => hx ?_) (fun hc => hy ?_)
  · clear hx hy Kx Ky
    repeat' first | refine R1.ret ?_ | refine R1.exit ?_ | refine R1.skip ?_ | refine R1.s_ret ?_ | refine R1.s_exit ?_ | refine R1.s_assoc ?_ | refine R1.s_skip ?_ | refine R1.s_scope ?_ | ((first | refine R1.e_rg fun K hK => ?_ | refine R1.s_rg fun K hK => ?_ | refine R1.e_sq (by kernel_rfl) fun K hK => ?_ | refine R1.s_sq (by kernel_rfl) fun K hK => ?_); simp only [SG_nil, SG_cons, SU_yes, gw_n, gOf_n, List.map_cons, List.map_nil, SK_move, SK_assign, evTmp, ev_bool, slot_put, putD_nt, slotOk, Nat.blt_eq, Nat.reduceLT, true_and, if_true, if_false, eqLt, eqGt, Nat.lt_add_one]; refine hK _ _ ?_; clear hK K)
    refine ⟨_, _, callEnd_two (.b false) (.i .i64 (chkTwo a b)) (.inr rfl) rfl (by simp only [slot_put, Nat.reduceEqDiff, reduceIte]) (by simp only [slot_put, Nat.reduceEqDiff, reduceIte]), hf, fun _ => ?_⟩
    have : chkTwo a b ≠ 0 := by simpa using hc
    rw [covC, if_neg this]
  · clear hx hy Kx Ky
    have h00 : chkTwo a b = 0 := by simpa using hc
    clear hc
    have hlen := chkTwo_len h00
    have hla : a.length ≤ 64 := (chk_ok (chkTwo_z h00).1).2
    have hlb : b.length ≤ 64 := (chk_ok (chkTwo_z h00).2).2
    have hkl := keysK_len a b
    rw [cov_keys h00, h00]
    generalize hks : keysK a b = ks at hkl ⊢
    repeat' first | refine R1.ret ?_ | refine R1.exit ?_ | refine R1.skip ?_ | refine R1.s_ret ?_ | refine R1.s_exit ?_ | refine R1.s_assoc ?_ | refine R1.s_skip ?_ | refine R1.s_scope ?_ | ((first | refine R1.e_rg fun K hK => ?_ | refine R1.s_rg fun K hK => ?_ | refine R1.e_sq (by kernel_rfl) fun K hK => ?_ | refine R1.s_sq (by kernel_rfl) fun K hK => ?_); simp only [SG_cons, SU_yes, gw_n, gOf_n, List.map_cons, List.map_nil, Int.reduceBEq, Nat.zero_lt_succ, SK_move, SK_call, evTmp, ev_func, evs_cons, evs_nil, slot_put, putD_nt, slotOk, Nat.blt_eq, Nat.reduceLT, true_and, if_true, if_false, eqLt, eqGt, Bool.not_true, Nat.lt_add_one, E2_P]; refine hK _ _ ?_; clear hK K)
    refine R1.s_rg fun K hK => ?_
    simp only [SG_cons, SU_yes, gw_n, gOf_n, List.map_cons, List.map_nil, Int.reduceBEq, Nat.zero_lt_succ, SK_move, SK_call, doCall_clo, doCall_clo, evTmp, ev_func, evs_cons, evs_nil, slot_put, putD_nt, slotOk, Nat.blt_eq, Nat.reduceLT, true_and, if_true, if_false, eqLt, eqGt, capArgs_nil, List.append_nil, Bool.not_true, Nat.lt_add_one, E2_P, h0, h1, body42]
    refine WE.con (goods_con _ a b va vb ha2 hb2 hlen) fun v3 H3 hf3 ⟨vs, hv, hs⟩ => ?_
    subst hv
    rw [hks] at hs
    simp only [SG_nil, SG_cons, SU_yes, gw_n, SK_assign, evTmp, slot_put, putD_nt, slotOk, Nat.blt_eq, Nat.reduceLT, true_and, if_true, if_false, eqGt, Nat.lt_add_one]
    refine hK _ _ ?_
    clear hK K
    have ha3 := ha2.gr hf3
    have hb3 := hb2.gr hf3
    have g3 := hf.gr hf3
    repeat' first | refine R1.ret ?_ | refine R1.exit ?_ | refine R1.skip ?_ | refine R1.s_ret ?_ | refine R1.s_exit ?_ | refine R1.s_assoc ?_ | refine R1.s_skip ?_ | refine R1.s_scope ?_ | ((first | refine R1.e_rg fun K hK => ?_ | refine R1.s_rg fun K hK => ?_ | refine R1.e_sq (by kernel_rfl) fun K hK => ?_ | refine R1.s_sq (by kernel_rfl) fun K hK => ?_); simp only [SG_nil, SG_cons, SU_yes, gw_n, gOf_n, List.map_cons, List.map_nil, SK_assign, ev_int, putD_nt, slotOk, Nat.blt_eq, Nat.reduceLT, true_and]; refine hK _ _ ?_; clear hK K)
    refine R1.s_block fun K k1 k2 k3 k4 => ?_
    refine R1.loop (fun m A1 H1 => ∃ i : Nat, m = ks.length - i ∧ i ≤ ks.length ∧ Gr H3 H1 ∧ (∀ s ∈ ks.take i, amt b s ≤ amt a s) ∧
      slot A1.tm 0 = .one va ∧ slot A1.tm 1 = .one vb ∧ slot A1.tm 7 = .one vs ∧ slot A1.tm 8 = .one (.i .i64 (i : Int)) ∧ A1.nt = 37 ∧ A1.dfr = []) ?_ ks.length
      ⟨0, rfl, Nat.zero_le _, Fr.refl _, fun s hs => (by rw [List.take_zero] at hs; cases hs), ?_, ?_, ?_, ?_, rfl, rfl⟩
    · clear h0 h1 tm
      rintro m A1 H1 ⟨i, rfl, hi, hgr, hall, t0, t1, t7, t8, hnt, hdf⟩
      have hs1 := hs.gr hgr
      have ha1 := ha3.gr hgr
      have hb1 := hb3.gr hgr
      repeat' first | refine R1.ret ?_ | refine R1.exit ?_ | refine R1.skip ?_ | refine R1.s_ret ?_ | refine R1.s_exit ?_ | refine R1.s_assoc ?_ | refine R1.s_skip ?_ | refine R1.s_scope ?_ | ((first | refine R1.e_rg fun K hK => ?_ | refine R1.s_rg fun K hK => ?_ | refine R1.e_sq (by kernel_rfl) fun K hK => ?_ | refine R1.s_sq (by kernel_rfl) fun K hK => ?_); simp only [SG_nil, SG_cons, SU_yes, gw_n, gOf_n, List.map_cons, List.map_nil, vN_val, lnN_some, SK_move, SK_bin, SK_len, evTmp, slot_put, putD_nt, slotOk, Nat.blt_eq, Nat.reduceLT, true_and, if_true, if_false, eqLt, eqGt, ii_lss, Nat.lt_add_one, E2_P, t7, t8, hnt, len74, hs1.len, hs1.lt]; refine hK _ _ ?_; clear hK K)
      (first | refine R1.s_cnd fun Kx Ky hx hy => ?_ | refine R1.e_cnd fun Kx Ky hx hy => ?_); simp only [boolP'_b, decide_eq_true_eq, evTmp, slot_put, Nat.reduceLT, if_true, if_false, eqGt, Nat.lt_add_one]
      refine iteI (fun hd => hx ?_) (fun hd => hy ?_)
      · clear hx hy Kx Ky
        have hlt : i < ks.length := by omega
        obtain ⟨id, g, off, cells, rfl, hid, hg, hat⟩ := hs1.open (by omega)
        have ek : ks[i]? = some ks[i] := List.getElem?_eq_getElem hlt
        have htk : ks.take (i + 1) = ks.take i ++ [ks[i]] := List.take_succ_eq_append_getElem hlt
        have hmem : ks[i] ∈ ks := List.getElem_mem hlt
        generalize ks[i] = s at ek htk hmem
        obtain ⟨e1, e2⟩ := hat i s ek
        have hw2 : IntKind.i64.wrap ((i : Int) + 1) = ((i + 1 : Nat) : Int) := by rw [wrapI (by omega) (by omega)]; omega
        repeat' first | refine R1.ret ?_ | refine R1.exit ?_ | refine R1.skip ?_ | refine R1.s_ret ?_ | refine R1.s_exit ?_ | refine R1.s_assoc ?_ | refine R1.s_skip ?_ | refine R1.s_scope ?_ | ((first | refine R1.e_rg fun K hK => ?_ | refine R1.s_rg fun K hK => ?_ | refine R1.e_sq (by kernel_rfl) fun K hK => ?_ | refine R1.s_sq (by kernel_rfl) fun K hK => ?_); simp only [SG_nil, SG_cons, SU_yes, SU_no, gw_n, gw_gwv, gwv_b, gwv_u, gOf_n, gOf_some, List.map_cons, List.map_nil, List.getElem?_cons_zero, List.getElem?_cons_succ, Option.elim_some, Option.map_some, Option.bind_some, optP_some, boolP_b, boolP'_b, boolE_b, decide_eq_true_eq, decide_true, decide_false, valP_val, valP_guard, vN_val, ldN_some, stN_some, faN_some, iaN_some, lnN_some, pkN_b, sliceO_some, slice_lo, slice_hi, slice_1, indexAddr_0, Nat.add_one_sub_one, Nat.one_mul, len_sl, len_ns, len_str', posS, eq0S, cast0, Int.reduceLT, Int.reduceLE, Int.reduceBEq, Option.map_none, Nat.lt_add_left_iff_pos, Nat.zero_lt_succ, Nat.le_add_left, SK_move, SK_assign, SK_pick, SK_alloc, SK_box, SK_load, SK_store, SK_bin, SK_not, SK_fieldAddr, SK_field, SK_indexAddr, SK_slice, SK_extract, SK_nilCheck, SK_makeFunc, SK_makeMap, SK_makeSlice, SK_build, SK_buildSlice, SK_len, SK_append, SK_call, doCall_clo, doCall_clo, evTmp, ev_int, ev_bool, ev_str, ev_nilS, ev_func, opFev, evs_cons, evs_nil, slot_put, putD_nt, putD_none, putD_dfr, slotOk, Nat.blt_eq, Nat.reduceLT, Nat.reduceEqDiff, Nat.reduceLeDiff, reduceIte, true_and, and_true, true_or, or_true, if_true, if_false, Bool.false_eq_true, Bool.true_eq_false, not_false_eq_true, not_true_eq_false, ltV_ptr, ltV_sl, ltV_nil, ltV_str, ltV_i, nxNew, nxMod, get_newE, get_newL, get_modE, get_modN, ltAdd, ltSelf, eqLt, eqGt, eqLtA, eqGtA, eqSelfA, eqASelf, eqAA, ltAA, doLoad_ptr, doStore_ptr, rowOf_arr, rowOf_ro, ldO_agg, ldO_one, stO_arr, splice_eq, fieldAddr_at, Bool.not_eq_true', Bool.not_eq_false', decide_eq_false_iff_not, ne_eq, Nat.reduceLeDiff, Nat.lt_irrefl, gt_iff_lt, cells_one, cells_agg, noTup_one, noTup_agg, List.length_cons, List.length_nil, Nat.zero_add, Nat.add_zero, Nat.reduceAdd, Nat.reduceSub, Nat.reduceMul, Nat.le_refl, Nat.zero_le, capsOf_nil, capsOf_cons, capArgs_nil, capArgs_cons, List.cons_append, List.nil_append, List.append_nil, ex_0, ex_0a, ex_1, ex_1a, ex_2, ex_2a, ii_lss, ii_leq, ii_gtr, ii_geq, ii_eql, ii_neq, ii_add, ii_sub, ii_mul, ss_lss, ss_geq, ss_leq, ss_gtr, ss_eql, ss_neq, List.take_succ_cons, List.take_zero, List.drop_succ_cons, List.drop_zero, List.take_nil, List.drop_nil, List.headD_cons, Bool.not_true, Bool.not_false, Nat.lt_add_one, bin_agg, bin_b, agg2_agg, bool2_b, aggEq_nil, aggEq_s, aggEq_i, aggEq_b, aggO_some, fill_nil, fill_cons, Nat.zero_mul, partsF_nil, partsF_cons, repl_one]; refine hK _ _ ?_; clear hK K)
        refine R1.s_block fun K2 q1 q2 q3 q4 => ?_
        repeat refine R1.s_assoc ?_
        (first | refine R1.s_drw (ms := [0, 0, 0, 6, 14, 31, 0, 0, 0, 384, 896, 2047, 4095]) (by kernel_rfl) (by kernel_rfl) fun K hK => ?_ | refine R1.e_drw (ms := [0, 0, 0, 6, 14, 31, 0, 0, 0, 384, 896, 2047, 4095]) (by kernel_rfl) (by kernel_rfl) fun K hK => ?_)
        simp (config := {decide := true}) only [gw_n, gOf_n, valP_val, doCall_clo, doCall_clo, evTmp, ev_func, evs_cons, evs_nil, slot_put, putD_nt, slotOk, Nat.blt_eq, Nat.reduceLT, true_and, if_true, if_false, doLoad_ptr, ldO_one, Nat.zero_add, Nat.reduceAdd, Nat.le_refl, capArgs_nil, List.append_nil, DO_cons, DO_nil, DU_yes, DK_load, DK_call, DK_move, DK_binOp, DK_indexAddr, ptrP_ptr, DP_val, unordS, Untou, st_move, st_bin, st_load', st_indexAddr', ldS_some, iaS_some, E2_P, t0, t7, t8, hnt, elem74, load9, indexAddr_cast hlt, hid, hg, e1, e2, body43]
        refine DC_conV (.one (.i .i64 (amt a s))) (fun h hn hget => amount_con h a va s (SlC.of_get ha1 (Nat.le_of_eq hn.symm) fun i hi => hget i hi (by simp (config := {decide := true}) only [unordS, Untou, if_true])) hla) fun c1 H4 hc1 hn4 hf4 => ?_
        subst hn4
        have hid4 : id < H4.nx := Nat.lt_of_lt_of_le hid hf4.nx
        have hg4 : rowOf (H4.get id) g = some cells := by rw [hf4.get _ hid not_false]; exact hg
        simp (config := {decide := true}) only [valP_val, slot_put, putD_nt, Nat.reduceLT, true_and, and_true, true_or, if_true, if_false, not_false_eq_true, doLoad_ptr, ldO_one, Nat.le_refl, ptrP_ptr, DP_val, unordS, Untou, List.not_mem_nil, not_false_eq_true, t1, t7, t8, hnt, indexAddr_cast hlt, hid4, hg4, hid, e1, e2]
        refine DC_conV (.one (.i .i64 (amt b s))) (fun h hn hget => amount_con h b vb s (SlC.of_get (hb1.gr hf4) (Nat.le_of_eq hn.symm) fun i hi => hget i hi (by simp (config := {decide := true}) only [unordS, Untou, if_true])) hlb) fun c1 H5 hc1 hn5 hf5 => ?_
        subst hn5
        have g5 : Gr H3 H5 := (hgr.gr hf4).gr hf5
        simp (config := {decide := true}) only [slot_put, putD_nt, true_and, if_true, if_false, ii_lss, Nat.lt_add_one, DP_val, hnt]
        refine hK _ _ ?_
        clear hK K
        (first | refine R1.s_cnd fun Kx Ky hx hy => ?_ | refine R1.e_cnd fun Kx Ky hx hy => ?_); simp only [boolP'_b, decide_eq_true_eq, evTmp, slot_put, Nat.reduceLT, if_true, if_false, eqGt, Nat.lt_add_one]
        refine iteI (fun he => hx ?_) (fun he => hy ?_)
        · clear hx hy Kx Ky
          repeat' first | refine R1.ret ?_ | refine R1.exit ?_ | refine R1.skip ?_ | refine R1.s_ret ?_ | refine R1.s_exit ?_ | refine R1.s_assoc ?_ | refine R1.s_skip ?_ | refine R1.s_scope ?_ | ((first | refine R1.e_rg fun K hK => ?_ | refine R1.s_rg fun K hK => ?_ | refine R1.e_sq (by kernel_rfl) fun K hK => ?_ | refine R1.s_sq (by kernel_rfl) fun K hK => ?_); simp only [SG_nil, SG_cons, SU_yes, gw_n, gOf_n, List.map_cons, List.map_nil, SK_assign, ev_int, ev_bool, putD_nt, slotOk, Nat.blt_eq, Nat.reduceLT, true_and, hnt]; refine hK _ _ ?_; clear hK K)
          refine q4 _ _ (k4 _ _ ⟨_, _, callEnd_two (.b false) (.i .i64 0) (.inr rfl) (by simp only [putD_dfr, hdf]) (by simp only [slot_put, Nat.reduceEqDiff, reduceIte]) (by simp only [slot_put, Nat.reduceEqDiff, reduceIte]), g3.gr g5, fun _ => ?_⟩)
          have : ks.all (fun s => decide (amt b s ≤ amt a s)) = false := List.all_eq_false.2 ⟨s, hmem, by rw [decide_eq_true_eq]; omega⟩
          rw [this]
        · clear hx hy Kx Ky
          repeat' first | refine R1.ret ?_ | refine R1.exit ?_ | refine R1.skip ?_ | refine R1.s_ret ?_ | refine R1.s_exit ?_ | refine R1.s_assoc ?_ | refine R1.s_skip ?_ | refine R1.s_scope ?_ | ((first | refine R1.e_rg fun K hK => ?_ | refine R1.s_rg fun K hK => ?_ | refine R1.e_sq (by kernel_rfl) fun K hK => ?_ | refine R1.s_sq (by kernel_rfl) fun K hK => ?_); simp only [SG_nil, SG_cons, SU_yes, SU_no, gw_n, gw_gwv, gwv_b, gwv_u, gOf_n, gOf_some, List.map_cons, List.map_nil, List.getElem?_cons_zero, List.getElem?_cons_succ, Option.elim_some, Option.map_some, Option.bind_some, optP_some, boolP_b, boolP'_b, boolE_b, decide_eq_true_eq, decide_true, decide_false, valP_val, valP_guard, vN_val, ldN_some, stN_some, faN_some, iaN_some, lnN_some, pkN_b, sliceO_some, slice_lo, slice_hi, slice_1, indexAddr_0, Nat.add_one_sub_one, Nat.one_mul, len_sl, len_ns, len_str', posS, eq0S, cast0, Int.reduceLT, Int.reduceLE, Int.reduceBEq, Option.map_none, Nat.lt_add_left_iff_pos, Nat.zero_lt_succ, Nat.le_add_left, SK_move, SK_assign, SK_pick, SK_alloc, SK_box, SK_load, SK_store, SK_bin, SK_not, SK_fieldAddr, SK_field, SK_indexAddr, SK_slice, SK_extract, SK_nilCheck, SK_makeFunc, SK_makeMap, SK_makeSlice, SK_build, SK_buildSlice, SK_len, SK_append, SK_call, doCall_clo, doCall_clo, evTmp, ev_int, ev_bool, ev_str, ev_nilS, ev_func, opFev, evs_cons, evs_nil, slot_put, putD_nt, putD_none, putD_dfr, slotOk, Nat.blt_eq, Nat.reduceLT, Nat.reduceEqDiff, Nat.reduceLeDiff, reduceIte, true_and, and_true, true_or, or_true, if_true, if_false, Bool.false_eq_true, Bool.true_eq_false, not_false_eq_true, not_true_eq_false, ltV_ptr, ltV_sl, ltV_nil, ltV_str, ltV_i, nxNew, nxMod, get_newE, get_newL, get_modE, get_modN, ltAdd, ltSelf, eqLt, eqGt, eqLtA, eqGtA, eqSelfA, eqASelf, eqAA, ltAA, doLoad_ptr, doStore_ptr, rowOf_arr, rowOf_ro, ldO_agg, ldO_one, stO_arr, splice_eq, fieldAddr_at, Bool.not_eq_true', Bool.not_eq_false', decide_eq_false_iff_not, ne_eq, Nat.reduceLeDiff, Nat.lt_irrefl, gt_iff_lt, cells_one, cells_agg, noTup_one, noTup_agg, List.length_cons, List.length_nil, Nat.zero_add, Nat.add_zero, Nat.reduceAdd, Nat.reduceSub, Nat.reduceMul, Nat.le_refl, Nat.zero_le, capsOf_nil, capsOf_cons, capArgs_nil, capArgs_cons, List.cons_append, List.nil_append, List.append_nil, ex_0, ex_0a, ex_1, ex_1a, ex_2, ex_2a, ii_lss, ii_leq, ii_gtr, ii_geq, ii_eql, ii_neq, ii_add, ii_sub, ii_mul, ss_lss, ss_geq, ss_leq, ss_gtr, ss_eql, ss_neq, List.take_succ_cons, List.take_zero, List.drop_succ_cons, List.drop_zero, List.take_nil, List.drop_nil, List.headD_cons, Bool.not_true, Bool.not_false, Nat.lt_add_one, bin_agg, bin_b, agg2_agg, bool2_b, aggEq_nil, aggEq_s, aggEq_i, aggEq_b, aggO_some, fill_nil, fill_cons, Nat.zero_mul, partsF_nil, partsF_cons, repl_one, hnt]; refine hK _ _ ?_; clear hK K)
          refine q1 _ _ ?_
          repeat' first | refine R1.ret ?_ | refine R1.exit ?_ | refine R1.skip ?_ | refine R1.s_ret ?_ | refine R1.s_exit ?_ | refine R1.s_assoc ?_ | refine R1.s_skip ?_ | refine R1.s_scope ?_ | ((first | refine R1.e_rg fun K hK => ?_ | refine R1.s_rg fun K hK => ?_ | refine R1.e_sq (by kernel_rfl) fun K hK => ?_ | refine R1.s_sq (by kernel_rfl) fun K hK => ?_); simp only [SG_nil, SG_cons, SU_yes, gw_n, gOf_n, List.map_cons, List.map_nil, vN_val, SK_move, SK_assign, SK_bin, evTmp, ev_int, slot_put, putD_nt, slotOk, Nat.blt_eq, Nat.reduceLT, true_and, if_true, if_false, eqLt, eqGt, ii_add, Nat.lt_add_one, hnt, t8, hw2]; refine hK _ _ ?_; clear hK K)
          refine ⟨ks.length - (i + 1), by omega, i + 1, rfl, hlt, g5, fun s' hs' => ?_, ?_, ?_, ?_, ?_, ?_, ?_⟩
          · rw [htk] at hs'
            rcases List.mem_append.1 hs' with h | h
            · exact hall _ h
            · rw [List.mem_singleton.1 h]; omega
          · simp only [slot_put, Nat.reduceEqDiff, reduceIte, t0]
          · simp only [slot_put, Nat.reduceEqDiff, reduceIte, t1]
          · simp only [slot_put, Nat.reduceEqDiff, reduceIte, t7]
          · simp only [slot_put, Nat.reduceEqDiff, reduceIte]
          · simp only [putD_nt, hnt]
          · simp only [putD_dfr, hdf]
      · clear hx hy Kx Ky
        have hie : i = ks.length := by omega
        repeat' first | refine R1.ret ?_ | refine R1.exit ?_ | refine R1.skip ?_ | refine R1.s_ret ?_ | refine R1.s_exit ?_ | refine R1.s_assoc ?_ | refine R1.s_skip ?_ | refine R1.s_scope ?_ | ((first | refine R1.e_rg fun K hK => ?_ | refine R1.s_rg fun K hK => ?_ | refine R1.e_sq (by kernel_rfl) fun K hK => ?_ | refine R1.s_sq (by kernel_rfl) fun K hK => ?_); simp only [SG_nil, SG_cons, SU_yes, SU_no, gw_n, gw_gwv, gwv_b, gwv_u, gOf_n, gOf_some, List.map_cons, List.map_nil, List.getElem?_cons_zero, List.getElem?_cons_succ, Option.elim_some, Option.map_some, Option.bind_some, optP_some, boolP_b, boolP'_b, boolE_b, decide_eq_true_eq, decide_true, decide_false, valP_val, valP_guard, vN_val, ldN_some, stN_some, faN_some, iaN_some, lnN_some, pkN_b, sliceO_some, slice_lo, slice_hi, slice_1, indexAddr_0, Nat.add_one_sub_one, Nat.one_mul, len_sl, len_ns, len_str', posS, eq0S, cast0, Int.reduceLT, Int.reduceLE, Int.reduceBEq, Option.map_none, Nat.lt_add_left_iff_pos, Nat.zero_lt_succ, Nat.le_add_left, SK_move, SK_assign, SK_pick, SK_alloc, SK_box, SK_load, SK_store, SK_bin, SK_not, SK_fieldAddr, SK_field, SK_indexAddr, SK_slice, SK_extract, SK_nilCheck, SK_makeFunc, SK_makeMap, SK_makeSlice, SK_build, SK_buildSlice, SK_len, SK_append, SK_call, doCall_clo, doCall_clo, evTmp, ev_int, ev_bool, ev_str, ev_nilS, ev_func, opFev, evs_cons, evs_nil, slot_put, putD_nt, putD_none, putD_dfr, slotOk, Nat.blt_eq, Nat.reduceLT, Nat.reduceEqDiff, Nat.reduceLeDiff, reduceIte, true_and, and_true, true_or, or_true, if_true, if_false, Bool.false_eq_true, Bool.true_eq_false, not_false_eq_true, not_true_eq_false, ltV_ptr, ltV_sl, ltV_nil, ltV_str, ltV_i, nxNew, nxMod, get_newE, get_newL, get_modE, get_modN, ltAdd, ltSelf, eqLt, eqGt, eqLtA, eqGtA, eqSelfA, eqASelf, eqAA, ltAA, doLoad_ptr, doStore_ptr, rowOf_arr, rowOf_ro, ldO_agg, ldO_one, stO_arr, splice_eq, fieldAddr_at, Bool.not_eq_true', Bool.not_eq_false', decide_eq_false_iff_not, ne_eq, Nat.reduceLeDiff, Nat.lt_irrefl, gt_iff_lt, cells_one, cells_agg, noTup_one, noTup_agg, List.length_cons, List.length_nil, Nat.zero_add, Nat.add_zero, Nat.reduceAdd, Nat.reduceSub, Nat.reduceMul, Nat.le_refl, Nat.zero_le, capsOf_nil, capsOf_cons, capArgs_nil, capArgs_cons, List.cons_append, List.nil_append, List.append_nil, ex_0, ex_0a, ex_1, ex_1a, ex_2, ex_2a, ii_lss, ii_leq, ii_gtr, ii_geq, ii_eql, ii_neq, ii_add, ii_sub, ii_mul, ss_lss, ss_geq, ss_leq, ss_gtr, ss_eql, ss_neq, List.take_succ_cons, List.take_zero, List.drop_succ_cons, List.drop_zero, List.take_nil, List.drop_nil, List.headD_cons, Bool.not_true, Bool.not_false, Nat.lt_add_one, bin_agg, bin_b, agg2_agg, bool2_b, aggEq_nil, aggEq_s, aggEq_i, aggEq_b, aggO_some, fill_nil, fill_cons, Nat.zero_mul, partsF_nil, partsF_cons, repl_one, hnt]; refine hK _ _ ?_; clear hK K)
        refine k2 _ _ ?_
        repeat' first | refine R1.ret ?_ | refine R1.exit ?_ | refine R1.skip ?_ | refine R1.s_ret ?_ | refine R1.s_exit ?_ | refine R1.s_assoc ?_ | refine R1.s_skip ?_ | refine R1.s_scope ?_ | ((first | refine R1.e_rg fun K hK => ?_ | refine R1.s_rg fun K hK => ?_ | refine R1.e_sq (by kernel_rfl) fun K hK => ?_ | refine R1.s_sq (by kernel_rfl) fun K hK => ?_); simp only [SG_nil, SG_cons, SU_yes, gw_n, gOf_n, List.map_cons, List.map_nil, SK_assign, ev_int, ev_bool, putD_nt, slotOk, Nat.blt_eq, Nat.reduceLT, true_and, hnt]; refine hK _ _ ?_; clear hK K)
        refine ⟨_, _, callEnd_two (.b true) (.i .i64 0) (.inr rfl) (by simp only [putD_dfr, hdf]) (by simp only [slot_put, Nat.reduceEqDiff, reduceIte]) (by simp only [slot_put, Nat.reduceEqDiff, reduceIte]), g3.gr hgr, fun _ => ?_⟩
        rw [hie, List.take_length] at hall
        have : ks.all (fun s => decide (amt b s ≤ amt a s)) = true := List.all_eq_true.2 fun s hs => decide_eq_true (hall s hs)
        rw [this]
    all_goals simp only [slot_put, Nat.reduceEqDiff, reduceIte, h0, h1]
    all_goals rfl

theorem comb_len (sign : Int) (a b : List Lot) : (combC sign a b).1.length ≤ 64 := by
  unfold combC
  split
  · cases runPass (okC sign) (stepC sign) [] (pairs a b) with
    | none => exact Nat.zero_le _
    | some t =>
      rw [Option.elim_some]
      split
      · exact Nat.zero_le _
      · show t.length ≤ 64
        omega
  · exact Nat.zero_le _
theorem body19 : hasBody Tryz.prog 19 = true := by kernel_rfl
theorem body10 : hasBody Tryz.prog 10 = true := by kernel_rfl
end Go.Proofs.YtndipbefnipnpaaGreat
