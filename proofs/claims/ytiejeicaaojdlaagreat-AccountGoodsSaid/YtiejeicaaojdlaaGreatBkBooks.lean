/- The two books of a law, and the law AccountGoods: what they answer. -/
import Derived.Test.YtiejeicaaojdlaaGreatBkRef6
import Derived.Test.YtiejeicaaojdlaaGreatBkCkg
namespace Go.Proofs.YtiejeicaaojdlaaGreat
open Go Go.Eng

theorem bd_books : hasBody Tryz.prog 7 = true := by kernel_rfl

theorem newG_ok : ∀ (acc ls : List Lad), newG acc ls = 0 → ∀ x ∈ ls, chkLad x.1 x.2 = 0
  | _, [], _ => fun _ h => absurd h (List.not_mem_nil)
  | acc, y :: ls, h => by
    rw [newG] at h
    by_cases hc : chkLad y.1 y.2 ≠ 0
    · rw [if_pos hc] at h; exact absurd h hc
    · rw [if_neg hc] at h
      by_cases hi : (idxN 0 acc y.1).isSome = true
      · rw [if_pos hi] at h; cases h
      · rw [if_neg hi] at h
        intro x hx
        rcases List.mem_cons.1 hx with rfl | hx
        · exact Classical.not_not.1 hc
        · exact newG_ok _ ls h x hx
theorem newE_ok {ls : List Lad} (h : newE ls = 0) : ls.length ≤ 32 ∧ ∀ x ∈ ls, x.2.length ≤ 12 := by
  unfold newE at h
  by_cases hc : (32 : Int) < ls.length
  · rw [if_pos hc] at h; cases h
  · rw [if_neg hc] at h
    exact ⟨by omega, fun x hx => chkLad_len (newG_ok [] ls h x hx)⟩

/-- The ladders of the books, if they make one. -/
def bkO (ls : List Lad) : Option (List Lad) := if newE ls = 0 then some ls else none
theorem bkO_le {ls l : List Lad} (h : bkO ls = some l) : l.length ≤ 32 ∧ ∀ x ∈ l, x.2.length ≤ 12 := by
  unfold bkO at h
  by_cases hc : newE ls = 0
  · rw [if_pos hc] at h; cases h; exact newE_ok hc
  · rw [if_neg hc] at h; cases h
theorem RBkO.same {H H' : Hp} {p : AC} {o : Option (List Lad)} (ht : H'.t = H.t) (hn : H'.nx = H.nx) (h : RBkO H p o) : RBkO H' p o := by
  obtain ⟨t, nx, l⟩ := H
  obtain ⟨t', nx', l'⟩ := H'
  cases ht; cases hn
  cases o <;> exact h
theorem RBkO.gr {H H' : Hp} {p : AC} {o : Option (List Lad)} (h : RBkO H p o) (hg : Gr H H') : RBkO H' p o := by
  cases o with
  | some ls => exact RBk.gr h hg
  | none => exact h

set_option maxRecDepth 10000 in
set_option maxHeartbeats 4000000 in
theorem books_con (H : Hp) (v : AC) (ls : List Lad) (hl : SlLad H v ls) :
    Con E2 7 [.one v] H (fun _ => False) fun r H' => ∃ p q, r = .tup [(false, [p]), (false, [q])] ∧ BookO H' p (bkO ls) ∧ RBkO H' q (bkO ls) ∧ (bkO ls = none → p = .o .nilP) := by
  refine Con.of rfl fun lg => ?_
  have hl : SlLad ⟨H.t, H.nx, lg⟩ v ls := hl
  generalize (⟨H.t, H.nx, lg⟩ : Hp) = H at hl ⊢
  refine C1.body (E := E2) (nt := 20) (res := [.tmp 2, .tmp 3]) Tryz.func7 rfl rfl rfl rfl rfl fun tm hargs => ?_
  have h0 := hargs 0 _ rfl
  clear hargs
  repeat' first | refine R1.ret ?_ | refine R1.exit ?_ | refine R1.skip ?_ | refine R1.s_ret ?_ | refine R1.s_exit ?_ | refine R1.s_assoc ?_ | refine R1.s_skip ?_ | refine R1.s_scope ?_ | ((first | refine R1.e_rg fun K hK => ?_ | refine R1.s_rg fun K hK => ?_ | refine R1.e_sq (by kernel_rfl) fun K hK => ?_ | refine R1.s_sq (by kernel_rfl) fun K hK => ?_); simp only [SG_nil, SG_cons, SU_yes, gw_n, gOf_n, List.map_cons, List.map_nil, Nat.zero_lt_succ, SK_move, SK_assign, SK_call, evTmp, ev_nilS, ev_func, evs_cons, evs_nil, slot_put, putD_nt, slotOk, Nat.blt_eq, Nat.reduceLT, true_and, if_true, if_false, eqLt, eqGt, ev_nilP, E2_P]; refine hK _ _ ?_; clear hK K)
  repeat refine R1.s_assoc ?_
  refine R1.s_rg fun K hK => ?_
  simp only [SG_cons, SU_yes, gw_n, gOf_n, List.map_cons, List.map_nil, Nat.zero_lt_succ, SK_move, SK_call, doCall_clo, doCall_clo, evTmp, ev_nilS, ev_func, evs_cons, evs_nil, slot_put, putD_nt, slotOk, Nat.blt_eq, Nat.reduceLT, true_and, if_true, if_false, eqLt, eqGt, capArgs_nil, List.append_nil, E2_P, h0, bd_newBook]
  refine WE.con (newBook_con H v ls hl) fun w H1 g1 ⟨p, hw, hp1, hp2⟩ => ?_
  subst hw
  simp only [SG_nil, SG_cons, SU_yes, gw_n, vN_val, SK_move, SK_assign, SK_extract, evTmp, slot_put, putD_nt, slotOk, Nat.blt_eq, Nat.reduceLT, true_and, if_true, if_false, eqLt, eqGt, ex_0, ex_1, Nat.lt_add_one]
  refine hK _ _ ?_
  clear hK K
  repeat refine R1.s_assoc ?_
  refine R1.s_rg fun K hK => ?_
  simp only [SG_cons, SU_yes, gw_n, gOf_n, List.map_cons, List.map_nil, Nat.zero_lt_succ, SK_move, SK_call, doCall_clo, doCall_clo, evTmp, ev_nilS, ev_func, evs_cons, evs_nil, slot_put, putD_nt, slotOk, Nat.blt_eq, Nat.reduceLT, true_and, if_true, if_false, eqLt, eqGt, capArgs_nil, List.append_nil, E2_P, h0, bd_rNew]
  refine WE.con (rNew_con H1 v ls (hl.gr g1)) fun w H2 g2 ⟨q, hw, hq1, hq2⟩ => ?_
  subst hw
  simp only [SG_nil, SG_cons, SU_yes, gw_n, vN_val, SK_move, SK_assign, SK_extract, evTmp, slot_put, putD_nt, slotOk, Nat.blt_eq, Nat.reduceLT, true_and, if_true, if_false, eqLt, eqGt, ex_0, ex_1, Nat.lt_add_one]
  refine hK _ _ ?_
  clear hK K
  repeat' first | refine R1.ret ?_ | refine R1.exit ?_ | refine R1.skip ?_ | refine R1.s_ret ?_ | refine R1.s_exit ?_ | refine R1.s_assoc ?_ | refine R1.s_skip ?_ | refine R1.s_scope ?_ | ((first | refine R1.e_rg fun K hK => ?_ | refine R1.s_rg fun K hK => ?_ | refine R1.e_sq (by kernel_rfl) fun K hK => ?_ | refine R1.s_sq (by kernel_rfl) fun K hK => ?_); simp only [SG_nil, SG_cons, SU_yes, gw_n, gOf_n, List.map_cons, List.map_nil, SK_move, SK_assign, evTmp, slot_put, putD_nt, slotOk, Nat.blt_eq, Nat.reduceLT, true_and, if_true, if_false, eqLt, eqGt, Nat.lt_add_one]; refine hK _ _ ?_; clear hK K)
  refine ⟨_, _, callEnd_two p q (.inr rfl) rfl (by simp only [slot_put, Nat.reduceEqDiff, reduceIte]) (by simp only [slot_put, Nat.reduceEqDiff, reduceIte]), g1.gr g2, fun _ => ⟨p, q, rfl, ?_, ?_, ?_⟩⟩
  · refine BookO.same (H := H2) rfl rfl ?_
    unfold bkO
    by_cases hc : newE ls = 0
    · rw [if_pos hc]; exact (hp1 hc).gr g2
    · rw [if_neg hc]; exact .inl (hp2 hc)
  · refine RBkO.same (H := H2) rfl rfl ?_
    unfold bkO
    by_cases hc : newE ls = 0
    · rw [if_pos hc]; exact hq1 hc
    · rw [if_neg hc]; exact hq2 hc
  · unfold bkO
    by_cases hc : newE ls = 0
    · rw [if_pos hc]; intro h; cases h
    · exact fun _ => hp2 hc

set_option maxRecDepth 10000 in
set_option maxHeartbeats 4000000 in
theorem goodsLaw_c1 (H : Hp) (v u : AC) (ls : List Lad) (gs : List Gd) (hl : SlLad H v ls) (hv : SlG H u gs) (hL : gs.length * 56 ≤ 140737488355328) (hB : ∀ x ∈ gs, x.2.2.length * 16 ≤ 140737488355328) :
    C1 E2 3 [.one v, .one u] H fun r _ => r = .one (.b true) := by
  have hB2 : ∀ x ∈ gs, x.2.2.length ≤ 4611686018427387904 := fun x hx => by have := hB x hx; omega
  refine C1.body (E := E2) (nt := 37) (res := [.tmp 4]) Tryz.func3 rfl rfl rfl rfl rfl fun tm hargs => ?_
  have h0 := hargs 0 _ rfl
  have h1 := hargs 1 _ rfl
  clear hargs
  repeat' first | refine R1.ret ?_ | refine R1.exit ?_ | refine R1.skip ?_ | refine R1.s_ret ?_ | refine R1.s_exit ?_ | refine R1.s_assoc ?_ | refine R1.s_skip ?_ | refine R1.s_scope ?_ | ((first | refine R1.e_rg fun K hK => ?_ | refine R1.s_rg fun K hK => ?_ | refine R1.e_sq (by kernel_rfl) fun K hK => ?_ | refine R1.s_sq (by kernel_rfl) fun K hK => ?_); simp only [SG_nil, SG_cons, SU_yes, gw_n, gOf_n, List.map_cons, List.map_nil, Nat.zero_lt_succ, SK_move, SK_assign, SK_call, evTmp, ev_bool, ev_func, evs_cons, evs_nil, slot_put, putD_nt, slotOk, Nat.blt_eq, Nat.reduceLT, true_and, if_true, if_false, eqLt, eqGt, E2_P]; refine hK _ _ ?_; clear hK K)
  repeat refine R1.s_assoc ?_
  refine R1.s_rg fun K hK => ?_
  simp only [SG_cons, SU_yes, gw_n, gOf_n, List.map_cons, List.map_nil, Nat.zero_lt_succ, SK_move, SK_call, doCall_clo, doCall_clo, evTmp, ev_func, evs_cons, evs_nil, slot_put, putD_nt, slotOk, Nat.blt_eq, Nat.reduceLT, true_and, if_true, if_false, eqLt, eqGt, capArgs_nil, List.append_nil, E2_P, h0, bd_books]
  refine WE.con (books_con H v ls hl) fun w H1 g1 ⟨p, q, hw, hp, hq, hno⟩ => ?_
  subst hw
  have hv1 := hv.gr g1
  simp only [SG_nil, SG_cons, SU_yes, gw_n, vN_val, SK_move, SK_assign, SK_extract, evTmp, slot_put, putD_nt, slotOk, Nat.blt_eq, Nat.reduceLT, true_and, if_true, if_false, eqLt, eqGt, ex_0, ex_1, Nat.lt_add_one]
  refine hK _ _ ?_
  clear hK K
  have hbl : ∀ l, bkO ls = some l → (∀ x ∈ l, x.2.length ≤ 1000000) ∧ l.length ≤ 1000000 := fun l h => ⟨fun x hx => by have := (bkO_le h).2 x hx; omega, by have := (bkO_le h).1; omega⟩
  generalize bkO ls = o at hp hq hbl hno
  cases o with
  | some l =>
    have hp' : BookR H1 p l := hp
    have hq' : RBk H1 q l := hq
    obtain ⟨kb, _, _, _, _, rfl, _⟩ := hp'
    obtain ⟨kb2, _, rfl, _⟩ := hq'
    repeat refine R1.s_assoc ?_
    refine R1.s_rg fun K hK => ?_
    simp only [SG_cons, SU_yes, gw_n, gw_gwv, gwv_b, gOf_n, gOf_some, List.map_cons, List.map_nil, List.getElem?_cons_zero, List.getElem?_cons_succ, Option.elim_some, vN_val, SK_move, SK_bin, SK_call, doCall_clo, doCall_clo, evTmp, ev_func, evs_cons, evs_nil, slot_put, putD_nt, slotOk, Nat.blt_eq, Nat.reduceLT, true_and, if_true, if_false, eqLt, eqGt, capArgs_nil, List.append_nil, Nat.lt_add_one, bin_b, bool2_b, ev_nilP, E2_P, h1, ad_pbook, ad_prbook, eql_ptr_nil, plain_beql un_bool, beq_self_eq_true, bd_copyGoods]
    refine WE.con (copyGoods_con H1 u gs hv1 hL hB) fun w H2 g2 ⟨u2, hw, hu2⟩ => ?_
    subst hw
    simp only [SG_cons, SU_yes, gw_gwv, gwv_b, SK_call, doCall_clo, doCall_clo, evTmp, ev_func, evs_cons, evs_nil, slot_put, putD_nt, slotOk, Nat.blt_eq, Nat.reduceLT, true_and, if_true, if_false, eqLt, eqGt, capArgs_nil, List.append_nil, Nat.lt_add_one, E2_P, bd_checkGoods]
    refine WE.con (checkGoods_con H2 _ u2 (some l) gs (hp.gr g2) (fun l h => (hbl l h).1) hu2 hB2) fun w H3 g3 hw => ?_
    subst hw
    have hq3 := (hq.gr g2).gr g3
    have hv3 := (hv1.gr g2).gr g3
    simp only [SG_cons, SU_yes, gw_gwv, gwv_b, SK_move, SK_call, doCall_clo, doCall_clo, evTmp, ev_func, evs_cons, evs_nil, slot_put, putD_nt, slotOk, Nat.blt_eq, Nat.reduceLT, true_and, if_true, if_false, eqLt, eqGt, capArgs_nil, List.append_nil, Nat.lt_add_one, E2_P, h1, bd_rCheckGoods]
    refine WE.con (rCheckGoods_con H3 _ u (some l) gs hq3 hbl hv3 hB2) fun w H4 g4 hw => ?_
    subst hw
    have hv4 := hv3.gr g4
    simp only [SG_cons, SU_yes, gw_n, gw_gwv, gwv_b, optP_some, vN_val, pkN_b, SK_move, SK_pick, SK_box, SK_bin, SK_build, SK_call, doCall_clo, doCall_clo, evTmp, ev_bool, ev_func, evs_cons, evs_nil, slot_put, putD_nt, slotOk, Nat.blt_eq, Nat.reduceLT, true_and, if_true, if_false, eqLt, eqGt, cells_agg, noTup_agg, List.length_cons, List.length_nil, Nat.zero_add, Nat.reduceAdd, capArgs_nil, List.append_nil, ii_eql, Nat.lt_add_one, fill_nil, partsF_nil, E2_P, h1, beq_self_eq_true, zr_book, bd_checkGoods]
    have hz : BookO (H4.new (.arr [.o .nilS, .o .nilM, .o .nilS, .o .nilS] 36 0 0)) (.o (.ptr H4.nx 0 0 4)) none := .inr ⟨H4.nx, rfl, Nat.lt_succ_self _, get_newE rfl⟩
    refine WE.con (checkGoods_con _ _ u none gs hz (fun l h => by cases h) (hv4.gr ((Fr.refl _).new _)) hB2) fun w H5 g5 hw => ?_
    subst hw
    have hc1 : chkG none gs = 1 := rfl
    simp only [SG_cons, SU_yes, gw_n, gw_gwv, gwv_b, vN_val, pkN_b, SK_move, SK_pick, SK_bin, SK_call, doCall_clo, doCall_clo, evTmp, ev_int, ev_bool, ev_func, evs_nil, slot_put, putD_nt, slotOk, Nat.blt_eq, Nat.reduceLT, true_and, if_true, if_false, eqLt, eqGt, capArgs_nil, List.append_nil, ii_eql, Nat.lt_add_one, E2_P, hc1, beq_self_eq_true, bd_works]
    refine WE.prim works_p fun H6 g6 _ _ => ?_
    simp only [SG_nil, SG_cons, SU_yes, gw_n, pkN_b, SK_assign, SK_pick, evTmp, ev_bool, slot_put, putD_nt, slotOk, Nat.blt_eq, Nat.reduceLT, true_and, if_true, if_false, eqLt, eqGt, Nat.lt_add_one]
    refine hK _ _ ?_
    clear hK K
    repeat' first | refine R1.ret ?_ | refine R1.exit ?_ | refine R1.skip ?_ | refine R1.s_ret ?_ | refine R1.s_exit ?_ | refine R1.s_assoc ?_ | refine R1.s_skip ?_ | refine R1.s_scope ?_ | ((first | refine R1.e_rg fun K hK => ?_ | refine R1.s_rg fun K hK => ?_ | refine R1.e_sq (by kernel_rfl) fun K hK => ?_ | refine R1.s_sq (by kernel_rfl) fun K hK => ?_); simp only [SG_nil, SG_cons, SU_yes, SU_no, gw_n, gw_gwv, gwv_b, gwv_u, gOf_n, gOf_some, List.map_cons, List.map_nil, List.getElem?_cons_zero, List.getElem?_cons_succ, Option.elim_some, Option.map_some, Option.bind_some, optP_some, boolP_b, boolP'_b, boolE_b, decide_eq_true_eq, decide_true, decide_false, valP_val, valP_guard, vN_val, ldN_some, stN_some, faN_some, iaN_some, lnN_some, pkN_b, sliceO_some, slice_lo, slice_hi, slice_1, indexAddr_0, Nat.add_one_sub_one, Nat.one_mul, len_sl, len_ns, len_str', posS, eq0S, cast0, Int.reduceLT, Int.reduceLE, Int.reduceBEq, Option.map_none, Nat.lt_add_left_iff_pos, Nat.zero_lt_succ, Nat.le_add_left, SK_move, SK_assign, SK_pick, SK_alloc, SK_box, SK_load, SK_store, SK_bin, SK_not, SK_fieldAddr, SK_field, SK_indexAddr, SK_slice, SK_extract, SK_nilCheck, SK_makeFunc, SK_makeMap, SK_makeSlice, SK_build, SK_buildSlice, SK_len, SK_append, SK_call, doCall_clo, doCall_clo, evTmp, ev_int, ev_bool, ev_str, ev_nilS, ev_func, opFev, evs_cons, evs_nil, slot_put, putD_nt, putD_none, putD_dfr, slotOk, Nat.blt_eq, Nat.reduceLT, Nat.reduceEqDiff, Nat.reduceLeDiff, reduceIte, true_and, and_true, true_or, or_true, if_true, if_false, Bool.false_eq_true, Bool.true_eq_false, not_false_eq_true, not_true_eq_false, ltV_ptr, ltV_sl, ltV_nil, ltV_str, ltV_i, nxNew, nxMod, get_newE, get_newL, get_modE, get_modN, ltAdd, ltSelf, eqLt, eqGt, eqLtA, eqGtA, eqSelfA, eqASelf, eqAA, ltAA, doLoad_ptr, doStore_ptr, rowOf_arr, rowOf_ro, ldO_agg, ldO_one, stO_arr, splice_eq, fieldAddr_at, Bool.not_eq_true', Bool.not_eq_false', decide_eq_false_iff_not, ne_eq, Nat.reduceLeDiff, Nat.lt_irrefl, gt_iff_lt, cells_one, cells_agg, noTup_one, noTup_agg, List.length_cons, List.length_nil, Nat.zero_add, Nat.add_zero, Nat.reduceAdd, Nat.reduceSub, Nat.reduceMul, Nat.le_refl, Nat.zero_le, capsOf_nil, capsOf_cons, capArgs_nil, capArgs_cons, List.cons_append, List.nil_append, List.append_nil, ex_0, ex_0a, ex_1, ex_1a, ex_2, ex_2a, ii_lss, ii_leq, ii_gtr, ii_geq, ii_eql, ii_neq, ii_add, ii_sub, ii_mul, ss_lss, ss_geq, ss_leq, ss_gtr, ss_eql, ss_neq, List.take_succ_cons, List.take_zero, List.drop_succ_cons, List.drop_zero, List.take_nil, List.drop_nil, List.headD_cons, Bool.not_true, Bool.not_false, Nat.lt_add_one, bin_agg, bin_b, agg2_agg, bool2_b, aggEq_nil, aggEq_s, aggEq_i, aggEq_b, aggO_some, fill_nil, fill_cons, Nat.zero_mul, partsF_nil, partsF_cons, repl_one, SK_lookup, SK_mapUpdate, lkN_some, upN_some, ltV_mp, nilCheck_ptr, lookOut_f, lookOut_t, doCall_yl, ofValue_int, ofValue_bool, ev_nilP, ev_nilM, ev_nilF]; refine hK _ _ ?_; clear hK K)
    exact ⟨_, _, callEnd_one (.b true) (.inr rfl) rfl (by simp only [slot_put, Nat.reduceEqDiff, reduceIte]), rfl⟩
  | none =>
    have hq' : q = .o .nilP := hq
    subst hq'
    have hp' := hno rfl
    subst hp'
    repeat refine R1.s_assoc ?_
    refine R1.s_rg fun K hK => ?_
    simp only [SG_cons, SU_yes, gw_n, gw_gwv, gwv_b, gOf_n, gOf_some, List.map_cons, List.map_nil, List.getElem?_cons_zero, List.getElem?_cons_succ, Option.elim_some, vN_val, SK_move, SK_bin, SK_call, doCall_clo, doCall_clo, evTmp, ev_func, evs_cons, evs_nil, slot_put, putD_nt, slotOk, Nat.blt_eq, Nat.reduceLT, true_and, if_true, if_false, eqLt, eqGt, capArgs_nil, List.append_nil, Nat.lt_add_one, bin_b, bool2_b, ev_nilP, E2_P, h1, ad_pbook, ad_prbook, eql_nilP, plain_nilP un_pbook, plain_nilP un_prbook, nilP2_n, plain_beql un_bool, beq_self_eq_true, bd_copyGoods]
    refine WE.con (copyGoods_con H1 u gs hv1 hL hB) fun w H2 g2 ⟨u2, hw, hu2⟩ => ?_
    subst hw
    simp only [SG_cons, SU_yes, gw_gwv, gwv_b, SK_call, doCall_clo, doCall_clo, evTmp, ev_func, evs_cons, evs_nil, slot_put, putD_nt, slotOk, Nat.blt_eq, Nat.reduceLT, true_and, if_true, if_false, eqLt, eqGt, capArgs_nil, List.append_nil, Nat.lt_add_one, E2_P, bd_checkGoods]
    refine WE.con (checkGoods_con H2 _ u2 none gs (hp.gr g2) (fun l h => (hbl l h).1) hu2 hB2) fun w H3 g3 hw => ?_
    subst hw
    have hq3 := (hq.gr g2).gr g3
    have hv3 := (hv1.gr g2).gr g3
    simp only [SG_cons, SU_yes, gw_gwv, gwv_b, SK_move, SK_call, doCall_clo, doCall_clo, evTmp, ev_func, evs_cons, evs_nil, slot_put, putD_nt, slotOk, Nat.blt_eq, Nat.reduceLT, true_and, if_true, if_false, eqLt, eqGt, capArgs_nil, List.append_nil, Nat.lt_add_one, E2_P, h1, bd_rCheckGoods]
    refine WE.con (rCheckGoods_con H3 _ u none gs hq3 hbl hv3 hB2) fun w H4 g4 hw => ?_
    subst hw
    have hv4 := hv3.gr g4
    simp only [SG_cons, SU_yes, gw_n, gw_gwv, gwv_b, optP_some, vN_val, pkN_b, SK_move, SK_pick, SK_box, SK_bin, SK_build, SK_call, doCall_clo, doCall_clo, evTmp, ev_bool, ev_func, evs_cons, evs_nil, slot_put, putD_nt, slotOk, Nat.blt_eq, Nat.reduceLT, true_and, if_true, if_false, eqLt, eqGt, cells_agg, noTup_agg, List.length_cons, List.length_nil, Nat.zero_add, Nat.reduceAdd, capArgs_nil, List.append_nil, ii_eql, Nat.lt_add_one, fill_nil, partsF_nil, E2_P, h1, beq_self_eq_true, zr_book, bd_checkGoods]
    have hz : BookO (H4.new (.arr [.o .nilS, .o .nilM, .o .nilS, .o .nilS] 36 0 0)) (.o (.ptr H4.nx 0 0 4)) none := .inr ⟨H4.nx, rfl, Nat.lt_succ_self _, get_newE rfl⟩
    refine WE.con (checkGoods_con _ _ u none gs hz (fun l h => by cases h) (hv4.gr ((Fr.refl _).new _)) hB2) fun w H5 g5 hw => ?_
    subst hw
    have hc1 : chkG none gs = 1 := rfl
    simp only [SG_cons, SU_yes, gw_n, gw_gwv, gwv_b, vN_val, pkN_b, SK_move, SK_pick, SK_bin, SK_call, doCall_clo, doCall_clo, evTmp, ev_int, ev_bool, ev_func, evs_nil, slot_put, putD_nt, slotOk, Nat.blt_eq, Nat.reduceLT, true_and, if_true, if_false, eqLt, eqGt, capArgs_nil, List.append_nil, ii_eql, Nat.lt_add_one, E2_P, hc1, beq_self_eq_true, bd_works]
    refine WE.prim works_p fun H6 g6 _ _ => ?_
    simp only [SG_nil, SG_cons, SU_yes, gw_n, pkN_b, SK_assign, SK_pick, evTmp, ev_bool, slot_put, putD_nt, slotOk, Nat.blt_eq, Nat.reduceLT, true_and, if_true, if_false, eqLt, eqGt, Nat.lt_add_one]
    refine hK _ _ ?_
    clear hK K
    repeat' first | refine R1.ret ?_ | refine R1.exit ?_ | refine R1.skip ?_ | refine R1.s_ret ?_ | refine R1.s_exit ?_ | refine R1.s_assoc ?_ | refine R1.s_skip ?_ | refine R1.s_scope ?_ | ((first | refine R1.e_rg fun K hK => ?_ | refine R1.s_rg fun K hK => ?_ | refine R1.e_sq (by kernel_rfl) fun K hK => ?_ | refine R1.s_sq (by kernel_rfl) fun K hK => ?_); simp only [SG_nil, SG_cons, SU_yes, SU_no, gw_n, gw_gwv, gwv_b, gwv_u, gOf_n, gOf_some, List.map_cons, List.map_nil, List.getElem?_cons_zero, List.getElem?_cons_succ, Option.elim_some, Option.map_some, Option.bind_some, optP_some, boolP_b, boolP'_b, boolE_b, decide_eq_true_eq, decide_true, decide_false, valP_val, valP_guard, vN_val, ldN_some, stN_some, faN_some, iaN_some, lnN_some, pkN_b, sliceO_some, slice_lo, slice_hi, slice_1, indexAddr_0, Nat.add_one_sub_one, Nat.one_mul, len_sl, len_ns, len_str', posS, eq0S, cast0, Int.reduceLT, Int.reduceLE, Int.reduceBEq, Option.map_none, Nat.lt_add_left_iff_pos, Nat.zero_lt_succ, Nat.le_add_left, SK_move, SK_assign, SK_pick, SK_alloc, SK_box, SK_load, SK_store, SK_bin, SK_not, SK_fieldAddr, SK_field, SK_indexAddr, SK_slice, SK_extract, SK_nilCheck, SK_makeFunc, SK_makeMap, SK_makeSlice, SK_build, SK_buildSlice, SK_len, SK_append, SK_call, doCall_clo, doCall_clo, evTmp, ev_int, ev_bool, ev_str, ev_nilS, ev_func, opFev, evs_cons, evs_nil, slot_put, putD_nt, putD_none, putD_dfr, slotOk, Nat.blt_eq, Nat.reduceLT, Nat.reduceEqDiff, Nat.reduceLeDiff, reduceIte, true_and, and_true, true_or, or_true, if_true, if_false, Bool.false_eq_true, Bool.true_eq_false, not_false_eq_true, not_true_eq_false, ltV_ptr, ltV_sl, ltV_nil, ltV_str, ltV_i, nxNew, nxMod, get_newE, get_newL, get_modE, get_modN, ltAdd, ltSelf, eqLt, eqGt, eqLtA, eqGtA, eqSelfA, eqASelf, eqAA, ltAA, doLoad_ptr, doStore_ptr, rowOf_arr, rowOf_ro, ldO_agg, ldO_one, stO_arr, splice_eq, fieldAddr_at, Bool.not_eq_true', Bool.not_eq_false', decide_eq_false_iff_not, ne_eq, Nat.reduceLeDiff, Nat.lt_irrefl, gt_iff_lt, cells_one, cells_agg, noTup_one, noTup_agg, List.length_cons, List.length_nil, Nat.zero_add, Nat.add_zero, Nat.reduceAdd, Nat.reduceSub, Nat.reduceMul, Nat.le_refl, Nat.zero_le, capsOf_nil, capsOf_cons, capArgs_nil, capArgs_cons, List.cons_append, List.nil_append, List.append_nil, ex_0, ex_0a, ex_1, ex_1a, ex_2, ex_2a, ii_lss, ii_leq, ii_gtr, ii_geq, ii_eql, ii_neq, ii_add, ii_sub, ii_mul, ss_lss, ss_geq, ss_leq, ss_gtr, ss_eql, ss_neq, List.take_succ_cons, List.take_zero, List.drop_succ_cons, List.drop_zero, List.take_nil, List.drop_nil, List.headD_cons, Bool.not_true, Bool.not_false, Nat.lt_add_one, bin_agg, bin_b, agg2_agg, bool2_b, aggEq_nil, aggEq_s, aggEq_i, aggEq_b, aggO_some, fill_nil, fill_cons, Nat.zero_mul, partsF_nil, partsF_cons, repl_one, SK_lookup, SK_mapUpdate, lkN_some, upN_some, ltV_mp, nilCheck_ptr, lookOut_f, lookOut_t, doCall_yl, ofValue_int, ofValue_bool, ev_nilP, ev_nilM, ev_nilF]; refine hK _ _ ?_; clear hK K)
    exact ⟨_, _, callEnd_one (.b true) (.inr rfl) rfl (by simp only [slot_put, Nat.reduceEqDiff, reduceIte]), rfl⟩
end Go.Proofs.YtiejeicaaojdlaaGreat
