/- CheckLots: what it answers. -/
import Derived.Test.YtndipbefnipnpaaGreatLotsSl
namespace Go.Proofs.YtndipbefnipnpaaGreat
open Go Go.Eng

/-- Is the lot at 'i' as it must be? -/
noncomputable def okI (l : List Lot) (i : Nat) (x : Lot) : Bool :=
  nmB x.1 && (!(decide (0 < (i : Int))) || lLess (l.getD (i - 1) ([], 0)).1 x.1) && !(x.2 == 0) && !(decide (1099511627776 < x.2)) && !(decide (x.2 < -1099511627776))
noncomputable def okAll (l : List Lot) : Bool := (List.range l.length).all fun i => okI l i (l.getD i ([], 0))
theorem okAll_no {l : List Lot} {i : Nat} {x : Lot} (hx : l[i]? = some x) (h : okI l i x = false) : okAll l = false := by
  have hlt : i < l.length := by
    rcases Nat.lt_or_ge i l.length with h | h
    · exact h
    · rw [List.getElem?_eq_none h] at hx; cases hx
  unfold okAll
  rw [List.all_eq_false]
  exact ⟨i, List.mem_range.2 hlt, by rw [List.getD_eq_getElem?_getD, hx]; simp [h]⟩
theorem okAll_yes {l : List Lot} (h : ∀ j, j < l.length → okI l j (l.getD j ([], 0)) = true) : okAll l = true := by
  unfold okAll
  rw [List.all_eq_true]
  exact fun j hj => h j (List.mem_range.1 hj)
noncomputable def chkLots (l : List Lot) : Int := if 64 < l.length then 3 else if okAll l = true then 0 else 51

set_option maxRecDepth 10000 in
set_option maxHeartbeats 4000000 in
theorem checkLots_con (H : Hp) (l : List Lot) (v : AC) (hl : SlL H v l) :
    Con E2 8 [.one v] H (fun _ => False) fun r _ => r = .one (.i .i64 (chkLots l)) := by
  refine Con.of rfl fun lg => ?_
  have hl : SlL ⟨H.t, H.nx, lg⟩ v l := hl
  generalize (⟨H.t, H.nx, lg⟩ : Hp) = H at hl ⊢
  refine C1.body (E := E2) (nt := 50) (res := [.tmp 2]) Tryz.func8 rfl rfl rfl rfl rfl fun tm hargs => ?_
  have h0 := hargs 0 _ rfl
  clear hargs
  repeat' first | refine R1.ret ?_ | refine R1.exit ?_ | refine R1.skip ?_ | refine R1.s_ret ?_ | refine R1.s_exit ?_ | refine R1.s_assoc ?_ | refine R1.s_skip ?_ | refine R1.s_scope ?_ | ((first | refine R1.e_rg fun K hK => ?_ | refine R1.s_rg fun K hK => ?_ | refine R1.e_sq (by kernel_rfl) fun K hK => ?_ | refine R1.s_sq (by kernel_rfl) fun K hK => ?_); simp only [SG_nil, SG_cons, SU_yes, gw_n, gOf_n, List.map_cons, List.map_nil, vN_val, lnN_some, Nat.zero_lt_succ, SK_move, SK_assign, SK_bin, SK_len, ev_tmp, ev_int, slot_put, putD_nt, slotOk, Nat.blt_eq, Nat.reduceLT, true_and, if_true, if_false, eqLt, eqGt, ii_gtr, Nat.lt_add_one, E2_P, h0, len22, hl.len, hl.lt]; refine hK _ _ ?_; clear hK K)
  (first | refine R1.s_cnd fun Kx Ky hx hy => ?_ | refine R1.e_cnd fun Kx Ky hx hy => ?_); simp only [boolP'_b, decide_eq_true_eq, ev_tmp, slot_put, Nat.reduceLT, if_true, if_false, eqGt, Nat.lt_add_one]
  refine iteI (fun hb => ?_) (fun hb => ?_)
  · refine hx ?_
    clear hx hy Kx Ky
    repeat' first | refine R1.ret ?_ | refine R1.exit ?_ | refine R1.skip ?_ | refine R1.s_ret ?_ | refine R1.s_exit ?_ | refine R1.s_assoc ?_ | refine R1.s_skip ?_ | refine R1.s_scope ?_ | ((first | refine R1.e_rg fun K hK => ?_ | refine R1.s_rg fun K hK => ?_ | refine R1.e_sq (by kernel_rfl) fun K hK => ?_ | refine R1.s_sq (by kernel_rfl) fun K hK => ?_); simp only [SG_nil, SG_cons, SU_yes, gw_n, gOf_n, List.map_cons, List.map_nil, SK_assign, ev_int, putD_nt, slotOk, Nat.blt_eq, Nat.reduceLT, true_and]; refine hK _ _ ?_; clear hK K)
    refine ⟨_, _, callEnd_one (.i .i64 3) (.inr rfl) rfl (by simp only [slot_put, reduceIte]), Fr.refl H, fun _ => ?_⟩
    have : 64 < l.length := by omega
    rw [chkLots, if_pos this]
  · refine hy ?_
    clear hx hy Kx Ky
    repeat' first | refine R1.ret ?_ | refine R1.exit ?_ | refine R1.skip ?_ | refine R1.s_ret ?_ | refine R1.s_exit ?_ | refine R1.s_assoc ?_ | refine R1.s_skip ?_ | refine R1.s_scope ?_ | ((first | refine R1.e_rg fun K hK => ?_ | refine R1.s_rg fun K hK => ?_ | refine R1.e_sq (by kernel_rfl) fun K hK => ?_ | refine R1.s_sq (by kernel_rfl) fun K hK => ?_); simp only [SG_nil, SG_cons, SU_yes, gw_n, gOf_n, List.map_cons, List.map_nil, vN_val, lnN_some, Nat.zero_lt_succ, SK_move, SK_len, ev_tmp, ev_int, slot_put, putD_nt, slotOk, Nat.blt_eq, Nat.reduceLT, true_and, if_true, if_false, eqLt, eqGt, Nat.lt_add_one, E2_P, h0, len22, hl.len, hl.lt]; refine hK _ _ ?_; clear hK K)
    refine R1.s_block fun K k1 k2 k3 k4 => ?_
    refine R1.loop (fun k A1 H1 => ∃ i : Nat, k = l.length - i ∧ i ≤ l.length ∧ slot A1.tm 0 = .one v ∧ slot A1.tm 8 = .one v ∧ slot A1.tm 9 = .one (.i .i64 (l.length : Int)) ∧ slot A1.tm 10 = .one (.i .i64 (i : Int)) ∧ A1.nt = 50 ∧ A1.dfr = [] ∧ Gr H H1 ∧ ∀ j, j < i → okI l j (l.getD j ([], 0)) = true) ?_ l.length
      ⟨0, rfl, Nat.zero_le _, ?_, ?_, ?_, ?_, rfl, rfl, Fr.refl H, fun j hj => absurd hj (Nat.not_lt_zero j)⟩
    · clear h0 tm
      rintro k A1 H1 ⟨i, rfl, hi, t0, t8, t9, t10, hnt, hdf, hgr, hall⟩
      have hl1 := hl.gr hgr
      repeat' first | refine R1.ret ?_ | refine R1.exit ?_ | refine R1.skip ?_ | refine R1.s_ret ?_ | refine R1.s_exit ?_ | refine R1.s_assoc ?_ | refine R1.s_skip ?_ | refine R1.s_scope ?_ | ((first | refine R1.e_rg fun K hK => ?_ | refine R1.s_rg fun K hK => ?_ | refine R1.e_sq (by kernel_rfl) fun K hK => ?_ | refine R1.s_sq (by kernel_rfl) fun K hK => ?_); simp only [SG_nil, SG_cons, SU_yes, gw_n, gOf_n, List.map_cons, List.map_nil, vN_val, SK_bin, ev_tmp, slotOk, Nat.blt_eq, Nat.reduceLT, true_and, ii_lss, t9, t10, hnt]; refine hK _ _ ?_; clear hK K)
      (first | refine R1.s_cnd fun Kx Ky hx hy => ?_ | refine R1.e_cnd fun Kx Ky hx hy => ?_); simp only [boolP'_b, decide_eq_true_eq, ev_tmp, slot_put, if_true]
      refine iteI (fun hc => ?_) (fun hc => ?_)
      · refine hx ?_
        clear hx hy Kx Ky
        have hlt : i < l.length := by omega
        obtain ⟨id, g, off, cells, rfl, hid, hg, hat⟩ := hl1.open (by omega)
        have hx : l[i]? = some l[i] := List.getElem?_eq_getElem hlt
        have hd : l.getD i ([], 0) = l[i] := by rw [List.getD_eq_getElem?_getD, hx]; rfl
        generalize l[i] = x at hx hd
        have hx1 := hat i x hx
        refine R1.s_skip (R1.s_block fun K2 q1 q2 q3 q4 => ?_)
        refine R1.s_rg fun K hK => ?_
        simp only [SG_nil, SG_cons, SU_yes, gw_n, gOf_n, List.map_cons, List.map_nil, optP_some, vN_val, ldN_some, stN_some, iaN_some, SK_move, SK_assign, SK_alloc, SK_load, SK_store, SK_indexAddr, ev_tmp, slot_put, putD_nt, putD_none, slotOk, Nat.blt_eq, Nat.reduceLT, true_and, if_true, if_false, ltV_ptr, nxNew, get_newE, eqLt, eqGt, doLoad_ptr, doStore_ptr, ldO_agg, stO_arr, cells_agg, noTup_agg, List.length_cons, List.length_nil, Nat.zero_add, Nat.reduceAdd, Nat.le_refl, List.nil_append, List.append_nil, List.take_zero, List.drop_succ_cons, List.drop_nil, Nat.lt_add_one, t8, t10, hnt, E2_P, elem22, indexAddr_cast hlt, load37, zero37, size37, hid, hg, hx1.all, hx1.le, lotC]
        refine hK _ _ ?_
        clear hK K
        refine R1.s_sq (by kernel_rfl) fun K hK => ?_
        simp only [SG_cons, SU_yes, gw_n, gOf_n, gOf_some, List.map_cons, List.map_nil, List.getElem?_cons_zero, List.getElem?_cons_succ, Option.elim_some, vN_val, ldN_some, faN_some, SK_load, SK_fieldAddr, SK_call, doCall_clo, doCall_clo, ev_tmp, ev_func, evs_cons, evs_nil, slot_put, putD_nt, slotOk, Nat.blt_eq, Nat.reduceLT, Nat.reduceLeDiff, true_and, if_true, if_false, ltV_ptr, nxNew, nxMod, get_modE, eqLt, eqGt, doLoad_ptr, rowOf_arr, ldO_one, fieldAddr_at, Nat.reduceLeDiff, List.length_cons, List.length_nil, Nat.zero_add, Nat.add_zero, Nat.reduceAdd, Nat.reduceSub, Nat.le_refl, capArgs_nil, List.append_nil, List.drop_zero, List.headD_cons, Nat.lt_add_one, hnt, E2_P, load9, field37_0, body22]
        refine WE.prim (isName_p _) fun H3 g3 n3 e3 => ?_
        simp only [SG_cons, SU_yes, gw_n, gw_gwv, gwv_b, boolE_b, vN_val, SK_move, SK_not, ev_tmp, slot_put, putD_nt, slotOk, Nat.blt_eq, Nat.reduceLT, true_and, if_true, if_false, eqGt, Bool.not_eq_false', Nat.lt_add_one, hnt, E2_P]
        have hw : 0 < (i : Int) → IntKind.i64.wrap ((i : Int) - 1) = ((i - 1 : Nat) : Int) := fun h => by rw [wrapI (by omega) (by omega)]; omega
        have hlt1 : i - 1 < l.length := by omega
        have hy := hat (i - 1) (l.getD (i - 1) ([], 0)) (by rw [List.getD_eq_getElem?_getD, List.getElem?_eq_getElem hlt1]; rfl)
        have hok : okI l i x = (nmB x.1 && (!(decide (0 < (i : Int))) || lLess (l.getD (i - 1) ([], 0)).1 x.1) && !(x.2 == 0) && !(decide (1099511627776 < x.2)) && !(decide (x.2 < -1099511627776))) := rfl
        generalize l.getD (i - 1) ([], 0) = y at hy hok
        have hw2 : IntKind.i64.wrap ((i : Int) + 1) = ((i + 1 : Nat) : Int) := by rw [wrapI (by omega) (by omega)]; omega
        have hgr3 : Gr H H3 := ((hgr.new _).mod _ (.inl hgr.nx)).gr g3
        repeat' (refine SU_iteI (fun hc => ?_) (fun hc => ?_) <;> (try simp only [Bool.not_eq_true, Bool.not_eq_false, Classical.not_not] at hc) <;> simp only [hc, SG_nil, SG_cons, SU_yes, SU_no, gw_n, gw_gwv, gwv_b, gwv_u, decide_eq_true_eq, decide_true, decide_false, vN_val, ldN_some, faN_some, iaN_some, pkN_b, Nat.add_one_sub_one, Nat.zero_lt_succ, SK_move, SK_pick, SK_load, SK_bin, SK_fieldAddr, SK_indexAddr, ev_tmp, ev_int, ev_bool, slot_put, putD_nt, slotOk, Nat.blt_eq, Nat.reduceLT, Nat.reduceLeDiff, true_and, if_true, if_false, Bool.false_eq_true, Bool.true_eq_false, not_false_eq_true, ltV_ptr, nxNew, nxMod, get_newL, get_modE, get_modN, ltAdd, eqLt, eqGt, doLoad_ptr, rowOf_arr, ldO_one, fieldAddr_at, Bool.not_eq_false', decide_eq_false_iff_not, ne_eq, Nat.reduceLeDiff, List.length_cons, List.length_nil, Nat.zero_add, Nat.add_zero, Nat.reduceAdd, Nat.reduceSub, Nat.le_refl, ii_lss, ii_gtr, ii_eql, ii_sub, ss_geq, List.drop_succ_cons, List.drop_zero, List.headD_cons, Bool.not_true, Bool.not_false, Nat.lt_add_one, t0, hnt, E2_P, load9, load3, field37_0, field37_1, elem22, hid, n3, e3, hg, hw, indexAddr_cast hlt1, hy.le1, hy.fst])
        all_goals refine hK _ _ ?_
        all_goals clear hK K
        all_goals (first | refine R1.s_cnd fun Kx Ky hx hy => ?_ | refine R1.e_cnd fun Kx Ky hx hy => ?_); simp only [boolP'_b, decide_eq_true_eq, ev_tmp, slot_put, Nat.reduceLT, if_true, if_false, eqGt, Nat.lt_add_one]
        all_goals first | refine hx ?_ | refine hy ?_ | refine iteI (fun hc => hx ?_) (fun hc => hy ?_)
        all_goals clear hx hy Kx Ky
        all_goals repeat' first | refine R1.ret ?_ | refine R1.exit ?_ | refine R1.skip ?_ | refine R1.s_ret ?_ | refine R1.s_exit ?_ | refine R1.s_assoc ?_ | refine R1.s_skip ?_ | refine R1.s_scope ?_ | ((first | refine R1.e_rg fun K hK => ?_ | refine R1.s_rg fun K hK => ?_ | refine R1.e_sq (by kernel_rfl) fun K hK => ?_ | refine R1.s_sq (by kernel_rfl) fun K hK => ?_); simp only [SG_nil, SG_cons, SU_yes, gw_n, gOf_n, List.map_cons, List.map_nil, SK_assign, ev_int, putD_nt, slotOk, Nat.blt_eq, Nat.reduceLT, true_and, hnt]; refine hK _ _ ?_; clear hK K)
        all_goals first
          | (refine q4 _ _ (k4 _ _ ⟨_, _, callEnd_one (.i .i64 51) (.inr rfl) (by simp only [putD_dfr, hdf]) (by simp only [slot_put, reduceIte]), hgr3, fun _ => ?_⟩)
             have hno : okI l i x = false := by
               simp only [*, decide_true, decide_false, Bool.not_true, Bool.not_false, Bool.and_true, Bool.and_false, Bool.false_and, Bool.or_true, Bool.true_or, Bool.or_false]
             rw [chkLots, if_neg (by omega), okAll_no hx hno]; rfl)
          | (refine q1 _ _ ?_
             repeat' first | refine R1.ret ?_ | refine R1.exit ?_ | refine R1.skip ?_ | refine R1.s_ret ?_ | refine R1.s_exit ?_ | refine R1.s_assoc ?_ | refine R1.s_skip ?_ | refine R1.s_scope ?_ | ((first | refine R1.e_rg fun K hK => ?_ | refine R1.s_rg fun K hK => ?_ | refine R1.e_sq (by kernel_rfl) fun K hK => ?_ | refine R1.s_sq (by kernel_rfl) fun K hK => ?_); simp only [SG_nil, SG_cons, SU_yes, gw_n, gOf_n, List.map_cons, List.map_nil, vN_val, SK_move, SK_bin, ev_tmp, ev_int, slot_put, putD_nt, slotOk, Nat.blt_eq, Nat.reduceLT, true_and, if_true, if_false, eqLt, eqGt, ii_add, Nat.lt_add_one, t10, hnt, hw2]; refine hK _ _ ?_; clear hK K)
             refine ⟨l.length - (i + 1), by omega, i + 1, rfl, hlt, ?_, ?_, ?_, ?_, ?_, ?_, hgr3, fun j hj => ?_⟩
             · simp only [slot_put, Nat.reduceEqDiff, reduceIte, t0]
             · simp only [slot_put, Nat.reduceEqDiff, reduceIte, t8]
             · simp only [slot_put, Nat.reduceEqDiff, reduceIte, t9]
             · simp only [slot_put, Nat.reduceEqDiff, reduceIte]
             · simp only [putD_nt, hnt]
             · simp only [putD_dfr, hdf]
             · rcases Nat.lt_or_ge j i with h | h
               · exact hall j h
               · have : j = i := by omega
                 subst this
                 rw [hd]
                 simp only [*, decide_true, decide_false, Bool.not_true, Bool.not_false, Bool.and_true, Bool.or_true, Bool.true_or]
             )
      · refine hy ?_
        clear hx hy Kx Ky
        repeat' first | refine R1.ret ?_ | refine R1.exit ?_ | refine R1.skip ?_ | refine R1.s_ret ?_ | refine R1.s_exit ?_ | refine R1.s_assoc ?_ | refine R1.s_skip ?_ | refine R1.s_scope ?_ | ((first | refine R1.e_rg fun K hK => ?_ | refine R1.s_rg fun K hK => ?_ | refine R1.e_sq (by kernel_rfl) fun K hK => ?_ | refine R1.s_sq (by kernel_rfl) fun K hK => ?_); simp only [SG_nil, SG_cons, SU_yes, SU_no, gw_n, gw_gwv, gwv_b, gwv_u, gOf_n, gOf_some, List.map_cons, List.map_nil, List.getElem?_cons_zero, List.getElem?_cons_succ, Option.elim_some, Option.map_some, Option.bind_some, optP_some, boolP_b, boolP'_b, boolE_b, decide_eq_true_eq, decide_true, decide_false, valP_val, valP_guard, vN_val, ldN_some, stN_some, faN_some, iaN_some, lnN_some, pkN_b, sliceO_some, slice_lo, slice_hi, slice_1, indexAddr_0, Nat.add_one_sub_one, Nat.one_mul, len_sl, len_ns, len_str', posS, eq0S, cast0, Int.reduceLT, Int.reduceLE, Int.reduceBEq, Option.map_none, Nat.lt_add_left_iff_pos, Nat.zero_lt_succ, Nat.le_add_left, SK_move, SK_assign, SK_pick, SK_alloc, SK_box, SK_load, SK_store, SK_bin, SK_not, SK_fieldAddr, SK_field, SK_indexAddr, SK_slice, SK_extract, SK_nilCheck, SK_makeFunc, SK_makeMap, SK_makeSlice, SK_build, SK_buildSlice, SK_len, SK_append, SK_call, doCall_clo, doCall_clo, ev_tmp, ev_int, ev_bool, ev_str, ev_nilS, ev_func, opF_ev, evs_cons, evs_nil, slot_put, putD_nt, putD_none, putD_dfr, slotOk, Nat.blt_eq, Nat.reduceLT, Nat.reduceEqDiff, Nat.reduceLeDiff, reduceIte, true_and, and_true, true_or, or_true, if_true, if_false, Bool.false_eq_true, Bool.true_eq_false, not_false_eq_true, not_true_eq_false, ltV_ptr, ltV_sl, ltV_nil, ltV_str, ltV_i, nxNew, nxMod, get_newE, get_newL, get_modE, get_modN, ltAdd, ltSelf, eqLt, eqGt, eqLtA, eqGtA, eqSelfA, eqASelf, eqAA, ltAA, doLoad_ptr, doStore_ptr, rowOf_arr, rowOf_ro, ldO_agg, ldO_one, stO_arr, splice_eq, fieldAddr_at, Bool.not_eq_true', Bool.not_eq_false', decide_eq_false_iff_not, ne_eq, Nat.reduceLeDiff, Nat.lt_irrefl, gt_iff_lt, cells_one, cells_agg, noTup_one, noTup_agg, List.length_cons, List.length_nil, Nat.zero_add, Nat.add_zero, Nat.reduceAdd, Nat.reduceSub, Nat.reduceMul, Nat.le_refl, Nat.zero_le, capsOf_nil, capsOf_cons, capArgs_nil, capArgs_cons, List.cons_append, List.nil_append, List.append_nil, ex_0, ex_0a, ex_1, ex_1a, ex_2, ex_2a, ii_lss, ii_leq, ii_gtr, ii_geq, ii_eql, ii_neq, ii_add, ii_sub, ii_mul, ss_lss, ss_geq, ss_leq, ss_gtr, ss_eql, ss_neq, List.take_succ_cons, List.take_zero, List.drop_succ_cons, List.drop_zero, List.take_nil, List.drop_nil, List.headD_cons, Bool.not_true, Bool.not_false, Nat.lt_add_one, bin_agg, bin_b, agg2_agg, bool2_b, aggEq_nil, aggEq_s, aggEq_i, aggEq_b, aggO_some, fill_nil, partsF_nil, partsF_cons, repl_one, hnt]; refine hK _ _ ?_; clear hK K)
        refine k2 _ _ ?_
        repeat' first | refine R1.ret ?_ | refine R1.exit ?_ | refine R1.skip ?_ | refine R1.s_ret ?_ | refine R1.s_exit ?_ | refine R1.s_assoc ?_ | refine R1.s_skip ?_ | refine R1.s_scope ?_ | ((first | refine R1.e_rg fun K hK => ?_ | refine R1.s_rg fun K hK => ?_ | refine R1.e_sq (by kernel_rfl) fun K hK => ?_ | refine R1.s_sq (by kernel_rfl) fun K hK => ?_); simp only [SG_nil, SG_cons, SU_yes, gw_n, gOf_n, List.map_cons, List.map_nil, SK_assign, ev_int, putD_nt, slotOk, Nat.blt_eq, Nat.reduceLT, true_and, hnt]; refine hK _ _ ?_; clear hK K)
        refine ⟨_, _, callEnd_one (.i .i64 0) (.inr rfl) (by simp only [putD_dfr, hdf]) (by simp only [slot_put, reduceIte]), hgr, fun _ => ?_⟩
        have : i = l.length := by omega
        subst this
        rw [chkLots, if_neg (by omega), okAll_yes hall]; rfl
    all_goals simp only [slot_put, Nat.reduceEqDiff, reduceIte, h0]
    all_goals rfl
end Go.Proofs.YtndipbefnipnpaaGreat
