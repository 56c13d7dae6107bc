/- A ladder is copied. -/
import Derived.Test.YtiejeicaaojdlaaGreatBkChk
namespace Go.Proofs.YtiejeicaaojdlaaGreat
open Go Go.Eng

theorem bd_copied : hasBody Tryz.prog 65 = true := by kernel_rfl

/-- A result of several cells that lies in cells of its own. -/
theorem callEnd_cells {E : Env} {s : Tmp} {t : TypeId} {n : Nat} {A : AAct} {H H2 : Hp} {e : AExit} {id g lim : Nat} {cells : List AC} (ht : loadT E.P t = some (true, n)) (he : e = .normal ∨ e = .ret) (hd : closeAll H A.dfr = some H2) (hs : slot A.tm s = .one (.o (.ptr id g 0 lim)))
    (hg : rowOf (H2.get id) g = some cells) (hl : n ≤ lim) (ho : cells.length = n) : callEnd E [.cell s t] (e, A, H) = .ok [(.agg cells, H2)] := by
  have key : (optE (closeAll H A.dfr) (R.bad "marks") fun h2 => optE (resAll E.P [.cell s t] A.tm h2) (.bad "results") fun l => .ok [(tupOf l, h2)]) = .ok [(.agg cells, H2)] := by
    rw [hd]
    have e1 : resF E.P (.cell s t) A.tm H2 = some (true, cells) := by
      have e0 : resF E.P (.cell s t) = match loadT E.P t with
          | some p => fun tm h => optE (tm.get s) none fun v => ANext.rec (motive := fun _ => Option (Bool × List AC)) (fun v _ => resV v) (fun _ => none) (fun _ _ => none) (fun _ _ => none) (fun _ => none) (doLoad h p.1 p.2 v)
          | none => fun _ _ => none := rfl
      rw [e0, ht]
      show optE (A.tm.get s) none (fun v => ANext.rec (motive := fun _ => Option (Bool × List AC)) (fun v _ => resV v) (fun _ => none) (fun _ _ => none) (fun _ _ => none) (fun _ => none) (doLoad H2 true n v)) = _
      rw [getS hs]
      show ANext.rec (motive := fun _ => Option (Bool × List AC)) (fun v _ => resV v) (fun _ => none) (fun _ _ => none) (fun _ _ => none) (fun _ => none) (doLoad H2 true n (.one (.o (.ptr id g 0 lim)))) = _
      rw [doLoad_ptr, hg, ldO_agg hl (by omega), List.drop_zero, List.take_of_length_le (by omega)]; rfl
    have hr : resAll E.P [.cell s t] A.tm H2 = some [(true, cells)] := by
      show optE (resF E.P (.cell s t) A.tm H2) none (fun x => optE (some []) none fun l => some (x :: l)) = _
      rw [e1]; rfl
    show optE (resAll E.P [.cell s t] A.tm H2) (R.bad "results") (fun l => R.ok [(tupOf l, H2)]) = _
    rw [hr]; rfl
  rcases he with rfl | rfl
  · exact key
  · exact key

set_option maxRecDepth 10000 in
set_option maxHeartbeats 4000000 in
theorem copied_con (H : Hp) (n : List UInt8) (u : AC) (us : List Pr) (hu : SlP H u us) (hL : us.length ≤ 1000000) :
    Con E2 65 [.agg [.o (.str n), u]] H (fun _ => False) fun r H' => ∃ u', r = .agg [.o (.str n), u'] ∧ SlP H' u' us ∧ ∀ id ∈ (AV.one u').ids, H.nx ≤ id := by
  refine Con.of rfl fun lg => ?_
  have hu : SlP ⟨H.t, H.nx, lg⟩ u us := hu
  have e0 : H.nx = (⟨H.t, H.nx, lg⟩ : Hp).nx := rfl
  rw [e0]
  clear e0
  generalize (⟨H.t, H.nx, lg⟩ : Hp) = H at hu ⊢
  refine C1.body (E := E2) (nt := 9) (res := [.cell 2 78]) Tryz.func65 rfl rfl rfl rfl rfl fun tm hargs => ?_
  have h0 := hargs 0 _ rfl
  clear hargs
  repeat refine R1.s_assoc ?_
  refine R1.s_rg fun K hK => ?_
  simp only [SG_nil, SG_cons, SU_yes, gw_n, gOf_n, List.map_cons, List.map_nil, optP_some, SK_alloc, SK_box, evTmp, putD_nt, slotOk, Nat.blt_eq, Nat.reduceLT, true_and, nxNew, cells_agg, noTup_agg, List.length_cons, List.length_nil, Nat.zero_add, Nat.reduceAdd, E2_P, h0, zr_lad]
  refine hK _ _ ?_
  clear hK K
  refine R1.gen (fun A1 H1 => Gr H H1 ∧ H.nx + 1 < H1.nx ∧ H1.get H.nx = some (.arr [.o (.str n), u] 78 0 0) ∧ H1.get (H.nx + 1) = some (.arr [.o (.str []), .o .nilS] 78 0 0) ∧ slot A1.tm 1 = .one (.o (.ptr H.nx 0 0 2)) ∧ slot A1.tm 2 = .one (.o (.ptr (H.nx + 1) 0 0 2)) ∧ A1.nt = 9 ∧ A1.dfr = [])
    ⟨((Fr.refl _).new _).new _, ?_⟩ ?_
  · simp only [slot_put, putD_nt, putD_dfr, and_true, if_true, if_false, nxNew, get_newE, get_newL, eqLt, eqGt, Nat.lt_add_one]
  rintro A1 H1 ⟨g1, n1, r1, r2, t1, t2, hnt, hdf⟩
  clear h0 tm
  have hu1 : SlP H1 u us := hu.gr g1
  have l1 : H.nx < H1.nx := by omega
  have hlu : ∀ id ∈ (AV.one u).ids, id < H1.nx := hu1.lt
  obtain ⟨z, hz, hzl⟩ := zx_unit
  repeat refine R1.s_assoc ?_
  (first | refine R1.s_drw (ms := [0, 1, 0, 4, 12, 31, 63]) (by kernel_rfl) (by kernel_rfl) fun K hK => ?_ | refine R1.e_drw (ms := [0, 1, 0, 4, 12, 31, 63]) (by kernel_rfl) (by kernel_rfl) fun K hK => ?_)
  simp (config := {decide := true}) only [gw_n, gOf_n, valP_val, Nat.add_one_sub_one, evTmp, ev_nilS, slot_put, putD_nt, putD_none, slotOk, Nat.blt_eq, Nat.reduceLT, Nat.reduceLeDiff, true_and, and_true, true_or, if_true, if_false, not_false_eq_true, doLoad_ptr, rowOf_arr, ldO_one, fieldAddr_at, Nat.reduceLeDiff, List.length_cons, List.length_nil, Nat.zero_add, Nat.add_zero, Nat.reduceAdd, Nat.reduceSub, Nat.le_refl, List.drop_succ_cons, List.drop_zero, List.headD_cons, DK_append, DO_cons, DO_nil, DU_yes, DK_load, DK_store, DK_fieldAddr, DK_build, ptrP_ptr, DP_val, unordS, Untou, st_load', st_store', st_fieldAddr', ldS_some, faS_some, List.not_mem_nil, not_false_eq_true, E2_P, t1, hnt, r1, l1, fd_lad_0, fd_lad_1, ld_str, ld_units]
  refine AP_nil el_units by_unit hz hzl (by decide) hu1 (by omega) (fun id h => by have := hlu id h; simp (config := {decide := true}) [unordS, Untou] <;> omega) fun v c1 H2 hv hvn g2 hc => ?_
  subst hc
  have r2 : H2.get (H.nx + 1) = some (.arr [.o (.str []), .o .nilS] 78 0 0) := by rw [g2.get _ n1 not_false]; exact r2
  have n2 : H.nx + 1 < H2.nx := Nat.lt_of_lt_of_le n1 g2.nx
  simp (config := {decide := true}) only [Option.map_some, Option.bind_some, valP_val, evTmp, opFev, slot_put, putD_nt, Nat.reduceLeDiff, true_and, if_true, if_false, doStore_ptr, stO_arr, Nat.reduceLeDiff, cells_one, cells_agg, noTup_one, noTup_agg, List.length_cons, List.length_nil, Nat.zero_add, Nat.reduceAdd, Nat.le_refl, List.cons_append, List.nil_append, List.append_nil, List.take_succ_cons, List.take_zero, List.drop_succ_cons, List.drop_zero, List.drop_nil, Nat.lt_add_one, fill_nil, fill_cons, partsF_nil, partsF_cons, buO_some, fiO_some, ptrP_ptr, DP_val, unordS, Untou, Unseen, stS_some, t2, hnt, st_bu zr_lad pt_lad, pl_lad_0, pl_lad_1, sz_lad, r2, n2]
  refine hK _ _ ?_
  clear hK K
  repeat' first | refine R1.ret ?_ | refine R1.exit ?_ | refine R1.skip ?_ | refine R1.s_ret ?_ | refine R1.s_exit ?_ | refine R1.s_assoc ?_ | refine R1.s_skip ?_ | refine R1.s_scope ?_ | ((first | refine R1.e_rg fun K hK => ?_ | refine R1.s_rg fun K hK => ?_ | refine R1.e_sq (by kernel_rfl) fun K hK => ?_ | refine R1.s_sq (by kernel_rfl) fun K hK => ?_); simp only [SG_nil, SG_cons, SU_yes, SU_no, gw_n, gw_gwv, gwv_b, gwv_u, gOf_n, gOf_some, List.map_cons, List.map_nil, List.getElem?_cons_zero, List.getElem?_cons_succ, Option.elim_some, Option.map_some, Option.bind_some, optP_some, boolP_b, boolP'_b, boolE_b, decide_eq_true_eq, decide_true, decide_false, valP_val, valP_guard, vN_val, ldN_some, stN_some, faN_some, iaN_some, lnN_some, pkN_b, sliceO_some, slice_lo, slice_hi, slice_1, indexAddr_0, Nat.add_one_sub_one, Nat.one_mul, len_sl, len_ns, len_str', posS, eq0S, cast0, Int.reduceLT, Int.reduceLE, Int.reduceBEq, Option.map_none, Nat.lt_add_left_iff_pos, Nat.zero_lt_succ, Nat.le_add_left, SK_move, SK_assign, SK_pick, SK_alloc, SK_box, SK_load, SK_store, SK_bin, SK_not, SK_fieldAddr, SK_field, SK_indexAddr, SK_slice, SK_extract, SK_nilCheck, SK_makeFunc, SK_makeMap, SK_makeSlice, SK_build, SK_buildSlice, SK_len, SK_append, SK_call, doCall_clo, doCall_clo, evTmp, ev_int, ev_bool, ev_str, ev_nilS, ev_func, opFev, evs_cons, evs_nil, slot_put, putD_nt, putD_none, putD_dfr, slotOk, Nat.blt_eq, Nat.reduceLT, Nat.reduceEqDiff, Nat.reduceLeDiff, reduceIte, true_and, and_true, true_or, or_true, if_true, if_false, Bool.false_eq_true, Bool.true_eq_false, not_false_eq_true, not_true_eq_false, ltV_ptr, ltV_sl, ltV_nil, ltV_str, ltV_i, nxNew, nxMod, get_newE, get_newL, get_modE, get_modN, ltAdd, ltSelf, eqLt, eqGt, eqLtA, eqGtA, eqSelfA, eqASelf, eqAA, ltAA, doLoad_ptr, doStore_ptr, rowOf_arr, rowOf_ro, ldO_agg, ldO_one, stO_arr, splice_eq, fieldAddr_at, Bool.not_eq_true', Bool.not_eq_false', decide_eq_false_iff_not, ne_eq, Nat.reduceLeDiff, Nat.lt_irrefl, gt_iff_lt, cells_one, cells_agg, noTup_one, noTup_agg, List.length_cons, List.length_nil, Nat.zero_add, Nat.add_zero, Nat.reduceAdd, Nat.reduceSub, Nat.reduceMul, Nat.le_refl, Nat.zero_le, capsOf_nil, capsOf_cons, capArgs_nil, capArgs_cons, List.cons_append, List.nil_append, List.append_nil, ex_0, ex_0a, ex_1, ex_1a, ex_2, ex_2a, ii_lss, ii_leq, ii_gtr, ii_geq, ii_eql, ii_neq, ii_add, ii_sub, ii_mul, ss_lss, ss_geq, ss_leq, ss_gtr, ss_eql, ss_neq, List.take_succ_cons, List.take_zero, List.drop_succ_cons, List.drop_zero, List.take_nil, List.drop_nil, List.headD_cons, Bool.not_true, Bool.not_false, Nat.lt_add_one, bin_agg, bin_b, agg2_agg, bool2_b, aggEq_nil, aggEq_s, aggEq_i, aggEq_b, aggO_some, fill_nil, fill_cons, Nat.zero_mul, partsF_nil, partsF_cons, repl_one, SK_lookup, SK_mapUpdate, lkN_some, upN_some, ltV_mp, nilCheck_ptr, lookOut_f, lookOut_t, doCall_yl, ofValue_int, ofValue_bool, ev_nilP, ev_nilM, ev_nilF]; refine hK _ _ ?_; clear hK K)
  have hv3 : SlP (H2.mod (H.nx + 1) (.arr [.o (.str n), v] 78 0 0)) v us := SlC.fr hv (X := fun k => k = H.nx + 1) ((Fr.refl _).mod _ (.inr rfl)) fun id h hh => by have := hvn id h; omega
  exact ⟨_, _, callEnd_cells (id := H.nx + 1) (g := 0) ld_lad (.inr rfl) (by simp only [putD_dfr, hdf]; rfl) (by simp only [slot_put, Nat.reduceEqDiff, reduceIte, t2]) (by rw [get_modE rfl]; exact rowOf_arr (Nat.le_refl _) (Nat.le_refl _)) (Nat.le_refl _) rfl, (g1.gr g2).mod _ (.inl (Nat.le_succ _)), fun _ => ⟨v, rfl, hv3, fun id h => by have := hvn id h; omega⟩⟩
end Go.Proofs.YtiejeicaaojdlaaGreat
