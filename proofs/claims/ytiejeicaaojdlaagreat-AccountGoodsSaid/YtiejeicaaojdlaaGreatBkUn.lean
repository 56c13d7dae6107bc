/- The units of a ladder, one after the other: what the iterator of metro yields. -/
import Derived.Test.YtiejeicaaojdlaaGreatBkTy
namespace Go.Proofs.YtiejeicaaojdlaaGreat
open Go Go.Eng

/-- The units with their values, as long as they are valid. -/
def yv : Int → List Pr → List (Pr × Int)
  | _, [] => []
  | v, u :: us => if u.2 < 1 ∨ 60 < u.2 ∨ 1099511627776 < v * u.2 then [] else (u, v * u.2) :: yv (v * u.2) us
theorem yv_len : ∀ (v : Int) (us : List Pr), (yv v us).length ≤ us.length
  | _, [] => Nat.le_refl _
  | v, u :: us => by
    unfold yv
    split
    · exact Nat.zero_le _
    · exact Nat.succ_le_succ (yv_len _ us)
theorem yv_fst : ∀ (v : Int) (us : List Pr) (i : Nat) (y : Pr × Int), (yv v us)[i]? = some y → us[i]? = some y.1
  | _, [], _, _, h => by simp [yv] at h
  | v, u :: us, i, y, h => by
    unfold yv at h
    split at h
    · simp at h
    · cases i with
      | zero =>
        simp only [List.getElem?_cons_zero, Option.some.injEq] at h ⊢
        rw [← h]
      | succ i =>
        rw [List.getElem?_cons_succ] at h ⊢
        exact yv_fst _ us i y h
/-- What is yielded. -/
def yA (ys : List (Pr × Int)) (i : Nat) : List AV :=
  match ys[i]? with
  | some y => [.agg (prC y.1), .one (.i .i64 y.2)]
  | none => [.any, .any]
theorem yA_len (ys : List (Pr × Int)) (i : Nat) : (yA ys i).length = 2 := by
  unfold yA
  split <;> rfl
theorem yA_at {ys : List (Pr × Int)} {i : Nat} {y : Pr × Int} (h : ys[i]? = some y) : yA ys i = [.agg (prC y.1), .one (.i .i64 y.2)] := by
  unfold yA
  rw [h]

/-- The rows of a boxed ladder. -/
def DL (il : Nat) (u : AC) (k : Nat) : Prop := k = il ∨ k ∈ (AV.one u).ids

set_option maxRecDepth 10000 in
set_option maxHeartbeats 4000000 in
theorem units1_it (H : Hp) (il : Nat) (n : AC) (u : AC) (us : List Pr) (hil : il < H.nx) (hg : H.get il = some (.arr [n, u] 78 0 0)) (hu : SlP H u us) (hL : us.length ≤ 1000000) (ys : List (Pr × Int)) (hys : yv 1 us = ys) :
    ItC E2 133 [(il, 0, 0, 2)] ys.length (yA ys) (DL il u) H := by
  intro σ L B s H1 hn1 hs1 hj
  refine Con.of rfl fun lg => ?_
  have hj : B.J 0 s ⟨H1.t, H1.nx, lg⟩ := B.hJ hj (Nat.le_refl _) fun _ _ => rfl
  have hn1 : H.nx ≤ (⟨H1.t, H1.nx, lg⟩ : Hp).nx := hn1
  have hs1 : ∀ k, k < H.nx → (⟨H1.t, H1.nx, lg⟩ : Hp).get k = H.get k := hs1
  have e0 : H1.nx = (⟨H1.t, H1.nx, lg⟩ : Hp).nx := rfl
  rw [e0]
  clear e0
  generalize (⟨H1.t, H1.nx, lg⟩ : Hp) = H1 at hj hn1 hs1 ⊢
  have hg1 : H1.get il = some (.arr [n, u] 78 0 0) := by rw [hs1 _ hil]; exact hg
  have hil1 : il < H1.nx := Nat.lt_of_lt_of_le hil hn1
  have hu1 : SlP H1 u us := SlC.of_get hu hn1 hs1
  have hnu : ∀ id ∈ (AV.one u).ids, ¬ B.fp s id := fun id h hf => (B.hl hj hf).2 (.inr h)
  have jend : ∀ (j : Nat) (s3 : σ) (H3 : Hp), j = ys.length → B.J j s3 H3 → B.J ys.length s3 H3 := fun j s3 H3 e h => by subst e; exact h
  refine C1.body (E := E2) (nt := 35) (res := []) Tryz.func133 rfl rfl rfl rfl rfl fun tm hargs => ?_
  have h0 := hargs 0 _ rfl
  have h1 := hargs 1 _ rfl
  clear hargs
  repeat' first | refine R1.ret ?_ | refine R1.exit ?_ | refine R1.skip ?_ | refine R1.s_ret ?_ | refine R1.s_exit ?_ | refine R1.s_assoc ?_ | refine R1.s_skip ?_ | refine R1.s_scope ?_ | ((first | refine R1.e_rg fun K hK => ?_ | refine R1.s_rg fun K hK => ?_ | refine R1.e_sq (by kernel_rfl) fun K hK => ?_ | refine R1.s_sq (by kernel_rfl) fun K hK => ?_); simp only [SG_nil, SG_cons, SU_yes, gw_n, gOf_n, List.map_cons, List.map_nil, vN_val, ldN_some, faN_some, lnN_some, Nat.add_one_sub_one, SK_move, SK_assign, SK_load, SK_fieldAddr, SK_len, evTmp, ev_int, slot_put, putD_nt, slotOk, Nat.blt_eq, Nat.reduceLT, true_and, if_true, if_false, ltV_ptr, eqLt, eqGt, doLoad_ptr, rowOf_arr, ldO_one, fieldAddr_at, List.length_cons, List.length_nil, Nat.zero_add, Nat.reduceAdd, Nat.le_refl, List.drop_succ_cons, List.drop_zero, List.headD_cons, Nat.lt_add_one, E2_P, h1, fd_lad_1, ld_units, hg1, hil1, ln_units, hu1.len, hu1.lt]; refine hK _ _ ?_; clear hK K)
  refine R1.e_block fun K k1 k2 k3 k4 => ?_
  refine R1.loop (fun k A H2 => ∃ (i : Nat) (s2 : σ) (val : Int), k = us.length - i ∧ i ≤ us.length ∧ i ≤ ys.length ∧ ys.drop i = yv val (us.drop i) ∧ 1 ≤ val ∧ val ≤ 1099511627776 ∧ B.J i s2 H2 ∧ Fr (B.fp s) H1 H2 ∧ (∀ k, B.fp s2 k → B.fp s k ∨ H1.nx ≤ k) ∧
    slot A.tm 0 = .one (.o (.yl L)) ∧ slot A.tm 3 = .one (.i .i64 val) ∧ slot A.tm 7 = .one u ∧ slot A.tm 8 = .one (.i .i64 (us.length : Int)) ∧ slot A.tm 9 = .one (.i .i64 (i : Int)) ∧ A.nt = 35 ∧ A.dfr = []) ?_ us.length
    ⟨0, s, 1, rfl, Nat.zero_le _, Nat.zero_le _, hys.symm, by omega, by omega, hj, Fr.refl _, fun _ h => .inl h, ?_⟩
  · clear h0 h1 tm
    rintro k A H2 ⟨i, s2, val, rfl, hi, hiy, hdy, hv1, hv2, hj2, hf2, hfp, t0, t3, t7, t8, t9, hnt, hdf⟩
    have hu2 : SlP H2 u us := SlC.fr hu1 hf2 hnu
    have fin : ∀ (e : AExit), e = .normal ∨ e = .ret → ∀ s3 H3 A3, B.J ys.length s3 H3 ∨ B.F s3 H3 → Fr (B.fp s) H1 H3 → (∀ k, B.fp s3 k → B.fp s k ∨ H1.nx ≤ k) → A3.dfr = [] → ∃ v H4, callEnd E2 [] (e, A3, H3) = .ok [(v, H4)] ∧ Fr (B.fp s) H1 H4 ∧ ∀ lg', ∃ s', (B.J ys.length s' ⟨H4.t, H4.nx, lg'⟩ ∨ B.F s' ⟨H4.t, H4.nx, lg'⟩) ∧ ∀ k, B.fp s' k → B.fp s k ∨ H1.nx ≤ k := fun e he s3 H3 A3 hjf hf hfp hd =>
      ⟨_, H3, callEnd_nil he hd, hf, fun lg' => ⟨s3, hjf.imp (fun h => B.hJ (H := H3) h (Nat.le_refl _) fun _ _ => rfl) (fun h => B.hF (H := H3) h (Nat.le_refl _) fun _ _ => rfl), hfp⟩⟩
    have stop : ys.drop i = [] → i = ys.length := fun h => by
      have := congrArg List.length h
      rw [List.length_drop, List.length_nil] at this
      omega
    repeat' first | refine R1.ret ?_ | refine R1.exit ?_ | refine R1.skip ?_ | refine R1.s_ret ?_ | refine R1.s_exit ?_ | refine R1.s_assoc ?_ | refine R1.s_skip ?_ | refine R1.s_scope ?_ | ((first | refine R1.e_rg fun K hK => ?_ | refine R1.s_rg fun K hK => ?_ | refine R1.e_sq (by kernel_rfl) fun K hK => ?_ | refine R1.s_sq (by kernel_rfl) fun K hK => ?_); simp only [SG_nil, SG_cons, SU_yes, gw_n, gOf_n, List.map_cons, List.map_nil, vN_val, SK_bin, evTmp, slotOk, Nat.blt_eq, Nat.reduceLT, true_and, ii_lss, E2_P, t8, t9, hnt]; refine hK _ _ ?_; clear hK K)
    repeat refine R1.s_assoc ?_
    (first | refine R1.s_cnd fun Kx Ky hx hy => ?_ | refine R1.e_cnd fun Kx Ky hx hy => ?_); simp only [boolP'_b, decide_eq_true_eq, evTmp, slot_put, if_true]
    refine iteI (fun hc => hx ?_) (fun hc => hy ?_)
    · clear hx hy Kx Ky
      have hlt : i < us.length := by omega
      obtain ⟨id, g, off, cells, rfl, hid, hg, hat⟩ := hu2.open (by omega)
      have ex : us[i]? = some us[i] := List.getElem?_eq_getElem hlt
      have hdr : us.drop i = us[i] :: us.drop (i + 1) := List.drop_eq_getElem_cons hlt
      generalize us[i] = x at ex hdr
      have hx1 := hat i x ex
      rw [hdr, yv] at hdy
      repeat' first | refine R1.ret ?_ | refine R1.exit ?_ | refine R1.skip ?_ | refine R1.s_ret ?_ | refine R1.s_exit ?_ | refine R1.s_assoc ?_ | refine R1.s_skip ?_ | refine R1.s_scope ?_ | ((first | refine R1.e_rg fun K hK => ?_ | refine R1.s_rg fun K hK => ?_ | refine R1.e_sq (by kernel_rfl) fun K hK => ?_ | refine R1.s_sq (by kernel_rfl) fun K hK => ?_); simp only [SG_nil, SG_cons, SU_yes, SU_no, gw_n, gw_gwv, gwv_b, gwv_u, gOf_n, gOf_some, List.map_cons, List.map_nil, List.getElem?_cons_zero, List.getElem?_cons_succ, Option.elim_some, Option.map_some, Option.bind_some, optP_some, boolP_b, boolP'_b, boolE_b, decide_eq_true_eq, decide_true, decide_false, valP_val, valP_guard, vN_val, ldN_some, stN_some, faN_some, iaN_some, lnN_some, pkN_b, sliceO_some, slice_lo, slice_hi, slice_1, indexAddr_0, Nat.add_one_sub_one, Nat.one_mul, len_sl, len_ns, len_str', posS, eq0S, cast0, Int.reduceLT, Int.reduceLE, Int.reduceBEq, Option.map_none, Nat.lt_add_left_iff_pos, Nat.zero_lt_succ, Nat.le_add_left, SK_move, SK_assign, SK_pick, SK_alloc, SK_box, SK_load, SK_store, SK_bin, SK_not, SK_fieldAddr, SK_field, SK_indexAddr, SK_slice, SK_extract, SK_nilCheck, SK_makeFunc, SK_makeMap, SK_makeSlice, SK_build, SK_buildSlice, SK_len, SK_append, SK_call, doCall_clo, doCall_clo, evTmp, ev_int, ev_bool, ev_str, ev_nilS, ev_func, opFev, evs_cons, evs_nil, slot_put, putD_nt, putD_none, putD_dfr, slotOk, Nat.blt_eq, Nat.reduceLT, Nat.reduceEqDiff, Nat.reduceLeDiff, reduceIte, true_and, and_true, true_or, or_true, if_true, if_false, Bool.false_eq_true, Bool.true_eq_false, not_false_eq_true, not_true_eq_false, ltV_ptr, ltV_sl, ltV_nil, ltV_str, ltV_i, nxNew, nxMod, get_newE, get_newL, get_modE, get_modN, ltAdd, ltSelf, eqLt, eqGt, eqLtA, eqGtA, eqSelfA, eqASelf, eqAA, ltAA, doLoad_ptr, doStore_ptr, rowOf_arr, rowOf_ro, ldO_agg, ldO_one, stO_arr, splice_eq, fieldAddr_at, Bool.not_eq_true', Bool.not_eq_false', decide_eq_false_iff_not, ne_eq, Nat.reduceLeDiff, Nat.lt_irrefl, gt_iff_lt, cells_one, cells_agg, noTup_one, noTup_agg, List.length_cons, List.length_nil, Nat.zero_add, Nat.add_zero, Nat.reduceAdd, Nat.reduceSub, Nat.reduceMul, Nat.le_refl, Nat.zero_le, capsOf_nil, capsOf_cons, capArgs_nil, capArgs_cons, List.cons_append, List.nil_append, List.append_nil, ex_0, ex_0a, ex_1, ex_1a, ex_2, ex_2a, ii_lss, ii_leq, ii_gtr, ii_geq, ii_eql, ii_neq, ii_add, ii_sub, ii_mul, ss_lss, ss_geq, ss_leq, ss_gtr, ss_eql, ss_neq, List.take_succ_cons, List.take_zero, List.drop_succ_cons, List.drop_zero, List.take_nil, List.drop_nil, List.headD_cons, Bool.not_true, Bool.not_false, Nat.lt_add_one, bin_agg, bin_b, agg2_agg, bool2_b, aggEq_nil, aggEq_s, aggEq_i, aggEq_b, aggO_some, fill_nil, fill_cons, Nat.zero_mul, partsF_nil, partsF_cons, repl_one, SK_lookup, SK_mapUpdate, lkN_some, upN_some, ltV_mp, nilCheck_ptr, lookOut_f, lookOut_t, doCall_yl, ofValue_int, ofValue_bool, ev_nilP, ev_nilM, ev_nilF]; refine hK _ _ ?_; clear hK K)
      refine R1.s_block fun K2 q1 q2 q3 q4 => ?_
      repeat refine R1.s_assoc ?_
      repeat refine R1.s_assoc ?_
      refine R1.s_rg fun K hK => ?_
      simp only [SG_nil, SG_cons, SU_yes, gw_n, gOf_n, List.map_cons, List.map_nil, optP_some, vN_val, ldN_some, stN_some, iaN_some, SK_alloc, SK_load, SK_store, SK_indexAddr, evTmp, slot_put, putD_nt, putD_none, slotOk, Nat.blt_eq, Nat.reduceLT, true_and, if_true, if_false, ltV_ptr, nxNew, get_newE, eqLt, eqGt, doLoad_ptr, doStore_ptr, ldO_agg, stO_arr, cells_agg, noTup_agg, List.length_cons, List.length_nil, Nat.zero_add, Nat.reduceAdd, Nat.le_refl, List.nil_append, List.append_nil, List.take_zero, List.drop_succ_cons, List.drop_nil, Nat.lt_add_one, E2_P, t7, t9, hnt, el_units, ld_unit, sz_unit, zr_unit, indexAddr_cast hlt, hid, hg, hx1.all, hx1.le, prC]
      refine hK _ _ ?_
      clear hK K
      refine R1.gen (fun A3 H3 => Gr H2 H3 ∧ H2.nx < H3.nx ∧ H3.get H2.nx = some (.arr (prC x) 140 0 0) ∧ slot A3.tm 0 = .one (.o (.yl L)) ∧ slot A3.tm 3 = .one (.i .i64 val) ∧ slot A3.tm 5 = .one (.o (.ptr H2.nx 0 0 2)) ∧ slot A3.tm 7 = .one (.o (.sl id g off us.length 2)) ∧ slot A3.tm 8 = .one (.i .i64 (us.length : Int)) ∧ slot A3.tm 9 = .one (.i .i64 (i : Int)) ∧ A3.nt = 35 ∧ A3.dfr = [])
        ⟨((Fr.refl _).new _).mod _ (.inl (Nat.le_refl _)), ?_⟩ ?_
      · simp only [Nat.zero_lt_succ, slot_put, putD_nt, putD_dfr, Nat.reduceLT, and_true, if_true, if_false, nxNew, nxMod, get_modE, eqLt, eqGt, Nat.lt_add_one, t0, t3, t7, t8, t9, hnt, hdf, prC]
      clear t0 t3 t7 t8 t9 hnt hdf A
      rintro A H3 ⟨g3, n3, gx, t0, t3, t5, t7, t8, t9, hnt, hdf⟩
      have hj3 : B.J i s2 H3 := B.hJ hj2 g3.nx fun k hk => g3.get k hk not_false
      have hf3 : Fr (B.fp s) H1 H3 := hf2.gr g3
      have hw2 : IntKind.i64.wrap ((i : Int) + 1) = ((i + 1 : Nat) : Int) := by rw [wrapI (by omega) (by omega)]; omega
      repeat refine R1.s_assoc ?_
      by_cases hb1 : x.2 < 1
      · have c1 : (x.2 < 1) = True := eq_true hb1
        rw [if_pos (.inl hb1)] at hdy
        repeat refine R1.s_assoc ?_
        refine R1.s_rg fun K hK => ?_
        simp only [SG_nil, SG_cons, SU_yes, SU_no, gw_n, gw_gwv, gwv_b, gOf_n, gOf_some, List.map_cons, List.map_nil, List.getElem?_cons_zero, List.getElem?_cons_succ, Option.elim_some, decide_true, vN_val, ldN_some, faN_some, pkN_b, Nat.add_one_sub_one, SK_move, SK_pick, SK_load, SK_bin, SK_fieldAddr, evTmp, ev_int, ev_bool, slot_put, putD_nt, slotOk, Nat.blt_eq, Nat.reduceLT, true_and, if_true, if_false, Bool.true_eq_false, ltV_ptr, eqLt, eqGt, doLoad_ptr, rowOf_arr, ldO_one, fieldAddr_at, List.length_cons, List.length_nil, Nat.zero_add, Nat.reduceAdd, Nat.le_refl, ii_lss, List.drop_succ_cons, List.drop_zero, List.headD_cons, Nat.lt_add_one, E2_P, t5, hnt, gx, n3, fd_unit_1, ld_int, prC, c1]
        refine hK _ _ ?_
        clear hK K
        repeat refine R1.s_assoc ?_
        (first | refine R1.s_cnd fun Kx Ky hx hy => ?_ | refine R1.e_cnd fun Kx Ky hx hy => ?_); simp only [boolP'_b, evTmp, slot_put, Nat.reduceLT, if_true, if_false, eqGt, Nat.lt_add_one]
        refine hx ?_
        clear hx hy Kx Ky
        repeat' first | refine R1.ret ?_ | refine R1.exit ?_ | refine R1.skip ?_ | refine R1.s_ret ?_ | refine R1.s_exit ?_ | refine R1.s_assoc ?_ | refine R1.s_skip ?_ | refine R1.s_scope ?_ | ((first | refine R1.e_rg fun K hK => ?_ | refine R1.s_rg fun K hK => ?_ | refine R1.e_sq (by kernel_rfl) fun K hK => ?_ | refine R1.s_sq (by kernel_rfl) fun K hK => ?_); simp only [SG_nil, SG_cons, SU_yes, SU_no, gw_n, gw_gwv, gwv_b, gwv_u, gOf_n, gOf_some, List.map_cons, List.map_nil, List.getElem?_cons_zero, List.getElem?_cons_succ, Option.elim_some, Option.map_some, Option.bind_some, optP_some, boolP_b, boolP'_b, boolE_b, decide_eq_true_eq, decide_true, decide_false, valP_val, valP_guard, vN_val, ldN_some, stN_some, faN_some, iaN_some, lnN_some, pkN_b, sliceO_some, slice_lo, slice_hi, slice_1, indexAddr_0, Nat.add_one_sub_one, Nat.one_mul, len_sl, len_ns, len_str', posS, eq0S, cast0, Int.reduceLT, Int.reduceLE, Int.reduceBEq, Option.map_none, Nat.lt_add_left_iff_pos, Nat.zero_lt_succ, Nat.le_add_left, SK_move, SK_assign, SK_pick, SK_alloc, SK_box, SK_load, SK_store, SK_bin, SK_not, SK_fieldAddr, SK_field, SK_indexAddr, SK_slice, SK_extract, SK_nilCheck, SK_makeFunc, SK_makeMap, SK_makeSlice, SK_build, SK_buildSlice, SK_len, SK_append, SK_call, doCall_clo, doCall_clo, evTmp, ev_int, ev_bool, ev_str, ev_nilS, ev_func, opFev, evs_cons, evs_nil, slot_put, putD_nt, putD_none, putD_dfr, slotOk, Nat.blt_eq, Nat.reduceLT, Nat.reduceEqDiff, Nat.reduceLeDiff, reduceIte, true_and, and_true, true_or, or_true, if_true, if_false, Bool.false_eq_true, Bool.true_eq_false, not_false_eq_true, not_true_eq_false, ltV_ptr, ltV_sl, ltV_nil, ltV_str, ltV_i, nxNew, nxMod, get_newE, get_newL, get_modE, get_modN, ltAdd, ltSelf, eqLt, eqGt, eqLtA, eqGtA, eqSelfA, eqASelf, eqAA, ltAA, doLoad_ptr, doStore_ptr, rowOf_arr, rowOf_ro, ldO_agg, ldO_one, stO_arr, splice_eq, fieldAddr_at, Bool.not_eq_true', Bool.not_eq_false', decide_eq_false_iff_not, ne_eq, Nat.reduceLeDiff, Nat.lt_irrefl, gt_iff_lt, cells_one, cells_agg, noTup_one, noTup_agg, List.length_cons, List.length_nil, Nat.zero_add, Nat.add_zero, Nat.reduceAdd, Nat.reduceSub, Nat.reduceMul, Nat.le_refl, Nat.zero_le, capsOf_nil, capsOf_cons, capArgs_nil, capArgs_cons, List.cons_append, List.nil_append, List.append_nil, ex_0, ex_0a, ex_1, ex_1a, ex_2, ex_2a, ii_lss, ii_leq, ii_gtr, ii_geq, ii_eql, ii_neq, ii_add, ii_sub, ii_mul, ss_lss, ss_geq, ss_leq, ss_gtr, ss_eql, ss_neq, List.take_succ_cons, List.take_zero, List.drop_succ_cons, List.drop_zero, List.take_nil, List.drop_nil, List.headD_cons, Bool.not_true, Bool.not_false, Nat.lt_add_one, bin_agg, bin_b, agg2_agg, bool2_b, aggEq_nil, aggEq_s, aggEq_i, aggEq_b, aggO_some, fill_nil, fill_cons, Nat.zero_mul, partsF_nil, partsF_cons, repl_one, SK_lookup, SK_mapUpdate, lkN_some, upN_some, ltV_mp, nilCheck_ptr, lookOut_f, lookOut_t, doCall_yl, ofValue_int, ofValue_bool, ev_nilP, ev_nilM, ev_nilF, hnt]; refine hK _ _ ?_; clear hK K)
        refine q4 _ _ (k4 _ _ (fin .ret (.inr rfl) s2 H3 _ (.inl (jend _ _ _ (stop hdy) hj3)) hf3 hfp (by simp only [putD_dfr, hdf])))
      · have c1 : (x.2 < 1) = False := eq_false hb1
        by_cases hb2 : 60 < x.2
        · have c2 : (60 < x.2) = True := eq_true hb2
          rw [if_pos (.inr (.inl hb2))] at hdy
          repeat refine R1.s_assoc ?_
          refine R1.s_rg fun K hK => ?_
          simp only [SG_nil, SG_cons, SU_yes, gw_n, gw_gwv, gwv_b, gOf_n, gOf_some, List.map_cons, List.map_nil, List.getElem?_cons_zero, List.getElem?_cons_succ, Option.elim_some, decide_true, decide_false, vN_val, ldN_some, faN_some, pkN_b, Nat.add_one_sub_one, SK_move, SK_pick, SK_load, SK_bin, SK_fieldAddr, evTmp, ev_int, ev_bool, slot_put, putD_nt, slotOk, Nat.blt_eq, Nat.reduceLT, true_and, if_true, if_false, Bool.false_eq_true, ltV_ptr, eqLt, eqGt, doLoad_ptr, rowOf_arr, ldO_one, fieldAddr_at, List.length_cons, List.length_nil, Nat.zero_add, Nat.reduceAdd, Nat.le_refl, ii_lss, ii_gtr, List.drop_succ_cons, List.drop_zero, List.headD_cons, Nat.lt_add_one, E2_P, t5, hnt, gx, n3, fd_unit_1, ld_int, prC, c1, c2]
          refine hK _ _ ?_
          clear hK K
          repeat refine R1.s_assoc ?_
          (first | refine R1.s_cnd fun Kx Ky hx hy => ?_ | refine R1.e_cnd fun Kx Ky hx hy => ?_); simp only [boolP'_b, evTmp, slot_put, Nat.reduceLT, if_true, if_false, eqGt, Nat.lt_add_one]
          refine hx ?_
          clear hx hy Kx Ky
          repeat' first | refine R1.ret ?_ | refine R1.exit ?_ | refine R1.skip ?_ | refine R1.s_ret ?_ | refine R1.s_exit ?_ | refine R1.s_assoc ?_ | refine R1.s_skip ?_ | refine R1.s_scope ?_ | ((first | refine R1.e_rg fun K hK => ?_ | refine R1.s_rg fun K hK => ?_ | refine R1.e_sq (by kernel_rfl) fun K hK => ?_ | refine R1.s_sq (by kernel_rfl) fun K hK => ?_); simp only [SG_nil, SG_cons, SU_yes, SU_no, gw_n, gw_gwv, gwv_b, gwv_u, gOf_n, gOf_some, List.map_cons, List.map_nil, List.getElem?_cons_zero, List.getElem?_cons_succ, Option.elim_some, Option.map_some, Option.bind_some, optP_some, boolP_b, boolP'_b, boolE_b, decide_eq_true_eq, decide_true, decide_false, valP_val, valP_guard, vN_val, ldN_some, stN_some, faN_some, iaN_some, lnN_some, pkN_b, sliceO_some, slice_lo, slice_hi, slice_1, indexAddr_0, Nat.add_one_sub_one, Nat.one_mul, len_sl, len_ns, len_str', posS, eq0S, cast0, Int.reduceLT, Int.reduceLE, Int.reduceBEq, Option.map_none, Nat.lt_add_left_iff_pos, Nat.zero_lt_succ, Nat.le_add_left, SK_move, SK_assign, SK_pick, SK_alloc, SK_box, SK_load, SK_store, SK_bin, SK_not, SK_fieldAddr, SK_field, SK_indexAddr, SK_slice, SK_extract, SK_nilCheck, SK_makeFunc, SK_makeMap, SK_makeSlice, SK_build, SK_buildSlice, SK_len, SK_append, SK_call, doCall_clo, doCall_clo, evTmp, ev_int, ev_bool, ev_str, ev_nilS, ev_func, opFev, evs_cons, evs_nil, slot_put, putD_nt, putD_none, putD_dfr, slotOk, Nat.blt_eq, Nat.reduceLT, Nat.reduceEqDiff, Nat.reduceLeDiff, reduceIte, true_and, and_true, true_or, or_true, if_true, if_false, Bool.false_eq_true, Bool.true_eq_false, not_false_eq_true, not_true_eq_false, ltV_ptr, ltV_sl, ltV_nil, ltV_str, ltV_i, nxNew, nxMod, get_newE, get_newL, get_modE, get_modN, ltAdd, ltSelf, eqLt, eqGt, eqLtA, eqGtA, eqSelfA, eqASelf, eqAA, ltAA, doLoad_ptr, doStore_ptr, rowOf_arr, rowOf_ro, ldO_agg, ldO_one, stO_arr, splice_eq, fieldAddr_at, Bool.not_eq_true', Bool.not_eq_false', decide_eq_false_iff_not, ne_eq, Nat.reduceLeDiff, Nat.lt_irrefl, gt_iff_lt, cells_one, cells_agg, noTup_one, noTup_agg, List.length_cons, List.length_nil, Nat.zero_add, Nat.add_zero, Nat.reduceAdd, Nat.reduceSub, Nat.reduceMul, Nat.le_refl, Nat.zero_le, capsOf_nil, capsOf_cons, capArgs_nil, capArgs_cons, List.cons_append, List.nil_append, List.append_nil, ex_0, ex_0a, ex_1, ex_1a, ex_2, ex_2a, ii_lss, ii_leq, ii_gtr, ii_geq, ii_eql, ii_neq, ii_add, ii_sub, ii_mul, ss_lss, ss_geq, ss_leq, ss_gtr, ss_eql, ss_neq, List.take_succ_cons, List.take_zero, List.drop_succ_cons, List.drop_zero, List.take_nil, List.drop_nil, List.headD_cons, Bool.not_true, Bool.not_false, Nat.lt_add_one, bin_agg, bin_b, agg2_agg, bool2_b, aggEq_nil, aggEq_s, aggEq_i, aggEq_b, aggO_some, fill_nil, fill_cons, Nat.zero_mul, partsF_nil, partsF_cons, repl_one, SK_lookup, SK_mapUpdate, lkN_some, upN_some, ltV_mp, nilCheck_ptr, lookOut_f, lookOut_t, doCall_yl, ofValue_int, ofValue_bool, ev_nilP, ev_nilM, ev_nilF, hnt]; refine hK _ _ ?_; clear hK K)
          refine q4 _ _ (k4 _ _ (fin .ret (.inr rfl) s2 H3 _ (.inl (jend _ _ _ (stop hdy) hj3)) hf3 hfp (by simp only [putD_dfr, hdf])))
        · have c2 : (60 < x.2) = False := eq_false hb2
          have hmul1 : 1 ≤ val * x.2 := by
            have := Int.mul_le_mul hv1 (by omega : 1 ≤ x.2) (by omega) (by omega)
            omega
          have hmul2 : val * x.2 ≤ 1099511627776 * 60 := Int.mul_le_mul hv2 (by omega) (by omega) (by omega)
          have hwm : IntKind.i64.wrap (val * x.2) = val * x.2 := wrapI (by omega) (by omega)
          repeat refine R1.s_assoc ?_
          refine R1.s_rg fun K hK => ?_
          simp only [SG_nil, SG_cons, SU_yes, gw_n, gw_gwv, gwv_b, gOf_n, gOf_some, List.map_cons, List.map_nil, List.getElem?_cons_zero, List.getElem?_cons_succ, Option.elim_some, decide_false, vN_val, ldN_some, faN_some, pkN_b, Nat.add_one_sub_one, SK_move, SK_pick, SK_load, SK_bin, SK_fieldAddr, evTmp, ev_int, ev_bool, slot_put, putD_nt, slotOk, Nat.blt_eq, Nat.reduceLT, true_and, if_true, if_false, Bool.false_eq_true, ltV_ptr, eqLt, eqGt, doLoad_ptr, rowOf_arr, ldO_one, fieldAddr_at, List.length_cons, List.length_nil, Nat.zero_add, Nat.reduceAdd, Nat.le_refl, ii_lss, ii_gtr, List.drop_succ_cons, List.drop_zero, List.headD_cons, Nat.lt_add_one, E2_P, t5, hnt, gx, n3, fd_unit_1, ld_int, prC, c1, c2]
          refine hK _ _ ?_
          clear hK K
          repeat refine R1.s_assoc ?_
          (first | refine R1.s_cnd fun Kx Ky hx hy => ?_ | refine R1.e_cnd fun Kx Ky hx hy => ?_); simp only [boolP'_b, evTmp, slot_put, Nat.reduceLT, if_true, if_false, Bool.false_eq_true, eqGt, Nat.lt_add_one]
          refine hy ?_
          clear hx hy Kx Ky
          refine R1.s_skip ?_
          repeat refine R1.s_assoc ?_
          repeat refine R1.s_assoc ?_
          refine R1.s_rg fun K hK => ?_
          simp only [SG_nil, SG_cons, SU_yes, gw_n, gOf_n, List.map_cons, List.map_nil, vN_val, ldN_some, faN_some, Nat.add_one_sub_one, SK_move, SK_assign, SK_load, SK_bin, SK_fieldAddr, evTmp, slot_put, putD_nt, slotOk, Nat.blt_eq, Nat.reduceLT, true_and, if_true, if_false, ltV_ptr, eqLt, eqGt, doLoad_ptr, rowOf_arr, ldO_one, fieldAddr_at, List.length_cons, List.length_nil, Nat.zero_add, Nat.reduceAdd, Nat.le_refl, ii_mul, List.drop_succ_cons, List.drop_zero, List.headD_cons, Nat.lt_add_one, E2_P, t3, t5, hnt, gx, n3, fd_unit_1, ld_int, prC, hwm]
          refine hK _ _ ?_
          clear hK K
          repeat refine R1.s_assoc ?_
          by_cases hb3 : 1099511627776 < val * x.2
          · have c3 : (1099511627776 < val * x.2) = True := eq_true hb3
            rw [if_pos (.inr (.inr hb3))] at hdy
            repeat refine R1.s_assoc ?_
            refine R1.s_rg fun K hK => ?_
            simp only [SG_nil, SG_cons, SU_yes, SU_no, gw_n, gw_gwv, gwv_b, gOf_n, gOf_some, List.map_cons, List.map_nil, List.getElem?_cons_zero, List.getElem?_cons_succ, Option.elim_some, decide_true, vN_val, pkN_b, SK_move, SK_pick, SK_bin, evTmp, ev_int, ev_bool, slot_put, putD_nt, slotOk, Nat.blt_eq, Nat.reduceLT, true_and, if_true, if_false, Bool.true_eq_false, eqLt, eqGt, ii_gtr, Nat.lt_add_one, E2_P, hnt, c3]
            refine hK _ _ ?_
            clear hK K
            repeat refine R1.s_assoc ?_
            (first | refine R1.s_cnd fun Kx Ky hx hy => ?_ | refine R1.e_cnd fun Kx Ky hx hy => ?_); simp only [boolP'_b, evTmp, slot_put, Nat.reduceLT, if_true, if_false, eqGt, Nat.lt_add_one]
            refine hx ?_
            clear hx hy Kx Ky
            repeat' first | refine R1.ret ?_ | refine R1.exit ?_ | refine R1.skip ?_ | refine R1.s_ret ?_ | refine R1.s_exit ?_ | refine R1.s_assoc ?_ | refine R1.s_skip ?_ | refine R1.s_scope ?_ | ((first | refine R1.e_rg fun K hK => ?_ | refine R1.s_rg fun K hK => ?_ | refine R1.e_sq (by kernel_rfl) fun K hK => ?_ | refine R1.s_sq (by kernel_rfl) fun K hK => ?_); simp only [SG_nil, SG_cons, SU_yes, SU_no, gw_n, gw_gwv, gwv_b, gwv_u, gOf_n, gOf_some, List.map_cons, List.map_nil, List.getElem?_cons_zero, List.getElem?_cons_succ, Option.elim_some, Option.map_some, Option.bind_some, optP_some, boolP_b, boolP'_b, boolE_b, decide_eq_true_eq, decide_true, decide_false, valP_val, valP_guard, vN_val, ldN_some, stN_some, faN_some, iaN_some, lnN_some, pkN_b, sliceO_some, slice_lo, slice_hi, slice_1, indexAddr_0, Nat.add_one_sub_one, Nat.one_mul, len_sl, len_ns, len_str', posS, eq0S, cast0, Int.reduceLT, Int.reduceLE, Int.reduceBEq, Option.map_none, Nat.lt_add_left_iff_pos, Nat.zero_lt_succ, Nat.le_add_left, SK_move, SK_assign, SK_pick, SK_alloc, SK_box, SK_load, SK_store, SK_bin, SK_not, SK_fieldAddr, SK_field, SK_indexAddr, SK_slice, SK_extract, SK_nilCheck, SK_makeFunc, SK_makeMap, SK_makeSlice, SK_build, SK_buildSlice, SK_len, SK_append, SK_call, doCall_clo, doCall_clo, evTmp, ev_int, ev_bool, ev_str, ev_nilS, ev_func, opFev, evs_cons, evs_nil, slot_put, putD_nt, putD_none, putD_dfr, slotOk, Nat.blt_eq, Nat.reduceLT, Nat.reduceEqDiff, Nat.reduceLeDiff, reduceIte, true_and, and_true, true_or, or_true, if_true, if_false, Bool.false_eq_true, Bool.true_eq_false, not_false_eq_true, not_true_eq_false, ltV_ptr, ltV_sl, ltV_nil, ltV_str, ltV_i, nxNew, nxMod, get_newE, get_newL, get_modE, get_modN, ltAdd, ltSelf, eqLt, eqGt, eqLtA, eqGtA, eqSelfA, eqASelf, eqAA, ltAA, doLoad_ptr, doStore_ptr, rowOf_arr, rowOf_ro, ldO_agg, ldO_one, stO_arr, splice_eq, fieldAddr_at, Bool.not_eq_true', Bool.not_eq_false', decide_eq_false_iff_not, ne_eq, Nat.reduceLeDiff, Nat.lt_irrefl, gt_iff_lt, cells_one, cells_agg, noTup_one, noTup_agg, List.length_cons, List.length_nil, Nat.zero_add, Nat.add_zero, Nat.reduceAdd, Nat.reduceSub, Nat.reduceMul, Nat.le_refl, Nat.zero_le, capsOf_nil, capsOf_cons, capArgs_nil, capArgs_cons, List.cons_append, List.nil_append, List.append_nil, ex_0, ex_0a, ex_1, ex_1a, ex_2, ex_2a, ii_lss, ii_leq, ii_gtr, ii_geq, ii_eql, ii_neq, ii_add, ii_sub, ii_mul, ss_lss, ss_geq, ss_leq, ss_gtr, ss_eql, ss_neq, List.take_succ_cons, List.take_zero, List.drop_succ_cons, List.drop_zero, List.take_nil, List.drop_nil, List.headD_cons, Bool.not_true, Bool.not_false, Nat.lt_add_one, bin_agg, bin_b, agg2_agg, bool2_b, aggEq_nil, aggEq_s, aggEq_i, aggEq_b, aggO_some, fill_nil, fill_cons, Nat.zero_mul, partsF_nil, partsF_cons, repl_one, SK_lookup, SK_mapUpdate, lkN_some, upN_some, ltV_mp, nilCheck_ptr, lookOut_f, lookOut_t, doCall_yl, ofValue_int, ofValue_bool, ev_nilP, ev_nilM, ev_nilF, hnt]; refine hK _ _ ?_; clear hK K)
            refine q4 _ _ (k4 _ _ (fin .ret (.inr rfl) s2 H3 _ (.inl (jend _ _ _ (stop hdy) hj3)) hf3 hfp (by simp only [putD_dfr, hdf])))
          · have c3 : (1099511627776 < val * x.2) = False := eq_false hb3
            rw [if_neg (by omega)] at hdy
            have hiy2 : i < ys.length := by
              rcases Nat.lt_or_ge i ys.length with h | h
              · exact h
              · rw [List.drop_eq_nil_of_le h] at hdy; cases hdy
            have hey : ys[i]? = some (x, val * x.2) := by
              rw [List.drop_eq_getElem_cons hiy2] at hdy
              rw [List.getElem?_eq_getElem hiy2, (List.cons.inj hdy).1]
            have hdy2 : ys.drop (i + 1) = yv (val * x.2) (us.drop (i + 1)) := by
              rw [List.drop_eq_getElem_cons hiy2] at hdy
              exact (List.cons.inj hdy).2
            have hp := B.pass i s2 H3 hiy2 hj3
            rw [yA_at hey] at hp
            repeat refine R1.s_assoc ?_
            refine R1.s_rg fun K hK => ?_
            simp only [SG_cons, SU_yes, gw_n, gw_gwv, gwv_b, gOf_n, gOf_some, List.map_cons, List.map_nil, List.getElem?_cons_zero, List.getElem?_cons_succ, Option.elim_some, decide_false, vN_val, ldN_some, Nat.zero_lt_succ, SK_move, SK_load, SK_bin, SK_call, evTmp, ev_int, evs_cons, evs_nil, slot_put, putD_nt, slotOk, Nat.blt_eq, Nat.reduceLT, true_and, if_true, if_false, ltV_ptr, eqLt, eqGt, doLoad_ptr, rowOf_arr, ldO_agg, List.length_cons, List.length_nil, Nat.zero_add, Nat.reduceAdd, Nat.le_refl, ii_gtr, List.take_succ_cons, List.drop_zero, List.take_nil, Nat.lt_add_one, doCall_yl, E2_P, t0, t5, hnt, gx, n3, ld_unit, c3, prC]
            refine WE.conR hp fun v H4 hf4 ⟨b, s3, hv, hbt, hbf, hfp3⟩ => ?_
            subst hv
            have hf34 : Fr (B.fp s) H1 H4 := hf3.then hf4 fun k hk => (hfp k hk).symm
            have hfp4 : ∀ k, B.fp s3 k → B.fp s k ∨ H1.nx ≤ k := fun k hk => by
              rcases hfp3 k hk with h | h
              · exact hfp k h
              · exact .inr (Nat.le_trans hf3.nx h)
            cases b with
            | false =>
              simp only [SG_nil, SG_cons, SU_yes, gw_n, gw_gwv, gwv_b, boolE_b, vN_val, pkN_b, SK_pick, SK_not, evTmp, ev_bool, slot_put, putD_nt, slotOk, Nat.blt_eq, Nat.reduceLT, true_and, if_true, if_false, Bool.false_eq_true, eqLt, eqGt, Bool.not_false, Nat.lt_add_one, E2_P, hnt]
              refine hK _ _ ?_
              clear hK K
              repeat refine R1.s_assoc ?_
              (first | refine R1.s_cnd fun Kx Ky hx hy => ?_ | refine R1.e_cnd fun Kx Ky hx hy => ?_); simp only [boolP'_b, evTmp, slot_put, Nat.reduceLT, if_true, if_false, eqGt, Nat.lt_add_one]
              refine hx ?_
              clear hx hy Kx Ky
              repeat' first | refine R1.ret ?_ | refine R1.exit ?_ | refine R1.skip ?_ | refine R1.s_ret ?_ | refine R1.s_exit ?_ | refine R1.s_assoc ?_ | refine R1.s_skip ?_ | refine R1.s_scope ?_ | ((first | refine R1.e_rg fun K hK => ?_ | refine R1.s_rg fun K hK => ?_ | refine R1.e_sq (by kernel_rfl) fun K hK => ?_ | refine R1.s_sq (by kernel_rfl) fun K hK => ?_); simp only [SG_nil, SG_cons, SU_yes, SU_no, gw_n, gw_gwv, gwv_b, gwv_u, gOf_n, gOf_some, List.map_cons, List.map_nil, List.getElem?_cons_zero, List.getElem?_cons_succ, Option.elim_some, Option.map_some, Option.bind_some, optP_some, boolP_b, boolP'_b, boolE_b, decide_eq_true_eq, decide_true, decide_false, valP_val, valP_guard, vN_val, ldN_some, stN_some, faN_some, iaN_some, lnN_some, pkN_b, sliceO_some, slice_lo, slice_hi, slice_1, indexAddr_0, Nat.add_one_sub_one, Nat.one_mul, len_sl, len_ns, len_str', posS, eq0S, cast0, Int.reduceLT, Int.reduceLE, Int.reduceBEq, Option.map_none, Nat.lt_add_left_iff_pos, Nat.zero_lt_succ, Nat.le_add_left, SK_move, SK_assign, SK_pick, SK_alloc, SK_box, SK_load, SK_store, SK_bin, SK_not, SK_fieldAddr, SK_field, SK_indexAddr, SK_slice, SK_extract, SK_nilCheck, SK_makeFunc, SK_makeMap, SK_makeSlice, SK_build, SK_buildSlice, SK_len, SK_append, SK_call, doCall_clo, doCall_clo, evTmp, ev_int, ev_bool, ev_str, ev_nilS, ev_func, opFev, evs_cons, evs_nil, slot_put, putD_nt, putD_none, putD_dfr, slotOk, Nat.blt_eq, Nat.reduceLT, Nat.reduceEqDiff, Nat.reduceLeDiff, reduceIte, true_and, and_true, true_or, or_true, if_true, if_false, Bool.false_eq_true, Bool.true_eq_false, not_false_eq_true, not_true_eq_false, ltV_ptr, ltV_sl, ltV_nil, ltV_str, ltV_i, nxNew, nxMod, get_newE, get_newL, get_modE, get_modN, ltAdd, ltSelf, eqLt, eqGt, eqLtA, eqGtA, eqSelfA, eqASelf, eqAA, ltAA, doLoad_ptr, doStore_ptr, rowOf_arr, rowOf_ro, ldO_agg, ldO_one, stO_arr, splice_eq, fieldAddr_at, Bool.not_eq_true', Bool.not_eq_false', decide_eq_false_iff_not, ne_eq, Nat.reduceLeDiff, Nat.lt_irrefl, gt_iff_lt, cells_one, cells_agg, noTup_one, noTup_agg, List.length_cons, List.length_nil, Nat.zero_add, Nat.add_zero, Nat.reduceAdd, Nat.reduceSub, Nat.reduceMul, Nat.le_refl, Nat.zero_le, capsOf_nil, capsOf_cons, capArgs_nil, capArgs_cons, List.cons_append, List.nil_append, List.append_nil, ex_0, ex_0a, ex_1, ex_1a, ex_2, ex_2a, ii_lss, ii_leq, ii_gtr, ii_geq, ii_eql, ii_neq, ii_add, ii_sub, ii_mul, ss_lss, ss_geq, ss_leq, ss_gtr, ss_eql, ss_neq, List.take_succ_cons, List.take_zero, List.drop_succ_cons, List.drop_zero, List.take_nil, List.drop_nil, List.headD_cons, Bool.not_true, Bool.not_false, Nat.lt_add_one, bin_agg, bin_b, agg2_agg, bool2_b, aggEq_nil, aggEq_s, aggEq_i, aggEq_b, aggO_some, fill_nil, fill_cons, Nat.zero_mul, partsF_nil, partsF_cons, repl_one, SK_lookup, SK_mapUpdate, lkN_some, upN_some, ltV_mp, nilCheck_ptr, lookOut_f, lookOut_t, doCall_yl, ofValue_int, ofValue_bool, ev_nilP, ev_nilM, ev_nilF, hnt]; refine hK _ _ ?_; clear hK K)
              refine q4 _ _ (k4 _ _ (fin .ret (.inr rfl) s3 H4 _ (.inr (hbf rfl)) hf34 hfp4 (by simp only [putD_dfr, hdf])))
            | true =>
              simp only [SG_nil, SG_cons, SU_yes, gw_n, gw_gwv, gwv_b, boolE_b, vN_val, pkN_b, SK_pick, SK_not, evTmp, ev_bool, slot_put, putD_nt, slotOk, Nat.blt_eq, Nat.reduceLT, true_and, if_true, if_false, Bool.false_eq_true, eqLt, eqGt, Bool.not_true, Nat.lt_add_one, E2_P, hnt]
              refine hK _ _ ?_
              clear hK K
              repeat refine R1.s_assoc ?_
              (first | refine R1.s_cnd fun Kx Ky hx hy => ?_ | refine R1.e_cnd fun Kx Ky hx hy => ?_); simp only [boolP'_b, evTmp, slot_put, Nat.reduceLT, if_true, if_false, Bool.false_eq_true, eqGt, Nat.lt_add_one]
              refine hy ?_
              clear hx hy Kx Ky
              repeat' first | refine R1.ret ?_ | refine R1.exit ?_ | refine R1.skip ?_ | refine R1.s_ret ?_ | refine R1.s_exit ?_ | refine R1.s_assoc ?_ | refine R1.s_skip ?_ | refine R1.s_scope ?_ | ((first | refine R1.e_rg fun K hK => ?_ | refine R1.s_rg fun K hK => ?_ | refine R1.e_sq (by kernel_rfl) fun K hK => ?_ | refine R1.s_sq (by kernel_rfl) fun K hK => ?_); simp only [SG_nil, SG_cons, SU_yes, SU_no, gw_n, gw_gwv, gwv_b, gwv_u, gOf_n, gOf_some, List.map_cons, List.map_nil, List.getElem?_cons_zero, List.getElem?_cons_succ, Option.elim_some, Option.map_some, Option.bind_some, optP_some, boolP_b, boolP'_b, boolE_b, decide_eq_true_eq, decide_true, decide_false, valP_val, valP_guard, vN_val, ldN_some, stN_some, faN_some, iaN_some, lnN_some, pkN_b, sliceO_some, slice_lo, slice_hi, slice_1, indexAddr_0, Nat.add_one_sub_one, Nat.one_mul, len_sl, len_ns, len_str', posS, eq0S, cast0, Int.reduceLT, Int.reduceLE, Int.reduceBEq, Option.map_none, Nat.lt_add_left_iff_pos, Nat.zero_lt_succ, Nat.le_add_left, SK_move, SK_assign, SK_pick, SK_alloc, SK_box, SK_load, SK_store, SK_bin, SK_not, SK_fieldAddr, SK_field, SK_indexAddr, SK_slice, SK_extract, SK_nilCheck, SK_makeFunc, SK_makeMap, SK_makeSlice, SK_build, SK_buildSlice, SK_len, SK_append, SK_call, doCall_clo, doCall_clo, evTmp, ev_int, ev_bool, ev_str, ev_nilS, ev_func, opFev, evs_cons, evs_nil, slot_put, putD_nt, putD_none, putD_dfr, slotOk, Nat.blt_eq, Nat.reduceLT, Nat.reduceEqDiff, Nat.reduceLeDiff, reduceIte, true_and, and_true, true_or, or_true, if_true, if_false, Bool.false_eq_true, Bool.true_eq_false, not_false_eq_true, not_true_eq_false, ltV_ptr, ltV_sl, ltV_nil, ltV_str, ltV_i, nxNew, nxMod, get_newE, get_newL, get_modE, get_modN, ltAdd, ltSelf, eqLt, eqGt, eqLtA, eqGtA, eqSelfA, eqASelf, eqAA, ltAA, doLoad_ptr, doStore_ptr, rowOf_arr, rowOf_ro, ldO_agg, ldO_one, stO_arr, splice_eq, fieldAddr_at, Bool.not_eq_true', Bool.not_eq_false', decide_eq_false_iff_not, ne_eq, Nat.reduceLeDiff, Nat.lt_irrefl, gt_iff_lt, cells_one, cells_agg, noTup_one, noTup_agg, List.length_cons, List.length_nil, Nat.zero_add, Nat.add_zero, Nat.reduceAdd, Nat.reduceSub, Nat.reduceMul, Nat.le_refl, Nat.zero_le, capsOf_nil, capsOf_cons, capArgs_nil, capArgs_cons, List.cons_append, List.nil_append, List.append_nil, ex_0, ex_0a, ex_1, ex_1a, ex_2, ex_2a, ii_lss, ii_leq, ii_gtr, ii_geq, ii_eql, ii_neq, ii_add, ii_sub, ii_mul, ss_lss, ss_geq, ss_leq, ss_gtr, ss_eql, ss_neq, List.take_succ_cons, List.take_zero, List.drop_succ_cons, List.drop_zero, List.take_nil, List.drop_nil, List.headD_cons, Bool.not_true, Bool.not_false, Nat.lt_add_one, bin_agg, bin_b, agg2_agg, bool2_b, aggEq_nil, aggEq_s, aggEq_i, aggEq_b, aggO_some, fill_nil, fill_cons, Nat.zero_mul, partsF_nil, partsF_cons, repl_one, SK_lookup, SK_mapUpdate, lkN_some, upN_some, ltV_mp, nilCheck_ptr, lookOut_f, lookOut_t, doCall_yl, ofValue_int, ofValue_bool, ev_nilP, ev_nilM, ev_nilF, hnt]; refine hK _ _ ?_; clear hK K)
              refine q1 _ _ ?_
              repeat' first | refine R1.ret ?_ | refine R1.exit ?_ | refine R1.skip ?_ | refine R1.s_ret ?_ | refine R1.s_exit ?_ | refine R1.s_assoc ?_ | refine R1.s_skip ?_ | refine R1.s_scope ?_ | ((first | refine R1.e_rg fun K hK => ?_ | refine R1.s_rg fun K hK => ?_ | refine R1.e_sq (by kernel_rfl) fun K hK => ?_ | refine R1.s_sq (by kernel_rfl) fun K hK => ?_); simp only [SG_nil, SG_cons, SU_yes, gw_n, gOf_n, List.map_cons, List.map_nil, vN_val, SK_move, SK_bin, evTmp, ev_int, slot_put, putD_nt, slotOk, Nat.blt_eq, Nat.reduceLT, true_and, if_true, if_false, eqLt, eqGt, ii_add, Nat.lt_add_one, hnt, t9, hw2]; refine hK _ _ ?_; clear hK K)
              refine ⟨us.length - (i + 1), by omega, i + 1, s3, val * x.2, rfl, hlt, hiy2, hdy2, hmul1, by omega, hbt rfl, hf34, hfp4, ?_, ?_, ?_, ?_, ?_, ?_, ?_⟩
              · simp only [slot_put, Nat.reduceEqDiff, reduceIte, t0]
              · simp only [slot_put, Nat.reduceEqDiff, reduceIte]
              · simp only [slot_put, Nat.reduceEqDiff, reduceIte, t7]
              · simp only [slot_put, Nat.reduceEqDiff, reduceIte, t8]
              · simp only [slot_put, Nat.reduceEqDiff, reduceIte]
              · simp only [putD_nt, hnt]
              · simp only [putD_dfr, hdf]
    · clear hx hy Kx Ky
      have hie : i = us.length := by omega
      rw [hie, List.drop_length, yv] at hdy
      repeat' first | refine R1.ret ?_ | refine R1.exit ?_ | refine R1.skip ?_ | refine R1.s_ret ?_ | refine R1.s_exit ?_ | refine R1.s_assoc ?_ | refine R1.s_skip ?_ | refine R1.s_scope ?_ | ((first | refine R1.e_rg fun K hK => ?_ | refine R1.s_rg fun K hK => ?_ | refine R1.e_sq (by kernel_rfl) fun K hK => ?_ | refine R1.s_sq (by kernel_rfl) fun K hK => ?_); simp only [SG_nil, SG_cons, SU_yes, SU_no, gw_n, gw_gwv, gwv_b, gwv_u, gOf_n, gOf_some, List.map_cons, List.map_nil, List.getElem?_cons_zero, List.getElem?_cons_succ, Option.elim_some, Option.map_some, Option.bind_some, optP_some, boolP_b, boolP'_b, boolE_b, decide_eq_true_eq, decide_true, decide_false, valP_val, valP_guard, vN_val, ldN_some, stN_some, faN_some, iaN_some, lnN_some, pkN_b, sliceO_some, slice_lo, slice_hi, slice_1, indexAddr_0, Nat.add_one_sub_one, Nat.one_mul, len_sl, len_ns, len_str', posS, eq0S, cast0, Int.reduceLT, Int.reduceLE, Int.reduceBEq, Option.map_none, Nat.lt_add_left_iff_pos, Nat.zero_lt_succ, Nat.le_add_left, SK_move, SK_assign, SK_pick, SK_alloc, SK_box, SK_load, SK_store, SK_bin, SK_not, SK_fieldAddr, SK_field, SK_indexAddr, SK_slice, SK_extract, SK_nilCheck, SK_makeFunc, SK_makeMap, SK_makeSlice, SK_build, SK_buildSlice, SK_len, SK_append, SK_call, doCall_clo, doCall_clo, evTmp, ev_int, ev_bool, ev_str, ev_nilS, ev_func, opFev, evs_cons, evs_nil, slot_put, putD_nt, putD_none, putD_dfr, slotOk, Nat.blt_eq, Nat.reduceLT, Nat.reduceEqDiff, Nat.reduceLeDiff, reduceIte, true_and, and_true, true_or, or_true, if_true, if_false, Bool.false_eq_true, Bool.true_eq_false, not_false_eq_true, not_true_eq_false, ltV_ptr, ltV_sl, ltV_nil, ltV_str, ltV_i, nxNew, nxMod, get_newE, get_newL, get_modE, get_modN, ltAdd, ltSelf, eqLt, eqGt, eqLtA, eqGtA, eqSelfA, eqASelf, eqAA, ltAA, doLoad_ptr, doStore_ptr, rowOf_arr, rowOf_ro, ldO_agg, ldO_one, stO_arr, splice_eq, fieldAddr_at, Bool.not_eq_true', Bool.not_eq_false', decide_eq_false_iff_not, ne_eq, Nat.reduceLeDiff, Nat.lt_irrefl, gt_iff_lt, cells_one, cells_agg, noTup_one, noTup_agg, List.length_cons, List.length_nil, Nat.zero_add, Nat.add_zero, Nat.reduceAdd, Nat.reduceSub, Nat.reduceMul, Nat.le_refl, Nat.zero_le, capsOf_nil, capsOf_cons, capArgs_nil, capArgs_cons, List.cons_append, List.nil_append, List.append_nil, ex_0, ex_0a, ex_1, ex_1a, ex_2, ex_2a, ii_lss, ii_leq, ii_gtr, ii_geq, ii_eql, ii_neq, ii_add, ii_sub, ii_mul, ss_lss, ss_geq, ss_leq, ss_gtr, ss_eql, ss_neq, List.take_succ_cons, List.take_zero, List.drop_succ_cons, List.drop_zero, List.take_nil, List.drop_nil, List.headD_cons, Bool.not_true, Bool.not_false, Nat.lt_add_one, bin_agg, bin_b, agg2_agg, bool2_b, aggEq_nil, aggEq_s, aggEq_i, aggEq_b, aggO_some, fill_nil, fill_cons, Nat.zero_mul, partsF_nil, partsF_cons, repl_one, SK_lookup, SK_mapUpdate, lkN_some, upN_some, ltV_mp, nilCheck_ptr, lookOut_f, lookOut_t, doCall_yl, ofValue_int, ofValue_bool, ev_nilP, ev_nilM, ev_nilF, hnt]; refine hK _ _ ?_; clear hK K)
      refine k2 _ _ ?_
      refine fin .normal (.inl rfl) s2 H2 _ (.inl (jend _ _ _ (stop (by rw [hie]; exact hdy)) hj2)) hf2 hfp (by simp only [putD_dfr, hdf])
  all_goals simp only [slot_put, Nat.reduceEqDiff, reduceIte, h0, putD_nt, putD_dfr, and_self, true_and]
  all_goals first | rfl | exact ⟨rfl, trivial⟩

set_option maxRecDepth 10000 in
theorem units_con (H : Hp) (n u : AC) (hu : ltV (.one u) H.nx) :
    Con E2 96 [.agg [n, u]] H (fun _ => False) fun r H' => r = .one (.o (.clo 133 [(H.nx, 0, 0, 2)])) ∧ H'.get H.nx = some (.arr [n, u] 78 0 0) ∧ H.nx < H'.nx := by
  refine Con.of rfl fun lg => ?_
  have e0 : H.nx = (⟨H.t, H.nx, lg⟩ : Hp).nx := rfl
  rw [e0]
  clear e0
  generalize (⟨H.t, H.nx, lg⟩ : Hp) = H at hu ⊢
  refine C1.body (E := E2) (nt := 4) (res := [.tmp 2]) Tryz.func96 rfl rfl rfl rfl rfl fun tm hargs => ?_
  have h0 := hargs 0 _ rfl
  clear hargs
  repeat' first | refine R1.ret ?_ | refine R1.exit ?_ | refine R1.skip ?_ | refine R1.s_ret ?_ | refine R1.s_exit ?_ | refine R1.s_assoc ?_ | refine R1.s_skip ?_ | refine R1.s_scope ?_ | ((first | refine R1.e_rg fun K hK => ?_ | refine R1.s_rg fun K hK => ?_ | refine R1.e_sq (by kernel_rfl) fun K hK => ?_ | refine R1.s_sq (by kernel_rfl) fun K hK => ?_); simp only [SG_nil, SG_cons, SU_yes, gw_n, gOf_n, List.map_cons, List.map_nil, Option.map_some, optP_some, SK_assign, SK_box, SK_makeFunc, evTmp, evs_cons, evs_nil, slot_put, putD_nt, slotOk, Nat.blt_eq, Nat.reduceLT, true_and, if_true, if_false, eqLt, eqGt, cells_agg, noTup_agg, List.length_cons, List.length_nil, Nat.zero_add, Nat.reduceAdd, capsOf_nil, capsOf_cons, Nat.lt_add_one, ev_nilF, h0]; refine hK _ _ ?_; clear hK K)
  refine ⟨_, _, callEnd_one (.o (.clo 133 [(H.nx, 0, 0, 2)])) (.inr rfl) rfl (by simp only [slot_put, Nat.reduceEqDiff, reduceIte]), (Fr.refl _).new _, fun _ => ⟨rfl, ?_, ?_⟩⟩
  · exact get_newE (H := H) (o := .arr [n, u] 78 0 0) rfl
  · exact Nat.lt_succ_self _
end Go.Proofs.YtiejeicaaojdlaaGreat
