/- NewBook without bridges: what it answers. -/
import Derived.Test.YtiejeicaaojdlaaGreatBkBook
namespace Go.Proofs.YtiejeicaaojdlaaGreat
open Go Go.Eng

theorem chkLad_len {n : List UInt8} {us : List Pr} (h : chkLad n us = 0) : us.length ≤ 12 := by
  unfold chkLad at h
  by_cases hl : ladOK n us = true
  · unfold ladOK at hl
    simp only [Bool.and_eq_true, decide_eq_true_eq] at hl
    omega
  · rw [if_neg hl] at h; cases h
theorem upd_pl {H : Hp} {m : Nat} {ls : List Lad} {x : Lad} (hg : H.get m = some (mapO (plN 0 ls))) (hn : (idxN 0 ls x.1).isSome = false) :
    doMapUpdate Tryz.prog H 9 (.one (.o (.mp m))) (.one (.o (.str x.1))) (.one (.i .i64 (ls.length : Int))) = .val undefA (H.mod m (mapO (plN 0 (ls ++ [x])))) := by
  rw [plN_app, Nat.zero_add]
  refine update_str kk_mSI hg ?_
  rw [atK_pl]
  cases h : idxN 0 ls x.1 with
  | none => rfl
  | some i => rw [h] at hn; cases hn

set_option maxRecDepth 10000 in
set_option maxHeartbeats 8000000 in
theorem newBook_con (H : Hp) (v : AC) (ls : List Lad) (hl : SlLad H v ls) :
    Con E2 29 [.one v, .one (.o .nilS)] H (fun _ => False) fun r H' => ∃ p, r = .tup [(false, [p]), (false, [.i .i64 (newE ls)])] ∧ (newE ls = 0 → BookR H' p ls) ∧ (newE ls ≠ 0 → p = .o .nilP) := by
  refine Con.of rfl fun lg => ?_
  have hl : SlLad ⟨H.t, H.nx, lg⟩ v ls := hl
  generalize (⟨H.t, H.nx, lg⟩ : Hp) = H at hl ⊢
  refine C1.body (E := E2) (nt := 102) (res := [.tmp 4, .tmp 5]) Tryz.func29 rfl rfl rfl rfl rfl fun tm hargs => ?_
  have h0 := hargs 0 _ rfl
  have h1 := hargs 1 _ rfl
  clear hargs
  have lnB : lenT Tryz.prog 121 = some 1 := by kernel_rfl
  by_cases h32 : (32 : Int) < ls.length
  · have c32 : ((32 : Int) < ls.length) = True := eq_true h32
    repeat' first | refine R1.ret ?_ | refine R1.exit ?_ | refine R1.skip ?_ | refine R1.s_ret ?_ | refine R1.s_exit ?_ | refine R1.s_assoc ?_ | refine R1.s_skip ?_ | refine R1.s_scope ?_ | ((first | refine R1.e_rg fun K hK => ?_ | refine R1.s_rg fun K hK => ?_ | refine R1.e_sq (by kernel_rfl) fun K hK => ?_ | refine R1.s_sq (by kernel_rfl) fun K hK => ?_); simp only [SG_nil, SG_cons, SU_yes, gw_n, gOf_n, gOf_some, List.map_cons, List.map_nil, List.getElem?_cons_zero, List.getElem?_cons_succ, Option.elim_some, Nat.zero_lt_succ, SK_move, SK_assign, SK_len, evTmp, ev_int, slot_put, putD_nt, slotOk, Nat.blt_eq, Nat.reduceLT, true_and, if_true, if_false, eqLt, eqGt, ev_nilP, E2_P]; refine hK _ _ ?_; clear hK K)
    repeat refine R1.s_assoc ?_
    repeat refine R1.s_assoc ?_
    refine R1.s_rg fun K hK => ?_
    simp only [SG_nil, SG_cons, SU_yes, SU_no, gw_n, gw_gwv, gwv_b, gOf_n, gOf_some, List.map_cons, List.map_nil, List.getElem?_cons_zero, List.getElem?_cons_succ, Option.elim_some, decide_true, vN_val, lnN_some, pkN_b, Nat.zero_lt_succ, SK_move, SK_pick, SK_bin, SK_len, evTmp, ev_int, ev_bool, slot_put, putD_nt, slotOk, Nat.blt_eq, Nat.reduceLT, true_and, if_true, if_false, Bool.true_eq_false, eqLt, eqGt, ii_gtr, Nat.lt_add_one, E2_P, h0, ln_lads, hl.len, hl.lt, c32]
    refine hK _ _ ?_
    clear hK K
    repeat refine R1.s_assoc ?_
    (first | refine R1.s_cnd fun Kx Ky hx hy => ?_ | refine R1.e_cnd fun Kx Ky hx hy => ?_); simp only [boolP'_b, evTmp, slot_put, Nat.reduceLT, if_true, if_false, eqGt, Nat.lt_add_one]
    refine hx ?_
    clear hx hy Kx Ky
    repeat' first | refine R1.ret ?_ | refine R1.exit ?_ | refine R1.skip ?_ | refine R1.s_ret ?_ | refine R1.s_exit ?_ | refine R1.s_assoc ?_ | refine R1.s_skip ?_ | refine R1.s_scope ?_ | ((first | refine R1.e_rg fun K hK => ?_ | refine R1.s_rg fun K hK => ?_ | refine R1.e_sq (by kernel_rfl) fun K hK => ?_ | refine R1.s_sq (by kernel_rfl) fun K hK => ?_); simp only [SG_nil, SG_cons, SU_yes, gw_n, gOf_n, List.map_cons, List.map_nil, SK_assign, ev_int, putD_nt, slotOk, Nat.blt_eq, Nat.reduceLT, true_and, ev_nilP]; refine hK _ _ ?_; clear hK K)
    refine ⟨_, _, callEnd_two (.o .nilP) (.i .i64 3) (.inr rfl) rfl (by simp only [slot_put, Nat.reduceEqDiff, reduceIte]) (by simp only [slot_put, Nat.reduceEqDiff, reduceIte]), Fr.refl _, fun _ => ?_⟩
    have : newE ls = 3 := if_pos h32
    rw [this]
    exact ⟨_, rfl, fun h => (by cases h), fun _ => rfl⟩
  · have c32 : ((32 : Int) < ls.length) = False := eq_false h32
    repeat' first | refine R1.ret ?_ | refine R1.exit ?_ | refine R1.skip ?_ | refine R1.s_ret ?_ | refine R1.s_exit ?_ | refine R1.s_assoc ?_ | refine R1.s_skip ?_ | refine R1.s_scope ?_ | ((first | refine R1.e_rg fun K hK => ?_ | refine R1.s_rg fun K hK => ?_ | refine R1.e_sq (by kernel_rfl) fun K hK => ?_ | refine R1.s_sq (by kernel_rfl) fun K hK => ?_); simp only [SG_nil, SG_cons, SU_yes, gw_n, gOf_n, gOf_some, List.map_cons, List.map_nil, List.getElem?_cons_zero, List.getElem?_cons_succ, Option.elim_some, Nat.zero_lt_succ, SK_move, SK_assign, SK_len, evTmp, ev_int, slot_put, putD_nt, slotOk, Nat.blt_eq, Nat.reduceLT, true_and, if_true, if_false, eqLt, eqGt, ev_nilP, E2_P]; refine hK _ _ ?_; clear hK K)
    repeat refine R1.s_assoc ?_
    repeat refine R1.s_assoc ?_
    refine R1.s_rg fun K hK => ?_
    simp only [SG_nil, SG_cons, SU_yes, gw_n, gw_gwv, gwv_b, gOf_n, gOf_some, List.map_cons, List.map_nil, List.getElem?_cons_zero, List.getElem?_cons_succ, Option.elim_some, decide_false, vN_val, lnN_some, pkN_b, len_ns, Int.reduceLT, Nat.zero_lt_succ, SK_move, SK_pick, SK_bin, SK_len, evTmp, ev_int, ev_bool, slot_put, putD_nt, slotOk, Nat.blt_eq, Nat.reduceLT, true_and, if_true, if_false, Bool.false_eq_true, ltV_nil, eqLt, eqGt, ii_gtr, Nat.lt_add_one, E2_P, h0, h1, ln_lads, hl.len, hl.lt, c32, lnB]
    refine hK _ _ ?_
    clear hK K
    repeat refine R1.s_assoc ?_
    (first | refine R1.s_cnd fun Kx Ky hx hy => ?_ | refine R1.e_cnd fun Kx Ky hx hy => ?_); simp only [boolP'_b, evTmp, slot_put, Nat.reduceLT, if_true, if_false, Bool.false_eq_true, eqGt, Nat.lt_add_one]
    refine hy ?_
    clear hx hy Kx Ky
    refine R1.s_skip ?_
    repeat refine R1.s_assoc ?_
    repeat refine R1.s_assoc ?_
    refine R1.s_rg fun K hK => ?_
    simp only [SG_nil, SG_cons, SU_yes, gw_n, gOf_n, List.map_cons, List.map_nil, Option.map_some, Option.bind_some, optP_some, SK_assign, SK_box, SK_makeMap, SK_build, evTmp, opFev, slot_put, putD_nt, slotOk, Nat.blt_eq, Nat.reduceLT, Nat.reduceLeDiff, true_and, if_true, if_false, nxNew, eqGt, Nat.reduceLeDiff, cells_one, cells_agg, noTup_one, noTup_agg, List.length_cons, List.length_nil, Nat.zero_add, Nat.reduceAdd, List.cons_append, List.nil_append, List.take_succ_cons, List.take_zero, List.drop_succ_cons, List.drop_zero, Nat.lt_add_one, fill_nil, fill_cons, partsF_nil, partsF_cons, E2_P, zr_book, pt_book, pl_book_1]
    refine hK _ _ ?_
    clear hK K
    refine R1.gen (fun A1 H1 => Gr H H1 ∧ NB H.nx (H.nx + 1) H.nx [] [] 0 0 H1 (.o .nilS) (.o .nilS) (.o .nilS) none none none ∧ slot A1.tm 0 = .one v ∧ slot A1.tm 1 = .one (.o .nilS) ∧ slot A1.tm 6 = .one (.o (.ptr (H.nx + 1) 0 0 4)) ∧ A1.nt = 102 ∧ A1.dfr = [])
      ⟨((Fr.refl _).new _).new _, ⟨get_newE rfl, (get_newL (by rw [nxNew]; omega)).trans (get_newE rfl), ⟨[], .inl ⟨rfl, rfl, rfl, rfl⟩, trivial⟩, ⟨[], .inl ⟨rfl, rfl, rfl, rfl⟩⟩, ⟨[], .inl ⟨rfl, rfl, rfl, rfl⟩⟩, ⟨Nat.le_succ _, Nat.lt_succ_self _⟩, ⟨Nat.le_refl _, Nat.lt_succ_of_lt (Nat.lt_succ_self _)⟩, by omega, fun q h => (by cases h), fun q h => (by cases h), fun q h => (by cases h)⟩, ?_⟩ ?_
    · simp only [Nat.zero_lt_succ, slot_put, putD_nt, putD_dfr, Nat.reduceLT, and_true, if_true, if_false, eqLt, eqGt, Nat.lt_add_one, h0, h1]
    clear h0 h1 tm
    rintro A1 H1 ⟨g1, nb, t0, t1, t6, hnt, hdf⟩
    obtain ⟨kb, hkb⟩ : ∃ k, k = H.nx + 1 := ⟨_, rfl⟩
    obtain ⟨m, hm⟩ : ∃ k, k = H.nx := ⟨_, rfl⟩
    rw [← hkb] at nb t6
    have nb : NB H.nx kb m [] [] 0 0 H1 (.o .nilS) (.o .nilS) (.o .nilS) none none none := by rw [hm]; exact nb
    clear hkb hm
    have hl1 := hl.gr g1
    have hnew : newE ls = newG [] ls := if_neg h32
    rw [hnew]
    generalize hr0 : newG [] ls = r0
    repeat refine R1.s_assoc ?_
    refine R1.s_rg fun K hK => ?_
    simp only [SG_nil, SG_cons, SU_yes, gw_n, gOf_n, List.map_cons, List.map_nil, vN_val, lnN_some, SK_move, SK_len, evTmp, ev_int, slot_put, putD_nt, slotOk, Nat.blt_eq, Nat.reduceLT, true_and, if_true, E2_P, t0, hnt, ln_lads, hl1.len, hl1.lt]
    refine hK _ _ ?_
    clear hK K
    refine R1.s_block fun K k1 k2 k3 k4 => ?_
    refine R1.loop (fun k A2 H2 => ∃ (i : Nat) (lad gr fc : AC) (r1 r2 r3 : Option Nat), k = ls.length - i ∧ i ≤ ls.length ∧ NB H.nx kb m (ls.take i) (ls.take i) i i H2 lad gr fc r1 r2 r3 ∧ Gr H H2 ∧ newG (ls.take i) (ls.drop i) = r0 ∧
      slot A2.tm 1 = .one (.o .nilS) ∧ slot A2.tm 6 = .one (.o (.ptr kb 0 0 4)) ∧ slot A2.tm 26 = .one v ∧ slot A2.tm 27 = .one (.i .i64 (ls.length : Int)) ∧ slot A2.tm 28 = .one (.i .i64 (i : Int)) ∧ A2.nt = 102 ∧ A2.dfr = []) ?_ ls.length
      ⟨0, _, _, _, _, _, _, rfl, Nat.zero_le _, nb, g1, hr0, ?_⟩
    · clear t0 t1 t6 hnt hdf A1
      rintro k A H1 ⟨i, lad, gr, fc, r1, r2, r3, rfl, hi, nb, g1, hr, t1, t6, t26, t27, t28, hnt, hdf⟩
      have hl1 := hl.gr g1
      repeat' first | refine R1.ret ?_ | refine R1.exit ?_ | refine R1.skip ?_ | refine R1.s_ret ?_ | refine R1.s_exit ?_ | refine R1.s_assoc ?_ | refine R1.s_skip ?_ | refine R1.s_scope ?_ | ((first | refine R1.e_rg fun K hK => ?_ | refine R1.s_rg fun K hK => ?_ | refine R1.e_sq (by kernel_rfl) fun K hK => ?_ | refine R1.s_sq (by kernel_rfl) fun K hK => ?_); simp only [SG_nil, SG_cons, SU_yes, gw_n, gOf_n, List.map_cons, List.map_nil, vN_val, SK_bin, evTmp, slotOk, Nat.blt_eq, Nat.reduceLT, true_and, ii_lss, E2_P, t27, t28, hnt]; refine hK _ _ ?_; clear hK K)
      repeat refine R1.s_assoc ?_
      (first | refine R1.s_cnd fun Kx Ky hx hy => ?_ | refine R1.e_cnd fun Kx Ky hx hy => ?_); simp only [boolP'_b, decide_eq_true_eq, evTmp, slot_put, if_true]
      refine iteI (fun hc => hx ?_) (fun hc => hy ?_)
      · clear hx hy Kx Ky
        have hlt : i < ls.length := by omega
        obtain ⟨id, g, off, cells, rfl, hid0, hg0, hat⟩ := hl.open (by omega)
        have hid : id < H1.nx := Nat.lt_of_lt_of_le hid0 g1.nx
        have hg : rowOf (H1.get id) g = some cells := by rw [g1.get _ hid0 not_false]; exact hg0
        have ex : ls[i]? = some ls[i] := List.getElem?_eq_getElem hlt
        have hdr : ls.drop i = ls[i] :: ls.drop (i + 1) := List.drop_eq_getElem_cons hlt
        have htk : ls.take (i + 1) = ls.take i ++ [ls[i]] := List.take_succ_eq_append_getElem hlt
        generalize ls[i] = x at ex hdr htk
        obtain ⟨u, hu0, hx0, hx1, hx2, hx3, hx4, hx5⟩ := hat i x ex
        have hu : SlP H1 u x.2 := hu0.gr g1
        have hidu : ∀ k ∈ (AV.one u).ids, k < H.nx := hu0.lt
        have hti : (ls.take i).length = i := by rw [List.length_take]; omega
        have hi32 : ls.length ≤ 32 := by omega
        have hw2 : IntKind.i64.wrap ((i : Int) + 1) = ((i + 1 : Nat) : Int) := by rw [wrapI (by omega) (by omega)]; omega
        rw [hdr, newG] at hr
        repeat' first | refine R1.ret ?_ | refine R1.exit ?_ | refine R1.skip ?_ | refine R1.s_ret ?_ | refine R1.s_exit ?_ | refine R1.s_assoc ?_ | refine R1.s_skip ?_ | refine R1.s_scope ?_ | ((first | refine R1.e_rg fun K hK => ?_ | refine R1.s_rg fun K hK => ?_ | refine R1.e_sq (by kernel_rfl) fun K hK => ?_ | refine R1.s_sq (by kernel_rfl) fun K hK => ?_); simp only [SG_nil, SG_cons, SU_yes, SU_no, gw_n, gw_gwv, gwv_b, gwv_u, gOf_n, gOf_some, List.map_cons, List.map_nil, List.getElem?_cons_zero, List.getElem?_cons_succ, Option.elim_some, Option.map_some, Option.bind_some, optP_some, boolP_b, boolP'_b, boolE_b, decide_eq_true_eq, decide_true, decide_false, valP_val, valP_guard, vN_val, ldN_some, stN_some, faN_some, iaN_some, lnN_some, pkN_b, sliceO_some, slice_lo, slice_hi, slice_1, indexAddr_0, Nat.add_one_sub_one, Nat.one_mul, len_sl, len_ns, len_str', posS, eq0S, cast0, Int.reduceLT, Int.reduceLE, Int.reduceBEq, Option.map_none, Nat.lt_add_left_iff_pos, Nat.zero_lt_succ, Nat.le_add_left, SK_move, SK_assign, SK_pick, SK_alloc, SK_box, SK_load, SK_store, SK_bin, SK_not, SK_fieldAddr, SK_field, SK_indexAddr, SK_slice, SK_extract, SK_nilCheck, SK_makeFunc, SK_makeMap, SK_makeSlice, SK_build, SK_buildSlice, SK_len, SK_append, SK_call, doCall_clo, doCall_clo, evTmp, ev_int, ev_bool, ev_str, ev_nilS, ev_func, opFev, evs_cons, evs_nil, slot_put, putD_nt, putD_none, putD_dfr, slotOk, Nat.blt_eq, Nat.reduceLT, Nat.reduceEqDiff, Nat.reduceLeDiff, reduceIte, true_and, and_true, true_or, or_true, if_true, if_false, Bool.false_eq_true, Bool.true_eq_false, not_false_eq_true, not_true_eq_false, ltV_ptr, ltV_sl, ltV_nil, ltV_str, ltV_i, nxNew, nxMod, get_newE, get_newL, get_modE, get_modN, ltAdd, ltSelf, eqLt, eqGt, eqLtA, eqGtA, eqSelfA, eqASelf, eqAA, ltAA, doLoad_ptr, doStore_ptr, rowOf_arr, rowOf_ro, ldO_agg, ldO_one, stO_arr, splice_eq, fieldAddr_at, Bool.not_eq_true', Bool.not_eq_false', decide_eq_false_iff_not, ne_eq, Nat.reduceLeDiff, Nat.lt_irrefl, gt_iff_lt, cells_one, cells_agg, noTup_one, noTup_agg, List.length_cons, List.length_nil, Nat.zero_add, Nat.add_zero, Nat.reduceAdd, Nat.reduceSub, Nat.reduceMul, Nat.le_refl, Nat.zero_le, capsOf_nil, capsOf_cons, capArgs_nil, capArgs_cons, List.cons_append, List.nil_append, List.append_nil, ex_0, ex_0a, ex_1, ex_1a, ex_2, ex_2a, ii_lss, ii_leq, ii_gtr, ii_geq, ii_eql, ii_neq, ii_add, ii_sub, ii_mul, ss_lss, ss_geq, ss_leq, ss_gtr, ss_eql, ss_neq, List.take_succ_cons, List.take_zero, List.drop_succ_cons, List.drop_zero, List.take_nil, List.drop_nil, List.headD_cons, Bool.not_true, Bool.not_false, Nat.lt_add_one, bin_agg, bin_b, agg2_agg, bool2_b, aggEq_nil, aggEq_s, aggEq_i, aggEq_b, aggO_some, fill_nil, fill_cons, Nat.zero_mul, partsF_nil, partsF_cons, repl_one, SK_lookup, SK_mapUpdate, lkN_some, upN_some, ltV_mp, nilCheck_ptr, lookOut_f, lookOut_t, doCall_yl, ofValue_int, ofValue_bool, ev_nilP, ev_nilM, ev_nilF]; refine hK _ _ ?_; clear hK K)
        refine R1.s_block fun K2 q1 q2 q3 q4 => ?_
        repeat refine R1.s_assoc ?_
        repeat refine R1.s_assoc ?_
        refine R1.s_rg fun K hK => ?_
        simp only [SG_nil, SG_cons, SU_yes, gw_n, gOf_n, List.map_cons, List.map_nil, optP_some, vN_val, ldN_some, stN_some, iaN_some, SK_move, SK_assign, SK_alloc, SK_load, SK_store, SK_indexAddr, evTmp, slot_put, putD_nt, putD_none, slotOk, Nat.blt_eq, Nat.reduceLT, true_and, if_true, if_false, ltV_ptr, nxNew, get_newE, eqLt, eqGt, doLoad_ptr, doStore_ptr, ldO_agg, stO_arr, cells_agg, noTup_agg, List.length_cons, List.length_nil, Nat.zero_add, Nat.reduceAdd, Nat.le_refl, List.nil_append, List.append_nil, List.take_zero, List.drop_succ_cons, List.drop_nil, Nat.lt_add_one, E2_P, t26, t28, hnt, el_lads, ld_lad, sz_lad, zr_lad, indexAddr_cast hlt, hid, hg, hx0, hx1]
        refine hK _ _ ?_
        clear hK K
        refine R1.gen (fun A3 H3 => Gr H1 H3 ∧ H1.nx < H3.nx ∧ H3.get H1.nx = some (.arr [.o (.str x.1), u] 78 0 0) ∧ slot A3.tm 1 = .one (.o .nilS) ∧ slot A3.tm 6 = .one (.o (.ptr kb 0 0 4)) ∧ slot A3.tm 7 = .one (.i .i64 (i : Int)) ∧ slot A3.tm 8 = .one (.o (.ptr H1.nx 0 0 2)) ∧ slot A3.tm 26 = .one (.o (.sl id g off ls.length 2)) ∧ slot A3.tm 27 = .one (.i .i64 (ls.length : Int)) ∧ slot A3.tm 28 = .one (.i .i64 (i : Int)) ∧ A3.nt = 102 ∧ A3.dfr = [])
          ⟨((Fr.refl _).new _).mod _ (.inl (Nat.le_refl _)), ?_⟩ ?_
        · simp only [slot_put, putD_nt, putD_dfr, Nat.reduceLT, and_true, if_true, if_false, nxNew, nxMod, get_modE, eqLt, eqGt, Nat.lt_add_one, t1, t6, t26, t27, t28, hnt, hdf]
        clear t1 t6 t26 t27 t28 hnt hdf A
        rintro A H3 ⟨g3, n3, rx, t1, t6, t7, t8, t26, t27, t28, hnt, hdf⟩
        have nb3 := nb.ofGr g3
        have g3' := g1.gr g3
        repeat refine R1.s_assoc ?_
        repeat refine R1.s_assoc ?_
        refine R1.s_rg fun K hK => ?_
        simp only [SG_cons, SU_yes, gw_n, gOf_n, List.map_cons, List.map_nil, vN_val, ldN_some, SK_load, SK_call, doCall_clo, doCall_clo, evTmp, ev_func, evs_cons, evs_nil, slot_put, putD_nt, slotOk, Nat.blt_eq, Nat.reduceLT, true_and, if_true, ltV_ptr, doLoad_ptr, rowOf_arr, ldO_agg, List.length_cons, List.length_nil, Nat.zero_add, Nat.reduceAdd, Nat.le_refl, capArgs_nil, List.append_nil, List.take_succ_cons, List.drop_zero, List.take_nil, E2_P, t8, hnt, rx, n3, ld_lad, bd_check]
        refine WE.con (check_con H3 x.1 u x.2 (hu.gr g3)) fun w H4 g4 hv => ?_
        subst hv
        have nb4 := nb3.ofGr g4
        have rx : H4.get H1.nx = some (.arr [.o (.str x.1), u] 78 0 0) := by rw [g4.get _ n3 not_false]; exact rx
        have n4 : H1.nx < H4.nx := Nat.lt_of_lt_of_le n3 g4.nx
        have hu4 : SlP H4 u x.2 := (hu.gr g3).gr g4
        have g4' := g3'.gr g4
        simp only [SG_nil, SG_cons, SU_yes, gw_n, SK_assign, evTmp, slot_put, putD_nt, slotOk, Nat.blt_eq, Nat.reduceLT, true_and, if_true, if_false, eqGt, Nat.lt_add_one, hnt]
        refine hK _ _ ?_
        clear hK K
        repeat' first | refine R1.ret ?_ | refine R1.exit ?_ | refine R1.skip ?_ | refine R1.s_ret ?_ | refine R1.s_exit ?_ | refine R1.s_assoc ?_ | refine R1.s_skip ?_ | refine R1.s_scope ?_ | ((first | refine R1.e_rg fun K hK => ?_ | refine R1.s_rg fun K hK => ?_ | refine R1.e_sq (by kernel_rfl) fun K hK => ?_ | refine R1.s_sq (by kernel_rfl) fun K hK => ?_); simp only [SG_nil, SG_cons, SU_yes, gw_n, gOf_n, List.map_cons, List.map_nil, vN_val, SK_move, SK_bin, evTmp, ev_int, slot_put, putD_nt, slotOk, Nat.blt_eq, Nat.reduceLT, true_and, if_true, if_false, eqLt, eqGt, ii_neq, Nat.lt_add_one, E2_P, hnt]; refine hK _ _ ?_; clear hK K)
        repeat refine R1.s_assoc ?_
        (first | refine R1.s_cnd fun Kx Ky hx hy => ?_ | refine R1.e_cnd fun Kx Ky hx hy => ?_); simp only [boolP'_b, evTmp, slot_put, Nat.reduceLT, if_true, if_false, eqGt, Bool.not_eq_true', Nat.lt_add_one]
        refine iteI (fun hd => hx ?_) (fun hd => hy ?_)
        · clear hx hy Kx Ky
          have hne : chkLad x.1 x.2 ≠ 0 := by simpa using hd
          rw [if_pos hne] at hr
          subst hr
          repeat' first | refine R1.ret ?_ | refine R1.exit ?_ | refine R1.skip ?_ | refine R1.s_ret ?_ | refine R1.s_exit ?_ | refine R1.s_assoc ?_ | refine R1.s_skip ?_ | refine R1.s_scope ?_ | ((first | refine R1.e_rg fun K hK => ?_ | refine R1.s_rg fun K hK => ?_ | refine R1.e_sq (by kernel_rfl) fun K hK => ?_ | refine R1.s_sq (by kernel_rfl) fun K hK => ?_); simp only [SG_nil, SG_cons, SU_yes, gw_n, gOf_n, List.map_cons, List.map_nil, SK_move, SK_assign, evTmp, slot_put, putD_nt, slotOk, Nat.blt_eq, Nat.reduceLT, true_and, if_true, if_false, eqLt, eqGt, Nat.lt_add_one, ev_nilP, hnt]; refine hK _ _ ?_; clear hK K)
          refine q4 _ _ (k4 _ _ ⟨_, _, callEnd_two (.o .nilP) (.i .i64 (chkLad x.1 x.2)) (.inr rfl) (by simp only [putD_dfr, hdf]) (by simp only [slot_put, Nat.reduceEqDiff, reduceIte]) (by simp only [slot_put, Nat.reduceEqDiff, reduceIte]), g4', fun _ => ⟨_, rfl, fun h => absurd h hne, fun _ => rfl⟩⟩)
        · clear hx hy Kx Ky
          have hz : chkLad x.1 x.2 = 0 := by simpa using hd
          rw [if_neg (fun h => h hz)] at hr
          have hL12 := chkLad_len hz
          refine R1.s_skip ?_
          repeat refine R1.s_assoc ?_
          have lkb := nb4.kn.2
          have lm := nb4.mn.2
          have rkb := nb4.kbg
          repeat refine R1.s_assoc ?_
          refine R1.s_sq (by kernel_rfl) fun K hK => ?_
          simp only [SG_nil, SG_cons, SU_yes, gw_n, gOf_n, List.map_cons, List.map_nil, optP_some, vN_val, ldN_some, faN_some, Nat.add_one_sub_one, SK_move, SK_assign, SK_load, SK_fieldAddr, SK_extract, SK_nilCheck, evTmp, slot_put, putD_nt, slotOk, Nat.blt_eq, Nat.reduceLT, Nat.reduceLeDiff, true_and, if_true, if_false, ltV_ptr, eqLt, eqGt, doLoad_ptr, rowOf_arr, ldO_one, fieldAddr_at, Nat.reduceLeDiff, List.length_cons, List.length_nil, Nat.zero_add, Nat.add_zero, Nat.reduceAdd, Nat.reduceSub, Nat.le_refl, ex_0, ex_1, List.drop_succ_cons, List.drop_zero, List.headD_cons, Nat.lt_add_one, SK_lookup, lkN_some, ltV_mp, nilCheck_ptr, ofValue_int, E2_P, t6, t8, hnt, rx, n4, rkb, lkb, lm, fd_book_1, fd_lad_0, ld_mSI, ld_str, mp_mSI, zv_int, look_pl nb4.mg]
          refine hK _ _ ?_
          clear hK K
          cases hfound : (idxN 0 (ls.take i) x.1).isSome with
          | true =>
            rw [if_pos hfound] at hr
            subst hr
            repeat' first | refine R1.ret ?_ | refine R1.exit ?_ | refine R1.skip ?_ | refine R1.s_ret ?_ | refine R1.s_exit ?_ | refine R1.s_assoc ?_ | refine R1.s_skip ?_ | refine R1.s_scope ?_ | ((first | refine R1.e_rg fun K hK => ?_ | refine R1.s_rg fun K hK => ?_ | refine R1.e_sq (by kernel_rfl) fun K hK => ?_ | refine R1.s_sq (by kernel_rfl) fun K hK => ?_); simp only [SG_nil, SG_cons, SU_yes, gw_n, gOf_n, List.map_cons, List.map_nil, SK_move, evTmp, slot_put, putD_nt, slotOk, Nat.blt_eq, Nat.reduceLT, true_and, if_true, if_false, eqLt, eqGt, Nat.lt_add_one, hnt]; refine hK _ _ ?_; clear hK K)
            repeat refine R1.s_assoc ?_
            (first | refine R1.s_cnd fun Kx Ky hx hy => ?_ | refine R1.e_cnd fun Kx Ky hx hy => ?_); simp only [boolP'_b, evTmp, slot_put, Nat.reduceLT, if_true, if_false, eqGt, Nat.lt_add_one]
            refine hx ?_
            clear hx hy Kx Ky
            repeat' first | refine R1.ret ?_ | refine R1.exit ?_ | refine R1.skip ?_ | refine R1.s_ret ?_ | refine R1.s_exit ?_ | refine R1.s_assoc ?_ | refine R1.s_skip ?_ | refine R1.s_scope ?_ | ((first | refine R1.e_rg fun K hK => ?_ | refine R1.s_rg fun K hK => ?_ | refine R1.e_sq (by kernel_rfl) fun K hK => ?_ | refine R1.s_sq (by kernel_rfl) fun K hK => ?_); simp only [SG_nil, SG_cons, SU_yes, gw_n, gOf_n, List.map_cons, List.map_nil, SK_assign, ev_int, putD_nt, slotOk, Nat.blt_eq, Nat.reduceLT, true_and, ev_nilP, hnt]; refine hK _ _ ?_; clear hK K)
            refine q4 _ _ (k4 _ _ ⟨_, _, callEnd_two (.o .nilP) (.i .i64 2) (.inr rfl) (by simp only [putD_dfr, hdf]) (by simp only [slot_put, Nat.reduceEqDiff, reduceIte]) (by simp only [slot_put, Nat.reduceEqDiff, reduceIte]), g4', fun _ => ⟨_, rfl, fun h => (by cases h), fun _ => rfl⟩⟩)
          | false =>
            rw [if_neg (by rw [hfound]; decide)] at hr
            have hup := upd_pl nb4.mg hfound
            rw [hti] at hup
            repeat' first | refine R1.ret ?_ | refine R1.exit ?_ | refine R1.skip ?_ | refine R1.s_ret ?_ | refine R1.s_exit ?_ | refine R1.s_assoc ?_ | refine R1.s_skip ?_ | refine R1.s_scope ?_ | ((first | refine R1.e_rg fun K hK => ?_ | refine R1.s_rg fun K hK => ?_ | refine R1.e_sq (by kernel_rfl) fun K hK => ?_ | refine R1.s_sq (by kernel_rfl) fun K hK => ?_); simp only [SG_nil, SG_cons, SU_yes, gw_n, gOf_n, List.map_cons, List.map_nil, SK_move, evTmp, slot_put, putD_nt, slotOk, Nat.blt_eq, Nat.reduceLT, true_and, if_true, if_false, eqLt, eqGt, Nat.lt_add_one, hnt]; refine hK _ _ ?_; clear hK K)
            repeat refine R1.s_assoc ?_
            (first | refine R1.s_cnd fun Kx Ky hx hy => ?_ | refine R1.e_cnd fun Kx Ky hx hy => ?_); simp only [boolP'_b, evTmp, slot_put, Nat.reduceLT, if_true, if_false, Bool.false_eq_true, eqGt, Nat.lt_add_one]
            refine hy ?_
            clear hx hy Kx Ky
            refine R1.s_skip ?_
            repeat refine R1.s_assoc ?_
            refine R1.s_sq (by kernel_rfl) fun K hK => ?_
            simp only [SG_nil, SG_cons, SU_yes, gw_n, gOf_n, List.map_cons, List.map_nil, vN_val, ldN_some, faN_some, Nat.add_one_sub_one, SK_move, SK_load, SK_fieldAddr, SK_nilCheck, evTmp, slot_put, putD_nt, putD_none, slotOk, Nat.blt_eq, Nat.reduceLT, Nat.reduceLeDiff, true_and, if_true, if_false, ltV_ptr, eqLt, eqGt, doLoad_ptr, rowOf_arr, ldO_one, fieldAddr_at, Nat.reduceLeDiff, List.length_cons, List.length_nil, Nat.zero_add, Nat.add_zero, Nat.reduceAdd, Nat.reduceSub, Nat.le_refl, List.drop_succ_cons, List.drop_zero, List.headD_cons, Nat.lt_add_one, SK_mapUpdate, upN_some, ltV_mp, nilCheck_ptr, E2_P, t6, t7, t8, hnt, rx, n4, rkb, lkb, lm, fd_book_1, fd_lad_0, ld_mSI, ld_str, mp_mSI, hup]
            refine hK _ _ ?_
            clear hK K
            have nb5 := nb4.addM (ls.take i ++ [x])
            have hmn : H.nx ≤ m := nb4.mn.1
            have hkn : H.nx ≤ kb := nb4.kn.1
            have m1 : m < H1.nx := nb.mn.2
            have hu5 : SlP (H4.mod m (mapO (plN 0 (ls.take i ++ [x])))) u x.2 := SlC.fr hu4 mod_fr fun k h e => by have := hidu k h; omega
            have rx : (H4.mod m (mapO (plN 0 (ls.take i ++ [x])))).get H1.nx = some (.arr [.o (.str x.1), u] 78 0 0) := by rw [get_modN (by omega)]; exact rx
            have g5' : Gr H (H4.mod m (mapO (plN 0 (ls.take i ++ [x])))) := g4'.mod _ (.inl hmn)
            have n5 : H1.nx < (H4.mod m (mapO (plN 0 (ls.take i ++ [x])))).nx := n4
            refine R1.gen (fun A5 H5 => H5 = H4.mod m (mapO (plN 0 (ls.take i ++ [x]))) ∧ slot A5.tm 1 = .one (.o .nilS) ∧ slot A5.tm 6 = .one (.o (.ptr kb 0 0 4)) ∧ slot A5.tm 7 = .one (.i .i64 (i : Int)) ∧ slot A5.tm 8 = .one (.o (.ptr H1.nx 0 0 2)) ∧ slot A5.tm 26 = .one (.o (.sl id g off ls.length 2)) ∧ slot A5.tm 27 = .one (.i .i64 (ls.length : Int)) ∧ slot A5.tm 28 = .one (.i .i64 (i : Int)) ∧ A5.nt = 102 ∧ A5.dfr = []) ⟨rfl, ?_⟩ ?_
            · simp only [slot_put, putD_nt, putD_dfr, Nat.reduceLT, and_true, if_false, eqLt, eqGt, Nat.lt_add_one, t1, t6, t7, t8, t26, t27, t28, hnt, hdf]
            clear t1 t6 t7 t8 t26 t27 t28 hnt hdf A
            rintro A H5 ⟨hH5, t1, t6, t7, t8, t26, t27, t28, hnt, hdf⟩
            rw [← hH5] at nb5 hu5 rx g5' n5
            clear hH5 rkb lkb lm
            have lkb := nb5.kn.2
            have rkb := nb5.kbg
            repeat refine R1.s_assoc ?_
            (first | refine R1.s_sg (by kernel_rfl) fun K hK => ?_ | refine R1.e_sg (by kernel_rfl) fun K hK => ?_)
            simp only [SG_cons, SU_yes, gw_n, gOf_n, List.map_cons, List.map_nil, vN_val, ldN_some, faN_some, SK_move, SK_load, SK_fieldAddr, SK_nilCheck, SK_call, doCall_clo, doCall_clo, evTmp, ev_func, evs_cons, evs_nil, slot_put, putD_nt, slotOk, Nat.blt_eq, Nat.reduceLT, Nat.reduceLeDiff, true_and, if_true, if_false, ltV_ptr, eqLt, eqGt, doLoad_ptr, rowOf_arr, ldO_agg, ldO_one, fieldAddr_at, Nat.reduceLeDiff, List.length_cons, List.length_nil, Nat.zero_add, Nat.add_zero, Nat.reduceAdd, Nat.reduceSub, Nat.le_refl, capArgs_nil, List.append_nil, List.take_succ_cons, List.drop_zero, List.take_nil, List.headD_cons, Nat.lt_add_one, nilCheck_ptr, E2_P, t6, t8, hnt, rx, n5, rkb, lkb, fd_book_0, ld_lads, ld_lad, bd_copied]
            refine WE.conG (copied_con H5 x.1 u x.2 hu5 (by omega)) fun w H6 g6 ⟨u', hv, hu', hid'⟩ => ?_
            subst hv
            have nb6 := nb5.ofGr g6
            obtain ⟨css, ho1, hal⟩ := nb6.o1
            obtain ⟨zl, hzl, hzll⟩ := zx_lad
            obtain ⟨hlt7, v7, H7, r7, happ, ho7, hf7, hr7⟩ := push_own el_lads by_lad hzl hzll (by decide) ho1 [.o (.str x.1), u'] rfl (by rw [hti]; omega)
            have rk7 : H7.get kb = some (.arr [lad, .o (.mp m), gr, fc] 36 0 0) := by rw [hf7.get _ nb6.kn.2 (fun e => (nb6.n1 _ e).2.2.1 rfl)]; exact nb6.kbg
            have lk7 : kb < H7.nx := Nat.lt_of_lt_of_le nb6.kn.2 hf7.nx
            have hui : ∀ k ∈ (AV.one u').ids, k ≠ kb ∧ k ≠ m ∧ some k ≠ r1 ∧ some k ≠ r2 ∧ some k ≠ r3 := fun k h => by
              have h5 := hid' k h
              refine ⟨by omega, by have := nb5.mn.2; omega, fun e => ?_, fun e => ?_, fun e => ?_⟩
              · have := (nb5.n1 _ e.symm).2.1; omega
              · have := (nb5.n2 _ e.symm).2.1; omega
              · have := (nb5.n3 _ e.symm).2.1; omega
            have nb8 := nb6.addL hu' hui hal ho7 hf7 hr7
            have g7 : Gr H H7 := (g5'.gr g6).then hf7 fun k hk => .inl (nb6.n1 _ hk).1
            have g8 : Gr H (H7.mod kb (.arr [v7, .o (.mp m), gr, fc] 36 0 0)) := g7.mod _ (.inl hkn)
            simp only [SG_nil, SG_cons, SU_yes, gw_n, Option.map_some, Option.bind_some, optP_some, vN_val, stN_some, faN_some, Nat.one_mul, SK_store, SK_fieldAddr, SK_nilCheck, SK_buildSlice, SK_append, evTmp, opFev, slot_put, putD_nt, putD_none, slotOk, Nat.blt_eq, Nat.reduceLT, Nat.reduceLeDiff, true_and, and_true, if_true, if_false, ltV_ptr, ltV_sl, nxNew, eqLt, eqGt, doStore_ptr, stO_arr, fieldAddr_at, Nat.reduceLeDiff, cells_one, cells_agg, noTup_one, noTup_agg, List.length_cons, List.length_nil, Nat.zero_add, Nat.add_zero, Nat.reduceAdd, Nat.reduceSub, Nat.le_refl, List.cons_append, List.nil_append, List.append_nil, List.take_zero, List.drop_succ_cons, List.drop_zero, List.drop_nil, Nat.lt_add_one, fill_nil, fill_cons, Nat.zero_mul, partsF_nil, partsF_cons, repl_one, nilCheck_ptr, E2_P, hnt, el_lads, zr_lad, repl_one, happ, rk7, lk7, fd_book_0, sz_lads]
            refine ⟨hlt7, ?_⟩
            refine hK _ _ ?_
            clear hK K
            refine R1.gen (fun A5 H8 => H8 = H7.mod kb (.arr [v7, .o (.mp m), gr, fc] 36 0 0) ∧ slot A5.tm 1 = .one (.o .nilS) ∧ slot A5.tm 6 = .one (.o (.ptr kb 0 0 4)) ∧ slot A5.tm 7 = .one (.i .i64 (i : Int)) ∧ slot A5.tm 26 = .one (.o (.sl id g off ls.length 2)) ∧ slot A5.tm 27 = .one (.i .i64 (ls.length : Int)) ∧ slot A5.tm 28 = .one (.i .i64 (i : Int)) ∧ A5.nt = 102 ∧ A5.dfr = []) ⟨rfl, ?_⟩ ?_
            · simp only [slot_put, putD_nt, putD_dfr, Nat.reduceLT, and_true, if_false, eqLt, t1, t6, t7, t26, t27, t28, hnt, hdf]
            clear t1 t6 t7 t8 t26 t27 t28 hnt hdf A
            rintro A H8 ⟨hH8, t1, t6, t7, t26, t27, t28, hnt, hdf⟩
            rw [← hH8] at nb8 g8
            clear hH8 rk7 lk7 happ hlt7 ho7 g7 hal ho1 hf7
            obtain ⟨cg, ho2⟩ := nb8.o2
            obtain ⟨zi, hzi, hzil⟩ := zx_int
            obtain ⟨hlt9, v9, H9, r9, happ9, ho9, hf9, hr9⟩ := push_own el_ints by_int hzi hzil (by decide) ho2 [.i .i64 (i : Int)] rfl (by omega)
            have rk9 : H9.get kb = some (.arr [v7, .o (.mp m), gr, fc] 36 0 0) := by rw [hf9.get _ nb8.kn.2 (fun e => (nb8.n2 _ e).2.2.1 rfl)]; exact nb8.kbg
            have lk9 : kb < H9.nx := Nat.lt_of_lt_of_le nb8.kn.2 hf9.nx
            have nb10 := nb8.grp ho9 hf9 hr9
            have g10 : Gr H (H9.mod kb (.arr [v7, .o (.mp m), v9, fc] 36 0 0)) := (g8.then hf9 fun k hk => .inl (nb8.n2 _ hk).1).mod _ (.inl hkn)
            have rk8 := nb8.kbg
            have lk8 := nb8.kn.2
            repeat refine R1.s_assoc ?_
            refine R1.s_rg fun K hK => ?_
            simp only [SG_nil, SG_cons, SU_yes, gw_n, gOf_n, List.map_cons, List.map_nil, Option.map_some, Option.bind_some, optP_some, vN_val, ldN_some, stN_some, faN_some, Nat.one_mul, SK_move, SK_load, SK_store, SK_fieldAddr, SK_nilCheck, SK_buildSlice, SK_append, evTmp, opFev, slot_put, putD_nt, putD_none, slotOk, Nat.blt_eq, Nat.reduceLT, Nat.reduceLeDiff, true_and, and_true, if_true, if_false, ltV_ptr, ltV_sl, nxNew, eqLt, eqGt, doLoad_ptr, doStore_ptr, rowOf_arr, ldO_one, stO_arr, fieldAddr_at, Nat.reduceLeDiff, cells_one, noTup_one, List.length_cons, List.length_nil, Nat.zero_add, Nat.reduceAdd, Nat.reduceSub, Nat.le_refl, List.cons_append, List.nil_append, List.append_nil, List.take_succ_cons, List.take_zero, List.drop_succ_cons, List.drop_zero, List.drop_nil, List.headD_cons, Nat.lt_add_one, fill_nil, fill_cons, Nat.zero_mul, partsF_nil, partsF_cons, repl_one, nilCheck_ptr, E2_P, t6, t7, hnt, rk8, lk8, fd_book_2, ld_ints, el_ints, zr_int, repl_one, happ9, rk9, lk9, sz_ints]
            refine ⟨hlt9, ?_⟩
            refine hK _ _ ?_
            clear hK K
            refine R1.gen (fun A5 H10 => H10 = H9.mod kb (.arr [v7, .o (.mp m), v9, fc] 36 0 0) ∧ slot A5.tm 1 = .one (.o .nilS) ∧ slot A5.tm 6 = .one (.o (.ptr kb 0 0 4)) ∧ slot A5.tm 26 = .one (.o (.sl id g off ls.length 2)) ∧ slot A5.tm 27 = .one (.i .i64 (ls.length : Int)) ∧ slot A5.tm 28 = .one (.i .i64 (i : Int)) ∧ A5.nt = 102 ∧ A5.dfr = []) ⟨rfl, ?_⟩ ?_
            · simp only [slot_put, putD_nt, putD_dfr, Nat.reduceLT, and_true, if_false, eqLt, t1, t6, t26, t27, t28, hnt, hdf]
            clear t1 t6 t7 t26 t27 t28 hnt hdf A
            rintro A H10 ⟨hH10, t1, t6, t26, t27, t28, hnt, hdf⟩
            rw [← hH10] at nb10 g10
            clear hH10 rk9 lk9 happ9 hlt9 ho9 hf9 rk8 lk8 ho2
            obtain ⟨cf, ho3⟩ := nb10.o3
            obtain ⟨zp, hzp, hzpl⟩ := zx_prod
            obtain ⟨hlt11, v11, H11, r11, happ11, ho11, hf11, hr11⟩ := push_own el_prods by_prod hzp hzpl (by decide) ho3 [.o .nilS, .o .nilS] rfl (by omega)
            have rk11 : H11.get kb = some (.arr [v7, .o (.mp m), v9, fc] 36 0 0) := by rw [hf11.get _ nb10.kn.2 (fun e => (nb10.n3 _ e).2.2.1 rfl)]; exact nb10.kbg
            have lk11 : kb < H11.nx := Nat.lt_of_lt_of_le nb10.kn.2 hf11.nx
            have nb12 := nb10.fac ho11 hf11 hr11
            have g12 : Gr H (H11.mod kb (.arr [v7, .o (.mp m), v9, v11] 36 0 0)) := (g10.then hf11 fun k hk => .inl (nb10.n3 _ hk).1).mod _ (.inl hkn)
            have rk10 := nb10.kbg
            have lk10 := nb10.kn.2
            refine R1.e_rg fun K hK => ?_
            simp only [SG_nil, SG_cons, SU_yes, gw_n, gOf_n, List.map_cons, List.map_nil, Option.map_some, Option.bind_some, optP_some, vN_val, ldN_some, stN_some, faN_some, Nat.one_mul, SK_move, SK_load, SK_store, SK_fieldAddr, SK_nilCheck, SK_build, SK_buildSlice, SK_append, evTmp, opFev, slot_put, putD_nt, putD_none, slotOk, Nat.blt_eq, Nat.reduceLT, Nat.reduceLeDiff, true_and, and_true, if_true, if_false, ltV_ptr, ltV_sl, nxNew, eqLt, eqGt, doLoad_ptr, doStore_ptr, rowOf_arr, ldO_one, stO_arr, fieldAddr_at, Nat.reduceLeDiff, cells_one, cells_agg, noTup_one, noTup_agg, List.length_cons, List.length_nil, Nat.zero_add, Nat.reduceAdd, Nat.reduceSub, Nat.le_refl, List.cons_append, List.nil_append, List.append_nil, List.take_succ_cons, List.take_zero, List.drop_succ_cons, List.drop_zero, List.drop_nil, List.headD_cons, Nat.lt_add_one, fill_nil, fill_cons, Nat.zero_mul, partsF_nil, partsF_cons, repl_one, nilCheck_ptr, E2_P, t6, hnt, rk10, lk10, fd_book_3, ld_prods, el_prods, zr_prod, pt_prod, repl_one, happ11, rk11, lk11, sz_prods]
            refine ⟨hlt11, ?_⟩
            refine hK _ _ ?_
            clear hK K
            refine q1 _ _ ?_
            repeat' first | refine R1.ret ?_ | refine R1.exit ?_ | refine R1.skip ?_ | refine R1.s_ret ?_ | refine R1.s_exit ?_ | refine R1.s_assoc ?_ | refine R1.s_skip ?_ | refine R1.s_scope ?_ | ((first | refine R1.e_rg fun K hK => ?_ | refine R1.s_rg fun K hK => ?_ | refine R1.e_sq (by kernel_rfl) fun K hK => ?_ | refine R1.s_sq (by kernel_rfl) fun K hK => ?_); simp only [SG_nil, SG_cons, SU_yes, gw_n, gOf_n, List.map_cons, List.map_nil, vN_val, SK_move, SK_bin, evTmp, ev_int, slot_put, putD_nt, slotOk, Nat.blt_eq, Nat.reduceLT, true_and, if_true, if_false, eqLt, eqGt, ii_add, Nat.lt_add_one, hnt, t28, hw2]; refine hK _ _ ?_; clear hK K)
            rw [← htk] at nb12 hr
            refine ⟨ls.length - (i + 1), by omega, i + 1, _, _, _, _, _, _, rfl, hlt, nb12, g12, hr, ?_, ?_, ?_, ?_, ?_, ?_, ?_⟩
            · simp only [slot_put, Nat.reduceEqDiff, reduceIte, t1]
            · simp only [slot_put, Nat.reduceEqDiff, reduceIte, t6]
            · simp only [slot_put, Nat.reduceEqDiff, reduceIte, t26]
            · simp only [slot_put, Nat.reduceEqDiff, reduceIte, t27]
            · simp only [slot_put, Nat.reduceEqDiff, reduceIte]
            · simp only [putD_nt, hnt]
            · simp only [putD_dfr, hdf]
      · clear hx hy Kx Ky
        have hie : i = ls.length := by omega
        rw [hie, List.drop_length, newG] at hr
        rw [hie, List.take_length] at nb
        repeat' first | refine R1.ret ?_ | refine R1.exit ?_ | refine R1.skip ?_ | refine R1.s_ret ?_ | refine R1.s_exit ?_ | refine R1.s_assoc ?_ | refine R1.s_skip ?_ | refine R1.s_scope ?_ | ((first | refine R1.e_rg fun K hK => ?_ | refine R1.s_rg fun K hK => ?_ | refine R1.e_sq (by kernel_rfl) fun K hK => ?_ | refine R1.s_sq (by kernel_rfl) fun K hK => ?_); simp only [SG_nil, SG_cons, SU_yes, SU_no, gw_n, gw_gwv, gwv_b, gwv_u, gOf_n, gOf_some, List.map_cons, List.map_nil, List.getElem?_cons_zero, List.getElem?_cons_succ, Option.elim_some, Option.map_some, Option.bind_some, optP_some, boolP_b, boolP'_b, boolE_b, decide_eq_true_eq, decide_true, decide_false, valP_val, valP_guard, vN_val, ldN_some, stN_some, faN_some, iaN_some, lnN_some, pkN_b, sliceO_some, slice_lo, slice_hi, slice_1, indexAddr_0, Nat.add_one_sub_one, Nat.one_mul, len_sl, len_ns, len_str', posS, eq0S, cast0, Int.reduceLT, Int.reduceLE, Int.reduceBEq, Option.map_none, Nat.lt_add_left_iff_pos, Nat.zero_lt_succ, Nat.le_add_left, SK_move, SK_assign, SK_pick, SK_alloc, SK_box, SK_load, SK_store, SK_bin, SK_not, SK_fieldAddr, SK_field, SK_indexAddr, SK_slice, SK_extract, SK_nilCheck, SK_makeFunc, SK_makeMap, SK_makeSlice, SK_build, SK_buildSlice, SK_len, SK_append, SK_call, doCall_clo, doCall_clo, evTmp, ev_int, ev_bool, ev_str, ev_nilS, ev_func, opFev, evs_cons, evs_nil, slot_put, putD_nt, putD_none, putD_dfr, slotOk, Nat.blt_eq, Nat.reduceLT, Nat.reduceEqDiff, Nat.reduceLeDiff, reduceIte, true_and, and_true, true_or, or_true, if_true, if_false, Bool.false_eq_true, Bool.true_eq_false, not_false_eq_true, not_true_eq_false, ltV_ptr, ltV_sl, ltV_nil, ltV_str, ltV_i, nxNew, nxMod, get_newE, get_newL, get_modE, get_modN, ltAdd, ltSelf, eqLt, eqGt, eqLtA, eqGtA, eqSelfA, eqASelf, eqAA, ltAA, doLoad_ptr, doStore_ptr, rowOf_arr, rowOf_ro, ldO_agg, ldO_one, stO_arr, splice_eq, fieldAddr_at, Bool.not_eq_true', Bool.not_eq_false', decide_eq_false_iff_not, ne_eq, Nat.reduceLeDiff, Nat.lt_irrefl, gt_iff_lt, cells_one, cells_agg, noTup_one, noTup_agg, List.length_cons, List.length_nil, Nat.zero_add, Nat.add_zero, Nat.reduceAdd, Nat.reduceSub, Nat.reduceMul, Nat.le_refl, Nat.zero_le, capsOf_nil, capsOf_cons, capArgs_nil, capArgs_cons, List.cons_append, List.nil_append, List.append_nil, ex_0, ex_0a, ex_1, ex_1a, ex_2, ex_2a, ii_lss, ii_leq, ii_gtr, ii_geq, ii_eql, ii_neq, ii_add, ii_sub, ii_mul, ss_lss, ss_geq, ss_leq, ss_gtr, ss_eql, ss_neq, List.take_succ_cons, List.take_zero, List.drop_succ_cons, List.drop_zero, List.take_nil, List.drop_nil, List.headD_cons, Bool.not_true, Bool.not_false, Nat.lt_add_one, bin_agg, bin_b, agg2_agg, bool2_b, aggEq_nil, aggEq_s, aggEq_i, aggEq_b, aggO_some, fill_nil, fill_cons, Nat.zero_mul, partsF_nil, partsF_cons, repl_one, SK_lookup, SK_mapUpdate, lkN_some, upN_some, ltV_mp, nilCheck_ptr, lookOut_f, lookOut_t, doCall_yl, ofValue_int, ofValue_bool, ev_nilP, ev_nilM, ev_nilF, hnt]; refine hK _ _ ?_; clear hK K)
        refine k2 _ _ ?_
        repeat' first | refine R1.ret ?_ | refine R1.exit ?_ | refine R1.skip ?_ | refine R1.s_ret ?_ | refine R1.s_exit ?_ | refine R1.s_assoc ?_ | refine R1.s_skip ?_ | refine R1.s_scope ?_ | ((first | refine R1.e_rg fun K hK => ?_ | refine R1.s_rg fun K hK => ?_ | refine R1.e_sq (by kernel_rfl) fun K hK => ?_ | refine R1.s_sq (by kernel_rfl) fun K hK => ?_); simp only [SG_nil, SG_cons, SU_yes, gw_n, gOf_n, List.map_cons, List.map_nil, vN_val, lnN_some, len_ns, SK_move, SK_len, evTmp, ev_int, slot_put, putD_nt, slotOk, Nat.blt_eq, Nat.reduceLT, true_and, if_true, if_false, ltV_nil, eqLt, eqGt, E2_P, hnt, t1, lnB]; refine hK _ _ ?_; clear hK K)
        refine R1.s_block fun K2 q1 q2 q3 q4 => ?_
        refine R1.round ?_
        repeat' first | refine R1.ret ?_ | refine R1.exit ?_ | refine R1.skip ?_ | refine R1.s_ret ?_ | refine R1.s_exit ?_ | refine R1.s_assoc ?_ | refine R1.s_skip ?_ | refine R1.s_scope ?_ | ((first | refine R1.e_rg fun K hK => ?_ | refine R1.s_rg fun K hK => ?_ | refine R1.e_sq (by kernel_rfl) fun K hK => ?_ | refine R1.s_sq (by kernel_rfl) fun K hK => ?_); simp only [SG_nil, SG_cons, SU_yes, gw_n, gOf_n, List.map_cons, List.map_nil, decide_false, vN_val, Int.reduceLT, SK_bin, evTmp, slot_put, putD_nt, slotOk, Nat.blt_eq, Nat.reduceLT, true_and, if_true, if_false, eqLt, eqGt, ii_lss, Nat.lt_add_one, E2_P, hnt]; refine hK _ _ ?_; clear hK K)
        repeat refine R1.s_assoc ?_
        (first | refine R1.s_cnd fun Kx Ky hx hy => ?_ | refine R1.e_cnd fun Kx Ky hx hy => ?_); simp only [boolP'_b, evTmp, slot_put, Nat.reduceLT, if_true, if_false, Bool.false_eq_true, eqGt, Nat.lt_add_one]
        refine hy ?_
        clear hx hy Kx Ky
        repeat' first | refine R1.ret ?_ | refine R1.exit ?_ | refine R1.skip ?_ | refine R1.s_ret ?_ | refine R1.s_exit ?_ | refine R1.s_assoc ?_ | refine R1.s_skip ?_ | refine R1.s_scope ?_ | ((first | refine R1.e_rg fun K hK => ?_ | refine R1.s_rg fun K hK => ?_ | refine R1.e_sq (by kernel_rfl) fun K hK => ?_ | refine R1.s_sq (by kernel_rfl) fun K hK => ?_); simp only [SG_nil, SG_cons, SU_yes, SU_no, gw_n, gw_gwv, gwv_b, gwv_u, gOf_n, gOf_some, List.map_cons, List.map_nil, List.getElem?_cons_zero, List.getElem?_cons_succ, Option.elim_some, Option.map_some, Option.bind_some, optP_some, boolP_b, boolP'_b, boolE_b, decide_eq_true_eq, decide_true, decide_false, valP_val, valP_guard, vN_val, ldN_some, stN_some, faN_some, iaN_some, lnN_some, pkN_b, sliceO_some, slice_lo, slice_hi, slice_1, indexAddr_0, Nat.add_one_sub_one, Nat.one_mul, len_sl, len_ns, len_str', posS, eq0S, cast0, Int.reduceLT, Int.reduceLE, Int.reduceBEq, Option.map_none, Nat.lt_add_left_iff_pos, Nat.zero_lt_succ, Nat.le_add_left, SK_move, SK_assign, SK_pick, SK_alloc, SK_box, SK_load, SK_store, SK_bin, SK_not, SK_fieldAddr, SK_field, SK_indexAddr, SK_slice, SK_extract, SK_nilCheck, SK_makeFunc, SK_makeMap, SK_makeSlice, SK_build, SK_buildSlice, SK_len, SK_append, SK_call, doCall_clo, doCall_clo, evTmp, ev_int, ev_bool, ev_str, ev_nilS, ev_func, opFev, evs_cons, evs_nil, slot_put, putD_nt, putD_none, putD_dfr, slotOk, Nat.blt_eq, Nat.reduceLT, Nat.reduceEqDiff, Nat.reduceLeDiff, reduceIte, true_and, and_true, true_or, or_true, if_true, if_false, Bool.false_eq_true, Bool.true_eq_false, not_false_eq_true, not_true_eq_false, ltV_ptr, ltV_sl, ltV_nil, ltV_str, ltV_i, nxNew, nxMod, get_newE, get_newL, get_modE, get_modN, ltAdd, ltSelf, eqLt, eqGt, eqLtA, eqGtA, eqSelfA, eqASelf, eqAA, ltAA, doLoad_ptr, doStore_ptr, rowOf_arr, rowOf_ro, ldO_agg, ldO_one, stO_arr, splice_eq, fieldAddr_at, Bool.not_eq_true', Bool.not_eq_false', decide_eq_false_iff_not, ne_eq, Nat.reduceLeDiff, Nat.lt_irrefl, gt_iff_lt, cells_one, cells_agg, noTup_one, noTup_agg, List.length_cons, List.length_nil, Nat.zero_add, Nat.add_zero, Nat.reduceAdd, Nat.reduceSub, Nat.reduceMul, Nat.le_refl, Nat.zero_le, capsOf_nil, capsOf_cons, capArgs_nil, capArgs_cons, List.cons_append, List.nil_append, List.append_nil, ex_0, ex_0a, ex_1, ex_1a, ex_2, ex_2a, ii_lss, ii_leq, ii_gtr, ii_geq, ii_eql, ii_neq, ii_add, ii_sub, ii_mul, ss_lss, ss_geq, ss_leq, ss_gtr, ss_eql, ss_neq, List.take_succ_cons, List.take_zero, List.drop_succ_cons, List.drop_zero, List.take_nil, List.drop_nil, List.headD_cons, Bool.not_true, Bool.not_false, Nat.lt_add_one, bin_agg, bin_b, agg2_agg, bool2_b, aggEq_nil, aggEq_s, aggEq_i, aggEq_b, aggO_some, fill_nil, fill_cons, Nat.zero_mul, partsF_nil, partsF_cons, repl_one, SK_lookup, SK_mapUpdate, lkN_some, upN_some, ltV_mp, nilCheck_ptr, lookOut_f, lookOut_t, doCall_yl, ofValue_int, ofValue_bool, ev_nilP, ev_nilM, ev_nilF, hnt]; refine hK _ _ ?_; clear hK K)
        refine q2 _ _ ?_
        repeat' first | refine R1.ret ?_ | refine R1.exit ?_ | refine R1.skip ?_ | refine R1.s_ret ?_ | refine R1.s_exit ?_ | refine R1.s_assoc ?_ | refine R1.s_skip ?_ | refine R1.s_scope ?_ | ((first | refine R1.e_rg fun K hK => ?_ | refine R1.s_rg fun K hK => ?_ | refine R1.e_sq (by kernel_rfl) fun K hK => ?_ | refine R1.s_sq (by kernel_rfl) fun K hK => ?_); simp only [SG_nil, SG_cons, SU_yes, gw_n, gOf_n, List.map_cons, List.map_nil, SK_move, SK_assign, evTmp, ev_int, slot_put, putD_nt, slotOk, Nat.blt_eq, Nat.reduceLT, true_and, if_true, if_false, eqLt, eqGt, Nat.lt_add_one, hnt, t6]; refine hK _ _ ?_; clear hK K)
        refine ⟨_, _, callEnd_two (.o (.ptr kb 0 0 4)) (.i .i64 0) (.inr rfl) (by simp only [putD_dfr, hdf]) (by simp only [slot_put, Nat.reduceEqDiff, reduceIte]) (by simp only [slot_put, Nat.reduceEqDiff, reduceIte]), g1, fun _ => ⟨_, by rw [← hr], fun _ => nb.book, fun h => absurd hr.symm h⟩⟩
    · simp only [slot_put, Nat.reduceEqDiff, reduceIte, putD_nt, putD_dfr, t1, t6, hnt, hdf, and_self, true_and]
      exact ⟨rfl, trivial⟩
end Go.Proofs.YtiejeicaaojdlaaGreat
