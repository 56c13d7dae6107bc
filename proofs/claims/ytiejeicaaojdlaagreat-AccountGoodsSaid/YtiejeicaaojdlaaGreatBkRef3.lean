/- The reference's books: CopyLadder, at, NewBook, Ladder: what they answer. -/
import Derived.Test.YtiejeicaaojdlaaGreatBkRef2
import Derived.Test.YtiejeicaaojdlaaGreatBkFacts3
namespace Go.Proofs.YtiejeicaaojdlaaGreat
open Go Go.Eng

theorem bd_copyLad : hasBody Tryz.prog 69 = true := by kernel_rfl
theorem bd_rAt : hasBody Tryz.prog 68 = true := by kernel_rfl
theorem bd_rNew : hasBody Tryz.prog 30 = true := by kernel_rfl
theorem bd_rLadder : hasBody Tryz.prog 39 = true := by kernel_rfl

set_option maxRecDepth 10000 in
set_option maxHeartbeats 4000000 in
theorem copyLad_con (H : Hp) (n : List UInt8) (u : AC) (us : List Pr) (hu : SlP H u us) (hL : us.length ≤ 1000000) :
    Con E2 69 [.agg [.o (.str n), u]] H (fun _ => False) fun r H' => ∃ u', r = .agg [.o (.str n), u'] ∧ SlP H' u' us ∧ ∀ id ∈ (AV.one u').ids, H.nx ≤ id := by
  refine Con.of rfl fun lg => ?_
  have hu : SlP ⟨H.t, H.nx, lg⟩ u us := hu
  have e0 : H.nx = (⟨H.t, H.nx, lg⟩ : Hp).nx := rfl
  rw [e0]
  clear e0
  generalize (⟨H.t, H.nx, lg⟩ : Hp) = H at hu ⊢
  refine C1.body (E := E2) (nt := 11) (res := [.cell 2 78]) Tryz.func69 rfl rfl rfl rfl rfl fun tm hargs => ?_
  have h0 := hargs 0 _ rfl
  clear hargs
  repeat refine R1.s_assoc ?_
  refine R1.s_rg fun K hK => ?_
  simp only [SG_nil, SG_cons, SU_yes, gw_n, gOf_n, List.map_cons, List.map_nil, optP_some, SK_alloc, SK_box, evTmp, putD_nt, slotOk, Nat.blt_eq, Nat.reduceLT, true_and, nxNew, cells_agg, noTup_agg, List.length_cons, List.length_nil, Nat.zero_add, Nat.reduceAdd, E2_P, h0, zr_lad]
  refine hK _ _ ?_
  clear hK K
  refine R1.gen (fun A1 H1 => Gr H H1 ∧ H.nx + 1 < H1.nx ∧ H1.get H.nx = some (.arr [.o (.str n), u] 78 0 0) ∧ H1.get (H.nx + 1) = some (.arr [.o (.str []), .o .nilS] 78 0 0) ∧ slot A1.tm 1 = .one (.o (.ptr H.nx 0 0 2)) ∧ slot A1.tm 2 = .one (.o (.ptr (H.nx + 1) 0 0 2)) ∧ A1.nt = 11 ∧ A1.dfr = [])
    ⟨((Fr.refl _).new _).new _, ?_⟩ ?_
  · simp only [slot_put, putD_nt, putD_dfr, and_true, if_true, if_false, nxNew, get_newE, get_newL, eqLt, eqGt, Nat.lt_add_one]
  rintro A1 H1 ⟨g1, n1, r1, r2, t1, t2, hnt, hdf⟩
  clear h0 tm
  have hu1 : SlP H1 u us := hu.gr g1
  have l1 : H.nx < H1.nx := by omega
  have hlu : ∀ id ∈ (AV.one u).ids, id < H1.nx := hu1.lt
  obtain ⟨z, hz, hzl⟩ := zx_unit
  repeat refine R1.s_assoc ?_
  refine R1.s_rg fun K hK => ?_
  simp only [SG_nil, SG_cons, SU_yes, gw_n, gOf_n, List.map_cons, List.map_nil, SK_assign, ev_nilS, slotOk, Nat.blt_eq, Nat.reduceLT, true_and, hnt]
  refine hK _ _ ?_
  clear hK K
  repeat refine R1.s_assoc ?_
  (first | refine R1.s_drw (ms := [0, 1, 0, 0, 8, 28, 63, 127]) (by kernel_rfl) (by kernel_rfl) fun K hK => ?_ | refine R1.e_drw (ms := [0, 1, 0, 0, 8, 28, 63, 127]) (by kernel_rfl) (by kernel_rfl) fun K hK => ?_)
  simp (config := {decide := true}) only [gw_n, gOf_n, valP_val, Nat.add_one_sub_one, evTmp, slot_put, putD_nt, putD_none, slotOk, Nat.blt_eq, Nat.reduceLT, Nat.reduceLeDiff, true_and, and_true, true_or, if_true, if_false, not_false_eq_true, doLoad_ptr, rowOf_arr, ldO_one, fieldAddr_at, Nat.reduceLeDiff, List.length_cons, List.length_nil, Nat.zero_add, Nat.add_zero, Nat.reduceAdd, Nat.reduceSub, Nat.le_refl, List.drop_succ_cons, List.drop_zero, List.headD_cons, DK_append, DO_cons, DO_nil, DU_yes, DK_load, DK_store, DK_move, DK_fieldAddr, DK_build, ptrP_ptr, DP_val, unordS, Untou, st_move, st_load', st_store', st_fieldAddr', ldS_some, faS_some, List.not_mem_nil, not_false_eq_true, E2_P, t1, hnt, r1, l1, fd_lad_0, fd_lad_1, ld_str, ld_units]
  refine AP_nil el_units by_unit hz hzl (by decide) hu1 (by omega) (fun id h => by have := hlu id h; simp (config := {decide := true}) [unordS, Untou] <;> omega) fun v c1 H2 hv hvn g2 hc => ?_
  subst hc
  have r2 : H2.get (H.nx + 1) = some (.arr [.o (.str []), .o .nilS] 78 0 0) := by rw [g2.get _ n1 not_false]; exact r2
  have n2 : H.nx + 1 < H2.nx := Nat.lt_of_lt_of_le n1 g2.nx
  simp (config := {decide := true}) only [Option.map_some, Option.bind_some, valP_val, evTmp, opFev, slot_put, putD_nt, Nat.reduceLeDiff, true_and, if_true, if_false, doStore_ptr, stO_arr, Nat.reduceLeDiff, cells_one, cells_agg, noTup_one, noTup_agg, List.length_cons, List.length_nil, Nat.zero_add, Nat.reduceAdd, Nat.le_refl, List.cons_append, List.nil_append, List.append_nil, List.take_succ_cons, List.take_zero, List.drop_succ_cons, List.drop_zero, List.drop_nil, Nat.lt_add_one, fill_nil, fill_cons, partsF_nil, partsF_cons, buO_some, fiO_some, ptrP_ptr, DP_val, unordS, Untou, Unseen, stS_some, t2, hnt, st_bu zr_lad pt_lad, pl_lad_0, pl_lad_1, sz_lad, r2, n2]
  refine hK _ _ ?_
  clear hK K
  repeat' first | refine R1.ret ?_ | refine R1.exit ?_ | refine R1.skip ?_ | refine R1.s_ret ?_ | refine R1.s_exit ?_ | refine R1.s_assoc ?_ | refine R1.s_skip ?_ | refine R1.s_scope ?_ | ((first | refine R1.e_rg fun K hK => ?_ | refine R1.s_rg fun K hK => ?_ | refine R1.e_sq (by kernel_rfl) fun K hK => ?_ | refine R1.s_sq (by kernel_rfl) fun K hK => ?_); simp only [SG_nil, SG_cons, SU_yes, SU_no, gw_n, gw_gwv, gwv_b, gwv_u, gOf_n, gOf_some, List.map_cons, List.map_nil, List.getElem?_cons_zero, List.getElem?_cons_succ, Option.elim_some, Option.map_some, Option.bind_some, optP_some, boolP_b, boolP'_b, boolE_b, decide_eq_true_eq, decide_true, decide_false, valP_val, valP_guard, vN_val, ldN_some, stN_some, faN_some, iaN_some, lnN_some, pkN_b, sliceO_some, slice_lo, slice_hi, slice_1, indexAddr_0, Nat.add_one_sub_one, Nat.one_mul, len_sl, len_ns, len_str', posS, eq0S, cast0, Int.reduceLT, Int.reduceLE, Int.reduceBEq, Option.map_none, Nat.lt_add_left_iff_pos, Nat.zero_lt_succ, Nat.le_add_left, SK_move, SK_assign, SK_pick, SK_alloc, SK_box, SK_load, SK_store, SK_bin, SK_not, SK_fieldAddr, SK_field, SK_indexAddr, SK_slice, SK_extract, SK_nilCheck, SK_makeFunc, SK_makeMap, SK_makeSlice, SK_build, SK_buildSlice, SK_len, SK_append, SK_call, doCall_clo, doCall_clo, evTmp, ev_int, ev_bool, ev_str, ev_nilS, ev_func, opFev, evs_cons, evs_nil, slot_put, putD_nt, putD_none, putD_dfr, slotOk, Nat.blt_eq, Nat.reduceLT, Nat.reduceEqDiff, Nat.reduceLeDiff, reduceIte, true_and, and_true, true_or, or_true, if_true, if_false, Bool.false_eq_true, Bool.true_eq_false, not_false_eq_true, not_true_eq_false, ltV_ptr, ltV_sl, ltV_nil, ltV_str, ltV_i, nxNew, nxMod, get_newE, get_newL, get_modE, get_modN, ltAdd, ltSelf, eqLt, eqGt, eqLtA, eqGtA, eqSelfA, eqASelf, eqAA, ltAA, doLoad_ptr, doStore_ptr, rowOf_arr, rowOf_ro, ldO_agg, ldO_one, stO_arr, splice_eq, fieldAddr_at, Bool.not_eq_true', Bool.not_eq_false', decide_eq_false_iff_not, ne_eq, Nat.reduceLeDiff, Nat.lt_irrefl, gt_iff_lt, cells_one, cells_agg, noTup_one, noTup_agg, List.length_cons, List.length_nil, Nat.zero_add, Nat.add_zero, Nat.reduceAdd, Nat.reduceSub, Nat.reduceMul, Nat.le_refl, Nat.zero_le, capsOf_nil, capsOf_cons, capArgs_nil, capArgs_cons, List.cons_append, List.nil_append, List.append_nil, ex_0, ex_0a, ex_1, ex_1a, ex_2, ex_2a, ii_lss, ii_leq, ii_gtr, ii_geq, ii_eql, ii_neq, ii_add, ii_sub, ii_mul, ss_lss, ss_geq, ss_leq, ss_gtr, ss_eql, ss_neq, List.take_succ_cons, List.take_zero, List.drop_succ_cons, List.drop_zero, List.take_nil, List.drop_nil, List.headD_cons, Bool.not_true, Bool.not_false, Nat.lt_add_one, bin_agg, bin_b, agg2_agg, bool2_b, aggEq_nil, aggEq_s, aggEq_i, aggEq_b, aggO_some, fill_nil, fill_cons, Nat.zero_mul, partsF_nil, partsF_cons, repl_one, SK_lookup, SK_mapUpdate, lkN_some, upN_some, ltV_mp, nilCheck_ptr, lookOut_f, lookOut_t, doCall_yl, ofValue_int, ofValue_bool, ev_nilP, ev_nilM, ev_nilF]; refine hK _ _ ?_; clear hK K)
  have hv3 : SlP (H2.mod (H.nx + 1) (.arr [.o (.str n), v] 78 0 0)) v us := SlC.fr hv (X := fun k => k = H.nx + 1) ((Fr.refl _).mod _ (.inr rfl)) fun id h hh => by have := hvn id h; omega
  exact ⟨_, _, callEnd_cells (id := H.nx + 1) (g := 0) ld_lad (.inr rfl) (by simp only [putD_dfr, hdf]; rfl) (by simp only [slot_put, Nat.reduceEqDiff, reduceIte, t2]) (by rw [get_modE rfl]; exact rowOf_arr (Nat.le_refl _) (Nat.le_refl _)) (Nat.le_refl _) rfl, (g1.gr g2).mod _ (.inl (Nat.le_succ _)), fun _ => ⟨v, rfl, hv3, fun id h => by have := hvn id h; omega⟩⟩

/-- The reference's book in memory. -/
def RBk (H : Hp) (p : AC) (ls : List Lad) : Prop := ∃ kb lad, p = .o (.ptr kb 0 0 2) ∧ kb < H.nx ∧ H.get kb = some (.arr [lad, .o .nilS] 134 0 0) ∧ SlLad H lad ls
theorem RBk.gr {H H' : Hp} {p : AC} {ls : List Lad} (h : RBk H p ls) (hg : Gr H H') : RBk H' p ls := by
  obtain ⟨kb, lad, h1, h2, h3, h4⟩ := h
  exact ⟨kb, lad, h1, Nat.lt_of_lt_of_le h2 hg.nx, by rw [hg.get _ h2 not_false]; exact h3, h4.gr hg⟩

def atN : Nat → List Lad → List UInt8 → Int
  | _, [], _ => -1
  | n, x :: l, s => if x.1 = s then (n : Int) else atN (n + 1) l s
theorem atN_idx : ∀ (n : Nat) (ls : List Lad) (s : List UInt8), atN n ls s = (idxN n ls s).elim (-1) fun i => (i : Int)
  | _, [], _ => rfl
  | n, x :: l, s => by
    unfold atN idxN
    by_cases h : x.1 = s
    · rw [if_pos h, if_pos h]; rfl
    · rw [if_neg h, if_neg h]; exact atN_idx (n + 1) l s

set_option maxRecDepth 10000 in
set_option maxHeartbeats 4000000 in
theorem rAt_con (H : Hp) (p : AC) (ls : List Lad) (s : List UInt8) (hp : RBk H p ls) (hL : ls.length ≤ 1000000) :
    Con E2 68 [.one p, .one (.o (.str s))] H (fun _ => False) fun r _ => r = .one (.i .i64 (atN 0 ls s)) := by
  refine Con.of rfl fun lg => ?_
  have hp : RBk ⟨H.t, H.nx, lg⟩ p ls := hp
  generalize (⟨H.t, H.nx, lg⟩ : Hp) = H at hp ⊢
  refine C1.body (E := E2) (nt := 26) (res := [.tmp 4]) Tryz.func68 rfl rfl rfl rfl rfl fun tm hargs => ?_
  have h0 := hargs 0 _ rfl
  have h1 := hargs 1 _ rfl
  clear hargs
  obtain ⟨kb, lad, rfl, k1, k2, hl⟩ := hp
  generalize hr0 : atN 0 ls s = r0
  repeat' first | refine R1.ret ?_ | refine R1.exit ?_ | refine R1.skip ?_ | refine R1.s_ret ?_ | refine R1.s_exit ?_ | refine R1.s_assoc ?_ | refine R1.s_skip ?_ | refine R1.s_scope ?_ | ((first | refine R1.e_rg fun K hK => ?_ | refine R1.s_rg fun K hK => ?_ | refine R1.e_sq (by kernel_rfl) fun K hK => ?_ | refine R1.s_sq (by kernel_rfl) fun K hK => ?_); simp only [SG_nil, SG_cons, SU_yes, gw_n, gOf_n, List.map_cons, List.map_nil, SK_assign, ev_int, putD_nt, slotOk, Nat.blt_eq, Nat.reduceLT, true_and]; refine hK _ _ ?_; clear hK K)
  refine R1.s_block fun K k1' k2' k3 k4 => ?_
  refine R1.loop (fun k A H2 => ∃ i : Nat, k = ls.length - i ∧ i ≤ ls.length ∧ H2 = H ∧ atN i (ls.drop i) s = r0 ∧ slot A.tm 0 = .one (.o (.ptr kb 0 0 2)) ∧ slot A.tm 1 = .one (.o (.str s)) ∧ slot A.tm 5 = .one (.i .i64 (i : Int)) ∧ A.nt = 26 ∧ A.dfr = []) ?_ ls.length
    ⟨0, rfl, Nat.zero_le _, rfl, hr0, ?_⟩
  · clear h0 h1 tm
    rintro k A H2 ⟨i, rfl, hi, rfl, hr, t0, t1, t5, hnt, hdf⟩
    repeat' first | refine R1.ret ?_ | refine R1.exit ?_ | refine R1.skip ?_ | refine R1.s_ret ?_ | refine R1.s_exit ?_ | refine R1.s_assoc ?_ | refine R1.s_skip ?_ | refine R1.s_scope ?_ | ((first | refine R1.e_rg fun K hK => ?_ | refine R1.s_rg fun K hK => ?_ | refine R1.e_sq (by kernel_rfl) fun K hK => ?_ | refine R1.s_sq (by kernel_rfl) fun K hK => ?_); simp only [SG_nil, SG_cons, SU_yes, gw_n, gOf_n, List.map_cons, List.map_nil, vN_val, ldN_some, faN_some, lnN_some, Nat.zero_lt_succ, SK_move, SK_load, SK_bin, SK_fieldAddr, SK_nilCheck, SK_len, evTmp, slot_put, putD_nt, slotOk, Nat.blt_eq, Nat.reduceLT, Nat.reduceLeDiff, true_and, if_true, if_false, ltV_ptr, eqLt, eqGt, doLoad_ptr, rowOf_arr, ldO_one, fieldAddr_at, Nat.reduceLeDiff, List.length_cons, List.length_nil, Nat.zero_add, Nat.add_zero, Nat.reduceAdd, Nat.reduceSub, Nat.le_refl, ii_lss, List.drop_zero, List.headD_cons, Nat.lt_add_one, nilCheck_ptr, E2_P, t0, t5, hnt, k1, k2, fd_rbook_0, ld_lads, ln_lads, hl.len, hl.lt]; refine hK _ _ ?_; clear hK K)
    repeat refine R1.s_assoc ?_
    (first | refine R1.s_cnd fun Kx Ky hx hy => ?_ | refine R1.e_cnd fun Kx Ky hx hy => ?_); simp only [boolP'_b, decide_eq_true_eq, evTmp, slot_put, Nat.reduceLT, if_true, if_false, eqGt, Nat.lt_add_one]
    refine iteI (fun hc => hx ?_) (fun hc => hy ?_)
    · clear hx hy Kx Ky
      have hlt : i < ls.length := by omega
      obtain ⟨id, g, off, cells, rfl, hid, hgr, hat⟩ := hl.open (by omega)
      have ex : ls[i]? = some ls[i] := List.getElem?_eq_getElem hlt
      have hdr : ls.drop i = ls[i] :: ls.drop (i + 1) := List.drop_eq_getElem_cons hlt
      generalize ls[i] = x at ex hdr
      obtain ⟨u, hu, hx0, hx1, hx2, hx3, hx4, hx5⟩ := hat i x ex
      have hw2 : IntKind.i64.wrap ((i : Int) + 1) = ((i + 1 : Nat) : Int) := by rw [wrapI (by omega) (by omega)]; omega
      rw [hdr, atN] at hr
      repeat' first | refine R1.ret ?_ | refine R1.exit ?_ | refine R1.skip ?_ | refine R1.s_ret ?_ | refine R1.s_exit ?_ | refine R1.s_assoc ?_ | refine R1.s_skip ?_ | refine R1.s_scope ?_ | ((first | refine R1.e_rg fun K hK => ?_ | refine R1.s_rg fun K hK => ?_ | refine R1.e_sq (by kernel_rfl) fun K hK => ?_ | refine R1.s_sq (by kernel_rfl) fun K hK => ?_); simp only [SG_nil, SG_cons, SU_yes, SU_no, gw_n, gw_gwv, gwv_b, gwv_u, gOf_n, gOf_some, List.map_cons, List.map_nil, List.getElem?_cons_zero, List.getElem?_cons_succ, Option.elim_some, Option.map_some, Option.bind_some, optP_some, boolP_b, boolP'_b, boolE_b, decide_eq_true_eq, decide_true, decide_false, valP_val, valP_guard, vN_val, ldN_some, stN_some, faN_some, iaN_some, lnN_some, pkN_b, sliceO_some, slice_lo, slice_hi, slice_1, indexAddr_0, Nat.add_one_sub_one, Nat.one_mul, len_sl, len_ns, len_str', posS, eq0S, cast0, Int.reduceLT, Int.reduceLE, Int.reduceBEq, Option.map_none, Nat.lt_add_left_iff_pos, Nat.zero_lt_succ, Nat.le_add_left, SK_move, SK_assign, SK_pick, SK_alloc, SK_box, SK_load, SK_store, SK_bin, SK_not, SK_fieldAddr, SK_field, SK_indexAddr, SK_slice, SK_extract, SK_nilCheck, SK_makeFunc, SK_makeMap, SK_makeSlice, SK_build, SK_buildSlice, SK_len, SK_append, SK_call, doCall_clo, doCall_clo, evTmp, ev_int, ev_bool, ev_str, ev_nilS, ev_func, opFev, evs_cons, evs_nil, slot_put, putD_nt, putD_none, putD_dfr, slotOk, Nat.blt_eq, Nat.reduceLT, Nat.reduceEqDiff, Nat.reduceLeDiff, reduceIte, true_and, and_true, true_or, or_true, if_true, if_false, Bool.false_eq_true, Bool.true_eq_false, not_false_eq_true, not_true_eq_false, ltV_ptr, ltV_sl, ltV_nil, ltV_str, ltV_i, nxNew, nxMod, get_newE, get_newL, get_modE, get_modN, ltAdd, ltSelf, eqLt, eqGt, eqLtA, eqGtA, eqSelfA, eqASelf, eqAA, ltAA, doLoad_ptr, doStore_ptr, rowOf_arr, rowOf_ro, ldO_agg, ldO_one, stO_arr, splice_eq, fieldAddr_at, Bool.not_eq_true', Bool.not_eq_false', decide_eq_false_iff_not, ne_eq, Nat.reduceLeDiff, Nat.lt_irrefl, gt_iff_lt, cells_one, cells_agg, noTup_one, noTup_agg, List.length_cons, List.length_nil, Nat.zero_add, Nat.add_zero, Nat.reduceAdd, Nat.reduceSub, Nat.reduceMul, Nat.le_refl, Nat.zero_le, capsOf_nil, capsOf_cons, capArgs_nil, capArgs_cons, List.cons_append, List.nil_append, List.append_nil, ex_0, ex_0a, ex_1, ex_1a, ex_2, ex_2a, ii_lss, ii_leq, ii_gtr, ii_geq, ii_eql, ii_neq, ii_add, ii_sub, ii_mul, ss_lss, ss_geq, ss_leq, ss_gtr, ss_eql, ss_neq, List.take_succ_cons, List.take_zero, List.drop_succ_cons, List.drop_zero, List.take_nil, List.drop_nil, List.headD_cons, Bool.not_true, Bool.not_false, Nat.lt_add_one, bin_agg, bin_b, agg2_agg, bool2_b, aggEq_nil, aggEq_s, aggEq_i, aggEq_b, aggO_some, fill_nil, fill_cons, Nat.zero_mul, partsF_nil, partsF_cons, repl_one, SK_lookup, SK_mapUpdate, lkN_some, upN_some, ltV_mp, nilCheck_ptr, lookOut_f, lookOut_t, doCall_yl, ofValue_int, ofValue_bool, ev_nilP, ev_nilM, ev_nilF]; refine hK _ _ ?_; clear hK K)
      refine R1.s_block fun K2 q1 q2 q3 q4 => ?_
      repeat refine R1.s_assoc ?_
      refine R1.s_rg fun K hK => ?_
      simp only [SG_nil, SG_cons, SU_yes, gw_n, gOf_n, List.map_cons, List.map_nil, vN_val, ldN_some, faN_some, iaN_some, Nat.zero_lt_succ, SK_move, SK_load, SK_bin, SK_fieldAddr, SK_indexAddr, SK_nilCheck, evTmp, slot_put, putD_nt, slotOk, Nat.blt_eq, Nat.reduceLT, Nat.reduceLeDiff, true_and, if_true, if_false, ltV_ptr, eqLt, eqGt, doLoad_ptr, rowOf_arr, ldO_one, fieldAddr_at, Nat.reduceLeDiff, List.length_cons, List.length_nil, Nat.zero_add, Nat.add_zero, Nat.reduceAdd, Nat.reduceSub, Nat.le_refl, ss_eql, List.drop_zero, List.headD_cons, Nat.lt_add_one, nilCheck_ptr, E2_P, t0, t1, t5, hnt, k1, k2, fd_rbook_0, ld_lads, el_lads, fd_lad_0, ld_str, indexAddr_cast hlt, hid, hgr, hx2, hx4]
      refine hK _ _ ?_
      clear hK K
      by_cases hxs : x.1 = s
      · rw [if_pos hxs] at hr
        have ce : lEq x.1 s = true := by rw [lEq_eq, hxs, beq_self_eq_true]
        repeat refine R1.s_assoc ?_
        (first | refine R1.s_cnd fun Kx Ky hx hy => ?_ | refine R1.e_cnd fun Kx Ky hx hy => ?_); simp only [boolP'_b, evTmp, slot_put, Nat.reduceLT, if_true, if_false, eqGt, Nat.lt_add_one, ce]
        refine hx ?_
        clear hx hy Kx Ky
        repeat' first | refine R1.ret ?_ | refine R1.exit ?_ | refine R1.skip ?_ | refine R1.s_ret ?_ | refine R1.s_exit ?_ | refine R1.s_assoc ?_ | refine R1.s_skip ?_ | refine R1.s_scope ?_ | ((first | refine R1.e_rg fun K hK => ?_ | refine R1.s_rg fun K hK => ?_ | refine R1.e_sq (by kernel_rfl) fun K hK => ?_ | refine R1.s_sq (by kernel_rfl) fun K hK => ?_); simp only [SG_nil, SG_cons, SU_yes, gw_n, gOf_n, List.map_cons, List.map_nil, SK_move, SK_assign, evTmp, slot_put, putD_nt, slotOk, Nat.blt_eq, Nat.reduceLT, true_and, if_true, if_false, eqLt, eqGt, Nat.lt_add_one, hnt, t5]; refine hK _ _ ?_; clear hK K)
        exact q4 _ _ (k4 _ _ ⟨_, _, callEnd_one (.i .i64 (i : Int)) (.inr rfl) (by simp only [putD_dfr, hdf]) (by simp only [slot_put, Nat.reduceEqDiff, reduceIte]), Fr.refl _, fun _ => by rw [← hr]⟩)
      · rw [if_neg hxs] at hr
        have ce : lEq x.1 s = false := by rw [lEq_eq]; exact beq_false_of_ne hxs
        repeat refine R1.s_assoc ?_
        (first | refine R1.s_cnd fun Kx Ky hx hy => ?_ | refine R1.e_cnd fun Kx Ky hx hy => ?_); simp only [boolP'_b, evTmp, slot_put, Nat.reduceLT, if_true, if_false, Bool.false_eq_true, eqGt, Nat.lt_add_one, ce]
        refine hy ?_
        clear hx hy Kx Ky
        repeat' first | refine R1.ret ?_ | refine R1.exit ?_ | refine R1.skip ?_ | refine R1.s_ret ?_ | refine R1.s_exit ?_ | refine R1.s_assoc ?_ | refine R1.s_skip ?_ | refine R1.s_scope ?_ | ((first | refine R1.e_rg fun K hK => ?_ | refine R1.s_rg fun K hK => ?_ | refine R1.e_sq (by kernel_rfl) fun K hK => ?_ | refine R1.s_sq (by kernel_rfl) fun K hK => ?_); simp only [SG_nil, SG_cons, SU_yes, SU_no, gw_n, gw_gwv, gwv_b, gwv_u, gOf_n, gOf_some, List.map_cons, List.map_nil, List.getElem?_cons_zero, List.getElem?_cons_succ, Option.elim_some, Option.map_some, Option.bind_some, optP_some, boolP_b, boolP'_b, boolE_b, decide_eq_true_eq, decide_true, decide_false, valP_val, valP_guard, vN_val, ldN_some, stN_some, faN_some, iaN_some, lnN_some, pkN_b, sliceO_some, slice_lo, slice_hi, slice_1, indexAddr_0, Nat.add_one_sub_one, Nat.one_mul, len_sl, len_ns, len_str', posS, eq0S, cast0, Int.reduceLT, Int.reduceLE, Int.reduceBEq, Option.map_none, Nat.lt_add_left_iff_pos, Nat.zero_lt_succ, Nat.le_add_left, SK_move, SK_assign, SK_pick, SK_alloc, SK_box, SK_load, SK_store, SK_bin, SK_not, SK_fieldAddr, SK_field, SK_indexAddr, SK_slice, SK_extract, SK_nilCheck, SK_makeFunc, SK_makeMap, SK_makeSlice, SK_build, SK_buildSlice, SK_len, SK_append, SK_call, doCall_clo, doCall_clo, evTmp, ev_int, ev_bool, ev_str, ev_nilS, ev_func, opFev, evs_cons, evs_nil, slot_put, putD_nt, putD_none, putD_dfr, slotOk, Nat.blt_eq, Nat.reduceLT, Nat.reduceEqDiff, Nat.reduceLeDiff, reduceIte, true_and, and_true, true_or, or_true, if_true, if_false, Bool.false_eq_true, Bool.true_eq_false, not_false_eq_true, not_true_eq_false, ltV_ptr, ltV_sl, ltV_nil, ltV_str, ltV_i, nxNew, nxMod, get_newE, get_newL, get_modE, get_modN, ltAdd, ltSelf, eqLt, eqGt, eqLtA, eqGtA, eqSelfA, eqASelf, eqAA, ltAA, doLoad_ptr, doStore_ptr, rowOf_arr, rowOf_ro, ldO_agg, ldO_one, stO_arr, splice_eq, fieldAddr_at, Bool.not_eq_true', Bool.not_eq_false', decide_eq_false_iff_not, ne_eq, Nat.reduceLeDiff, Nat.lt_irrefl, gt_iff_lt, cells_one, cells_agg, noTup_one, noTup_agg, List.length_cons, List.length_nil, Nat.zero_add, Nat.add_zero, Nat.reduceAdd, Nat.reduceSub, Nat.reduceMul, Nat.le_refl, Nat.zero_le, capsOf_nil, capsOf_cons, capArgs_nil, capArgs_cons, List.cons_append, List.nil_append, List.append_nil, ex_0, ex_0a, ex_1, ex_1a, ex_2, ex_2a, ii_lss, ii_leq, ii_gtr, ii_geq, ii_eql, ii_neq, ii_add, ii_sub, ii_mul, ss_lss, ss_geq, ss_leq, ss_gtr, ss_eql, ss_neq, List.take_succ_cons, List.take_zero, List.drop_succ_cons, List.drop_zero, List.take_nil, List.drop_nil, List.headD_cons, Bool.not_true, Bool.not_false, Nat.lt_add_one, bin_agg, bin_b, agg2_agg, bool2_b, aggEq_nil, aggEq_s, aggEq_i, aggEq_b, aggO_some, fill_nil, fill_cons, Nat.zero_mul, partsF_nil, partsF_cons, repl_one, SK_lookup, SK_mapUpdate, lkN_some, upN_some, ltV_mp, nilCheck_ptr, lookOut_f, lookOut_t, doCall_yl, ofValue_int, ofValue_bool, ev_nilP, ev_nilM, ev_nilF, hnt]; refine hK _ _ ?_; clear hK K)
        refine q1 _ _ ?_
        repeat' first | refine R1.ret ?_ | refine R1.exit ?_ | refine R1.skip ?_ | refine R1.s_ret ?_ | refine R1.s_exit ?_ | refine R1.s_assoc ?_ | refine R1.s_skip ?_ | refine R1.s_scope ?_ | ((first | refine R1.e_rg fun K hK => ?_ | refine R1.s_rg fun K hK => ?_ | refine R1.e_sq (by kernel_rfl) fun K hK => ?_ | refine R1.s_sq (by kernel_rfl) fun K hK => ?_); simp only [SG_nil, SG_cons, SU_yes, gw_n, gOf_n, List.map_cons, List.map_nil, vN_val, SK_move, SK_assign, SK_bin, evTmp, ev_int, slot_put, putD_nt, slotOk, Nat.blt_eq, Nat.reduceLT, true_and, if_true, if_false, eqLt, eqGt, ii_add, Nat.lt_add_one, hnt, t5, hw2]; refine hK _ _ ?_; clear hK K)
        refine ⟨ls.length - (i + 1), by omega, i + 1, rfl, hlt, rfl, hr, ?_, ?_, ?_, ?_, ?_⟩
        · simp only [slot_put, Nat.reduceEqDiff, reduceIte, t0]
        · simp only [slot_put, Nat.reduceEqDiff, reduceIte, t1]
        · simp only [slot_put, Nat.reduceEqDiff, reduceIte]
        · simp only [putD_nt, hnt]
        · simp only [putD_dfr, hdf]
    · clear hx hy Kx Ky
      have hie : i = ls.length := by omega
      rw [hie, List.drop_length, atN] at hr
      repeat' first | refine R1.ret ?_ | refine R1.exit ?_ | refine R1.skip ?_ | refine R1.s_ret ?_ | refine R1.s_exit ?_ | refine R1.s_assoc ?_ | refine R1.s_skip ?_ | refine R1.s_scope ?_ | ((first | refine R1.e_rg fun K hK => ?_ | refine R1.s_rg fun K hK => ?_ | refine R1.e_sq (by kernel_rfl) fun K hK => ?_ | refine R1.s_sq (by kernel_rfl) fun K hK => ?_); simp only [SG_nil, SG_cons, SU_yes, SU_no, gw_n, gw_gwv, gwv_b, gwv_u, gOf_n, gOf_some, List.map_cons, List.map_nil, List.getElem?_cons_zero, List.getElem?_cons_succ, Option.elim_some, Option.map_some, Option.bind_some, optP_some, boolP_b, boolP'_b, boolE_b, decide_eq_true_eq, decide_true, decide_false, valP_val, valP_guard, vN_val, ldN_some, stN_some, faN_some, iaN_some, lnN_some, pkN_b, sliceO_some, slice_lo, slice_hi, slice_1, indexAddr_0, Nat.add_one_sub_one, Nat.one_mul, len_sl, len_ns, len_str', posS, eq0S, cast0, Int.reduceLT, Int.reduceLE, Int.reduceBEq, Option.map_none, Nat.lt_add_left_iff_pos, Nat.zero_lt_succ, Nat.le_add_left, SK_move, SK_assign, SK_pick, SK_alloc, SK_box, SK_load, SK_store, SK_bin, SK_not, SK_fieldAddr, SK_field, SK_indexAddr, SK_slice, SK_extract, SK_nilCheck, SK_makeFunc, SK_makeMap, SK_makeSlice, SK_build, SK_buildSlice, SK_len, SK_append, SK_call, doCall_clo, doCall_clo, evTmp, ev_int, ev_bool, ev_str, ev_nilS, ev_func, opFev, evs_cons, evs_nil, slot_put, putD_nt, putD_none, putD_dfr, slotOk, Nat.blt_eq, Nat.reduceLT, Nat.reduceEqDiff, Nat.reduceLeDiff, reduceIte, true_and, and_true, true_or, or_true, if_true, if_false, Bool.false_eq_true, Bool.true_eq_false, not_false_eq_true, not_true_eq_false, ltV_ptr, ltV_sl, ltV_nil, ltV_str, ltV_i, nxNew, nxMod, get_newE, get_newL, get_modE, get_modN, ltAdd, ltSelf, eqLt, eqGt, eqLtA, eqGtA, eqSelfA, eqASelf, eqAA, ltAA, doLoad_ptr, doStore_ptr, rowOf_arr, rowOf_ro, ldO_agg, ldO_one, stO_arr, splice_eq, fieldAddr_at, Bool.not_eq_true', Bool.not_eq_false', decide_eq_false_iff_not, ne_eq, Nat.reduceLeDiff, Nat.lt_irrefl, gt_iff_lt, cells_one, cells_agg, noTup_one, noTup_agg, List.length_cons, List.length_nil, Nat.zero_add, Nat.add_zero, Nat.reduceAdd, Nat.reduceSub, Nat.reduceMul, Nat.le_refl, Nat.zero_le, capsOf_nil, capsOf_cons, capArgs_nil, capArgs_cons, List.cons_append, List.nil_append, List.append_nil, ex_0, ex_0a, ex_1, ex_1a, ex_2, ex_2a, ii_lss, ii_leq, ii_gtr, ii_geq, ii_eql, ii_neq, ii_add, ii_sub, ii_mul, ss_lss, ss_geq, ss_leq, ss_gtr, ss_eql, ss_neq, List.take_succ_cons, List.take_zero, List.drop_succ_cons, List.drop_zero, List.take_nil, List.drop_nil, List.headD_cons, Bool.not_true, Bool.not_false, Nat.lt_add_one, bin_agg, bin_b, agg2_agg, bool2_b, aggEq_nil, aggEq_s, aggEq_i, aggEq_b, aggO_some, fill_nil, fill_cons, Nat.zero_mul, partsF_nil, partsF_cons, repl_one, SK_lookup, SK_mapUpdate, lkN_some, upN_some, ltV_mp, nilCheck_ptr, lookOut_f, lookOut_t, doCall_yl, ofValue_int, ofValue_bool, ev_nilP, ev_nilM, ev_nilF, hnt]; refine hK _ _ ?_; clear hK K)
      refine k2' _ _ ?_
      repeat' first | refine R1.ret ?_ | refine R1.exit ?_ | refine R1.skip ?_ | refine R1.s_ret ?_ | refine R1.s_exit ?_ | refine R1.s_assoc ?_ | refine R1.s_skip ?_ | refine R1.s_scope ?_ | ((first | refine R1.e_rg fun K hK => ?_ | refine R1.s_rg fun K hK => ?_ | refine R1.e_sq (by kernel_rfl) fun K hK => ?_ | refine R1.s_sq (by kernel_rfl) fun K hK => ?_); simp only [SG_nil, SG_cons, SU_yes, gw_n, gOf_n, List.map_cons, List.map_nil, SK_assign, ev_int, putD_nt, slotOk, Nat.blt_eq, Nat.reduceLT, true_and, hnt]; refine hK _ _ ?_; clear hK K)
      exact ⟨_, _, callEnd_one (.i .i64 (-1)) (.inr rfl) (by simp only [putD_dfr, hdf]) (by simp only [slot_put, Nat.reduceEqDiff, reduceIte]), Fr.refl _, fun _ => by rw [← hr]⟩
  · simp only [slot_put, Nat.reduceEqDiff, reduceIte, putD_nt, putD_dfr, h0, h1, and_self, true_and]
    exact ⟨rfl, trivial⟩
end Go.Proofs.YtiejeicaaojdlaaGreat
