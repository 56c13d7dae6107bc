/- CheckGoods: what it answers. -/
import Derived.Test.YtiejeicaaojdlaaGreatBkGath
namespace Go.Proofs.YtiejeicaaojdlaaGreat
open Go Go.Eng

theorem bd_checkGoods : hasBody Tryz.prog 8 = true := by kernel_rfl

noncomputable def goG (ls : List Lad) : List Gd → List Gd → Int
  | _, [] => 0
  | acc, x :: gs => if nmB x.1 = false then 50 else if 0 ≤ idxG 0 acc x.1 then 50 else if ladE (some ls) x.2.1 ≠ 0 then 4 else if gathB acc x = false then 50 else goG ls (acc ++ [x]) gs
noncomputable def chkG : Option (List Lad) → List Gd → Int
  | none, _ => 1
  | some ls, gs => if (32 : Int) < gs.length then 3 else goG ls [] gs

set_option maxRecDepth 10000 in
set_option maxHeartbeats 8000000 in
theorem checkGoods_con (H : Hp) (p v : AC) (o : Option (List Lad)) (gs : List Gd) (hp : BookO H p o) (hL : ∀ ls, o = some ls → ∀ x ∈ ls, x.2.length ≤ 1000000) (hv : SlG H v gs) (hB : ∀ x ∈ gs, x.2.2.length ≤ 4611686018427387904) :
    Con E2 8 [.one p, .one v] H (fun _ => False) fun r _ => r = .one (.i .i64 (chkG o gs)) := by
  refine Con.of rfl fun lg => ?_
  have hp : BookO ⟨H.t, H.nx, lg⟩ p o := BookO.same (H := H) rfl rfl hp
  have hv : SlG ⟨H.t, H.nx, lg⟩ v gs := hv
  generalize (⟨H.t, H.nx, lg⟩ : Hp) = H at hp hv ⊢
  refine C1.body (E := E2) (nt := 50) (res := [.tmp 4]) Tryz.func8 rfl rfl rfl rfl rfl fun tm hargs => ?_
  have h0 := hargs 0 _ rfl
  have h1 := hargs 1 _ rfl
  clear hargs
  have fin : ∀ (e : Int) (A : AAct) (H3 : Hp), slot A.tm 4 = .one (.i .i64 e) → A.dfr = [] → Gr H H3 → e = chkG o gs → ∃ w H4, callEnd E2 [.tmp 4] (.ret, A, H3) = .ok [(w, H4)] ∧ Gr H H4 ∧ ∀ _ : List Nat, w = .one (.i .i64 (chkG o gs)) := fun e A H3 h1 h2 h3 h4 => ⟨_, H3, callEnd_one (.i .i64 e) (.inr rfl) h2 h1, h3, fun _ => by rw [h4]⟩
  repeat' first | refine R1.ret ?_ | refine R1.exit ?_ | refine R1.skip ?_ | refine R1.s_ret ?_ | refine R1.s_exit ?_ | refine R1.s_assoc ?_ | refine R1.s_skip ?_ | refine R1.s_scope ?_ | ((first | refine R1.e_rg fun K hK => ?_ | refine R1.s_rg fun K hK => ?_ | refine R1.e_sq (by kernel_rfl) fun K hK => ?_ | refine R1.s_sq (by kernel_rfl) fun K hK => ?_); simp only [SG_nil, SG_cons, SU_yes, gw_n, gOf_n, List.map_cons, List.map_nil, Nat.zero_lt_succ, SK_move, SK_assign, SK_call, evTmp, ev_int, ev_func, evs_cons, evs_nil, slot_put, putD_nt, slotOk, Nat.blt_eq, Nat.reduceLT, true_and, if_true, if_false, eqLt, eqGt]; refine hK _ _ ?_; clear hK K)
  repeat refine R1.s_assoc ?_
  refine R1.s_rg fun K hK => ?_
  simp only [SG_cons, SU_yes, gw_n, gOf_n, List.map_cons, List.map_nil, Nat.zero_lt_succ, SK_move, SK_call, doCall_clo, doCall_clo, evTmp, ev_func, evs_cons, evs_nil, slot_put, putD_nt, slotOk, Nat.blt_eq, Nat.reduceLT, true_and, if_true, if_false, eqLt, eqGt, capArgs_nil, List.append_nil, E2_P, h0, bd_absent]
  refine WE.con (absent_con H p o hp hL) fun w H1 g1 hw => ?_
  subst hw
  simp only [SG_nil]
  refine hK _ _ ?_
  clear hK K
  have hp1 := hp.gr g1
  have hv1 := hv.gr g1
  cases o with
  | none =>
    repeat refine R1.s_assoc ?_
    (first | refine R1.s_cnd fun Kx Ky hx hy => ?_ | refine R1.e_cnd fun Kx Ky hx hy => ?_); simp only [boolP'_b, evTmp, slot_put, Nat.reduceLT, if_true, if_false, eqGt, Nat.lt_add_one]
    refine hx ?_
    clear hx hy Kx Ky
    repeat' first | refine R1.ret ?_ | refine R1.exit ?_ | refine R1.skip ?_ | refine R1.s_ret ?_ | refine R1.s_exit ?_ | refine R1.s_assoc ?_ | refine R1.s_skip ?_ | refine R1.s_scope ?_ | ((first | refine R1.e_rg fun K hK => ?_ | refine R1.s_rg fun K hK => ?_ | refine R1.e_sq (by kernel_rfl) fun K hK => ?_ | refine R1.s_sq (by kernel_rfl) fun K hK => ?_); simp only [SG_nil, SG_cons, SU_yes, gw_n, gOf_n, List.map_cons, List.map_nil, SK_assign, ev_int, putD_nt, slotOk, Nat.blt_eq, Nat.reduceLT, true_and]; refine hK _ _ ?_; clear hK K)
    exact fin 1 _ _ (by simp only [slot_put, Nat.reduceEqDiff, reduceIte]) rfl g1 rfl
  | some ls =>
    repeat refine R1.s_assoc ?_
    (first | refine R1.s_cnd fun Kx Ky hx hy => ?_ | refine R1.e_cnd fun Kx Ky hx hy => ?_); simp only [boolP'_b, evTmp, slot_put, Nat.reduceLT, if_true, if_false, eqGt, Nat.lt_add_one]
    refine hy ?_
    clear hx hy Kx Ky
    by_cases h32 : (32 : Int) < gs.length
    · have c32 : ((32 : Int) < gs.length) = True := eq_true h32
      repeat' first | refine R1.ret ?_ | refine R1.exit ?_ | refine R1.skip ?_ | refine R1.s_ret ?_ | refine R1.s_exit ?_ | refine R1.s_assoc ?_ | refine R1.s_skip ?_ | refine R1.s_scope ?_ | ((first | refine R1.e_rg fun K hK => ?_ | refine R1.s_rg fun K hK => ?_ | refine R1.e_sq (by kernel_rfl) fun K hK => ?_ | refine R1.s_sq (by kernel_rfl) fun K hK => ?_); simp only [SG_nil, SG_cons, SU_yes, gw_n, gOf_n, List.map_cons, List.map_nil, decide_true, vN_val, lnN_some, SK_move, SK_bin, SK_len, evTmp, ev_int, slot_put, putD_nt, slotOk, Nat.blt_eq, Nat.reduceLT, true_and, if_true, if_false, eqLt, eqGt, ii_gtr, Nat.lt_add_one, E2_P, h1, ln_goods, hv1.len, hv1.lt, c32]; refine hK _ _ ?_; clear hK K)
      repeat refine R1.s_assoc ?_
      (first | refine R1.s_cnd fun Kx Ky hx hy => ?_ | refine R1.e_cnd fun Kx Ky hx hy => ?_); simp only [boolP'_b, evTmp, slot_put, Nat.reduceLT, if_true, if_false, eqGt, Nat.lt_add_one]
      refine hx ?_
      clear hx hy Kx Ky
      repeat' first | refine R1.ret ?_ | refine R1.exit ?_ | refine R1.skip ?_ | refine R1.s_ret ?_ | refine R1.s_exit ?_ | refine R1.s_assoc ?_ | refine R1.s_skip ?_ | refine R1.s_scope ?_ | ((first | refine R1.e_rg fun K hK => ?_ | refine R1.s_rg fun K hK => ?_ | refine R1.e_sq (by kernel_rfl) fun K hK => ?_ | refine R1.s_sq (by kernel_rfl) fun K hK => ?_); simp only [SG_nil, SG_cons, SU_yes, gw_n, gOf_n, List.map_cons, List.map_nil, SK_assign, ev_int, putD_nt, slotOk, Nat.blt_eq, Nat.reduceLT, true_and]; refine hK _ _ ?_; clear hK K)
      exact fin 3 _ _ (by simp only [slot_put, Nat.reduceEqDiff, reduceIte]) rfl g1 (if_pos h32).symm
    · have c32 : ((32 : Int) < gs.length) = False := eq_false h32
      have hck : chkG (some ls) gs = goG ls [] gs := if_neg h32
      generalize hr0 : goG ls [] gs = r0 at hck
      have hL := hL ls rfl
      repeat' first | refine R1.ret ?_ | refine R1.exit ?_ | refine R1.skip ?_ | refine R1.s_ret ?_ | refine R1.s_exit ?_ | refine R1.s_assoc ?_ | refine R1.s_skip ?_ | refine R1.s_scope ?_ | ((first | refine R1.e_rg fun K hK => ?_ | refine R1.s_rg fun K hK => ?_ | refine R1.e_sq (by kernel_rfl) fun K hK => ?_ | refine R1.s_sq (by kernel_rfl) fun K hK => ?_); simp only [SG_nil, SG_cons, SU_yes, gw_n, gOf_n, List.map_cons, List.map_nil, decide_false, vN_val, lnN_some, SK_move, SK_bin, SK_len, evTmp, ev_int, slot_put, putD_nt, slotOk, Nat.blt_eq, Nat.reduceLT, true_and, if_true, if_false, eqLt, eqGt, ii_gtr, Nat.lt_add_one, E2_P, h1, ln_goods, hv1.len, hv1.lt, c32]; refine hK _ _ ?_; clear hK K)
      repeat refine R1.s_assoc ?_
      (first | refine R1.s_cnd fun Kx Ky hx hy => ?_ | refine R1.e_cnd fun Kx Ky hx hy => ?_); simp only [boolP'_b, evTmp, slot_put, Nat.reduceLT, if_true, if_false, Bool.false_eq_true, eqGt, Nat.lt_add_one]
      refine hy ?_
      clear hx hy Kx Ky
      repeat' first | refine R1.ret ?_ | refine R1.exit ?_ | refine R1.skip ?_ | refine R1.s_ret ?_ | refine R1.s_exit ?_ | refine R1.s_assoc ?_ | refine R1.s_skip ?_ | refine R1.s_scope ?_ | ((first | refine R1.e_rg fun K hK => ?_ | refine R1.s_rg fun K hK => ?_ | refine R1.e_sq (by kernel_rfl) fun K hK => ?_ | refine R1.s_sq (by kernel_rfl) fun K hK => ?_); simp only [SG_nil, SG_cons, SU_yes, gw_n, gOf_n, List.map_cons, List.map_nil, vN_val, lnN_some, SK_move, SK_len, evTmp, ev_int, slot_put, putD_nt, slotOk, Nat.blt_eq, Nat.reduceLT, true_and, if_true, if_false, eqLt, eqGt, Nat.lt_add_one, E2_P, h1, ln_goods, hv1.len, hv1.lt]; refine hK _ _ ?_; clear hK K)
      refine R1.s_block fun K k1 k2 k3 k4 => ?_
      refine R1.loop (fun k A H2 => ∃ i : Nat, k = gs.length - i ∧ i ≤ gs.length ∧ Gr H1 H2 ∧ goG ls (gs.take i) (gs.drop i) = r0 ∧ slot A.tm 0 = .one p ∧ slot A.tm 1 = .one v ∧ slot A.tm 14 = .one v ∧ slot A.tm 15 = .one (.i .i64 (gs.length : Int)) ∧ slot A.tm 16 = .one (.i .i64 (i : Int)) ∧ A.nt = 50 ∧ A.dfr = []) ?_ gs.length
        ⟨0, rfl, Nat.zero_le _, Fr.refl _, hr0, ?_⟩
      · clear h0 h1 tm
        rintro k A H2 ⟨i, rfl, hi, g2, hr, t0, t1, t14, t15, t16, hnt, hdf⟩
        have hv2 := hv1.gr g2
        repeat' first | refine R1.ret ?_ | refine R1.exit ?_ | refine R1.skip ?_ | refine R1.s_ret ?_ | refine R1.s_exit ?_ | refine R1.s_assoc ?_ | refine R1.s_skip ?_ | refine R1.s_scope ?_ | ((first | refine R1.e_rg fun K hK => ?_ | refine R1.s_rg fun K hK => ?_ | refine R1.e_sq (by kernel_rfl) fun K hK => ?_ | refine R1.s_sq (by kernel_rfl) fun K hK => ?_); simp only [SG_nil, SG_cons, SU_yes, gw_n, gOf_n, List.map_cons, List.map_nil, vN_val, SK_bin, evTmp, slotOk, Nat.blt_eq, Nat.reduceLT, true_and, ii_lss, E2_P, t15, t16, hnt]; refine hK _ _ ?_; clear hK K)
        repeat refine R1.s_assoc ?_
        (first | refine R1.s_cnd fun Kx Ky hx hy => ?_ | refine R1.e_cnd fun Kx Ky hx hy => ?_); simp only [boolP'_b, decide_eq_true_eq, evTmp, slot_put, if_true]
        refine iteI (fun hc => hx ?_) (fun hc => hy ?_)
        · clear hx hy Kx Ky
          have hlt : i < gs.length := by omega
          obtain ⟨id, g, off, cells, rfl, hid, hgr, hat⟩ := hv2.open (by omega)
          have ex : gs[i]? = some gs[i] := List.getElem?_eq_getElem hlt
          have hdr : gs.drop i = gs[i] :: gs.drop (i + 1) := List.drop_eq_getElem_cons hlt
          have htk : gs.take (i + 1) = gs.take i ++ [gs[i]] := List.take_succ_eq_append_getElem hlt
          have hmem : gs[i] ∈ gs := List.getElem_mem hlt
          generalize gs[i] = x at ex hdr htk hmem
          obtain ⟨u, hx1⟩ := hat i x ex
          have hw2 : IntKind.i64.wrap ((i : Int) + 1) = ((i + 1 : Nat) : Int) := by rw [wrapI (by omega) (by omega)]; omega
          have htl : (gs.take i).length ≤ 1000000 := by rw [List.length_take]; omega
          rw [hdr, goG] at hr
          repeat' first | refine R1.ret ?_ | refine R1.exit ?_ | refine R1.skip ?_ | refine R1.s_ret ?_ | refine R1.s_exit ?_ | refine R1.s_assoc ?_ | refine R1.s_skip ?_ | refine R1.s_scope ?_ | ((first | refine R1.e_rg fun K hK => ?_ | refine R1.s_rg fun K hK => ?_ | refine R1.e_sq (by kernel_rfl) fun K hK => ?_ | refine R1.s_sq (by kernel_rfl) fun K hK => ?_); simp only [SG_nil, SG_cons, SU_yes, SU_no, gw_n, gw_gwv, gwv_b, gwv_u, gOf_n, gOf_some, List.map_cons, List.map_nil, List.getElem?_cons_zero, List.getElem?_cons_succ, Option.elim_some, Option.map_some, Option.bind_some, optP_some, boolP_b, boolP'_b, boolE_b, decide_eq_true_eq, decide_true, decide_false, valP_val, valP_guard, vN_val, ldN_some, stN_some, faN_some, iaN_some, lnN_some, pkN_b, sliceO_some, slice_lo, slice_hi, slice_1, indexAddr_0, Nat.add_one_sub_one, Nat.one_mul, len_sl, len_ns, len_str', posS, eq0S, cast0, Int.reduceLT, Int.reduceLE, Int.reduceBEq, Option.map_none, Nat.lt_add_left_iff_pos, Nat.zero_lt_succ, Nat.le_add_left, SK_move, SK_assign, SK_pick, SK_alloc, SK_box, SK_load, SK_store, SK_bin, SK_not, SK_fieldAddr, SK_field, SK_indexAddr, SK_slice, SK_extract, SK_nilCheck, SK_makeFunc, SK_makeMap, SK_makeSlice, SK_build, SK_buildSlice, SK_len, SK_append, SK_call, doCall_clo, doCall_clo, evTmp, ev_int, ev_bool, ev_str, ev_nilS, ev_func, opFev, evs_cons, evs_nil, slot_put, putD_nt, putD_none, putD_dfr, slotOk, Nat.blt_eq, Nat.reduceLT, Nat.reduceEqDiff, Nat.reduceLeDiff, reduceIte, true_and, and_true, true_or, or_true, if_true, if_false, Bool.false_eq_true, Bool.true_eq_false, not_false_eq_true, not_true_eq_false, ltV_ptr, ltV_sl, ltV_nil, ltV_str, ltV_i, nxNew, nxMod, get_newE, get_newL, get_modE, get_modN, ltAdd, ltSelf, eqLt, eqGt, eqLtA, eqGtA, eqSelfA, eqASelf, eqAA, ltAA, doLoad_ptr, doStore_ptr, rowOf_arr, rowOf_ro, ldO_agg, ldO_one, stO_arr, splice_eq, fieldAddr_at, Bool.not_eq_true', Bool.not_eq_false', decide_eq_false_iff_not, ne_eq, Nat.reduceLeDiff, Nat.lt_irrefl, gt_iff_lt, cells_one, cells_agg, noTup_one, noTup_agg, List.length_cons, List.length_nil, Nat.zero_add, Nat.add_zero, Nat.reduceAdd, Nat.reduceSub, Nat.reduceMul, Nat.le_refl, Nat.zero_le, capsOf_nil, capsOf_cons, capArgs_nil, capArgs_cons, List.cons_append, List.nil_append, List.append_nil, ex_0, ex_0a, ex_1, ex_1a, ex_2, ex_2a, ii_lss, ii_leq, ii_gtr, ii_geq, ii_eql, ii_neq, ii_add, ii_sub, ii_mul, ss_lss, ss_geq, ss_leq, ss_gtr, ss_eql, ss_neq, List.take_succ_cons, List.take_zero, List.drop_succ_cons, List.drop_zero, List.take_nil, List.drop_nil, List.headD_cons, Bool.not_true, Bool.not_false, Nat.lt_add_one, bin_agg, bin_b, agg2_agg, bool2_b, aggEq_nil, aggEq_s, aggEq_i, aggEq_b, aggO_some, fill_nil, fill_cons, Nat.zero_mul, partsF_nil, partsF_cons, repl_one, SK_lookup, SK_mapUpdate, lkN_some, upN_some, ltV_mp, nilCheck_ptr, lookOut_f, lookOut_t, doCall_yl, ofValue_int, ofValue_bool, ev_nilP, ev_nilM, ev_nilF]; refine hK _ _ ?_; clear hK K)
          refine R1.s_block fun K2 q1 q2 q3 q4 => ?_
          repeat refine R1.s_assoc ?_
          refine R1.s_rg fun K hK => ?_
          simp only [SG_nil, SG_cons, SU_yes, gw_n, gOf_n, List.map_cons, List.map_nil, optP_some, vN_val, ldN_some, stN_some, iaN_some, SK_move, SK_assign, SK_alloc, SK_load, SK_store, SK_indexAddr, evTmp, slot_put, putD_nt, putD_none, slotOk, Nat.blt_eq, Nat.reduceLT, true_and, if_true, if_false, ltV_ptr, nxNew, get_newE, eqLt, eqGt, doLoad_ptr, doStore_ptr, ldO_agg, stO_arr, cells_agg, noTup_agg, List.length_cons, List.length_nil, Nat.zero_add, Nat.reduceAdd, Nat.le_refl, List.nil_append, List.append_nil, List.take_zero, List.drop_succ_cons, List.drop_nil, Nat.lt_add_one, E2_P, t14, t16, hnt, el_goods, ld_good, sz_good, zr_good, indexAddr_cast hlt, hid, hgr, hx1.all, hx1.le]
          refine hK _ _ ?_
          clear hK K
          refine R1.gen (fun A3 H3 => Gr H2 H3 ∧ H2.nx < H3.nx ∧ H3.get H2.nx = some (.arr [.o (.str x.1), .o (.str x.2.1), u] 73 0 0) ∧ slot A3.tm 0 = .one p ∧ slot A3.tm 1 = .one (.o (.sl id g off gs.length 3)) ∧ slot A3.tm 5 = .one (.i .i64 (i : Int)) ∧ slot A3.tm 6 = .one (.o (.ptr H2.nx 0 0 3)) ∧ slot A3.tm 14 = .one (.o (.sl id g off gs.length 3)) ∧ slot A3.tm 15 = .one (.i .i64 (gs.length : Int)) ∧ slot A3.tm 16 = .one (.i .i64 (i : Int)) ∧ A3.nt = 50 ∧ A3.dfr = [])
            ⟨((Fr.refl _).new _).mod _ (.inl (Nat.le_refl _)), ?_⟩ ?_
          · simp only [Nat.zero_lt_succ, slot_put, putD_nt, putD_dfr, Nat.reduceLT, and_true, if_true, if_false, nxNew, nxMod, get_modE, eqLt, eqGt, Nat.lt_add_one, t0, t1, t14, t15, t16, hnt, hdf]
          clear t0 t1 t14 t15 t16 hnt hdf A
          rintro A H3 ⟨g3, n3, rx, t0, t1, t5, t6, t14, t15, t16, hnt, hdf⟩
          have g3' := g1.gr (g2.gr g3)
          repeat refine R1.s_assoc ?_
          refine R1.s_sq (by kernel_rfl) fun K hK => ?_
          simp only [SG_cons, SU_yes, gw_n, gOf_n, gOf_some, List.map_cons, List.map_nil, List.getElem?_cons_zero, List.getElem?_cons_succ, Option.elim_some, vN_val, ldN_some, faN_some, SK_load, SK_fieldAddr, SK_call, doCall_clo, doCall_clo, evTmp, ev_func, evs_cons, evs_nil, slot_put, putD_nt, slotOk, Nat.blt_eq, Nat.reduceLT, Nat.reduceLeDiff, true_and, if_true, if_false, ltV_ptr, eqGt, doLoad_ptr, rowOf_arr, ldO_one, fieldAddr_at, Nat.reduceLeDiff, List.length_cons, List.length_nil, Nat.zero_add, Nat.add_zero, Nat.reduceAdd, Nat.reduceSub, Nat.le_refl, capArgs_nil, List.append_nil, List.drop_zero, List.headD_cons, Nat.lt_add_one, E2_P, t6, hnt, rx, n3, fd_good_0, ld_str, bd_isName]
          refine WE.prim (isName_p x.1) fun H4 g4 n4 e4 => ?_
          have rx : H4.get H2.nx = some (.arr [.o (.str x.1), .o (.str x.2.1), u] 73 0 0) := (e4 _).trans rx
          rw [← n4] at n3
          have g4' := g3'.gr g4
          have g24 : Gr H2 H4 := g3.gr g4
          cases hnm : nmB x.1 with
          | false =>
            rw [if_pos hnm] at hr
            simp only [SG_nil, SG_cons, SU_yes, SU_no, gw_n, gw_gwv, gwv_b, boolE_b, vN_val, pkN_b, SK_move, SK_pick, SK_not, evTmp, ev_bool, slot_put, putD_nt, slotOk, Nat.blt_eq, Nat.reduceLT, true_and, if_true, if_false, Bool.true_eq_false, eqLt, eqGt, Bool.not_false, Nat.lt_add_one, E2_P, hnt]
            refine hK _ _ ?_
            clear hK K
            repeat refine R1.s_assoc ?_
            (first | refine R1.s_cnd fun Kx Ky hx hy => ?_ | refine R1.e_cnd fun Kx Ky hx hy => ?_); simp only [boolP'_b, evTmp, slot_put, Nat.reduceLT, if_true, if_false, eqGt, Nat.lt_add_one]
            refine hx ?_
            clear hx hy Kx Ky
            repeat' first | refine R1.ret ?_ | refine R1.exit ?_ | refine R1.skip ?_ | refine R1.s_ret ?_ | refine R1.s_exit ?_ | refine R1.s_assoc ?_ | refine R1.s_skip ?_ | refine R1.s_scope ?_ | ((first | refine R1.e_rg fun K hK => ?_ | refine R1.s_rg fun K hK => ?_ | refine R1.e_sq (by kernel_rfl) fun K hK => ?_ | refine R1.s_sq (by kernel_rfl) fun K hK => ?_); simp only [SG_nil, SG_cons, SU_yes, gw_n, gOf_n, List.map_cons, List.map_nil, SK_assign, ev_int, putD_nt, slotOk, Nat.blt_eq, Nat.reduceLT, true_and, hnt]; refine hK _ _ ?_; clear hK K)
            exact q4 _ _ (k4 _ _ (fin 50 _ _ (by simp only [slot_put, Nat.reduceEqDiff, reduceIte]) (by simp only [putD_dfr, hdf]) g4' (by rw [hck, ← hr])))
          | true =>
            rw [if_neg (by rw [hnm]; decide)] at hr
            have hv4 := (hv2.gr g24)
            have htk4 := SlR.take hv4 (n := i) (by omega)
            simp only [SG_cons, SU_yes, gw_n, gw_gwv, gwv_b, Option.map_some, boolE_b, vN_val, ldN_some, faN_some, sliceO_some, Option.map_none, SK_move, SK_load, SK_not, SK_fieldAddr, SK_slice, SK_call, doCall_clo, doCall_clo, evTmp, ev_func, evs_cons, evs_nil, slot_put, putD_nt, slotOk, Nat.blt_eq, Nat.reduceLT, Nat.reduceLeDiff, true_and, if_true, if_false, ltV_ptr, eqLt, eqGt, doLoad_ptr, rowOf_arr, ldO_one, fieldAddr_at, Nat.reduceLeDiff, List.length_cons, List.length_nil, Nat.zero_add, Nat.add_zero, Nat.reduceAdd, Nat.reduceSub, Nat.le_refl, capArgs_nil, List.append_nil, List.drop_zero, List.headD_cons, Bool.not_true, Nat.lt_add_one, E2_P, t1, t5, t6, hnt, rx, n3, fd_good_0, ld_str, el_goods, bd_goodAt, slice_hi (Nat.le_of_lt hlt)]
            refine WE.con (goodAt_con H4 _ (gs.take i) x.1 htk4 htl) fun w H5 g5 hw => ?_
            subst hw
            have rx : H5.get H2.nx = some (.arr [.o (.str x.1), .o (.str x.2.1), u] 73 0 0) := by rw [g5.get _ n3 not_false]; exact rx
            have n5 : H2.nx < H5.nx := Nat.lt_of_lt_of_le n3 g5.nx
            have g5' := g4'.gr g5
            have g25 := g24.gr g5
            by_cases hge : 0 ≤ idxG 0 (gs.take i) x.1
            · have cge : (0 ≤ idxG 0 (gs.take i) x.1) = True := eq_true hge
              rw [if_pos hge] at hr
              simp only [SG_nil, SG_cons, SU_yes, gw_n, gw_gwv, gwv_b, decide_true, vN_val, pkN_b, SK_pick, SK_bin, evTmp, ev_int, ev_bool, slot_put, putD_nt, slotOk, Nat.blt_eq, Nat.reduceLT, true_and, if_true, if_false, Bool.false_eq_true, eqLt, eqGt, ii_geq, Nat.lt_add_one, E2_P, hnt, cge]
              refine hK _ _ ?_
              clear hK K
              repeat refine R1.s_assoc ?_
              (first | refine R1.s_cnd fun Kx Ky hx hy => ?_ | refine R1.e_cnd fun Kx Ky hx hy => ?_); simp only [boolP'_b, evTmp, slot_put, Nat.reduceLT, if_true, if_false, eqGt, Nat.lt_add_one]
              refine hx ?_
              clear hx hy Kx Ky
              repeat' first | refine R1.ret ?_ | refine R1.exit ?_ | refine R1.skip ?_ | refine R1.s_ret ?_ | refine R1.s_exit ?_ | refine R1.s_assoc ?_ | refine R1.s_skip ?_ | refine R1.s_scope ?_ | ((first | refine R1.e_rg fun K hK => ?_ | refine R1.s_rg fun K hK => ?_ | refine R1.e_sq (by kernel_rfl) fun K hK => ?_ | refine R1.s_sq (by kernel_rfl) fun K hK => ?_); simp only [SG_nil, SG_cons, SU_yes, gw_n, gOf_n, List.map_cons, List.map_nil, SK_assign, ev_int, putD_nt, slotOk, Nat.blt_eq, Nat.reduceLT, true_and, hnt]; refine hK _ _ ?_; clear hK K)
              exact q4 _ _ (k4 _ _ (fin 50 _ _ (by simp only [slot_put, Nat.reduceEqDiff, reduceIte]) (by simp only [putD_dfr, hdf]) g5' (by rw [hck, ← hr])))
            · have cge : (0 ≤ idxG 0 (gs.take i) x.1) = False := eq_false hge
              rw [if_neg hge] at hr
              simp only [SG_nil, SG_cons, SU_yes, gw_n, gw_gwv, gwv_b, decide_false, vN_val, pkN_b, SK_pick, SK_bin, evTmp, ev_int, ev_bool, slot_put, putD_nt, slotOk, Nat.blt_eq, Nat.reduceLT, true_and, if_true, if_false, Bool.false_eq_true, eqLt, eqGt, ii_geq, Nat.lt_add_one, E2_P, hnt, cge]
              refine hK _ _ ?_
              clear hK K
              repeat refine R1.s_assoc ?_
              (first | refine R1.s_cnd fun Kx Ky hx hy => ?_ | refine R1.e_cnd fun Kx Ky hx hy => ?_); simp only [boolP'_b, evTmp, slot_put, Nat.reduceLT, if_true, if_false, Bool.false_eq_true, eqGt, Nat.lt_add_one]
              refine hy ?_
              clear hx hy Kx Ky
              refine R1.s_skip ?_
              have hp5 : BookO H5 p (some ls) := hp1.gr (g2.gr g25)
              repeat refine R1.s_assoc ?_
              refine R1.s_rg fun K hK => ?_
              simp only [SG_cons, SU_yes, gw_n, gOf_n, List.map_cons, List.map_nil, vN_val, ldN_some, faN_some, Nat.add_one_sub_one, Nat.zero_lt_succ, SK_move, SK_load, SK_fieldAddr, SK_call, doCall_clo, doCall_clo, evTmp, ev_func, evs_cons, evs_nil, slot_put, putD_nt, slotOk, Nat.blt_eq, Nat.reduceLT, Nat.reduceLeDiff, true_and, if_true, if_false, ltV_ptr, eqLt, eqGt, doLoad_ptr, rowOf_arr, ldO_one, fieldAddr_at, Nat.reduceLeDiff, List.length_cons, List.length_nil, Nat.zero_add, Nat.reduceAdd, Nat.le_refl, capArgs_nil, List.append_nil, List.drop_succ_cons, List.drop_zero, List.headD_cons, Nat.lt_add_one, E2_P, t0, t6, hnt, rx, n5, fd_good_1, ld_str, bd_ladder]
              refine WE.con (ladder_con H5 p (some ls) x.2.1 hp5 (fun ls' h => by cases h; exact hL)) fun w H6 g6 ⟨c, hw, ha, hcl⟩ => ?_
              subst hw
              have g6' := g5'.gr g6
              simp only [SG_nil, SG_cons, SU_yes, gw_n, optP_some, vN_val, stN_some, SK_move, SK_assign, SK_alloc, SK_store, SK_extract, evTmp, slot_put, putD_nt, putD_none, slotOk, Nat.blt_eq, Nat.reduceLT, true_and, if_true, if_false, ltV_ptr, nxNew, get_newE, eqLt, eqGt, doStore_ptr, stO_arr, cells_agg, noTup_agg, List.length_cons, List.length_nil, Nat.zero_add, Nat.reduceAdd, Nat.le_refl, List.nil_append, List.append_nil, ex_0a, ex_1, List.take_zero, List.drop_succ_cons, List.drop_nil, Nat.lt_add_one, E2_P, hnt, zr_lad, sz_lad, hcl]
              refine hK _ _ ?_
              clear hK K
              have g7 : Gr H6 ((H6.new (.arr [.o (.str []), .o .nilS] 78 0 0)).mod H6.nx (.arr c 78 0 0)) := ((Fr.refl _).new _).mod _ (.inl (Nat.le_refl _))
              have rx : ((H6.new (.arr [.o (.str []), .o .nilS] 78 0 0)).mod H6.nx (.arr c 78 0 0)).get H2.nx = some (.arr [.o (.str x.1), .o (.str x.2.1), u] 73 0 0) := by
                have hlt6 : H2.nx < H6.nx := Nat.lt_of_lt_of_le n5 g6.nx
                rw [g7.get _ hlt6 not_false, g6.get _ n5 not_false]; exact rx
              have n7 : H2.nx < ((H6.new (.arr [.o (.str []), .o .nilS] 78 0 0)).mod H6.nx (.arr c 78 0 0)).nx := Nat.lt_of_lt_of_le (Nat.lt_of_lt_of_le n5 g6.nx) g7.nx
              have g7' := g6'.gr g7
              have g27 := (g25.gr g6).gr g7
              generalize ((H6.new (.arr [.o (.str []), .o .nilS] 78 0 0)).mod H6.nx (.arr c 78 0 0)) = H7 at rx n7 g7' g27 ⊢
              repeat' first | refine R1.ret ?_ | refine R1.exit ?_ | refine R1.skip ?_ | refine R1.s_ret ?_ | refine R1.s_exit ?_ | refine R1.s_assoc ?_ | refine R1.s_skip ?_ | refine R1.s_scope ?_ | ((first | refine R1.e_rg fun K hK => ?_ | refine R1.s_rg fun K hK => ?_ | refine R1.e_sq (by kernel_rfl) fun K hK => ?_ | refine R1.s_sq (by kernel_rfl) fun K hK => ?_); simp only [SG_nil, SG_cons, SU_yes, gw_n, gOf_n, List.map_cons, List.map_nil, vN_val, SK_move, SK_bin, evTmp, ev_int, slot_put, putD_nt, slotOk, Nat.blt_eq, Nat.reduceLT, true_and, if_true, if_false, eqLt, eqGt, ii_neq, Nat.lt_add_one, E2_P, hnt]; refine hK _ _ ?_; clear hK K)
              repeat refine R1.s_assoc ?_
              (first | refine R1.s_cnd fun Kx Ky hx hy => ?_ | refine R1.e_cnd fun Kx Ky hx hy => ?_); simp only [boolP'_b, evTmp, slot_put, Nat.reduceLT, if_true, if_false, eqGt, Bool.not_eq_true', Nat.lt_add_one]
              refine iteI (fun hd => hx ?_) (fun hd => hy ?_)
              · clear hx hy Kx Ky
                have hne : ladE (some ls) x.2.1 ≠ 0 := by simpa using hd
                rw [if_pos hne] at hr
                repeat' first | refine R1.ret ?_ | refine R1.exit ?_ | refine R1.skip ?_ | refine R1.s_ret ?_ | refine R1.s_exit ?_ | refine R1.s_assoc ?_ | refine R1.s_skip ?_ | refine R1.s_scope ?_ | ((first | refine R1.e_rg fun K hK => ?_ | refine R1.s_rg fun K hK => ?_ | refine R1.e_sq (by kernel_rfl) fun K hK => ?_ | refine R1.s_sq (by kernel_rfl) fun K hK => ?_); simp only [SG_nil, SG_cons, SU_yes, gw_n, gOf_n, List.map_cons, List.map_nil, SK_assign, ev_int, putD_nt, slotOk, Nat.blt_eq, Nat.reduceLT, true_and, hnt]; refine hK _ _ ?_; clear hK K)
                exact q4 _ _ (k4 _ _ (fin 4 _ _ (by simp only [slot_put, Nat.reduceEqDiff, reduceIte]) (by simp only [putD_dfr, hdf]) g7' (by rw [hck, ← hr])))
              · clear hx hy Kx Ky
                have hz : ladE (some ls) x.2.1 = 0 := by simpa using hd
                rw [if_neg (fun h => h hz)] at hr
                have hv7 := hv2.gr g27
                have hu7 : SlS H7 u x.2.2 := hx1.of.gr g27
                have htk7 := SlR.take hv7 (n := i) (by omega)
                refine R1.s_skip ?_
                repeat refine R1.s_assoc ?_
                refine R1.s_sq (by kernel_rfl) fun K hK => ?_
                simp only [SG_cons, SU_yes, gw_n, gOf_n, List.map_cons, List.map_nil, Option.map_some, vN_val, ldN_some, sliceO_some, Option.map_none, SK_move, SK_load, SK_slice, SK_call, doCall_clo, doCall_clo, evTmp, ev_func, evs_cons, evs_nil, slot_put, putD_nt, slotOk, Nat.blt_eq, Nat.reduceLT, true_and, if_true, if_false, ltV_ptr, eqLt, eqGt, doLoad_ptr, rowOf_arr, ldO_agg, List.length_cons, List.length_nil, Nat.zero_add, Nat.reduceAdd, Nat.le_refl, capArgs_nil, List.append_nil, List.take_succ_cons, List.drop_zero, List.take_nil, Nat.lt_add_one, E2_P, t1, t5, t6, hnt, rx, n7, ld_good, el_goods, slice_hi (Nat.le_of_lt hlt), bd_gathers]
                refine WE.con (gathers_con H7 _ (gs.take i) x u htk7 hu7 htl (hB x hmem)) fun w H8 g8 hw => ?_
                subst hw
                have g8' := g7'.gr g8
                have g28 := g27.gr g8
                simp only [SG_nil, SG_cons, SU_yes, gw_n, boolE_b, vN_val, SK_not, evTmp, slot_put, putD_nt, slotOk, Nat.blt_eq, Nat.reduceLT, true_and, if_true, if_false, eqGt, Nat.lt_add_one, E2_P, hnt]
                refine hK _ _ ?_
                clear hK K
                cases hgt : gathB (gs.take i) x with
                | false =>
                  rw [if_pos hgt] at hr
                  repeat refine R1.s_assoc ?_
                  (first | refine R1.s_cnd fun Kx Ky hx hy => ?_ | refine R1.e_cnd fun Kx Ky hx hy => ?_); simp only [boolP'_b, evTmp, slot_put, Nat.reduceLT, if_true, if_false, eqGt, Bool.not_false, Nat.lt_add_one]
                  refine hx ?_
                  clear hx hy Kx Ky
                  repeat' first | refine R1.ret ?_ | refine R1.exit ?_ | refine R1.skip ?_ | refine R1.s_ret ?_ | refine R1.s_exit ?_ | refine R1.s_assoc ?_ | refine R1.s_skip ?_ | refine R1.s_scope ?_ | ((first | refine R1.e_rg fun K hK => ?_ | refine R1.s_rg fun K hK => ?_ | refine R1.e_sq (by kernel_rfl) fun K hK => ?_ | refine R1.s_sq (by kernel_rfl) fun K hK => ?_); simp only [SG_nil, SG_cons, SU_yes, gw_n, gOf_n, List.map_cons, List.map_nil, SK_assign, ev_int, putD_nt, slotOk, Nat.blt_eq, Nat.reduceLT, true_and, Bool.not_false, hnt]; refine hK _ _ ?_; clear hK K)
                  exact q4 _ _ (k4 _ _ (fin 50 _ _ (by simp only [slot_put, Nat.reduceEqDiff, reduceIte]) (by simp only [putD_dfr, hdf]) g8' (by rw [hck, ← hr])))
                | true =>
                  rw [if_neg (by rw [hgt]; decide), ← htk] at hr
                  repeat refine R1.s_assoc ?_
                  (first | refine R1.s_cnd fun Kx Ky hx hy => ?_ | refine R1.e_cnd fun Kx Ky hx hy => ?_); simp only [boolP'_b, evTmp, slot_put, Nat.reduceLT, if_true, if_false, Bool.false_eq_true, eqGt, Bool.not_true, Nat.lt_add_one]
                  refine hy ?_
                  clear hx hy Kx Ky
                  repeat' first | refine R1.ret ?_ | refine R1.exit ?_ | refine R1.skip ?_ | refine R1.s_ret ?_ | refine R1.s_exit ?_ | refine R1.s_assoc ?_ | refine R1.s_skip ?_ | refine R1.s_scope ?_ | ((first | refine R1.e_rg fun K hK => ?_ | refine R1.s_rg fun K hK => ?_ | refine R1.e_sq (by kernel_rfl) fun K hK => ?_ | refine R1.s_sq (by kernel_rfl) fun K hK => ?_); simp only [SG_nil, SG_cons, SU_yes, SU_no, gw_n, gw_gwv, gwv_b, gwv_u, gOf_n, gOf_some, List.map_cons, List.map_nil, List.getElem?_cons_zero, List.getElem?_cons_succ, Option.elim_some, Option.map_some, Option.bind_some, optP_some, boolP_b, boolP'_b, boolE_b, decide_eq_true_eq, decide_true, decide_false, valP_val, valP_guard, vN_val, ldN_some, stN_some, faN_some, iaN_some, lnN_some, pkN_b, sliceO_some, slice_lo, slice_hi, slice_1, indexAddr_0, Nat.add_one_sub_one, Nat.one_mul, len_sl, len_ns, len_str', posS, eq0S, cast0, Int.reduceLT, Int.reduceLE, Int.reduceBEq, Option.map_none, Nat.lt_add_left_iff_pos, Nat.zero_lt_succ, Nat.le_add_left, SK_move, SK_assign, SK_pick, SK_alloc, SK_box, SK_load, SK_store, SK_bin, SK_not, SK_fieldAddr, SK_field, SK_indexAddr, SK_slice, SK_extract, SK_nilCheck, SK_makeFunc, SK_makeMap, SK_makeSlice, SK_build, SK_buildSlice, SK_len, SK_append, SK_call, doCall_clo, doCall_clo, evTmp, ev_int, ev_bool, ev_str, ev_nilS, ev_func, opFev, evs_cons, evs_nil, slot_put, putD_nt, putD_none, putD_dfr, slotOk, Nat.blt_eq, Nat.reduceLT, Nat.reduceEqDiff, Nat.reduceLeDiff, reduceIte, true_and, and_true, true_or, or_true, if_true, if_false, Bool.false_eq_true, Bool.true_eq_false, not_false_eq_true, not_true_eq_false, ltV_ptr, ltV_sl, ltV_nil, ltV_str, ltV_i, nxNew, nxMod, get_newE, get_newL, get_modE, get_modN, ltAdd, ltSelf, eqLt, eqGt, eqLtA, eqGtA, eqSelfA, eqASelf, eqAA, ltAA, doLoad_ptr, doStore_ptr, rowOf_arr, rowOf_ro, ldO_agg, ldO_one, stO_arr, splice_eq, fieldAddr_at, Bool.not_eq_true', Bool.not_eq_false', decide_eq_false_iff_not, ne_eq, Nat.reduceLeDiff, Nat.lt_irrefl, gt_iff_lt, cells_one, cells_agg, noTup_one, noTup_agg, List.length_cons, List.length_nil, Nat.zero_add, Nat.add_zero, Nat.reduceAdd, Nat.reduceSub, Nat.reduceMul, Nat.le_refl, Nat.zero_le, capsOf_nil, capsOf_cons, capArgs_nil, capArgs_cons, List.cons_append, List.nil_append, List.append_nil, ex_0, ex_0a, ex_1, ex_1a, ex_2, ex_2a, ii_lss, ii_leq, ii_gtr, ii_geq, ii_eql, ii_neq, ii_add, ii_sub, ii_mul, ss_lss, ss_geq, ss_leq, ss_gtr, ss_eql, ss_neq, List.take_succ_cons, List.take_zero, List.drop_succ_cons, List.drop_zero, List.take_nil, List.drop_nil, List.headD_cons, Bool.not_true, Bool.not_false, Nat.lt_add_one, bin_agg, bin_b, agg2_agg, bool2_b, aggEq_nil, aggEq_s, aggEq_i, aggEq_b, aggO_some, fill_nil, fill_cons, Nat.zero_mul, partsF_nil, partsF_cons, repl_one, SK_lookup, SK_mapUpdate, lkN_some, upN_some, ltV_mp, nilCheck_ptr, lookOut_f, lookOut_t, doCall_yl, ofValue_int, ofValue_bool, ev_nilP, ev_nilM, ev_nilF, hnt]; refine hK _ _ ?_; clear hK K)
                  refine q1 _ _ ?_
                  repeat' first | refine R1.ret ?_ | refine R1.exit ?_ | refine R1.skip ?_ | refine R1.s_ret ?_ | refine R1.s_exit ?_ | refine R1.s_assoc ?_ | refine R1.s_skip ?_ | refine R1.s_scope ?_ | ((first | refine R1.e_rg fun K hK => ?_ | refine R1.s_rg fun K hK => ?_ | refine R1.e_sq (by kernel_rfl) fun K hK => ?_ | refine R1.s_sq (by kernel_rfl) fun K hK => ?_); simp only [SG_nil, SG_cons, SU_yes, gw_n, gOf_n, List.map_cons, List.map_nil, vN_val, SK_move, SK_bin, evTmp, ev_int, slot_put, putD_nt, slotOk, Nat.blt_eq, Nat.reduceLT, true_and, if_true, if_false, eqLt, eqGt, ii_add, Bool.not_true, Nat.lt_add_one, hnt, t16, hw2]; refine hK _ _ ?_; clear hK K)
                  refine ⟨gs.length - (i + 1), by omega, i + 1, rfl, hlt, g2.gr g28, hr, ?_, ?_, ?_, ?_, ?_, ?_, ?_⟩
                  · simp only [slot_put, Nat.reduceEqDiff, reduceIte, t0]
                  · simp only [slot_put, Nat.reduceEqDiff, reduceIte, t1]
                  · simp only [slot_put, Nat.reduceEqDiff, reduceIte, t14]
                  · simp only [slot_put, Nat.reduceEqDiff, reduceIte, t15]
                  · simp only [slot_put, Nat.reduceEqDiff, reduceIte]
                  · simp only [putD_nt, hnt]
                  · simp only [putD_dfr, hdf]
        · clear hx hy Kx Ky
          have hie : i = gs.length := by omega
          rw [hie, List.drop_length, goG] at hr
          repeat' first | refine R1.ret ?_ | refine R1.exit ?_ | refine R1.skip ?_ | refine R1.s_ret ?_ | refine R1.s_exit ?_ | refine R1.s_assoc ?_ | refine R1.s_skip ?_ | refine R1.s_scope ?_ | ((first | refine R1.e_rg fun K hK => ?_ | refine R1.s_rg fun K hK => ?_ | refine R1.e_sq (by kernel_rfl) fun K hK => ?_ | refine R1.s_sq (by kernel_rfl) fun K hK => ?_); simp only [SG_nil, SG_cons, SU_yes, SU_no, gw_n, gw_gwv, gwv_b, gwv_u, gOf_n, gOf_some, List.map_cons, List.map_nil, List.getElem?_cons_zero, List.getElem?_cons_succ, Option.elim_some, Option.map_some, Option.bind_some, optP_some, boolP_b, boolP'_b, boolE_b, decide_eq_true_eq, decide_true, decide_false, valP_val, valP_guard, vN_val, ldN_some, stN_some, faN_some, iaN_some, lnN_some, pkN_b, sliceO_some, slice_lo, slice_hi, slice_1, indexAddr_0, Nat.add_one_sub_one, Nat.one_mul, len_sl, len_ns, len_str', posS, eq0S, cast0, Int.reduceLT, Int.reduceLE, Int.reduceBEq, Option.map_none, Nat.lt_add_left_iff_pos, Nat.zero_lt_succ, Nat.le_add_left, SK_move, SK_assign, SK_pick, SK_alloc, SK_box, SK_load, SK_store, SK_bin, SK_not, SK_fieldAddr, SK_field, SK_indexAddr, SK_slice, SK_extract, SK_nilCheck, SK_makeFunc, SK_makeMap, SK_makeSlice, SK_build, SK_buildSlice, SK_len, SK_append, SK_call, doCall_clo, doCall_clo, evTmp, ev_int, ev_bool, ev_str, ev_nilS, ev_func, opFev, evs_cons, evs_nil, slot_put, putD_nt, putD_none, putD_dfr, slotOk, Nat.blt_eq, Nat.reduceLT, Nat.reduceEqDiff, Nat.reduceLeDiff, reduceIte, true_and, and_true, true_or, or_true, if_true, if_false, Bool.false_eq_true, Bool.true_eq_false, not_false_eq_true, not_true_eq_false, ltV_ptr, ltV_sl, ltV_nil, ltV_str, ltV_i, nxNew, nxMod, get_newE, get_newL, get_modE, get_modN, ltAdd, ltSelf, eqLt, eqGt, eqLtA, eqGtA, eqSelfA, eqASelf, eqAA, ltAA, doLoad_ptr, doStore_ptr, rowOf_arr, rowOf_ro, ldO_agg, ldO_one, stO_arr, splice_eq, fieldAddr_at, Bool.not_eq_true', Bool.not_eq_false', decide_eq_false_iff_not, ne_eq, Nat.reduceLeDiff, Nat.lt_irrefl, gt_iff_lt, cells_one, cells_agg, noTup_one, noTup_agg, List.length_cons, List.length_nil, Nat.zero_add, Nat.add_zero, Nat.reduceAdd, Nat.reduceSub, Nat.reduceMul, Nat.le_refl, Nat.zero_le, capsOf_nil, capsOf_cons, capArgs_nil, capArgs_cons, List.cons_append, List.nil_append, List.append_nil, ex_0, ex_0a, ex_1, ex_1a, ex_2, ex_2a, ii_lss, ii_leq, ii_gtr, ii_geq, ii_eql, ii_neq, ii_add, ii_sub, ii_mul, ss_lss, ss_geq, ss_leq, ss_gtr, ss_eql, ss_neq, List.take_succ_cons, List.take_zero, List.drop_succ_cons, List.drop_zero, List.take_nil, List.drop_nil, List.headD_cons, Bool.not_true, Bool.not_false, Nat.lt_add_one, bin_agg, bin_b, agg2_agg, bool2_b, aggEq_nil, aggEq_s, aggEq_i, aggEq_b, aggO_some, fill_nil, fill_cons, Nat.zero_mul, partsF_nil, partsF_cons, repl_one, SK_lookup, SK_mapUpdate, lkN_some, upN_some, ltV_mp, nilCheck_ptr, lookOut_f, lookOut_t, doCall_yl, ofValue_int, ofValue_bool, ev_nilP, ev_nilM, ev_nilF, hnt]; refine hK _ _ ?_; clear hK K)
          refine k2 _ _ ?_
          repeat' first | refine R1.ret ?_ | refine R1.exit ?_ | refine R1.skip ?_ | refine R1.s_ret ?_ | refine R1.s_exit ?_ | refine R1.s_assoc ?_ | refine R1.s_skip ?_ | refine R1.s_scope ?_ | ((first | refine R1.e_rg fun K hK => ?_ | refine R1.s_rg fun K hK => ?_ | refine R1.e_sq (by kernel_rfl) fun K hK => ?_ | refine R1.s_sq (by kernel_rfl) fun K hK => ?_); simp only [SG_nil, SG_cons, SU_yes, gw_n, gOf_n, List.map_cons, List.map_nil, SK_assign, ev_int, putD_nt, slotOk, Nat.blt_eq, Nat.reduceLT, true_and, hnt]; refine hK _ _ ?_; clear hK K)
          exact fin 0 _ _ (by simp only [slot_put, Nat.reduceEqDiff, reduceIte]) (by simp only [putD_dfr, hdf]) (g1.gr g2) (by rw [hck, ← hr])
      · simp only [slot_put, Nat.reduceEqDiff, reduceIte, putD_nt, putD_dfr, h0, h1, and_self, true_and]
        exact ⟨rfl, trivial⟩
end Go.Proofs.YtiejeicaaojdlaaGreat
