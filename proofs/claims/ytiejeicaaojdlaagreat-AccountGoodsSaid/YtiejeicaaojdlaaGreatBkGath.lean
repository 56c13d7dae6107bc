/- gathers: what it answers. -/
import Derived.Test.YtiejeicaaojdlaaGreatBkGood
namespace Go.Proofs.YtiejeicaaojdlaaGreat
open Go Go.Eng

theorem bd_gathers : hasBody Tryz.prog 35 = true := by kernel_rfl

theorem idxG_cases : ∀ (n : Nat) (l : List Gd) (s : List UInt8), idxG n l s = -1 ∨ ∃ k y, l[k]? = some y ∧ idxG n l s = ((n + k : Nat) : Int)
  | _, [], _ => .inl rfl
  | n, x :: l, s => by
    unfold idxG
    by_cases h : x.1 = s
    · rw [if_pos h]; exact .inr ⟨0, x, rfl, rfl⟩
    · rw [if_neg h]
      rcases idxG_cases (n + 1) l s with h | ⟨k, y, h1, h2⟩
      · exact .inl h
      · exact .inr ⟨k + 1, y, h1, by rw [h2]; congr 1; omega⟩

/-- Is one of the gathered goods as it should be? -/
noncomputable def gOK (bf : List Gd) (x : Gd) (i : Nat) (s : List UInt8) : Bool :=
  match bf[(idxG 0 bf s).toNat]? with
  | some y => !decide (idxG 0 bf s < 0) && (lEq y.2.1 x.2.1 && (!decide (0 < (y.2.2.length : Int)) && (!decide (0 < (i : Int)) || lLess (x.2.2.getD (i - 1) []) s)))
  | none => false
noncomputable def gathB (bf : List Gd) (x : Gd) : Bool := (List.range x.2.2.length).all fun i => gOK bf x i (x.2.2.getD i [])
theorem gath_no {bf : List Gd} {x : Gd} {i : Nat} {s : List UInt8} (hx : x.2.2[i]? = some s) (h : gOK bf x i s = false) : gathB bf x = false := by
  have hlt : i < x.2.2.length := (List.getElem?_eq_some_iff.1 hx).1
  exact List.all_eq_false.2 ⟨i, List.mem_range.2 hlt, by rw [List.getD_eq_getElem?_getD, hx]; show ¬ gOK bf x i s = true; rw [h]; decide⟩

set_option maxRecDepth 10000 in
set_option maxHeartbeats 8000000 in
theorem gathers_con (H : Hp) (v : AC) (bf : List Gd) (x : Gd) (u : AC) (hv : SlG H v bf) (hu : SlS H u x.2.2) (hL : bf.length ≤ 1000000) (hLx : x.2.2.length ≤ 4611686018427387904) :
    Con E2 35 [.one v, .agg [.o (.str x.1), .o (.str x.2.1), u]] H (fun _ => False) fun r _ => r = .one (.b (gathB bf x)) := by
  refine Con.of rfl fun lg => ?_
  have hv : SlG ⟨H.t, H.nx, lg⟩ v bf := hv
  have hu : SlS ⟨H.t, H.nx, lg⟩ u x.2.2 := hu
  generalize (⟨H.t, H.nx, lg⟩ : Hp) = H at hv hu ⊢
  refine C1.body (E := E2) (nt := 55) (res := [.tmp 4]) Tryz.func35 rfl rfl rfl rfl rfl fun tm hargs => ?_
  have h0 := hargs 0 _ rfl
  have h1 := hargs 1 _ rfl
  clear hargs
  repeat refine R1.s_assoc ?_
  refine R1.s_rg fun K hK => ?_
  simp only [SG_nil, SG_cons, SU_yes, gw_n, gOf_n, List.map_cons, List.map_nil, SK_assign, SK_box, evTmp, ev_bool, putD_nt, slotOk, Nat.blt_eq, Nat.reduceLT, true_and, cells_agg, noTup_agg, List.length_cons, List.length_nil, Nat.zero_add, Nat.reduceAdd, h1]
  refine hK _ _ ?_
  clear hK K
  refine R1.gen (fun A1 H1 => Gr H H1 ∧ H.nx < H1.nx ∧ H1.get H.nx = some (.arr [.o (.str x.1), .o (.str x.2.1), u] 73 0 0) ∧ slot A1.tm 0 = .one v ∧ slot A1.tm 3 = .one (.o (.ptr H.nx 0 0 3)) ∧ A1.nt = 55 ∧ A1.dfr = [])
    ⟨(Fr.refl _).new _, ?_⟩ ?_
  · simp only [Nat.zero_lt_succ, slot_put, putD_nt, putD_dfr, and_true, if_true, if_false, nxNew, get_newE, eqLt, Nat.lt_add_one, h0]
  rintro A1 H1 ⟨g1, lb, rb, t0, t3, hnt, hdf⟩
  clear h0 h1 tm
  have hv1 := hv.gr g1
  have hu1 := hu.gr g1
  have fin : ∀ (A : AAct) (H3 : Hp) (b : Bool), (AExit.ret = .normal ∨ AExit.ret = .ret) → slot A.tm 4 = .one (.b b) → A.dfr = [] → Gr H H3 → b = gathB bf x → ∃ w H4, callEnd E2 [.tmp 4] (.ret, A, H3) = .ok [(w, H4)] ∧ Gr H H4 ∧ ∀ _ : List Nat, w = .one (.b (gathB bf x)) := fun A H3 b _ h1 h2 h3 h4 => ⟨_, H3, callEnd_one (.b b) (.inr rfl) h2 h1, h3, fun _ => by rw [h4]⟩
  repeat' first | refine R1.ret ?_ | refine R1.exit ?_ | refine R1.skip ?_ | refine R1.s_ret ?_ | refine R1.s_exit ?_ | refine R1.s_assoc ?_ | refine R1.s_skip ?_ | refine R1.s_scope ?_ | ((first | refine R1.e_rg fun K hK => ?_ | refine R1.s_rg fun K hK => ?_ | refine R1.e_sq (by kernel_rfl) fun K hK => ?_ | refine R1.s_sq (by kernel_rfl) fun K hK => ?_); simp only [SG_nil, SG_cons, SU_yes, gw_n, gOf_n, List.map_cons, List.map_nil, vN_val, ldN_some, faN_some, lnN_some, SK_move, SK_load, SK_fieldAddr, SK_len, evTmp, ev_int, slot_put, putD_nt, slotOk, Nat.blt_eq, Nat.reduceLT, true_and, if_true, if_false, ltV_ptr, eqGt, doLoad_ptr, rowOf_arr, ldO_one, fieldAddr_at, List.length_cons, List.length_nil, Nat.zero_add, Nat.reduceAdd, Nat.reduceSub, Nat.le_refl, List.drop_succ_cons, List.drop_zero, List.headD_cons, Nat.lt_add_one, E2_P, t3, hnt, rb, lb, fd_good_2, ld_strs, ln_strs, hu1.len, hu1.lt]; refine hK _ _ ?_; clear hK K)
  refine R1.s_block fun K k1 k2 k3 k4 => ?_
  refine R1.loop (fun k A H2 => ∃ i : Nat, k = x.2.2.length - i ∧ i ≤ x.2.2.length ∧ Gr H1 H2 ∧ (∀ j, j < i → gOK bf x j (x.2.2.getD j []) = true) ∧ slot A.tm 0 = .one v ∧ slot A.tm 3 = .one (.o (.ptr H.nx 0 0 3)) ∧ slot A.tm 9 = .one u ∧ slot A.tm 10 = .one (.i .i64 (x.2.2.length : Int)) ∧ slot A.tm 11 = .one (.i .i64 (i : Int)) ∧ A.nt = 55 ∧ A.dfr = []) ?_ x.2.2.length
    ⟨0, rfl, Nat.zero_le _, Fr.refl _, fun j hj => absurd hj (Nat.not_lt_zero j), ?_⟩
  · clear t0 t3 hnt hdf A1
    rintro k A H2 ⟨i, rfl, hi, g2, hall, t0, t3, t9, t10, t11, hnt, hdf⟩
    have hu2 := hu1.gr g2
    have hv2 := hv1.gr g2
    repeat' first | refine R1.ret ?_ | refine R1.exit ?_ | refine R1.skip ?_ | refine R1.s_ret ?_ | refine R1.s_exit ?_ | refine R1.s_assoc ?_ | refine R1.s_skip ?_ | refine R1.s_scope ?_ | ((first | refine R1.e_rg fun K hK => ?_ | refine R1.s_rg fun K hK => ?_ | refine R1.e_sq (by kernel_rfl) fun K hK => ?_ | refine R1.s_sq (by kernel_rfl) fun K hK => ?_); simp only [SG_nil, SG_cons, SU_yes, gw_n, gOf_n, List.map_cons, List.map_nil, vN_val, SK_bin, evTmp, slotOk, Nat.blt_eq, Nat.reduceLT, true_and, ii_lss, E2_P, t10, t11, hnt]; refine hK _ _ ?_; clear hK K)
    repeat refine R1.s_assoc ?_
    (first | refine R1.s_cnd fun Kx Ky hx hy => ?_ | refine R1.e_cnd fun Kx Ky hx hy => ?_); simp only [boolP'_b, decide_eq_true_eq, evTmp, slot_put, if_true]
    refine iteI (fun hc => hx ?_) (fun hc => hy ?_)
    · clear hx hy Kx Ky
      have hlt : i < x.2.2.length := by omega
      obtain ⟨id, g, off, cells, rfl, hid, hgr, hat⟩ := hu2.open (by omega)
      have ew : x.2.2[i]? = some x.2.2[i] := List.getElem?_eq_getElem hlt
      have hgd : x.2.2.getD i [] = x.2.2[i] := by rw [List.getD_eq_getElem?_getD, ew]; rfl
      generalize x.2.2[i] = s at ew hgd
      obtain ⟨e1, e2⟩ := hat i s ew
      have hw2 : IntKind.i64.wrap ((i : Int) + 1) = ((i + 1 : Nat) : Int) := by rw [wrapI (by omega) (by omega)]; omega
      repeat' first | refine R1.ret ?_ | refine R1.exit ?_ | refine R1.skip ?_ | refine R1.s_ret ?_ | refine R1.s_exit ?_ | refine R1.s_assoc ?_ | refine R1.s_skip ?_ | refine R1.s_scope ?_ | ((first | refine R1.e_rg fun K hK => ?_ | refine R1.s_rg fun K hK => ?_ | refine R1.e_sq (by kernel_rfl) fun K hK => ?_ | refine R1.s_sq (by kernel_rfl) fun K hK => ?_); simp only [SG_nil, SG_cons, SU_yes, SU_no, gw_n, gw_gwv, gwv_b, gwv_u, gOf_n, gOf_some, List.map_cons, List.map_nil, List.getElem?_cons_zero, List.getElem?_cons_succ, Option.elim_some, Option.map_some, Option.bind_some, optP_some, boolP_b, boolP'_b, boolE_b, decide_eq_true_eq, decide_true, decide_false, valP_val, valP_guard, vN_val, ldN_some, stN_some, faN_some, iaN_some, lnN_some, pkN_b, sliceO_some, slice_lo, slice_hi, slice_1, indexAddr_0, Nat.add_one_sub_one, Nat.one_mul, len_sl, len_ns, len_str', posS, eq0S, cast0, Int.reduceLT, Int.reduceLE, Int.reduceBEq, Option.map_none, Nat.lt_add_left_iff_pos, Nat.zero_lt_succ, Nat.le_add_left, SK_move, SK_assign, SK_pick, SK_alloc, SK_box, SK_load, SK_store, SK_bin, SK_not, SK_fieldAddr, SK_field, SK_indexAddr, SK_slice, SK_extract, SK_nilCheck, SK_makeFunc, SK_makeMap, SK_makeSlice, SK_build, SK_buildSlice, SK_len, SK_append, SK_call, doCall_clo, doCall_clo, evTmp, ev_int, ev_bool, ev_str, ev_nilS, ev_func, opFev, evs_cons, evs_nil, slot_put, putD_nt, putD_none, putD_dfr, slotOk, Nat.blt_eq, Nat.reduceLT, Nat.reduceEqDiff, Nat.reduceLeDiff, reduceIte, true_and, and_true, true_or, or_true, if_true, if_false, Bool.false_eq_true, Bool.true_eq_false, not_false_eq_true, not_true_eq_false, ltV_ptr, ltV_sl, ltV_nil, ltV_str, ltV_i, nxNew, nxMod, get_newE, get_newL, get_modE, get_modN, ltAdd, ltSelf, eqLt, eqGt, eqLtA, eqGtA, eqSelfA, eqASelf, eqAA, ltAA, doLoad_ptr, doStore_ptr, rowOf_arr, rowOf_ro, ldO_agg, ldO_one, stO_arr, splice_eq, fieldAddr_at, Bool.not_eq_true', Bool.not_eq_false', decide_eq_false_iff_not, ne_eq, Nat.reduceLeDiff, Nat.lt_irrefl, gt_iff_lt, cells_one, cells_agg, noTup_one, noTup_agg, List.length_cons, List.length_nil, Nat.zero_add, Nat.add_zero, Nat.reduceAdd, Nat.reduceSub, Nat.reduceMul, Nat.le_refl, Nat.zero_le, capsOf_nil, capsOf_cons, capArgs_nil, capArgs_cons, List.cons_append, List.nil_append, List.append_nil, ex_0, ex_0a, ex_1, ex_1a, ex_2, ex_2a, ii_lss, ii_leq, ii_gtr, ii_geq, ii_eql, ii_neq, ii_add, ii_sub, ii_mul, ss_lss, ss_geq, ss_leq, ss_gtr, ss_eql, ss_neq, List.take_succ_cons, List.take_zero, List.drop_succ_cons, List.drop_zero, List.take_nil, List.drop_nil, List.headD_cons, Bool.not_true, Bool.not_false, Nat.lt_add_one, bin_agg, bin_b, agg2_agg, bool2_b, aggEq_nil, aggEq_s, aggEq_i, aggEq_b, aggO_some, fill_nil, fill_cons, Nat.zero_mul, partsF_nil, partsF_cons, repl_one, SK_lookup, SK_mapUpdate, lkN_some, upN_some, ltV_mp, nilCheck_ptr, lookOut_f, lookOut_t, doCall_yl, ofValue_int, ofValue_bool, ev_nilP, ev_nilM, ev_nilF]; refine hK _ _ ?_; clear hK K)
      refine R1.s_block fun K2 q1 q2 q3 q4 => ?_
      repeat' first | refine R1.ret ?_ | refine R1.exit ?_ | refine R1.skip ?_ | refine R1.s_ret ?_ | refine R1.s_exit ?_ | refine R1.s_assoc ?_ | refine R1.s_skip ?_ | refine R1.s_scope ?_ | ((first | refine R1.e_rg fun K hK => ?_ | refine R1.s_rg fun K hK => ?_ | refine R1.e_sq (by kernel_rfl) fun K hK => ?_ | refine R1.s_sq (by kernel_rfl) fun K hK => ?_); simp only [SG_nil, SG_cons, SU_yes, gw_n, gOf_n, List.map_cons, List.map_nil, vN_val, ldN_some, iaN_some, Nat.zero_lt_succ, SK_move, SK_assign, SK_load, SK_indexAddr, SK_call, evTmp, ev_func, evs_cons, evs_nil, slot_put, putD_nt, slotOk, Nat.blt_eq, Nat.reduceLT, true_and, if_true, if_false, ltV_ptr, eqLt, eqGt, doLoad_ptr, ldO_one, Nat.le_refl, Nat.lt_add_one, E2_P, t9, t11, hnt, el_strs, ld_str, indexAddr_cast hlt, hid, hgr, e1, e2]; refine hK _ _ ?_; clear hK K)
      repeat refine R1.s_assoc ?_
      refine R1.s_rg fun K hK => ?_
      simp only [SG_cons, SU_yes, gw_n, gOf_n, List.map_cons, List.map_nil, Nat.zero_lt_succ, SK_move, SK_call, doCall_clo, doCall_clo, evTmp, ev_func, evs_cons, evs_nil, slot_put, putD_nt, slotOk, Nat.blt_eq, Nat.reduceLT, true_and, if_true, if_false, eqLt, eqGt, capArgs_nil, List.append_nil, Nat.lt_add_one, E2_P, t0, hnt, bd_goodAt]
      refine WE.con (goodAt_con H2 v bf s hv2 hL) fun w H3 g3 hw => ?_
      subst hw
      simp only [SG_nil, SG_cons, SU_yes, gw_n, SK_assign, evTmp, slot_put, putD_nt, slotOk, Nat.blt_eq, Nat.reduceLT, true_and, if_true, if_false, eqGt, Nat.lt_add_one, hnt]
      refine hK _ _ ?_
      clear hK K
      have g23 := g2.gr g3
      have g3' := g1.gr g23
      have hu3 := hu1.gr g23
      have hv3 := hv1.gr g23
      have rb : H3.get H.nx = some (.arr [.o (.str x.1), .o (.str x.2.1), .o (.sl id g off x.2.2.length 1)] 73 0 0) := by rw [g23.get _ lb not_false]; exact rb
      have lb : H.nx < H3.nx := Nat.lt_of_lt_of_le lb g23.nx
      have hid3 : id < H3.nx := Nat.lt_of_lt_of_le hid g3.nx
      have hgr3 : rowOf (H3.get id) g = some cells := by rw [g3.get _ hid not_false]; exact hgr
      refine R1.genA (fun A4 => slot A4.tm 0 = .one v ∧ slot A4.tm 3 = .one (.o (.ptr H.nx 0 0 3)) ∧ slot A4.tm 5 = .one (.i .i64 (i : Int)) ∧ slot A4.tm 6 = .one (.o (.str s)) ∧ slot A4.tm 7 = .one (.i .i64 (idxG 0 bf s)) ∧ slot A4.tm 9 = .one (.o (.sl id g off x.2.2.length 1)) ∧ slot A4.tm 10 = .one (.i .i64 (x.2.2.length : Int)) ∧ slot A4.tm 11 = .one (.i .i64 (i : Int)) ∧ A4.nt = 55 ∧ A4.dfr = [])
        ⟨by simp only [slot_put, Nat.reduceEqDiff, reduceIte, t0], by simp only [slot_put, Nat.reduceEqDiff, reduceIte, t3], by simp only [slot_put, Nat.reduceEqDiff, reduceIte], by simp only [slot_put, Nat.reduceEqDiff, reduceIte], by simp only [slot_put, Nat.reduceEqDiff, reduceIte], by simp only [slot_put, Nat.reduceEqDiff, reduceIte, t9], by simp only [slot_put, Nat.reduceEqDiff, reduceIte, t10], by simp only [slot_put, Nat.reduceEqDiff, reduceIte, t11], by simp only [putD_nt, hnt], by simp only [putD_dfr, hdf]⟩ ?_
      clear t0 t3 t9 t10 t11 hnt hdf A
      rintro A ⟨t0, t3, t5, t6, t7, t9, t10, t11, hnt, hdf⟩
      rcases idxG_cases 0 bf s with hm | ⟨k, y, hy0, hk⟩
      · have c1 : (idxG 0 bf s < 0) = True := eq_true (by omega)
        have hno : gOK bf x i s = false := by
          unfold gOK
          split
          · rw [decide_eq_true (by omega : idxG 0 bf s < 0)]; rfl
          · rfl
        repeat refine R1.s_assoc ?_
        refine R1.s_sq (by kernel_rfl) fun K hK => ?_
        simp only [SG_nil, SG_cons, SU_yes, SU_no, gw_n, gw_gwv, gwv_b, gwv_u, gOf_n, gOf_some, List.map_cons, List.map_nil, List.getElem?_cons_zero, List.getElem?_cons_succ, Option.elim_some, decide_true, vN_val, pkN_b, SK_move, SK_pick, SK_bin, evTmp, ev_int, ev_bool, slot_put, putD_nt, slotOk, Nat.blt_eq, Nat.reduceLT, true_and, if_true, if_false, Bool.true_eq_false, eqLt, eqGt, ii_lss, Nat.lt_add_one, E2_P, t7, hnt, c1]
        refine hK _ _ ?_
        clear hK K
        repeat refine R1.s_assoc ?_
        (first | refine R1.s_cnd fun Kx Ky hx hy => ?_ | refine R1.e_cnd fun Kx Ky hx hy => ?_); simp only [boolP'_b, evTmp, slot_put, Nat.reduceLT, if_true, if_false, eqGt, Nat.lt_add_one]
        refine hx ?_
        clear hx hy Kx Ky
        repeat' first | refine R1.ret ?_ | refine R1.exit ?_ | refine R1.skip ?_ | refine R1.s_ret ?_ | refine R1.s_exit ?_ | refine R1.s_assoc ?_ | refine R1.s_skip ?_ | refine R1.s_scope ?_ | ((first | refine R1.e_rg fun K hK => ?_ | refine R1.s_rg fun K hK => ?_ | refine R1.e_sq (by kernel_rfl) fun K hK => ?_ | refine R1.s_sq (by kernel_rfl) fun K hK => ?_); simp only [SG_nil, SG_cons, SU_yes, gw_n, gOf_n, List.map_cons, List.map_nil, SK_assign, ev_bool, putD_nt, slotOk, Nat.blt_eq, Nat.reduceLT, true_and, hnt]; refine hK _ _ ?_; clear hK K)
        exact q4 _ _ (k4 _ _ (fin _ _ false (.inr rfl) (by simp only [slot_put, Nat.reduceEqDiff, reduceIte]) (by simp only [putD_dfr, hdf]) g3' (gath_no ew hno).symm))
      · rw [Nat.zero_add] at hk
        have hkl : k < bf.length := (List.getElem?_eq_some_iff.1 hy0).1
        have c1 : (idxG 0 bf s < 0) = False := eq_false (by omega)
        have hgk : gOK bf x i s = (lEq y.2.1 x.2.1 && (!decide (0 < (y.2.2.length : Int)) && (!decide (0 < (i : Int)) || lLess (x.2.2.getD (i - 1) []) s))) := by
          unfold gOK
          rw [hk, Int.toNat_natCast, hy0, decide_eq_false (by omega : ¬ (k : Int) < 0)]; rfl
        obtain ⟨id', g', off', cells', rfl, hid', hgr', hat'⟩ := hv3.open (by omega)
        obtain ⟨uy, hy1⟩ := hat' k y hy0
        rw [hk] at t7 c1
        cases c2 : lEq y.2.1 x.2.1 with
        | false =>
          repeat refine R1.s_assoc ?_
          refine R1.s_sq (by kernel_rfl) fun K hK => ?_
          simp only [SG_nil, SG_cons, SU_yes, SU_no, gw_n, gw_gwv, gwv_b, gwv_u, gOf_n, gOf_some, List.map_cons, List.map_nil, List.getElem?_cons_zero, List.getElem?_cons_succ, Option.elim_some, decide_false, vN_val, ldN_some, faN_some, iaN_some, pkN_b, Nat.add_one_sub_one, Nat.zero_lt_succ, SK_move, SK_pick, SK_load, SK_bin, SK_fieldAddr, SK_indexAddr, evTmp, ev_int, ev_bool, slot_put, putD_nt, slotOk, Nat.blt_eq, Nat.reduceLT, Nat.reduceLeDiff, true_and, if_true, if_false, Bool.false_eq_true, Bool.true_eq_false, ltV_ptr, eqLt, eqGt, doLoad_ptr, rowOf_arr, ldO_one, fieldAddr_at, Nat.reduceLeDiff, List.length_cons, List.length_nil, Nat.zero_add, Nat.reduceAdd, Nat.le_refl, ii_lss, ss_neq, List.drop_succ_cons, List.drop_zero, List.headD_cons, Bool.not_false, Nat.lt_add_one, E2_P, t0, t3, t7, hnt, rb, lb, el_goods, fd_good_1, ld_str, c1, c2, indexAddr_cast hkl, hid', hgr', hy1.f2, hy1.le2]
          refine hK _ _ ?_
          clear hK K
          repeat refine R1.s_assoc ?_
          (first | refine R1.s_cnd fun Kx Ky hx hy => ?_ | refine R1.e_cnd fun Kx Ky hx hy => ?_); simp only [boolP'_b, evTmp, slot_put, Nat.reduceLT, if_true, if_false, eqGt, Nat.lt_add_one]
          refine hx ?_
          clear hx hy Kx Ky
          repeat' first | refine R1.ret ?_ | refine R1.exit ?_ | refine R1.skip ?_ | refine R1.s_ret ?_ | refine R1.s_exit ?_ | refine R1.s_assoc ?_ | refine R1.s_skip ?_ | refine R1.s_scope ?_ | ((first | refine R1.e_rg fun K hK => ?_ | refine R1.s_rg fun K hK => ?_ | refine R1.e_sq (by kernel_rfl) fun K hK => ?_ | refine R1.s_sq (by kernel_rfl) fun K hK => ?_); simp only [SG_nil, SG_cons, SU_yes, gw_n, gOf_n, List.map_cons, List.map_nil, SK_assign, ev_bool, putD_nt, slotOk, Nat.blt_eq, Nat.reduceLT, true_and, hnt]; refine hK _ _ ?_; clear hK K)
          exact q4 _ _ (k4 _ _ (fin _ _ false (.inr rfl) (by simp only [slot_put, Nat.reduceEqDiff, reduceIte]) (by simp only [putD_dfr, hdf]) g3' (gath_no ew (by rw [hgk, c2]; rfl)).symm))
        | true =>
          by_cases h3 : 0 < (y.2.2.length : Int)
          · have c3 : (0 < (y.2.2.length : Int)) = True := eq_true h3
            repeat refine R1.s_assoc ?_
            refine R1.s_sq (by kernel_rfl) fun K hK => ?_
            simp only [SG_nil, SG_cons, SU_yes, SU_no, gw_n, gw_gwv, gwv_b, gwv_u, gOf_n, gOf_some, List.map_cons, List.map_nil, List.getElem?_cons_zero, List.getElem?_cons_succ, Option.elim_some, decide_true, decide_false, vN_val, ldN_some, faN_some, iaN_some, lnN_some, pkN_b, Nat.add_one_sub_one, Nat.zero_lt_succ, SK_move, SK_pick, SK_load, SK_bin, SK_fieldAddr, SK_indexAddr, SK_len, evTmp, ev_int, ev_bool, slot_put, putD_nt, slotOk, Nat.blt_eq, Nat.reduceLT, Nat.reduceLeDiff, true_and, if_true, if_false, Bool.false_eq_true, Bool.true_eq_false, ltV_ptr, eqLt, eqGt, doLoad_ptr, rowOf_arr, ldO_one, fieldAddr_at, Nat.reduceLeDiff, List.length_cons, List.length_nil, Nat.zero_add, Nat.reduceAdd, Nat.reduceSub, Nat.le_refl, ii_lss, ii_gtr, ss_neq, List.drop_succ_cons, List.drop_zero, List.headD_cons, Bool.not_true, Nat.lt_add_one, E2_P, t0, t3, t7, hnt, rb, lb, el_goods, fd_good_1, fd_good_2, ld_str, ld_strs, ln_strs, c1, c2, c3, indexAddr_cast hkl, hid', hgr', hy1.f2, hy1.le2, hy1.f3, hy1.le3, hy1.of.len, hy1.of.lt]
            refine hK _ _ ?_
            clear hK K
            repeat refine R1.s_assoc ?_
            (first | refine R1.s_cnd fun Kx Ky hx hy => ?_ | refine R1.e_cnd fun Kx Ky hx hy => ?_); simp only [boolP'_b, evTmp, slot_put, Nat.reduceLT, if_true, if_false, eqGt, Nat.lt_add_one]
            refine hx ?_
            clear hx hy Kx Ky
            repeat' first | refine R1.ret ?_ | refine R1.exit ?_ | refine R1.skip ?_ | refine R1.s_ret ?_ | refine R1.s_exit ?_ | refine R1.s_assoc ?_ | refine R1.s_skip ?_ | refine R1.s_scope ?_ | ((first | refine R1.e_rg fun K hK => ?_ | refine R1.s_rg fun K hK => ?_ | refine R1.e_sq (by kernel_rfl) fun K hK => ?_ | refine R1.s_sq (by kernel_rfl) fun K hK => ?_); simp only [SG_nil, SG_cons, SU_yes, gw_n, gOf_n, List.map_cons, List.map_nil, SK_assign, ev_bool, putD_nt, slotOk, Nat.blt_eq, Nat.reduceLT, true_and, hnt]; refine hK _ _ ?_; clear hK K)
            exact q4 _ _ (k4 _ _ (fin _ _ false (.inr rfl) (by simp only [slot_put, Nat.reduceEqDiff, reduceIte]) (by simp only [putD_dfr, hdf]) g3' (gath_no ew (by rw [hgk, c2, decide_eq_true h3]; rfl)).symm))
          · have c3 : (0 < (y.2.2.length : Int)) = False := eq_false h3
            have good : ∀ A2 : AAct, slot A2.tm 0 = .one (.o (.sl id' g' off' bf.length 3)) → slot A2.tm 3 = .one (.o (.ptr H.nx 0 0 3)) → slot A2.tm 9 = .one (.o (.sl id g off x.2.2.length 1)) → slot A2.tm 10 = .one (.i .i64 (x.2.2.length : Int)) → slot A2.tm 11 = .one (.i .i64 ((i + 1 : Nat) : Int)) → A2.nt = 55 → A2.dfr = [] → gOK bf x i s = true →
                ∃ k', k' < x.2.2.length - i ∧ ∃ i : Nat, k' = x.2.2.length - i ∧ i ≤ x.2.2.length ∧ Gr H1 H3 ∧ (∀ j, j < i → gOK bf x j (x.2.2.getD j []) = true) ∧ slot A2.tm 0 = .one (.o (.sl id' g' off' bf.length 3)) ∧ slot A2.tm 3 = .one (.o (.ptr H.nx 0 0 3)) ∧ slot A2.tm 9 = .one (.o (.sl id g off x.2.2.length 1)) ∧ slot A2.tm 10 = .one (.i .i64 (x.2.2.length : Int)) ∧ slot A2.tm 11 = .one (.i .i64 (i : Int)) ∧ A2.nt = 55 ∧ A2.dfr = [] :=
              fun A2 a b c d e f g h => ⟨x.2.2.length - (i + 1), by omega, i + 1, rfl, hlt, g23, fun j hj => by
                rcases Nat.lt_or_ge j i with h' | h'
                · exact hall j h'
                · have : j = i := by omega
                  subst this
                  rw [hgd]; exact h, a, b, c, d, e, f, g⟩
            by_cases h4 : 0 < (i : Int)
            · have c4 : (0 < (i : Int)) = True := eq_true h4
              have hlt1 : i - 1 < x.2.2.length := by omega
              have ep : x.2.2[i - 1]? = some x.2.2[i - 1] := List.getElem?_eq_getElem hlt1
              have hpd : x.2.2.getD (i - 1) [] = x.2.2[i - 1] := by rw [List.getD_eq_getElem?_getD, ep]; rfl
              generalize x.2.2[i - 1] = sp at ep hpd
              obtain ⟨f1, f2⟩ := hat (i - 1) sp ep
              have hwm : IntKind.i64.wrap ((i : Int) - 1) = ((i - 1 : Nat) : Int) := by rw [wrapI (by omega) (by omega)]; omega
              rw [decide_eq_true h4, hpd] at hgk
              cases c5 : lLess sp s with
              | false =>
                repeat refine R1.s_assoc ?_
                refine R1.s_sq (by kernel_rfl) fun K hK => ?_
                simp only [SG_nil, SG_cons, SU_yes, gw_n, gw_gwv, gwv_b, gOf_n, gOf_some, List.map_cons, List.map_nil, List.getElem?_cons_zero, List.getElem?_cons_succ, Option.elim_some, decide_true, decide_false, vN_val, ldN_some, faN_some, iaN_some, lnN_some, pkN_b, Nat.add_one_sub_one, Nat.zero_lt_succ, SK_move, SK_pick, SK_load, SK_bin, SK_fieldAddr, SK_indexAddr, SK_len, evTmp, ev_int, ev_bool, slot_put, putD_nt, slotOk, Nat.blt_eq, Nat.reduceLT, Nat.reduceLeDiff, true_and, if_true, if_false, Bool.false_eq_true, ltV_ptr, eqLt, eqGt, doLoad_ptr, rowOf_arr, ldO_one, fieldAddr_at, Nat.reduceLeDiff, List.length_cons, List.length_nil, Nat.zero_add, Nat.reduceAdd, Nat.reduceSub, Nat.le_refl, ii_lss, ii_gtr, ii_sub, ss_geq, ss_neq, List.drop_succ_cons, List.drop_zero, List.headD_cons, Bool.not_true, Bool.not_false, Nat.lt_add_one, E2_P, t0, t3, t5, t6, t7, hnt, rb, lb, el_goods, el_strs, fd_good_1, fd_good_2, ld_str, ld_strs, ln_strs, c1, c2, c3, c4, c5, hwm, indexAddr_cast hkl, indexAddr_cast hlt1, hid', hgr', hy1.f2, hy1.le2, hy1.f3, hy1.le3, hy1.of.len, hy1.of.lt, hid3, hgr3, f1, f2]
                refine hK _ _ ?_
                clear hK K
                repeat refine R1.s_assoc ?_
                (first | refine R1.s_cnd fun Kx Ky hx hy => ?_ | refine R1.e_cnd fun Kx Ky hx hy => ?_); simp only [boolP'_b, evTmp, slot_put, Nat.reduceLT, if_true, if_false, eqGt, Nat.lt_add_one]
                refine hx ?_
                clear hx hy Kx Ky
                repeat' first | refine R1.ret ?_ | refine R1.exit ?_ | refine R1.skip ?_ | refine R1.s_ret ?_ | refine R1.s_exit ?_ | refine R1.s_assoc ?_ | refine R1.s_skip ?_ | refine R1.s_scope ?_ | ((first | refine R1.e_rg fun K hK => ?_ | refine R1.s_rg fun K hK => ?_ | refine R1.e_sq (by kernel_rfl) fun K hK => ?_ | refine R1.s_sq (by kernel_rfl) fun K hK => ?_); simp only [SG_nil, SG_cons, SU_yes, gw_n, gOf_n, List.map_cons, List.map_nil, SK_assign, ev_bool, putD_nt, slotOk, Nat.blt_eq, Nat.reduceLT, true_and, hnt]; refine hK _ _ ?_; clear hK K)
                exact q4 _ _ (k4 _ _ (fin _ _ false (.inr rfl) (by simp only [slot_put, Nat.reduceEqDiff, reduceIte]) (by simp only [putD_dfr, hdf]) g3' (gath_no ew (by rw [hgk, c2, c5, decide_eq_false h3]; rfl)).symm))
              | true =>
                repeat refine R1.s_assoc ?_
                refine R1.s_sq (by kernel_rfl) fun K hK => ?_
                simp only [SG_nil, SG_cons, SU_yes, gw_n, gw_gwv, gwv_b, gOf_n, gOf_some, List.map_cons, List.map_nil, List.getElem?_cons_zero, List.getElem?_cons_succ, Option.elim_some, decide_true, decide_false, vN_val, ldN_some, faN_some, iaN_some, lnN_some, pkN_b, Nat.add_one_sub_one, Nat.zero_lt_succ, SK_move, SK_pick, SK_load, SK_bin, SK_fieldAddr, SK_indexAddr, SK_len, evTmp, ev_int, ev_bool, slot_put, putD_nt, slotOk, Nat.blt_eq, Nat.reduceLT, Nat.reduceLeDiff, true_and, if_true, if_false, Bool.false_eq_true, ltV_ptr, eqLt, eqGt, doLoad_ptr, rowOf_arr, ldO_one, fieldAddr_at, Nat.reduceLeDiff, List.length_cons, List.length_nil, Nat.zero_add, Nat.reduceAdd, Nat.reduceSub, Nat.le_refl, ii_lss, ii_gtr, ii_sub, ss_geq, ss_neq, List.drop_succ_cons, List.drop_zero, List.headD_cons, Bool.not_true, Nat.lt_add_one, E2_P, t0, t3, t5, t6, t7, hnt, rb, lb, el_goods, el_strs, fd_good_1, fd_good_2, ld_str, ld_strs, ln_strs, c1, c2, c3, c4, c5, hwm, indexAddr_cast hkl, indexAddr_cast hlt1, hid', hgr', hy1.f2, hy1.le2, hy1.f3, hy1.le3, hy1.of.len, hy1.of.lt, hid3, hgr3, f1, f2]
                refine hK _ _ ?_
                clear hK K
                repeat refine R1.s_assoc ?_
                (first | refine R1.s_cnd fun Kx Ky hx hy => ?_ | refine R1.e_cnd fun Kx Ky hx hy => ?_); simp only [boolP'_b, evTmp, slot_put, Nat.reduceLT, if_true, if_false, Bool.false_eq_true, eqGt, Nat.lt_add_one]
                refine hy ?_
                clear hx hy Kx Ky
                repeat' first | refine R1.ret ?_ | refine R1.exit ?_ | refine R1.skip ?_ | refine R1.s_ret ?_ | refine R1.s_exit ?_ | refine R1.s_assoc ?_ | refine R1.s_skip ?_ | refine R1.s_scope ?_ | ((first | refine R1.e_rg fun K hK => ?_ | refine R1.s_rg fun K hK => ?_ | refine R1.e_sq (by kernel_rfl) fun K hK => ?_ | refine R1.s_sq (by kernel_rfl) fun K hK => ?_); simp only [SG_nil, SG_cons, SU_yes, SU_no, gw_n, gw_gwv, gwv_b, gwv_u, gOf_n, gOf_some, List.map_cons, List.map_nil, List.getElem?_cons_zero, List.getElem?_cons_succ, Option.elim_some, Option.map_some, Option.bind_some, optP_some, boolP_b, boolP'_b, boolE_b, decide_eq_true_eq, decide_true, decide_false, valP_val, valP_guard, vN_val, ldN_some, stN_some, faN_some, iaN_some, lnN_some, pkN_b, sliceO_some, slice_lo, slice_hi, slice_1, indexAddr_0, Nat.add_one_sub_one, Nat.one_mul, len_sl, len_ns, len_str', posS, eq0S, cast0, Int.reduceLT, Int.reduceLE, Int.reduceBEq, Option.map_none, Nat.lt_add_left_iff_pos, Nat.zero_lt_succ, Nat.le_add_left, SK_move, SK_assign, SK_pick, SK_alloc, SK_box, SK_load, SK_store, SK_bin, SK_not, SK_fieldAddr, SK_field, SK_indexAddr, SK_slice, SK_extract, SK_nilCheck, SK_makeFunc, SK_makeMap, SK_makeSlice, SK_build, SK_buildSlice, SK_len, SK_append, SK_call, doCall_clo, doCall_clo, evTmp, ev_int, ev_bool, ev_str, ev_nilS, ev_func, opFev, evs_cons, evs_nil, slot_put, putD_nt, putD_none, putD_dfr, slotOk, Nat.blt_eq, Nat.reduceLT, Nat.reduceEqDiff, Nat.reduceLeDiff, reduceIte, true_and, and_true, true_or, or_true, if_true, if_false, Bool.false_eq_true, Bool.true_eq_false, not_false_eq_true, not_true_eq_false, ltV_ptr, ltV_sl, ltV_nil, ltV_str, ltV_i, nxNew, nxMod, get_newE, get_newL, get_modE, get_modN, ltAdd, ltSelf, eqLt, eqGt, eqLtA, eqGtA, eqSelfA, eqASelf, eqAA, ltAA, doLoad_ptr, doStore_ptr, rowOf_arr, rowOf_ro, ldO_agg, ldO_one, stO_arr, splice_eq, fieldAddr_at, Bool.not_eq_true', Bool.not_eq_false', decide_eq_false_iff_not, ne_eq, Nat.reduceLeDiff, Nat.lt_irrefl, gt_iff_lt, cells_one, cells_agg, noTup_one, noTup_agg, List.length_cons, List.length_nil, Nat.zero_add, Nat.add_zero, Nat.reduceAdd, Nat.reduceSub, Nat.reduceMul, Nat.le_refl, Nat.zero_le, capsOf_nil, capsOf_cons, capArgs_nil, capArgs_cons, List.cons_append, List.nil_append, List.append_nil, ex_0, ex_0a, ex_1, ex_1a, ex_2, ex_2a, ii_lss, ii_leq, ii_gtr, ii_geq, ii_eql, ii_neq, ii_add, ii_sub, ii_mul, ss_lss, ss_geq, ss_leq, ss_gtr, ss_eql, ss_neq, List.take_succ_cons, List.take_zero, List.drop_succ_cons, List.drop_zero, List.take_nil, List.drop_nil, List.headD_cons, Bool.not_true, Bool.not_false, Nat.lt_add_one, bin_agg, bin_b, agg2_agg, bool2_b, aggEq_nil, aggEq_s, aggEq_i, aggEq_b, aggO_some, fill_nil, fill_cons, Nat.zero_mul, partsF_nil, partsF_cons, repl_one, SK_lookup, SK_mapUpdate, lkN_some, upN_some, ltV_mp, nilCheck_ptr, lookOut_f, lookOut_t, doCall_yl, ofValue_int, ofValue_bool, ev_nilP, ev_nilM, ev_nilF, hnt]; refine hK _ _ ?_; clear hK K)
                refine q1 _ _ ?_
                repeat' first | refine R1.ret ?_ | refine R1.exit ?_ | refine R1.skip ?_ | refine R1.s_ret ?_ | refine R1.s_exit ?_ | refine R1.s_assoc ?_ | refine R1.s_skip ?_ | refine R1.s_scope ?_ | ((first | refine R1.e_rg fun K hK => ?_ | refine R1.s_rg fun K hK => ?_ | refine R1.e_sq (by kernel_rfl) fun K hK => ?_ | refine R1.s_sq (by kernel_rfl) fun K hK => ?_); simp only [SG_nil, SG_cons, SU_yes, gw_n, gOf_n, List.map_cons, List.map_nil, vN_val, SK_move, SK_bin, evTmp, ev_int, slot_put, putD_nt, slotOk, Nat.blt_eq, Nat.reduceLT, true_and, if_true, if_false, eqLt, eqGt, ii_add, Nat.lt_add_one, hnt, t11, hw2]; refine hK _ _ ?_; clear hK K)
                refine good _ ?_ ?_ ?_ ?_ ?_ ?_ ?_ (by rw [hgk, c2, c5, decide_eq_false h3]; rfl)
                all_goals simp only [slot_put, putD_nt, putD_dfr, Nat.reduceEqDiff, reduceIte, t0, t3, t9, t10, hnt, hdf]
            · have c4 : (0 < (i : Int)) = False := eq_false h4
              rw [decide_eq_false h4] at hgk
              repeat refine R1.s_assoc ?_
              refine R1.s_sq (by kernel_rfl) fun K hK => ?_
              simp only [SG_nil, SG_cons, SU_yes, SU_no, gw_n, gw_gwv, gwv_b, gOf_n, gOf_some, List.map_cons, List.map_nil, List.getElem?_cons_zero, List.getElem?_cons_succ, Option.elim_some, decide_false, vN_val, ldN_some, faN_some, iaN_some, lnN_some, pkN_b, Nat.add_one_sub_one, Nat.zero_lt_succ, SK_move, SK_pick, SK_load, SK_bin, SK_fieldAddr, SK_indexAddr, SK_len, evTmp, ev_int, ev_bool, slot_put, putD_nt, slotOk, Nat.blt_eq, Nat.reduceLT, Nat.reduceLeDiff, true_and, if_true, if_false, Bool.false_eq_true, ltV_ptr, eqLt, eqGt, doLoad_ptr, rowOf_arr, ldO_one, fieldAddr_at, Nat.reduceLeDiff, List.length_cons, List.length_nil, Nat.zero_add, Nat.reduceAdd, Nat.reduceSub, Nat.le_refl, ii_lss, ii_gtr, ss_neq, List.drop_succ_cons, List.drop_zero, List.headD_cons, Bool.not_true, Nat.lt_add_one, E2_P, t0, t3, t5, t7, hnt, rb, lb, el_goods, fd_good_1, fd_good_2, ld_str, ld_strs, ln_strs, c1, c2, c3, c4, indexAddr_cast hkl, hid', hgr', hy1.f2, hy1.le2, hy1.f3, hy1.le3, hy1.of.len, hy1.of.lt]
              refine hK _ _ ?_
              clear hK K
              repeat refine R1.s_assoc ?_
              (first | refine R1.s_cnd fun Kx Ky hx hy => ?_ | refine R1.e_cnd fun Kx Ky hx hy => ?_); simp only [boolP'_b, evTmp, slot_put, Nat.reduceLT, if_true, if_false, Bool.false_eq_true, eqGt, Nat.lt_add_one]
              refine hy ?_
              clear hx hy Kx Ky
              repeat' first | refine R1.ret ?_ | refine R1.exit ?_ | refine R1.skip ?_ | refine R1.s_ret ?_ | refine R1.s_exit ?_ | refine R1.s_assoc ?_ | refine R1.s_skip ?_ | refine R1.s_scope ?_ | ((first | refine R1.e_rg fun K hK => ?_ | refine R1.s_rg fun K hK => ?_ | refine R1.e_sq (by kernel_rfl) fun K hK => ?_ | refine R1.s_sq (by kernel_rfl) fun K hK => ?_); simp only [SG_nil, SG_cons, SU_yes, SU_no, gw_n, gw_gwv, gwv_b, gwv_u, gOf_n, gOf_some, List.map_cons, List.map_nil, List.getElem?_cons_zero, List.getElem?_cons_succ, Option.elim_some, Option.map_some, Option.bind_some, optP_some, boolP_b, boolP'_b, boolE_b, decide_eq_true_eq, decide_true, decide_false, valP_val, valP_guard, vN_val, ldN_some, stN_some, faN_some, iaN_some, lnN_some, pkN_b, sliceO_some, slice_lo, slice_hi, slice_1, indexAddr_0, Nat.add_one_sub_one, Nat.one_mul, len_sl, len_ns, len_str', posS, eq0S, cast0, Int.reduceLT, Int.reduceLE, Int.reduceBEq, Option.map_none, Nat.lt_add_left_iff_pos, Nat.zero_lt_succ, Nat.le_add_left, SK_move, SK_assign, SK_pick, SK_alloc, SK_box, SK_load, SK_store, SK_bin, SK_not, SK_fieldAddr, SK_field, SK_indexAddr, SK_slice, SK_extract, SK_nilCheck, SK_makeFunc, SK_makeMap, SK_makeSlice, SK_build, SK_buildSlice, SK_len, SK_append, SK_call, doCall_clo, doCall_clo, evTmp, ev_int, ev_bool, ev_str, ev_nilS, ev_func, opFev, evs_cons, evs_nil, slot_put, putD_nt, putD_none, putD_dfr, slotOk, Nat.blt_eq, Nat.reduceLT, Nat.reduceEqDiff, Nat.reduceLeDiff, reduceIte, true_and, and_true, true_or, or_true, if_true, if_false, Bool.false_eq_true, Bool.true_eq_false, not_false_eq_true, not_true_eq_false, ltV_ptr, ltV_sl, ltV_nil, ltV_str, ltV_i, nxNew, nxMod, get_newE, get_newL, get_modE, get_modN, ltAdd, ltSelf, eqLt, eqGt, eqLtA, eqGtA, eqSelfA, eqASelf, eqAA, ltAA, doLoad_ptr, doStore_ptr, rowOf_arr, rowOf_ro, ldO_agg, ldO_one, stO_arr, splice_eq, fieldAddr_at, Bool.not_eq_true', Bool.not_eq_false', decide_eq_false_iff_not, ne_eq, Nat.reduceLeDiff, Nat.lt_irrefl, gt_iff_lt, cells_one, cells_agg, noTup_one, noTup_agg, List.length_cons, List.length_nil, Nat.zero_add, Nat.add_zero, Nat.reduceAdd, Nat.reduceSub, Nat.reduceMul, Nat.le_refl, Nat.zero_le, capsOf_nil, capsOf_cons, capArgs_nil, capArgs_cons, List.cons_append, List.nil_append, List.append_nil, ex_0, ex_0a, ex_1, ex_1a, ex_2, ex_2a, ii_lss, ii_leq, ii_gtr, ii_geq, ii_eql, ii_neq, ii_add, ii_sub, ii_mul, ss_lss, ss_geq, ss_leq, ss_gtr, ss_eql, ss_neq, List.take_succ_cons, List.take_zero, List.drop_succ_cons, List.drop_zero, List.take_nil, List.drop_nil, List.headD_cons, Bool.not_true, Bool.not_false, Nat.lt_add_one, bin_agg, bin_b, agg2_agg, bool2_b, aggEq_nil, aggEq_s, aggEq_i, aggEq_b, aggO_some, fill_nil, fill_cons, Nat.zero_mul, partsF_nil, partsF_cons, repl_one, SK_lookup, SK_mapUpdate, lkN_some, upN_some, ltV_mp, nilCheck_ptr, lookOut_f, lookOut_t, doCall_yl, ofValue_int, ofValue_bool, ev_nilP, ev_nilM, ev_nilF, hnt]; refine hK _ _ ?_; clear hK K)
              refine q1 _ _ ?_
              repeat' first | refine R1.ret ?_ | refine R1.exit ?_ | refine R1.skip ?_ | refine R1.s_ret ?_ | refine R1.s_exit ?_ | refine R1.s_assoc ?_ | refine R1.s_skip ?_ | refine R1.s_scope ?_ | ((first | refine R1.e_rg fun K hK => ?_ | refine R1.s_rg fun K hK => ?_ | refine R1.e_sq (by kernel_rfl) fun K hK => ?_ | refine R1.s_sq (by kernel_rfl) fun K hK => ?_); simp only [SG_nil, SG_cons, SU_yes, gw_n, gOf_n, List.map_cons, List.map_nil, vN_val, SK_move, SK_bin, evTmp, ev_int, slot_put, putD_nt, slotOk, Nat.blt_eq, Nat.reduceLT, true_and, if_true, if_false, eqLt, eqGt, ii_add, Nat.lt_add_one, hnt, t11, hw2]; refine hK _ _ ?_; clear hK K)
              refine good _ ?_ ?_ ?_ ?_ ?_ ?_ ?_ (by rw [hgk, c2, decide_eq_false h3]; rfl)
              all_goals simp only [slot_put, putD_nt, putD_dfr, Nat.reduceEqDiff, reduceIte, t0, t3, t9, t10, hnt, hdf]
    · clear hx hy Kx Ky
      have hie : i = x.2.2.length := by omega
      repeat' first | refine R1.ret ?_ | refine R1.exit ?_ | refine R1.skip ?_ | refine R1.s_ret ?_ | refine R1.s_exit ?_ | refine R1.s_assoc ?_ | refine R1.s_skip ?_ | refine R1.s_scope ?_ | ((first | refine R1.e_rg fun K hK => ?_ | refine R1.s_rg fun K hK => ?_ | refine R1.e_sq (by kernel_rfl) fun K hK => ?_ | refine R1.s_sq (by kernel_rfl) fun K hK => ?_); simp only [SG_nil, SG_cons, SU_yes, SU_no, gw_n, gw_gwv, gwv_b, gwv_u, gOf_n, gOf_some, List.map_cons, List.map_nil, List.getElem?_cons_zero, List.getElem?_cons_succ, Option.elim_some, Option.map_some, Option.bind_some, optP_some, boolP_b, boolP'_b, boolE_b, decide_eq_true_eq, decide_true, decide_false, valP_val, valP_guard, vN_val, ldN_some, stN_some, faN_some, iaN_some, lnN_some, pkN_b, sliceO_some, slice_lo, slice_hi, slice_1, indexAddr_0, Nat.add_one_sub_one, Nat.one_mul, len_sl, len_ns, len_str', posS, eq0S, cast0, Int.reduceLT, Int.reduceLE, Int.reduceBEq, Option.map_none, Nat.lt_add_left_iff_pos, Nat.zero_lt_succ, Nat.le_add_left, SK_move, SK_assign, SK_pick, SK_alloc, SK_box, SK_load, SK_store, SK_bin, SK_not, SK_fieldAddr, SK_field, SK_indexAddr, SK_slice, SK_extract, SK_nilCheck, SK_makeFunc, SK_makeMap, SK_makeSlice, SK_build, SK_buildSlice, SK_len, SK_append, SK_call, doCall_clo, doCall_clo, evTmp, ev_int, ev_bool, ev_str, ev_nilS, ev_func, opFev, evs_cons, evs_nil, slot_put, putD_nt, putD_none, putD_dfr, slotOk, Nat.blt_eq, Nat.reduceLT, Nat.reduceEqDiff, Nat.reduceLeDiff, reduceIte, true_and, and_true, true_or, or_true, if_true, if_false, Bool.false_eq_true, Bool.true_eq_false, not_false_eq_true, not_true_eq_false, ltV_ptr, ltV_sl, ltV_nil, ltV_str, ltV_i, nxNew, nxMod, get_newE, get_newL, get_modE, get_modN, ltAdd, ltSelf, eqLt, eqGt, eqLtA, eqGtA, eqSelfA, eqASelf, eqAA, ltAA, doLoad_ptr, doStore_ptr, rowOf_arr, rowOf_ro, ldO_agg, ldO_one, stO_arr, splice_eq, fieldAddr_at, Bool.not_eq_true', Bool.not_eq_false', decide_eq_false_iff_not, ne_eq, Nat.reduceLeDiff, Nat.lt_irrefl, gt_iff_lt, cells_one, cells_agg, noTup_one, noTup_agg, List.length_cons, List.length_nil, Nat.zero_add, Nat.add_zero, Nat.reduceAdd, Nat.reduceSub, Nat.reduceMul, Nat.le_refl, Nat.zero_le, capsOf_nil, capsOf_cons, capArgs_nil, capArgs_cons, List.cons_append, List.nil_append, List.append_nil, ex_0, ex_0a, ex_1, ex_1a, ex_2, ex_2a, ii_lss, ii_leq, ii_gtr, ii_geq, ii_eql, ii_neq, ii_add, ii_sub, ii_mul, ss_lss, ss_geq, ss_leq, ss_gtr, ss_eql, ss_neq, List.take_succ_cons, List.take_zero, List.drop_succ_cons, List.drop_zero, List.take_nil, List.drop_nil, List.headD_cons, Bool.not_true, Bool.not_false, Nat.lt_add_one, bin_agg, bin_b, agg2_agg, bool2_b, aggEq_nil, aggEq_s, aggEq_i, aggEq_b, aggO_some, fill_nil, fill_cons, Nat.zero_mul, partsF_nil, partsF_cons, repl_one, SK_lookup, SK_mapUpdate, lkN_some, upN_some, ltV_mp, nilCheck_ptr, lookOut_f, lookOut_t, doCall_yl, ofValue_int, ofValue_bool, ev_nilP, ev_nilM, ev_nilF, hnt]; refine hK _ _ ?_; clear hK K)
      refine k2 _ _ ?_
      repeat' first | refine R1.ret ?_ | refine R1.exit ?_ | refine R1.skip ?_ | refine R1.s_ret ?_ | refine R1.s_exit ?_ | refine R1.s_assoc ?_ | refine R1.s_skip ?_ | refine R1.s_scope ?_ | ((first | refine R1.e_rg fun K hK => ?_ | refine R1.s_rg fun K hK => ?_ | refine R1.e_sq (by kernel_rfl) fun K hK => ?_ | refine R1.s_sq (by kernel_rfl) fun K hK => ?_); simp only [SG_nil, SG_cons, SU_yes, gw_n, gOf_n, List.map_cons, List.map_nil, SK_assign, ev_bool, putD_nt, slotOk, Nat.blt_eq, Nat.reduceLT, true_and, hnt]; refine hK _ _ ?_; clear hK K)
      refine fin _ _ true (.inr rfl) (by simp only [slot_put, Nat.reduceEqDiff, reduceIte]) (by simp only [putD_dfr, hdf]) (g1.gr g2) ?_
      exact (List.all_eq_true.2 fun j hj => hall j (by have := List.mem_range.1 hj; omega)).symm
  · simp only [slot_put, Nat.reduceEqDiff, reduceIte, putD_nt, putD_dfr, t0, t3, hnt, hdf, and_self, true_and]
    exact ⟨rfl, trivial⟩
end Go.Proofs.YtiejeicaaojdlaaGreat
