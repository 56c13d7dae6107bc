/- Check of a ladder: what it answers. -/
import Derived.Test.YtiejeicaaojdlaaGreatBkUn
namespace Go.Proofs.YtiejeicaaojdlaaGreat
open Go Go.Eng

def okU (us : List Pr) (i : Nat) (x : Pr) : Bool := nmB x.1 && !((us.take i).any fun y => y.1 == x.1) && ((x.2 == 1) == ((i : Int) == 0))
def ladOK (n : List UInt8) (us : List Pr) : Bool :=
  nmB n && !((us.length : Int) == 0) && decide ((us.length : Int) ≤ 12) && decide ((yv 1 us).length = us.length) && (List.range us.length).all fun i => okU us i (us.getD i ([], 0))
def chkLad (n : List UInt8) (us : List Pr) : Int := if ladOK n us = true then 0 else 10

theorem ladOK_no {n : List UInt8} {us : List Pr} {i : Nat} {x : Pr} (hx : us[i]? = some x) (h : okU us i x = false) : ladOK n us = false := by
  have hlt : i < us.length := by
    rcases Nat.lt_or_ge i us.length with h | h
    · exact h
    · rw [List.getElem?_eq_none h] at hx; cases hx
  have : ((List.range us.length).all fun i => okU us i (us.getD i ([], 0))) = false := List.all_eq_false.2 ⟨i, List.mem_range.2 hlt, by rw [List.getD_eq_getElem?_getD, hx]; show ¬ okU us i x = true; rw [h]; decide⟩
  unfold ladOK
  rw [this, Bool.and_false]

/-- What was seen of the units. -/
def seenL (us : List Pr) (i : Nat) : List (List UInt8 × AC) := (us.take i).map fun x => (x.1, .b true)
theorem seenL_len {us : List Pr} {i : Nat} (h : i ≤ us.length) : (seenL us i).length = i := by
  unfold seenL
  rw [List.length_map, List.length_take]; omega
theorem seenL_at (us : List Pr) (i : Nat) (s : List UInt8) : atK (seenL us i) s = if (us.take i).any (fun y => y.1 == s) = true then some (.b true) else none := by
  unfold seenL
  induction us.take i with
  | nil => rfl
  | cons x l ih =>
    show (if x.1 = s then some (AC.b true) else atK (l.map fun x => (x.1, AC.b true)) s) = _
    rw [ih, List.any_cons]
    by_cases h : x.1 = s
    · rw [if_pos h, h, beq_self_eq_true, Bool.true_or, if_pos rfl]
    · rw [if_neg h, beq_false_of_ne h, Bool.false_or]
theorem seenL_succ {us : List Pr} {i : Nat} {x : Pr} (hx : us[i]? = some x) : seenL us (i + 1) = seenL us i ++ [(x.1, .b true)] := by
  obtain ⟨hlt, rfl⟩ := List.getElem?_eq_some_iff.1 hx
  unfold seenL
  rw [List.take_succ_eq_append_getElem hlt, List.map_append]; rfl
theorem upd_seen {H : Hp} {m : Nat} {us : List Pr} {i : Nat} {x : Pr} (hg : H.get m = some (mapO (seenL us i))) (hx : us[i]? = some x) (hs : ((us.take i).any fun y => y.1 == x.1) = false) :
    doMapUpdate Tryz.prog H 9 (.one (.o (.mp m))) (.one (.o (.str x.1))) (.one (.b true)) = .val undefA (H.mod m (mapO (seenL us (i + 1)))) := by
  rw [seenL_succ hx]
  exact update_str kk_mSB hg (by rw [seenL_at, hs]; rfl)
theorem slot_set (t : PT AV) (d i : Nat) (v : AV) : slot (t.set d v) i = if i = d then v else slot t i := by
  unfold slot
  rw [PT.get_set']
  by_cases h : i = d
  · rw [if_pos h, if_pos h]; rfl
  · rw [if_neg h, if_neg h]
theorem look_seen {H : Hp} {m : Nat} {us : List Pr} {i : Nat} {s : List UInt8} (hg : H.get m = some (mapO (seenL us i))) :
    doLookup Tryz.prog H 9 (.one (.b false)) (.one (.o (.mp m))) (.one (.o (.str s))) false = .val (.one (.b ((us.take i).any fun y => y.1 == s))) H := by
  rw [lookup_str kk_mSB hg, seenL_at]
  cases (us.take i).any (fun y => y.1 == s) <;> rfl

set_option maxRecDepth 10000 in
theorem need_con (H : Hp) (b : Bool) (e : Int) : Con E2 97 [.one (.b b), .one (.i .i64 e)] H (fun _ => False) fun r _ => r = .one (.i .i64 (if b = true then 0 else e)) := by
  refine Con.of rfl fun lg => ?_
  generalize (⟨H.t, H.nx, lg⟩ : Hp) = H
  refine C1.body (E := E2) (nt := 7) (res := [.tmp 4]) Tryz.func97 rfl rfl rfl rfl rfl fun tm hargs => ?_
  have h0 := hargs 0 _ rfl
  have h1 := hargs 1 _ rfl
  clear hargs
  cases b with
  | true =>
    repeat' first | refine R1.ret ?_ | refine R1.exit ?_ | refine R1.skip ?_ | refine R1.s_ret ?_ | refine R1.s_exit ?_ | refine R1.s_assoc ?_ | refine R1.s_skip ?_ | refine R1.s_scope ?_ | ((first | refine R1.e_rg fun K hK => ?_ | refine R1.s_rg fun K hK => ?_ | refine R1.e_sq (by kernel_rfl) fun K hK => ?_ | refine R1.s_sq (by kernel_rfl) fun K hK => ?_); simp only [SG_nil, SG_cons, SU_yes, gw_n, gOf_n, List.map_cons, List.map_nil, Nat.zero_lt_succ, SK_move, SK_assign, evTmp, ev_int, slot_put, putD_nt, slotOk, Nat.blt_eq, Nat.reduceLT, true_and, if_false, eqLt, h0]; refine hK _ _ ?_; clear hK K)
    repeat refine R1.s_assoc ?_
    (first | refine R1.s_cnd fun Kx Ky hx hy => ?_ | refine R1.e_cnd fun Kx Ky hx hy => ?_); simp only [boolP'_b, evTmp, slot_put, if_true, if_false, eqGt, Nat.lt_add_one]
    refine hx ?_
    clear hx hy Kx Ky
    repeat' first | refine R1.ret ?_ | refine R1.exit ?_ | refine R1.skip ?_ | refine R1.s_ret ?_ | refine R1.s_exit ?_ | refine R1.s_assoc ?_ | refine R1.s_skip ?_ | refine R1.s_scope ?_ | ((first | refine R1.e_rg fun K hK => ?_ | refine R1.s_rg fun K hK => ?_ | refine R1.e_sq (by kernel_rfl) fun K hK => ?_ | refine R1.s_sq (by kernel_rfl) fun K hK => ?_); simp only [SG_nil, SG_cons, SU_yes, gw_n, gOf_n, List.map_cons, List.map_nil, SK_assign, ev_int, putD_nt, slotOk, Nat.blt_eq, Nat.reduceLT, true_and]; refine hK _ _ ?_; clear hK K)
    exact ⟨_, _, callEnd_one (.i .i64 0) (.inr rfl) rfl (by simp only [slot_put, Nat.reduceEqDiff, reduceIte]), Fr.refl _, fun _ => rfl⟩
  | false =>
    repeat' first | refine R1.ret ?_ | refine R1.exit ?_ | refine R1.skip ?_ | refine R1.s_ret ?_ | refine R1.s_exit ?_ | refine R1.s_assoc ?_ | refine R1.s_skip ?_ | refine R1.s_scope ?_ | ((first | refine R1.e_rg fun K hK => ?_ | refine R1.s_rg fun K hK => ?_ | refine R1.e_sq (by kernel_rfl) fun K hK => ?_ | refine R1.s_sq (by kernel_rfl) fun K hK => ?_); simp only [SG_nil, SG_cons, SU_yes, gw_n, gOf_n, List.map_cons, List.map_nil, Nat.zero_lt_succ, SK_move, SK_assign, evTmp, ev_int, slot_put, putD_nt, slotOk, Nat.blt_eq, Nat.reduceLT, true_and, if_false, eqLt, h0]; refine hK _ _ ?_; clear hK K)
    repeat refine R1.s_assoc ?_
    (first | refine R1.s_cnd fun Kx Ky hx hy => ?_ | refine R1.e_cnd fun Kx Ky hx hy => ?_); simp only [boolP'_b, evTmp, slot_put, if_true, if_false, Bool.false_eq_true, eqGt, Nat.lt_add_one]
    refine hy ?_
    clear hx hy Kx Ky
    repeat' first | refine R1.ret ?_ | refine R1.exit ?_ | refine R1.skip ?_ | refine R1.s_ret ?_ | refine R1.s_exit ?_ | refine R1.s_assoc ?_ | refine R1.s_skip ?_ | refine R1.s_scope ?_ | ((first | refine R1.e_rg fun K hK => ?_ | refine R1.s_rg fun K hK => ?_ | refine R1.e_sq (by kernel_rfl) fun K hK => ?_ | refine R1.s_sq (by kernel_rfl) fun K hK => ?_); simp only [SG_nil, SG_cons, SU_yes, gw_n, gOf_n, List.map_cons, List.map_nil, SK_move, SK_assign, evTmp, slot_put, putD_nt, slotOk, Nat.blt_eq, Nat.reduceLT, true_and, if_true, if_false, eqLt, eqGt, Nat.lt_add_one, h1]; refine hK _ _ ?_; clear hK K)
    exact ⟨_, _, callEnd_one (.i .i64 e) (.inr rfl) rfl (by simp only [slot_put, Nat.reduceEqDiff, reduceIte]), Fr.refl _, fun _ => rfl⟩

set_option maxRecDepth 10000 in
set_option maxHeartbeats 4000000 in
theorem check_con (H : Hp) (n : List UInt8) (u : AC) (us : List Pr) (hu : SlP H u us) :
    Con E2 64 [.agg [.o (.str n), u]] H (fun _ => False) fun r _ => r = .one (.i .i64 (chkLad n us)) := by
  refine Con.of rfl fun lg => ?_
  have hu : SlP ⟨H.t, H.nx, lg⟩ u us := hu
  generalize (⟨H.t, H.nx, lg⟩ : Hp) = H at hu ⊢
  refine C1.body (E := E2) (nt := 55) (res := [.cell 2 28]) Tryz.func64 rfl rfl rfl rfl rfl fun tm hargs => ?_
  have h0 := hargs 0 _ rfl
  clear hargs
  repeat refine R1.s_assoc ?_
  refine R1.s_rg fun K hK => ?_
  simp only [SG_nil, SG_cons, SU_yes, gw_n, gOf_n, List.map_cons, List.map_nil, optP_some, SK_alloc, SK_box, evTmp, putD_nt, slotOk, Nat.blt_eq, Nat.reduceLT, true_and, nxNew, cells_agg, noTup_agg, List.length_cons, List.length_nil, Nat.zero_add, Nat.reduceAdd, E2_P, h0, zr_errno]
  refine hK _ _ ?_
  clear hK K
  have hid0 : ∀ id ∈ (AV.one u).ids, id < H.nx := hu.lt
  refine R1.gen (fun A1 H1 => Gr H H1 ∧ H.nx + 1 < H1.nx ∧ H1.get H.nx = some (.arr [.o (.str n), u] 78 0 0) ∧ H1.get (H.nx + 1) = some (.arr [.i .i64 0] 28 0 0) ∧ slot A1.tm 1 = .one (.o (.ptr H.nx 0 0 2)) ∧ slot A1.tm 2 = .one (.o (.ptr (H.nx + 1) 0 0 1)) ∧ A1.nt = 55 ∧ A1.dfr = [])
    ⟨((Fr.refl _).new _).new _, ?_⟩ ?_
  · simp only [slot_put, putD_nt, putD_dfr, and_true, if_true, if_false, nxNew, get_newE, get_newL, eqLt, eqGt, Nat.lt_add_one]
  rintro A1 H1 ⟨g1, n1, r1, r2, t1, t2, hnt, hdf⟩
  clear h0 tm
  have hu1 : SlP H1 u us := hu.gr g1
  obtain ⟨c1, hc1⟩ : ∃ c, c = H.nx := ⟨_, rfl⟩
  obtain ⟨c2, hc2⟩ : ∃ c, c = H.nx + 1 := ⟨_, rfl⟩
  have h12 : c1 < c2 := by omega
  have hcc : H.nx ≤ c1 := by omega
  rw [← hc1] at r1 t1 hid0
  rw [← hc2] at r2 t2 n1
  have l1 : c1 < H1.nx := by omega
  -- what a return leaves
  have fin : ∀ (e : AExit) (A : AAct) (H2 H3 : Hp) (v : Int), (e = .normal ∨ e = .ret) → closeAll H2 A.dfr = some H3 → Gr H H3 → slot A.tm 2 = .one (.o (.ptr c2 0 0 1)) → H3.get c2 = some (.arr [.i .i64 v] 28 0 0) → v = chkLad n us →
      ∃ w H4, callEnd E2 [.cell 2 28] (e, A, H2) = .ok [(w, H4)] ∧ Gr H H4 ∧ ∀ _ : List Nat, w = .one (.i .i64 (chkLad n us)) := fun e A H2 H3 v he hd hg hs hr hv =>
    ⟨_, H3, callEnd_cell (c := .i .i64 v) ld_errno he hd hs (by rw [hr]; exact rowOf_arr (Nat.le_refl _) (Nat.le_refl _)) (Nat.le_refl _) (Nat.le_refl _) rfl, hg, fun _ => by rw [hv]⟩
  repeat refine R1.s_assoc ?_
  repeat refine R1.s_assoc ?_
  refine R1.s_rg fun K hK => ?_
  simp only [SG_cons, SU_yes, gw_n, gOf_n, gOf_some, List.map_cons, List.map_nil, List.getElem?_cons_zero, List.getElem?_cons_succ, Option.elim_some, vN_val, ldN_some, faN_some, SK_load, SK_fieldAddr, SK_call, doCall_clo, doCall_clo, evTmp, ev_func, evs_cons, evs_nil, slot_put, putD_nt, slotOk, Nat.blt_eq, Nat.reduceLT, Nat.reduceLeDiff, true_and, if_true, if_false, ltV_ptr, eqGt, doLoad_ptr, rowOf_arr, ldO_one, fieldAddr_at, Nat.reduceLeDiff, List.length_cons, List.length_nil, Nat.zero_add, Nat.add_zero, Nat.reduceAdd, Nat.reduceSub, Nat.le_refl, capArgs_nil, List.append_nil, List.drop_zero, List.headD_cons, Nat.lt_add_one, E2_P, t1, hnt, r1, l1, fd_lad_0, ld_str, bd_isName]
  refine WE.prim (isName_p n) fun H2 g2 n2 e2 => ?_
  have r1 : H2.get c1 = some (.arr [.o (.str n), u] 78 0 0) := (e2 c1).trans r1
  have r2 : H2.get c2 = some (.arr [.i .i64 0] 28 0 0) := (e2 c2).trans r2
  rw [← n2] at l1 n1
  have hu2 : SlP H2 u us := hu1.gr g2
  have g2 : Gr H H2 := g1.gr g2
  clear g1 e2 n2 hu1
  have bad : ∀ (A : AAct), slot A.tm 2 = .one (.o (.ptr c2 0 0 1)) → A.nt = 55 → A.dfr = [] → chkLad n us = 10 → ∃ w H4, callEnd E2 [.cell 2 28] (.ret, A, H2.mod c2 (.arr [.i .i64 10] 28 0 0)) = .ok [(w, H4)] ∧ Gr H H4 ∧ ∀ _ : List Nat, w = .one (.i .i64 (chkLad n us)) := fun A hs hn hd hv =>
    fin .ret A _ _ 10 (.inr rfl) (by rw [hd]; rfl) (g2.mod _ (.inl (by omega))) hs (get_modE rfl) hv.symm
  cases hnm : nmB n with
  | false =>
    simp only [SG_nil, SG_cons, SU_yes, SU_no, gw_n, gw_gwv, gwv_b, boolE_b, vN_val, pkN_b, SK_move, SK_pick, SK_not, evTmp, ev_bool, slot_put, putD_nt, slotOk, Nat.blt_eq, Nat.reduceLT, true_and, if_true, if_false, Bool.true_eq_false, eqLt, eqGt, Bool.not_false, Nat.lt_add_one, E2_P, hnt]
    refine hK _ _ ?_
    clear hK K
    repeat refine R1.s_assoc ?_
    (first | refine R1.s_cnd fun Kx Ky hx hy => ?_ | refine R1.e_cnd fun Kx Ky hx hy => ?_); simp only [boolP'_b, evTmp, slot_put, Nat.reduceLT, if_true, if_false, eqGt, Nat.lt_add_one]
    refine hx ?_
    clear hx hy Kx Ky
    repeat' first | refine R1.ret ?_ | refine R1.exit ?_ | refine R1.skip ?_ | refine R1.s_ret ?_ | refine R1.s_exit ?_ | refine R1.s_assoc ?_ | refine R1.s_skip ?_ | refine R1.s_scope ?_ | ((first | refine R1.e_rg fun K hK => ?_ | refine R1.s_rg fun K hK => ?_ | refine R1.e_sq (by kernel_rfl) fun K hK => ?_ | refine R1.s_sq (by kernel_rfl) fun K hK => ?_); simp only [SG_nil, SG_cons, SU_yes, gw_n, gOf_n, List.map_cons, List.map_nil, vN_val, stN_some, SK_store, evTmp, ev_int, slot_put, putD_none, slotOk, Nat.reduceLT, true_and, if_false, ltV_ptr, eqLt, doStore_ptr, stO_arr, cells_one, noTup_one, List.length_cons, List.length_nil, Nat.zero_add, Nat.le_refl, List.nil_append, List.append_nil, List.take_zero, List.drop_succ_cons, List.drop_nil, E2_P, t2, sz_errno, r2, n1]; refine hK _ _ ?_; clear hK K)
    exact bad _ (by simp only [slot_put, Nat.reduceEqDiff, reduceIte, t2]) (by simp only [putD_nt, hnt]) (by simp only [putD_dfr, hdf]) (by unfold chkLad ladOK; rw [hnm]; rfl)
  | true =>
    cases hz : ((us.length : Int) == 0) with
    | true =>
      simp only [SG_nil, SG_cons, SU_yes, SU_no, gw_n, gw_gwv, gwv_b, boolE_b, vN_val, ldN_some, faN_some, lnN_some, pkN_b, Nat.add_one_sub_one, SK_move, SK_pick, SK_load, SK_bin, SK_not, SK_fieldAddr, SK_len, evTmp, ev_int, ev_bool, slot_put, putD_nt, slotOk, Nat.blt_eq, Nat.reduceLT, true_and, if_true, if_false, Bool.false_eq_true, Bool.true_eq_false, ltV_ptr, eqLt, eqGt, doLoad_ptr, rowOf_arr, ldO_one, fieldAddr_at, List.length_cons, List.length_nil, Nat.zero_add, Nat.reduceAdd, Nat.le_refl, ii_eql, List.drop_succ_cons, List.drop_zero, List.headD_cons, Bool.not_true, Nat.lt_add_one, E2_P, t1, hnt, r1, l1, fd_lad_1, ld_units, ln_units, hu2.len, hu2.lt, hz]
      refine hK _ _ ?_
      clear hK K
      repeat refine R1.s_assoc ?_
      (first | refine R1.s_cnd fun Kx Ky hx hy => ?_ | refine R1.e_cnd fun Kx Ky hx hy => ?_); simp only [boolP'_b, evTmp, slot_put, Nat.reduceLT, if_true, if_false, eqGt, Nat.lt_add_one]
      refine hx ?_
      clear hx hy Kx Ky
      repeat' first | refine R1.ret ?_ | refine R1.exit ?_ | refine R1.skip ?_ | refine R1.s_ret ?_ | refine R1.s_exit ?_ | refine R1.s_assoc ?_ | refine R1.s_skip ?_ | refine R1.s_scope ?_ | ((first | refine R1.e_rg fun K hK => ?_ | refine R1.s_rg fun K hK => ?_ | refine R1.e_sq (by kernel_rfl) fun K hK => ?_ | refine R1.s_sq (by kernel_rfl) fun K hK => ?_); simp only [SG_nil, SG_cons, SU_yes, gw_n, gOf_n, List.map_cons, List.map_nil, vN_val, stN_some, SK_store, evTmp, ev_int, slot_put, putD_none, slotOk, Nat.reduceLT, true_and, if_false, ltV_ptr, eqLt, doStore_ptr, stO_arr, cells_one, noTup_one, List.length_cons, List.length_nil, Nat.zero_add, Nat.le_refl, List.nil_append, List.append_nil, List.take_zero, List.drop_succ_cons, List.drop_nil, E2_P, t2, sz_errno, r2, n1]; refine hK _ _ ?_; clear hK K)
      exact bad _ (by simp only [slot_put, Nat.reduceEqDiff, reduceIte, t2]) (by simp only [putD_nt, hnt]) (by simp only [putD_dfr, hdf]) (by unfold chkLad ladOK; rw [hz]; simp only [Bool.not_true, Bool.and_false, Bool.false_and, Bool.false_eq_true, if_false])
    | false =>
      by_cases h12' : (12 : Int) < us.length
      · have c12 : ((12 : Int) < us.length) = True := eq_true h12'
        simp only [SG_nil, SG_cons, SU_yes, gw_n, gw_gwv, gwv_b, boolE_b, decide_true, vN_val, ldN_some, faN_some, lnN_some, pkN_b, Nat.add_one_sub_one, SK_move, SK_pick, SK_load, SK_bin, SK_not, SK_fieldAddr, SK_len, evTmp, ev_int, ev_bool, slot_put, putD_nt, slotOk, Nat.blt_eq, Nat.reduceLT, true_and, if_true, if_false, Bool.false_eq_true, ltV_ptr, eqLt, eqGt, doLoad_ptr, rowOf_arr, ldO_one, fieldAddr_at, List.length_cons, List.length_nil, Nat.zero_add, Nat.reduceAdd, Nat.le_refl, ii_gtr, ii_eql, List.drop_succ_cons, List.drop_zero, List.headD_cons, Bool.not_true, Nat.lt_add_one, E2_P, t1, hnt, r1, l1, fd_lad_1, ld_units, ln_units, hu2.len, hu2.lt, hz, c12]
        refine hK _ _ ?_
        clear hK K
        repeat refine R1.s_assoc ?_
        (first | refine R1.s_cnd fun Kx Ky hx hy => ?_ | refine R1.e_cnd fun Kx Ky hx hy => ?_); simp only [boolP'_b, evTmp, slot_put, Nat.reduceLT, if_true, if_false, eqGt, Nat.lt_add_one]
        refine hx ?_
        clear hx hy Kx Ky
        repeat' first | refine R1.ret ?_ | refine R1.exit ?_ | refine R1.skip ?_ | refine R1.s_ret ?_ | refine R1.s_exit ?_ | refine R1.s_assoc ?_ | refine R1.s_skip ?_ | refine R1.s_scope ?_ | ((first | refine R1.e_rg fun K hK => ?_ | refine R1.s_rg fun K hK => ?_ | refine R1.e_sq (by kernel_rfl) fun K hK => ?_ | refine R1.s_sq (by kernel_rfl) fun K hK => ?_); simp only [SG_nil, SG_cons, SU_yes, gw_n, gOf_n, List.map_cons, List.map_nil, vN_val, stN_some, SK_store, evTmp, ev_int, slot_put, putD_none, slotOk, Nat.reduceLT, true_and, if_false, ltV_ptr, eqLt, doStore_ptr, stO_arr, cells_one, noTup_one, List.length_cons, List.length_nil, Nat.zero_add, Nat.le_refl, List.nil_append, List.append_nil, List.take_zero, List.drop_succ_cons, List.drop_nil, E2_P, t2, sz_errno, r2, n1]; refine hK _ _ ?_; clear hK K)
        exact bad _ (by simp only [slot_put, Nat.reduceEqDiff, reduceIte, t2]) (by simp only [putD_nt, hnt]) (by simp only [putD_dfr, hdf]) (by unfold chkLad ladOK; rw [decide_eq_false (by omega : ¬ (us.length : Int) ≤ 12)]; simp only [Bool.and_false, Bool.false_and, Bool.false_eq_true, if_false])
      · have c12 : ((12 : Int) < us.length) = False := eq_false h12'
        simp only [SG_nil, SG_cons, SU_yes, gw_n, gw_gwv, gwv_b, boolE_b, decide_false, vN_val, ldN_some, faN_some, lnN_some, pkN_b, Nat.add_one_sub_one, SK_move, SK_pick, SK_load, SK_bin, SK_not, SK_fieldAddr, SK_len, evTmp, ev_int, ev_bool, slot_put, putD_nt, slotOk, Nat.blt_eq, Nat.reduceLT, true_and, if_true, if_false, Bool.false_eq_true, ltV_ptr, eqLt, eqGt, doLoad_ptr, rowOf_arr, ldO_one, fieldAddr_at, List.length_cons, List.length_nil, Nat.zero_add, Nat.reduceAdd, Nat.le_refl, ii_gtr, ii_eql, List.drop_succ_cons, List.drop_zero, List.headD_cons, Bool.not_true, Nat.lt_add_one, E2_P, t1, hnt, r1, l1, fd_lad_1, ld_units, ln_units, hu2.len, hu2.lt, hz, c12]
        refine hK _ _ ?_
        clear hK K
        repeat refine R1.s_assoc ?_
        (first | refine R1.s_cnd fun Kx Ky hx hy => ?_ | refine R1.e_cnd fun Kx Ky hx hy => ?_); simp only [boolP'_b, evTmp, slot_put, Nat.reduceLT, if_true, if_false, Bool.false_eq_true, eqGt, Nat.lt_add_one]
        refine hy ?_
        clear hx hy Kx Ky bad
        refine R1.s_skip ?_
        repeat refine R1.s_assoc ?_
        repeat refine R1.s_assoc ?_
        refine R1.s_rg fun K hK => ?_
        simp only [SG_nil, SG_cons, SU_yes, gw_n, gOf_n, List.map_cons, List.map_nil, optP_some, vN_val, stN_some, SK_alloc, SK_store, SK_makeMap, evTmp, slot_put, putD_nt, putD_none, slotOk, Nat.blt_eq, Nat.reduceLT, true_and, if_true, if_false, ltV_ptr, nxNew, get_newE, eqLt, eqGt, doStore_ptr, stO_arr, cells_one, noTup_one, List.length_cons, List.length_nil, Nat.zero_add, Nat.le_refl, List.nil_append, List.append_nil, List.take_zero, List.drop_succ_cons, List.drop_nil, Nat.lt_add_one, E2_P, hnt, zr_mSB, sz_mSB]
        refine hK _ _ ?_
        clear hK K
        refine R1.gen (fun A3 H3 => Gr H H3 ∧ H3.nx = H2.nx + 2 ∧ H3.get c1 = some (.arr [.o (.str n), u] 78 0 0) ∧ H3.get c2 = some (.arr [.i .i64 0] 28 0 0) ∧ H3.get H2.nx = some (mapO (seenL us 0)) ∧ H3.get (H2.nx + 1) = some (.arr [.o (.mp H2.nx)] 167 0 0) ∧
          slot A3.tm 1 = .one (.o (.ptr c1 0 0 2)) ∧ slot A3.tm 2 = .one (.o (.ptr c2 0 0 1)) ∧ slot A3.tm 3 = .one (.o (.ptr (H2.nx + 1) 0 0 1)) ∧ A3.nt = 55 ∧ A3.dfr = [])
          ⟨((g2.new _).new _).mod _ (.inl (by have := g2.nx; omega)), rfl, ?_, ?_, ?_, ?_, ?_⟩ ?_
        · rw [get_modN (by omega), get_newL (by rw [nxNew]; omega), get_newL l1]; exact r1
        · rw [get_modN (by omega), get_newL (by rw [nxNew]; omega), get_newL n1]; exact r2
        · rw [get_modN (by omega), get_newL (by rw [nxNew]; omega), get_newE rfl]; rfl
        · exact get_modE rfl
        · simp only [slot_put, putD_nt, putD_dfr, Nat.reduceLT, if_true, if_false, eqLt, Nat.lt_add_one, t1, t2, hnt, hdf, and_self]
        rintro A H3 ⟨g3, n3, q1, q2, qm, q3, t1, t2, t3, hnt, hdf⟩
        have hu3 : SlP H3 u us := hu.gr g3
        obtain ⟨m, hm⟩ : ∃ m, m = H2.nx := ⟨_, rfl⟩
        obtain ⟨c3, hc3⟩ : ∃ c, c = H2.nx + 1 := ⟨_, rfl⟩
        rw [← hc3] at q3 t3
        rw [← hm] at qm q3
        have o1 : c2 < m := by omega
        have o2 : m < c3 := by omega
        have o3 : c3 < H3.nx := by omega
        clear hm hc3 n3 r1 r2 hu2 l1 n1
        have l1 : c1 < H3.nx := by omega
        repeat refine R1.s_assoc ?_
        repeat refine R1.s_assoc ?_
        refine R1.s_rg fun K hK => ?_
        simp only [SG_cons, SU_yes, gw_n, gOf_n, List.map_cons, List.map_nil, vN_val, ldN_some, SK_load, SK_call, doCall_clo, doCall_clo, evTmp, ev_func, evs_cons, evs_nil, slot_put, putD_nt, slotOk, Nat.blt_eq, Nat.reduceLT, true_and, if_true, ltV_ptr, doLoad_ptr, rowOf_arr, ldO_agg, List.length_cons, List.length_nil, Nat.zero_add, Nat.reduceAdd, Nat.le_refl, capArgs_nil, List.append_nil, List.take_succ_cons, List.drop_zero, List.take_nil, E2_P, t1, hnt, q1, l1, ld_lad, bd_units]
        refine WE.con (units_con H3 (.o (.str n)) u hu3.lt) fun v H5 g5 ⟨hv, hil, hln⟩ => ?_
        subst hv
        simp only [SG_nil]
        refine hK _ _ ?_
        clear hK K
        refine R1.genA (fun A4 => slot A4.tm 1 = .one (.o (.ptr c1 0 0 2)) ∧ slot A4.tm 2 = .one (.o (.ptr c2 0 0 1)) ∧ slot A4.tm 3 = .one (.o (.ptr c3 0 0 1)) ∧ slot A4.tm 23 = .one (.o (.clo 133 [(H3.nx, 0, 0, 2)])) ∧ A4.nt = 55 ∧ A4.dfr = [])
          ⟨by simp only [slot_put, Nat.reduceEqDiff, reduceIte, t1], by simp only [slot_put, Nat.reduceEqDiff, reduceIte, t2], by simp only [slot_put, Nat.reduceEqDiff, reduceIte, t3], by simp only [slot_put, Nat.reduceEqDiff, reduceIte], by simp only [putD_nt, hnt], by simp only [putD_dfr, hdf]⟩ ?_
        clear t1 t2 t3 hnt hdf A
        rintro A ⟨t1, t2, t3, t23, hnt, hdf⟩
        have gg : Gr H H5 := g3.gr g5
        have q1 : H5.get c1 = some (.arr [.o (.str n), u] 78 0 0) := by rw [g5.get _ l1 not_false]; exact q1
        have q2 : H5.get c2 = some (.arr [.i .i64 0] 28 0 0) := by rw [g5.get _ (by omega) not_false]; exact q2
        have q3 : H5.get c3 = some (.arr [.o (.mp m)] 167 0 0) := by rw [g5.get _ o3 not_false]; exact q3
        have qm : H5.get m = some (mapO (seenL us 0)) := by rw [g5.get _ (by omega) not_false]; exact qm
        have hu5 : SlP H5 u us := hu3.gr g5
        have o4 : c3 < H5.nx := Nat.lt_of_lt_of_le o3 g5.nx
        have l3 : c1 < H3.nx := l1
        obtain ⟨il, hild⟩ : ∃ i, i = H3.nx := ⟨_, rfl⟩
        rw [← hild] at hil hln t23 o3 l3
        clear hild l1
        generalize hys : yv 1 us = ys
        have hyl : ys.length ≤ us.length := by rw [← hys]; exact yv_len 1 us
        have husL : us.length ≤ 12 := by omega
        refine R1.s_block fun K k1 k2 k3 k4 => ?_
        refine R1.range (σ := Unit) (g := 133) (caps := [(il, 0, 0, 2)]) (n := ys.length) (ar := yA ys) (D := DL il u) (by simp only [evTmp, t23]) bd_units1 (fun _ => rfl)
          (units1_it H5 il (.o (.str n)) u us hln hil hu5 (by omega) ys hys) (fun k hk => by
            rcases hk with h | h
            · omega
            · exact Nat.lt_trans (hid0 k h) (by omega)) (by rw [hnt]; rfl) (fun i _ => yA_len ys i)
          (fun i _ H6 => H6.get m = some (mapO (seenL us i)) ∧ H6.get c3 = some (.arr [.o (.mp m)] 167 0 0) ∧ H6.get c2 = some (.arr [.i .i64 0] 28 0 0) ∧ (∀ j, j < i → okU us j (us.getD j ([], 0)) = true) ∧ H5.nx ≤ H6.nx)
          (fun e _ H6 => e = .ret ∧ H6.get c2 = some (.arr [.i .i64 10] 28 0 0) ∧ ladOK n us = false ∧ H5.nx ≤ H6.nx)
          (fun _ k => k = m ∨ k = c2) ?_ ?_ ?_ () ?_ ?_ ?_ ?_
        · rintro i s H6 H7 ⟨a1, a2, a3, a4, a5⟩ hs
          exact ⟨by rw [hs.get _ (by omega) (by omega)]; exact a1, by rw [hs.get _ (by omega) (by omega)]; exact a2, by rw [hs.get _ (by omega) (by omega)]; exact a3, a4, Nat.le_trans a5 hs.nx⟩
        · rintro e s H6 H7 ⟨a1, a2, a3, a5⟩ hs
          exact ⟨a1, by rw [hs.get _ (by omega) (by omega)]; exact a2, a3, Nat.le_trans a5 hs.nx⟩
        · rintro i s H6 k ⟨a1, a2, a3, a4, a5⟩ hk
          have : k < H5.nx ∧ c1 < k ∧ k < il := by rcases hk with rfl | rfl <;> omega
          refine ⟨by omega, by omega, by omega, fun h => ?_⟩
          rcases h with h | h
          · omega
          · have := hid0 k h; omega
        · intro H6 g6 n6
          exact ⟨by rw [g6.get _ (by omega) not_false]; exact qm, by rw [g6.get _ o4 not_false]; exact q3, by rw [g6.get _ (by omega) not_false]; exact q2, fun j hj => absurd hj (Nat.not_lt_zero j), g6.nx⟩
        · rintro i _ H6 hi ⟨a1, a2, a3, a4, a5⟩ n6
          have hy : ys[i]? = some ys[i] := List.getElem?_eq_getElem hi
          generalize ys[i] = y at hy
          have hx0 : us[i]? = some y.1 := yv_fst 1 us i y (by rw [hys]; exact hy)
          rw [yA_at hy]
          obtain ⟨x, yval⟩ := y
          have hx0 : us[i]? = some x := hx0
          refine R1.genA (fun A7 => slot A7.tm 1 = .one (.o (.ptr c1 0 0 2)) ∧ slot A7.tm 2 = .one (.o (.ptr c2 0 0 1)) ∧ slot A7.tm 3 = .one (.o (.ptr c3 0 0 1)) ∧ slot A7.tm 24 = .agg (prC x) ∧ A7.nt = 55 ∧ A7.dfr = []) ⟨?_, ?_, ?_, ?_, hnt, rfl⟩ ?_
          · show slot ((A.tm.set 24 _).set 25 _) 1 = _
            simp only [slot_set, Nat.reduceEqDiff, reduceIte, t1]
          · show slot ((A.tm.set 24 _).set 25 _) 2 = _
            simp only [slot_set, Nat.reduceEqDiff, reduceIte, t2]
          · show slot ((A.tm.set 24 _).set 25 _) 3 = _
            simp only [slot_set, Nat.reduceEqDiff, reduceIte, t3]
          · show slot ((A.tm.set 24 _).set 25 _) 24 = _
            simp only [slot_set, Nat.reduceEqDiff, reduceIte]
          rintro A7 ⟨u1, u2, u3, u24, unt, udf⟩
          refine R1.e_rg fun K hK => ?_
          simp only [SG_nil, SG_cons, SU_yes, gw_n, gOf_n, List.map_cons, List.map_nil, optP_some, vN_val, stN_some, SK_alloc, SK_store, evTmp, slot_put, putD_none, slotOk, Nat.blt_eq, Nat.reduceLT, true_and, if_true, if_false, ltV_ptr, nxNew, get_newE, eqGt, doStore_ptr, stO_arr, cells_agg, noTup_agg, List.length_cons, List.length_nil, Nat.zero_add, Nat.reduceAdd, Nat.le_refl, List.nil_append, List.append_nil, List.take_zero, List.drop_succ_cons, List.drop_nil, Nat.lt_add_one, E2_P, u24, unt, zr_unit, sz_unit, prC]
          refine hK _ _ ?_
          clear hK K
          refine ⟨rfl, ((Fr.refl _).new _).mod _ (.inl (Nat.le_refl _)), fun H8 n8 s8 => ?_⟩
          have gu : H8.get H6.nx = some (.arr (prC x) 140 0 0) := by
            rw [s8.get _ (by show H6.nx < H6.nx + 1; omega) (by omega)]
            exact get_modE rfl
          have keep : ∀ k, k < H5.nx → H8.get k = H6.get k := fun k hk => by
            rw [s8.get _ (by show k < H6.nx + 1; omega) (by omega), get_modN (by omega), get_newL (by omega)]
          have n8' : H8.nx = H6.nx + 1 := n8
          have b1 : H8.get m = some (mapO (seenL us i)) := (keep m (by omega)).trans a1
          have b3 : H8.get c3 = some (.arr [.o (.mp m)] 167 0 0) := (keep c3 o4).trans a2
          have b2 : H8.get c2 = some (.arr [.i .i64 0] 28 0 0) := (keep c2 (by omega)).trans a3
          have lu : H6.nx < H8.nx := by omega
          clear keep n8 n8' s8 a1 a2 a3
          refine R1.e_block fun K2 p1 p2 p3 p4 => ?_
          repeat refine R1.s_assoc ?_
          repeat refine R1.s_assoc ?_
          refine R1.s_rg fun K hK => ?_
          simp only [SG_cons, SU_yes, gw_n, gOf_n, gOf_some, List.map_cons, List.map_nil, List.getElem?_cons_zero, List.getElem?_cons_succ, Option.elim_some, vN_val, ldN_some, faN_some, SK_load, SK_fieldAddr, SK_call, doCall_clo, doCall_clo, evTmp, ev_func, evs_cons, evs_nil, slot_put, putD_nt, slotOk, Nat.blt_eq, Nat.reduceLT, Nat.reduceLeDiff, true_and, if_true, if_false, ltV_ptr, eqGt, doLoad_ptr, rowOf_arr, ldO_one, fieldAddr_at, Nat.reduceLeDiff, List.length_cons, List.length_nil, Nat.zero_add, Nat.add_zero, Nat.reduceAdd, Nat.reduceSub, Nat.le_refl, capArgs_nil, List.append_nil, List.drop_zero, List.headD_cons, Nat.lt_add_one, E2_P, unt, gu, lu, fd_unit_0, ld_str, prC, bd_isName]
          refine WE.prim (isName_p x.1) fun H9 g9 n9 e9 => ?_
          have gu : H9.get H6.nx = some (.arr (prC x) 140 0 0) := (e9 _).trans gu
          have b1 : H9.get m = some (mapO (seenL us i)) := (e9 m).trans b1
          have b3 : H9.get c3 = some (.arr [.o (.mp m)] 167 0 0) := (e9 c3).trans b3
          have b2 : H9.get c2 = some (.arr [.i .i64 0] 28 0 0) := (e9 c2).trans b2
          rw [← n9] at lu
          have n59 : H5.nx ≤ H9.nx := by omega
          have lc2 : c2 < H9.nx := by omega
          have lc3 : c3 < H9.nx := by omega
          have lm : m < H9.nx := by omega
          have bad : ∀ (e : AExit) (A2 : AAct), e = .ret → A2.dfr = [] → okU us i x = false → A2.dfr = [] ∧ Fr (fun k => (k = m ∨ k = c2) ∨ H6.nx ≤ k) H8 (H9.mod c2 (.arr [.i .i64 10] 28 0 0)) ∧ ∃ s' : Unit,
              (e = AExit.normal → (H9.mod c2 (.arr [.i .i64 10] 28 0 0)).get m = some (mapO (seenL us (i + 1))) ∧ (H9.mod c2 (.arr [.i .i64 10] 28 0 0)).get c3 = some (.arr [.o (.mp m)] 167 0 0) ∧ (H9.mod c2 (.arr [.i .i64 10] 28 0 0)).get c2 = some (.arr [.i .i64 0] 28 0 0) ∧ (∀ (j : Nat), j < i + 1 → okU us j (us.getD j ([], 0)) = true) ∧ H5.nx ≤ (H9.mod c2 (.arr [.i .i64 10] 28 0 0)).nx) ∧
              (e ≠ AExit.normal → e = AExit.ret ∧ (H9.mod c2 (.arr [.i .i64 10] 28 0 0)).get c2 = some (.arr [.i .i64 10] 28 0 0) ∧ ladOK n us = false ∧ H5.nx ≤ (H9.mod c2 (.arr [.i .i64 10] 28 0 0)).nx) ∧
              ∀ (k : Nat), k = m ∨ k = c2 → (k = m ∨ k = c2) ∨ H6.nx ≤ k := fun e A2 he hd hb =>
            ⟨hd, (g9.none).mod _ (.inr (.inl (.inr rfl))), (), fun h => (by rw [he] at h; cases h), fun _ => ⟨he, get_modE rfl, ladOK_no hx0 hb, n59⟩, fun k hk => .inl hk⟩
          cases hq : nmB x.1 with
          | false =>
            simp only [SG_nil, SG_cons, SU_yes, SU_no, gw_n, gw_gwv, gwv_b, boolE_b, vN_val, pkN_b, SK_move, SK_pick, SK_not, evTmp, ev_bool, slot_put, putD_nt, slotOk, Nat.blt_eq, Nat.reduceLT, true_and, if_true, if_false, Bool.true_eq_false, eqLt, eqGt, Bool.not_false, Nat.lt_add_one, E2_P, unt]
            refine hK _ _ ?_
            clear hK K
            repeat refine R1.s_assoc ?_
            (first | refine R1.s_cnd fun Kx Ky hx hy => ?_ | refine R1.e_cnd fun Kx Ky hx hy => ?_); simp only [boolP'_b, evTmp, slot_put, Nat.reduceLT, if_true, if_false, eqGt, Nat.lt_add_one]
            refine hx ?_
            clear hx hy Kx Ky
            repeat' first | refine R1.ret ?_ | refine R1.exit ?_ | refine R1.skip ?_ | refine R1.s_ret ?_ | refine R1.s_exit ?_ | refine R1.s_assoc ?_ | refine R1.s_skip ?_ | refine R1.s_scope ?_ | ((first | refine R1.e_rg fun K hK => ?_ | refine R1.s_rg fun K hK => ?_ | refine R1.e_sq (by kernel_rfl) fun K hK => ?_ | refine R1.s_sq (by kernel_rfl) fun K hK => ?_); simp only [SG_nil, SG_cons, SU_yes, gw_n, gOf_n, List.map_cons, List.map_nil, vN_val, stN_some, SK_store, evTmp, ev_int, slot_put, putD_none, slotOk, Nat.reduceLT, true_and, if_false, ltV_ptr, eqLt, doStore_ptr, stO_arr, cells_one, noTup_one, List.length_cons, List.length_nil, Nat.zero_add, Nat.le_refl, List.nil_append, List.append_nil, List.take_zero, List.drop_succ_cons, List.drop_nil, E2_P, u2, sz_errno, b2, lc2]; refine hK _ _ ?_; clear hK K)
            exact p4 _ _ (bad _ _ rfl (by simp only [putD_dfr, udf]) (by unfold okU; rw [hq]; rfl))
          | true =>
            cases hseen : ((us.take i).any fun y => y.1 == x.1) with
            | true =>
              simp only [SG_nil, SG_cons, SU_yes, SU_no, gw_n, gw_gwv, gwv_b, optP_some, boolE_b, vN_val, ldN_some, faN_some, pkN_b, SK_move, SK_pick, SK_load, SK_not, SK_fieldAddr, evTmp, ev_bool, slot_put, putD_nt, slotOk, Nat.blt_eq, Nat.reduceLT, Nat.reduceLeDiff, true_and, if_true, if_false, Bool.false_eq_true, Bool.true_eq_false, ltV_ptr, eqLt, eqGt, doLoad_ptr, rowOf_arr, ldO_one, fieldAddr_at, Nat.reduceLeDiff, List.length_cons, List.length_nil, Nat.zero_add, Nat.add_zero, Nat.reduceAdd, Nat.reduceSub, Nat.le_refl, List.drop_zero, List.headD_cons, Bool.not_true, Nat.lt_add_one, SK_lookup, lkN_some, ltV_mp, ofValue_bool, E2_P, u3, unt, b3, lc3, gu, lu, ld_mSB, mp_mSB, zv_bool, look_seen b1, lm, fd_unit_0, ld_str, prC, hseen]
              refine hK _ _ ?_
              clear hK K
              repeat refine R1.s_assoc ?_
              (first | refine R1.s_cnd fun Kx Ky hx hy => ?_ | refine R1.e_cnd fun Kx Ky hx hy => ?_); simp only [boolP'_b, evTmp, slot_put, Nat.reduceLT, if_true, if_false, eqGt, Nat.lt_add_one]
              refine hx ?_
              clear hx hy Kx Ky
              repeat' first | refine R1.ret ?_ | refine R1.exit ?_ | refine R1.skip ?_ | refine R1.s_ret ?_ | refine R1.s_exit ?_ | refine R1.s_assoc ?_ | refine R1.s_skip ?_ | refine R1.s_scope ?_ | ((first | refine R1.e_rg fun K hK => ?_ | refine R1.s_rg fun K hK => ?_ | refine R1.e_sq (by kernel_rfl) fun K hK => ?_ | refine R1.s_sq (by kernel_rfl) fun K hK => ?_); simp only [SG_nil, SG_cons, SU_yes, gw_n, gOf_n, List.map_cons, List.map_nil, vN_val, stN_some, SK_store, evTmp, ev_int, slot_put, putD_none, slotOk, Nat.reduceLT, true_and, if_false, ltV_ptr, eqLt, doStore_ptr, stO_arr, cells_one, noTup_one, List.length_cons, List.length_nil, Nat.zero_add, Nat.le_refl, List.nil_append, List.append_nil, List.take_zero, List.drop_succ_cons, List.drop_nil, E2_P, u2, sz_errno, b2, lc2]; refine hK _ _ ?_; clear hK K)
              exact p4 _ _ (bad _ _ rfl (by simp only [putD_dfr, udf]) (by unfold okU; rw [hseen, Bool.not_true, Bool.and_false, Bool.false_and]))
            | false =>
              have hlm : doLen H9 2 (.one (.o (.mp m))) = .val (.one (.i .i64 (i : Int))) H9 := by
                rw [lenMap b1, seenL_len (by have := yv_len 1 us; rw [hys] at this; omega)]
              simp only [SG_nil, SG_cons, SU_yes, gw_n, gw_gwv, gwv_b, optP_some, boolE_b, vN_val, ldN_some, faN_some, lnN_some, pkN_b, Nat.add_one_sub_one, SK_move, SK_pick, SK_load, SK_bin, SK_not, SK_fieldAddr, SK_len, evTmp, ev_int, ev_bool, slot_put, putD_nt, slotOk, Nat.blt_eq, Nat.reduceLT, Nat.reduceLeDiff, true_and, if_true, if_false, Bool.false_eq_true, ltV_ptr, eqLt, eqGt, doLoad_ptr, rowOf_arr, ldO_one, fieldAddr_at, Nat.reduceLeDiff, List.length_cons, List.length_nil, Nat.zero_add, Nat.add_zero, Nat.reduceAdd, Nat.reduceSub, Nat.le_refl, ii_eql, List.drop_succ_cons, List.drop_zero, List.headD_cons, Bool.not_true, Nat.lt_add_one, bin_b, bool2_b, SK_lookup, lkN_some, ltV_mp, ofValue_bool, E2_P, u3, unt, b3, lc3, gu, lu, ld_mSB, mp_mSB, zv_bool, look_seen b1, lm, fd_unit_0, fd_unit_1, ld_str, ld_int, prC, hseen, ln_mSB, hlm, plain_bneq un_bool]
              refine hK _ _ ?_
              clear hK K
              repeat refine R1.s_assoc ?_
              (first | refine R1.s_cnd fun Kx Ky hx hy => ?_ | refine R1.e_cnd fun Kx Ky hx hy => ?_); simp only [boolP'_b, evTmp, slot_put, Nat.reduceLT, if_true, if_false, eqGt, Bool.not_eq_true', Nat.lt_add_one]
              refine iteI (fun hd => hx ?_) (fun hd => hy ?_)
              · clear hx hy Kx Ky
                repeat' first | refine R1.ret ?_ | refine R1.exit ?_ | refine R1.skip ?_ | refine R1.s_ret ?_ | refine R1.s_exit ?_ | refine R1.s_assoc ?_ | refine R1.s_skip ?_ | refine R1.s_scope ?_ | ((first | refine R1.e_rg fun K hK => ?_ | refine R1.s_rg fun K hK => ?_ | refine R1.e_sq (by kernel_rfl) fun K hK => ?_ | refine R1.s_sq (by kernel_rfl) fun K hK => ?_); simp only [SG_nil, SG_cons, SU_yes, gw_n, gOf_n, List.map_cons, List.map_nil, vN_val, stN_some, SK_store, evTmp, ev_int, slot_put, putD_none, slotOk, Nat.reduceLT, true_and, if_false, ltV_ptr, eqLt, doStore_ptr, stO_arr, cells_one, noTup_one, List.length_cons, List.length_nil, Nat.zero_add, Nat.le_refl, List.nil_append, List.append_nil, List.take_zero, List.drop_succ_cons, List.drop_nil, E2_P, u2, sz_errno, b2, lc2]; refine hK _ _ ?_; clear hK K)
                exact p4 _ _ (bad _ _ rfl (by simp only [putD_dfr, udf]) (by unfold okU; rw [hq, hseen]; simpa using hd))
              · clear hx hy Kx Ky bad
                have hok : okU us i x = true := by unfold okU; rw [hq, hseen]; simpa using hd
                refine R1.s_skip ?_
                refine R1.e_rg fun K hK => ?_
                simp only [SG_nil, SG_cons, SU_yes, gw_n, gOf_n, List.map_cons, List.map_nil, vN_val, ldN_some, faN_some, SK_load, SK_fieldAddr, evTmp, ev_bool, slot_put, putD_nt, putD_none, slotOk, Nat.blt_eq, Nat.reduceLT, Nat.reduceLeDiff, true_and, if_true, if_false, ltV_ptr, eqLt, eqGt, doLoad_ptr, rowOf_arr, ldO_one, fieldAddr_at, Nat.reduceLeDiff, List.length_cons, List.length_nil, Nat.zero_add, Nat.add_zero, Nat.reduceAdd, Nat.reduceSub, Nat.le_refl, List.drop_zero, List.headD_cons, Nat.lt_add_one, SK_mapUpdate, upN_some, ltV_mp, E2_P, u3, unt, b3, lc3, gu, lu, ld_mSB, mp_mSB, fd_unit_0, ld_str, prC, lm, upd_seen b1 hx0 hseen]
                refine hK _ _ ?_
                clear hK K
                refine p1 _ _ ⟨by simp only [putD_dfr, udf], (g9.none).mod _ (.inr (.inl (.inl rfl))), (), fun _ => ⟨get_modE rfl, ?_, ?_, fun j hj => ?_, n59⟩, fun h => absurd rfl h, fun k hk => .inl hk⟩
                · rw [get_modN (by omega)]; exact b3
                · rw [get_modN (by omega)]; exact b2
                · rcases Nat.lt_or_ge j i with h | h
                  · exact a4 j h
                  · have : j = i := by omega
                    subst this
                    rw [List.getD_eq_getElem?_getD, hx0]; exact hok
        · rintro s' H6 ⟨a1, a2, a3, a4, a5⟩ n6 hd6 hf6 hfp
          have g6 : Gr H H6 := gg.then hf6 fun k hk => .inl (by rcases hk with rfl | rfl <;> omega)
          have q1 : H6.get c1 = some (.arr [.o (.str n), u] 78 0 0) := by rw [hf6.get _ (by omega) (fun h => by rcases h with h | h <;> omega)]; exact q1
          have hu6 : SlP H6 u us := hu.gr g6
          have hlm : doLen H6 2 (.one (.o (.mp m))) = .val (.one (.i .i64 (ys.length : Int))) H6 := by
            rw [lenMap a1, seenL_len hyl]
          have lc1 : c1 < H6.nx := by omega
          have lc2 : c2 < H6.nx := by omega
          have lc3 : c3 < H6.nx := by omega
          have lm : m < H6.nx := by omega
          refine k1 _ _ ?_
          refine R1.genA (fun A7 => slot A7.tm 1 = .one (.o (.ptr c1 0 0 2)) ∧ slot A7.tm 2 = .one (.o (.ptr c2 0 0 1)) ∧ slot A7.tm 3 = .one (.o (.ptr c3 0 0 1)) ∧ A7.nt = 55 ∧ A7.dfr = [H5.nx]) ⟨t1, t2, t3, hnt, by show H5.nx :: A.dfr = _; rw [hdf]⟩ ?_
          rintro A7 ⟨u1, u2, u3, unt, udf⟩
          repeat refine R1.s_assoc ?_
          refine R1.s_rg fun K hK => ?_
          simp only [SG_cons, SU_yes, gw_n, gOf_n, List.map_cons, List.map_nil, vN_val, ldN_some, faN_some, lnN_some, Nat.add_one_sub_one, SK_load, SK_bin, SK_fieldAddr, SK_len, SK_call, doCall_clo, doCall_clo, evTmp, ev_int, ev_func, evs_cons, evs_nil, slot_put, putD_nt, slotOk, Nat.blt_eq, Nat.reduceLT, true_and, if_true, if_false, ltV_ptr, eqLt, eqGt, doLoad_ptr, rowOf_arr, ldO_one, fieldAddr_at, List.length_cons, List.length_nil, Nat.zero_add, Nat.reduceAdd, Nat.le_refl, capArgs_nil, List.append_nil, ii_eql, List.drop_succ_cons, List.drop_zero, List.headD_cons, Nat.lt_add_one, ltV_mp, E2_P, u1, u3, unt, a2, lc3, lc1, lm, q1, fd_lad_1, ld_units, ln_units, ld_mSB, ln_mSB, hlm, hu6.len, hu6.lt, bd_need]
          refine WE.con (need_con H6 _ 10) fun v H7 g7 hv => ?_
          subst hv
          have b2 : H7.get c2 = some (.arr [.i .i64 0] 28 0 0) := by rw [g7.get _ lc2 not_false]; exact a3
          have lc2 : c2 < H7.nx := Nat.lt_of_lt_of_le lc2 g7.nx
          have hd7 : H7.get H5.nx = some (.oth (.dfr true)) := by rw [g7.get _ (by omega) not_false]; exact hd6
          have g67 : Gr H H7 := g6.gr g7
          simp only [SG_nil, SG_cons, SU_yes, gw_n, vN_val, stN_some, SK_store, evTmp, slot_put, putD_none, slotOk, Nat.reduceLT, true_and, if_true, if_false, ltV_ptr, eqLt, eqGt, doStore_ptr, stO_arr, cells_one, noTup_one, List.length_cons, List.length_nil, Nat.zero_add, Nat.le_refl, List.nil_append, List.append_nil, List.take_zero, List.drop_succ_cons, List.drop_nil, Nat.lt_add_one, E2_P, u2, sz_errno, b2, lc2]
          refine hK _ _ ?_
          clear hK K
          repeat' first | refine R1.ret ?_ | refine R1.exit ?_ | refine R1.skip ?_ | refine R1.s_ret ?_ | refine R1.s_exit ?_ | refine R1.s_assoc ?_ | refine R1.s_skip ?_ | refine R1.s_scope ?_ | ((first | refine R1.e_rg fun K hK => ?_ | refine R1.s_rg fun K hK => ?_ | refine R1.e_sq (by kernel_rfl) fun K hK => ?_ | refine R1.s_sq (by kernel_rfl) fun K hK => ?_); simp only [SG_nil, SG_cons, SU_yes, SU_no, gw_n, gw_gwv, gwv_b, gwv_u, gOf_n, gOf_some, List.map_cons, List.map_nil, List.getElem?_cons_zero, List.getElem?_cons_succ, Option.elim_some, Option.map_some, Option.bind_some, optP_some, boolP_b, boolP'_b, boolE_b, decide_eq_true_eq, decide_true, decide_false, valP_val, valP_guard, vN_val, ldN_some, stN_some, faN_some, iaN_some, lnN_some, pkN_b, sliceO_some, slice_lo, slice_hi, slice_1, indexAddr_0, Nat.add_one_sub_one, Nat.one_mul, len_sl, len_ns, len_str', posS, eq0S, cast0, Int.reduceLT, Int.reduceLE, Int.reduceBEq, Option.map_none, Nat.lt_add_left_iff_pos, Nat.zero_lt_succ, Nat.le_add_left, SK_move, SK_assign, SK_pick, SK_alloc, SK_box, SK_load, SK_store, SK_bin, SK_not, SK_fieldAddr, SK_field, SK_indexAddr, SK_slice, SK_extract, SK_nilCheck, SK_makeFunc, SK_makeMap, SK_makeSlice, SK_build, SK_buildSlice, SK_len, SK_append, SK_call, doCall_clo, doCall_clo, evTmp, ev_int, ev_bool, ev_str, ev_nilS, ev_func, opFev, evs_cons, evs_nil, slot_put, putD_nt, putD_none, putD_dfr, slotOk, Nat.blt_eq, Nat.reduceLT, Nat.reduceEqDiff, Nat.reduceLeDiff, reduceIte, true_and, and_true, true_or, or_true, if_true, if_false, Bool.false_eq_true, Bool.true_eq_false, not_false_eq_true, not_true_eq_false, ltV_ptr, ltV_sl, ltV_nil, ltV_str, ltV_i, nxNew, nxMod, get_newE, get_newL, get_modE, get_modN, ltAdd, ltSelf, eqLt, eqGt, eqLtA, eqGtA, eqSelfA, eqASelf, eqAA, ltAA, doLoad_ptr, doStore_ptr, rowOf_arr, rowOf_ro, ldO_agg, ldO_one, stO_arr, splice_eq, fieldAddr_at, Bool.not_eq_true', Bool.not_eq_false', decide_eq_false_iff_not, ne_eq, Nat.reduceLeDiff, Nat.lt_irrefl, gt_iff_lt, cells_one, cells_agg, noTup_one, noTup_agg, List.length_cons, List.length_nil, Nat.zero_add, Nat.add_zero, Nat.reduceAdd, Nat.reduceSub, Nat.reduceMul, Nat.le_refl, Nat.zero_le, capsOf_nil, capsOf_cons, capArgs_nil, capArgs_cons, List.cons_append, List.nil_append, List.append_nil, ex_0, ex_0a, ex_1, ex_1a, ex_2, ex_2a, ii_lss, ii_leq, ii_gtr, ii_geq, ii_eql, ii_neq, ii_add, ii_sub, ii_mul, ss_lss, ss_geq, ss_leq, ss_gtr, ss_eql, ss_neq, List.take_succ_cons, List.take_zero, List.drop_succ_cons, List.drop_zero, List.take_nil, List.drop_nil, List.headD_cons, Bool.not_true, Bool.not_false, Nat.lt_add_one, bin_agg, bin_b, agg2_agg, bool2_b, aggEq_nil, aggEq_s, aggEq_i, aggEq_b, aggO_some, fill_nil, fill_cons, Nat.zero_mul, partsF_nil, partsF_cons, repl_one, SK_lookup, SK_mapUpdate, lkN_some, upN_some, ltV_mp, nilCheck_ptr, lookOut_f, lookOut_t, doCall_yl, ofValue_int, ofValue_bool, ev_nilP, ev_nilM, ev_nilF]; refine hK _ _ ?_; clear hK K)
          refine fin .ret _ _ _ _ (.inr rfl) (by simp only [putD_dfr, udf]; exact closeAll_one (by rw [get_modN (by omega)]; exact hd7)) ((g67.mod _ (.inl (by omega))).mod _ (.inl (by have := gg.nx; omega))) (by simp only [slot_put, Nat.reduceEqDiff, reduceIte, u2]) (by rw [get_modN (by omega)]; exact get_modE rfl) ?_
          unfold chkLad
          by_cases hlen : (ys.length : Int) = us.length
          · have hall : ladOK n us = true := by
              unfold ladOK
              rw [hnm, hz, hys, decide_eq_true (by omega : (us.length : Int) ≤ 12), decide_eq_true (by omega : ys.length = us.length)]
              simp only [Bool.not_false, Bool.true_and, List.all_eq_true]
              intro j hj
              exact a4 j (by have := List.mem_range.1 hj; omega)
            rw [hall, hlen, beq_self_eq_true]
          · have hall : ladOK n us = false := by
              unfold ladOK
              rw [hys, decide_eq_false (by omega : ¬ ys.length = us.length), Bool.and_false, Bool.false_and]
            rw [hall, beq_false_of_ne hlen]
        · rintro e s' H6 hne ⟨rfl, a2, a3, a5⟩ n6 hd6 hf6 hfp
          have g6 : Gr H H6 := gg.then hf6 fun k hk => .inl (by rcases hk with rfl | rfl <;> omega)
          refine k4 _ _ (fin .ret _ _ _ 10 (.inr rfl) (by show closeAll H6 (H5.nx :: A.dfr) = _; rw [hdf]; exact closeAll_one hd6) (g6.mod _ (.inl (by have := gg.nx; omega))) t2 (by rw [get_modN (by omega)]; exact a2) ?_)
          unfold chkLad
          rw [a3]; rfl
end Go.Proofs.YtiejeicaaojdlaaGreat
