/- The reference's Check of a ladder: it answers what the program's does. -/
import Derived.Test.YtiejeicaaojdlaaGreatBkRef1
namespace Go.Proofs.YtiejeicaaojdlaaGreat
open Go Go.Eng

def refU (us : List Pr) (i : Nat) (x : Pr) : Bool := nmB x.1 && (decide (idxU 0 us x.1 = (i : Int)) && (if i = 0 then x.2 == 1 else decide (2 ≤ x.2) && decide (x.2 ≤ 60)))
def refLad (n : List UInt8) (us : List Pr) : Bool := nmB n && decide (1 ≤ us.length) && decide (us.length ≤ 12) && ((List.range us.length).all fun i => refU us i (us.getD i ([], 0))) && (valsU 1 us).isSome
theorem refLad_no {n : List UInt8} {us : List Pr} {i : Nat} {x : Pr} (hx : us[i]? = some x) (h : refU us i x = false) : (if refLad n us = true then 0 else 10) = (10 : Int) := by
  have hlt : i < us.length := (List.getElem?_eq_some_iff.1 hx).1
  have : ((List.range us.length).all fun i => refU us i (us.getD i ([], 0))) = false := List.all_eq_false.2 ⟨i, List.mem_range.2 hlt, by rw [List.getD_eq_getElem?_getD, hx]; show ¬ refU us i x = true; rw [h]; decide⟩
  unfold refLad
  rw [this, Bool.and_false, Bool.false_and]; rfl

theorem yv_full : ∀ (v : Int) (us : List Pr), (yv v us).length = us.length ↔ (∀ x ∈ us, 1 ≤ x.2 ∧ x.2 ≤ 60) ∧ (valsU v us).isSome = true
  | _, [] => ⟨fun _ => ⟨fun x hx => (by cases hx), rfl⟩, fun _ => rfl⟩
  | v, u :: us => by
    unfold yv valsU
    have ih := yv_full (v * u.2) us
    by_cases h : u.2 < 1 ∨ 60 < u.2 ∨ 1099511627776 < v * u.2
    · rw [if_pos h]
      refine ⟨fun h' => (by simp at h'), fun ⟨h1, h2⟩ => ?_⟩
      have h3 := h1 u (List.mem_cons_self ..)
      have h4 : 1099511627776 < v * u.2 := by omega
      rw [if_pos h4] at h2
      cases h2
    · rw [if_neg h, if_neg (by omega), List.length_cons, List.length_cons, List.forall_mem_cons, Option.isSome_map]
      constructor
      · intro h'
        obtain ⟨a, b⟩ := ih.1 (by omega)
        exact ⟨⟨by omega, a⟩, b⟩
      · rintro ⟨⟨_, a⟩, b⟩
        have := ih.2 ⟨a, b⟩
        omega
theorem idxU_at : ∀ (n : Nat) (us : List Pr) (i : Nat) (x : Pr), us[i]? = some x → (idxU n us x.1 = ((n + i : Nat) : Int) ↔ ((us.take i).any fun y => y.1 == x.1) = false)
  | _, [], _, _, h => by simp at h
  | n, u :: us, 0, x, h => by
    simp only [List.getElem?_cons_zero, Option.some.injEq] at h
    subst h
    unfold idxU
    rw [if_pos rfl]
    exact ⟨fun _ => rfl, fun _ => rfl⟩
  | n, u :: us, i + 1, x, h => by
    rw [List.getElem?_cons_succ] at h
    unfold idxU
    rw [List.take_succ_cons, List.any_cons]
    by_cases hu : u.1 = x.1
    · rw [if_pos hu, hu, beq_self_eq_true, Bool.true_or]
      exact ⟨fun h => by omega, fun h => by cases h⟩
    · rw [if_neg hu, beq_false_of_ne hu, Bool.false_or]
      have := idxU_at (n + 1) us i x h
      have e : n + 1 + i = n + (i + 1) := by omega
      rw [e] at this
      exact this
theorem refLad_eq (n : List UInt8) (us : List Pr) : refLad n us = ladOK n us := by
  rw [Bool.eq_iff_iff]
  unfold refLad ladOK
  simp only [Bool.and_eq_true, decide_eq_true_eq, List.all_eq_true, List.mem_range, Bool.not_eq_true', beq_eq_false_iff_ne]
  have hat : ∀ i, i < us.length → ∃ x, us[i]? = some x ∧ us.getD i ([], 0) = x := fun i hi => ⟨us[i], List.getElem?_eq_getElem hi, by rw [List.getD_eq_getElem?_getD, List.getElem?_eq_getElem hi]; rfl⟩
  constructor
  · rintro ⟨⟨⟨⟨h1, h2⟩, h3⟩, h4⟩, h5⟩
    have fac : ∀ x ∈ us, 1 ≤ x.2 ∧ x.2 ≤ 60 := fun x hx => by
      obtain ⟨i, hi, rfl⟩ := List.getElem_of_mem hx
      have := h4 i hi
      rw [List.getD_eq_getElem?_getD, List.getElem?_eq_getElem hi] at this
      unfold refU at this
      simp only [Option.getD_some, Bool.and_eq_true] at this
      have h6 := this.2.2
      split at h6
      · have := eq_of_beq h6; omega
      · simp only [Bool.and_eq_true, decide_eq_true_eq] at h6; omega
    refine ⟨⟨⟨⟨h1, by omega⟩, by omega⟩, (yv_full 1 us).2 ⟨fac, h5⟩⟩, fun i hi => ?_⟩
    obtain ⟨x, hx, hxd⟩ := hat i hi
    have h6 := h4 i hi
    rw [hxd] at h6 ⊢
    unfold refU at h6
    unfold okU
    simp only [Bool.and_eq_true, decide_eq_true_eq] at h6
    have h7 := (idxU_at 0 us i x hx).1 (by rw [Nat.zero_add]; exact h6.2.1)
    rw [h6.1, h7]
    have h8 := h6.2.2
    by_cases hi0 : i = 0
    · rw [if_pos hi0] at h8
      rw [h8, hi0]; rfl
    · rw [if_neg hi0] at h8
      simp only [Bool.and_eq_true, decide_eq_true_eq] at h8
      rw [beq_false_of_ne (by omega : x.2 ≠ 1), beq_false_of_ne (by omega : (i : Int) ≠ 0)]; rfl
  · rintro ⟨⟨⟨⟨h1, h2⟩, h3⟩, h4⟩, h5⟩
    obtain ⟨fac, hv⟩ := (yv_full 1 us).1 h4
    refine ⟨⟨⟨⟨h1, by omega⟩, by omega⟩, fun i hi => ?_⟩, hv⟩
    obtain ⟨x, hx, hxd⟩ := hat i hi
    have h6 := h5 i hi
    rw [hxd] at h6 ⊢
    unfold okU at h6
    unfold refU
    simp only [Bool.and_eq_true, Bool.not_eq_true'] at h6
    have h7 := (idxU_at 0 us i x hx).2 h6.1.2
    rw [Nat.zero_add] at h7
    have hfx := fac x (List.mem_of_getElem? hx)
    rw [h6.1.1, h7, decide_eq_true rfl]
    have h8 := eq_of_beq h6.2
    by_cases hi0 : i = 0
    · rw [if_pos hi0, h8, hi0]; rfl
    · rw [if_neg hi0]
      rw [beq_false_of_ne (by omega : (i : Int) ≠ 0)] at h8
      have : x.2 ≠ 1 := fun h => by rw [h] at h8; cases h8
      rw [decide_eq_true (by omega : 2 ≤ x.2), decide_eq_true (by omega : x.2 ≤ 60)]; rfl

set_option maxRecDepth 10000 in
set_option maxHeartbeats 8000000 in
theorem refCheck_con (H : Hp) (n : List UInt8) (u : AC) (us : List Pr) (hu : SlP H u us) :
    Con E2 67 [.agg [.o (.str n), u]] H (fun _ => False) fun r _ => r = .one (.i .i64 (chkLad n us)) := by
  refine Con.of rfl fun lg => ?_
  have hu : SlP ⟨H.t, H.nx, lg⟩ u us := hu
  generalize (⟨H.t, H.nx, lg⟩ : Hp) = H at hu ⊢
  unfold chkLad
  rw [← refLad_eq]
  refine C1.body (E := E2) (nt := 77) (res := [.tmp 2]) Tryz.func67 rfl rfl rfl rfl rfl fun tm hargs => ?_
  have h0 := hargs 0 _ rfl
  clear hargs
  have fin : ∀ (e : Int) (A : AAct) (H3 : Hp), slot A.tm 2 = .one (.i .i64 e) → A.dfr = [] → Gr H H3 → e = (if refLad n us = true then 0 else 10) → ∃ w H4, callEnd E2 [.tmp 2] (.ret, A, H3) = .ok [(w, H4)] ∧ Gr H H4 ∧ ∀ _ : List Nat, w = .one (.i .i64 (if refLad n us = true then 0 else 10)) := fun e A H3 h1 h2 h3 h4 => ⟨_, H3, callEnd_one (.i .i64 e) (.inr rfl) h2 h1, h3, fun _ => by rw [h4]⟩
  repeat refine R1.s_assoc ?_
  refine R1.s_rg fun K hK => ?_
  simp only [SG_nil, SG_cons, SU_yes, gw_n, gOf_n, List.map_cons, List.map_nil, SK_assign, SK_box, evTmp, ev_int, putD_nt, slotOk, Nat.blt_eq, Nat.reduceLT, true_and, cells_agg, noTup_agg, List.length_cons, List.length_nil, Nat.zero_add, Nat.reduceAdd, h0]
  refine hK _ _ ?_
  clear hK K
  refine R1.gen (fun A1 H1 => Gr H H1 ∧ H.nx < H1.nx ∧ H1.get H.nx = some (.arr [.o (.str n), u] 78 0 0) ∧ slot A1.tm 1 = .one (.o (.ptr H.nx 0 0 2)) ∧ A1.nt = 77 ∧ A1.dfr = [])
    ⟨(Fr.refl _).new _, ?_⟩ ?_
  · simp only [slot_put, putD_nt, putD_dfr, and_true, if_true, if_false, nxNew, get_newE, eqLt, Nat.lt_add_one]
  rintro A1 H1 ⟨g1, lb, rb, t1, hnt, hdf⟩
  clear h0 tm
  repeat refine R1.s_assoc ?_
  refine R1.s_rg fun K hK => ?_
  simp only [SG_cons, SU_yes, gw_n, gOf_n, gOf_some, List.map_cons, List.map_nil, List.getElem?_cons_zero, List.getElem?_cons_succ, Option.elim_some, vN_val, ldN_some, faN_some, SK_load, SK_fieldAddr, SK_call, doCall_clo, doCall_clo, evTmp, ev_func, evs_cons, evs_nil, slot_put, putD_nt, slotOk, Nat.blt_eq, Nat.reduceLT, Nat.reduceLeDiff, true_and, if_true, if_false, ltV_ptr, eqGt, doLoad_ptr, rowOf_arr, ldO_one, fieldAddr_at, Nat.reduceLeDiff, List.length_cons, List.length_nil, Nat.zero_add, Nat.add_zero, Nat.reduceAdd, Nat.reduceSub, Nat.le_refl, capArgs_nil, List.append_nil, List.drop_zero, List.headD_cons, Nat.lt_add_one, E2_P, t1, hnt, rb, lb, fd_lad_0, ld_str, bd_refName]
  refine WE.con (refName_con H1 n) fun w H2 g2 hw => ?_
  subst hw
  have g2' := g1.gr g2
  have hu2 := hu.gr g2'
  have rb : H2.get H.nx = some (.arr [.o (.str n), u] 78 0 0) := by rw [g2.get _ lb not_false]; exact rb
  have lb : H.nx < H2.nx := Nat.lt_of_lt_of_le lb g2.nx
  cases hnm : nmB n with
  | false =>
    simp only [SG_nil, SG_cons, SU_yes, SU_no, gw_n, gw_gwv, gwv_b, boolE_b, vN_val, pkN_b, SK_move, SK_pick, SK_not, evTmp, ev_bool, slot_put, putD_nt, slotOk, Nat.blt_eq, Nat.reduceLT, true_and, if_true, if_false, Bool.true_eq_false, eqLt, eqGt, Bool.not_false, Nat.lt_add_one, E2_P, hnt]
    refine hK _ _ ?_
    clear hK K
    repeat refine R1.s_assoc ?_
    (first | refine R1.s_cnd fun Kx Ky hx hy => ?_ | refine R1.e_cnd fun Kx Ky hx hy => ?_); simp only [boolP'_b, evTmp, slot_put, Nat.reduceLT, if_true, if_false, eqGt, Nat.lt_add_one]
    refine hx ?_
    clear hx hy Kx Ky
    repeat' first | refine R1.ret ?_ | refine R1.exit ?_ | refine R1.skip ?_ | refine R1.s_ret ?_ | refine R1.s_exit ?_ | refine R1.s_assoc ?_ | refine R1.s_skip ?_ | refine R1.s_scope ?_ | ((first | refine R1.e_rg fun K hK => ?_ | refine R1.s_rg fun K hK => ?_ | refine R1.e_sq (by kernel_rfl) fun K hK => ?_ | refine R1.s_sq (by kernel_rfl) fun K hK => ?_); simp only [SG_nil, SG_cons, SU_yes, gw_n, gOf_n, List.map_cons, List.map_nil, SK_assign, ev_int, putD_nt, slotOk, Nat.blt_eq, Nat.reduceLT, true_and, hnt]; refine hK _ _ ?_; clear hK K)
    exact fin 10 _ _ (by simp only [slot_put, Nat.reduceEqDiff, reduceIte]) (by simp only [putD_dfr, hdf]) g2' (by unfold refLad; rw [hnm]; rfl)
  | true =>
    by_cases h1 : (us.length : Int) < 1
    · have c1 : ((us.length : Int) < 1) = True := eq_true h1
      simp only [SG_nil, SG_cons, SU_yes, SU_no, gw_n, gw_gwv, gwv_b, boolE_b, decide_true, vN_val, ldN_some, faN_some, lnN_some, pkN_b, Nat.add_one_sub_one, SK_move, SK_pick, SK_load, SK_bin, SK_not, SK_fieldAddr, SK_len, evTmp, ev_int, ev_bool, slot_put, putD_nt, slotOk, Nat.blt_eq, Nat.reduceLT, true_and, if_true, if_false, Bool.false_eq_true, Bool.true_eq_false, ltV_ptr, eqLt, eqGt, doLoad_ptr, rowOf_arr, ldO_one, fieldAddr_at, List.length_cons, List.length_nil, Nat.zero_add, Nat.reduceAdd, Nat.le_refl, ii_lss, List.drop_succ_cons, List.drop_zero, List.headD_cons, Bool.not_true, Nat.lt_add_one, E2_P, t1, hnt, rb, lb, fd_lad_1, ld_units, ln_units, hu2.len, hu2.lt, c1]
      refine hK _ _ ?_
      clear hK K
      repeat refine R1.s_assoc ?_
      (first | refine R1.s_cnd fun Kx Ky hx hy => ?_ | refine R1.e_cnd fun Kx Ky hx hy => ?_); simp only [boolP'_b, evTmp, slot_put, Nat.reduceLT, if_true, if_false, eqGt, Nat.lt_add_one]
      refine hx ?_
      clear hx hy Kx Ky
      repeat' first | refine R1.ret ?_ | refine R1.exit ?_ | refine R1.skip ?_ | refine R1.s_ret ?_ | refine R1.s_exit ?_ | refine R1.s_assoc ?_ | refine R1.s_skip ?_ | refine R1.s_scope ?_ | ((first | refine R1.e_rg fun K hK => ?_ | refine R1.s_rg fun K hK => ?_ | refine R1.e_sq (by kernel_rfl) fun K hK => ?_ | refine R1.s_sq (by kernel_rfl) fun K hK => ?_); simp only [SG_nil, SG_cons, SU_yes, gw_n, gOf_n, List.map_cons, List.map_nil, SK_assign, ev_int, putD_nt, slotOk, Nat.blt_eq, Nat.reduceLT, true_and, hnt]; refine hK _ _ ?_; clear hK K)
      exact fin 10 _ _ (by simp only [slot_put, Nat.reduceEqDiff, reduceIte]) (by simp only [putD_dfr, hdf]) g2' (by unfold refLad; rw [decide_eq_false (by omega : ¬ 1 ≤ us.length)]; simp)
    · have c1 : ((us.length : Int) < 1) = False := eq_false h1
      by_cases h12 : (12 : Int) < us.length
      · have c12 : ((12 : Int) < us.length) = True := eq_true h12
        simp only [SG_nil, SG_cons, SU_yes, gw_n, gw_gwv, gwv_b, boolE_b, decide_true, decide_false, vN_val, ldN_some, faN_some, lnN_some, pkN_b, Nat.add_one_sub_one, SK_move, SK_pick, SK_load, SK_bin, SK_not, SK_fieldAddr, SK_len, evTmp, ev_int, ev_bool, slot_put, putD_nt, slotOk, Nat.blt_eq, Nat.reduceLT, true_and, if_true, if_false, Bool.false_eq_true, ltV_ptr, eqLt, eqGt, doLoad_ptr, rowOf_arr, ldO_one, fieldAddr_at, List.length_cons, List.length_nil, Nat.zero_add, Nat.reduceAdd, Nat.le_refl, ii_lss, ii_gtr, List.drop_succ_cons, List.drop_zero, List.headD_cons, Bool.not_true, Nat.lt_add_one, E2_P, t1, hnt, rb, lb, fd_lad_1, ld_units, ln_units, hu2.len, hu2.lt, c1, c12]
        refine hK _ _ ?_
        clear hK K
        repeat refine R1.s_assoc ?_
        (first | refine R1.s_cnd fun Kx Ky hx hy => ?_ | refine R1.e_cnd fun Kx Ky hx hy => ?_); simp only [boolP'_b, evTmp, slot_put, Nat.reduceLT, if_true, if_false, eqGt, Nat.lt_add_one]
        refine hx ?_
        clear hx hy Kx Ky
        repeat' first | refine R1.ret ?_ | refine R1.exit ?_ | refine R1.skip ?_ | refine R1.s_ret ?_ | refine R1.s_exit ?_ | refine R1.s_assoc ?_ | refine R1.s_skip ?_ | refine R1.s_scope ?_ | ((first | refine R1.e_rg fun K hK => ?_ | refine R1.s_rg fun K hK => ?_ | refine R1.e_sq (by kernel_rfl) fun K hK => ?_ | refine R1.s_sq (by kernel_rfl) fun K hK => ?_); simp only [SG_nil, SG_cons, SU_yes, gw_n, gOf_n, List.map_cons, List.map_nil, SK_assign, ev_int, putD_nt, slotOk, Nat.blt_eq, Nat.reduceLT, true_and, hnt]; refine hK _ _ ?_; clear hK K)
        exact fin 10 _ _ (by simp only [slot_put, Nat.reduceEqDiff, reduceIte]) (by simp only [putD_dfr, hdf]) g2' (by unfold refLad; rw [decide_eq_false (by omega : ¬ us.length ≤ 12)]; simp)
      · have c12 : ((12 : Int) < us.length) = False := eq_false h12
        simp only [SG_nil, SG_cons, SU_yes, gw_n, gw_gwv, gwv_b, boolE_b, decide_false, vN_val, ldN_some, faN_some, lnN_some, pkN_b, Nat.add_one_sub_one, SK_move, SK_pick, SK_load, SK_bin, SK_not, SK_fieldAddr, SK_len, evTmp, ev_int, ev_bool, slot_put, putD_nt, slotOk, Nat.blt_eq, Nat.reduceLT, true_and, if_true, if_false, Bool.false_eq_true, ltV_ptr, eqLt, eqGt, doLoad_ptr, rowOf_arr, ldO_one, fieldAddr_at, List.length_cons, List.length_nil, Nat.zero_add, Nat.reduceAdd, Nat.le_refl, ii_lss, ii_gtr, List.drop_succ_cons, List.drop_zero, List.headD_cons, Bool.not_true, Nat.lt_add_one, E2_P, t1, hnt, rb, lb, fd_lad_1, ld_units, ln_units, hu2.len, hu2.lt, c1, c12]
        refine hK _ _ ?_
        clear hK K
        repeat refine R1.s_assoc ?_
        (first | refine R1.s_cnd fun Kx Ky hx hy => ?_ | refine R1.e_cnd fun Kx Ky hx hy => ?_); simp only [boolP'_b, evTmp, slot_put, Nat.reduceLT, if_true, if_false, Bool.false_eq_true, eqGt, Nat.lt_add_one]
        refine hy ?_
        clear hx hy Kx Ky
        repeat' first | refine R1.ret ?_ | refine R1.exit ?_ | refine R1.skip ?_ | refine R1.s_ret ?_ | refine R1.s_exit ?_ | refine R1.s_assoc ?_ | refine R1.s_skip ?_ | refine R1.s_scope ?_ | ((first | refine R1.e_rg fun K hK => ?_ | refine R1.s_rg fun K hK => ?_ | refine R1.e_sq (by kernel_rfl) fun K hK => ?_ | refine R1.s_sq (by kernel_rfl) fun K hK => ?_); simp only [SG_nil, SG_cons, SU_yes, gw_n, gOf_n, List.map_cons, List.map_nil, SK_assign, ev_int, putD_nt, slotOk, Nat.blt_eq, Nat.reduceLT, true_and, hnt]; refine hK _ _ ?_; clear hK K)
        refine R1.s_block fun K k1 k2 k3 k4 => ?_
        refine R1.loop (fun k A H3 => ∃ i : Nat, k = us.length - i ∧ i ≤ us.length ∧ Gr H2 H3 ∧ (∀ j, j < i → refU us j (us.getD j ([], 0)) = true) ∧ slot A.tm 1 = .one (.o (.ptr H.nx 0 0 2)) ∧ slot A.tm 3 = .one (.i .i64 (i : Int)) ∧ A.nt = 77 ∧ A.dfr = []) ?_ us.length
          ⟨0, rfl, Nat.zero_le _, Fr.refl _, fun j hj => absurd hj (Nat.not_lt_zero j), ?_⟩
        · clear t1 hnt hdf A1
          rintro k A H3 ⟨i, rfl, hi, g3, hall, t1, t3, hnt, hdf⟩
          have hu3 := hu2.gr g3
          have rb : H3.get H.nx = some (.arr [.o (.str n), u] 78 0 0) := by rw [g3.get _ lb not_false]; exact rb
          have lb : H.nx < H3.nx := Nat.lt_of_lt_of_le lb g3.nx
          repeat' first | refine R1.ret ?_ | refine R1.exit ?_ | refine R1.skip ?_ | refine R1.s_ret ?_ | refine R1.s_exit ?_ | refine R1.s_assoc ?_ | refine R1.s_skip ?_ | refine R1.s_scope ?_ | ((first | refine R1.e_rg fun K hK => ?_ | refine R1.s_rg fun K hK => ?_ | refine R1.e_sq (by kernel_rfl) fun K hK => ?_ | refine R1.s_sq (by kernel_rfl) fun K hK => ?_); simp only [SG_nil, SG_cons, SU_yes, gw_n, gOf_n, List.map_cons, List.map_nil, vN_val, ldN_some, faN_some, lnN_some, Nat.add_one_sub_one, SK_move, SK_load, SK_bin, SK_fieldAddr, SK_len, evTmp, slot_put, putD_nt, slotOk, Nat.blt_eq, Nat.reduceLT, true_and, if_true, if_false, ltV_ptr, eqLt, eqGt, doLoad_ptr, rowOf_arr, ldO_one, fieldAddr_at, List.length_cons, List.length_nil, Nat.zero_add, Nat.reduceAdd, Nat.le_refl, ii_lss, List.drop_succ_cons, List.drop_zero, List.headD_cons, Nat.lt_add_one, E2_P, t1, t3, hnt, rb, lb, fd_lad_1, ld_units, ln_units, hu3.len, hu3.lt]; refine hK _ _ ?_; clear hK K)
          repeat refine R1.s_assoc ?_
          (first | refine R1.s_cnd fun Kx Ky hx hy => ?_ | refine R1.e_cnd fun Kx Ky hx hy => ?_); simp only [boolP'_b, decide_eq_true_eq, evTmp, slot_put, Nat.reduceLT, if_true, if_false, eqGt, Nat.lt_add_one]
          refine iteI (fun hc => hx ?_) (fun hc => hy ?_)
          · clear hx hy Kx Ky
            have hlt : i < us.length := by omega
            have hw2 : IntKind.i64.wrap ((i : Int) + 1) = ((i + 1 : Nat) : Int) := by rw [wrapI (by omega) (by omega)]; omega
            obtain ⟨id, g, off, cells, rfl, hid, hgr, hat⟩ := hu3.open (by omega)
            have ex : us[i]? = some us[i] := List.getElem?_eq_getElem hlt
            generalize us[i] = x at ex
            have hx1 := hat i x ex
            repeat' first | refine R1.ret ?_ | refine R1.exit ?_ | refine R1.skip ?_ | refine R1.s_ret ?_ | refine R1.s_exit ?_ | refine R1.s_assoc ?_ | refine R1.s_skip ?_ | refine R1.s_scope ?_ | ((first | refine R1.e_rg fun K hK => ?_ | refine R1.s_rg fun K hK => ?_ | refine R1.e_sq (by kernel_rfl) fun K hK => ?_ | refine R1.s_sq (by kernel_rfl) fun K hK => ?_); simp only [SG_nil, SG_cons, SU_yes, SU_no, gw_n, gw_gwv, gwv_b, gwv_u, gOf_n, gOf_some, List.map_cons, List.map_nil, List.getElem?_cons_zero, List.getElem?_cons_succ, Option.elim_some, Option.map_some, Option.bind_some, optP_some, boolP_b, boolP'_b, boolE_b, decide_eq_true_eq, decide_true, decide_false, valP_val, valP_guard, vN_val, ldN_some, stN_some, faN_some, iaN_some, lnN_some, pkN_b, sliceO_some, slice_lo, slice_hi, slice_1, indexAddr_0, Nat.add_one_sub_one, Nat.one_mul, len_sl, len_ns, len_str', posS, eq0S, cast0, Int.reduceLT, Int.reduceLE, Int.reduceBEq, Option.map_none, Nat.lt_add_left_iff_pos, Nat.zero_lt_succ, Nat.le_add_left, SK_move, SK_assign, SK_pick, SK_alloc, SK_box, SK_load, SK_store, SK_bin, SK_not, SK_fieldAddr, SK_field, SK_indexAddr, SK_slice, SK_extract, SK_nilCheck, SK_makeFunc, SK_makeMap, SK_makeSlice, SK_build, SK_buildSlice, SK_len, SK_append, SK_call, doCall_clo, doCall_clo, evTmp, ev_int, ev_bool, ev_str, ev_nilS, ev_func, opFev, evs_cons, evs_nil, slot_put, putD_nt, putD_none, putD_dfr, slotOk, Nat.blt_eq, Nat.reduceLT, Nat.reduceEqDiff, Nat.reduceLeDiff, reduceIte, true_and, and_true, true_or, or_true, if_true, if_false, Bool.false_eq_true, Bool.true_eq_false, not_false_eq_true, not_true_eq_false, ltV_ptr, ltV_sl, ltV_nil, ltV_str, ltV_i, nxNew, nxMod, get_newE, get_newL, get_modE, get_modN, ltAdd, ltSelf, eqLt, eqGt, eqLtA, eqGtA, eqSelfA, eqASelf, eqAA, ltAA, doLoad_ptr, doStore_ptr, rowOf_arr, rowOf_ro, ldO_agg, ldO_one, stO_arr, splice_eq, fieldAddr_at, Bool.not_eq_true', Bool.not_eq_false', decide_eq_false_iff_not, ne_eq, Nat.reduceLeDiff, Nat.lt_irrefl, gt_iff_lt, cells_one, cells_agg, noTup_one, noTup_agg, List.length_cons, List.length_nil, Nat.zero_add, Nat.add_zero, Nat.reduceAdd, Nat.reduceSub, Nat.reduceMul, Nat.le_refl, Nat.zero_le, capsOf_nil, capsOf_cons, capArgs_nil, capArgs_cons, List.cons_append, List.nil_append, List.append_nil, ex_0, ex_0a, ex_1, ex_1a, ex_2, ex_2a, ii_lss, ii_leq, ii_gtr, ii_geq, ii_eql, ii_neq, ii_add, ii_sub, ii_mul, ss_lss, ss_geq, ss_leq, ss_gtr, ss_eql, ss_neq, List.take_succ_cons, List.take_zero, List.drop_succ_cons, List.drop_zero, List.take_nil, List.drop_nil, List.headD_cons, Bool.not_true, Bool.not_false, Nat.lt_add_one, bin_agg, bin_b, agg2_agg, bool2_b, aggEq_nil, aggEq_s, aggEq_i, aggEq_b, aggO_some, fill_nil, fill_cons, Nat.zero_mul, partsF_nil, partsF_cons, repl_one, SK_lookup, SK_mapUpdate, lkN_some, upN_some, ltV_mp, nilCheck_ptr, lookOut_f, lookOut_t, doCall_yl, ofValue_int, ofValue_bool, ev_nilP, ev_nilM, ev_nilF]; refine hK _ _ ?_; clear hK K)
            refine R1.s_block fun K2 q1 q2 q3 q4 => ?_
            repeat refine R1.s_assoc ?_
            refine R1.s_rg fun K hK => ?_
            simp only [SG_nil, SG_cons, SU_yes, gw_n, gOf_n, List.map_cons, List.map_nil, optP_some, vN_val, ldN_some, stN_some, faN_some, iaN_some, Nat.add_one_sub_one, SK_move, SK_alloc, SK_load, SK_store, SK_fieldAddr, SK_indexAddr, evTmp, slot_put, putD_nt, putD_none, slotOk, Nat.blt_eq, Nat.reduceLT, true_and, if_true, if_false, ltV_ptr, nxNew, get_newE, eqLt, eqGt, doLoad_ptr, doStore_ptr, rowOf_arr, ldO_agg, ldO_one, stO_arr, fieldAddr_at, cells_agg, noTup_agg, List.length_cons, List.length_nil, Nat.zero_add, Nat.reduceAdd, Nat.le_refl, List.nil_append, List.append_nil, List.take_zero, List.drop_succ_cons, List.drop_zero, List.drop_nil, List.headD_cons, Nat.lt_add_one, E2_P, t1, t3, hnt, rb, lb, fd_lad_1, ld_units, el_units, ld_unit, sz_unit, zr_unit, indexAddr_cast hlt, hid, hgr, hx1.all, hx1.le, prC]
            refine hK _ _ ?_
            clear hK K
            refine R1.gen (fun A4 H4 => Gr H3 H4 ∧ H3.nx < H4.nx ∧ H4.get H3.nx = some (.arr (prC x) 140 0 0) ∧ slot A4.tm 1 = .one (.o (.ptr H.nx 0 0 2)) ∧ slot A4.tm 3 = .one (.i .i64 (i : Int)) ∧ slot A4.tm 4 = .one (.o (.ptr H3.nx 0 0 2)) ∧ A4.nt = 77 ∧ A4.dfr = [])
              ⟨((Fr.refl _).new _).mod _ (.inl (Nat.le_refl _)), ?_⟩ ?_
            · simp only [slot_put, putD_nt, putD_dfr, Nat.reduceLT, and_true, if_true, if_false, nxNew, nxMod, get_modE, eqLt, Nat.lt_add_one, t1, t3, hnt, hdf, prC]
            clear t1 t3 hnt hdf A
            rintro A H4 ⟨g4, lx, rx, t1, t3, t4, hnt, hdf⟩
            have rb : H4.get H.nx = some (.arr [.o (.str n), .o (.sl id g off us.length 2)] 78 0 0) := by rw [g4.get _ lb not_false]; exact rb
            have lb : H.nx < H4.nx := Nat.lt_of_lt_of_le lb g4.nx
            repeat refine R1.s_assoc ?_
            refine R1.s_rg fun K hK => ?_
            simp only [SG_cons, SU_yes, gw_n, gOf_n, gOf_some, List.map_cons, List.map_nil, List.getElem?_cons_zero, List.getElem?_cons_succ, Option.elim_some, vN_val, ldN_some, faN_some, SK_load, SK_fieldAddr, SK_call, doCall_clo, doCall_clo, evTmp, ev_func, evs_cons, evs_nil, slot_put, putD_nt, slotOk, Nat.blt_eq, Nat.reduceLT, Nat.reduceLeDiff, true_and, if_true, if_false, ltV_ptr, eqGt, doLoad_ptr, rowOf_arr, ldO_one, fieldAddr_at, Nat.reduceLeDiff, List.length_cons, List.length_nil, Nat.zero_add, Nat.add_zero, Nat.reduceAdd, Nat.reduceSub, Nat.le_refl, capArgs_nil, List.append_nil, List.drop_zero, List.headD_cons, Nat.lt_add_one, E2_P, t4, hnt, rx, lx, fd_unit_0, ld_str, prC, bd_refName]
            refine WE.con (refName_con H4 x.1) fun w H5 g5 hw => ?_
            subst hw
            have rb : H5.get H.nx = some (.arr [.o (.str n), .o (.sl id g off us.length 2)] 78 0 0) := by rw [g5.get _ lb not_false]; exact rb
            have lb : H.nx < H5.nx := Nat.lt_of_lt_of_le lb g5.nx
            have rx : H5.get H3.nx = some (.arr (prC x) 140 0 0) := by rw [g5.get _ lx not_false]; exact rx
            have lx : H3.nx < H5.nx := Nat.lt_of_lt_of_le lx g5.nx
            have g25 : Gr H2 H5 := (g3.gr g4).gr g5
            cases hnx : nmB x.1 with
            | false =>
              simp only [SG_nil, SG_cons, SU_yes, SU_no, gw_n, gw_gwv, gwv_b, gwv_u, boolE_b, vN_val, pkN_b, SK_move, SK_pick, SK_not, evTmp, ev_bool, slot_put, putD_nt, slotOk, Nat.blt_eq, Nat.reduceLT, true_and, if_true, if_false, Bool.true_eq_false, eqLt, eqGt, Bool.not_false, Nat.lt_add_one, E2_P, hnt]
              refine hK _ _ ?_
              clear hK K
              repeat refine R1.s_assoc ?_
              (first | refine R1.s_cnd fun Kx Ky hx hy => ?_ | refine R1.e_cnd fun Kx Ky hx hy => ?_); simp only [boolP'_b, evTmp, slot_put, Nat.reduceLT, if_true, if_false, eqGt, Nat.lt_add_one]
              refine hx ?_
              clear hx hy Kx Ky
              repeat' first | refine R1.ret ?_ | refine R1.exit ?_ | refine R1.skip ?_ | refine R1.s_ret ?_ | refine R1.s_exit ?_ | refine R1.s_assoc ?_ | refine R1.s_skip ?_ | refine R1.s_scope ?_ | ((first | refine R1.e_rg fun K hK => ?_ | refine R1.s_rg fun K hK => ?_ | refine R1.e_sq (by kernel_rfl) fun K hK => ?_ | refine R1.s_sq (by kernel_rfl) fun K hK => ?_); simp only [SG_nil, SG_cons, SU_yes, gw_n, gOf_n, List.map_cons, List.map_nil, SK_assign, ev_int, putD_nt, slotOk, Nat.blt_eq, Nat.reduceLT, true_and, hnt]; refine hK _ _ ?_; clear hK K)
              exact q4 _ _ (k4 _ _ (fin 10 _ _ (by simp only [slot_put, Nat.reduceEqDiff, reduceIte]) (by simp only [putD_dfr, hdf]) (g2'.gr g25) (by rw [refLad_no ex (by unfold refU; rw [hnx]; rfl)])))
            | true =>
              have hu5 := hu2.gr g25
              simp only [SG_cons, SU_yes, gw_n, gw_gwv, gwv_b, boolE_b, vN_val, ldN_some, faN_some, SK_move, SK_load, SK_not, SK_fieldAddr, SK_call, doCall_clo, doCall_clo, evTmp, ev_func, evs_cons, evs_nil, slot_put, putD_nt, slotOk, Nat.blt_eq, Nat.reduceLT, Nat.reduceLeDiff, true_and, if_true, if_false, ltV_ptr, eqLt, eqGt, doLoad_ptr, rowOf_arr, ldO_agg, ldO_one, fieldAddr_at, Nat.reduceLeDiff, List.length_cons, List.length_nil, Nat.zero_add, Nat.add_zero, Nat.reduceAdd, Nat.reduceSub, Nat.le_refl, capArgs_nil, List.append_nil, List.take_succ_cons, List.drop_zero, List.take_nil, List.headD_cons, Bool.not_true, Nat.lt_add_one, E2_P, t1, t4, hnt, rx, lx, rb, lb, fd_unit_0, ld_str, prC, ld_lad, bd_signAt]
              refine WE.con (signAt_con H5 n _ us x.1 hu5 (by omega)) fun w H6 g6 hw => ?_
              subst hw
              have rx : H6.get H3.nx = some (.arr (prC x) 140 0 0) := by rw [g6.get _ lx not_false]; exact rx
              have lx : H3.nx < H6.nx := Nat.lt_of_lt_of_le lx g6.nx
              have g26 := g25.gr g6
              by_cases hix : idxU 0 us x.1 = (i : Int)
              · have cix : (idxU 0 us x.1 == (i : Int)) = true := by rw [beq_iff_eq]; exact hix
                by_cases hi0 : i = 0
                · have ci0 : ((i : Int) == 0) = true := by rw [beq_iff_eq]; omega
                  have ci1 : (0 < (i : Int)) = False := eq_false (by omega)
                  cases hf1 : (x.2 == 1) with
                  | false =>
                    simp only [SG_nil, SG_cons, SU_yes, SU_no, gw_n, gw_gwv, gwv_b, gwv_u, vN_val, ldN_some, faN_some, pkN_b, Nat.add_one_sub_one, SK_move, SK_pick, SK_load, SK_bin, SK_fieldAddr, evTmp, ev_int, ev_bool, slot_put, putD_nt, slotOk, Nat.blt_eq, Nat.reduceLT, true_and, if_true, if_false, Bool.false_eq_true, Bool.true_eq_false, ltV_ptr, eqLt, eqGt, doLoad_ptr, rowOf_arr, ldO_one, fieldAddr_at, List.length_cons, List.length_nil, Nat.zero_add, Nat.reduceAdd, Nat.le_refl, ii_eql, ii_neq, List.drop_succ_cons, List.drop_zero, List.headD_cons, Bool.not_true, Bool.not_false, Nat.lt_add_one, E2_P, t3, t4, hnt, rx, lx, fd_unit_1, ld_int, prC, cix, ci0, hf1]
                    refine hK _ _ ?_
                    clear hK K
                    repeat refine R1.s_assoc ?_
                    (first | refine R1.s_cnd fun Kx Ky hx hy => ?_ | refine R1.e_cnd fun Kx Ky hx hy => ?_); simp only [boolP'_b, evTmp, slot_put, Nat.reduceLT, if_true, if_false, eqGt, Nat.lt_add_one]
                    refine hx ?_
                    clear hx hy Kx Ky
                    repeat' first | refine R1.ret ?_ | refine R1.exit ?_ | refine R1.skip ?_ | refine R1.s_ret ?_ | refine R1.s_exit ?_ | refine R1.s_assoc ?_ | refine R1.s_skip ?_ | refine R1.s_scope ?_ | ((first | refine R1.e_rg fun K hK => ?_ | refine R1.s_rg fun K hK => ?_ | refine R1.e_sq (by kernel_rfl) fun K hK => ?_ | refine R1.s_sq (by kernel_rfl) fun K hK => ?_); simp only [SG_nil, SG_cons, SU_yes, gw_n, gOf_n, List.map_cons, List.map_nil, SK_assign, ev_int, putD_nt, slotOk, Nat.blt_eq, Nat.reduceLT, true_and, hnt]; refine hK _ _ ?_; clear hK K)
                    exact q4 _ _ (k4 _ _ (fin 10 _ _ (by simp only [slot_put, Nat.reduceEqDiff, reduceIte]) (by simp only [putD_dfr, hdf]) (g2'.gr g26) (by rw [refLad_no ex (by unfold refU; rw [if_pos hi0, hf1, Bool.and_false, Bool.and_false])])))
                  | true =>
                    have hok : refU us i x = true := by unfold refU; rw [hnx, decide_eq_true hix, if_pos hi0, hf1]; rfl
                    simp only [SG_nil, SG_cons, SU_yes, SU_no, gw_n, gw_gwv, gwv_b, gwv_u, decide_false, vN_val, ldN_some, faN_some, pkN_b, Nat.add_one_sub_one, SK_move, SK_pick, SK_load, SK_bin, SK_fieldAddr, evTmp, ev_int, ev_bool, slot_put, putD_nt, slotOk, Nat.blt_eq, Nat.reduceLT, true_and, if_true, if_false, Bool.false_eq_true, ltV_ptr, eqLt, eqGt, doLoad_ptr, rowOf_arr, ldO_one, fieldAddr_at, List.length_cons, List.length_nil, Nat.zero_add, Nat.reduceAdd, Nat.le_refl, ii_gtr, ii_eql, ii_neq, List.drop_succ_cons, List.drop_zero, List.headD_cons, Bool.not_true, Nat.lt_add_one, E2_P, t3, t4, hnt, rx, lx, fd_unit_1, ld_int, prC, cix, ci0, hf1, ci1]
                    refine hK _ _ ?_
                    clear hK K
                    repeat refine R1.s_assoc ?_
                    (first | refine R1.s_cnd fun Kx Ky hx hy => ?_ | refine R1.e_cnd fun Kx Ky hx hy => ?_); simp only [boolP'_b, evTmp, slot_put, Nat.reduceLT, if_true, if_false, Bool.false_eq_true, eqGt, Nat.lt_add_one]
                    refine hy ?_
                    clear hx hy Kx Ky
                    repeat' first | refine R1.ret ?_ | refine R1.exit ?_ | refine R1.skip ?_ | refine R1.s_ret ?_ | refine R1.s_exit ?_ | refine R1.s_assoc ?_ | refine R1.s_skip ?_ | refine R1.s_scope ?_ | ((first | refine R1.e_rg fun K hK => ?_ | refine R1.s_rg fun K hK => ?_ | refine R1.e_sq (by kernel_rfl) fun K hK => ?_ | refine R1.s_sq (by kernel_rfl) fun K hK => ?_); simp only [SG_nil, SG_cons, SU_yes, SU_no, gw_n, gw_gwv, gwv_b, gwv_u, gOf_n, gOf_some, List.map_cons, List.map_nil, List.getElem?_cons_zero, List.getElem?_cons_succ, Option.elim_some, Option.map_some, Option.bind_some, optP_some, boolP_b, boolP'_b, boolE_b, decide_eq_true_eq, decide_true, decide_false, valP_val, valP_guard, vN_val, ldN_some, stN_some, faN_some, iaN_some, lnN_some, pkN_b, sliceO_some, slice_lo, slice_hi, slice_1, indexAddr_0, Nat.add_one_sub_one, Nat.one_mul, len_sl, len_ns, len_str', posS, eq0S, cast0, Int.reduceLT, Int.reduceLE, Int.reduceBEq, Option.map_none, Nat.lt_add_left_iff_pos, Nat.zero_lt_succ, Nat.le_add_left, SK_move, SK_assign, SK_pick, SK_alloc, SK_box, SK_load, SK_store, SK_bin, SK_not, SK_fieldAddr, SK_field, SK_indexAddr, SK_slice, SK_extract, SK_nilCheck, SK_makeFunc, SK_makeMap, SK_makeSlice, SK_build, SK_buildSlice, SK_len, SK_append, SK_call, doCall_clo, doCall_clo, evTmp, ev_int, ev_bool, ev_str, ev_nilS, ev_func, opFev, evs_cons, evs_nil, slot_put, putD_nt, putD_none, putD_dfr, slotOk, Nat.blt_eq, Nat.reduceLT, Nat.reduceEqDiff, Nat.reduceLeDiff, reduceIte, true_and, and_true, true_or, or_true, if_true, if_false, Bool.false_eq_true, Bool.true_eq_false, not_false_eq_true, not_true_eq_false, ltV_ptr, ltV_sl, ltV_nil, ltV_str, ltV_i, nxNew, nxMod, get_newE, get_newL, get_modE, get_modN, ltAdd, ltSelf, eqLt, eqGt, eqLtA, eqGtA, eqSelfA, eqASelf, eqAA, ltAA, doLoad_ptr, doStore_ptr, rowOf_arr, rowOf_ro, ldO_agg, ldO_one, stO_arr, splice_eq, fieldAddr_at, Bool.not_eq_true', Bool.not_eq_false', decide_eq_false_iff_not, ne_eq, Nat.reduceLeDiff, Nat.lt_irrefl, gt_iff_lt, cells_one, cells_agg, noTup_one, noTup_agg, List.length_cons, List.length_nil, Nat.zero_add, Nat.add_zero, Nat.reduceAdd, Nat.reduceSub, Nat.reduceMul, Nat.le_refl, Nat.zero_le, capsOf_nil, capsOf_cons, capArgs_nil, capArgs_cons, List.cons_append, List.nil_append, List.append_nil, ex_0, ex_0a, ex_1, ex_1a, ex_2, ex_2a, ii_lss, ii_leq, ii_gtr, ii_geq, ii_eql, ii_neq, ii_add, ii_sub, ii_mul, ss_lss, ss_geq, ss_leq, ss_gtr, ss_eql, ss_neq, List.take_succ_cons, List.take_zero, List.drop_succ_cons, List.drop_zero, List.take_nil, List.drop_nil, List.headD_cons, Bool.not_true, Bool.not_false, Nat.lt_add_one, bin_agg, bin_b, agg2_agg, bool2_b, aggEq_nil, aggEq_s, aggEq_i, aggEq_b, aggO_some, fill_nil, fill_cons, Nat.zero_mul, partsF_nil, partsF_cons, repl_one, SK_lookup, SK_mapUpdate, lkN_some, upN_some, ltV_mp, nilCheck_ptr, lookOut_f, lookOut_t, doCall_yl, ofValue_int, ofValue_bool, ev_nilP, ev_nilM, ev_nilF, hnt]; refine hK _ _ ?_; clear hK K)
                    refine q1 _ _ ?_
                    repeat' first | refine R1.ret ?_ | refine R1.exit ?_ | refine R1.skip ?_ | refine R1.s_ret ?_ | refine R1.s_exit ?_ | refine R1.s_assoc ?_ | refine R1.s_skip ?_ | refine R1.s_scope ?_ | ((first | refine R1.e_rg fun K hK => ?_ | refine R1.s_rg fun K hK => ?_ | refine R1.e_sq (by kernel_rfl) fun K hK => ?_ | refine R1.s_sq (by kernel_rfl) fun K hK => ?_); simp only [SG_nil, SG_cons, SU_yes, gw_n, gOf_n, List.map_cons, List.map_nil, vN_val, SK_move, SK_assign, SK_bin, evTmp, ev_int, slot_put, putD_nt, slotOk, Nat.blt_eq, Nat.reduceLT, true_and, if_true, if_false, eqLt, eqGt, ii_add, Nat.lt_add_one, hnt, t3, hw2]; refine hK _ _ ?_; clear hK K)
                    refine ⟨us.length - (i + 1), by omega, i + 1, rfl, hlt, g26, fun j hj => ?_, ?_, ?_, ?_, ?_⟩
                    · rcases Nat.lt_or_ge j i with h | h
                      · exact hall j h
                      · have : j = i := by omega
                        subst this
                        rw [List.getD_eq_getElem?_getD, ex]; exact hok
                    · simp only [slot_put, Nat.reduceEqDiff, reduceIte, t1]
                    · simp only [slot_put, Nat.reduceEqDiff, reduceIte]
                    · simp only [putD_nt, hnt]
                    · simp only [putD_dfr, hdf]
                · have ci0 : ((i : Int) == 0) = false := beq_false_of_ne (by omega)
                  have ci1 : (0 < (i : Int)) = True := eq_true (by omega)
                  by_cases hf2 : x.2 < 2
                  · have cf2 : (x.2 < 2) = True := eq_true hf2
                    simp only [SG_nil, SG_cons, SU_yes, SU_no, gw_n, gw_gwv, gwv_b, decide_true, vN_val, ldN_some, faN_some, pkN_b, Nat.add_one_sub_one, SK_move, SK_pick, SK_load, SK_bin, SK_fieldAddr, evTmp, ev_int, ev_bool, slot_put, putD_nt, slotOk, Nat.blt_eq, Nat.reduceLT, true_and, if_true, if_false, Bool.false_eq_true, Bool.true_eq_false, ltV_ptr, eqLt, eqGt, doLoad_ptr, rowOf_arr, ldO_one, fieldAddr_at, List.length_cons, List.length_nil, Nat.zero_add, Nat.reduceAdd, Nat.le_refl, ii_lss, ii_gtr, ii_eql, ii_neq, List.drop_succ_cons, List.drop_zero, List.headD_cons, Bool.not_true, Nat.lt_add_one, E2_P, t3, t4, hnt, rx, lx, fd_unit_1, ld_int, prC, cix, ci0, ci1, cf2]
                    refine hK _ _ ?_
                    clear hK K
                    repeat refine R1.s_assoc ?_
                    (first | refine R1.s_cnd fun Kx Ky hx hy => ?_ | refine R1.e_cnd fun Kx Ky hx hy => ?_); simp only [boolP'_b, evTmp, slot_put, Nat.reduceLT, if_true, if_false, eqGt, Nat.lt_add_one]
                    refine hx ?_
                    clear hx hy Kx Ky
                    repeat' first | refine R1.ret ?_ | refine R1.exit ?_ | refine R1.skip ?_ | refine R1.s_ret ?_ | refine R1.s_exit ?_ | refine R1.s_assoc ?_ | refine R1.s_skip ?_ | refine R1.s_scope ?_ | ((first | refine R1.e_rg fun K hK => ?_ | refine R1.s_rg fun K hK => ?_ | refine R1.e_sq (by kernel_rfl) fun K hK => ?_ | refine R1.s_sq (by kernel_rfl) fun K hK => ?_); simp only [SG_nil, SG_cons, SU_yes, gw_n, gOf_n, List.map_cons, List.map_nil, SK_assign, ev_int, putD_nt, slotOk, Nat.blt_eq, Nat.reduceLT, true_and, hnt]; refine hK _ _ ?_; clear hK K)
                    exact q4 _ _ (k4 _ _ (fin 10 _ _ (by simp only [slot_put, Nat.reduceEqDiff, reduceIte]) (by simp only [putD_dfr, hdf]) (g2'.gr g26) (by rw [refLad_no ex (by unfold refU; rw [if_neg hi0, decide_eq_false (by omega : ¬ 2 ≤ x.2), Bool.false_and, Bool.and_false, Bool.and_false])])))
                  · have cf2 : (x.2 < 2) = False := eq_false hf2
                    by_cases hf60 : 60 < x.2
                    · have cf60 : (60 < x.2) = True := eq_true hf60
                      simp only [SG_nil, SG_cons, SU_yes, SU_no, gw_n, gw_gwv, gwv_b, decide_true, decide_false, vN_val, ldN_some, faN_some, pkN_b, Nat.add_one_sub_one, SK_move, SK_pick, SK_load, SK_bin, SK_fieldAddr, evTmp, ev_int, ev_bool, slot_put, putD_nt, slotOk, Nat.blt_eq, Nat.reduceLT, true_and, if_true, if_false, Bool.false_eq_true, ltV_ptr, eqLt, eqGt, doLoad_ptr, rowOf_arr, ldO_one, fieldAddr_at, List.length_cons, List.length_nil, Nat.zero_add, Nat.reduceAdd, Nat.le_refl, ii_lss, ii_gtr, ii_eql, ii_neq, List.drop_succ_cons, List.drop_zero, List.headD_cons, Bool.not_true, Nat.lt_add_one, E2_P, t3, t4, hnt, rx, lx, fd_unit_1, ld_int, prC, cix, ci0, ci1, cf2, cf60]
                      refine hK _ _ ?_
                      clear hK K
                      repeat refine R1.s_assoc ?_
                      (first | refine R1.s_cnd fun Kx Ky hx hy => ?_ | refine R1.e_cnd fun Kx Ky hx hy => ?_); simp only [boolP'_b, evTmp, slot_put, Nat.reduceLT, if_true, if_false, eqGt, Nat.lt_add_one]
                      refine hx ?_
                      clear hx hy Kx Ky
                      repeat' first | refine R1.ret ?_ | refine R1.exit ?_ | refine R1.skip ?_ | refine R1.s_ret ?_ | refine R1.s_exit ?_ | refine R1.s_assoc ?_ | refine R1.s_skip ?_ | refine R1.s_scope ?_ | ((first | refine R1.e_rg fun K hK => ?_ | refine R1.s_rg fun K hK => ?_ | refine R1.e_sq (by kernel_rfl) fun K hK => ?_ | refine R1.s_sq (by kernel_rfl) fun K hK => ?_); simp only [SG_nil, SG_cons, SU_yes, gw_n, gOf_n, List.map_cons, List.map_nil, SK_assign, ev_int, putD_nt, slotOk, Nat.blt_eq, Nat.reduceLT, true_and, hnt]; refine hK _ _ ?_; clear hK K)
                      exact q4 _ _ (k4 _ _ (fin 10 _ _ (by simp only [slot_put, Nat.reduceEqDiff, reduceIte]) (by simp only [putD_dfr, hdf]) (g2'.gr g26) (by rw [refLad_no ex (by unfold refU; rw [if_neg hi0, decide_eq_false (by omega : ¬ x.2 ≤ 60), Bool.and_false, Bool.and_false, Bool.and_false])])))
                    · have cf60 : (60 < x.2) = False := eq_false hf60
                      have hok : refU us i x = true := by unfold refU; rw [hnx, decide_eq_true hix, if_neg hi0, decide_eq_true (by omega : 2 ≤ x.2), decide_eq_true (by omega : x.2 ≤ 60)]; rfl
                      simp only [SG_nil, SG_cons, SU_yes, SU_no, gw_n, gw_gwv, gwv_b, decide_true, decide_false, vN_val, ldN_some, faN_some, pkN_b, Nat.add_one_sub_one, SK_move, SK_pick, SK_load, SK_bin, SK_fieldAddr, evTmp, ev_int, ev_bool, slot_put, putD_nt, slotOk, Nat.blt_eq, Nat.reduceLT, true_and, if_true, if_false, Bool.false_eq_true, ltV_ptr, eqLt, eqGt, doLoad_ptr, rowOf_arr, ldO_one, fieldAddr_at, List.length_cons, List.length_nil, Nat.zero_add, Nat.reduceAdd, Nat.le_refl, ii_lss, ii_gtr, ii_eql, ii_neq, List.drop_succ_cons, List.drop_zero, List.headD_cons, Bool.not_true, Nat.lt_add_one, E2_P, t3, t4, hnt, rx, lx, fd_unit_1, ld_int, prC, cix, ci0, ci1, cf2, cf60]
                      refine hK _ _ ?_
                      clear hK K
                      repeat refine R1.s_assoc ?_
                      (first | refine R1.s_cnd fun Kx Ky hx hy => ?_ | refine R1.e_cnd fun Kx Ky hx hy => ?_); simp only [boolP'_b, evTmp, slot_put, Nat.reduceLT, if_true, if_false, Bool.false_eq_true, eqGt, Nat.lt_add_one]
                      refine hy ?_
                      clear hx hy Kx Ky
                      repeat' first | refine R1.ret ?_ | refine R1.exit ?_ | refine R1.skip ?_ | refine R1.s_ret ?_ | refine R1.s_exit ?_ | refine R1.s_assoc ?_ | refine R1.s_skip ?_ | refine R1.s_scope ?_ | ((first | refine R1.e_rg fun K hK => ?_ | refine R1.s_rg fun K hK => ?_ | refine R1.e_sq (by kernel_rfl) fun K hK => ?_ | refine R1.s_sq (by kernel_rfl) fun K hK => ?_); simp only [SG_nil, SG_cons, SU_yes, SU_no, gw_n, gw_gwv, gwv_b, gwv_u, gOf_n, gOf_some, List.map_cons, List.map_nil, List.getElem?_cons_zero, List.getElem?_cons_succ, Option.elim_some, Option.map_some, Option.bind_some, optP_some, boolP_b, boolP'_b, boolE_b, decide_eq_true_eq, decide_true, decide_false, valP_val, valP_guard, vN_val, ldN_some, stN_some, faN_some, iaN_some, lnN_some, pkN_b, sliceO_some, slice_lo, slice_hi, slice_1, indexAddr_0, Nat.add_one_sub_one, Nat.one_mul, len_sl, len_ns, len_str', posS, eq0S, cast0, Int.reduceLT, Int.reduceLE, Int.reduceBEq, Option.map_none, Nat.lt_add_left_iff_pos, Nat.zero_lt_succ, Nat.le_add_left, SK_move, SK_assign, SK_pick, SK_alloc, SK_box, SK_load, SK_store, SK_bin, SK_not, SK_fieldAddr, SK_field, SK_indexAddr, SK_slice, SK_extract, SK_nilCheck, SK_makeFunc, SK_makeMap, SK_makeSlice, SK_build, SK_buildSlice, SK_len, SK_append, SK_call, doCall_clo, doCall_clo, evTmp, ev_int, ev_bool, ev_str, ev_nilS, ev_func, opFev, evs_cons, evs_nil, slot_put, putD_nt, putD_none, putD_dfr, slotOk, Nat.blt_eq, Nat.reduceLT, Nat.reduceEqDiff, Nat.reduceLeDiff, reduceIte, true_and, and_true, true_or, or_true, if_true, if_false, Bool.false_eq_true, Bool.true_eq_false, not_false_eq_true, not_true_eq_false, ltV_ptr, ltV_sl, ltV_nil, ltV_str, ltV_i, nxNew, nxMod, get_newE, get_newL, get_modE, get_modN, ltAdd, ltSelf, eqLt, eqGt, eqLtA, eqGtA, eqSelfA, eqASelf, eqAA, ltAA, doLoad_ptr, doStore_ptr, rowOf_arr, rowOf_ro, ldO_agg, ldO_one, stO_arr, splice_eq, fieldAddr_at, Bool.not_eq_true', Bool.not_eq_false', decide_eq_false_iff_not, ne_eq, Nat.reduceLeDiff, Nat.lt_irrefl, gt_iff_lt, cells_one, cells_agg, noTup_one, noTup_agg, List.length_cons, List.length_nil, Nat.zero_add, Nat.add_zero, Nat.reduceAdd, Nat.reduceSub, Nat.reduceMul, Nat.le_refl, Nat.zero_le, capsOf_nil, capsOf_cons, capArgs_nil, capArgs_cons, List.cons_append, List.nil_append, List.append_nil, ex_0, ex_0a, ex_1, ex_1a, ex_2, ex_2a, ii_lss, ii_leq, ii_gtr, ii_geq, ii_eql, ii_neq, ii_add, ii_sub, ii_mul, ss_lss, ss_geq, ss_leq, ss_gtr, ss_eql, ss_neq, List.take_succ_cons, List.take_zero, List.drop_succ_cons, List.drop_zero, List.take_nil, List.drop_nil, List.headD_cons, Bool.not_true, Bool.not_false, Nat.lt_add_one, bin_agg, bin_b, agg2_agg, bool2_b, aggEq_nil, aggEq_s, aggEq_i, aggEq_b, aggO_some, fill_nil, fill_cons, Nat.zero_mul, partsF_nil, partsF_cons, repl_one, SK_lookup, SK_mapUpdate, lkN_some, upN_some, ltV_mp, nilCheck_ptr, lookOut_f, lookOut_t, doCall_yl, ofValue_int, ofValue_bool, ev_nilP, ev_nilM, ev_nilF, hnt]; refine hK _ _ ?_; clear hK K)
                      refine q1 _ _ ?_
                      repeat' first | refine R1.ret ?_ | refine R1.exit ?_ | refine R1.skip ?_ | refine R1.s_ret ?_ | refine R1.s_exit ?_ | refine R1.s_assoc ?_ | refine R1.s_skip ?_ | refine R1.s_scope ?_ | ((first | refine R1.e_rg fun K hK => ?_ | refine R1.s_rg fun K hK => ?_ | refine R1.e_sq (by kernel_rfl) fun K hK => ?_ | refine R1.s_sq (by kernel_rfl) fun K hK => ?_); simp only [SG_nil, SG_cons, SU_yes, gw_n, gOf_n, List.map_cons, List.map_nil, vN_val, SK_move, SK_assign, SK_bin, evTmp, ev_int, slot_put, putD_nt, slotOk, Nat.blt_eq, Nat.reduceLT, true_and, if_true, if_false, eqLt, eqGt, ii_add, Nat.lt_add_one, hnt, t3, hw2]; refine hK _ _ ?_; clear hK K)
                      refine ⟨us.length - (i + 1), by omega, i + 1, rfl, hlt, g26, fun j hj => ?_, ?_, ?_, ?_, ?_⟩
                      · rcases Nat.lt_or_ge j i with h | h
                        · exact hall j h
                        · have : j = i := by omega
                          subst this
                          rw [List.getD_eq_getElem?_getD, ex]; exact hok
                      · simp only [slot_put, Nat.reduceEqDiff, reduceIte, t1]
                      · simp only [slot_put, Nat.reduceEqDiff, reduceIte]
                      · simp only [putD_nt, hnt]
                      · simp only [putD_dfr, hdf]
              · have cix : (idxU 0 us x.1 == (i : Int)) = false := beq_false_of_ne hix
                simp only [SG_nil, SG_cons, SU_yes, SU_no, gw_n, gw_gwv, gwv_b, gwv_u, vN_val, pkN_b, SK_move, SK_pick, SK_bin, evTmp, ev_bool, slot_put, putD_nt, slotOk, Nat.blt_eq, Nat.reduceLT, true_and, if_true, if_false, Bool.false_eq_true, Bool.true_eq_false, eqLt, eqGt, ii_neq, Bool.not_false, Nat.lt_add_one, E2_P, t3, hnt, cix]
                refine hK _ _ ?_
                clear hK K
                repeat refine R1.s_assoc ?_
                (first | refine R1.s_cnd fun Kx Ky hx hy => ?_ | refine R1.e_cnd fun Kx Ky hx hy => ?_); simp only [boolP'_b, evTmp, slot_put, Nat.reduceLT, if_true, if_false, eqGt, Nat.lt_add_one]
                refine hx ?_
                clear hx hy Kx Ky
                repeat' first | refine R1.ret ?_ | refine R1.exit ?_ | refine R1.skip ?_ | refine R1.s_ret ?_ | refine R1.s_exit ?_ | refine R1.s_assoc ?_ | refine R1.s_skip ?_ | refine R1.s_scope ?_ | ((first | refine R1.e_rg fun K hK => ?_ | refine R1.s_rg fun K hK => ?_ | refine R1.e_sq (by kernel_rfl) fun K hK => ?_ | refine R1.s_sq (by kernel_rfl) fun K hK => ?_); simp only [SG_nil, SG_cons, SU_yes, gw_n, gOf_n, List.map_cons, List.map_nil, SK_assign, ev_int, putD_nt, slotOk, Nat.blt_eq, Nat.reduceLT, true_and, hnt]; refine hK _ _ ?_; clear hK K)
                exact q4 _ _ (k4 _ _ (fin 10 _ _ (by simp only [slot_put, Nat.reduceEqDiff, reduceIte]) (by simp only [putD_dfr, hdf]) (g2'.gr g26) (by rw [refLad_no ex (by unfold refU; rw [decide_eq_false hix, Bool.false_and, Bool.and_false])])))
          · clear hx hy Kx Ky
            have hie : i = us.length := by omega
            have hall' : ((List.range us.length).all fun i => refU us i (us.getD i ([], 0))) = true := List.all_eq_true.2 fun j hj => hall j (by have := List.mem_range.1 hj; omega)
            have fac : ∀ x ∈ us, 1 ≤ x.2 ∧ x.2 ≤ 60 := fun x hx => by
              obtain ⟨j, hj, rfl⟩ := List.getElem_of_mem hx
              have := hall j (by omega)
              rw [List.getD_eq_getElem?_getD, List.getElem?_eq_getElem hj] at this
              unfold refU at this
              simp only [Option.getD_some, Bool.and_eq_true] at this
              have h6 := this.2.2
              split at h6
              · have := eq_of_beq h6; omega
              · simp only [Bool.and_eq_true, decide_eq_true_eq] at h6; omega
            repeat' first | refine R1.ret ?_ | refine R1.exit ?_ | refine R1.skip ?_ | refine R1.s_ret ?_ | refine R1.s_exit ?_ | refine R1.s_assoc ?_ | refine R1.s_skip ?_ | refine R1.s_scope ?_ | ((first | refine R1.e_rg fun K hK => ?_ | refine R1.s_rg fun K hK => ?_ | refine R1.e_sq (by kernel_rfl) fun K hK => ?_ | refine R1.s_sq (by kernel_rfl) fun K hK => ?_); simp only [SG_nil, SG_cons, SU_yes, SU_no, gw_n, gw_gwv, gwv_b, gwv_u, gOf_n, gOf_some, List.map_cons, List.map_nil, List.getElem?_cons_zero, List.getElem?_cons_succ, Option.elim_some, Option.map_some, Option.bind_some, optP_some, boolP_b, boolP'_b, boolE_b, decide_eq_true_eq, decide_true, decide_false, valP_val, valP_guard, vN_val, ldN_some, stN_some, faN_some, iaN_some, lnN_some, pkN_b, sliceO_some, slice_lo, slice_hi, slice_1, indexAddr_0, Nat.add_one_sub_one, Nat.one_mul, len_sl, len_ns, len_str', posS, eq0S, cast0, Int.reduceLT, Int.reduceLE, Int.reduceBEq, Option.map_none, Nat.lt_add_left_iff_pos, Nat.zero_lt_succ, Nat.le_add_left, SK_move, SK_assign, SK_pick, SK_alloc, SK_box, SK_load, SK_store, SK_bin, SK_not, SK_fieldAddr, SK_field, SK_indexAddr, SK_slice, SK_extract, SK_nilCheck, SK_makeFunc, SK_makeMap, SK_makeSlice, SK_build, SK_buildSlice, SK_len, SK_append, SK_call, doCall_clo, doCall_clo, evTmp, ev_int, ev_bool, ev_str, ev_nilS, ev_func, opFev, evs_cons, evs_nil, slot_put, putD_nt, putD_none, putD_dfr, slotOk, Nat.blt_eq, Nat.reduceLT, Nat.reduceEqDiff, Nat.reduceLeDiff, reduceIte, true_and, and_true, true_or, or_true, if_true, if_false, Bool.false_eq_true, Bool.true_eq_false, not_false_eq_true, not_true_eq_false, ltV_ptr, ltV_sl, ltV_nil, ltV_str, ltV_i, nxNew, nxMod, get_newE, get_newL, get_modE, get_modN, ltAdd, ltSelf, eqLt, eqGt, eqLtA, eqGtA, eqSelfA, eqASelf, eqAA, ltAA, doLoad_ptr, doStore_ptr, rowOf_arr, rowOf_ro, ldO_agg, ldO_one, stO_arr, splice_eq, fieldAddr_at, Bool.not_eq_true', Bool.not_eq_false', decide_eq_false_iff_not, ne_eq, Nat.reduceLeDiff, Nat.lt_irrefl, gt_iff_lt, cells_one, cells_agg, noTup_one, noTup_agg, List.length_cons, List.length_nil, Nat.zero_add, Nat.add_zero, Nat.reduceAdd, Nat.reduceSub, Nat.reduceMul, Nat.le_refl, Nat.zero_le, capsOf_nil, capsOf_cons, capArgs_nil, capArgs_cons, List.cons_append, List.nil_append, List.append_nil, ex_0, ex_0a, ex_1, ex_1a, ex_2, ex_2a, ii_lss, ii_leq, ii_gtr, ii_geq, ii_eql, ii_neq, ii_add, ii_sub, ii_mul, ss_lss, ss_geq, ss_leq, ss_gtr, ss_eql, ss_neq, List.take_succ_cons, List.take_zero, List.drop_succ_cons, List.drop_zero, List.take_nil, List.drop_nil, List.headD_cons, Bool.not_true, Bool.not_false, Nat.lt_add_one, bin_agg, bin_b, agg2_agg, bool2_b, aggEq_nil, aggEq_s, aggEq_i, aggEq_b, aggO_some, fill_nil, fill_cons, Nat.zero_mul, partsF_nil, partsF_cons, repl_one, SK_lookup, SK_mapUpdate, lkN_some, upN_some, ltV_mp, nilCheck_ptr, lookOut_f, lookOut_t, doCall_yl, ofValue_int, ofValue_bool, ev_nilP, ev_nilM, ev_nilF, hnt]; refine hK _ _ ?_; clear hK K)
            refine k2 _ _ ?_
            repeat refine R1.s_assoc ?_
            refine R1.s_rg fun K hK => ?_
            simp only [SG_cons, SU_yes, gw_n, gOf_n, List.map_cons, List.map_nil, vN_val, ldN_some, SK_load, SK_call, doCall_clo, doCall_clo, evTmp, ev_func, evs_cons, evs_nil, slot_put, putD_nt, slotOk, Nat.blt_eq, Nat.reduceLT, true_and, if_true, if_false, ltV_ptr, eqLt, eqGt, doLoad_ptr, rowOf_arr, ldO_agg, List.length_cons, List.length_nil, Nat.zero_add, Nat.reduceAdd, Nat.le_refl, capArgs_nil, List.append_nil, List.take_succ_cons, List.drop_zero, List.take_nil, E2_P, t1, hnt, rb, lb, ld_lad, bd_values]
            refine WE.con (values_con H3 n u us hu3 (by omega) fac) fun w H5 g5 ⟨c, hw, _⟩ => ?_
            subst hw
            simp only [SG_nil, SG_cons, SU_yes, gw_n, vN_val, SK_move, SK_assign, SK_extract, evTmp, slot_put, putD_nt, slotOk, Nat.blt_eq, Nat.reduceLT, true_and, if_true, if_false, eqLt, eqGt, ex_0, ex_1, Nat.lt_add_one, hnt]
            refine hK _ _ ?_
            clear hK K
            have g5' := (g2'.gr g3).gr g5
            cases hvs : (valsU 1 us).isSome with
            | true =>
              repeat' first | refine R1.ret ?_ | refine R1.exit ?_ | refine R1.skip ?_ | refine R1.s_ret ?_ | refine R1.s_exit ?_ | refine R1.s_assoc ?_ | refine R1.s_skip ?_ | refine R1.s_scope ?_ | ((first | refine R1.e_rg fun K hK => ?_ | refine R1.s_rg fun K hK => ?_ | refine R1.e_sq (by kernel_rfl) fun K hK => ?_ | refine R1.s_sq (by kernel_rfl) fun K hK => ?_); simp only [SG_nil, SG_cons, SU_yes, gw_n, gOf_n, List.map_cons, List.map_nil, boolE_b, vN_val, SK_move, SK_not, evTmp, slot_put, putD_nt, slotOk, Nat.blt_eq, Nat.reduceLT, true_and, if_true, if_false, eqLt, eqGt, Bool.not_true, Nat.lt_add_one, hnt]; refine hK _ _ ?_; clear hK K)
              repeat refine R1.s_assoc ?_
              (first | refine R1.s_cnd fun Kx Ky hx hy => ?_ | refine R1.e_cnd fun Kx Ky hx hy => ?_); simp only [boolP'_b, evTmp, slot_put, Nat.reduceLT, if_true, if_false, Bool.false_eq_true, eqGt, Nat.lt_add_one]
              refine hy ?_
              clear hx hy Kx Ky
              repeat' first | refine R1.ret ?_ | refine R1.exit ?_ | refine R1.skip ?_ | refine R1.s_ret ?_ | refine R1.s_exit ?_ | refine R1.s_assoc ?_ | refine R1.s_skip ?_ | refine R1.s_scope ?_ | ((first | refine R1.e_rg fun K hK => ?_ | refine R1.s_rg fun K hK => ?_ | refine R1.e_sq (by kernel_rfl) fun K hK => ?_ | refine R1.s_sq (by kernel_rfl) fun K hK => ?_); simp only [SG_nil, SG_cons, SU_yes, gw_n, gOf_n, List.map_cons, List.map_nil, SK_assign, ev_int, putD_nt, slotOk, Nat.blt_eq, Nat.reduceLT, true_and, hnt]; refine hK _ _ ?_; clear hK K)
              refine fin 0 _ _ (by simp only [slot_put, Nat.reduceEqDiff, reduceIte]) (by simp only [putD_dfr, hdf]) g5' ?_
              have : refLad n us = true := by
                unfold refLad
                rw [hnm, hall', hvs, decide_eq_true (by omega : 1 ≤ us.length), decide_eq_true (by omega : us.length ≤ 12)]; rfl
              rw [this]; rfl
            | false =>
              repeat' first | refine R1.ret ?_ | refine R1.exit ?_ | refine R1.skip ?_ | refine R1.s_ret ?_ | refine R1.s_exit ?_ | refine R1.s_assoc ?_ | refine R1.s_skip ?_ | refine R1.s_scope ?_ | ((first | refine R1.e_rg fun K hK => ?_ | refine R1.s_rg fun K hK => ?_ | refine R1.e_sq (by kernel_rfl) fun K hK => ?_ | refine R1.s_sq (by kernel_rfl) fun K hK => ?_); simp only [SG_nil, SG_cons, SU_yes, gw_n, gOf_n, List.map_cons, List.map_nil, boolE_b, vN_val, SK_move, SK_not, evTmp, slot_put, putD_nt, slotOk, Nat.blt_eq, Nat.reduceLT, true_and, if_true, if_false, eqLt, eqGt, Bool.not_false, Nat.lt_add_one, hnt]; refine hK _ _ ?_; clear hK K)
              repeat refine R1.s_assoc ?_
              (first | refine R1.s_cnd fun Kx Ky hx hy => ?_ | refine R1.e_cnd fun Kx Ky hx hy => ?_); simp only [boolP'_b, evTmp, slot_put, Nat.reduceLT, if_true, if_false, eqGt, Nat.lt_add_one]
              refine hx ?_
              clear hx hy Kx Ky
              repeat' first | refine R1.ret ?_ | refine R1.exit ?_ | refine R1.skip ?_ | refine R1.s_ret ?_ | refine R1.s_exit ?_ | refine R1.s_assoc ?_ | refine R1.s_skip ?_ | refine R1.s_scope ?_ | ((first | refine R1.e_rg fun K hK => ?_ | refine R1.s_rg fun K hK => ?_ | refine R1.e_sq (by kernel_rfl) fun K hK => ?_ | refine R1.s_sq (by kernel_rfl) fun K hK => ?_); simp only [SG_nil, SG_cons, SU_yes, gw_n, gOf_n, List.map_cons, List.map_nil, SK_assign, ev_int, putD_nt, slotOk, Nat.blt_eq, Nat.reduceLT, true_and, hnt]; refine hK _ _ ?_; clear hK K)
              refine fin 10 _ _ (by simp only [slot_put, Nat.reduceEqDiff, reduceIte]) (by simp only [putD_dfr, hdf]) g5' ?_
              have : refLad n us = false := by
                unfold refLad
                rw [hvs, Bool.and_false]
              rw [this]; rfl
        · simp only [slot_put, Nat.reduceEqDiff, reduceIte, putD_nt, putD_dfr, t1, hnt, hdf, and_self, true_and]
          exact ⟨rfl, trivial⟩
end Go.Proofs.YtiejeicaaojdlaaGreat
