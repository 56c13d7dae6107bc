/- The reference's Scale: what it answers. -/
import Derived.Test.YtndipbefnipnpaaGreatLotsRf2
import Derived.Test.YtndipbefnipnpaaGreatLotsScl
namespace Go.Proofs.YtndipbefnipnpaaGreat
open Go Go.Eng

theorem body21 : hasBody Tryz.prog 21 = true := by kernel_rfl

theorem okS_ref {k x : Int} (h : -1099511627776 ≤ x ∧ x ≤ 1099511627776) (h0 : x ≠ 0) (hk : -1099511627776 ≤ k ∧ k ≤ 1099511627776) (hk0 : k ≠ 0) : okS k x = true ↔ nS k ≤ mS x := by
  rw [okS_iff h h0]
  obtain ⟨_, _, e⟩ := nS_eq hk hk0
  have := (nS_eq hk hk0).1
  omega
theorem okS_big {k x : Int} (h : -1099511627776 ≤ x ∧ x ≤ 1099511627776) (h0 : x ≠ 0) (hk : 1099511627776 < k ∨ k < -1099511627776) : okS k x = false := by
  obtain ⟨_, _, h2, _⟩ := mS_eq h h0
  refine Bool.eq_false_iff.2 fun hh => ?_
  have := (okS_iff h h0).1 hh
  omega

set_option maxRecDepth 10000 in
set_option maxHeartbeats 4000000 in
theorem refScale_con (H : Hp) (l : List Lot) (k : Int) (v : AC) (hl : SlL H v l) :
    Con E2 21 [.one v, .one (.i .i64 k)] H (fun _ => False) fun r H' => ∃ vs, r = .tup [(false, [vs]), (false, [.i .i64 (scaleC l k).2])] ∧ SlL H' vs (scaleC l k).1 := by
  refine Con.of rfl fun lg => ?_
  have hl : SlL ⟨H.t, H.nx, lg⟩ v l := hl
  generalize (⟨H.t, H.nx, lg⟩ : Hp) = H at hl ⊢
  refine C1.body (E := E2) (nt := 67) (res := [.tmp 4, .tmp 5]) Tryz.func21 rfl rfl rfl rfl rfl fun tm hargs => ?_
  have h0 := hargs 0 _ rfl
  have h1 := hargs 1 _ rfl
  clear hargs
  repeat' first | refine R1.ret ?_ | refine R1.exit ?_ | refine R1.skip ?_ | refine R1.s_ret ?_ | refine R1.s_exit ?_ | refine R1.s_assoc ?_ | refine R1.s_skip ?_ | refine R1.s_scope ?_ | ((first | refine R1.e_rg fun K hK => ?_ | refine R1.s_rg fun K hK => ?_ | refine R1.e_sq (by kernel_rfl) fun K hK => ?_ | refine R1.s_sq (by kernel_rfl) fun K hK => ?_); simp only [SG_nil, SG_cons, SU_yes, gw_n, gOf_n, List.map_cons, List.map_nil, Nat.zero_lt_succ, SK_move, SK_assign, SK_call, evTmp, ev_int, ev_nilS, ev_func, evs_cons, evs_nil, slot_put, putD_nt, slotOk, Nat.blt_eq, Nat.reduceLT, true_and, if_true, if_false, eqLt, eqGt, E2_P]; refine hK _ _ ?_; clear hK K)
  refine R1.s_rg fun K hK => ?_
  simp only [SG_cons, SU_yes, gw_n, gOf_n, List.map_cons, List.map_nil, Nat.zero_lt_succ, SK_move, SK_call, doCall_clo, doCall_clo, evTmp, ev_func, evs_cons, evs_nil, slot_put, putD_nt, slotOk, Nat.blt_eq, Nat.reduceLT, true_and, if_true, if_false, eqLt, eqGt, capArgs_nil, List.append_nil, E2_P, h0, body13]
  refine WE.con (refChk_con _ l v hl) fun v2 H2 hf hv => ?_
  subst hv
  simp only [SG_nil, SG_cons, SU_yes, gw_n, SK_assign, evTmp, slot_put, putD_nt, slotOk, Nat.blt_eq, Nat.reduceLT, true_and, if_true, if_false, eqGt, Nat.lt_add_one]
  refine hK _ _ ?_
  clear hK K
  have hl2 := hl.gr hf
  repeat' first | refine R1.ret ?_ | refine R1.exit ?_ | refine R1.skip ?_ | refine R1.s_ret ?_ | refine R1.s_exit ?_ | refine R1.s_assoc ?_ | refine R1.s_skip ?_ | refine R1.s_scope ?_ | ((first | refine R1.e_rg fun K hK => ?_ | refine R1.s_rg fun K hK => ?_ | refine R1.e_sq (by kernel_rfl) fun K hK => ?_ | refine R1.s_sq (by kernel_rfl) fun K hK => ?_); simp only [SG_nil, SG_cons, SU_yes, gw_n, gOf_n, List.map_cons, List.map_nil, vN_val, SK_move, SK_bin, evTmp, ev_int, slot_put, putD_nt, slotOk, Nat.blt_eq, Nat.reduceLT, true_and, if_true, if_false, eqLt, eqGt, ii_neq, Nat.lt_add_one, E2_P]; refine hK _ _ ?_; clear hK K)
  (first | refine R1.s_cnd fun Kx Ky hx hy => ?_ | refine R1.e_cnd fun Kx Ky hx hy => ?_); simp only [boolP'_b, evTmp, slot_put, Nat.reduceLT, if_true, if_false, eqGt, Bool.not_eq_true', Nat.lt_add_one]
  refine iteI (fun hc => hx ?_) (fun hc => hy ?_)
  · clear hx hy Kx Ky
    repeat' first | refine R1.ret ?_ | refine R1.exit ?_ | refine R1.skip ?_ | refine R1.s_ret ?_ | refine R1.s_exit ?_ | refine R1.s_assoc ?_ | refine R1.s_skip ?_ | refine R1.s_scope ?_ | ((first | refine R1.e_rg fun K hK => ?_ | refine R1.s_rg fun K hK => ?_ | refine R1.e_sq (by kernel_rfl) fun K hK => ?_ | refine R1.s_sq (by kernel_rfl) fun K hK => ?_); simp only [SG_nil, SG_cons, SU_yes, gw_n, gOf_n, List.map_cons, List.map_nil, SK_move, SK_assign, evTmp, ev_nilS, slot_put, putD_nt, slotOk, Nat.blt_eq, Nat.reduceLT, true_and, if_true, if_false, eqLt, eqGt, Nat.lt_add_one]; refine hK _ _ ?_; clear hK K)
    refine ⟨_, _, callEnd_two (.o .nilS) (.i .i64 (chkLots l)) (.inr rfl) rfl (by simp only [slot_put, Nat.reduceEqDiff, reduceIte]) (by simp only [slot_put, Nat.reduceEqDiff, reduceIte]), hf, fun _ => ?_⟩
    rw [scale_bad (by simpa using hc)]
    exact ⟨_, rfl, SlL.nil⟩
  · clear hx hy Kx Ky
    have hck : chkLots l = 0 := by simpa using hc
    clear hc
    have hL := (chk_ok hck).2
    have hb : ∀ x ∈ l, -1099511627776 ≤ x.2 ∧ x.2 ≤ 1099511627776 := fun x hx => (ok_mem (chk_ok hck).1 hx).2
    have hnz := srt_nz (srt_ok (chk_ok hck).1)
    obtain ⟨z, hz, hzl⟩ := zeroV37
    have hsc : scaleC l k = if k = 0 then ([], 0) else (scaleR k [] l).elim ([], 6) fun t => (t, 0) := by rw [scaleC, if_pos hck]
    rw [hsc]
    clear hsc
    generalize hr0 : scaleR k [] l = r0
    repeat' first | refine R1.ret ?_ | refine R1.exit ?_ | refine R1.skip ?_ | refine R1.s_ret ?_ | refine R1.s_exit ?_ | refine R1.s_assoc ?_ | refine R1.s_skip ?_ | refine R1.s_scope ?_ | ((first | refine R1.e_rg fun K hK => ?_ | refine R1.s_rg fun K hK => ?_ | refine R1.e_sq (by kernel_rfl) fun K hK => ?_ | refine R1.s_sq (by kernel_rfl) fun K hK => ?_); simp only [SG_nil, SG_cons, SU_yes, gw_n, gOf_n, List.map_cons, List.map_nil, SK_assign, ev_int, ev_nilS, putD_nt, slotOk, Nat.blt_eq, Nat.reduceLT, true_and]; refine hK _ _ ?_; clear hK K)
    refine R1.s_block fun K k1 k2 k3 k4 => ?_
    refine R1.loop (fun m A1 H1 => ∃ (i : Nat) (out : List Lot) (v7 : AC) (r : Option Nat), m = l.length - i ∧ i ≤ l.length ∧ out.length ≤ i ∧ (k = 0 → out = []) ∧ (k ≠ 0 → scaleR k out (l.drop i) = r0) ∧ OwnR H1 v7 37 2 out.length (out.flatMap lotC) r ∧ (∀ q, r = some q → H2.nx ≤ q) ∧ Gr H2 H1 ∧
      slot A1.tm 0 = .one v ∧ slot A1.tm 1 = .one (.i .i64 k) ∧ slot A1.tm 7 = .one v7 ∧ slot A1.tm 8 = .one (.i .i64 (i : Int)) ∧ A1.nt = 67 ∧ A1.dfr = []) ?_ l.length
      ⟨0, [], .o .nilS, none, rfl, Nat.zero_le _, Nat.le_refl _, fun _ => rfl, fun _ => hr0, .inl ⟨rfl, rfl, rfl, rfl⟩, fun q hq => (by cases hq), Fr.refl _, ?_, ?_, ?_, ?_, rfl, rfl⟩
    · clear h0 h1 tm hr0
      rintro m A1 H1 ⟨i, out, v7, r, rfl, hi, hout, hk00, hr, hown, hrow, hgr, t0, t1, t7, t8, hnt, hdf⟩
      have hl1 := hl2.gr hgr
      refine R1.s_assoc ?_
      refine R1.s_rg fun K hK => ?_
      simp only [SG_cons, SU_yes, gw_n, gw_gwv, gwv_b, gOf_n, gOf_some, List.map_cons, List.map_nil, List.getElem?_cons_zero, List.getElem?_cons_succ, Option.elim_some, decide_eq_true_eq, vN_val, lnN_some, Nat.zero_lt_succ, SK_move, SK_bin, SK_len, evTmp, slot_put, putD_nt, slotOk, Nat.blt_eq, Nat.reduceLT, true_and, if_true, if_false, eqLt, eqGt, ii_lss, Nat.lt_add_one, E2_P, t0, t8, hnt, len22, hl1.len, hl1.lt]
      repeat' (refine SU_iteI (fun hc => ?_) (fun hc => ?_) <;> (try simp only [Bool.not_eq_true, Bool.not_eq_false, Classical.not_not] at hc) <;> simp only [hc, SG_nil, SG_cons, SU_yes, SU_no, gw_n, gw_gwv, gwv_b, decide_true, decide_false, vN_val, pkN_b, SK_move, SK_pick, SK_bin, evTmp, ev_int, ev_bool, slot_put, putD_nt, slotOk, Nat.blt_eq, Nat.reduceLT, true_and, if_true, if_false, Bool.false_eq_true, eqLt, eqGt, ii_neq, Nat.lt_add_one, E2_P, t1, hnt])
      · refine hK _ _ ?_
        clear hK K
        (first | refine R1.s_cnd fun Kx Ky hx hy => ?_ | refine R1.e_cnd fun Kx Ky hx hy => ?_); simp only [boolP'_b, evTmp, slot_put, Nat.reduceLT, if_true, if_false, eqGt, Bool.not_eq_true', Nat.lt_add_one]
        refine iteI (fun hd => hx ?_) (fun hd => hy ?_)
        · clear hx hy Kx Ky
          have hk0 : k ≠ 0 := by simpa using hd
          have hr := hr hk0
          have hlt : i < l.length := by omega
          obtain ⟨id, g, off, cells, rfl, hid, hg, hat⟩ := hl1.open (by omega)
          have hx : l[i]? = some l[i] := List.getElem?_eq_getElem hlt
          have hmem : l[i] ∈ l := List.getElem_mem hlt
          have hdr : l.drop i = l[i] :: l.drop (i + 1) := List.drop_eq_getElem_cons hlt
          generalize l[i] = x at hx hmem hdr
          have hx1 := hat i x hx
          obtain ⟨n1, n2, _⟩ := nS_eq (hb x hmem) (hnz x hmem)
          have hn0 : nS x.2 ≠ 0 := by omega
          have hnS : (if x.2 < IntKind.i64.wrap (0 - x.2) then IntKind.i64.wrap (0 - x.2) else x.2) = nS x.2 := rfl
          have hnK : (if k < IntKind.i64.wrap (0 - k) then IntKind.i64.wrap (0 - k) else k) = nS k := rfl
          have hmS : IntKind.i64.wrap ((1099511627776 : Int).tdiv (nS x.2)) = mS x.2 := rfl
          refine R1.s_skip (R1.s_block fun K2 q1 q2 q3 q4 => ?_)
          have bad : okS k x.2 = false → none = r0 := fun hno => by rw [hdr, scaleR, if_neg (by rw [hno]; decide)] at hr; exact hr
          refine R1.s_assoc ?_
          refine R1.s_rg fun K hK => ?_
          simp only [SG_cons, SU_yes, gw_n, gw_gwv, gwv_b, gOf_n, gOf_some, List.map_cons, List.map_nil, List.getElem?_cons_zero, List.getElem?_cons_succ, Option.elim_some, vN_val, SK_move, SK_bin, evTmp, ev_int, slot_put, putD_nt, slotOk, Nat.blt_eq, Nat.reduceLT, true_and, if_true, if_false, eqLt, eqGt, decide_eq_false_iff_not, ii_gtr, Nat.lt_add_one, E2_P, t1, hnt]
          repeat' (refine SU_iteI (fun hc => ?_) (fun hc => ?_) <;> (try simp only [Classical.not_not] at hc) <;> simp only [hc, SG_nil, SG_cons, SU_yes, SU_no, gw_n, gw_gwv, gwv_b, decide_true, decide_false, vN_val, pkN_b, SK_move, SK_pick, SK_bin, evTmp, ev_int, ev_bool, slot_put, putD_nt, slotOk, Nat.blt_eq, Nat.reduceLT, true_and, if_true, if_false, Bool.false_eq_true, Bool.true_eq_false, eqLt, eqGt, ii_lss, Nat.lt_add_one, E2_P, t1, hnt])
          rotate_left
          · refine hK _ _ ?_
            clear hK K
            (first | refine R1.s_cnd fun Kx Ky hx hy => ?_ | refine R1.e_cnd fun Kx Ky hx hy => ?_); simp only [boolP'_b, evTmp, slot_put, Nat.reduceLT, if_true, if_false, eqGt, Nat.lt_add_one]
            refine hx ?_
            clear hx hy Kx Ky
            repeat' first | refine R1.ret ?_ | refine R1.exit ?_ | refine R1.skip ?_ | refine R1.s_ret ?_ | refine R1.s_exit ?_ | refine R1.s_assoc ?_ | refine R1.s_skip ?_ | refine R1.s_scope ?_ | ((first | refine R1.e_rg fun K hK => ?_ | refine R1.s_rg fun K hK => ?_ | refine R1.e_sq (by kernel_rfl) fun K hK => ?_ | refine R1.s_sq (by kernel_rfl) fun K hK => ?_); simp only [SG_nil, SG_cons, SU_yes, gw_n, gOf_n, List.map_cons, List.map_nil, SK_assign, ev_int, ev_nilS, putD_nt, slotOk, Nat.blt_eq, Nat.reduceLT, true_and, hnt]; refine hK _ _ ?_; clear hK K)
            refine q4 _ _ (k4 _ _ ⟨_, _, callEnd_two (.o .nilS) (.i .i64 6) (.inr rfl) (by simp only [putD_dfr, hdf]) (by simp only [slot_put, Nat.reduceEqDiff, reduceIte]) (by simp only [slot_put, Nat.reduceEqDiff, reduceIte]), hf.gr hgr, fun _ => ?_⟩)
            rw [if_neg hk0, ← bad (okS_big (hb x hmem) (hnz x hmem) (.inl (by omega)))]
            exact ⟨_, rfl, SlL.nil⟩
          · refine hK _ _ ?_
            clear hK K
            (first | refine R1.s_cnd fun Kx Ky hx hy => ?_ | refine R1.e_cnd fun Kx Ky hx hy => ?_); simp only [boolP'_b, decide_eq_true_eq, evTmp, slot_put, Nat.reduceLT, if_true, if_false, eqGt, Nat.lt_add_one]
            refine iteI (fun he => hx ?_) (fun he => hy ?_)
            · clear hx hy Kx Ky
              repeat' first | refine R1.ret ?_ | refine R1.exit ?_ | refine R1.skip ?_ | refine R1.s_ret ?_ | refine R1.s_exit ?_ | refine R1.s_assoc ?_ | refine R1.s_skip ?_ | refine R1.s_scope ?_ | ((first | refine R1.e_rg fun K hK => ?_ | refine R1.s_rg fun K hK => ?_ | refine R1.e_sq (by kernel_rfl) fun K hK => ?_ | refine R1.s_sq (by kernel_rfl) fun K hK => ?_); simp only [SG_nil, SG_cons, SU_yes, gw_n, gOf_n, List.map_cons, List.map_nil, SK_assign, ev_int, ev_nilS, putD_nt, slotOk, Nat.blt_eq, Nat.reduceLT, true_and, hnt]; refine hK _ _ ?_; clear hK K)
              refine q4 _ _ (k4 _ _ ⟨_, _, callEnd_two (.o .nilS) (.i .i64 6) (.inr rfl) (by simp only [putD_dfr, hdf]) (by simp only [slot_put, Nat.reduceEqDiff, reduceIte]) (by simp only [slot_put, Nat.reduceEqDiff, reduceIte]), hf.gr hgr, fun _ => ?_⟩)
              rw [if_neg hk0, ← bad (okS_big (hb x hmem) (hnz x hmem) (.inr (by omega)))]
              exact ⟨_, rfl, SlL.nil⟩
            · clear hx hy Kx Ky
              refine R1.s_skip ?_
              (first | refine R1.s_sg (by kernel_rfl) fun K hK => ?_ | refine R1.e_sg (by kernel_rfl) fun K hK => ?_)
              simp only [SG_nil, SG_cons, SU_yes, gw_n, gOf_n, List.map_cons, List.map_nil, vN_val, ldN_some, faN_some, iaN_some, Nat.add_one_sub_one, Nat.zero_lt_succ, SK_move, SK_assign, SK_load, SK_fieldAddr, SK_indexAddr, evTmp, slot_put, putD_nt, slotOk, Nat.blt_eq, Nat.reduceLT, true_and, if_true, if_false, ltV_ptr, eqLt, eqGt, doLoad_ptr, ldO_one, fieldAddr_at, gt_iff_lt, Nat.reduceAdd, Nat.le_refl, Nat.lt_add_one, E2_P, t0, t8, hnt, elem22, indexAddr_cast hlt, load3, field37_1, hid, hg, hx1.snd, hx1.le2, SK_neg, SK_max, plain_neg, plain_max, int1_i, int2_i, hnS]
              refine hK _ _ ?_
              clear hK K
              refine R1.s_assoc ?_
              refine R1.s_rg fun K hK => ?_
              simp only [SG_nil, SG_cons, SU_yes, gw_n, gOf_n, List.map_cons, List.map_nil, vN_val, SK_move, SK_bin, evTmp, ev_int, slot_put, putD_nt, slotOk, Nat.blt_eq, Nat.reduceLT, true_and, if_true, if_false, not_false_eq_true, eqLt, eqGt, ne_eq, gt_iff_lt, ii_gtr, Nat.lt_add_one, E2_P, t1, hnt, SK_neg, SK_max, plain_neg, plain_max, int1_i, int2_i, hnK, plain_quo, ii_quo, hn0, hmS]
              refine hK _ _ ?_
              clear hK K
              (first | refine R1.s_cnd fun Kx Ky hx hy => ?_ | refine R1.e_cnd fun Kx Ky hx hy => ?_); simp only [boolP'_b, decide_eq_true_eq, evTmp, slot_put, Nat.reduceLT, if_true, if_false, eqGt, Nat.lt_add_one]
              have href := okS_ref (hb x hmem) (hnz x hmem) (by omega : -1099511627776 ≤ k ∧ k ≤ 1099511627776) hk0
              refine iteI (fun hf2 => hx ?_) (fun hf2 => hy ?_)
              · clear hx hy Kx Ky
                repeat' first | refine R1.ret ?_ | refine R1.exit ?_ | refine R1.skip ?_ | refine R1.s_ret ?_ | refine R1.s_exit ?_ | refine R1.s_assoc ?_ | refine R1.s_skip ?_ | refine R1.s_scope ?_ | ((first | refine R1.e_rg fun K hK => ?_ | refine R1.s_rg fun K hK => ?_ | refine R1.e_sq (by kernel_rfl) fun K hK => ?_ | refine R1.s_sq (by kernel_rfl) fun K hK => ?_); simp only [SG_nil, SG_cons, SU_yes, gw_n, gOf_n, List.map_cons, List.map_nil, SK_assign, ev_int, ev_nilS, putD_nt, slotOk, Nat.blt_eq, Nat.reduceLT, true_and, hnt]; refine hK _ _ ?_; clear hK K)
                refine q4 _ _ (k4 _ _ ⟨_, _, callEnd_two (.o .nilS) (.i .i64 6) (.inr rfl) (by simp only [putD_dfr, hdf]) (by simp only [slot_put, Nat.reduceEqDiff, reduceIte]) (by simp only [slot_put, Nat.reduceEqDiff, reduceIte]), hf.gr hgr, fun _ => ?_⟩)
                rw [if_neg hk0, ← bad (Bool.eq_false_iff.2 fun hh => by have := href.1 hh; omega)]
                exact ⟨_, rfl, SlL.nil⟩
              · clear hx hy Kx Ky
                have hok : okS k x.2 = true := href.2 (by omega)
                rw [hdr, scaleR, if_pos hok] at hr
                refine R1.s_skip ?_
                have hown3 := hown.fr ((Fr.refl _ : Gr _ _).new (.arr [.o (.str x.1), .i .i64 (IntKind.i64.wrap (x.2 * k))] 37 0 0)) fun _ _ h => h
                have hlt4 := hown3.lt
                have g4 : Gr H2 (H1.new (.arr [.o (.str x.1), .i .i64 (IntKind.i64.wrap (x.2 * k))] 37 0 0)) := hgr.new _
                obtain ⟨v5, H5, r5, happ, how5, hf5, hr5⟩ := append_own (P := Tryz.prog) (t := 22) (H := H1.new (.arr [.o (.str x.1), .i .i64 (IntKind.i64.wrap (x.2 * k))] 37 0 0)) (x := .one (.o (.sl H1.nx 0 0 1 2))) (k := 1) (c := [.o (.str x.1), .i .i64 (IntKind.i64.wrap (x.2 * k))]) elem22 bytes37 hz hzl (by decide) hown3
                  (by rw [srcOf_row (cells := [.o (.str x.1), .i .i64 (IntKind.i64.wrap (x.2 * k))]) (by rw [get_newE rfl]; rfl) (by simp)]; rfl) (by decide) rfl (by omega) (by omega)
                have hw2 : IntKind.i64.wrap ((i : Int) + 1) = ((i + 1 : Nat) : Int) := by rw [wrapI (by omega) (by omega)]; omega
                have hmul : k * x.2 = x.2 * k := Int.mul_comm _ _
                (first | refine R1.s_sg (by kernel_rfl) fun K hK => ?_ | refine R1.e_sg (by kernel_rfl) fun K hK => ?_)
                simp only [SG_nil, SG_cons, SU_yes, gw_n, gOf_n, List.map_cons, List.map_nil, Option.map_some, Option.bind_some, optP_some, vN_val, ldN_some, faN_some, iaN_some, Nat.add_one_sub_one, Nat.one_mul, Nat.zero_lt_succ, SK_move, SK_assign, SK_load, SK_bin, SK_fieldAddr, SK_indexAddr, SK_build, SK_buildSlice, SK_append, evTmp, opFev, slot_put, putD_nt, slotOk, Nat.blt_eq, Nat.reduceLT, Nat.reduceLeDiff, true_and, and_true, if_true, if_false, ltV_ptr, ltV_sl, nxNew, eqLt, eqGt, doLoad_ptr, ldO_one, fieldAddr_at, Nat.reduceLeDiff, cells_one, cells_agg, noTup_one, noTup_agg, List.length_cons, List.length_nil, Nat.zero_add, Nat.add_zero, Nat.reduceAdd, Nat.reduceSub, Nat.le_refl, List.cons_append, List.nil_append, List.append_nil, ii_mul, List.take_succ_cons, List.take_zero, List.drop_succ_cons, List.drop_zero, List.drop_nil, Nat.lt_add_one, fill_nil, fill_cons, Nat.zero_mul, partsF_nil, partsF_cons, repl_one, E2_P, hnt, t0, t1, t7, t8, elem22, indexAddr_cast hlt, hid, hg, hx1.fst, hx1.snd, hx1.le1, hx1.le2, field37_0, field37_1, load9, load3, hmul, zero37, place37, pl37_0, pl37_1, repl_one, happ]
                refine ⟨hlt4, ?_⟩
                refine hK _ _ ?_
                clear hK K
                refine q1 _ _ ?_
                repeat' first | refine R1.ret ?_ | refine R1.exit ?_ | refine R1.skip ?_ | refine R1.s_ret ?_ | refine R1.s_exit ?_ | refine R1.s_assoc ?_ | refine R1.s_skip ?_ | refine R1.s_scope ?_ | ((first | refine R1.e_rg fun K hK => ?_ | refine R1.s_rg fun K hK => ?_ | refine R1.e_sq (by kernel_rfl) fun K hK => ?_ | refine R1.s_sq (by kernel_rfl) fun K hK => ?_); simp only [SG_nil, SG_cons, SU_yes, gw_n, gOf_n, List.map_cons, List.map_nil, vN_val, SK_move, SK_assign, SK_bin, evTmp, ev_int, slot_put, putD_nt, slotOk, Nat.blt_eq, Nat.reduceLT, true_and, if_true, if_false, eqLt, eqGt, ii_add, Nat.lt_add_one, hnt, t8, hw2]; refine hK _ _ ?_; clear hK K)
                have e1 : (out ++ [mulS k x]).length = out.length + 1 := by simp
                have e2 : (out ++ [mulS k x]).flatMap lotC = out.flatMap lotC ++ [.o (.str x.1), .i .i64 (IntKind.i64.wrap (x.2 * k))] := by
                  rw [List.flatMap_append]; rfl
                refine ⟨l.length - (i + 1), by omega, i + 1, out ++ [mulS k x], v5, some r5, rfl, hlt, by rw [e1]; omega, fun h => absurd h hk0, fun _ => hr, by rw [e1, e2]; exact how5, fun q hq => ?_, g4.then hf5 fun q hq => .inl (hrow q hq), ?_, ?_, ?_, ?_, ?_, ?_⟩
                · cases hq
                  rcases hr5 with h | ⟨_, h⟩
                  · exact hrow _ h
                  · rw [h, nxNew]; have := hgr.nx; omega
                · simp only [slot_put, Nat.reduceEqDiff, reduceIte, t0]
                · simp only [slot_put, Nat.reduceEqDiff, reduceIte, t1]
                · simp only [slot_put, Nat.reduceEqDiff, reduceIte]
                · simp only [slot_put, Nat.reduceEqDiff, reduceIte]
                · simp only [putD_nt, hnt]
                · simp only [putD_dfr, hdf]
        · clear hx hy Kx Ky
          have hk0 : k = 0 := by simpa using hd
          repeat' first | refine R1.ret ?_ | refine R1.exit ?_ | refine R1.skip ?_ | refine R1.s_ret ?_ | refine R1.s_exit ?_ | refine R1.s_assoc ?_ | refine R1.s_skip ?_ | refine R1.s_scope ?_ | ((first | refine R1.e_rg fun K hK => ?_ | refine R1.s_rg fun K hK => ?_ | refine R1.e_sq (by kernel_rfl) fun K hK => ?_ | refine R1.s_sq (by kernel_rfl) fun K hK => ?_); simp only [SG_nil, SG_cons, SU_yes, SU_no, gw_n, gw_gwv, gwv_b, gwv_u, gOf_n, gOf_some, List.map_cons, List.map_nil, List.getElem?_cons_zero, List.getElem?_cons_succ, Option.elim_some, Option.map_some, Option.bind_some, optP_some, boolP_b, boolP'_b, boolE_b, decide_eq_true_eq, decide_true, decide_false, valP_val, valP_guard, vN_val, ldN_some, stN_some, faN_some, iaN_some, lnN_some, pkN_b, sliceO_some, slice_lo, slice_hi, slice_1, indexAddr_0, Nat.add_one_sub_one, Nat.one_mul, len_sl, len_ns, len_str', posS, eq0S, cast0, Int.reduceLT, Int.reduceLE, Int.reduceBEq, Option.map_none, Nat.lt_add_left_iff_pos, Nat.zero_lt_succ, Nat.le_add_left, SK_move, SK_assign, SK_pick, SK_alloc, SK_box, SK_load, SK_store, SK_bin, SK_not, SK_fieldAddr, SK_field, SK_indexAddr, SK_slice, SK_extract, SK_nilCheck, SK_makeFunc, SK_makeMap, SK_makeSlice, SK_build, SK_buildSlice, SK_len, SK_append, SK_call, doCall_clo, doCall_clo, evTmp, ev_int, ev_bool, ev_str, ev_nilS, ev_func, opFev, evs_cons, evs_nil, slot_put, putD_nt, putD_none, putD_dfr, slotOk, Nat.blt_eq, Nat.reduceLT, Nat.reduceEqDiff, Nat.reduceLeDiff, reduceIte, true_and, and_true, true_or, or_true, if_true, if_false, Bool.false_eq_true, Bool.true_eq_false, not_false_eq_true, not_true_eq_false, ltV_ptr, ltV_sl, ltV_nil, ltV_str, ltV_i, nxNew, nxMod, get_newE, get_newL, get_modE, get_modN, ltAdd, ltSelf, eqLt, eqGt, eqLtA, eqGtA, eqSelfA, eqASelf, eqAA, ltAA, doLoad_ptr, doStore_ptr, rowOf_arr, rowOf_ro, ldO_agg, ldO_one, stO_arr, splice_eq, fieldAddr_at, Bool.not_eq_true', Bool.not_eq_false', decide_eq_false_iff_not, ne_eq, Nat.reduceLeDiff, Nat.lt_irrefl, gt_iff_lt, cells_one, cells_agg, noTup_one, noTup_agg, List.length_cons, List.length_nil, Nat.zero_add, Nat.add_zero, Nat.reduceAdd, Nat.reduceSub, Nat.reduceMul, Nat.le_refl, Nat.zero_le, capsOf_nil, capsOf_cons, capArgs_nil, capArgs_cons, List.cons_append, List.nil_append, List.append_nil, ex_0, ex_0a, ex_1, ex_1a, ex_2, ex_2a, ii_lss, ii_leq, ii_gtr, ii_geq, ii_eql, ii_neq, ii_add, ii_sub, ii_mul, ss_lss, ss_geq, ss_leq, ss_gtr, ss_eql, ss_neq, List.take_succ_cons, List.take_zero, List.drop_succ_cons, List.drop_zero, List.take_nil, List.drop_nil, List.headD_cons, Bool.not_true, Bool.not_false, Nat.lt_add_one, bin_agg, bin_b, agg2_agg, bool2_b, aggEq_nil, aggEq_s, aggEq_i, aggEq_b, aggO_some, fill_nil, fill_cons, Nat.zero_mul, partsF_nil, partsF_cons, repl_one, hnt]; refine hK _ _ ?_; clear hK K)
          refine k2 _ _ ?_
          repeat' first | refine R1.ret ?_ | refine R1.exit ?_ | refine R1.skip ?_ | refine R1.s_ret ?_ | refine R1.s_exit ?_ | refine R1.s_assoc ?_ | refine R1.s_skip ?_ | refine R1.s_scope ?_ | ((first | refine R1.e_rg fun K hK => ?_ | refine R1.s_rg fun K hK => ?_ | refine R1.e_sq (by kernel_rfl) fun K hK => ?_ | refine R1.s_sq (by kernel_rfl) fun K hK => ?_); simp only [SG_nil, SG_cons, SU_yes, gw_n, gOf_n, List.map_cons, List.map_nil, SK_move, SK_assign, evTmp, ev_int, slot_put, putD_nt, slotOk, Nat.blt_eq, Nat.reduceLT, true_and, if_true, if_false, eqLt, eqGt, Nat.lt_add_one, hnt, t7]; refine hK _ _ ?_; clear hK K)
          refine ⟨_, _, callEnd_two v7 (.i .i64 0) (.inr rfl) (by simp only [putD_dfr, hdf]) (by simp only [slot_put, Nat.reduceEqDiff, reduceIte]) (by simp only [slot_put, Nat.reduceEqDiff, reduceIte]), hf.gr hgr, fun _ => ?_⟩
          rw [if_pos hk0]
          have := hown.slc
          rw [hk00 hk0] at this
          exact ⟨_, rfl, this⟩
      · refine hK _ _ ?_
        clear hK K
        (first | refine R1.s_cnd fun Kx Ky hx hy => ?_ | refine R1.e_cnd fun Kx Ky hx hy => ?_); simp only [boolP'_b, evTmp, slot_put, Nat.reduceLT, if_true, if_false, Bool.false_eq_true, eqGt, Nat.lt_add_one]
        refine hy ?_
        clear hx hy Kx Ky
        repeat' first | refine R1.ret ?_ | refine R1.exit ?_ | refine R1.skip ?_ | refine R1.s_ret ?_ | refine R1.s_exit ?_ | refine R1.s_assoc ?_ | refine R1.s_skip ?_ | refine R1.s_scope ?_ | ((first | refine R1.e_rg fun K hK => ?_ | refine R1.s_rg fun K hK => ?_ | refine R1.e_sq (by kernel_rfl) fun K hK => ?_ | refine R1.s_sq (by kernel_rfl) fun K hK => ?_); simp only [SG_nil, SG_cons, SU_yes, SU_no, gw_n, gw_gwv, gwv_b, gwv_u, gOf_n, gOf_some, List.map_cons, List.map_nil, List.getElem?_cons_zero, List.getElem?_cons_succ, Option.elim_some, Option.map_some, Option.bind_some, optP_some, boolP_b, boolP'_b, boolE_b, decide_eq_true_eq, decide_true, decide_false, valP_val, valP_guard, vN_val, ldN_some, stN_some, faN_some, iaN_some, lnN_some, pkN_b, sliceO_some, slice_lo, slice_hi, slice_1, indexAddr_0, Nat.add_one_sub_one, Nat.one_mul, len_sl, len_ns, len_str', posS, eq0S, cast0, Int.reduceLT, Int.reduceLE, Int.reduceBEq, Option.map_none, Nat.lt_add_left_iff_pos, Nat.zero_lt_succ, Nat.le_add_left, SK_move, SK_assign, SK_pick, SK_alloc, SK_box, SK_load, SK_store, SK_bin, SK_not, SK_fieldAddr, SK_field, SK_indexAddr, SK_slice, SK_extract, SK_nilCheck, SK_makeFunc, SK_makeMap, SK_makeSlice, SK_build, SK_buildSlice, SK_len, SK_append, SK_call, doCall_clo, doCall_clo, evTmp, ev_int, ev_bool, ev_str, ev_nilS, ev_func, opFev, evs_cons, evs_nil, slot_put, putD_nt, putD_none, putD_dfr, slotOk, Nat.blt_eq, Nat.reduceLT, Nat.reduceEqDiff, Nat.reduceLeDiff, reduceIte, true_and, and_true, true_or, or_true, if_true, if_false, Bool.false_eq_true, Bool.true_eq_false, not_false_eq_true, not_true_eq_false, ltV_ptr, ltV_sl, ltV_nil, ltV_str, ltV_i, nxNew, nxMod, get_newE, get_newL, get_modE, get_modN, ltAdd, ltSelf, eqLt, eqGt, eqLtA, eqGtA, eqSelfA, eqASelf, eqAA, ltAA, doLoad_ptr, doStore_ptr, rowOf_arr, rowOf_ro, ldO_agg, ldO_one, stO_arr, splice_eq, fieldAddr_at, Bool.not_eq_true', Bool.not_eq_false', decide_eq_false_iff_not, ne_eq, Nat.reduceLeDiff, Nat.lt_irrefl, gt_iff_lt, cells_one, cells_agg, noTup_one, noTup_agg, List.length_cons, List.length_nil, Nat.zero_add, Nat.add_zero, Nat.reduceAdd, Nat.reduceSub, Nat.reduceMul, Nat.le_refl, Nat.zero_le, capsOf_nil, capsOf_cons, capArgs_nil, capArgs_cons, List.cons_append, List.nil_append, List.append_nil, ex_0, ex_0a, ex_1, ex_1a, ex_2, ex_2a, ii_lss, ii_leq, ii_gtr, ii_geq, ii_eql, ii_neq, ii_add, ii_sub, ii_mul, ss_lss, ss_geq, ss_leq, ss_gtr, ss_eql, ss_neq, List.take_succ_cons, List.take_zero, List.drop_succ_cons, List.drop_zero, List.take_nil, List.drop_nil, List.headD_cons, Bool.not_true, Bool.not_false, Nat.lt_add_one, bin_agg, bin_b, agg2_agg, bool2_b, aggEq_nil, aggEq_s, aggEq_i, aggEq_b, aggO_some, fill_nil, fill_cons, Nat.zero_mul, partsF_nil, partsF_cons, repl_one, hnt]; refine hK _ _ ?_; clear hK K)
        refine k2 _ _ ?_
        repeat' first | refine R1.ret ?_ | refine R1.exit ?_ | refine R1.skip ?_ | refine R1.s_ret ?_ | refine R1.s_exit ?_ | refine R1.s_assoc ?_ | refine R1.s_skip ?_ | refine R1.s_scope ?_ | ((first | refine R1.e_rg fun K hK => ?_ | refine R1.s_rg fun K hK => ?_ | refine R1.e_sq (by kernel_rfl) fun K hK => ?_ | refine R1.s_sq (by kernel_rfl) fun K hK => ?_); simp only [SG_nil, SG_cons, SU_yes, gw_n, gOf_n, List.map_cons, List.map_nil, SK_move, SK_assign, evTmp, ev_int, slot_put, putD_nt, slotOk, Nat.blt_eq, Nat.reduceLT, true_and, if_true, if_false, eqLt, eqGt, Nat.lt_add_one, hnt, t7]; refine hK _ _ ?_; clear hK K)
        refine ⟨_, _, callEnd_two v7 (.i .i64 0) (.inr rfl) (by simp only [putD_dfr, hdf]) (by simp only [slot_put, Nat.reduceEqDiff, reduceIte]) (by simp only [slot_put, Nat.reduceEqDiff, reduceIte]), hf.gr hgr, fun _ => ?_⟩
        by_cases hk0 : k = 0
        · rw [if_pos hk0]
          have := hown.slc
          rw [hk00 hk0] at this
          exact ⟨_, rfl, this⟩
        · have : i = l.length := by omega
          subst this
          have hr := hr hk0
          rw [List.drop_length, scaleR] at hr
          rw [if_neg hk0, ← hr]
          exact ⟨_, rfl, hown.slc⟩
    all_goals simp only [slot_put, Nat.reduceEqDiff, reduceIte, h0, h1]
    all_goals rfl
end Go.Proofs.YtndipbefnipnpaaGreat
