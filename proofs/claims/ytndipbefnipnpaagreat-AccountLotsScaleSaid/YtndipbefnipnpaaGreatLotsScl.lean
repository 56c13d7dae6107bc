/- Scale: what it answers. -/
import Derived.Test.YtndipbefnipnpaaGreatLotsSclP
import Derived.Test.YtndipbefnipnpaaGreatLotsAdd
import Derived.Test.YtndipbefnipnpaaGreatLotsPln
namespace Go.Proofs.YtndipbefnipnpaaGreat
open Go Go.Eng

set_option maxRecDepth 10000 in
set_option maxHeartbeats 4000000 in
theorem scale_con (H : Hp) (l : List Lot) (k : Int) (v : AC) (hl : SlL H v l) :
    Con E2 20 [.one v, .one (.i .i64 k)] H (fun _ => False) fun r H' => ∃ vs, r = .tup [(false, [vs]), (false, [.i .i64 (scaleC l k).2])] ∧ SlL H' vs (scaleC l k).1 := by
  refine Con.of rfl fun lg => ?_
  have hl : SlL ⟨H.t, H.nx, lg⟩ v l := hl
  generalize (⟨H.t, H.nx, lg⟩ : Hp) = H at hl ⊢
  refine C1.body (E := E2) (nt := 54) (res := [.tmp 4, .tmp 5]) Tryz.func20 rfl rfl rfl rfl rfl fun tm hargs => ?_
  have h0 := hargs 0 _ rfl
  have h1 := hargs 1 _ rfl
  clear hargs
  repeat' first | refine R1.ret ?_ | refine R1.exit ?_ | refine R1.skip ?_ | refine R1.s_ret ?_ | refine R1.s_exit ?_ | refine R1.s_assoc ?_ | refine R1.s_skip ?_ | refine R1.s_scope ?_ | ((first | refine R1.e_rg fun K hK => ?_ | refine R1.s_rg fun K hK => ?_ | refine R1.e_sq (by kernel_rfl) fun K hK => ?_ | refine R1.s_sq (by kernel_rfl) fun K hK => ?_); simp only [SG_nil, SG_cons, SU_yes, gw_n, gOf_n, List.map_cons, List.map_nil, Nat.zero_lt_succ, SK_move, SK_assign, SK_call, evTmp, ev_int, ev_nilS, ev_func, evs_cons, evs_nil, slot_put, putD_nt, slotOk, Nat.blt_eq, Nat.reduceLT, true_and, if_true, if_false, eqLt, eqGt, E2_P]; refine hK _ _ ?_; clear hK K)
  refine R1.s_rg fun K hK => ?_
  simp only [SG_cons, SU_yes, gw_n, gOf_n, List.map_cons, List.map_nil, Nat.zero_lt_succ, SK_move, SK_call, doCall_clo, doCall_clo, evTmp, ev_func, evs_cons, evs_nil, slot_put, putD_nt, slotOk, Nat.blt_eq, Nat.reduceLT, true_and, if_true, if_false, eqLt, eqGt, capArgs_nil, List.append_nil, E2_P, h0, body8]
  refine WE.con (checkLots_con _ l v hl) fun v2 H2 hf hv => ?_
  subst hv
  simp only [SG_nil, SG_cons, SU_yes, gw_n, SK_assign, evTmp, slot_put, putD_nt, slotOk, Nat.blt_eq, Nat.reduceLT, true_and, if_true, if_false, eqGt, Nat.lt_add_one]
  refine hK _ _ ?_
  clear hK K
  have hl2 := hl.gr hf
  repeat' first | refine R1.ret ?_ | refine R1.exit ?_ | refine R1.skip ?_ | refine R1.s_ret ?_ | refine R1.s_exit ?_ | refine R1.s_assoc ?_ | refine R1.s_skip ?_ | refine R1.s_scope ?_ | ((first | refine R1.e_rg fun K hK => ?_ | refine R1.s_rg fun K hK => ?_ | refine R1.e_sq (by kernel_rfl) fun K hK => ?_ | refine R1.s_sq (by kernel_rfl) fun K hK => ?_); simp only [SG_nil, SG_cons, SU_yes, gw_n, gOf_n, List.map_cons, List.map_nil, vN_val, SK_move, SK_bin, evTmp, ev_int, slot_put, putD_nt, slotOk, Nat.blt_eq, Nat.reduceLT, true_and, if_true, if_false, eqLt, eqGt, ii_neq, Nat.lt_add_one, E2_P]; refine hK _ _ ?_; clear hK K)
  (first | refine R1.s_cnd fun Kx Ky hx hy => ?_ | refine R1.e_cnd fun Kx Ky hx hy => ?_); simp only [boolP'_b, evTmp, slot_put, Nat.reduceLT, if_true, if_false, eqGt, Bool.not_eq_true', Nat.lt_add_one]
  refine iteI (fun hc => hx ?_) (fun hc => hy ?_)
  · clear hx hy Kx Ky
    repeat' first | refine R1.ret ?_ | refine R1.exit ?_ | refine R1.skip ?_ | refine R1.s_ret ?_ | refine R1.s_exit ?_ | refine R1.s_assoc ?_ | refine R1.s_skip ?_ | refine R1.s_scope ?_ | ((first | refine R1.e_rg fun K hK => ?_ | refine R1.s_rg fun K hK => ?_ | refine R1.e_sq (by kernel_rfl) fun K hK => ?_ | refine R1.s_sq (by kernel_rfl) fun K hK => ?_); simp only [SG_nil, SG_cons, SU_yes, gw_n, gOf_n, List.map_cons, List.map_nil, SK_move, SK_assign, evTmp, ev_nilS, slot_put, putD_nt, slotOk, Nat.blt_eq, Nat.reduceLT, true_and, if_true, if_false, eqLt, eqGt, Nat.lt_add_one]; refine hK _ _ ?_; clear hK K)
    refine ⟨_, _, callEnd_two (.o .nilS) (.i .i64 (chkLots l)) (.inr rfl) rfl (by simp only [slot_put, Nat.reduceEqDiff, reduceIte]) (by simp only [slot_put, Nat.reduceEqDiff, reduceIte]), hf, fun _ => ?_⟩
    rw [scale_bad (by simpa using hc)]
    exact ⟨_, rfl, SlL.nil⟩
  · clear hx hy Kx Ky
    have hck : chkLots l = 0 := by simpa using hc
    clear hc
    repeat' first | refine R1.ret ?_ | refine R1.exit ?_ | refine R1.skip ?_ | refine R1.s_ret ?_ | refine R1.s_exit ?_ | refine R1.s_assoc ?_ | refine R1.s_skip ?_ | refine R1.s_scope ?_ | ((first | refine R1.e_rg fun K hK => ?_ | refine R1.s_rg fun K hK => ?_ | refine R1.e_sq (by kernel_rfl) fun K hK => ?_ | refine R1.s_sq (by kernel_rfl) fun K hK => ?_); simp only [SG_nil, SG_cons, SU_yes, gw_n, gOf_n, List.map_cons, List.map_nil, vN_val, SK_move, SK_bin, evTmp, ev_int, slot_put, putD_nt, slotOk, Nat.blt_eq, Nat.reduceLT, true_and, if_true, if_false, eqLt, eqGt, ii_eql, E2_P, h1]; refine hK _ _ ?_; clear hK K)
    (first | refine R1.s_cnd fun Kx Ky hx hy => ?_ | refine R1.e_cnd fun Kx Ky hx hy => ?_); simp only [boolP'_b, evTmp, slot_put, Nat.reduceLT, if_true, if_false, eqGt, Nat.lt_add_one]
    refine iteI (fun hc => hx ?_) (fun hc => hy ?_)
    · clear hx hy Kx Ky
      repeat' first | refine R1.ret ?_ | refine R1.exit ?_ | refine R1.skip ?_ | refine R1.s_ret ?_ | refine R1.s_exit ?_ | refine R1.s_assoc ?_ | refine R1.s_skip ?_ | refine R1.s_scope ?_ | ((first | refine R1.e_rg fun K hK => ?_ | refine R1.s_rg fun K hK => ?_ | refine R1.e_sq (by kernel_rfl) fun K hK => ?_ | refine R1.s_sq (by kernel_rfl) fun K hK => ?_); simp only [SG_nil, SG_cons, SU_yes, gw_n, gOf_n, List.map_cons, List.map_nil, SK_assign, ev_int, ev_nilS, putD_nt, slotOk, Nat.blt_eq, Nat.reduceLT, true_and]; refine hK _ _ ?_; clear hK K)
      refine ⟨_, _, callEnd_two (.o .nilS) (.i .i64 0) (.inr rfl) rfl (by simp only [slot_put, Nat.reduceEqDiff, reduceIte]) (by simp only [slot_put, Nat.reduceEqDiff, reduceIte]), hf, fun _ => ?_⟩
      have : k = 0 := by simpa using hc
      rw [scaleC, if_pos hck, if_pos this]
      exact ⟨_, rfl, SlL.nil⟩
    · clear hx hy Kx Ky
      have hk0 : k ≠ 0 := by simpa using hc
      have hsc : scaleC l k = (scaleR k [] l).elim ([], 6) fun t => (t, 0) := by rw [scaleC, if_pos hck, if_neg hk0]
      rw [hsc]
      clear hc hsc
      have hL := (chk_ok hck).2
      have hb : ∀ x ∈ l, -1099511627776 ≤ x.2 ∧ x.2 ≤ 1099511627776 := fun x hx => (ok_mem (chk_ok hck).1 hx).2
      have hnz := srt_nz (srt_ok (chk_ok hck).1)
      obtain ⟨z, hz, hzl⟩ := zeroV37
      generalize hr0 : scaleR k [] l = r0
      repeat' first | refine R1.ret ?_ | refine R1.exit ?_ | refine R1.skip ?_ | refine R1.s_ret ?_ | refine R1.s_exit ?_ | refine R1.s_assoc ?_ | refine R1.s_skip ?_ | refine R1.s_scope ?_ | ((first | refine R1.e_rg fun K hK => ?_ | refine R1.s_rg fun K hK => ?_ | refine R1.e_sq (by kernel_rfl) fun K hK => ?_ | refine R1.s_sq (by kernel_rfl) fun K hK => ?_); simp only [SG_nil, SG_cons, SU_yes, gw_n, gOf_n, List.map_cons, List.map_nil, vN_val, lnN_some, Nat.zero_lt_succ, SK_move, SK_assign, SK_len, evTmp, ev_int, ev_nilS, slot_put, putD_nt, slotOk, Nat.blt_eq, Nat.reduceLT, true_and, if_true, if_false, eqLt, eqGt, Nat.lt_add_one, E2_P, h0, len22, hl2.len, hl2.lt]; refine hK _ _ ?_; clear hK K)
      refine R1.s_block fun K k1 k2 k3 k4 => ?_
      refine R1.loop (fun m A1 H1 => ∃ (i : Nat) (out : List Lot) (v7 : AC) (r : Option Nat), m = l.length - i ∧ i ≤ l.length ∧ out.length ≤ i ∧ scaleR k out (l.drop i) = r0 ∧ OwnR H1 v7 37 2 out.length (out.flatMap lotC) r ∧ (∀ q, r = some q → H2.nx ≤ q) ∧ Gr H2 H1 ∧
        slot A1.tm 1 = .one (.i .i64 k) ∧ slot A1.tm 7 = .one v7 ∧ slot A1.tm 19 = .one v ∧ slot A1.tm 20 = .one (.i .i64 (l.length : Int)) ∧ slot A1.tm 21 = .one (.i .i64 (i : Int)) ∧ A1.nt = 54 ∧ A1.dfr = []) ?_ l.length
        ⟨0, [], .o .nilS, none, rfl, Nat.zero_le _, Nat.le_refl _, hr0, .inl ⟨rfl, rfl, rfl, rfl⟩, fun q hq => (by cases hq), Fr.refl _, ?_, ?_, ?_, ?_, ?_, rfl, rfl⟩
      · clear h0 h1 tm hr0
        rintro m A1 H1 ⟨i, out, v7, r, rfl, hi, hout, hr, hown, hrow, hgr, t1, t7, t19, t20, t21, hnt, hdf⟩
        have hl1 := hl2.gr hgr
        repeat' first | refine R1.ret ?_ | refine R1.exit ?_ | refine R1.skip ?_ | refine R1.s_ret ?_ | refine R1.s_exit ?_ | refine R1.s_assoc ?_ | refine R1.s_skip ?_ | refine R1.s_scope ?_ | ((first | refine R1.e_rg fun K hK => ?_ | refine R1.s_rg fun K hK => ?_ | refine R1.e_sq (by kernel_rfl) fun K hK => ?_ | refine R1.s_sq (by kernel_rfl) fun K hK => ?_); simp only [SG_nil, SG_cons, SU_yes, gw_n, gOf_n, List.map_cons, List.map_nil, vN_val, SK_bin, evTmp, slotOk, Nat.blt_eq, Nat.reduceLT, true_and, ii_lss, t20, t21, hnt]; refine hK _ _ ?_; clear hK K)
        (first | refine R1.s_cnd fun Kx Ky hx hy => ?_ | refine R1.e_cnd fun Kx Ky hx hy => ?_); simp only [boolP'_b, decide_eq_true_eq, evTmp, slot_put, if_true]
        refine iteI (fun hc => ?_) (fun hc => ?_)
        · refine hx ?_
          clear hx hy Kx Ky
          have hlt : i < l.length := by omega
          obtain ⟨id, g, off, cells, rfl, hid, hg, hat⟩ := hl1.open (by omega)
          have hx : l[i]? = some l[i] := List.getElem?_eq_getElem hlt
          have hmem : l[i] ∈ l := List.getElem_mem hlt
          have hdr : l.drop i = l[i] :: l.drop (i + 1) := List.drop_eq_getElem_cons hlt
          generalize l[i] = x at hx hmem hdr
          have hx1 := hat i x hx
          obtain ⟨n1, n2, _⟩ := nS_eq (hb x hmem) (hnz x hmem)
          have hn0 : nS x.2 ≠ 0 := by omega
          have hnS : (if x.2 < IntKind.i64.wrap (0 - x.2) then IntKind.i64.wrap (0 - x.2) else x.2) = nS x.2 := rfl
          have hmS : IntKind.i64.wrap ((1099511627776 : Int).tdiv (nS x.2)) = mS x.2 := rfl
          refine R1.s_skip (R1.s_block fun K2 q1 q2 q3 q4 => ?_)
          refine R1.s_rg fun K hK => ?_
          simp only [SG_nil, SG_cons, SU_yes, gw_n, gOf_n, List.map_cons, List.map_nil, optP_some, vN_val, ldN_some, stN_some, iaN_some, SK_alloc, SK_load, SK_store, SK_indexAddr, evTmp, slot_put, putD_nt, putD_none, slotOk, Nat.blt_eq, Nat.reduceLT, true_and, if_true, if_false, ltV_ptr, nxNew, get_newE, eqLt, eqGt, doLoad_ptr, doStore_ptr, ldO_agg, stO_arr, cells_agg, noTup_agg, List.length_cons, List.length_nil, Nat.zero_add, Nat.reduceAdd, Nat.le_refl, List.nil_append, List.append_nil, List.take_zero, List.drop_succ_cons, List.drop_nil, Nat.lt_add_one, t19, t21, hnt, E2_P, elem22, indexAddr_cast hlt, load37, zero37, size37, hid, hg, hx1.all, hx1.le, lotC]
          refine hK _ _ ?_
          clear hK K
          refine R1.s_rg fun K hK => ?_
          simp only [SG_nil, SG_cons, SU_yes, gw_n, gOf_n, List.map_cons, List.map_nil, vN_val, ldN_some, faN_some, Nat.add_one_sub_one, SK_assign, SK_load, SK_fieldAddr, evTmp, slot_put, putD_nt, slotOk, Nat.blt_eq, Nat.reduceLT, true_and, if_true, if_false, ltV_ptr, nxNew, nxMod, get_modE, eqLt, eqGt, doLoad_ptr, rowOf_arr, ldO_one, fieldAddr_at, gt_iff_lt, List.length_cons, List.length_nil, Nat.zero_add, Nat.reduceAdd, Nat.le_refl, List.drop_succ_cons, List.drop_zero, List.headD_cons, Nat.lt_add_one, hnt, E2_P, load3, field37_1, SK_neg, SK_max, plain_neg, plain_max, int1_i, int2_i, hnS]
          refine hK _ _ ?_
          clear hK K
          refine R1.s_assoc ?_
          refine R1.s_rg fun K hK => ?_
          simp only [SG_nil, SG_cons, SU_yes, gw_n, gOf_n, List.map_cons, List.map_nil, vN_val, SK_move, SK_assign, SK_bin, evTmp, ev_int, slot_put, putD_nt, slotOk, Nat.blt_eq, Nat.reduceLT, true_and, if_true, if_false, not_false_eq_true, eqLt, eqGt, ne_eq, Nat.lt_add_one, hnt, E2_P, plain_quo, ii_quo, int2_i, hn0, hmS]
          refine hK _ _ ?_
          clear hK K
          have g1 : Gr H2 (H1.new (.arr [.o (.str []), .i .i64 0] 37 0 0)) := hgr.new _
          refine R1.s_assoc ?_
          refine R1.s_rg fun K hK => ?_
          simp only [SG_cons, SU_yes, gw_n, gw_gwv, gwv_b, gOf_n, gOf_some, List.map_cons, List.map_nil, List.getElem?_cons_zero, List.getElem?_cons_succ, Option.elim_some, vN_val, SK_move, SK_bin, evTmp, slot_put, putD_nt, slotOk, Nat.blt_eq, Nat.reduceLT, true_and, if_true, if_false, eqLt, eqGt, decide_eq_false_iff_not, ii_gtr, Nat.lt_add_one, hnt, E2_P, t1]
          repeat' (refine SU_iteI (fun hc => ?_) (fun hc => ?_) <;> (try simp only [Classical.not_not] at hc) <;> simp only [hc, SG_nil, SG_cons, SU_yes, SU_no, gw_n, gw_gwv, gwv_b, decide_true, decide_false, vN_val, pkN_b, SK_move, SK_pick, SK_bin, evTmp, ev_bool, slot_put, putD_nt, slotOk, Nat.blt_eq, Nat.reduceLT, true_and, if_true, if_false, Bool.false_eq_true, Bool.true_eq_false, eqLt, eqGt, ii_lss, Nat.lt_add_one, hnt, E2_P, t1, SK_neg, plain_neg, int1_i])
          rotate_left
          · refine hK _ _ ?_
            clear hK K
            (first | refine R1.s_cnd fun Kx Ky hx hy => ?_ | refine R1.e_cnd fun Kx Ky hx hy => ?_); simp only [boolP'_b, evTmp, slot_put, Nat.reduceLT, if_true, if_false, eqGt, Nat.lt_add_one]
            refine hx ?_
            clear hx hy Kx Ky
            have hno : okS k x.2 = false := by simp only [okS, hc, decide_true, Bool.true_or, Bool.not_true]
            rw [hdr, scaleR, if_neg (by rw [hno]; decide)] at hr
            repeat' first | refine R1.ret ?_ | refine R1.exit ?_ | refine R1.skip ?_ | refine R1.s_ret ?_ | refine R1.s_exit ?_ | refine R1.s_assoc ?_ | refine R1.s_skip ?_ | refine R1.s_scope ?_ | ((first | refine R1.e_rg fun K hK => ?_ | refine R1.s_rg fun K hK => ?_ | refine R1.e_sq (by kernel_rfl) fun K hK => ?_ | refine R1.s_sq (by kernel_rfl) fun K hK => ?_); simp only [SG_nil, SG_cons, SU_yes, gw_n, gOf_n, List.map_cons, List.map_nil, SK_assign, ev_int, ev_nilS, putD_nt, slotOk, Nat.blt_eq, Nat.reduceLT, true_and, hnt]; refine hK _ _ ?_; clear hK K)
            refine q4 _ _ (k4 _ _ ⟨_, _, callEnd_two (.o .nilS) (.i .i64 6) (.inr rfl) (by simp only [putD_dfr, hdf]) (by simp only [slot_put, Nat.reduceEqDiff, reduceIte]) (by simp only [slot_put, Nat.reduceEqDiff, reduceIte]), hf.gr (g1.mod _ (.inl hgr.nx)), fun _ => ?_⟩)
            rw [← hr]
            exact ⟨_, rfl, SlL.nil⟩
          · refine hK _ _ ?_
            clear hK K
            (first | refine R1.s_cnd fun Kx Ky hx hy => ?_ | refine R1.e_cnd fun Kx Ky hx hy => ?_); simp only [boolP'_b, decide_eq_true_eq, evTmp, slot_put, Nat.reduceLT, if_true, if_false, eqGt, Nat.lt_add_one]
            refine iteI (fun hd => hx ?_) (fun hd => hy ?_)
            · clear hx hy Kx Ky
              have hno : okS k x.2 = false := by simp only [okS, hd, decide_true, Bool.or_true, Bool.not_true]
              rw [hdr, scaleR, if_neg (by rw [hno]; decide)] at hr
              repeat' first | refine R1.ret ?_ | refine R1.exit ?_ | refine R1.skip ?_ | refine R1.s_ret ?_ | refine R1.s_exit ?_ | refine R1.s_assoc ?_ | refine R1.s_skip ?_ | refine R1.s_scope ?_ | ((first | refine R1.e_rg fun K hK => ?_ | refine R1.s_rg fun K hK => ?_ | refine R1.e_sq (by kernel_rfl) fun K hK => ?_ | refine R1.s_sq (by kernel_rfl) fun K hK => ?_); simp only [SG_nil, SG_cons, SU_yes, gw_n, gOf_n, List.map_cons, List.map_nil, SK_assign, ev_int, ev_nilS, putD_nt, slotOk, Nat.blt_eq, Nat.reduceLT, true_and, hnt]; refine hK _ _ ?_; clear hK K)
              refine q4 _ _ (k4 _ _ ⟨_, _, callEnd_two (.o .nilS) (.i .i64 6) (.inr rfl) (by simp only [putD_dfr, hdf]) (by simp only [slot_put, Nat.reduceEqDiff, reduceIte]) (by simp only [slot_put, Nat.reduceEqDiff, reduceIte]), hf.gr (g1.mod _ (.inl hgr.nx)), fun _ => ?_⟩)
              rw [← hr]
              exact ⟨_, rfl, SlL.nil⟩
            · clear hx hy Kx Ky
              have hok : okS k x.2 = true := by simp only [okS, hc, hd, decide_false, Bool.or_false, Bool.not_false]
              rw [hdr, scaleR, if_pos hok] at hr
              refine R1.gen (fun A H3 => Gr H1 H3 ∧ H1.nx < H3.nx ∧ H3.get H1.nx = some (.arr (lotC x) 37 0 0) ∧ slot A.tm 1 = .one (.i .i64 k) ∧ slot A.tm 7 = .one v7 ∧ slot A.tm 9 = .one (.o (.ptr H1.nx 0 0 2)) ∧ slot A.tm 19 = .one (.o (.sl id g off l.length 2)) ∧ slot A.tm 20 = .one (.i .i64 (l.length : Int)) ∧ slot A.tm 21 = .one (.i .i64 (i : Int)) ∧ A.nt = 54 ∧ A.dfr = [])
                ⟨((Fr.refl _).new _).mod _ (.inl (Nat.le_refl _)), ?_⟩ ?_
              · simp only [slot_put, putD_nt, putD_dfr, Nat.reduceLT, and_true, if_true, if_false, nxNew, nxMod, get_modE, eqLt, eqGt, Nat.lt_add_one, t1, t7, t19, t20, t21, hnt, hdf, lotC]
              clear t1 t7 t19 t20 t21 hnt hdf A1 g1
              rintro A1 H3 ⟨g3, l9, gx, t1, t7, t9, t19, t20, t21, hnt, hdf⟩
              have hown3 := (hown.fr g3 fun _ _ h => h).fr ((Fr.refl _ : Gr _ _).new (.arr [.o (.str x.1), .i .i64 (IntKind.i64.wrap (x.2 * k))] 37 0 0)) fun _ _ h => h
              have hlt4 := hown3.lt
              have g4 : Gr H2 (H3.new (.arr [.o (.str x.1), .i .i64 (IntKind.i64.wrap (x.2 * k))] 37 0 0)) := (hgr.gr g3).new _
              obtain ⟨v5, H5, r5, happ, how5, hf5, hr5⟩ := append_own (P := Tryz.prog) (t := 22) (H := H3.new (.arr [.o (.str x.1), .i .i64 (IntKind.i64.wrap (x.2 * k))] 37 0 0)) (x := .one (.o (.sl H3.nx 0 0 1 2))) (k := 1) (c := [.o (.str x.1), .i .i64 (IntKind.i64.wrap (x.2 * k))]) elem22 bytes37 hz hzl (by decide) hown3
                (by rw [srcOf_row (cells := [.o (.str x.1), .i .i64 (IntKind.i64.wrap (x.2 * k))]) (by rw [get_newE rfl]; rfl) (by simp)]; rfl) (by decide) rfl (by omega) (by omega)
              have hw2 : IntKind.i64.wrap ((i : Int) + 1) = ((i + 1 : Nat) : Int) := by rw [wrapI (by omega) (by omega)]; omega
              refine R1.s_skip ?_
              refine R1.e_rg fun K hK => ?_
              simp only [SG_nil, SG_cons, SU_yes, gw_n, gOf_n, List.map_cons, List.map_nil, Option.map_some, Option.bind_some, optP_some, vN_val, ldN_some, faN_some, Nat.add_one_sub_one, Nat.one_mul, SK_move, SK_assign, SK_load, SK_bin, SK_fieldAddr, SK_build, SK_buildSlice, SK_append, evTmp, opFev, slot_put, putD_nt, slotOk, Nat.blt_eq, Nat.reduceLT, Nat.reduceLeDiff, true_and, and_true, if_true, if_false, ltV_ptr, ltV_sl, nxNew, eqLt, eqGt, doLoad_ptr, rowOf_arr, ldO_one, fieldAddr_at, Nat.reduceLeDiff, cells_one, cells_agg, noTup_one, noTup_agg, List.length_cons, List.length_nil, Nat.zero_add, Nat.add_zero, Nat.reduceAdd, Nat.reduceSub, Nat.le_refl, List.cons_append, List.nil_append, List.append_nil, ii_mul, List.take_succ_cons, List.take_zero, List.drop_succ_cons, List.drop_zero, List.drop_nil, List.headD_cons, Nat.lt_add_one, fill_nil, fill_cons, Nat.zero_mul, partsF_nil, partsF_cons, repl_one, E2_P, hnt, t1, t7, t9, gx, l9, lotC, field37_0, field37_1, load9, load3, zero37, place37, pl37_0, pl37_1, elem22, repl_one, happ]
              refine ⟨hlt4, ?_⟩
              refine hK _ _ ?_
              clear hK K
              refine q1 _ _ ?_
              repeat' first | refine R1.ret ?_ | refine R1.exit ?_ | refine R1.skip ?_ | refine R1.s_ret ?_ | refine R1.s_exit ?_ | refine R1.s_assoc ?_ | refine R1.s_skip ?_ | refine R1.s_scope ?_ | ((first | refine R1.e_rg fun K hK => ?_ | refine R1.s_rg fun K hK => ?_ | refine R1.e_sq (by kernel_rfl) fun K hK => ?_ | refine R1.s_sq (by kernel_rfl) fun K hK => ?_); simp only [SG_nil, SG_cons, SU_yes, gw_n, gOf_n, List.map_cons, List.map_nil, vN_val, SK_move, SK_bin, evTmp, ev_int, slot_put, putD_nt, slotOk, Nat.blt_eq, Nat.reduceLT, true_and, if_true, if_false, eqLt, eqGt, ii_add, Nat.lt_add_one, hnt, t21, hw2]; refine hK _ _ ?_; clear hK K)
              have e1 : (out ++ [mulS k x]).length = out.length + 1 := by simp
              have e2 : (out ++ [mulS k x]).flatMap lotC = out.flatMap lotC ++ [.o (.str x.1), .i .i64 (IntKind.i64.wrap (x.2 * k))] := by
                rw [List.flatMap_append]; rfl
              refine ⟨l.length - (i + 1), by omega, i + 1, out ++ [mulS k x], v5, some r5, rfl, hlt, by rw [e1]; omega, hr, by rw [e1, e2]; exact how5, fun q hq => ?_, g4.then hf5 fun q hq => .inl (hrow q hq), ?_, ?_, ?_, ?_, ?_, ?_, ?_⟩
              · cases hq
                rcases hr5 with h | ⟨_, h⟩
                · exact hrow _ h
                · rw [h, nxNew]; have := (hgr.gr g3).nx; omega
              · simp only [slot_put, Nat.reduceEqDiff, reduceIte, t1]
              · simp only [slot_put, Nat.reduceEqDiff, reduceIte]
              · simp only [slot_put, Nat.reduceEqDiff, reduceIte, t19]
              · simp only [slot_put, Nat.reduceEqDiff, reduceIte, t20]
              · simp only [slot_put, Nat.reduceEqDiff, reduceIte]
              · simp only [putD_nt, hnt]
              · simp only [putD_dfr, hdf]
        · refine hy ?_
          clear hx hy Kx Ky
          repeat' first | refine R1.ret ?_ | refine R1.exit ?_ | refine R1.skip ?_ | refine R1.s_ret ?_ | refine R1.s_exit ?_ | refine R1.s_assoc ?_ | refine R1.s_skip ?_ | refine R1.s_scope ?_ | ((first | refine R1.e_rg fun K hK => ?_ | refine R1.s_rg fun K hK => ?_ | refine R1.e_sq (by kernel_rfl) fun K hK => ?_ | refine R1.s_sq (by kernel_rfl) fun K hK => ?_); simp only [SG_nil, SG_cons, SU_yes, SU_no, gw_n, gw_gwv, gwv_b, gwv_u, gOf_n, gOf_some, List.map_cons, List.map_nil, List.getElem?_cons_zero, List.getElem?_cons_succ, Option.elim_some, Option.map_some, Option.bind_some, optP_some, boolP_b, boolP'_b, boolE_b, decide_eq_true_eq, decide_true, decide_false, valP_val, valP_guard, vN_val, ldN_some, stN_some, faN_some, iaN_some, lnN_some, pkN_b, sliceO_some, slice_lo, slice_hi, slice_1, indexAddr_0, Nat.add_one_sub_one, Nat.one_mul, len_sl, len_ns, len_str', posS, eq0S, cast0, Int.reduceLT, Int.reduceLE, Int.reduceBEq, Option.map_none, Nat.lt_add_left_iff_pos, Nat.zero_lt_succ, Nat.le_add_left, SK_move, SK_assign, SK_pick, SK_alloc, SK_box, SK_load, SK_store, SK_bin, SK_not, SK_fieldAddr, SK_field, SK_indexAddr, SK_slice, SK_extract, SK_nilCheck, SK_makeFunc, SK_makeMap, SK_makeSlice, SK_build, SK_buildSlice, SK_len, SK_append, SK_call, doCall_clo, doCall_clo, evTmp, ev_int, ev_bool, ev_str, ev_nilS, ev_func, opFev, evs_cons, evs_nil, slot_put, putD_nt, putD_none, putD_dfr, slotOk, Nat.blt_eq, Nat.reduceLT, Nat.reduceEqDiff, Nat.reduceLeDiff, reduceIte, true_and, and_true, true_or, or_true, if_true, if_false, Bool.false_eq_true, Bool.true_eq_false, not_false_eq_true, not_true_eq_false, ltV_ptr, ltV_sl, ltV_nil, ltV_str, ltV_i, nxNew, nxMod, get_newE, get_newL, get_modE, get_modN, ltAdd, ltSelf, eqLt, eqGt, eqLtA, eqGtA, eqSelfA, eqASelf, eqAA, ltAA, doLoad_ptr, doStore_ptr, rowOf_arr, rowOf_ro, ldO_agg, ldO_one, stO_arr, splice_eq, fieldAddr_at, Bool.not_eq_true', Bool.not_eq_false', decide_eq_false_iff_not, ne_eq, Nat.reduceLeDiff, Nat.lt_irrefl, gt_iff_lt, cells_one, cells_agg, noTup_one, noTup_agg, List.length_cons, List.length_nil, Nat.zero_add, Nat.add_zero, Nat.reduceAdd, Nat.reduceSub, Nat.reduceMul, Nat.le_refl, Nat.zero_le, capsOf_nil, capsOf_cons, capArgs_nil, capArgs_cons, List.cons_append, List.nil_append, List.append_nil, ex_0, ex_0a, ex_1, ex_1a, ex_2, ex_2a, ii_lss, ii_leq, ii_gtr, ii_geq, ii_eql, ii_neq, ii_add, ii_sub, ii_mul, ss_lss, ss_geq, ss_leq, ss_gtr, ss_eql, ss_neq, List.take_succ_cons, List.take_zero, List.drop_succ_cons, List.drop_zero, List.take_nil, List.drop_nil, List.headD_cons, Bool.not_true, Bool.not_false, Nat.lt_add_one, bin_agg, bin_b, agg2_agg, bool2_b, aggEq_nil, aggEq_s, aggEq_i, aggEq_b, aggO_some, fill_nil, fill_cons, Nat.zero_mul, partsF_nil, partsF_cons, repl_one, hnt]; refine hK _ _ ?_; clear hK K)
          refine k2 _ _ ?_
          repeat' first | refine R1.ret ?_ | refine R1.exit ?_ | refine R1.skip ?_ | refine R1.s_ret ?_ | refine R1.s_exit ?_ | refine R1.s_assoc ?_ | refine R1.s_skip ?_ | refine R1.s_scope ?_ | ((first | refine R1.e_rg fun K hK => ?_ | refine R1.s_rg fun K hK => ?_ | refine R1.e_sq (by kernel_rfl) fun K hK => ?_ | refine R1.s_sq (by kernel_rfl) fun K hK => ?_); simp only [SG_nil, SG_cons, SU_yes, gw_n, gOf_n, List.map_cons, List.map_nil, SK_move, SK_assign, evTmp, ev_int, slot_put, putD_nt, slotOk, Nat.blt_eq, Nat.reduceLT, true_and, if_true, if_false, eqLt, eqGt, Nat.lt_add_one, hnt, t7]; refine hK _ _ ?_; clear hK K)
          have : i = l.length := by omega
          subst this
          rw [List.drop_length, scaleR] at hr
          refine ⟨_, _, callEnd_two v7 (.i .i64 0) (.inr rfl) (by simp only [putD_dfr, hdf]) (by simp only [slot_put, Nat.reduceEqDiff, reduceIte]) (by simp only [slot_put, Nat.reduceEqDiff, reduceIte]), hf.gr hgr, fun _ => ?_⟩
          rw [← hr]
          exact ⟨_, rfl, hown.slc⟩
      all_goals simp only [slot_put, Nat.reduceEqDiff, reduceIte, h1]
      all_goals rfl
end Go.Proofs.YtndipbefnipnpaaGreat
