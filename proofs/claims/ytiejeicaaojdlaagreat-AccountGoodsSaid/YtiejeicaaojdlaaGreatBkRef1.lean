/- The reference's IsName, SignAt, Values, Check: what they answer. -/
import Derived.Test.YtiejeicaaojdlaaGreatBkCkg
namespace Go.Proofs.YtiejeicaaojdlaaGreat
open Go Go.Eng

section
variable {st : Bool} {E : Env} {A : AAct} {H : Hp} {next : AAct → Hp → Prop} {d : Option Tmp} {ty : TypeId} {pos : String} {af : Array Edge} {gd : Option (Nat × Bool)}
theorem SK_index {t : TypeId} {x i : Operand} : SK st E ⟨d, .index t x i, ty, pos, af, gd⟩ A H next = vN next A d (doIndex H (isStrT E.P t) (ev A.tm x) (ev A.tm i) (plainOp E.P A.tm H ⟨d, .index t x i, ty, pos, af, gd⟩)) := tand
theorem str_at {s : List UInt8} {n : Nat} {b : UInt8} {k : IntKind} {alt : ANext} (h : s[n]? = some b) : doIndex H true (.one (.o (.str s))) (.one (.i k (n : Int))) alt = .val (.one (.i .u8 (b.toNat : Int))) H := by
  show nd (nthB n s) _ _ = _
  rw [nthB_eq, h]; rfl
theorem str_0 {c : UInt8} {s : List UInt8} {k : IntKind} {alt : ANext} : doIndex H true (.one (.o (.str (c :: s)))) (.one (.i k 0)) alt = .val (.one (.i .u8 (c.toNat : Int))) H := rfl
end
theorem bd_refName : hasBody Tryz.prog 37 = true := by kernel_rfl

theorem okB_dec (c : UInt8) : okB c = (decide ((c.toNat : Int) = 95) || (decide (97 ≤ (c.toNat : Int)) && decide ((c.toNat : Int) ≤ 122)) || (decide (48 ≤ (c.toNat : Int)) && decide ((c.toNat : Int) ≤ 57))) := by
  rw [Bool.eq_iff_iff, okB_iff]
  simp only [Bool.or_eq_true, Bool.and_eq_true, decide_eq_true_eq, or_assoc]
theorem nmB_cons (c : UInt8) (l : List UInt8) : nmB (c :: l) = (decide (l.length + 1 ≤ 16) && (decide (97 ≤ (c.toNat : Int)) && decide ((c.toNat : Int) ≤ 122)) && (c :: l).all okB) := by
  unfold nmB
  have e1 : decide (97 ≤ (c.toNat : Int)) = decide ((97 : UInt8) ≤ c) := by
    rw [decide_eq_decide, UInt8.le_iff_toNat_le]
    show (97 : Int) ≤ c.toNat ↔ 97 ≤ c.toNat
    omega
  have e2 : decide ((c.toNat : Int) ≤ 122) = decide (c ≤ (122 : UInt8)) := by
    rw [decide_eq_decide, UInt8.le_iff_toNat_le]
    show (c.toNat : Int) ≤ 122 ↔ c.toNat ≤ 122
    omega
  rw [e1, e2]
  simp only [List.isEmpty_cons, Bool.not_false, Bool.true_and, List.length_cons, Bool.and_assoc]

set_option maxRecDepth 10000 in
set_option maxHeartbeats 4000000 in
theorem refName_con (H : Hp) (s : List UInt8) : Con E2 37 [.one (.o (.str s))] H (fun _ => False) fun v _ => v = .one (.b (nmB s)) := by
  refine Con.of rfl fun lg => ?_
  generalize (⟨H.t, H.nx, lg⟩ : Hp) = H
  refine C1.body (E := E2) (nt := 52) (res := [.tmp 2]) Tryz.func37 rfl rfl rfl rfl rfl fun tm hargs => ?_
  have h0 := hargs 0 _ rfl
  clear hargs
  cases s with
  | nil =>
    repeat' first | refine R1.ret ?_ | refine R1.exit ?_ | refine R1.skip ?_ | refine R1.s_ret ?_ | refine R1.s_exit ?_ | refine R1.s_assoc ?_ | refine R1.s_skip ?_ | refine R1.s_scope ?_ | ((first | refine R1.e_rg fun K hK => ?_ | refine R1.s_rg fun K hK => ?_ | refine R1.e_sq (by kernel_rfl) fun K hK => ?_ | refine R1.s_sq (by kernel_rfl) fun K hK => ?_); simp only [SG_nil, SG_cons, SU_yes, gw_n, gOf_n, gOf_some, List.map_cons, List.map_nil, List.getElem?_cons_zero, List.getElem?_cons_succ, Option.elim_some, Nat.zero_lt_succ, SK_move, SK_assign, SK_len, evTmp, ev_bool, slot_put, putD_nt, slotOk, Nat.blt_eq, Nat.reduceLT, true_and, if_true, if_false, eqLt, eqGt, E2_P]; refine hK _ _ ?_; clear hK K)
    repeat refine R1.s_assoc ?_
    refine R1.s_rg fun K hK => ?_
    simp only [SG_nil, SG_cons, SU_yes, SU_no, gw_n, gw_gwv, gwv_b, gOf_n, gOf_some, List.map_cons, List.map_nil, List.getElem?_cons_zero, List.getElem?_cons_succ, Option.elim_some, decide_true, vN_val, lnN_some, pkN_b, len_str', cast0, Int.reduceLT, Nat.zero_lt_succ, SK_move, SK_pick, SK_bin, SK_len, evTmp, ev_int, ev_bool, slot_put, putD_nt, slotOk, Nat.blt_eq, Nat.reduceLT, true_and, if_true, if_false, Bool.true_eq_false, ltV_str, eqLt, eqGt, List.length_nil, ii_lss, Nat.lt_add_one, E2_P, h0, ln_str]
    refine hK _ _ ?_
    clear hK K
    repeat refine R1.s_assoc ?_
    (first | refine R1.s_cnd fun Kx Ky hx hy => ?_ | refine R1.e_cnd fun Kx Ky hx hy => ?_); simp only [boolP'_b, evTmp, slot_put, Nat.reduceLT, if_true, if_false, eqGt, Nat.lt_add_one]
    refine hx ?_
    clear hx hy Kx Ky
    repeat' first | refine R1.ret ?_ | refine R1.exit ?_ | refine R1.skip ?_ | refine R1.s_ret ?_ | refine R1.s_exit ?_ | refine R1.s_assoc ?_ | refine R1.s_skip ?_ | refine R1.s_scope ?_ | ((first | refine R1.e_rg fun K hK => ?_ | refine R1.s_rg fun K hK => ?_ | refine R1.e_sq (by kernel_rfl) fun K hK => ?_ | refine R1.s_sq (by kernel_rfl) fun K hK => ?_); simp only [SG_nil, SG_cons, SU_yes, gw_n, gOf_n, List.map_cons, List.map_nil, SK_assign, ev_bool, putD_nt, slotOk, Nat.blt_eq, Nat.reduceLT, true_and]; refine hK _ _ ?_; clear hK K)
    exact ⟨_, _, callEnd_one (.b false) (.inr rfl) rfl (by simp only [slot_put, Nat.reduceEqDiff, reduceIte]), Fr.refl _, fun _ => rfl⟩
  | cons c l =>
    have hl1 : (((l.length + 1 : Nat) : Int) < 1) = False := eq_false (by omega)
    repeat' first | refine R1.ret ?_ | refine R1.exit ?_ | refine R1.skip ?_ | refine R1.s_ret ?_ | refine R1.s_exit ?_ | refine R1.s_assoc ?_ | refine R1.s_skip ?_ | refine R1.s_scope ?_ | ((first | refine R1.e_rg fun K hK => ?_ | refine R1.s_rg fun K hK => ?_ | refine R1.e_sq (by kernel_rfl) fun K hK => ?_ | refine R1.s_sq (by kernel_rfl) fun K hK => ?_); simp only [SG_nil, SG_cons, SU_yes, gw_n, gOf_n, gOf_some, List.map_cons, List.map_nil, List.getElem?_cons_zero, List.getElem?_cons_succ, Option.elim_some, Nat.zero_lt_succ, SK_move, SK_assign, SK_len, evTmp, ev_bool, slot_put, putD_nt, slotOk, Nat.blt_eq, Nat.reduceLT, true_and, if_true, if_false, eqLt, eqGt, E2_P]; refine hK _ _ ?_; clear hK K)
    repeat refine R1.s_assoc ?_
    refine R1.s_rg fun K hK => ?_
    simp only [SG_cons, SU_yes, gw_n, gw_gwv, gwv_b, gOf_n, gOf_some, List.map_cons, List.map_nil, List.getElem?_cons_zero, List.getElem?_cons_succ, Option.elim_some, decide_false, vN_val, lnN_some, pkN_b, len_str', Nat.zero_lt_succ, SK_move, SK_pick, SK_bin, SK_len, evTmp, ev_int, ev_bool, slot_put, putD_nt, slotOk, Nat.blt_eq, Nat.reduceLT, true_and, if_true, if_false, Bool.false_eq_true, ltV_str, eqLt, eqGt, decide_eq_false_iff_not, List.length_cons, ii_lss, ii_gtr, Nat.lt_add_one, E2_P, h0, ln_str, hl1]
    repeat' (refine SU_iteI (fun hc => ?_) (fun hc => ?_) <;> (try simp only [Classical.not_not] at hc) <;> simp only [hc, SG_nil, SG_cons, SU_yes, SU_no, gw_n, gw_gwv, gwv_b, decide_true, decide_false, vN_val, pkN_b, Nat.zero_lt_succ, SK_move, SK_pick, SK_bin, evTmp, ev_int, ev_bool, slot_put, putD_nt, slotOk, Nat.blt_eq, Nat.reduceLT, true_and, if_true, if_false, Bool.false_eq_true, Bool.true_eq_false, eqLt, eqGt, decide_eq_false_iff_not, ii_lss, ii_gtr, Nat.lt_add_one, E2_P, h0, SK_index, is_str, str_0])
    all_goals refine hK _ _ ?_
    all_goals clear hK K
    all_goals repeat refine R1.s_assoc ?_
              (first | refine R1.s_cnd fun Kx Ky hx hy => ?_ | refine R1.e_cnd fun Kx Ky hx hy => ?_); simp only [boolP'_b, decide_eq_true_eq, evTmp, slot_put, Nat.reduceLT, if_true, if_false, eqGt, Nat.lt_add_one]
    all_goals first | refine hx ?_ | refine hy ?_ | refine iteI (fun hd => hx ?_) (fun hd => hy ?_)
    all_goals clear hx hy Kx Ky
    all_goals repeat' first | refine R1.ret ?_ | refine R1.exit ?_ | refine R1.skip ?_ | refine R1.s_ret ?_ | refine R1.s_exit ?_ | refine R1.s_assoc ?_ | refine R1.s_skip ?_ | refine R1.s_scope ?_ | ((first | refine R1.e_rg fun K hK => ?_ | refine R1.s_rg fun K hK => ?_ | refine R1.e_sq (by kernel_rfl) fun K hK => ?_ | refine R1.s_sq (by kernel_rfl) fun K hK => ?_); simp only [SG_nil, SG_cons, SU_yes, gw_n, gOf_n, List.map_cons, List.map_nil, SK_assign, ev_int, ev_bool, putD_nt, slotOk, Nat.blt_eq, Nat.reduceLT, true_and]; refine hK _ _ ?_; clear hK K)
    all_goals first
      | (refine ⟨_, _, callEnd_one (.b false) (.inr rfl) rfl (by simp only [slot_put, Nat.reduceEqDiff, reduceIte]), Fr.refl _, fun _ => ?_⟩
         have : nmB (c :: l) = false := Bool.eq_false_iff.2 fun h => by
           rw [nmB_cons] at h
           simp only [Bool.and_eq_true, decide_eq_true_eq] at h
           omega
         rw [this]; done)
      | skip
    rename_i hl16
    have hnm : nmB (c :: l) = (c :: l).all okB := by
      rw [nmB_cons, decide_eq_true (by omega : l.length + 1 ≤ 16), decide_eq_true (by omega : 97 ≤ (c.toNat : Int)), decide_eq_true (by omega : (c.toNat : Int) ≤ 122)]; rfl
    rw [hnm]
    clear hnm hl1 hc hd
    generalize hs : c :: l = s at h0 ⊢
    have hlen : s.length ≤ 16 := by rw [← hs, List.length_cons]; omega
    clear hl16 hs
    refine R1.s_block fun K k1 k2 k3 k4 => ?_
    refine R1.loop (fun m A1 H1 => ∃ i : Nat, m = s.length - i ∧ i ≤ s.length ∧ H1 = H ∧ (s.take i).all okB = true ∧ slot A1.tm 0 = .one (.o (.str s)) ∧ slot A1.tm 3 = .one (.i .i64 (i : Int)) ∧ A1.nt = 52 ∧ A1.dfr = []) ?_ s.length
      ⟨0, rfl, Nat.zero_le _, rfl, rfl, ?_, ?_, rfl, rfl⟩
    · clear h0 tm
      rintro m A1 H1 ⟨i, rfl, hi, rfl, hall, t0, t3, hnt, hdf⟩
      repeat' first | refine R1.ret ?_ | refine R1.exit ?_ | refine R1.skip ?_ | refine R1.s_ret ?_ | refine R1.s_exit ?_ | refine R1.s_assoc ?_ | refine R1.s_skip ?_ | refine R1.s_scope ?_ | ((first | refine R1.e_rg fun K hK => ?_ | refine R1.s_rg fun K hK => ?_ | refine R1.e_sq (by kernel_rfl) fun K hK => ?_ | refine R1.s_sq (by kernel_rfl) fun K hK => ?_); simp only [SG_nil, SG_cons, SU_yes, gw_n, gOf_n, List.map_cons, List.map_nil, vN_val, lnN_some, len_str', Nat.zero_lt_succ, SK_move, SK_bin, SK_len, evTmp, slot_put, putD_nt, slotOk, Nat.blt_eq, Nat.reduceLT, true_and, if_true, if_false, ltV_str, eqLt, eqGt, ii_lss, Nat.lt_add_one, E2_P, t0, t3, hnt, ln_str]; refine hK _ _ ?_; clear hK K)
      repeat refine R1.s_assoc ?_
      (first | refine R1.s_cnd fun Kx Ky hx hy => ?_ | refine R1.e_cnd fun Kx Ky hx hy => ?_); simp only [boolP'_b, decide_eq_true_eq, evTmp, slot_put, Nat.reduceLT, if_true, if_false, eqGt, Nat.lt_add_one]
      refine iteI (fun hc => hx ?_) (fun hc => hy ?_)
      · clear hx hy Kx Ky
        have hlt : i < s.length := by omega
        have hb : s[i]? = some s[i] := List.getElem?_eq_getElem hlt
        have htk : s.take (i + 1) = s.take i ++ [s[i]] := List.take_succ_eq_append_getElem hlt
        have hmem : s[i] ∈ s := List.getElem_mem hlt
        generalize s[i] = b at hb htk hmem
        refine R1.s_skip (R1.s_block fun K2 q1 q2 q3 q4 => ?_)
        repeat refine R1.s_assoc ?_
        refine R1.s_rg fun K hK => ?_
        simp only [SG_nil, SG_cons, SU_yes, gw_n, gOf_n, List.map_cons, List.map_nil, vN_val, Nat.zero_lt_succ, SK_move, SK_assign, evTmp, slot_put, putD_nt, slotOk, Nat.blt_eq, Nat.reduceLT, true_and, if_true, if_false, eqLt, eqGt, Nat.lt_add_one, E2_P, t0, t3, hnt, SK_index, is_str, str_at hb]
        refine hK _ _ ?_
        clear hK K
        repeat refine R1.s_assoc ?_
        refine R1.s_rg fun K hK => ?_
        simp only [SG_cons, SU_yes, gw_n, gw_gwv, gwv_b, gOf_n, gOf_some, List.map_cons, List.map_nil, List.getElem?_cons_zero, List.getElem?_cons_succ, Option.elim_some, decide_eq_true_eq, vN_val, SK_move, SK_bin, evTmp, ev_int, slot_put, putD_nt, slotOk, Nat.blt_eq, Nat.reduceLT, true_and, if_true, if_false, eqLt, eqGt, ii_geq, Nat.lt_add_one, E2_P, hnt]
        repeat' (refine SU_iteI (fun hc => ?_) (fun hc => ?_) <;> (try simp only [Classical.not_not] at hc) <;> simp only [hc, SG_nil, SG_cons, SU_yes, SU_no, gw_n, gw_gwv, gwv_b, gwv_u, boolE_b, decide_eq_true_eq, decide_true, decide_false, vN_val, pkN_b, SK_move, SK_pick, SK_bin, SK_not, evTmp, ev_int, ev_bool, slot_put, putD_nt, slotOk, Nat.blt_eq, Nat.reduceLT, true_and, if_true, if_false, Bool.false_eq_true, eqLt, eqGt, Bool.not_eq_true', decide_eq_false_iff_not, ii_leq, ii_geq, ii_neq, Bool.not_true, Bool.not_false, Nat.lt_add_one, E2_P, hnt])
        all_goals refine hK _ _ ?_
        all_goals clear hK K
        all_goals repeat refine R1.s_assoc ?_
                  (first | refine R1.s_cnd fun Kx Ky hx hy => ?_ | refine R1.e_cnd fun Kx Ky hx hy => ?_); simp only [boolP'_b, evTmp, slot_put, Nat.reduceLT, if_true, if_false, Bool.false_eq_true, eqGt, Bool.not_eq_true', Nat.lt_add_one]
        all_goals first | refine hx ?_ | refine hy ?_ | refine iteI (fun hd => hx ?_) (fun hd => hy ?_)
        all_goals clear hx hy Kx Ky
        all_goals (try simp only [beq_eq_false_iff_ne, ne_eq, Classical.not_not] at hd)
        all_goals repeat' first | refine R1.ret ?_ | refine R1.exit ?_ | refine R1.skip ?_ | refine R1.s_ret ?_ | refine R1.s_exit ?_ | refine R1.s_assoc ?_ | refine R1.s_skip ?_ | refine R1.s_scope ?_ | ((first | refine R1.e_rg fun K hK => ?_ | refine R1.s_rg fun K hK => ?_ | refine R1.e_sq (by kernel_rfl) fun K hK => ?_ | refine R1.s_sq (by kernel_rfl) fun K hK => ?_); simp only [SG_nil, SG_cons, SU_yes, gw_n, gOf_n, List.map_cons, List.map_nil, SK_assign, ev_bool, putD_nt, slotOk, Nat.blt_eq, Nat.reduceLT, true_and, hnt]; refine hK _ _ ?_; clear hK K)
        all_goals first
          | (refine q4 _ _ (k4 _ _ ⟨_, _, callEnd_one (.b false) (.inr rfl) (by simp only [putD_dfr, hdf]) (by simp only [slot_put, Nat.reduceEqDiff, reduceIte]), Fr.refl _, fun _ => ?_⟩)
             have hno : okB b = false := Bool.eq_false_iff.2 fun h => by
               rw [okB_dec] at h
               simp only [Bool.or_eq_true, Bool.and_eq_true, decide_eq_true_eq] at h
               omega
             have : s.all okB = false := List.all_eq_false.2 ⟨b, hmem, by rw [hno]; decide⟩
             rw [this]; done)
          | (refine q1 _ _ ?_
             have hok : okB b = true := by
               rw [okB_dec]
               simp only [Bool.or_eq_true, Bool.and_eq_true, decide_eq_true_eq]
               omega
             have hw2 : IntKind.i64.wrap ((i : Int) + 1) = ((i + 1 : Nat) : Int) := by rw [wrapI (by omega) (by omega)]; omega
             repeat' first | refine R1.ret ?_ | refine R1.exit ?_ | refine R1.skip ?_ | refine R1.s_ret ?_ | refine R1.s_exit ?_ | refine R1.s_assoc ?_ | refine R1.s_skip ?_ | refine R1.s_scope ?_ | ((first | refine R1.e_rg fun K hK => ?_ | refine R1.s_rg fun K hK => ?_ | refine R1.e_sq (by kernel_rfl) fun K hK => ?_ | refine R1.s_sq (by kernel_rfl) fun K hK => ?_); simp only [SG_nil, SG_cons, SU_yes, gw_n, gOf_n, List.map_cons, List.map_nil, vN_val, SK_move, SK_assign, SK_bin, evTmp, ev_int, slot_put, putD_nt, slotOk, Nat.blt_eq, Nat.reduceLT, true_and, if_true, if_false, eqLt, eqGt, ii_add, Nat.lt_add_one, t3, hnt, hw2]; refine hK _ _ ?_; clear hK K)
             refine ⟨s.length - (i + 1), by omega, i + 1, rfl, hlt, rfl, by rw [htk, List.all_append, hall, List.all_cons, hok]; rfl, ?_, ?_, ?_, ?_⟩
             · simp only [slot_put, Nat.reduceEqDiff, reduceIte, t0]
             · simp only [slot_put, Nat.reduceEqDiff, reduceIte]
             · simp only [putD_nt, hnt]
             · simp only [putD_dfr, hdf])
      · clear hx hy Kx Ky
        have hie : i = s.length := by omega
        repeat' first | refine R1.ret ?_ | refine R1.exit ?_ | refine R1.skip ?_ | refine R1.s_ret ?_ | refine R1.s_exit ?_ | refine R1.s_assoc ?_ | refine R1.s_skip ?_ | refine R1.s_scope ?_ | ((first | refine R1.e_rg fun K hK => ?_ | refine R1.s_rg fun K hK => ?_ | refine R1.e_sq (by kernel_rfl) fun K hK => ?_ | refine R1.s_sq (by kernel_rfl) fun K hK => ?_); simp only [SG_nil, SG_cons, SU_yes, SU_no, gw_n, gw_gwv, gwv_b, gwv_u, gOf_n, gOf_some, List.map_cons, List.map_nil, List.getElem?_cons_zero, List.getElem?_cons_succ, Option.elim_some, Option.map_some, Option.bind_some, optP_some, boolP_b, boolP'_b, boolE_b, decide_eq_true_eq, decide_true, decide_false, valP_val, valP_guard, vN_val, ldN_some, stN_some, faN_some, iaN_some, lnN_some, pkN_b, sliceO_some, slice_lo, slice_hi, slice_1, indexAddr_0, Nat.add_one_sub_one, Nat.one_mul, len_sl, len_ns, len_str', posS, eq0S, cast0, Int.reduceLT, Int.reduceLE, Int.reduceBEq, Option.map_none, Nat.lt_add_left_iff_pos, Nat.zero_lt_succ, Nat.le_add_left, SK_move, SK_assign, SK_pick, SK_alloc, SK_box, SK_load, SK_store, SK_bin, SK_not, SK_fieldAddr, SK_field, SK_indexAddr, SK_slice, SK_extract, SK_nilCheck, SK_makeFunc, SK_makeMap, SK_makeSlice, SK_build, SK_buildSlice, SK_len, SK_append, SK_call, doCall_clo, doCall_clo, evTmp, ev_int, ev_bool, ev_str, ev_nilS, ev_func, opFev, evs_cons, evs_nil, slot_put, putD_nt, putD_none, putD_dfr, slotOk, Nat.blt_eq, Nat.reduceLT, Nat.reduceEqDiff, Nat.reduceLeDiff, reduceIte, true_and, and_true, true_or, or_true, if_true, if_false, Bool.false_eq_true, Bool.true_eq_false, not_false_eq_true, not_true_eq_false, ltV_ptr, ltV_sl, ltV_nil, ltV_str, ltV_i, nxNew, nxMod, get_newE, get_newL, get_modE, get_modN, ltAdd, ltSelf, eqLt, eqGt, eqLtA, eqGtA, eqSelfA, eqASelf, eqAA, ltAA, doLoad_ptr, doStore_ptr, rowOf_arr, rowOf_ro, ldO_agg, ldO_one, stO_arr, splice_eq, fieldAddr_at, Bool.not_eq_true', Bool.not_eq_false', decide_eq_false_iff_not, ne_eq, Nat.reduceLeDiff, Nat.lt_irrefl, gt_iff_lt, cells_one, cells_agg, noTup_one, noTup_agg, List.length_cons, List.length_nil, Nat.zero_add, Nat.add_zero, Nat.reduceAdd, Nat.reduceSub, Nat.reduceMul, Nat.le_refl, Nat.zero_le, capsOf_nil, capsOf_cons, capArgs_nil, capArgs_cons, List.cons_append, List.nil_append, List.append_nil, ex_0, ex_0a, ex_1, ex_1a, ex_2, ex_2a, ii_lss, ii_leq, ii_gtr, ii_geq, ii_eql, ii_neq, ii_add, ii_sub, ii_mul, ss_lss, ss_geq, ss_leq, ss_gtr, ss_eql, ss_neq, List.take_succ_cons, List.take_zero, List.drop_succ_cons, List.drop_zero, List.take_nil, List.drop_nil, List.headD_cons, Bool.not_true, Bool.not_false, Nat.lt_add_one, bin_agg, bin_b, agg2_agg, bool2_b, aggEq_nil, aggEq_s, aggEq_i, aggEq_b, aggO_some, fill_nil, fill_cons, Nat.zero_mul, partsF_nil, partsF_cons, repl_one, SK_lookup, SK_mapUpdate, lkN_some, upN_some, ltV_mp, nilCheck_ptr, lookOut_f, lookOut_t, doCall_yl, ofValue_int, ofValue_bool, ev_nilP, ev_nilM, ev_nilF, hnt]; refine hK _ _ ?_; clear hK K)
        refine k2 _ _ ?_
        repeat' first | refine R1.ret ?_ | refine R1.exit ?_ | refine R1.skip ?_ | refine R1.s_ret ?_ | refine R1.s_exit ?_ | refine R1.s_assoc ?_ | refine R1.s_skip ?_ | refine R1.s_scope ?_ | ((first | refine R1.e_rg fun K hK => ?_ | refine R1.s_rg fun K hK => ?_ | refine R1.e_sq (by kernel_rfl) fun K hK => ?_ | refine R1.s_sq (by kernel_rfl) fun K hK => ?_); simp only [SG_nil, SG_cons, SU_yes, gw_n, gOf_n, List.map_cons, List.map_nil, SK_assign, ev_bool, putD_nt, slotOk, Nat.blt_eq, Nat.reduceLT, true_and, hnt]; refine hK _ _ ?_; clear hK K)
        refine ⟨_, _, callEnd_one (.b true) (.inr rfl) (by simp only [putD_dfr, hdf]) (by simp only [slot_put, Nat.reduceEqDiff, reduceIte]), Fr.refl _, fun _ => ?_⟩
        rw [hie, List.take_length] at hall
        rw [hall]
    all_goals simp only [slot_put, Nat.reduceEqDiff, reduceIte, h0]
    all_goals rfl

theorem bd_signAt : hasBody Tryz.prog 107 = true := by kernel_rfl
theorem bd_values : hasBody Tryz.prog 108 = true := by kernel_rfl
theorem bd_refCheck : hasBody Tryz.prog 67 = true := by kernel_rfl

/-- The index of the first unit with a sign. -/
def idxU : Nat → List Pr → List UInt8 → Int
  | _, [], _ => -1
  | n, x :: l, s => if x.1 = s then (n : Int) else idxU (n + 1) l s

set_option maxRecDepth 10000 in
set_option maxHeartbeats 4000000 in
theorem signAt_con (H : Hp) (n : List UInt8) (u : AC) (us : List Pr) (s : List UInt8) (hu : SlP H u us) (hL : us.length ≤ 1000000) :
    Con E2 107 [.agg [.o (.str n), u], .one (.o (.str s))] H (fun _ => False) fun r _ => r = .one (.i .i64 (idxU 0 us s)) := by
  refine Con.of rfl fun lg => ?_
  have hu : SlP ⟨H.t, H.nx, lg⟩ u us := hu
  generalize (⟨H.t, H.nx, lg⟩ : Hp) = H at hu ⊢
  refine C1.body (E := E2) (nt := 22) (res := [.tmp 4]) Tryz.func107 rfl rfl rfl rfl rfl fun tm hargs => ?_
  have h0 := hargs 0 _ rfl
  have h1 := hargs 1 _ rfl
  clear hargs
  generalize hr0 : idxU 0 us s = r0
  repeat refine R1.s_assoc ?_
  refine R1.s_rg fun K hK => ?_
  simp only [SG_nil, SG_cons, SU_yes, gw_n, gOf_n, List.map_cons, List.map_nil, SK_assign, SK_box, evTmp, ev_int, putD_nt, slotOk, Nat.blt_eq, Nat.reduceLT, true_and, cells_agg, noTup_agg, List.length_cons, List.length_nil, Nat.zero_add, Nat.reduceAdd, h0]
  refine hK _ _ ?_
  clear hK K
  refine R1.gen (fun A1 H1 => Gr H H1 ∧ H.nx < H1.nx ∧ H1.get H.nx = some (.arr [.o (.str n), u] 78 0 0) ∧ slot A1.tm 1 = .one (.o (.str s)) ∧ slot A1.tm 2 = .one (.o (.ptr H.nx 0 0 2)) ∧ A1.nt = 22 ∧ A1.dfr = [])
    ⟨(Fr.refl _).new _, ?_⟩ ?_
  · simp only [slot_put, putD_nt, putD_dfr, Nat.reduceLT, and_true, if_true, if_false, nxNew, get_newE, eqLt, Nat.lt_add_one, h1]
  rintro A1 H1 ⟨g1, lb, rb, t1, t2, hnt, hdf⟩
  clear h0 h1 tm
  have hu1 := hu.gr g1
  repeat' first | refine R1.ret ?_ | refine R1.exit ?_ | refine R1.skip ?_ | refine R1.s_ret ?_ | refine R1.s_exit ?_ | refine R1.s_assoc ?_ | refine R1.s_skip ?_ | refine R1.s_scope ?_ | ((first | refine R1.e_rg fun K hK => ?_ | refine R1.s_rg fun K hK => ?_ | refine R1.e_sq (by kernel_rfl) fun K hK => ?_ | refine R1.s_sq (by kernel_rfl) fun K hK => ?_); simp only [SG_nil, SG_cons, SU_yes, gw_n, gOf_n, List.map_cons, List.map_nil, SK_assign, ev_int, slotOk, Nat.blt_eq, Nat.reduceLT, true_and, hnt]; refine hK _ _ ?_; clear hK K)
  refine R1.s_block fun K k1 k2 k3 k4 => ?_
  refine R1.loop (fun k A H2 => ∃ i : Nat, k = us.length - i ∧ i ≤ us.length ∧ H2 = H1 ∧ idxU i (us.drop i) s = r0 ∧ slot A.tm 1 = .one (.o (.str s)) ∧ slot A.tm 2 = .one (.o (.ptr H.nx 0 0 2)) ∧ slot A.tm 5 = .one (.i .i64 (i : Int)) ∧ A.nt = 22 ∧ A.dfr = []) ?_ us.length
    ⟨0, rfl, Nat.zero_le _, rfl, hr0, ?_⟩
  · clear t1 t2 hnt hdf A1
    rintro k A H2 ⟨i, rfl, hi, rfl, hr, t1, t2, t5, hnt, hdf⟩
    repeat' first | refine R1.ret ?_ | refine R1.exit ?_ | refine R1.skip ?_ | refine R1.s_ret ?_ | refine R1.s_exit ?_ | refine R1.s_assoc ?_ | refine R1.s_skip ?_ | refine R1.s_scope ?_ | ((first | refine R1.e_rg fun K hK => ?_ | refine R1.s_rg fun K hK => ?_ | refine R1.e_sq (by kernel_rfl) fun K hK => ?_ | refine R1.s_sq (by kernel_rfl) fun K hK => ?_); simp only [SG_nil, SG_cons, SU_yes, gw_n, gOf_n, List.map_cons, List.map_nil, vN_val, ldN_some, faN_some, lnN_some, Nat.add_one_sub_one, SK_move, SK_load, SK_bin, SK_fieldAddr, SK_len, evTmp, slot_put, putD_nt, slotOk, Nat.blt_eq, Nat.reduceLT, true_and, if_true, if_false, ltV_ptr, eqLt, eqGt, doLoad_ptr, rowOf_arr, ldO_one, fieldAddr_at, List.length_cons, List.length_nil, Nat.zero_add, Nat.reduceAdd, Nat.le_refl, ii_lss, List.drop_succ_cons, List.drop_zero, List.headD_cons, Nat.lt_add_one, E2_P, t2, t5, hnt, rb, lb, fd_lad_1, ld_units, ln_units, hu1.len, hu1.lt]; refine hK _ _ ?_; clear hK K)
    repeat refine R1.s_assoc ?_
    (first | refine R1.s_cnd fun Kx Ky hx hy => ?_ | refine R1.e_cnd fun Kx Ky hx hy => ?_); simp only [boolP'_b, decide_eq_true_eq, evTmp, slot_put, Nat.reduceLT, if_true, if_false, eqGt, Nat.lt_add_one]
    refine iteI (fun hc => hx ?_) (fun hc => hy ?_)
    · clear hx hy Kx Ky
      have hlt : i < us.length := by omega
      obtain ⟨id, g, off, cells, rfl, hid, hgr, hat⟩ := hu1.open (by omega)
      have ex : us[i]? = some us[i] := List.getElem?_eq_getElem hlt
      have hdr : us.drop i = us[i] :: us.drop (i + 1) := List.drop_eq_getElem_cons hlt
      generalize us[i] = x at ex hdr
      have hx1 := hat i x ex
      have hw2 : IntKind.i64.wrap ((i : Int) + 1) = ((i + 1 : Nat) : Int) := by rw [wrapI (by omega) (by omega)]; omega
      rw [hdr, idxU] at hr
      repeat' first | refine R1.ret ?_ | refine R1.exit ?_ | refine R1.skip ?_ | refine R1.s_ret ?_ | refine R1.s_exit ?_ | refine R1.s_assoc ?_ | refine R1.s_skip ?_ | refine R1.s_scope ?_ | ((first | refine R1.e_rg fun K hK => ?_ | refine R1.s_rg fun K hK => ?_ | refine R1.e_sq (by kernel_rfl) fun K hK => ?_ | refine R1.s_sq (by kernel_rfl) fun K hK => ?_); simp only [SG_nil, SG_cons, SU_yes, SU_no, gw_n, gw_gwv, gwv_b, gwv_u, gOf_n, gOf_some, List.map_cons, List.map_nil, List.getElem?_cons_zero, List.getElem?_cons_succ, Option.elim_some, Option.map_some, Option.bind_some, optP_some, boolP_b, boolP'_b, boolE_b, decide_eq_true_eq, decide_true, decide_false, valP_val, valP_guard, vN_val, ldN_some, stN_some, faN_some, iaN_some, lnN_some, pkN_b, sliceO_some, slice_lo, slice_hi, slice_1, indexAddr_0, Nat.add_one_sub_one, Nat.one_mul, len_sl, len_ns, len_str', posS, eq0S, cast0, Int.reduceLT, Int.reduceLE, Int.reduceBEq, Option.map_none, Nat.lt_add_left_iff_pos, Nat.zero_lt_succ, Nat.le_add_left, SK_move, SK_assign, SK_pick, SK_alloc, SK_box, SK_load, SK_store, SK_bin, SK_not, SK_fieldAddr, SK_field, SK_indexAddr, SK_slice, SK_extract, SK_nilCheck, SK_makeFunc, SK_makeMap, SK_makeSlice, SK_build, SK_buildSlice, SK_len, SK_append, SK_call, doCall_clo, doCall_clo, evTmp, ev_int, ev_bool, ev_str, ev_nilS, ev_func, opFev, evs_cons, evs_nil, slot_put, putD_nt, putD_none, putD_dfr, slotOk, Nat.blt_eq, Nat.reduceLT, Nat.reduceEqDiff, Nat.reduceLeDiff, reduceIte, true_and, and_true, true_or, or_true, if_true, if_false, Bool.false_eq_true, Bool.true_eq_false, not_false_eq_true, not_true_eq_false, ltV_ptr, ltV_sl, ltV_nil, ltV_str, ltV_i, nxNew, nxMod, get_newE, get_newL, get_modE, get_modN, ltAdd, ltSelf, eqLt, eqGt, eqLtA, eqGtA, eqSelfA, eqASelf, eqAA, ltAA, doLoad_ptr, doStore_ptr, rowOf_arr, rowOf_ro, ldO_agg, ldO_one, stO_arr, splice_eq, fieldAddr_at, Bool.not_eq_true', Bool.not_eq_false', decide_eq_false_iff_not, ne_eq, Nat.reduceLeDiff, Nat.lt_irrefl, gt_iff_lt, cells_one, cells_agg, noTup_one, noTup_agg, List.length_cons, List.length_nil, Nat.zero_add, Nat.add_zero, Nat.reduceAdd, Nat.reduceSub, Nat.reduceMul, Nat.le_refl, Nat.zero_le, capsOf_nil, capsOf_cons, capArgs_nil, capArgs_cons, List.cons_append, List.nil_append, List.append_nil, ex_0, ex_0a, ex_1, ex_1a, ex_2, ex_2a, ii_lss, ii_leq, ii_gtr, ii_geq, ii_eql, ii_neq, ii_add, ii_sub, ii_mul, ss_lss, ss_geq, ss_leq, ss_gtr, ss_eql, ss_neq, List.take_succ_cons, List.take_zero, List.drop_succ_cons, List.drop_zero, List.take_nil, List.drop_nil, List.headD_cons, Bool.not_true, Bool.not_false, Nat.lt_add_one, bin_agg, bin_b, agg2_agg, bool2_b, aggEq_nil, aggEq_s, aggEq_i, aggEq_b, aggO_some, fill_nil, fill_cons, Nat.zero_mul, partsF_nil, partsF_cons, repl_one, SK_lookup, SK_mapUpdate, lkN_some, upN_some, ltV_mp, nilCheck_ptr, lookOut_f, lookOut_t, doCall_yl, ofValue_int, ofValue_bool, ev_nilP, ev_nilM, ev_nilF]; refine hK _ _ ?_; clear hK K)
      refine R1.s_block fun K2 q1 q2 q3 q4 => ?_
      repeat refine R1.s_assoc ?_
      refine R1.s_rg fun K hK => ?_
      simp only [SG_nil, SG_cons, SU_yes, gw_n, gOf_n, List.map_cons, List.map_nil, vN_val, ldN_some, faN_some, iaN_some, Nat.add_one_sub_one, SK_move, SK_load, SK_bin, SK_fieldAddr, SK_indexAddr, evTmp, slot_put, putD_nt, slotOk, Nat.blt_eq, Nat.reduceLT, Nat.reduceLeDiff, true_and, if_true, if_false, ltV_ptr, eqLt, eqGt, doLoad_ptr, rowOf_arr, ldO_one, fieldAddr_at, Nat.reduceLeDiff, List.length_cons, List.length_nil, Nat.zero_add, Nat.add_zero, Nat.reduceAdd, Nat.reduceSub, Nat.le_refl, ss_eql, List.drop_succ_cons, List.drop_zero, List.headD_cons, Nat.lt_add_one, E2_P, t1, t2, t5, hnt, rb, lb, fd_lad_1, ld_units, el_units, fd_unit_0, ld_str, indexAddr_cast hlt, hid, hgr, hx1.fst, hx1.le1]
      refine hK _ _ ?_
      clear hK K
      by_cases hxs : x.1 = s
      · rw [if_pos hxs] at hr
        have ce : lEq x.1 s = true := by rw [lEq_eq, hxs, beq_self_eq_true]
        repeat refine R1.s_assoc ?_
        (first | refine R1.s_cnd fun Kx Ky hx hy => ?_ | refine R1.e_cnd fun Kx Ky hx hy => ?_); simp only [boolP'_b, evTmp, slot_put, Nat.reduceLT, if_true, if_false, eqGt, Nat.lt_add_one, ce]
        refine hx ?_
        clear hx hy Kx Ky
        repeat' first | refine R1.ret ?_ | refine R1.exit ?_ | refine R1.skip ?_ | refine R1.s_ret ?_ | refine R1.s_exit ?_ | refine R1.s_assoc ?_ | refine R1.s_skip ?_ | refine R1.s_scope ?_ | ((first | refine R1.e_rg fun K hK => ?_ | refine R1.s_rg fun K hK => ?_ | refine R1.e_sq (by kernel_rfl) fun K hK => ?_ | refine R1.s_sq (by kernel_rfl) fun K hK => ?_); simp only [SG_nil, SG_cons, SU_yes, gw_n, gOf_n, List.map_cons, List.map_nil, SK_move, SK_assign, evTmp, slot_put, putD_nt, slotOk, Nat.blt_eq, Nat.reduceLT, true_and, if_true, if_false, eqLt, eqGt, Nat.lt_add_one, hnt, t5]; refine hK _ _ ?_; clear hK K)
        exact q4 _ _ (k4 _ _ ⟨_, _, callEnd_one (.i .i64 (i : Int)) (.inr rfl) (by simp only [putD_dfr, hdf]) (by simp only [slot_put, Nat.reduceEqDiff, reduceIte]), g1, fun _ => by rw [← hr]⟩)
      · rw [if_neg hxs] at hr
        have ce : lEq x.1 s = false := by rw [lEq_eq]; exact beq_false_of_ne hxs
        repeat refine R1.s_assoc ?_
        (first | refine R1.s_cnd fun Kx Ky hx hy => ?_ | refine R1.e_cnd fun Kx Ky hx hy => ?_); simp only [boolP'_b, evTmp, slot_put, Nat.reduceLT, if_true, if_false, Bool.false_eq_true, eqGt, Nat.lt_add_one, ce]
        refine hy ?_
        clear hx hy Kx Ky
        repeat' first | refine R1.ret ?_ | refine R1.exit ?_ | refine R1.skip ?_ | refine R1.s_ret ?_ | refine R1.s_exit ?_ | refine R1.s_assoc ?_ | refine R1.s_skip ?_ | refine R1.s_scope ?_ | ((first | refine R1.e_rg fun K hK => ?_ | refine R1.s_rg fun K hK => ?_ | refine R1.e_sq (by kernel_rfl) fun K hK => ?_ | refine R1.s_sq (by kernel_rfl) fun K hK => ?_); simp only [SG_nil, SG_cons, SU_yes, SU_no, gw_n, gw_gwv, gwv_b, gwv_u, gOf_n, gOf_some, List.map_cons, List.map_nil, List.getElem?_cons_zero, List.getElem?_cons_succ, Option.elim_some, Option.map_some, Option.bind_some, optP_some, boolP_b, boolP'_b, boolE_b, decide_eq_true_eq, decide_true, decide_false, valP_val, valP_guard, vN_val, ldN_some, stN_some, faN_some, iaN_some, lnN_some, pkN_b, sliceO_some, slice_lo, slice_hi, slice_1, indexAddr_0, Nat.add_one_sub_one, Nat.one_mul, len_sl, len_ns, len_str', posS, eq0S, cast0, Int.reduceLT, Int.reduceLE, Int.reduceBEq, Option.map_none, Nat.lt_add_left_iff_pos, Nat.zero_lt_succ, Nat.le_add_left, SK_move, SK_assign, SK_pick, SK_alloc, SK_box, SK_load, SK_store, SK_bin, SK_not, SK_fieldAddr, SK_field, SK_indexAddr, SK_slice, SK_extract, SK_nilCheck, SK_makeFunc, SK_makeMap, SK_makeSlice, SK_build, SK_buildSlice, SK_len, SK_append, SK_call, doCall_clo, doCall_clo, evTmp, ev_int, ev_bool, ev_str, ev_nilS, ev_func, opFev, evs_cons, evs_nil, slot_put, putD_nt, putD_none, putD_dfr, slotOk, Nat.blt_eq, Nat.reduceLT, Nat.reduceEqDiff, Nat.reduceLeDiff, reduceIte, true_and, and_true, true_or, or_true, if_true, if_false, Bool.false_eq_true, Bool.true_eq_false, not_false_eq_true, not_true_eq_false, ltV_ptr, ltV_sl, ltV_nil, ltV_str, ltV_i, nxNew, nxMod, get_newE, get_newL, get_modE, get_modN, ltAdd, ltSelf, eqLt, eqGt, eqLtA, eqGtA, eqSelfA, eqASelf, eqAA, ltAA, doLoad_ptr, doStore_ptr, rowOf_arr, rowOf_ro, ldO_agg, ldO_one, stO_arr, splice_eq, fieldAddr_at, Bool.not_eq_true', Bool.not_eq_false', decide_eq_false_iff_not, ne_eq, Nat.reduceLeDiff, Nat.lt_irrefl, gt_iff_lt, cells_one, cells_agg, noTup_one, noTup_agg, List.length_cons, List.length_nil, Nat.zero_add, Nat.add_zero, Nat.reduceAdd, Nat.reduceSub, Nat.reduceMul, Nat.le_refl, Nat.zero_le, capsOf_nil, capsOf_cons, capArgs_nil, capArgs_cons, List.cons_append, List.nil_append, List.append_nil, ex_0, ex_0a, ex_1, ex_1a, ex_2, ex_2a, ii_lss, ii_leq, ii_gtr, ii_geq, ii_eql, ii_neq, ii_add, ii_sub, ii_mul, ss_lss, ss_geq, ss_leq, ss_gtr, ss_eql, ss_neq, List.take_succ_cons, List.take_zero, List.drop_succ_cons, List.drop_zero, List.take_nil, List.drop_nil, List.headD_cons, Bool.not_true, Bool.not_false, Nat.lt_add_one, bin_agg, bin_b, agg2_agg, bool2_b, aggEq_nil, aggEq_s, aggEq_i, aggEq_b, aggO_some, fill_nil, fill_cons, Nat.zero_mul, partsF_nil, partsF_cons, repl_one, SK_lookup, SK_mapUpdate, lkN_some, upN_some, ltV_mp, nilCheck_ptr, lookOut_f, lookOut_t, doCall_yl, ofValue_int, ofValue_bool, ev_nilP, ev_nilM, ev_nilF, hnt]; refine hK _ _ ?_; clear hK K)
        refine q1 _ _ ?_
        repeat' first | refine R1.ret ?_ | refine R1.exit ?_ | refine R1.skip ?_ | refine R1.s_ret ?_ | refine R1.s_exit ?_ | refine R1.s_assoc ?_ | refine R1.s_skip ?_ | refine R1.s_scope ?_ | ((first | refine R1.e_rg fun K hK => ?_ | refine R1.s_rg fun K hK => ?_ | refine R1.e_sq (by kernel_rfl) fun K hK => ?_ | refine R1.s_sq (by kernel_rfl) fun K hK => ?_); simp only [SG_nil, SG_cons, SU_yes, gw_n, gOf_n, List.map_cons, List.map_nil, vN_val, SK_move, SK_assign, SK_bin, evTmp, ev_int, slot_put, putD_nt, slotOk, Nat.blt_eq, Nat.reduceLT, true_and, if_true, if_false, eqLt, eqGt, ii_add, Nat.lt_add_one, hnt, t5, hw2]; refine hK _ _ ?_; clear hK K)
        refine ⟨us.length - (i + 1), by omega, i + 1, rfl, hlt, rfl, hr, ?_, ?_, ?_, ?_, ?_⟩
        · simp only [slot_put, Nat.reduceEqDiff, reduceIte, t1]
        · simp only [slot_put, Nat.reduceEqDiff, reduceIte, t2]
        · simp only [slot_put, Nat.reduceEqDiff, reduceIte]
        · simp only [putD_nt, hnt]
        · simp only [putD_dfr, hdf]
    · clear hx hy Kx Ky
      have hie : i = us.length := by omega
      rw [hie, List.drop_length, idxU] at hr
      repeat' first | refine R1.ret ?_ | refine R1.exit ?_ | refine R1.skip ?_ | refine R1.s_ret ?_ | refine R1.s_exit ?_ | refine R1.s_assoc ?_ | refine R1.s_skip ?_ | refine R1.s_scope ?_ | ((first | refine R1.e_rg fun K hK => ?_ | refine R1.s_rg fun K hK => ?_ | refine R1.e_sq (by kernel_rfl) fun K hK => ?_ | refine R1.s_sq (by kernel_rfl) fun K hK => ?_); simp only [SG_nil, SG_cons, SU_yes, SU_no, gw_n, gw_gwv, gwv_b, gwv_u, gOf_n, gOf_some, List.map_cons, List.map_nil, List.getElem?_cons_zero, List.getElem?_cons_succ, Option.elim_some, Option.map_some, Option.bind_some, optP_some, boolP_b, boolP'_b, boolE_b, decide_eq_true_eq, decide_true, decide_false, valP_val, valP_guard, vN_val, ldN_some, stN_some, faN_some, iaN_some, lnN_some, pkN_b, sliceO_some, slice_lo, slice_hi, slice_1, indexAddr_0, Nat.add_one_sub_one, Nat.one_mul, len_sl, len_ns, len_str', posS, eq0S, cast0, Int.reduceLT, Int.reduceLE, Int.reduceBEq, Option.map_none, Nat.lt_add_left_iff_pos, Nat.zero_lt_succ, Nat.le_add_left, SK_move, SK_assign, SK_pick, SK_alloc, SK_box, SK_load, SK_store, SK_bin, SK_not, SK_fieldAddr, SK_field, SK_indexAddr, SK_slice, SK_extract, SK_nilCheck, SK_makeFunc, SK_makeMap, SK_makeSlice, SK_build, SK_buildSlice, SK_len, SK_append, SK_call, doCall_clo, doCall_clo, evTmp, ev_int, ev_bool, ev_str, ev_nilS, ev_func, opFev, evs_cons, evs_nil, slot_put, putD_nt, putD_none, putD_dfr, slotOk, Nat.blt_eq, Nat.reduceLT, Nat.reduceEqDiff, Nat.reduceLeDiff, reduceIte, true_and, and_true, true_or, or_true, if_true, if_false, Bool.false_eq_true, Bool.true_eq_false, not_false_eq_true, not_true_eq_false, ltV_ptr, ltV_sl, ltV_nil, ltV_str, ltV_i, nxNew, nxMod, get_newE, get_newL, get_modE, get_modN, ltAdd, ltSelf, eqLt, eqGt, eqLtA, eqGtA, eqSelfA, eqASelf, eqAA, ltAA, doLoad_ptr, doStore_ptr, rowOf_arr, rowOf_ro, ldO_agg, ldO_one, stO_arr, splice_eq, fieldAddr_at, Bool.not_eq_true', Bool.not_eq_false', decide_eq_false_iff_not, ne_eq, Nat.reduceLeDiff, Nat.lt_irrefl, gt_iff_lt, cells_one, cells_agg, noTup_one, noTup_agg, List.length_cons, List.length_nil, Nat.zero_add, Nat.add_zero, Nat.reduceAdd, Nat.reduceSub, Nat.reduceMul, Nat.le_refl, Nat.zero_le, capsOf_nil, capsOf_cons, capArgs_nil, capArgs_cons, List.cons_append, List.nil_append, List.append_nil, ex_0, ex_0a, ex_1, ex_1a, ex_2, ex_2a, ii_lss, ii_leq, ii_gtr, ii_geq, ii_eql, ii_neq, ii_add, ii_sub, ii_mul, ss_lss, ss_geq, ss_leq, ss_gtr, ss_eql, ss_neq, List.take_succ_cons, List.take_zero, List.drop_succ_cons, List.drop_zero, List.take_nil, List.drop_nil, List.headD_cons, Bool.not_true, Bool.not_false, Nat.lt_add_one, bin_agg, bin_b, agg2_agg, bool2_b, aggEq_nil, aggEq_s, aggEq_i, aggEq_b, aggO_some, fill_nil, fill_cons, Nat.zero_mul, partsF_nil, partsF_cons, repl_one, SK_lookup, SK_mapUpdate, lkN_some, upN_some, ltV_mp, nilCheck_ptr, lookOut_f, lookOut_t, doCall_yl, ofValue_int, ofValue_bool, ev_nilP, ev_nilM, ev_nilF, hnt]; refine hK _ _ ?_; clear hK K)
      refine k2 _ _ ?_
      repeat' first | refine R1.ret ?_ | refine R1.exit ?_ | refine R1.skip ?_ | refine R1.s_ret ?_ | refine R1.s_exit ?_ | refine R1.s_assoc ?_ | refine R1.s_skip ?_ | refine R1.s_scope ?_ | ((first | refine R1.e_rg fun K hK => ?_ | refine R1.s_rg fun K hK => ?_ | refine R1.e_sq (by kernel_rfl) fun K hK => ?_ | refine R1.s_sq (by kernel_rfl) fun K hK => ?_); simp only [SG_nil, SG_cons, SU_yes, gw_n, gOf_n, List.map_cons, List.map_nil, SK_assign, ev_int, putD_nt, slotOk, Nat.blt_eq, Nat.reduceLT, true_and, hnt]; refine hK _ _ ?_; clear hK K)
      exact ⟨_, _, callEnd_one (.i .i64 (-1)) (.inr rfl) (by simp only [putD_dfr, hdf]) (by simp only [slot_put, Nat.reduceEqDiff, reduceIte]), g1, fun _ => by rw [← hr]⟩
  · simp only [slot_put, Nat.reduceEqDiff, reduceIte, putD_nt, putD_dfr, t1, t2, hnt, hdf, and_self, true_and]
    exact ⟨rfl, trivial⟩

/-- The values of units whose factors are from 1 to 60; none: one is too great. -/
def valsU : Int → List Pr → Option (List Int)
  | _, [] => some []
  | v, x :: l => if 1099511627776 < v * x.2 then none else (valsU (v * x.2) l).map (v * x.2 :: ·)
def intC (n : Int) : List AC := [.i .i64 n]
theorem intC_len (n : Int) : (intC n).length = 1 := rfl
/-- A slice of integers. -/
def SlI (H : Hp) (v : AC) (l : List Int) : Prop := SlC H v 1 l.length (l.flatMap intC)

set_option maxRecDepth 10000 in
set_option maxHeartbeats 4000000 in
theorem values_con (H : Hp) (n : List UInt8) (u : AC) (us : List Pr) (hu : SlP H u us) (hL : us.length ≤ 1000000) (hf : ∀ x ∈ us, 1 ≤ x.2 ∧ x.2 ≤ 60) :
    Con E2 108 [.agg [.o (.str n), u]] H (fun _ => False) fun r H' => ∃ c, r = .tup [(false, [c]), (false, [.b (valsU 1 us).isSome])] ∧ SlI H' c ((valsU 1 us).getD []) := by
  refine Con.of rfl fun lg => ?_
  have hu : SlP ⟨H.t, H.nx, lg⟩ u us := hu
  generalize (⟨H.t, H.nx, lg⟩ : Hp) = H at hu ⊢
  refine C1.body (E := E2) (nt := 29) (res := [.tmp 2, .tmp 3]) Tryz.func108 rfl rfl rfl rfl rfl fun tm hargs => ?_
  have h0 := hargs 0 _ rfl
  clear hargs
  generalize hr0 : valsU 1 us = r0
  repeat refine R1.s_assoc ?_
  refine R1.s_rg fun K hK => ?_
  simp only [SG_nil, SG_cons, SU_yes, gw_n, gOf_n, List.map_cons, List.map_nil, SK_assign, SK_box, evTmp, ev_bool, ev_nilS, putD_nt, slotOk, Nat.blt_eq, Nat.reduceLT, true_and, cells_agg, noTup_agg, List.length_cons, List.length_nil, Nat.zero_add, Nat.reduceAdd, h0]
  refine hK _ _ ?_
  clear hK K
  refine R1.gen (fun A1 H1 => Gr H H1 ∧ H.nx < H1.nx ∧ H1.get H.nx = some (.arr [.o (.str n), u] 78 0 0) ∧ slot A1.tm 1 = .one (.o (.ptr H.nx 0 0 2)) ∧ A1.nt = 29 ∧ A1.dfr = [])
    ⟨(Fr.refl _).new _, ?_⟩ ?_
  · simp only [slot_put, putD_nt, putD_dfr, Nat.reduceLT, and_true, if_true, if_false, nxNew, get_newE, eqLt, Nat.lt_add_one]
  rintro A1 H1 ⟨g1, lb, rb, t1, hnt, hdf⟩
  clear h0 tm
  obtain ⟨zi, hzi, hzil⟩ := zx_int
  repeat' first | refine R1.ret ?_ | refine R1.exit ?_ | refine R1.skip ?_ | refine R1.s_ret ?_ | refine R1.s_exit ?_ | refine R1.s_assoc ?_ | refine R1.s_skip ?_ | refine R1.s_scope ?_ | ((first | refine R1.e_rg fun K hK => ?_ | refine R1.s_rg fun K hK => ?_ | refine R1.e_sq (by kernel_rfl) fun K hK => ?_ | refine R1.s_sq (by kernel_rfl) fun K hK => ?_); simp only [SG_nil, SG_cons, SU_yes, gw_n, gOf_n, List.map_cons, List.map_nil, SK_assign, ev_int, ev_nilS, putD_nt, slotOk, Nat.blt_eq, Nat.reduceLT, true_and, hnt]; refine hK _ _ ?_; clear hK K)
  refine R1.s_block fun K k1 k2 k3 k4 => ?_
  refine R1.loop (fun k A H2 => ∃ (i : Nat) (out : List Int) (v : Int) (v4 : AC) (r : Option Nat), k = us.length - i ∧ i ≤ us.length ∧ out.length = i ∧ Gr H1 H2 ∧ 1 ≤ v ∧ v ≤ 1099511627776 ∧ (valsU v (us.drop i)).map (out ++ ·) = r0 ∧ OwnR H2 v4 3 1 out.length (out.flatMap intC) r ∧ (∀ q, r = some q → H1.nx ≤ q) ∧
    slot A.tm 1 = .one (.o (.ptr H.nx 0 0 2)) ∧ slot A.tm 4 = .one v4 ∧ slot A.tm 5 = .one (.i .i64 v) ∧ slot A.tm 6 = .one (.i .i64 (i : Int)) ∧ A.nt = 29 ∧ A.dfr = []) ?_ us.length
    ⟨0, [], 1, .o .nilS, none, rfl, Nat.zero_le _, rfl, Fr.refl _, by omega, by omega, ?_, .inl ⟨rfl, rfl, rfl, rfl⟩, fun q hq => (by cases hq), ?_⟩
  · clear t1 hnt hdf A1
    rintro k A H2 ⟨i, out, v, v4, r, rfl, hi, hout, g2, hv1, hv2, hr, hown, hrow, t1, t4, t5, t6, hnt, hdf⟩
    have rb2 : H2.get H.nx = some (.arr [.o (.str n), u] 78 0 0) := by rw [g2.get _ lb not_false]; exact rb
    have lb2 : H.nx < H2.nx := Nat.lt_of_lt_of_le lb g2.nx
    have hu2 := (hu.gr g1).gr g2
    repeat' first | refine R1.ret ?_ | refine R1.exit ?_ | refine R1.skip ?_ | refine R1.s_ret ?_ | refine R1.s_exit ?_ | refine R1.s_assoc ?_ | refine R1.s_skip ?_ | refine R1.s_scope ?_ | ((first | refine R1.e_rg fun K hK => ?_ | refine R1.s_rg fun K hK => ?_ | refine R1.e_sq (by kernel_rfl) fun K hK => ?_ | refine R1.s_sq (by kernel_rfl) fun K hK => ?_); simp only [SG_nil, SG_cons, SU_yes, gw_n, gOf_n, List.map_cons, List.map_nil, vN_val, ldN_some, faN_some, lnN_some, Nat.add_one_sub_one, SK_move, SK_load, SK_bin, SK_fieldAddr, SK_len, evTmp, slot_put, putD_nt, slotOk, Nat.blt_eq, Nat.reduceLT, true_and, if_true, if_false, ltV_ptr, eqLt, eqGt, doLoad_ptr, rowOf_arr, ldO_one, fieldAddr_at, List.length_cons, List.length_nil, Nat.zero_add, Nat.reduceAdd, Nat.le_refl, ii_lss, List.drop_succ_cons, List.drop_zero, List.headD_cons, Nat.lt_add_one, E2_P, t1, t6, hnt, rb2, lb2, fd_lad_1, ld_units, ln_units, hu2.len, hu2.lt]; refine hK _ _ ?_; clear hK K)
    repeat refine R1.s_assoc ?_
    (first | refine R1.s_cnd fun Kx Ky hx hy => ?_ | refine R1.e_cnd fun Kx Ky hx hy => ?_); simp only [boolP'_b, decide_eq_true_eq, evTmp, slot_put, Nat.reduceLT, if_true, if_false, eqGt, Nat.lt_add_one]
    refine iteI (fun hc => hx ?_) (fun hc => hy ?_)
    · clear hx hy Kx Ky
      have hlt : i < us.length := by omega
      obtain ⟨id, g, off, cells, rfl, hid, hgr, hat⟩ := hu2.open (by omega)
      have ex : us[i]? = some us[i] := List.getElem?_eq_getElem hlt
      have hdr : us.drop i = us[i] :: us.drop (i + 1) := List.drop_eq_getElem_cons hlt
      have hff := hf us[i] (List.getElem_mem hlt)
      generalize us[i] = x at ex hdr hff
      have hx1 := hat i x ex
      have hw2 : IntKind.i64.wrap ((i : Int) + 1) = ((i + 1 : Nat) : Int) := by rw [wrapI (by omega) (by omega)]; omega
      have hmul1 : 1 ≤ v * x.2 := by
        have := Int.mul_le_mul hv1 hff.1 (by omega) (by omega)
        omega
      have hmul2 : v * x.2 ≤ 1099511627776 * 60 := Int.mul_le_mul hv2 hff.2 (by omega) (by omega)
      have hwm : IntKind.i64.wrap (v * x.2) = v * x.2 := wrapI (by omega) (by omega)
      rw [hdr, valsU] at hr
      repeat' first | refine R1.ret ?_ | refine R1.exit ?_ | refine R1.skip ?_ | refine R1.s_ret ?_ | refine R1.s_exit ?_ | refine R1.s_assoc ?_ | refine R1.s_skip ?_ | refine R1.s_scope ?_ | ((first | refine R1.e_rg fun K hK => ?_ | refine R1.s_rg fun K hK => ?_ | refine R1.e_sq (by kernel_rfl) fun K hK => ?_ | refine R1.s_sq (by kernel_rfl) fun K hK => ?_); simp only [SG_nil, SG_cons, SU_yes, SU_no, gw_n, gw_gwv, gwv_b, gwv_u, gOf_n, gOf_some, List.map_cons, List.map_nil, List.getElem?_cons_zero, List.getElem?_cons_succ, Option.elim_some, Option.map_some, Option.bind_some, optP_some, boolP_b, boolP'_b, boolE_b, decide_eq_true_eq, decide_true, decide_false, valP_val, valP_guard, vN_val, ldN_some, stN_some, faN_some, iaN_some, lnN_some, pkN_b, sliceO_some, slice_lo, slice_hi, slice_1, indexAddr_0, Nat.add_one_sub_one, Nat.one_mul, len_sl, len_ns, len_str', posS, eq0S, cast0, Int.reduceLT, Int.reduceLE, Int.reduceBEq, Option.map_none, Nat.lt_add_left_iff_pos, Nat.zero_lt_succ, Nat.le_add_left, SK_move, SK_assign, SK_pick, SK_alloc, SK_box, SK_load, SK_store, SK_bin, SK_not, SK_fieldAddr, SK_field, SK_indexAddr, SK_slice, SK_extract, SK_nilCheck, SK_makeFunc, SK_makeMap, SK_makeSlice, SK_build, SK_buildSlice, SK_len, SK_append, SK_call, doCall_clo, doCall_clo, evTmp, ev_int, ev_bool, ev_str, ev_nilS, ev_func, opFev, evs_cons, evs_nil, slot_put, putD_nt, putD_none, putD_dfr, slotOk, Nat.blt_eq, Nat.reduceLT, Nat.reduceEqDiff, Nat.reduceLeDiff, reduceIte, true_and, and_true, true_or, or_true, if_true, if_false, Bool.false_eq_true, Bool.true_eq_false, not_false_eq_true, not_true_eq_false, ltV_ptr, ltV_sl, ltV_nil, ltV_str, ltV_i, nxNew, nxMod, get_newE, get_newL, get_modE, get_modN, ltAdd, ltSelf, eqLt, eqGt, eqLtA, eqGtA, eqSelfA, eqASelf, eqAA, ltAA, doLoad_ptr, doStore_ptr, rowOf_arr, rowOf_ro, ldO_agg, ldO_one, stO_arr, splice_eq, fieldAddr_at, Bool.not_eq_true', Bool.not_eq_false', decide_eq_false_iff_not, ne_eq, Nat.reduceLeDiff, Nat.lt_irrefl, gt_iff_lt, cells_one, cells_agg, noTup_one, noTup_agg, List.length_cons, List.length_nil, Nat.zero_add, Nat.add_zero, Nat.reduceAdd, Nat.reduceSub, Nat.reduceMul, Nat.le_refl, Nat.zero_le, capsOf_nil, capsOf_cons, capArgs_nil, capArgs_cons, List.cons_append, List.nil_append, List.append_nil, ex_0, ex_0a, ex_1, ex_1a, ex_2, ex_2a, ii_lss, ii_leq, ii_gtr, ii_geq, ii_eql, ii_neq, ii_add, ii_sub, ii_mul, ss_lss, ss_geq, ss_leq, ss_gtr, ss_eql, ss_neq, List.take_succ_cons, List.take_zero, List.drop_succ_cons, List.drop_zero, List.take_nil, List.drop_nil, List.headD_cons, Bool.not_true, Bool.not_false, Nat.lt_add_one, bin_agg, bin_b, agg2_agg, bool2_b, aggEq_nil, aggEq_s, aggEq_i, aggEq_b, aggO_some, fill_nil, fill_cons, Nat.zero_mul, partsF_nil, partsF_cons, repl_one, SK_lookup, SK_mapUpdate, lkN_some, upN_some, ltV_mp, nilCheck_ptr, lookOut_f, lookOut_t, doCall_yl, ofValue_int, ofValue_bool, ev_nilP, ev_nilM, ev_nilF]; refine hK _ _ ?_; clear hK K)
      refine R1.s_block fun K2 q1 q2 q3 q4 => ?_
      repeat refine R1.s_assoc ?_
      refine R1.s_rg fun K hK => ?_
      simp only [SG_nil, SG_cons, SU_yes, gw_n, gOf_n, List.map_cons, List.map_nil, vN_val, ldN_some, faN_some, iaN_some, Nat.add_one_sub_one, SK_move, SK_assign, SK_load, SK_bin, SK_fieldAddr, SK_indexAddr, evTmp, slot_put, putD_nt, slotOk, Nat.blt_eq, Nat.reduceLT, true_and, if_true, if_false, ltV_ptr, eqLt, eqGt, doLoad_ptr, rowOf_arr, ldO_one, fieldAddr_at, List.length_cons, List.length_nil, Nat.zero_add, Nat.reduceAdd, Nat.le_refl, ii_mul, List.drop_succ_cons, List.drop_zero, List.headD_cons, Nat.lt_add_one, E2_P, t1, t5, t6, hnt, rb2, lb2, fd_lad_1, ld_units, el_units, fd_unit_1, ld_int, indexAddr_cast hlt, hid, hgr, hx1.snd, hx1.le2, hwm]
      refine hK _ _ ?_
      clear hK K
      repeat' first | refine R1.ret ?_ | refine R1.exit ?_ | refine R1.skip ?_ | refine R1.s_ret ?_ | refine R1.s_exit ?_ | refine R1.s_assoc ?_ | refine R1.s_skip ?_ | refine R1.s_scope ?_ | ((first | refine R1.e_rg fun K hK => ?_ | refine R1.s_rg fun K hK => ?_ | refine R1.e_sq (by kernel_rfl) fun K hK => ?_ | refine R1.s_sq (by kernel_rfl) fun K hK => ?_); simp only [SG_nil, SG_cons, SU_yes, gw_n, gOf_n, List.map_cons, List.map_nil, vN_val, SK_move, SK_bin, evTmp, ev_int, slot_put, putD_nt, slotOk, Nat.blt_eq, Nat.reduceLT, true_and, if_true, if_false, eqLt, eqGt, ii_gtr, Nat.lt_add_one, hnt]; refine hK _ _ ?_; clear hK K)
      by_cases hbig : 1099511627776 < v * x.2
      · have cb : (1099511627776 < v * x.2) = True := eq_true hbig
        rw [if_pos hbig] at hr
        repeat refine R1.s_assoc ?_
        (first | refine R1.s_cnd fun Kx Ky hx hy => ?_ | refine R1.e_cnd fun Kx Ky hx hy => ?_); simp only [boolP'_b, decide_true, evTmp, slot_put, Nat.reduceLT, if_true, if_false, eqGt, Nat.lt_add_one, cb]
        refine hx ?_
        clear hx hy Kx Ky
        repeat' first | refine R1.ret ?_ | refine R1.exit ?_ | refine R1.skip ?_ | refine R1.s_ret ?_ | refine R1.s_exit ?_ | refine R1.s_assoc ?_ | refine R1.s_skip ?_ | refine R1.s_scope ?_ | ((first | refine R1.e_rg fun K hK => ?_ | refine R1.s_rg fun K hK => ?_ | refine R1.e_sq (by kernel_rfl) fun K hK => ?_ | refine R1.s_sq (by kernel_rfl) fun K hK => ?_); simp only [SG_nil, SG_cons, SU_yes, gw_n, gOf_n, List.map_cons, List.map_nil, SK_assign, ev_bool, ev_nilS, putD_nt, slotOk, Nat.blt_eq, Nat.reduceLT, true_and, hnt]; refine hK _ _ ?_; clear hK K)
        refine q4 _ _ (k4 _ _ ⟨_, _, callEnd_two (.o .nilS) (.b false) (.inr rfl) (by simp only [putD_dfr, hdf]) (by simp only [slot_put, Nat.reduceEqDiff, reduceIte]) (by simp only [slot_put, Nat.reduceEqDiff, reduceIte]), g1.gr g2, fun _ => ?_⟩)
        rw [← hr]
        exact ⟨_, rfl, by simp [SlI], .inl ⟨rfl, rfl⟩⟩
      · have cb : (1099511627776 < v * x.2) = False := eq_false hbig
        rw [if_neg hbig] at hr
        obtain ⟨hlt5, v6, H6, r6, happ, ho6, hf6, hr6⟩ := push_own el_ints by_int hzi hzil (by decide) hown [.i .i64 (v * x.2)] rfl (by omega)
        repeat refine R1.s_assoc ?_
        (first | refine R1.s_cnd fun Kx Ky hx hy => ?_ | refine R1.e_cnd fun Kx Ky hx hy => ?_); simp only [boolP'_b, decide_false, evTmp, slot_put, Nat.reduceLT, if_true, if_false, Bool.false_eq_true, eqGt, Nat.lt_add_one, cb]
        refine hy ?_
        clear hx hy Kx Ky
        refine R1.s_skip ?_
        refine R1.e_rg fun K hK => ?_
        simp only [SG_nil, SG_cons, SU_yes, gw_n, gOf_n, List.map_cons, List.map_nil, Option.map_some, Option.bind_some, optP_some, vN_val, Nat.one_mul, SK_move, SK_assign, SK_buildSlice, SK_append, evTmp, opFev, slot_put, putD_nt, slotOk, Nat.blt_eq, Nat.reduceLT, Nat.reduceLeDiff, true_and, and_true, if_true, if_false, ltV_sl, nxNew, eqLt, eqGt, Nat.reduceLeDiff, cells_one, noTup_one, List.length_cons, List.length_nil, Nat.zero_add, Nat.le_refl, List.nil_append, List.append_nil, List.take_zero, List.drop_succ_cons, List.drop_nil, Nat.lt_add_one, fill_nil, fill_cons, Nat.zero_mul, partsF_nil, partsF_cons, repl_one, E2_P, t4, hnt, el_ints, zr_int, repl_one, happ]
        refine ⟨hlt5, ?_⟩
        refine hK _ _ ?_
        clear hK K
        refine q1 _ _ ?_
        repeat' first | refine R1.ret ?_ | refine R1.exit ?_ | refine R1.skip ?_ | refine R1.s_ret ?_ | refine R1.s_exit ?_ | refine R1.s_assoc ?_ | refine R1.s_skip ?_ | refine R1.s_scope ?_ | ((first | refine R1.e_rg fun K hK => ?_ | refine R1.s_rg fun K hK => ?_ | refine R1.e_sq (by kernel_rfl) fun K hK => ?_ | refine R1.s_sq (by kernel_rfl) fun K hK => ?_); simp only [SG_nil, SG_cons, SU_yes, gw_n, gOf_n, List.map_cons, List.map_nil, vN_val, SK_move, SK_assign, SK_bin, evTmp, ev_int, slot_put, putD_nt, slotOk, Nat.blt_eq, Nat.reduceLT, true_and, if_true, if_false, eqLt, eqGt, ii_add, Nat.lt_add_one, hnt, t6, hw2]; refine hK _ _ ?_; clear hK K)
        refine ⟨us.length - (i + 1), by omega, i + 1, out ++ [v * x.2], v * x.2, v6, some r6, rfl, hlt, by rw [List.length_append, hout]; rfl, g2.then hf6 fun q hq => .inl (hrow q hq), hmul1, by omega, ?_, ?_, fun q hq => ?_, ?_, ?_, ?_, ?_, ?_, ?_⟩
        · rw [← hr, Option.map_map]
          congr 1
          funext l
          simp
        · have e2 : (out ++ [v * x.2]).flatMap intC = out.flatMap intC ++ [.i .i64 (v * x.2)] := by rw [List.flatMap_append]; rfl
          rw [List.length_append, e2]; exact ho6
        · cases hq
          rcases hr6 with h | h
          · exact hrow _ h
          · exact Nat.le_trans g2.nx h
        · simp only [slot_put, Nat.reduceEqDiff, reduceIte, t1]
        · simp only [slot_put, Nat.reduceEqDiff, reduceIte]
        · simp only [slot_put, Nat.reduceEqDiff, reduceIte]
        · simp only [slot_put, Nat.reduceEqDiff, reduceIte]
        · simp only [putD_nt, hnt]
        · simp only [putD_dfr, hdf]
    · clear hx hy Kx Ky
      have hie : i = us.length := by omega
      rw [hie, List.drop_length, valsU] at hr
      repeat' first | refine R1.ret ?_ | refine R1.exit ?_ | refine R1.skip ?_ | refine R1.s_ret ?_ | refine R1.s_exit ?_ | refine R1.s_assoc ?_ | refine R1.s_skip ?_ | refine R1.s_scope ?_ | ((first | refine R1.e_rg fun K hK => ?_ | refine R1.s_rg fun K hK => ?_ | refine R1.e_sq (by kernel_rfl) fun K hK => ?_ | refine R1.s_sq (by kernel_rfl) fun K hK => ?_); simp only [SG_nil, SG_cons, SU_yes, SU_no, gw_n, gw_gwv, gwv_b, gwv_u, gOf_n, gOf_some, List.map_cons, List.map_nil, List.getElem?_cons_zero, List.getElem?_cons_succ, Option.elim_some, Option.map_some, Option.bind_some, optP_some, boolP_b, boolP'_b, boolE_b, decide_eq_true_eq, decide_true, decide_false, valP_val, valP_guard, vN_val, ldN_some, stN_some, faN_some, iaN_some, lnN_some, pkN_b, sliceO_some, slice_lo, slice_hi, slice_1, indexAddr_0, Nat.add_one_sub_one, Nat.one_mul, len_sl, len_ns, len_str', posS, eq0S, cast0, Int.reduceLT, Int.reduceLE, Int.reduceBEq, Option.map_none, Nat.lt_add_left_iff_pos, Nat.zero_lt_succ, Nat.le_add_left, SK_move, SK_assign, SK_pick, SK_alloc, SK_box, SK_load, SK_store, SK_bin, SK_not, SK_fieldAddr, SK_field, SK_indexAddr, SK_slice, SK_extract, SK_nilCheck, SK_makeFunc, SK_makeMap, SK_makeSlice, SK_build, SK_buildSlice, SK_len, SK_append, SK_call, doCall_clo, doCall_clo, evTmp, ev_int, ev_bool, ev_str, ev_nilS, ev_func, opFev, evs_cons, evs_nil, slot_put, putD_nt, putD_none, putD_dfr, slotOk, Nat.blt_eq, Nat.reduceLT, Nat.reduceEqDiff, Nat.reduceLeDiff, reduceIte, true_and, and_true, true_or, or_true, if_true, if_false, Bool.false_eq_true, Bool.true_eq_false, not_false_eq_true, not_true_eq_false, ltV_ptr, ltV_sl, ltV_nil, ltV_str, ltV_i, nxNew, nxMod, get_newE, get_newL, get_modE, get_modN, ltAdd, ltSelf, eqLt, eqGt, eqLtA, eqGtA, eqSelfA, eqASelf, eqAA, ltAA, doLoad_ptr, doStore_ptr, rowOf_arr, rowOf_ro, ldO_agg, ldO_one, stO_arr, splice_eq, fieldAddr_at, Bool.not_eq_true', Bool.not_eq_false', decide_eq_false_iff_not, ne_eq, Nat.reduceLeDiff, Nat.lt_irrefl, gt_iff_lt, cells_one, cells_agg, noTup_one, noTup_agg, List.length_cons, List.length_nil, Nat.zero_add, Nat.add_zero, Nat.reduceAdd, Nat.reduceSub, Nat.reduceMul, Nat.le_refl, Nat.zero_le, capsOf_nil, capsOf_cons, capArgs_nil, capArgs_cons, List.cons_append, List.nil_append, List.append_nil, ex_0, ex_0a, ex_1, ex_1a, ex_2, ex_2a, ii_lss, ii_leq, ii_gtr, ii_geq, ii_eql, ii_neq, ii_add, ii_sub, ii_mul, ss_lss, ss_geq, ss_leq, ss_gtr, ss_eql, ss_neq, List.take_succ_cons, List.take_zero, List.drop_succ_cons, List.drop_zero, List.take_nil, List.drop_nil, List.headD_cons, Bool.not_true, Bool.not_false, Nat.lt_add_one, bin_agg, bin_b, agg2_agg, bool2_b, aggEq_nil, aggEq_s, aggEq_i, aggEq_b, aggO_some, fill_nil, fill_cons, Nat.zero_mul, partsF_nil, partsF_cons, repl_one, SK_lookup, SK_mapUpdate, lkN_some, upN_some, ltV_mp, nilCheck_ptr, lookOut_f, lookOut_t, doCall_yl, ofValue_int, ofValue_bool, ev_nilP, ev_nilM, ev_nilF, hnt]; refine hK _ _ ?_; clear hK K)
      refine k2 _ _ ?_
      repeat' first | refine R1.ret ?_ | refine R1.exit ?_ | refine R1.skip ?_ | refine R1.s_ret ?_ | refine R1.s_exit ?_ | refine R1.s_assoc ?_ | refine R1.s_skip ?_ | refine R1.s_scope ?_ | ((first | refine R1.e_rg fun K hK => ?_ | refine R1.s_rg fun K hK => ?_ | refine R1.e_sq (by kernel_rfl) fun K hK => ?_ | refine R1.s_sq (by kernel_rfl) fun K hK => ?_); simp only [SG_nil, SG_cons, SU_yes, gw_n, gOf_n, List.map_cons, List.map_nil, SK_move, SK_assign, evTmp, ev_bool, slot_put, putD_nt, slotOk, Nat.blt_eq, Nat.reduceLT, true_and, if_true, if_false, eqLt, eqGt, Nat.lt_add_one, hnt, t4]; refine hK _ _ ?_; clear hK K)
      refine ⟨_, _, callEnd_two v4 (.b true) (.inr rfl) (by simp only [putD_dfr, hdf]) (by simp only [slot_put, Nat.reduceEqDiff, reduceIte]) (by simp only [slot_put, Nat.reduceEqDiff, reduceIte]), g1.gr g2, fun _ => ?_⟩
      rw [← hr]
      refine ⟨_, rfl, ?_⟩
      have e : ((Option.map (fun x => out ++ x) (some [])).getD []) = out := by simp
      rw [e]; exact hown.slc
  · rw [List.drop_zero, hr0]
    cases r0 <;> simp
  · simp only [slot_put, Nat.reduceEqDiff, reduceIte, putD_nt, putD_dfr, t1, hnt, hdf, and_self, true_and]
    exact ⟨rfl, trivial⟩
end Go.Proofs.YtiejeicaaojdlaaGreat
