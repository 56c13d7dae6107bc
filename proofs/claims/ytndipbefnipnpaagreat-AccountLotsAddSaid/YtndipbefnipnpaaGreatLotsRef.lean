/- The reference's IsName: what it answers. -/
import Derived.Test.YtndipbefnipnpaaGreatLotsSum
namespace Go.Proofs.YtndipbefnipnpaaGreat
open Go Go.Eng

section
variable {st : Bool} {E : Env} {A : AAct} {H : Hp} {next : AAct → Hp → Prop} {d : Option Tmp} {ty : TypeId} {pos : String} {af : Array Edge} {gd : Option (Nat × Bool)}
theorem SK_index {t : TypeId} {x i : Operand} : SK st E ⟨d, .index t x i, ty, pos, af, gd⟩ A H next = vN next A d (doIndex H (isStrT E.P t) (ev A.tm x) (ev A.tm i) (plainOp E.P A.tm H ⟨d, .index t x i, ty, pos, af, gd⟩)) := tand
theorem str_at {s : List UInt8} {n : Nat} {b : UInt8} {k : IntKind} {alt : ANext} (h : s[n]? = some b) : doIndex H true (.one (.o (.str s))) (.one (.i k (n : Int))) alt = .val (.one (.i .u8 (b.toNat : Int))) H := by
  show nd (nthB n s) _ _ = _
  rw [nthB_eq, h]; rfl
theorem str_0 {c : UInt8} {s : List UInt8} {k : IntKind} {alt : ANext} : doIndex H true (.one (.o (.str (c :: s)))) (.one (.i k 0)) alt = .val (.one (.i .u8 (c.toNat : Int))) H := rfl
end
theorem isStr9 : isStrT Tryz.prog 9 = true := by kernel_rfl
theorem len9 : lenT Tryz.prog 9 = some 0 := by kernel_rfl
theorem body38 : hasBody Tryz.prog 38 = true := by kernel_rfl

theorem okB_dec (c : UInt8) : okB c = (decide ((c.toNat : Int) = 95) || (decide (97 ≤ (c.toNat : Int)) && decide ((c.toNat : Int) ≤ 122)) || (decide (48 ≤ (c.toNat : Int)) && decide ((c.toNat : Int) ≤ 57))) := by
  rw [Bool.eq_iff_iff, okB_iff]
  simp only [Bool.or_eq_true, Bool.and_eq_true, decide_eq_true_eq, or_assoc]
theorem nmB_cons (c : UInt8) (l : List UInt8) : nmB (c :: l) = (decide (l.length + 1 ≤ 16) && (decide (97 ≤ (c.toNat : Int)) && decide ((c.toNat : Int) ≤ 122)) && (c :: l).all okB) := by
  unfold nmB
  have e1 : decide (97 ≤ (c.toNat : Int)) = decide ((97 : UInt8) ≤ c) := by
    rw [decide_eq_decide, UInt8.le_iff_toNat_le]
    show (97 : Int) ≤ c.toNat ↔ 97 ≤ c.toNat
    omega
  have e2 : decide ((c.toNat : Int) ≤ 122) = decide (c ≤ (122 : UInt8)) := by
    rw [decide_eq_decide, UInt8.le_iff_toNat_le]
    show (c.toNat : Int) ≤ 122 ↔ c.toNat ≤ 122
    omega
  rw [e1, e2]
  simp only [List.isEmpty_cons, Bool.not_false, Bool.true_and, List.length_cons, Bool.and_assoc]

set_option maxRecDepth 10000 in
set_option maxHeartbeats 4000000 in
theorem refName_con (H : Hp) (s : List UInt8) : Con E2 38 [.one (.o (.str s))] H (fun _ => False) fun v _ => v = .one (.b (nmB s)) := by
  refine Con.of rfl fun lg => ?_
  generalize (⟨H.t, H.nx, lg⟩ : Hp) = H
  refine C1.body (E := E2) (nt := 52) (res := [.tmp 2]) Tryz.func38 rfl rfl rfl rfl rfl fun tm hargs => ?_
  have h0 := hargs 0 _ rfl
  clear hargs
  cases s with
  | nil =>
    repeat' first | refine R1.ret ?_ | refine R1.exit ?_ | refine R1.skip ?_ | refine R1.s_ret ?_ | refine R1.s_exit ?_ | refine R1.s_assoc ?_ | refine R1.s_skip ?_ | refine R1.s_scope ?_ | ((first | refine R1.e_rg fun K hK => ?_ | refine R1.s_rg fun K hK => ?_ | refine R1.e_sq (by kernel_rfl) fun K hK => ?_ | refine R1.s_sq (by kernel_rfl) fun K hK => ?_); simp only [SG_nil, SG_cons, SU_yes, gw_n, gOf_n, gOf_some, List.map_cons, List.map_nil, List.getElem?_cons_zero, List.getElem?_cons_succ, Option.elim_some, Nat.zero_lt_succ, SK_move, SK_assign, SK_len, evTmp, ev_bool, slot_put, putD_nt, slotOk, Nat.blt_eq, Nat.reduceLT, true_and, if_true, if_false, eqLt, eqGt, E2_P]; refine hK _ _ ?_; clear hK K)
    refine R1.s_rg fun K hK => ?_
    simp only [SG_nil, SG_cons, SU_yes, SU_no, gw_n, gw_gwv, gwv_b, gOf_n, gOf_some, List.map_cons, List.map_nil, List.getElem?_cons_zero, List.getElem?_cons_succ, Option.elim_some, decide_true, vN_val, lnN_some, pkN_b, len_str', cast0, Int.reduceLT, Nat.zero_lt_succ, SK_move, SK_pick, SK_bin, SK_len, evTmp, ev_int, ev_bool, slot_put, putD_nt, slotOk, Nat.blt_eq, Nat.reduceLT, true_and, if_true, if_false, Bool.true_eq_false, ltV_str, eqLt, eqGt, List.length_nil, ii_lss, Nat.lt_add_one, E2_P, h0, len9]
    refine hK _ _ ?_
    clear hK K
    (first | refine R1.s_cnd fun Kx Ky hx hy => ?_ | refine R1.e_cnd fun Kx Ky hx hy => ?_); simp only [boolP'_b, evTmp, slot_put, Nat.reduceLT, if_true, if_false, eqGt, Nat.lt_add_one]
    refine hx ?_
    clear hx hy Kx Ky
    repeat' first | refine R1.ret ?_ | refine R1.exit ?_ | refine R1.skip ?_ | refine R1.s_ret ?_ | refine R1.s_exit ?_ | refine R1.s_assoc ?_ | refine R1.s_skip ?_ | refine R1.s_scope ?_ | ((first | refine R1.e_rg fun K hK => ?_ | refine R1.s_rg fun K hK => ?_ | refine R1.e_sq (by kernel_rfl) fun K hK => ?_ | refine R1.s_sq (by kernel_rfl) fun K hK => ?_); simp only [SG_nil, SG_cons, SU_yes, gw_n, gOf_n, List.map_cons, List.map_nil, SK_assign, ev_bool, putD_nt, slotOk, Nat.blt_eq, Nat.reduceLT, true_and]; refine hK _ _ ?_; clear hK K)
    exact ⟨_, _, callEnd_one (.b false) (.inr rfl) rfl (by simp only [slot_put, Nat.reduceEqDiff, reduceIte]), Fr.refl _, fun _ => rfl⟩
  | cons c l =>
    have hl1 : (((l.length + 1 : Nat) : Int) < 1) = False := eq_false (by omega)
    repeat' first | refine R1.ret ?_ | refine R1.exit ?_ | refine R1.skip ?_ | refine R1.s_ret ?_ | refine R1.s_exit ?_ | refine R1.s_assoc ?_ | refine R1.s_skip ?_ | refine R1.s_scope ?_ | ((first | refine R1.e_rg fun K hK => ?_ | refine R1.s_rg fun K hK => ?_ | refine R1.e_sq (by kernel_rfl) fun K hK => ?_ | refine R1.s_sq (by kernel_rfl) fun K hK => ?_); simp only [SG_nil, SG_cons, SU_yes, gw_n, gOf_n, gOf_some, List.map_cons, List.map_nil, List.getElem?_cons_zero, List.getElem?_cons_succ, Option.elim_some, Nat.zero_lt_succ, SK_move, SK_assign, SK_len, evTmp, ev_bool, slot_put, putD_nt, slotOk, Nat.blt_eq, Nat.reduceLT, true_and, if_true, if_false, eqLt, eqGt, E2_P]; refine hK _ _ ?_; clear hK K)
    refine R1.s_rg fun K hK => ?_
    simp only [SG_cons, SU_yes, gw_n, gw_gwv, gwv_b, gOf_n, gOf_some, List.map_cons, List.map_nil, List.getElem?_cons_zero, List.getElem?_cons_succ, Option.elim_some, decide_false, vN_val, lnN_some, pkN_b, len_str', Nat.zero_lt_succ, SK_move, SK_pick, SK_bin, SK_len, evTmp, ev_int, ev_bool, slot_put, putD_nt, slotOk, Nat.blt_eq, Nat.reduceLT, true_and, if_true, if_false, Bool.false_eq_true, ltV_str, eqLt, eqGt, decide_eq_false_iff_not, List.length_cons, ii_lss, ii_gtr, Nat.lt_add_one, E2_P, h0, len9, hl1]
    repeat' (refine SU_iteI (fun hc => ?_) (fun hc => ?_) <;> (try simp only [Classical.not_not] at hc) <;> simp only [hc, SG_nil, SG_cons, SU_yes, SU_no, gw_n, gw_gwv, gwv_b, decide_true, decide_false, vN_val, pkN_b, Nat.zero_lt_succ, SK_move, SK_pick, SK_bin, evTmp, ev_int, ev_bool, slot_put, putD_nt, slotOk, Nat.blt_eq, Nat.reduceLT, true_and, if_true, if_false, Bool.false_eq_true, Bool.true_eq_false, eqLt, eqGt, decide_eq_false_iff_not, ii_lss, ii_gtr, Nat.lt_add_one, E2_P, h0, SK_index, isStr9, str_0])
    all_goals refine hK _ _ ?_
    all_goals clear hK K
    all_goals (first | refine R1.s_cnd fun Kx Ky hx hy => ?_ | refine R1.e_cnd fun Kx Ky hx hy => ?_); simp only [boolP'_b, decide_eq_true_eq, evTmp, slot_put, Nat.reduceLT, if_true, if_false, eqGt, Nat.lt_add_one]
    all_goals first | refine hx ?_ | refine hy ?_ | refine iteI (fun hd => hx ?_) (fun hd => hy ?_)
    all_goals clear hx hy Kx Ky
    all_goals repeat' first | refine R1.ret ?_ | refine R1.exit ?_ | refine R1.skip ?_ | refine R1.s_ret ?_ | refine R1.s_exit ?_ | refine R1.s_assoc ?_ | refine R1.s_skip ?_ | refine R1.s_scope ?_ | ((first | refine R1.e_rg fun K hK => ?_ | refine R1.s_rg fun K hK => ?_ | refine R1.e_sq (by kernel_rfl) fun K hK => ?_ | refine R1.s_sq (by kernel_rfl) fun K hK => ?_); simp only [SG_nil, SG_cons, SU_yes, gw_n, gOf_n, List.map_cons, List.map_nil, SK_assign, ev_int, ev_bool, putD_nt, slotOk, Nat.blt_eq, Nat.reduceLT, true_and]; refine hK _ _ ?_; clear hK K)
    all_goals first
      | (refine ⟨_, _, callEnd_one (.b false) (.inr rfl) rfl (by simp only [slot_put, Nat.reduceEqDiff, reduceIte]), Fr.refl _, fun _ => ?_⟩
         have : nmB (c :: l) = false := Bool.eq_false_iff.2 fun h => by
           rw [nmB_cons] at h
           simp only [Bool.and_eq_true, decide_eq_true_eq] at h
           omega
         rw [this]; done)
      | skip
    rename_i hl16
    have hnm : nmB (c :: l) = (c :: l).all okB := by
      rw [nmB_cons, decide_eq_true (by omega : l.length + 1 ≤ 16), decide_eq_true (by omega : 97 ≤ (c.toNat : Int)), decide_eq_true (by omega : (c.toNat : Int) ≤ 122)]; rfl
    rw [hnm]
    clear hnm hl1 hc hd
    generalize hs : c :: l = s at h0 ⊢
    have hlen : s.length ≤ 16 := by rw [← hs, List.length_cons]; omega
    clear hl16 hs
    refine R1.s_block fun K k1 k2 k3 k4 => ?_
    refine R1.loop (fun m A1 H1 => ∃ i : Nat, m = s.length - i ∧ i ≤ s.length ∧ H1 = H ∧ (s.take i).all okB = true ∧ slot A1.tm 0 = .one (.o (.str s)) ∧ slot A1.tm 3 = .one (.i .i64 (i : Int)) ∧ A1.nt = 52 ∧ A1.dfr = []) ?_ s.length
      ⟨0, rfl, Nat.zero_le _, rfl, rfl, ?_, ?_, rfl, rfl⟩
    · clear h0 tm
      rintro m A1 H1 ⟨i, rfl, hi, rfl, hall, t0, t3, hnt, hdf⟩
      repeat' first | refine R1.ret ?_ | refine R1.exit ?_ | refine R1.skip ?_ | refine R1.s_ret ?_ | refine R1.s_exit ?_ | refine R1.s_assoc ?_ | refine R1.s_skip ?_ | refine R1.s_scope ?_ | ((first | refine R1.e_rg fun K hK => ?_ | refine R1.s_rg fun K hK => ?_ | refine R1.e_sq (by kernel_rfl) fun K hK => ?_ | refine R1.s_sq (by kernel_rfl) fun K hK => ?_); simp only [SG_nil, SG_cons, SU_yes, gw_n, gOf_n, List.map_cons, List.map_nil, vN_val, lnN_some, len_str', Nat.zero_lt_succ, SK_move, SK_bin, SK_len, evTmp, slot_put, putD_nt, slotOk, Nat.blt_eq, Nat.reduceLT, true_and, if_true, if_false, ltV_str, eqLt, eqGt, ii_lss, Nat.lt_add_one, E2_P, t0, t3, hnt, len9]; refine hK _ _ ?_; clear hK K)
      (first | refine R1.s_cnd fun Kx Ky hx hy => ?_ | refine R1.e_cnd fun Kx Ky hx hy => ?_); simp only [boolP'_b, decide_eq_true_eq, evTmp, slot_put, Nat.reduceLT, if_true, if_false, eqGt, Nat.lt_add_one]
      refine iteI (fun hc => hx ?_) (fun hc => hy ?_)
      · clear hx hy Kx Ky
        have hlt : i < s.length := by omega
        have hb : s[i]? = some s[i] := List.getElem?_eq_getElem hlt
        have htk : s.take (i + 1) = s.take i ++ [s[i]] := List.take_succ_eq_append_getElem hlt
        have hmem : s[i] ∈ s := List.getElem_mem hlt
        generalize s[i] = b at hb htk hmem
        refine R1.s_skip (R1.s_block fun K2 q1 q2 q3 q4 => ?_)
        refine R1.s_rg fun K hK => ?_
        simp only [SG_nil, SG_cons, SU_yes, gw_n, gOf_n, List.map_cons, List.map_nil, vN_val, Nat.zero_lt_succ, SK_move, SK_assign, evTmp, slot_put, putD_nt, slotOk, Nat.blt_eq, Nat.reduceLT, true_and, if_true, if_false, eqLt, eqGt, Nat.lt_add_one, E2_P, t0, t3, hnt, SK_index, isStr9, str_at hb]
        refine hK _ _ ?_
        clear hK K
        refine R1.s_rg fun K hK => ?_
        simp only [SG_cons, SU_yes, gw_n, gw_gwv, gwv_b, gOf_n, gOf_some, List.map_cons, List.map_nil, List.getElem?_cons_zero, List.getElem?_cons_succ, Option.elim_some, decide_eq_true_eq, vN_val, SK_move, SK_bin, evTmp, ev_int, slot_put, putD_nt, slotOk, Nat.blt_eq, Nat.reduceLT, true_and, if_true, if_false, eqLt, eqGt, ii_geq, Nat.lt_add_one, E2_P, hnt]
        repeat' (refine SU_iteI (fun hc => ?_) (fun hc => ?_) <;> (try simp only [Classical.not_not] at hc) <;> simp only [hc, SG_nil, SG_cons, SU_yes, SU_no, gw_n, gw_gwv, gwv_b, gwv_u, boolE_b, decide_eq_true_eq, decide_true, decide_false, vN_val, pkN_b, SK_move, SK_pick, SK_bin, SK_not, evTmp, ev_int, ev_bool, slot_put, putD_nt, slotOk, Nat.blt_eq, Nat.reduceLT, true_and, if_true, if_false, Bool.false_eq_true, eqLt, eqGt, Bool.not_eq_true', decide_eq_false_iff_not, ii_leq, ii_geq, ii_neq, Bool.not_true, Bool.not_false, Nat.lt_add_one, E2_P, hnt])
        all_goals refine hK _ _ ?_
        all_goals clear hK K
        all_goals (first | refine R1.s_cnd fun Kx Ky hx hy => ?_ | refine R1.e_cnd fun Kx Ky hx hy => ?_); simp only [boolP'_b, evTmp, slot_put, Nat.reduceLT, if_true, if_false, Bool.false_eq_true, eqGt, Bool.not_eq_true', Nat.lt_add_one]
        all_goals first | refine hx ?_ | refine hy ?_ | refine iteI (fun hd => hx ?_) (fun hd => hy ?_)
        all_goals clear hx hy Kx Ky
        all_goals (try simp only [beq_eq_false_iff_ne, ne_eq, Classical.not_not] at hd)
        all_goals repeat' first | refine R1.ret ?_ | refine R1.exit ?_ | refine R1.skip ?_ | refine R1.s_ret ?_ | refine R1.s_exit ?_ | refine R1.s_assoc ?_ | refine R1.s_skip ?_ | refine R1.s_scope ?_ | ((first | refine R1.e_rg fun K hK => ?_ | refine R1.s_rg fun K hK => ?_ | refine R1.e_sq (by kernel_rfl) fun K hK => ?_ | refine R1.s_sq (by kernel_rfl) fun K hK => ?_); simp only [SG_nil, SG_cons, SU_yes, gw_n, gOf_n, List.map_cons, List.map_nil, SK_assign, ev_bool, putD_nt, slotOk, Nat.blt_eq, Nat.reduceLT, true_and, hnt]; refine hK _ _ ?_; clear hK K)
        all_goals first
          | (refine q4 _ _ (k4 _ _ ⟨_, _, callEnd_one (.b false) (.inr rfl) (by simp only [putD_dfr, hdf]) (by simp only [slot_put, Nat.reduceEqDiff, reduceIte]), Fr.refl _, fun _ => ?_⟩)
             have hno : okB b = false := Bool.eq_false_iff.2 fun h => by
               rw [okB_dec] at h
               simp only [Bool.or_eq_true, Bool.and_eq_true, decide_eq_true_eq] at h
               omega
             have : s.all okB = false := List.all_eq_false.2 ⟨b, hmem, by rw [hno]; decide⟩
             rw [this]; done)
          | (refine q1 _ _ ?_
             have hok : okB b = true := by
               rw [okB_dec]
               simp only [Bool.or_eq_true, Bool.and_eq_true, decide_eq_true_eq]
               omega
             have hw2 : IntKind.i64.wrap ((i : Int) + 1) = ((i + 1 : Nat) : Int) := by rw [wrapI (by omega) (by omega)]; omega
             repeat' first | refine R1.ret ?_ | refine R1.exit ?_ | refine R1.skip ?_ | refine R1.s_ret ?_ | refine R1.s_exit ?_ | refine R1.s_assoc ?_ | refine R1.s_skip ?_ | refine R1.s_scope ?_ | ((first | refine R1.e_rg fun K hK => ?_ | refine R1.s_rg fun K hK => ?_ | refine R1.e_sq (by kernel_rfl) fun K hK => ?_ | refine R1.s_sq (by kernel_rfl) fun K hK => ?_); simp only [SG_nil, SG_cons, SU_yes, gw_n, gOf_n, List.map_cons, List.map_nil, vN_val, SK_move, SK_assign, SK_bin, evTmp, ev_int, slot_put, putD_nt, slotOk, Nat.blt_eq, Nat.reduceLT, true_and, if_true, if_false, eqLt, eqGt, ii_add, Nat.lt_add_one, t3, hnt, hw2]; refine hK _ _ ?_; clear hK K)
             refine ⟨s.length - (i + 1), by omega, i + 1, rfl, hlt, rfl, by rw [htk, List.all_append, hall, List.all_cons, hok]; rfl, ?_, ?_, ?_, ?_⟩
             · simp only [slot_put, Nat.reduceEqDiff, reduceIte, t0]
             · simp only [slot_put, Nat.reduceEqDiff, reduceIte]
             · simp only [putD_nt, hnt]
             · simp only [putD_dfr, hdf])
      · clear hx hy Kx Ky
        have hie : i = s.length := by omega
        repeat' first | refine R1.ret ?_ | refine R1.exit ?_ | refine R1.skip ?_ | refine R1.s_ret ?_ | refine R1.s_exit ?_ | refine R1.s_assoc ?_ | refine R1.s_skip ?_ | refine R1.s_scope ?_ | ((first | refine R1.e_rg fun K hK => ?_ | refine R1.s_rg fun K hK => ?_ | refine R1.e_sq (by kernel_rfl) fun K hK => ?_ | refine R1.s_sq (by kernel_rfl) fun K hK => ?_); simp only [SG_nil, SG_cons, SU_yes, SU_no, gw_n, gw_gwv, gwv_b, gwv_u, gOf_n, gOf_some, List.map_cons, List.map_nil, List.getElem?_cons_zero, List.getElem?_cons_succ, Option.elim_some, Option.map_some, Option.bind_some, optP_some, boolP_b, boolP'_b, boolE_b, decide_eq_true_eq, decide_true, decide_false, valP_val, valP_guard, vN_val, ldN_some, stN_some, faN_some, iaN_some, lnN_some, pkN_b, sliceO_some, slice_lo, slice_hi, slice_1, indexAddr_0, Nat.add_one_sub_one, Nat.one_mul, len_sl, len_ns, len_str', posS, eq0S, cast0, Int.reduceLT, Int.reduceLE, Int.reduceBEq, Option.map_none, Nat.lt_add_left_iff_pos, Nat.zero_lt_succ, Nat.le_add_left, SK_move, SK_assign, SK_pick, SK_alloc, SK_box, SK_load, SK_store, SK_bin, SK_not, SK_fieldAddr, SK_field, SK_indexAddr, SK_slice, SK_extract, SK_nilCheck, SK_makeFunc, SK_makeMap, SK_makeSlice, SK_build, SK_buildSlice, SK_len, SK_append, SK_call, doCall_clo, doCall_clo, evTmp, ev_int, ev_bool, ev_str, ev_nilS, ev_func, opFev, evs_cons, evs_nil, slot_put, putD_nt, putD_none, putD_dfr, slotOk, Nat.blt_eq, Nat.reduceLT, Nat.reduceEqDiff, Nat.reduceLeDiff, reduceIte, true_and, and_true, true_or, or_true, if_true, if_false, Bool.false_eq_true, Bool.true_eq_false, not_false_eq_true, not_true_eq_false, ltV_ptr, ltV_sl, ltV_nil, ltV_str, ltV_i, nxNew, nxMod, get_newE, get_newL, get_modE, get_modN, ltAdd, ltSelf, eqLt, eqGt, eqLtA, eqGtA, eqSelfA, eqASelf, eqAA, ltAA, doLoad_ptr, doStore_ptr, rowOf_arr, rowOf_ro, ldO_agg, ldO_one, stO_arr, splice_eq, fieldAddr_at, Bool.not_eq_true', Bool.not_eq_false', decide_eq_false_iff_not, ne_eq, Nat.reduceLeDiff, Nat.lt_irrefl, gt_iff_lt, cells_one, cells_agg, noTup_one, noTup_agg, List.length_cons, List.length_nil, Nat.zero_add, Nat.add_zero, Nat.reduceAdd, Nat.reduceSub, Nat.reduceMul, Nat.le_refl, Nat.zero_le, capsOf_nil, capsOf_cons, capArgs_nil, capArgs_cons, List.cons_append, List.nil_append, List.append_nil, ex_0, ex_0a, ex_1, ex_1a, ex_2, ex_2a, ii_lss, ii_leq, ii_gtr, ii_geq, ii_eql, ii_neq, ii_add, ii_sub, ii_mul, ss_lss, ss_geq, ss_leq, ss_gtr, ss_eql, ss_neq, List.take_succ_cons, List.take_zero, List.drop_succ_cons, List.drop_zero, List.take_nil, List.drop_nil, List.headD_cons, Bool.not_true, Bool.not_false, Nat.lt_add_one, bin_agg, bin_b, agg2_agg, bool2_b, aggEq_nil, aggEq_s, aggEq_i, aggEq_b, aggO_some, fill_nil, fill_cons, Nat.zero_mul, partsF_nil, partsF_cons, repl_one, hnt]; refine hK _ _ ?_; clear hK K)
        refine k2 _ _ ?_
        repeat' first | refine R1.ret ?_ | refine R1.exit ?_ | refine R1.skip ?_ | refine R1.s_ret ?_ | refine R1.s_exit ?_ | refine R1.s_assoc ?_ | refine R1.s_skip ?_ | refine R1.s_scope ?_ | ((first | refine R1.e_rg fun K hK => ?_ | refine R1.s_rg fun K hK => ?_ | refine R1.e_sq (by kernel_rfl) fun K hK => ?_ | refine R1.s_sq (by kernel_rfl) fun K hK => ?_); simp only [SG_nil, SG_cons, SU_yes, gw_n, gOf_n, List.map_cons, List.map_nil, SK_assign, ev_bool, putD_nt, slotOk, Nat.blt_eq, Nat.reduceLT, true_and, hnt]; refine hK _ _ ?_; clear hK K)
        refine ⟨_, _, callEnd_one (.b true) (.inr rfl) (by simp only [putD_dfr, hdf]) (by simp only [slot_put, Nat.reduceEqDiff, reduceIte]), Fr.refl _, fun _ => ?_⟩
        rw [hie, List.take_length] at hall
        rw [hall]
    all_goals simp only [slot_put, Nat.reduceEqDiff, reduceIte, h0]
    all_goals rfl

theorem body13 : hasBody Tryz.prog 13 = true := by kernel_rfl

set_option maxRecDepth 10000 in
set_option maxHeartbeats 4000000 in
theorem refChk_con (H : Hp) (l : List Lot) (v : AC) (hl : SlL H v l) :
    Con E2 13 [.one v] H (fun _ => False) fun r _ => r = .one (.i .i64 (chkLots l)) := by
  refine Con.of rfl fun lg => ?_
  have hl : SlL ⟨H.t, H.nx, lg⟩ v l := hl
  generalize (⟨H.t, H.nx, lg⟩ : Hp) = H at hl ⊢
  refine C1.body (E := E2) (nt := 62) (res := [.tmp 2]) Tryz.func13 rfl rfl rfl rfl rfl fun tm hargs => ?_
  have h0 := hargs 0 _ rfl
  clear hargs
  repeat' first | refine R1.ret ?_ | refine R1.exit ?_ | refine R1.skip ?_ | refine R1.s_ret ?_ | refine R1.s_exit ?_ | refine R1.s_assoc ?_ | refine R1.s_skip ?_ | refine R1.s_scope ?_ | ((first | refine R1.e_rg fun K hK => ?_ | refine R1.s_rg fun K hK => ?_ | refine R1.e_sq (by kernel_rfl) fun K hK => ?_ | refine R1.s_sq (by kernel_rfl) fun K hK => ?_); simp only [SG_nil, SG_cons, SU_yes, gw_n, gOf_n, List.map_cons, List.map_nil, vN_val, lnN_some, Nat.zero_lt_succ, SK_move, SK_assign, SK_bin, SK_len, evTmp, ev_int, slot_put, putD_nt, slotOk, Nat.blt_eq, Nat.reduceLT, true_and, if_true, if_false, eqLt, eqGt, ii_gtr, Nat.lt_add_one, E2_P, h0, len22, hl.len, hl.lt]; refine hK _ _ ?_; clear hK K)
  (first | refine R1.s_cnd fun Kx Ky hx hy => ?_ | refine R1.e_cnd fun Kx Ky hx hy => ?_); simp only [boolP'_b, decide_eq_true_eq, evTmp, slot_put, Nat.reduceLT, if_true, if_false, eqGt, Nat.lt_add_one]
  refine iteI (fun hb => ?_) (fun hb => ?_)
  · refine hx ?_
    clear hx hy Kx Ky
    repeat' first | refine R1.ret ?_ | refine R1.exit ?_ | refine R1.skip ?_ | refine R1.s_ret ?_ | refine R1.s_exit ?_ | refine R1.s_assoc ?_ | refine R1.s_skip ?_ | refine R1.s_scope ?_ | ((first | refine R1.e_rg fun K hK => ?_ | refine R1.s_rg fun K hK => ?_ | refine R1.e_sq (by kernel_rfl) fun K hK => ?_ | refine R1.s_sq (by kernel_rfl) fun K hK => ?_); simp only [SG_nil, SG_cons, SU_yes, gw_n, gOf_n, List.map_cons, List.map_nil, SK_assign, ev_int, putD_nt, slotOk, Nat.blt_eq, Nat.reduceLT, true_and]; refine hK _ _ ?_; clear hK K)
    refine ⟨_, _, callEnd_one (.i .i64 3) (.inr rfl) rfl (by simp only [slot_put, reduceIte]), Fr.refl H, fun _ => ?_⟩
    have : 64 < l.length := by omega
    rw [chkLots, if_pos this]
  · refine hy ?_
    clear hx hy Kx Ky
    repeat' first | refine R1.ret ?_ | refine R1.exit ?_ | refine R1.skip ?_ | refine R1.s_ret ?_ | refine R1.s_exit ?_ | refine R1.s_assoc ?_ | refine R1.s_skip ?_ | refine R1.s_scope ?_ | ((first | refine R1.e_rg fun K hK => ?_ | refine R1.s_rg fun K hK => ?_ | refine R1.e_sq (by kernel_rfl) fun K hK => ?_ | refine R1.s_sq (by kernel_rfl) fun K hK => ?_); simp only [SG_nil, SG_cons, SU_yes, gw_n, gOf_n, List.map_cons, List.map_nil, SK_assign, ev_int, putD_nt, slotOk, Nat.blt_eq, Nat.reduceLT, true_and]; refine hK _ _ ?_; clear hK K)
    refine R1.s_block fun K k1 k2 k3 k4 => ?_
    refine R1.loop (fun k A1 H1 => ∃ i : Nat, k = l.length - i ∧ i ≤ l.length ∧ slot A1.tm 0 = .one v ∧ slot A1.tm 3 = .one (.i .i64 (i : Int)) ∧ A1.nt = 62 ∧ A1.dfr = [] ∧ Gr H H1 ∧ ∀ j, j < i → okI l j (l.getD j ([], 0)) = true) ?_ l.length
      ⟨0, rfl, Nat.zero_le _, ?_, ?_, rfl, rfl, Fr.refl H, fun j hj => absurd hj (Nat.not_lt_zero j)⟩
    · clear h0 tm
      rintro k A1 H1 ⟨i, rfl, hi, t0, t3, hnt, hdf, hgr, hall⟩
      have hl1 := hl.gr hgr
      repeat' first | refine R1.ret ?_ | refine R1.exit ?_ | refine R1.skip ?_ | refine R1.s_ret ?_ | refine R1.s_exit ?_ | refine R1.s_assoc ?_ | refine R1.s_skip ?_ | refine R1.s_scope ?_ | ((first | refine R1.e_rg fun K hK => ?_ | refine R1.s_rg fun K hK => ?_ | refine R1.e_sq (by kernel_rfl) fun K hK => ?_ | refine R1.s_sq (by kernel_rfl) fun K hK => ?_); simp only [SG_nil, SG_cons, SU_yes, gw_n, gOf_n, List.map_cons, List.map_nil, vN_val, lnN_some, Nat.zero_lt_succ, SK_move, SK_bin, SK_len, evTmp, slot_put, putD_nt, slotOk, Nat.blt_eq, Nat.reduceLT, true_and, if_true, if_false, eqLt, eqGt, ii_lss, Nat.lt_add_one, E2_P, t0, t3, hnt, len22, hl1.len, hl1.lt]; refine hK _ _ ?_; clear hK K)
      (first | refine R1.s_cnd fun Kx Ky hx hy => ?_ | refine R1.e_cnd fun Kx Ky hx hy => ?_); simp only [boolP'_b, decide_eq_true_eq, evTmp, slot_put, Nat.reduceLT, if_true, if_false, eqGt, Nat.lt_add_one]
      refine iteI (fun hc => ?_) (fun hc => ?_)
      · refine hx ?_
        clear hx hy Kx Ky
        have hlt : i < l.length := by omega
        obtain ⟨id, g, off, cells, rfl, hid, hg, hat⟩ := hl1.open (by omega)
        have hx : l[i]? = some l[i] := List.getElem?_eq_getElem hlt
        have hd : l.getD i ([], 0) = l[i] := by rw [List.getD_eq_getElem?_getD, hx]; rfl
        generalize l[i] = x at hx hd
        have hx1 := hat i x hx
        refine R1.s_skip (R1.s_block fun K2 q1 q2 q3 q4 => ?_)
        refine R1.s_sq (by kernel_rfl) fun K hK => ?_
        simp only [SG_cons, SU_yes, gw_n, gOf_n, gOf_some, List.map_cons, List.map_nil, List.getElem?_cons_zero, List.getElem?_cons_succ, Option.elim_some, vN_val, ldN_some, faN_some, iaN_some, Nat.zero_lt_succ, SK_move, SK_load, SK_fieldAddr, SK_indexAddr, SK_call, doCall_clo, doCall_clo, evTmp, ev_func, evs_cons, evs_nil, slot_put, putD_nt, slotOk, Nat.blt_eq, Nat.reduceLT, Nat.reduceLeDiff, true_and, if_true, if_false, ltV_ptr, eqLt, eqGt, doLoad_ptr, ldO_one, fieldAddr_at, Nat.reduceLeDiff, Nat.zero_add, Nat.add_zero, Nat.reduceSub, Nat.le_refl, capArgs_nil, List.append_nil, Nat.lt_add_one, t0, t3, hnt, E2_P, elem22, indexAddr_cast hlt, load9, field37_0, hid, hg, hx1.fst, hx1.le1, body38]
        refine WE.con (refName_con _ x.1) fun v3 H3 g3 hv => ?_
        subst hv
        have hid3 : id < H3.nx := Nat.lt_of_lt_of_le hid g3.nx
        have hg3 : rowOf (H3.get id) g = some cells := by rw [g3.get _ hid not_false]; exact hg
        have hw : 0 < (i : Int) → IntKind.i64.wrap ((i : Int) - 1) = ((i - 1 : Nat) : Int) := fun h => by rw [wrapI (by omega) (by omega)]; omega
        have hlt1 : i - 1 < l.length := by omega
        have hy := hat (i - 1) (l.getD (i - 1) ([], 0)) (by rw [List.getD_eq_getElem?_getD, List.getElem?_eq_getElem hlt1]; rfl)
        have hok : okI l i x = (nmB x.1 && (!(decide (0 < (i : Int))) || lLess (l.getD (i - 1) ([], 0)).1 x.1) && !(x.2 == 0) && !(decide (1099511627776 < x.2)) && !(decide (x.2 < -1099511627776))) := rfl
        generalize l.getD (i - 1) ([], 0) = y at hy hok
        have hw2 : IntKind.i64.wrap ((i : Int) + 1) = ((i + 1 : Nat) : Int) := by rw [wrapI (by omega) (by omega)]; omega
        have hgr3 : Gr H H3 := hgr.gr g3
        simp only [SG_cons, SU_yes, gw_n, gw_gwv, gwv_b, boolE_b, vN_val, SK_move, SK_not, evTmp, slot_put, putD_nt, slotOk, Nat.blt_eq, Nat.reduceLT, true_and, if_true, if_false, eqGt, Bool.not_eq_false', Nat.lt_add_one, hnt, E2_P]
        repeat' (refine SU_iteI (fun hc => ?_) (fun hc => ?_) <;> (try simp only [Bool.not_eq_true, Bool.not_eq_false, Classical.not_not] at hc) <;> simp only [hc, SG_nil, SG_cons, SU_yes, SU_no, gw_n, gw_gwv, gwv_b, gwv_u, decide_eq_true_eq, decide_true, decide_false, vN_val, ldN_some, faN_some, iaN_some, pkN_b, Nat.add_one_sub_one, Nat.zero_lt_succ, SK_move, SK_pick, SK_load, SK_bin, SK_fieldAddr, SK_indexAddr, evTmp, ev_int, ev_bool, slot_put, putD_nt, slotOk, Nat.blt_eq, Nat.reduceLT, Nat.reduceLeDiff, true_and, if_true, if_false, Bool.false_eq_true, Bool.true_eq_false, ltV_ptr, eqLt, eqGt, doLoad_ptr, ldO_one, fieldAddr_at, decide_eq_false_iff_not, Nat.reduceLeDiff, Nat.zero_add, Nat.add_zero, Nat.reduceAdd, Nat.reduceSub, Nat.le_refl, ii_lss, ii_gtr, ii_eql, ii_sub, ss_geq, Bool.not_true, Bool.not_false, Nat.lt_add_one, t0, t3, hnt, E2_P, load9, load3, field37_0, field37_1, elem22, hid3, hg3, hw, indexAddr_cast hlt, indexAddr_cast hlt1, hx1.le1, hx1.le2, hx1.fst, hx1.snd, hy.le1, hy.fst])
        all_goals refine hK _ _ ?_
        all_goals clear hK K
        all_goals (first | refine R1.s_cnd fun Kx Ky hx hy => ?_ | refine R1.e_cnd fun Kx Ky hx hy => ?_); simp only [boolP'_b, evTmp, slot_put, Nat.reduceLT, if_true, if_false, Bool.false_eq_true, eqGt, Bool.not_eq_true', Nat.lt_add_one]
        all_goals first | refine hx ?_ | refine hy ?_ | refine iteI (fun hc => hx ?_) (fun hc => hy ?_)
        all_goals clear hx hy Kx Ky
        all_goals repeat' first | refine R1.ret ?_ | refine R1.exit ?_ | refine R1.skip ?_ | refine R1.s_ret ?_ | refine R1.s_exit ?_ | refine R1.s_assoc ?_ | refine R1.s_skip ?_ | refine R1.s_scope ?_ | ((first | refine R1.e_rg fun K hK => ?_ | refine R1.s_rg fun K hK => ?_ | refine R1.e_sq (by kernel_rfl) fun K hK => ?_ | refine R1.s_sq (by kernel_rfl) fun K hK => ?_); simp only [SG_nil, SG_cons, SU_yes, gw_n, gOf_n, List.map_cons, List.map_nil, SK_assign, ev_int, putD_nt, slotOk, Nat.blt_eq, Nat.reduceLT, true_and, hnt]; refine hK _ _ ?_; clear hK K)
        all_goals first
          | (refine q4 _ _ (k4 _ _ ⟨_, _, callEnd_one (.i .i64 51) (.inr rfl) (by simp only [putD_dfr, hdf]) (by simp only [slot_put, reduceIte]), hgr3, fun _ => ?_⟩)
             have hno : okI l i x = false := by
               simp only [*, decide_true, decide_false, Bool.not_true, Bool.not_false, Bool.and_true, Bool.true_and, Bool.and_false, Bool.false_and, Bool.or_false]
             rw [chkLots, if_neg (by omega), okAll_no hx hno]; rfl)
          | (refine q1 _ _ ?_
             repeat' first | refine R1.ret ?_ | refine R1.exit ?_ | refine R1.skip ?_ | refine R1.s_ret ?_ | refine R1.s_exit ?_ | refine R1.s_assoc ?_ | refine R1.s_skip ?_ | refine R1.s_scope ?_ | ((first | refine R1.e_rg fun K hK => ?_ | refine R1.s_rg fun K hK => ?_ | refine R1.e_sq (by kernel_rfl) fun K hK => ?_ | refine R1.s_sq (by kernel_rfl) fun K hK => ?_); simp only [SG_nil, SG_cons, SU_yes, gw_n, gOf_n, List.map_cons, List.map_nil, vN_val, SK_move, SK_assign, SK_bin, evTmp, ev_int, slot_put, putD_nt, slotOk, Nat.blt_eq, Nat.reduceLT, true_and, if_true, if_false, eqLt, eqGt, ii_add, Nat.lt_add_one, t3, hnt, hw2]; refine hK _ _ ?_; clear hK K)
             refine ⟨l.length - (i + 1), by omega, i + 1, rfl, hlt, ?_, ?_, ?_, ?_, hgr3, fun j hj => ?_⟩
             · simp only [slot_put, Nat.reduceEqDiff, reduceIte, t0]
             · simp only [slot_put, Nat.reduceEqDiff, reduceIte]
             · simp only [putD_nt, hnt]
             · simp only [putD_dfr, hdf]
             · rcases Nat.lt_or_ge j i with h | h
               · exact hall j h
               · have : j = i := by omega
                 subst this
                 rw [hd]
                 simp only [*, decide_true, decide_false, Bool.not_true, Bool.not_false, Bool.and_true, Bool.or_true, Bool.true_or]
             )
      · refine hy ?_
        clear hx hy Kx Ky
        repeat' first | refine R1.ret ?_ | refine R1.exit ?_ | refine R1.skip ?_ | refine R1.s_ret ?_ | refine R1.s_exit ?_ | refine R1.s_assoc ?_ | refine R1.s_skip ?_ | refine R1.s_scope ?_ | ((first | refine R1.e_rg fun K hK => ?_ | refine R1.s_rg fun K hK => ?_ | refine R1.e_sq (by kernel_rfl) fun K hK => ?_ | refine R1.s_sq (by kernel_rfl) fun K hK => ?_); simp only [SG_nil, SG_cons, SU_yes, SU_no, gw_n, gw_gwv, gwv_b, gwv_u, gOf_n, gOf_some, List.map_cons, List.map_nil, List.getElem?_cons_zero, List.getElem?_cons_succ, Option.elim_some, Option.map_some, Option.bind_some, optP_some, boolP_b, boolP'_b, boolE_b, decide_eq_true_eq, decide_true, decide_false, valP_val, valP_guard, vN_val, ldN_some, stN_some, faN_some, iaN_some, lnN_some, pkN_b, sliceO_some, slice_lo, slice_hi, slice_1, indexAddr_0, Nat.add_one_sub_one, Nat.one_mul, len_sl, len_ns, len_str', posS, eq0S, cast0, Int.reduceLT, Int.reduceLE, Int.reduceBEq, Option.map_none, Nat.lt_add_left_iff_pos, Nat.zero_lt_succ, Nat.le_add_left, SK_move, SK_assign, SK_pick, SK_alloc, SK_box, SK_load, SK_store, SK_bin, SK_not, SK_fieldAddr, SK_field, SK_indexAddr, SK_slice, SK_extract, SK_nilCheck, SK_makeFunc, SK_makeMap, SK_makeSlice, SK_build, SK_buildSlice, SK_len, SK_append, SK_call, doCall_clo, doCall_clo, evTmp, ev_int, ev_bool, ev_str, ev_nilS, ev_func, opFev, evs_cons, evs_nil, slot_put, putD_nt, putD_none, putD_dfr, slotOk, Nat.blt_eq, Nat.reduceLT, Nat.reduceEqDiff, Nat.reduceLeDiff, reduceIte, true_and, and_true, true_or, or_true, if_true, if_false, Bool.false_eq_true, Bool.true_eq_false, not_false_eq_true, not_true_eq_false, ltV_ptr, ltV_sl, ltV_nil, ltV_str, ltV_i, nxNew, nxMod, get_newE, get_newL, get_modE, get_modN, ltAdd, ltSelf, eqLt, eqGt, eqLtA, eqGtA, eqSelfA, eqASelf, eqAA, ltAA, doLoad_ptr, doStore_ptr, rowOf_arr, rowOf_ro, ldO_agg, ldO_one, stO_arr, splice_eq, fieldAddr_at, Bool.not_eq_true', Bool.not_eq_false', decide_eq_false_iff_not, ne_eq, Nat.reduceLeDiff, Nat.lt_irrefl, gt_iff_lt, cells_one, cells_agg, noTup_one, noTup_agg, List.length_cons, List.length_nil, Nat.zero_add, Nat.add_zero, Nat.reduceAdd, Nat.reduceSub, Nat.reduceMul, Nat.le_refl, Nat.zero_le, capsOf_nil, capsOf_cons, capArgs_nil, capArgs_cons, List.cons_append, List.nil_append, List.append_nil, ex_0, ex_0a, ex_1, ex_1a, ex_2, ex_2a, ii_lss, ii_leq, ii_gtr, ii_geq, ii_eql, ii_neq, ii_add, ii_sub, ii_mul, ss_lss, ss_geq, ss_leq, ss_gtr, ss_eql, ss_neq, List.take_succ_cons, List.take_zero, List.drop_succ_cons, List.drop_zero, List.take_nil, List.drop_nil, List.headD_cons, Bool.not_true, Bool.not_false, Nat.lt_add_one, bin_agg, bin_b, agg2_agg, bool2_b, aggEq_nil, aggEq_s, aggEq_i, aggEq_b, aggO_some, fill_nil, fill_cons, Nat.zero_mul, partsF_nil, partsF_cons, repl_one, hnt]; refine hK _ _ ?_; clear hK K)
        refine k2 _ _ ?_
        repeat' first | refine R1.ret ?_ | refine R1.exit ?_ | refine R1.skip ?_ | refine R1.s_ret ?_ | refine R1.s_exit ?_ | refine R1.s_assoc ?_ | refine R1.s_skip ?_ | refine R1.s_scope ?_ | ((first | refine R1.e_rg fun K hK => ?_ | refine R1.s_rg fun K hK => ?_ | refine R1.e_sq (by kernel_rfl) fun K hK => ?_ | refine R1.s_sq (by kernel_rfl) fun K hK => ?_); simp only [SG_nil, SG_cons, SU_yes, gw_n, gOf_n, List.map_cons, List.map_nil, SK_assign, ev_int, putD_nt, slotOk, Nat.blt_eq, Nat.reduceLT, true_and, hnt]; refine hK _ _ ?_; clear hK K)
        refine ⟨_, _, callEnd_one (.i .i64 0) (.inr rfl) (by simp only [putD_dfr, hdf]) (by simp only [slot_put, reduceIte]), hgr, fun _ => ?_⟩
        have : i = l.length := by omega
        subst this
        rw [chkLots, if_neg (by omega), okAll_yes hall]; rfl
    all_goals simp only [slot_put, Nat.reduceEqDiff, reduceIte, h0]
    all_goals rfl
end Go.Proofs.YtndipbefnipnpaaGreat
