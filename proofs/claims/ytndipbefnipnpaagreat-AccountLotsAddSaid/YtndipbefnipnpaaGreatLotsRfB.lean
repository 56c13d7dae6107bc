/- The reference's goods: what it answers. -/
import Derived.Test.YtndipbefnipnpaaGreatLotsRfA
namespace Go.Proofs.YtndipbefnipnpaaGreat
open Go Go.Eng

theorem zero9 : (zeroT Tryz.prog 9).map (fun z => (ofValue z).cells) = some [.o (.str [])] := by kernel_rfl

theorem R1e_block {E : Env} {r : Option Nat} {A : AAct} {H : Hp} {Q : AExit → AAct → Hp → Prop} {id : Nat} {c : Code} (h : ∀ K : AExit → AAct → Hp → Prop, (∀ A H, Q .normal A H → K .normal A H) → (∀ A H, Q .normal A H → K (.exit id) A H) → (∀ i A H, i ≠ id → Q (.exit i) A H → K (.exit i) A H) → (∀ A H, Q .ret A H → K .ret A H) → R1 E r c A H K) : R1 E r (.block id c) A H Q := by
  refine R1.block (h _ (fun _ _ h => h) (fun A H h => ?_) (fun i A H hi h => ?_) fun _ _ h => h)
  · show if id = id then Q .normal A H else Q (.exit id) A H
    rw [if_pos rfl]; exact h
  · show if i = id then Q .normal A H else Q (.exit i) A H
    rw [if_neg hi]; exact h

/-- A string is appended. -/
theorem push_str {H : Hp} {v : AC} {out : List (List UInt8)} {r : Option Nat} (s : List UInt8) (ho : OwnR H v 9 1 out.length (out.flatMap strC) r) (hL : out.length ≤ 1000000) :
    ltV (.one v) (H.new (.arr [.o (.str s)] 9 0 0)).nx ∧ ∃ v' H' r', doAppend Tryz.prog (H.new (.arr [.o (.str s)] 9 0 0)) 74 (.one v) (.one (.o (.sl H.nx 0 0 1 1))) = .val (.one v') H' ∧
      OwnR H' v' 9 1 (out ++ [s]).length ((out ++ [s]).flatMap strC) (some r') ∧ Fr (fun i => r = some i) H H' ∧ (r = some r' ∨ H.nx ≤ r') := by
  obtain ⟨z, hz, hzl⟩ := zeroV9
  have hown3 := ho.fr ((Fr.refl _ : Gr _ _).new (.arr [.o (.str s)] 9 0 0)) fun _ _ h => h
  obtain ⟨v5, H5, r5, happ, how5, hf5, hr5⟩ := append_own (P := Tryz.prog) (t := 74) (H := H.new (.arr [.o (.str s)] 9 0 0)) (x := .one (.o (.sl H.nx 0 0 1 1))) (k := 1) (c := [.o (.str s)]) elem74 bytes9 hz hzl (by decide) hown3
    (by rw [srcOf_row (cells := [.o (.str s)]) (by rw [get_newE rfl]; rfl) (by simp)]; rfl) (by decide) rfl (by omega) (by omega)
  refine ⟨hown3.lt, v5, H5, r5, happ, ?_, ?_, ?_⟩
  · have e1 : (out ++ [s]).length = out.length + 1 := by simp
    have e2 : (out ++ [s]).flatMap strC = out.flatMap strC ++ [.o (.str s)] := by rw [List.flatMap_append]; rfl
    rw [e1, e2]; exact how5
  · exact ((Fr.refl _ : Gr _ _).new (.arr [.o (.str s)] 9 0 0)).none.then hf5 fun q hq => .inr hq
  · rcases hr5 with h | ⟨_, h⟩
    · exact .inl h
    · right; rw [h, nxNew]; omega

set_option maxRecDepth 10000 in
set_option maxHeartbeats 4000000 in
theorem goods_con (H : Hp) (a b : List Lot) (va vb : AC) (ha : SlL H va a) (hb : SlL H vb b) (hL : a.length + b.length ≤ 128) :
    Con E2 42 [.one va, .one vb] H (fun _ => False) fun r H' => ∃ vs, r = .one vs ∧ SlS H' vs (keysK a b) := by
  refine Con.of rfl fun lg => ?_
  have ha : SlL ⟨H.t, H.nx, lg⟩ va a := ha
  have hb : SlL ⟨H.t, H.nx, lg⟩ vb b := hb
  generalize (⟨H.t, H.nx, lg⟩ : Hp) = H at ha hb ⊢
  refine C1.body (E := E2) (nt := 81) (res := [.tmp 4]) Tryz.func42 rfl rfl rfl rfl rfl fun tm hargs => ?_
  have h0 := hargs 0 _ rfl
  have h1 := hargs 1 _ rfl
  clear hargs
  repeat' first | refine R1.ret ?_ | refine R1.exit ?_ | refine R1.skip ?_ | refine R1.s_ret ?_ | refine R1.s_exit ?_ | refine R1.s_assoc ?_ | refine R1.s_skip ?_ | refine R1.s_scope ?_ | ((first | refine R1.e_rg fun K hK => ?_ | refine R1.s_rg fun K hK => ?_ | refine R1.e_sq (by kernel_rfl) fun K hK => ?_ | refine R1.s_sq (by kernel_rfl) fun K hK => ?_); simp only [SG_nil, SG_cons, SU_yes, gw_n, gOf_n, List.map_cons, List.map_nil, SK_assign, ev_int, ev_nilS, putD_nt, slotOk, Nat.blt_eq, Nat.reduceLT, true_and]; refine hK _ _ ?_; clear hK K)
  refine R1.s_block fun K k1 k2 k3 k4 => ?_
  refine R1.loop (fun m A1 H1 => ∃ (i k : Nat) (out : List (List UInt8)) (v5 : AC) (r : Option Nat), m = (a.length - i) + (b.length - k) ∧ i ≤ a.length ∧ k ≤ b.length ∧ out.length ≤ i + k ∧ out ++ keysK (a.drop i) (b.drop k) = keysK a b ∧ OwnR H1 v5 9 1 out.length (out.flatMap strC) r ∧ (∀ q, r = some q → H.nx ≤ q) ∧ Gr H H1 ∧
    slot A1.tm 0 = .one va ∧ slot A1.tm 1 = .one vb ∧ slot A1.tm 5 = .one v5 ∧ slot A1.tm 6 = .one (.i .i64 (i : Int)) ∧ slot A1.tm 7 = .one (.i .i64 (k : Int)) ∧ A1.nt = 81 ∧ A1.dfr = []) ?_ (a.length + b.length)
    ⟨0, 0, [], .o .nilS, none, rfl, Nat.zero_le _, Nat.zero_le _, Nat.le_refl _, rfl, .inl ⟨rfl, rfl, rfl, rfl⟩, fun q hq => (by cases hq), Fr.refl _, ?_, ?_, ?_, ?_, ?_, rfl, rfl⟩
  · clear h0 h1 tm
    rintro m A1 H1 ⟨i, k, out, v5, r, rfl, hi, hk, hout, hkeys, hown, hrow, hgr, t0, t1, t5, t6, t7, hnt, hdf⟩
    have ha1 := ha.gr hgr
    have hb1 := hb.gr hgr
    have next : ∀ (i' k' : Nat) (s : List UInt8) (v6 : AC) (H6 : Hp) (r6 : Nat) (A6 : AAct), (a.length - i') + (b.length - k') < (a.length - i) + (b.length - k) → i' ≤ a.length → k' ≤ b.length → i + k + 1 ≤ i' + k' → keysK (a.drop i) (b.drop k) = s :: keysK (a.drop i') (b.drop k') →
        OwnR H6 v6 9 1 (out ++ [s]).length ((out ++ [s]).flatMap strC) (some r6) → Fr (fun i => r = some i) H1 H6 → (r = some r6 ∨ H1.nx ≤ r6) → slot A6.tm 0 = .one va → slot A6.tm 1 = .one vb → slot A6.tm 5 = .one v6 → slot A6.tm 6 = .one (.i .i64 (i' : Int)) → slot A6.tm 7 = .one (.i .i64 (k' : Int)) → A6.nt = 81 → A6.dfr = [] →
        ∃ m', m' < (a.length - i) + (b.length - k) ∧ ∃ (i k : Nat) (out : List (List UInt8)) (v5 : AC) (r : Option Nat), m' = (a.length - i) + (b.length - k) ∧ i ≤ a.length ∧ k ≤ b.length ∧ out.length ≤ i + k ∧ out ++ keysK (a.drop i) (b.drop k) = keysK a b ∧ OwnR H6 v5 9 1 out.length (out.flatMap strC) r ∧ (∀ q, r = some q → H.nx ≤ q) ∧ Gr H H6 ∧
    slot A6.tm 0 = .one va ∧ slot A6.tm 1 = .one vb ∧ slot A6.tm 5 = .one v5 ∧ slot A6.tm 6 = .one (.i .i64 (i : Int)) ∧ slot A6.tm 7 = .one (.i .i64 (k : Int)) ∧ A6.nt = 81 ∧ A6.dfr = [] := by
      intro i' k' s v6 H6 r6 A6 e1 e2 e3 e4 e5 e6 e7 e8 u0 u1 u5 u6 u7 un ud
      refine ⟨_, e1, i', k', out ++ [s], v6, some r6, rfl, e2, e3, by rw [List.length_append, List.length_singleton]; omega, ?_, e6, fun q hq => ?_, hgr.then e7 fun q hq => .inl (hrow q hq), u0, u1, u5, u6, u7, un, ud⟩
      · rw [List.append_assoc, List.singleton_append, ← e5]; exact hkeys
      · cases hq
        rcases e8 with h | h
        · exact hrow _ h
        · exact Nat.le_trans hgr.nx h
    have hw1 : IntKind.i64.wrap ((i : Int) + 1) = ((i + 1 : Nat) : Int) := by rw [wrapI (by omega) (by omega)]; omega
    have hw2 : IntKind.i64.wrap ((k : Int) + 1) = ((k + 1 : Nat) : Int) := by rw [wrapI (by omega) (by omega)]; omega
    have hnil : ∀ {l : List Lot} {n : Nat}, n = l.length → l.drop n = [] := fun h => by rw [h, List.drop_length]
    rcases Nat.lt_or_ge i a.length with hia | hia
    · have ci : ((i : Int) < (a.length : Int)) = True := eq_true (by omega)
      have ea : a[i]? = some a[i] := List.getElem?_eq_getElem hia
      generalize a[i] = x at ea
      obtain ⟨id, g, off, cells, rfl, hid, hg, hat⟩ := ha1.open (by omega)
      have hx1 := hat i x ea
      obtain ⟨hlt5, v6, H6, r6, happ, how6, hf6, hr6⟩ := push_str x.1 hown (by omega)
      rcases Nat.lt_or_ge k b.length with hkb | hkb
      · have ck : ((k : Int) == (b.length : Int)) = false := beq_false_of_ne (by omega)
        have eb : b[k]? = some b[k] := List.getElem?_eq_getElem hkb
        generalize b[k] = y at eb
        obtain ⟨id', g', off', cells', rfl, hid', hg', hat'⟩ := hb1.open (by omega)
        have hy1 := hat' k y eb
        obtain ⟨hlt5y, v6y, H6y, r6y, happy, how6y, hf6y, hr6y⟩ := push_str y.1 hown (by omega)
        cases hlt : lLess x.1 y.1 with
        | true =>
          repeat refine R1.s_assoc ?_
          refine R1.s_rg fun K hK => ?_
          simp only [SG_nil, SG_cons, SU_yes, SU_no, gw_n, gw_gwv, gwv_b, gOf_n, gOf_some, List.map_cons, List.map_nil, List.getElem?_cons_zero, List.getElem?_cons_succ, Option.elim_some, decide_true, vN_val, lnN_some, pkN_b, Nat.zero_lt_succ, SK_move, SK_pick, SK_bin, SK_len, evTmp, ev_bool, slot_put, putD_nt, slotOk, Nat.blt_eq, Nat.reduceLT, true_and, if_true, if_false, Bool.true_eq_false, eqLt, eqGt, ii_lss, Nat.lt_add_one, E2_P, t0, t6, hnt, len22, ha1.len, ha1.lt, ci]
          refine hK _ _ ?_
          clear hK K
          (first | refine R1.s_cnd fun Kx Ky hx hy => ?_ | refine R1.e_cnd fun Kx Ky hx hy => ?_); simp only [boolP'_b, evTmp, slot_put, Nat.reduceLT, if_true, if_false, eqGt, Nat.lt_add_one]
          refine hx ?_
          clear hx hy Kx Ky
          refine R1.s_skip (R1e_block fun K2 q1 q2 q3 q4 => ?_)
          refine R1.s_sq (by kernel_rfl) fun K hK => ?_
          simp only [SG_nil, SG_cons, SU_yes, gw_n, gw_gwv, gwv_b, gOf_n, gOf_some, List.map_cons, List.map_nil, List.getElem?_cons_zero, List.getElem?_cons_succ, Option.elim_some, decide_true, vN_val, ldN_some, faN_some, iaN_some, lnN_some, pkN_b, Nat.zero_lt_succ, SK_move, SK_pick, SK_load, SK_bin, SK_fieldAddr, SK_indexAddr, SK_len, evTmp, ev_bool, slot_put, putD_nt, slotOk, Nat.blt_eq, Nat.reduceLT, Nat.reduceLeDiff, true_and, if_true, if_false, Bool.false_eq_true, ltV_ptr, eqLt, eqGt, doLoad_ptr, ldO_one, fieldAddr_at, Nat.reduceLeDiff, Nat.zero_add, Nat.add_zero, Nat.reduceSub, Nat.le_refl, ii_lss, ii_eql, ss_lss, Nat.lt_add_one, E2_P, t0, t1, t6, t7, hnt, len22, elem22, load9, field37_0, indexAddr_cast hia, indexAddr_cast hkb, ha1.len, ha1.lt, hb1.len, hb1.lt, ci, ck, hid, hg, hid', hg', hx1.fst, hx1.le1, hy1.fst, hy1.le1, hlt]
          refine hK _ _ ?_
          clear hK K
          (first | refine R1.s_cnd fun Kx Ky hx hy => ?_ | refine R1.e_cnd fun Kx Ky hx hy => ?_); simp only [boolP'_b, evTmp, slot_put, Nat.reduceLT, if_true, if_false, eqGt, Nat.lt_add_one]
          refine hx ?_
          clear hx hy Kx Ky
          repeat refine R1.s_assoc ?_
          refine R1.s_rg fun K hK => ?_
          simp only [SG_nil, SG_cons, SU_yes, gw_n, gOf_n, List.map_cons, List.map_nil, Option.map_some, Option.bind_some, optP_some, vN_val, ldN_some, faN_some, iaN_some, Nat.one_mul, Nat.zero_lt_succ, SK_move, SK_assign, SK_load, SK_fieldAddr, SK_indexAddr, SK_buildSlice, SK_append, evTmp, opFev, slot_put, putD_nt, slotOk, Nat.blt_eq, Nat.reduceLT, Nat.reduceLeDiff, true_and, and_true, if_true, if_false, ltV_ptr, ltV_sl, nxNew, eqLt, eqGt, doLoad_ptr, ldO_one, fieldAddr_at, Nat.reduceLeDiff, cells_one, noTup_one, List.length_cons, List.length_nil, Nat.zero_add, Nat.add_zero, Nat.reduceSub, Nat.le_refl, List.nil_append, List.append_nil, List.take_zero, List.drop_succ_cons, List.drop_nil, Nat.lt_add_one, fill_nil, fill_cons, Nat.zero_mul, partsF_nil, partsF_cons, repl_one, E2_P, t0, t5, t6, hnt, elem22, elem74, load9, field37_0, indexAddr_cast hia, hid, hg, hx1.fst, hx1.le1, zero9, repl_one, happ]
          refine ⟨hlt5, ?_⟩
          refine hK _ _ ?_
          clear hK K
          repeat' first | refine R1.ret ?_ | refine R1.exit ?_ | refine R1.skip ?_ | refine R1.s_ret ?_ | refine R1.s_exit ?_ | refine R1.s_assoc ?_ | refine R1.s_skip ?_ | refine R1.s_scope ?_ | ((first | refine R1.e_rg fun K hK => ?_ | refine R1.s_rg fun K hK => ?_ | refine R1.e_sq (by kernel_rfl) fun K hK => ?_ | refine R1.s_sq (by kernel_rfl) fun K hK => ?_); simp only [SG_nil, SG_cons, SU_yes, gw_n, gOf_n, List.map_cons, List.map_nil, vN_val, SK_move, SK_assign, SK_bin, evTmp, ev_int, slot_put, putD_nt, slotOk, Nat.blt_eq, Nat.reduceLT, true_and, if_true, if_false, eqLt, eqGt, ii_add, Nat.lt_add_one, hnt, t6, hw1]; refine hK _ _ ?_; clear hK K)
          refine q1 _ _ ?_
          exact next (i + 1) k x.1 v6 H6 r6 _ (by omega) (by omega) (by omega) (by omega) (keysK_lt ea eb hlt) how6 hf6 hr6 (by simp only [slot_put, Nat.reduceEqDiff, reduceIte, t0]) (by simp only [slot_put, Nat.reduceEqDiff, reduceIte, t1]) (by simp only [slot_put, Nat.reduceEqDiff, reduceIte]) (by simp only [slot_put, Nat.reduceEqDiff, reduceIte, t6]) (by simp only [slot_put, Nat.reduceEqDiff, reduceIte, t7]) (by simp only [putD_nt, hnt]) (by simp only [putD_dfr, hdf])
        | false =>
          by_cases hEq : x.1 = y.1
          · have ce : lEq x.1 y.1 = true := by rw [lEq_eq, hEq, beq_self_eq_true]
            repeat refine R1.s_assoc ?_
            refine R1.s_rg fun K hK => ?_
            simp only [SG_nil, SG_cons, SU_yes, SU_no, gw_n, gw_gwv, gwv_b, gOf_n, gOf_some, List.map_cons, List.map_nil, List.getElem?_cons_zero, List.getElem?_cons_succ, Option.elim_some, decide_true, vN_val, lnN_some, pkN_b, Nat.zero_lt_succ, SK_move, SK_pick, SK_bin, SK_len, evTmp, ev_bool, slot_put, putD_nt, slotOk, Nat.blt_eq, Nat.reduceLT, true_and, if_true, if_false, Bool.true_eq_false, eqLt, eqGt, ii_lss, Nat.lt_add_one, E2_P, t0, t6, hnt, len22, ha1.len, ha1.lt, ci]
            refine hK _ _ ?_
            clear hK K
            (first | refine R1.s_cnd fun Kx Ky hx hy => ?_ | refine R1.e_cnd fun Kx Ky hx hy => ?_); simp only [boolP'_b, evTmp, slot_put, Nat.reduceLT, if_true, if_false, eqGt, Nat.lt_add_one]
            refine hx ?_
            clear hx hy Kx Ky
            refine R1.s_skip (R1e_block fun K2 q1 q2 q3 q4 => ?_)
            refine R1.s_sq (by kernel_rfl) fun K hK => ?_
            simp only [SG_nil, SG_cons, SU_yes, gw_n, gw_gwv, gwv_b, gOf_n, gOf_some, List.map_cons, List.map_nil, List.getElem?_cons_zero, List.getElem?_cons_succ, Option.elim_some, decide_true, vN_val, ldN_some, faN_some, iaN_some, lnN_some, pkN_b, Nat.zero_lt_succ, SK_move, SK_pick, SK_load, SK_bin, SK_fieldAddr, SK_indexAddr, SK_len, evTmp, ev_bool, slot_put, putD_nt, slotOk, Nat.blt_eq, Nat.reduceLT, Nat.reduceLeDiff, true_and, if_true, if_false, Bool.false_eq_true, ltV_ptr, eqLt, eqGt, doLoad_ptr, ldO_one, fieldAddr_at, Nat.reduceLeDiff, Nat.zero_add, Nat.add_zero, Nat.reduceSub, Nat.le_refl, ii_lss, ii_eql, ss_lss, Nat.lt_add_one, E2_P, t0, t1, t6, t7, hnt, len22, elem22, load9, field37_0, indexAddr_cast hia, indexAddr_cast hkb, ha1.len, ha1.lt, hb1.len, hb1.lt, ci, ck, hid, hg, hid', hg', hx1.fst, hx1.le1, hy1.fst, hy1.le1, hlt]
            refine hK _ _ ?_
            clear hK K
            (first | refine R1.s_cnd fun Kx Ky hx hy => ?_ | refine R1.e_cnd fun Kx Ky hx hy => ?_); simp only [boolP'_b, evTmp, slot_put, Nat.reduceLT, if_true, if_false, Bool.false_eq_true, eqGt, Nat.lt_add_one]
            refine hy ?_
            clear hx hy Kx Ky
            repeat refine R1.s_assoc ?_
            refine R1.s_sq (by kernel_rfl) fun K hK => ?_
            simp only [SG_nil, SG_cons, SU_yes, gw_n, gw_gwv, gwv_b, gOf_n, gOf_some, List.map_cons, List.map_nil, List.getElem?_cons_zero, List.getElem?_cons_succ, Option.elim_some, decide_true, vN_val, ldN_some, faN_some, iaN_some, lnN_some, pkN_b, Nat.zero_lt_succ, SK_move, SK_pick, SK_load, SK_bin, SK_fieldAddr, SK_indexAddr, SK_len, evTmp, ev_bool, slot_put, putD_nt, slotOk, Nat.blt_eq, Nat.reduceLT, Nat.reduceLeDiff, true_and, if_true, if_false, ltV_ptr, eqLt, eqGt, doLoad_ptr, ldO_one, fieldAddr_at, Nat.reduceLeDiff, Nat.zero_add, Nat.add_zero, Nat.reduceSub, Nat.le_refl, ii_lss, ss_eql, Nat.lt_add_one, E2_P, t0, t1, t6, t7, hnt, len22, elem22, load9, field37_0, indexAddr_cast hia, indexAddr_cast hkb, ha1.len, ha1.lt, ci, hid, hg, hid', hg', hx1.fst, hx1.le1, hy1.fst, hy1.le1, ce]
            refine hK _ _ ?_
            clear hK K
            (first | refine R1.s_cnd fun Kx Ky hx hy => ?_ | refine R1.e_cnd fun Kx Ky hx hy => ?_); simp only [boolP'_b, evTmp, slot_put, Nat.reduceLT, if_true, if_false, eqGt, Nat.lt_add_one]
            refine hx ?_
            clear hx hy Kx Ky
            repeat refine R1.s_assoc ?_
            repeat' first | refine R1.ret ?_ | refine R1.exit ?_ | refine R1.skip ?_ | refine R1.s_ret ?_ | refine R1.s_exit ?_ | refine R1.s_assoc ?_ | refine R1.s_skip ?_ | refine R1.s_scope ?_ | ((first | refine R1.e_rg fun K hK => ?_ | refine R1.s_rg fun K hK => ?_ | refine R1.e_sq (by kernel_rfl) fun K hK => ?_ | refine R1.s_sq (by kernel_rfl) fun K hK => ?_); simp only [SG_nil, SG_cons, SU_yes, gw_n, gOf_n, List.map_cons, List.map_nil, vN_val, SK_move, SK_assign, SK_bin, SK_indexAddr, evTmp, ev_int, slot_put, putD_nt, slotOk, Nat.blt_eq, Nat.reduceLT, true_and, if_true, if_false, eqLt, eqGt, ii_add, Nat.lt_add_one, hnt, t6, hw1]; refine hK _ _ ?_; clear hK K)
            refine R1.s_rg fun K hK => ?_
            simp only [SG_nil, SG_cons, SU_yes, gw_n, gOf_n, List.map_cons, List.map_nil, Option.map_some, Option.bind_some, optP_some, vN_val, ldN_some, faN_some, iaN_some, Nat.one_mul, SK_move, SK_assign, SK_load, SK_fieldAddr, SK_indexAddr, SK_buildSlice, SK_append, evTmp, opFev, slot_put, putD_nt, slotOk, Nat.blt_eq, Nat.reduceLT, Nat.reduceLeDiff, true_and, and_true, if_true, if_false, ltV_ptr, ltV_sl, nxNew, eqLt, eqGt, doLoad_ptr, ldO_one, fieldAddr_at, Nat.reduceLeDiff, cells_one, noTup_one, List.length_cons, List.length_nil, Nat.zero_add, Nat.add_zero, Nat.reduceSub, Nat.le_refl, List.nil_append, List.append_nil, List.take_zero, List.drop_succ_cons, List.drop_nil, Nat.lt_add_one, fill_nil, fill_cons, Nat.zero_mul, partsF_nil, partsF_cons, repl_one, E2_P, t1, t5, t7, hnt, elem22, elem74, load9, field37_0, indexAddr_cast hkb, hid', hg', hy1.fst, hy1.le1, zero9, repl_one, happy]
            refine ⟨hlt5y, ?_⟩
            refine hK _ _ ?_
            clear hK K
            repeat' first | refine R1.ret ?_ | refine R1.exit ?_ | refine R1.skip ?_ | refine R1.s_ret ?_ | refine R1.s_exit ?_ | refine R1.s_assoc ?_ | refine R1.s_skip ?_ | refine R1.s_scope ?_ | ((first | refine R1.e_rg fun K hK => ?_ | refine R1.s_rg fun K hK => ?_ | refine R1.e_sq (by kernel_rfl) fun K hK => ?_ | refine R1.s_sq (by kernel_rfl) fun K hK => ?_); simp only [SG_nil, SG_cons, SU_yes, gw_n, gOf_n, List.map_cons, List.map_nil, vN_val, SK_move, SK_assign, SK_bin, evTmp, ev_int, slot_put, putD_nt, slotOk, Nat.blt_eq, Nat.reduceLT, true_and, if_true, if_false, eqLt, eqGt, ii_add, Nat.lt_add_one, hnt, t7, hw2]; refine hK _ _ ?_; clear hK K)
            refine q1 _ _ ?_
            exact next (i + 1) (k + 1) y.1 v6y H6y r6y _ (by omega) (by omega) (by omega) (by omega) (keysK_eq ea eb hEq) how6y hf6y hr6y (by simp only [slot_put, Nat.reduceEqDiff, reduceIte, t0]) (by simp only [slot_put, Nat.reduceEqDiff, reduceIte, t1]) (by simp only [slot_put, Nat.reduceEqDiff, reduceIte]) (by simp only [slot_put, Nat.reduceEqDiff, reduceIte, t6]) (by simp only [slot_put, Nat.reduceEqDiff, reduceIte, t7]) (by simp only [putD_nt, hnt]) (by simp only [putD_dfr, hdf])
          · have ce : lEq x.1 y.1 = false := by rw [lEq_eq]; exact beq_false_of_ne hEq
            repeat refine R1.s_assoc ?_
            refine R1.s_rg fun K hK => ?_
            simp only [SG_nil, SG_cons, SU_yes, SU_no, gw_n, gw_gwv, gwv_b, gOf_n, gOf_some, List.map_cons, List.map_nil, List.getElem?_cons_zero, List.getElem?_cons_succ, Option.elim_some, decide_true, vN_val, lnN_some, pkN_b, Nat.zero_lt_succ, SK_move, SK_pick, SK_bin, SK_len, evTmp, ev_bool, slot_put, putD_nt, slotOk, Nat.blt_eq, Nat.reduceLT, true_and, if_true, if_false, Bool.true_eq_false, eqLt, eqGt, ii_lss, Nat.lt_add_one, E2_P, t0, t6, hnt, len22, ha1.len, ha1.lt, ci]
            refine hK _ _ ?_
            clear hK K
            (first | refine R1.s_cnd fun Kx Ky hx hy => ?_ | refine R1.e_cnd fun Kx Ky hx hy => ?_); simp only [boolP'_b, evTmp, slot_put, Nat.reduceLT, if_true, if_false, eqGt, Nat.lt_add_one]
            refine hx ?_
            clear hx hy Kx Ky
            refine R1.s_skip (R1e_block fun K2 q1 q2 q3 q4 => ?_)
            refine R1.s_sq (by kernel_rfl) fun K hK => ?_
            simp only [SG_nil, SG_cons, SU_yes, gw_n, gw_gwv, gwv_b, gOf_n, gOf_some, List.map_cons, List.map_nil, List.getElem?_cons_zero, List.getElem?_cons_succ, Option.elim_some, decide_true, vN_val, ldN_some, faN_some, iaN_some, lnN_some, pkN_b, Nat.zero_lt_succ, SK_move, SK_pick, SK_load, SK_bin, SK_fieldAddr, SK_indexAddr, SK_len, evTmp, ev_bool, slot_put, putD_nt, slotOk, Nat.blt_eq, Nat.reduceLT, Nat.reduceLeDiff, true_and, if_true, if_false, Bool.false_eq_true, ltV_ptr, eqLt, eqGt, doLoad_ptr, ldO_one, fieldAddr_at, Nat.reduceLeDiff, Nat.zero_add, Nat.add_zero, Nat.reduceSub, Nat.le_refl, ii_lss, ii_eql, ss_lss, Nat.lt_add_one, E2_P, t0, t1, t6, t7, hnt, len22, elem22, load9, field37_0, indexAddr_cast hia, indexAddr_cast hkb, ha1.len, ha1.lt, hb1.len, hb1.lt, ci, ck, hid, hg, hid', hg', hx1.fst, hx1.le1, hy1.fst, hy1.le1, hlt]
            refine hK _ _ ?_
            clear hK K
            (first | refine R1.s_cnd fun Kx Ky hx hy => ?_ | refine R1.e_cnd fun Kx Ky hx hy => ?_); simp only [boolP'_b, evTmp, slot_put, Nat.reduceLT, if_true, if_false, Bool.false_eq_true, eqGt, Nat.lt_add_one]
            refine hy ?_
            clear hx hy Kx Ky
            repeat refine R1.s_assoc ?_
            refine R1.s_sq (by kernel_rfl) fun K hK => ?_
            simp only [SG_nil, SG_cons, SU_yes, gw_n, gw_gwv, gwv_b, gOf_n, gOf_some, List.map_cons, List.map_nil, List.getElem?_cons_zero, List.getElem?_cons_succ, Option.elim_some, decide_true, vN_val, ldN_some, faN_some, iaN_some, lnN_some, pkN_b, Nat.zero_lt_succ, SK_move, SK_pick, SK_load, SK_bin, SK_fieldAddr, SK_indexAddr, SK_len, evTmp, ev_bool, slot_put, putD_nt, slotOk, Nat.blt_eq, Nat.reduceLT, Nat.reduceLeDiff, true_and, if_true, if_false, ltV_ptr, eqLt, eqGt, doLoad_ptr, ldO_one, fieldAddr_at, Nat.reduceLeDiff, Nat.zero_add, Nat.add_zero, Nat.reduceSub, Nat.le_refl, ii_lss, ss_eql, Nat.lt_add_one, E2_P, t0, t1, t6, t7, hnt, len22, elem22, load9, field37_0, indexAddr_cast hia, indexAddr_cast hkb, ha1.len, ha1.lt, ci, hid, hg, hid', hg', hx1.fst, hx1.le1, hy1.fst, hy1.le1, ce]
            refine hK _ _ ?_
            clear hK K
            (first | refine R1.s_cnd fun Kx Ky hx hy => ?_ | refine R1.e_cnd fun Kx Ky hx hy => ?_); simp only [boolP'_b, evTmp, slot_put, Nat.reduceLT, if_true, if_false, Bool.false_eq_true, eqGt, Nat.lt_add_one]
            refine hy ?_
            clear hx hy Kx Ky
            repeat refine R1.s_assoc ?_
            repeat' first | refine R1.ret ?_ | refine R1.exit ?_ | refine R1.skip ?_ | refine R1.s_ret ?_ | refine R1.s_exit ?_ | refine R1.s_assoc ?_ | refine R1.s_skip ?_ | refine R1.s_scope ?_ | ((first | refine R1.e_rg fun K hK => ?_ | refine R1.s_rg fun K hK => ?_ | refine R1.e_sq (by kernel_rfl) fun K hK => ?_ | refine R1.s_sq (by kernel_rfl) fun K hK => ?_); simp only [SG_cons, SU_yes, gw_n, gOf_n, List.map_cons, List.map_nil, SK_move, SK_indexAddr, evTmp, slot_put, putD_nt, slotOk, Nat.blt_eq, Nat.reduceLT, true_and, if_true, if_false, eqLt, eqGt, Nat.lt_add_one, hnt]; refine hK _ _ ?_; clear hK K)
            refine R1.s_rg fun K hK => ?_
            simp only [SG_nil, SG_cons, SU_yes, gw_n, gOf_n, List.map_cons, List.map_nil, Option.map_some, Option.bind_some, optP_some, vN_val, ldN_some, faN_some, iaN_some, Nat.one_mul, SK_move, SK_assign, SK_load, SK_fieldAddr, SK_indexAddr, SK_buildSlice, SK_append, evTmp, opFev, slot_put, putD_nt, slotOk, Nat.blt_eq, Nat.reduceLT, Nat.reduceLeDiff, true_and, and_true, if_true, if_false, ltV_ptr, ltV_sl, nxNew, eqLt, eqGt, doLoad_ptr, ldO_one, fieldAddr_at, Nat.reduceLeDiff, cells_one, noTup_one, List.length_cons, List.length_nil, Nat.zero_add, Nat.add_zero, Nat.reduceSub, Nat.le_refl, List.nil_append, List.append_nil, List.take_zero, List.drop_succ_cons, List.drop_nil, Nat.lt_add_one, fill_nil, fill_cons, Nat.zero_mul, partsF_nil, partsF_cons, repl_one, E2_P, t1, t5, t7, hnt, elem22, elem74, load9, field37_0, indexAddr_cast hkb, hid', hg', hy1.fst, hy1.le1, zero9, repl_one, happy]
            refine ⟨hlt5y, ?_⟩
            refine hK _ _ ?_
            clear hK K
            repeat' first | refine R1.ret ?_ | refine R1.exit ?_ | refine R1.skip ?_ | refine R1.s_ret ?_ | refine R1.s_exit ?_ | refine R1.s_assoc ?_ | refine R1.s_skip ?_ | refine R1.s_scope ?_ | ((first | refine R1.e_rg fun K hK => ?_ | refine R1.s_rg fun K hK => ?_ | refine R1.e_sq (by kernel_rfl) fun K hK => ?_ | refine R1.s_sq (by kernel_rfl) fun K hK => ?_); simp only [SG_nil, SG_cons, SU_yes, gw_n, gOf_n, List.map_cons, List.map_nil, vN_val, SK_move, SK_assign, SK_bin, evTmp, ev_int, slot_put, putD_nt, slotOk, Nat.blt_eq, Nat.reduceLT, true_and, if_true, if_false, eqLt, eqGt, ii_add, Nat.lt_add_one, hnt, t7, hw2]; refine hK _ _ ?_; clear hK K)
            refine q1 _ _ ?_
            exact next i (k + 1) y.1 v6y H6y r6y _ (by omega) (by omega) (by omega) (by omega) (keysK_gt ea eb hlt hEq) how6y hf6y hr6y (by simp only [slot_put, Nat.reduceEqDiff, reduceIte, t0]) (by simp only [slot_put, Nat.reduceEqDiff, reduceIte, t1]) (by simp only [slot_put, Nat.reduceEqDiff, reduceIte]) (by simp only [slot_put, Nat.reduceEqDiff, reduceIte, t6]) (by simp only [slot_put, Nat.reduceEqDiff, reduceIte, t7]) (by simp only [putD_nt, hnt]) (by simp only [putD_dfr, hdf])
      · have ck : ((k : Int) == (b.length : Int)) = true := by rw [beq_iff_eq]; omega
        have hkk : k = b.length := by omega
        repeat refine R1.s_assoc ?_
        refine R1.s_rg fun K hK => ?_
        simp only [SG_nil, SG_cons, SU_yes, SU_no, gw_n, gw_gwv, gwv_b, gOf_n, gOf_some, List.map_cons, List.map_nil, List.getElem?_cons_zero, List.getElem?_cons_succ, Option.elim_some, decide_true, vN_val, lnN_some, pkN_b, Nat.zero_lt_succ, SK_move, SK_pick, SK_bin, SK_len, evTmp, ev_bool, slot_put, putD_nt, slotOk, Nat.blt_eq, Nat.reduceLT, true_and, if_true, if_false, Bool.true_eq_false, eqLt, eqGt, ii_lss, Nat.lt_add_one, E2_P, t0, t6, hnt, len22, ha1.len, ha1.lt, ci]
        refine hK _ _ ?_
        clear hK K
        (first | refine R1.s_cnd fun Kx Ky hx hy => ?_ | refine R1.e_cnd fun Kx Ky hx hy => ?_); simp only [boolP'_b, evTmp, slot_put, Nat.reduceLT, if_true, if_false, eqGt, Nat.lt_add_one]
        refine hx ?_
        clear hx hy Kx Ky
        refine R1.s_skip (R1e_block fun K2 q1 q2 q3 q4 => ?_)
        refine R1.s_sq (by kernel_rfl) fun K hK => ?_
        simp only [SG_nil, SG_cons, SU_yes, SU_no, gw_n, gw_gwv, gwv_b, gwv_u, gOf_n, gOf_some, List.map_cons, List.map_nil, List.getElem?_cons_zero, List.getElem?_cons_succ, Option.elim_some, vN_val, lnN_some, pkN_b, SK_move, SK_pick, SK_bin, SK_len, evTmp, ev_bool, slot_put, putD_nt, slotOk, Nat.blt_eq, Nat.reduceLT, true_and, if_true, if_false, Bool.true_eq_false, eqLt, eqGt, ii_eql, Nat.lt_add_one, E2_P, t1, t7, hnt, len22, hb1.len, hb1.lt, ck]
        refine hK _ _ ?_
        clear hK K
        (first | refine R1.s_cnd fun Kx Ky hx hy => ?_ | refine R1.e_cnd fun Kx Ky hx hy => ?_); simp only [boolP'_b, evTmp, slot_put, Nat.reduceLT, if_true, if_false, eqGt, Nat.lt_add_one]
        refine hx ?_
        clear hx hy Kx Ky
        repeat refine R1.s_assoc ?_
        refine R1.s_rg fun K hK => ?_
        simp only [SG_nil, SG_cons, SU_yes, gw_n, gOf_n, List.map_cons, List.map_nil, Option.map_some, Option.bind_some, optP_some, vN_val, ldN_some, faN_some, iaN_some, Nat.one_mul, Nat.zero_lt_succ, SK_move, SK_assign, SK_load, SK_fieldAddr, SK_indexAddr, SK_buildSlice, SK_append, evTmp, opFev, slot_put, putD_nt, slotOk, Nat.blt_eq, Nat.reduceLT, Nat.reduceLeDiff, true_and, and_true, if_true, if_false, ltV_ptr, ltV_sl, nxNew, eqLt, eqGt, doLoad_ptr, ldO_one, fieldAddr_at, Nat.reduceLeDiff, cells_one, noTup_one, List.length_cons, List.length_nil, Nat.zero_add, Nat.add_zero, Nat.reduceSub, Nat.le_refl, List.nil_append, List.append_nil, List.take_zero, List.drop_succ_cons, List.drop_nil, Nat.lt_add_one, fill_nil, fill_cons, Nat.zero_mul, partsF_nil, partsF_cons, repl_one, E2_P, t0, t5, t6, hnt, elem22, elem74, load9, field37_0, indexAddr_cast hia, hid, hg, hx1.fst, hx1.le1, zero9, repl_one, happ]
        refine ⟨hlt5, ?_⟩
        refine hK _ _ ?_
        clear hK K
        repeat' first | refine R1.ret ?_ | refine R1.exit ?_ | refine R1.skip ?_ | refine R1.s_ret ?_ | refine R1.s_exit ?_ | refine R1.s_assoc ?_ | refine R1.s_skip ?_ | refine R1.s_scope ?_ | ((first | refine R1.e_rg fun K hK => ?_ | refine R1.s_rg fun K hK => ?_ | refine R1.e_sq (by kernel_rfl) fun K hK => ?_ | refine R1.s_sq (by kernel_rfl) fun K hK => ?_); simp only [SG_nil, SG_cons, SU_yes, gw_n, gOf_n, List.map_cons, List.map_nil, vN_val, SK_move, SK_assign, SK_bin, evTmp, ev_int, slot_put, putD_nt, slotOk, Nat.blt_eq, Nat.reduceLT, true_and, if_true, if_false, eqLt, eqGt, ii_add, Nat.lt_add_one, hnt, t6, hw1]; refine hK _ _ ?_; clear hK K)
        refine q1 _ _ ?_
        exact next (i + 1) k x.1 v6 H6 r6 _ (by omega) (by omega) (by omega) (by omega) (by rw [hnil hkk]; exact keysK_l ea) how6 hf6 hr6 (by simp only [slot_put, Nat.reduceEqDiff, reduceIte, t0]) (by simp only [slot_put, Nat.reduceEqDiff, reduceIte, t1]) (by simp only [slot_put, Nat.reduceEqDiff, reduceIte]) (by simp only [slot_put, Nat.reduceEqDiff, reduceIte, t6]) (by simp only [slot_put, Nat.reduceEqDiff, reduceIte, t7]) (by simp only [putD_nt, hnt]) (by simp only [putD_dfr, hdf])
    · have ci : ((i : Int) < (a.length : Int)) = False := eq_false (by omega)
      have hii : i = a.length := by omega
      rcases Nat.lt_or_ge k b.length with hkb | hkb
      · have ck : ((k : Int) == (b.length : Int)) = false := beq_false_of_ne (by omega)
        have ck2 : ((k : Int) < (b.length : Int)) = True := eq_true (by omega)
        have eb : b[k]? = some b[k] := List.getElem?_eq_getElem hkb
        generalize b[k] = y at eb
        obtain ⟨id', g', off', cells', rfl, hid', hg', hat'⟩ := hb1.open (by omega)
        have hy1 := hat' k y eb
        obtain ⟨hlt5y, v6y, H6y, r6y, happy, how6y, hf6y, hr6y⟩ := push_str y.1 hown (by omega)
        repeat refine R1.s_assoc ?_
        refine R1.s_rg fun K hK => ?_
        simp only [SG_nil, SG_cons, SU_yes, gw_n, gw_gwv, gwv_b, gOf_n, gOf_some, List.map_cons, List.map_nil, List.getElem?_cons_zero, List.getElem?_cons_succ, Option.elim_some, decide_true, decide_false, vN_val, lnN_some, pkN_b, Nat.zero_lt_succ, SK_move, SK_pick, SK_bin, SK_len, evTmp, ev_bool, slot_put, putD_nt, slotOk, Nat.blt_eq, Nat.reduceLT, true_and, if_true, if_false, Bool.false_eq_true, eqLt, eqGt, ii_lss, Nat.lt_add_one, E2_P, t0, t1, t6, t7, hnt, len22, ha1.len, ha1.lt, hb1.len, hb1.lt, ci, ck2]
        refine hK _ _ ?_
        clear hK K
        (first | refine R1.s_cnd fun Kx Ky hx hy => ?_ | refine R1.e_cnd fun Kx Ky hx hy => ?_); simp only [boolP'_b, evTmp, slot_put, Nat.reduceLT, if_true, if_false, eqGt, Nat.lt_add_one]
        refine hx ?_
        clear hx hy Kx Ky
        refine R1.s_skip (R1e_block fun K2 q1 q2 q3 q4 => ?_)
        refine R1.s_sq (by kernel_rfl) fun K hK => ?_
        simp only [SG_nil, SG_cons, SU_yes, SU_no, gw_n, gw_gwv, gwv_b, gOf_n, gOf_some, List.map_cons, List.map_nil, List.getElem?_cons_zero, List.getElem?_cons_succ, Option.elim_some, decide_false, vN_val, lnN_some, pkN_b, Nat.zero_lt_succ, SK_move, SK_pick, SK_bin, SK_len, evTmp, ev_bool, slot_put, putD_nt, slotOk, Nat.blt_eq, Nat.reduceLT, true_and, if_true, if_false, Bool.false_eq_true, eqLt, eqGt, ii_lss, ii_eql, Nat.lt_add_one, E2_P, t0, t1, t6, t7, hnt, len22, ha1.len, ha1.lt, hb1.len, hb1.lt, ci, ck]
        refine hK _ _ ?_
        clear hK K
        (first | refine R1.s_cnd fun Kx Ky hx hy => ?_ | refine R1.e_cnd fun Kx Ky hx hy => ?_); simp only [boolP'_b, evTmp, slot_put, Nat.reduceLT, if_true, if_false, Bool.false_eq_true, eqGt, Nat.lt_add_one]
        refine hy ?_
        clear hx hy Kx Ky
        repeat refine R1.s_assoc ?_
        refine R1.s_sq (by kernel_rfl) fun K hK => ?_
        simp only [SG_nil, SG_cons, SU_yes, SU_no, gw_n, gw_gwv, gwv_b, gOf_n, gOf_some, List.map_cons, List.map_nil, List.getElem?_cons_zero, List.getElem?_cons_succ, Option.elim_some, decide_false, vN_val, lnN_some, pkN_b, Nat.zero_lt_succ, SK_move, SK_pick, SK_bin, SK_len, evTmp, ev_bool, slot_put, putD_nt, slotOk, Nat.blt_eq, Nat.reduceLT, true_and, if_true, if_false, Bool.false_eq_true, eqLt, eqGt, ii_lss, Nat.lt_add_one, E2_P, t0, t6, hnt, len22, ha1.len, ha1.lt, ci]
        refine hK _ _ ?_
        clear hK K
        (first | refine R1.s_cnd fun Kx Ky hx hy => ?_ | refine R1.e_cnd fun Kx Ky hx hy => ?_); simp only [boolP'_b, evTmp, slot_put, Nat.reduceLT, if_true, if_false, Bool.false_eq_true, eqGt, Nat.lt_add_one]
        refine hy ?_
        clear hx hy Kx Ky
        repeat refine R1.s_assoc ?_
        repeat' first | refine R1.ret ?_ | refine R1.exit ?_ | refine R1.skip ?_ | refine R1.s_ret ?_ | refine R1.s_exit ?_ | refine R1.s_assoc ?_ | refine R1.s_skip ?_ | refine R1.s_scope ?_ | ((first | refine R1.e_rg fun K hK => ?_ | refine R1.s_rg fun K hK => ?_ | refine R1.e_sq (by kernel_rfl) fun K hK => ?_ | refine R1.s_sq (by kernel_rfl) fun K hK => ?_); simp only [SG_cons, SU_yes, gw_n, gOf_n, List.map_cons, List.map_nil, SK_move, SK_indexAddr, evTmp, slot_put, putD_nt, slotOk, Nat.blt_eq, Nat.reduceLT, true_and, if_true, if_false, eqLt, eqGt, Nat.lt_add_one, hnt]; refine hK _ _ ?_; clear hK K)
        refine R1.s_rg fun K hK => ?_
        simp only [SG_nil, SG_cons, SU_yes, gw_n, gOf_n, List.map_cons, List.map_nil, Option.map_some, Option.bind_some, optP_some, vN_val, ldN_some, faN_some, iaN_some, Nat.one_mul, SK_move, SK_assign, SK_load, SK_fieldAddr, SK_indexAddr, SK_buildSlice, SK_append, evTmp, opFev, slot_put, putD_nt, slotOk, Nat.blt_eq, Nat.reduceLT, Nat.reduceLeDiff, true_and, and_true, if_true, if_false, ltV_ptr, ltV_sl, nxNew, eqLt, eqGt, doLoad_ptr, ldO_one, fieldAddr_at, Nat.reduceLeDiff, cells_one, noTup_one, List.length_cons, List.length_nil, Nat.zero_add, Nat.add_zero, Nat.reduceSub, Nat.le_refl, List.nil_append, List.append_nil, List.take_zero, List.drop_succ_cons, List.drop_nil, Nat.lt_add_one, fill_nil, fill_cons, Nat.zero_mul, partsF_nil, partsF_cons, repl_one, E2_P, t1, t5, t7, hnt, elem22, elem74, load9, field37_0, indexAddr_cast hkb, hid', hg', hy1.fst, hy1.le1, zero9, repl_one, happy]
        refine ⟨hlt5y, ?_⟩
        refine hK _ _ ?_
        clear hK K
        repeat' first | refine R1.ret ?_ | refine R1.exit ?_ | refine R1.skip ?_ | refine R1.s_ret ?_ | refine R1.s_exit ?_ | refine R1.s_assoc ?_ | refine R1.s_skip ?_ | refine R1.s_scope ?_ | ((first | refine R1.e_rg fun K hK => ?_ | refine R1.s_rg fun K hK => ?_ | refine R1.e_sq (by kernel_rfl) fun K hK => ?_ | refine R1.s_sq (by kernel_rfl) fun K hK => ?_); simp only [SG_nil, SG_cons, SU_yes, gw_n, gOf_n, List.map_cons, List.map_nil, vN_val, SK_move, SK_assign, SK_bin, evTmp, ev_int, slot_put, putD_nt, slotOk, Nat.blt_eq, Nat.reduceLT, true_and, if_true, if_false, eqLt, eqGt, ii_add, Nat.lt_add_one, hnt, t7, hw2]; refine hK _ _ ?_; clear hK K)
        refine q1 _ _ ?_
        exact next i (k + 1) y.1 v6y H6y r6y _ (by omega) (by omega) (by omega) (by omega) (by rw [hnil hii]; exact keysK_r eb) how6y hf6y hr6y (by simp only [slot_put, Nat.reduceEqDiff, reduceIte, t0]) (by simp only [slot_put, Nat.reduceEqDiff, reduceIte, t1]) (by simp only [slot_put, Nat.reduceEqDiff, reduceIte]) (by simp only [slot_put, Nat.reduceEqDiff, reduceIte, t6]) (by simp only [slot_put, Nat.reduceEqDiff, reduceIte, t7]) (by simp only [putD_nt, hnt]) (by simp only [putD_dfr, hdf])
      · have ck2 : ((k : Int) < (b.length : Int)) = False := eq_false (by omega)
        have hkk : k = b.length := by omega
        repeat refine R1.s_assoc ?_
        refine R1.s_rg fun K hK => ?_
        simp only [SG_nil, SG_cons, SU_yes, gw_n, gw_gwv, gwv_b, gOf_n, gOf_some, List.map_cons, List.map_nil, List.getElem?_cons_zero, List.getElem?_cons_succ, Option.elim_some, decide_false, vN_val, lnN_some, pkN_b, Nat.zero_lt_succ, SK_move, SK_pick, SK_bin, SK_len, evTmp, ev_bool, slot_put, putD_nt, slotOk, Nat.blt_eq, Nat.reduceLT, true_and, if_true, if_false, Bool.false_eq_true, eqLt, eqGt, ii_lss, Nat.lt_add_one, E2_P, t0, t1, t6, t7, hnt, len22, ha1.len, ha1.lt, hb1.len, hb1.lt, ci, ck2]
        refine hK _ _ ?_
        clear hK K
        (first | refine R1.s_cnd fun Kx Ky hx hy => ?_ | refine R1.e_cnd fun Kx Ky hx hy => ?_); simp only [boolP'_b, evTmp, slot_put, Nat.reduceLT, if_true, if_false, Bool.false_eq_true, eqGt, Nat.lt_add_one]
        refine hy ?_
        clear hx hy Kx Ky
        repeat' first | refine R1.ret ?_ | refine R1.exit ?_ | refine R1.skip ?_ | refine R1.s_ret ?_ | refine R1.s_exit ?_ | refine R1.s_assoc ?_ | refine R1.s_skip ?_ | refine R1.s_scope ?_ | ((first | refine R1.e_rg fun K hK => ?_ | refine R1.s_rg fun K hK => ?_ | refine R1.e_sq (by kernel_rfl) fun K hK => ?_ | refine R1.s_sq (by kernel_rfl) fun K hK => ?_); simp only [SG_nil, SG_cons, SU_yes, SU_no, gw_n, gw_gwv, gwv_b, gwv_u, gOf_n, gOf_some, List.map_cons, List.map_nil, List.getElem?_cons_zero, List.getElem?_cons_succ, Option.elim_some, Option.map_some, Option.bind_some, optP_some, boolP_b, boolP'_b, boolE_b, decide_eq_true_eq, decide_true, decide_false, valP_val, valP_guard, vN_val, ldN_some, stN_some, faN_some, iaN_some, lnN_some, pkN_b, sliceO_some, slice_lo, slice_hi, slice_1, indexAddr_0, Nat.add_one_sub_one, Nat.one_mul, len_sl, len_ns, len_str', posS, eq0S, cast0, Int.reduceLT, Int.reduceLE, Int.reduceBEq, Option.map_none, Nat.lt_add_left_iff_pos, Nat.zero_lt_succ, Nat.le_add_left, SK_move, SK_assign, SK_pick, SK_alloc, SK_box, SK_load, SK_store, SK_bin, SK_not, SK_fieldAddr, SK_field, SK_indexAddr, SK_slice, SK_extract, SK_nilCheck, SK_makeFunc, SK_makeMap, SK_makeSlice, SK_build, SK_buildSlice, SK_len, SK_append, SK_call, doCall_clo, doCall_clo, evTmp, ev_int, ev_bool, ev_str, ev_nilS, ev_func, opFev, evs_cons, evs_nil, slot_put, putD_nt, putD_none, putD_dfr, slotOk, Nat.blt_eq, Nat.reduceLT, Nat.reduceEqDiff, Nat.reduceLeDiff, reduceIte, true_and, and_true, true_or, or_true, if_true, if_false, Bool.false_eq_true, Bool.true_eq_false, not_false_eq_true, not_true_eq_false, ltV_ptr, ltV_sl, ltV_nil, ltV_str, ltV_i, nxNew, nxMod, get_newE, get_newL, get_modE, get_modN, ltAdd, ltSelf, eqLt, eqGt, eqLtA, eqGtA, eqSelfA, eqASelf, eqAA, ltAA, doLoad_ptr, doStore_ptr, rowOf_arr, rowOf_ro, ldO_agg, ldO_one, stO_arr, splice_eq, fieldAddr_at, Bool.not_eq_true', Bool.not_eq_false', decide_eq_false_iff_not, ne_eq, Nat.reduceLeDiff, Nat.lt_irrefl, gt_iff_lt, cells_one, cells_agg, noTup_one, noTup_agg, List.length_cons, List.length_nil, Nat.zero_add, Nat.add_zero, Nat.reduceAdd, Nat.reduceSub, Nat.reduceMul, Nat.le_refl, Nat.zero_le, capsOf_nil, capsOf_cons, capArgs_nil, capArgs_cons, List.cons_append, List.nil_append, List.append_nil, ex_0, ex_0a, ex_1, ex_1a, ex_2, ex_2a, ii_lss, ii_leq, ii_gtr, ii_geq, ii_eql, ii_neq, ii_add, ii_sub, ii_mul, ss_lss, ss_geq, ss_leq, ss_gtr, ss_eql, ss_neq, List.take_succ_cons, List.take_zero, List.drop_succ_cons, List.drop_zero, List.take_nil, List.drop_nil, List.headD_cons, Bool.not_true, Bool.not_false, Nat.lt_add_one, bin_agg, bin_b, agg2_agg, bool2_b, aggEq_nil, aggEq_s, aggEq_i, aggEq_b, aggO_some, fill_nil, fill_cons, Nat.zero_mul, partsF_nil, partsF_cons, repl_one, hnt]; refine hK _ _ ?_; clear hK K)
        refine k2 _ _ ?_
        repeat' first | refine R1.ret ?_ | refine R1.exit ?_ | refine R1.skip ?_ | refine R1.s_ret ?_ | refine R1.s_exit ?_ | refine R1.s_assoc ?_ | refine R1.s_skip ?_ | refine R1.s_scope ?_ | ((first | refine R1.e_rg fun K hK => ?_ | refine R1.s_rg fun K hK => ?_ | refine R1.e_sq (by kernel_rfl) fun K hK => ?_ | refine R1.s_sq (by kernel_rfl) fun K hK => ?_); simp only [SG_nil, SG_cons, SU_yes, gw_n, gOf_n, List.map_cons, List.map_nil, SK_move, SK_assign, evTmp, slot_put, putD_nt, slotOk, Nat.blt_eq, Nat.reduceLT, true_and, if_true, if_false, eqLt, eqGt, Nat.lt_add_one, hnt, t5]; refine hK _ _ ?_; clear hK K)
        refine ⟨_, _, callEnd_one v5 (.inr rfl) (by simp only [putD_dfr, hdf]) (by simp only [slot_put, Nat.reduceEqDiff, reduceIte]), hgr, fun _ => ⟨_, rfl, ?_⟩⟩
        have e : keysK a b = out := by
          rw [← hkeys, hnil hii, hnil hkk]
          unfold keysK
          rw [pairs, List.map_nil, List.append_nil]
        rw [e]
        exact hown.slc
  all_goals simp only [slot_put, Nat.reduceEqDiff, reduceIte, h0, h1]
  all_goals rfl
end Go.Proofs.YtndipbefnipnpaaGreat
