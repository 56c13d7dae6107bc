/- merge: what it answers. -/
import Derived.Test.YtndipbefnipnpaaGreatLotsSm
namespace Go.Proofs.YtndipbefnipnpaaGreat
open Go Go.Eng

def noLot : Lot := ([], 0)
/-- The pairs that 'merge' passes on. -/
noncomputable def pairs : List Lot → List Lot → List (Lot × Lot)
  | [], [] => []
  | x :: a, [] => (x, noLot) :: pairs a []
  | [], y :: b => (noLot, y) :: pairs [] b
  | x :: a, y :: b => if lLess x.1 y.1 = true then (x, noLot) :: pairs a (y :: b) else if lLess y.1 x.1 = true then (noLot, y) :: pairs (x :: a) b else (x, y) :: pairs a b
termination_by a b => a.length + b.length

/-- What passing on some pairs comes to; none: a pair was not taken. -/
def runPass {τ : Type} (ok : τ → Lot → Lot → Bool) (step : τ → Lot → Lot → τ) : τ → List (Lot × Lot) → Option τ
  | t, [] => some t
  | t, (x, y) :: l => if ok t x y = true then runPass ok step (step t x y) l else none

/-- A slice that lies below 'n'. -/
def Below' (v : AC) (n : Nat) : Prop := ∀ id ∈ (AV.one v).ids, id < n

theorem SlL.fr {H H' : Hp} {v : AC} {l : List Lot} {X : Nat → Prop} (h : SlL H v l) (hf : Fr X H H') (hx : ∀ id ∈ (AV.one v).ids, ¬ X id) : SlL H' v l := by
  refine ⟨h.1, h.2.imp id ?_⟩
  rintro ⟨id, g, off, h1, h2, h3⟩
  subst h1
  exact ⟨id, g, off, rfl, Nat.lt_of_lt_of_le h2 hf.nx, h3.of_get (hf.get _ h2 (hx id (List.mem_singleton.2 rfl)))⟩

/-- Where the loop of 'merge' stands. -/
structure MInv {σ τ : Type} (n0 : Nat) (J : σ → Hp → Prop) (fp : σ → Nat → Prop) (pure : σ → τ) (ok : τ → Lot → Lot → Bool) (step : τ → Lot → Lot → τ) (B : τ → Nat → Prop) (fn : FuncId) (caps : List (Nat × Nat × Nat × Nat)) (H : Hp) (s0 : σ) (r0 : Option τ)
    (A : AAct) (H1 : Hp) (s : σ) (a b : List Lot) (va vb : AC) (q9 : Nat) : Prop where
  r : runPass ok step (pure s) (pairs a b) = r0
  j : J s H1
  bb : B (pure s) (a.length + b.length)
  fr : Fr (fp s0) H H1
  fpi : ∀ i, fp s i → fp s0 i ∨ H.nx ≤ i
  sa : SlL H1 va a
  sb : SlL H1 vb b
  la : Below' va n0
  lb : Below' vb n0
  t0 : slot A.tm 0 = .one va
  t1 : slot A.tm 1 = .one vb
  t2 : slot A.tm 2 = .one (.o (.clo 36 []))
  t3 : slot A.tm 3 = .one (.o (.clo fn caps))
  t9 : slot A.tm 9 = .one (.o (.ptr q9 0 0 2))
  g9 : H1.get q9 = some (.arr [.o (.str []), .i .i64 0] 37 0 0)
  l9 : H.nx ≤ q9 ∧ q9 < H1.nx
  f9 : ¬ fp s q9
  nt : A.nt = 80
  df : A.dfr = []

set_option maxRecDepth 10000 in
set_option maxHeartbeats 4000000 in
theorem merge_con {σ τ : Type} (n0 : Nat) (J : σ → Hp → Prop) (fp : σ → Nat → Prop) (pure : σ → τ) (ok : τ → Lot → Lot → Bool) (step : τ → Lot → Lot → τ) (B : τ → Nat → Prop) (hB : ∀ t n m x y, B t n → m < n → B (step t x y) m) (fn : FuncId) (caps : List (Nat × Nat × Nat × Nat)) (hbody : hasBody Tryz.prog fn = true)
    (hJt : ∀ s (H H' : Hp), H'.t = H.t → H'.nx = H.nx → J s H → J s H') (hJg : ∀ s H H', J s H → Gr H H' → J s H') (hJl : ∀ s H i, J s H → fp s i → n0 ≤ i ∧ i < H.nx)
    (hpass : ∀ s H x y n, J s H → B (pure s) n → 0 < n → Con E2 fn (.agg (lotC x) :: .agg (lotC y) :: capArgs caps) H (fp s) fun v H' => v = .one (.b (ok (pure s) x y)) ∧ (ok (pure s) x y = true → ∃ s', J s' H' ∧ pure s' = step (pure s) x y ∧ ∀ i, fp s' i → fp s i ∨ H.nx ≤ i))
    (H : Hp) (hn0 : n0 ≤ H.nx) (s0 : σ) (hJ : J s0 H) (a b : List Lot) (hbb : B (pure s0) (a.length + b.length)) (va vb : AC) (ha : SlL H va a) (hb : SlL H vb b) (la : Below' va n0) (lb : Below' vb n0) :
    Con E2 35 [.one va, .one vb, .one (.o (.clo 36 [])), .one (.o (.clo fn caps))] H (fp s0) fun v H' =>
      v = .one (.b (runPass ok step (pure s0) (pairs a b)).isSome) ∧ ∀ t, runPass ok step (pure s0) (pairs a b) = some t → ∃ s', J s' H' ∧ pure s' = t := by
  refine Con.of rfl fun lg => ?_
  have hJ : J s0 ⟨H.t, H.nx, lg⟩ := hJt s0 H ⟨H.t, H.nx, lg⟩ rfl rfl hJ
  have ha : SlL ⟨H.t, H.nx, lg⟩ va a := ha
  have hb : SlL ⟨H.t, H.nx, lg⟩ vb b := hb
  have hn0 : n0 ≤ (⟨H.t, H.nx, lg⟩ : Hp).nx := hn0
  generalize (⟨H.t, H.nx, lg⟩ : Hp) = H at hJ ha hb hn0 ⊢
  refine C1.body (E := E2) (nt := 80) (res := [.tmp 8]) Tryz.func35 rfl rfl rfl rfl rfl fun tm hargs => ?_
  have h0 := hargs 0 _ rfl
  have h1 := hargs 1 _ rfl
  have h2 := hargs 2 _ rfl
  have h3 := hargs 3 _ rfl
  clear hargs
  generalize hr0 : runPass ok step (pure s0) (pairs a b) = r0
  repeat' first | refine R1.ret ?_ | refine R1.exit ?_ | refine R1.skip ?_ | refine R1.s_ret ?_ | refine R1.s_exit ?_ | refine R1.s_assoc ?_ | refine R1.s_skip ?_ | refine R1.s_scope ?_ | ((first | refine R1.e_rg fun K hK => ?_ | refine R1.s_rg fun K hK => ?_ | refine R1.e_sq (by kernel_rfl) fun K hK => ?_ | refine R1.s_sq (by kernel_rfl) fun K hK => ?_); simp only [SG_nil, SG_cons, SU_yes, gw_n, gOf_n, List.map_cons, List.map_nil, optP_some, SK_assign, SK_alloc, ev_bool, putD_nt, slotOk, Nat.blt_eq, Nat.reduceLT, true_and, List.length_cons, List.length_nil, Nat.zero_add, Nat.reduceAdd, E2_P, zero37]; refine hK _ _ ?_; clear hK K)
  refine R1.s_block fun K k1 k2 k3 k4 => ?_
  refine R1.loop (fun k A1 H1 => ∃ s a b va vb q9, k = a.length + b.length ∧ MInv n0 J fp pure ok step B fn caps H s0 r0 A1 H1 s a b va vb q9) ?_ (a.length + b.length)
    ⟨s0, a, b, va, vb, H.nx, rfl, ?_⟩
  · clear h0 h1 h2 h3 tm hr0
    clear ha hb la lb hJ hbb
    rintro k A1 H1 ⟨s, a, b, va, vb, q9, rfl, I⟩
    obtain ⟨hr, hj, hbb, hfr, hfp, ha, hb, la, lb, t0, t1, t2, t3, t9, g9, ⟨l9, l9'⟩, f9, hnt, hdf⟩ := I
    refine R1.s_cut (fun A H2 => H1 = H2 ∧ 0 < a.length + b.length ∧ slot A.tm 0 = .one va ∧ slot A.tm 1 = .one vb ∧ slot A.tm 2 = .one (.o (.clo 36 [])) ∧ slot A.tm 3 = .one (.o (.clo fn caps)) ∧ slot A.tm 9 = .one (.o (.ptr q9 0 0 2)) ∧ A.nt = 80 ∧ A.dfr = []) ?_ ?_
    · cases a with
      | nil =>
        cases b with
        | nil =>
          repeat' first | refine R1.ret ?_ | refine R1.exit ?_ | refine R1.skip ?_ | refine R1.s_ret ?_ | refine R1.s_exit ?_ | refine R1.s_assoc ?_ | refine R1.s_skip ?_ | refine R1.s_scope ?_ | ((first | refine R1.e_rg fun K hK => ?_ | refine R1.s_rg fun K hK => ?_ | refine R1.e_sq (by kernel_rfl) fun K hK => ?_ | refine R1.s_sq (by kernel_rfl) fun K hK => ?_); simp only [SG_nil, SG_cons, SU_yes, gw_n, gw_gwv, gwv_b, gOf_n, gOf_some, List.map_cons, List.map_nil, List.getElem?_cons_zero, List.getElem?_cons_succ, Option.elim_some, decide_false, vN_val, lnN_some, pkN_b, cast0, Int.reduceLT, SK_move, SK_pick, SK_bin, SK_len, evTmp, ev_int, ev_bool, slot_put, putD_nt, slotOk, Nat.blt_eq, Nat.reduceLT, true_and, if_true, if_false, Bool.false_eq_true, eqLt, eqGt, List.length_nil, ii_gtr, Nat.lt_add_one, E2_P, t0, t1, hnt, len22, ha.len, ha.lt, hb.len, hb.lt]; refine hK _ _ ?_; clear hK K)
          (first | refine R1.s_cnd fun Kx Ky hx hy => ?_ | refine R1.e_cnd fun Kx Ky hx hy => ?_); simp only [boolP'_b, evTmp, slot_put, Nat.reduceLT, if_true, if_false, Bool.false_eq_true, eqGt, Nat.lt_add_one]
          refine hy ?_
          clear hx hy Kx Ky
          repeat' first | refine R1.ret ?_ | refine R1.exit ?_ | refine R1.skip ?_ | refine R1.s_ret ?_ | refine R1.s_exit ?_ | refine R1.s_assoc ?_ | refine R1.s_skip ?_ | refine R1.s_scope ?_ | ((first | refine R1.e_rg fun K hK => ?_ | refine R1.s_rg fun K hK => ?_ | refine R1.e_sq (by kernel_rfl) fun K hK => ?_ | refine R1.s_sq (by kernel_rfl) fun K hK => ?_); simp only [SG_nil, SG_cons, SU_yes, SU_no, gw_n, gw_gwv, gwv_b, gwv_u, gOf_n, gOf_some, List.map_cons, List.map_nil, List.getElem?_cons_zero, List.getElem?_cons_succ, Option.elim_some, Option.map_some, Option.bind_some, optP_some, boolP_b, boolP'_b, boolE_b, decide_eq_true_eq, decide_true, decide_false, valP_val, valP_guard, vN_val, ldN_some, stN_some, faN_some, iaN_some, lnN_some, pkN_b, sliceO_some, slice_lo, slice_hi, slice_1, indexAddr_0, Nat.add_one_sub_one, Nat.one_mul, len_sl, len_ns, len_str', posS, eq0S, cast0, Int.reduceLT, Int.reduceLE, Int.reduceBEq, Option.map_none, Nat.lt_add_left_iff_pos, Nat.zero_lt_succ, Nat.le_add_left, SK_move, SK_assign, SK_pick, SK_alloc, SK_box, SK_load, SK_store, SK_bin, SK_not, SK_fieldAddr, SK_field, SK_indexAddr, SK_slice, SK_extract, SK_nilCheck, SK_makeFunc, SK_makeMap, SK_makeSlice, SK_build, SK_buildSlice, SK_len, SK_append, SK_call, doCall_clo, doCall_clo, evTmp, ev_int, ev_bool, ev_str, ev_nilS, ev_func, opFev, evs_cons, evs_nil, slot_put, putD_nt, putD_none, putD_dfr, slotOk, Nat.blt_eq, Nat.reduceLT, Nat.reduceEqDiff, Nat.reduceLeDiff, reduceIte, true_and, and_true, true_or, or_true, if_true, if_false, Bool.false_eq_true, Bool.true_eq_false, not_false_eq_true, not_true_eq_false, ltV_ptr, ltV_sl, ltV_nil, ltV_str, ltV_i, nxNew, nxMod, get_newE, get_newL, get_modE, get_modN, ltAdd, ltSelf, eqLt, eqGt, eqLtA, eqGtA, eqSelfA, eqASelf, eqAA, ltAA, doLoad_ptr, doStore_ptr, rowOf_arr, rowOf_ro, ldO_agg, ldO_one, stO_arr, splice_eq, fieldAddr_at, Bool.not_eq_true', Bool.not_eq_false', decide_eq_false_iff_not, ne_eq, Nat.reduceLeDiff, Nat.lt_irrefl, gt_iff_lt, cells_one, cells_agg, noTup_one, noTup_agg, List.length_cons, List.length_nil, Nat.zero_add, Nat.add_zero, Nat.reduceAdd, Nat.reduceSub, Nat.reduceMul, Nat.le_refl, Nat.zero_le, capsOf_nil, capsOf_cons, capArgs_nil, capArgs_cons, List.cons_append, List.nil_append, List.append_nil, ex_0, ex_0a, ex_1, ex_1a, ex_2, ex_2a, ii_lss, ii_leq, ii_gtr, ii_geq, ii_eql, ii_neq, ii_add, ii_sub, ii_mul, ss_lss, ss_geq, ss_leq, ss_gtr, ss_eql, ss_neq, List.take_succ_cons, List.take_zero, List.drop_succ_cons, List.drop_zero, List.take_nil, List.drop_nil, List.headD_cons, Bool.not_true, Bool.not_false, Nat.lt_add_one, bin_agg, bin_b, agg2_agg, bool2_b, aggEq_nil, aggEq_s, aggEq_i, aggEq_b, aggO_some, fill_nil, fill_cons, Nat.zero_mul, partsF_nil, partsF_cons, repl_one]; refine hK _ _ ?_; clear hK K)
          refine k2 _ _ ?_
          repeat' first | refine R1.ret ?_ | refine R1.exit ?_ | refine R1.skip ?_ | refine R1.s_ret ?_ | refine R1.s_exit ?_ | refine R1.s_assoc ?_ | refine R1.s_skip ?_ | refine R1.s_scope ?_ | ((first | refine R1.e_rg fun K hK => ?_ | refine R1.s_rg fun K hK => ?_ | refine R1.e_sq (by kernel_rfl) fun K hK => ?_ | refine R1.s_sq (by kernel_rfl) fun K hK => ?_); simp only [SG_nil, SG_cons, SU_yes, gw_n, gOf_n, List.map_cons, List.map_nil, SK_assign, ev_bool, putD_nt, slotOk, Nat.blt_eq, Nat.reduceLT, true_and, hnt]; refine hK _ _ ?_; clear hK K)
          refine ⟨_, _, callEnd_one (.b true) (.inr rfl) (by simp only [putD_dfr, hdf]) (by simp only [slot_put, reduceIte]), hfr, fun lg' => ⟨?_, fun t ht => ⟨s, hJt s H1 _ rfl rfl hj, ?_⟩⟩⟩
          · rw [← hr, pairs]; rfl
          · rw [← hr, pairs] at ht
            exact Option.some.inj ht
        | cons y b =>
          repeat' first | refine R1.ret ?_ | refine R1.exit ?_ | refine R1.skip ?_ | refine R1.s_ret ?_ | refine R1.s_exit ?_ | refine R1.s_assoc ?_ | refine R1.s_skip ?_ | refine R1.s_scope ?_ | ((first | refine R1.e_rg fun K hK => ?_ | refine R1.s_rg fun K hK => ?_ | refine R1.e_sq (by kernel_rfl) fun K hK => ?_ | refine R1.s_sq (by kernel_rfl) fun K hK => ?_); simp only [SG_nil, SG_cons, SU_yes, gw_n, gw_gwv, gwv_b, gOf_n, gOf_some, List.map_cons, List.map_nil, List.getElem?_cons_zero, List.getElem?_cons_succ, Option.elim_some, decide_true, decide_false, vN_val, lnN_some, pkN_b, posS, cast0, Int.reduceLT, SK_move, SK_pick, SK_bin, SK_len, evTmp, ev_int, ev_bool, slot_put, putD_nt, slotOk, Nat.blt_eq, Nat.reduceLT, true_and, if_true, if_false, Bool.false_eq_true, eqLt, eqGt, List.length_cons, List.length_nil, ii_gtr, Nat.lt_add_one, E2_P, t0, t1, hnt, len22, ha.len, ha.lt, hb.len, hb.lt]; refine hK _ _ ?_; clear hK K)
          (first | refine R1.s_cnd fun Kx Ky hx hy => ?_ | refine R1.e_cnd fun Kx Ky hx hy => ?_); simp only [boolP'_b, evTmp, slot_put, Nat.reduceLT, if_true, if_false, eqGt, Nat.lt_add_one]
          refine hx ?_
          clear hx hy Kx Ky
          repeat' first | refine R1.ret ?_ | refine R1.exit ?_ | refine R1.skip ?_ | refine R1.s_ret ?_ | refine R1.s_exit ?_ | refine R1.s_assoc ?_ | refine R1.s_skip ?_ | refine R1.s_scope ?_ | ((first | refine R1.e_rg fun K hK => ?_ | refine R1.s_rg fun K hK => ?_ | refine R1.e_sq (by kernel_rfl) fun K hK => ?_ | refine R1.s_sq (by kernel_rfl) fun K hK => ?_); simp only [SG_nil, SG_cons, SU_yes, SU_no, gw_n, gw_gwv, gwv_b, gwv_u, gOf_n, gOf_some, List.map_cons, List.map_nil, List.getElem?_cons_zero, List.getElem?_cons_succ, Option.elim_some, Option.map_some, Option.bind_some, optP_some, boolP_b, boolP'_b, boolE_b, decide_eq_true_eq, decide_true, decide_false, valP_val, valP_guard, vN_val, ldN_some, stN_some, faN_some, iaN_some, lnN_some, pkN_b, sliceO_some, slice_lo, slice_hi, slice_1, indexAddr_0, Nat.add_one_sub_one, Nat.one_mul, len_sl, len_ns, len_str', posS, eq0S, cast0, Int.reduceLT, Int.reduceLE, Int.reduceBEq, Option.map_none, Nat.lt_add_left_iff_pos, Nat.zero_lt_succ, Nat.le_add_left, SK_move, SK_assign, SK_pick, SK_alloc, SK_box, SK_load, SK_store, SK_bin, SK_not, SK_fieldAddr, SK_field, SK_indexAddr, SK_slice, SK_extract, SK_nilCheck, SK_makeFunc, SK_makeMap, SK_makeSlice, SK_build, SK_buildSlice, SK_len, SK_append, SK_call, doCall_clo, doCall_clo, evTmp, ev_int, ev_bool, ev_str, ev_nilS, ev_func, opFev, evs_cons, evs_nil, slot_put, putD_nt, putD_none, putD_dfr, slotOk, Nat.blt_eq, Nat.reduceLT, Nat.reduceEqDiff, Nat.reduceLeDiff, reduceIte, true_and, and_true, true_or, or_true, if_true, if_false, Bool.false_eq_true, Bool.true_eq_false, not_false_eq_true, not_true_eq_false, ltV_ptr, ltV_sl, ltV_nil, ltV_str, ltV_i, nxNew, nxMod, get_newE, get_newL, get_modE, get_modN, ltAdd, ltSelf, eqLt, eqGt, eqLtA, eqGtA, eqSelfA, eqASelf, eqAA, ltAA, doLoad_ptr, doStore_ptr, rowOf_arr, rowOf_ro, ldO_agg, ldO_one, stO_arr, splice_eq, fieldAddr_at, Bool.not_eq_true', Bool.not_eq_false', decide_eq_false_iff_not, ne_eq, Nat.reduceLeDiff, Nat.lt_irrefl, gt_iff_lt, cells_one, cells_agg, noTup_one, noTup_agg, List.length_cons, List.length_nil, Nat.zero_add, Nat.add_zero, Nat.reduceAdd, Nat.reduceSub, Nat.reduceMul, Nat.le_refl, Nat.zero_le, capsOf_nil, capsOf_cons, capArgs_nil, capArgs_cons, List.cons_append, List.nil_append, List.append_nil, ex_0, ex_0a, ex_1, ex_1a, ex_2, ex_2a, ii_lss, ii_leq, ii_gtr, ii_geq, ii_eql, ii_neq, ii_add, ii_sub, ii_mul, ss_lss, ss_geq, ss_leq, ss_gtr, ss_eql, ss_neq, List.take_succ_cons, List.take_zero, List.drop_succ_cons, List.drop_zero, List.take_nil, List.drop_nil, List.headD_cons, Bool.not_true, Bool.not_false, Nat.lt_add_one, bin_agg, bin_b, agg2_agg, bool2_b, aggEq_nil, aggEq_s, aggEq_i, aggEq_b, aggO_some, fill_nil, fill_cons, Nat.zero_mul, partsF_nil, partsF_cons, repl_one]; refine hK _ _ ?_; clear hK K)
          refine ⟨rfl, by simp only [List.length_cons]; omega, ?_⟩
          simp only [slot_put, putD_nt, putD_dfr, Nat.reduceEqDiff, reduceIte, t0, t1, t2, t3, t9, hnt, hdf, and_self]
      | cons x a =>
        repeat' first | refine R1.ret ?_ | refine R1.exit ?_ | refine R1.skip ?_ | refine R1.s_ret ?_ | refine R1.s_exit ?_ | refine R1.s_assoc ?_ | refine R1.s_skip ?_ | refine R1.s_scope ?_ | ((first | refine R1.e_rg fun K hK => ?_ | refine R1.s_rg fun K hK => ?_ | refine R1.e_sq (by kernel_rfl) fun K hK => ?_ | refine R1.s_sq (by kernel_rfl) fun K hK => ?_); simp only [SG_nil, SG_cons, SU_yes, SU_no, gw_n, gw_gwv, gwv_b, gOf_n, gOf_some, List.map_cons, List.map_nil, List.getElem?_cons_zero, List.getElem?_cons_succ, Option.elim_some, decide_true, vN_val, lnN_some, pkN_b, posS, SK_move, SK_pick, SK_bin, SK_len, evTmp, ev_int, ev_bool, slot_put, putD_nt, slotOk, Nat.blt_eq, Nat.reduceLT, true_and, if_true, if_false, Bool.true_eq_false, eqLt, eqGt, List.length_cons, ii_gtr, Nat.lt_add_one, E2_P, t0, hnt, len22, ha.len, ha.lt]; refine hK _ _ ?_; clear hK K)
        (first | refine R1.s_cnd fun Kx Ky hx hy => ?_ | refine R1.e_cnd fun Kx Ky hx hy => ?_); simp only [boolP'_b, evTmp, slot_put, Nat.reduceLT, if_true, if_false, eqGt, Nat.lt_add_one]
        refine hx ?_
        clear hx hy Kx Ky
        repeat' first | refine R1.ret ?_ | refine R1.exit ?_ | refine R1.skip ?_ | refine R1.s_ret ?_ | refine R1.s_exit ?_ | refine R1.s_assoc ?_ | refine R1.s_skip ?_ | refine R1.s_scope ?_ | ((first | refine R1.e_rg fun K hK => ?_ | refine R1.s_rg fun K hK => ?_ | refine R1.e_sq (by kernel_rfl) fun K hK => ?_ | refine R1.s_sq (by kernel_rfl) fun K hK => ?_); simp only [SG_nil, SG_cons, SU_yes, SU_no, gw_n, gw_gwv, gwv_b, gwv_u, gOf_n, gOf_some, List.map_cons, List.map_nil, List.getElem?_cons_zero, List.getElem?_cons_succ, Option.elim_some, Option.map_some, Option.bind_some, optP_some, boolP_b, boolP'_b, boolE_b, decide_eq_true_eq, decide_true, decide_false, valP_val, valP_guard, vN_val, ldN_some, stN_some, faN_some, iaN_some, lnN_some, pkN_b, sliceO_some, slice_lo, slice_hi, slice_1, indexAddr_0, Nat.add_one_sub_one, Nat.one_mul, len_sl, len_ns, len_str', posS, eq0S, cast0, Int.reduceLT, Int.reduceLE, Int.reduceBEq, Option.map_none, Nat.lt_add_left_iff_pos, Nat.zero_lt_succ, Nat.le_add_left, SK_move, SK_assign, SK_pick, SK_alloc, SK_box, SK_load, SK_store, SK_bin, SK_not, SK_fieldAddr, SK_field, SK_indexAddr, SK_slice, SK_extract, SK_nilCheck, SK_makeFunc, SK_makeMap, SK_makeSlice, SK_build, SK_buildSlice, SK_len, SK_append, SK_call, doCall_clo, doCall_clo, evTmp, ev_int, ev_bool, ev_str, ev_nilS, ev_func, opFev, evs_cons, evs_nil, slot_put, putD_nt, putD_none, putD_dfr, slotOk, Nat.blt_eq, Nat.reduceLT, Nat.reduceEqDiff, Nat.reduceLeDiff, reduceIte, true_and, and_true, true_or, or_true, if_true, if_false, Bool.false_eq_true, Bool.true_eq_false, not_false_eq_true, not_true_eq_false, ltV_ptr, ltV_sl, ltV_nil, ltV_str, ltV_i, nxNew, nxMod, get_newE, get_newL, get_modE, get_modN, ltAdd, ltSelf, eqLt, eqGt, eqLtA, eqGtA, eqSelfA, eqASelf, eqAA, ltAA, doLoad_ptr, doStore_ptr, rowOf_arr, rowOf_ro, ldO_agg, ldO_one, stO_arr, splice_eq, fieldAddr_at, Bool.not_eq_true', Bool.not_eq_false', decide_eq_false_iff_not, ne_eq, Nat.reduceLeDiff, Nat.lt_irrefl, gt_iff_lt, cells_one, cells_agg, noTup_one, noTup_agg, List.length_cons, List.length_nil, Nat.zero_add, Nat.add_zero, Nat.reduceAdd, Nat.reduceSub, Nat.reduceMul, Nat.le_refl, Nat.zero_le, capsOf_nil, capsOf_cons, capArgs_nil, capArgs_cons, List.cons_append, List.nil_append, List.append_nil, ex_0, ex_0a, ex_1, ex_1a, ex_2, ex_2a, ii_lss, ii_leq, ii_gtr, ii_geq, ii_eql, ii_neq, ii_add, ii_sub, ii_mul, ss_lss, ss_geq, ss_leq, ss_gtr, ss_eql, ss_neq, List.take_succ_cons, List.take_zero, List.drop_succ_cons, List.drop_zero, List.take_nil, List.drop_nil, List.headD_cons, Bool.not_true, Bool.not_false, Nat.lt_add_one, bin_agg, bin_b, agg2_agg, bool2_b, aggEq_nil, aggEq_s, aggEq_i, aggEq_b, aggO_some, fill_nil, fill_cons, Nat.zero_mul, partsF_nil, partsF_cons, repl_one]; refine hK _ _ ?_; clear hK K)
        refine ⟨rfl, by simp only [List.length_cons]; omega, ?_⟩
        simp only [slot_put, putD_nt, putD_dfr, Nat.reduceEqDiff, reduceIte, t0, t1, t2, t3, t9, hnt, hdf, and_self]
    · clear t0 t1 t2 t3 t9 hnt hdf A1
      rintro A1 H2 ⟨rfl, hpos, t0, t1, t2, t3, t9, hnt, hdf⟩
      refine R1.block ?_
      (first | refine R1.s_drw (ms := [0, 0, 0, 0, 13, 31]) (by kernel_rfl) (by kernel_rfl) fun K hK => ?_ | refine R1.e_drw (ms := [0, 0, 0, 0, 13, 31]) (by kernel_rfl) (by kernel_rfl) fun K hK => ?_)
      simp (config := {decide := true}) only [gw_n, gOf_n, valP_val, evTmp, slot_put, putD_nt, putD_none, slotOk, Nat.blt_eq, Nat.reduceLT, true_and, and_true, true_or, or_true, if_true, if_false, not_false_eq_true, nxNew, nxMod, get_newE, get_newL, get_modN, ltAdd, eqGt, doLoad_ptr, doStore_ptr, rowOf_arr, ldO_agg, stO_arr, ne_eq, Nat.lt_irrefl, cells_agg, noTup_agg, List.length_cons, List.length_nil, Nat.zero_add, Nat.reduceAdd, Nat.le_refl, List.nil_append, List.append_nil, List.take_succ_cons, List.take_zero, List.drop_succ_cons, List.drop_zero, List.take_nil, List.drop_nil, Nat.lt_add_one, DO_cons, DO_nil, DU_yes, DK_load, DK_store, DK_alloc, ptrP_ptr, DP_new, unordS, Untou, Unseen, st_load', st_store', st_alloc2, ldS_some, stS_some, alS_some, List.not_mem_nil, Option.some.injEq, exists_eq_left', not_false_eq_true, t9, g9, l9', hnt, E2_P, load37, zero37, size37]
      refine hK _ _ ?_
      clear hK K
      refine R1.gen (fun A H2 => Gr H1 H2 ∧ H2.nx = H1.nx + 2 ∧ H2.get H1.nx = some (.arr [.o (.str []), .i .i64 0] 37 0 0) ∧ H2.get (H1.nx + 1) = some (.arr [.o (.str []), .i .i64 0] 37 0 0) ∧
        slot A.tm 0 = .one va ∧ slot A.tm 1 = .one vb ∧ slot A.tm 2 = .one (.o (.clo 36 [])) ∧ slot A.tm 3 = .one (.o (.clo fn caps)) ∧ slot A.tm 9 = .one (.o (.ptr q9 0 0 2)) ∧ slot A.tm 10 = .one (.o (.ptr H1.nx 0 0 2)) ∧ slot A.tm 11 = .one (.o (.ptr (H1.nx + 1) 0 0 2)) ∧ A.nt = 80 ∧ A.dfr = [])
        ⟨((((Fr.refl _).new _).new _).mod _ (.inl (Nat.le_refl _))).mod _ (.inl (Nat.le_succ _)), ?_⟩ ?_
      · simp only [Nat.zero_lt_succ, slot_put, putD_nt, putD_dfr, Nat.reduceLT, if_true, if_false, not_false_eq_true, nxNew, nxMod, get_modE, get_modN, eqLt, eqGt, ne_eq, Nat.lt_add_one, slot_put, putD_nt, putD_dfr, t0, t1, t2, t3, t9, hnt, hdf, and_self]
      · clear t0 t1 t2 t3 t9 hnt hdf A1
        rintro A1 H2 ⟨hg2, n2, g10, g11, t0, t1, t2, t3, t9, t10, t11, hnt, hdf⟩
        have l10 : H1.nx < H2.nx := by omega
        have l11 : H1.nx + 1 < H2.nx := by omega
        have ha2 := ha.gr hg2
        have hb2 := hb.gr hg2
        refine R1.s_blockP (fun A H3 => ∃ x y a' b' va' vb', pairs a b = (x, y) :: pairs a' b' ∧ a'.length + b'.length < a.length + b.length ∧ SlL H1 va' a' ∧ SlL H1 vb' b' ∧ Below' va' n0 ∧ Below' vb' n0 ∧ Gr H1 H3 ∧ H1.nx + 2 ≤ H3.nx ∧ H3.get H1.nx = some (.arr (lotC x) 37 0 0) ∧ H3.get (H1.nx + 1) = some (.arr (lotC y) 37 0 0) ∧
          slot A.tm 0 = .one va' ∧ slot A.tm 1 = .one vb' ∧ slot A.tm 2 = .one (.o (.clo 36 [])) ∧ slot A.tm 3 = .one (.o (.clo fn caps)) ∧ slot A.tm 9 = .one (.o (.ptr q9 0 0 2)) ∧ slot A.tm 10 = .one (.o (.ptr H1.nx 0 0 2)) ∧ slot A.tm 11 = .one (.o (.ptr (H1.nx + 1) 0 0 2)) ∧ A.nt = 80 ∧ A.dfr = []) (fun K2 q1 q2 q3 q4 => ?_) ?_
        · cases a with
          | nil =>
            cases b with
            | nil => exact absurd hpos (Nat.lt_irrefl 0)
            | cons y b =>
              obtain ⟨id, g, off, cells, rfl, hid, hg, hat⟩ := hb2.openC
              repeat' first | refine R1.ret ?_ | refine R1.exit ?_ | refine R1.skip ?_ | refine R1.s_ret ?_ | refine R1.s_exit ?_ | refine R1.s_assoc ?_ | refine R1.s_skip ?_ | refine R1.s_scope ?_ | ((first | refine R1.e_rg fun K hK => ?_ | refine R1.s_rg fun K hK => ?_ | refine R1.e_sq (by kernel_rfl) fun K hK => ?_ | refine R1.s_sq (by kernel_rfl) fun K hK => ?_); simp only [SG_nil, SG_cons, SU_yes, SU_no, gw_n, gw_gwv, gwv_b, gOf_n, gOf_some, List.map_cons, List.map_nil, List.getElem?_cons_zero, List.getElem?_cons_succ, Option.elim_some, decide_false, vN_val, lnN_some, pkN_b, len_sl, eq0S, cast0, Int.reduceLT, Nat.zero_lt_succ, SK_move, SK_assign, SK_pick, SK_bin, SK_len, evTmp, ev_int, ev_bool, slot_put, putD_nt, slotOk, Nat.blt_eq, Nat.reduceLT, true_and, if_true, if_false, Bool.false_eq_true, ltV_sl, eqLt, eqGt, List.length_nil, ii_gtr, ii_eql, Nat.lt_add_one, E2_P, t0, t1, hnt, len22, ha2.len, ha2.lt, hid]; refine hK _ _ ?_; clear hK K)
              (first | refine R1.s_cnd fun Kx Ky hx hy => ?_ | refine R1.e_cnd fun Kx Ky hx hy => ?_); simp only [boolP'_b, evTmp, slot_put, Nat.reduceLT, if_true, if_false, Bool.false_eq_true, eqLt, Nat.lt_add_one]
              refine hy ?_
              clear hx hy Kx Ky
              repeat' first | refine R1.ret ?_ | refine R1.exit ?_ | refine R1.skip ?_ | refine R1.s_ret ?_ | refine R1.s_exit ?_ | refine R1.s_assoc ?_ | refine R1.s_skip ?_ | refine R1.s_scope ?_ | ((first | refine R1.e_rg fun K hK => ?_ | refine R1.s_rg fun K hK => ?_ | refine R1.e_sq (by kernel_rfl) fun K hK => ?_ | refine R1.s_sq (by kernel_rfl) fun K hK => ?_); simp only [SG_nil, SG_cons, SU_yes, SU_no, gw_n, gw_gwv, gwv_b, gOf_n, gOf_some, List.map_cons, List.map_nil, List.getElem?_cons_zero, List.getElem?_cons_succ, Option.elim_some, vN_val, lnN_some, pkN_b, cast0, Int.reduceBEq, Nat.zero_lt_succ, SK_move, SK_assign, SK_pick, SK_bin, SK_len, evTmp, ev_int, ev_bool, slot_put, putD_nt, slotOk, Nat.blt_eq, Nat.reduceLT, true_and, if_true, if_false, Bool.true_eq_false, eqLt, eqGt, List.length_nil, ii_eql, Nat.lt_add_one, E2_P, t0, hnt, len22, ha2.len, ha2.lt]; refine hK _ _ ?_; clear hK K)
              (first | refine R1.s_cnd fun Kx Ky hx hy => ?_ | refine R1.e_cnd fun Kx Ky hx hy => ?_); simp only [boolP'_b, evTmp, slot_put, Nat.reduceLT, if_true, if_false, eqLt, eqGt, Nat.lt_add_one]
              refine hx ?_
              clear hx hy Kx Ky
              repeat' first | refine R1.ret ?_ | refine R1.exit ?_ | refine R1.skip ?_ | refine R1.s_ret ?_ | refine R1.s_exit ?_ | refine R1.s_assoc ?_ | refine R1.s_skip ?_ | refine R1.s_scope ?_ | ((first | refine R1.e_rg fun K hK => ?_ | refine R1.s_rg fun K hK => ?_ | refine R1.e_sq (by kernel_rfl) fun K hK => ?_ | refine R1.s_sq (by kernel_rfl) fun K hK => ?_); simp only [SG_nil, SG_cons, SU_yes, gw_n, gOf_n, List.map_cons, List.map_nil, Option.map_some, vN_val, ldN_some, stN_some, iaN_some, sliceO_some, slice_1, indexAddr_0, Nat.add_one_sub_one, Nat.one_mul, Option.map_none, Nat.zero_lt_succ, Nat.le_add_left, SK_move, SK_assign, SK_load, SK_store, SK_indexAddr, SK_slice, evTmp, ev_int, slot_put, putD_nt, putD_none, slotOk, Nat.blt_eq, Nat.reduceLT, true_and, if_true, if_false, ltV_ptr, eqLt, eqGt, doLoad_ptr, doStore_ptr, ldO_agg, stO_arr, cells_agg, noTup_agg, List.length_cons, List.length_nil, Nat.zero_add, Nat.reduceAdd, Nat.le_refl, List.nil_append, List.append_nil, List.take_zero, List.drop_succ_cons, List.drop_nil, Nat.lt_add_one, E2_P, t1, t11, l11, g11, hnt, elem22, load37, size37, hid, hg, hat.all, hat.le, lotC]; refine hK _ _ ?_; clear hK K)
              refine q1 _ _ ⟨noLot, y, [], b, va, _, by rw [pairs], by simp, ha, SlL.tailC hb, la, fun i hi => lb i hi, hg2.mod _ (.inl (Nat.le_succ _)), by rw [nxMod]; omega, ?_, ?_, ?_⟩
              · rw [get_modN (by omega)]; exact g10
              · rw [get_modE rfl]; rfl
              · simp only [Nat.zero_lt_succ, slot_put, putD_nt, putD_dfr, Nat.reduceLT, if_true, if_false, eqLt, eqGt, Nat.lt_add_one, slot_put, putD_nt, putD_dfr, t2, t3, t9, t10, t11, t0, t1, hnt, hdf, and_self]
          | cons x a =>
            obtain ⟨id, g, off, cells, rfl, hid, hg, hat⟩ := ha2.openC
            cases b with
            | nil =>
              repeat' first | refine R1.ret ?_ | refine R1.exit ?_ | refine R1.skip ?_ | refine R1.s_ret ?_ | refine R1.s_exit ?_ | refine R1.s_assoc ?_ | refine R1.s_skip ?_ | refine R1.s_scope ?_ | ((first | refine R1.e_rg fun K hK => ?_ | refine R1.s_rg fun K hK => ?_ | refine R1.e_sq (by kernel_rfl) fun K hK => ?_ | refine R1.s_sq (by kernel_rfl) fun K hK => ?_); simp only [SG_nil, SG_cons, SU_yes, SU_no, gw_n, gw_gwv, gwv_b, gwv_u, gOf_n, gOf_some, List.map_cons, List.map_nil, List.getElem?_cons_zero, List.getElem?_cons_succ, Option.elim_some, vN_val, lnN_some, pkN_b, cast0, Int.reduceBEq, SK_move, SK_assign, SK_pick, SK_bin, SK_len, evTmp, ev_int, ev_bool, slot_put, putD_nt, slotOk, Nat.blt_eq, Nat.reduceLT, true_and, if_true, if_false, Bool.true_eq_false, eqLt, eqGt, List.length_nil, ii_eql, Nat.lt_add_one, E2_P, t1, hnt, len22, hb2.len, hb2.lt]; refine hK _ _ ?_; clear hK K)
              (first | refine R1.s_cnd fun Kx Ky hx hy => ?_ | refine R1.e_cnd fun Kx Ky hx hy => ?_); simp only [boolP'_b, evTmp, slot_put, Nat.reduceLT, if_true, if_false, eqLt, Nat.lt_add_one]
              refine hx ?_
              clear hx hy Kx Ky
              repeat' first | refine R1.ret ?_ | refine R1.exit ?_ | refine R1.skip ?_ | refine R1.s_ret ?_ | refine R1.s_exit ?_ | refine R1.s_assoc ?_ | refine R1.s_skip ?_ | refine R1.s_scope ?_ | ((first | refine R1.e_rg fun K hK => ?_ | refine R1.s_rg fun K hK => ?_ | refine R1.e_sq (by kernel_rfl) fun K hK => ?_ | refine R1.s_sq (by kernel_rfl) fun K hK => ?_); simp only [SG_nil, SG_cons, SU_yes, gw_n, gOf_n, List.map_cons, List.map_nil, Option.map_some, vN_val, ldN_some, stN_some, iaN_some, sliceO_some, slice_1, indexAddr_0, Nat.add_one_sub_one, Nat.one_mul, Option.map_none, Nat.zero_lt_succ, Nat.le_add_left, SK_move, SK_assign, SK_load, SK_store, SK_indexAddr, SK_slice, evTmp, ev_int, slot_put, putD_nt, putD_none, slotOk, Nat.blt_eq, Nat.reduceLT, true_and, if_true, if_false, ltV_ptr, eqLt, eqGt, doLoad_ptr, doStore_ptr, ldO_agg, stO_arr, cells_agg, noTup_agg, List.length_cons, List.length_nil, Nat.zero_add, Nat.reduceAdd, Nat.le_refl, List.nil_append, List.append_nil, List.take_zero, List.drop_succ_cons, List.drop_nil, Nat.lt_add_one, E2_P, t0, t10, l10, g10, hnt, elem22, load37, size37, hid, hg, hat.all, hat.le, lotC]; refine hK _ _ ?_; clear hK K)
              refine q1 _ _ ⟨x, noLot, a, [], _, vb, by rw [pairs], by simp, SlL.tailC ha, hb, fun i hi => la i hi, lb, hg2.mod _ (.inl (Nat.le_refl _)), by rw [nxMod]; omega, ?_, ?_, ?_⟩
              · rw [get_modE rfl]; rfl
              · rw [get_modN (by omega)]; exact g11
              · simp only [Nat.zero_lt_succ, slot_put, putD_nt, putD_dfr, Nat.reduceLT, if_true, if_false, eqLt, eqGt, Nat.lt_add_one, slot_put, putD_nt, putD_dfr, t2, t3, t9, t10, t11, t0, t1, hnt, hdf, and_self]
            | cons y b =>
              obtain ⟨id', g', off', cells', rfl, hid', hg', hat'⟩ := hb2.openC
              refine R1.s_sq (by kernel_rfl) fun K hK => ?_
              simp only [SG_cons, SU_yes, gw_n, gw_gwv, gwv_b, gOf_n, gOf_some, List.map_cons, List.map_nil, List.getElem?_cons_zero, List.getElem?_cons_succ, Option.elim_some, decide_true, vN_val, ldN_some, iaN_some, lnN_some, indexAddr_0, len_sl, posS, eq0S, Nat.zero_lt_succ, SK_move, SK_load, SK_bin, SK_indexAddr, SK_len, SK_call, doCall_clo, doCall_clo, evTmp, ev_int, evs_cons, evs_nil, slot_put, putD_nt, slotOk, Nat.blt_eq, Nat.reduceLT, true_and, if_true, if_false, ltV_ptr, ltV_sl, eqLt, eqGt, doLoad_ptr, ldO_agg, Nat.le_refl, capArgs_nil, List.append_nil, ii_gtr, ii_eql, Nat.lt_add_one, E2_P, t0, t1, t2, hnt, len22, hid, hid', elem22, load37, hg, hg', hat.all, hat'.all, hat.le, hat'.le, body36]
              refine WE.con (byGood_con _ x y) fun v3 H3 hf3 hv => ?_
              subst hv
              have hgx := hg'
              have hidx := hid'
              have l103 : H1.nx < H3.nx := by have := hf3.nx; omega
              have l113 : H1.nx + 1 < H3.nx := by have := hf3.nx; omega
              have g103 : H3.get H1.nx = some (.arr [.o (.str []), .i .i64 0] 37 0 0) := by rw [hf3.get _ l10 not_false]; exact g10
              have g113 : H3.get (H1.nx + 1) = some (.arr [.o (.str []), .i .i64 0] 37 0 0) := by rw [hf3.get _ l11 not_false]; exact g11
              have hg3 : rowOf (H3.get id) g = some cells := by rw [hf3.get _ hid not_false]; exact hg
              have hgx3 : rowOf (H3.get id') g' = some cells' := by rw [hf3.get _ hidx not_false]; exact hgx
              have hid3 : id < H3.nx := by have := hf3.nx; omega
              have hidx3 : id' < H3.nx := by have := hf3.nx; omega
              have hn : ∀ {i : Nat}, i < n0 → i ≠ H1.nx ∧ i ≠ H1.nx + 1 := fun h => by have := hfr.nx; omega
              have hn1 := hn (la id (List.mem_singleton.2 rfl))
              have hn2 := hn (lb id' (List.mem_singleton.2 rfl))
              have hg23 := hg2.gr hf3
              simp only [SG_nil, SG_cons, SU_yes, gw_n, gw_gwv, gwv_b, pkN_b, SK_assign, SK_pick, evTmp, ev_bool, slot_put, putD_nt, slotOk, Nat.blt_eq, Nat.reduceLT, true_and, if_true, if_false, Bool.false_eq_true, eqLt, eqGt, Nat.lt_add_one, hnt]
              refine hK _ _ ?_
              clear hK K
              (first | refine R1.s_cnd fun Kx Ky hx hy => ?_ | refine R1.e_cnd fun Kx Ky hx hy => ?_); simp only [boolP'_b, evTmp, slot_put, Nat.reduceLT, if_true, if_false, eqLt, Nat.lt_add_one]
              refine iteI (fun hc => hx ?_) (fun hc => hy ?_)
              · clear hx hy Kx Ky
                repeat' first | refine R1.ret ?_ | refine R1.exit ?_ | refine R1.skip ?_ | refine R1.s_ret ?_ | refine R1.s_exit ?_ | refine R1.s_assoc ?_ | refine R1.s_skip ?_ | refine R1.s_scope ?_ | ((first | refine R1.e_rg fun K hK => ?_ | refine R1.s_rg fun K hK => ?_ | refine R1.e_sq (by kernel_rfl) fun K hK => ?_ | refine R1.s_sq (by kernel_rfl) fun K hK => ?_); simp only [SG_nil, SG_cons, SU_yes, gw_n, gOf_n, List.map_cons, List.map_nil, Option.map_some, vN_val, ldN_some, stN_some, iaN_some, sliceO_some, slice_1, indexAddr_0, Nat.add_one_sub_one, Nat.one_mul, Option.map_none, Nat.zero_lt_succ, Nat.le_add_left, SK_move, SK_assign, SK_load, SK_store, SK_indexAddr, SK_slice, evTmp, ev_int, slot_put, putD_nt, putD_none, slotOk, Nat.blt_eq, Nat.reduceLT, true_and, if_true, if_false, ltV_ptr, eqLt, eqGt, doLoad_ptr, doStore_ptr, ldO_agg, stO_arr, cells_agg, noTup_agg, List.length_cons, List.length_nil, Nat.zero_add, Nat.reduceAdd, Nat.le_refl, List.nil_append, List.append_nil, List.take_zero, List.drop_succ_cons, List.drop_nil, Nat.lt_add_one, E2_P, t0, t10, l103, g103, hnt, elem22, load37, size37, hid3, hg3, hat.all, hat.le, lotC]; refine hK _ _ ?_; clear hK K)
                refine q1 _ _ ⟨x, noLot, a, y :: b, _, _, by rw [pairs, if_pos hc], by simp only [List.length_cons]; omega, SlL.tailC ha, hb, fun i hi => la i hi, lb, hg23.mod _ (.inl (Nat.le_refl _)), by rw [nxMod]; omega, ?_, ?_, ?_⟩
                · rw [get_modE rfl]; rfl
                · rw [get_modN (by omega)]; exact g113
                · simp only [Nat.zero_lt_succ, slot_put, putD_nt, putD_dfr, Nat.reduceLT, if_true, if_false, eqLt, eqGt, Nat.lt_add_one, slot_put, putD_nt, putD_dfr, t2, t3, t9, t10, t11, t0, t1, hnt, hdf, and_self]
              · clear hx hy Kx Ky
                refine R1.s_sq (by kernel_rfl) fun K hK => ?_
                simp only [SG_cons, SU_yes, gw_n, gw_gwv, gwv_b, gOf_n, gOf_some, List.map_cons, List.map_nil, List.getElem?_cons_zero, List.getElem?_cons_succ, Option.elim_some, vN_val, ldN_some, iaN_some, lnN_some, indexAddr_0, len_sl, eq0S, Nat.zero_lt_succ, SK_move, SK_load, SK_bin, SK_indexAddr, SK_len, SK_call, doCall_clo, doCall_clo, evTmp, ev_int, evs_cons, evs_nil, slot_put, putD_nt, slotOk, Nat.blt_eq, Nat.reduceLT, true_and, if_true, if_false, ltV_ptr, ltV_sl, eqLt, eqGt, doLoad_ptr, ldO_agg, Nat.le_refl, capArgs_nil, List.append_nil, ii_eql, Nat.lt_add_one, E2_P, t0, t1, t2, hnt, len22, hid3, hidx3, elem22, load37, hg3, hgx3, hat.all, hat'.all, hat.le, hat'.le, body36]
                refine WE.con (byGood_con _ y x) fun v4 H4 hf4 hv => ?_
                subst hv
                have l104 : H1.nx < H4.nx := by have := hf4.nx; omega
                have l114 : H1.nx + 1 < H4.nx := by have := hf4.nx; omega
                have g104 : H4.get H1.nx = some (.arr [.o (.str []), .i .i64 0] 37 0 0) := by rw [hf4.get _ l103 not_false]; exact g103
                have g114 : H4.get (H1.nx + 1) = some (.arr [.o (.str []), .i .i64 0] 37 0 0) := by rw [hf4.get _ l113 not_false]; exact g113
                have hg4 : rowOf (H4.get id) g = some cells := by rw [hf4.get _ hid3 not_false]; exact hg3
                have hgx4 : rowOf (H4.get id') g' = some cells' := by rw [hf4.get _ hidx3 not_false]; exact hgx3
                have hid4 : id < H4.nx := by have := hf4.nx; omega
                have hidx4 : id' < H4.nx := by have := hf4.nx; omega
                have hg24 := hg23.gr hf4
                simp only [SG_nil, SG_cons, SU_yes, gw_n, pkN_b, SK_assign, SK_pick, evTmp, ev_bool, slot_put, putD_nt, slotOk, Nat.blt_eq, Nat.reduceLT, true_and, if_true, if_false, Bool.false_eq_true, eqLt, eqGt, Nat.lt_add_one, hnt]
                refine hK _ _ ?_
                clear hK K
                (first | refine R1.s_cnd fun Kx Ky hx hy => ?_ | refine R1.e_cnd fun Kx Ky hx hy => ?_); simp only [boolP'_b, evTmp, slot_put, Nat.reduceLT, if_true, if_false, eqLt, eqGt, Nat.lt_add_one]
                refine iteI (fun hd => hx ?_) (fun hd => hy ?_)
                · clear hx hy Kx Ky
                  repeat' first | refine R1.ret ?_ | refine R1.exit ?_ | refine R1.skip ?_ | refine R1.s_ret ?_ | refine R1.s_exit ?_ | refine R1.s_assoc ?_ | refine R1.s_skip ?_ | refine R1.s_scope ?_ | ((first | refine R1.e_rg fun K hK => ?_ | refine R1.s_rg fun K hK => ?_ | refine R1.e_sq (by kernel_rfl) fun K hK => ?_ | refine R1.s_sq (by kernel_rfl) fun K hK => ?_); simp only [SG_nil, SG_cons, SU_yes, gw_n, gOf_n, List.map_cons, List.map_nil, Option.map_some, vN_val, ldN_some, stN_some, iaN_some, sliceO_some, slice_1, indexAddr_0, Nat.add_one_sub_one, Nat.one_mul, Option.map_none, Nat.zero_lt_succ, Nat.le_add_left, SK_move, SK_assign, SK_load, SK_store, SK_indexAddr, SK_slice, evTmp, ev_int, slot_put, putD_nt, putD_none, slotOk, Nat.blt_eq, Nat.reduceLT, true_and, if_true, if_false, ltV_ptr, eqLt, eqGt, doLoad_ptr, doStore_ptr, ldO_agg, stO_arr, cells_agg, noTup_agg, List.length_cons, List.length_nil, Nat.zero_add, Nat.reduceAdd, Nat.le_refl, List.nil_append, List.append_nil, List.take_zero, List.drop_succ_cons, List.drop_nil, Nat.lt_add_one, E2_P, t1, t11, l114, g114, hnt, elem22, load37, size37, hidx4, hgx4, hat'.all, hat'.le, lotC]; refine hK _ _ ?_; clear hK K)
                  refine q1 _ _ ⟨noLot, y, x :: a, b, _, _, by rw [pairs, if_neg hc, if_pos hd], by simp only [List.length_cons]; omega, ha, SlL.tailC hb, la, fun i hi => lb i hi, hg24.mod _ (.inl (Nat.le_succ _)), by rw [nxMod]; omega, ?_, ?_, ?_⟩
                  · rw [get_modN (by omega)]; exact g104
                  · rw [get_modE rfl]; rfl
                  · simp only [Nat.zero_lt_succ, slot_put, putD_nt, putD_dfr, Nat.reduceLT, if_true, if_false, eqLt, eqGt, Nat.lt_add_one, slot_put, putD_nt, putD_dfr, t2, t3, t9, t10, t11, t0, t1, hnt, hdf, and_self]
                · clear hx hy Kx Ky
                  (first | refine R1.s_drw (ms := [0, 1, 3, 0, 8, 24, 0, 64, 0, 256, 7, 1087, 3327, 8191]) (by kernel_rfl) (by kernel_rfl) fun K hK => ?_ | refine R1.e_drw (ms := [0, 1, 3, 0, 8, 24, 0, 64, 0, 256, 7, 1087, 3327, 8191]) (by kernel_rfl) (by kernel_rfl) fun K hK => ?_)
                  simp (config := {decide := true}) only [gw_n, gOf_n, Option.map_some, valP_val, sliceO_some, slice_1, indexAddr_0, Nat.add_one_sub_one, Nat.one_mul, Option.map_none, Nat.zero_lt_succ, Nat.le_add_left, evTmp, ev_int, slot_put, putD_nt, putD_none, slotOk, Nat.blt_eq, Nat.reduceLT, true_and, and_true, true_or, if_true, if_false, not_false_eq_true, nxMod, get_modN, eqGt, doLoad_ptr, doStore_ptr, ldO_agg, stO_arr, ne_eq, cells_agg, noTup_agg, List.length_cons, List.length_nil, Nat.zero_add, Nat.reduceAdd, Nat.le_refl, List.nil_append, List.append_nil, List.take_zero, List.drop_succ_cons, List.drop_nil, Nat.lt_add_one, DO_cons, DO_nil, DU_yes, DK_load, DK_store, DK_move, DK_assign, DK_slice, DK_indexAddr, ptrP_ptr, DP_val, unordS, Untou, Unseen, st_move, st_assign, st_load', st_store', st_slice', st_indexAddr', ldS_some, stS_some, iaS_some, List.not_mem_nil, Option.some.injEq, exists_eq_left', not_false_eq_true, t0, t1, t10, t11, l104, l114, g104, g114, hnt, E2_P, load37, size37, elem22, hid4, hidx4, hg4, hgx4, hat.all, hat'.all, hat.le, hat'.le, lotC, hn2.1.symm]
                  refine hK _ _ ?_
                  clear hK K
                  refine q1 _ _ ⟨x, y, a, b, _, _, by rw [pairs, if_neg hc, if_neg hd], by simp only [List.length_cons]; omega, SlL.tailC ha, SlL.tailC hb, fun i hi => la i hi, fun i hi => lb i hi, (hg24.mod _ (.inl (Nat.le_refl _))).mod _ (.inl (Nat.le_succ _)), by rw [nxMod, nxMod]; omega, ?_, ?_, ?_⟩
                  · rw [get_modN (by omega), get_modE rfl]; rfl
                  · rw [get_modE rfl]; rfl
                  · simp only [Nat.zero_lt_succ, slot_put, putD_nt, putD_dfr, Nat.reduceLT, if_true, if_false, eqLt, eqGt, Nat.lt_add_one, slot_put, putD_nt, putD_dfr, t2, t3, t9, t10, t11, t0, t1, hnt, hdf, and_self]
        · clear t0 t1 t2 t3 t9 t10 t11 hnt hdf ha2 hb2 g10 g11 n2 l10 l11 hg2 A1 H2
          rintro A1 H2 ⟨x, y, a', b', va', vb', hp, hlt, ha', hb', la', lb', hg2, n2, g10, g11, t0, t1, t2, t3, t9, t10, t11, hnt, hdf⟩
          have l10 : H1.nx < H2.nx := by omega
          have l11 : H1.nx + 1 < H2.nx := by omega
          have hj2 := hJg _ _ _ hj hg2
          rw [hp, runPass] at hr
          have hP := hpass s H2 x y _ hj2 hbb hpos
          have hb0 := hbody
          refine R1.s_rg fun K hK => ?_
          simp only [SG_cons, SU_yes, gw_n, gOf_n, List.map_cons, List.map_nil, vN_val, ldN_some, SK_move, SK_load, SK_call, evTmp, evs_cons, evs_nil, slot_put, putD_nt, slotOk, Nat.blt_eq, Nat.reduceLT, true_and, if_true, if_false, ltV_ptr, eqLt, eqGt, doLoad_ptr, rowOf_arr, ldO_agg, List.length_cons, List.length_nil, Nat.zero_add, Nat.reduceAdd, Nat.le_refl, List.take_succ_cons, List.drop_zero, List.take_nil, Nat.lt_add_one, t3, t10, t11, g10, g11, l10, l11, hnt, E2_P, load37, lotC]
          rw [doCall_clo hbody]
          refine WE.con hP fun v3 H3 hf3 ⟨hv, hok⟩ => ?_
          subst hv
          simp only [SG_nil, SG_cons, SU_yes, gw_n, boolE_b, vN_val, SK_not, evTmp, slot_put, putD_nt, slotOk, Nat.blt_eq, Nat.reduceLT, true_and, if_true, if_false, eqGt, Nat.lt_add_one, hnt]
          refine hK _ _ ?_
          clear hK K
          (first | refine R1.s_cnd fun Kx Ky hx hy => ?_ | refine R1.e_cnd fun Kx Ky hx hy => ?_); simp only [boolP'_b, evTmp, slot_put, Nat.reduceLT, if_true, if_false, eqGt, Bool.not_eq_true', Nat.lt_add_one]
          have hfr3 : Fr (fp s0) H H3 := (hfr.gr hg2).then hf3 fun i hi => (hfp i hi).symm
          refine iteI (fun hc => hx ?_) (fun hc => hy ?_)
          · clear hx hy Kx Ky
            rw [hc, if_neg (by decide)] at hr
            repeat' first | refine R1.ret ?_ | refine R1.exit ?_ | refine R1.skip ?_ | refine R1.s_ret ?_ | refine R1.s_exit ?_ | refine R1.s_assoc ?_ | refine R1.s_skip ?_ | refine R1.s_scope ?_ | ((first | refine R1.e_rg fun K hK => ?_ | refine R1.s_rg fun K hK => ?_ | refine R1.e_sq (by kernel_rfl) fun K hK => ?_ | refine R1.s_sq (by kernel_rfl) fun K hK => ?_); simp only [SG_nil, SG_cons, SU_yes, gw_n, gOf_n, List.map_cons, List.map_nil, SK_assign, ev_bool, putD_nt, slotOk, Nat.blt_eq, Nat.reduceLT, true_and, hnt]; refine hK _ _ ?_; clear hK K)
            refine k4 _ _ ⟨_, _, callEnd_one (.b false) (.inr rfl) (by simp only [putD_dfr, hdf]) (by simp only [slot_put, reduceIte]), hfr3, fun lg' => ⟨?_, fun t ht => ?_⟩⟩
            · rw [← hr]; rfl
            · rw [← hr] at ht; cases ht
          · clear hx hy Kx Ky
            rw [Bool.not_eq_false] at hc
            rw [hc, if_pos rfl] at hr
            obtain ⟨s', hj', hps, hfs⟩ := hok hc
            have hno : ∀ {v : AC}, Below' v n0 → ∀ id ∈ (AV.one v).ids, ¬ fp s id := fun hl id hi hf => by
              have := (hJl _ _ _ hj hf).1
              have := hl id hi
              omega
            repeat' first | refine R1.ret ?_ | refine R1.exit ?_ | refine R1.skip ?_ | refine R1.s_ret ?_ | refine R1.s_exit ?_ | refine R1.s_assoc ?_ | refine R1.s_skip ?_ | refine R1.s_scope ?_ | ((first | refine R1.e_rg fun K hK => ?_ | refine R1.s_rg fun K hK => ?_ | refine R1.e_sq (by kernel_rfl) fun K hK => ?_ | refine R1.s_sq (by kernel_rfl) fun K hK => ?_); simp only [SG_nil, SG_cons, SU_yes, SU_no, gw_n, gw_gwv, gwv_b, gwv_u, gOf_n, gOf_some, List.map_cons, List.map_nil, List.getElem?_cons_zero, List.getElem?_cons_succ, Option.elim_some, Option.map_some, Option.bind_some, optP_some, boolP_b, boolP'_b, boolE_b, decide_eq_true_eq, decide_true, decide_false, valP_val, valP_guard, vN_val, ldN_some, stN_some, faN_some, iaN_some, lnN_some, pkN_b, sliceO_some, slice_lo, slice_hi, slice_1, indexAddr_0, Nat.add_one_sub_one, Nat.one_mul, len_sl, len_ns, len_str', posS, eq0S, cast0, Int.reduceLT, Int.reduceLE, Int.reduceBEq, Option.map_none, Nat.lt_add_left_iff_pos, Nat.zero_lt_succ, Nat.le_add_left, SK_move, SK_assign, SK_pick, SK_alloc, SK_box, SK_load, SK_store, SK_bin, SK_not, SK_fieldAddr, SK_field, SK_indexAddr, SK_slice, SK_extract, SK_nilCheck, SK_makeFunc, SK_makeMap, SK_makeSlice, SK_build, SK_buildSlice, SK_len, SK_append, SK_call, doCall_clo, doCall_clo, evTmp, ev_int, ev_bool, ev_str, ev_nilS, ev_func, opFev, evs_cons, evs_nil, slot_put, putD_nt, putD_none, putD_dfr, slotOk, Nat.blt_eq, Nat.reduceLT, Nat.reduceEqDiff, Nat.reduceLeDiff, reduceIte, true_and, and_true, true_or, or_true, if_true, if_false, Bool.false_eq_true, Bool.true_eq_false, not_false_eq_true, not_true_eq_false, ltV_ptr, ltV_sl, ltV_nil, ltV_str, ltV_i, nxNew, nxMod, get_newE, get_newL, get_modE, get_modN, ltAdd, ltSelf, eqLt, eqGt, eqLtA, eqGtA, eqSelfA, eqASelf, eqAA, ltAA, doLoad_ptr, doStore_ptr, rowOf_arr, rowOf_ro, ldO_agg, ldO_one, stO_arr, splice_eq, fieldAddr_at, Bool.not_eq_true', Bool.not_eq_false', decide_eq_false_iff_not, ne_eq, Nat.reduceLeDiff, Nat.lt_irrefl, gt_iff_lt, cells_one, cells_agg, noTup_one, noTup_agg, List.length_cons, List.length_nil, Nat.zero_add, Nat.add_zero, Nat.reduceAdd, Nat.reduceSub, Nat.reduceMul, Nat.le_refl, Nat.zero_le, capsOf_nil, capsOf_cons, capArgs_nil, capArgs_cons, List.cons_append, List.nil_append, List.append_nil, ex_0, ex_0a, ex_1, ex_1a, ex_2, ex_2a, ii_lss, ii_leq, ii_gtr, ii_geq, ii_eql, ii_neq, ii_add, ii_sub, ii_mul, ss_lss, ss_geq, ss_leq, ss_gtr, ss_eql, ss_neq, List.take_succ_cons, List.take_zero, List.drop_succ_cons, List.drop_zero, List.take_nil, List.drop_nil, List.headD_cons, Bool.not_true, Bool.not_false, Nat.lt_add_one, bin_agg, bin_b, agg2_agg, bool2_b, aggEq_nil, aggEq_s, aggEq_i, aggEq_b, aggO_some, fill_nil, fill_cons, Nat.zero_mul, partsF_nil, partsF_cons, repl_one, hnt]; refine hK _ _ ?_; clear hK K)
            refine ⟨a'.length + b'.length, hlt, s', a', b', va', vb', q9, rfl, ?_⟩
            refine ⟨by rw [hps]; exact hr, hj', by rw [hps]; exact hB _ _ _ _ _ hbb hlt, hfr3, fun i hi => ?_, (ha'.gr hg2).fr hf3 (hno la'), (hb'.gr hg2).fr hf3 (hno lb'), la', lb', ?_, ?_, ?_, ?_, ?_, ?_, ⟨l9, ?_⟩, fun hf => ?_, ?_, ?_⟩
            · rcases hfs i hi with h | h
              · exact hfp i h
              · right; have := hfr.nx; have := hg2.nx; omega
            · simp only [slot_put, Nat.reduceEqDiff, reduceIte, t0]
            · simp only [slot_put, Nat.reduceEqDiff, reduceIte, t1]
            · simp only [slot_put, Nat.reduceEqDiff, reduceIte, t2]
            · simp only [slot_put, Nat.reduceEqDiff, reduceIte, t3]
            · simp only [slot_put, Nat.reduceEqDiff, reduceIte, t9]
            · rw [hf3.get _ (by have := hg2.nx; omega) f9, hg2.get _ l9' not_false]; exact g9
            · have := hf3.nx; have := hg2.nx; omega
            · rcases hfs _ hf with h | h
              · exact f9 h
              · have := hg2.nx; omega
            · simp only [putD_nt, hnt]
            · simp only [putD_dfr, hdf]
  · refine ⟨hr0, hJg _ _ _ hJ ((Fr.refl _).new _), hbb, (Fr.refl _).new _, fun i h => .inl h, ha.gr ((Fr.refl _).new _), hb.gr ((Fr.refl _).new _), la, lb, ?_, ?_, ?_, ?_, ?_, ?_, ⟨Nat.le_refl _, Nat.lt_succ_self _⟩, fun h => ?_, rfl, rfl⟩
    · simp only [slot_put, Nat.reduceEqDiff, reduceIte, h0]
    · simp only [slot_put, Nat.reduceEqDiff, reduceIte, h1]
    · simp only [slot_put, Nat.reduceEqDiff, reduceIte, h2]
    · simp only [slot_put, Nat.reduceEqDiff, reduceIte, h3]
    · simp only [slot_put, Nat.reduceEqDiff, reduceIte]
    · simp only [get_newE]
    · have := (hJl _ _ _ hJ h).2
      omega
end Go.Proofs.YtndipbefnipnpaaGreat
