/- combined: what it answers. -/
import Derived.Test.YtndipbefnipnpaaGreatLotsSum
import Derived.Test.YtndipbefnipnpaaGreatEngH
namespace Go.Proofs.YtndipbefnipnpaaGreat
open Go Go.Eng

def pl37 : Nat → Option (Nat × Nat) := fun i => (#[(0, 1), (1, 1)] : Array (Nat × Nat))[i]?
theorem place37 : placeT Tryz.prog 37 = some pl37 := by kernel_rfl
theorem pl37_0 : pl37 0 = some (0, 1) := rfl
theorem pl37_1 : pl37 1 = some (1, 1) := rfl
theorem bytes37 : bytesT Tryz.prog 37 = some 24 := by kernel_rfl
theorem zeroV37 : ∃ z, zeroT Tryz.prog 37 = some z ∧ (ofValue z).cells.length = 2 := by
  have h := zero37
  cases hz : zeroT Tryz.prog 37 with
  | none => rw [hz] at h; cases h
  | some z =>
    rw [hz] at h
    exact ⟨z, rfl, by have : (ofValue z).cells = _ := Option.some.inj h; rw [this]; rfl⟩

/-- What the closure of 'combined' finds: the sign, and the list so far. -/
structure OutJ (n0 is io : Nat) (sign : Int) (s : List Lot × Option Nat) (H : Hp) : Prop where
  sg : H.get is = some (.arr [.i .i64 sign] 3 0 0)
  ls : n0 ≤ is ∧ is < H.nx
  lo : n0 ≤ io ∧ io < H.nx
  ne : is ≠ io
  out : ∃ v, H.get io = some (.arr [v] 22 0 0) ∧ OwnR H v 37 2 s.1.length (s.1.flatMap lotC) s.2
  row : ∀ r, s.2 = some r → n0 ≤ r ∧ r ≠ is ∧ r ≠ io

theorem OutJ.own_lt {n0 is io : Nat} {sign : Int} {s : List Lot × Option Nat} {H : Hp} (h : OutJ n0 is io sign s H) {r : Nat} (hr : s.2 = some r) : r < H.nx := by
  obtain ⟨v, _, ho⟩ := h.out
  rcases ho with ⟨_, _, _, h4⟩ | ⟨id, lo, gen, h1, _, _, _, _, h6⟩
  · rw [h4] at hr; cases hr
  · rw [h1] at hr; cases hr; exact h6

theorem OutJ.gr {n0 is io : Nat} {sign : Int} {s : List Lot × Option Nat} {H H' : Hp} (h : OutJ n0 is io sign s H) (hg : Gr H H') : OutJ n0 is io sign s H' where
  sg := by rw [hg.get _ h.ls.2 not_false]; exact h.sg
  ls := ⟨h.ls.1, Nat.lt_of_lt_of_le h.ls.2 hg.nx⟩
  lo := ⟨h.lo.1, Nat.lt_of_lt_of_le h.lo.2 hg.nx⟩
  ne := h.ne
  out := by
    obtain ⟨v, h1, h2⟩ := h.out
    exact ⟨v, by rw [hg.get _ h.lo.2 not_false]; exact h1, h2.fr hg fun _ _ h => h⟩
  row := h.row

theorem OutJ.same {n0 is io : Nat} {sign : Int} {s : List Lot × Option Nat} {H H' : Hp} (ht : H'.t = H.t) (hn : H'.nx = H.nx) (h : OutJ n0 is io sign s H) : OutJ n0 is io sign s H' := by
  obtain ⟨t, nx, l⟩ := H
  obtain ⟨t', nx', l'⟩ := H'
  cases ht; cases hn
  exact ⟨h.sg, h.ls, h.lo, h.ne, h.out, h.row⟩

set_option maxRecDepth 10000 in
set_option maxHeartbeats 4000000 in
theorem comb1_con (n0 is io : Nat) (sign : Int) (s : List Lot × Option Nat) (H : Hp) (x y : Lot) (hj : OutJ n0 is io sign s H) (hlen : s.1.length + 1 ≤ 1000000) :
    Con E2 55 [.agg (lotC x), .agg (lotC y), .one (.o (.ptr is 0 0 1)), .one (.o (.ptr io 0 0 1))] H (fun i => i = io ∨ s.2 = some i) fun v H' =>
      v = .one (.b (okC sign s.1 x y)) ∧ (okC sign s.1 x y = true → ∃ s', OutJ n0 is io sign s' H' ∧ s'.1 = stepC sign s.1 x y ∧ ∀ i, (i = io ∨ s'.2 = some i) → (i = io ∨ s.2 = some i) ∨ H.nx ≤ i) := by
  refine Con.of rfl fun lg => ?_
  have hj : OutJ n0 is io sign s ⟨H.t, H.nx, lg⟩ := OutJ.same (H := H) (H' := ⟨H.t, H.nx, lg⟩) rfl rfl hj
  have hnx : H.nx = (⟨H.t, H.nx, lg⟩ : Hp).nx := rfl
  rw [hnx]
  clear hnx
  generalize (⟨H.t, H.nx, lg⟩ : Hp) = H at hj ⊢
  have hj0 := hj
  obtain ⟨hsg, ⟨hls, hls'⟩, ⟨hlo, hlo'⟩, hne, ⟨v, hio, hown⟩, hrow⟩ := hj
  refine C1.body (E := E2) (nt := 31) (res := [.tmp 6]) Tryz.func55 rfl rfl rfl rfl rfl fun tm hargs => ?_
  have h0 := hargs 0 _ rfl
  have h1 := hargs 1 _ rfl
  have h2 := hargs 2 _ rfl
  have h3 := hargs 3 _ rfl
  clear hargs
  repeat' first | refine R1.ret ?_ | refine R1.exit ?_ | refine R1.skip ?_ | refine R1.s_ret ?_ | refine R1.s_exit ?_ | refine R1.s_assoc ?_ | refine R1.s_skip ?_ | refine R1.s_scope ?_ | ((first | refine R1.e_rg fun K hK => ?_ | refine R1.s_rg fun K hK => ?_ | refine R1.e_sq (by kernel_rfl) fun K hK => ?_ | refine R1.s_sq (by kernel_rfl) fun K hK => ?_); simp only [SG_nil, SG_cons, SU_yes, gw_n, gw_gwv, gwv_b, gOf_n, gOf_some, List.map_cons, List.map_nil, List.getElem?_cons_zero, List.getElem?_cons_succ, Option.elim_some, vN_val, ldN_some, faN_some, Nat.add_one_sub_one, SK_move, SK_assign, SK_box, SK_load, SK_bin, SK_fieldAddr, evTmp, ev_int, ev_bool, slot_put, putD_nt, slotOk, Nat.blt_eq, Nat.reduceLT, true_and, if_true, if_false, ltV_ptr, nxNew, get_newE, get_newL, ltAdd, eqLt, eqGt, doLoad_ptr, rowOf_arr, ldO_one, fieldAddr_at, decide_eq_false_iff_not, cells_agg, noTup_agg, List.length_cons, List.length_nil, Nat.zero_add, Nat.reduceAdd, Nat.le_refl, ii_gtr, ii_add, ii_mul, List.drop_succ_cons, List.drop_zero, List.headD_cons, Nat.lt_add_one, E2_P, h0, h1, h2, lotC, field37_1, load3, hsg, hls', ltAdd hls']; refine hK _ _ ?_; clear hK K)
  have hN : addN sign x y = IntKind.i64.wrap (x.2 + IntKind.i64.wrap (sign * y.2)) := rfl
  rw [← hN]
  refine R1.s_rg fun K hK => ?_
  simp only [SG_cons, SU_yes, gw_n, gw_gwv, gwv_b, gOf_n, gOf_some, List.map_cons, List.map_nil, List.getElem?_cons_zero, List.getElem?_cons_succ, Option.elim_some, vN_val, SK_move, SK_bin, evTmp, ev_int, slot_put, putD_nt, slotOk, Nat.blt_eq, Nat.reduceLT, true_and, if_true, if_false, eqLt, eqGt, decide_eq_false_iff_not, ii_gtr, Nat.lt_add_one, E2_P]
  repeat' (refine SU_iteI (fun hc => ?_) (fun hc => ?_) <;> (try simp only [Classical.not_not] at hc) <;> simp only [hc, SG_nil, SG_cons, SU_yes, SU_no, gw_n, gw_gwv, gwv_b, decide_true, decide_false, vN_val, pkN_b, SK_move, SK_pick, SK_bin, evTmp, ev_int, ev_bool, slot_put, putD_nt, slotOk, Nat.blt_eq, Nat.reduceLT, true_and, if_true, if_false, Bool.false_eq_true, Bool.true_eq_false, eqLt, eqGt, ii_lss, Nat.lt_add_one])
  rotate_left
  · refine hK _ _ ?_
    clear hK K
    (first | refine R1.s_cnd fun Kx Ky hx hy => ?_ | refine R1.e_cnd fun Kx Ky hx hy => ?_); simp only [boolP'_b, evTmp, slot_put, Nat.reduceLT, if_true, if_false, eqGt, Nat.lt_add_one]
    refine hx ?_
    clear hx hy Kx Ky
    repeat' first | refine R1.ret ?_ | refine R1.exit ?_ | refine R1.skip ?_ | refine R1.s_ret ?_ | refine R1.s_exit ?_ | refine R1.s_assoc ?_ | refine R1.s_skip ?_ | refine R1.s_scope ?_ | ((first | refine R1.e_rg fun K hK => ?_ | refine R1.s_rg fun K hK => ?_ | refine R1.e_sq (by kernel_rfl) fun K hK => ?_ | refine R1.s_sq (by kernel_rfl) fun K hK => ?_); simp only [SG_nil, SG_cons, SU_yes, gw_n, gOf_n, List.map_cons, List.map_nil, SK_assign, ev_bool, putD_nt, slotOk, Nat.blt_eq, Nat.reduceLT, true_and]; refine hK _ _ ?_; clear hK K)
    refine ⟨_, _, callEnd_one (.b false) (.inr rfl) rfl (by simp only [slot_put, Nat.reduceEqDiff, reduceIte]), ((Fr.refl _).new _).new _, fun _ => ⟨?_, fun h => ?_⟩⟩
    · simp only [okC, hc, decide_true, Bool.true_or, Bool.not_true]
    · simp only [okC, hc, decide_true, Bool.true_or, Bool.not_true, Bool.false_eq_true] at h
  · refine hK _ _ ?_
    clear hK K
    (first | refine R1.s_cnd fun Kx Ky hx hy => ?_ | refine R1.e_cnd fun Kx Ky hx hy => ?_); simp only [boolP'_b, decide_eq_true_eq, evTmp, slot_put, Nat.reduceLT, if_true, if_false, eqGt, Nat.lt_add_one]
    refine iteI (fun hd => hx ?_) (fun hd => hy ?_)
    · clear hx hy Kx Ky
      repeat' first | refine R1.ret ?_ | refine R1.exit ?_ | refine R1.skip ?_ | refine R1.s_ret ?_ | refine R1.s_exit ?_ | refine R1.s_assoc ?_ | refine R1.s_skip ?_ | refine R1.s_scope ?_ | ((first | refine R1.e_rg fun K hK => ?_ | refine R1.s_rg fun K hK => ?_ | refine R1.e_sq (by kernel_rfl) fun K hK => ?_ | refine R1.s_sq (by kernel_rfl) fun K hK => ?_); simp only [SG_nil, SG_cons, SU_yes, gw_n, gOf_n, List.map_cons, List.map_nil, SK_assign, ev_bool, putD_nt, slotOk, Nat.blt_eq, Nat.reduceLT, true_and]; refine hK _ _ ?_; clear hK K)
      refine ⟨_, _, callEnd_one (.b false) (.inr rfl) rfl (by simp only [slot_put, Nat.reduceEqDiff, reduceIte]), ((Fr.refl _).new _).new _, fun _ => ⟨?_, fun h => ?_⟩⟩
      · simp only [okC, hd, decide_true, Bool.or_true, Bool.not_true]
      · simp only [okC, hd, decide_true, Bool.or_true, Bool.not_true, Bool.false_eq_true] at h
    · clear hx hy Kx Ky
      have hok : okC sign s.1 x y = true := by simp only [okC, hc, hd, decide_false, Bool.or_false, Bool.not_false]
      repeat' first | refine R1.ret ?_ | refine R1.exit ?_ | refine R1.skip ?_ | refine R1.s_ret ?_ | refine R1.s_exit ?_ | refine R1.s_assoc ?_ | refine R1.s_skip ?_ | refine R1.s_scope ?_ | ((first | refine R1.e_rg fun K hK => ?_ | refine R1.s_rg fun K hK => ?_ | refine R1.e_sq (by kernel_rfl) fun K hK => ?_ | refine R1.s_sq (by kernel_rfl) fun K hK => ?_); simp only [SG_nil, SG_cons, SU_yes, gw_n, gOf_n, List.map_cons, List.map_nil, vN_val, SK_move, SK_bin, evTmp, ev_int, slot_put, putD_nt, slotOk, Nat.blt_eq, Nat.reduceLT, true_and, if_true, if_false, eqLt, eqGt, ii_neq, Nat.lt_add_one]; refine hK _ _ ?_; clear hK K)
      (first | refine R1.s_cnd fun Kx Ky hx hy => ?_ | refine R1.e_cnd fun Kx Ky hx hy => ?_); simp only [boolP'_b, evTmp, slot_put, Nat.reduceLT, if_true, if_false, eqGt, Bool.not_eq_true', Nat.lt_add_one]
      refine iteI (fun he => hx ?_) (fun he => hy ?_)
      · clear hx hy Kx Ky
        refine R1.gen (fun A H2 => Gr H H2 ∧ H.nx + 1 < H2.nx ∧ H2.get H.nx = some (.arr (lotC x) 37 0 0) ∧ H2.get (H.nx + 1) = some (.arr (lotC y) 37 0 0) ∧ slot A.tm 3 = .one (.o (.ptr io 0 0 1)) ∧ slot A.tm 4 = .one (.o (.ptr H.nx 0 0 2)) ∧ slot A.tm 5 = .one (.o (.ptr (H.nx + 1) 0 0 2)) ∧ slot A.tm 7 = .one (.i .i64 (addN sign x y)) ∧ A.nt = 31 ∧ A.dfr = [])
          ⟨((Fr.refl _).new _).new _, ?_⟩ ?_
        · simp only [slot_put, putD_nt, putD_dfr, Nat.reduceLT, and_true, if_true, if_false, nxNew, get_newE, get_newL, eqLt, eqGt, Nat.lt_add_one, h3, lotC]
        rintro A H2 ⟨g2, n2, gx, gy, t3, t4, t5, t7, hnt, hdf⟩
        have hj2 := hj0.gr g2
        obtain ⟨v2, hio2, hown2⟩ := hj2.out
        have l4 : H.nx < H2.nx := by omega
        have lio : io < H2.nx := by omega
        (first | refine R1.s_sg (by kernel_rfl) fun K hK => ?_ | refine R1.e_sg (by kernel_rfl) fun K hK => ?_)
        simp only [SG_cons, SU_yes, gw_n, gOf_n, List.map_cons, List.map_nil, vN_val, ldN_some, SK_load, SK_call, doCall_clo, doCall_clo, evTmp, ev_func, evs_cons, evs_nil, slot_put, putD_nt, slotOk, Nat.blt_eq, Nat.reduceLT, true_and, if_true, if_false, ltV_ptr, eqLt, eqGt, doLoad_ptr, rowOf_arr, ldO_agg, ldO_one, List.length_cons, List.length_nil, Nat.zero_add, Nat.reduceAdd, Nat.le_refl, capArgs_nil, List.append_nil, List.take_succ_cons, List.drop_zero, List.take_nil, List.headD_cons, Nat.lt_add_one, E2_P, t3, t4, t5, hnt, gx, gy, hio2, l4, n2, lio, load22, load37, body56, lotC]
        refine WE.conG (name_con _ x y) fun v3 H3 hf3 hv => ?_
        subst hv
        obtain ⟨z, hz, hzl⟩ := zeroV37
        have lio3 : io < H3.nx := Nat.lt_of_lt_of_le lio hf3.nx
        have hio3 : H3.get io = some (.arr [v2] 22 0 0) := by rw [hf3.get _ lio not_false]; exact hio2
        have g3 : Gr H H3 := g2.gr hf3
        have g4 : Gr H (H3.new (.arr [.o (.str (goodOf x y)), .i .i64 (addN sign x y)] 37 0 0)) := g3.new _
        have hown4 : OwnR (H3.new (.arr [.o (.str (goodOf x y)), .i .i64 (addN sign x y)] 37 0 0)) v2 37 2 s.1.length (s.1.flatMap lotC) s.2 := (hown2.fr hf3 fun _ _ h => h).fr ((Fr.refl _ : Gr _ _).new _) fun _ _ h => h
        have hlt4 := hown4.lt
        obtain ⟨v5, H5, r5, happ, how5, hf5, hr5⟩ := append_own (P := Tryz.prog) (t := 22) (H := H3.new (.arr [.o (.str (goodOf x y)), .i .i64 (addN sign x y)] 37 0 0)) (x := .one (.o (.sl H3.nx 0 0 1 2))) (k := 1) (c := [.o (.str (goodOf x y)), .i .i64 (addN sign x y)]) elem22 bytes37 hz hzl (by decide) hown4
          (by rw [srcOf_row (cells := [.o (.str (goodOf x y)), .i .i64 (addN sign x y)]) (by rw [get_newE rfl]; rfl) (by simp)]; rfl) (by decide) rfl (by omega) (by omega)
        have hio4 : (H3.new (.arr [.o (.str (goodOf x y)), .i .i64 (addN sign x y)] 37 0 0)).get io = some (.arr [v2] 22 0 0) := by rw [get_newL lio3]; exact hio3
        have hio5 : H5.get io = some (.arr [v2] 22 0 0) := by rw [hf5.get _ (by rw [nxNew]; omega) fun h => (hj2.row io h).2.2 rfl]; exact hio4
        have lio5 : io < H5.nx := Nat.lt_of_lt_of_le (by rw [nxNew]; omega) hf5.nx
        simp only [SG_nil, SG_cons, SU_yes, gw_n, Option.map_some, Option.bind_some, optP_some, vN_val, stN_some, Nat.one_mul, SK_move, SK_store, SK_build, SK_buildSlice, SK_append, evTmp, opFev, slot_put, putD_nt, putD_none, slotOk, Nat.blt_eq, Nat.reduceLT, Nat.reduceLeDiff, true_and, and_true, if_true, if_false, ltV_ptr, ltV_sl, nxNew, eqLt, eqGt, doStore_ptr, stO_arr, Nat.reduceLeDiff, cells_one, cells_agg, noTup_one, noTup_agg, List.length_cons, List.length_nil, Nat.zero_add, Nat.reduceAdd, Nat.le_refl, List.cons_append, List.nil_append, List.append_nil, List.take_succ_cons, List.take_zero, List.drop_succ_cons, List.drop_zero, List.drop_nil, Nat.lt_add_one, fill_nil, fill_cons, Nat.zero_mul, partsF_nil, partsF_cons, repl_one, E2_P, hnt, t7, zero37, place37, pl37_0, pl37_1, elem22, repl_one, happ, size22, hio5, lio5, t3]
        refine ⟨hlt4, ?_⟩
        refine hK _ _ ?_
        clear hK K
        repeat' first | refine R1.ret ?_ | refine R1.exit ?_ | refine R1.skip ?_ | refine R1.s_ret ?_ | refine R1.s_exit ?_ | refine R1.s_assoc ?_ | refine R1.s_skip ?_ | refine R1.s_scope ?_ | ((first | refine R1.e_rg fun K hK => ?_ | refine R1.s_rg fun K hK => ?_ | refine R1.e_sq (by kernel_rfl) fun K hK => ?_ | refine R1.s_sq (by kernel_rfl) fun K hK => ?_); simp only [SG_nil, SG_cons, SU_yes, gw_n, gOf_n, List.map_cons, List.map_nil, SK_assign, ev_bool, putD_nt, slotOk, Nat.blt_eq, Nat.reduceLT, true_and, hnt]; refine hK _ _ ?_; clear hK K)
        repeat' first | refine R1.ret ?_ | refine R1.exit ?_ | refine R1.skip ?_ | refine R1.s_ret ?_ | refine R1.s_exit ?_ | refine R1.s_assoc ?_ | refine R1.s_skip ?_ | refine R1.s_scope ?_ | ((first | refine R1.e_rg fun K hK => ?_ | refine R1.s_rg fun K hK => ?_ | refine R1.e_sq (by kernel_rfl) fun K hK => ?_ | refine R1.s_sq (by kernel_rfl) fun K hK => ?_); simp only [SG_nil, SG_cons, SU_yes, SU_no, gw_n, gw_gwv, gwv_b, gwv_u, gOf_n, gOf_some, List.map_cons, List.map_nil, List.getElem?_cons_zero, List.getElem?_cons_succ, Option.elim_some, Option.map_some, Option.bind_some, optP_some, boolP_b, boolP'_b, boolE_b, decide_eq_true_eq, decide_true, decide_false, valP_val, valP_guard, vN_val, ldN_some, stN_some, faN_some, iaN_some, lnN_some, pkN_b, sliceO_some, slice_lo, slice_hi, slice_1, indexAddr_0, Nat.add_one_sub_one, Nat.one_mul, len_sl, len_ns, len_str', posS, eq0S, cast0, Int.reduceLT, Int.reduceLE, Int.reduceBEq, Option.map_none, Nat.lt_add_left_iff_pos, Nat.zero_lt_succ, Nat.le_add_left, SK_move, SK_assign, SK_pick, SK_alloc, SK_box, SK_load, SK_store, SK_bin, SK_not, SK_fieldAddr, SK_field, SK_indexAddr, SK_slice, SK_extract, SK_nilCheck, SK_makeFunc, SK_makeMap, SK_makeSlice, SK_build, SK_buildSlice, SK_len, SK_append, SK_call, doCall_clo, doCall_clo, evTmp, ev_int, ev_bool, ev_str, ev_nilS, ev_func, opFev, evs_cons, evs_nil, slot_put, putD_nt, putD_none, putD_dfr, slotOk, Nat.blt_eq, Nat.reduceLT, Nat.reduceEqDiff, Nat.reduceLeDiff, reduceIte, true_and, and_true, true_or, or_true, if_true, if_false, Bool.false_eq_true, Bool.true_eq_false, not_false_eq_true, not_true_eq_false, ltV_ptr, ltV_sl, ltV_nil, ltV_str, ltV_i, nxNew, nxMod, get_newE, get_newL, get_modE, get_modN, ltAdd, ltSelf, eqLt, eqGt, eqLtA, eqGtA, eqSelfA, eqASelf, eqAA, ltAA, doLoad_ptr, doStore_ptr, rowOf_arr, rowOf_ro, ldO_agg, ldO_one, stO_arr, splice_eq, fieldAddr_at, Bool.not_eq_true', Bool.not_eq_false', decide_eq_false_iff_not, ne_eq, Nat.reduceLeDiff, Nat.lt_irrefl, gt_iff_lt, cells_one, cells_agg, noTup_one, noTup_agg, List.length_cons, List.length_nil, Nat.zero_add, Nat.add_zero, Nat.reduceAdd, Nat.reduceSub, Nat.reduceMul, Nat.le_refl, Nat.zero_le, capsOf_nil, capsOf_cons, capArgs_nil, capArgs_cons, List.cons_append, List.nil_append, List.append_nil, ex_0, ex_0a, ex_1, ex_1a, ex_2, ex_2a, ii_lss, ii_leq, ii_gtr, ii_geq, ii_eql, ii_neq, ii_add, ii_sub, ii_mul, ss_lss, ss_geq, ss_leq, ss_gtr, ss_eql, ss_neq, List.take_succ_cons, List.take_zero, List.drop_succ_cons, List.drop_zero, List.take_nil, List.drop_nil, List.headD_cons, Bool.not_true, Bool.not_false, Nat.lt_add_one, bin_agg, bin_b, agg2_agg, bool2_b, aggEq_nil, aggEq_s, aggEq_i, aggEq_b, aggO_some, fill_nil, fill_cons, Nat.zero_mul, partsF_nil, partsF_cons, repl_one, hnt]; refine hK _ _ ?_; clear hK K)
        have hnz : addN sign x y ≠ 0 := by simpa using he
        have f5 : Fr (fun i => i = io ∨ s.2 = some i) H H5 := (g4.none).then hf5 fun i hi => .inr (.inr hi)
        have hr5' : n0 ≤ r5 ∧ r5 ≠ is ∧ r5 ≠ io := by
          rcases hr5 with h | ⟨_, h⟩
          · exact hj0.row _ h
          · rw [nxNew] at h
            have := g3.nx
            refine ⟨?_, ?_, ?_⟩ <;> omega
        refine ⟨_, _, callEnd_one (.b true) (.inr rfl) (by simp only [putD_dfr, hdf]) (by simp only [slot_put, Nat.reduceEqDiff, reduceIte]), f5.mod _ (.inr (.inl rfl)), fun lg' => ⟨by rw [hok], fun _ => ⟨(s.1 ++ [(goodOf x y, addN sign x y)], some r5), ?_, ?_, ?_⟩⟩⟩
        · refine OutJ.same (H := H5.mod io (.arr [v5] 22 0 0)) rfl rfl ⟨?_, ⟨hls, ?_⟩, ⟨hlo, ?_⟩, hne, ⟨v5, get_modE rfl, ?_⟩, fun r hr => ?_⟩
          · rw [get_modN hne, f5.get _ hls' fun h => h.elim hne fun h => (hrow _ h).2.1 rfl]
            exact hsg
          · rw [nxMod]; have := f5.nx; omega
          · rw [nxMod]; exact lio5
          · have e1 : (s.1 ++ [(goodOf x y, addN sign x y)]).length = s.1.length + 1 := by simp
            have e2 : (s.1 ++ [(goodOf x y, addN sign x y)]).flatMap lotC = s.1.flatMap lotC ++ [.o (.str (goodOf x y)), .i .i64 (addN sign x y)] := by
              rw [List.flatMap_append]; rfl
            rw [e1, e2]
            exact how5.fr (X := fun i => i = io) ((Fr.refl _).mod _ (.inr rfl)) fun i hi => by
              cases hi
              exact hr5'.2.2
          · cases hr
            exact hr5'
        · rw [stepC, if_neg hnz]
        · rintro i (h | h)
          · exact .inl (.inl h)
          · cases h
            rcases hr5 with h | ⟨_, h⟩
            · exact .inl (.inr h)
            · right
              rw [nxNew] at h
              have := g3.nx
              omega
      · clear hx hy Kx Ky
        repeat' first | refine R1.ret ?_ | refine R1.exit ?_ | refine R1.skip ?_ | refine R1.s_ret ?_ | refine R1.s_exit ?_ | refine R1.s_assoc ?_ | refine R1.s_skip ?_ | refine R1.s_scope ?_ | ((first | refine R1.e_rg fun K hK => ?_ | refine R1.s_rg fun K hK => ?_ | refine R1.e_sq (by kernel_rfl) fun K hK => ?_ | refine R1.s_sq (by kernel_rfl) fun K hK => ?_); simp only [SG_nil, SG_cons, SU_yes, gw_n, gOf_n, List.map_cons, List.map_nil, SK_assign, ev_bool, putD_nt, slotOk, Nat.blt_eq, Nat.reduceLT, true_and]; refine hK _ _ ?_; clear hK K)
        refine ⟨_, _, callEnd_one (.b true) (.inr rfl) rfl (by simp only [slot_put, Nat.reduceEqDiff, reduceIte]), ((Fr.refl _).new _).new _, fun _ => ⟨by rw [hok], fun _ => ⟨s, OutJ.same (H := (H.new (.arr (lotC x) 37 0 0)).new (.arr (lotC y) 37 0 0)) rfl rfl (hj0.gr (((Fr.refl _).new _).new _)), ?_, fun i hi => .inl hi⟩⟩⟩
        have : addN sign x y = 0 := by simpa using he
        rw [stepC, if_pos this]
end Go.Proofs.YtndipbefnipnpaaGreat
