/- The reference's NewBook without bridges, and Ladder: what they answer. -/
import Derived.Test.YtiejeicaaojdlaaGreatBkRef3
namespace Go.Proofs.YtiejeicaaojdlaaGreat
open Go Go.Eng

/-- Where the making of the reference's book stands. -/
structure RB (n0 kb : Nat) (ll : List Lad) (H1 : Hp) (lad : AC) (r1 : Option Nat) : Prop where
  kbg : H1.get kb = some (.arr [lad, .o .nilS] 134 0 0)
  o1 : ∃ css : List (List AC), OwnR H1 lad 78 2 ll.length (css.flatMap id) r1 ∧ Al (fun c x => c.length = 2 ∧ ∃ u, c = [.o (.str x.1), u] ∧ SlP H1 u x.2 ∧ ∀ id ∈ (AV.one u).ids, id ≠ kb ∧ some id ≠ r1) css ll
  kn : n0 ≤ kb ∧ kb < H1.nx
  n1 : ∀ q, r1 = some q → n0 ≤ q ∧ q < H1.nx ∧ q ≠ kb
section
variable {n0 kb : Nat} {ll : List Lad} {H1 H2 : Hp} {lad : AC} {r1 : Option Nat}
theorem RB.ofGr (h : RB n0 kb ll H1 lad r1) (hg : Gr H1 H2) : RB n0 kb ll H2 lad r1 where
  kbg := by rw [hg.get _ h.kn.2 not_false]; exact h.kbg
  o1 := let ⟨css, a, b⟩ := h.o1; ⟨css, a.fr hg fun _ _ h => h, b.mono fun c x ⟨hc, u, e, hu, hi⟩ => ⟨hc, u, e, hu.gr hg, hi⟩⟩
  kn := ⟨h.kn.1, Nat.lt_of_lt_of_le h.kn.2 hg.nx⟩
  n1 := fun q hq => let ⟨a, b, c⟩ := h.n1 q hq; ⟨a, Nat.lt_of_lt_of_le b hg.nx, c⟩
theorem RB.addL (h : RB n0 kb ll H1 lad r1) {x : Lad} {u v5 : AC} {r5 : Nat} {H5 : Hp} (hu : SlP H1 u x.2) (hi : ∀ id ∈ (AV.one u).ids, id ≠ kb ∧ some id ≠ r1)
    {css : List (List AC)} (hal : Al (fun c x => c.length = 2 ∧ ∃ u, c = [.o (.str x.1), u] ∧ SlP H1 u x.2 ∧ ∀ id ∈ (AV.one u).ids, id ≠ kb ∧ some id ≠ r1) css ll)
    (ho : OwnR H5 v5 78 2 (ll.length + 1) (css.flatMap id ++ [.o (.str x.1), u]) (some r5)) (hf : Fr (fun i => r1 = some i) H1 H5) (hr : r1 = some r5 ∨ H1.nx ≤ r5) :
    RB n0 kb (ll ++ [x]) (H5.mod kb (.arr [v5, .o .nilS] 134 0 0)) v5 (some r5) := by
  have r5kb : r5 ≠ kb := by
    rcases hr with e | e
    · exact (h.n1 _ e).2.2
    · have := h.kn.2; omega
  have n0le : n0 ≤ H1.nx := Nat.le_trans h.kn.1 (Nat.le_of_lt h.kn.2)
  have lt5 : r5 < H5.nx := by
    rcases ho with ⟨_, _, _, e⟩ | ⟨id, lo, gen, e, _, _, _, _, hl⟩
    · cases e
    · cases e; exact hl
  have keep : ∀ {c : List AC} {x : Lad}, (c.length = 2 ∧ ∃ u, c = [.o (.str x.1), u] ∧ SlP H1 u x.2 ∧ ∀ id ∈ (AV.one u).ids, id ≠ kb ∧ some id ≠ r1) →
      c.length = 2 ∧ ∃ u, c = [.o (.str x.1), u] ∧ SlP (H5.mod kb (.arr [v5, .o .nilS] 134 0 0)) u x.2 ∧ ∀ id ∈ (AV.one u).ids, id ≠ kb ∧ some id ≠ some r5 := by
    rintro c x ⟨hc, u, e, hu, hi⟩
    refine ⟨hc, u, e, SlC.fr (SlC.fr hu hf fun i h' e => (hi i h').2 e.symm) mod_fr fun i h' e => (hi i h').1 e, fun i h' => ⟨(hi i h').1, fun e => ?_⟩⟩
    cases e
    rcases hr with e | e
    · exact (hi _ h').2 e.symm
    · have := hu.lt _ h'; omega
  refine ⟨get_modE rfl, ⟨css ++ [[.o (.str x.1), u]], ?_, ?_⟩, ⟨h.kn.1, Nat.lt_of_lt_of_le h.kn.2 hf.nx⟩, ?_⟩
  · rw [List.length_append, List.length_singleton, List.flatMap_append]
    exact ho.fr mod_fr fun i hi e => by cases hi; exact r5kb e
  · exact Al.app (hal.mono fun c x hc => keep hc) (keep ⟨rfl, u, rfl, hu, hi⟩)
  · intro q hq
    cases hq
    refine ⟨?_, lt5, r5kb⟩
    rcases hr with e | e
    · exact (h.n1 _ e).1
    · omega
theorem RB.book (h : RB n0 kb ll H1 lad r1) : RBk H1 (.o (.ptr kb 0 0 2)) ll := by
  obtain ⟨css, a, b⟩ := h.o1
  exact ⟨kb, lad, rfl, h.kn.2, h.kbg, css, a.slc, b.mono fun c x ⟨hc, u, e, hu, _⟩ => ⟨hc, u, e, hu⟩⟩
end

set_option maxRecDepth 10000 in
set_option maxHeartbeats 8000000 in
theorem rNew_con (H : Hp) (v : AC) (ls : List Lad) (hl : SlLad H v ls) :
    Con E2 30 [.one v, .one (.o .nilS)] H (fun _ => False) fun r H' => ∃ p, r = .tup [(false, [p]), (false, [.i .i64 (newE ls)])] ∧ (newE ls = 0 → RBk H' p ls) ∧ (newE ls ≠ 0 → p = .o .nilP) := by
  refine Con.of rfl fun lg => ?_
  have hl : SlLad ⟨H.t, H.nx, lg⟩ v ls := hl
  generalize (⟨H.t, H.nx, lg⟩ : Hp) = H at hl ⊢
  refine C1.body (E := E2) (nt := 86) (res := [.tmp 4, .tmp 5]) Tryz.func30 rfl rfl rfl rfl rfl fun tm hargs => ?_
  have h0 := hargs 0 _ rfl
  have h1 := hargs 1 _ rfl
  clear hargs
  have lnB : lenT Tryz.prog 121 = some 1 := by kernel_rfl
  by_cases h32 : (32 : Int) < ls.length
  · have c32 : ((32 : Int) < ls.length) = True := eq_true h32
    repeat' first | refine R1.ret ?_ | refine R1.exit ?_ | refine R1.skip ?_ | refine R1.s_ret ?_ | refine R1.s_exit ?_ | refine R1.s_assoc ?_ | refine R1.s_skip ?_ | refine R1.s_scope ?_ | ((first | refine R1.e_rg fun K hK => ?_ | refine R1.s_rg fun K hK => ?_ | refine R1.e_sq (by kernel_rfl) fun K hK => ?_ | refine R1.s_sq (by kernel_rfl) fun K hK => ?_); simp only [SG_nil, SG_cons, SU_yes, gw_n, gOf_n, gOf_some, List.map_cons, List.map_nil, List.getElem?_cons_zero, List.getElem?_cons_succ, Option.elim_some, Nat.zero_lt_succ, SK_move, SK_assign, SK_len, evTmp, ev_int, slot_put, putD_nt, slotOk, Nat.blt_eq, Nat.reduceLT, true_and, if_true, if_false, eqLt, eqGt, ev_nilP, E2_P]; refine hK _ _ ?_; clear hK K)
    repeat refine R1.s_assoc ?_
    refine R1.s_rg fun K hK => ?_
    simp only [SG_nil, SG_cons, SU_yes, SU_no, gw_n, gw_gwv, gwv_b, gOf_n, gOf_some, List.map_cons, List.map_nil, List.getElem?_cons_zero, List.getElem?_cons_succ, Option.elim_some, decide_true, vN_val, lnN_some, pkN_b, Nat.zero_lt_succ, SK_move, SK_pick, SK_bin, SK_len, evTmp, ev_int, ev_bool, slot_put, putD_nt, slotOk, Nat.blt_eq, Nat.reduceLT, true_and, if_true, if_false, Bool.true_eq_false, eqLt, eqGt, ii_gtr, Nat.lt_add_one, E2_P, h0, ln_lads, hl.len, hl.lt, c32]
    refine hK _ _ ?_
    clear hK K
    repeat refine R1.s_assoc ?_
    (first | refine R1.s_cnd fun Kx Ky hx hy => ?_ | refine R1.e_cnd fun Kx Ky hx hy => ?_); simp only [boolP'_b, evTmp, slot_put, Nat.reduceLT, if_true, if_false, eqGt, Nat.lt_add_one]
    refine hx ?_
    clear hx hy Kx Ky
    repeat' first | refine R1.ret ?_ | refine R1.exit ?_ | refine R1.skip ?_ | refine R1.s_ret ?_ | refine R1.s_exit ?_ | refine R1.s_assoc ?_ | refine R1.s_skip ?_ | refine R1.s_scope ?_ | ((first | refine R1.e_rg fun K hK => ?_ | refine R1.s_rg fun K hK => ?_ | refine R1.e_sq (by kernel_rfl) fun K hK => ?_ | refine R1.s_sq (by kernel_rfl) fun K hK => ?_); simp only [SG_nil, SG_cons, SU_yes, gw_n, gOf_n, List.map_cons, List.map_nil, SK_assign, ev_int, putD_nt, slotOk, Nat.blt_eq, Nat.reduceLT, true_and, ev_nilP]; refine hK _ _ ?_; clear hK K)
    refine ⟨_, _, callEnd_two (.o .nilP) (.i .i64 3) (.inr rfl) rfl (by simp only [slot_put, Nat.reduceEqDiff, reduceIte]) (by simp only [slot_put, Nat.reduceEqDiff, reduceIte]), Fr.refl _, fun _ => ?_⟩
    have : newE ls = 3 := if_pos h32
    rw [this]
    exact ⟨_, rfl, fun h => (by cases h), fun _ => rfl⟩
  · have c32 : ((32 : Int) < ls.length) = False := eq_false h32
    repeat' first | refine R1.ret ?_ | refine R1.exit ?_ | refine R1.skip ?_ | refine R1.s_ret ?_ | refine R1.s_exit ?_ | refine R1.s_assoc ?_ | refine R1.s_skip ?_ | refine R1.s_scope ?_ | ((first | refine R1.e_rg fun K hK => ?_ | refine R1.s_rg fun K hK => ?_ | refine R1.e_sq (by kernel_rfl) fun K hK => ?_ | refine R1.s_sq (by kernel_rfl) fun K hK => ?_); simp only [SG_nil, SG_cons, SU_yes, gw_n, gOf_n, gOf_some, List.map_cons, List.map_nil, List.getElem?_cons_zero, List.getElem?_cons_succ, Option.elim_some, Nat.zero_lt_succ, SK_move, SK_assign, SK_len, evTmp, ev_int, slot_put, putD_nt, slotOk, Nat.blt_eq, Nat.reduceLT, true_and, if_true, if_false, eqLt, eqGt, ev_nilP, E2_P]; refine hK _ _ ?_; clear hK K)
    repeat refine R1.s_assoc ?_
    refine R1.s_rg fun K hK => ?_
    simp only [SG_nil, SG_cons, SU_yes, gw_n, gw_gwv, gwv_b, gOf_n, gOf_some, List.map_cons, List.map_nil, List.getElem?_cons_zero, List.getElem?_cons_succ, Option.elim_some, decide_false, vN_val, lnN_some, pkN_b, len_ns, Int.reduceLT, Nat.zero_lt_succ, SK_move, SK_pick, SK_bin, SK_len, evTmp, ev_int, ev_bool, slot_put, putD_nt, slotOk, Nat.blt_eq, Nat.reduceLT, true_and, if_true, if_false, Bool.false_eq_true, ltV_nil, eqLt, eqGt, ii_gtr, Nat.lt_add_one, E2_P, h0, h1, ln_lads, hl.len, hl.lt, c32, lnB]
    refine hK _ _ ?_
    clear hK K
    repeat refine R1.s_assoc ?_
    (first | refine R1.s_cnd fun Kx Ky hx hy => ?_ | refine R1.e_cnd fun Kx Ky hx hy => ?_); simp only [boolP'_b, evTmp, slot_put, Nat.reduceLT, if_true, if_false, Bool.false_eq_true, eqGt, Nat.lt_add_one]
    refine hy ?_
    clear hx hy Kx Ky
    refine R1.s_skip ?_
    repeat refine R1.s_assoc ?_
    refine R1.s_rg fun K hK => ?_
    simp only [SG_nil, SG_cons, SU_yes, gw_n, gOf_n, List.map_cons, List.map_nil, optP_some, SK_assign, SK_box, SK_build, evTmp, slot_put, putD_nt, slotOk, Nat.blt_eq, Nat.reduceLT, true_and, if_true, if_false, eqGt, cells_agg, noTup_agg, List.length_cons, List.length_nil, Nat.zero_add, Nat.reduceAdd, Nat.lt_add_one, fill_nil, partsF_nil, E2_P, zr_rbook, pt_rbook]
    refine hK _ _ ?_
    clear hK K
    refine R1.gen (fun A1 H1 => Gr H H1 ∧ RB H.nx H.nx [] H1 (.o .nilS) none ∧ slot A1.tm 0 = .one v ∧ slot A1.tm 1 = .one (.o .nilS) ∧ slot A1.tm 6 = .one (.o (.ptr H.nx 0 0 2)) ∧ A1.nt = 86 ∧ A1.dfr = [])
      ⟨(Fr.refl _).new _, ⟨get_newE rfl, ⟨[], .inl ⟨rfl, rfl, rfl, rfl⟩, trivial⟩, ⟨Nat.le_refl _, Nat.lt_succ_self _⟩, fun q h => (by cases h)⟩, ?_⟩ ?_
    · simp only [Nat.zero_lt_succ, slot_put, putD_nt, putD_dfr, Nat.reduceLT, and_true, if_true, if_false, eqLt, eqGt, Nat.lt_add_one, h0, h1]
    clear h0 h1 tm
    rintro A1 H1 ⟨g1, nb, t0, t1, t6, hnt, hdf⟩
    obtain ⟨kb, hkb⟩ : ∃ k, k = H.nx := ⟨_, rfl⟩
    rw [← hkb] at t6
    have nb : RB H.nx kb [] H1 (.o .nilS) none := by rw [hkb]; exact nb
    clear hkb
    have hnew : newE ls = newG [] ls := if_neg h32
    rw [hnew]
    generalize hr0 : newG [] ls = r0
    repeat' first | refine R1.ret ?_ | refine R1.exit ?_ | refine R1.skip ?_ | refine R1.s_ret ?_ | refine R1.s_exit ?_ | refine R1.s_assoc ?_ | refine R1.s_skip ?_ | refine R1.s_scope ?_ | ((first | refine R1.e_rg fun K hK => ?_ | refine R1.s_rg fun K hK => ?_ | refine R1.e_sq (by kernel_rfl) fun K hK => ?_ | refine R1.s_sq (by kernel_rfl) fun K hK => ?_); simp only [SG_nil, SG_cons, SU_yes, gw_n, gOf_n, List.map_cons, List.map_nil, SK_assign, ev_int, slotOk, Nat.blt_eq, Nat.reduceLT, true_and, hnt]; refine hK _ _ ?_; clear hK K)
    refine R1.s_block fun K k1 k2 k3 k4 => ?_
    refine R1.loop (fun k A2 H2 => ∃ (i : Nat) (lad : AC) (r1 : Option Nat), k = ls.length - i ∧ i ≤ ls.length ∧ RB H.nx kb (ls.take i) H2 lad r1 ∧ Gr H H2 ∧ newG (ls.take i) (ls.drop i) = r0 ∧
      slot A2.tm 0 = .one v ∧ slot A2.tm 1 = .one (.o .nilS) ∧ slot A2.tm 6 = .one (.o (.ptr kb 0 0 2)) ∧ slot A2.tm 7 = .one (.i .i64 (i : Int)) ∧ A2.nt = 86 ∧ A2.dfr = []) ?_ ls.length
      ⟨0, _, _, rfl, Nat.zero_le _, nb, g1, hr0, ?_⟩
    · clear t0 t1 t6 hnt hdf A1
      rintro k A H1 ⟨i, lad, r1, rfl, hi, nb, g1, hr, t0, t1, t6, t7, hnt, hdf⟩
      have hl1 := hl.gr g1
      repeat' first | refine R1.ret ?_ | refine R1.exit ?_ | refine R1.skip ?_ | refine R1.s_ret ?_ | refine R1.s_exit ?_ | refine R1.s_assoc ?_ | refine R1.s_skip ?_ | refine R1.s_scope ?_ | ((first | refine R1.e_rg fun K hK => ?_ | refine R1.s_rg fun K hK => ?_ | refine R1.e_sq (by kernel_rfl) fun K hK => ?_ | refine R1.s_sq (by kernel_rfl) fun K hK => ?_); simp only [SG_nil, SG_cons, SU_yes, gw_n, gOf_n, List.map_cons, List.map_nil, vN_val, lnN_some, Nat.zero_lt_succ, SK_move, SK_bin, SK_len, evTmp, slot_put, putD_nt, slotOk, Nat.blt_eq, Nat.reduceLT, true_and, if_true, if_false, eqLt, eqGt, ii_lss, Nat.lt_add_one, E2_P, t0, t7, hnt, ln_lads, hl1.len, hl1.lt]; refine hK _ _ ?_; clear hK K)
      repeat refine R1.s_assoc ?_
      (first | refine R1.s_cnd fun Kx Ky hx hy => ?_ | refine R1.e_cnd fun Kx Ky hx hy => ?_); simp only [boolP'_b, decide_eq_true_eq, evTmp, slot_put, Nat.reduceLT, if_true, if_false, eqGt, Nat.lt_add_one]
      refine iteI (fun hc => hx ?_) (fun hc => hy ?_)
      · clear hx hy Kx Ky
        have hlt : i < ls.length := by omega
        obtain ⟨id, g, off, cells, rfl, hid0, hg0, hat⟩ := hl.open (by omega)
        have hid : id < H1.nx := Nat.lt_of_lt_of_le hid0 g1.nx
        have hg : rowOf (H1.get id) g = some cells := by rw [g1.get _ hid0 not_false]; exact hg0
        have ex : ls[i]? = some ls[i] := List.getElem?_eq_getElem hlt
        have hdr : ls.drop i = ls[i] :: ls.drop (i + 1) := List.drop_eq_getElem_cons hlt
        have htk : ls.take (i + 1) = ls.take i ++ [ls[i]] := List.take_succ_eq_append_getElem hlt
        generalize ls[i] = x at ex hdr htk
        obtain ⟨u, hu0, hx0, hx1, hx2, hx3, hx4, hx5⟩ := hat i x ex
        have hu : SlP H1 u x.2 := hu0.gr g1
        have hti : (ls.take i).length = i := by rw [List.length_take]; omega
        have hi32 : ls.length ≤ 32 := by omega
        have hw2 : IntKind.i64.wrap ((i : Int) + 1) = ((i + 1 : Nat) : Int) := by rw [wrapI (by omega) (by omega)]; omega
        rw [hdr, newG] at hr
        repeat' first | refine R1.ret ?_ | refine R1.exit ?_ | refine R1.skip ?_ | refine R1.s_ret ?_ | refine R1.s_exit ?_ | refine R1.s_assoc ?_ | refine R1.s_skip ?_ | refine R1.s_scope ?_ | ((first | refine R1.e_rg fun K hK => ?_ | refine R1.s_rg fun K hK => ?_ | refine R1.e_sq (by kernel_rfl) fun K hK => ?_ | refine R1.s_sq (by kernel_rfl) fun K hK => ?_); simp only [SG_nil, SG_cons, SU_yes, SU_no, gw_n, gw_gwv, gwv_b, gwv_u, gOf_n, gOf_some, List.map_cons, List.map_nil, List.getElem?_cons_zero, List.getElem?_cons_succ, Option.elim_some, Option.map_some, Option.bind_some, optP_some, boolP_b, boolP'_b, boolE_b, decide_eq_true_eq, decide_true, decide_false, valP_val, valP_guard, vN_val, ldN_some, stN_some, faN_some, iaN_some, lnN_some, pkN_b, sliceO_some, slice_lo, slice_hi, slice_1, indexAddr_0, Nat.add_one_sub_one, Nat.one_mul, len_sl, len_ns, len_str', posS, eq0S, cast0, Int.reduceLT, Int.reduceLE, Int.reduceBEq, Option.map_none, Nat.lt_add_left_iff_pos, Nat.zero_lt_succ, Nat.le_add_left, SK_move, SK_assign, SK_pick, SK_alloc, SK_box, SK_load, SK_store, SK_bin, SK_not, SK_fieldAddr, SK_field, SK_indexAddr, SK_slice, SK_extract, SK_nilCheck, SK_makeFunc, SK_makeMap, SK_makeSlice, SK_build, SK_buildSlice, SK_len, SK_append, SK_call, doCall_clo, doCall_clo, evTmp, ev_int, ev_bool, ev_str, ev_nilS, ev_func, opFev, evs_cons, evs_nil, slot_put, putD_nt, putD_none, putD_dfr, slotOk, Nat.blt_eq, Nat.reduceLT, Nat.reduceEqDiff, Nat.reduceLeDiff, reduceIte, true_and, and_true, true_or, or_true, if_true, if_false, Bool.false_eq_true, Bool.true_eq_false, not_false_eq_true, not_true_eq_false, ltV_ptr, ltV_sl, ltV_nil, ltV_str, ltV_i, nxNew, nxMod, get_newE, get_newL, get_modE, get_modN, ltAdd, ltSelf, eqLt, eqGt, eqLtA, eqGtA, eqSelfA, eqASelf, eqAA, ltAA, doLoad_ptr, doStore_ptr, rowOf_arr, rowOf_ro, ldO_agg, ldO_one, stO_arr, splice_eq, fieldAddr_at, Bool.not_eq_true', Bool.not_eq_false', decide_eq_false_iff_not, ne_eq, Nat.reduceLeDiff, Nat.lt_irrefl, gt_iff_lt, cells_one, cells_agg, noTup_one, noTup_agg, List.length_cons, List.length_nil, Nat.zero_add, Nat.add_zero, Nat.reduceAdd, Nat.reduceSub, Nat.reduceMul, Nat.le_refl, Nat.zero_le, capsOf_nil, capsOf_cons, capArgs_nil, capArgs_cons, List.cons_append, List.nil_append, List.append_nil, ex_0, ex_0a, ex_1, ex_1a, ex_2, ex_2a, ii_lss, ii_leq, ii_gtr, ii_geq, ii_eql, ii_neq, ii_add, ii_sub, ii_mul, ss_lss, ss_geq, ss_leq, ss_gtr, ss_eql, ss_neq, List.take_succ_cons, List.take_zero, List.drop_succ_cons, List.drop_zero, List.take_nil, List.drop_nil, List.headD_cons, Bool.not_true, Bool.not_false, Nat.lt_add_one, bin_agg, bin_b, agg2_agg, bool2_b, aggEq_nil, aggEq_s, aggEq_i, aggEq_b, aggO_some, fill_nil, fill_cons, Nat.zero_mul, partsF_nil, partsF_cons, repl_one, SK_lookup, SK_mapUpdate, lkN_some, upN_some, ltV_mp, nilCheck_ptr, lookOut_f, lookOut_t, doCall_yl, ofValue_int, ofValue_bool, ev_nilP, ev_nilM, ev_nilF]; refine hK _ _ ?_; clear hK K)
        refine R1.s_block fun K2 q1 q2 q3 q4 => ?_
        repeat refine R1.s_assoc ?_
        refine R1.s_rg fun K hK => ?_
        simp only [SG_cons, SU_yes, gw_n, gOf_n, List.map_cons, List.map_nil, vN_val, ldN_some, iaN_some, Nat.zero_lt_succ, SK_move, SK_load, SK_indexAddr, SK_call, doCall_clo, doCall_clo, evTmp, ev_func, evs_cons, evs_nil, slot_put, putD_nt, slotOk, Nat.blt_eq, Nat.reduceLT, true_and, if_true, if_false, ltV_ptr, eqLt, eqGt, doLoad_ptr, ldO_agg, Nat.le_refl, capArgs_nil, List.append_nil, Nat.lt_add_one, E2_P, t0, t7, hnt, el_lads, ld_lad, indexAddr_cast hlt, hid, hg, hx0, hx1, bd_refCheck]
        refine WE.con (refCheck_con H1 x.1 u x.2 hu) fun w H4 g4 hv => ?_
        subst hv
        have nb4 := nb.ofGr g4
        have g4' := g1.gr g4
        have hid4 : id < H4.nx := Nat.lt_of_lt_of_le hid g4.nx
        have hg4 : rowOf (H4.get id) g = some cells := by rw [g4.get _ hid not_false]; exact hg
        simp only [SG_nil, SG_cons, SU_yes, gw_n, SK_assign, evTmp, slot_put, putD_nt, slotOk, Nat.blt_eq, Nat.reduceLT, true_and, if_true, if_false, eqGt, Nat.lt_add_one, hnt]
        refine hK _ _ ?_
        clear hK K
        repeat' first | refine R1.ret ?_ | refine R1.exit ?_ | refine R1.skip ?_ | refine R1.s_ret ?_ | refine R1.s_exit ?_ | refine R1.s_assoc ?_ | refine R1.s_skip ?_ | refine R1.s_scope ?_ | ((first | refine R1.e_rg fun K hK => ?_ | refine R1.s_rg fun K hK => ?_ | refine R1.e_sq (by kernel_rfl) fun K hK => ?_ | refine R1.s_sq (by kernel_rfl) fun K hK => ?_); simp only [SG_nil, SG_cons, SU_yes, gw_n, gOf_n, List.map_cons, List.map_nil, vN_val, SK_move, SK_bin, evTmp, ev_int, slot_put, putD_nt, slotOk, Nat.blt_eq, Nat.reduceLT, true_and, if_true, if_false, eqLt, eqGt, ii_neq, Nat.lt_add_one, E2_P, hnt]; refine hK _ _ ?_; clear hK K)
        repeat refine R1.s_assoc ?_
        (first | refine R1.s_cnd fun Kx Ky hx hy => ?_ | refine R1.e_cnd fun Kx Ky hx hy => ?_); simp only [boolP'_b, evTmp, slot_put, Nat.reduceLT, if_true, if_false, eqGt, Bool.not_eq_true', Nat.lt_add_one]
        refine iteI (fun hd => hx ?_) (fun hd => hy ?_)
        · clear hx hy Kx Ky
          have hne : chkLad x.1 x.2 ≠ 0 := by simpa using hd
          rw [if_pos hne] at hr
          subst hr
          repeat' first | refine R1.ret ?_ | refine R1.exit ?_ | refine R1.skip ?_ | refine R1.s_ret ?_ | refine R1.s_exit ?_ | refine R1.s_assoc ?_ | refine R1.s_skip ?_ | refine R1.s_scope ?_ | ((first | refine R1.e_rg fun K hK => ?_ | refine R1.s_rg fun K hK => ?_ | refine R1.e_sq (by kernel_rfl) fun K hK => ?_ | refine R1.s_sq (by kernel_rfl) fun K hK => ?_); simp only [SG_nil, SG_cons, SU_yes, gw_n, gOf_n, List.map_cons, List.map_nil, SK_move, SK_assign, evTmp, slot_put, putD_nt, slotOk, Nat.blt_eq, Nat.reduceLT, true_and, if_true, if_false, eqLt, eqGt, Nat.lt_add_one, ev_nilP, hnt]; refine hK _ _ ?_; clear hK K)
          refine q4 _ _ (k4 _ _ ⟨_, _, callEnd_two (.o .nilP) (.i .i64 (chkLad x.1 x.2)) (.inr rfl) (by simp only [putD_dfr, hdf]) (by simp only [slot_put, Nat.reduceEqDiff, reduceIte]) (by simp only [slot_put, Nat.reduceEqDiff, reduceIte]), g4', fun _ => ⟨_, rfl, fun h => absurd h hne, fun _ => rfl⟩⟩)
        · clear hx hy Kx Ky
          have hz : chkLad x.1 x.2 = 0 := by simpa using hd
          rw [if_neg (fun h => h hz)] at hr
          have hL12 := chkLad_len hz
          refine R1.s_skip ?_
          repeat refine R1.s_assoc ?_
          refine R1.s_rg fun K hK => ?_
          simp only [SG_cons, SU_yes, gw_n, gOf_n, List.map_cons, List.map_nil, vN_val, ldN_some, faN_some, iaN_some, Nat.zero_lt_succ, SK_move, SK_load, SK_fieldAddr, SK_indexAddr, SK_call, doCall_clo, doCall_clo, evTmp, ev_func, evs_cons, evs_nil, slot_put, putD_nt, slotOk, Nat.blt_eq, Nat.reduceLT, Nat.reduceLeDiff, true_and, if_true, if_false, ltV_ptr, eqLt, eqGt, doLoad_ptr, ldO_one, fieldAddr_at, Nat.reduceLeDiff, Nat.zero_add, Nat.add_zero, Nat.reduceSub, Nat.le_refl, capArgs_nil, List.append_nil, Nat.lt_add_one, E2_P, t0, t6, t7, hnt, el_lads, fd_lad_0, ld_str, indexAddr_cast hlt, hid4, hg4, hx2, hx4, bd_rAt]
          refine WE.con (rAt_con H4 _ (ls.take i) x.1 nb4.book (by omega)) fun w H5 g5 hw => ?_
          subst hw
          have nb5 := nb4.ofGr g5
          have g5' := g4'.gr g5
          have hid5 : id < H5.nx := Nat.lt_of_lt_of_le hid4 g5.nx
          have hg5 : rowOf (H5.get id) g = some cells := by rw [g5.get _ hid4 not_false]; exact hg4
          cases hfound : idxN 0 (ls.take i) x.1 with
          | some j =>
            have cge : (0 ≤ atN 0 (ls.take i) x.1) = True := eq_true (by rw [atN_idx, hfound, Option.elim_some]; omega)
            rw [if_pos (by rw [hfound]; rfl)] at hr
            subst hr
            simp only [SG_nil, SG_cons, SU_yes, gw_n, decide_true, vN_val, SK_bin, evTmp, ev_int, slot_put, putD_nt, slotOk, Nat.blt_eq, Nat.reduceLT, true_and, if_true, if_false, eqGt, ii_geq, Nat.lt_add_one, E2_P, hnt, cge]
            refine hK _ _ ?_
            clear hK K
            repeat refine R1.s_assoc ?_
            (first | refine R1.s_cnd fun Kx Ky hx hy => ?_ | refine R1.e_cnd fun Kx Ky hx hy => ?_); simp only [boolP'_b, evTmp, slot_put, Nat.reduceLT, if_true, if_false, eqGt, Nat.lt_add_one]
            refine hx ?_
            clear hx hy Kx Ky
            repeat' first | refine R1.ret ?_ | refine R1.exit ?_ | refine R1.skip ?_ | refine R1.s_ret ?_ | refine R1.s_exit ?_ | refine R1.s_assoc ?_ | refine R1.s_skip ?_ | refine R1.s_scope ?_ | ((first | refine R1.e_rg fun K hK => ?_ | refine R1.s_rg fun K hK => ?_ | refine R1.e_sq (by kernel_rfl) fun K hK => ?_ | refine R1.s_sq (by kernel_rfl) fun K hK => ?_); simp only [SG_nil, SG_cons, SU_yes, gw_n, gOf_n, List.map_cons, List.map_nil, SK_assign, ev_int, putD_nt, slotOk, Nat.blt_eq, Nat.reduceLT, true_and, ev_nilP, hnt]; refine hK _ _ ?_; clear hK K)
            refine q4 _ _ (k4 _ _ ⟨_, _, callEnd_two (.o .nilP) (.i .i64 2) (.inr rfl) (by simp only [putD_dfr, hdf]) (by simp only [slot_put, Nat.reduceEqDiff, reduceIte]) (by simp only [slot_put, Nat.reduceEqDiff, reduceIte]), g5', fun _ => ⟨_, rfl, fun h => (by cases h), fun _ => rfl⟩⟩)
          | none =>
            have cge : (0 ≤ atN 0 (ls.take i) x.1) = False := eq_false (by rw [atN_idx, hfound, Option.elim_none]; omega)
            rw [if_neg (by rw [hfound]; decide)] at hr
            simp only [SG_nil, SG_cons, SU_yes, gw_n, decide_false, vN_val, SK_bin, evTmp, ev_int, slot_put, putD_nt, slotOk, Nat.blt_eq, Nat.reduceLT, true_and, if_true, if_false, eqGt, ii_geq, Nat.lt_add_one, E2_P, hnt, cge]
            refine hK _ _ ?_
            clear hK K
            repeat refine R1.s_assoc ?_
            (first | refine R1.s_cnd fun Kx Ky hx hy => ?_ | refine R1.e_cnd fun Kx Ky hx hy => ?_); simp only [boolP'_b, evTmp, slot_put, Nat.reduceLT, if_true, if_false, Bool.false_eq_true, eqGt, Nat.lt_add_one]
            refine hy ?_
            clear hx hy Kx Ky
            refine R1.s_skip ?_
            have hkn : H.nx ≤ kb := nb5.kn.1
            have lkb := nb5.kn.2
            have rkb := nb5.kbg
            have hu5 : SlP H5 u x.2 := hu0.gr g5'
            repeat refine R1.s_assoc ?_
            (first | refine R1.s_sg (by kernel_rfl) fun K hK => ?_ | refine R1.e_sg (by kernel_rfl) fun K hK => ?_)
            simp only [SG_cons, SU_yes, gw_n, gOf_n, List.map_cons, List.map_nil, vN_val, ldN_some, faN_some, iaN_some, Nat.zero_lt_succ, SK_move, SK_load, SK_fieldAddr, SK_indexAddr, SK_nilCheck, SK_call, doCall_clo, doCall_clo, evTmp, ev_func, evs_cons, evs_nil, slot_put, putD_nt, slotOk, Nat.blt_eq, Nat.reduceLT, Nat.reduceLeDiff, true_and, if_true, if_false, ltV_ptr, eqLt, eqGt, doLoad_ptr, rowOf_arr, ldO_agg, ldO_one, fieldAddr_at, Nat.reduceLeDiff, List.length_cons, List.length_nil, Nat.zero_add, Nat.add_zero, Nat.reduceAdd, Nat.reduceSub, Nat.le_refl, capArgs_nil, List.append_nil, List.drop_zero, List.headD_cons, Nat.lt_add_one, nilCheck_ptr, E2_P, t0, t6, t7, hnt, rkb, lkb, fd_rbook_0, ld_lads, ld_lad, el_lads, indexAddr_cast hlt, hid5, hg5, hx0, hx1, bd_copyLad]
            refine WE.conG (copyLad_con H5 x.1 u x.2 hu5 (by omega)) fun w H6 g6 ⟨u', hv, hu', hid'⟩ => ?_
            subst hv
            have nb6 := nb5.ofGr g6
            obtain ⟨css, ho1, hal⟩ := nb6.o1
            obtain ⟨zl, hzl, hzll⟩ := zx_lad
            obtain ⟨hlt7, v7, H7, r7, happ, ho7, hf7, hr7⟩ := push_own el_lads by_lad hzl hzll (by decide) ho1 [.o (.str x.1), u'] rfl (by rw [hti]; omega)
            have rk7 : H7.get kb = some (.arr [lad, .o .nilS] 134 0 0) := by rw [hf7.get _ nb6.kn.2 (fun e => (nb6.n1 _ e).2.2 rfl)]; exact nb6.kbg
            have lk7 : kb < H7.nx := Nat.lt_of_lt_of_le nb6.kn.2 hf7.nx
            have hui : ∀ k ∈ (AV.one u').ids, k ≠ kb ∧ some k ≠ r1 := fun k h => by
              have h5 := hid' k h
              refine ⟨by omega, fun e => ?_⟩
              have := (nb5.n1 _ e.symm).2.1; omega
            have nb8 := nb6.addL hu' hui hal ho7 hf7 hr7
            have g8 : Gr H (H7.mod kb (.arr [v7, .o .nilS] 134 0 0)) := ((g5'.gr g6).then hf7 fun k hk => .inl (nb6.n1 _ hk).1).mod _ (.inl hkn)
            simp only [SG_nil, SG_cons, SU_yes, gw_n, Option.map_some, Option.bind_some, optP_some, vN_val, stN_some, faN_some, Nat.one_mul, SK_store, SK_fieldAddr, SK_nilCheck, SK_buildSlice, SK_append, evTmp, opFev, slot_put, putD_nt, putD_none, slotOk, Nat.blt_eq, Nat.reduceLT, Nat.reduceLeDiff, true_and, and_true, if_true, if_false, ltV_ptr, ltV_sl, nxNew, eqLt, eqGt, doStore_ptr, stO_arr, fieldAddr_at, Nat.reduceLeDiff, cells_one, cells_agg, noTup_one, noTup_agg, List.length_cons, List.length_nil, Nat.zero_add, Nat.add_zero, Nat.reduceAdd, Nat.reduceSub, Nat.le_refl, List.cons_append, List.nil_append, List.append_nil, List.take_zero, List.drop_succ_cons, List.drop_zero, List.drop_nil, Nat.lt_add_one, fill_nil, fill_cons, Nat.zero_mul, partsF_nil, partsF_cons, repl_one, nilCheck_ptr, E2_P, hnt, el_lads, zr_lad, repl_one, happ, rk7, lk7, fd_rbook_0, sz_lads]
            refine ⟨hlt7, ?_⟩
            refine hK _ _ ?_
            clear hK K
            refine q1 _ _ ?_
            repeat' first | refine R1.ret ?_ | refine R1.exit ?_ | refine R1.skip ?_ | refine R1.s_ret ?_ | refine R1.s_exit ?_ | refine R1.s_assoc ?_ | refine R1.s_skip ?_ | refine R1.s_scope ?_ | ((first | refine R1.e_rg fun K hK => ?_ | refine R1.s_rg fun K hK => ?_ | refine R1.e_sq (by kernel_rfl) fun K hK => ?_ | refine R1.s_sq (by kernel_rfl) fun K hK => ?_); simp only [SG_nil, SG_cons, SU_yes, gw_n, gOf_n, List.map_cons, List.map_nil, vN_val, SK_move, SK_assign, SK_bin, evTmp, ev_int, slot_put, putD_nt, slotOk, Nat.blt_eq, Nat.reduceLT, true_and, if_true, if_false, eqLt, eqGt, ii_add, Nat.lt_add_one, hnt, t7, hw2]; refine hK _ _ ?_; clear hK K)
            rw [← htk] at nb8 hr
            refine ⟨ls.length - (i + 1), by omega, i + 1, _, _, rfl, hlt, nb8, g8, hr, ?_, ?_, ?_, ?_, ?_, ?_⟩
            · simp only [slot_put, Nat.reduceEqDiff, reduceIte, t0]
            · simp only [slot_put, Nat.reduceEqDiff, reduceIte, t1]
            · simp only [slot_put, Nat.reduceEqDiff, reduceIte, t6]
            · simp only [slot_put, Nat.reduceEqDiff, reduceIte]
            · simp only [putD_nt, hnt]
            · simp only [putD_dfr, hdf]
      · clear hx hy Kx Ky
        have hie : i = ls.length := by omega
        rw [hie, List.drop_length, newG] at hr
        rw [hie, List.take_length] at nb
        repeat' first | refine R1.ret ?_ | refine R1.exit ?_ | refine R1.skip ?_ | refine R1.s_ret ?_ | refine R1.s_exit ?_ | refine R1.s_assoc ?_ | refine R1.s_skip ?_ | refine R1.s_scope ?_ | ((first | refine R1.e_rg fun K hK => ?_ | refine R1.s_rg fun K hK => ?_ | refine R1.e_sq (by kernel_rfl) fun K hK => ?_ | refine R1.s_sq (by kernel_rfl) fun K hK => ?_); simp only [SG_nil, SG_cons, SU_yes, SU_no, gw_n, gw_gwv, gwv_b, gwv_u, gOf_n, gOf_some, List.map_cons, List.map_nil, List.getElem?_cons_zero, List.getElem?_cons_succ, Option.elim_some, Option.map_some, Option.bind_some, optP_some, boolP_b, boolP'_b, boolE_b, decide_eq_true_eq, decide_true, decide_false, valP_val, valP_guard, vN_val, ldN_some, stN_some, faN_some, iaN_some, lnN_some, pkN_b, sliceO_some, slice_lo, slice_hi, slice_1, indexAddr_0, Nat.add_one_sub_one, Nat.one_mul, len_sl, len_ns, len_str', posS, eq0S, cast0, Int.reduceLT, Int.reduceLE, Int.reduceBEq, Option.map_none, Nat.lt_add_left_iff_pos, Nat.zero_lt_succ, Nat.le_add_left, SK_move, SK_assign, SK_pick, SK_alloc, SK_box, SK_load, SK_store, SK_bin, SK_not, SK_fieldAddr, SK_field, SK_indexAddr, SK_slice, SK_extract, SK_nilCheck, SK_makeFunc, SK_makeMap, SK_makeSlice, SK_build, SK_buildSlice, SK_len, SK_append, SK_call, doCall_clo, doCall_clo, evTmp, ev_int, ev_bool, ev_str, ev_nilS, ev_func, opFev, evs_cons, evs_nil, slot_put, putD_nt, putD_none, putD_dfr, slotOk, Nat.blt_eq, Nat.reduceLT, Nat.reduceEqDiff, Nat.reduceLeDiff, reduceIte, true_and, and_true, true_or, or_true, if_true, if_false, Bool.false_eq_true, Bool.true_eq_false, not_false_eq_true, not_true_eq_false, ltV_ptr, ltV_sl, ltV_nil, ltV_str, ltV_i, nxNew, nxMod, get_newE, get_newL, get_modE, get_modN, ltAdd, ltSelf, eqLt, eqGt, eqLtA, eqGtA, eqSelfA, eqASelf, eqAA, ltAA, doLoad_ptr, doStore_ptr, rowOf_arr, rowOf_ro, ldO_agg, ldO_one, stO_arr, splice_eq, fieldAddr_at, Bool.not_eq_true', Bool.not_eq_false', decide_eq_false_iff_not, ne_eq, Nat.reduceLeDiff, Nat.lt_irrefl, gt_iff_lt, cells_one, cells_agg, noTup_one, noTup_agg, List.length_cons, List.length_nil, Nat.zero_add, Nat.add_zero, Nat.reduceAdd, Nat.reduceSub, Nat.reduceMul, Nat.le_refl, Nat.zero_le, capsOf_nil, capsOf_cons, capArgs_nil, capArgs_cons, List.cons_append, List.nil_append, List.append_nil, ex_0, ex_0a, ex_1, ex_1a, ex_2, ex_2a, ii_lss, ii_leq, ii_gtr, ii_geq, ii_eql, ii_neq, ii_add, ii_sub, ii_mul, ss_lss, ss_geq, ss_leq, ss_gtr, ss_eql, ss_neq, List.take_succ_cons, List.take_zero, List.drop_succ_cons, List.drop_zero, List.take_nil, List.drop_nil, List.headD_cons, Bool.not_true, Bool.not_false, Nat.lt_add_one, bin_agg, bin_b, agg2_agg, bool2_b, aggEq_nil, aggEq_s, aggEq_i, aggEq_b, aggO_some, fill_nil, fill_cons, Nat.zero_mul, partsF_nil, partsF_cons, repl_one, SK_lookup, SK_mapUpdate, lkN_some, upN_some, ltV_mp, nilCheck_ptr, lookOut_f, lookOut_t, doCall_yl, ofValue_int, ofValue_bool, ev_nilP, ev_nilM, ev_nilF, hnt]; refine hK _ _ ?_; clear hK K)
        refine k2 _ _ ?_
        repeat' first | refine R1.ret ?_ | refine R1.exit ?_ | refine R1.skip ?_ | refine R1.s_ret ?_ | refine R1.s_exit ?_ | refine R1.s_assoc ?_ | refine R1.s_skip ?_ | refine R1.s_scope ?_ | ((first | refine R1.e_rg fun K hK => ?_ | refine R1.s_rg fun K hK => ?_ | refine R1.e_sq (by kernel_rfl) fun K hK => ?_ | refine R1.s_sq (by kernel_rfl) fun K hK => ?_); simp only [SG_nil, SG_cons, SU_yes, gw_n, gOf_n, List.map_cons, List.map_nil, SK_assign, ev_int, putD_nt, slotOk, Nat.blt_eq, Nat.reduceLT, true_and, hnt]; refine hK _ _ ?_; clear hK K)
        refine R1.s_block fun K2 q1 q2 q3 q4 => ?_
        refine R1.round ?_
        repeat' first | refine R1.ret ?_ | refine R1.exit ?_ | refine R1.skip ?_ | refine R1.s_ret ?_ | refine R1.s_exit ?_ | refine R1.s_assoc ?_ | refine R1.s_skip ?_ | refine R1.s_scope ?_ | ((first | refine R1.e_rg fun K hK => ?_ | refine R1.s_rg fun K hK => ?_ | refine R1.e_sq (by kernel_rfl) fun K hK => ?_ | refine R1.s_sq (by kernel_rfl) fun K hK => ?_); simp only [SG_nil, SG_cons, SU_yes, gw_n, gOf_n, List.map_cons, List.map_nil, decide_false, vN_val, lnN_some, len_ns, Int.reduceLT, SK_move, SK_bin, SK_len, evTmp, slot_put, putD_nt, slotOk, Nat.blt_eq, Nat.reduceLT, true_and, if_true, if_false, ltV_nil, eqLt, eqGt, ii_lss, Nat.lt_add_one, E2_P, hnt, t1, lnB]; refine hK _ _ ?_; clear hK K)
        repeat refine R1.s_assoc ?_
        (first | refine R1.s_cnd fun Kx Ky hx hy => ?_ | refine R1.e_cnd fun Kx Ky hx hy => ?_); simp only [boolP'_b, evTmp, slot_put, Nat.reduceLT, if_true, if_false, Bool.false_eq_true, eqGt, Nat.lt_add_one]
        refine hy ?_
        clear hx hy Kx Ky
        repeat' first | refine R1.ret ?_ | refine R1.exit ?_ | refine R1.skip ?_ | refine R1.s_ret ?_ | refine R1.s_exit ?_ | refine R1.s_assoc ?_ | refine R1.s_skip ?_ | refine R1.s_scope ?_ | ((first | refine R1.e_rg fun K hK => ?_ | refine R1.s_rg fun K hK => ?_ | refine R1.e_sq (by kernel_rfl) fun K hK => ?_ | refine R1.s_sq (by kernel_rfl) fun K hK => ?_); simp only [SG_nil, SG_cons, SU_yes, SU_no, gw_n, gw_gwv, gwv_b, gwv_u, gOf_n, gOf_some, List.map_cons, List.map_nil, List.getElem?_cons_zero, List.getElem?_cons_succ, Option.elim_some, Option.map_some, Option.bind_some, optP_some, boolP_b, boolP'_b, boolE_b, decide_eq_true_eq, decide_true, decide_false, valP_val, valP_guard, vN_val, ldN_some, stN_some, faN_some, iaN_some, lnN_some, pkN_b, sliceO_some, slice_lo, slice_hi, slice_1, indexAddr_0, Nat.add_one_sub_one, Nat.one_mul, len_sl, len_ns, len_str', posS, eq0S, cast0, Int.reduceLT, Int.reduceLE, Int.reduceBEq, Option.map_none, Nat.lt_add_left_iff_pos, Nat.zero_lt_succ, Nat.le_add_left, SK_move, SK_assign, SK_pick, SK_alloc, SK_box, SK_load, SK_store, SK_bin, SK_not, SK_fieldAddr, SK_field, SK_indexAddr, SK_slice, SK_extract, SK_nilCheck, SK_makeFunc, SK_makeMap, SK_makeSlice, SK_build, SK_buildSlice, SK_len, SK_append, SK_call, doCall_clo, doCall_clo, evTmp, ev_int, ev_bool, ev_str, ev_nilS, ev_func, opFev, evs_cons, evs_nil, slot_put, putD_nt, putD_none, putD_dfr, slotOk, Nat.blt_eq, Nat.reduceLT, Nat.reduceEqDiff, Nat.reduceLeDiff, reduceIte, true_and, and_true, true_or, or_true, if_true, if_false, Bool.false_eq_true, Bool.true_eq_false, not_false_eq_true, not_true_eq_false, ltV_ptr, ltV_sl, ltV_nil, ltV_str, ltV_i, nxNew, nxMod, get_newE, get_newL, get_modE, get_modN, ltAdd, ltSelf, eqLt, eqGt, eqLtA, eqGtA, eqSelfA, eqASelf, eqAA, ltAA, doLoad_ptr, doStore_ptr, rowOf_arr, rowOf_ro, ldO_agg, ldO_one, stO_arr, splice_eq, fieldAddr_at, Bool.not_eq_true', Bool.not_eq_false', decide_eq_false_iff_not, ne_eq, Nat.reduceLeDiff, Nat.lt_irrefl, gt_iff_lt, cells_one, cells_agg, noTup_one, noTup_agg, List.length_cons, List.length_nil, Nat.zero_add, Nat.add_zero, Nat.reduceAdd, Nat.reduceSub, Nat.reduceMul, Nat.le_refl, Nat.zero_le, capsOf_nil, capsOf_cons, capArgs_nil, capArgs_cons, List.cons_append, List.nil_append, List.append_nil, ex_0, ex_0a, ex_1, ex_1a, ex_2, ex_2a, ii_lss, ii_leq, ii_gtr, ii_geq, ii_eql, ii_neq, ii_add, ii_sub, ii_mul, ss_lss, ss_geq, ss_leq, ss_gtr, ss_eql, ss_neq, List.take_succ_cons, List.take_zero, List.drop_succ_cons, List.drop_zero, List.take_nil, List.drop_nil, List.headD_cons, Bool.not_true, Bool.not_false, Nat.lt_add_one, bin_agg, bin_b, agg2_agg, bool2_b, aggEq_nil, aggEq_s, aggEq_i, aggEq_b, aggO_some, fill_nil, fill_cons, Nat.zero_mul, partsF_nil, partsF_cons, repl_one, SK_lookup, SK_mapUpdate, lkN_some, upN_some, ltV_mp, nilCheck_ptr, lookOut_f, lookOut_t, doCall_yl, ofValue_int, ofValue_bool, ev_nilP, ev_nilM, ev_nilF, hnt]; refine hK _ _ ?_; clear hK K)
        refine q2 _ _ ?_
        repeat' first | refine R1.ret ?_ | refine R1.exit ?_ | refine R1.skip ?_ | refine R1.s_ret ?_ | refine R1.s_exit ?_ | refine R1.s_assoc ?_ | refine R1.s_skip ?_ | refine R1.s_scope ?_ | ((first | refine R1.e_rg fun K hK => ?_ | refine R1.s_rg fun K hK => ?_ | refine R1.e_sq (by kernel_rfl) fun K hK => ?_ | refine R1.s_sq (by kernel_rfl) fun K hK => ?_); simp only [SG_nil, SG_cons, SU_yes, gw_n, gOf_n, List.map_cons, List.map_nil, SK_move, SK_assign, evTmp, ev_int, slot_put, putD_nt, slotOk, Nat.blt_eq, Nat.reduceLT, true_and, if_true, if_false, eqLt, eqGt, Nat.lt_add_one, hnt, t6]; refine hK _ _ ?_; clear hK K)
        refine ⟨_, _, callEnd_two (.o (.ptr kb 0 0 2)) (.i .i64 0) (.inr rfl) (by simp only [putD_dfr, hdf]) (by simp only [slot_put, Nat.reduceEqDiff, reduceIte]) (by simp only [slot_put, Nat.reduceEqDiff, reduceIte]), g1, fun _ => ⟨_, by rw [← hr], fun _ => nb.book, fun h => absurd hr.symm h⟩⟩
    · simp only [slot_put, Nat.reduceEqDiff, reduceIte, putD_nt, putD_dfr, t0, t1, t6, hnt, hdf, and_self, true_and]
      exact ⟨rfl, trivial⟩

set_option maxRecDepth 10000 in
set_option maxHeartbeats 4000000 in
theorem rLadder_con (H : Hp) (p : AC) (ls : List Lad) (s : List UInt8) (hp : RBk H p ls) (hL : ∀ x ∈ ls, x.2.length ≤ 1000000) (hL2 : ls.length ≤ 1000000) : Con E2 39 [.one p, .one (.o (.str s))] H (fun _ => False) fun r H' =>
    ∃ c, r = .tup [(true, c), (false, [.i .i64 (ladE (some ls) s)])] ∧ LadA H' c (some ls) s ∧ c.length = 2 := by
  refine Con.of rfl fun lg => ?_
  have hp : RBk ⟨H.t, H.nx, lg⟩ p ls := hp
  generalize (⟨H.t, H.nx, lg⟩ : Hp) = H at hp ⊢
  refine C1.body (E := E2) (nt := 21) (res := [.cell 4 78, .tmp 5]) Tryz.func39 rfl rfl rfl rfl rfl fun tm hargs => ?_
  have h0 := hargs 0 _ rfl
  have h1 := hargs 1 _ rfl
  clear hargs
  repeat refine R1.s_assoc ?_
  refine R1.s_rg fun K hK => ?_
  simp only [SG_nil, SG_cons, SU_yes, gw_n, gOf_n, List.map_cons, List.map_nil, optP_some, SK_assign, SK_alloc, ev_int, putD_nt, slotOk, Nat.blt_eq, Nat.reduceLT, true_and, List.length_cons, List.length_nil, Nat.zero_add, Nat.reduceAdd, E2_P, zr_lad]
  refine hK _ _ ?_
  clear hK K
  refine R1.gen (fun A1 H1 => Gr H H1 ∧ H.nx < H1.nx ∧ H1.get H.nx = some (.arr [.o (.str []), .o .nilS] 78 0 0) ∧ slot A1.tm 0 = .one p ∧ slot A1.tm 1 = .one (.o (.str s)) ∧ slot A1.tm 4 = .one (.o (.ptr H.nx 0 0 2)) ∧ A1.nt = 21 ∧ A1.dfr = [])
    ⟨(Fr.refl _).new _, ?_⟩ ?_
  · simp only [Nat.zero_lt_succ, slot_put, putD_nt, putD_dfr, Nat.reduceLT, and_true, if_true, if_false, nxNew, get_newE, eqLt, Nat.lt_add_one, h0, h1]
  rintro A1 H1 ⟨g1, n1, r4, t0, t1, t4, hnt, hdf⟩
  clear h0 h1 tm
  have hp1 := hp.gr g1
  have fin : ∀ (A : AAct) (H3 : Hp) (c : List AC) (e : Int), slot A.tm 4 = .one (.o (.ptr H.nx 0 0 2)) → slot A.tm 5 = .one (.i .i64 e) → A.dfr = [] → Gr H H3 → H3.get H.nx = some (.arr c 78 0 0) → c.length = 2 → e = ladE (some ls) s → LadA H3 c (some ls) s →
      ∃ w H4, callEnd E2 [.cell 4 78, .tmp 5] (.ret, A, H3) = .ok [(w, H4)] ∧ Gr H H4 ∧ ∀ lg' : List Nat, ∃ c, w = .tup [(true, c), (false, [.i .i64 (ladE (some ls) s)])] ∧ LadA ⟨H4.t, H4.nx, lg'⟩ c (some ls) s ∧ c.length = 2 := fun A H3 c e h4 h5 hd hg hr hc he ha =>
    ⟨_, H3, callEnd_cells_one (id := H.nx) (g := 0) ld_lad (.inr rfl) (by rw [hd]; rfl) h4 (by rw [hr]; exact rowOf_arr (Nat.le_refl _) (Nat.le_refl _)) (Nat.le_refl _) hc h5, hg, fun _ => ⟨c, by rw [he], ha, hc⟩⟩
  repeat refine R1.s_assoc ?_
  refine R1.s_rg fun K hK => ?_
  simp only [SG_cons, SU_yes, gw_n, gOf_n, List.map_cons, List.map_nil, SK_move, SK_call, doCall_clo, doCall_clo, evTmp, ev_func, evs_cons, evs_nil, slot_put, putD_nt, slotOk, Nat.blt_eq, Nat.reduceLT, true_and, if_true, if_false, eqLt, eqGt, capArgs_nil, List.append_nil, Nat.lt_add_one, E2_P, t0, t1, hnt, bd_rAt]
  refine WE.con (rAt_con H1 p ls s hp1 hL2) fun v H3 g3 hv => ?_
  subst hv
  simp only [SG_nil, SG_cons, SU_yes, gw_n, SK_assign, evTmp, slot_put, putD_nt, slotOk, Nat.blt_eq, Nat.reduceLT, true_and, if_true, if_false, eqGt, Nat.lt_add_one, hnt]
  refine hK _ _ ?_
  clear hK K
  have hp3 := hp1.gr g3
  have r4 : H3.get H.nx = some (.arr [.o (.str []), .o .nilS] 78 0 0) := by rw [g3.get _ n1 not_false]; exact r4
  have n3 : H.nx < H3.nx := Nat.lt_of_lt_of_le n1 g3.nx
  have g3' := g1.gr g3
  cases hfi : idxN 0 ls s with
  | none =>
    have hle : ladE (some ls) s = 4 := by rw [ladE_some, hfi]; rfl
    have hat : atN 0 ls s = -1 := by rw [atN_idx, hfi]; rfl
    rw [hat]
    repeat' first | refine R1.ret ?_ | refine R1.exit ?_ | refine R1.skip ?_ | refine R1.s_ret ?_ | refine R1.s_exit ?_ | refine R1.s_assoc ?_ | refine R1.s_skip ?_ | refine R1.s_scope ?_ | ((first | refine R1.e_rg fun K hK => ?_ | refine R1.s_rg fun K hK => ?_ | refine R1.e_sq (by kernel_rfl) fun K hK => ?_ | refine R1.s_sq (by kernel_rfl) fun K hK => ?_); simp only [SG_nil, SG_cons, SU_yes, gw_n, gOf_n, List.map_cons, List.map_nil, decide_true, vN_val, Int.reduceLT, SK_move, SK_bin, evTmp, ev_int, slot_put, putD_nt, slotOk, Nat.blt_eq, Nat.reduceLT, true_and, if_true, if_false, eqLt, eqGt, ii_lss, Nat.lt_add_one, E2_P, hnt]; refine hK _ _ ?_; clear hK K)
    repeat refine R1.s_assoc ?_
    (first | refine R1.s_cnd fun Kx Ky hx hy => ?_ | refine R1.e_cnd fun Kx Ky hx hy => ?_); simp only [boolP'_b, evTmp, slot_put, Nat.reduceLT, if_true, if_false, eqGt, Nat.lt_add_one]
    refine hx ?_
    clear hx hy Kx Ky
    repeat' first | refine R1.ret ?_ | refine R1.exit ?_ | refine R1.skip ?_ | refine R1.s_ret ?_ | refine R1.s_exit ?_ | refine R1.s_assoc ?_ | refine R1.s_skip ?_ | refine R1.s_scope ?_ | ((first | refine R1.e_rg fun K hK => ?_ | refine R1.s_rg fun K hK => ?_ | refine R1.e_sq (by kernel_rfl) fun K hK => ?_ | refine R1.s_sq (by kernel_rfl) fun K hK => ?_); simp only [SG_nil, SG_cons, SU_yes, gw_n, gOf_n, List.map_cons, List.map_nil, optP_some, vN_val, stN_some, SK_assign, SK_store, SK_build, evTmp, ev_int, slot_put, putD_nt, putD_none, slotOk, Nat.blt_eq, Nat.reduceLT, true_and, if_true, if_false, ltV_ptr, eqLt, eqGt, doStore_ptr, stO_arr, cells_agg, noTup_agg, List.length_cons, List.length_nil, Nat.zero_add, Nat.reduceAdd, Nat.le_refl, List.nil_append, List.append_nil, List.take_zero, List.drop_succ_cons, List.drop_nil, Nat.lt_add_one, fill_nil, partsF_nil, E2_P, hnt, zr_lad, pt_lad, t4, sz_lad, r4, n3]; refine hK _ _ ?_; clear hK K)
    exact fin _ _ _ 4 (by simp only [slot_put, Nat.reduceEqDiff, reduceIte, t4]) (by simp only [slot_put, Nat.reduceEqDiff, reduceIte]) (by simp only [putD_dfr, hdf]) (g3'.mod _ (.inl (Nat.le_refl _))) (get_modE rfl) rfl hle.symm ⟨fun _ => rfl, fun ls' i x h h2 => by cases h; rw [hfi] at h2; cases h2⟩
  | some i =>
    have hle : ladE (some ls) s = 0 := by rw [ladE_some, hfi]; rfl
    have hat : atN 0 ls s = (i : Int) := by rw [atN_idx, hfi]; rfl
    obtain ⟨x, hx, hxs⟩ := idx_at hfi
    rw [hat]
    have ci : ((i : Int) < 0) = False := eq_false (by omega)
    repeat' first | refine R1.ret ?_ | refine R1.exit ?_ | refine R1.skip ?_ | refine R1.s_ret ?_ | refine R1.s_exit ?_ | refine R1.s_assoc ?_ | refine R1.s_skip ?_ | refine R1.s_scope ?_ | ((first | refine R1.e_rg fun K hK => ?_ | refine R1.s_rg fun K hK => ?_ | refine R1.e_sq (by kernel_rfl) fun K hK => ?_ | refine R1.s_sq (by kernel_rfl) fun K hK => ?_); simp only [SG_nil, SG_cons, SU_yes, gw_n, gOf_n, List.map_cons, List.map_nil, decide_false, vN_val, SK_move, SK_bin, evTmp, ev_int, slot_put, putD_nt, slotOk, Nat.blt_eq, Nat.reduceLT, true_and, if_true, if_false, eqLt, eqGt, ii_lss, Nat.lt_add_one, E2_P, hnt, ci]; refine hK _ _ ?_; clear hK K)
    repeat refine R1.s_assoc ?_
    (first | refine R1.s_cnd fun Kx Ky hx hy => ?_ | refine R1.e_cnd fun Kx Ky hx hy => ?_); simp only [boolP'_b, evTmp, slot_put, Nat.reduceLT, if_true, if_false, Bool.false_eq_true, eqGt, Nat.lt_add_one]
    refine hy ?_
    clear hx hy Kx Ky
    rename_i hx
    refine R1.s_skip ?_
    obtain ⟨kb, lad, rfl, k1, k3, k5⟩ := hp3
    have hlt : i < ls.length := (List.getElem?_eq_some_iff.1 hx).1
    obtain ⟨id, g, off, cells, rfl, hid, hg, hat'⟩ := k5.open (by omega)
    obtain ⟨u, hu, hx0, hx1, _⟩ := hat' i x hx
    repeat refine R1.s_assoc ?_
    refine R1.s_rg fun K hK => ?_
    simp only [SG_cons, SU_yes, gw_n, gOf_n, List.map_cons, List.map_nil, vN_val, ldN_some, faN_some, iaN_some, Nat.zero_lt_succ, SK_move, SK_load, SK_fieldAddr, SK_indexAddr, SK_nilCheck, SK_call, doCall_clo, doCall_clo, evTmp, ev_func, evs_cons, evs_nil, slot_put, putD_nt, slotOk, Nat.blt_eq, Nat.reduceLT, Nat.reduceLeDiff, true_and, if_true, if_false, ltV_ptr, eqLt, eqGt, doLoad_ptr, rowOf_arr, ldO_agg, ldO_one, fieldAddr_at, Nat.reduceLeDiff, List.length_cons, List.length_nil, Nat.zero_add, Nat.add_zero, Nat.reduceAdd, Nat.reduceSub, Nat.le_refl, capArgs_nil, List.append_nil, List.drop_zero, List.headD_cons, Nat.lt_add_one, nilCheck_ptr, E2_P, t0, hnt, k1, k3, fd_rbook_0, ld_lads, el_lads, ld_lad, indexAddr_cast hlt, hid, hg, hx0, hx1, bd_copyLad]
    refine WE.con (copyLad_con H3 x.1 u x.2 hu (hL x (List.mem_of_getElem? hx))) fun w H6 g6 ⟨u', hv, hu', hid'⟩ => ?_
    subst hv
    have r4 : H6.get H.nx = some (.arr [.o (.str []), .o .nilS] 78 0 0) := by rw [g6.get _ n3 not_false]; exact r4
    have n6 : H.nx < H6.nx := Nat.lt_of_lt_of_le n3 g6.nx
    have hu6 : SlP (H6.mod H.nx (.arr [.o (.str x.1), u'] 78 0 0)) u' x.2 := SlC.fr hu' mod_fr fun k h e => by have := hid' k h; omega
    simp only [SG_nil, SG_cons, SU_yes, gw_n, vN_val, stN_some, SK_assign, SK_store, evTmp, ev_int, slot_put, putD_nt, putD_none, slotOk, Nat.blt_eq, Nat.reduceLT, true_and, if_true, if_false, ltV_ptr, eqLt, eqGt, doStore_ptr, stO_arr, cells_agg, noTup_agg, List.length_cons, List.length_nil, Nat.zero_add, Nat.reduceAdd, Nat.le_refl, List.nil_append, List.append_nil, List.take_zero, List.drop_succ_cons, List.drop_nil, Nat.lt_add_one, E2_P, hnt, t4, sz_lad, r4, n6]
    refine hK _ _ ?_
    clear hK K
    repeat' first | refine R1.ret ?_ | refine R1.exit ?_ | refine R1.skip ?_ | refine R1.s_ret ?_ | refine R1.s_exit ?_ | refine R1.s_assoc ?_ | refine R1.s_skip ?_ | refine R1.s_scope ?_ | ((first | refine R1.e_rg fun K hK => ?_ | refine R1.s_rg fun K hK => ?_ | refine R1.e_sq (by kernel_rfl) fun K hK => ?_ | refine R1.s_sq (by kernel_rfl) fun K hK => ?_); simp only [SG_nil, SG_cons, SU_yes, SU_no, gw_n, gw_gwv, gwv_b, gwv_u, gOf_n, gOf_some, List.map_cons, List.map_nil, List.getElem?_cons_zero, List.getElem?_cons_succ, Option.elim_some, Option.map_some, Option.bind_some, optP_some, boolP_b, boolP'_b, boolE_b, decide_eq_true_eq, decide_true, decide_false, valP_val, valP_guard, vN_val, ldN_some, stN_some, faN_some, iaN_some, lnN_some, pkN_b, sliceO_some, slice_lo, slice_hi, slice_1, indexAddr_0, Nat.add_one_sub_one, Nat.one_mul, len_sl, len_ns, len_str', posS, eq0S, cast0, Int.reduceLT, Int.reduceLE, Int.reduceBEq, Option.map_none, Nat.lt_add_left_iff_pos, Nat.zero_lt_succ, Nat.le_add_left, SK_move, SK_assign, SK_pick, SK_alloc, SK_box, SK_load, SK_store, SK_bin, SK_not, SK_fieldAddr, SK_field, SK_indexAddr, SK_slice, SK_extract, SK_nilCheck, SK_makeFunc, SK_makeMap, SK_makeSlice, SK_build, SK_buildSlice, SK_len, SK_append, SK_call, doCall_clo, doCall_clo, evTmp, ev_int, ev_bool, ev_str, ev_nilS, ev_func, opFev, evs_cons, evs_nil, slot_put, putD_nt, putD_none, putD_dfr, slotOk, Nat.blt_eq, Nat.reduceLT, Nat.reduceEqDiff, Nat.reduceLeDiff, reduceIte, true_and, and_true, true_or, or_true, if_true, if_false, Bool.false_eq_true, Bool.true_eq_false, not_false_eq_true, not_true_eq_false, ltV_ptr, ltV_sl, ltV_nil, ltV_str, ltV_i, nxNew, nxMod, get_newE, get_newL, get_modE, get_modN, ltAdd, ltSelf, eqLt, eqGt, eqLtA, eqGtA, eqSelfA, eqASelf, eqAA, ltAA, doLoad_ptr, doStore_ptr, rowOf_arr, rowOf_ro, ldO_agg, ldO_one, stO_arr, splice_eq, fieldAddr_at, Bool.not_eq_true', Bool.not_eq_false', decide_eq_false_iff_not, ne_eq, Nat.reduceLeDiff, Nat.lt_irrefl, gt_iff_lt, cells_one, cells_agg, noTup_one, noTup_agg, List.length_cons, List.length_nil, Nat.zero_add, Nat.add_zero, Nat.reduceAdd, Nat.reduceSub, Nat.reduceMul, Nat.le_refl, Nat.zero_le, capsOf_nil, capsOf_cons, capArgs_nil, capArgs_cons, List.cons_append, List.nil_append, List.append_nil, ex_0, ex_0a, ex_1, ex_1a, ex_2, ex_2a, ii_lss, ii_leq, ii_gtr, ii_geq, ii_eql, ii_neq, ii_add, ii_sub, ii_mul, ss_lss, ss_geq, ss_leq, ss_gtr, ss_eql, ss_neq, List.take_succ_cons, List.take_zero, List.drop_succ_cons, List.drop_zero, List.take_nil, List.drop_nil, List.headD_cons, Bool.not_true, Bool.not_false, Nat.lt_add_one, bin_agg, bin_b, agg2_agg, bool2_b, aggEq_nil, aggEq_s, aggEq_i, aggEq_b, aggO_some, fill_nil, fill_cons, Nat.zero_mul, partsF_nil, partsF_cons, repl_one, SK_lookup, SK_mapUpdate, lkN_some, upN_some, ltV_mp, nilCheck_ptr, lookOut_f, lookOut_t, doCall_yl, ofValue_int, ofValue_bool, ev_nilP, ev_nilM, ev_nilF]; refine hK _ _ ?_; clear hK K)
    exact fin _ _ _ 0 (by simp only [slot_put, Nat.reduceEqDiff, reduceIte, t4]) (by simp only [slot_put, Nat.reduceEqDiff, reduceIte]) (by simp only [putD_dfr, hdf]) ((g3'.gr g6).mod _ (.inl (Nat.le_refl _))) (get_modE rfl) rfl hle.symm ⟨fun h => absurd hle h, fun ls' j y h h2 h3 => by
      cases h
      rw [hfi] at h2
      cases h2
      rw [hx] at h3
      cases h3
      exact ⟨u', rfl, hu6⟩⟩
end Go.Proofs.YtiejeicaaojdlaaGreat
