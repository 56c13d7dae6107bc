/- Goods: how they lie in memory; goodAt. -/
import Derived.Test.YtiejeicaaojdlaaGreatBkLad
import Derived.Test.YtiejeicaaojdlaaGreatBkFacts2
namespace Go.Proofs.YtiejeicaaojdlaaGreat
open Go Go.Eng

theorem bd_goodAt : hasBody Tryz.prog 33 = true := by kernel_rfl
theorem bd_goodAt1 : hasBody Tryz.prog 72 = true := by kernel_rfl
theorem bd_idxGood : hasBody Tryz.prog 71 = true := by kernel_rfl

def strC (s : List UInt8) : List AC := [.o (.str s)]
theorem strC_len (s : List UInt8) : (strC s).length = 1 := rfl
/-- A slice of strings. -/
def SlS (H : Hp) (v : AC) (l : List (List UInt8)) : Prop := SlC H v 1 l.length (l.flatMap strC)
theorem SlS.gr {H H' : Hp} {v : AC} {l : List (List UInt8)} (h : SlS H v l) (hg : Gr H H') : SlS H' v l := SlC.gr h hg
theorem SlS.len {H : Hp} {v : AC} {l : List (List UInt8)} (h : SlS H v l) : doLen H 1 (.one v) = .val (.one (.i .i64 (l.length : Int))) H := SlC.len h
theorem SlS.lt {H : Hp} {v : AC} {l : List (List UInt8)} (h : SlS H v l) : ltV (.one v) H.nx := ltV_slc h
theorem SlS.open {H : Hp} {v : AC} {l : List (List UInt8)} (h : SlS H v l) (hn : 0 < l.length) : ∃ id g off cells, v = .o (.sl id g off l.length 1) ∧ id < H.nx ∧ rowOf (H.get id) g = some cells ∧ ∀ (i : Nat) (x : List UInt8), l[i]? = some x → (cells.drop (off + i * 1)).headD (.b false) = .o (.str x) ∧ off + i * 1 + 1 ≤ cells.length := by
  obtain ⟨id, g, off, h1, h2, hr⟩ := SlC.pos h hn
  have hr' := hr
  obtain ⟨cells, h3, h6, h7⟩ := hr
  refine ⟨id, g, off, cells, h1, h2, h3, fun i x hx => ?_⟩
  obtain ⟨cells', k3, k6, k7⟩ := Rd.at (c := strC) strC_len hr' hx
  rw [h3] at k3
  cases k3
  refine ⟨?_, k6⟩
  cases hd : cells.drop (off + i * 1) with
  | nil => have := congrArg List.length hd; simp at this; omega
  | cons a r =>
    rw [hd] at k7
    have := (List.cons.inj k7).1
    rw [this]; rfl

/-- A good: its name, its ladder, what it gathers. -/
abbrev Gd := List UInt8 × List UInt8 × List (List UInt8)
def GdR (H : Hp) (c : List AC) (x : Gd) : Prop := ∃ u, c = [.o (.str x.1), .o (.str x.2.1), u] ∧ SlS H u x.2.2
theorem GdR.gr {H H' : Hp} {c : List AC} {x : Gd} (h : GdR H c x) (hg : Gr H H') : GdR H' c x := let ⟨u, h1, h2⟩ := h; ⟨u, h1, h2.gr hg⟩
/-- A slice of goods. -/
def SlG (H : Hp) (v : AC) (gs : List Gd) : Prop := SlR GdR 3 H v gs
theorem SlG.gr {H H' : Hp} {v : AC} {ls : List Gd} (h : SlG H v ls) (hg : Gr H H') : SlG H' v ls := SlR.of_get h hg.nx (fun i hi => hg.get i hi not_false) fun _ _ h => h.gr hg
theorem SlG.len {H : Hp} {v : AC} {l : List Gd} (h : SlG H v l) : doLen H 1 (.one v) = .val (.one (.i .i64 (l.length : Int))) H := SlR.len h
theorem SlG.lt {H : Hp} {v : AC} {l : List Gd} (h : SlG H v l) : ltV (.one v) H.nx := SlR.lt h

/-- Where a good lies. -/
structure GdAt (H : Hp) (cells : List AC) (o : Nat) (x : Gd) (u : AC) : Prop where
  of : SlS H u x.2.2
  all : (cells.drop o).take 3 = [.o (.str x.1), .o (.str x.2.1), u]
  le : o + 3 ≤ cells.length
  le1 : o + 1 ≤ cells.length
  le2 : o + 1 + 1 ≤ cells.length
  le3 : o + 2 + 1 ≤ cells.length
  f1 : (cells.drop o).headD (.b false) = .o (.str x.1)
  f2 : (cells.drop (o + 1)).headD (.b false) = .o (.str x.2.1)
  f3 : (cells.drop (o + 2)).headD (.b false) = u
theorem drop3 {cells : List AC} {o : Nat} {a b c : AC} (h : (cells.drop o).take 3 = [a, b, c]) : (cells.drop o).headD (.b false) = a ∧ (cells.drop (o + 1)).headD (.b false) = b ∧ (cells.drop (o + 2)).headD (.b false) = c := by
  rw [← List.drop_drop, ← List.drop_drop]
  cases hd : cells.drop o with
  | nil => rw [hd] at h; cases h
  | cons x r =>
    rw [hd] at h
    cases r with
    | nil => cases h
    | cons y r =>
      cases r with
      | nil => cases h
      | cons z r => cases h; exact ⟨rfl, rfl, rfl⟩
theorem SlG.open {H : Hp} {v : AC} {l : List Gd} (h : SlG H v l) (hn : 0 < l.length) : ∃ id g off cells, v = .o (.sl id g off l.length 3) ∧ id < H.nx ∧ rowOf (H.get id) g = some cells ∧
    ∀ (i : Nat) (x : Gd), l[i]? = some x → ∃ u, GdAt H cells (off + i * 3) x u := by
  obtain ⟨id, g, off, cells, e1, hid, hg, hat⟩ := SlR.open h hn
  refine ⟨id, g, off, cells, e1, hid, hg, fun i x hx => ?_⟩
  obtain ⟨hle, c, hc, hcl, u, rfl, hu⟩ := hat i x hx
  obtain ⟨a, b, c⟩ := drop3 hc
  exact ⟨u, hu, hc, hle, by omega, by omega, by omega, a, b, c⟩

theorem alTake {α β : Type} {R : β → α → Prop} : ∀ {cs : List β} {xs : List α} (n : Nat), Al R cs xs → Al R (cs.take n) (xs.take n)
  | _, _, 0, _ => trivial
  | [], [], _ + 1, _ => trivial
  | _ :: _, _ :: _, n + 1, h => ⟨h.1, alTake n h.2⟩
  | [], _ :: _, _ + 1, h => h.elim
  | _ :: _, [], _ + 1, h => h.elim
theorem flatM_take {sz : Nat} : ∀ {css : List (List AC)} (n : Nat), (∀ c ∈ css, c.length = sz) → (css.take n).flatMap id = (css.flatMap id).take (n * sz)
  | [], n, _ => by simp
  | c :: css, 0, _ => by simp
  | c :: css, n + 1, h => by
    have hc : c.length = sz := h c (List.mem_cons_self ..)
    rw [List.take_succ_cons, List.flatMap_cons, List.flatMap_cons, flatM_take n fun x hx => h x (List.mem_cons_of_mem _ hx), Nat.succ_mul]
    show c ++ _ = (c ++ css.flatMap id).take (n * sz + sz)
    have : n * sz + sz - sz = n * sz := by omega
    rw [List.take_append, hc, this, List.take_of_length_le (l := c) (by omega)]
/-- The first of a slice's values. -/
theorem SlR.take {α : Type} {R : Hp → List AC → α → Prop} {sz : Nat} {H : Hp} {id g off : Nat} {l : List α} (h : SlR R sz H (.o (.sl id g off l.length sz)) l) {n : Nat} (hn : n ≤ l.length) : SlR R sz H (.o (.sl id g off n sz)) (l.take n) := by
  obtain ⟨css, h1, h2⟩ := h
  have hl : (l.take n).length = n := by rw [List.length_take]; omega
  have hcl : css.length = l.length := h2.len
  have hcn : (css.take n).length = n := by rw [List.length_take]; omega
  refine ⟨css.take n, ⟨?_, ?_⟩, alTake n h2⟩
  · rw [flatM_len fun c hc => h2.lens c (List.mem_of_mem_take hc), hcn, hl]
  · rcases h1.2 with ⟨e, h0⟩ | ⟨id', g', off', e, hid, hr⟩
    · cases e
    · cases e
      right
      refine ⟨id, g, off, by rw [hl], hid, ?_⟩
      rw [hl, flatM_take n h2.lens]
      have := hr.part 0 (n * sz) (by have := Nat.mul_le_mul_right sz hn; omega)
      rwa [List.drop_zero, Nat.add_zero] at this

/-- The index of the first good with a name. -/
def idxG : Nat → List Gd → List UInt8 → Int
  | _, [], _ => -1
  | n, x :: l, s => if x.1 = s then (n : Int) else idxG (n + 1) l s

set_option maxRecDepth 10000 in
theorem goodAt1_con (H : Hp) (bn : Nat) (s : List UInt8) (c : AC) (d : AC) (e : List UInt8) (hb : bn < H.nx) (hg : H.get bn = some (.arr [.o (.str s)] 9 0 0)) :
    Con E2 72 [.agg [.o (.str e), c, d], .one (.o (.ptr bn 0 0 1))] H (fun _ => False) fun r _ => r = .one (.b (e == s)) := by
  refine Con.of rfl fun lg => ?_
  have hb : bn < (⟨H.t, H.nx, lg⟩ : Hp).nx := hb
  have hg : (⟨H.t, H.nx, lg⟩ : Hp).get bn = some (.arr [.o (.str s)] 9 0 0) := hg
  generalize (⟨H.t, H.nx, lg⟩ : Hp) = H at hb hg ⊢
  refine C1.body (E := E2) (nt := 8) (res := [.tmp 3]) Tryz.func72 rfl rfl rfl rfl rfl fun tm hargs => ?_
  have h0 := hargs 0 _ rfl
  have h1 := hargs 1 _ rfl
  clear hargs
  repeat' first | refine R1.ret ?_ | refine R1.exit ?_ | refine R1.skip ?_ | refine R1.s_ret ?_ | refine R1.s_exit ?_ | refine R1.s_assoc ?_ | refine R1.s_skip ?_ | refine R1.s_scope ?_ | ((first | refine R1.e_rg fun K hK => ?_ | refine R1.s_rg fun K hK => ?_ | refine R1.e_sq (by kernel_rfl) fun K hK => ?_ | refine R1.s_sq (by kernel_rfl) fun K hK => ?_); simp only [SG_nil, SG_cons, SU_yes, gw_n, gOf_n, List.map_cons, List.map_nil, vN_val, ldN_some, faN_some, SK_assign, SK_box, SK_load, SK_bin, SK_fieldAddr, evTmp, ev_bool, slot_put, putD_nt, slotOk, Nat.blt_eq, Nat.reduceLT, Nat.reduceLeDiff, true_and, if_true, if_false, ltV_ptr, nxNew, get_newE, eqLt, eqGt, doLoad_ptr, rowOf_arr, ldO_one, fieldAddr_at, Nat.reduceLeDiff, cells_agg, noTup_agg, List.length_cons, List.length_nil, Nat.zero_add, Nat.add_zero, Nat.reduceAdd, Nat.reduceSub, Nat.le_refl, ss_eql, List.drop_zero, List.headD_cons, Nat.lt_add_one, E2_P, h0, h1, fd_good_0, ld_str, hg, Nat.lt_succ_of_lt hb, get_newL hb]; refine hK _ _ ?_; clear hK K)
  exact ⟨_, _, callEnd_one (.b (e == s)) (.inr rfl) rfl (by simp only [slot_put, Nat.reduceEqDiff, reduceIte, lEq_eq]), (Fr.refl _).new _, fun _ => rfl⟩

set_option maxRecDepth 10000 in
set_option maxHeartbeats 4000000 in
theorem idxGood_con (H : Hp) (v : AC) (gs : List Gd) (bn : Nat) (s : List UInt8) (hv : SlG H v gs) (hb : bn < H.nx) (hg : H.get bn = some (.arr [.o (.str s)] 9 0 0)) (hL : gs.length ≤ 1000000) :
    Con E2 71 [.one v, .one (.o (.clo 72 [(bn, 0, 0, 1)]))] H (fun _ => False) fun r _ => r = .one (.i .i64 (idxG 0 gs s)) := by
  refine Con.of rfl fun lg => ?_
  have hb : bn < (⟨H.t, H.nx, lg⟩ : Hp).nx := hb
  have hg : (⟨H.t, H.nx, lg⟩ : Hp).get bn = some (.arr [.o (.str s)] 9 0 0) := hg
  have hv : SlG ⟨H.t, H.nx, lg⟩ v gs := hv
  generalize (⟨H.t, H.nx, lg⟩ : Hp) = H at hb hg hv ⊢
  refine C1.body (E := E2) (nt := 19) (res := [.tmp 4]) Tryz.func71 rfl rfl rfl rfl rfl fun tm hargs => ?_
  have h0 := hargs 0 _ rfl
  have h1 := hargs 1 _ rfl
  clear hargs
  generalize hr0 : idxG 0 gs s = r0
  repeat' first | refine R1.ret ?_ | refine R1.exit ?_ | refine R1.skip ?_ | refine R1.s_ret ?_ | refine R1.s_exit ?_ | refine R1.s_assoc ?_ | refine R1.s_skip ?_ | refine R1.s_scope ?_ | ((first | refine R1.e_rg fun K hK => ?_ | refine R1.s_rg fun K hK => ?_ | refine R1.e_sq (by kernel_rfl) fun K hK => ?_ | refine R1.s_sq (by kernel_rfl) fun K hK => ?_); simp only [SG_nil, SG_cons, SU_yes, gw_n, gOf_n, List.map_cons, List.map_nil, vN_val, lnN_some, Nat.zero_lt_succ, SK_move, SK_assign, SK_len, evTmp, ev_int, slot_put, putD_nt, slotOk, Nat.blt_eq, Nat.reduceLT, true_and, if_true, if_false, eqLt, eqGt, E2_P, h0, ln_goods, hv.len, hv.lt]; refine hK _ _ ?_; clear hK K)
  refine R1.s_block fun K k1 k2 k3 k4 => ?_
  refine R1.loop (fun k A H1 => ∃ i : Nat, k = gs.length - i ∧ i ≤ gs.length ∧ Gr H H1 ∧ idxG i (gs.drop i) s = r0 ∧ slot A.tm 0 = .one v ∧ slot A.tm 1 = .one (.o (.clo 72 [(bn, 0, 0, 1)])) ∧ slot A.tm 7 = .one (.i .i64 (gs.length : Int)) ∧ slot A.tm 8 = .one (.i .i64 (i : Int)) ∧ A.nt = 19 ∧ A.dfr = []) ?_ gs.length
    ⟨0, rfl, Nat.zero_le _, Fr.refl _, hr0, ?_⟩
  · clear h0 h1 tm
    rintro k A H1 ⟨i, rfl, hi, g1, hr, t0, t1, t7, t8, hnt, hdf⟩
    have hv1 := hv.gr g1
    have hg1 : H1.get bn = some (.arr [.o (.str s)] 9 0 0) := by rw [g1.get _ hb not_false]; exact hg
    have hb1 : bn < H1.nx := Nat.lt_of_lt_of_le hb g1.nx
    repeat' first | refine R1.ret ?_ | refine R1.exit ?_ | refine R1.skip ?_ | refine R1.s_ret ?_ | refine R1.s_exit ?_ | refine R1.s_assoc ?_ | refine R1.s_skip ?_ | refine R1.s_scope ?_ | ((first | refine R1.e_rg fun K hK => ?_ | refine R1.s_rg fun K hK => ?_ | refine R1.e_sq (by kernel_rfl) fun K hK => ?_ | refine R1.s_sq (by kernel_rfl) fun K hK => ?_); simp only [SG_nil, SG_cons, SU_yes, gw_n, gOf_n, List.map_cons, List.map_nil, vN_val, SK_bin, evTmp, slotOk, Nat.blt_eq, Nat.reduceLT, true_and, ii_lss, E2_P, t7, t8, hnt]; refine hK _ _ ?_; clear hK K)
    repeat refine R1.s_assoc ?_
    (first | refine R1.s_cnd fun Kx Ky hx hy => ?_ | refine R1.e_cnd fun Kx Ky hx hy => ?_); simp only [boolP'_b, decide_eq_true_eq, evTmp, slot_put, if_true]
    refine iteI (fun hc => hx ?_) (fun hc => hy ?_)
    · clear hx hy Kx Ky
      have hlt : i < gs.length := by omega
      obtain ⟨id, g, off, cells, rfl, hid, hgr, hat⟩ := hv1.open (by omega)
      have ex : gs[i]? = some gs[i] := List.getElem?_eq_getElem hlt
      have hdr : gs.drop i = gs[i] :: gs.drop (i + 1) := List.drop_eq_getElem_cons hlt
      generalize gs[i] = x at ex hdr
      obtain ⟨u, hx1⟩ := hat i x ex
      have hw2 : IntKind.i64.wrap ((i : Int) + 1) = ((i + 1 : Nat) : Int) := by rw [wrapI (by omega) (by omega)]; omega
      rw [hdr, idxG] at hr
      repeat' first | refine R1.ret ?_ | refine R1.exit ?_ | refine R1.skip ?_ | refine R1.s_ret ?_ | refine R1.s_exit ?_ | refine R1.s_assoc ?_ | refine R1.s_skip ?_ | refine R1.s_scope ?_ | ((first | refine R1.e_rg fun K hK => ?_ | refine R1.s_rg fun K hK => ?_ | refine R1.e_sq (by kernel_rfl) fun K hK => ?_ | refine R1.s_sq (by kernel_rfl) fun K hK => ?_); simp only [SG_nil, SG_cons, SU_yes, SU_no, gw_n, gw_gwv, gwv_b, gwv_u, gOf_n, gOf_some, List.map_cons, List.map_nil, List.getElem?_cons_zero, List.getElem?_cons_succ, Option.elim_some, Option.map_some, Option.bind_some, optP_some, boolP_b, boolP'_b, boolE_b, decide_eq_true_eq, decide_true, decide_false, valP_val, valP_guard, vN_val, ldN_some, stN_some, faN_some, iaN_some, lnN_some, pkN_b, sliceO_some, slice_lo, slice_hi, slice_1, indexAddr_0, Nat.add_one_sub_one, Nat.one_mul, len_sl, len_ns, len_str', posS, eq0S, cast0, Int.reduceLT, Int.reduceLE, Int.reduceBEq, Option.map_none, Nat.lt_add_left_iff_pos, Nat.zero_lt_succ, Nat.le_add_left, SK_move, SK_assign, SK_pick, SK_alloc, SK_box, SK_load, SK_store, SK_bin, SK_not, SK_fieldAddr, SK_field, SK_indexAddr, SK_slice, SK_extract, SK_nilCheck, SK_makeFunc, SK_makeMap, SK_makeSlice, SK_build, SK_buildSlice, SK_len, SK_append, SK_call, doCall_clo, doCall_clo, evTmp, ev_int, ev_bool, ev_str, ev_nilS, ev_func, opFev, evs_cons, evs_nil, slot_put, putD_nt, putD_none, putD_dfr, slotOk, Nat.blt_eq, Nat.reduceLT, Nat.reduceEqDiff, Nat.reduceLeDiff, reduceIte, true_and, and_true, true_or, or_true, if_true, if_false, Bool.false_eq_true, Bool.true_eq_false, not_false_eq_true, not_true_eq_false, ltV_ptr, ltV_sl, ltV_nil, ltV_str, ltV_i, nxNew, nxMod, get_newE, get_newL, get_modE, get_modN, ltAdd, ltSelf, eqLt, eqGt, eqLtA, eqGtA, eqSelfA, eqASelf, eqAA, ltAA, doLoad_ptr, doStore_ptr, rowOf_arr, rowOf_ro, ldO_agg, ldO_one, stO_arr, splice_eq, fieldAddr_at, Bool.not_eq_true', Bool.not_eq_false', decide_eq_false_iff_not, ne_eq, Nat.reduceLeDiff, Nat.lt_irrefl, gt_iff_lt, cells_one, cells_agg, noTup_one, noTup_agg, List.length_cons, List.length_nil, Nat.zero_add, Nat.add_zero, Nat.reduceAdd, Nat.reduceSub, Nat.reduceMul, Nat.le_refl, Nat.zero_le, capsOf_nil, capsOf_cons, capArgs_nil, capArgs_cons, List.cons_append, List.nil_append, List.append_nil, ex_0, ex_0a, ex_1, ex_1a, ex_2, ex_2a, ii_lss, ii_leq, ii_gtr, ii_geq, ii_eql, ii_neq, ii_add, ii_sub, ii_mul, ss_lss, ss_geq, ss_leq, ss_gtr, ss_eql, ss_neq, List.take_succ_cons, List.take_zero, List.drop_succ_cons, List.drop_zero, List.take_nil, List.drop_nil, List.headD_cons, Bool.not_true, Bool.not_false, Nat.lt_add_one, bin_agg, bin_b, agg2_agg, bool2_b, aggEq_nil, aggEq_s, aggEq_i, aggEq_b, aggO_some, fill_nil, fill_cons, Nat.zero_mul, partsF_nil, partsF_cons, repl_one, SK_lookup, SK_mapUpdate, lkN_some, upN_some, ltV_mp, nilCheck_ptr, lookOut_f, lookOut_t, doCall_yl, ofValue_int, ofValue_bool, ev_nilP, ev_nilM, ev_nilF]; refine hK _ _ ?_; clear hK K)
      refine R1.s_block fun K2 q1 q2 q3 q4 => ?_
      repeat' first | refine R1.ret ?_ | refine R1.exit ?_ | refine R1.skip ?_ | refine R1.s_ret ?_ | refine R1.s_exit ?_ | refine R1.s_assoc ?_ | refine R1.s_skip ?_ | refine R1.s_scope ?_ | ((first | refine R1.e_rg fun K hK => ?_ | refine R1.s_rg fun K hK => ?_ | refine R1.e_sq (by kernel_rfl) fun K hK => ?_ | refine R1.s_sq (by kernel_rfl) fun K hK => ?_); simp only [SG_nil, SG_cons, SU_yes, gw_n, gOf_n, List.map_cons, List.map_nil, Nat.zero_lt_succ, SK_move, SK_assign, SK_indexAddr, evTmp, slot_put, putD_nt, slotOk, Nat.blt_eq, Nat.reduceLT, true_and, if_true, if_false, eqLt, eqGt, Nat.lt_add_one, E2_P, t8, hnt]; refine hK _ _ ?_; clear hK K)
      repeat refine R1.s_assoc ?_
      refine R1.s_rg fun K hK => ?_
      simp only [SG_cons, SU_yes, gw_n, gOf_n, List.map_cons, List.map_nil, vN_val, ldN_some, iaN_some, Nat.zero_lt_succ, SK_move, SK_load, SK_indexAddr, SK_call, doCall_clo, doCall_clo, evTmp, evs_cons, evs_nil, slot_put, putD_nt, slotOk, Nat.blt_eq, Nat.reduceLT, true_and, if_true, if_false, ltV_ptr, eqLt, eqGt, doLoad_ptr, ldO_agg, Nat.le_refl, capArgs_nil, capArgs_cons, List.cons_append, List.nil_append, Nat.lt_add_one, E2_P, t0, t1, hnt, el_goods, ld_good, indexAddr_cast hlt, hid, hgr, hx1.all, hx1.le, bd_goodAt1]
      refine WE.con (goodAt1_con H1 bn s _ _ x.1 hb1 hg1) fun w H2 g2 hw => ?_
      subst hw
      simp only [SG_nil]
      refine hK _ _ ?_
      clear hK K
      have g2' := g1.gr g2
      by_cases hxs : x.1 = s
      · rw [if_pos hxs] at hr
        repeat refine R1.s_assoc ?_
        (first | refine R1.s_cnd fun Kx Ky hx hy => ?_ | refine R1.e_cnd fun Kx Ky hx hy => ?_); simp only [boolP'_b, evTmp, slot_put, Nat.reduceLT, if_true, if_false, eqGt, Nat.lt_add_one]
        rw [hxs, beq_self_eq_true]
        refine hx ?_
        clear hx hy Kx Ky
        repeat' first | refine R1.ret ?_ | refine R1.exit ?_ | refine R1.skip ?_ | refine R1.s_ret ?_ | refine R1.s_exit ?_ | refine R1.s_assoc ?_ | refine R1.s_skip ?_ | refine R1.s_scope ?_ | ((first | refine R1.e_rg fun K hK => ?_ | refine R1.s_rg fun K hK => ?_ | refine R1.e_sq (by kernel_rfl) fun K hK => ?_ | refine R1.s_sq (by kernel_rfl) fun K hK => ?_); simp only [SG_nil, SG_cons, SU_yes, gw_n, gOf_n, List.map_cons, List.map_nil, SK_move, SK_assign, evTmp, slot_put, putD_nt, slotOk, Nat.blt_eq, Nat.reduceLT, true_and, if_true, if_false, eqLt, eqGt, Nat.lt_add_one, hnt]; refine hK _ _ ?_; clear hK K)
        exact q4 _ _ (k4 _ _ ⟨_, _, callEnd_one (.i .i64 (i : Int)) (.inr rfl) (by simp only [putD_dfr, hdf]) (by simp only [slot_put, Nat.reduceEqDiff, reduceIte]), g2', fun _ => by rw [← hr]⟩)
      · rw [if_neg hxs] at hr
        repeat refine R1.s_assoc ?_
        (first | refine R1.s_cnd fun Kx Ky hx hy => ?_ | refine R1.e_cnd fun Kx Ky hx hy => ?_); simp only [boolP'_b, evTmp, slot_put, Nat.reduceLT, if_true, if_false, eqGt, Nat.lt_add_one]
        rw [beq_false_of_ne hxs]
        refine hy ?_
        clear hx hy Kx Ky
        repeat' first | refine R1.ret ?_ | refine R1.exit ?_ | refine R1.skip ?_ | refine R1.s_ret ?_ | refine R1.s_exit ?_ | refine R1.s_assoc ?_ | refine R1.s_skip ?_ | refine R1.s_scope ?_ | ((first | refine R1.e_rg fun K hK => ?_ | refine R1.s_rg fun K hK => ?_ | refine R1.e_sq (by kernel_rfl) fun K hK => ?_ | refine R1.s_sq (by kernel_rfl) fun K hK => ?_); simp only [SG_nil, SG_cons, SU_yes, SU_no, gw_n, gw_gwv, gwv_b, gwv_u, gOf_n, gOf_some, List.map_cons, List.map_nil, List.getElem?_cons_zero, List.getElem?_cons_succ, Option.elim_some, Option.map_some, Option.bind_some, optP_some, boolP_b, boolP'_b, boolE_b, decide_eq_true_eq, decide_true, decide_false, valP_val, valP_guard, vN_val, ldN_some, stN_some, faN_some, iaN_some, lnN_some, pkN_b, sliceO_some, slice_lo, slice_hi, slice_1, indexAddr_0, Nat.add_one_sub_one, Nat.one_mul, len_sl, len_ns, len_str', posS, eq0S, cast0, Int.reduceLT, Int.reduceLE, Int.reduceBEq, Option.map_none, Nat.lt_add_left_iff_pos, Nat.zero_lt_succ, Nat.le_add_left, SK_move, SK_assign, SK_pick, SK_alloc, SK_box, SK_load, SK_store, SK_bin, SK_not, SK_fieldAddr, SK_field, SK_indexAddr, SK_slice, SK_extract, SK_nilCheck, SK_makeFunc, SK_makeMap, SK_makeSlice, SK_build, SK_buildSlice, SK_len, SK_append, SK_call, doCall_clo, doCall_clo, evTmp, ev_int, ev_bool, ev_str, ev_nilS, ev_func, opFev, evs_cons, evs_nil, slot_put, putD_nt, putD_none, putD_dfr, slotOk, Nat.blt_eq, Nat.reduceLT, Nat.reduceEqDiff, Nat.reduceLeDiff, reduceIte, true_and, and_true, true_or, or_true, if_true, if_false, Bool.false_eq_true, Bool.true_eq_false, not_false_eq_true, not_true_eq_false, ltV_ptr, ltV_sl, ltV_nil, ltV_str, ltV_i, nxNew, nxMod, get_newE, get_newL, get_modE, get_modN, ltAdd, ltSelf, eqLt, eqGt, eqLtA, eqGtA, eqSelfA, eqASelf, eqAA, ltAA, doLoad_ptr, doStore_ptr, rowOf_arr, rowOf_ro, ldO_agg, ldO_one, stO_arr, splice_eq, fieldAddr_at, Bool.not_eq_true', Bool.not_eq_false', decide_eq_false_iff_not, ne_eq, Nat.reduceLeDiff, Nat.lt_irrefl, gt_iff_lt, cells_one, cells_agg, noTup_one, noTup_agg, List.length_cons, List.length_nil, Nat.zero_add, Nat.add_zero, Nat.reduceAdd, Nat.reduceSub, Nat.reduceMul, Nat.le_refl, Nat.zero_le, capsOf_nil, capsOf_cons, capArgs_nil, capArgs_cons, List.cons_append, List.nil_append, List.append_nil, ex_0, ex_0a, ex_1, ex_1a, ex_2, ex_2a, ii_lss, ii_leq, ii_gtr, ii_geq, ii_eql, ii_neq, ii_add, ii_sub, ii_mul, ss_lss, ss_geq, ss_leq, ss_gtr, ss_eql, ss_neq, List.take_succ_cons, List.take_zero, List.drop_succ_cons, List.drop_zero, List.take_nil, List.drop_nil, List.headD_cons, Bool.not_true, Bool.not_false, Nat.lt_add_one, bin_agg, bin_b, agg2_agg, bool2_b, aggEq_nil, aggEq_s, aggEq_i, aggEq_b, aggO_some, fill_nil, fill_cons, Nat.zero_mul, partsF_nil, partsF_cons, repl_one, SK_lookup, SK_mapUpdate, lkN_some, upN_some, ltV_mp, nilCheck_ptr, lookOut_f, lookOut_t, doCall_yl, ofValue_int, ofValue_bool, ev_nilP, ev_nilM, ev_nilF, hnt]; refine hK _ _ ?_; clear hK K)
        refine q1 _ _ ?_
        repeat' first | refine R1.ret ?_ | refine R1.exit ?_ | refine R1.skip ?_ | refine R1.s_ret ?_ | refine R1.s_exit ?_ | refine R1.s_assoc ?_ | refine R1.s_skip ?_ | refine R1.s_scope ?_ | ((first | refine R1.e_rg fun K hK => ?_ | refine R1.s_rg fun K hK => ?_ | refine R1.e_sq (by kernel_rfl) fun K hK => ?_ | refine R1.s_sq (by kernel_rfl) fun K hK => ?_); simp only [SG_nil, SG_cons, SU_yes, gw_n, gOf_n, List.map_cons, List.map_nil, vN_val, SK_move, SK_bin, evTmp, ev_int, slot_put, putD_nt, slotOk, Nat.blt_eq, Nat.reduceLT, true_and, if_true, if_false, eqLt, eqGt, ii_add, Nat.lt_add_one, hnt, t8, hw2]; refine hK _ _ ?_; clear hK K)
        refine ⟨gs.length - (i + 1), by omega, i + 1, rfl, hlt, g2', hr, ?_, ?_, ?_, ?_, ?_, ?_⟩
        · simp only [slot_put, Nat.reduceEqDiff, reduceIte, t0]
        · simp only [slot_put, Nat.reduceEqDiff, reduceIte, t1]
        · simp only [slot_put, Nat.reduceEqDiff, reduceIte, t7]
        · simp only [slot_put, Nat.reduceEqDiff, reduceIte]
        · simp only [putD_nt, hnt]
        · simp only [putD_dfr, hdf]
    · clear hx hy Kx Ky
      have hie : i = gs.length := by omega
      rw [hie, List.drop_length, idxG] at hr
      repeat' first | refine R1.ret ?_ | refine R1.exit ?_ | refine R1.skip ?_ | refine R1.s_ret ?_ | refine R1.s_exit ?_ | refine R1.s_assoc ?_ | refine R1.s_skip ?_ | refine R1.s_scope ?_ | ((first | refine R1.e_rg fun K hK => ?_ | refine R1.s_rg fun K hK => ?_ | refine R1.e_sq (by kernel_rfl) fun K hK => ?_ | refine R1.s_sq (by kernel_rfl) fun K hK => ?_); simp only [SG_nil, SG_cons, SU_yes, SU_no, gw_n, gw_gwv, gwv_b, gwv_u, gOf_n, gOf_some, List.map_cons, List.map_nil, List.getElem?_cons_zero, List.getElem?_cons_succ, Option.elim_some, Option.map_some, Option.bind_some, optP_some, boolP_b, boolP'_b, boolE_b, decide_eq_true_eq, decide_true, decide_false, valP_val, valP_guard, vN_val, ldN_some, stN_some, faN_some, iaN_some, lnN_some, pkN_b, sliceO_some, slice_lo, slice_hi, slice_1, indexAddr_0, Nat.add_one_sub_one, Nat.one_mul, len_sl, len_ns, len_str', posS, eq0S, cast0, Int.reduceLT, Int.reduceLE, Int.reduceBEq, Option.map_none, Nat.lt_add_left_iff_pos, Nat.zero_lt_succ, Nat.le_add_left, SK_move, SK_assign, SK_pick, SK_alloc, SK_box, SK_load, SK_store, SK_bin, SK_not, SK_fieldAddr, SK_field, SK_indexAddr, SK_slice, SK_extract, SK_nilCheck, SK_makeFunc, SK_makeMap, SK_makeSlice, SK_build, SK_buildSlice, SK_len, SK_append, SK_call, doCall_clo, doCall_clo, evTmp, ev_int, ev_bool, ev_str, ev_nilS, ev_func, opFev, evs_cons, evs_nil, slot_put, putD_nt, putD_none, putD_dfr, slotOk, Nat.blt_eq, Nat.reduceLT, Nat.reduceEqDiff, Nat.reduceLeDiff, reduceIte, true_and, and_true, true_or, or_true, if_true, if_false, Bool.false_eq_true, Bool.true_eq_false, not_false_eq_true, not_true_eq_false, ltV_ptr, ltV_sl, ltV_nil, ltV_str, ltV_i, nxNew, nxMod, get_newE, get_newL, get_modE, get_modN, ltAdd, ltSelf, eqLt, eqGt, eqLtA, eqGtA, eqSelfA, eqASelf, eqAA, ltAA, doLoad_ptr, doStore_ptr, rowOf_arr, rowOf_ro, ldO_agg, ldO_one, stO_arr, splice_eq, fieldAddr_at, Bool.not_eq_true', Bool.not_eq_false', decide_eq_false_iff_not, ne_eq, Nat.reduceLeDiff, Nat.lt_irrefl, gt_iff_lt, cells_one, cells_agg, noTup_one, noTup_agg, List.length_cons, List.length_nil, Nat.zero_add, Nat.add_zero, Nat.reduceAdd, Nat.reduceSub, Nat.reduceMul, Nat.le_refl, Nat.zero_le, capsOf_nil, capsOf_cons, capArgs_nil, capArgs_cons, List.cons_append, List.nil_append, List.append_nil, ex_0, ex_0a, ex_1, ex_1a, ex_2, ex_2a, ii_lss, ii_leq, ii_gtr, ii_geq, ii_eql, ii_neq, ii_add, ii_sub, ii_mul, ss_lss, ss_geq, ss_leq, ss_gtr, ss_eql, ss_neq, List.take_succ_cons, List.take_zero, List.drop_succ_cons, List.drop_zero, List.take_nil, List.drop_nil, List.headD_cons, Bool.not_true, Bool.not_false, Nat.lt_add_one, bin_agg, bin_b, agg2_agg, bool2_b, aggEq_nil, aggEq_s, aggEq_i, aggEq_b, aggO_some, fill_nil, fill_cons, Nat.zero_mul, partsF_nil, partsF_cons, repl_one, SK_lookup, SK_mapUpdate, lkN_some, upN_some, ltV_mp, nilCheck_ptr, lookOut_f, lookOut_t, doCall_yl, ofValue_int, ofValue_bool, ev_nilP, ev_nilM, ev_nilF, hnt]; refine hK _ _ ?_; clear hK K)
      refine k2 _ _ ?_
      repeat' first | refine R1.ret ?_ | refine R1.exit ?_ | refine R1.skip ?_ | refine R1.s_ret ?_ | refine R1.s_exit ?_ | refine R1.s_assoc ?_ | refine R1.s_skip ?_ | refine R1.s_scope ?_ | ((first | refine R1.e_rg fun K hK => ?_ | refine R1.s_rg fun K hK => ?_ | refine R1.e_sq (by kernel_rfl) fun K hK => ?_ | refine R1.s_sq (by kernel_rfl) fun K hK => ?_); simp only [SG_nil, SG_cons, SU_yes, gw_n, gOf_n, List.map_cons, List.map_nil, SK_assign, ev_int, putD_nt, slotOk, Nat.blt_eq, Nat.reduceLT, true_and, hnt]; refine hK _ _ ?_; clear hK K)
      exact ⟨_, _, callEnd_one (.i .i64 (-1)) (.inr rfl) (by simp only [putD_dfr, hdf]) (by simp only [slot_put, Nat.reduceEqDiff, reduceIte]), g1, fun _ => by rw [← hr]⟩
  · simp only [slot_put, Nat.reduceEqDiff, reduceIte, putD_nt, putD_dfr, h0, h1, and_self, true_and]
    exact ⟨rfl, trivial⟩

set_option maxRecDepth 10000 in
theorem goodAt_con (H : Hp) (v : AC) (gs : List Gd) (s : List UInt8) (hv : SlG H v gs) (hL : gs.length ≤ 1000000) :
    Con E2 33 [.one v, .one (.o (.str s))] H (fun _ => False) fun r _ => r = .one (.i .i64 (idxG 0 gs s)) := by
  refine Con.of rfl fun lg => ?_
  have hv : SlG ⟨H.t, H.nx, lg⟩ v gs := hv
  generalize (⟨H.t, H.nx, lg⟩ : Hp) = H at hv ⊢
  refine C1.body (E := E2) (nt := 8) (res := [.tmp 4]) Tryz.func33 rfl rfl rfl rfl rfl fun tm hargs => ?_
  have h0 := hargs 0 _ rfl
  have h1 := hargs 1 _ rfl
  clear hargs
  repeat' first | refine R1.ret ?_ | refine R1.exit ?_ | refine R1.skip ?_ | refine R1.s_ret ?_ | refine R1.s_exit ?_ | refine R1.s_assoc ?_ | refine R1.s_skip ?_ | refine R1.s_scope ?_ | ((first | refine R1.e_rg fun K hK => ?_ | refine R1.s_rg fun K hK => ?_ | refine R1.e_sq (by kernel_rfl) fun K hK => ?_ | refine R1.s_sq (by kernel_rfl) fun K hK => ?_); simp only [SG_nil, SG_cons, SU_yes, gw_n, gOf_n, List.map_cons, List.map_nil, Option.map_some, optP_some, Nat.zero_lt_succ, SK_move, SK_assign, SK_box, SK_makeFunc, SK_call, evTmp, ev_int, ev_func, evs_cons, evs_nil, slot_put, putD_nt, slotOk, Nat.blt_eq, Nat.reduceLT, true_and, if_true, if_false, eqLt, eqGt, cells_one, noTup_one, List.length_cons, List.length_nil, Nat.zero_add, capsOf_nil, capsOf_cons, Nat.lt_add_one, E2_P, h0, h1]; refine hK _ _ ?_; clear hK K)
  repeat refine R1.s_assoc ?_
  refine R1.s_rg fun K hK => ?_
  simp only [SG_cons, SU_yes, gw_n, gOf_n, List.map_cons, List.map_nil, Option.map_some, optP_some, Nat.zero_lt_succ, SK_move, SK_makeFunc, SK_call, doCall_clo, doCall_clo, evTmp, ev_func, evs_cons, evs_nil, slot_put, putD_nt, slotOk, Nat.blt_eq, Nat.reduceLT, true_and, if_true, if_false, eqLt, eqGt, capsOf_nil, capsOf_cons, capArgs_nil, List.append_nil, Nat.lt_add_one, E2_P, h0, bd_idxGood]
  refine WE.con (idxGood_con _ v gs H.nx s (hv.gr ((Fr.refl _).new _)) (Nat.lt_succ_self _) (get_newE rfl) hL) fun w H2 g2 hw => ?_
  subst hw
  simp only [SG_nil, SG_cons, SU_yes, gw_n, SK_assign, evTmp, slot_put, putD_nt, slotOk, Nat.blt_eq, Nat.reduceLT, true_and, if_true, if_false, eqGt, Nat.lt_add_one]
  refine hK _ _ ?_
  clear hK K
  repeat' first | refine R1.ret ?_ | refine R1.exit ?_ | refine R1.skip ?_ | refine R1.s_ret ?_ | refine R1.s_exit ?_ | refine R1.s_assoc ?_ | refine R1.s_skip ?_ | refine R1.s_scope ?_ | ((first | refine R1.e_rg fun K hK => ?_ | refine R1.s_rg fun K hK => ?_ | refine R1.e_sq (by kernel_rfl) fun K hK => ?_ | refine R1.s_sq (by kernel_rfl) fun K hK => ?_); simp only [SG_nil, SG_cons, SU_yes, SU_no, gw_n, gw_gwv, gwv_b, gwv_u, gOf_n, gOf_some, List.map_cons, List.map_nil, List.getElem?_cons_zero, List.getElem?_cons_succ, Option.elim_some, Option.map_some, Option.bind_some, optP_some, boolP_b, boolP'_b, boolE_b, decide_eq_true_eq, decide_true, decide_false, valP_val, valP_guard, vN_val, ldN_some, stN_some, faN_some, iaN_some, lnN_some, pkN_b, sliceO_some, slice_lo, slice_hi, slice_1, indexAddr_0, Nat.add_one_sub_one, Nat.one_mul, len_sl, len_ns, len_str', posS, eq0S, cast0, Int.reduceLT, Int.reduceLE, Int.reduceBEq, Option.map_none, Nat.lt_add_left_iff_pos, Nat.zero_lt_succ, Nat.le_add_left, SK_move, SK_assign, SK_pick, SK_alloc, SK_box, SK_load, SK_store, SK_bin, SK_not, SK_fieldAddr, SK_field, SK_indexAddr, SK_slice, SK_extract, SK_nilCheck, SK_makeFunc, SK_makeMap, SK_makeSlice, SK_build, SK_buildSlice, SK_len, SK_append, SK_call, doCall_clo, doCall_clo, evTmp, ev_int, ev_bool, ev_str, ev_nilS, ev_func, opFev, evs_cons, evs_nil, slot_put, putD_nt, putD_none, putD_dfr, slotOk, Nat.blt_eq, Nat.reduceLT, Nat.reduceEqDiff, Nat.reduceLeDiff, reduceIte, true_and, and_true, true_or, or_true, if_true, if_false, Bool.false_eq_true, Bool.true_eq_false, not_false_eq_true, not_true_eq_false, ltV_ptr, ltV_sl, ltV_nil, ltV_str, ltV_i, nxNew, nxMod, get_newE, get_newL, get_modE, get_modN, ltAdd, ltSelf, eqLt, eqGt, eqLtA, eqGtA, eqSelfA, eqASelf, eqAA, ltAA, doLoad_ptr, doStore_ptr, rowOf_arr, rowOf_ro, ldO_agg, ldO_one, stO_arr, splice_eq, fieldAddr_at, Bool.not_eq_true', Bool.not_eq_false', decide_eq_false_iff_not, ne_eq, Nat.reduceLeDiff, Nat.lt_irrefl, gt_iff_lt, cells_one, cells_agg, noTup_one, noTup_agg, List.length_cons, List.length_nil, Nat.zero_add, Nat.add_zero, Nat.reduceAdd, Nat.reduceSub, Nat.reduceMul, Nat.le_refl, Nat.zero_le, capsOf_nil, capsOf_cons, capArgs_nil, capArgs_cons, List.cons_append, List.nil_append, List.append_nil, ex_0, ex_0a, ex_1, ex_1a, ex_2, ex_2a, ii_lss, ii_leq, ii_gtr, ii_geq, ii_eql, ii_neq, ii_add, ii_sub, ii_mul, ss_lss, ss_geq, ss_leq, ss_gtr, ss_eql, ss_neq, List.take_succ_cons, List.take_zero, List.drop_succ_cons, List.drop_zero, List.take_nil, List.drop_nil, List.headD_cons, Bool.not_true, Bool.not_false, Nat.lt_add_one, bin_agg, bin_b, agg2_agg, bool2_b, aggEq_nil, aggEq_s, aggEq_i, aggEq_b, aggO_some, fill_nil, fill_cons, Nat.zero_mul, partsF_nil, partsF_cons, repl_one, SK_lookup, SK_mapUpdate, lkN_some, upN_some, ltV_mp, nilCheck_ptr, lookOut_f, lookOut_t, doCall_yl, ofValue_int, ofValue_bool, ev_nilP, ev_nilM, ev_nilF]; refine hK _ _ ?_; clear hK K)
  exact ⟨_, _, callEnd_one (.i .i64 (idxG 0 gs s)) (.inr rfl) rfl (by simp only [slot_put, Nat.reduceEqDiff, reduceIte]), ((Fr.refl _).new _).gr g2, fun _ => rfl⟩
end Go.Proofs.YtiejeicaaojdlaaGreat
