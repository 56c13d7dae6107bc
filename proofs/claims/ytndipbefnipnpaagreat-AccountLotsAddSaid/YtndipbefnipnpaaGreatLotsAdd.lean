/- combined, Add, Sub: what they answer. -/
import Derived.Test.YtndipbefnipnpaaGreatLotsComb
namespace Go.Proofs.YtndipbefnipnpaaGreat
open Go Go.Eng

theorem SlL.nil {H : Hp} : SlL H (.o .nilS) [] := ⟨by simp, .inl ⟨rfl, rfl⟩⟩

theorem stepC_len {sign : Int} (t : List Lot) (x y : Lot) : (stepC sign t x y).length ≤ t.length + 1 := by
  unfold stepC
  by_cases h : addN sign x y = 0
  · rw [if_pos h]; omega
  · rw [if_neg h, List.length_append]; exact Nat.le_refl _

theorem chkTwo_len {a b : List Lot} (h : chkTwo a b = 0) : a.length + b.length ≤ 128 := by
  have ha : chkLots a = 0 := by
    unfold chkTwo at h
    split at h
    · assumption
    · exact h
  have hb : chkLots b = 0 := by rwa [chkTwo, if_pos ha] at h
  have := (chk_ok ha).2
  have := (chk_ok hb).2
  omega

/-- 'merge' with the closure of 'combined'. -/
theorem mergeC_con (n0 is io : Nat) (sign : Int) (H : Hp) (hn0 : n0 ≤ H.nx) (hj : OutJ n0 is io sign ([], none) H) (a b : List Lot) (hl : a.length + b.length ≤ 128) (va vb : AC) (ha : SlL H va a) (hb : SlL H vb b) (la : Below' va n0) (lb : Below' vb n0) :
    Con E2 35 [.one va, .one vb, .one (.o (.clo 36 [])), .one (.o (.clo 55 [(is, 0, 0, 1), (io, 0, 0, 1)]))] H (fun i => i = io ∨ (none : Option Nat) = some i) fun v H' =>
      v = .one (.b (runPass (okC sign) (stepC sign) [] (pairs a b)).isSome) ∧ ∀ t, runPass (okC sign) (stepC sign) [] (pairs a b) = some t → ∃ s', OutJ n0 is io sign s' H' ∧ s'.1 = t :=
  merge_con (σ := List Lot × Option Nat) (τ := List Lot) n0 (fun s H => OutJ n0 is io sign s H) (fun s i => i = io ∨ s.2 = some i) Prod.fst (okC sign) (stepC sign) (fun t n => t.length + n ≤ 128) (fun t n m x y h hm => by have := stepC_len (sign := sign) t x y; omega) 55 [(is, 0, 0, 1), (io, 0, 0, 1)] body55
    (fun s H H' h1 h2 h => OutJ.same h1 h2 h) (fun s H H' h g => h.gr g) (fun s H i h hi => by
      rcases hi with rfl | hi
      · exact h.lo
      · exact ⟨(h.row i hi).1, h.own_lt hi⟩)
    (fun s H x y n h hb hn => comb1_con n0 is io sign s H x y h (by omega))
    H hn0 ([], none) hj a b (by simpa using hl) va vb ha hb la lb

set_option maxRecDepth 10000 in
set_option maxHeartbeats 4000000 in
theorem comb_con (sign : Int) (H : Hp) (a b : List Lot) (va vb : AC) (ha : SlL H va a) (hb : SlL H vb b) :
    Con E2 39 [.one va, .one vb, .one (.i .i64 sign)] H (fun _ => False) fun v H' => ∃ vs, v = .tup [(false, [vs]), (false, [.i .i64 (combC sign a b).2])] ∧ SlL H' vs (combC sign a b).1 := by
  refine Con.of rfl fun lg => ?_
  have ha : SlL ⟨H.t, H.nx, lg⟩ va a := ha
  have hb : SlL ⟨H.t, H.nx, lg⟩ vb b := hb
  generalize (⟨H.t, H.nx, lg⟩ : Hp) = H at ha hb ⊢
  refine C1.body (E := E2) (nt := 27) (res := [.tmp 6, .tmp 7]) Tryz.func39 rfl rfl rfl rfl rfl fun tm hargs => ?_
  have h0 := hargs 0 _ rfl
  have h1 := hargs 1 _ rfl
  have h2 := hargs 2 _ rfl
  clear hargs
  repeat' first | refine R1.ret ?_ | refine R1.exit ?_ | refine R1.skip ?_ | refine R1.s_ret ?_ | refine R1.s_exit ?_ | refine R1.s_assoc ?_ | refine R1.s_skip ?_ | refine R1.s_scope ?_ | ((first | refine R1.e_rg fun K hK => ?_ | refine R1.s_rg fun K hK => ?_ | refine R1.e_sq (by kernel_rfl) fun K hK => ?_ | refine R1.s_sq (by kernel_rfl) fun K hK => ?_); simp only [SG_nil, SG_cons, SU_yes, gw_n, gOf_n, List.map_cons, List.map_nil, Nat.zero_lt_succ, SK_move, SK_assign, SK_box, SK_call, evTmp, ev_int, ev_nilS, ev_func, evs_cons, evs_nil, slot_put, putD_nt, slotOk, Nat.blt_eq, Nat.reduceLT, true_and, if_true, if_false, eqLt, eqGt, cells_one, noTup_one, List.length_cons, List.length_nil, Nat.zero_add, Nat.lt_add_one, E2_P, h0, h1, h2]; refine hK _ _ ?_; clear hK K)
  have gb : Gr H (H.new (.arr [.i .i64 sign] 3 0 0)) := (Fr.refl _).new _
  refine R1.s_rg fun K hK => ?_
  simp only [SG_cons, SU_yes, gw_n, gOf_n, List.map_cons, List.map_nil, Nat.zero_lt_succ, SK_move, SK_call, doCall_clo, doCall_clo, evTmp, ev_func, evs_cons, evs_nil, slot_put, putD_nt, slotOk, Nat.blt_eq, Nat.reduceLT, true_and, if_true, if_false, eqLt, eqGt, capArgs_nil, List.append_nil, Nat.lt_add_one, E2_P, h0, h1, body34]
  refine WE.con (checkTwo_con _ a b va vb (ha.gr gb) (hb.gr gb)) fun v2 H2 hf hv => ?_
  subst hv
  simp only [SG_nil, SG_cons, SU_yes, gw_n, SK_assign, evTmp, slot_put, putD_nt, slotOk, Nat.blt_eq, Nat.reduceLT, true_and, if_true, if_false, eqGt, Nat.lt_add_one]
  refine hK _ _ ?_
  clear hK K
  have gs2 : H2.get H.nx = some (.arr [.i .i64 sign] 3 0 0) := by rw [hf.get _ (by rw [nxNew]; omega) not_false, get_newE rfl]
  have ln2 : H.nx < H2.nx := Nat.lt_of_lt_of_le (by rw [nxNew]; omega) hf.nx
  have g2 : Gr H H2 := gb.gr hf
  repeat' first | refine R1.ret ?_ | refine R1.exit ?_ | refine R1.skip ?_ | refine R1.s_ret ?_ | refine R1.s_exit ?_ | refine R1.s_assoc ?_ | refine R1.s_skip ?_ | refine R1.s_scope ?_ | ((first | refine R1.e_rg fun K hK => ?_ | refine R1.s_rg fun K hK => ?_ | refine R1.e_sq (by kernel_rfl) fun K hK => ?_ | refine R1.s_sq (by kernel_rfl) fun K hK => ?_); simp only [SG_nil, SG_cons, SU_yes, gw_n, gOf_n, List.map_cons, List.map_nil, vN_val, SK_move, SK_bin, evTmp, ev_int, slot_put, putD_nt, slotOk, Nat.blt_eq, Nat.reduceLT, true_and, if_true, if_false, eqLt, eqGt, ii_neq, Nat.lt_add_one, E2_P]; refine hK _ _ ?_; clear hK K)
  (first | refine R1.s_cnd fun Kx Ky hx hy => ?_ | refine R1.e_cnd fun Kx Ky hx hy => ?_); simp only [boolP'_b, evTmp, slot_put, Nat.reduceLT, if_true, if_false, eqGt, Bool.not_eq_true', Nat.lt_add_one]
  refine iteI (fun hc => hx ?_) (fun hc => hy ?_)
  · clear hx hy Kx Ky
    repeat' first | refine R1.ret ?_ | refine R1.exit ?_ | refine R1.skip ?_ | refine R1.s_ret ?_ | refine R1.s_exit ?_ | refine R1.s_assoc ?_ | refine R1.s_skip ?_ | refine R1.s_scope ?_ | ((first | refine R1.e_rg fun K hK => ?_ | refine R1.s_rg fun K hK => ?_ | refine R1.e_sq (by kernel_rfl) fun K hK => ?_ | refine R1.s_sq (by kernel_rfl) fun K hK => ?_); simp only [SG_nil, SG_cons, SU_yes, gw_n, gOf_n, List.map_cons, List.map_nil, SK_move, SK_assign, evTmp, ev_nilS, slot_put, putD_nt, slotOk, Nat.blt_eq, Nat.reduceLT, true_and, if_true, if_false, eqLt, eqGt, Nat.lt_add_one]; refine hK _ _ ?_; clear hK K)
    refine ⟨_, _, callEnd_two (.o .nilS) (.i .i64 (chkTwo a b)) (.inr rfl) rfl (by simp only [slot_put, Nat.reduceEqDiff, reduceIte]) (by simp only [slot_put, Nat.reduceEqDiff, reduceIte]), g2, fun _ => ?_⟩
    have : chkTwo a b ≠ 0 := by simpa using hc
    rw [combC, if_neg this]
    exact ⟨_, rfl, SlL.nil⟩
  · clear hx hy Kx Ky
    have h00 : chkTwo a b = 0 := by simpa using hc
    repeat' first | refine R1.ret ?_ | refine R1.exit ?_ | refine R1.skip ?_ | refine R1.s_ret ?_ | refine R1.s_exit ?_ | refine R1.s_assoc ?_ | refine R1.s_skip ?_ | refine R1.s_scope ?_ | ((first | refine R1.e_rg fun K hK => ?_ | refine R1.s_rg fun K hK => ?_ | refine R1.e_sq (by kernel_rfl) fun K hK => ?_ | refine R1.s_sq (by kernel_rfl) fun K hK => ?_); simp only [SG_nil, SG_cons, SU_yes, gw_n, gOf_n, List.map_cons, List.map_nil, Option.map_some, optP_some, Nat.zero_lt_succ, SK_move, SK_alloc, SK_makeFunc, SK_call, evTmp, ev_func, evs_cons, evs_nil, slot_put, putD_nt, slotOk, Nat.blt_eq, Nat.reduceLT, true_and, if_true, if_false, eqLt, eqGt, List.length_cons, List.length_nil, Nat.zero_add, capsOf_nil, capsOf_cons, Nat.lt_add_one, E2_P, zero22]; refine hK _ _ ?_; clear hK K)
    have g3 : Gr H (H2.new (.arr [.o .nilS] 22 0 0)) := g2.new _
    have hj : OutJ H.nx H.nx H2.nx sign ([], none) (H2.new (.arr [.o .nilS] 22 0 0)) :=
      ⟨by rw [get_newL ln2]; exact gs2, ⟨Nat.le_refl _, by rw [nxNew]; omega⟩, ⟨by omega, by rw [nxNew]; omega⟩, by omega, ⟨.o .nilS, get_newE rfl, .inl ⟨rfl, rfl, rfl, rfl⟩⟩, fun r hr => by cases hr⟩
    refine R1.s_rg fun K hK => ?_
    simp only [SG_cons, SU_yes, gw_n, gOf_n, List.map_cons, List.map_nil, Option.map_some, optP_some, Nat.zero_lt_succ, SK_move, SK_makeFunc, SK_call, doCall_clo, doCall_clo, evTmp, ev_func, evs_cons, evs_nil, slot_put, putD_nt, slotOk, Nat.blt_eq, Nat.reduceLT, true_and, if_true, if_false, eqLt, eqGt, capsOf_nil, capsOf_cons, capArgs_nil, List.append_nil, Nat.lt_add_one, E2_P, h0, h1, body35]
    refine WE.con (mergeC_con H.nx H.nx H2.nx sign _ (by rw [nxNew]; omega) hj a b (chkTwo_len h00) va vb (ha.gr g3) (hb.gr g3) ha.lt hb.lt) fun v3 H3 hf3 ⟨hv, hres⟩ => ?_
    subst hv
    simp only [SG_nil, SG_cons, SU_yes, gw_n, SK_assign, evTmp, slot_put, putD_nt, slotOk, Nat.blt_eq, Nat.reduceLT, true_and, if_true, if_false, eqGt, Nat.lt_add_one]
    refine hK _ _ ?_
    clear hK K
    have g4 : Gr H H3 := g3.then hf3 fun i hi => hi.elim (fun h => .inl (by omega)) fun h => (by cases h)
    cases hr : runPass (okC sign) (stepC sign) [] (pairs a b) with
    | none =>
      repeat' first | refine R1.ret ?_ | refine R1.exit ?_ | refine R1.skip ?_ | refine R1.s_ret ?_ | refine R1.s_exit ?_ | refine R1.s_assoc ?_ | refine R1.s_skip ?_ | refine R1.s_scope ?_ | ((first | refine R1.e_rg fun K hK => ?_ | refine R1.s_rg fun K hK => ?_ | refine R1.e_sq (by kernel_rfl) fun K hK => ?_ | refine R1.s_sq (by kernel_rfl) fun K hK => ?_); simp only [SG_nil, SG_cons, SU_yes, gw_n, gOf_n, List.map_cons, List.map_nil, boolE_b, vN_val, SK_move, SK_not, evTmp, slot_put, putD_nt, slotOk, Nat.blt_eq, Nat.reduceLT, true_and, if_true, if_false, eqLt, eqGt, Bool.not_false, Nat.lt_add_one, E2_P, Option.isSome_none]; refine hK _ _ ?_; clear hK K)
      (first | refine R1.s_cnd fun Kx Ky hx hy => ?_ | refine R1.e_cnd fun Kx Ky hx hy => ?_); simp only [boolP'_b, evTmp, slot_put, Nat.reduceLT, if_true, if_false, eqGt, Nat.lt_add_one]
      refine hx ?_
      clear hx hy Kx Ky
      repeat' first | refine R1.ret ?_ | refine R1.exit ?_ | refine R1.skip ?_ | refine R1.s_ret ?_ | refine R1.s_exit ?_ | refine R1.s_assoc ?_ | refine R1.s_skip ?_ | refine R1.s_scope ?_ | ((first | refine R1.e_rg fun K hK => ?_ | refine R1.s_rg fun K hK => ?_ | refine R1.e_sq (by kernel_rfl) fun K hK => ?_ | refine R1.s_sq (by kernel_rfl) fun K hK => ?_); simp only [SG_nil, SG_cons, SU_yes, gw_n, gOf_n, List.map_cons, List.map_nil, SK_assign, ev_int, ev_nilS, putD_nt, slotOk, Nat.blt_eq, Nat.reduceLT, true_and]; refine hK _ _ ?_; clear hK K)
      refine ⟨_, _, callEnd_two (.o .nilS) (.i .i64 6) (.inr rfl) rfl (by simp only [slot_put, Nat.reduceEqDiff, reduceIte]) (by simp only [slot_put, Nat.reduceEqDiff, reduceIte]), g4, fun _ => ?_⟩
      rw [combC, if_pos h00, hr]
      exact ⟨_, rfl, SlL.nil⟩
    | some t =>
      obtain ⟨s', hj', hs'⟩ := hres t hr
      obtain ⟨v, hio, hown⟩ := hj'.out
      have hsl : SlL H3 v t := by rw [← hs']; exact hown.slc
      have lio := hj'.lo.2
      repeat' first | refine R1.ret ?_ | refine R1.exit ?_ | refine R1.skip ?_ | refine R1.s_ret ?_ | refine R1.s_exit ?_ | refine R1.s_assoc ?_ | refine R1.s_skip ?_ | refine R1.s_scope ?_ | ((first | refine R1.e_rg fun K hK => ?_ | refine R1.s_rg fun K hK => ?_ | refine R1.e_sq (by kernel_rfl) fun K hK => ?_ | refine R1.s_sq (by kernel_rfl) fun K hK => ?_); simp only [SG_nil, SG_cons, SU_yes, gw_n, gOf_n, List.map_cons, List.map_nil, boolE_b, vN_val, SK_move, SK_not, evTmp, slot_put, putD_nt, slotOk, Nat.blt_eq, Nat.reduceLT, true_and, if_true, if_false, eqLt, eqGt, Bool.not_true, Nat.lt_add_one, E2_P, Option.isSome_some]; refine hK _ _ ?_; clear hK K)
      (first | refine R1.s_cnd fun Kx Ky hx hy => ?_ | refine R1.e_cnd fun Kx Ky hx hy => ?_); simp only [boolP'_b, evTmp, slot_put, Nat.reduceLT, if_true, if_false, Bool.false_eq_true, eqGt, Nat.lt_add_one]
      refine hy ?_
      clear hx hy Kx Ky
      repeat' first | refine R1.ret ?_ | refine R1.exit ?_ | refine R1.skip ?_ | refine R1.s_ret ?_ | refine R1.s_exit ?_ | refine R1.s_assoc ?_ | refine R1.s_skip ?_ | refine R1.s_scope ?_ | ((first | refine R1.e_rg fun K hK => ?_ | refine R1.s_rg fun K hK => ?_ | refine R1.e_sq (by kernel_rfl) fun K hK => ?_ | refine R1.s_sq (by kernel_rfl) fun K hK => ?_); simp only [SG_nil, SG_cons, SU_yes, gw_n, gOf_n, List.map_cons, List.map_nil, vN_val, ldN_some, lnN_some, SK_load, SK_bin, SK_len, evTmp, ev_int, slot_put, putD_nt, slotOk, Nat.blt_eq, Nat.reduceLT, true_and, if_true, if_false, ltV_ptr, eqLt, eqGt, doLoad_ptr, rowOf_arr, ldO_one, List.length_cons, List.length_nil, Nat.zero_add, Nat.le_refl, ii_gtr, List.drop_zero, List.headD_cons, Nat.lt_add_one, E2_P, hio, lio, load22, len22, hsl.len, hsl.lt]; refine hK _ _ ?_; clear hK K)
      (first | refine R1.s_cnd fun Kx Ky hx hy => ?_ | refine R1.e_cnd fun Kx Ky hx hy => ?_); simp only [boolP'_b, decide_eq_true_eq, evTmp, slot_put, Nat.reduceLT, if_true, if_false, eqGt, Nat.lt_add_one]
      refine iteI (fun hd => hx ?_) (fun hd => hy ?_)
      · clear hx hy Kx Ky
        repeat' first | refine R1.ret ?_ | refine R1.exit ?_ | refine R1.skip ?_ | refine R1.s_ret ?_ | refine R1.s_exit ?_ | refine R1.s_assoc ?_ | refine R1.s_skip ?_ | refine R1.s_scope ?_ | ((first | refine R1.e_rg fun K hK => ?_ | refine R1.s_rg fun K hK => ?_ | refine R1.e_sq (by kernel_rfl) fun K hK => ?_ | refine R1.s_sq (by kernel_rfl) fun K hK => ?_); simp only [SG_nil, SG_cons, SU_yes, gw_n, gOf_n, List.map_cons, List.map_nil, SK_assign, ev_int, ev_nilS, putD_nt, slotOk, Nat.blt_eq, Nat.reduceLT, true_and]; refine hK _ _ ?_; clear hK K)
        refine ⟨_, _, callEnd_two (.o .nilS) (.i .i64 3) (.inr rfl) rfl (by simp only [slot_put, Nat.reduceEqDiff, reduceIte]) (by simp only [slot_put, Nat.reduceEqDiff, reduceIte]), g4, fun _ => ?_⟩
        have : 64 < t.length := by omega
        rw [combC, if_pos h00, hr, Option.elim_some, if_pos this]
        exact ⟨_, rfl, SlL.nil⟩
      · clear hx hy Kx Ky
        repeat' first | refine R1.ret ?_ | refine R1.exit ?_ | refine R1.skip ?_ | refine R1.s_ret ?_ | refine R1.s_exit ?_ | refine R1.s_assoc ?_ | refine R1.s_skip ?_ | refine R1.s_scope ?_ | ((first | refine R1.e_rg fun K hK => ?_ | refine R1.s_rg fun K hK => ?_ | refine R1.e_sq (by kernel_rfl) fun K hK => ?_ | refine R1.s_sq (by kernel_rfl) fun K hK => ?_); simp only [SG_nil, SG_cons, SU_yes, gw_n, gOf_n, List.map_cons, List.map_nil, vN_val, ldN_some, SK_assign, SK_load, evTmp, ev_int, slot_put, putD_nt, slotOk, Nat.blt_eq, Nat.reduceLT, true_and, if_true, if_false, ltV_ptr, eqLt, eqGt, doLoad_ptr, rowOf_arr, ldO_one, List.length_cons, List.length_nil, Nat.zero_add, Nat.le_refl, List.drop_zero, List.headD_cons, Nat.lt_add_one, E2_P, hio, lio, load22]; refine hK _ _ ?_; clear hK K)
        refine ⟨_, _, callEnd_two v (.i .i64 0) (.inr rfl) rfl (by simp only [slot_put, Nat.reduceEqDiff, reduceIte]) (by simp only [slot_put, Nat.reduceEqDiff, reduceIte]), g4, fun _ => ?_⟩
        have : ¬ 64 < t.length := by omega
        rw [combC, if_pos h00, hr, Option.elim_some, if_neg this]
        exact ⟨_, rfl, hsl⟩

theorem body14 : hasBody Tryz.prog 14 = true := by kernel_rfl
set_option maxRecDepth 10000 in
theorem add_con (H : Hp) (a b : List Lot) (va vb : AC) (ha : SlL H va a) (hb : SlL H vb b) :
    Con E2 14 [.one va, .one vb] H (fun _ => False) fun v H' => ∃ vs, v = .tup [(false, [vs]), (false, [.i .i64 (combC 1 a b).2])] ∧ SlL H' vs (combC 1 a b).1 := by
  refine Con.of rfl fun lg => ?_
  have ha : SlL ⟨H.t, H.nx, lg⟩ va a := ha
  have hb : SlL ⟨H.t, H.nx, lg⟩ vb b := hb
  generalize (⟨H.t, H.nx, lg⟩ : Hp) = H at ha hb ⊢
  refine C1.body (E := E2) (nt := 11) (res := [.tmp 4, .tmp 5]) Tryz.func14 rfl rfl rfl rfl rfl fun tm hargs => ?_
  have h0 := hargs 0 _ rfl
  have h1 := hargs 1 _ rfl
  clear hargs
  repeat' first | refine R1.ret ?_ | refine R1.exit ?_ | refine R1.skip ?_ | refine R1.s_ret ?_ | refine R1.s_exit ?_ | refine R1.s_assoc ?_ | refine R1.s_skip ?_ | refine R1.s_scope ?_ | ((first | refine R1.e_rg fun K hK => ?_ | refine R1.s_rg fun K hK => ?_ | refine R1.e_sq (by kernel_rfl) fun K hK => ?_ | refine R1.s_sq (by kernel_rfl) fun K hK => ?_); simp only [SG_nil, SG_cons, SU_yes, gw_n, gOf_n, List.map_cons, List.map_nil, Nat.zero_lt_succ, SK_move, SK_assign, SK_call, evTmp, ev_int, ev_nilS, ev_func, evs_cons, evs_nil, slot_put, putD_nt, slotOk, Nat.blt_eq, Nat.reduceLT, true_and, if_true, if_false, eqLt, eqGt, Nat.lt_add_one, E2_P, h0, h1]; refine hK _ _ ?_; clear hK K)
  refine R1.s_rg fun K hK => ?_
  simp only [SG_cons, SU_yes, gw_n, gOf_n, List.map_cons, List.map_nil, Nat.zero_lt_succ, SK_move, SK_call, doCall_clo, doCall_clo, evTmp, ev_int, ev_func, evs_cons, evs_nil, slot_put, putD_nt, slotOk, Nat.blt_eq, Nat.reduceLT, true_and, if_true, if_false, eqLt, eqGt, capArgs_nil, List.append_nil, Nat.lt_add_one, E2_P, h0, h1, body39]
  refine WE.con (comb_con 1 H a b va vb ha hb) fun v2 H2 hf ⟨vs, hv, hs⟩ => ?_
  subst hv
  simp only [SG_nil, SG_cons, SU_yes, gw_n, vN_val, SK_assign, SK_extract, evTmp, slot_put, putD_nt, slotOk, Nat.blt_eq, Nat.reduceLT, true_and, if_true, if_false, eqLt, eqGt, ex_0, ex_1, Nat.lt_add_one]
  refine hK _ _ ?_
  clear hK K
  repeat' first | refine R1.ret ?_ | refine R1.exit ?_ | refine R1.skip ?_ | refine R1.s_ret ?_ | refine R1.s_exit ?_ | refine R1.s_assoc ?_ | refine R1.s_skip ?_ | refine R1.s_scope ?_ | ((first | refine R1.e_rg fun K hK => ?_ | refine R1.s_rg fun K hK => ?_ | refine R1.e_sq (by kernel_rfl) fun K hK => ?_ | refine R1.s_sq (by kernel_rfl) fun K hK => ?_); simp only [SG_nil, SG_cons, SU_yes, SU_no, gw_n, gw_gwv, gwv_b, gwv_u, gOf_n, gOf_some, List.map_cons, List.map_nil, List.getElem?_cons_zero, List.getElem?_cons_succ, Option.elim_some, Option.map_some, Option.bind_some, optP_some, boolP_b, boolP'_b, boolE_b, decide_eq_true_eq, decide_true, decide_false, valP_val, valP_guard, vN_val, ldN_some, stN_some, faN_some, iaN_some, lnN_some, pkN_b, sliceO_some, slice_lo, slice_hi, slice_1, indexAddr_0, Nat.add_one_sub_one, Nat.one_mul, len_sl, len_ns, len_str', posS, eq0S, cast0, Int.reduceLT, Int.reduceLE, Int.reduceBEq, Option.map_none, Nat.lt_add_left_iff_pos, Nat.zero_lt_succ, Nat.le_add_left, SK_move, SK_assign, SK_pick, SK_alloc, SK_box, SK_load, SK_store, SK_bin, SK_not, SK_fieldAddr, SK_field, SK_indexAddr, SK_slice, SK_extract, SK_nilCheck, SK_makeFunc, SK_makeMap, SK_makeSlice, SK_build, SK_buildSlice, SK_len, SK_append, SK_call, doCall_clo, doCall_clo, evTmp, ev_int, ev_bool, ev_str, ev_nilS, ev_func, opFev, evs_cons, evs_nil, slot_put, putD_nt, putD_none, putD_dfr, slotOk, Nat.blt_eq, Nat.reduceLT, Nat.reduceEqDiff, Nat.reduceLeDiff, reduceIte, true_and, and_true, true_or, or_true, if_true, if_false, Bool.false_eq_true, Bool.true_eq_false, not_false_eq_true, not_true_eq_false, ltV_ptr, ltV_sl, ltV_nil, ltV_str, ltV_i, nxNew, nxMod, get_newE, get_newL, get_modE, get_modN, ltAdd, ltSelf, eqLt, eqGt, eqLtA, eqGtA, eqSelfA, eqASelf, eqAA, ltAA, doLoad_ptr, doStore_ptr, rowOf_arr, rowOf_ro, ldO_agg, ldO_one, stO_arr, splice_eq, fieldAddr_at, Bool.not_eq_true', Bool.not_eq_false', decide_eq_false_iff_not, ne_eq, Nat.reduceLeDiff, Nat.lt_irrefl, gt_iff_lt, cells_one, cells_agg, noTup_one, noTup_agg, List.length_cons, List.length_nil, Nat.zero_add, Nat.add_zero, Nat.reduceAdd, Nat.reduceSub, Nat.reduceMul, Nat.le_refl, Nat.zero_le, capsOf_nil, capsOf_cons, capArgs_nil, capArgs_cons, List.cons_append, List.nil_append, List.append_nil, ex_0, ex_0a, ex_1, ex_1a, ex_2, ex_2a, ii_lss, ii_leq, ii_gtr, ii_geq, ii_eql, ii_neq, ii_add, ii_sub, ii_mul, ss_lss, ss_geq, ss_leq, ss_gtr, ss_eql, ss_neq, List.take_succ_cons, List.take_zero, List.drop_succ_cons, List.drop_zero, List.take_nil, List.drop_nil, List.headD_cons, Bool.not_true, Bool.not_false, Nat.lt_add_one, bin_agg, bin_b, agg2_agg, bool2_b, aggEq_nil, aggEq_s, aggEq_i, aggEq_b, aggO_some, fill_nil, fill_cons, Nat.zero_mul, partsF_nil, partsF_cons, repl_one]; refine hK _ _ ?_; clear hK K)
  exact ⟨_, _, callEnd_two vs (.i .i64 (combC 1 a b).2) (.inr rfl) rfl (by simp only [slot_put, Nat.reduceEqDiff, reduceIte]) (by simp only [slot_put, Nat.reduceEqDiff, reduceIte]), hf, fun _ => ⟨_, rfl, hs⟩⟩

theorem body17 : hasBody Tryz.prog 17 = true := by kernel_rfl
set_option maxRecDepth 10000 in
theorem sub_con (H : Hp) (a b : List Lot) (va vb : AC) (ha : SlL H va a) (hb : SlL H vb b) :
    Con E2 17 [.one va, .one vb] H (fun _ => False) fun v H' => ∃ vs, v = .tup [(false, [vs]), (false, [.i .i64 (combC (-1) a b).2])] ∧ SlL H' vs (combC (-1) a b).1 := by
  refine Con.of rfl fun lg => ?_
  have ha : SlL ⟨H.t, H.nx, lg⟩ va a := ha
  have hb : SlL ⟨H.t, H.nx, lg⟩ vb b := hb
  generalize (⟨H.t, H.nx, lg⟩ : Hp) = H at ha hb ⊢
  refine C1.body (E := E2) (nt := 11) (res := [.tmp 4, .tmp 5]) Tryz.func17 rfl rfl rfl rfl rfl fun tm hargs => ?_
  have h0 := hargs 0 _ rfl
  have h1 := hargs 1 _ rfl
  clear hargs
  repeat' first | refine R1.ret ?_ | refine R1.exit ?_ | refine R1.skip ?_ | refine R1.s_ret ?_ | refine R1.s_exit ?_ | refine R1.s_assoc ?_ | refine R1.s_skip ?_ | refine R1.s_scope ?_ | ((first | refine R1.e_rg fun K hK => ?_ | refine R1.s_rg fun K hK => ?_ | refine R1.e_sq (by kernel_rfl) fun K hK => ?_ | refine R1.s_sq (by kernel_rfl) fun K hK => ?_); simp only [SG_nil, SG_cons, SU_yes, gw_n, gOf_n, List.map_cons, List.map_nil, Nat.zero_lt_succ, SK_move, SK_assign, SK_call, evTmp, ev_int, ev_nilS, ev_func, evs_cons, evs_nil, slot_put, putD_nt, slotOk, Nat.blt_eq, Nat.reduceLT, true_and, if_true, if_false, eqLt, eqGt, Nat.lt_add_one, E2_P, h0, h1]; refine hK _ _ ?_; clear hK K)
  refine R1.s_rg fun K hK => ?_
  simp only [SG_cons, SU_yes, gw_n, gOf_n, List.map_cons, List.map_nil, Nat.zero_lt_succ, SK_move, SK_call, doCall_clo, doCall_clo, evTmp, ev_int, ev_func, evs_cons, evs_nil, slot_put, putD_nt, slotOk, Nat.blt_eq, Nat.reduceLT, true_and, if_true, if_false, eqLt, eqGt, capArgs_nil, List.append_nil, Nat.lt_add_one, E2_P, h0, h1, body39]
  refine WE.con (comb_con (-1) H a b va vb ha hb) fun v2 H2 hf ⟨vs, hv, hs⟩ => ?_
  subst hv
  simp only [SG_nil, SG_cons, SU_yes, gw_n, vN_val, SK_assign, SK_extract, evTmp, slot_put, putD_nt, slotOk, Nat.blt_eq, Nat.reduceLT, true_and, if_true, if_false, eqLt, eqGt, ex_0, ex_1, Nat.lt_add_one]
  refine hK _ _ ?_
  clear hK K
  repeat' first | refine R1.ret ?_ | refine R1.exit ?_ | refine R1.skip ?_ | refine R1.s_ret ?_ | refine R1.s_exit ?_ | refine R1.s_assoc ?_ | refine R1.s_skip ?_ | refine R1.s_scope ?_ | ((first | refine R1.e_rg fun K hK => ?_ | refine R1.s_rg fun K hK => ?_ | refine R1.e_sq (by kernel_rfl) fun K hK => ?_ | refine R1.s_sq (by kernel_rfl) fun K hK => ?_); simp only [SG_nil, SG_cons, SU_yes, SU_no, gw_n, gw_gwv, gwv_b, gwv_u, gOf_n, gOf_some, List.map_cons, List.map_nil, List.getElem?_cons_zero, List.getElem?_cons_succ, Option.elim_some, Option.map_some, Option.bind_some, optP_some, boolP_b, boolP'_b, boolE_b, decide_eq_true_eq, decide_true, decide_false, valP_val, valP_guard, vN_val, ldN_some, stN_some, faN_some, iaN_some, lnN_some, pkN_b, sliceO_some, slice_lo, slice_hi, slice_1, indexAddr_0, Nat.add_one_sub_one, Nat.one_mul, len_sl, len_ns, len_str', posS, eq0S, cast0, Int.reduceLT, Int.reduceLE, Int.reduceBEq, Option.map_none, Nat.lt_add_left_iff_pos, Nat.zero_lt_succ, Nat.le_add_left, SK_move, SK_assign, SK_pick, SK_alloc, SK_box, SK_load, SK_store, SK_bin, SK_not, SK_fieldAddr, SK_field, SK_indexAddr, SK_slice, SK_extract, SK_nilCheck, SK_makeFunc, SK_makeMap, SK_makeSlice, SK_build, SK_buildSlice, SK_len, SK_append, SK_call, doCall_clo, doCall_clo, evTmp, ev_int, ev_bool, ev_str, ev_nilS, ev_func, opFev, evs_cons, evs_nil, slot_put, putD_nt, putD_none, putD_dfr, slotOk, Nat.blt_eq, Nat.reduceLT, Nat.reduceEqDiff, Nat.reduceLeDiff, reduceIte, true_and, and_true, true_or, or_true, if_true, if_false, Bool.false_eq_true, Bool.true_eq_false, not_false_eq_true, not_true_eq_false, ltV_ptr, ltV_sl, ltV_nil, ltV_str, ltV_i, nxNew, nxMod, get_newE, get_newL, get_modE, get_modN, ltAdd, ltSelf, eqLt, eqGt, eqLtA, eqGtA, eqSelfA, eqASelf, eqAA, ltAA, doLoad_ptr, doStore_ptr, rowOf_arr, rowOf_ro, ldO_agg, ldO_one, stO_arr, splice_eq, fieldAddr_at, Bool.not_eq_true', Bool.not_eq_false', decide_eq_false_iff_not, ne_eq, Nat.reduceLeDiff, Nat.lt_irrefl, gt_iff_lt, cells_one, cells_agg, noTup_one, noTup_agg, List.length_cons, List.length_nil, Nat.zero_add, Nat.add_zero, Nat.reduceAdd, Nat.reduceSub, Nat.reduceMul, Nat.le_refl, Nat.zero_le, capsOf_nil, capsOf_cons, capArgs_nil, capArgs_cons, List.cons_append, List.nil_append, List.append_nil, ex_0, ex_0a, ex_1, ex_1a, ex_2, ex_2a, ii_lss, ii_leq, ii_gtr, ii_geq, ii_eql, ii_neq, ii_add, ii_sub, ii_mul, ss_lss, ss_geq, ss_leq, ss_gtr, ss_eql, ss_neq, List.take_succ_cons, List.take_zero, List.drop_succ_cons, List.drop_zero, List.take_nil, List.drop_nil, List.headD_cons, Bool.not_true, Bool.not_false, Nat.lt_add_one, bin_agg, bin_b, agg2_agg, bool2_b, aggEq_nil, aggEq_s, aggEq_i, aggEq_b, aggO_some, fill_nil, fill_cons, Nat.zero_mul, partsF_nil, partsF_cons, repl_one]; refine hK _ _ ?_; clear hK K)
  exact ⟨_, _, callEnd_two vs (.i .i64 (combC (-1) a b).2) (.inr rfl) rfl (by simp only [slot_put, Nat.reduceEqDiff, reduceIte]) (by simp only [slot_put, Nat.reduceEqDiff, reduceIte]), hf, fun _ => ⟨_, rfl, hs⟩⟩
end Go.Proofs.YtndipbefnipnpaaGreat
