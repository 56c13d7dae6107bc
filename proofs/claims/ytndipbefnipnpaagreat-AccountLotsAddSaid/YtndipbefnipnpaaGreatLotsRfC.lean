/- The reference's combined, Add, Sub: what they answer. -/
import Derived.Test.YtndipbefnipnpaaGreatLotsRfB
namespace Go.Proofs.YtndipbefnipnpaaGreat
open Go Go.Eng

theorem body40 : hasBody Tryz.prog 40 = true := by kernel_rfl

/-- A call in a drawn region, of a function that answers one value and leaves everything as it was. -/
theorem DC_conV {E : Env} {j m : Nat} {did : List DSy} {A : AAct} {d : Option Tmp} {H : Hp} {next : List DSy → AAct → Hp → Prop} {f : FuncId} {args : List AV} (v0 : AV)
    (h : ∀ h : Hp, h.nx = H.nx → (∀ i, i < H.nx → Untou i (unordS m did) → h.get i = H.get i) → Con E f args h (fun _ => False) fun v _ => v = v0)
    (hn : ∀ c1 H', H.nx ≤ c1 → H'.nx = c1 → Gr H H' → next (⟨j, none, H.nx, c1, []⟩ :: did) (putD A d v0) H') : DC E j m did A d H next (.enter f args) := by
  show ∀ h : Hp, _ → _ → _ → _
  intro h' hnx hget _
  refine (h h' hnx hget h'.log).mono fun v h2 ⟨hgr, hv⟩ => ⟨hgr, fun H' e1 e2 e3 e4 => ?_⟩
  have hv := hv []
  subst hv
  have hle : H.nx ≤ h2.nx := by rw [← hnx]; exact hgr.nx
  exact hn h2.nx H' hle e1 ⟨by rw [e1]; exact hle, fun i hi _ => e3 i hi, [], by rw [e2]; rfl, fun i hi => by cases hi⟩

/-- What the reference's loop comes to. -/
noncomputable def refR (sign : Int) (a b : List Lot) : List Lot → List (List UInt8) → Option (List Lot)
  | out, [] => some out
  | out, s :: ks => if 1099511627776 < addI sign (amt a s) (amt b s) ∨ addI sign (amt a s) (amt b s) < -1099511627776 then none
      else refR sign a b (if addI sign (amt a s) (amt b s) = 0 then out else out ++ [(s, addI sign (amt a s) (amt b s))]) ks

theorem refR_eq {sign : Int} {a b : List Lot} : ∀ {ps : List (Lot × Lot)} {out : List Lot}, (∀ p ∈ ps, amt a (keyP p) = p.1.2 ∧ amt b (keyP p) = p.2.2) → refR sign a b out (ps.map keyP) = runPass (okC sign) (stepC sign) out ps
  | [], _, _ => rfl
  | (x, y) :: ps, out, h => by
    obtain ⟨h1, h2⟩ := h (x, y) (List.mem_cons_self ..)
    rw [List.map_cons, refR, runPass, h1, h2]
    have e : addI sign x.2 y.2 = addN sign x y := rfl
    simp only [e]
    by_cases hb : 1099511627776 < addN sign x y ∨ addN sign x y < -1099511627776
    · have : okC sign out x y = false := by
        unfold okC
        rw [Bool.not_eq_false', Bool.or_eq_true, decide_eq_true_eq, decide_eq_true_eq]
        exact hb
      rw [if_pos hb, if_neg (by rw [this]; decide)]
    · have : okC sign out x y = true := by
        unfold okC
        rw [Bool.not_eq_true', Bool.or_eq_false_iff, decide_eq_false_iff_not, decide_eq_false_iff_not]
        omega
      rw [if_neg hb, if_pos this, refR_eq fun p hp => h p (List.mem_cons_of_mem _ hp)]
      rfl

theorem keysK_amt {a b : List Lot} (ha : Srt a) (hb : Srt b) : ∀ p ∈ pairs a b, amt a (keyP p) = p.1.2 ∧ amt b (keyP p) = p.2.2 := fun p hp => by
  obtain ⟨_, h2, h3⟩ := pairs_law a b ha hb
  have e := amtP_mem h2 p hp
  rw [h3] at e
  exact ⟨congrArg Prod.fst e, congrArg Prod.snd e⟩

theorem pairs_len (a b : List Lot) : (pairs a b).length ≤ a.length + b.length := by
  induction a, b using pairs.induct with
  | case1 => rw [pairs]; exact Nat.le_refl _
  | case2 x a ih => rw [pairs, List.length_cons, List.length_cons]; omega
  | case3 y b ih => rw [pairs, List.length_cons, List.length_cons]; omega
  | case4 x a y b h ih => rw [pairs, if_pos h, List.length_cons]; simp only [List.length_cons] at ih ⊢; omega
  | case5 x a y b h1 h2 ih => rw [pairs, if_neg h1, if_pos h2, List.length_cons]; simp only [List.length_cons] at ih ⊢; omega
  | case6 x a y b h1 h2 ih => rw [pairs, if_neg h1, if_neg h2, List.length_cons]; simp only [List.length_cons] at ih ⊢; omega
theorem keysK_len (a b : List Lot) : (keysK a b).length ≤ a.length + b.length := by
  unfold keysK
  rw [List.length_map]; exact pairs_len a b

theorem chkTwo_z {a b : List Lot} (h : chkTwo a b = 0) : chkLots a = 0 ∧ chkLots b = 0 := by
  have ha : chkLots a = 0 := by
    unfold chkTwo at h
    split at h
    · assumption
    · exact h
  exact ⟨ha, by rwa [chkTwo, if_pos ha] at h⟩

/-- A lot is appended. -/
theorem push_lot {H : Hp} {v : AC} {out : List Lot} {r : Option Nat} (s : Lot) (ho : OwnR H v 37 2 out.length (out.flatMap lotC) r) (hL : out.length ≤ 1000000) :
    ltV (.one v) (H.new (.arr [.o (.str s.1), .i .i64 s.2] 37 0 0)).nx ∧ ∃ v' H' r', doAppend Tryz.prog (H.new (.arr [.o (.str s.1), .i .i64 s.2] 37 0 0)) 22 (.one v) (.one (.o (.sl H.nx 0 0 1 2))) = .val (.one v') H' ∧
      OwnR H' v' 37 2 (out ++ [s]).length ((out ++ [s]).flatMap lotC) (some r') ∧ Fr (fun i => r = some i) H H' ∧ (r = some r' ∨ H.nx ≤ r') := by
  obtain ⟨z, hz, hzl⟩ := zeroV37
  have hown3 := ho.fr ((Fr.refl _ : Gr _ _).new (.arr [.o (.str s.1), .i .i64 s.2] 37 0 0)) fun _ _ h => h
  obtain ⟨v5, H5, r5, happ, how5, hf5, hr5⟩ := append_own (P := Tryz.prog) (t := 22) (H := H.new (.arr [.o (.str s.1), .i .i64 s.2] 37 0 0)) (x := .one (.o (.sl H.nx 0 0 1 2))) (k := 1) (c := [.o (.str s.1), .i .i64 s.2]) elem22 bytes37 hz hzl (by decide) hown3
    (by rw [srcOf_row (cells := [.o (.str s.1), .i .i64 s.2]) (by rw [get_newE rfl]; rfl) (by simp)]; rfl) (by decide) rfl (by omega) (by omega)
  refine ⟨hown3.lt, v5, H5, r5, happ, ?_, ?_, ?_⟩
  · have e1 : (out ++ [s]).length = out.length + 1 := by simp
    have e2 : (out ++ [s]).flatMap lotC = out.flatMap lotC ++ [.o (.str s.1), .i .i64 s.2] := by rw [List.flatMap_append]; rfl
    rw [e1, e2]; exact how5
  · exact ((Fr.refl _ : Gr _ _).new (.arr [.o (.str s.1), .i .i64 s.2] 37 0 0)).none.then hf5 fun q hq => .inr hq
  · rcases hr5 with h | ⟨_, h⟩
    · exact .inl h
    · right; rw [h, nxNew]; omega

set_option maxRecDepth 10000 in
set_option maxHeartbeats 4000000 in
theorem refComb_con (sign : Int) (H : Hp) (a b : List Lot) (va vb : AC) (ha : SlL H va a) (hb : SlL H vb b) :
    Con E2 40 [.one va, .one vb, .one (.i .i64 sign)] H (fun _ => False) fun v H' => ∃ vs, v = .tup [(false, [vs]), (false, [.i .i64 (combC sign a b).2])] ∧ SlL H' vs (combC sign a b).1 := by
  refine Con.of rfl fun lg => ?_
  have ha : SlL ⟨H.t, H.nx, lg⟩ va a := ha
  have hb : SlL ⟨H.t, H.nx, lg⟩ vb b := hb
  generalize (⟨H.t, H.nx, lg⟩ : Hp) = H at ha hb ⊢
  refine C1.body (E := E2) (nt := 64) (res := [.tmp 6, .tmp 7]) Tryz.func40 rfl rfl rfl rfl rfl fun tm hargs => ?_
  have h0 := hargs 0 _ rfl
  have h1 := hargs 1 _ rfl
  have h2 := hargs 2 _ rfl
  clear hargs
  repeat' first | refine R1.ret ?_ | refine R1.exit ?_ | refine R1.skip ?_ | refine R1.s_ret ?_ | refine R1.s_exit ?_ | refine R1.s_assoc ?_ | refine R1.s_skip ?_ | refine R1.s_scope ?_ | ((first | refine R1.e_rg fun K hK => ?_ | refine R1.s_rg fun K hK => ?_ | refine R1.e_sq (by kernel_rfl) fun K hK => ?_ | refine R1.s_sq (by kernel_rfl) fun K hK => ?_); simp only [SG_nil, SG_cons, SU_yes, gw_n, gOf_n, List.map_cons, List.map_nil, Nat.zero_lt_succ, SK_move, SK_assign, SK_call, evTmp, ev_int, ev_nilS, ev_func, evs_cons, evs_nil, slot_put, putD_nt, slotOk, Nat.blt_eq, Nat.reduceLT, true_and, if_true, if_false, eqLt, eqGt, Nat.lt_add_one, E2_P, h0, h1]; refine hK _ _ ?_; clear hK K)
  refine R1.s_rg fun K hK => ?_
  simp only [SG_cons, SU_yes, gw_n, gOf_n, List.map_cons, List.map_nil, Nat.zero_lt_succ, SK_move, SK_call, doCall_clo, doCall_clo, evTmp, ev_func, evs_cons, evs_nil, slot_put, putD_nt, slotOk, Nat.blt_eq, Nat.reduceLT, true_and, if_true, if_false, eqLt, eqGt, capArgs_nil, List.append_nil, Nat.lt_add_one, E2_P, h0, h1, body41]
  refine WE.con (refTwo_con _ a b va vb ha hb) fun v2 H2 hf hv => ?_
  subst hv
  simp only [SG_nil, SG_cons, SU_yes, gw_n, SK_assign, evTmp, slot_put, putD_nt, slotOk, Nat.blt_eq, Nat.reduceLT, true_and, if_true, if_false, eqGt, Nat.lt_add_one]
  refine hK _ _ ?_
  clear hK K
  have ha2 := ha.gr hf
  have hb2 := hb.gr hf
  repeat' first | refine R1.ret ?_ | refine R1.exit ?_ | refine R1.skip ?_ | refine R1.s_ret ?_ | refine R1.s_exit ?_ | refine R1.s_assoc ?_ | refine R1.s_skip ?_ | refine R1.s_scope ?_ | ((first | refine R1.e_rg fun K hK => ?_ | refine R1.s_rg fun K hK => ?_ | refine R1.e_sq (by kernel_rfl) fun K hK => ?_ | refine R1.s_sq (by kernel_rfl) fun K hK => ?_); simp only [SG_nil, SG_cons, SU_yes, gw_n, gOf_n, List.map_cons, List.map_nil, vN_val, SK_move, SK_bin, evTmp, ev_int, slot_put, putD_nt, slotOk, Nat.blt_eq, Nat.reduceLT, true_and, if_true, if_false, eqLt, eqGt, ii_neq, Nat.lt_add_one, E2_P]; refine hK _ _ ?_; clear hK K)
  (first | refine R1.s_cnd fun Kx Ky hx hy => ?_ | refine R1.e_cnd fun Kx Ky hx hy => ?_); simp only [boolP'_b, evTmp, slot_put, Nat.reduceLT, if_true, if_false, eqGt, Bool.not_eq_true', Nat.lt_add_one]
  refine iteI (fun hc => hx ?_) (fun hc => hy ?_)
  · clear hx hy Kx Ky
    repeat' first | refine R1.ret ?_ | refine R1.exit ?_ | refine R1.skip ?_ | refine R1.s_ret ?_ | refine R1.s_exit ?_ | refine R1.s_assoc ?_ | refine R1.s_skip ?_ | refine R1.s_scope ?_ | ((first | refine R1.e_rg fun K hK => ?_ | refine R1.s_rg fun K hK => ?_ | refine R1.e_sq (by kernel_rfl) fun K hK => ?_ | refine R1.s_sq (by kernel_rfl) fun K hK => ?_); simp only [SG_nil, SG_cons, SU_yes, gw_n, gOf_n, List.map_cons, List.map_nil, SK_move, SK_assign, evTmp, ev_nilS, slot_put, putD_nt, slotOk, Nat.blt_eq, Nat.reduceLT, true_and, if_true, if_false, eqLt, eqGt, Nat.lt_add_one]; refine hK _ _ ?_; clear hK K)
    refine ⟨_, _, callEnd_two (.o .nilS) (.i .i64 (chkTwo a b)) (.inr rfl) rfl (by simp only [slot_put, Nat.reduceEqDiff, reduceIte]) (by simp only [slot_put, Nat.reduceEqDiff, reduceIte]), hf, fun _ => ?_⟩
    have : chkTwo a b ≠ 0 := by simpa using hc
    rw [combC, if_neg this]
    exact ⟨_, rfl, SlL.nil⟩
  · clear hx hy Kx Ky
    have h00 : chkTwo a b = 0 := by simpa using hc
    clear hc
    have hlen := chkTwo_len h00
    have hla : a.length ≤ 64 := (chk_ok (chkTwo_z h00).1).2
    have hlb : b.length ≤ 64 := (chk_ok (chkTwo_z h00).2).2
    have hkl := keysK_len a b
    have hrr : refR sign a b [] (keysK a b) = runPass (okC sign) (stepC sign) [] (pairs a b) := refR_eq (keysK_amt (srt_ok (chk_ok (chkTwo_z h00).1).1) (srt_ok (chk_ok (chkTwo_z h00).2).1))
    have hcc : combC sign a b = (refR sign a b [] (keysK a b)).elim ([], 6) fun t => if 64 < t.length then ([], 3) else (t, 0) := by rw [combC, if_pos h00, hrr]
    rw [hcc]
    clear hcc hrr
    generalize hks : keysK a b = ks at hkl ⊢
    generalize hr0 : refR sign a b [] ks = r0
    repeat' first | refine R1.ret ?_ | refine R1.exit ?_ | refine R1.skip ?_ | refine R1.s_ret ?_ | refine R1.s_exit ?_ | refine R1.s_assoc ?_ | refine R1.s_skip ?_ | refine R1.s_scope ?_ | ((first | refine R1.e_rg fun K hK => ?_ | refine R1.s_rg fun K hK => ?_ | refine R1.e_sq (by kernel_rfl) fun K hK => ?_ | refine R1.s_sq (by kernel_rfl) fun K hK => ?_); simp only [SG_nil, SG_cons, SU_yes, gw_n, gOf_n, List.map_cons, List.map_nil, Nat.zero_lt_succ, SK_move, SK_assign, SK_call, evTmp, ev_nilS, ev_func, evs_cons, evs_nil, slot_put, putD_nt, slotOk, Nat.blt_eq, Nat.reduceLT, true_and, if_true, if_false, eqLt, eqGt, Nat.lt_add_one, E2_P]; refine hK _ _ ?_; clear hK K)
    refine R1.s_rg fun K hK => ?_
    simp only [SG_cons, SU_yes, gw_n, gOf_n, List.map_cons, List.map_nil, Nat.zero_lt_succ, SK_move, SK_call, doCall_clo, doCall_clo, evTmp, ev_func, evs_cons, evs_nil, slot_put, putD_nt, slotOk, Nat.blt_eq, Nat.reduceLT, true_and, if_true, if_false, eqLt, eqGt, capArgs_nil, List.append_nil, Nat.lt_add_one, E2_P, h0, h1, body42]
    refine WE.con (goods_con _ a b va vb ha2 hb2 hlen) fun v3 H3 hf3 ⟨vs, hv, hs⟩ => ?_
    subst hv
    rw [hks] at hs
    simp only [SG_nil, SG_cons, SU_yes, gw_n, SK_assign, evTmp, slot_put, putD_nt, slotOk, Nat.blt_eq, Nat.reduceLT, true_and, if_true, if_false, eqGt, Nat.lt_add_one]
    refine hK _ _ ?_
    clear hK K
    have ha3 := ha2.gr hf3
    have hb3 := hb2.gr hf3
    have g3 := hf.gr hf3
    repeat' first | refine R1.ret ?_ | refine R1.exit ?_ | refine R1.skip ?_ | refine R1.s_ret ?_ | refine R1.s_exit ?_ | refine R1.s_assoc ?_ | refine R1.s_skip ?_ | refine R1.s_scope ?_ | ((first | refine R1.e_rg fun K hK => ?_ | refine R1.s_rg fun K hK => ?_ | refine R1.e_sq (by kernel_rfl) fun K hK => ?_ | refine R1.s_sq (by kernel_rfl) fun K hK => ?_); simp only [SG_nil, SG_cons, SU_yes, gw_n, gOf_n, List.map_cons, List.map_nil, SK_assign, ev_int, putD_nt, slotOk, Nat.blt_eq, Nat.reduceLT, true_and]; refine hK _ _ ?_; clear hK K)
    refine R1.s_block fun K k1 k2 k3 k4 => ?_
    refine R1.loop (fun m A1 H1 => ∃ (i : Nat) (out : List Lot) (v9 : AC) (r : Option Nat), m = ks.length - i ∧ i ≤ ks.length ∧ out.length ≤ i ∧ refR sign a b out (ks.drop i) = r0 ∧ OwnR H1 v9 37 2 out.length (out.flatMap lotC) r ∧ (∀ q, r = some q → H3.nx ≤ q) ∧ Gr H3 H1 ∧
      slot A1.tm 0 = .one va ∧ slot A1.tm 1 = .one vb ∧ slot A1.tm 2 = .one (.i .i64 sign) ∧ slot A1.tm 9 = .one v9 ∧ slot A1.tm 10 = .one vs ∧ slot A1.tm 11 = .one (.i .i64 (i : Int)) ∧ A1.nt = 64 ∧ A1.dfr = []) ?_ ks.length
      ⟨0, [], .o .nilS, none, rfl, Nat.zero_le _, Nat.le_refl _, hr0, .inl ⟨rfl, rfl, rfl, rfl⟩, fun q hq => (by cases hq), Fr.refl _, ?_, ?_, ?_, ?_, ?_, ?_, rfl, rfl⟩
    · clear h0 h1 h2 tm hr0
      rintro m A1 H1 ⟨i, out, v9, r, rfl, hi, hout, hr, hown, hrow, hgr, t0, t1, t2, t9, t10, t11, hnt, hdf⟩
      have hs1 := hs.gr hgr
      have ha1 := ha3.gr hgr
      have hb1 := hb3.gr hgr
      repeat' first | refine R1.ret ?_ | refine R1.exit ?_ | refine R1.skip ?_ | refine R1.s_ret ?_ | refine R1.s_exit ?_ | refine R1.s_assoc ?_ | refine R1.s_skip ?_ | refine R1.s_scope ?_ | ((first | refine R1.e_rg fun K hK => ?_ | refine R1.s_rg fun K hK => ?_ | refine R1.e_sq (by kernel_rfl) fun K hK => ?_ | refine R1.s_sq (by kernel_rfl) fun K hK => ?_); simp only [SG_nil, SG_cons, SU_yes, gw_n, gOf_n, List.map_cons, List.map_nil, vN_val, lnN_some, SK_move, SK_bin, SK_len, evTmp, slot_put, putD_nt, slotOk, Nat.blt_eq, Nat.reduceLT, true_and, if_true, if_false, eqLt, eqGt, ii_lss, Nat.lt_add_one, E2_P, t10, t11, hnt, len74, hs1.len, hs1.lt]; refine hK _ _ ?_; clear hK K)
      (first | refine R1.s_cnd fun Kx Ky hx hy => ?_ | refine R1.e_cnd fun Kx Ky hx hy => ?_); simp only [boolP'_b, decide_eq_true_eq, evTmp, slot_put, Nat.reduceLT, if_true, if_false, eqGt, Nat.lt_add_one]
      refine iteI (fun hd => hx ?_) (fun hd => hy ?_)
      · clear hx hy Kx Ky
        have hlt : i < ks.length := by omega
        obtain ⟨id, g, off, cells, rfl, hid, hg, hat⟩ := hs1.open (by omega)
        have ek : ks[i]? = some ks[i] := List.getElem?_eq_getElem hlt
        have hdr : ks.drop i = ks[i] :: ks.drop (i + 1) := List.drop_eq_getElem_cons hlt
        generalize ks[i] = s at ek hdr
        obtain ⟨e1, e2⟩ := hat i s ek
        rw [hdr, refR] at hr
        repeat' first | refine R1.ret ?_ | refine R1.exit ?_ | refine R1.skip ?_ | refine R1.s_ret ?_ | refine R1.s_exit ?_ | refine R1.s_assoc ?_ | refine R1.s_skip ?_ | refine R1.s_scope ?_ | ((first | refine R1.e_rg fun K hK => ?_ | refine R1.s_rg fun K hK => ?_ | refine R1.e_sq (by kernel_rfl) fun K hK => ?_ | refine R1.s_sq (by kernel_rfl) fun K hK => ?_); simp only [SG_nil, SG_cons, SU_yes, SU_no, gw_n, gw_gwv, gwv_b, gwv_u, gOf_n, gOf_some, List.map_cons, List.map_nil, List.getElem?_cons_zero, List.getElem?_cons_succ, Option.elim_some, Option.map_some, Option.bind_some, optP_some, boolP_b, boolP'_b, boolE_b, decide_eq_true_eq, decide_true, decide_false, valP_val, valP_guard, vN_val, ldN_some, stN_some, faN_some, iaN_some, lnN_some, pkN_b, sliceO_some, slice_lo, slice_hi, slice_1, indexAddr_0, Nat.add_one_sub_one, Nat.one_mul, len_sl, len_ns, len_str', posS, eq0S, cast0, Int.reduceLT, Int.reduceLE, Int.reduceBEq, Option.map_none, Nat.lt_add_left_iff_pos, Nat.zero_lt_succ, Nat.le_add_left, SK_move, SK_assign, SK_pick, SK_alloc, SK_box, SK_load, SK_store, SK_bin, SK_not, SK_fieldAddr, SK_field, SK_indexAddr, SK_slice, SK_extract, SK_nilCheck, SK_makeFunc, SK_makeMap, SK_makeSlice, SK_build, SK_buildSlice, SK_len, SK_append, SK_call, doCall_clo, doCall_clo, evTmp, ev_int, ev_bool, ev_str, ev_nilS, ev_func, opFev, evs_cons, evs_nil, slot_put, putD_nt, putD_none, putD_dfr, slotOk, Nat.blt_eq, Nat.reduceLT, Nat.reduceEqDiff, Nat.reduceLeDiff, reduceIte, true_and, and_true, true_or, or_true, if_true, if_false, Bool.false_eq_true, Bool.true_eq_false, not_false_eq_true, not_true_eq_false, ltV_ptr, ltV_sl, ltV_nil, ltV_str, ltV_i, nxNew, nxMod, get_newE, get_newL, get_modE, get_modN, ltAdd, ltSelf, eqLt, eqGt, eqLtA, eqGtA, eqSelfA, eqASelf, eqAA, ltAA, doLoad_ptr, doStore_ptr, rowOf_arr, rowOf_ro, ldO_agg, ldO_one, stO_arr, splice_eq, fieldAddr_at, Bool.not_eq_true', Bool.not_eq_false', decide_eq_false_iff_not, ne_eq, Nat.reduceLeDiff, Nat.lt_irrefl, gt_iff_lt, cells_one, cells_agg, noTup_one, noTup_agg, List.length_cons, List.length_nil, Nat.zero_add, Nat.add_zero, Nat.reduceAdd, Nat.reduceSub, Nat.reduceMul, Nat.le_refl, Nat.zero_le, capsOf_nil, capsOf_cons, capArgs_nil, capArgs_cons, List.cons_append, List.nil_append, List.append_nil, ex_0, ex_0a, ex_1, ex_1a, ex_2, ex_2a, ii_lss, ii_leq, ii_gtr, ii_geq, ii_eql, ii_neq, ii_add, ii_sub, ii_mul, ss_lss, ss_geq, ss_leq, ss_gtr, ss_eql, ss_neq, List.take_succ_cons, List.take_zero, List.drop_succ_cons, List.drop_zero, List.take_nil, List.drop_nil, List.headD_cons, Bool.not_true, Bool.not_false, Nat.lt_add_one, bin_agg, bin_b, agg2_agg, bool2_b, aggEq_nil, aggEq_s, aggEq_i, aggEq_b, aggO_some, fill_nil, fill_cons, Nat.zero_mul, partsF_nil, partsF_cons, repl_one]; refine hK _ _ ?_; clear hK K)
        refine R1.s_block fun K2 q1 q2 q3 q4 => ?_
        repeat refine R1.s_assoc ?_
        (first | refine R1.s_drw (ms := [0, 0, 0, 6, 14, 31, 0, 0, 0, 0, 768, 1792, 4031, 8191, 16383, 32767]) (by kernel_rfl) (by kernel_rfl) fun K hK => ?_ | refine R1.e_drw (ms := [0, 0, 0, 6, 14, 31, 0, 0, 0, 0, 768, 1792, 4031, 8191, 16383, 32767]) (by kernel_rfl) (by kernel_rfl) fun K hK => ?_)
        simp (config := {decide := true}) only [gw_n, gOf_n, valP_val, doCall_clo, doCall_clo, evTmp, ev_func, evs_cons, evs_nil, slot_put, putD_nt, slotOk, Nat.blt_eq, Nat.reduceLT, true_and, if_true, if_false, doLoad_ptr, ldO_one, Nat.zero_add, Nat.reduceAdd, Nat.le_refl, capArgs_nil, List.append_nil, DO_cons, DO_nil, DU_yes, DK_load, DK_call, DK_move, DK_assign, DK_binOp, DK_indexAddr, ptrP_ptr, DP_val, unordS, Untou, st_move, st_assign, st_bin, st_load', st_indexAddr', ldS_some, iaS_some, E2_P, t0, t10, t11, hnt, elem74, load9, indexAddr_cast hlt, hid, hg, e1, e2, body43]
        refine DC_conV (.one (.i .i64 (amt a s))) (fun h hn hget => amount_con h a va s (SlC.of_get ha1 (Nat.le_of_eq hn.symm) fun i hi => hget i hi (by simp (config := {decide := true}) only [unordS, Untou, if_true])) hla) fun c1 H4 hc1 hn4 hf4 => ?_
        subst hn4
        have hid4 : id < H4.nx := Nat.lt_of_lt_of_le hid hf4.nx
        have hg4 : rowOf (H4.get id) g = some cells := by rw [hf4.get _ hid not_false]; exact hg
        simp (config := {decide := true}) only [valP_val, slot_put, putD_nt, Nat.reduceLT, true_and, and_true, true_or, if_true, if_false, not_false_eq_true, doLoad_ptr, ldO_one, Nat.le_refl, ptrP_ptr, DP_val, unordS, Untou, List.not_mem_nil, not_false_eq_true, t1, t2, t10, t11, hnt, indexAddr_cast hlt, hid4, hg4, hid, e1, e2]
        refine DC_conV (.one (.i .i64 (amt b s))) (fun h hn hget => amount_con h b vb s (SlC.of_get (hb1.gr hf4) (Nat.le_of_eq hn.symm) fun i hi => hget i hi (by simp (config := {decide := true}) only [unordS, Untou, if_true])) hlb) fun c1 H5 hc1 hn5 hf5 => ?_
        subst hn5
        have g5 : Gr H3 H5 := (hgr.gr hf4).gr hf5
        have hid5 : id < H5.nx := Nat.lt_of_lt_of_le hid4 hf5.nx
        have hg5 : rowOf (H5.get id) g = some cells := by rw [hf5.get _ hid4 not_false]; exact hg4
        have hown5 := (hown.fr hf4 fun _ _ h => h).fr hf5 fun _ _ h => h
        have hN : addI sign (amt a s) (amt b s) = IntKind.i64.wrap (amt a s + IntKind.i64.wrap (sign * amt b s)) := rfl
        simp (config := {decide := true}) only [slot_put, putD_nt, Nat.reduceLT, true_and, if_true, if_false, ii_add, ii_mul, DP_val, hnt, ← hN]
        generalize addI sign (amt a s) (amt b s) = N at hr
        refine hK _ _ ?_
        clear hK K
        have hw2 : IntKind.i64.wrap ((i : Int) + 1) = ((i + 1 : Nat) : Int) := by rw [wrapI (by omega) (by omega)]; omega
        repeat refine R1.s_assoc ?_
        by_cases hbig : 1099511627776 < N
        · have cb : (1099511627776 < N) = True := eq_true hbig
          refine R1.s_rg fun K hK => ?_
          simp only [SG_nil, SG_cons, SU_yes, SU_no, gw_n, gw_gwv, gwv_b, gOf_n, gOf_some, List.map_cons, List.map_nil, List.getElem?_cons_zero, List.getElem?_cons_succ, Option.elim_some, decide_true, vN_val, pkN_b, SK_move, SK_pick, SK_bin, evTmp, ev_int, ev_bool, slot_put, putD_nt, slotOk, Nat.blt_eq, Nat.reduceLT, true_and, if_true, if_false, Bool.true_eq_false, eqLt, eqGt, ii_gtr, Nat.lt_add_one, E2_P, hnt, cb]
          refine hK _ _ ?_
          clear hK K
          (first | refine R1.s_cnd fun Kx Ky hx hy => ?_ | refine R1.e_cnd fun Kx Ky hx hy => ?_); simp only [boolP'_b, evTmp, slot_put, Nat.reduceLT, if_true, if_false, eqGt, Nat.lt_add_one]
          refine hx ?_
          clear hx hy Kx Ky
          repeat' first | refine R1.ret ?_ | refine R1.exit ?_ | refine R1.skip ?_ | refine R1.s_ret ?_ | refine R1.s_exit ?_ | refine R1.s_assoc ?_ | refine R1.s_skip ?_ | refine R1.s_scope ?_ | ((first | refine R1.e_rg fun K hK => ?_ | refine R1.s_rg fun K hK => ?_ | refine R1.e_sq (by kernel_rfl) fun K hK => ?_ | refine R1.s_sq (by kernel_rfl) fun K hK => ?_); simp only [SG_nil, SG_cons, SU_yes, gw_n, gOf_n, List.map_cons, List.map_nil, SK_assign, ev_int, ev_nilS, putD_nt, slotOk, Nat.blt_eq, Nat.reduceLT, true_and, hnt]; refine hK _ _ ?_; clear hK K)
          refine q4 _ _ (k4 _ _ ⟨_, _, callEnd_two (.o .nilS) (.i .i64 6) (.inr rfl) (by simp only [putD_dfr, hdf]) (by simp only [slot_put, Nat.reduceEqDiff, reduceIte]) (by simp only [slot_put, Nat.reduceEqDiff, reduceIte]), g3.gr g5, fun _ => ?_⟩)
          rw [if_pos (.inl hbig)] at hr
          rw [← hr]
          exact ⟨_, rfl, SlL.nil⟩
        · have cb : (1099511627776 < N) = False := eq_false hbig
          by_cases hsm : N < -1099511627776
          · have cs : (N < -1099511627776) = True := eq_true hsm
            refine R1.s_rg fun K hK => ?_
            simp only [SG_nil, SG_cons, SU_yes, gw_n, gw_gwv, gwv_b, gOf_n, gOf_some, List.map_cons, List.map_nil, List.getElem?_cons_zero, List.getElem?_cons_succ, Option.elim_some, decide_true, decide_false, vN_val, pkN_b, SK_move, SK_pick, SK_bin, evTmp, ev_int, ev_bool, slot_put, putD_nt, slotOk, Nat.blt_eq, Nat.reduceLT, true_and, if_true, if_false, Bool.false_eq_true, eqLt, eqGt, ii_lss, ii_gtr, Nat.lt_add_one, E2_P, hnt, cb, cs]
            refine hK _ _ ?_
            clear hK K
            (first | refine R1.s_cnd fun Kx Ky hx hy => ?_ | refine R1.e_cnd fun Kx Ky hx hy => ?_); simp only [boolP'_b, evTmp, slot_put, Nat.reduceLT, if_true, if_false, eqGt, Nat.lt_add_one]
            refine hx ?_
            clear hx hy Kx Ky
            repeat' first | refine R1.ret ?_ | refine R1.exit ?_ | refine R1.skip ?_ | refine R1.s_ret ?_ | refine R1.s_exit ?_ | refine R1.s_assoc ?_ | refine R1.s_skip ?_ | refine R1.s_scope ?_ | ((first | refine R1.e_rg fun K hK => ?_ | refine R1.s_rg fun K hK => ?_ | refine R1.e_sq (by kernel_rfl) fun K hK => ?_ | refine R1.s_sq (by kernel_rfl) fun K hK => ?_); simp only [SG_nil, SG_cons, SU_yes, gw_n, gOf_n, List.map_cons, List.map_nil, SK_assign, ev_int, ev_nilS, putD_nt, slotOk, Nat.blt_eq, Nat.reduceLT, true_and, hnt]; refine hK _ _ ?_; clear hK K)
            refine q4 _ _ (k4 _ _ ⟨_, _, callEnd_two (.o .nilS) (.i .i64 6) (.inr rfl) (by simp only [putD_dfr, hdf]) (by simp only [slot_put, Nat.reduceEqDiff, reduceIte]) (by simp only [slot_put, Nat.reduceEqDiff, reduceIte]), g3.gr g5, fun _ => ?_⟩)
            rw [if_pos (.inr hsm)] at hr
            rw [← hr]
            exact ⟨_, rfl, SlL.nil⟩
          · have cs : (N < -1099511627776) = False := eq_false hsm
            refine R1.s_rg fun K hK => ?_
            simp only [SG_nil, SG_cons, SU_yes, gw_n, gw_gwv, gwv_b, gOf_n, gOf_some, List.map_cons, List.map_nil, List.getElem?_cons_zero, List.getElem?_cons_succ, Option.elim_some, decide_false, vN_val, pkN_b, SK_move, SK_pick, SK_bin, evTmp, ev_int, ev_bool, slot_put, putD_nt, slotOk, Nat.blt_eq, Nat.reduceLT, true_and, if_true, if_false, Bool.false_eq_true, eqLt, eqGt, ii_lss, ii_gtr, Nat.lt_add_one, E2_P, hnt, cb, cs]
            refine hK _ _ ?_
            clear hK K
            (first | refine R1.s_cnd fun Kx Ky hx hy => ?_ | refine R1.e_cnd fun Kx Ky hx hy => ?_); simp only [boolP'_b, evTmp, slot_put, Nat.reduceLT, if_true, if_false, Bool.false_eq_true, eqGt, Nat.lt_add_one]
            refine hy ?_
            clear hx hy Kx Ky
            rw [if_neg (by omega)] at hr
            repeat' first | refine R1.ret ?_ | refine R1.exit ?_ | refine R1.skip ?_ | refine R1.s_ret ?_ | refine R1.s_exit ?_ | refine R1.s_assoc ?_ | refine R1.s_skip ?_ | refine R1.s_scope ?_ | ((first | refine R1.e_rg fun K hK => ?_ | refine R1.s_rg fun K hK => ?_ | refine R1.e_sq (by kernel_rfl) fun K hK => ?_ | refine R1.s_sq (by kernel_rfl) fun K hK => ?_); simp only [SG_nil, SG_cons, SU_yes, gw_n, gOf_n, List.map_cons, List.map_nil, vN_val, SK_move, SK_bin, evTmp, ev_int, slot_put, putD_nt, slotOk, Nat.blt_eq, Nat.reduceLT, true_and, if_true, if_false, eqLt, eqGt, ii_neq, Nat.lt_add_one, hnt]; refine hK _ _ ?_; clear hK K)
            (first | refine R1.s_cnd fun Kx Ky hx hy => ?_ | refine R1.e_cnd fun Kx Ky hx hy => ?_); simp only [boolP'_b, evTmp, slot_put, Nat.reduceLT, if_true, if_false, eqGt, Bool.not_eq_true', Nat.lt_add_one]
            refine iteI (fun he => hx ?_) (fun he => hy ?_)
            · clear hx hy Kx Ky
              have hnz : N ≠ 0 := by simpa using he
              rw [if_neg hnz] at hr
              obtain ⟨hlt6, v6, H6, r6, happ, how6, hf6, hr6⟩ := push_lot (s, N) hown5 (by omega)
              refine R1.e_rg fun K hK => ?_
              simp only [SG_nil, SG_cons, SU_yes, gw_n, gOf_n, List.map_cons, List.map_nil, Option.map_some, Option.bind_some, optP_some, vN_val, ldN_some, iaN_some, Nat.one_mul, SK_move, SK_assign, SK_load, SK_indexAddr, SK_build, SK_buildSlice, SK_append, evTmp, opFev, slot_put, putD_nt, slotOk, Nat.blt_eq, Nat.reduceLT, Nat.reduceLeDiff, true_and, and_true, if_true, if_false, ltV_ptr, ltV_sl, nxNew, eqLt, eqGt, doLoad_ptr, ldO_one, Nat.reduceLeDiff, cells_one, cells_agg, noTup_one, noTup_agg, List.length_cons, List.length_nil, Nat.zero_add, Nat.reduceAdd, Nat.le_refl, List.cons_append, List.nil_append, List.append_nil, List.take_succ_cons, List.take_zero, List.drop_succ_cons, List.drop_zero, List.drop_nil, Nat.lt_add_one, fill_nil, fill_cons, Nat.zero_mul, partsF_nil, partsF_cons, repl_one, E2_P, hnt, t9, t10, t11, elem74, elem22, load9, indexAddr_cast hlt, hid5, hg5, e1, e2, zero37, place37, pl37_0, pl37_1, repl_one, happ]
              refine ⟨hlt6, ?_⟩
              refine hK _ _ ?_
              clear hK K
              refine q1 _ _ ?_
              repeat' first | refine R1.ret ?_ | refine R1.exit ?_ | refine R1.skip ?_ | refine R1.s_ret ?_ | refine R1.s_exit ?_ | refine R1.s_assoc ?_ | refine R1.s_skip ?_ | refine R1.s_scope ?_ | ((first | refine R1.e_rg fun K hK => ?_ | refine R1.s_rg fun K hK => ?_ | refine R1.e_sq (by kernel_rfl) fun K hK => ?_ | refine R1.s_sq (by kernel_rfl) fun K hK => ?_); simp only [SG_nil, SG_cons, SU_yes, gw_n, gOf_n, List.map_cons, List.map_nil, vN_val, SK_move, SK_assign, SK_bin, evTmp, ev_int, slot_put, putD_nt, slotOk, Nat.blt_eq, Nat.reduceLT, true_and, if_true, if_false, eqLt, eqGt, ii_add, Nat.lt_add_one, hnt, t11, hw2]; refine hK _ _ ?_; clear hK K)
              refine ⟨ks.length - (i + 1), by omega, i + 1, out ++ [(s, N)], v6, some r6, rfl, hlt, by rw [List.length_append, List.length_singleton]; omega, hr, how6, fun q hq => ?_, g5.then hf6 fun q hq => .inl (hrow q hq), ?_, ?_, ?_, ?_, ?_, ?_, ?_, ?_⟩
              · cases hq
                rcases hr6 with h | h
                · exact hrow _ h
                · exact Nat.le_trans g5.nx h
              · simp only [slot_put, Nat.reduceEqDiff, reduceIte, t0]
              · simp only [slot_put, Nat.reduceEqDiff, reduceIte, t1]
              · simp only [slot_put, Nat.reduceEqDiff, reduceIte, t2]
              · simp only [slot_put, Nat.reduceEqDiff, reduceIte]
              · simp only [slot_put, Nat.reduceEqDiff, reduceIte, t10]
              · simp only [slot_put, Nat.reduceEqDiff, reduceIte]
              · simp only [putD_nt, hnt]
              · simp only [putD_dfr, hdf]
            · clear hx hy Kx Ky
              have hz : N = 0 := by simpa using he
              rw [if_pos hz] at hr
              repeat' first | refine R1.ret ?_ | refine R1.exit ?_ | refine R1.skip ?_ | refine R1.s_ret ?_ | refine R1.s_exit ?_ | refine R1.s_assoc ?_ | refine R1.s_skip ?_ | refine R1.s_scope ?_ | ((first | refine R1.e_rg fun K hK => ?_ | refine R1.s_rg fun K hK => ?_ | refine R1.e_sq (by kernel_rfl) fun K hK => ?_ | refine R1.s_sq (by kernel_rfl) fun K hK => ?_); simp only [SG_nil, SG_cons, SU_yes, SU_no, gw_n, gw_gwv, gwv_b, gwv_u, gOf_n, gOf_some, List.map_cons, List.map_nil, List.getElem?_cons_zero, List.getElem?_cons_succ, Option.elim_some, Option.map_some, Option.bind_some, optP_some, boolP_b, boolP'_b, boolE_b, decide_eq_true_eq, decide_true, decide_false, valP_val, valP_guard, vN_val, ldN_some, stN_some, faN_some, iaN_some, lnN_some, pkN_b, sliceO_some, slice_lo, slice_hi, slice_1, indexAddr_0, Nat.add_one_sub_one, Nat.one_mul, len_sl, len_ns, len_str', posS, eq0S, cast0, Int.reduceLT, Int.reduceLE, Int.reduceBEq, Option.map_none, Nat.lt_add_left_iff_pos, Nat.zero_lt_succ, Nat.le_add_left, SK_move, SK_assign, SK_pick, SK_alloc, SK_box, SK_load, SK_store, SK_bin, SK_not, SK_fieldAddr, SK_field, SK_indexAddr, SK_slice, SK_extract, SK_nilCheck, SK_makeFunc, SK_makeMap, SK_makeSlice, SK_build, SK_buildSlice, SK_len, SK_append, SK_call, doCall_clo, doCall_clo, evTmp, ev_int, ev_bool, ev_str, ev_nilS, ev_func, opFev, evs_cons, evs_nil, slot_put, putD_nt, putD_none, putD_dfr, slotOk, Nat.blt_eq, Nat.reduceLT, Nat.reduceEqDiff, Nat.reduceLeDiff, reduceIte, true_and, and_true, true_or, or_true, if_true, if_false, Bool.false_eq_true, Bool.true_eq_false, not_false_eq_true, not_true_eq_false, ltV_ptr, ltV_sl, ltV_nil, ltV_str, ltV_i, nxNew, nxMod, get_newE, get_newL, get_modE, get_modN, ltAdd, ltSelf, eqLt, eqGt, eqLtA, eqGtA, eqSelfA, eqASelf, eqAA, ltAA, doLoad_ptr, doStore_ptr, rowOf_arr, rowOf_ro, ldO_agg, ldO_one, stO_arr, splice_eq, fieldAddr_at, Bool.not_eq_true', Bool.not_eq_false', decide_eq_false_iff_not, ne_eq, Nat.reduceLeDiff, Nat.lt_irrefl, gt_iff_lt, cells_one, cells_agg, noTup_one, noTup_agg, List.length_cons, List.length_nil, Nat.zero_add, Nat.add_zero, Nat.reduceAdd, Nat.reduceSub, Nat.reduceMul, Nat.le_refl, Nat.zero_le, capsOf_nil, capsOf_cons, capArgs_nil, capArgs_cons, List.cons_append, List.nil_append, List.append_nil, ex_0, ex_0a, ex_1, ex_1a, ex_2, ex_2a, ii_lss, ii_leq, ii_gtr, ii_geq, ii_eql, ii_neq, ii_add, ii_sub, ii_mul, ss_lss, ss_geq, ss_leq, ss_gtr, ss_eql, ss_neq, List.take_succ_cons, List.take_zero, List.drop_succ_cons, List.drop_zero, List.take_nil, List.drop_nil, List.headD_cons, Bool.not_true, Bool.not_false, Nat.lt_add_one, bin_agg, bin_b, agg2_agg, bool2_b, aggEq_nil, aggEq_s, aggEq_i, aggEq_b, aggO_some, fill_nil, fill_cons, Nat.zero_mul, partsF_nil, partsF_cons, repl_one, hnt]; refine hK _ _ ?_; clear hK K)
              refine q1 _ _ ?_
              repeat' first | refine R1.ret ?_ | refine R1.exit ?_ | refine R1.skip ?_ | refine R1.s_ret ?_ | refine R1.s_exit ?_ | refine R1.s_assoc ?_ | refine R1.s_skip ?_ | refine R1.s_scope ?_ | ((first | refine R1.e_rg fun K hK => ?_ | refine R1.s_rg fun K hK => ?_ | refine R1.e_sq (by kernel_rfl) fun K hK => ?_ | refine R1.s_sq (by kernel_rfl) fun K hK => ?_); simp only [SG_nil, SG_cons, SU_yes, gw_n, gOf_n, List.map_cons, List.map_nil, vN_val, SK_move, SK_assign, SK_bin, evTmp, ev_int, slot_put, putD_nt, slotOk, Nat.blt_eq, Nat.reduceLT, true_and, if_true, if_false, eqLt, eqGt, ii_add, Nat.lt_add_one, hnt, t11, hw2]; refine hK _ _ ?_; clear hK K)
              refine ⟨ks.length - (i + 1), by omega, i + 1, out, v9, r, rfl, hlt, by omega, hr, hown5, hrow, g5, ?_, ?_, ?_, ?_, ?_, ?_, ?_, ?_⟩
              · simp only [slot_put, Nat.reduceEqDiff, reduceIte, t0]
              · simp only [slot_put, Nat.reduceEqDiff, reduceIte, t1]
              · simp only [slot_put, Nat.reduceEqDiff, reduceIte, t2]
              · simp only [slot_put, Nat.reduceEqDiff, reduceIte, t9]
              · simp only [slot_put, Nat.reduceEqDiff, reduceIte, t10]
              · simp only [slot_put, Nat.reduceEqDiff, reduceIte]
              · simp only [putD_nt, hnt]
              · simp only [putD_dfr, hdf]
      · clear hx hy Kx Ky
        have hie : i = ks.length := by omega
        subst hie
        rw [List.drop_length, refR] at hr
        have hown2 := hown.slc
        have hsl : SlL H1 v9 out := hown2
        repeat' first | refine R1.ret ?_ | refine R1.exit ?_ | refine R1.skip ?_ | refine R1.s_ret ?_ | refine R1.s_exit ?_ | refine R1.s_assoc ?_ | refine R1.s_skip ?_ | refine R1.s_scope ?_ | ((first | refine R1.e_rg fun K hK => ?_ | refine R1.s_rg fun K hK => ?_ | refine R1.e_sq (by kernel_rfl) fun K hK => ?_ | refine R1.s_sq (by kernel_rfl) fun K hK => ?_); simp only [SG_nil, SG_cons, SU_yes, SU_no, gw_n, gw_gwv, gwv_b, gwv_u, gOf_n, gOf_some, List.map_cons, List.map_nil, List.getElem?_cons_zero, List.getElem?_cons_succ, Option.elim_some, Option.map_some, Option.bind_some, optP_some, boolP_b, boolP'_b, boolE_b, decide_eq_true_eq, decide_true, decide_false, valP_val, valP_guard, vN_val, ldN_some, stN_some, faN_some, iaN_some, lnN_some, pkN_b, sliceO_some, slice_lo, slice_hi, slice_1, indexAddr_0, Nat.add_one_sub_one, Nat.one_mul, len_sl, len_ns, len_str', posS, eq0S, cast0, Int.reduceLT, Int.reduceLE, Int.reduceBEq, Option.map_none, Nat.lt_add_left_iff_pos, Nat.zero_lt_succ, Nat.le_add_left, SK_move, SK_assign, SK_pick, SK_alloc, SK_box, SK_load, SK_store, SK_bin, SK_not, SK_fieldAddr, SK_field, SK_indexAddr, SK_slice, SK_extract, SK_nilCheck, SK_makeFunc, SK_makeMap, SK_makeSlice, SK_build, SK_buildSlice, SK_len, SK_append, SK_call, doCall_clo, doCall_clo, evTmp, ev_int, ev_bool, ev_str, ev_nilS, ev_func, opFev, evs_cons, evs_nil, slot_put, putD_nt, putD_none, putD_dfr, slotOk, Nat.blt_eq, Nat.reduceLT, Nat.reduceEqDiff, Nat.reduceLeDiff, reduceIte, true_and, and_true, true_or, or_true, if_true, if_false, Bool.false_eq_true, Bool.true_eq_false, not_false_eq_true, not_true_eq_false, ltV_ptr, ltV_sl, ltV_nil, ltV_str, ltV_i, nxNew, nxMod, get_newE, get_newL, get_modE, get_modN, ltAdd, ltSelf, eqLt, eqGt, eqLtA, eqGtA, eqSelfA, eqASelf, eqAA, ltAA, doLoad_ptr, doStore_ptr, rowOf_arr, rowOf_ro, ldO_agg, ldO_one, stO_arr, splice_eq, fieldAddr_at, Bool.not_eq_true', Bool.not_eq_false', decide_eq_false_iff_not, ne_eq, Nat.reduceLeDiff, Nat.lt_irrefl, gt_iff_lt, cells_one, cells_agg, noTup_one, noTup_agg, List.length_cons, List.length_nil, Nat.zero_add, Nat.add_zero, Nat.reduceAdd, Nat.reduceSub, Nat.reduceMul, Nat.le_refl, Nat.zero_le, capsOf_nil, capsOf_cons, capArgs_nil, capArgs_cons, List.cons_append, List.nil_append, List.append_nil, ex_0, ex_0a, ex_1, ex_1a, ex_2, ex_2a, ii_lss, ii_leq, ii_gtr, ii_geq, ii_eql, ii_neq, ii_add, ii_sub, ii_mul, ss_lss, ss_geq, ss_leq, ss_gtr, ss_eql, ss_neq, List.take_succ_cons, List.take_zero, List.drop_succ_cons, List.drop_zero, List.take_nil, List.drop_nil, List.headD_cons, Bool.not_true, Bool.not_false, Nat.lt_add_one, bin_agg, bin_b, agg2_agg, bool2_b, aggEq_nil, aggEq_s, aggEq_i, aggEq_b, aggO_some, fill_nil, fill_cons, Nat.zero_mul, partsF_nil, partsF_cons, repl_one, hnt]; refine hK _ _ ?_; clear hK K)
        refine k2 _ _ ?_
        repeat' first | refine R1.ret ?_ | refine R1.exit ?_ | refine R1.skip ?_ | refine R1.s_ret ?_ | refine R1.s_exit ?_ | refine R1.s_assoc ?_ | refine R1.s_skip ?_ | refine R1.s_scope ?_ | ((first | refine R1.e_rg fun K hK => ?_ | refine R1.s_rg fun K hK => ?_ | refine R1.e_sq (by kernel_rfl) fun K hK => ?_ | refine R1.s_sq (by kernel_rfl) fun K hK => ?_); simp only [SG_nil, SG_cons, SU_yes, gw_n, gOf_n, List.map_cons, List.map_nil, vN_val, lnN_some, SK_move, SK_bin, SK_len, evTmp, ev_int, slot_put, putD_nt, slotOk, Nat.blt_eq, Nat.reduceLT, true_and, if_true, if_false, eqLt, eqGt, ii_gtr, Nat.lt_add_one, hnt, t9, E2_P, len22, hsl.len, hsl.lt]; refine hK _ _ ?_; clear hK K)
        (first | refine R1.s_cnd fun Kx Ky hx hy => ?_ | refine R1.e_cnd fun Kx Ky hx hy => ?_); simp only [boolP'_b, decide_eq_true_eq, evTmp, slot_put, Nat.reduceLT, if_true, if_false, eqGt, Nat.lt_add_one]
        refine iteI (fun hd => hx ?_) (fun hd => hy ?_)
        · clear hx hy Kx Ky
          repeat' first | refine R1.ret ?_ | refine R1.exit ?_ | refine R1.skip ?_ | refine R1.s_ret ?_ | refine R1.s_exit ?_ | refine R1.s_assoc ?_ | refine R1.s_skip ?_ | refine R1.s_scope ?_ | ((first | refine R1.e_rg fun K hK => ?_ | refine R1.s_rg fun K hK => ?_ | refine R1.e_sq (by kernel_rfl) fun K hK => ?_ | refine R1.s_sq (by kernel_rfl) fun K hK => ?_); simp only [SG_nil, SG_cons, SU_yes, gw_n, gOf_n, List.map_cons, List.map_nil, SK_assign, ev_int, ev_nilS, putD_nt, slotOk, Nat.blt_eq, Nat.reduceLT, true_and, hnt]; refine hK _ _ ?_; clear hK K)
          refine ⟨_, _, callEnd_two (.o .nilS) (.i .i64 3) (.inr rfl) (by simp only [putD_dfr, hdf]) (by simp only [slot_put, Nat.reduceEqDiff, reduceIte]) (by simp only [slot_put, Nat.reduceEqDiff, reduceIte]), g3.gr hgr, fun _ => ?_⟩
          have : 64 < out.length := by omega
          rw [← hr, Option.elim_some, if_pos this]
          exact ⟨_, rfl, SlL.nil⟩
        · clear hx hy Kx Ky
          repeat' first | refine R1.ret ?_ | refine R1.exit ?_ | refine R1.skip ?_ | refine R1.s_ret ?_ | refine R1.s_exit ?_ | refine R1.s_assoc ?_ | refine R1.s_skip ?_ | refine R1.s_scope ?_ | ((first | refine R1.e_rg fun K hK => ?_ | refine R1.s_rg fun K hK => ?_ | refine R1.e_sq (by kernel_rfl) fun K hK => ?_ | refine R1.s_sq (by kernel_rfl) fun K hK => ?_); simp only [SG_nil, SG_cons, SU_yes, gw_n, gOf_n, List.map_cons, List.map_nil, SK_move, SK_assign, evTmp, ev_int, slot_put, putD_nt, slotOk, Nat.blt_eq, Nat.reduceLT, true_and, if_true, if_false, eqLt, eqGt, Nat.lt_add_one, hnt, t9]; refine hK _ _ ?_; clear hK K)
          refine ⟨_, _, callEnd_two v9 (.i .i64 0) (.inr rfl) (by simp only [putD_dfr, hdf]) (by simp only [slot_put, Nat.reduceEqDiff, reduceIte]) (by simp only [slot_put, Nat.reduceEqDiff, reduceIte]), g3.gr hgr, fun _ => ?_⟩
          have : ¬ 64 < out.length := by omega
          rw [← hr, Option.elim_some, if_neg this]
          exact ⟨_, rfl, hsl⟩
    all_goals simp only [slot_put, Nat.reduceEqDiff, reduceIte, h0, h1, h2]
    all_goals rfl
end Go.Proofs.YtndipbefnipnpaaGreat
