/- A part of the proof: BkSl16, BkSl17, BkFacts6, BkSl18, BkSl19, BkCostsEnd, BkCostsHold. No conditions. -/
import Derived.Test.YtiejeicaaojdlaaGreatRAo
import Derived.KernelRfl
namespace Go.Proofs.YtiejeicaaojdlaaGreat
open Go Go.Eng
theorem bd_fixes : hasBody Tryz.prog 60 = true := by kernel_rfl
set_option maxRecDepth 10000 in
set_option maxHeartbeats 64000000 in
theorem fixes_con (H : Hp) (k a b w fx : AC) (ls : List Lad) (lc : List Cl) (lr : List Rl) (v : List Int) (l : List Fx) (hk : BookO H k (some ls)) (hL : ∀ x ∈ ls, x.2.length ≤ 1000000) (ha : SlCl H a lc) (hb : SlRl H b lr) (hC : lc.length ≤ 64) (hR : lr.length ≤ 1000000) (hvl : v.length = lc.length) (hvr : ∀ n ∈ v, 1 ≤ n ∧ n ≤ 1099511627776)
  (hck : ∀ y ∈ lc, chkLad (ladOf (some ls) y.2.2.1).1 (ladOf (some ls) y.2.2.1).2 = 0) (hw : SlI H w v) (hf : SlF H fx l) (hF : l.length ≤ 4398046511104) :
  Con E2 60 [.one k, .agg [a, b], .one w, .one fx] H (fun _ => False) fun r _ => r = .tup [(false, [.i .i64 (costL ls lc lr v none 0 l).1]), (false, [.i .i64 (costL ls lc lr v none 0 l).2])] := by
 refine Con.of rfl fun lg => ?_
 have hk : BookO ⟨H.t, H.nx, lg⟩ k (some ls) := BookO.same (H := H) rfl rfl hk
 have ha : SlCl ⟨H.t, H.nx, lg⟩ a lc := ha
 have hb : SlRl ⟨H.t, H.nx, lg⟩ b lr := hb
 have hw : SlI ⟨H.t, H.nx, lg⟩ w v := hw
 have hf : SlF ⟨H.t, H.nx, lg⟩ fx l := hf
 generalize (⟨H.t, H.nx, lg⟩ : Hp) = H at hk ha hb hw hf ⊢
 refine C1.body (E := E2) (nt := 115) (res := [.tmp 8, .tmp 9]) Tryz.func60 rfl rfl rfl rfl rfl fun tm hargs => ?_
 have h0 := hargs 0 _ rfl
 have h1 := hargs 1 _ rfl
 have h2 := hargs 2 _ rfl
 have h3 := hargs 3 _ rfl
 clear hargs
 generalize hq0 : costL ls lc lr v none 0 l = q0
 have fin : ∀ (v w : Int) (A : AAct) (H3 : Hp), slot A.tm 8 = .one (.i .i64 v) → slot A.tm 9 = .one (.i .i64 w) → A.dfr = [] → Gr H H3 → (v, w) = q0 → ∃ w H4, callEnd E2 [.tmp 8, .tmp 9] (.ret, A, H3) = .ok [(w, H4)] ∧ Gr H H4 ∧ ∀ _ : List Nat, w = .tup [(false, [.i .i64 (q0).1]), (false, [.i .i64 (q0).2])] := fun v w A H3 h1 h2 hd hg hv => ⟨_, H3, callEnd_two (.i .i64 v) (.i .i64 w) (.inr rfl) hd h1 h2, hg, fun _ => by rw [← hv]⟩
 generalize hr0 : q0 = r0 at fin
 rw [← hq0] at hr0
 clear hq0
 replace hr0 : Hd _ := hr0
 replace hvl : Hd _ := hvl
 refine zG tyF fun K hK => ?_
 refine hK.out _ _ ?_
 refine R1.gen (fun A1 H1 => Gr H H1 ∧ H.nx < H1.nx ∧ H1.get H.nx = some (.arr [a, b] 42 0 0) ∧ slot A1.tm 0 = .one (k) ∧ slot A1.tm 2 = .one (w) ∧ slot A1.tm 3 = .one (fx) ∧ slot A1.tm 5 = .one ((.o (.ptr H.nx 0 0 2))) ∧ A1.nt = 115 ∧ A1.dfr = []) ⟨(Fr.refl _).new _, Nat.lt_succ_self _, get_newE rfl, zL⟩ ?_
 rintro A1 H1 ⟨g1, m1, rx, t0, t2, t3, t5, hnt, hdf⟩
 clear h0 h1 h2 h3 tm hK K
 have hk := hk.gr g1
 have ha := ha.gr g1
 have hb := hb.gr g1
 have hw := hw.gr g1
 have hf := hf.gr g1
 obtain ⟨N, hN⟩ : ∃ N, N = H.nx := ⟨_, rfl⟩
 rw [← hN] at m1 rx t5
 clear hN
 have l1 := hf.len
 have l2 := hf.lt
 refine zW tyF ?_
 refine R1.s_bl fun K k1 k2 k3 k4 => ?_
 refine R1.loop (fun z A H3 => ∃ (i : Nat) (tot : Int), z = l.length - i ∧ i ≤ l.length ∧ 0 ≤ tot ∧ tot ≤ 2 * (i : Int) ∧ Gr H1 H3 ∧ Hd (costL ls lc lr v (prevF l i) tot (l.drop i) = r0) ∧ slot A.tm 0 = .one (k) ∧ slot A.tm 2 = .one (w) ∧ slot A.tm 3 = .one (fx) ∧ slot A.tm 5 = .one ((.o (.ptr N 0 0 2))) ∧ slot A.tm 10 = .one (.i .i64 (tot : Int)) ∧ slot A.tm 17 = .one (fx) ∧ slot A.tm 18 = .one (.i .i64 (l.length : Int)) ∧ slot A.tm 19 = .one (.i .i64 (i : Int)) ∧ A.nt = 115 ∧ A.dfr = []) ?_ l.length
  ⟨0, 0, rfl, Nat.zero_le _, Int.le_refl _, by omega, Fr.refl _, hr0, zL⟩
 clear t0 t2 t3 t5 hnt hdf A1 hr0 k3 l1 l2
 rintro z A H3 ⟨i, tot, rfl, hi, ht0, ht1, g3, hr, t0, t2, t3, t5, t10, t17, t18, t19, hnt, hdf⟩
 have hf3 := hf.gr g3
 refine zW tyF ?_
 refine zI tyF (fun hc => ?_) (fun hc => ?_)
 ·have hlt : i < l.length := by omega
  have ex : l[i]? = some l[i] := List.getElem?_eq_getElem hlt
  have hdr : l.drop i = l[i] :: l.drop (i + 1) := List.drop_eq_getElem_cons hlt
  have htk : l.take (i + 1) = l.take i ++ [l[i]] := List.take_succ_eq_append_getElem hlt
  have hmem : l[i] ∈ l := List.getElem_mem hlt
  generalize l[i] = x at ex hdr htk hmem
  have hw2 : IntKind.i64.wrap ((i : Int) + 1) = ((i + 1 : Nat) : Int) := by rw [wrapI (by omega) (by omega)]; omega
  obtain ⟨id, g, off, cells, rfl, hid, hgr, hat⟩ := hf3.open (by omega)
  have hx1 := hat i x ex
  have y1 := hx1.all
  have y2 := hx1.le
  rw [fxC] at y1
  clear hx1 hmem htk
  have hr1 := hr.out
  rw [hdr, costL] at hr1
  replace hr1 : Hd _ := hr1
  clear hdr hr
  refine zW tyF ?_
  refine R1.s_bl fun K2 q1 q2 q3 q4 => ?_
  have rx := (g3.get _ m1 not_false).trans rx
  have m1 := Nat.lt_of_lt_of_le m1 g3.nx
  refine zG (qA tyF (ixC hlt)) fun K3 hK3 => ?_
  refine hK3.out _ _ ?_
  obtain ⟨x1, x2, x3, x4⟩ := x
  replace y1 : (cells.drop (off + i * 4)).take 4 = [.i .i64 x1, .i .i64 x2, .i .i64 x3, .i .i64 x4] := y1
  refine R1.gen (fun A4 H4 => Gr H3 H4 ∧ H3.nx < H4.nx ∧ H4.get H3.nx = some (.arr [.i .i64 x1, .i .i64 x2, .i .i64 x3, .i .i64 x4] 103 0 0) ∧ slot A4.tm 0 = .one (k) ∧ slot A4.tm 2 = .one (w) ∧ slot A4.tm 3 = .one ((.o (.sl id g off l.length 4))) ∧ slot A4.tm 5 = .one ((.o (.ptr N 0 0 2))) ∧ slot A4.tm 10 = .one (.i .i64 (tot : Int)) ∧ slot A4.tm 11 = .one (.i .i64 (i : Int)) ∧ slot A4.tm 12 = .one ((.o (.ptr H3.nx 0 0 4))) ∧ slot A4.tm 17 = .one ((.o (.sl id g off l.length 4))) ∧ slot A4.tm 18 = .one (.i .i64 (l.length : Int)) ∧ slot A4.tm 19 = .one (.i .i64 (i : Int)) ∧ A4.nt = 115 ∧ A4.dfr = [])
   ⟨((Fr.refl _).new _).mod _ (.inl (Nat.le_refl _)), Nat.lt_succ_self _, get_modE rfl, zL⟩ ?_
  clear t0 t2 t3 t5 t10 t17 t18 t19 hnt hdf A y1 y2 hK3 K3
  rintro A H4 ⟨g4, mM, rM, t0, t2, t3, t5, t10, t11, t12, t17, t18, t19, hnt, hdf⟩
  obtain ⟨M, hM⟩ : ∃ M, M = H3.nx := ⟨_, rfl⟩
  rw [← hM] at mM rM t12
  clear hM
  have rx := (g4.get _ m1 not_false).trans rx
  have m1 := Nat.lt_of_lt_of_le m1 g4.nx
  have hgr4 : rowOf (H4.get id) g = some cells := by rw [g4.get _ hid not_false]; exact hgr
  have hid4 : id < H4.nx := Nat.lt_of_lt_of_le hid g4.nx
  have g14 := g3.gr g4
  have hw4 := hw.gr g14
  clear hgr hid hf3 g4 g3
  replace ex : Hd _ := ex
  repeat refine R1.s_assoc ?_
  refine R1.s_h (by kernel_rfl) fun K4 hK4 => ?_
  have key : Hd (∀ (bb : Bool) (A : AAct), (badF v (prevF l i) (x1, x2, x3, x4) || ((x3 == x2) || (decide (x3 < 1) || decide (1099511627776 < x3)))) = bb → slot A.tm 75 = .one (.b bb) ∧ slot A.tm 0 = .one (k) ∧ slot A.tm 2 = .one (w) ∧ slot A.tm 3 = .one ((.o (.sl id g off l.length 4))) ∧ slot A.tm 5 = .one ((.o (.ptr N 0 0 2))) ∧ slot A.tm 10 = .one (.i .i64 (tot : Int)) ∧ slot A.tm 11 = .one (.i .i64 (i : Int)) ∧ slot A.tm 12 = .one ((.o (.ptr M 0 0 4))) ∧ slot A.tm 17 = .one ((.o (.sl id g off l.length 4))) ∧ slot A.tm 18 = .one (.i .i64 (l.length : Int)) ∧ slot A.tm 19 = .one (.i .i64 (i : Int)) ∧ A.nt = 115 ∧ A.dfr = [] → K4 A H4) := by
   clear t0 t2 t3 t5 t10 t11 t12 t17 t18 t19 hnt hdf A
   rintro bb A hbb ⟨t75, t0, t2, t3, t5, t10, t11, t12, t17, t18, t19, hnt, hdf⟩
   refine hK4.out _ _ ?_
   clear hK4 K4
   cases bb with
   | true =>
    have hr2 : (0, 55) = r0 := by
     rw [← hr1.out]
     by_cases hb1 : badF v (prevF l i) (x1, x2, x3, x4) = true
     ·rw [if_pos hb1]
     ·rw [if_neg hb1]
      rw [Bool.not_eq_true] at hb1
      rw [hb1, Bool.false_or, Bool.or_eq_true, Bool.or_eq_true, beq_iff_eq, decide_eq_true_eq, decide_eq_true_eq] at hbb
      have e : kindF ls lc lr (x1, x2, x3, x4) = 0 := kindE_bad (hbb.imp (fun h => h.symm) fun h => h)
      rw [e]
      exact (if_pos (Decidable.em (x4 = 0))).symm
    replace hr2 : Hd _ := hr2
    clear hbb
    refine zW tyF ?_
    exact q4.out _ _ (k4.out _ _ (fin (0) (55) _ _ qp qp qe (g1.gr g14) (hr2.out)))
   | false =>
    have hb3 : badF v (prevF l i) (x1, x2, x3, x4) = false ∧ x3 ≠ x2 ∧ ¬ x3 < 1 ∧ ¬ 1099511627776 < x3 := by
     rw [Bool.or_eq_false_iff, Bool.or_eq_false_iff, Bool.or_eq_false_iff, beq_eq_false_iff_ne, decide_eq_false_iff_not, decide_eq_false_iff_not] at hbb
     exact hbb
    obtain ⟨hb1, hne, hm1, hm2⟩ := hb3
    clear hbb
    have hr2 := hr1.out
    rw [if_neg (by rw [hb1]; decide)] at hr2
    have hb1' := hb1
    unfold badF at hb1'
    rw [Bool.or_eq_false_iff, Bool.or_eq_false_iff, Bool.or_eq_false_iff, decide_eq_false_iff_not, decide_eq_false_iff_not, Bool.not_eq_false', beq_iff_eq] at hb1'
    have hx0 : 0 ≤ x1 := by have := hb1'.1; omega
    have hxv : x1 < v.length := by have := hb1'.2.1; omega
    have hx1 : x1 < lc.length := by have := hvl.out; omega
    have hfr : 1 ≤ x2 ∧ x2 ≤ 1099511627776 := by
     have h := hb1'.2.2.2
     rw [show (x1, x2, x3, x4).2.1 = x2 from rfl, show (x1, x2, x3, x4).1 = x1 from rfl, List.getD_eq_getElem?_getD, List.getElem?_eq_getElem (by omega : x1.toNat < v.length)] at h
     rw [h]
     exact hvr _ (List.getElem_mem _)
    clear hb1 hb1' hxv
    obtain ⟨hf1, hf2⟩ := hfr
    have hlt1 : x1.toNat < lc.length := by omega
    have hy : lc[x1.toNat]? = some lc[x1.toNat] := List.getElem?_eq_getElem hlt1
    have hc0 := hck _ (List.getElem_mem hlt1)
    have hkf : kindF ls lc lr (x1, x2, x3, x4) = kindE (ladOf (some ls) lc[x1.toNat].2.2.1) lr x1 x2 x3 := by
     unfold kindF ladC
     show kindE (ladOf (some ls) ((lc[x1.toNat]?).elim [] fun x => x.2.2.1)) lr x1 x2 x3 = _
     rw [hy]; rfl
    generalize lc[x1.toNat] = y at hy hc0 hkf
    have hm3 : 1 ≤ x3 := by omega
    have hm4 : x3 ≤ 1099511627776 := by omega
    have hh : (0 ≤ sumI 0 lr x1 ∧ x2 ≠ x3 ∧ 1 ≤ x3 ∧ x3 ≤ 1099511627776) = (0 ≤ sumI 0 lr x1) := propext ⟨fun h => h.1, fun h => ⟨h, fun h' => hne h'.symm, hm3, hm4⟩⟩
    unfold kindE at hkf
    simp only [hh] at hkf
    rw [hkf] at hr2
    have he5 := @slipE_5 (ladOf (some ls) y.2.2.1).1 (ladOf (some ls) y.2.2.1).2 x2 x3
    have hlaw := slipE_law hc0 hf1 hf2 hm3 hm4
    have hsb := small_b hc0 (by omega) hf2
    clear hh hkf hm1 hm2 hne hlt1
    replace hr2 : Hd _ := hr2
    replace hc0 : Hd _ := hc0
    replace hlaw : Hd _ := hlaw
    replace he5 : Hd _ := he5
    replace hsb : Hd _ := hsb
    replace hf1 : Hd _ := hf1
    replace hf2 : Hd _ := hf2
    replace hm3 : Hd _ := hm3
    replace hm4 : Hd _ := hm4
    replace hy : Hd _ := hy
    have hla := (ha.gr g14).lt
    obtain ⟨idc, gc, oc, cc, rfl, hidc, hgrc, hatc⟩ := (ha.gr g14).open (by omega)
    obtain ⟨p, q, hx⟩ := hatc x1.toNat y hy.out
    have y1 := hx.f3
    have y2 := hx.le3
    clear hatc hx
    have hb4 := hb.gr g14
    refine qX t75 ?_
    refine R1.s_skip ?_
    repeat refine R1.s_assoc ?_
    refine zG (qA tyF (qA (ixI hx0 hx1) bd_ladder)) fun K5 hK5 => ?_
    refine WE.con (ladder_con H4 k (some ls) y.2.2.1 (hk.gr g14) (fun ls' h => by cases h; exact hL)) fun w' H5 g5 ⟨c, hw', hc, hcl⟩ => ?_
    subst hw'
    obtain ⟨u, rfl, hu⟩ := hc.of
    clear hcl hc
    have lu := hu.lt
    have rx := (g5.get _ m1 not_false).trans rx
    have m1 := Nat.lt_of_lt_of_le m1 g5.nx
    have rM := (g5.get _ mM not_false).trans rM
    have mM := Nat.lt_of_lt_of_le mM g5.nx
    refine zS tyF ?_
    refine hK5.out _ _ ?_
    refine R1.gen (fun A5 H6 => Gr H5 H6 ∧ H5.nx < H6.nx ∧ H6.get H5.nx = some (.arr [.o (.str (ladOf (some ls) y.2.2.1).1), u] 78 0 0) ∧ slot A5.tm 0 = .one (k) ∧ slot A5.tm 2 = .one (w) ∧ slot A5.tm 3 = .one ((.o (.sl id g off l.length 4))) ∧ slot A5.tm 5 = .one ((.o (.ptr N 0 0 2))) ∧ slot A5.tm 10 = .one (.i .i64 (tot : Int)) ∧ slot A5.tm 11 = .one (.i .i64 (i : Int)) ∧ slot A5.tm 12 = .one ((.o (.ptr M 0 0 4))) ∧ slot A5.tm 13 = .one ((.o (.ptr H5.nx 0 0 2))) ∧ slot A5.tm 17 = .one ((.o (.sl id g off l.length 4))) ∧ slot A5.tm 18 = .one (.i .i64 (l.length : Int)) ∧ slot A5.tm 19 = .one (.i .i64 (i : Int)) ∧ A5.nt = 115 ∧ A5.dfr = [])
     ⟨((Fr.refl _).new _).mod _ (.inl (Nat.le_refl _)), Nat.lt_succ_self _, get_modE rfl, zL⟩ ?_
    clear t0 t2 t3 t5 t10 t11 t12 t17 t18 t19 t75 hnt hdf A hK5 K5 y1 y2 lu
    rintro A H6 ⟨g6, n6, rl, t0, t2, t3, t5, t10, t11, t12, t13, t17, t18, t19, hnt, hdf⟩
    obtain ⟨L, hLn⟩ : ∃ L, L = H5.nx := ⟨_, rfl⟩
    rw [← hLn] at n6 rl t13
    clear hLn
    have rx := (g6.get _ m1 not_false).trans rx
    have m1 := Nat.lt_of_lt_of_le m1 g6.nx
    have rM := (g6.get _ mM not_false).trans rM
    have mM := Nat.lt_of_lt_of_le mM g6.nx
    have hu6 := hu.gr g6
    have lu := hu6.lt
    have g46 := g5.gr g6
    have hb6 := hb4.gr g46
    clear hgr4 hid4 hgrc hidc hu hw4
    refine zG (qA tyF bd_kind) fun K6 hK6 => ?_
    refine WE.con (kind_con H6 (ladOf (some ls) y.2.2.1).1 u (ladOf (some ls) y.2.2.1).2 x3 x2 hu6 hc0.out hf1.out hf2.out hsb.out) fun w' H7 g7 hq => ?_
    rw [hlaw.out] at hq
    subst hq
    clear hlaw hc0 hsb hu6
    generalize slipE (ladOf (some ls) y.2.2.1).1 (ladOf (some ls) y.2.2.1).2 x3 x2 = e at hr2 he5 ⊢
    have rx := (g7.get _ m1 not_false).trans rx
    have m1 := Nat.lt_of_lt_of_le m1 g7.nx
    have rM := (g7.get _ mM not_false).trans rM
    have mM := Nat.lt_of_lt_of_le mM g7.nx
    have hb7 := hb6.gr g7
    have g47 := g46.gr g7
    have gg := g1.gr (g14.gr g47)
    have hlt4 := hlt
    by_cases c0 : e = 0
    case neg =>
     have d0 : (e == 0) = false := beq_false_of_ne c0
     have hr3 := hr2.out
     rw [if_pos c0] at hr3
     clear hr2
     by_cases c6 : e = x4
     case neg =>
      rw [if_pos (.inr (fun h => c6 h.symm))] at hr3
      have d6 : (e == x4) = false := beq_false_of_ne c6
      replace hr3 : Hd _ := hr3
      replace c6 : Hd _ := c6
      replace c0 : Hd _ := c0
      refine zK tyF ?_
      exact q4.out _ _ (k4.out _ _ (fin (0) (55) _ _ qp qp qe (gg) (hr3.out)))
     rw [if_neg (fun h => h.elim (fun h => c0 (c6.trans h)) (fun h => h c6.symm))] at hr3
     have hpr : priceE x4 = 1 := by unfold priceE; rw [if_neg (fun h => he5.out (c6.trans h))]
     rw [hpr] at hr3
     have d6 : (e == x4) = true := beq_iff_eq.2 c6
     replace hr3 : Hd _ := hr3
     replace hpr : Hd _ := hpr
     replace c6 : Hd _ := c6
     replace c0 : Hd _ := c0
     have hwt : IntKind.i64.wrap (tot + 1) = tot + 1 := wrapI (by omega) (by omega)
     refine zK tyF ?_
     refine q1.out _ _ ?_
     refine zW tyF ?_
     exact ⟨l.length - (i + 1), by omega, i + 1, tot + 1, rfl, hlt, by omega, by omega, g14.gr g47, by rw [prevF, ex.out]; exact hr3, zL⟩
    subst c0
    have hr3 := hr2.out
    rw [if_neg (fun h : (0 : Int) ≠ 0 => h rfl)] at hr3
    clear hr2
    replace hr3 : Hd _ := hr3
    refine zK tyF ?_
    refine zG (qA tyF bd_isSum) fun K7 hK7 => ?_
    refine WE.con (isSum_con H7 _ b lr x1 hb7 (fun j hj => Nat.lt_of_lt_of_le (hla j hj) g47.nx) hR) fun w' H8 g8 hq => ?_
    have rx := (g8.get _ m1 not_false).trans rx
    have m1 := Nat.lt_of_lt_of_le m1 g8.nx
    have rM := (g8.get _ mM not_false).trans rM
    have mM := Nat.lt_of_lt_of_le mM g8.nx
    have gg := gg.gr g8
    have hr4 := hr3.out
    clear hr3
    by_cases cs : 0 ≤ sumI 0 lr x1
    case neg =>
     rw [decide_eq_false cs] at hq
     subst hq
     rw [if_neg cs, if_pos (Decidable.em (x4 = 0))] at hr4
     replace hr4 : Hd _ := hr4
     replace cs : Hd _ := cs
     refine zK tyF ?_
     exact q4.out _ _ (k4.out _ _ (fin (0) (55) _ _ qp qp qe (gg) (hr4.out)))
    rw [decide_eq_true cs] at hq
    subst hq
    rw [if_pos cs] at hr4
    replace cs : Hd _ := cs
    by_cases c6 : x4 = 5
    case neg =>
     rw [if_pos (.inr c6)] at hr4
     have d6 : ((5 : Int) == x4) = false := beq_false_of_ne (fun h => c6 h.symm)
     replace hr4 : Hd _ := hr4
     replace c6 : Hd _ := c6
     refine zK tyF ?_
     exact q4.out _ _ (k4.out _ _ (fin (0) (55) _ _ qp qp qe (gg) (hr4.out)))
    rw [if_neg (fun h => h.elim (fun h => absurd (c6.symm.trans h) (by decide)) (fun h => h c6))] at hr4
    have hpr : priceE x4 = 2 := by unfold priceE; rw [if_pos c6]
    rw [hpr] at hr4
    have d6 : ((5 : Int) == x4) = true := beq_iff_eq.2 c6.symm
    replace hr4 : Hd _ := hr4
    replace hpr : Hd _ := hpr
    replace c6 : Hd _ := c6
    have hwt : IntKind.i64.wrap (tot + 2) = tot + 2 := wrapI (by omega) (by omega)
    refine zK tyF ?_
    refine q1.out _ _ ?_
    refine zW tyF ?_
    exact ⟨l.length - (i + 1), by omega, i + 1, tot + 2, rfl, hlt, by omega, by omega, g14.gr (g47.gr g8), by rw [prevF, ex.out]; exact hr4, zL⟩
  clear hK4
  have lw := hw4.len
  have lw2 := hw4.lt
  by_cases c0 : x1 < 0
  ·refine zS tyF ?_
   exact key.out true _ (by unfold badF; rw [decide_eq_true c0, Bool.true_or, Bool.true_or]) zL
  by_cases c1 : (v.length : Int) ≤ x1
  ·refine zS tyF ?_
   exact key.out true _ (by unfold badF; rw [decide_eq_true c1, Bool.true_or, Bool.or_true, Bool.true_or]) zL
  have hx0 : 0 ≤ x1 := by omega
  have hxv : x1 < v.length := by omega
  have hbf : badF v (prevF l i) (x1, x2, x3, x4) = (((prevF l i).any fun p => decide (x1 ≤ p)) || !(x2 == v.getD x1.toNat 0)) := by
   unfold badF
   rw [decide_eq_false c0, decide_eq_false c1, Bool.false_or, Bool.false_or]
  replace hbf : Hd _ := hbf
  obtain ⟨idw, gw, ow, cw, rfl, hidw, hgw, hatw⟩ := hw4.open (by omega)
  obtain ⟨z1, z2⟩ := hatw x1.toNat (v.getD x1.toNat 0) (by rw [List.getD_eq_getElem?_getD, List.getElem?_eq_getElem (by omega)]; rfl)
  clear hatw lw lw2 hw4
  generalize v.getD x1.toNat 0 = vv at z1 hbf
  by_cases hi0 : i = 0
  ·have hp : prevF l i = none := by rw [hi0]; rfl
   have hgt : ¬ 0 < (i : Int) := by omega
   replace hp : Hd _ := hp
   replace hi0 : Hd _ := hi0
   by_cases c3 : x2 = vv
   case neg =>
    have d3 : (x2 == vv) = false := beq_false_of_ne c3
    replace c3 : Hd _ := c3
    refine zS (qA tyF (ixI hx0 hxv)) ?_
    exact key.out true _ (by rw [hbf.out, hp.out, d3]; simp) zL
   have d3 : (x2 == vv) = true := beq_iff_eq.2 c3
   replace c3 : Hd _ := c3
   by_cases c4 : x3 = x2
   ·have d4 : (x3 == x2) = true := beq_iff_eq.2 c4
    replace c4 : Hd _ := c4
    refine zS (qA tyF (ixI hx0 hxv)) ?_
    exact key.out true _ (by rw [d4]; simp) zL
   have d4 : (x3 == x2) = false := beq_false_of_ne c4
   replace c4 : Hd _ := c4
   by_cases c5 : x3 < 1
   ·refine zS (qA tyF (ixI hx0 hxv)) ?_
    exact key.out true _ (by rw [decide_eq_true c5]; simp) zL
   ·refine zS (qA tyF (ixI hx0 hxv)) ?_
    exact key.out (decide (1099511627776 < x3)) _ (by rw [hbf.out, hp.out, d3, d4, decide_eq_false c5]; simp) zL
  obtain ⟨j, hj⟩ : ∃ j, i = j + 1 := ⟨i - 1, by omega⟩
  have hjl : j < l.length := by omega
  have hgt : 0 < (i : Int) := by omega
  have hsub : IntKind.i64.wrap ((i : Int) - 1) = (j : Int) := by rw [wrapI (by omega) (by omega)]; omega
  have hz := hat j l[j] (List.getElem?_eq_getElem hjl)
  have w1 := hz.f0
  have w2 := hz.le1
  have hp : prevF l i = some l[j].1 := by rw [hj, prevF, List.getElem?_eq_getElem hjl]; rfl
  generalize l[j].1 = zz at w1 hp
  clear hz hat
  replace hp : Hd _ := hp
  replace hj : Hd _ := hj
  by_cases c2 : x1 ≤ zz
  ·refine zS (qA tyF (qA (ixC hjl) (ixI hx0 hxv))) ?_
   exact key.out true _ (by rw [hbf.out, hp.out]; show ((decide (x1 ≤ zz) || _) || _) = true; rw [decide_eq_true c2]; rfl) zL
  by_cases c3 : x2 = vv
  case neg =>
   have d3 : (x2 == vv) = false := beq_false_of_ne c3
   replace c3 : Hd _ := c3
   refine zS (qA tyF (qA (ixC hjl) (ixI hx0 hxv))) ?_
   exact key.out true _ (by rw [hbf.out, hp.out, d3]; simp) zL
  have d3 : (x2 == vv) = true := beq_iff_eq.2 c3
  replace c3 : Hd _ := c3
  by_cases c4 : x3 = x2
  ·have d4 : (x3 == x2) = true := beq_iff_eq.2 c4
   replace c4 : Hd _ := c4
   refine zS (qA tyF (qA (ixC hjl) (ixI hx0 hxv))) ?_
   exact key.out true _ (by rw [d4]; simp) zL
  have d4 : (x3 == x2) = false := beq_false_of_ne c4
  replace c4 : Hd _ := c4
  by_cases c5 : x3 < 1
  ·refine zS (qA tyF (qA (ixC hjl) (ixI hx0 hxv))) ?_
   exact key.out true _ (by rw [decide_eq_true c5]; simp) zL
  ·refine zS (qA tyF (qA (ixC hjl) (ixI hx0 hxv))) ?_
   exact key.out (decide (1099511627776 < x3)) _ (by rw [hbf.out, hp.out, d3, d4, decide_eq_false c5]; simp; omega) zL
 ·have hie : i = l.length := by omega
  have hr1 := hr.out
  rw [hie, List.drop_length, costL] at hr1
  replace hr1 : Hd _ := hr1
  clear hie
  refine zW tyF ?_
  refine k2.out _ _ ?_
  refine zW tyF ?_
  exact fin (tot) (0) _ _ qp qp qe (g1.gr g3) (hr1.out)
end Go.Proofs.YtiejeicaaojdlaaGreat
namespace Go.Proofs.YtiejeicaaojdlaaGreat
open Go Go.Eng
theorem bd_cloneI : hasBody Tryz.prog 63 = true := by kernel_rfl
theorem bd_cost : hasBody Tryz.prog 24 = true := by kernel_rfl
theorem un_intsl : Tryz.prog.underlying 33 = some (.slice 3) := by kernel_rfl
theorem repl0 : ∀ z : List AC, repl z 0 = [] := fun z => rfl
theorem ad_intsl : addrT Tryz.prog 33 = 1 := by kernel_rfl
theorem nilI : type_of% (nilSQ ad_intsl un_intsl) := nilSQ ad_intsl un_intsl
def RowI (H : Hp) (v : AC) (l : List Int) (r : Option Nat) : Prop := OwnR H v 3 1 l.length (l.map (AC.i .i64)) r
theorem RowI.slI {H : Hp} {v : AC} {l : List Int} {r : Option Nat} (h : RowI H v l r) : SlI H v l := by
 have := OwnR.slc h
 unfold SlI
 rw [flatI]; exact this
theorem SlI.slc {H : Hp} {v : AC} {l : List Int} (h : SlI H v l) : SlC H v 1 l.length (l.map (AC.i .i64)) := by
 rw [← flatI]; exact h
set_option maxRecDepth 10000 in
theorem copyR_con (H : Hp) (v : AC) (l : List Int) (hv : SlI H v l) (hL : l.length * 8 ≤ 140737488355328) :
  Con E2 19 [.one v] H (fun _ => False) fun r H' => ∃ v' q, r = .one v' ∧ RowI H' v' l q ∧ ∀ i, q = some i → H.nx ≤ i := by
 refine Con.of rfl fun lg => ?_
 have hv : SlI ⟨H.t, H.nx, lg⟩ v l := hv
 have e0 : H.nx = (⟨H.t, H.nx, lg⟩ : Hp).nx := rfl
 rw [e0]
 clear e0
 generalize (⟨H.t, H.nx, lg⟩ : Hp) = H at hv ⊢
 refine C1.body (E := E2) (nt := 7) (res := [.tmp 2]) Tryz.func19 rfl rfl rfl rfl rfl fun tm hargs => ?_
 have h0 := hargs 0 _ rfl
 clear hargs
 obtain ⟨z, hz, hzl⟩ := zx_int
 obtain ⟨v', H', q, happ, hs, hg, hi⟩ := app_own (P := Tryz.prog) (t := 33) el_ints by_int hz hzl (by decide) hv.slc (by omega)
 have hlt := hv.lt
 clear hz hzl z
 replace hv : Hd _ := hv
 refine zW tyF ?_
 exact ⟨_, _, callEnd_one v' (.inr rfl) qe qp, hg, fun _ => ⟨v', q, rfl, hs, hi⟩⟩
set_option maxRecDepth 10000 in
theorem cloneI_con (H : Hp) (v : AC) (l : List Int) (hv : SlI H v l) (hL : l.length * 8 ≤ 140737488355328) :
  Con E2 63 [.one v] H (fun _ => False) fun r H' => ∃ v' q, r = .one v' ∧ RowI H' v' l q ∧ ∀ i, q = some i → H.nx ≤ i := by
 refine Con.of rfl fun lg => ?_
 have hv : SlI ⟨H.t, H.nx, lg⟩ v l := hv
 have e0 : H.nx = (⟨H.t, H.nx, lg⟩ : Hp).nx := rfl
 rw [e0]
 clear e0
 generalize (⟨H.t, H.nx, lg⟩ : Hp) = H at hv ⊢
 refine C1.body (E := E2) (nt := 8) (res := [.tmp 2]) Tryz.func63 rfl rfl rfl rfl rfl fun tm hargs => ?_
 have h0 := hargs 0 _ rfl
 clear hargs
 obtain ⟨z, hz, hzl⟩ := zx_int
 have hv' := hv.slc
 have hlt := hv.lt
 rcases id hv' with ⟨hc, ⟨rfl, hn0⟩ | ⟨id, g, off, rfl, hid, hr⟩⟩
 ·have hl : l = [] := List.eq_nil_of_length_eq_zero hn0
  subst hl
  clear hz hzl z hv' hc hn0 hv
  refine zW (qA tyF nilI) ?_
  exact ⟨_, _, callEnd_one (.o .nilS) (.inr rfl) qe qp, Fr.refl _, fun _ => ⟨_, none, rfl, .inl ⟨rfl, rfl, rfl, rfl⟩, fun i h => by cases h⟩⟩
 ·obtain ⟨v', H', happ, ho, hf⟩ := app_empty (P := Tryz.prog) (H := H.new (.arr [] 3 0 0)) (t := 33) (id := H.nx) el_ints by_int hz hzl (by decide) (get_newE rfl) (Nat.lt_succ_self _) (hv'.gr ((Fr.refl _).new _)) (by omega)
  have hg : Gr H H' := ((Fr.refl _).new _).then hf fun i h => .inl (by omega)
  have hlt2 := ho.lt
  clear hz hzl z hc
  replace hv : Hd _ := hv
  replace hv' : Hd _ := hv'
  replace hr : Hd _ := hr
  replace hf : Hd _ := hf
  refine zW (qA tyF (qA nilI repl0)) ?_
  exact ⟨_, _, callEnd_one v' (.inr rfl) qe qp, hg, fun _ => ⟨v', some H.nx, rfl, ho, fun i h => by cases h; exact Nat.le_refl _⟩⟩
theorem bkO_chk {ls l : List Lad} (h : bkO ls = some l) : ∀ x ∈ l, chkLad x.1 x.2 = 0 := by
 unfold bkO at h
 by_cases hc : newE ls = 0
 ·rw [if_pos hc] at h; cases h
  unfold newE at hc
  by_cases hn : (32 : Int) < ls.length
  ·rw [if_pos hn] at hc; cases hc
  ·rw [if_neg hn] at hc; exact newG_ok [] ls hc
 ·rw [if_neg hc] at h; cases h
theorem ladOf_mem {ls : List Lad} {s : List UInt8} (h : ladE (some ls) s = 0) : ladOf (some ls) s ∈ ls := by
 rw [ladE_some] at h
 cases hi : idxN 0 ls s with
 | none => rw [hi] at h; cases h
 | some i =>
  obtain ⟨x, hx, _⟩ := idx_at hi
  have e : ladOf (some ls) s = x := by unfold ladOf; simp only [hi, Option.elim_some]; rw [List.getD_eq_getElem?_getD, hx]; rfl
  rw [e]
  exact List.mem_of_getElem? hx
theorem askE_val {o : Option (List Lad)} {p : Pz} {v : List Int} (h : askE o p v = 0) : ∀ n ∈ v, 1 ≤ n ∧ n ≤ 1099511627776 := by
 unfold askE at h
 by_cases c0 : chkPz o p ≠ 0
 ·rw [if_pos c0] at h; exact absurd h c0
 rw [if_neg c0] at h
 cases hv : valB p.1 v with
 | false => rw [if_pos hv] at h; cases h
 | true =>
  unfold valB at hv
  rw [Bool.and_eq_true] at hv
  intro n hn
  have h2 : v.any vbad = false := by
   cases hb : v.any vbad with
   | false => rfl
   | true => rw [hb] at hv; exact absurd hv.2 (by decide)
  have h3 : vbad n = false := by
   cases hb : vbad n with
   | false => rfl
   | true => rw [List.any_eq_true.2 ⟨n, hn, hb⟩] at h2; cases h2
  unfold vbad at h3
  rw [Bool.or_eq_false_iff, decide_eq_false_iff_not, decide_eq_false_iff_not] at h3
  omega
set_option maxRecDepth 10000 in
set_option maxHeartbeats 8000000 in
theorem cost_con (H : Hp) (k a b w fx : AC) (o : Option (List Lad)) (p : Pz) (v : List Int) (l : List Fx) (hk : BookO H k o) (hL : ∀ ls, o = some ls → ∀ x ∈ ls, x.2.length ≤ 1000000) (hck : ∀ ls, o = some ls → ∀ x ∈ ls, chkLad x.1 x.2 = 0) (ha : SlCl H a p.1) (hb : SlRl H b p.2) (hB : PzB p) (hw : SlI H w v) (hV : v.length ≤ 4611686018427387904) (hf : SlF H fx l) (hF : l.length ≤ 4398046511104) :
  Con E2 24 [.one k, .agg [a, b], .one w, .one fx] H (fun _ => False) fun r _ => r = .tup [(false, [.i .i64 (costE o p v l).1]), (false, [.i .i64 (costE o p v l).2])] := by
 refine Con.of rfl fun lg => ?_
 have hk : BookO ⟨H.t, H.nx, lg⟩ k o := BookO.same (H := H) rfl rfl hk
 have ha : SlCl ⟨H.t, H.nx, lg⟩ a p.1 := ha
 have hb : SlRl ⟨H.t, H.nx, lg⟩ b p.2 := hb
 have hw : SlI ⟨H.t, H.nx, lg⟩ w v := hw
 have hf : SlF ⟨H.t, H.nx, lg⟩ fx l := hf
 generalize (⟨H.t, H.nx, lg⟩ : Hp) = H at hk ha hb hw hf ⊢
 refine C1.body (E := E2) (nt := 25) (res := [.tmp 8, .tmp 9]) Tryz.func24 rfl rfl rfl rfl rfl fun tm hargs => ?_
 have h0 := hargs 0 _ rfl
 have h1 := hargs 1 _ rfl
 have h2 := hargs 2 _ rfl
 have h3 := hargs 3 _ rfl
 clear hargs
 generalize hq0 : costE o p v l = q0
 have fin : ∀ (v w : Int) (A : AAct) (H3 : Hp), slot A.tm 8 = .one (.i .i64 v) → slot A.tm 9 = .one (.i .i64 w) → A.dfr = [] → Gr H H3 → (v, w) = q0 → ∃ w H4, callEnd E2 [.tmp 8, .tmp 9] (.ret, A, H3) = .ok [(w, H4)] ∧ Gr H H4 ∧ ∀ _ : List Nat, w = .tup [(false, [.i .i64 (q0).1]), (false, [.i .i64 (q0).2])] := fun v w A H3 h1 h2 hd hg hv => ⟨_, H3, callEnd_two (.i .i64 v) (.i .i64 w) (.inr rfl) hd h1 h2, hg, fun _ => by rw [← hv]⟩
 generalize hr0 : q0 = r0 at fin
 rw [← hq0] at hr0
 clear hq0
 unfold costE at hr0
 refine zG tyF fun K hK => ?_
 refine hK.out _ _ ?_
 refine R1.gen (fun A1 H1 => Gr H H1 ∧ H.nx < H1.nx ∧ H1.get H.nx = some (.arr [a, b] 42 0 0) ∧ slot A1.tm 0 = .one (k) ∧ slot A1.tm 2 = .one (w) ∧ slot A1.tm 3 = .one (fx) ∧ slot A1.tm 5 = .one ((.o (.ptr H.nx 0 0 2))) ∧ A1.nt = 25 ∧ A1.dfr = []) ⟨(Fr.refl _).new _, Nat.lt_succ_self _, get_newE rfl, zL⟩ ?_
 rintro A1 H1 ⟨g1, m1, rx, t0, t2, t3, t5, hnt, hdf⟩
 clear h0 h1 h2 h3 tm hK K
 have hk := hk.gr g1
 have ha := ha.gr g1
 have hb := hb.gr g1
 have hw := hw.gr g1
 have hf := hf.gr g1
 refine zG (qA tyF bd_checkValues) fun K hK => ?_
 refine WE.con (checkValues_con H1 k a b w o p v hk hL ha hb hB hw hV) fun w' H2 g2 hq => ?_
 subst hq
 have rx := (g2.get _ m1 not_false).trans rx
 have m1 := Nat.lt_of_lt_of_le m1 g2.nx
 have hk := hk.gr g2
 have ha := ha.gr g2
 have hb := hb.gr g2
 have hw := hw.gr g2
 have hf := hf.gr g2
 have g2 := g1.gr g2
 clear g1
 have hok := @askE_ok o p v
 have hov := @askE_val o p v
 have hoc := @chkPz_ok o p
 generalize askE o p v = e0 at hr0 hok hov
 by_cases he0 : e0 = 0
 case neg =>
  have ce : (e0 == 0) = false := beq_false_of_ne he0
  rw [if_pos he0] at hr0
  replace hr0 : Hd _ := hr0
  refine zK tyF ?_
  exact fin (0) (e0) _ _ qp qp qe (g2) (hr0.out)
 rw [if_neg (fun h => h he0)] at hr0
 have ce : (e0 == 0) = true := by rw [he0]; rfl
 obtain ⟨hC, hR, hvl, hcp, hrg⟩ := hok he0
 have hvr := hov he0
 obtain ⟨ls, rfl, _, _, hgo, _⟩ := hoc hcp
 have hL1 := hL ls rfl
 have hc1 : ∀ y ∈ p.1, chkLad (ladOf (some ls) y.2.2.1).1 (ladOf (some ls) y.2.2.1).2 = 0 := fun y hy => hck ls rfl _ (ladOf_mem (goC_lad hgo y hy))
 obtain ⟨lc, lr⟩ := p
 replace hr0 : costL ls lc lr v none 0 l = r0 := hr0
 replace hR : lr.length ≤ 1000000 := by have : lr.length ≤ 64 := hR; omega
 have hcon : Hd (Con E2 60 [.one k, .agg [a, b], .one w, .one fx] H2 (fun _ => False) fun r _ => r = .tup [(false, [.i .i64 r0.1]), (false, [.i .i64 r0.2])]) := by
  have h := fixes_con H2 k a b w fx ls lc lr v l hk hL1 ha hb hC hR hvl hvr hc1 hw hf hF
  rw [hr0] at h
  exact h
 clear hok hoc hov hrg hcp hL hck hB hgo hc1 hvr hL1 hr0 ha hb hC hR
 replace hvl : Hd _ := hvl
 replace he0 : Hd _ := he0
 refine zK tyF ?_
 refine zG (qA tyF bd_fixes) fun K hK => ?_
 refine WE.con hcon.out fun w' H3 g3 hq => ?_
 subst hq
 refine zK tyF ?_
 exact fin (r0.1) (r0.2) _ _ qp qp qe (g2.gr g3) (rfl)
end Go.Proofs.YtiejeicaaojdlaaGreat
namespace Go.Proofs.YtiejeicaaojdlaaGreat
open Go Go.Eng
theorem ld_caze : loadT Tryz.prog 57 = some (true, 4) := by kernel_rfl
theorem sz_caze : sizeT Tryz.prog 57 = some 4 := by kernel_rfl
theorem zr_caze : (zeroT Tryz.prog 57).map (fun z => (ofValue z).cells) = some [.o .nilS, .o .nilS, .o .nilS, .o .nilS] := by kernel_rfl
theorem ad_caze : addrT Tryz.prog 57 = 4 := by kernel_rfl
theorem fd_caze_0 : fieldT Tryz.prog 57 0 = some (0, 22, 1) := by kernel_rfl
theorem fd_caze_1 : fieldT Tryz.prog 57 1 = some (1, 42, 2) := by kernel_rfl
theorem fd_caze_2 : fieldT Tryz.prog 57 2 = some (3, 33, 1) := by kernel_rfl
end Go.Proofs.YtiejeicaaojdlaaGreat
namespace Go.Proofs.YtiejeicaaojdlaaGreat
open Go Go.Eng
theorem bd_apply : hasBody Tryz.prog 26 = true := by kernel_rfl
theorem bd_rApply : hasBody Tryz.prog 27 = true := by kernel_rfl
def setL (v : List Int) (l : List Fx) : List Int := l.foldl (fun a x => a.set x.1.toNat x.2.2.1) v
theorem setL_len (l : List Fx) : ∀ (v : List Int), (setL v l).length = v.length := by
 induction l with
 | nil => intro v; rfl
 | cons x l ih =>
  intro v
  show (setL (v.set x.1.toNat x.2.2.1) l).length = _
  rw [ih, List.length_set]
theorem setL_app (v : List Int) (l : List Fx) (x : Fx) : setL v (l ++ [x]) = (setL v l).set x.1.toNat x.2.2.1 := by
 unfold setL
 rw [List.foldl_append]; rfl
noncomputable def applyE (o : Option (List Lad)) (p : Pz) (v : List Int) (l : List Fx) : List Int × Int := if (costE o p v l).2 ≠ 0 then ([], (costE o p v l).2) else (setL v l, 0)
theorem costL_ok {ls : List Lad} {lc : List Cl} {lr : List Rl} {v : List Int} : ∀ (l : List Fx) (prev : Option Int) (t : Int), (costL ls lc lr v prev t l).2 = 0 → ∀ x ∈ l, 0 ≤ x.1 ∧ x.1 < v.length
 | [], _, _, _, x, hx => absurd hx List.not_mem_nil
 | f :: l, prev, t, h, x, hx => by
  rw [costL] at h
  by_cases c1 : badF v prev f = true
  ·rw [if_pos c1] at h; cases h
  rw [if_neg c1] at h
  by_cases c2 : f.2.2.2 = 0 ∨ f.2.2.2 ≠ kindF ls lc lr f
  ·rw [if_pos c2] at h; cases h
  rw [if_neg c2] at h
  rcases List.mem_cons.1 hx with rfl | hx
  ·rw [Bool.not_eq_true] at c1
   unfold badF at c1
   rw [Bool.or_eq_false_iff, Bool.or_eq_false_iff, decide_eq_false_iff_not, decide_eq_false_iff_not] at c1
   have h1 := c1.1
   have h2 := c1.2.1
   omega
  ·exact costL_ok l _ _ h x hx
theorem costE_ok {o : Option (List Lad)} {p : Pz} {v : List Int} {l : List Fx} (h : (costE o p v l).2 = 0) : ∀ x ∈ l, 0 ≤ x.1 ∧ x.1 < v.length := by
 unfold costE at h
 by_cases c : askE o p v ≠ 0
 ·rw [if_pos c] at h; exact absurd h c
 ·rw [if_neg c] at h; exact costL_ok l _ _ h
theorem putI {acc : List Int} {x : Int} {a : Int} (h0 : 0 ≤ x) (h : x < acc.length) : List.take x.toNat (acc.map (AC.i .i64)) ++ AC.i .i64 a :: List.drop (x.toNat + 1) (acc.map (AC.i .i64)) = (acc.set x.toNat a).map (AC.i .i64) := setRow (AC.i .i64) acc x.toNat a (by omega)
set_option maxRecDepth 10000 in
set_option maxHeartbeats 16000000 in
theorem apply_con (H : Hp) (k a b w fx : AC) (o : Option (List Lad)) (p : Pz) (v : List Int) (l : List Fx) (hk : BookO H k o) (hL : ∀ ls, o = some ls → ∀ x ∈ ls, x.2.length ≤ 1000000) (hck : ∀ ls, o = some ls → ∀ x ∈ ls, chkLad x.1 x.2 = 0) (ha : SlCl H a p.1) (hb : SlRl H b p.2) (hB : PzB p) (hw : SlI H w v) (hV : v.length * 8 ≤ 140737488355328) (hf : SlF H fx l) (hF : l.length ≤ 4398046511104) :
  Con E2 26 [.one k, .agg [a, b], .one w, .one fx] H (fun _ => False) fun r H' => ∃ c, r = .tup [(false, [c]), (false, [.i .i64 (applyE o p v l).2])] ∧ SlI H' c (applyE o p v l).1 := by
 refine Con.of rfl fun lg => ?_
 have hk : BookO ⟨H.t, H.nx, lg⟩ k o := BookO.same (H := H) rfl rfl hk
 have ha : SlCl ⟨H.t, H.nx, lg⟩ a p.1 := ha
 have hb : SlRl ⟨H.t, H.nx, lg⟩ b p.2 := hb
 have hw : SlI ⟨H.t, H.nx, lg⟩ w v := hw
 have hf : SlF ⟨H.t, H.nx, lg⟩ fx l := hf
 generalize (⟨H.t, H.nx, lg⟩ : Hp) = H at hk ha hb hw hf ⊢
 refine C1.body (E := E2) (nt := 42) (res := [.tmp 8, .tmp 9]) Tryz.func26 rfl rfl rfl rfl rfl fun tm hargs => ?_
 have h0 := hargs 0 _ rfl
 have h1 := hargs 1 _ rfl
 have h2 := hargs 2 _ rfl
 have h3 := hargs 3 _ rfl
 clear hargs
 generalize hr0 : applyE o p v l = r0
 have fin : ∀ (c : AC) (e : Int) (A : AAct) (H3 : Hp), slot A.tm 8 = .one c → slot A.tm 9 = .one (.i .i64 e) → A.dfr = [] → Gr H H3 → SlI H3 c r0.1 ∧ e = r0.2 → ∃ w H4, callEnd E2 [.tmp 8, .tmp 9] (.ret, A, H3) = .ok [(w, H4)] ∧ Gr H H4 ∧ ∀ lg' : List Nat, ∃ c, w = .tup [(false, [c]), (false, [.i .i64 r0.2])] ∧ SlI ⟨H4.t, H4.nx, lg'⟩ c r0.1 := fun c e A H3 h1 h2 h3 h4 h5 => ⟨_, H3, callEnd_two c (.i .i64 e) (.inr rfl) h3 h1 h2, h4, fun _ => ⟨c, by rw [h5.2], h5.1⟩⟩
 unfold applyE at hr0
 replace hr0 : Hd _ := hr0
 refine zG tyF fun K hK => ?_
 refine hK.out _ _ ?_
 refine R1.gen (fun A1 H1 => Gr H H1 ∧ H.nx < H1.nx ∧ H1.get H.nx = some (.arr [a, b] 42 0 0) ∧ slot A1.tm 0 = .one (k) ∧ slot A1.tm 2 = .one (w) ∧ slot A1.tm 3 = .one (fx) ∧ slot A1.tm 5 = .one ((.o (.ptr H.nx 0 0 2))) ∧ A1.nt = 42 ∧ A1.dfr = []) ⟨(Fr.refl _).new _, Nat.lt_succ_self _, get_newE rfl, zL⟩ ?_
 rintro A1 H1 ⟨g1, m1, rx, t0, t2, t3, t5, hnt, hdf⟩
 clear h0 h1 h2 h3 tm hK K
 have hf0 := hf
 have hk := hk.gr g1
 have ha := ha.gr g1
 have hb := hb.gr g1
 have hw := hw.gr g1
 have hf := hf.gr g1
 refine zG (qA tyF bd_cost) fun K hK => ?_
 refine WE.con (cost_con H1 k a b w fx o p v l hk hL hck ha hb hB hw (by omega) hf hF) fun w' H2 g2 hq => ?_
 subst hq
 have rx := (g2.get _ m1 not_false).trans rx
 have m1 := Nat.lt_of_lt_of_le m1 g2.nx
 have hw := hw.gr g2
 have g2 := g1.gr g2
 clear g1 ha hb hk
 have hok := @costE_ok o p v l
 generalize costE o p v l = ce at hr0 hok ⊢
 obtain ⟨tot, e0⟩ := ce
 replace hok : e0 = 0 → _ := hok
 replace hr0 : Hd ((if e0 ≠ 0 then ([], e0) else (setL v l, 0)) = r0) := hr0
 by_cases he0 : e0 = 0
 case neg =>
  have cz : (e0 == 0) = false := beq_false_of_ne he0
  have hr1 := hr0.out
  rw [if_pos he0] at hr1
  clear hr0
  replace hr1 : Hd _ := hr1
  refine zK tyF ?_
  exact fin (.o .nilS) (e0) _ _ qp qp qe (g2) (⟨by rw [← hr1.out]; exact SlI.nil, by rw [← hr1.out]⟩)
 have hok1 := hok he0
 clear hok
 subst he0
 have hr1 := hr0.out
 rw [if_neg (fun h => h rfl)] at hr1
 clear hr0
 replace hr1 : Hd _ := hr1
 refine zK tyF ?_
 refine zG (qA tyF bd_cloneI) fun K hK => ?_
 refine WE.con (cloneI_con H2 w v hw hV) fun w' H3 g3 ⟨c, q, hq, hc, hqn⟩ => ?_
 subst hq
 have rx := (g3.get _ m1 not_false).trans rx
 have m1 := Nat.lt_of_lt_of_le m1 g3.nx
 have hcl := hc.lt
 have hqH : ∀ i, q = some i → H.nx ≤ i := fun i h => Nat.le_trans g2.nx (hqn i h)
 have g3 := g2.gr g3
 have hf := hf0.gr g3
 have l1 := hf.len
 have l2 := hf.lt
 clear g2 hw hqn
 obtain ⟨N, hN⟩ : ∃ N, N = H.nx := ⟨_, rfl⟩
 rw [← hN] at m1 rx t5
 clear hN
 refine zK tyF ?_
 refine R1.s_bl fun K2 k1 k2 k3 k4 => ?_
 refine R1.loop (fun z A H4 => ∃ i : Nat, z = l.length - i ∧ i ≤ l.length ∧ Gr H H4 ∧ RowI H4 c (setL v (l.take i)) q ∧ slot A.tm 12 = .one (c) ∧ slot A.tm 28 = .one (fx) ∧ slot A.tm 29 = .one (.i .i64 (l.length : Int)) ∧ slot A.tm 30 = .one (.i .i64 (i : Int)) ∧ A.nt = 42 ∧ A.dfr = []) ?_ l.length
  ⟨0, rfl, Nat.zero_le _, g3, hc, zL⟩
 clear t0 t2 t3 t5 hnt hdf A1 k3 l1 l2 hc rx m1 hcl
 rintro z A H4 ⟨i, rfl, hi, g4, hc, t12, t28, t29, t30, hnt, hdf⟩
 have hff := hf0.gr g4
 have l1 := hff.len
 have l2 := hff.lt
 have hcl := hc.lt
 refine zW tyF ?_
 refine zI tyF (fun hc' => ?_) (fun hc' => ?_)
 ·have hlt : i < l.length := by omega
  have ex : l[i]? = some l[i] := List.getElem?_eq_getElem hlt
  have hdr : l.drop i = l[i] :: l.drop (i + 1) := List.drop_eq_getElem_cons hlt
  have htk : l.take (i + 1) = l.take i ++ [l[i]] := List.take_succ_eq_append_getElem hlt
  have hmem : l[i] ∈ l := List.getElem_mem hlt
  generalize l[i] = x at ex hdr htk hmem
  have hw2 : IntKind.i64.wrap ((i : Int) + 1) = ((i + 1 : Nat) : Int) := by rw [wrapI (by omega) (by omega)]; omega
  obtain ⟨hx0, hxv⟩ := hok1 x hmem
  obtain ⟨id, g, off, cells, rfl, hid, hgr, hat⟩ := hf0.open (by omega)
  have hidH := hid
  have hgr4 : rowOf (H4.get id) g = some cells := by rw [g4.get _ hid not_false]; exact hgr
  have hid4 : id < H4.nx := Nat.lt_of_lt_of_le hid g4.nx
  have hx1 := hat i x ex
  clear hat hmem hgr hid hff hdr
  have hv0 : 0 < (setL v (l.take i)).length := by rw [setL_len]; omega
  rcases hc with ⟨_, h0, _⟩ | ⟨rid, lo, gen, hqe, rfl, hrg, hlo, hrl, hrn⟩
  ·omega
  have hsl := setL_len (l.take i) v
  have hnx : setL v (l.take (i + 1)) = (setL v (l.take i)).set x.1.toNat x.2.2.1 := by rw [htk, setL_app]
  have hrH : H.nx ≤ rid := hqH rid hqe
  generalize setL v (l.take i) = acc at hrg hrl hsl hnx hv0 hcl t12 ⊢
  have hxa : x.1 < acc.length := by omega
  have hput := putI (a := x.2.2.1) hx0 hxa
  have hle : x.1.toNat + 1 ≤ (acc.map (AC.i .i64)).length := by rw [List.length_map]; omega
  have hneq : id ≠ rid := by omega
  clear htk hxv hsl hrl hv0
  have y1 := hx1.all
  have y2 := hx1.le
  rw [fxC] at y1
  clear hx1
  obtain ⟨x1, x2, x3, x4⟩ := x
  replace y1 : (cells.drop (off + i * 4)).take 4 = [.i .i64 x1, .i .i64 x2, .i .i64 x3, .i .i64 x4] := y1
  replace hx0 : 0 ≤ x1 := hx0
  replace hxa : x1 < acc.length := hxa
  replace hput : List.take x1.toNat (acc.map (AC.i .i64)) ++ AC.i .i64 x3 :: List.drop (x1.toNat + 1) (acc.map (AC.i .i64)) = (acc.set x1.toNat x3).map (AC.i .i64) := hput
  replace hle : x1.toNat + 1 ≤ (acc.map (AC.i .i64)).length := hle
  replace hnx : setL v (l.take (i + 1)) = acc.set x1.toNat x3 := hnx
  replace hnx : Hd _ := hnx
  replace ex : Hd _ := ex
  replace hqe : Hd _ := hqe
  refine zW tyF ?_
  refine R1.s_bl fun K3 q1 q2 q3 q4 => ?_
  refine zG (qA tyF (ixC hlt)) fun K hK => ?_
  refine hK.out _ _ ?_
  refine R1.gen (fun A4 H5 => Gr H4 H5 ∧ H4.nx < H5.nx ∧ H5.get H4.nx = some (.arr [.i .i64 x1, .i .i64 x2, .i .i64 x3, .i .i64 x4] 103 0 0) ∧ slot A4.tm 12 = .one ((.o (.sl rid gen 0 acc.length 1))) ∧ slot A4.tm 14 = .one ((.o (.ptr H4.nx 0 0 4))) ∧ slot A4.tm 28 = .one ((.o (.sl id g off l.length 4))) ∧ slot A4.tm 29 = .one (.i .i64 (l.length : Int)) ∧ slot A4.tm 30 = .one (.i .i64 (i : Int)) ∧ A4.nt = 42 ∧ A4.dfr = [])
   ⟨((Fr.refl _).new _).mod _ (.inl (Nat.le_refl _)), Nat.lt_succ_self _, get_modE rfl, zL⟩ ?_
  clear t12 t28 t29 t30 hnt hdf A y1 y2 hK K l1 l2 hcl
  rintro A H5 ⟨g5, mM, rM, t12, t14, t28, t29, t30, hnt, hdf⟩
  obtain ⟨M, hM⟩ : ∃ M, M = H4.nx := ⟨_, rfl⟩
  rw [← hM] at mM rM t14
  have hMr : M ≠ rid := by omega
  replace hM : Hd _ := hM
  have hrg := (g5.get _ hrn not_false).trans hrg
  have hrn := Nat.lt_of_lt_of_le hrn g5.nx
  have hg5 := g4.gr g5
  clear g4 g5 hid4 hgr4
  refine zW (qA tyF (qA (ixI hx0 hxa) (qA hput (qA Nat.mul_one hle)))) ?_
  refine q1.out _ _ ?_
  refine zW tyF ?_
  exact ⟨l.length - (i + 1), by omega, i + 1, rfl, hlt, hg5.mod _ (.inl hrH), by
   rw [hnx.out]
   exact .inr ⟨rid, gen, gen, hqe.out, by rw [List.length_set], get_modE rfl, Nat.le_refl _, by rw [List.length_map, Nat.mul_one], hrn⟩, zL⟩
 ·have hie : i = l.length := by omega
  rw [hie, List.take_length] at hc
  clear hie
  replace hc : Hd _ := hc
  refine zW tyF ?_
  refine k2.out _ _ ?_
  refine zW tyF ?_
  exact fin (c) (0) _ _ qp qp qe (g4) (⟨by rw [← hr1.out]; exact RowI.slI hc.out, by rw [← hr1.out]⟩)
set_option maxRecDepth 10000 in
set_option maxHeartbeats 16000000 in
theorem rApply_con (H : Hp) (k a b w fx : AC) (o : Option (List Lad)) (p : Pz) (v : List Int) (l : List Fx) (hk : RBkO H k o) (hL : ∀ ls, o = some ls → (∀ x ∈ ls, x.2.length ≤ 1000000) ∧ ls.length ≤ 1000000) (ha : SlCl H a p.1) (hb : SlRl H b p.2) (hB : PzB p) (hw : SlI H w v) (hV : v.length * 8 ≤ 140737488355328) (hf : SlF H fx l) (hF : l.length ≤ 4398046511104) :
  Con E2 27 [.one k, .agg [a, b], .one w, .one fx] H (fun _ => False) fun r H' => ∃ c, r = .tup [(false, [c]), (false, [.i .i64 (applyE o p v l).2])] ∧ SlI H' c (applyE o p v l).1 := by
 refine Con.of rfl fun lg => ?_
 have hk : RBkO ⟨H.t, H.nx, lg⟩ k o := RBkO.same (H := H) rfl rfl hk
 have ha : SlCl ⟨H.t, H.nx, lg⟩ a p.1 := ha
 have hb : SlRl ⟨H.t, H.nx, lg⟩ b p.2 := hb
 have hw : SlI ⟨H.t, H.nx, lg⟩ w v := hw
 have hf : SlF ⟨H.t, H.nx, lg⟩ fx l := hf
 generalize (⟨H.t, H.nx, lg⟩ : Hp) = H at hk ha hb hw hf ⊢
 refine C1.body (E := E2) (nt := 46) (res := [.tmp 8, .tmp 9]) Tryz.func27 rfl rfl rfl rfl rfl fun tm hargs => ?_
 have h0 := hargs 0 _ rfl
 have h1 := hargs 1 _ rfl
 have h2 := hargs 2 _ rfl
 have h3 := hargs 3 _ rfl
 clear hargs
 generalize hr0 : applyE o p v l = r0
 have fin : ∀ (c : AC) (e : Int) (A : AAct) (H3 : Hp), slot A.tm 8 = .one c → slot A.tm 9 = .one (.i .i64 e) → A.dfr = [] → Gr H H3 → SlI H3 c r0.1 ∧ e = r0.2 → ∃ w H4, callEnd E2 [.tmp 8, .tmp 9] (.ret, A, H3) = .ok [(w, H4)] ∧ Gr H H4 ∧ ∀ lg' : List Nat, ∃ c, w = .tup [(false, [c]), (false, [.i .i64 r0.2])] ∧ SlI ⟨H4.t, H4.nx, lg'⟩ c r0.1 := fun c e A H3 h1 h2 h3 h4 h5 => ⟨_, H3, callEnd_two c (.i .i64 e) (.inr rfl) h3 h1 h2, h4, fun _ => ⟨c, by rw [h5.2], h5.1⟩⟩
 unfold applyE at hr0
 replace hr0 : Hd _ := hr0
 refine zG tyF fun K hK => ?_
 refine hK.out _ _ ?_
 refine R1.gen (fun A1 H1 => Gr H H1 ∧ H.nx < H1.nx ∧ H1.get H.nx = some (.arr [a, b] 42 0 0) ∧ slot A1.tm 0 = .one (k) ∧ slot A1.tm 2 = .one (w) ∧ slot A1.tm 3 = .one (fx) ∧ slot A1.tm 5 = .one ((.o (.ptr H.nx 0 0 2))) ∧ A1.nt = 46 ∧ A1.dfr = []) ⟨(Fr.refl _).new _, Nat.lt_succ_self _, get_newE rfl, zL⟩ ?_
 rintro A1 H1 ⟨g1, m1, rx, t0, t2, t3, t5, hnt, hdf⟩
 clear h0 h1 h2 h3 tm hK K
 have hf0 := hf
 have hk := hk.gr g1
 have ha := ha.gr g1
 have hb := hb.gr g1
 have hw := hw.gr g1
 have hf := hf.gr g1
 refine zG (qA tyF bd_rCost) fun K hK => ?_
 refine WE.con (rCost_con H1 k a b w fx o p v l hk hL ha hb hB hw (by omega) hf hF) fun w' H2 g2 hq => ?_
 subst hq
 have rx := (g2.get _ m1 not_false).trans rx
 have m1 := Nat.lt_of_lt_of_le m1 g2.nx
 have hw := hw.gr g2
 have g2 := g1.gr g2
 clear g1 ha hb hk
 have hok := @costE_ok o p v l
 generalize costE o p v l = ce at hr0 hok ⊢
 obtain ⟨tot, e0⟩ := ce
 replace hok : e0 = 0 → _ := hok
 replace hr0 : Hd ((if e0 ≠ 0 then ([], e0) else (setL v l, 0)) = r0) := hr0
 by_cases he0 : e0 = 0
 case neg =>
  have cz : (e0 == 0) = false := beq_false_of_ne he0
  have hr1 := hr0.out
  rw [if_pos he0] at hr1
  clear hr0
  replace hr1 : Hd _ := hr1
  refine zK tyF ?_
  exact fin (.o .nilS) (e0) _ _ qp qp qe (g2) (⟨by rw [← hr1.out]; exact SlI.nil, by rw [← hr1.out]⟩)
 have hok1 := hok he0
 clear hok
 subst he0
 have hr1 := hr0.out
 rw [if_neg (fun h => h rfl)] at hr1
 clear hr0
 replace hr1 : Hd _ := hr1
 refine zK tyF ?_
 refine zG (qA tyF bd_copyInts) fun K hK => ?_
 refine WE.con (copyR_con H2 w v hw hV) fun w' H3 g3 ⟨c, q, hq, hc, hqn⟩ => ?_
 subst hq
 have rx := (g3.get _ m1 not_false).trans rx
 have m1 := Nat.lt_of_lt_of_le m1 g3.nx
 have hcl := hc.lt
 have hqH : ∀ i, q = some i → H.nx ≤ i := fun i h => Nat.le_trans g2.nx (hqn i h)
 have g3 := g2.gr g3
 have hf := hf0.gr g3
 have l1 := hf.len
 have l2 := hf.lt
 clear g2 hw hqn
 obtain ⟨N, hN⟩ : ∃ N, N = H.nx := ⟨_, rfl⟩
 rw [← hN] at m1 rx t5
 clear hN
 refine zK tyF ?_
 refine R1.s_bl fun K2 k1 k2 k3 k4 => ?_
 refine R1.loop (fun z A H4 => ∃ i : Nat, z = l.length - i ∧ i ≤ l.length ∧ Gr H H4 ∧ RowI H4 c (setL v (l.take i)) q ∧ slot A.tm 3 = .one (fx) ∧ slot A.tm 12 = .one (c) ∧ slot A.tm 13 = .one (.i .i64 (i : Int)) ∧ A.nt = 46 ∧ A.dfr = []) ?_ l.length
  ⟨0, rfl, Nat.zero_le _, g3, hc, zL⟩
 clear t0 t2 t3 t5 hnt hdf A1 k3 l1 l2 hc rx m1 hcl
 rintro z A H4 ⟨i, rfl, hi, g4, hc, t3, t12, t13, hnt, hdf⟩
 have hff := hf0.gr g4
 have l1 := hff.len
 have l2 := hff.lt
 have hcl := hc.lt
 refine zW tyF ?_
 refine zI tyF (fun hc' => ?_) (fun hc' => ?_)
 ·have hlt : i < l.length := by omega
  have ex : l[i]? = some l[i] := List.getElem?_eq_getElem hlt
  have hdr : l.drop i = l[i] :: l.drop (i + 1) := List.drop_eq_getElem_cons hlt
  have htk : l.take (i + 1) = l.take i ++ [l[i]] := List.take_succ_eq_append_getElem hlt
  have hmem : l[i] ∈ l := List.getElem_mem hlt
  generalize l[i] = x at ex hdr htk hmem
  have hw2 : IntKind.i64.wrap ((i : Int) + 1) = ((i + 1 : Nat) : Int) := by rw [wrapI (by omega) (by omega)]; omega
  obtain ⟨hx0, hxv⟩ := hok1 x hmem
  obtain ⟨id, g, off, cells, rfl, hid, hgr, hat⟩ := hf0.open (by omega)
  have hidH := hid
  have hgr4 : rowOf (H4.get id) g = some cells := by rw [g4.get _ hid not_false]; exact hgr
  have hid4 : id < H4.nx := Nat.lt_of_lt_of_le hid g4.nx
  have hx1 := hat i x ex
  clear hat hmem hgr hid hff hdr
  have hv0 : 0 < (setL v (l.take i)).length := by rw [setL_len]; omega
  rcases hc with ⟨_, h0, _⟩ | ⟨rid, lo, gen, hqe, rfl, hrg, hlo, hrl, hrn⟩
  ·omega
  have hsl := setL_len (l.take i) v
  have hnx : setL v (l.take (i + 1)) = (setL v (l.take i)).set x.1.toNat x.2.2.1 := by rw [htk, setL_app]
  have hrH : H.nx ≤ rid := hqH rid hqe
  generalize setL v (l.take i) = acc at hrg hrl hsl hnx hv0 hcl t12 ⊢
  have hxa : x.1 < acc.length := by omega
  have hput := putI (a := x.2.2.1) hx0 hxa
  have hle : x.1.toNat + 1 ≤ (acc.map (AC.i .i64)).length := by rw [List.length_map]; omega
  have hneq : id ≠ rid := by omega
  clear htk hxv hsl hrl hv0
  have y1 := hx1.f0
  have y2 := hx1.le1
  have y3 := hx1.f2
  have y4 := hx1.le3
  clear hx1
  replace hnx : Hd _ := hnx
  replace ex : Hd _ := ex
  replace hqe : Hd _ := hqe
  refine zW tyF ?_
  refine R1.s_bl fun K3 q1 q2 q3 q4 => ?_
  refine zW (qA tyF (qA (ixC hlt) (qA (ixI hx0 hxa) (qA hput (qA Nat.mul_one hle))))) ?_
  refine q1.out _ _ ?_
  refine zW tyF ?_
  exact ⟨l.length - (i + 1), by omega, i + 1, rfl, hlt, g4.mod _ (.inl hrH), by
   rw [hnx.out]
   exact .inr ⟨rid, gen, gen, hqe.out, by rw [List.length_set], get_modE rfl, Nat.le_refl _, by rw [List.length_map, Nat.mul_one], hrn⟩, zL⟩
 ·have hie : i = l.length := by omega
  rw [hie, List.take_length] at hc
  clear hie
  replace hc : Hd _ := hc
  refine zW tyF ?_
  refine k2.out _ _ ?_
  refine zW tyF ?_
  exact fin (c) (0) _ _ qp qp qe (g4) (⟨by rw [← hr1.out]; exact RowI.slI hc.out, by rw [← hr1.out]⟩)
end Go.Proofs.YtiejeicaaojdlaaGreat
namespace Go.Proofs.YtiejeicaaojdlaaGreat
open Go Go.Eng
theorem bd_sameFixes : hasBody Tryz.prog 28 = true := by kernel_rfl
theorem applyE_len (o : Option (List Lad)) (p : Pz) (v : List Int) (l : List Fx) : (applyE o p v l).1.length ≤ v.length := by
 unfold applyE
 by_cases h : (costE o p v l).2 ≠ 0
 ·rw [if_pos h]; exact Nat.zero_le _
 ·rw [if_neg h]; exact Nat.le_of_eq (setL_len l v)
theorem tyC : type_of% (qA tyF (qA ld_caze (qA sz_caze (qA zr_caze (qA ad_caze (qA fd_caze_0 (qA fd_caze_1 fd_caze_2))))))) := qA tyF (qA ld_caze (qA sz_caze (qA zr_caze (qA ad_caze (qA fd_caze_0 (qA fd_caze_1 fd_caze_2))))))
set_option maxRecDepth 10000 in
set_option maxHeartbeats 16000000 in
theorem costsLaw_c1 (H : Hp) (u a b w fx : AC) (ls : List Lad) (p : Pz) (v : List Int) (l : List Fx) (hl : SlLad H u ls) (ha : SlCl H a p.1) (hb : SlRl H b p.2) (hB : PzB p) (hw : SlI H w v) (hV : v.length * 8 ≤ 140737488355328) (hf : SlF H fx l) (hF : l.length * 32 ≤ 140737488355328) :
  C1 E2 6 [.agg [u, a, b, w], .one fx] H fun r _ => r = .one (.b true) := by
 refine C1.body (E := E2) (nt := 91) (res := [.tmp 4]) Tryz.func6 rfl rfl rfl rfl rfl fun tm hargs => ?_
 have h0 := hargs 0 _ rfl
 have h1 := hargs 1 _ rfl
 clear hargs
 have hu0 := hl.lt
 have ha0 := ha.lt
 have hb0 := hb.lt
 have hw0 := hw.lt
 refine zG tyC fun K hK => ?_
 refine hK.out _ _ ?_
 refine R1.gen (fun A1 H1 => Gr H H1 ∧ H.nx < H1.nx ∧ H1.get H.nx = some (.arr [u, a, b, w] 57 0 0) ∧ slot A1.tm 1 = .one (fx) ∧ slot A1.tm 2 = .one ((.o (.ptr H.nx 0 0 4))) ∧ A1.nt = 91 ∧ A1.dfr = []) ⟨(Fr.refl _).new _, Nat.lt_succ_self _, get_newE rfl, zL⟩ ?_
 rintro A1 H1 ⟨g1, m1, rx, t1, t2, hnt, hdf⟩
 clear h0 h1 tm hK K hu0 ha0 hb0 hw0
 obtain ⟨N, hN⟩ : ∃ N, N = H.nx := ⟨_, rfl⟩
 rw [← hN] at m1 rx t2
 clear hN
 have hl := hl.gr g1
 have ha := ha.gr g1
 have hb := hb.gr g1
 have hw := hw.gr g1
 have hf := hf.gr g1
 refine zG (qA tyC bd_books) fun K hK => ?_
 refine WE.con (books_con H1 u ls hl) fun w' H2 g2 ⟨p1, p2, hq, hp, hr, hno⟩ => ?_
 subst hq
 have rx := (g2.get _ m1 not_false).trans rx
 have m1 := Nat.lt_of_lt_of_le m1 g2.nx
 have ha := ha.gr g2
 have hb := hb.gr g2
 have hw := hw.gr g2
 have hf := hf.gr g2
 clear hno hl
 have hbl : ∀ l, bkO ls = some l → (∀ x ∈ l, x.2.length ≤ 1000000) ∧ l.length ≤ 1000000 := fun l h => ⟨fun x hx => by have := (bkO_le h).2 x hx; omega, by have := (bkO_le h).1; omega⟩
 have hck : ∀ l, bkO ls = some l → ∀ x ∈ l, chkLad x.1 x.2 = 0 := fun l h => bkO_chk h
 generalize bkO ls = o at hp hr hbl hck
 obtain ⟨z, hz, hzl⟩ := zx_fix
 obtain ⟨f2, H3, q, happ, hs, g3, _⟩ := app_own (P := Tryz.prog) (H := H2) (t := 58) el_fixes by_fix hz hzl (by decide) hf (by omega)
 have hf2 : SlF H3 f2 l := hs.slc
 have l1 := hf.lt
 clear hz hzl z hs
 replace hbl : Hd _ := hbl
 replace hck : Hd _ := hck
 refine zK tyC ?_
 clear happ l1
 have rx := (g3.get _ m1 not_false).trans rx
 have m1 := Nat.lt_of_lt_of_le m1 g3.nx
 have ha := ha.gr g3
 have hb := hb.gr g3
 have hw := hw.gr g3
 have hf := hf.gr g3
 have hp := hp.gr g3
 have hr := hr.gr g3
 have hVV : v.length ≤ 4611686018427387904 := by omega
 have hFF : l.length ≤ 4398046511104 := by omega
 refine zG (qA tyC bd_cost) fun K hK => ?_
 refine WE.con (cost_con H3 p1 a b w f2 o p v l hp (fun l h => (hbl.out l h).1) hck.out ha hb hB hw hVV hf2 hFF) fun w' H4 g4 hq => ?_
 subst hq
 have rx := (g4.get _ m1 not_false).trans rx
 have m1 := Nat.lt_of_lt_of_le m1 g4.nx
 have ha := ha.gr g4
 have hb := hb.gr g4
 have hw := hw.gr g4
 have hp := hp.gr g4
 have hr := hr.gr g4
 have hf := hf.gr g4
 have hf2 := hf2.gr g4
 refine zK tyC ?_
 refine zG (qA tyC bd_rCost) fun K hK => ?_
 refine WE.con (rCost_con H4 p2 a b w fx o p v l hr hbl.out ha hb hB hw hVV hf hFF) fun w' H5 g5 hq => ?_
 subst hq
 have rx := (g5.get _ m1 not_false).trans rx
 have m1 := Nat.lt_of_lt_of_le m1 g5.nx
 have ha := ha.gr g5
 have hb := hb.gr g5
 have hw := hw.gr g5
 have hp := hp.gr g5
 have hr := hr.gr g5
 have hf := hf.gr g5
 have hf2 := hf2.gr g5
 have hbe : ∀ x : Int, (x == x) = true := fun x => by simp
 refine zK tyC ?_
 refine zG (qA tyC bd_apply) fun K hK => ?_
 refine WE.con (apply_con H5 p1 a b w f2 o p v l hp (fun l h => (hbl.out l h).1) hck.out ha hb hB hw hV hf2 hFF) fun w' H6 g6 ⟨c1, hq, hc1⟩ => ?_
 subst hq
 have rx := (g6.get _ m1 not_false).trans rx
 have m1 := Nat.lt_of_lt_of_le m1 g6.nx
 have ha := ha.gr g6
 have hb := hb.gr g6
 have hw := hw.gr g6
 have hr := hr.gr g6
 have hf := hf.gr g6
 have hf2 := hf2.gr g6
 refine zK tyC ?_
 refine zG (qA tyC bd_rApply) fun K hK => ?_
 refine WE.con (rApply_con H6 p2 a b w fx o p v l hr hbl.out ha hb hB hw hV hf hFF) fun w' H7 g7 ⟨c2, hq, hc2⟩ => ?_
 subst hq
 have rx := (g7.get _ m1 not_false).trans rx
 have m1 := Nat.lt_of_lt_of_le m1 g7.nx
 have hf := hf.gr g7
 have hf2 := hf2.gr g7
 have hc1 := hc1.gr g7
 have k1 := applyE_len o p v l
 refine zK tyC ?_
 refine zG (qA tyC bd_eqInts) fun K hK => ?_
 refine WE.con (eqInts_con H7 c1 c2 _ hc1 hc2 (by omega)) fun w' H8 g8 hq => ?_
 subst hq
 have hf := hf.gr g8
 have hf2 := hf2.gr g8
 refine zS (qA tyC bd_sameFixes) ?_
 refine WE.con (sameFix_con H8 f2 fx l hf2 hf (by omega)) fun w' H9 g9 hq => ?_
 subst hq
 refine zS (qA tyC bd_works) ?_
 refine WE.prim works_p fun Hb gb _ _ => ?_
 refine zK tyC ?_
 exact ⟨_, _, callEnd_one (.b true) (.inr rfl) qe qp, rfl⟩
end Go.Proofs.YtiejeicaaojdlaaGreat
namespace Go.Proofs.YtiejeicaaojdlaaGreat
open Go.ChangeShapes Go.WideShapes Go.ChangeAt Go.RowKit Go.Eng
abbrev fixR := pairR (intR .i64) (pairR (intR .i64) (pairR (intR .i64) (intR .i64)))
abbrev fixesR := sliR Tryz.prog 103 4 fixR
abbrev caseR := pairR ladsR (pairR puzzleR intsR)
theorem mon_fix : MonR fixR := mon_pair mon_int (mon_pair mon_int (mon_pair mon_int mon_int))
theorem mon_lads : MonR ladsR := mon_sli (mon_pair mon_str mon_units)
theorem mon_puzzle : MonR puzzleR := mon_pair mon_cells mon_rules
theorem opn_fix {W : World} : Opn Tryz.prog W 4 fixR 103 := opn_struct Tryz.underlying103 (by kernel_rfl) rfl (opnF_cons (opn_int Tryz.underlying3) mon_int (opnF_cons (opn_int Tryz.underlying3) mon_int (opnF_cons (opn_int Tryz.underlying3) mon_int (opnF_one (opn_int Tryz.underlying3)))))
theorem opn_fixes {W : World} (hB : HasB W) : Opn Tryz.prog W 1 fixesR 58 := opn_slice Tryz.underlying58 (by kernel_rfl) (by decide) mon_fix hB opn_fix
theorem opn_case {W : World} (hB : HasB W) : Opn Tryz.prog W 4 caseR 57 := opn_struct Tryz.underlying57 (by kernel_rfl) rfl (opnF_cons (opn_lads hB) mon_lads (opnF_cons (opn_puzzle hB) mon_puzzle (opnF_one (opn_ints hB))))
theorem opnZ_case {W : World} : OpnZ Tryz.prog W 4 caseR 57 := opnZ_struct Tryz.underlying57 (by kernel_rfl) rfl (opnFZ_cons (opnZ_slice Tryz.underlying22) mon_lads (opnFZ_cons opnZ_puzzle mon_puzzle (opnFZ_one (opnZ_slice Tryz.underlying33))))
theorem bytesOf_fix : Tryz.prog.bytesOf 103 = 32 := by kernel_rfl
theorem fixes_of {B : Nat} {H : Hp} {c : List AC} {l : List Fx} (h : fixesR B H c l) : ∃ u, c = [u] ∧ SlF H u l ∧ l.length * 32 ≤ B := by
 obtain ⟨u, rfl, ⟨css, h1, h2⟩, h3⟩ := h
 refine ⟨u, rfl, ?_, by rwa [bytesOf_fix] at h3⟩
 have := al_flat (f := fxC) (h2.mono fun c x ⟨_, c1, c2, e, a, c3, c4, e2, b, c5, c6, e3, d, f⟩ => by rw [e, a.1, e2, b.1, e3, d.1, f.1]; rfl)
 rw [this] at h1
 exact h1
theorem case_of {B : Nat} {H : Hp} {c : List AC} {x : List Lad × Pz × List Int} (hB : B ≤ 140737488355328) (h : caseR B H c x) : ∃ u a b w, c = [u, a, b, w] ∧ SlLad H u x.1 ∧ SlCl H a x.2.1.1 ∧ SlRl H b x.2.1.2 ∧ PzB x.2.1 ∧ SlI H w x.2.2 ∧ x.2.2.length * 8 ≤ B := by
 obtain ⟨c1, c2, rfl, h1, c3, c4, rfl, h2, h3⟩ := h
 obtain ⟨u, e, h1'⟩ := id h1
 subst e
 obtain ⟨a, b, rfl, k1, k2, k3⟩ := pz_of hB h2
 obtain ⟨w, rfl, k4, k5⟩ := ints_of h3
 exact ⟨u, a, b, w, rfl, (lads_of h1).1, k1, k2, k3, k4, k5⟩
theorem readsCF : ∀ t ∈ [57, 58], Tryz.prog.readableRec t = true ∧ t < Tryz.prog.types.size := by
 have h1 : Tryz.prog.readableRec 57 = true := by kernel_rfl
 have h2 : Tryz.prog.readableRec 58 = true := by kernel_rfl
 have k1 : decide (57 < Tryz.prog.types.size) = true := by kernel_rfl
 have k2 : decide (58 < Tryz.prog.types.size) = true := by kernel_rfl
 intro t ht
 simp only [List.mem_cons, List.not_mem_nil, or_false] at ht
 rcases ht with rfl | rfl
 ·exact ⟨h1, of_decide_eq_true k1⟩
 ·exact ⟨h2, of_decide_eq_true k2⟩
set_option maxRecDepth 100000 in
theorem costs_lifted (os : Os) (started : os.Started) (H : Type) (enc : TypeId × Value → H) :
  ReturnsInHanded {} Tryz.checked os 6 .any (Rows.accountCostsSpec.pre6 enc Tryz.prog Tryz.f6 Rows.accountCostsRow.domain false) (Rows.accountCostsSpec.post enc Tryz.prog Tryz.f6 false true false false) := by
 refine returnsInHanded_of_change_sized (C := Tryz.checked) Tryz.own started (by kernel_rfl) Tryz.func6
  (ChangeSpec.witness6 (enc := enc) (C := Tryz.checked) false ⟨#[], #[.agg #[.slice none 0 0, .slice none 0 0, .slice none 0 0, .slice none 0 0], .slice none 0 0], []⟩ 8 (by kernel_rfl) (by kernel_rfl) (by kernel_rfl) (by kernel_rfl)) ?_
 intro W base args ds gs before hval0 hW hcnd0 hsz _
 clear hcnd0
 have hval : ∀ (j : Nat) t v, Tryz.f6.params[j]? = some t → args[j]? = some v → Value.okWide Tryz.prog W .any base t v := hval0
 have hW' := hW
 obtain ⟨p, q, hA0, hV, rfl, hfz, hnd⟩ := hW
 have hA : DataW.TrodAll enc Tryz.prog W 0 (fun _ => true) true Tryz.f6.params.toList args.toList ds p := hA0
 rw [Tryz.params6] at hA hval hsz
 have hAll := hA
 obtain ⟨v0, v1, d0, d1, p0, p1, rfl, rfl, rfl, h0, h1⟩ := trodAll_two hA
 obtain ⟨rfl, rfl⟩ := trodVars_none hV
 clear hA0 hval0
 simp only [List.append_nil] at hW' hfz
 have hw : ∀ (j : Nat) (t : TypeId) (d : DataW H), [57, 58][j]? = some t → [d0, d1][j]? = some d → ∀ n ∈ d.weights Tryz.prog t, n ≤ reachBytes := fun j t d ht hd n hn => by
  have := List.all_eq_true.1 hsz n (DataW.weights_mem_each (j := j) (by rw [List.getElem?_append_left (by have := (List.getElem?_eq_some_iff.1 ht).1; exact this)]; exact ht) (by rw [List.getElem?_append_left (by have := (List.getElem?_eq_some_iff.1 hd).1; exact this)]; exact hd) n hn)
  simpa using this
 obtain ⟨y0, u0, l0, a0, b0, _, c0⟩ := opn_topS Tryz.underlying57 (fun hB => opn_case hB) opnZ_case (hval 0 _ v0 rfl rfl) h0 (hw 0 _ _ rfl rfl) [] rows_nil
 obtain ⟨y1, u1, l1, a1, b1, c1⟩ := opn_top Tryz.underlying58 (fun hB => opn_fixes hB) (hval 1 _ v1 rfl rfl) h1 (hw 1 _ _ rfl rfl) _ a0
 obtain ⟨u, a, b, w, rfl, e0, e1, e2, e3, e4, e5⟩ := case_of reach_le c0
 obtain ⟨fx, e6, e7, e8⟩ := fixes_of c1
 cases e6
 have hcall := calls_of_c1 (E := E2) envS2 (f := 6) (args := [.agg [u, a, b, w], .one u1]) (vs := [v0, v1]) (w := W) (l := [] ++ y0 ++ y1) a1
  ⟨AR.mono (argB_sub _ _) b0, b1, trivial⟩
  (costsLaw_c1 _ u a b w u1 l0.1 l0.2.1 l0.2.2 l1 (e0.gr (argH_gr _ _)) (e1.gr (argH_gr _ _)) (e2.gr (argH_gr _ _)) e3 (e4.gr (argH_gr _ _)) (Nat.le_trans e5 reach_le) e7 (Nat.le_trans e8 reach_le))
 refine hcall.mono fun e W' ⟨he, hw⟩ => ?_
 subst he
 have hlt : ∀ x ∈ p0 ++ p1, x.block < W.heap.size := fun x hx => hW'.lt x (by simpa using hx)
 exact ⟨_, rfl, law_post rfl hW' rfl (by kernel_rfl) rfl rfl rfl (grown_below hw) fun sp hsp => trodAll_stays Tryz.laidOut (grown_below hw) readsCF (by simpa using hAll) (by simpa using hlt) hsp⟩
end Go.Proofs.YtiejeicaaojdlaaGreat
namespace Go.Proofs.YtiejeicaaojdlaaGreat
open Go.ChangeShapes Go.WideShapes Go.ChangeAt Go.RowKit Go.Eng
theorem costs_holds : Rows.AccountCostsSaid :=
 OpenClaim.holds_of_wide 6 Tryz.f6 rfl rfl rfl rfl rfl rfl rfl ⟨rfl, rfl, rfl, rfl, rfl⟩ rfl rfl rfl rfl rfl (by kernel_rfl) Tryz.func6 (by kernel_rfl)
  (of_decide_eq_true (by kernel_rfl)) (by unfold Func.isWrapper; first | (rw [if_pos (by decide +kernel)]; kernel_rfl) | (rw [if_neg (by decide +kernel)]; exact ⟨rfl, rfl⟩))
  (fun os started H enc _ => costs_lifted os started H enc)
end Go.Proofs.YtiejeicaaojdlaaGreat
