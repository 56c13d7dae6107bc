/- A part of the proof: BkSum4, BkSum5, BkPzArg, BkSumsEnd, BkSumsHold. No conditions. -/
import Derived.Test.YtiejeicaaojdlaaGreatQAl
namespace Go.Proofs.YtiejeicaaojdlaaGreat
open Go Go.Eng
set_option maxRecDepth 10000 in
set_option maxHeartbeats 16000000 in
theorem rSums_con (H : Hp) (k a b w : AC) (o : Option (List Lad)) (p : Pz) (v : List Int) (hk : RBkO H k o) (hL : ∀ ls, o = some ls → (∀ x ∈ ls, x.2.length ≤ 1000000) ∧ ls.length ≤ 1000000) (ha : SlCl H a p.1) (hb : SlRl H b p.2) (hB : PzB p) (hw : SlI H w v) (hV : v.length ≤ 4611686018427387904) :
    Con E2 21 [.one k, .agg [a, b], .one w] H (fun _ => False) fun r H' => ∃ c, r = .tup [(false, [c]), (false, [.i .i64 (sumsPz o p v).2])] ∧ SlI H' c (sumsPz o p v).1 := by
  refine Con.of rfl fun lg => ?_
  have hk : RBkO ⟨H.t, H.nx, lg⟩ k o := RBkO.same (H := H) rfl rfl hk
  have ha : SlCl ⟨H.t, H.nx, lg⟩ a p.1 := ha
  have hb : SlRl ⟨H.t, H.nx, lg⟩ b p.2 := hb
  have hw : SlI ⟨H.t, H.nx, lg⟩ w v := hw
  generalize (⟨H.t, H.nx, lg⟩ : Hp) = H at hk ha hb hw ⊢
  refine C1.body (E := E2) (nt := 40) (res := [.tmp 6, .tmp 7]) Tryz.func21 rfl rfl rfl rfl rfl fun tm hargs => ?_
  have h0 := hargs 0 _ rfl
  have h1 := hargs 1 _ rfl
  have h2 := hargs 2 _ rfl
  clear hargs
  generalize hr0 : sumsPz o p v = r0
  have fin : ∀ (c : AC) (e : Int) (A : AAct) (H3 : Hp), slot A.tm 6 = .one c → slot A.tm 7 = .one (.i .i64 e) → A.dfr = [] → Gr H H3 → SlI H3 c r0.1 ∧ e = r0.2 → ∃ w H4, callEnd E2 [.tmp 6, .tmp 7] (.ret, A, H3) = .ok [(w, H4)] ∧ Gr H H4 ∧ ∀ lg' : List Nat, ∃ c, w = .tup [(false, [c]), (false, [.i .i64 r0.2])] ∧ SlI ⟨H4.t, H4.nx, lg'⟩ c r0.1 := fun c e A H3 h1 h2 h3 h4 h5 => ⟨_, H3, callEnd_two c (.i .i64 e) (.inr rfl) h3 h1 h2, h4, fun _ => ⟨c, by rw [h5.2], h5.1⟩⟩
  unfold sumsPz at hr0
  refine zG tyF fun K hK => ?_
  refine hK.out _ _ ?_
  refine R1.gen (fun A1 H1 => Gr H H1 ∧ H.nx < H1.nx ∧ H1.get H.nx = some (.arr [a, b] 42 0 0) ∧ slot A1.tm 0 = .one (k) ∧ slot A1.tm 2 = .one (w) ∧ slot A1.tm 4 = .one ((.o (.ptr H.nx 0 0 2))) ∧ A1.nt = 40 ∧ A1.dfr = []) ⟨(Fr.refl _).new _, Nat.lt_succ_self _, get_newE rfl, zL⟩ ?_
  rintro A1 H1 ⟨g1, m1, rx, t0, t2, t4, hnt, hdf⟩
  clear h0 h1 h2 tm hK K
  have hk := hk.gr g1
  have ha := ha.gr g1
  have hb := hb.gr g1
  have hw := hw.gr g1
  refine zG (qA tyF bd_asked) fun K hK => ?_
  refine WE.con (asked_con H1 k a b w o p v hk hL ha hb hB hw hV) fun w' H2 g2 hq => ?_
  subst hq
  have rx := (g2.get _ m1 not_false).trans rx
  have m1 := Nat.lt_of_lt_of_le m1 g2.nx
  have hb := hb.gr g2
  have hw := hw.gr g2
  have g2 := g1.gr g2
  clear g1 hk ha
  have hok := @askE_ok o p v
  generalize askE o p v = e0 at hr0 hok
  by_cases he0 : e0 = 0
  case neg =>
    have ce : (e0 == 0) = false := beq_false_of_ne he0
    refine zK tyF ?_
    exact fin (.o .nilS) (e0) _ _ qp qp qe (g2) (⟨by rw [← hr0, if_pos he0]; exact SlI.nil, by rw [← hr0, if_pos he0]⟩)
  rw [if_neg (fun h => h he0)] at hr0
  obtain ⟨hC, hR, hvl, _, hrg⟩ := hok he0
  clear hok
  have hP := hB.p
  obtain ⟨lc, lr⟩ := p
  simp only at hr0 hb hC hR hvl hrg hP
  clear hvl
  have ce : (e0 == 0) = true := by rw [he0]; rfl
  obtain ⟨N, hN⟩ : ∃ N, N = H.nx := ⟨_, rfl⟩
  rw [← hN] at m1 rx t4
  clear hN
  obtain ⟨zi, hzi, hzil⟩ := zx_int
  have l1 := hb.len
  have l2 := hb.lt
  refine zK tyF ?_
  refine R1.s_bl fun K k1 k2 k3 k4 => ?_
  refine R1.loop (fun m A H3 => ∃ (i : Nat) (out : List Int) (u : AC) (r : Option Nat), m = lr.length - i ∧ i ≤ lr.length ∧ out.length ≤ i ∧ Gr H2 H3 ∧ sumsP v out (lr.drop i) = r0 ∧ OwnR H3 u 3 1 out.length (out.flatMap intC) r ∧ (∀ q, r = some q → H2.nx ≤ q) ∧ slot A.tm 0 = .one (k) ∧ slot A.tm 2 = .one (w) ∧ slot A.tm 4 = .one ((.o (.ptr N 0 0 2))) ∧ slot A.tm 9 = .one (u) ∧ slot A.tm 10 = .one (.i .i64 (i : Int)) ∧ A.nt = 40 ∧ A.dfr = []) ?_ lr.length
    ⟨0, [], .o .nilS, none, rfl, Nat.zero_le _, Nat.zero_le _, Fr.refl _, hr0, .inl ⟨rfl, rfl, rfl, rfl⟩, fun q hq => (by cases hq), zL⟩
  clear t0 t2 t4 hnt hdf A1 hr0 l1 l2 k3 hK
  rintro m A H3 ⟨i, out, u, r, rfl, hi, hout, g3, hr, hown, hrow, t0, t2, t4, t9, t10, hnt, hdf⟩
  have rx := (g3.get _ m1 not_false).trans rx
  have m1 := Nat.lt_of_lt_of_le m1 g3.nx
  have hb3 := hb.gr g3
  have l1 := hb3.len
  have l2 := hb3.lt
  refine zW tyF ?_
  refine zI tyF (fun hc => ?_) (fun hc => ?_)
  · have hlt : i < lr.length := by omega
    have ex : lr[i]? = some lr[i] := List.getElem?_eq_getElem hlt
    have hdr : lr.drop i = lr[i] :: lr.drop (i + 1) := List.drop_eq_getElem_cons hlt
    have htk : lr.take (i + 1) = lr.take i ++ [lr[i]] := List.take_succ_eq_append_getElem hlt
    have hmem : lr[i] ∈ lr := List.getElem_mem hlt
    generalize lr[i] = x at ex hdr htk hmem
    have hw2 : IntKind.i64.wrap ((i : Int) + 1) = ((i + 1 : Nat) : Int) := by rw [wrapI (by omega) (by omega)]; omega
    obtain ⟨⟨hx0, hxn⟩, hxp⟩ := hrg x hmem
    have hPx := hP x hmem
    obtain ⟨id, g, off, cells, rfl, hid, hgr, hat⟩ := hb3.open (by omega)
    obtain ⟨u1, hx1⟩ := hat i x ex
    obtain ⟨hu1, y1, y2, y3, y4, y5, y6⟩ := hx1
    clear hat l1 l2
    rw [hdr, sumsP] at hr
    refine zW tyF ?_
    refine R1.s_bl fun K2 q1 q2 q3 q4 => ?_
    refine zG (qA tyF (qA (ixC hlt) bd_rSumPz2)) fun K hK => ?_
    refine WE.con (rSumPz2_con H3 u1 w x.1 x.2 v hu1 (hw.gr g3) hxp (by omega)) fun w' H5 g35 hq => ?_
    subst hq
    generalize sumW v 0 x.2 = n at hr
    by_cases hbig : 1099511627776 < n
    · refine zK tyF ?_
      exact q4.out _ _ (k4.out _ _ (fin (.o .nilS) (6) _ _ qp qp qe (g2.gr (g3.gr g35)) (⟨by rw [← hr, if_pos hbig]; exact SlI.nil, by rw [← hr, if_pos hbig]⟩)))
    rw [if_neg hbig] at hr
    refine zK tyF ?_
    obtain ⟨hlt5, v6, H6, r6, happ, ho6, hf6, hr6⟩ := push_own el_ints by_int hzi hzil (by decide) (hown.fr g35 fun _ _ h => h) [.i .i64 (n)] rfl (by omega)
    clear hzi hzil
    refine zG (qA tyF (qA (repl1) happ)) fun K hK => ?_
    refine ⟨hlt5, ?_⟩
    refine zK tyF ?_
    refine q1.out _ _ ?_
    refine zW tyF ?_
    refine ⟨lr.length - (i + 1), by omega, i + 1, out ++ [n], v6, some r6, rfl, hlt, by rw [List.length_append]; exact Nat.succ_le_succ hout, (g3.gr g35).then hf6 fun q hq => .inl (hrow q hq), hr, ?_, fun q hq => ?_, zL⟩
    · rw [List.length_append, List.flatMap_append]; exact ho6
    · cases hq
      rcases hr6 with e | e
      · exact hrow _ e
      · exact Nat.le_trans (g3.gr g35).nx e
  · have hie : i = lr.length := by omega
    refine zW tyF ?_
    refine k2.out _ _ ?_
    refine zW tyF ?_
    rw [hie, List.drop_length, sumsP] at hr
    exact fin (u) (0) _ _ qp qp qe (g2.gr g3) (⟨by rw [← hr]; exact hown.slc, by rw [← hr]⟩)
set_option maxRecDepth 10000 in
set_option maxHeartbeats 16000000 in
theorem rWrong_con (H : Hp) (k a b w : AC) (o : Option (List Lad)) (p : Pz) (v : List Int) (hk : RBkO H k o) (hL : ∀ ls, o = some ls → (∀ x ∈ ls, x.2.length ≤ 1000000) ∧ ls.length ≤ 1000000) (ha : SlCl H a p.1) (hb : SlRl H b p.2) (hB : PzB p) (hw : SlI H w v) (hV : v.length ≤ 4611686018427387904) :
    Con E2 23 [.one k, .agg [a, b], .one w] H (fun _ => False) fun r H' => ∃ c, r = .tup [(false, [c]), (false, [.i .i64 (wrongPz o p v).2])] ∧ SlI H' c (wrongPz o p v).1 := by
  refine Con.of rfl fun lg => ?_
  have hk : RBkO ⟨H.t, H.nx, lg⟩ k o := RBkO.same (H := H) rfl rfl hk
  have ha : SlCl ⟨H.t, H.nx, lg⟩ a p.1 := ha
  have hb : SlRl ⟨H.t, H.nx, lg⟩ b p.2 := hb
  have hw : SlI ⟨H.t, H.nx, lg⟩ w v := hw
  generalize (⟨H.t, H.nx, lg⟩ : Hp) = H at hk ha hb hw ⊢
  refine C1.body (E := E2) (nt := 47) (res := [.tmp 6, .tmp 7]) Tryz.func23 rfl rfl rfl rfl rfl fun tm hargs => ?_
  have h0 := hargs 0 _ rfl
  have h1 := hargs 1 _ rfl
  have h2 := hargs 2 _ rfl
  clear hargs
  generalize hr0 : wrongPz o p v = r0
  have fin : ∀ (c : AC) (e : Int) (A : AAct) (H3 : Hp), slot A.tm 6 = .one c → slot A.tm 7 = .one (.i .i64 e) → A.dfr = [] → Gr H H3 → SlI H3 c r0.1 ∧ e = r0.2 → ∃ w H4, callEnd E2 [.tmp 6, .tmp 7] (.ret, A, H3) = .ok [(w, H4)] ∧ Gr H H4 ∧ ∀ lg' : List Nat, ∃ c, w = .tup [(false, [c]), (false, [.i .i64 r0.2])] ∧ SlI ⟨H4.t, H4.nx, lg'⟩ c r0.1 := fun c e A H3 h1 h2 h3 h4 h5 => ⟨_, H3, callEnd_two c (.i .i64 e) (.inr rfl) h3 h1 h2, h4, fun _ => ⟨c, by rw [h5.2], h5.1⟩⟩
  unfold wrongPz at hr0
  refine zG tyF fun K hK => ?_
  refine hK.out _ _ ?_
  refine R1.gen (fun A1 H1 => Gr H H1 ∧ H.nx < H1.nx ∧ H1.get H.nx = some (.arr [a, b] 42 0 0) ∧ slot A1.tm 0 = .one (k) ∧ slot A1.tm 2 = .one (w) ∧ slot A1.tm 4 = .one ((.o (.ptr H.nx 0 0 2))) ∧ A1.nt = 47 ∧ A1.dfr = []) ⟨(Fr.refl _).new _, Nat.lt_succ_self _, get_newE rfl, zL⟩ ?_
  rintro A1 H1 ⟨g1, m1, rx, t0, t2, t4, hnt, hdf⟩
  clear h0 h1 h2 tm hK K
  have hk := hk.gr g1
  have ha := ha.gr g1
  have hb := hb.gr g1
  have hw := hw.gr g1
  refine zG (qA tyF bd_asked) fun K hK => ?_
  refine WE.con (asked_con H1 k a b w o p v hk hL ha hb hB hw hV) fun w' H2 g2 hq => ?_
  subst hq
  have rx := (g2.get _ m1 not_false).trans rx
  have m1 := Nat.lt_of_lt_of_le m1 g2.nx
  have hb := hb.gr g2
  have hw := hw.gr g2
  have g2 := g1.gr g2
  clear g1 hk ha
  have hok := @askE_ok o p v
  generalize askE o p v = e0 at hr0 hok
  by_cases he0 : e0 = 0
  case neg =>
    have ce : (e0 == 0) = false := beq_false_of_ne he0
    refine zK tyF ?_
    exact fin (.o .nilS) (e0) _ _ qp qp qe (g2) (⟨by rw [← hr0, if_pos he0]; exact SlI.nil, by rw [← hr0, if_pos he0]⟩)
  rw [if_neg (fun h => h he0)] at hr0
  obtain ⟨hC, hR, hvl, _, hrg⟩ := hok he0
  clear hok
  have hP := hB.p
  obtain ⟨lc, lr⟩ := p
  simp only at hr0 hb hC hR hvl hrg hP
  clear hvl
  have ce : (e0 == 0) = true := by rw [he0]; rfl
  obtain ⟨N, hN⟩ : ∃ N, N = H.nx := ⟨_, rfl⟩
  rw [← hN] at m1 rx t4
  clear hN
  obtain ⟨zi, hzi, hzil⟩ := zx_int
  have l1 := hb.len
  have l2 := hb.lt
  refine zK tyF ?_
  refine R1.s_bl fun K k1 k2 k3 k4 => ?_
  refine R1.loop (fun m A H3 => ∃ (i : Nat) (out : List Int) (u : AC) (r : Option Nat), m = lr.length - i ∧ i ≤ lr.length ∧ out.length ≤ i ∧ Gr H2 H3 ∧ (wrongP v i out (lr.drop i), 0) = r0 ∧ OwnR H3 u 3 1 out.length (out.flatMap intC) r ∧ (∀ q, r = some q → H2.nx ≤ q) ∧ slot A.tm 0 = .one (k) ∧ slot A.tm 2 = .one (w) ∧ slot A.tm 4 = .one ((.o (.ptr N 0 0 2))) ∧ slot A.tm 9 = .one (u) ∧ slot A.tm 10 = .one (.i .i64 (i : Int)) ∧ A.nt = 47 ∧ A.dfr = []) ?_ lr.length
    ⟨0, [], .o .nilS, none, rfl, Nat.zero_le _, Nat.zero_le _, Fr.refl _, hr0, .inl ⟨rfl, rfl, rfl, rfl⟩, fun q hq => (by cases hq), zL⟩
  clear t0 t2 t4 hnt hdf A1 hr0 l1 l2 k3 hK
  rintro m A H3 ⟨i, out, u, r, rfl, hi, hout, g3, hr, hown, hrow, t0, t2, t4, t9, t10, hnt, hdf⟩
  have rx := (g3.get _ m1 not_false).trans rx
  have m1 := Nat.lt_of_lt_of_le m1 g3.nx
  have hb3 := hb.gr g3
  have l1 := hb3.len
  have l2 := hb3.lt
  refine zW tyF ?_
  refine zI tyF (fun hc => ?_) (fun hc => ?_)
  · have hlt : i < lr.length := by omega
    have ex : lr[i]? = some lr[i] := List.getElem?_eq_getElem hlt
    have hdr : lr.drop i = lr[i] :: lr.drop (i + 1) := List.drop_eq_getElem_cons hlt
    have htk : lr.take (i + 1) = lr.take i ++ [lr[i]] := List.take_succ_eq_append_getElem hlt
    have hmem : lr[i] ∈ lr := List.getElem_mem hlt
    generalize lr[i] = x at ex hdr htk hmem
    have hw2 : IntKind.i64.wrap ((i : Int) + 1) = ((i + 1 : Nat) : Int) := by rw [wrapI (by omega) (by omega)]; omega
    obtain ⟨⟨hx0, hxn⟩, hxp⟩ := hrg x hmem
    have hPx := hP x hmem
    obtain ⟨id, g, off, cells, rfl, hid, hgr, hat⟩ := hb3.open (by omega)
    obtain ⟨u1, hx1⟩ := hat i x ex
    obtain ⟨hu1, y1, y2, y3, y4, y5, y6⟩ := hx1
    clear hat l1 l2
    rw [hdr, wrongP] at hr
    refine zW tyF ?_
    refine R1.s_bl fun K2 q1 q2 q3 q4 => ?_
    have hw3 := hw.gr g3
    obtain ⟨id', g', off', cells', rfl, hid4, hgr4, hat'⟩ := hw3.open (by omega)
    have ev : v[x.1.toNat]? = some (v.getD x.1.toNat 0) := by rw [List.getD_eq_getElem?_getD, List.getElem?_eq_getElem (by omega)]; rfl
    obtain ⟨e3, e4⟩ := hat' _ _ ev
    clear hat'
    repeat refine R1.s_assoc ?_
    (first | refine R1.s_drw (ms := [0, 1, 0, 7, 15, 0, 63, 0, 0, 256, 0, 1792, 3840, 7936, 16256, 32640, 65535]) (by kernel_rfl) (by kernel_rfl) fun K hK => ?_ | refine R1.e_drw (ms := [0, 1, 0, 7, 15, 0, 63, 0, 0, 256, 0, 1792, 3840, 7936, 16256, 32640, 65535]) (by kernel_rfl) (by kernel_rfl) fun K hK => ?_)
    simp (config := {decide := true}) only [qB, slotOk, Nat.reduceLT, Nat.reduceAdd, qD, Untou, unordS, E2_P, t2, t4, t10, hnt, rx, m1, fd_puzzle_1, ld_rules, el_rules, ld_rule, indexAddr_cast hlt, hid, hgr, y1, y2, bd_rSumPz2]
    refine DC_conG (.one (.i .i64 (sumW v 0 x.2))) ?_ (fun h hg => rSumPz2_con h u1 _ x.1 x.2 v (hu1.gr hg) (hw3.gr hg) hxp (by omega)) ?_
    · exact unU (by simp (config := {decide := true}) only [unordS, if_true])
    intro kx H5 hkx hn5 g35
    subst hn5
    have rx5 := (g35.get _ m1 not_false).trans rx
    have m5 := Nat.lt_of_lt_of_le m1 g35.nx
    have hid5 := Nat.lt_of_lt_of_le hid4 g35.nx
    have hgr5 : rowOf (H5.get id') g' = some cells' := by rw [g35.get _ hid4 not_false]; exact hgr4
    have hidr := Nat.lt_of_lt_of_le hid g35.nx
    have hgrr : rowOf (H5.get id) g = some cells := by rw [g35.get _ hid not_false]; exact hgr
    generalize sumW v 0 x.2 = n at hr ⊢
    generalize v.getD x.1.toNat 0 = n2 at hr e3
    by_cases hq : n = n2
    · have ce : (n == n2) = true := beq_iff_eq.2 hq
      rw [if_pos hq] at hr
      simp (config := {decide := true}) only [qB, Nat.reduceLT, Nat.reduceLeDiff, Nat.reduceAdd, Nat.reduceSub, qD, Untou, unordS, t2, t4, t10, hnt, rx5, m1, m5, fd_rule_0, ld_int, el_ints, indexAddr_cast hlt, indexAddr_int hx0 hxn, hid, hidr, hgrr, y3, y5, hid4, hid5, hgr5, e3, e4, ce]
      refine hK _ _ ?_
      refine zW tyF ?_
      refine q1.out _ _ ?_
      refine zW tyF ?_
      exact ⟨lr.length - (i + 1), by omega, i + 1, out, u, r, rfl, hlt, Nat.le_succ_of_le hout, g3.gr g35, hr, hown.fr g35 fun _ _ h => h, hrow, zL⟩
    · have ce : (n == n2) = false := beq_false_of_ne hq
      rw [if_neg hq] at hr
      simp (config := {decide := true}) only [qB, Nat.reduceLT, Nat.reduceLeDiff, Nat.reduceAdd, Nat.reduceSub, qD, Untou, unordS, t2, t4, t10, hnt, rx5, m1, m5, fd_rule_0, ld_int, el_ints, indexAddr_cast hlt, indexAddr_int hx0 hxn, hid, hidr, hgrr, y3, y5, hid4, hid5, hgr5, e3, e4, ce]
      refine hK _ _ ?_
      refine zW tyF ?_
      obtain ⟨hlt5, v6, H6, r6, happ, ho6, hf6, hr6⟩ := push_own el_ints by_int hzi hzil (by decide) (hown.fr g35 fun _ _ h => h) [.i .i64 ((i : Int))] rfl (by omega)
      clear hzi hzil
      refine zG (qA tyF (qA (repl1) happ)) fun K hK => ?_
      refine ⟨hlt5, ?_⟩
      refine zK tyF ?_
      refine q1.out _ _ ?_
      refine zW tyF ?_
      refine ⟨lr.length - (i + 1), by omega, i + 1, out ++ [(i : Int)], v6, some r6, rfl, hlt, by rw [List.length_append]; exact Nat.succ_le_succ hout, (g3.gr g35).then hf6 fun q hq => .inl (hrow q hq), hr, ?_, fun q hq => ?_, zL⟩
      · rw [List.length_append, List.flatMap_append]; exact ho6
      · cases hq
        rcases hr6 with e | e
        · exact hrow _ e
        · exact Nat.le_trans (g3.gr g35).nx e
  · have hie : i = lr.length := by omega
    refine zW tyF ?_
    refine k2.out _ _ ?_
    refine zW tyF ?_
    rw [hie, List.drop_length, wrongP] at hr
    exact fin (u) (0) _ _ qp qp qe (g2.gr g3) (⟨by rw [← hr]; exact hown.slc, by rw [← hr]⟩)
end Go.Proofs.YtiejeicaaojdlaaGreat
namespace Go.Proofs.YtiejeicaaojdlaaGreat
open Go Go.Eng
theorem sumsP_len (v : List Int) : ∀ (l : List Rl) (acc : List Int), (sumsP v acc l).1.length ≤ acc.length + l.length
  | [], acc => Nat.le_refl _
  | x :: l, acc => by
    rw [sumsP]
    by_cases h : 1099511627776 < sumW v 0 x.2
    · rw [if_pos h]; exact Nat.zero_le _
    · rw [if_neg h]
      have := sumsP_len v l (acc ++ [sumW v 0 x.2])
      rw [List.length_append, List.length_singleton] at this
      rw [List.length_cons]; omega
theorem sumsPz_len (o : Option (List Lad)) (p : Pz) (v : List Int) : (sumsPz o p v).1.length ≤ p.2.length := by
  unfold sumsPz
  by_cases h : askE o p v ≠ 0
  · rw [if_pos h]; exact Nat.zero_le _
  · rw [if_neg h]
    have := sumsP_len v p.2 []
    rw [List.length_nil, Nat.zero_add] at this
    exact this
theorem wrongP_len (v : List Int) : ∀ (l : List Rl) (i : Nat) (acc : List Int), (wrongP v i acc l).length ≤ acc.length + l.length
  | [], _, acc => Nat.le_refl _
  | x :: l, i, acc => by
    rw [wrongP]
    have := wrongP_len v l (i + 1) (if sumW v 0 x.2 = v.getD x.1.toNat 0 then acc else acc ++ [(i : Int)])
    have h2 : (if sumW v 0 x.2 = v.getD x.1.toNat 0 then acc else acc ++ [(i : Int)]).length ≤ acc.length + 1 := by
      by_cases h : sumW v 0 x.2 = v.getD x.1.toNat 0
      · rw [if_pos h]; exact Nat.le_succ _
      · rw [if_neg h, List.length_append]; exact Nat.le_refl _
    rw [List.length_cons]; omega
theorem wrongPz_len (o : Option (List Lad)) (p : Pz) (v : List Int) : (wrongPz o p v).1.length ≤ p.2.length := by
  unfold wrongPz
  by_cases h : askE o p v ≠ 0
  · rw [if_pos h]; exact Nat.zero_le _
  · rw [if_neg h]
    have := wrongP_len v p.2 0 []
    rw [List.length_nil, Nat.zero_add] at this
    exact this
set_option maxRecDepth 10000 in
set_option maxHeartbeats 8000000 in
theorem sumsLaw_c1 (H : Hp) (u a b w : AC) (ls : List Lad) (p : Pz) (v : List Int) (hl : SlLad H u ls) (ha : SlCl H a p.1) (hb : SlRl H b p.2) (hB : PzB p) (hw : SlI H w v) (hV : v.length * 8 ≤ 140737488355328) :
    C1 E2 5 [.one u, .agg [a, b], .one w] H fun r _ => r = .one (.b true) := by
  refine C1.body (E := E2) (nt := 77) (res := [.tmp 6]) Tryz.func5 rfl rfl rfl rfl rfl fun tm hargs => ?_
  have h0 := hargs 0 _ rfl
  have h1 := hargs 1 _ rfl
  have h2 := hargs 2 _ rfl
  clear hargs
  have hV2 : v.length ≤ 4611686018427387904 := by omega
  refine zG tyF fun K hK => ?_
  refine hK.out _ _ ?_
  refine R1.gen (fun A1 H1 => Gr H H1 ∧ H.nx < H1.nx ∧ H1.get H.nx = some (.arr [a, b] 42 0 0) ∧ slot A1.tm 0 = .one (u) ∧ slot A1.tm 2 = .one (w) ∧ slot A1.tm 4 = .one ((.o (.ptr H.nx 0 0 2))) ∧ A1.nt = 77 ∧ A1.dfr = []) ⟨(Fr.refl _).new _, Nat.lt_succ_self _, get_newE rfl, zL⟩ ?_
  rintro A1 H1 ⟨g1, m1, rx, t0, t2, t4, hnt, hdf⟩
  clear h0 h1 h2 tm hK K
  obtain ⟨N, hN⟩ : ∃ N, N = H.nx := ⟨_, rfl⟩
  rw [← hN] at m1 rx t4
  clear hN
  have hl := hl.gr g1
  have ha := ha.gr g1
  have hb := hb.gr g1
  have hw := hw.gr g1
  refine zG (qA tyF bd_books) fun K hK => ?_
  refine WE.con (books_con H1 u ls hl) fun w' H2 g2 ⟨p1, p2, hq, hp, hr, hno⟩ => ?_
  subst hq
  have rx := (g2.get _ m1 not_false).trans rx
  have m1 := Nat.lt_of_lt_of_le m1 g2.nx
  have ha := ha.gr g2
  have hb := hb.gr g2
  have hw := hw.gr g2
  clear hno hl
  have hbl : ∀ l, bkO ls = some l → (∀ x ∈ l, x.2.length ≤ 1000000) ∧ l.length ≤ 1000000 := fun l h => ⟨fun x hx => by have := (bkO_le h).2 x hx; omega, by have := (bkO_le h).1; omega⟩
  generalize bkO ls = o at hp hr hbl
  refine zK tyF ?_
  refine zG (qA tyF bd_copyInts) fun K hK => ?_
  refine WE.con (copyInts_con H2 w v hw hV) fun w' H3 g3 ⟨w2, hq, hw2, _⟩ => ?_
  subst hq
  have rx := (g3.get _ m1 not_false).trans rx
  have m1 := Nat.lt_of_lt_of_le m1 g3.nx
  have ha := ha.gr g3
  have hb := hb.gr g3
  have hw := hw.gr g3
  have hp := hp.gr g3
  have hr := hr.gr g3
  refine zK tyF ?_
  refine zG (qA tyF bd_sums) fun K hK => ?_
  refine WE.con (sums_con H3 p1 a b w2 o p v hp (fun l h => (hbl l h).1) ha hb hB hw2 hV2) fun w' H4 g4 ⟨c1, hq, hc1⟩ => ?_
  subst hq
  have rx := (g4.get _ m1 not_false).trans rx
  have m1 := Nat.lt_of_lt_of_le m1 g4.nx
  have ha := ha.gr g4
  have hb := hb.gr g4
  have hw := hw.gr g4
  have hp := hp.gr g4
  have hr := hr.gr g4
  have hw2 := hw2.gr g4
  refine zK tyF ?_
  refine zG (qA tyF bd_rSums) fun K hK => ?_
  refine WE.con (rSums_con H4 p2 a b w o p v hr hbl ha hb hB hw hV2) fun w' H5 g5 ⟨c2, hq, hc2⟩ => ?_
  subst hq
  have rx := (g5.get _ m1 not_false).trans rx
  have m1 := Nat.lt_of_lt_of_le m1 g5.nx
  have ha := ha.gr g5
  have hb := hb.gr g5
  have hw := hw.gr g5
  have hp := hp.gr g5
  have hr := hr.gr g5
  have hw2 := hw2.gr g5
  have hc1 := hc1.gr g5
  have k1 := sumsPz_len o p v
  have k2 := wrongPz_len o p v
  have k3 := hB.r
  refine zK tyF ?_
  refine zG (qA tyF bd_eqInts) fun K hK => ?_
  refine WE.con (eqInts_con H5 c1 c2 _ hc1 hc2 (by omega)) fun w' H6 g6 hq => ?_
  subst hq
  have rx := (g6.get _ m1 not_false).trans rx
  have m1 := Nat.lt_of_lt_of_le m1 g6.nx
  have ha := ha.gr g6
  have hb := hb.gr g6
  have hw := hw.gr g6
  have hp := hp.gr g6
  have hr := hr.gr g6
  have hw2 := hw2.gr g6
  have hbe : ∀ x : Int, (x == x) = true := fun x => by simp
  refine zK tyF ?_
  refine zG (qA tyF bd_wrong) fun K hK => ?_
  refine WE.con (wrong_con H6 p1 a b w2 o p v hp (fun l h => (hbl l h).1) ha hb hB hw2 hV2) fun w' H7 g7 ⟨d1, hq, hd1⟩ => ?_
  subst hq
  have rx := (g7.get _ m1 not_false).trans rx
  have m1 := Nat.lt_of_lt_of_le m1 g7.nx
  have ha := ha.gr g7
  have hb := hb.gr g7
  have hw := hw.gr g7
  have hr := hr.gr g7
  have hw2 := hw2.gr g7
  refine zK tyF ?_
  refine zG (qA tyF bd_rWrong) fun K hK => ?_
  refine WE.con (rWrong_con H7 p2 a b w o p v hr hbl ha hb hB hw hV2) fun w' H8 g8 ⟨d2, hq, hd2⟩ => ?_
  subst hq
  have rx := (g8.get _ m1 not_false).trans rx
  have m1 := Nat.lt_of_lt_of_le m1 g8.nx
  have hw := hw.gr g8
  have hw2 := hw2.gr g8
  have hd1 := hd1.gr g8
  refine zK tyF ?_
  refine zG (qA tyF bd_eqInts) fun K hK => ?_
  refine WE.con (eqInts_con H8 d1 d2 _ hd1 hd2 (by omega)) fun w' H9 g9 hq => ?_
  subst hq
  have hw := hw.gr g9
  have hw2 := hw2.gr g9
  refine zS (qA tyF bd_eqInts) ?_
  refine WE.con (eqInts_con H9 w2 w _ hw2 hw hV2) fun w' Ha ga hq => ?_
  subst hq
  refine zS (qA tyF bd_works) ?_
  refine WE.prim works_p fun Hb gb _ _ => ?_
  refine zK tyF ?_
  exact ⟨_, _, callEnd_one (.b true) (.inr rfl) qe qp, rfl⟩
end Go.Proofs.YtiejeicaaojdlaaGreat
namespace Go.Proofs.YtiejeicaaojdlaaGreat
open Go Go.Eng Go.ChangeShapes Go.WideShapes
abbrev grpR := pairR (intR .i64) (pairR strR boolR)
abbrev grpsR := sliR Tryz.prog 196 3 grpR
abbrev numR := pairR grpsR grpsR
abbrev cellR := pairR (intR .i64) (pairR strR (pairR strR numR))
abbrev cellsR := sliR Tryz.prog 108 5 cellR
abbrev intsR := sliR Tryz.prog 3 1 (intR .i64)
abbrev ruleR := pairR (intR .i64) intsR
abbrev rulesR := sliR Tryz.prog 92 2 ruleR
abbrev puzzleR := pairR cellsR rulesR
theorem mon_grp : MonR grpR := mon_pair mon_int (mon_pair mon_str mon_bool)
theorem mon_grps : MonR grpsR := mon_sli mon_grp
theorem mon_num : MonR numR := mon_pair mon_grps mon_grps
theorem mon_cell : MonR cellR := mon_pair mon_int (mon_pair mon_str (mon_pair mon_str mon_num))
theorem mon_cells : MonR cellsR := mon_sli mon_cell
theorem mon_ints : MonR intsR := mon_sli mon_int
theorem mon_rule : MonR ruleR := mon_pair mon_int mon_ints
theorem opn_grp {W : World} : Opn Tryz.prog W 3 grpR 196 := opn_struct Tryz.underlying196 (by kernel_rfl) rfl (opnF_cons (opn_int Tryz.underlying3) mon_int (opnF_cons (opn_str Tryz.underlying9) mon_str (opnF_one (opn_bool Tryz.underlying4))))
theorem opn_grps {W : World} (hB : HasB W) : Opn Tryz.prog W 1 grpsR 104 := opn_slice Tryz.underlying104 (by kernel_rfl) (by decide) mon_grp hB opn_grp
theorem opn_num {W : World} (hB : HasB W) : Opn Tryz.prog W 2 numR 106 := opn_struct Tryz.underlying106 (by kernel_rfl) rfl (opnF_cons (opn_grps hB) mon_grps (opnF_one (opn_grps hB)))
theorem opn_cell {W : World} (hB : HasB W) : Opn Tryz.prog W 5 cellR 108 := opn_struct Tryz.underlying108 (by kernel_rfl) rfl (opnF_cons (opn_int Tryz.underlying3) mon_int (opnF_cons (opn_str Tryz.underlying9) mon_str (opnF_cons (opn_str Tryz.underlying9) mon_str (opnF_one (opn_num hB)))))
theorem opn_cells {W : World} (hB : HasB W) : Opn Tryz.prog W 1 cellsR 39 := opn_slice Tryz.underlying39 (by kernel_rfl) (by decide) mon_cell hB (opn_cell hB)
theorem opn_ints {W : World} (hB : HasB W) : Opn Tryz.prog W 1 intsR 33 := opn_slice Tryz.underlying33 (by kernel_rfl) (by decide) mon_int hB (opn_int Tryz.underlying3)
theorem opn_rule {W : World} (hB : HasB W) : Opn Tryz.prog W 2 ruleR 92 := opn_struct Tryz.underlying92 (by kernel_rfl) rfl (opnF_cons (opn_int Tryz.underlying3) mon_int (opnF_one (opn_ints hB)))
theorem opn_rules {W : World} (hB : HasB W) : Opn Tryz.prog W 1 rulesR 40 := opn_slice Tryz.underlying40 (by kernel_rfl) (by decide) mon_rule hB (opn_rule hB)
theorem opn_puzzle {W : World} (hB : HasB W) : Opn Tryz.prog W 2 puzzleR 42 := opn_struct Tryz.underlying42 (by kernel_rfl) rfl (opnF_cons (opn_cells hB) mon_cells (opnF_one (opn_rules hB)))
theorem opnZ_puzzle {W : World} : OpnZ Tryz.prog W 2 puzzleR 42 := opnZ_struct Tryz.underlying42 (by kernel_rfl) rfl (opnFZ_cons (opnZ_slice Tryz.underlying39) mon_cells (opnFZ_one (opnZ_slice Tryz.underlying40)))
theorem bytesOf_grp : Tryz.prog.bytesOf 196 = 32 := by kernel_rfl
theorem bytesOf_cell : Tryz.prog.bytesOf 108 = 88 := by kernel_rfl
theorem bytesOf_int : Tryz.prog.bytesOf 3 = 8 := by kernel_rfl
theorem bytesOf_rule : Tryz.prog.bytesOf 92 = 32 := by kernel_rfl
theorem grps_of {B : Nat} {H : Hp} {c : List AC} {us : List Gp} (h : grpsR B H c us) : ∃ u, c = [u] ∧ SlGp H u us ∧ us.length * 32 ≤ B := by
  obtain ⟨u, rfl, ⟨css, h1, h2⟩, h3⟩ := h
  refine ⟨u, rfl, ?_, by rwa [bytesOf_grp] at h3⟩
  have := al_flat (f := gpC) (h2.mono fun c x ⟨_, c1, c2, e, a, c3, c4, e2, b, d⟩ => by rw [e, a.1, e2, b.1, d]; rfl)
  rw [this] at h1
  exact h1
theorem ints_of {B : Nat} {H : Hp} {c : List AC} {us : List Int} (h : intsR B H c us) : ∃ u, c = [u] ∧ SlI H u us ∧ us.length * 8 ≤ B := by
  obtain ⟨u, rfl, ⟨css, h1, h2⟩, h3⟩ := h
  refine ⟨u, rfl, ?_, by rwa [bytesOf_int] at h3⟩
  have := al_flat (f := intC) (h2.mono fun c x ⟨_, e, _⟩ => e)
  rw [this] at h1
  exact h1
theorem num_of {B : Nat} {H : Hp} {c : List AC} {x : Nm} (h : numR B H c x) : ∃ p q, c = [p, q] ∧ SlGp H p x.1 ∧ SlGp H q x.2 ∧ x.1.length * 32 ≤ B ∧ x.2.length * 32 ≤ B := by
  obtain ⟨c1, c2, rfl, h1, h2⟩ := h
  obtain ⟨p, rfl, a1, a2⟩ := grps_of h1
  obtain ⟨q, rfl, b1, b2⟩ := grps_of h2
  exact ⟨p, q, rfl, a1, b1, a2, b2⟩
theorem cell_of {B : Nat} {H : Hp} {c : List AC} {x : Cl} (h : cellR B H c x) : ClR H c x ∧ x.2.2.2.1.length * 32 ≤ B ∧ x.2.2.2.2.length * 32 ≤ B := by
  obtain ⟨c1, c2, rfl, a, c3, c4, rfl, b, c5, c6, rfl, d, e⟩ := h
  obtain ⟨p, q, rfl, e1, e2, e3, e4⟩ := num_of e
  exact ⟨⟨p, q, by rw [a.1, b.1, d.1]; rfl, e1, e2⟩, e3, e4⟩
theorem cells_of {B : Nat} {H : Hp} {c : List AC} {l : List Cl} (h : cellsR B H c l) : ∃ u, c = [u] ∧ SlCl H u l ∧ l.length * 88 ≤ B ∧ ∀ x ∈ l, x.2.2.2.1.length * 32 ≤ B ∧ x.2.2.2.2.length * 32 ≤ B := by
  obtain ⟨u, rfl, ⟨css, h1, h2⟩, h3⟩ := h
  exact ⟨u, rfl, ⟨css, h1, h2.mono fun c x ⟨hl, h⟩ => ⟨hl, (cell_of h).1⟩⟩, by rwa [bytesOf_cell] at h3, Al.all (fun c x ⟨_, h⟩ => (cell_of h).2) h2⟩
theorem rules_of {B : Nat} {H : Hp} {c : List AC} {l : List Rl} (h : rulesR B H c l) : ∃ u, c = [u] ∧ SlRl H u l ∧ l.length * 32 ≤ B ∧ ∀ x ∈ l, x.2.length * 8 ≤ B := by
  obtain ⟨u, rfl, ⟨css, h1, h2⟩, h3⟩ := h
  have key : ∀ c x, ruleR B H c x → RlR H c x ∧ x.2.length * 8 ≤ B := fun c x ⟨c1, c2, e, a, b⟩ => by
    obtain ⟨u, rfl, b1, b2⟩ := ints_of b
    exact ⟨⟨u, by rw [e, a.1]; rfl, b1⟩, b2⟩
  exact ⟨u, rfl, ⟨css, h1, h2.mono fun c x ⟨hl, h⟩ => ⟨hl, (key c x h).1⟩⟩, by rwa [bytesOf_rule] at h3, Al.all (fun c x ⟨_, h⟩ => (key c x h).2) h2⟩
theorem pz_of {B : Nat} {H : Hp} {c : List AC} {p : Pz} (hB : B ≤ 140737488355328) (h : puzzleR B H c p) : ∃ a b, c = [a, b] ∧ SlCl H a p.1 ∧ SlRl H b p.2 ∧ PzB p := by
  obtain ⟨c1, c2, rfl, h1, h2⟩ := h
  obtain ⟨a, rfl, a1, a2, a3⟩ := cells_of h1
  obtain ⟨b, rfl, b1, b2, b3⟩ := rules_of h2
  exact ⟨a, b, rfl, a1, b1, ⟨Nat.le_trans a2 hB, Nat.le_trans b2 hB, fun x hx => ⟨Nat.le_trans (a3 x hx).1 hB, Nat.le_trans (a3 x hx).2 hB⟩, fun x hx => Nat.le_trans (b3 x hx) hB⟩⟩
end Go.Proofs.YtiejeicaaojdlaaGreat
namespace Go.Proofs.YtiejeicaaojdlaaGreat
open Go.ChangeShapes Go.WideShapes Go.ChangeAt Go.RowKit Go.Eng
theorem readsS : ∀ t ∈ [22, 42, 33], Tryz.prog.readableRec t = true ∧ t < Tryz.prog.types.size := by
  have h1 : Tryz.prog.readableRec 22 = true := by kernel_rfl
  have h2 : Tryz.prog.readableRec 42 = true := by kernel_rfl
  have h3 : Tryz.prog.readableRec 33 = true := by kernel_rfl
  have k1 : decide (22 < Tryz.prog.types.size) = true := by kernel_rfl
  have k2 : decide (42 < Tryz.prog.types.size) = true := by kernel_rfl
  have k3 : decide (33 < Tryz.prog.types.size) = true := by kernel_rfl
  intro t ht
  simp only [List.mem_cons, List.not_mem_nil, or_false] at ht
  rcases ht with rfl | rfl | rfl
  · exact ⟨h1, of_decide_eq_true k1⟩
  · exact ⟨h2, of_decide_eq_true k2⟩
  · exact ⟨h3, of_decide_eq_true k3⟩
set_option maxRecDepth 100000 in
theorem sums_lifted (os : Os) (started : os.Started) (H : Type) (enc : TypeId × Value → H) :
    ReturnsInHanded {} Tryz.checked os 5 .any (Rows.accountSumsSpec.pre6 enc Tryz.prog Tryz.f5 Rows.accountSumsRow.domain false) (Rows.accountSumsSpec.post enc Tryz.prog Tryz.f5 false true false false) := by
  refine returnsInHanded_of_change_sized (C := Tryz.checked) Tryz.own started (by kernel_rfl) Tryz.func5
    (ChangeSpec.witness6 (enc := enc) (C := Tryz.checked) false ⟨#[], #[.slice none 0 0, .agg #[.slice none 0 0, .slice none 0 0], .slice none 0 0], []⟩ 8 (by kernel_rfl) (by kernel_rfl) (by kernel_rfl) (by kernel_rfl)) ?_
  intro W base args ds gs before hval0 hW hcnd0 hsz _
  clear hcnd0
  have hval : ∀ (j : Nat) t v, Tryz.f5.params[j]? = some t → args[j]? = some v → Value.okWide Tryz.prog W .any base t v := hval0
  have hW' := hW
  obtain ⟨p, q, hA0, hV, rfl, hfz, hnd⟩ := hW
  have hA : DataW.TrodAll enc Tryz.prog W 0 (fun _ => true) true Tryz.f5.params.toList args.toList ds p := hA0
  rw [Tryz.params5] at hA hval hsz
  have hAll := hA
  obtain ⟨v0, v1, v2, d0, d1, d2, p0, p1, p2, rfl, rfl, rfl, h0, h1, h2⟩ := trodAll_three hA
  obtain ⟨rfl, rfl⟩ := trodVars_none hV
  clear hA0 hval0
  simp only [List.append_nil] at hW' hfz
  have hw : ∀ (j : Nat) (t : TypeId) (d : DataW H), [22, 42, 33][j]? = some t → [d0, d1, d2][j]? = some d → ∀ n ∈ d.weights Tryz.prog t, n ≤ reachBytes := fun j t d ht hd n hn => by
    have := List.all_eq_true.1 hsz n (DataW.weights_mem_each (j := j) (by rw [List.getElem?_append_left (by have := (List.getElem?_eq_some_iff.1 ht).1; exact this)]; exact ht) (by rw [List.getElem?_append_left (by have := (List.getElem?_eq_some_iff.1 hd).1; exact this)]; exact hd) n hn)
    simpa using this
  obtain ⟨y0, u0, l0, a0, b0, c0⟩ := opn_top Tryz.underlying22 (fun hB => opn_lads hB) (hval 0 _ v0 rfl rfl) h0 (hw 0 _ _ rfl rfl) [] rows_nil
  obtain ⟨y1, u1, l1, a1, b1, _, c1⟩ := opn_topS Tryz.underlying42 (fun hB => opn_puzzle hB) opnZ_puzzle (hval 1 _ v1 rfl rfl) h1 (hw 1 _ _ rfl rfl) _ a0
  obtain ⟨y2, u2, l2, a2, b2, c2⟩ := opn_top Tryz.underlying33 (fun hB => opn_ints hB) (hval 2 _ v2 rfl rfl) h2 (hw 2 _ _ rfl rfl) _ a1
  obtain ⟨a, b, rfl, e1, e2, e3⟩ := pz_of reach_le c1
  obtain ⟨w, e4, e5, e6⟩ := ints_of c2
  cases e4
  have hcall := calls_of_c1 (E := E2) envS2 (f := 5) (args := [.one u0, .agg [a, b], .one u2]) (vs := [v0, v1, v2]) (w := W) (l := [] ++ y0 ++ y1 ++ y2) a2
    ⟨CR.mono (argB_sub _ _) (CR.mono (argB_sub _ _) b0), AR.mono (argB_sub _ _) b1, b2, trivial⟩
    (sumsLaw_c1 _ u0 a b u2 l0 l1 l2 (((lads_of c0).1.gr (argH_gr _ _)).gr (argH_gr _ _)) (e1.gr (argH_gr _ _)) (e2.gr (argH_gr _ _)) e3 e5 (Nat.le_trans e6 reach_le))
  refine hcall.mono fun e W' ⟨he, hw⟩ => ?_
  subst he
  have hlt : ∀ x ∈ p0 ++ p1 ++ p2, x.block < W.heap.size := fun x hx => hW'.lt x (by simpa using hx)
  exact ⟨_, rfl, law_post rfl hW' rfl (by kernel_rfl) rfl rfl rfl (grown_below hw) fun sp hsp => trodAll_stays Tryz.laidOut (grown_below hw) readsS (by simpa using hAll) (by simpa using hlt) hsp⟩
end Go.Proofs.YtiejeicaaojdlaaGreat
namespace Go.Proofs.YtiejeicaaojdlaaGreat
open Go.ChangeShapes Go.WideShapes Go.ChangeAt Go.RowKit Go.Eng
theorem sums_holds : Rows.AccountSumsSaid :=
  OpenClaim.holds_of_wide 5 Tryz.f5 rfl rfl rfl rfl rfl rfl rfl ⟨rfl, rfl, rfl, rfl, rfl⟩ rfl rfl rfl rfl rfl (by kernel_rfl) Tryz.func5 (by kernel_rfl)
    (of_decide_eq_true (by kernel_rfl)) (by unfold Func.isWrapper; first | (rw [if_pos (by decide +kernel)]; kernel_rfl) | (rw [if_neg (by decide +kernel)]; exact ⟨rfl, rfl⟩))
    (fun os started H enc _ => sums_lifted os started H enc)
end Go.Proofs.YtiejeicaaojdlaaGreat
