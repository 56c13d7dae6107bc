/- A part of the proof: BkSl6, BkSl7, BkSl8, BkSl9, BkSl10, BkSp1, BkSp2. No conditions. -/
import Derived.Test.YtekoajibckipkaaGreatQAj
namespace Go.Proofs.YtekoajibckipkaaGreat
open Go Go.Eng
theorem drop_one {S R : List Sp} {j : Nat} {x : Sp} (h : S.drop j = one true x ++ R) : (okN x.2.2 = true → S[j]? = some x) ∧ S.drop (if okN x.2.2 = true then j + 1 else j) = R := by
  unfold one at h
  cases hk : okN x.2.2 with
  | true =>
    rw [hk, Bool.true_and, if_pos rfl] at h
    have h0 : (S.drop j)[0]? = some x := by rw [h]; rfl
    rw [List.getElem?_drop] at h0
    refine ⟨fun _ => h0, ?_⟩
    rw [if_pos rfl, ← List.drop_drop, h]; rfl
  | false =>
    rw [hk, Bool.true_and, if_neg Bool.false_ne_true, List.nil_append] at h
    exact ⟨fun h2 => absurd h2 Bool.false_ne_true, (if_neg Bool.false_ne_true).symm ▸ h⟩
theorem drop_none {S R : List Sp} {j : Nat} {x : Sp} (h : S.drop j = one false x ++ R) : S.drop j = R := by
  unfold one at h
  rw [Bool.false_and, if_neg Bool.false_ne_true, List.nil_append] at h
  exact h
def slipsL (us : List Pr) (cs vs : List Int) (n : Int) : List Sp := (List.range us.length).flatMap (slipsAt us cs vs n)
theorem headD_i (l : List Int) (i : Nat) (h : i < l.length) : ((l.map (AC.i .i64)).drop i).headD (.b false) = .i .i64 (l.getD i 0) := by
  rw [← List.map_drop, List.getD_eq_getElem?_getD, List.drop_eq_getElem_cons h, List.getElem?_eq_getElem h]; rfl
def valsS (nm : List UInt8) (us : List Pr) : List Int := us.map fun x => (valL nm us x.1).1
def SmallB (us : List Pr) (cs vs : List Int) : Prop := ∀ i, i < us.length → (0 ≤ cs.getD i 0 ∧ cs.getD i 0 ≤ 1099511627776) ∧ (0 ≤ vs.getD i 0 ∧ vs.getD i 0 ≤ 1099511627776) ∧
  (i + 1 < us.length → (0 ≤ cs.getD (i + 1) 0 * vs.getD (i + 1) 0 ∧ cs.getD (i + 1) 0 * vs.getD (i + 1) 0 ≤ 1099511627776) ∧ (0 ≤ cs.getD (i + 1) 0 * vs.getD i 0 ∧ cs.getD (i + 1) 0 * vs.getD i 0 ≤ 1125899906842624) ∧
    (0 ≤ cs.getD i 0 * vs.getD i 0 ∧ cs.getD i 0 * vs.getD i 0 ≤ 1099511627776) ∧ (0 ≤ cs.getD i 0 * vs.getD (i + 1) 0 ∧ cs.getD i 0 * vs.getD (i + 1) 0 ≤ 1125899906842624))
set_option maxRecDepth 10000 in
set_option maxHeartbeats 64000000 in
theorem slips1_it (H : Hp) (il rn : Nat) (nm : List UInt8) (u : AC) (us : List Pr) (n : Int) (hil : il < H.nx) (hgl : H.get il = some (.arr [.o (.str nm), u] 68 0 0)) (hrn : rn < H.nx) (hgn : H.get rn = some (.arr [.i .i64 n] 3 0 0)) (hu : SlP H u us) (hck : chkLad nm us = 0) (hn1 : 1 ≤ n) (hn2 : n ≤ 1099511627776)
    (cs vs : List Int) (hcs : splitA us n = cs) (hvs : valsS nm us = vs) (hSB : SmallB us cs vs) (S : List Sp) (hS : slipsL us cs vs n = S) :
    ItC E2 107 [(il, 0, 0, 2), (rn, 0, 0, 1)] S.length (slA S) (fun k => k = il ∨ k = rn ∨ k ∈ (AV.one u).ids) H := by
  intro σ L B s H1 hnx hs1 hj
  refine Con.of rfl fun lg => ?_
  have hj : B.J 0 s ⟨H1.t, H1.nx, lg⟩ := B.hJ hj (Nat.le_refl _) fun _ _ => rfl
  have hnx : H.nx ≤ (⟨H1.t, H1.nx, lg⟩ : Hp).nx := hnx
  have hs1 : ∀ k, k < H.nx → (⟨H1.t, H1.nx, lg⟩ : Hp).get k = H.get k := hs1
  have e0 : H1.nx = (⟨H1.t, H1.nx, lg⟩ : Hp).nx := rfl
  rw [e0]
  clear e0
  generalize (⟨H1.t, H1.nx, lg⟩ : Hp) = H1 at hj hnx hs1 ⊢
  have hgl1 : H1.get il = some (.arr [.o (.str nm), u] 68 0 0) := by rw [hs1 _ hil]; exact hgl
  have hgn1 : H1.get rn = some (.arr [.i .i64 n] 3 0 0) := by rw [hs1 _ hrn]; exact hgn
  have hil1 : il < H1.nx := Nat.lt_of_lt_of_le hil hnx
  have hrn1 : rn < H1.nx := Nat.lt_of_lt_of_le hrn hnx
  have hu1 : SlP H1 u us := SlC.of_get hu hnx hs1
  have hfpD : ∀ k, B.fp s k → k < H1.nx ∧ ¬ (k = il ∨ k = rn ∨ k ∈ (AV.one u).ids) := fun k hk => B.hl hj hk
  clear hgl hgn hs1 hu hil hrn hnx
  have hL := (chkLad_ok hck).1
  have hck' := hck
  have hsp : splitE nm us n = (cs, 0) := by unfold splitE; rw [if_neg (fun h => h hck), if_pos ⟨by omega, hn2⟩, hcs]
  have hcl : cs.length = us.length := by rw [← hcs]; exact splitA_len us n
  have hvl : vs.length = us.length := by rw [← hvs]; unfold valsS; exact List.length_map _
  refine C1.body (E := E2) (nt := 180) (res := []) Tryz.func107 rfl rfl rfl rfl rfl fun tm hargs => ?_
  have h0 := hargs 0 _ rfl
  have h1 := hargs 1 _ rfl
  have h2 := hargs 2 _ rfl
  clear hargs
  refine zG tyF fun K hK => ?_
  refine hK.out _ _ ?_
  refine R1.gen (fun A2 H2 => Gr H1 H2 ∧ H1.nx < H2.nx ∧ H2.get H1.nx = some (.arr [.o (.yl L)] 182 0 0) ∧ slot A2.tm 1 = .one ((.o (.ptr il 0 0 2))) ∧ slot A2.tm 2 = .one ((.o (.ptr rn 0 0 1))) ∧ slot A2.tm 3 = .one ((.o (.ptr H1.nx 0 0 1))) ∧ A2.nt = 180 ∧ A2.dfr = []) ⟨(Fr.refl _).new _, Nat.lt_succ_self _, get_newE rfl, zL⟩ ?_
  clear h0 h1 h2 tm hK K
  rintro A2 H2 ⟨g2, mb, rb, t1, t2, t3, hnt, hdf⟩
  obtain ⟨qb, hqb⟩ : ∃ q, q = H1.nx := ⟨_, rfl⟩
  rw [← hqb] at mb rb t3
  replace hqb : Hd (qb = H1.nx) := hqb
  have rl := (g2.get _ hil1 not_false).trans hgl1
  have ml := Nat.lt_of_lt_of_le hil1 g2.nx
  have rn2 := (g2.get _ hrn1 not_false).trans hgn1
  have mn := Nat.lt_of_lt_of_le hrn1 g2.nx
  refine zG (qA tyF bd_Split) fun K hK => ?_
  refine WE.con (splitE_con H2 nm u us n (hu1.gr g2)) fun w H3 g3 ⟨c, hq, hc, hcf⟩ => ?_
  rw [hsp] at hq hc
  subst hq
  have rb := (g3.get _ mb not_false).trans rb
  have mb := Nat.lt_of_lt_of_le mb g3.nx
  have rl := (g3.get _ ml not_false).trans rl
  have ml := Nat.lt_of_lt_of_le ml g3.nx
  have rn2 := (g3.get _ mn not_false).trans rn2
  have mn := Nat.lt_of_lt_of_le mn g3.nx
  have g3 := g2.gr g3
  refine zS tyF ?_
  refine hK.out _ _ ?_
  refine R1.gen (fun A4 H4 => Gr H1 H4 ∧ Gr H3 H4 ∧ H3.nx < H4.nx ∧ H4.get H3.nx = some (.arr [c] 33 0 0) ∧ slot A4.tm 1 = .one ((.o (.ptr il 0 0 2))) ∧ slot A4.tm 2 = .one ((.o (.ptr rn 0 0 1))) ∧ slot A4.tm 3 = .one ((.o (.ptr qb 0 0 1))) ∧ slot A4.tm 4 = .one ((.o (.ptr H3.nx 0 0 1))) ∧ A4.nt = 180 ∧ A4.dfr = [])
    ⟨(g3.new _).mod _ (.inl g3.nx), ((Fr.refl _).new _).mod _ (.inl (Nat.le_refl _)), Nat.lt_succ_self _, get_modE rfl, zL⟩ ?_
  clear t1 t2 t3 hnt hdf A2 hK K
  rintro A H4 ⟨g4, g34, mc, rc, t1, t2, t3, t4, hnt, hdf⟩
  have rb := (g34.get _ mb not_false).trans rb
  have mb := Nat.lt_of_lt_of_le mb g34.nx
  have rl := (g34.get _ ml not_false).trans rl
  have ml := Nat.lt_of_lt_of_le ml g34.nx
  have rn2 := (g34.get _ mn not_false).trans rn2
  have mn := Nat.lt_of_lt_of_le mn g34.nx
  have hqv1 : qb < H4.nx ∧ H3.nx < H4.nx ∧ il < H4.nx ∧ rn < H4.nx ∧ H1.nx ≤ H4.nx := ⟨mb, mc, ml, mn, g4.nx⟩
  have hc4 := hc.gr g34
  have hqc : H1.nx ≤ H3.nx := g3.nx
  obtain ⟨qc, hqc'⟩ : ∃ q, q = H3.nx := ⟨_, rfl⟩
  rw [← hqc'] at mc rc t4 hqc hqv1
  have hcf1 : ∀ k ∈ (AV.one c).ids, H1.nx ≤ k := fun k hk => Nat.le_trans g2.nx (hcf k hk)
  clear hqc' g3 g34 hc hcf
  obtain ⟨z, hz, hzc⟩ : ∃ z, zeroT Tryz.prog 3 = some z ∧ (ofValue z).cells = [.i .i64 0] := ⟨.int .i64 0, zv_int, rfl⟩
  have mk : ∀ H, doMakeSlice Tryz.prog H 33 (.one (.i .i64 (cs.length : Int))) (.one (.i .i64 (cs.length : Int))) = .val (.one (.o (.sl H.nx 0 0 cs.length 1))) (H.new (.arr ((List.replicate cs.length (0 : Int)).map (AC.i .i64)) 3 0 0)) := fun H => by
    rw [make_slice el_ints by_int hz (by rw [hzc]; rfl) (by omega), hzc, repl_eq, List.map_replicate]
  clear hz hzc
  have l1 := hc4.len
  have l2 := hc4.lt
  rw [hcl] at l1 mk
  replace hcl : Hd (cs.length = us.length) := hcl
  replace hvl : Hd (vs.length = us.length) := hvl
  replace hcs : Hd (splitA us n = cs) := hcs
  replace hsp : Hd (splitE nm us n = (cs, 0)) := hsp
  replace hvs : Hd (valsS nm us = vs) := hvs
  replace hck : Hd (chkLad nm us = 0) := hck
  clear hck'
  replace hS : Hd (slipsL us cs vs n = S) := hS
  refine zG (qA tyF mk) fun K hK => ?_
  refine hK.out _ _ ?_
  refine R1.gen (fun A5 H5 => Gr H1 H5 ∧ Gr H4 H5 ∧ H4.nx < H5.nx ∧ H5.get H4.nx = some (.arr ((List.replicate us.length (0 : Int)).map (AC.i .i64)) 3 0 0) ∧ slot A5.tm 1 = .one ((.o (.ptr il 0 0 2))) ∧ slot A5.tm 2 = .one ((.o (.ptr rn 0 0 1))) ∧ slot A5.tm 3 = .one ((.o (.ptr qb 0 0 1))) ∧ slot A5.tm 4 = .one ((.o (.ptr qc 0 0 1))) ∧ slot A5.tm 6 = .one ((.o (.sl H4.nx 0 0 us.length 1))) ∧ A5.nt = 180 ∧ A5.dfr = [])
    ⟨g4.new _, (Fr.refl _).new _, Nat.lt_succ_self _, get_newE rfl, zL⟩ ?_
  clear t1 t2 t3 t4 hnt hdf A hK K mk l1 l2
  rintro A H5 ⟨g5, g45, mv, rv, t1, t2, t3, t4, t6, hnt, hdf⟩
  have rb := (g45.get _ mb not_false).trans rb
  have mb := Nat.lt_of_lt_of_le mb g45.nx
  have rl := (g45.get _ ml not_false).trans rl
  have ml := Nat.lt_of_lt_of_le ml g45.nx
  have rn2 := (g45.get _ mn not_false).trans rn2
  have mn := Nat.lt_of_lt_of_le mn g45.nx
  have rc := (g45.get _ mc not_false).trans rc
  have mc := Nat.lt_of_lt_of_le mc g45.nx
  have hc5 := hc4.gr g45
  have hcv : ∀ k ∈ (AV.one c).ids, k < H4.nx := hc4.lt
  obtain ⟨qv, hqv⟩ : ∃ q, q = H4.nx := ⟨_, rfl⟩
  rw [← hqv] at mv rv t6 hcv hqv1
  clear hqv g45 hc4 g4
  have hu5 := hu1.gr g5
  have l1 := hu5.len
  have l2 := hu5.lt
  refine zW tyF ?_
  obtain ⟨hqb1, hqc1, hqi1, hqn1, hq1⟩ := hqv1
  have RF : ∀ H6, Fr (fun k => k = qv) H5 H6 → (H6.get qb = some (.arr [.o (.yl L)] 182 0 0) ∧ qb < H6.nx) ∧ (H6.get il = some (.arr [.o (.str nm), u] 68 0 0) ∧ il < H6.nx) ∧ (H6.get rn = some (.arr [.i .i64 n] 3 0 0) ∧ rn < H6.nx) ∧ (H6.get qc = some (.arr [c] 33 0 0) ∧ qc < H6.nx) ∧ qv < H6.nx := fun H6 f =>
    ⟨⟨(f.get _ mb (by omega)).trans rb, Nat.lt_of_lt_of_le mb f.nx⟩, ⟨(f.get _ ml (by omega)).trans rl, Nat.lt_of_lt_of_le ml f.nx⟩, ⟨(f.get _ mn (by omega)).trans rn2, Nat.lt_of_lt_of_le mn f.nx⟩, ⟨(f.get _ mc (by omega)).trans rc, Nat.lt_of_lt_of_le mc f.nx⟩, Nat.lt_of_lt_of_le mv f.nx⟩
  have hcne : ∀ k ∈ (AV.one c).ids, ¬ k = qv := fun k hk e => by have := hcv k hk; omega
  refine R1.s_bl fun K k1 k2 k3 k4 => ?_
  refine R1.loop (fun m A H6 => ∃ i : Nat, m = us.length - i ∧ i ≤ us.length ∧ Gr H1 H6 ∧ Fr (fun k => k = qv) H5 H6 ∧ H6.get qv = some (.arr ((vs.take i ++ List.replicate (us.length - i) (0 : Int)).map (AC.i .i64)) 3 0 0) ∧
      slot A.tm 1 = .one ((.o (.ptr il 0 0 2))) ∧ slot A.tm 2 = .one ((.o (.ptr rn 0 0 1))) ∧ slot A.tm 3 = .one ((.o (.ptr qb 0 0 1))) ∧ slot A.tm 4 = .one ((.o (.ptr qc 0 0 1))) ∧ slot A.tm 6 = .one ((.o (.sl qv 0 0 us.length 1))) ∧ slot A.tm 24 = .one (u) ∧ slot A.tm 25 = .one (.i .i64 (us.length : Int)) ∧ slot A.tm 26 = .one (.i .i64 (i : Int)) ∧ A.nt = 180 ∧ A.dfr = []) ?_ us.length
    ⟨0, rfl, Nat.zero_le _, g5, Fr.refl _, rv, zL⟩
  clear t1 t2 t3 t4 t6 hnt hdf A rb rl rn2 rc rv k3 l1 l2 hu5
  rintro m A H6 ⟨i, rfl, hi, g6, f6, rv, t1, t2, t3, t4, t6, t24, t25, t26, hnt, hdf⟩
  refine zW tyF ?_
  refine zI tyF (fun hc => ?_) (fun hc => ?_)
  · have hlt : i < us.length := by omega
    have ex : us[i]? = some us[i] := List.getElem?_eq_getElem hlt
    have hdr : us.drop i = us[i] :: us.drop (i + 1) := List.drop_eq_getElem_cons hlt
    have htk : us.take (i + 1) = us.take i ++ [us[i]] := List.take_succ_eq_append_getElem hlt
    have hmem : us[i] ∈ us := List.getElem_mem hlt
    generalize us[i] = x at ex hdr htk hmem
    have hw2 : IntKind.i64.wrap ((i : Int) + 1) = ((i + 1 : Nat) : Int) := by rw [wrapI (by omega) (by omega)]; omega
    obtain ⟨id, g, off, cells, rfl, hid, hgr, hat⟩ := (hu1.gr g6).open (by omega)
    have hy := hat _ _ ex
    have y1 := hy.all
    have y2 := hy.le
    have hvx : vs.take (i + 1) = vs.take i ++ [(valL nm us x.1).1] := by
      have e : vs[i]? = some (valL nm us x.1).1 := by rw [← hvs.out]; unfold valsS; rw [List.getElem?_map, ex]; rfl
      obtain ⟨h1, h2⟩ := List.getElem?_eq_some_iff.1 e
      rw [List.take_succ_eq_append_getElem h1, h2]
    clear hat hy hdr htk
    refine zW tyF ?_
    refine R1.s_bl fun K2 q1 q2 q3 q4 => ?_
    refine zG (qA tyF (qA (ixC hlt) prC_e)) fun K3 hK3 => ?_
    refine hK3.out _ _ ?_
    refine R1.gen (fun A7 H7 => Gr H1 H7 ∧ Gr H6 H7 ∧ H6.nx < H7.nx ∧ H7.get H6.nx = some (.arr [.o (.str x.1), .i .i64 x.2] 137 0 0) ∧ slot A7.tm 1 = .one ((.o (.ptr il 0 0 2))) ∧ slot A7.tm 2 = .one ((.o (.ptr rn 0 0 1))) ∧ slot A7.tm 3 = .one ((.o (.ptr qb 0 0 1))) ∧ slot A7.tm 4 = .one ((.o (.ptr qc 0 0 1))) ∧ slot A7.tm 6 = .one ((.o (.sl qv 0 0 us.length 1))) ∧ slot A7.tm 7 = .one (.i .i64 (i : Int)) ∧ slot A7.tm 8 = .one ((.o (.ptr H6.nx 0 0 2))) ∧ slot A7.tm 24 = .one ((.o (.sl id g off us.length 2))) ∧ slot A7.tm 25 = .one (.i .i64 (us.length : Int)) ∧ slot A7.tm 26 = .one (.i .i64 (i : Int)) ∧ A7.nt = 180 ∧ A7.dfr = [])
      ⟨(g6.new _).mod _ (.inl g6.nx), ((Fr.refl _).new _).mod _ (.inl (Nat.le_refl _)), Nat.lt_succ_self _, get_modE rfl, zL⟩ ?_
    clear t1 t2 t3 t4 t6 t24 t25 t26 hnt hdf A y1 y2 hgr hid hK3 K3
    rintro A H7 ⟨g7, g67, m8, r8, t1, t2, t3, t4, t6, t7, t8, t24, t25, t26, hnt, hdf⟩
    have f7 : Fr (fun k => k = qv) H5 H7 := f6.gr g67
    have rv7 := (g67.get _ (RF H6 f6).2.2.2.2 not_false).trans rv
    refine zG (qA tyF (qA (RF H7 f7) bd_value)) fun K3 hK3 => ?_
    refine WE.con (value_con H7 nm _ us x.1 (hu1.gr g7)) fun w H8 g8 hq => ?_
    subst hq
    have f8 : Fr (fun k => k = qv) H5 H8 := f7.gr g8
    have rv8 := (g8.get _ (RF H7 f7).2.2.2.2 not_false).trans rv7
    have g78 := g7.gr g8
    clear rv rv7 r8 m8
    have hlen : (vs.take i).length = i := by have := hvl.out; rw [List.length_take]; omega
    have hle : i + 1 ≤ ((vs.take i ++ List.replicate (us.length - i) (0 : Int)).map (AC.i .i64)).length := by rw [List.length_map, List.length_append, List.length_replicate, hlen]; omega
    have hput : List.take i ((vs.take i ++ List.replicate (us.length - i) (0 : Int)).map (AC.i .i64)) ++ AC.i .i64 (valL nm us x.1).1 :: List.drop (i + 1) ((vs.take i ++ List.replicate (us.length - i) (0 : Int)).map (AC.i .i64)) = (vs.take (i + 1) ++ List.replicate (us.length - (i + 1)) 0).map (AC.i .i64) := by
      rw [setRow (AC.i .i64) _ _ _ (by rw [List.length_append, List.length_replicate, hlen]; omega)]
      have e : us.length - i = (us.length - (i + 1)) + 1 := by omega
      rw [e]
      have e2 := setMid (vs.take i) 0 (valL nm us x.1).1 (us.length - (i + 1))
      rw [hlen] at e2
      rw [e2, hvx]
    replace hlen : Hd ((vs.take i).length = i) := hlen
    clear hvx
    generalize (valL nm us x.1).1 = vx at hput
    generalize (valL nm us x.1).2 = ve
    refine zS (qA tyF (qA (RF H8 f8) (qA (ixC hlt) (qA hput (qA Nat.mul_one hle))))) ?_
    refine hK3.out _ _ ?_
    refine q1.out _ _ ?_
    refine zW tyF ?_
    exact ⟨us.length - (i + 1), by omega, i + 1, rfl, hlt, g78.mod _ (.inl (by omega)), f8.mod _ (.inr rfl), get_modE rfl, zL⟩
  · have hie : i = us.length := by omega
    refine zW tyF ?_
    refine k2.out _ _ ?_
    clear k1 k2 k4
    have hvl2 : vs.take us.length = vs := by rw [← hvl.out, List.take_length]
    rw [hie, Nat.sub_self, List.replicate_zero, List.append_nil, hvl2] at rv
    replace hie : Hd (i = us.length) := hie
    clear t26 t24 t25 hvl2
    have hc6 : SlI H6 c cs := SlC.fr hc5 f6 hcne
    have l1 := hc6.len
    have l2 := hc6.lt
    rw [hcl.out] at l1
    refine zW (qA tyF (RF H6 f6)) ?_
    have hlp : 0 < us.length := by obtain ⟨x0, l0, e0, _⟩ := chkLad_first hck.out; rw [e0]; exact Nat.succ_pos _
    obtain ⟨idc, gc, offc, cellsc, hce, hidc, hgc, hatc⟩ := hc6.open (by have := hcl.out; omega)
    rw [hcl.out] at hce
    subst hce
    have ec : ∀ j, j < us.length → (cellsc.drop (offc + j)).headD (.b false) = .i .i64 (cs.getD j 0) ∧ offc + j + 1 ≤ cellsc.length := fun j hj => by
      have e : cs[j]? = some (cs.getD j 0) := by have := hcl.out; rw [List.getD_eq_getElem?_getD, List.getElem?_eq_getElem (by omega)]; rfl
      have h := hatc j _ e
      rwa [Nat.mul_one] at h
    have evv : ∀ j, j < us.length → ((vs.map (AC.i .i64)).drop j).headD (.b false) = .i .i64 (vs.getD j 0) ∧ j + 1 ≤ (vs.map (AC.i .i64)).length := fun j hj => by
      have := hvl.out
      exact ⟨headD_i vs j (by omega), by rw [List.length_map]; omega⟩
    have hnD : ∀ k, (H1.nx ≤ k ∨ (k = il ∨ k = rn ∨ k ∈ (AV.one u).ids)) → ¬ B.fp s k := fun k h hf => by
      have h2 := hfpD k hf
      rcases h with h | h
      · omega
      · exact h2.2 h
    have hqbn : ¬ B.fp s qb := hnD _ (.inl (by have := hqb.out; omega))
    have hidf : ¬ B.fp s idc := hnD _ (.inl (hcf1 idc (List.mem_singleton.2 rfl)))
    have hun : ∀ k ∈ (AV.one u).ids, ¬ B.fp s k := fun k hk => hnD k (.inr (.inr (.inr hk)))
    have hcn : ∀ k ∈ (AV.one (.o (.sl idc gc offc us.length 1))).ids, ¬ B.fp s k := fun k hk => by rw [List.mem_singleton.1 hk]; exact hidf
    have hu6 := hu1.gr g6
    have RG : ∀ H7, Fr (B.fp s) H6 H7 → (H7.get qb = some (.arr [.o (.yl L)] 182 0 0) ∧ qb < H7.nx) ∧ (H7.get il = some (.arr [.o (.str nm), u] 68 0 0) ∧ il < H7.nx) ∧ (H7.get rn = some (.arr [.i .i64 n] 3 0 0) ∧ rn < H7.nx) ∧ (H7.get qc = some (.arr [.o (.sl idc gc offc us.length 1)] 33 0 0) ∧ qc < H7.nx) ∧ (H7.get qv = some (.arr (vs.map (AC.i .i64)) 3 0 0) ∧ qv < H7.nx) ∧ (rowOf (H7.get idc) gc = some cellsc ∧ idc < H7.nx) := fun H7 f => by
      obtain ⟨⟨a1, a2⟩, ⟨b1, b2⟩, ⟨c1, c2⟩, ⟨d1, d2⟩, e2⟩ := RF H6 f6
      exact ⟨⟨(f.get _ a2 hqbn).trans a1, Nat.lt_of_lt_of_le a2 f.nx⟩, ⟨(f.get _ b2 (hnD _ (.inr (.inl rfl)))).trans b1, Nat.lt_of_lt_of_le b2 f.nx⟩, ⟨(f.get _ c2 (hnD _ (.inr (.inr (.inl rfl))))).trans c1, Nat.lt_of_lt_of_le c2 f.nx⟩, ⟨(f.get _ d2 (hnD _ (.inl hqc))).trans d1, Nat.lt_of_lt_of_le d2 f.nx⟩, ⟨(f.get _ e2 (hnD _ (.inl hq1))).trans rv, Nat.lt_of_lt_of_le e2 f.nx⟩, ⟨by rw [f.get _ hidc hidf]; exact hgc, Nat.lt_of_lt_of_le hidc f.nx⟩⟩
    have hcS : ∀ H7, Fr (B.fp s) H6 H7 → SlI H7 (.o (.sl idc gc offc us.length 1)) cs := fun H7 f => SlC.fr hc6 f hcn
    have huS : ∀ H7, Fr (B.fp s) H6 H7 → SlP H7 u us := fun H7 f => SlC.fr hu6 f hun
    have hj6 : B.J 0 s H6 := B.hJ hj g6.nx fun k hk => g6.get k hk not_false
    have fin : ∀ (e : AExit), e = .normal ∨ e = .ret → ∀ s3 H3 A3, B.J S.length s3 H3 ∨ B.F s3 H3 → Fr (B.fp s) H6 H3 → (∀ k, B.fp s3 k → B.fp s k ∨ H6.nx ≤ k) → A3.dfr = [] → ∃ v H4, callEnd E2 [] (e, A3, H3) = .ok [(v, H4)] ∧ Fr (B.fp s) H1 H4 ∧ ∀ lg', ∃ s', (B.J S.length s' ⟨H4.t, H4.nx, lg'⟩ ∨ B.F s' ⟨H4.t, H4.nx, lg'⟩) ∧ ∀ k, B.fp s' k → B.fp s k ∨ H1.nx ≤ k := fun e he s3 H3 A3 hjf hf hfp hd =>
      ⟨_, H3, callEnd_nil he hd, g6.none.then hf fun k hk => .inr hk, fun lg' => ⟨s3, hjf.imp (fun h => B.hJ (H := H3) h (Nat.le_refl _) fun _ _ => rfl) (fun h => B.hF (H := H3) h (Nat.le_refl _) fun _ _ => rfl), fun k hk => (hfp k hk).imp id fun h => Nat.le_trans g6.nx h⟩⟩
    have hS0 : S.drop 0 = ((List.range us.length).drop 0).flatMap (slipsAt us cs vs n) := by rw [List.drop_zero, List.drop_zero]; exact hS.out.symm
    have n16 := g6.nx
    replace hS0 : Hd _ := hS0
    clear RF hcne hc6 hc5 hu6 rv hatc hgc hj l1 l2 hu1 g5 mb ml mn mc mv hcv hcf1 hlp
    refine R1.e_bl fun K k1 k2 k3 k4 => ?_
    refine R1.loop (fun m A H7 => ∃ (i j : Nat) (s2 : σ), m = us.length - i ∧ i ≤ us.length ∧ j ≤ S.length ∧ B.J j s2 H7 ∧ Fr (B.fp s) H6 H7 ∧ (∀ k, B.fp s2 k → B.fp s k ∨ H6.nx ≤ k) ∧ Hd (S.drop j = ((List.range us.length).drop i).flatMap (slipsAt us cs vs n)) ∧ slot A.tm 2 = .one ((.o (.ptr rn 0 0 1))) ∧ slot A.tm 4 = .one ((.o (.ptr qc 0 0 1))) ∧ slot A.tm 6 = .one ((.o (.sl qv 0 0 us.length 1))) ∧ slot A.tm 9 = .one ((.o (.clo 110 [(qc, 0, 0, 1), (il, 0, 0, 2)]))) ∧ slot A.tm 10 = .one ((.o (.clo 111 [(qb, 0, 0, 1), (il, 0, 0, 2)]))) ∧ slot A.tm 45 = .one (.i .i64 (us.length : Int)) ∧ slot A.tm 46 = .one (.i .i64 (i : Int)) ∧ A.nt = 180 ∧ A.dfr = []) ?_ us.length
      ⟨0, 0, s, rfl, Nat.zero_le _, Nat.zero_le _, hj6, Fr.refl _, fun _ h => .inl h, hS0, zL⟩
    clear t1 t2 t3 t4 t6 hnt hdf A hj6 hS0
    rintro m A H7 ⟨i, j, s2, rfl, hi, hjS, hj7, f7, hfp, hSj, t2, t4, t6, t9, t10, t45, t46, hnt, hdf⟩
    refine zW tyF ?_
    refine zI tyF (fun hc => ?_) (fun hc => ?_)
    · have hlt : i < us.length := by omega
      have hw2 : IntKind.i64.wrap ((i : Int) + 1) = ((i + 1 : Nat) : Int) := by rw [wrapI (by omega) (by omega)]; omega
      have hfl : ((List.range us.length).drop i).flatMap (slipsAt us cs vs n) = slipsAt us cs vs n i ++ ((List.range us.length).drop (i + 1)).flatMap (slipsAt us cs vs n) := by
        rw [List.drop_eq_getElem_cons (by rw [List.length_range]; exact hlt), List.getElem_range, List.flatMap_cons]
      replace hSj := hSj.out
      rw [hfl] at hSj
      obtain ⟨⟨c0, c1⟩, ⟨v0, v1⟩, hmore⟩ := hSB i hlt
      obtain ⟨ec1, ec2⟩ := ec i hlt
      obtain ⟨ev1, ev2⟩ := evv i hlt
      generalize hR : ((List.range us.length).drop (i + 1)).flatMap (slipsAt us cs vs n) = R at hSj
      replace hR : Hd (((List.range us.length).drop (i + 1)).flatMap (slipsAt us cs vs n) = R) := hR
      clear hfl
      have w1 : IntKind.i64.wrap (n - vs.getD i 0) = n - vs.getD i 0 := wrapI (by omega) (by omega)
      have w2 : IntKind.i64.wrap (n + vs.getD i 0) = n + vs.getD i 0 := wrapI (by omega) (by omega)
      have w3 : IntKind.i64.wrap (cs.getD i 0 + 1) = cs.getD i 0 + 1 := wrapI (by omega) (by omega)
      refine zW tyF ?_
      refine R1.s_bl fun K2 q1 q2 q3 q4 => ?_
      refine zW tyF ?_
      have next : ∀ (s4 : σ) (j4 : Nat) (A8 : AAct) (H8 : Hp), j4 ≤ S.length → B.J j4 s4 H8 → Fr (B.fp s) H6 H8 → (∀ k, B.fp s4 k → B.fp s k ∨ H6.nx ≤ k) → S.drop j4 = R → slot A8.tm 2 = .one ((.o (.ptr rn 0 0 1))) ∧ slot A8.tm 4 = .one ((.o (.ptr qc 0 0 1))) ∧ slot A8.tm 6 = .one ((.o (.sl qv 0 0 us.length 1))) ∧ slot A8.tm 9 = .one ((.o (.clo 110 [(qc, 0, 0, 1), (il, 0, 0, 2)]))) ∧ slot A8.tm 10 = .one ((.o (.clo 111 [(qb, 0, 0, 1), (il, 0, 0, 2)]))) ∧ slot A8.tm 45 = .one (.i .i64 (us.length : Int)) ∧ slot A8.tm 46 = .one (.i .i64 (i : Int)) ∧ A8.nt = 180 ∧ A8.dfr = [] → K2 .normal A8 H8 ∧ K2 (.exit 3) A8 H8 := by
        clear t2 t4 t6 t9 t10 t45 t46 hnt hdf A
        rintro s4 j4 A H8 hjS8 hj8 f8 hfp8 hS8 ⟨t2, t4, t6, t9, t10, t45, t46, hnt, hdf⟩
        replace hS8 : Hd (S.drop j4 = ((List.range us.length).drop (i + 1)).flatMap (slipsAt us cs vs n)) := hS8.trans hR.out.symm
        refine ⟨q1.out _ _ ?_, q2.out _ _ ?_⟩
        · refine zW tyF ?_
          exact ⟨us.length - (i + 1), by omega, i + 1, j4, s4, rfl, hlt, hjS8, hj8, f8, hfp8, hS8, zL⟩
        · refine zW tyF ?_
          exact ⟨us.length - (i + 1), by omega, i + 1, j4, s4, rfl, hlt, hjS8, hj8, f8, hfp8, hS8, zL⟩
      have stop : ∀ (s4 : σ) (A8 : AAct) (H8 : Hp), B.F s4 H8 → Fr (B.fp s) H6 H8 → (∀ k, B.fp s4 k → B.fp s k ∨ H6.nx ≤ k) → A8.dfr = [] → K2 .ret A8 H8 := fun s4 A8 H8 h1 h2 h3 h4 => q4.out _ _ (k4.out _ _ (fin .ret (.inr rfl) s4 H8 A8 (.inr h1) h2 h3 h4))
      replace next : Hd (∀ (s4 : σ) (j4 : Nat) (A8 : AAct) (H8 : Hp), j4 ≤ S.length → B.J j4 s4 H8 → Fr (B.fp s) H6 H8 → (∀ k, B.fp s4 k → B.fp s k ∨ H6.nx ≤ k) → S.drop j4 = R → slot A8.tm 2 = .one ((.o (.ptr rn 0 0 1))) ∧ slot A8.tm 4 = .one ((.o (.ptr qc 0 0 1))) ∧ slot A8.tm 6 = .one ((.o (.sl qv 0 0 us.length 1))) ∧ slot A8.tm 9 = .one ((.o (.clo 110 [(qc, 0, 0, 1), (il, 0, 0, 2)]))) ∧ slot A8.tm 10 = .one ((.o (.clo 111 [(qb, 0, 0, 1), (il, 0, 0, 2)]))) ∧ slot A8.tm 45 = .one (.i .i64 (us.length : Int)) ∧ slot A8.tm 46 = .one (.i .i64 (i : Int)) ∧ A8.nt = 180 ∧ A8.dfr = [] → K2 .normal A8 H8 ∧ K2 (.exit 3) A8 H8) := next
      replace stop : Hd (∀ (s4 : σ) (A8 : AAct) (H8 : Hp), B.F s4 H8 → Fr (B.fp s) H6 H8 → (∀ k, B.fp s4 k → B.fp s k ∨ H6.nx ≤ k) → A8.dfr = [] → K2 .ret A8 H8) := stop
      unfold slipsAt at hSj
      rw [List.append_assoc, List.append_assoc] at hSj
      generalize hT : (if i + 1 = us.length then ([] : List Sp) else _) ++ R = T at hSj
      repeat refine R1.s_assoc ?_
      refine R1.s_h (by kernel_rfl) fun K3 hK3 => ?_
      have rest : Hd (∀ (s4 : σ) (j4 : Nat) (A8 : AAct) (H8 : Hp), j4 ≤ S.length → B.J j4 s4 H8 → Fr (B.fp s) H6 H8 → (∀ k, B.fp s4 k → B.fp s k ∨ H6.nx ≤ k) → S.drop j4 = T → (slot A8.tm 11 = .one (.i .i64 (i : Int))) ∧ (slot A8.tm 87 = .one (.b false)) ∧ (slot A8.tm 2 = .one ((.o (.ptr rn 0 0 1))) ∧ slot A8.tm 4 = .one ((.o (.ptr qc 0 0 1))) ∧ slot A8.tm 6 = .one ((.o (.sl qv 0 0 us.length 1))) ∧ slot A8.tm 9 = .one ((.o (.clo 110 [(qc, 0, 0, 1), (il, 0, 0, 2)]))) ∧ slot A8.tm 10 = .one ((.o (.clo 111 [(qb, 0, 0, 1), (il, 0, 0, 2)]))) ∧ slot A8.tm 45 = .one (.i .i64 (us.length : Int)) ∧ slot A8.tm 46 = .one (.i .i64 (i : Int)) ∧ A8.nt = 180 ∧ A8.dfr = []) → K3 A8 H8) := by
        clear t2 t4 t6 t9 t10 t45 t46 hnt hdf A hSj
        rintro s4 j4 A H8 hjS8 hj8 f8 hfp8 hS8 ⟨t11, t87, t2, t4, t6, t9, t10, t45, t46, hnt, hdf⟩
        refine hK3.out _ _ ?_
        clear hK3 K3
        by_cases hlast : i + 1 = us.length
        · have ce : (((i + 1 : Nat) : Int) == (us.length : Int)) = true := by rw [hlast]; exact beq_self_eq_true _
          rw [if_pos hlast, List.nil_append] at hT
          replace hlast : Hd _ := hlast
          refine zW (qA tyF (RG H8 f8)) ?_
          exact (next.out s4 j4 _ _ hjS8 hj8 f8 hfp8 (hS8.trans hT.symm) zL).2
        have ce : (((i + 1 : Nat) : Int) == (us.length : Int)) = false := beq_false_of_ne (by omega)
        have hlt2 : i + 1 < us.length := by omega
        rw [if_neg hlast, List.append_assoc] at hT
        rw [← hT] at hS8
        clear hT
        obtain ⟨⟨p1, p2⟩, ⟨p3, p4⟩, ⟨p5, p6⟩, ⟨p7, p8⟩⟩ := hmore hlt2
        obtain ⟨⟨c2, c3⟩, ⟨v2, v3⟩, _⟩ := hSB (i + 1) hlt2
        obtain ⟨ec3, ec4⟩ := ec (i + 1) hlt2
        obtain ⟨ev3, ev4⟩ := evv (i + 1) hlt2
        have hw4 : IntKind.i64.wrap (((i + 1 : Nat) : Int) + 1) = ((i + 1 + 1 : Nat) : Int) := by rw [wrapI (by omega) (by omega)]; omega
        have x1 : IntKind.i64.wrap (cs.getD (i + 1) 0 * vs.getD (i + 1) 0) = cs.getD (i + 1) 0 * vs.getD (i + 1) 0 := wrapI (by omega) (by omega)
        have x2 : IntKind.i64.wrap (cs.getD (i + 1) 0 * vs.getD i 0) = cs.getD (i + 1) 0 * vs.getD i 0 := wrapI (by omega) (by omega)
        have x3 : IntKind.i64.wrap (n - cs.getD (i + 1) 0 * vs.getD (i + 1) 0) = n - cs.getD (i + 1) 0 * vs.getD (i + 1) 0 := wrapI (by omega) (by omega)
        have x4 : IntKind.i64.wrap (n - cs.getD (i + 1) 0 * vs.getD (i + 1) 0 + cs.getD (i + 1) 0 * vs.getD i 0) = n - cs.getD (i + 1) 0 * vs.getD (i + 1) 0 + cs.getD (i + 1) 0 * vs.getD i 0 := wrapI (by omega) (by omega)
        have x5 : IntKind.i64.wrap (cs.getD i 0 * vs.getD i 0) = cs.getD i 0 * vs.getD i 0 := wrapI (by omega) (by omega)
        have x6 : IntKind.i64.wrap (cs.getD i 0 * vs.getD (i + 1) 0) = cs.getD i 0 * vs.getD (i + 1) 0 := wrapI (by omega) (by omega)
        have x7 : IntKind.i64.wrap (n - cs.getD i 0 * vs.getD i 0) = n - cs.getD i 0 * vs.getD i 0 := wrapI (by omega) (by omega)
        have x8 : IntKind.i64.wrap (n - cs.getD i 0 * vs.getD i 0 + cs.getD i 0 * vs.getD (i + 1) 0) = n - cs.getD i 0 * vs.getD i 0 + cs.getD i 0 * vs.getD (i + 1) 0 := wrapI (by omega) (by omega)
        refine zW (qA tyF (qA (RG H8 f8) (qA (ixC hlt) (qA (ixC hlt2) Nat.mul_one)))) ?_
        generalize hT2 : one (cs.getD (i + 1) 0 == 0 && decide (0 < cs.getD i 0) && roomB us (i + 1) (cs.getD i 0)) (4, (us.getD (i + 1) ([], 0)).1, n - cs.getD i 0 * vs.getD i 0 + cs.getD i 0 * vs.getD (i + 1) 0) ++ R = T2 at hS8
        repeat refine R1.s_assoc ?_
        refine R1.s_h (by kernel_rfl) fun K3 hK3 => ?_
        have rest : Hd (∀ (s4 : σ) (j4 : Nat) (A8 : AAct) (H8 : Hp), j4 ≤ S.length → B.J j4 s4 H8 → Fr (B.fp s) H6 H8 → (∀ k, B.fp s4 k → B.fp s k ∨ H6.nx ≤ k) → S.drop j4 = T2 → (slot A8.tm 134 = .one (.b false)) ∧ (slot A8.tm 2 = .one ((.o (.ptr rn 0 0 1))) ∧ slot A8.tm 4 = .one ((.o (.ptr qc 0 0 1))) ∧ slot A8.tm 6 = .one ((.o (.sl qv 0 0 us.length 1))) ∧ slot A8.tm 9 = .one ((.o (.clo 110 [(qc, 0, 0, 1), (il, 0, 0, 2)]))) ∧ slot A8.tm 10 = .one ((.o (.clo 111 [(qb, 0, 0, 1), (il, 0, 0, 2)]))) ∧ slot A8.tm 45 = .one (.i .i64 (us.length : Int)) ∧ slot A8.tm 46 = .one (.i .i64 (i : Int)) ∧ slot A8.tm 11 = .one (.i .i64 (i : Int)) ∧ A8.nt = 180 ∧ A8.dfr = []) → K3 A8 H8) := by
          clear t2 t4 t6 t9 t10 t11 t45 t46 t87 hnt hdf hS8 hj8 hjS8 hfp8 f8 A H8 s4 j4
          rintro s4 j4 A H8 hjS8 hj8 f8 hfp8 hS8 ⟨t134, t2, t4, t6, t9, t10, t45, t46, t11, hnt, hdf⟩
          refine hK3.out _ _ ?_
          clear hK3 K3
          refine zW (qA tyF (qA (RG H8 f8) (qA (ixC hlt) (qA (ixC hlt2) Nat.mul_one)))) ?_
          rw [← hT2] at hS8
          repeat refine R1.s_assoc ?_
          refine R1.s_h (by kernel_rfl) fun K3 hK3 => ?_
          have rest : Hd (∀ (s4 : σ) (j4 : Nat) (A8 : AAct) (H8 : Hp), j4 ≤ S.length → B.J j4 s4 H8 → Fr (B.fp s) H6 H8 → (∀ k, B.fp s4 k → B.fp s k ∨ H6.nx ≤ k) → S.drop j4 = R → (slot A8.tm 178 = .one (.b false)) ∧ (slot A8.tm 2 = .one ((.o (.ptr rn 0 0 1))) ∧ slot A8.tm 4 = .one ((.o (.ptr qc 0 0 1))) ∧ slot A8.tm 6 = .one ((.o (.sl qv 0 0 us.length 1))) ∧ slot A8.tm 9 = .one ((.o (.clo 110 [(qc, 0, 0, 1), (il, 0, 0, 2)]))) ∧ slot A8.tm 10 = .one ((.o (.clo 111 [(qb, 0, 0, 1), (il, 0, 0, 2)]))) ∧ slot A8.tm 45 = .one (.i .i64 (us.length : Int)) ∧ slot A8.tm 46 = .one (.i .i64 (i : Int)) ∧ slot A8.tm 11 = .one (.i .i64 (i : Int)) ∧ A8.nt = 180 ∧ A8.dfr = []) → K3 A8 H8) := by
            clear t2 t4 t6 t9 t10 t11 t45 t46 t134 hnt hdf hS8 hj8 hjS8 hfp8 f8 A H8 s4 j4
            rintro s4 j4 A H8 hjS8 hj8 f8 hfp8 hS8 ⟨t178, t2, t4, t6, t9, t10, t45, t46, t11, hnt, hdf⟩
            refine hK3.out _ _ ?_
            refine zW tyF ?_
            exact (next.out s4 j4 _ _ hjS8 hj8 f8 hfp8 hS8 zL).1
          have bad : Hd (∀ (s4 : σ) (A8 : AAct) (H8 : Hp), B.F s4 H8 → Fr (B.fp s) H6 H8 → (∀ k, B.fp s4 k → B.fp s k ∨ H6.nx ≤ k) → slot A8.tm 178 = .one (.b true) ∧ A8.nt = 180 ∧ A8.dfr = [] → K3 A8 H8) := by
            clear t2 t4 t6 t9 t10 t11 t45 t46 hnt hdf
            rintro s4 A8 H8 h1 h2 h3 ⟨t178, hnt, hdf⟩
            refine hK3.out _ _ ?_
            refine zW tyF ?_
            exact stop.out s4 _ _ h1 h2 h3 qe
          clear hK3
          by_cases hC1 : cs.getD (i + 1) 0 = 0
          case neg =>
            have eC1 : (cs.getD (i + 1) 0 == 0) = false := beq_false_of_ne hC1
            rw [eC1, Bool.false_and, Bool.false_and] at hS8
            refine zS (qA tyF (qA (RG H8 f8) (qA (ixC hlt) (qA (ixC hlt2) Nat.mul_one)))) ?_
            exact rest.out s4 j4 _ _ hjS8 hj8 f8 hfp8 (drop_none hS8) ⟨zL, zL⟩

          have eC1 : (cs.getD (i + 1) 0 == 0) = true := beq_iff_eq.2 hC1
          replace hC1 : Hd _ := hC1
          rw [eC1, Bool.true_and] at hS8
          by_cases hC2 : 0 < cs.getD i 0
          case neg =>
            rw [decide_eq_false hC2, Bool.false_and] at hS8
            refine zS (qA tyF (qA (RG H8 f8) (qA (ixC hlt) (qA (ixC hlt2) Nat.mul_one)))) ?_
            exact rest.out s4 j4 _ _ hjS8 hj8 f8 hfp8 (drop_none hS8) ⟨zL, zL⟩

          rw [decide_eq_true hC2, Bool.true_and] at hS8
          refine zS (qA bd_room (qA tyF (qA (RG H8 f8) (qA (ixC hlt) (qA (ixC hlt2) Nat.mul_one))))) ?_
          refine WE.con (room_con H8 us cs nm u _ qc il (i + 1) (cs.getD i 0) (huS H8 f8) (hcS H8 f8) hcl.out hlt2 (by omega) (RG H8 f8).2.2.2.1.2 (RG H8 f8).2.1.2 (RG H8 f8).2.2.2.1.1 (RG H8 f8).2.1.1) fun w' Hr gr hq => ?_
          subst hq
          have fR := f8.gr gr
          have hjR := B.hJ hj8 gr.nx fun k hk => gr.get k hk not_false
          cases hB : roomB us (i + 1) (cs.getD i 0) with
          | false =>
            rw [hB] at hS8
            refine zS (qA tyF (qA (RG Hr fR) (qA (ixC hlt) (qA (ixC hlt2) Nat.mul_one)))) ?_
            exact rest.out s4 j4 _ _ hjS8 hjR fR hfp8 (drop_none hS8) ⟨zL, zL⟩

          | true =>
            rw [hB] at hS8
            refine zS (qA bd_pass (qA tyF (qA (RG Hr fR) (qA (ixC hlt) (qA (ixC hlt2) Nat.mul_one))))) ?_
            obtain ⟨hk1, hk2⟩ := drop_one hS8
            refine WE.con (pass_con B s4 j4 Hr us nm u qb il 4 (i + 1) (n - cs.getD i 0 * vs.getD i 0 + cs.getD i 0 * vs.getD (i + 1) 0) hjR (huS Hr fR) hlt2 (by omega) (RG Hr fR).1.2 (RG Hr fR).2.1.2 (RG Hr fR).1.1 (RG Hr fR).2.1.1 hk1) fun w' Hp0 fp0 ⟨b, s3, hq, hbt, hbf, hfp3⟩ => ?_
            subst hq
            have fP := fR.then fp0 fun k hk => (hfp8 k hk).symm
            have hfpP : ∀ k, B.fp s3 k → B.fp s k ∨ H6.nx ≤ k := fun k hk => (hfp3 k hk).elim (fun h => hfp8 k h) fun h => .inr (Nat.le_trans fR.nx h)
            have hjSP : (if okN (n - cs.getD i 0 * vs.getD i 0 + cs.getD i 0 * vs.getD (i + 1) 0) = true then j4 + 1 else j4) ≤ S.length := by
              cases hok : okN (n - cs.getD i 0 * vs.getD i 0 + cs.getD i 0 * vs.getD (i + 1) 0) with
              | true => have := (List.getElem?_eq_some_iff.1 (hk1 hok)).1; rw [if_pos rfl]; exact this
              | false => rw [if_neg Bool.false_ne_true]; exact hjS8
            generalize (if okN (n - cs.getD i 0 * vs.getD i 0 + cs.getD i 0 * vs.getD (i + 1) 0) = true then j4 + 1 else j4) = jP at hk2 hbt hjSP
            cases b with
            | false =>
              refine zS (tyF) ?_
              exact bad.out s3 _ _ (hbf rfl) fP hfpP ⟨zL, zL, zL⟩
            | true =>
              replace hbt := hbt rfl
              clear hbf hk1
              refine zS (qA tyF (qA (RG Hp0 fP) (qA (ixC hlt) (qA (ixC hlt2) Nat.mul_one)))) ?_
              exact rest.out s3 jP _ _ hjSP hbt fP hfpP hk2 ⟨zL, zL⟩
        have bad : Hd (∀ (s4 : σ) (A8 : AAct) (H8 : Hp), B.F s4 H8 → Fr (B.fp s) H6 H8 → (∀ k, B.fp s4 k → B.fp s k ∨ H6.nx ≤ k) → slot A8.tm 134 = .one (.b true) ∧ A8.nt = 180 ∧ A8.dfr = [] → K3 A8 H8) := by
          clear t2 t4 t6 t9 t10 t11 t45 t46 hnt hdf
          rintro s4 A8 H8 h1 h2 h3 ⟨t134, hnt, hdf⟩
          refine hK3.out _ _ ?_
          refine zW tyF ?_
          exact stop.out s4 _ _ h1 h2 h3 qe
        clear hK3
        by_cases hC1 : cs.getD i 0 = 0
        case neg =>
          have eC1 : (cs.getD i 0 == 0) = false := beq_false_of_ne hC1
          rw [eC1, Bool.false_and, Bool.false_and] at hS8
          refine zS (qA tyF (qA (RG H8 f8) (qA (ixC hlt) (qA (ixC hlt2) Nat.mul_one)))) ?_
          exact rest.out s4 j4 _ _ hjS8 hj8 f8 hfp8 (drop_none hS8) ⟨zL, zL⟩

        have eC1 : (cs.getD i 0 == 0) = true := beq_iff_eq.2 hC1
        replace hC1 : Hd _ := hC1
        rw [eC1, Bool.true_and] at hS8
        by_cases hC2 : 0 < cs.getD (i + 1) 0
        case neg =>
          rw [decide_eq_false hC2, Bool.false_and] at hS8
          refine zS (qA tyF (qA (RG H8 f8) (qA (ixC hlt) (qA (ixC hlt2) Nat.mul_one)))) ?_
          exact rest.out s4 j4 _ _ hjS8 hj8 f8 hfp8 (drop_none hS8) ⟨zL, zL⟩

        rw [decide_eq_true hC2, Bool.true_and] at hS8
        refine zS (qA bd_room (qA tyF (qA (RG H8 f8) (qA (ixC hlt) (qA (ixC hlt2) Nat.mul_one))))) ?_
        refine WE.con (room_con H8 us cs nm u _ qc il i (cs.getD (i + 1) 0) (huS H8 f8) (hcS H8 f8) hcl.out hlt (by omega) (RG H8 f8).2.2.2.1.2 (RG H8 f8).2.1.2 (RG H8 f8).2.2.2.1.1 (RG H8 f8).2.1.1) fun w' Hr gr hq => ?_
        subst hq
        have fR := f8.gr gr
        have hjR := B.hJ hj8 gr.nx fun k hk => gr.get k hk not_false
        cases hB : roomB us i (cs.getD (i + 1) 0) with
        | false =>
          rw [hB] at hS8
          refine zS (qA tyF (qA (RG Hr fR) (qA (ixC hlt) (qA (ixC hlt2) Nat.mul_one)))) ?_
          exact rest.out s4 j4 _ _ hjS8 hjR fR hfp8 (drop_none hS8) ⟨zL, zL⟩

        | true =>
          rw [hB] at hS8
          refine zS (qA bd_pass (qA tyF (qA (RG Hr fR) (qA (ixC hlt) (qA (ixC hlt2) Nat.mul_one))))) ?_
          obtain ⟨hk1, hk2⟩ := drop_one hS8
          refine WE.con (pass_con B s4 j4 Hr us nm u qb il 3 i (n - cs.getD (i + 1) 0 * vs.getD (i + 1) 0 + cs.getD (i + 1) 0 * vs.getD i 0) hjR (huS Hr fR) hlt (by omega) (RG Hr fR).1.2 (RG Hr fR).2.1.2 (RG Hr fR).1.1 (RG Hr fR).2.1.1 hk1) fun w' Hp0 fp0 ⟨b, s3, hq, hbt, hbf, hfp3⟩ => ?_
          subst hq
          have fP := fR.then fp0 fun k hk => (hfp8 k hk).symm
          have hfpP : ∀ k, B.fp s3 k → B.fp s k ∨ H6.nx ≤ k := fun k hk => (hfp3 k hk).elim (fun h => hfp8 k h) fun h => .inr (Nat.le_trans fR.nx h)
          have hjSP : (if okN (n - cs.getD (i + 1) 0 * vs.getD (i + 1) 0 + cs.getD (i + 1) 0 * vs.getD i 0) = true then j4 + 1 else j4) ≤ S.length := by
            cases hok : okN (n - cs.getD (i + 1) 0 * vs.getD (i + 1) 0 + cs.getD (i + 1) 0 * vs.getD i 0) with
            | true => have := (List.getElem?_eq_some_iff.1 (hk1 hok)).1; rw [if_pos rfl]; exact this
            | false => rw [if_neg Bool.false_ne_true]; exact hjS8
          generalize (if okN (n - cs.getD (i + 1) 0 * vs.getD (i + 1) 0 + cs.getD (i + 1) 0 * vs.getD i 0) = true then j4 + 1 else j4) = jP at hk2 hbt hjSP
          cases b with
          | false =>
            refine zS (tyF) ?_
            exact bad.out s3 _ _ (hbf rfl) fP hfpP ⟨zL, zL, zL⟩
          | true =>
            replace hbt := hbt rfl
            clear hbf hk1
            refine zS (qA tyF (qA (RG Hp0 fP) (qA (ixC hlt) (qA (ixC hlt2) Nat.mul_one)))) ?_
            exact rest.out s3 jP _ _ hjSP hbt fP hfpP hk2 ⟨zL, zL⟩

      have bad : Hd (∀ (s4 : σ) (A8 : AAct) (H8 : Hp), B.F s4 H8 → Fr (B.fp s) H6 H8 → (∀ k, B.fp s4 k → B.fp s k ∨ H6.nx ≤ k) → slot A8.tm 87 = .one (.b true) ∧ A8.nt = 180 ∧ A8.dfr = [] → K3 A8 H8) := by
        clear t2 t4 t6 t9 t10 t45 t46 hnt hdf
        rintro s4 A8 H8 h1 h2 h3 ⟨t87, hnt, hdf⟩
        refine hK3.out _ _ ?_
        refine zW tyF ?_
        exact stop.out s4 _ _ h1 h2 h3 qe
      clear hK3
      by_cases hA : 0 < cs.getD i 0
      · have eA : decide (0 < cs.getD i 0) = true := decide_eq_true hA
        rw [eA] at hSj
        refine zS (qA tyF (qA (RG H7 f7) (qA bd_pass (qA (ixC hlt) Nat.mul_one)))) ?_
        obtain ⟨hk1, hk2⟩ := drop_one hSj
        refine WE.con (pass_con B s2 j H7 us nm u qb il 1 i (n - vs.getD i 0) hj7 (huS H7 f7) hlt (by omega) (RG H7 f7).1.2 (RG H7 f7).2.1.2 (RG H7 f7).1.1 (RG H7 f7).2.1.1 hk1) fun w' Hp0 fp0 ⟨b, s3, hq, hbt, hbf, hfp3⟩ => ?_
        subst hq
        have fP := f7.then fp0 fun k hk => (hfp k hk).symm
        have hfpP : ∀ k, B.fp s3 k → B.fp s k ∨ H6.nx ≤ k := fun k hk => (hfp3 k hk).elim (fun h => hfp k h) fun h => .inr (Nat.le_trans f7.nx h)
        have hjSP : (if okN (n - vs.getD i 0) = true then j + 1 else j) ≤ S.length := by
          cases hok : okN (n - vs.getD i 0) with
          | true => have := (List.getElem?_eq_some_iff.1 (hk1 hok)).1; rw [if_pos rfl]; exact this
          | false => rw [if_neg Bool.false_ne_true]; exact hjS
        generalize (if okN (n - vs.getD i 0) = true then j + 1 else j) = jP at hk2 hbt hjSP
        cases b with
        | false =>
          refine zS (tyF) ?_
          exact bad.out s3 _ _ (hbf rfl) fP hfpP ⟨zL, zL, zL⟩
        | true =>
          replace hbt := hbt rfl
          clear hbf hk1
          refine zS (qA tyF (qA (RG Hp0 fP) (qA bd_room (qA (ixC hlt) Nat.mul_one)))) ?_
          refine WE.con (room_con Hp0 us cs nm u _ qc il i (cs.getD i 0 + 1) (huS Hp0 fP) (hcS Hp0 fP) hcl.out hlt (by omega) (RG Hp0 fP).2.2.2.1.2 (RG Hp0 fP).2.1.2 (RG Hp0 fP).2.2.2.1.1 (RG Hp0 fP).2.1.1) fun w' Hr gr hq => ?_
          subst hq
          have fR := fP.gr gr
          have hjR := B.hJ hbt gr.nx fun k hk => gr.get k hk not_false
          cases hB : roomB us i (cs.getD i 0 + 1) with
          | false =>
            rw [hB] at hk2
            refine zS (qA tyF (RG Hr fR)) ?_
            exact rest.out s3 jP _ _ hjSP hjR fR hfpP (drop_none hk2) ⟨zL, zL, zL⟩
          | true =>
            rw [hB] at hk2
            refine zS (qA tyF (qA (RG Hr fR) (qA bd_pass (qA (ixC hlt) Nat.mul_one)))) ?_
            obtain ⟨hk1, hk2⟩ := drop_one hk2
            refine WE.con (pass_con B s3 jP Hr us nm u qb il 2 i (n + vs.getD i 0) hjR (huS Hr fR) hlt (by omega) (RG Hr fR).1.2 (RG Hr fR).2.1.2 (RG Hr fR).1.1 (RG Hr fR).2.1.1 hk1) fun w' Hp0 fp0 ⟨b, s3, hq, hbt, hbf, hfp3⟩ => ?_
            subst hq
            have fP := fR.then fp0 fun k hk => (hfpP k hk).symm
            have hfpP : ∀ k, B.fp s3 k → B.fp s k ∨ H6.nx ≤ k := fun k hk => (hfp3 k hk).elim (fun h => hfpP k h) fun h => .inr (Nat.le_trans fR.nx h)
            have hjSP : (if okN (n + vs.getD i 0) = true then jP + 1 else jP) ≤ S.length := by
              cases hok : okN (n + vs.getD i 0) with
              | true => have := (List.getElem?_eq_some_iff.1 (hk1 hok)).1; rw [if_pos rfl]; exact this
              | false => rw [if_neg Bool.false_ne_true]; exact hjSP
            generalize (if okN (n + vs.getD i 0) = true then jP + 1 else jP) = jP at hk2 hbt hjSP
            cases b with
            | false =>
              refine zS (tyF) ?_
              exact bad.out s3 _ _ (hbf rfl) fP hfpP ⟨zL, zL, zL⟩
            | true =>
              replace hbt := hbt rfl
              clear hbf hk1
              refine zS (qA tyF (RG Hp0 fP)) ?_
              exact rest.out s3 jP _ _ hjSP hbt fP hfpP hk2 ⟨zL, zL, zL⟩

      · have eA : decide (0 < cs.getD i 0) = false := decide_eq_false hA
        rw [eA] at hSj
        replace hSj := drop_none hSj
        refine zS (qA tyF (qA (RG H7 f7) (qA bd_room (qA (ixC hlt) Nat.mul_one)))) ?_
        refine WE.con (room_con H7 us cs nm u _ qc il i (cs.getD i 0 + 1) (huS H7 f7) (hcS H7 f7) hcl.out hlt (by omega) (RG H7 f7).2.2.2.1.2 (RG H7 f7).2.1.2 (RG H7 f7).2.2.2.1.1 (RG H7 f7).2.1.1) fun w' Hr gr hq => ?_
        subst hq
        have fR := f7.gr gr
        have hjR := B.hJ hj7 gr.nx fun k hk => gr.get k hk not_false
        cases hB : roomB us i (cs.getD i 0 + 1) with
        | false =>
          rw [hB] at hSj
          refine zS (qA tyF (RG Hr fR)) ?_
          exact rest.out s2 j _ _ hjS hjR fR hfp (drop_none hSj) ⟨zL, zL, zL⟩
        | true =>
          rw [hB] at hSj
          refine zS (qA tyF (qA (RG Hr fR) (qA bd_pass (qA (ixC hlt) Nat.mul_one)))) ?_
          obtain ⟨hk1, hk2⟩ := drop_one hSj
          refine WE.con (pass_con B s2 j Hr us nm u qb il 2 i (n + vs.getD i 0) hjR (huS Hr fR) hlt (by omega) (RG Hr fR).1.2 (RG Hr fR).2.1.2 (RG Hr fR).1.1 (RG Hr fR).2.1.1 hk1) fun w' Hp0 fp0 ⟨b, s3, hq, hbt, hbf, hfp3⟩ => ?_
          subst hq
          have fP := fR.then fp0 fun k hk => (hfp k hk).symm
          have hfpP : ∀ k, B.fp s3 k → B.fp s k ∨ H6.nx ≤ k := fun k hk => (hfp3 k hk).elim (fun h => hfp k h) fun h => .inr (Nat.le_trans fR.nx h)
          have hjSP : (if okN (n + vs.getD i 0) = true then j + 1 else j) ≤ S.length := by
            cases hok : okN (n + vs.getD i 0) with
            | true => have := (List.getElem?_eq_some_iff.1 (hk1 hok)).1; rw [if_pos rfl]; exact this
            | false => rw [if_neg Bool.false_ne_true]; exact hjS
          generalize (if okN (n + vs.getD i 0) = true then j + 1 else j) = jP at hk2 hbt hjSP
          cases b with
          | false =>
            refine zS (tyF) ?_
            exact bad.out s3 _ _ (hbf rfl) fP hfpP ⟨zL, zL, zL⟩
          | true =>
            replace hbt := hbt rfl
            clear hbf hk1
            refine zS (qA tyF (RG Hp0 fP)) ?_
            exact rest.out s3 jP _ _ hjSP hbt fP hfpP hk2 ⟨zL, zL, zL⟩

    · have hie : i = us.length := by omega
      refine zW tyF ?_
      refine k2.out _ _ ?_
      have hjl : B.J S.length s2 H7 := by
        have h := hSj.out
        have e : (List.range us.length).drop i = [] := List.drop_eq_nil_of_le (by rw [List.length_range]; omega)
        rw [e, List.flatMap_nil] at h
        have h2 := congrArg List.length h
        rw [List.length_drop, List.length_nil] at h2
        have h3 : j = S.length := by omega
        exact h3 ▸ hj7
      exact fin .normal (.inl rfl) s2 H7 _ (.inl hjl) f7 hfp qe
end Go.Proofs.YtekoajibckipkaaGreat
namespace Go.Proofs.YtekoajibckipkaaGreat
open Go Go.Eng
set_option maxRecDepth 10000 in
theorem slips_con (H : Hp) (n u : AC) (m : Int) (hu : ltV (.one u) H.nx) :
    Con E2 71 [.agg [n, u], .one (.i .i64 m)] H (fun _ => False) fun r H' => r = .one (.o (.clo 107 [(H.nx, 0, 0, 2), (H.nx + 1, 0, 0, 1)])) ∧ H'.get H.nx = some (.arr [n, u] 68 0 0) ∧ H'.get (H.nx + 1) = some (.arr [.i .i64 m] 3 0 0) ∧ H.nx + 1 < H'.nx := by
  refine Con.of rfl fun lg => ?_
  have hu : ltV (.one u) (⟨H.t, H.nx, lg⟩ : Hp).nx := hu
  have e0 : H.nx = (⟨H.t, H.nx, lg⟩ : Hp).nx := rfl
  rw [e0]
  clear e0
  generalize (⟨H.t, H.nx, lg⟩ : Hp) = H at hu ⊢
  refine C1.body (E := E2) (nt := 6) (res := [.tmp 4]) Tryz.func71 rfl rfl rfl rfl rfl fun tm hargs => ?_
  have h0 := hargs 0 _ rfl
  have h1 := hargs 1 _ rfl
  clear hargs
  refine zW tyF ?_
  refine ⟨_, _, callEnd_one (.o (.clo 107 [(H.nx, 0, 0, 2), (H.nx + 1, 0, 0, 1)])) (.inr rfl) qe qp, ((Fr.refl _).new _).new _, fun _ => ⟨rfl, ?_, ?_, ?_⟩⟩
  · show ((H.new _).new _).get H.nx = _
    rw [get_newL (by show H.nx < H.nx + 1; omega)]; exact get_newE rfl
  · show ((H.new _).new _).get (H.nx + 1) = _
    exact get_newE rfl
  · show H.nx + 1 < H.nx + 1 + 1
    omega
def kindL : List Sp → Int → Int
  | [], _ => 0
  | x :: S, m => if x.2.2 = m then x.1 else kindL S m
end Go.Proofs.YtekoajibckipkaaGreat
namespace Go.Proofs.YtekoajibckipkaaGreat
open Go Go.Eng
def evH : List Pr → List Int → Int
  | _ :: y :: l, d :: ds => d + y.2 * evH (y :: l) ds
  | _, d :: _ => d
  | _, [] => 0
def vW : List Pr → Nat → Int
  | _, 0 => 1
  | _ :: y :: l, i + 1 => y.2 * vW (y :: l) i
  | _, _ + 1 => 0
def DigB (us : List Pr) (ds : List Int) : Prop := ds.length = us.length ∧ ∀ i, i < us.length → 0 ≤ ds.getD i 0 ∧ (i + 1 < us.length → ds.getD i 0 < (us.getD (i + 1) ([], 0)).2)
theorem DigB.tl {x y : Pr} {l : List Pr} {d : Int} {ds : List Int} (h : DigB (x :: y :: l) (d :: ds)) : 0 ≤ d ∧ d < y.2 ∧ DigB (y :: l) ds := by
  obtain ⟨h1, h2⟩ := h
  have h0 := h2 0 (by simp)
  refine ⟨h0.1, h0.2 (by simp), by simpa using h1, fun i hi => ?_⟩
  have := h2 (i + 1) (by simp at hi ⊢; omega)
  refine ⟨this.1, fun h => this.2 (by simp at h ⊢; omega)⟩
theorem DigB.cons {x y : Pr} {l : List Pr} {d : Int} {ds : List Int} (h0 : 0 ≤ d) (h1 : d < y.2) (h : DigB (y :: l) ds) : DigB (x :: y :: l) (d :: ds) := by
  obtain ⟨h2, h3⟩ := h
  refine ⟨by simpa using h2, fun i hi => ?_⟩
  cases i with
  | zero => exact ⟨h0, fun _ => h1⟩
  | succ i =>
    have := h3 i (by simp at hi ⊢; omega)
    exact ⟨this.1, fun h => this.2 (by simp at h ⊢; omega)⟩
theorem split_ev : ∀ (us : List Pr) (ds : List Int), DigB us ds → splitA us (evH us ds) = ds
  | [], [], _ => rfl
  | [], _ :: _, h => by cases h.1
  | [_], [], h => by cases h.1
  | [_], [_], _ => rfl
  | [_], _ :: _ :: _, h => by cases h.1
  | _ :: _ :: _, [], h => by cases h.1
  | x :: y :: l, d :: ds, h => by
    obtain ⟨h0, h1, h2⟩ := h.tl
    have hy : y.2 ≠ 0 := by omega
    rw [evH, splitA, Int.add_mul_emod_self_left, Int.emod_eq_of_lt h0 h1, Int.add_mul_ediv_left _ _ hy, Int.ediv_eq_zero_of_lt h0 h1, Int.zero_add, split_ev (y :: l) ds h2]
theorem ev_split : ∀ (us : List Pr) (n : Int), us ≠ [] → evH us (splitA us n) = n
  | [], _, h => absurd rfl h
  | [_], _, _ => rfl
  | x :: y :: l, n, _ => by
    rw [splitA, evH, ev_split (y :: l) _ (by simp)]
    have := Int.emod_add_mul_ediv n y.2
    omega
theorem dig_split : ∀ (us : List Pr) (n : Int), 0 ≤ n → (∀ x ∈ us, 1 ≤ x.2) → DigB us (splitA us n)
  | [], _, _, _ => ⟨rfl, fun i hi => absurd hi (Nat.not_lt_zero i)⟩
  | [x], n, h, _ => ⟨rfl, fun i hi => by
    have : i = 0 := by simp at hi; omega
    subst this
    exact ⟨h, fun h => absurd h (by simp)⟩⟩
  | x :: y :: l, n, h, hf => by
    have hy := hf y (by simp)
    rw [splitA]
    exact DigB.cons (Int.emod_nonneg _ (by omega)) (Int.emod_lt_of_pos _ (by omega)) (dig_split (y :: l) _ (Int.ediv_nonneg h (by omega)) fun z hz => hf z (List.mem_cons_of_mem _ hz))
theorem ev_set : ∀ (us : List Pr) (ds : List Int) (i : Nat) (d : Int), ds.length = us.length → i < us.length → evH us (ds.set i d) = evH us ds + (d - ds.getD i 0) * vW us i
  | [], _, i, _, _, hi => absurd hi (Nat.not_lt_zero i)
  | _ :: _, [], _, _, h, _ => by cases h
  | [x], c :: ds, i, d, h, hi => by
    have : i = 0 := by simp at hi; omega
    subst this
    show d = c + (d - c) * 1
    omega
  | x :: y :: l, c :: ds, 0, d, h, hi => by
    show d + y.2 * evH (y :: l) ds = c + y.2 * evH (y :: l) ds + (d - c) * 1
    omega
  | x :: y :: l, c :: ds, i + 1, d, h, hi => by
    rw [List.set_cons_succ, evH, evH, ev_set (y :: l) ds i d (by simpa using h) (by simp at hi ⊢; omega), List.getD_cons_succ, vW, Int.mul_add, Int.add_assoc, Int.mul_left_comm]
theorem vW_step : ∀ (us : List Pr) (i : Nat), i + 1 < us.length → vW us (i + 1) = vW us i * (us.getD (i + 1) ([], 0)).2
  | [], i, h => absurd h (Nat.not_lt_zero _)
  | [_], i, h => absurd h (by simp)
  | x :: y :: l, 0, _ => by
    show y.2 * 1 = 1 * y.2
    omega
  | x :: y :: l, i + 1, h => by
    rw [vW, vW_step (y :: l) i (by simp at h ⊢; omega), vW, Int.mul_assoc]; rfl
theorem vW_pos : ∀ (us : List Pr) (i : Nat), i < us.length → (∀ x ∈ us, 1 ≤ x.2) → 1 ≤ vW us i
  | _, 0, _, _ => by rw [vW]; omega
  | [], i + 1, h, _ => absurd h (Nat.not_lt_zero _)
  | [_], i + 1, h, _ => absurd h (by simp)
  | x :: y :: l, i + 1, h, hf => by
    rw [vW]
    have h1 := vW_pos (y :: l) i (by simp at h ⊢; omega) fun z hz => hf z (List.mem_cons_of_mem _ hz)
    have h2 := hf y (by simp)
    have := Int.mul_le_mul h2 h1 (by omega) (by omega)
    omega
theorem ev_ge : ∀ (us : List Pr) (ds : List Int), DigB us ds → (∀ x ∈ us, 1 ≤ x.2) → 0 ≤ evH us ds ∧ ∀ i, i < us.length → ds.getD i 0 * vW us i ≤ evH us ds
  | [], [], _, _ => ⟨Int.le_refl _, fun i hi => absurd hi (Nat.not_lt_zero i)⟩
  | [], _ :: _, h, _ => by cases h.1
  | [_], [], h, _ => by cases h.1
  | [x], [d], h, _ => ⟨(h.2 0 (by simp)).1, fun i hi => by
    have : i = 0 := by simp at hi; omega
    subst this
    show d * 1 ≤ d
    omega⟩
  | [_], _ :: _ :: _, h, _ => by cases h.1
  | _ :: _ :: _, [], h, _ => by cases h.1
  | x :: y :: l, d :: ds, h, hf => by
    obtain ⟨h0, h1, h2⟩ := h.tl
    obtain ⟨e0, e1⟩ := ev_ge (y :: l) ds h2 fun z hz => hf z (List.mem_cons_of_mem _ hz)
    have hy := hf y (by simp)
    have e2 : 0 ≤ y.2 * evH (y :: l) ds := Int.mul_nonneg (by omega) e0
    rw [evH]
    refine ⟨by omega, fun i hi => ?_⟩
    cases i with
    | zero =>
      show d * 1 ≤ _
      omega
    | succ i =>
      have e3 := e1 i (by simp at hi ⊢; omega)
      rw [List.getD_cons_succ, vW, Int.mul_left_comm]
      have := Int.mul_le_mul_of_nonneg_left e3 (show 0 ≤ y.2 by omega)
      omega
theorem yv_vW : ∀ (v : Int) (x : Pr) (l : List Pr) (i : Nat) (y : Pr × Int), (yv v (x :: l)).length = (x :: l).length → (yv v (x :: l))[i]? = some y → y.2 = v * x.2 * vW (x :: l) i ∧ y.2 ≤ 1099511627776
  | v, x, l, i, y, h, hy => by
    rw [yv] at h hy
    by_cases hb : x.2 < 1 ∨ 60 < x.2 ∨ 1099511627776 < v * x.2
    · rw [if_pos hb] at hy; simp at hy
    · rw [if_neg hb] at h hy
      cases i with
      | zero =>
        rw [List.getElem?_cons_zero] at hy
        cases hy
        rw [vW]
        exact ⟨by show v * x.2 = _; omega, by show v * x.2 ≤ _; omega⟩
      | succ i =>
        rw [List.getElem?_cons_succ] at hy
        cases l with
        | nil => rw [yv] at hy; simp at hy
        | cons z l =>
          obtain ⟨e1, e2⟩ := yv_vW (v * x.2) z l i y (by simpa using h) hy
          exact ⟨by rw [e1, vW, Int.mul_assoc (v * x.2)], e2⟩
theorem valsS_at {nm : List UInt8} {us : List Pr} (hck : chkLad nm us = 0) {i : Nat} (hi : i < us.length) : (valsS nm us).getD i 0 = vW us i ∧ vW us i ≤ 1099511627776 := by
  obtain ⟨hL, hyl, hf⟩ := chkLad_ok hck
  have hx : us[i]? = some us[i] := List.getElem?_eq_getElem hi
  have hok : ladOK nm us = true := by
    unfold chkLad at hck
    by_cases h : ladOK nm us = true
    · exact h
    · rw [if_neg h] at hck; cases hck
  have hrl := hok
  rw [← refLad_eq] at hrl
  unfold refLad at hrl
  simp only [Bool.and_eq_true, List.all_eq_true, List.mem_range] at hrl
  have hr := hrl.1.2 i hi
  have eg : us.getD i ([], 0) = us[i] := by rw [List.getD_eq_getElem?_getD, hx]; rfl
  rw [eg] at hr
  unfold refU at hr
  simp only [Bool.and_eq_true, decide_eq_true_eq] at hr
  have hid := hr.2.1
  have e1 : (valsS nm us).getD i 0 = (valL nm us us[i].1).1 := by
    unfold valsS
    rw [List.getD_eq_getElem?_getD, List.getElem?_map, hx]; rfl
  rw [e1]
  unfold valL
  rw [if_neg (fun h => h hck)]
  obtain ⟨x, l, hxl, hx1⟩ := chkLad_first hck
  rcases valM_idx 0 1 us us[i].1 hyl with ⟨h1, _⟩ | ⟨j, y, hj, h1, h2, h3⟩
  · rw [hid] at h1; omega
  · have : j = i := by rw [hid] at h1; omega
    subst this
    rw [h3]
    subst hxl
    obtain ⟨a, b⟩ := yv_vW 1 x l j y hyl h2
    rw [hx1, Int.one_mul, Int.one_mul] at a
    exact ⟨a, a ▸ b⟩
theorem small_b {nm : List UInt8} {us : List Pr} (hck : chkLad nm us = 0) {n : Int} (hn1 : 0 ≤ n) (hn2 : n ≤ 1099511627776) : SmallB us (splitA us n) (valsS nm us) := by
  obtain ⟨hL, hyl, hf⟩ := chkLad_ok hck
  have hf1 : ∀ x ∈ us, 1 ≤ x.2 := fun x hx => (hf x hx).1
  obtain ⟨x, l, hxl, hx1⟩ := chkLad_first hck
  have hd := dig_split us n hn1 hf1
  have he := ev_split us n (by rw [hxl]; simp)
  have hg := (ev_ge us _ hd hf1).2
  rw [he] at hg
  have key : ∀ i, i < us.length → 0 ≤ (splitA us n).getD i 0 ∧ (splitA us n).getD i 0 ≤ 1099511627776 ∧ (splitA us n).getD i 0 * vW us i ≤ 1099511627776 ∧ 0 ≤ (splitA us n).getD i 0 * vW us i := fun i hi => by
    have a1 := (hd.2 i hi).1
    have a2 := hg i hi
    have a3 := vW_pos us i hi hf1
    have a4 := Int.mul_le_mul_of_nonneg_left a3 a1
    exact ⟨a1, by omega, by omega, by omega⟩
  intro i hi
  obtain ⟨k1, k2, k3, k4⟩ := key i hi
  obtain ⟨v1, v2⟩ := valsS_at hck hi
  have v3 := vW_pos us i hi hf1
  rw [v1]
  refine ⟨⟨k1, k2⟩, ⟨by omega, v2⟩, fun hi2 => ?_⟩
  obtain ⟨l1, l2, l3, l4⟩ := key (i + 1) hi2
  obtain ⟨w1, w2⟩ := valsS_at hck hi2
  rw [w1]
  have hy := hf (us.getD (i + 1) ([], 0)) (by rw [List.getD_eq_getElem?_getD, List.getElem?_eq_getElem hi2]; exact List.getElem_mem hi2)
  have ws := vW_step us i hi2
  have s1 : vW us i ≤ vW us (i + 1) := by
    rw [ws]
    have := Int.mul_le_mul_of_nonneg_left hy.1 (show 0 ≤ vW us i by omega)
    omega
  have s2 := Int.mul_le_mul_of_nonneg_left s1 l1
  have s3 : (splitA us n).getD i 0 * vW us (i + 1) = (splitA us n).getD i 0 * vW us i * (us.getD (i + 1) ([], 0)).2 := by rw [ws, Int.mul_assoc]
  have s4 := Int.mul_le_mul_of_nonneg_left hy.2 k4
  have s5 := Int.mul_nonneg k4 (show 0 ≤ (us.getD (i + 1) ([], 0)).2 by omega)
  have s6 := Int.mul_nonneg l1 (show 0 ≤ vW us i by omega)
  exact ⟨⟨l4, l3⟩, ⟨s6, by omega⟩, ⟨k4, k3⟩, by omega, by omega⟩
end Go.Proofs.YtekoajibckipkaaGreat
namespace Go.Proofs.YtekoajibckipkaaGreat
open Go Go.Eng
theorem flt0 (p : Nat → Bool) : ∀ n : Nat, (∀ j, j < n → p j = false) → (List.range n).filter p = []
  | 0, _ => rfl
  | n + 1, h => by
    rw [List.range_succ, List.filter_append, flt0 p n fun j hj => h j (by omega), List.filter_cons, h n (by omega)]; rfl
theorem flt1 (p : Nat → Bool) (i : Nat) : ∀ n : Nat, i < n → (∀ j, j < n → p j = decide (j = i)) → (List.range n).filter p = [i]
  | 0, h, _ => absurd h (Nat.not_lt_zero i)
  | n + 1, hi, h => by
    rw [List.range_succ, List.filter_append, List.filter_cons, h n (by omega)]
    by_cases he : n = i
    · subst he
      rw [flt0 p n fun j hj => by rw [h j (by omega)]; exact decide_eq_false (by omega), decide_eq_true rfl]; rfl
    · rw [flt1 p i n (by omega) fun j hj => h j (by omega), decide_eq_false he]; rfl
theorem flt2 (p : Nat → Bool) (i : Nat) : ∀ n : Nat, i + 1 < n → (∀ j, j < n → p j = (decide (j = i) || decide (j = i + 1))) → (List.range n).filter p = [i, i + 1]
  | 0, h, _ => absurd h (Nat.not_lt_zero _)
  | n + 1, hi, h => by
    rw [List.range_succ, List.filter_append, List.filter_cons, h n (by omega)]
    by_cases he : n = i + 1
    · subst he
      rw [flt1 p i (i + 1) (by omega) fun j hj => by rw [h j (by omega), decide_eq_false (show ¬ j = i + 1 by omega), Bool.or_false], decide_eq_true rfl, Bool.or_true]; rfl
    · rw [flt2 p i n (by omega) fun j hj => h j (by omega), decide_eq_false he, decide_eq_false (show ¬ n = i by omega)]; rfl
def difL (cs ds : List Int) (n : Nat) : List Nat := (List.range n).filter fun i => cs.getD i 0 != ds.getD i 0
def slipK (cs ds : List Int) : List Nat → Int
  | [a] => if cs.getD a 0 = ds.getD a 0 + 1 then 1 else if cs.getD a 0 + 1 = ds.getD a 0 then 2 else 0
  | [a, b] => if b = a + 1 then (if ds.getD b 0 = 0 ∧ 1 ≤ ds.getD a 0 ∧ cs.getD a 0 = 0 ∧ cs.getD b 0 = ds.getD a 0 then 3 else if ds.getD a 0 = 0 ∧ 1 ≤ ds.getD b 0 ∧ cs.getD b 0 = 0 ∧ cs.getD a 0 = ds.getD b 0 then 4 else 0) else 0
  | _ => 0
theorem getD_set (l : List Int) (i j : Nat) (d : Int) (hi : i < l.length) : (l.set i d).getD j 0 = if j = i then d else l.getD j 0 := by
  rw [List.getD_eq_getElem?_getD, List.getElem?_set]
  by_cases h : i = j
  · subst h; rw [if_pos rfl, if_pos hi, if_pos rfl]; rfl
  · rw [if_neg h, if_neg (fun e => h e.symm), List.getD_eq_getElem?_getD]
theorem extD {l k : List Int} (h : l.length = k.length) (he : ∀ j, j < l.length → l.getD j 0 = k.getD j 0) : l = k := by
  apply List.ext_getElem? 
  intro j
  rcases Nat.lt_or_ge j l.length with hj | hj
  · have := he j hj
    rw [List.getD_eq_getElem?_getD, List.getD_eq_getElem?_getD, List.getElem?_eq_getElem hj, List.getElem?_eq_getElem (h ▸ hj)] at this
    rw [List.getElem?_eq_getElem hj, List.getElem?_eq_getElem (h ▸ hj)]
    exact congrArg some this
  · rw [List.getElem?_eq_none hj, List.getElem?_eq_none (h ▸ hj)]
theorem DigB.set {us : List Pr} {ds : List Int} (h : DigB us ds) {i : Nat} {d : Int} (hi : i < us.length) (h0 : 0 ≤ d) (h1 : i + 1 < us.length → d < (us.getD (i + 1) ([], 0)).2) : DigB us (ds.set i d) := by
  have hl := h.1
  refine ⟨by rw [List.length_set]; exact hl, fun j hj => ?_⟩
  rw [getD_set _ _ _ _ (by omega)]
  by_cases e : j = i
  · subst e; rw [if_pos rfl]; exact ⟨h0, h1⟩
  · rw [if_neg e]; exact h.2 j hj
theorem roomB_iff {us : List Pr} {i : Nat} {k : Int} (hi : i < us.length) : roomB us i k = true ↔ (i + 1 < us.length → k < (us.getD (i + 1) ([], 0)).2) := by
  unfold roomB
  rw [Bool.or_eq_true, beq_iff_eq, decide_eq_true_eq]
  constructor
  · rintro (h | h) h2
    · omega
    · exact h
  · intro h
    rcases Nat.lt_or_ge (i + 1) us.length with h1 | h1
    · exact .inr (h h1)
    · exact .inl (by omega)
theorem mem_one {b : Bool} {x y : Sp} : y ∈ one b x ↔ b = true ∧ okN x.2.2 = true ∧ y = x := by
  unfold one
  cases b with
  | false => simp
  | true =>
    cases h : okN x.2.2 with
    | false => simp
    | true => simp
theorem kindL_of {m k : Int} : ∀ {S : List Sp}, (∀ x ∈ S, x.2.2 = m → x.1 = k) → (k = 0 ∨ ∃ x ∈ S, x.2.2 = m) → kindL S m = k
  | [], _, h => by
    rcases h with h | ⟨x, hx, _⟩
    · exact h.symm
    · cases hx
  | x :: S, h1, h2 => by
    rw [kindL]
    by_cases h : x.2.2 = m
    · rw [if_pos h]; exact h1 x (List.mem_cons_self ..) h
    · rw [if_neg h]
      refine kindL_of (fun y hy => h1 y (List.mem_cons_of_mem _ hy)) ?_
      rcases h2 with h2 | ⟨y, hy, e⟩
      · exact .inl h2
      · rcases List.mem_cons.1 hy with rfl | hy
        · exact absurd e h
        · exact .inr ⟨y, hy, e⟩
theorem dif1 {cs : List Int} {i n : Nat} {d : Int} (hl : cs.length = n) (hi : i < n) (hd : d ≠ cs.getD i 0) : difL cs (cs.set i d) n = [i] := by
  unfold difL
  refine flt1 _ i n hi fun j hj => ?_
  rw [getD_set _ _ _ _ (by omega)]
  by_cases e : j = i
  · subst e; rw [if_pos rfl, decide_eq_true rfl]; exact bne_iff_ne.2 fun h => hd h.symm
  · rw [if_neg e, decide_eq_false e]; exact bne_self_eq_false _
theorem dif2 {cs : List Int} {i n : Nat} {d e : Int} (hl : cs.length = n) (hi : i + 1 < n) (hd : d ≠ cs.getD i 0) (he : e ≠ cs.getD (i + 1) 0) : difL cs ((cs.set i d).set (i + 1) e) n = [i, i + 1] := by
  unfold difL
  refine flt2 _ i n hi fun j hj => ?_
  rw [getD_set _ _ _ _ (by rw [List.length_set]; omega), getD_set _ _ _ _ (by omega)]
  by_cases h1 : j = i + 1
  · subst h1; rw [if_pos rfl, decide_eq_true (show i + 1 = i + 1 from rfl), Bool.or_true]; exact bne_iff_ne.2 fun h => he h.symm
  · rw [if_neg h1, decide_eq_false h1, Bool.or_false]
    by_cases h : j = i
    · subst h; rw [if_pos rfl, decide_eq_true rfl]; exact bne_iff_ne.2 fun h => hd h.symm
    · rw [if_neg h, decide_eq_false h]; exact bne_self_eq_false _
theorem mem_dif {cs ds : List Int} {n j : Nat} : j ∈ difL cs ds n ↔ j < n ∧ cs.getD j 0 ≠ ds.getD j 0 := by
  unfold difL
  rw [List.mem_filter, List.mem_range, bne_iff_ne]
theorem kind_law {nm : List UInt8} {us : List Pr} (hck : chkLad nm us = 0) {n m : Int} (hn1 : 1 ≤ n) (hm1 : 1 ≤ m) (hm2 : m ≤ 1099511627776) :
    kindL (slipsL us (splitA us n) (valsS nm us) n) m = slipK (splitA us n) (splitA us m) (difL (splitA us n) (splitA us m) us.length) := by
  obtain ⟨hL, hyl, hf⟩ := chkLad_ok hck
  have hf1 : ∀ x ∈ us, 1 ≤ x.2 := fun x hx => (hf x hx).1
  obtain ⟨x0, l0, hxl, hx1⟩ := chkLad_first hck
  have hne : us ≠ [] := by rw [hxl]; simp
  have hdn := dig_split us n (by omega) hf1
  have hdm := dig_split us m (by omega) hf1
  have hen := ev_split us n hne
  have hem := ev_split us m hne
  have huq : ∀ ds, DigB us ds → evH us ds = m → splitA us m = ds := fun ds h1 h2 => by rw [← h2]; exact split_ev us ds h1
  have hv : ∀ i, i < us.length → (valsS nm us).getD i 0 = vW us i := fun i hi => (valsS_at hck hi).1
  clear hyl hf hxl hx1
  generalize valsS nm us = vs at hv ⊢
  generalize splitA us m = ds at hdm hem huq ⊢
  generalize splitA us n = cs at hdn hen ⊢
  have hl := hdn.1
  have hlm := hdm.1
  have e1 : ∀ i d, i < us.length → evH us (cs.set i d) = n + (d - cs.getD i 0) * vW us i := fun i d hi => by rw [ev_set us cs i d hl hi, hen]
  have e2 : ∀ i d e, i + 1 < us.length → evH us ((cs.set i d).set (i + 1) e) = n + (d - cs.getD i 0) * vW us i + (e - cs.getD (i + 1) 0) * vW us (i + 1) := fun i d e hi => by
    rw [ev_set us (cs.set i d) (i + 1) e (by rw [List.length_set]; exact hl) hi, e1 i d (by omega), getD_set _ _ _ _ (by omega), if_neg (by omega)]
  have g1 : ∀ i d, i < us.length → (cs.set i d).getD i 0 = d := fun i d hi => by rw [getD_set _ _ _ _ (by omega), if_pos rfl]
  have g2 : ∀ i d e, i + 1 < us.length → ((cs.set i d).set (i + 1) e).getD i 0 = d ∧ ((cs.set i d).set (i + 1) e).getD (i + 1) 0 = e := fun i d e hi => by
    exact ⟨by rw [getD_set _ _ _ _ (by rw [List.length_set]; omega), if_neg (by omega), g1 i d (by omega)], by rw [getD_set _ _ _ _ (by rw [List.length_set]; omega), if_pos rfl]⟩
  have okm : okN m = true := by unfold okN; rw [decide_eq_true hm1, decide_eq_true hm2]; rfl
  refine kindL_of (fun x hx hxm => ?_) ?_
  · unfold slipsL at hx
    obtain ⟨i, hi, hx⟩ := List.mem_flatMap.1 hx
    rw [List.mem_range] at hi
    obtain ⟨c0, c1⟩ := hdn.2 i hi
    unfold slipsAt at hx
    rw [List.mem_append, List.mem_append, mem_one, mem_one] at hx
    rcases hx with (⟨h1, _, rfl⟩ | ⟨h1, _, rfl⟩) | hx
    · replace hxm : n - vs.getD i 0 = m := hxm
      rw [hv i hi] at hxm
      have hc := of_decide_eq_true h1
      have := huq (cs.set i (cs.getD i 0 - 1)) (hdn.set hi (by omega) fun h => by have := c1 h; omega) (by rw [e1 i _ hi, ← hxm, show cs.getD i 0 - 1 - cs.getD i 0 = -1 by omega, Int.neg_mul, Int.one_mul]; omega)
      subst this
      rw [dif1 hl hi (by omega)]
      show 1 = (if _ then (1 : Int) else _)
      rw [g1 i _ hi, if_pos (by omega)]
    · replace hxm : n + vs.getD i 0 = m := hxm
      rw [hv i hi] at hxm
      have hc := (roomB_iff hi).1 h1
      have := huq (cs.set i (cs.getD i 0 + 1)) (hdn.set hi (by omega) hc) (by rw [e1 i _ hi, ← hxm, show cs.getD i 0 + 1 - cs.getD i 0 = 1 by omega, Int.one_mul])
      subst this
      rw [dif1 hl hi (by omega)]
      show 2 = (if _ then (1 : Int) else _)
      rw [g1 i _ hi, if_neg (by omega), if_pos rfl]
    · by_cases hlast : i + 1 = us.length
      · rw [if_pos hlast] at hx; cases hx
      · have hi2 : i + 1 < us.length := by omega
        obtain ⟨d0, d1⟩ := hdn.2 (i + 1) hi2
        rw [if_neg hlast, List.mem_append, mem_one, mem_one] at hx
        rcases hx with ⟨h1, _, rfl⟩ | ⟨h1, _, rfl⟩
        · rw [Bool.and_eq_true, Bool.and_eq_true, beq_iff_eq, decide_eq_true_eq] at h1
          obtain ⟨⟨h1, h2⟩, h3⟩ := h1
          replace hxm : n - cs.getD (i + 1) 0 * vs.getD (i + 1) 0 + cs.getD (i + 1) 0 * vs.getD i 0 = m := hxm
          rw [hv i hi, hv (i + 1) hi2] at hxm
          have := huq ((cs.set i (cs.getD (i + 1) 0)).set (i + 1) 0) ((hdn.set hi d0 ((roomB_iff hi).1 h3)).set hi2 (by omega) fun h => by have := d1 h; omega) (by rw [e2 i _ _ hi2, ← hxm, h1, Int.sub_zero, Int.zero_sub, Int.neg_mul]; omega)
          subst this
          rw [dif2 hl hi2 (by omega) (by omega)]
          show 3 = (if _ then (if _ then (3 : Int) else _) else _)
          rw [if_pos rfl, (g2 i _ _ hi2).1, (g2 i _ _ hi2).2, if_pos ⟨rfl, by omega, h1, rfl⟩]
        · rw [Bool.and_eq_true, Bool.and_eq_true, beq_iff_eq, decide_eq_true_eq] at h1
          obtain ⟨⟨h1, h2⟩, h3⟩ := h1
          replace hxm : n - cs.getD i 0 * vs.getD i 0 + cs.getD i 0 * vs.getD (i + 1) 0 = m := hxm
          rw [hv i hi, hv (i + 1) hi2] at hxm
          have := huq ((cs.set i 0).set (i + 1) (cs.getD i 0)) ((hdn.set hi (Int.le_refl 0) fun h => by have := c1 h; omega).set hi2 c0 ((roomB_iff hi2).1 h3)) (by rw [e2 i _ _ hi2, ← hxm, h1, Int.sub_zero, Int.zero_sub, Int.neg_mul]; omega)
          subst this
          rw [dif2 hl hi2 (by omega) (by omega)]
          show 4 = (if _ then (if _ then (3 : Int) else if _ then 4 else _) else _)
          rw [if_pos rfl, (g2 i _ _ hi2).1, (g2 i _ _ hi2).2, if_neg (fun h => by omega), if_pos ⟨rfl, by omega, h1, rfl⟩]
  · have md := @mem_dif cs ds us.length
    have found : ∀ (i : Nat) (x : Sp), i < us.length → x ∈ slipsAt us cs vs n i → x.2.2 = m → ∃ x ∈ slipsL us cs vs n, x.2.2 = m := fun i x hi hx he => ⟨x, List.mem_flatMap.2 ⟨i, List.mem_range.2 hi, hx⟩, he⟩
    generalize difL cs ds us.length = D at md ⊢
    rcases D with _ | ⟨a, _ | ⟨b, _ | ⟨c, D⟩⟩⟩
    · exact .inl rfl
    · have ha := (md.1 (List.mem_cons_self ..)).1
      have hds : ds = cs.set a (ds.getD a 0) := extD (by rw [List.length_set]; omega) fun j hj => by
        rw [getD_set _ _ _ _ (by omega)]
        by_cases e : j = a
        · subst e; rw [if_pos rfl]
        · rw [if_neg e]
          exact Classical.byContradiction fun h => e (List.mem_singleton.1 (md.2 ⟨by omega, fun h' => h h'.symm⟩))
      have hev : m = n + (ds.getD a 0 - cs.getD a 0) * vW us a := by rw [← e1 a _ ha, ← hds, hem]
      have hda := hdm.2 a ha
      show (if _ then (1 : Int) else if _ then 2 else 0) = 0 ∨ _
      by_cases k1 : cs.getD a 0 = ds.getD a 0 + 1
      · refine .inr (found a _ ha (List.mem_append_left _ (List.mem_append_left _ (mem_one.2 ⟨decide_eq_true (by omega), ?_, rfl⟩))) ?_)
        · show okN (n - vs.getD a 0) = true
          rw [hv a ha, show n - vW us a = m by rw [hev, k1, show ds.getD a 0 - (ds.getD a 0 + 1) = -1 by omega, Int.neg_mul, Int.one_mul]; omega]
          exact okm
        · show n - vs.getD a 0 = m
          rw [hv a ha, hev, k1, show ds.getD a 0 - (ds.getD a 0 + 1) = -1 by omega, Int.neg_mul, Int.one_mul]; omega
      · rw [if_neg k1]
        by_cases k2 : cs.getD a 0 + 1 = ds.getD a 0
        · have hm : n + vs.getD a 0 = m := by rw [hv a ha, hev, ← k2, show cs.getD a 0 + 1 - cs.getD a 0 = 1 by omega, Int.one_mul]
          exact .inr (found a (2, (us.getD a ([], 0)).1, n + vs.getD a 0) ha (List.mem_append_left _ (List.mem_append_right _ (mem_one.2 ⟨(roomB_iff ha).2 fun h => by rw [k2]; exact hda.2 h, by show okN (n + vs.getD a 0) = true; rw [hm]; exact okm, rfl⟩))) hm)
        · rw [if_neg k2]; exact .inl rfl
    · have ha := (md.1 (List.mem_cons_self ..)).1
      have hb := (md.1 (List.mem_cons_of_mem _ (List.mem_cons_self ..))).1
      show (if _ then (if _ then (3 : Int) else if _ then 4 else 0) else 0) = 0 ∨ _
      by_cases hba : b = a + 1
      case neg => rw [if_neg hba]; exact .inl rfl
      subst hba
      rw [if_pos rfl]
      have hds : ds = (cs.set a (ds.getD a 0)).set (a + 1) (ds.getD (a + 1) 0) := extD (by rw [List.length_set, List.length_set]; omega) fun j hj => by
        rw [getD_set _ _ _ _ (by rw [List.length_set]; omega), getD_set _ _ _ _ (by omega)]
        by_cases e : j = a + 1
        · subst e; rw [if_pos rfl]
        · rw [if_neg e]
          by_cases e' : j = a
          · subst e'; rw [if_pos rfl]
          · rw [if_neg e']
            refine Classical.byContradiction fun h => ?_
            have := md.2 ⟨show j < us.length by omega, fun h' => h h'.symm⟩
            rcases List.mem_cons.1 this with h | h
            · exact e' h
            · exact e (List.mem_singleton.1 h)
      have hev : m = n + (ds.getD a 0 - cs.getD a 0) * vW us a + (ds.getD (a + 1) 0 - cs.getD (a + 1) 0) * vW us (a + 1) := by rw [← e2 a _ _ hb, ← hds, hem]
      have hda := hdm.2 a ha
      have hdb := hdm.2 (a + 1) hb
      have hlast : ¬ a + 1 = us.length := by omega
      by_cases k1 : ds.getD (a + 1) 0 = 0 ∧ 1 ≤ ds.getD a 0 ∧ cs.getD a 0 = 0 ∧ cs.getD (a + 1) 0 = ds.getD a 0
      · obtain ⟨p1, p2, p3, p4⟩ := k1
        have hm : n - cs.getD (a + 1) 0 * vs.getD (a + 1) 0 + cs.getD (a + 1) 0 * vs.getD a 0 = m := by
          rw [hv a ha, hv (a + 1) hb, hev, p1, p3, p4, Int.sub_zero, Int.zero_sub, Int.neg_mul]; omega
        refine .inr (found a (3, (us.getD a ([], 0)).1, n - cs.getD (a + 1) 0 * vs.getD (a + 1) 0 + cs.getD (a + 1) 0 * vs.getD a 0) ha (List.mem_append_right _ ?_) hm)
        rw [if_neg hlast]
        exact List.mem_append_left _ (mem_one.2 ⟨by rw [beq_iff_eq.2 p3, decide_eq_true (show 0 < cs.getD (a + 1) 0 by omega), (roomB_iff ha).2 fun h => by rw [p4]; exact hda.2 h]; rfl, by show okN (n - cs.getD (a + 1) 0 * vs.getD (a + 1) 0 + cs.getD (a + 1) 0 * vs.getD a 0) = true; rw [hm]; exact okm, rfl⟩)
      · rw [if_neg k1]
        by_cases k2 : ds.getD a 0 = 0 ∧ 1 ≤ ds.getD (a + 1) 0 ∧ cs.getD (a + 1) 0 = 0 ∧ cs.getD a 0 = ds.getD (a + 1) 0
        · obtain ⟨p1, p2, p3, p4⟩ := k2
          have hm : n - cs.getD a 0 * vs.getD a 0 + cs.getD a 0 * vs.getD (a + 1) 0 = m := by
            rw [hv a ha, hv (a + 1) hb, hev, p1, p3, p4, Int.sub_zero, Int.zero_sub, Int.neg_mul]; omega
          refine .inr (found a (4, (us.getD (a + 1) ([], 0)).1, n - cs.getD a 0 * vs.getD a 0 + cs.getD a 0 * vs.getD (a + 1) 0) ha (List.mem_append_right _ ?_) hm)
          rw [if_neg hlast]
          exact List.mem_append_right _ (mem_one.2 ⟨by rw [beq_iff_eq.2 p3, decide_eq_true (show 0 < cs.getD a 0 by omega), (roomB_iff hb).2 fun h => by rw [p4]; exact hdb.2 h]; rfl, by show okN (n - cs.getD a 0 * vs.getD a 0 + cs.getD a 0 * vs.getD (a + 1) 0) = true; rw [hm]; exact okm, rfl⟩)
        · rw [if_neg k2]; exact .inl rfl
    · exact .inl rfl
end Go.Proofs.YtekoajibckipkaaGreat
namespace Go.Proofs.YtekoajibckipkaaGreat
open Go Go.Eng
def slipE (nm : List UInt8) (us : List Pr) (m n : Int) : Int :=
  if (1 ≤ m ∧ 1 ≤ n) ∧ (m ≤ 1099511627776 ∧ n ≤ 1099511627776) then slipK (splitE nm us n).1 (splitE nm us m).1 (difL (splitE nm us n).1 (splitE nm us m).1 (splitE nm us n).1.length) else 0
theorem dif_succ (cs ds : List Int) (i : Nat) : difL cs ds (i + 1) = difL cs ds i ++ (if cs.getD i 0 = ds.getD i 0 then [] else [i]) := by
  unfold difL
  rw [List.range_succ, List.filter_append, List.filter_cons]
  by_cases h : cs.getD i 0 = ds.getD i 0
  · rw [if_pos h, if_neg (by rw [h]; simp)]; rfl
  · rw [if_neg h, if_pos (bne_iff_ne.2 h)]; rfl
theorem dif_len (cs ds : List Int) : ∀ i, (difL cs ds i).length ≤ i
  | 0 => Nat.le_refl _
  | i + 1 => by
    rw [dif_succ, List.length_append]
    have := dif_len cs ds i
    split
    · exact Nat.le_succ_of_le this
    · exact Nat.succ_le_succ this
def ints (l : List Nat) : List Int := l.map fun k : Nat => (k : Int)
theorem split_small (nm : List UInt8) (us : List Pr) (n : Int) : ((splitE nm us n).1.length ≤ us.length) ∧ ∀ i, i < (splitE nm us n).1.length → 0 ≤ (splitE nm us n).1.getD i 0 ∧ (splitE nm us n).1.getD i 0 ≤ 1099511627776 := by
  unfold splitE
  by_cases hck : chkLad nm us = 0
  case neg => rw [if_pos hck]; exact ⟨Nat.zero_le _, fun i hi => absurd hi (Nat.not_lt_zero i)⟩
  rw [if_neg (fun h => h hck)]
  by_cases hn : 0 ≤ n ∧ n ≤ 1099511627776
  case neg => rw [if_neg hn]; exact ⟨Nat.zero_le _, fun i hi => absurd hi (Nat.not_lt_zero i)⟩
  rw [if_pos hn]
  refine ⟨Nat.le_of_eq (splitA_len us n), fun i hi => ?_⟩
  exact (small_b hck hn.1 hn.2 i (by rw [splitA_len] at hi; exact hi)).1
end Go.Proofs.YtekoajibckipkaaGreat
namespace Go.Proofs.YtekoajibckipkaaGreat
open Go Go.Eng
def slipS (us : List Pr) (cs ds : List Int) : List Nat → List UInt8
  | [a] => (us.getD a ([], 0)).1
  | [a, b] => if slipK cs ds [a, b] = 3 then (us.getD a ([], 0)).1 else (us.getD b ([], 0)).1
  | _ => []
def slipX (us : List Pr) (n m : Int) : Sp := (slipK (splitA us n) (splitA us m) (difL (splitA us n) (splitA us m) us.length), slipS us (splitA us n) (splitA us m) (difL (splitA us n) (splitA us m) us.length), m)
theorem slip_at {nm : List UInt8} {us : List Pr} (hck : chkLad nm us = 0) {n : Int} (hn1 : 1 ≤ n) {i : Nat} (hi : i < us.length) {x : Sp} (hx : x ∈ slipsAt us (splitA us n) (valsS nm us) n i) :
    okN x.2.2 = true ∧ x = slipX us n x.2.2 ∧ x.1 ≠ 0 ∧ (difL (splitA us n) (splitA us x.2.2) us.length = [i] ∨ i + 1 < us.length ∧ difL (splitA us n) (splitA us x.2.2) us.length = [i, i + 1]) := by
  obtain ⟨hL, hyl, hf⟩ := chkLad_ok hck
  have hf1 : ∀ x ∈ us, 1 ≤ x.2 := fun x hx => (hf x hx).1
  obtain ⟨x0, l0, hxl, hx1⟩ := chkLad_first hck
  have hne : us ≠ [] := by rw [hxl]; simp
  have hdn := dig_split us n (by omega) hf1
  have hen := ev_split us n hne
  have huq : ∀ ds m, DigB us ds → evH us ds = m → splitA us m = ds := fun ds m h1 h2 => by rw [← h2]; exact split_ev us ds h1
  have hv : ∀ i, i < us.length → (valsS nm us).getD i 0 = vW us i := fun i hi => (valsS_at hck hi).1
  clear hyl hf hxl hx1
  unfold slipX
  generalize valsS nm us = vs at hv hx
  generalize splitA us n = cs at hdn hen hx ⊢
  have hl := hdn.1
  have e1 : ∀ i d, i < us.length → evH us (cs.set i d) = n + (d - cs.getD i 0) * vW us i := fun i d hi => by rw [ev_set us cs i d hl hi, hen]
  have e2 : ∀ i d e, i + 1 < us.length → evH us ((cs.set i d).set (i + 1) e) = n + (d - cs.getD i 0) * vW us i + (e - cs.getD (i + 1) 0) * vW us (i + 1) := fun i d e hi => by
    rw [ev_set us (cs.set i d) (i + 1) e (by rw [List.length_set]; exact hl) hi, e1 i d (by omega), getD_set _ _ _ _ (by omega), if_neg (by omega)]
  have g1 : ∀ i d, i < us.length → (cs.set i d).getD i 0 = d := fun i d hi => by rw [getD_set _ _ _ _ (by omega), if_pos rfl]
  have g2 : ∀ i d e, i + 1 < us.length → ((cs.set i d).set (i + 1) e).getD i 0 = d ∧ ((cs.set i d).set (i + 1) e).getD (i + 1) 0 = e := fun i d e hi => by
    exact ⟨by rw [getD_set _ _ _ _ (by rw [List.length_set]; omega), if_neg (by omega), g1 i d (by omega)], by rw [getD_set _ _ _ _ (by rw [List.length_set]; omega), if_pos rfl]⟩
  obtain ⟨c0, c1⟩ := hdn.2 i hi
  unfold slipsAt at hx
  rw [List.mem_append, List.mem_append, mem_one, mem_one] at hx
  rcases hx with (⟨h1, hk, rfl⟩ | ⟨h1, hk, rfl⟩) | hx
  · have hc := of_decide_eq_true h1
    have := huq (cs.set i (cs.getD i 0 - 1)) (n - vs.getD i 0) (hdn.set hi (by omega) fun h => by have := c1 h; omega) (by rw [e1 i _ hi, hv i hi, show cs.getD i 0 - 1 - cs.getD i 0 = -1 by omega, Int.neg_mul, Int.one_mul]; omega)
    refine ⟨hk, ?_, (show (1 : Int) ≠ 0 by decide), .inl ?_⟩
    · show ((1 : Int), _, _) = _
      rw [this, dif1 hl hi (by omega)]
      have ek : slipK cs (cs.set i (cs.getD i 0 - 1)) [i] = 1 := by
        show (if _ then (1 : Int) else _) = 1
        rw [g1 i _ hi, if_pos (by omega)]
      rw [ek]; rfl
    · show difL cs (splitA us (n - vs.getD i 0)) us.length = _
      rw [this, dif1 hl hi (by omega)]
  · have hc := (roomB_iff hi).1 h1
    have := huq (cs.set i (cs.getD i 0 + 1)) (n + vs.getD i 0) (hdn.set hi (by omega) hc) (by rw [e1 i _ hi, hv i hi, show cs.getD i 0 + 1 - cs.getD i 0 = 1 by omega, Int.one_mul])
    refine ⟨hk, ?_, (show (2 : Int) ≠ 0 by decide), .inl ?_⟩
    · show ((2 : Int), _, _) = _
      rw [this, dif1 hl hi (by omega)]
      have ek : slipK cs (cs.set i (cs.getD i 0 + 1)) [i] = 2 := by
        show (if _ then (1 : Int) else _) = 2
        rw [g1 i _ hi, if_neg (by omega), if_pos rfl]
      rw [ek]; rfl
    · show difL cs (splitA us (n + vs.getD i 0)) us.length = _
      rw [this, dif1 hl hi (by omega)]
  · by_cases hlast : i + 1 = us.length
    · rw [if_pos hlast] at hx; cases hx
    · have hi2 : i + 1 < us.length := by omega
      obtain ⟨d0, d1⟩ := hdn.2 (i + 1) hi2
      rw [if_neg hlast, List.mem_append, mem_one, mem_one] at hx
      rcases hx with ⟨h1, hk, rfl⟩ | ⟨h1, hk, rfl⟩
      · rw [Bool.and_eq_true, Bool.and_eq_true, beq_iff_eq, decide_eq_true_eq] at h1
        obtain ⟨⟨h1, h2⟩, h3⟩ := h1
        have := huq ((cs.set i (cs.getD (i + 1) 0)).set (i + 1) 0) (n - cs.getD (i + 1) 0 * vs.getD (i + 1) 0 + cs.getD (i + 1) 0 * vs.getD i 0) ((hdn.set hi d0 ((roomB_iff hi).1 h3)).set hi2 (by omega) fun h => by have := d1 h; omega) (by rw [e2 i _ _ hi2, hv i hi, hv (i + 1) hi2, h1, Int.sub_zero, Int.zero_sub, Int.neg_mul]; omega)
        have ek : slipK cs ((cs.set i (cs.getD (i + 1) 0)).set (i + 1) 0) [i, i + 1] = 3 := by
          show (if _ then (if _ then (3 : Int) else _) else _) = 3
          rw [if_pos rfl, (g2 i _ _ hi2).1, (g2 i _ _ hi2).2, if_pos ⟨rfl, by omega, h1, rfl⟩]
        refine ⟨hk, ?_, (show (3 : Int) ≠ 0 by decide), .inr ⟨hi2, ?_⟩⟩
        · show ((3 : Int), _, _) = _
          rw [this, dif2 hl hi2 (by omega) (by omega), ek]
          show _ = ((3 : Int), (if _ then _ else _), _)
          rw [ek, if_pos rfl]
        · show difL cs (splitA us (n - cs.getD (i + 1) 0 * vs.getD (i + 1) 0 + cs.getD (i + 1) 0 * vs.getD i 0)) us.length = _
          rw [this, dif2 hl hi2 (by omega) (by omega)]
      · rw [Bool.and_eq_true, Bool.and_eq_true, beq_iff_eq, decide_eq_true_eq] at h1
        obtain ⟨⟨h1, h2⟩, h3⟩ := h1
        have := huq ((cs.set i 0).set (i + 1) (cs.getD i 0)) (n - cs.getD i 0 * vs.getD i 0 + cs.getD i 0 * vs.getD (i + 1) 0) ((hdn.set hi (Int.le_refl 0) fun h => by have := c1 h; omega).set hi2 c0 ((roomB_iff hi2).1 h3)) (by rw [e2 i _ _ hi2, hv i hi, hv (i + 1) hi2, h1, Int.sub_zero, Int.zero_sub, Int.neg_mul]; omega)
        have ek : slipK cs ((cs.set i 0).set (i + 1) (cs.getD i 0)) [i, i + 1] = 4 := by
          show (if _ then (if _ then (3 : Int) else if _ then 4 else _) else _) = 4
          rw [if_pos rfl, (g2 i _ _ hi2).1, (g2 i _ _ hi2).2, if_neg (fun h => by omega), if_pos ⟨rfl, by omega, h1, rfl⟩]
        refine ⟨hk, ?_, (show (4 : Int) ≠ 0 by decide), .inr ⟨hi2, ?_⟩⟩
        · show ((4 : Int), _, _) = _
          rw [this, dif2 hl hi2 (by omega) (by omega), ek]
          show _ = ((4 : Int), (if _ then _ else _), _)
          rw [ek, if_neg (by decide)]
        · show difL cs (splitA us (n - cs.getD i 0 * vs.getD i 0 + cs.getD i 0 * vs.getD (i + 1) 0)) us.length = _
          rw [this, dif2 hl hi2 (by omega) (by omega)]
theorem kindL_mem {m : Int} : ∀ {S : List Sp}, kindL S m ≠ 0 → ∃ x ∈ S, x.2.2 = m
  | [], h => absurd rfl h
  | x :: S, h => by
    rw [kindL] at h
    by_cases he : x.2.2 = m
    · exact ⟨x, List.mem_cons_self .., he⟩
    · rw [if_neg he] at h
      obtain ⟨y, hy, e⟩ := kindL_mem h
      exact ⟨y, List.mem_cons_of_mem _ hy, e⟩
theorem slip_mem {nm : List UInt8} {us : List Pr} (hck : chkLad nm us = 0) {n : Int} (hn1 : 1 ≤ n) (x : Sp) :
    x ∈ slipsL us (splitA us n) (valsS nm us) n ↔ okN x.2.2 = true ∧ x = slipX us n x.2.2 ∧ x.1 ≠ 0 := by
  constructor
  · intro hx
    obtain ⟨i, hi, hx⟩ := List.mem_flatMap.1 hx
    obtain ⟨h1, h2, h3, _⟩ := slip_at hck hn1 (List.mem_range.1 hi) hx
    exact ⟨h1, h2, h3⟩
  · rintro ⟨h1, h2, h3⟩
    have h1' := h1
    unfold okN at h1'
    rw [Bool.and_eq_true, decide_eq_true_eq, decide_eq_true_eq] at h1'
    have hk := kind_law hck hn1 h1'.1 h1'.2
    have h4 : kindL (slipsL us (splitA us n) (valsS nm us) n) x.2.2 ≠ 0 := by
      rw [hk]
      have : x.1 = (slipX us n x.2.2).1 := congrArg Prod.fst h2
      rw [this] at h3
      exact h3
    obtain ⟨y, hy, e⟩ := kindL_mem h4
    obtain ⟨i, hi, hy'⟩ := List.mem_flatMap.1 hy
    obtain ⟨_, h5, _, _⟩ := slip_at hck hn1 (List.mem_range.1 hi) hy'
    rw [e] at h5
    rw [h2, ← h5]
    exact hy
theorem one_pw (b : Bool) (x : Sp) : List.Pairwise (fun x y : Sp => x.1 ≠ y.1) (one b x) := by
  unfold one
  split
  · exact List.pairwise_singleton _ _
  · exact List.Pairwise.nil
theorem one_k {b : Bool} {x y : Sp} (h : y ∈ one b x) : y.1 = x.1 := by rw [(mem_one.1 h).2.2]
theorem slipsAt_pw (us : List Pr) (cs vs : List Int) (n : Int) (i : Nat) : List.Pairwise (fun x y : Sp => x.1 ≠ y.1) (slipsAt us cs vs n i) := by
  unfold slipsAt
  rw [List.pairwise_append, List.pairwise_append]
  refine ⟨⟨one_pw _ _, one_pw _ _, fun x hx y hy => by rw [one_k hx, one_k hy]; show (1 : Int) ≠ 2; decide⟩, ?_, ?_⟩
  · split
    · exact List.Pairwise.nil
    · rw [List.pairwise_append]
      exact ⟨one_pw _ _, one_pw _ _, fun x hx y hy => by rw [one_k hx, one_k hy]; show (3 : Int) ≠ 4; decide⟩
  · intro x hx y hy
    split at hy
    · cases hy
    · rcases List.mem_append.1 hx with hx | hx <;> rcases List.mem_append.1 hy with hy | hy <;> (rw [one_k hx, one_k hy]; first | (show (1 : Int) ≠ 3; decide) | (show (1 : Int) ≠ 4; decide) | (show (2 : Int) ≠ 3; decide) | (show (2 : Int) ≠ 4; decide))
theorem slips_pw {nm : List UInt8} {us : List Pr} (hck : chkLad nm us = 0) {n : Int} (hn1 : 1 ≤ n) : List.Pairwise (fun x y : Sp => x.2.2 ≠ y.2.2) (slipsL us (splitA us n) (valsS nm us) n) := by
  unfold slipsL
  rw [List.pairwise_flatMap]
  refine ⟨fun i hi => ?_, List.Pairwise.imp_of_mem (fun {i j} hi hj hij => ?_) List.pairwise_lt_range⟩
  · refine List.Pairwise.imp_of_mem (fun {x y} hx hy hxy he => hxy ?_) (slipsAt_pw us _ _ n i)
    obtain ⟨_, h2, _, _⟩ := slip_at hck hn1 (List.mem_range.1 hi) hx
    obtain ⟨_, h3, _, _⟩ := slip_at hck hn1 (List.mem_range.1 hi) hy
    rw [h2, h3, he]
  · intro x hx y hy he
    obtain ⟨_, _, _, h2⟩ := slip_at hck hn1 (List.mem_range.1 hi) hx
    obtain ⟨_, _, _, h3⟩ := slip_at hck hn1 (List.mem_range.1 hj) hy
    rw [he] at h2
    rcases h2 with h2 | ⟨_, h2⟩ <;> rcases h3 with h3 | ⟨_, h3⟩ <;> rw [h2] at h3
    · have := (List.cons.inj h3).1; omega
    · have := congrArg List.length h3; simp at this
    · have := congrArg List.length h3; simp at this
    · have := (List.cons.inj h3).1; omega
theorem ord_ext : ∀ {A B : List Sp}, List.Pairwise (fun x y : Sp => x.2.2 < y.2.2) A → List.Pairwise (fun x y : Sp => x.2.2 < y.2.2) B → (∀ x, x ∈ A ↔ x ∈ B) → A = B
  | [], [], _, _, _ => rfl
  | [], b :: B, _, _, h => absurd ((h b).2 (List.mem_cons_self ..)) List.not_mem_nil
  | a :: A, [], _, _, h => absurd ((h a).1 (List.mem_cons_self ..)) List.not_mem_nil
  | a :: A, b :: B, hA, hB, h => by
    obtain ⟨hA1, hA2⟩ := List.pairwise_cons.1 hA
    obtain ⟨hB1, hB2⟩ := List.pairwise_cons.1 hB
    have hab : a = b := by
      rcases List.mem_cons.1 ((h a).1 (List.mem_cons_self ..)) with e | ha
      · exact e
      · rcases List.mem_cons.1 ((h b).2 (List.mem_cons_self ..)) with e | hb
        · exact e.symm
        · have h1 := hB1 a ha
          have h2 := hA1 b hb
          omega
    subst hab
    rw [ord_ext hA2 hB2 fun x => ⟨fun hx => by
      rcases List.mem_cons.1 ((h x).1 (List.mem_cons_of_mem _ hx)) with e | hx'
      · subst e; have := hA1 x hx; omega
      · exact hx', fun hx => by
      rcases List.mem_cons.1 ((h x).2 (List.mem_cons_of_mem _ hx)) with e | hx'
      · subst e; have := hB1 x hx; omega
      · exact hx'⟩]
end Go.Proofs.YtekoajibckipkaaGreat
namespace Go.Proofs.YtekoajibckipkaaGreat
open Go Go.Eng
def slipG (nm : List UInt8) (us : List Pr) (m n : Int) : List UInt8 := slipS us (splitE nm us n).1 (splitE nm us m).1 (difL (splitE nm us n).1 (splitE nm us m).1 (splitE nm us n).1.length)
set_option maxRecDepth 10000 in
set_option maxHeartbeats 64000000 in
theorem rSlipX_con (H : Hp) (nm : List UInt8) (u : AC) (us : List Pr) (m n : Int) (hu : SlP H u us) :
    Con E2 103 [.agg [.o (.str nm), u], .one (.i .i64 m), .one (.i .i64 n)] H (fun _ => False) fun r _ => ∃ sg x, r = .agg [.i .i64 (slipE nm us m n), .o (.str sg), .i .i64 x] ∧ (slipE nm us m n ≠ 0 → sg = slipG nm us m n ∧ x = m) := by
  refine Con.of rfl fun lg => ?_
  have hu : SlP ⟨H.t, H.nx, lg⟩ u us := hu
  generalize (⟨H.t, H.nx, lg⟩ : Hp) = H at hu ⊢
  refine C1.body (E := E2) (nt := 202) (res := [.cell 6 75]) Tryz.func103 rfl rfl rfl rfl rfl fun tm hargs => ?_
  have h0 := hargs 0 _ rfl
  have h1 := hargs 1 _ rfl
  have h2 := hargs 2 _ rfl
  clear hargs
  generalize hr0 : slipE nm us m n = r0
  generalize hg0 : slipG nm us m n = g0
  unfold slipG at hg0
  replace hg0 : Hd _ := hg0
  refine zG tyF fun K hK => ?_
  refine hK.out _ _ ?_
  refine zG tyF fun K hK => ?_
  refine hK.out _ _ ?_
  refine R1.gen (fun A1 H1 => Gr H H1 ∧ H.nx + 2 < H1.nx ∧ H1.get H.nx = some (.arr [.o (.str nm), u] 68 0 0) ∧ H1.get (H.nx + 1) = some (.arr [.i .i64 0, .o (.str []), .i .i64 0] 75 0 0) ∧ H1.get (H.nx + 1 + 1) = some (.arr [.i .i64 0, .o (.str []), .i .i64 0] 75 0 0) ∧ slot A1.tm 1 = .one (.i .i64 (m : Int)) ∧ slot A1.tm 2 = .one (.i .i64 (n : Int)) ∧ slot A1.tm 3 = .one ((.o (.ptr H.nx 0 0 2))) ∧ slot A1.tm 6 = .one ((.o (.ptr (H.nx + 1) 0 0 3))) ∧ slot A1.tm 7 = .one ((.o (.ptr (H.nx + 1 + 1) 0 0 3))) ∧ A1.nt = 202 ∧ A1.dfr = [])
    ⟨((((Fr.refl _).new _).new _).new _).mod _ (.inl (by omega)), by show H.nx + 2 < H.nx + 1 + 1 + 1; omega, by rw [get_modN (by omega), get_newL (by show H.nx < H.nx + 1 + 1; omega), get_newL (by show H.nx < H.nx + 1; omega)]; exact get_newE rfl, by rw [get_modN (by omega), get_newL (by show H.nx + 1 < H.nx + 1 + 1; omega)]; exact get_newE rfl, get_modE rfl, zL⟩ ?_
  clear h0 h1 h2 tm hK K
  rintro A1 H1 ⟨g1, n1, r1, r2, r3, t1, t2, t3, t6, t7, hnt, hdf⟩
  obtain ⟨N, hN⟩ : ∃ N, N = H.nx := ⟨_, rfl⟩
  rw [← hN] at n1 r1 r2 r3 t3 t6 t7
  have hNH : H.nx ≤ N := by omega
  clear hN
  have n2 : N + 1 < H1.nx := by omega
  have n0 : N < H1.nx := by omega
  have n3 : N + 1 + 1 < H1.nx := n1
  clear n1
  have fin : ∀ (k : Int) (sg : List UInt8) (x : Int) (A : AAct) (H2 : Hp), slot A.tm 6 = .one (.o (.ptr (N + 1) 0 0 3)) → A.dfr = [] → Gr H H2 → H2.get (N + 1) = some (.arr [.i .i64 k, .o (.str sg), .i .i64 x] 75 0 0) → k = r0 → (r0 ≠ 0 → sg = g0 ∧ x = m) →
      ∃ w H4, callEnd E2 [.cell 6 75] (.ret, A, H2) = .ok [(w, H4)] ∧ Gr H H4 ∧ ∀ _ : List Nat, ∃ sg x, w = .agg [.i .i64 r0, .o (.str sg), .i .i64 x] ∧ (r0 ≠ 0 → sg = g0 ∧ x = m) := fun k sg x A H2 hs hd hg hr he hsx =>
    ⟨_, _, callEnd_cells (id := N + 1) (g := 0) ld_slip (.inr rfl) (by rw [hd]; rfl) hs (by rw [hr]; exact rowOf_arr (Nat.le_refl _) (Nat.le_refl _)) (Nat.le_refl _) rfl, hg, fun _ => ⟨sg, x, by rw [he], hsx⟩⟩
  have bad : ∀ (A : AAct), slot A.tm 6 = .one (.o (.ptr (N + 1) 0 0 3)) → A.dfr = [] → ¬ ((1 ≤ m ∧ 1 ≤ n) ∧ (m ≤ 1099511627776 ∧ n ≤ 1099511627776)) → ∃ w H4, callEnd E2 [.cell 6 75] (.ret, A, H1.mod (N + 1) (.arr [.i .i64 0, .o (.str []), .i .i64 0] 75 0 0)) = .ok [(w, H4)] ∧ Gr H H4 ∧ ∀ _ : List Nat, ∃ sg x, w = .agg [.i .i64 r0, .o (.str sg), .i .i64 x] ∧ (r0 ≠ 0 → sg = g0 ∧ x = m) := fun A h1 h2 h3 =>
    fin 0 [] 0 A _ h1 h2 (g1.mod _ (.inl (by omega))) (get_modE rfl) (by rw [← hr0]; unfold slipE; rw [if_neg h3]) (fun h => absurd (by rw [← hr0]; unfold slipE; rw [if_neg h3]) h)
  by_cases q1 : m < 1
  · replace hr0 : Hd _ := hr0
    refine zW tyF ?_
    exact bad _ zL qe (fun h => by omega)
  by_cases q2 : n < 1
  · replace hr0 : Hd _ := hr0
    refine zW tyF ?_
    exact bad _ zL qe (fun h => by omega)
  by_cases q3 : 1099511627776 < m
  · replace hr0 : Hd _ := hr0
    refine zW tyF ?_
    exact bad _ zL qe (fun h => by omega)
  by_cases q4 : 1099511627776 < n
  · replace hr0 : Hd _ := hr0
    refine zW tyF ?_
    exact bad _ zL qe (fun h => by omega)
  clear bad
  unfold slipE at hr0
  rw [if_pos ⟨⟨by omega, by omega⟩, by omega, by omega⟩] at hr0
  obtain ⟨lc, bc⟩ := split_small nm us n
  obtain ⟨ld, bd⟩ := split_small nm us m
  have hsE : chkLad nm us = 0 → ∀ k, 1 ≤ k → k ≤ 1099511627776 → splitE nm us k = (splitA us k, 0) := fun hck k h1 h2 => by
    unfold splitE; rw [if_neg (fun h => h hck), if_pos ⟨by omega, h2⟩]
  have hlen : (splitE nm us n).1.length = (splitE nm us m).1.length ∧ ((splitE nm us n).1.length = 0 ∨ (splitE nm us n).1.length = us.length) ∧ us.length ≤ 1000000 ∨ (splitE nm us n).1 = [] := by
    by_cases hck : chkLad nm us = 0
    · rw [hsE hck n (by omega) (by omega), hsE hck m (by omega) (by omega)]
      exact .inl ⟨by rw [splitA_len, splitA_len], .inr (splitA_len us n), by have := (chkLad_ok hck).1; omega⟩
    · exact .inr (by unfold splitE; rw [if_pos hck])
  clear hsE
  have hu := hu.gr g1
  have hu0 := hu
  replace hr0 : Hd _ := hr0
  replace hlen : Hd _ := hlen
  replace bc : Hd _ := bc
  replace bd : Hd _ := bd
  replace lc : Hd _ := lc
  replace ld : Hd _ := ld
  refine zW tyF ?_
  repeat refine R1.s_assoc ?_
  refine zG (qA tyF bd_rSplit) fun K hK => ?_
  refine WE.con (rSplit_con H1 nm u us n hu) fun w H2 g2 ⟨c, hq, hc⟩ => ?_
  subst hq
  have r1 := (g2.get _ n0 not_false).trans r1
  have n0 := Nat.lt_of_lt_of_le n0 g2.nx
  have r2 := (g2.get _ n2 not_false).trans r2
  have n2 := Nat.lt_of_lt_of_le n2 g2.nx
  have r3 := (g2.get _ n3 not_false).trans r3
  have n3 := Nat.lt_of_lt_of_le n3 g2.nx
  have hu := hu.gr g2
  refine zK tyF ?_
  refine zG (qA tyF bd_rSplit) fun K hK => ?_
  refine WE.con (rSplit_con H2 nm u us m hu) fun w H3 g3 ⟨d, hq, hd⟩ => ?_
  subst hq
  have r1 := (g3.get _ n0 not_false).trans r1
  have n0 := Nat.lt_of_lt_of_le n0 g3.nx
  have r2 := (g3.get _ n2 not_false).trans r2
  have n2 := Nat.lt_of_lt_of_le n2 g3.nx
  have r3 := (g3.get _ n3 not_false).trans r3
  have n3 := Nat.lt_of_lt_of_le n3 g3.nx
  have hu := hu.gr g3
  have hc := hc.gr g3
  have g3 := (g1.gr g2).gr g3
  clear g1 g2 hu0
  generalize (splitE nm us n).1 = cs at hc hr0 hg0 hlen bc lc
  generalize (splitE nm us m).1 = ds at hd hr0 hg0 hlen bd ld
  have hl1 : cs.length ≤ us.length := lc.out
  have hl2 : cs.length = 0 ∨ (cs.length = ds.length ∧ cs.length = us.length ∧ us.length ≤ 1000000) := by
    rcases hlen.out with ⟨h1, h2, h3⟩ | h
    · rcases h2 with h2 | h2
      · exact .inl h2
      · exact .inr ⟨h1, h2, h3⟩
    · exact .inl (by rw [h]; rfl)
  have hl3 : cs.length ≤ 1000000 := by omega
  replace hl2 : Hd _ := hl2
  clear hl1 hlen lc ld
  obtain ⟨zi, hzi, hzil⟩ := zx_int
  have l1 := hc.len
  have l2 := hc.lt
  refine zK tyF ?_
  refine R1.s_bl fun K k1 k2 k3 k4 => ?_
  refine R1.loop (fun z A H4 => ∃ (i : Nat) (v : AC) (r : Option Nat), z = cs.length - i ∧ i ≤ cs.length ∧ Gr H3 H4 ∧ OwnR H4 v 3 1 (ints (difL cs ds i)).length ((ints (difL cs ds i)).flatMap intC) r ∧ (∀ q, r = some q → H3.nx ≤ q) ∧ slot A.tm 1 = .one (.i .i64 (m : Int)) ∧ slot A.tm 3 = .one ((.o (.ptr N 0 0 2))) ∧ slot A.tm 6 = .one ((.o (.ptr (N + 1) 0 0 3))) ∧ slot A.tm 7 = .one ((.o (.ptr (N + 1 + 1) 0 0 3))) ∧ slot A.tm 8 = .one (c) ∧ slot A.tm 10 = .one (d) ∧ slot A.tm 12 = .one (v) ∧ slot A.tm 13 = .one (.i .i64 (i : Int)) ∧ A.nt = 202 ∧ A.dfr = []) ?_ cs.length
    ⟨0, .o .nilS, none, rfl, Nat.zero_le _, Fr.refl _, .inl ⟨rfl, rfl, rfl, rfl⟩, fun q hq => (by cases hq), zL⟩
  clear t1 t2 t3 t6 t7 hnt hdf A1 l1 l2 k3
  rintro z A H4 ⟨i, v, r, rfl, hi, g4, hown, hrow, t1, t3, t6, t7, t8, t10, t12, t13, hnt, hdf⟩
  have hc4 := hc.gr g4
  have l1 := hc4.len
  have l2 := hc4.lt
  refine zW tyF ?_
  refine zI tyF (fun hx => ?_) (fun hx => ?_)
  · have hlt : i < cs.length := by omega
    have hlt2 : i < ds.length := by have := hl2.out; omega
    have hw2 : IntKind.i64.wrap ((i : Int) + 1) = ((i + 1 : Nat) : Int) := by rw [wrapI (by omega) (by omega)]; omega
    have hdl : (difL cs ds i).length ≤ i := dif_len cs ds i
    have hil : (ints (difL cs ds i)).length = (difL cs ds i).length := List.length_map _
    have hsu := dif_succ cs ds i
    obtain ⟨idc, gc, oc, cc, rfl, hidc, hgc, hatc⟩ := hc4.open (by omega)
    obtain ⟨idd, gd, od, cd, rfl, hidd, hgd, hatd⟩ := (hd.gr g4).open (by omega)
    have ec : cs[i]? = some (cs.getD i 0) := by rw [List.getD_eq_getElem?_getD, List.getElem?_eq_getElem hlt]; rfl
    have ed : ds[i]? = some (ds.getD i 0) := by rw [List.getD_eq_getElem?_getD, List.getElem?_eq_getElem hlt2]; rfl
    obtain ⟨e1, e2⟩ := hatc i _ ec
    obtain ⟨e3, e4⟩ := hatd i _ ed
    clear hatc hatd ec ed l1 l2
    replace hsu : Hd _ := hsu
    replace hil : Hd _ := hil
    replace hc4 : Hd _ := hc4
    by_cases hq : cs.getD i 0 = ds.getD i 0
    · have hse : difL cs ds (i + 1) = difL cs ds i := by rw [hsu.out, if_pos hq, List.append_nil]
      replace hse : Hd _ := hse
      rw [← hq] at e3
      replace hq : Hd _ := hq
      have ce : (cs.getD i 0 == cs.getD i 0) = true := beq_self_eq_true _
      refine zW tyF ?_
      refine R1.s_bl fun K2 q1 q2 q3 q4 => ?_
      refine zW (qA tyF (qA (ixC hlt) (ixC hlt2))) ?_
      refine q1.out _ _ ?_
      refine zW tyF ?_
      exact ⟨cs.length - (i + 1), by omega, i + 1, v, r, rfl, hlt, g4, by rw [hse.out]; exact hown, hrow, zL⟩
    · have hse : difL cs ds (i + 1) = difL cs ds i ++ [i] := by rw [hsu.out, if_neg hq]
      replace hse : Hd _ := hse
      have ce : (cs.getD i 0 == ds.getD i 0) = false := beq_false_of_ne hq
      replace hq : Hd _ := hq
      refine zW tyF ?_
      refine R1.s_bl fun K2 q1 q2 q3 q4 => ?_
      refine zW (qA tyF (qA (ixC hlt) (ixC hlt2))) ?_
      obtain ⟨hlt5, v6, H6, r6, happ, ho6, hf6, hr6⟩ := push_own el_ints by_int hzi hzil (by decide) hown [.i .i64 ((i : Int))] rfl (by have := hil.out; omega)
      clear hzi hzil
      refine zG (qA tyF (qA (repl1) happ)) fun K hK => ?_
      refine ⟨hlt5, ?_⟩
      refine zK tyF ?_
      refine q1.out _ _ ?_
      refine zW tyF ?_
      refine ⟨cs.length - (i + 1), by omega, i + 1, v6, some r6, rfl, hlt, g4.then hf6 fun q hq => .inl (hrow q hq), ?_, fun q hq => ?_, zL⟩
      · have e : ints (difL cs ds (i + 1)) = ints (difL cs ds i) ++ [(i : Int)] := by rw [hse.out]; unfold ints; rw [List.map_append]; rfl
        rw [e, List.length_append, List.flatMap_append]; exact ho6
      · cases hq
        rcases hr6 with e | e
        · exact hrow _ e
        · exact Nat.le_trans g4.nx e
  · have hie : i = cs.length := by omega
    subst hie
    refine zW tyF ?_
    refine k2.out _ _ ?_
    have hD : SlI H4 v (ints (difL cs ds cs.length)) := hown.slc
    have hmd := fun j => (@mem_dif cs ds cs.length j).1
    have hdl := dif_len cs ds cs.length
    have hl2 := hl2.out
    have g14 := g3.gr g4
    have r1 := (g4.get _ n0 not_false).trans r1
    have n0 := Nat.lt_of_lt_of_le n0 g4.nx
    have r2 := (g4.get _ n2 not_false).trans r2
    have n2 := Nat.lt_of_lt_of_le n2 g4.nx
    have r3 := (g4.get _ n3 not_false).trans r3
    have n3 := Nat.lt_of_lt_of_le n3 g4.nx
    have hu := hu.gr g4
    have hd := hd.gr g4
    clear hown hrow t13 hi g3 g4 hzi hzil l1 l2 hx
    generalize difL cs ds cs.length = D at hD hmd hdl hr0 hg0
    have hmd : ∀ j ∈ D, j < cs.length ∧ j < ds.length ∧ j < us.length ∧ us.length ≤ 1000000 := fun j hj => by have := (hmd j hj).1; omega
    have l2 := hD.lt
    have zero : ∀ (A : AAct), slot A.tm 6 = .one (.o (.ptr (N + 1) 0 0 3)) → A.dfr = [] → 0 = r0 → ∃ w H5, callEnd E2 [.cell 6 75] (.ret, A, H4.mod (N + 1) (.arr [.i .i64 0, .o (.str []), .i .i64 0] 75 0 0)) = .ok [(w, H5)] ∧ Gr H H5 ∧ ∀ _ : List Nat, ∃ sg x, w = .agg [.i .i64 r0, .o (.str sg), .i .i64 x] ∧ (r0 ≠ 0 → sg = g0 ∧ x = m) := fun A h1 h2 h3 =>
      fin 0 [] 0 A _ h1 h2 (g14.mod _ (.inl (by omega))) (get_modE rfl) h3 (fun h => absurd h3.symm h)
    have some' : ∀ (A : AAct) (k : Int) (sg : List UInt8), slot A.tm 6 = .one (.o (.ptr (N + 1) 0 0 3)) → A.dfr = [] → k = r0 → sg = g0 → ∃ w H5, callEnd E2 [.cell 6 75] (.ret, A, H4.mod (N + 1) (.arr [.i .i64 k, .o (.str sg), .i .i64 m] 75 0 0)) = .ok [(w, H5)] ∧ Gr H H5 ∧ ∀ _ : List Nat, ∃ sg x, w = .agg [.i .i64 r0, .o (.str sg), .i .i64 x] ∧ (r0 ≠ 0 → sg = g0 ∧ x = m) := fun A k sg h1 h2 h3 h4 =>
      fin k sg m A _ h1 h2 (g14.mod _ (.inl (by omega))) (get_modE rfl) h3 (fun _ => ⟨h4, rfl⟩)
    replace zero : Hd _ := zero
    replace some' : Hd _ := some'
    clear fin
    replace hl2 : Hd _ := hl2
    replace g14 : Hd _ := g14
    rcases D with _ | ⟨a, _ | ⟨b, _ | ⟨e, D⟩⟩⟩
    · have l1 : doLen H4 1 (.one v) = .val (.one (.i .i64 0)) H4 := hD.len
      refine zW tyF ?_
      exact zero.out _ zL qe hr0.out
    · obtain ⟨ha, ha2, ha3, hL⟩ := hmd a (List.mem_cons_self ..)
      obtain ⟨id, g, off, cells, hv, hid, hgr, hat⟩ := hD.open (Nat.succ_pos 0)
      replace hv : v = .o (.sl id g off 1 1) := hv
      have c11 : (((1 : Nat) : Int) == 1) = true := rfl
      have c12 : (((1 : Nat) : Int) == 2) = false := rfl
      subst hv
      obtain ⟨e1, e2⟩ := hat 0 a rfl
      rw [Nat.zero_mul, Nat.add_zero] at e1 e2
      clear hat hD l2
      obtain ⟨idc, gc, oc, cc, rfl, hidc, hgc, hatc⟩ := hc4.open (by omega)
      obtain ⟨idd, gd, od, cd, rfl, hidd, hgd, hatd⟩ := hd.open (by omega)
      obtain ⟨x1, x2⟩ := hatc a (cs.getD a 0) (by rw [List.getD_eq_getElem?_getD, List.getElem?_eq_getElem ha]; rfl)
      obtain ⟨x3, x4⟩ := hatd a (ds.getD a 0) (by rw [List.getD_eq_getElem?_getD, List.getElem?_eq_getElem ha2]; rfl)
      clear hatc hatd hc4 hd hc
      have k1 := bc.out a ha
      have k2 := bd.out a ha2
      obtain ⟨idu, gu, ou, cu, rfl, hidu, hgu, hatu⟩ := hu.open (by omega)
      have hy := hatu a us[a] (List.getElem?_eq_getElem ha3)
      have y1 := hy.fst
      have y2 := hy.le1
      clear hatu hy
      have hr1 : (if cs.getD a 0 = ds.getD a 0 + 1 then (1 : Int) else if cs.getD a 0 + 1 = ds.getD a 0 then 2 else 0) = r0 := hr0.out
      have hsg : us[a].1 = g0 := by
        rw [← hg0.out]
        show _ = (us.getD a ([], 0)).1
        rw [List.getD_eq_getElem?_getD, List.getElem?_eq_getElem ha3]; rfl
      clear hg0
      generalize us[a] = y at y1 hsg
      replace hsg : Hd _ := hsg
      generalize cs.getD a 0 = ca at x1 k1 hr1
      generalize ds.getD a 0 = da at x3 k2 hr1
      have w1 : IntKind.i64.wrap (ca + 1) = ca + 1 := wrapI (by omega) (by omega)
      have w2 : IntKind.i64.wrap (da + 1) = da + 1 := wrapI (by omega) (by omega)
      by_cases c1 : ca = da + 1
      · rw [if_pos c1] at hr1
        replace hr1 : Hd _ := hr1
        have ce : (ca == da + 1) = true := beq_iff_eq.2 c1
        replace c1 : Hd _ := c1
        refine zW (qA tyF (qA (ixC ha) (qA (ixC ha2) (ixC ha3)))) ?_
        exact some'.out _ _ _ zL qe hr1.out hsg.out
      rw [if_neg c1] at hr1
      have ce : (ca == da + 1) = false := beq_false_of_ne c1
      replace c1 : Hd _ := c1
      by_cases c2 : ca + 1 = da
      · rw [if_pos c2] at hr1
        replace hr1 : Hd _ := hr1
        have ce2 : (ca + 1 == da) = true := beq_iff_eq.2 c2
        replace c2 : Hd _ := c2
        refine zW (qA tyF (qA (ixC ha) (qA (ixC ha2) (ixC ha3)))) ?_
        exact some'.out _ _ _ zL qe hr1.out hsg.out
      rw [if_neg c2] at hr1
      have ce2 : (ca + 1 == da) = false := beq_false_of_ne c2
      replace c2 : Hd _ := c2
      replace hr1 : Hd _ := hr1
      refine zW (qA tyF (qA (ixC ha) (qA (ixC ha2) (ixC ha3)))) ?_
      exact zero.out _ zL qe hr1.out
    · obtain ⟨ha, ha2, ha3, hL⟩ := hmd a (List.mem_cons_self ..)
      obtain ⟨hb, hb2, hb3, _⟩ := hmd b (List.mem_cons_of_mem _ (List.mem_cons_self ..))
      obtain ⟨id, g, off, cells, hv, hid, hgr, hat⟩ := hD.open (Nat.succ_pos 1)
      replace hv : v = .o (.sl id g off 2 1) := hv
      have c21 : (((2 : Nat) : Int) == 1) = false := rfl
      have c22 : (((2 : Nat) : Int) == 2) = true := rfl
      subst hv
      obtain ⟨e1, e2⟩ := hat 0 a rfl
      rw [Nat.zero_mul, Nat.add_zero] at e1 e2
      obtain ⟨e3, e4⟩ := hat 1 b rfl
      rw [Nat.one_mul] at e3 e4
      clear hat hD l2
      have ix1 : ∀ (H : Hp) (id g off sz : Nat), doIndexAddr H sz (.one (.o (.sl id g off 2 sz))) (.one (.i .i64 1)) = .val (.one (.o (.ptr id g (off + 1 * sz) sz))) H := fun _ _ _ _ _ => indexAddr_cast (i := 1) (by decide)
      have wab : IntKind.i64.wrap ((a : Int) + 1) = (a : Int) + 1 := wrapI (by omega) (by omega)
      by_cases hba : b = a + 1
      case neg =>
        have ce : ((b : Int) == (a : Int) + 1) = false := beq_false_of_ne (by omega)
        have hr1 := hr0.out
        rw [slipK, if_neg hba] at hr1
        replace hr1 : Hd _ := hr1
        replace hba : Hd _ := hba
        clear hr0
        refine zW (qA tyF ix1) ?_
        exact zero.out _ zL qe hr1.out
      have ce : ((b : Int) == (a : Int) + 1) = true := beq_iff_eq.2 (by omega)
      have hg1 : (if r0 = 3 then us[a].1 else us[b].1) = g0 := by
        rw [← hg0.out]
        show _ = (if slipK cs ds [a, b] = 3 then (us.getD a ([], 0)).1 else (us.getD b ([], 0)).1)
        rw [hr0.out, List.getD_eq_getElem?_getD, List.getD_eq_getElem?_getD, List.getElem?_eq_getElem ha3, List.getElem?_eq_getElem hb3]; rfl
      clear hg0
      have hr1 := hr0.out
      rw [slipK, if_pos hba] at hr1
      replace hba : Hd _ := hba
      clear hr0
      obtain ⟨idc, gc, oc, cc, rfl, hidc, hgc, hatc⟩ := hc4.open (by omega)
      obtain ⟨idd, gd, od, cd, rfl, hidd, hgd, hatd⟩ := hd.open (by omega)
      obtain ⟨x1, x2⟩ := hatc a (cs.getD a 0) (by rw [List.getD_eq_getElem?_getD, List.getElem?_eq_getElem ha]; rfl)
      obtain ⟨x3, x4⟩ := hatd a (ds.getD a 0) (by rw [List.getD_eq_getElem?_getD, List.getElem?_eq_getElem ha2]; rfl)
      obtain ⟨x5, x6⟩ := hatc b (cs.getD b 0) (by rw [List.getD_eq_getElem?_getD, List.getElem?_eq_getElem hb]; rfl)
      obtain ⟨x7, x8⟩ := hatd b (ds.getD b 0) (by rw [List.getD_eq_getElem?_getD, List.getElem?_eq_getElem hb2]; rfl)
      clear hatc hatd hc4 hd hc
      obtain ⟨idu, gu, ou, cu, rfl, hidu, hgu, hatu⟩ := hu.open (by omega)
      have hy := hatu a us[a] (List.getElem?_eq_getElem ha3)
      have y1 := hy.fst
      have y2 := hy.le1
      have hz := hatu b us[b] (List.getElem?_eq_getElem hb3)
      have y3 := hz.fst
      have y4 := hz.le1
      clear hatu hy hz
      generalize us[a] = y at y1 hg1
      generalize us[b] = yb at y3 hg1
      replace hg1 : Hd _ := hg1
      generalize cs.getD a 0 = ca at x1 hr1
      generalize ds.getD a 0 = da at x3 hr1
      generalize cs.getD b 0 = cb at x5 hr1
      generalize ds.getD b 0 = db at x7 hr1
      replace hr1 : Hd _ := hr1
      refine zW (qA tyF (qA ix1 (qA (ixC ha) (qA (ixC ha2) (ixC ha3))))) ?_
      repeat refine R1.s_assoc ?_
      refine R1.s_h (by kernel_rfl) fun K3 hK3 => ?_
      have key : Hd (∀ (bb : Bool) (A : AAct), (bb = true ↔ db = 0 ∧ 1 ≤ da ∧ ca = 0 ∧ cb = da) → slot A.tm 154 = .one (.b bb) ∧ slot A.tm 1 = .one (.i .i64 (m : Int)) ∧ slot A.tm 3 = .one ((.o (.ptr N 0 0 2))) ∧ slot A.tm 6 = .one ((.o (.ptr (N + 1) 0 0 3))) ∧ slot A.tm 7 = .one ((.o (.ptr (N + 1 + 1) 0 0 3))) ∧ slot A.tm 8 = .one ((.o (.sl idc gc oc cs.length 1))) ∧ slot A.tm 10 = .one ((.o (.sl idd gd od ds.length 1))) ∧ slot A.tm 15 = .one (.i .i64 (a : Int)) ∧ slot A.tm 16 = .one (.i .i64 (b : Int)) ∧ A.nt = 202 ∧ A.dfr = [] → K3 A H4) := by
        clear t1 t3 t6 t7 t8 t10 t12 hnt hdf A
        rintro bb A hbb ⟨t154, t1, t3, t6, t7, t8, t10, t15, t16, hnt, hdf⟩
        refine hK3.out _ _ ?_
        clear hK3 K3
        cases bb with
        | true =>
          have hr2 := hr1.out
          rw [if_pos (hbb.1 rfl)] at hr2
          replace hr2 : Hd _ := hr2
          clear hbb x1 x3 x5 x7
          refine zW (qA tyF (qA (ixC ha3) (ixC hb3))) ?_
          exact some'.out _ _ _ zL qe hr2.out (by rw [← hg1.out, if_pos hr2.out.symm])
        | false =>
          have hr2 := hr1.out
          rw [if_neg (fun h => by have := hbb.2 h; cases this)] at hr2
          replace hr2 : Hd _ := hr2
          clear hbb
          refine qX t154 ?_
          refine R1.s_skip ?_
          repeat refine R1.s_assoc ?_
          refine R1.s_h (by kernel_rfl) fun K3 hK3 => ?_
          have key : Hd (∀ (bb : Bool) (A : AAct), (bb = true ↔ da = 0 ∧ 1 ≤ db ∧ cb = 0 ∧ ca = db) → slot A.tm 192 = .one (.b bb) ∧ slot A.tm 1 = .one (.i .i64 (m : Int)) ∧ slot A.tm 3 = .one ((.o (.ptr N 0 0 2))) ∧ slot A.tm 6 = .one ((.o (.ptr (N + 1) 0 0 3))) ∧ slot A.tm 7 = .one ((.o (.ptr (N + 1 + 1) 0 0 3))) ∧ slot A.tm 15 = .one (.i .i64 (a : Int)) ∧ slot A.tm 16 = .one (.i .i64 (b : Int)) ∧ A.nt = 202 ∧ A.dfr = [] → K3 A H4) := by
            clear t1 t3 t6 t7 t8 t10 t15 t16 t154 hnt hdf A
            rintro bb A hbb ⟨t192, t1, t3, t6, t7, t15, t16, hnt, hdf⟩
            refine hK3.out _ _ ?_
            clear hK3 K3
            have hr3 := hr2.out
            cases bb with
            | true =>
              rw [if_pos (hbb.1 rfl)] at hr3
              replace hr3 : Hd _ := hr3
              clear hbb x1 x3 x5 x7
              refine zW (qA tyF (qA (ixC ha3) (ixC hb3))) ?_
              exact some'.out _ _ _ zL qe hr3.out (by rw [← hg1.out, if_neg (fun h => absurd (hr3.out.trans h) (by decide))])
            | false =>
              rw [if_neg (fun h => by have := hbb.2 h; cases this)] at hr3
              replace hr3 : Hd _ := hr3
              clear hbb x1 x3 x5 x7
              refine zW tyF ?_
              exact zero.out _ zL qe hr3.out
          clear hK3
          clear y1 y2 y3 y4
          by_cases s1 : da = 0
          case neg =>
            have fs1 : (da == 0) = false := beq_false_of_ne s1
            replace s1 : Hd _ := s1
            refine zS (qA tyF (qA (ixC ha) (qA (ixC ha2) (qA (ixC hb) (ixC hb2))))) ?_
            exact key.out false _ ⟨fun h => (by cases h), fun h => absurd h.1 s1.out⟩ zL
          have fs1 : (da == 0) = true := beq_iff_eq.2 s1
          replace s1 : Hd _ := s1
          by_cases s2 : 1 ≤ db
          case neg =>
            refine zS (qA tyF (qA (ixC ha) (qA (ixC ha2) (qA (ixC hb) (ixC hb2))))) ?_
            exact key.out false _ ⟨fun h => (by cases h), fun h => absurd h.2.1 s2⟩ zL
          by_cases s3 : cb = 0
          case neg =>
            have fs3 : (cb == 0) = false := beq_false_of_ne s3
            replace s3 : Hd _ := s3
            refine zS (qA tyF (qA (ixC ha) (qA (ixC ha2) (qA (ixC hb) (ixC hb2))))) ?_
            exact key.out false _ ⟨fun h => (by cases h), fun h => absurd h.2.2.1 s3.out⟩ zL
          have fs3 : (cb == 0) = true := beq_iff_eq.2 s3
          replace s3 : Hd _ := s3
          by_cases s4 : ca = db
          case neg =>
            have fs4 : (ca == db) = false := beq_false_of_ne s4
            replace s4 : Hd _ := s4
            refine zS (qA tyF (qA (ixC ha) (qA (ixC ha2) (qA (ixC hb) (ixC hb2))))) ?_
            exact key.out false _ ⟨fun h => (by cases h), fun h => absurd h.2.2.2 s4.out⟩ zL
          have fs4 : (ca == db) = true := beq_iff_eq.2 s4
          replace s4 : Hd _ := s4
          refine zS (qA tyF (qA (ixC ha) (qA (ixC ha2) (qA (ixC hb) (ixC hb2))))) ?_
          exact key.out true _ ⟨fun _ => ⟨s1.out, s2, s3.out, s4.out⟩, fun _ => rfl⟩ zL
      clear hK3
      clear y1 y2 y3 y4
      by_cases p1 : db = 0
      case neg =>
        have fp1 : (db == 0) = false := beq_false_of_ne p1
        replace p1 : Hd _ := p1
        refine zS (qA tyF (qA (ixC ha) (qA (ixC ha2) (qA (ixC hb) (ixC hb2))))) ?_
        exact key.out false _ ⟨fun h => (by cases h), fun h => absurd h.1 p1.out⟩ zL
      have fp1 : (db == 0) = true := beq_iff_eq.2 p1
      replace p1 : Hd _ := p1
      by_cases p2 : 1 ≤ da
      case neg =>
        refine zS (qA tyF (qA (ixC ha) (qA (ixC ha2) (qA (ixC hb) (ixC hb2))))) ?_
        exact key.out false _ ⟨fun h => (by cases h), fun h => absurd h.2.1 p2⟩ zL
      by_cases p3 : ca = 0
      case neg =>
        have fp3 : (ca == 0) = false := beq_false_of_ne p3
        replace p3 : Hd _ := p3
        refine zS (qA tyF (qA (ixC ha) (qA (ixC ha2) (qA (ixC hb) (ixC hb2))))) ?_
        exact key.out false _ ⟨fun h => (by cases h), fun h => absurd h.2.2.1 p3.out⟩ zL
      have fp3 : (ca == 0) = true := beq_iff_eq.2 p3
      replace p3 : Hd _ := p3
      by_cases p4 : cb = da
      case neg =>
        have fp4 : (cb == da) = false := beq_false_of_ne p4
        replace p4 : Hd _ := p4
        refine zS (qA tyF (qA (ixC ha) (qA (ixC ha2) (qA (ixC hb) (ixC hb2))))) ?_
        exact key.out false _ ⟨fun h => (by cases h), fun h => absurd h.2.2.2 p4.out⟩ zL
      have fp4 : (cb == da) = true := beq_iff_eq.2 p4
      replace p4 : Hd _ := p4
      refine zS (qA tyF (qA (ixC ha) (qA (ixC ha2) (qA (ixC hb) (ixC hb2))))) ?_
      exact key.out true _ ⟨fun _ => ⟨p1.out, p2, p3.out, p4.out⟩, fun _ => rfl⟩ zL
    · have k1 : (((D.length + 1 + 1 + 1 : Nat) : Int) == 1) = false := beq_false_of_ne (by omega)
      have k2 : (((D.length + 1 + 1 + 1 : Nat) : Int) == 2) = false := beq_false_of_ne (by omega)
      have l1 : doLen H4 1 (.one v) = .val (.one (.i .i64 ((D.length + 1 + 1 + 1 : Nat) : Int))) H4 := by
        have h := hD.len
        have e : (ints (a :: b :: e :: D)).length = D.length + 1 + 1 + 1 := List.length_map _
        rw [e] at h; exact h
      generalize ((D.length + 1 + 1 + 1 : Nat) : Int) = z at k1 k2 l1
      clear hmd hdl
      refine zW tyF ?_
      exact zero.out _ zL qe hr0.out
end Go.Proofs.YtekoajibckipkaaGreat
