/- A part of the proof: BkSum2, BkSum3, BkSl1, BkSl2, BkSl3, BkSl4, BkSl5, BkSl6. No conditions. -/
import Derived.Test.YtiejeicaaojdlaaGreatRAm
namespace Go.Proofs.YtiejeicaaojdlaaGreat
open Go Go.Eng
theorem bd_valuesF1 : hasBody Tryz.prog 128 = true := by kernel_rfl
theorem bd_valuesPz : hasBody Tryz.prog 90 = true := by kernel_rfl
theorem bd_contI : hasBody Tryz.prog 127 = true := by kernel_rfl
theorem bd_idxI : hasBody Tryz.prog 148 = true := by kernel_rfl
theorem bd_rValuesPz : hasBody Tryz.prog 91 = true := by kernel_rfl
theorem bd_checkValues : hasBody Tryz.prog 56 = true := by kernel_rfl
theorem bd_asked : hasBody Tryz.prog 58 = true := by kernel_rfl
def vbad (n : Int) : Bool := decide (n < 1) || decide (1099511627776 < n)
def idxV : Nat → List Int → Int
 | _, [] => -1
 | n, x :: l => if vbad x = true then (n : Int) else idxV (n + 1) l
theorem idxV_any : ∀ (l : List Int) (n : Nat), decide (0 ≤ idxV n l) = l.any vbad
 | [], _ => rfl
 | x :: l, n => by
  rw [idxV, List.any_cons]
  cases h : vbad x with
  | true => rw [if_pos rfl, Bool.true_or]; exact decide_eq_true (by omega)
  | false => rw [if_neg Bool.false_ne_true, Bool.false_or]; exact idxV_any l (n + 1)
set_option maxRecDepth 10000 in
set_option maxHeartbeats 4000000 in
theorem values1_con (H : Hp) (n : Int) : Con E2 128 [.one (.i .i64 n)] H (fun _ => False) fun r _ => r = .one (.b (vbad n)) := by
 refine Con.of rfl fun lg => ?_
 generalize (⟨H.t, H.nx, lg⟩ : Hp) = H at ⊢
 refine C1.body (E := E2) (nt := 9) (res := [.tmp 2]) Tryz.func128 rfl rfl rfl rfl rfl fun tm hargs => ?_
 have h0 := hargs 0 _ rfl
 clear hargs
 have fin : ∀ (e : Bool) (A : AAct) (H3 : Hp), slot A.tm 2 = .one (.b e) → A.dfr = [] → Gr H H3 → e = vbad n → ∃ w H4, callEnd E2 [.tmp 2] (.ret, A, H3) = .ok [(w, H4)] ∧ Gr H H4 ∧ ∀ _ : List Nat, w = .one (.b (vbad n)) := fun e A H3 h1 h2 h3 h4 => ⟨_, H3, callEnd_one (.b e) (.inr rfl) h2 h1, h3, fun _ => by rw [h4]⟩
 generalize hr0 : vbad n = r0 at fin
 unfold vbad at hr0
 by_cases c0 : n < 1
 ·refine zW tyF ?_
  exact fin (true) _ _ qp qe (Fr.refl _) ((by rw [decide_eq_true c0, Bool.true_or] at hr0; exact hr0))
 ·refine zW tyF ?_
  exact fin ((decide (1099511627776 < n))) _ _ qp qe (Fr.refl _) ((by rw [decide_eq_false c0, Bool.false_or] at hr0; exact hr0))
set_option maxRecDepth 10000 in
set_option maxHeartbeats 4000000 in
theorem idxI_con (H : Hp) (v : AC) (l : List Int) (hv : SlI H v l) (hL : l.length ≤ 4611686018427387904) :
  Con E2 148 [.one v, .one (.o (.clo 128 []))] H (fun _ => False) fun r _ => r = .one (.i .i64 (idxV 0 l)) := by
 refine Con.of rfl fun lg => ?_
 have hv : SlI ⟨H.t, H.nx, lg⟩ v l := hv
 generalize (⟨H.t, H.nx, lg⟩ : Hp) = H at hv ⊢
 refine C1.body (E := E2) (nt := 19) (res := [.tmp 4]) Tryz.func148 rfl rfl rfl rfl rfl fun tm hargs => ?_
 have h0 := hargs 0 _ rfl
 have h1 := hargs 1 _ rfl
 clear hargs
 have fin : ∀ (e : Int) (A : AAct) (H3 : Hp), slot A.tm 4 = .one (.i .i64 e) → A.dfr = [] → Gr H H3 → e = idxV 0 l → ∃ w H4, callEnd E2 [.tmp 4] (.ret, A, H3) = .ok [(w, H4)] ∧ Gr H H4 ∧ ∀ _ : List Nat, w = .one (.i .i64 (idxV 0 l)) := fun e A H3 h1 h2 h3 h4 => ⟨_, H3, callEnd_one (.i .i64 e) (.inr rfl) h2 h1, h3, fun _ => by rw [h4]⟩
 generalize hr0 : idxV 0 l = r0 at fin
 have l1 := hv.len
 have l2 := hv.lt
 refine zW tyF ?_
 refine R1.s_bl fun K k1 k2 k3 k4 => ?_
 refine R1.loop (fun m A H2 => ∃ i : Nat, m = l.length - i ∧ i ≤ l.length ∧ Gr H H2 ∧ idxV i (l.drop i) = r0 ∧ slot A.tm 0 = .one (v) ∧ slot A.tm 1 = .one ((.o (.clo 128 []))) ∧ slot A.tm 7 = .one (.i .i64 (l.length : Int)) ∧ slot A.tm 8 = .one (.i .i64 (i : Int)) ∧ A.nt = 19 ∧ A.dfr = []) ?_ l.length ⟨0, rfl, Nat.zero_le _, Fr.refl _, hr0, zL⟩
 clear h0 h1 tm l1 l2
 rintro m A H2 ⟨i, rfl, hil, g2, hr, t0, t1, t7, t8, hnt, hdf⟩
 refine zW tyF ?_
 refine zI tyF (fun hc => ?_) (fun hc => ?_)
 ·have hlt : i < l.length := by omega
  have ex : l[i]? = some l[i] := List.getElem?_eq_getElem hlt
  have hdr : l.drop i = l[i] :: l.drop (i + 1) := List.drop_eq_getElem_cons hlt
  have htk : l.take (i + 1) = l.take i ++ [l[i]] := List.take_succ_eq_append_getElem hlt
  have hmem : l[i] ∈ l := List.getElem_mem hlt
  generalize l[i] = x at ex hdr htk hmem
  have hw2 : IntKind.i64.wrap ((i : Int) + 1) = ((i + 1 : Nat) : Int) := by rw [wrapI (by omega) (by omega)]; omega
  obtain ⟨id, g, off, cells, rfl, hid, hgr, hat⟩ := (hv.gr g2).open (by omega)
  obtain ⟨e1, e2⟩ := hat i x ex
  rw [hdr, idxV] at hr
  clear hat
  refine zW tyF ?_
  refine R1.s_bl fun K2 q1 q2 q3 q4 => ?_
  refine zW tyF ?_
  refine zG (qA tyF (qA (ixC hlt) bd_valuesF1)) fun K3 hK3 => ?_
  refine WE.con (values1_con H2 x) fun w H4 g4 hw => ?_
  subst hw
  have g4 := g2.gr g4
  cases hb : vbad x with
  | true =>
   refine zK tyF ?_
   exact q4.out _ _ (k4.out _ _ (fin ((i : Int)) _ _ qp qe (g4) ((by rw [if_pos hb] at hr; exact hr))))
  | false =>
   refine zK tyF ?_
   rw [if_neg (by rw [hb]; exact Bool.false_ne_true)] at hr
   refine q1.out _ _ ?_
   refine zW tyF ?_
   exact ⟨l.length - (i + 1), by omega, i + 1, rfl, hlt, g4, hr, zL⟩
 ·have hie : i = l.length := by omega
  refine zW tyF ?_
  refine k2.out _ _ ?_
  refine zW tyF ?_
  rw [hie, List.drop_length, idxV] at hr
  exact fin (-1) _ _ qp qe (g2) (hr)
set_option maxRecDepth 10000 in
set_option maxHeartbeats 4000000 in
theorem contI_con (H : Hp) (v : AC) (l : List Int) (hv : SlI H v l) (hL : l.length ≤ 4611686018427387904) :
  Con E2 127 [.one v, .one (.o (.clo 128 []))] H (fun _ => False) fun r _ => r = .one (.b (l.any vbad)) := by
 refine Con.of rfl fun lg => ?_
 have hv : SlI ⟨H.t, H.nx, lg⟩ v l := hv
 generalize (⟨H.t, H.nx, lg⟩ : Hp) = H at hv ⊢
 refine C1.body (E := E2) (nt := 9) (res := [.tmp 4]) Tryz.func127 rfl rfl rfl rfl rfl fun tm hargs => ?_
 have h0 := hargs 0 _ rfl
 have h1 := hargs 1 _ rfl
 clear hargs
 have fin : ∀ (e : Bool) (A : AAct) (H3 : Hp), slot A.tm 4 = .one (.b e) → A.dfr = [] → Gr H H3 → e = l.any vbad → ∃ w H4, callEnd E2 [.tmp 4] (.ret, A, H3) = .ok [(w, H4)] ∧ Gr H H4 ∧ ∀ _ : List Nat, w = .one (.b (l.any vbad)) := fun e A H3 h1 h2 h3 h4 => ⟨_, H3, callEnd_one (.b e) (.inr rfl) h2 h1, h3, fun _ => by rw [h4]⟩
 generalize hr0 : l.any vbad = r0 at fin
 refine zW tyF ?_
 refine zG (qA tyF bd_idxI) fun K hK => ?_
 refine WE.con (idxI_con H v l hv hL) fun w H4 g4 hw => ?_
 subst hw
 refine zK tyF ?_
 exact fin ((decide (0 ≤ idxV 0 l))) _ _ qp qe (g4) ((idxV_any l 0).trans hr0)
def valB (lc : List Cl) (v : List Int) : Bool := ((v.length : Int) == (lc.length : Int)) && !(v.any vbad)
set_option maxRecDepth 10000 in
set_option maxHeartbeats 4000000 in
theorem values_pz_con (H : Hp) (a b w : AC) (lc : List Cl) (v : List Int) (ha : SlCl H a lc) (hw : SlI H w v) (hL : v.length ≤ 4611686018427387904) :
  Con E2 90 [.agg [a, b], .one w] H (fun _ => False) fun r _ => r = .one (.b (valB lc v)) := by
 refine Con.of rfl fun lg => ?_
 have ha : SlCl ⟨H.t, H.nx, lg⟩ a lc := ha
 have hw : SlI ⟨H.t, H.nx, lg⟩ w v := hw
 generalize (⟨H.t, H.nx, lg⟩ : Hp) = H at ha hw ⊢
 refine C1.body (E := E2) (nt := 16) (res := [.tmp 4]) Tryz.func90 rfl rfl rfl rfl rfl fun tm hargs => ?_
 have h0 := hargs 0 _ rfl
 have h1 := hargs 1 _ rfl
 clear hargs
 have fin : ∀ (e : Bool) (A : AAct) (H3 : Hp), slot A.tm 4 = .one (.b e) → A.dfr = [] → Gr H H3 → e = valB lc v → ∃ w H4, callEnd E2 [.tmp 4] (.ret, A, H3) = .ok [(w, H4)] ∧ Gr H H4 ∧ ∀ _ : List Nat, w = .one (.b (valB lc v)) := fun e A H3 h1 h2 h3 h4 => ⟨_, H3, callEnd_one (.b e) (.inr rfl) h2 h1, h3, fun _ => by rw [h4]⟩
 generalize hr0 : valB lc v = r0 at fin
 unfold valB at hr0
 refine zG tyF fun K hK => ?_
 refine hK.out _ _ ?_
 refine R1.gen (fun A1 H1 => Gr H H1 ∧ H.nx < H1.nx ∧ H1.get H.nx = some (.arr [a, b] 42 0 0) ∧ slot A1.tm 1 = .one (w) ∧ slot A1.tm 2 = .one ((.o (.ptr H.nx 0 0 2))) ∧ A1.nt = 16 ∧ A1.dfr = []) ⟨(Fr.refl _).new _, Nat.lt_succ_self _, get_newE rfl, zL⟩ ?_
 rintro A1 H1 ⟨g1, m1, rx, t1, t2, hnt, hdf⟩
 clear h0 h1 tm hK K
 have ha := ha.gr g1
 have hw := hw.gr g1
 have l1 := ha.len
 have l2 := ha.lt
 have l3 := hw.len
 have l4 := hw.lt
 cases hc : ((v.length : Int) == (lc.length : Int)) with
 | false =>
  refine zW tyF ?_
  exact fin (false) _ _ qp qe (g1) ((by rw [hc, Bool.false_and] at hr0; exact hr0))
 | true =>
  refine zG (qA tyF bd_contI) fun K hK => ?_
  refine WE.con (contI_con H1 w v hw hL) fun w H4 g4 hw => ?_
  subst hw
  refine zK tyF ?_
  exact fin ((!(v.any vbad))) _ _ qp qe (g1.gr g4) ((by rw [hc, Bool.true_and] at hr0; exact hr0))
set_option maxRecDepth 10000 in
set_option maxHeartbeats 4000000 in
theorem rValuesPz_con (H : Hp) (a b w : AC) (lc : List Cl) (v : List Int) (ha : SlCl H a lc) (hw : SlI H w v) (hL : v.length ≤ 4611686018427387904) :
  Con E2 91 [.agg [a, b], .one w] H (fun _ => False) fun r _ => r = .one (.b (valB lc v)) := by
 refine Con.of rfl fun lg => ?_
 have ha : SlCl ⟨H.t, H.nx, lg⟩ a lc := ha
 have hw : SlI ⟨H.t, H.nx, lg⟩ w v := hw
 generalize (⟨H.t, H.nx, lg⟩ : Hp) = H at ha hw ⊢
 refine C1.body (E := E2) (nt := 30) (res := [.tmp 4]) Tryz.func91 rfl rfl rfl rfl rfl fun tm hargs => ?_
 have h0 := hargs 0 _ rfl
 have h1 := hargs 1 _ rfl
 clear hargs
 have fin : ∀ (e : Bool) (A : AAct) (H3 : Hp), slot A.tm 4 = .one (.b e) → A.dfr = [] → Gr H H3 → e = valB lc v → ∃ w H4, callEnd E2 [.tmp 4] (.ret, A, H3) = .ok [(w, H4)] ∧ Gr H H4 ∧ ∀ _ : List Nat, w = .one (.b (valB lc v)) := fun e A H3 h1 h2 h3 h4 => ⟨_, H3, callEnd_one (.b e) (.inr rfl) h2 h1, h3, fun _ => by rw [h4]⟩
 generalize hr0 : valB lc v = r0 at fin
 unfold valB at hr0
 refine zG tyF fun K hK => ?_
 refine hK.out _ _ ?_
 refine R1.gen (fun A1 H1 => Gr H H1 ∧ H.nx < H1.nx ∧ H1.get H.nx = some (.arr [a, b] 42 0 0) ∧ slot A1.tm 1 = .one (w) ∧ slot A1.tm 2 = .one ((.o (.ptr H.nx 0 0 2))) ∧ A1.nt = 30 ∧ A1.dfr = []) ⟨(Fr.refl _).new _, Nat.lt_succ_self _, get_newE rfl, zL⟩ ?_
 rintro A1 H1 ⟨g1, m1, rx, t1, t2, hnt, hdf⟩
 clear h0 h1 tm hK K
 have ha := ha.gr g1
 have hw := hw.gr g1
 have l1 := ha.len
 have l2 := ha.lt
 have l3 := hw.len
 have l4 := hw.lt
 cases hc : ((v.length : Int) == (lc.length : Int)) with
 | false =>
  refine zW tyF ?_
  exact fin (false) _ _ qp qe (g1) ((by rw [hc, Bool.false_and] at hr0; exact hr0))
 | true =>
  rw [hc, Bool.true_and] at hr0
  refine zW tyF ?_
  refine R1.s_bl fun K k1 k2 k3 k4 => ?_
  refine R1.loop (fun m A H2 => ∃ i : Nat, m = v.length - i ∧ i ≤ v.length ∧ H2 = H1 ∧ (!((v.drop i).any vbad)) = r0 ∧ slot A.tm 1 = .one (w) ∧ slot A.tm 5 = .one (.i .i64 (i : Int)) ∧ A.nt = 30 ∧ A.dfr = []) ?_ v.length ⟨0, rfl, Nat.zero_le _, rfl, hr0, zL⟩
  clear t1 t2 hnt hdf A1 hr0
  rintro m A H2 ⟨i, rfl, hil, rfl, hr, t1, t5, hnt, hdf⟩
  refine zW tyF ?_
  refine zI tyF (fun hc => ?_) (fun hc => ?_)
  ·have hlt : i < v.length := by omega
   have ex : v[i]? = some v[i] := List.getElem?_eq_getElem hlt
   have hdr : v.drop i = v[i] :: v.drop (i + 1) := List.drop_eq_getElem_cons hlt
   have htk : v.take (i + 1) = v.take i ++ [v[i]] := List.take_succ_eq_append_getElem hlt
   have hmem : v[i] ∈ v := List.getElem_mem hlt
   generalize v[i] = x at ex hdr htk hmem
   have hw2 : IntKind.i64.wrap ((i : Int) + 1) = ((i + 1 : Nat) : Int) := by rw [wrapI (by omega) (by omega)]; omega
   obtain ⟨id, g, off, cells, rfl, hid, hgr, hat⟩ := hw.open (by omega)
   obtain ⟨e1, e2⟩ := hat i x ex
   rw [hdr, List.any_cons] at hr
   clear hat
   refine zW tyF ?_
   refine R1.s_bl fun K2 q1 q2 q3 q4 => ?_
   by_cases c0 : x < 1
   ·refine zW (qA tyF (ixC hlt)) ?_
    exact q4.out _ _ (k4.out _ _ (fin (false) _ _ qp qe (g1) ((by unfold vbad at hr; rw [decide_eq_true c0, Bool.true_or, Bool.true_or] at hr; exact hr))))
   by_cases c1 : 1099511627776 < x
   ·refine zW (qA tyF (ixC hlt)) ?_
    exact q4.out _ _ (k4.out _ _ (fin (false) _ _ qp qe (g1) ((by unfold vbad at hr; rw [decide_eq_true c1, Bool.or_true, Bool.true_or] at hr; exact hr))))
   refine zW (qA tyF (ixC hlt)) ?_
   refine q1.out _ _ ?_
   refine zW tyF ?_
   have hb : vbad x = false := by unfold vbad; rw [decide_eq_false c0, decide_eq_false c1]; rfl
   rw [hb, Bool.false_or] at hr
   exact ⟨v.length - (i + 1), by omega, i + 1, rfl, hlt, rfl, hr, zL⟩
  ·have hie : i = v.length := by omega
   refine zW tyF ?_
   refine k2.out _ _ ?_
   refine zW tyF ?_
   rw [hie, List.drop_length] at hr
   exact fin (true) _ _ qp qe (g1) (hr)
noncomputable def askE (o : Option (List Lad)) (p : Pz) (v : List Int) : Int := if chkPz o p ≠ 0 then chkPz o p else if valB p.1 v = false then 54 else 0
set_option maxRecDepth 10000 in
set_option maxHeartbeats 4000000 in
theorem checkValues_con (H : Hp) (k a b w : AC) (o : Option (List Lad)) (p : Pz) (v : List Int) (hk : BookO H k o) (hL : ∀ ls, o = some ls → ∀ x ∈ ls, x.2.length ≤ 1000000) (ha : SlCl H a p.1) (hb : SlRl H b p.2) (hB : PzB p) (hw : SlI H w v) (hV : v.length ≤ 4611686018427387904) :
  Con E2 56 [.one k, .agg [a, b], .one w] H (fun _ => False) fun r _ => r = .one (.i .i64 (askE o p v)) := by
 refine Con.of rfl fun lg => ?_
 have hk : BookO ⟨H.t, H.nx, lg⟩ k o := BookO.same (H := H) rfl rfl hk
 have ha : SlCl ⟨H.t, H.nx, lg⟩ a p.1 := ha
 have hb : SlRl ⟨H.t, H.nx, lg⟩ b p.2 := hb
 have hw : SlI ⟨H.t, H.nx, lg⟩ w v := hw
 generalize (⟨H.t, H.nx, lg⟩ : Hp) = H at hk ha hb hw ⊢
 refine C1.body (E := E2) (nt := 18) (res := [.tmp 6]) Tryz.func56 rfl rfl rfl rfl rfl fun tm hargs => ?_
 have h0 := hargs 0 _ rfl
 have h1 := hargs 1 _ rfl
 have h2 := hargs 2 _ rfl
 clear hargs
 have fin : ∀ (e : Int) (A : AAct) (H3 : Hp), slot A.tm 6 = .one (.i .i64 e) → A.dfr = [] → Gr H H3 → e = askE o p v → ∃ w H4, callEnd E2 [.tmp 6] (.ret, A, H3) = .ok [(w, H4)] ∧ Gr H H4 ∧ ∀ _ : List Nat, w = .one (.i .i64 (askE o p v)) := fun e A H3 h1 h2 h3 h4 => ⟨_, H3, callEnd_one (.i .i64 e) (.inr rfl) h2 h1, h3, fun _ => by rw [h4]⟩
 generalize hr0 : askE o p v = r0 at fin
 unfold askE at hr0
 refine zG tyF fun K hK => ?_
 refine hK.out _ _ ?_
 refine R1.gen (fun A1 H1 => Gr H H1 ∧ H.nx < H1.nx ∧ H1.get H.nx = some (.arr [a, b] 42 0 0) ∧ slot A1.tm 0 = .one (k) ∧ slot A1.tm 2 = .one (w) ∧ slot A1.tm 4 = .one ((.o (.ptr H.nx 0 0 2))) ∧ A1.nt = 18 ∧ A1.dfr = []) ⟨(Fr.refl _).new _, Nat.lt_succ_self _, get_newE rfl, zL⟩ ?_
 rintro A1 H1 ⟨g1, m1, rx, t0, t2, t4, hnt, hdf⟩
 clear h0 h1 h2 tm hK K
 have hk := hk.gr g1
 have ha := ha.gr g1
 have hb := hb.gr g1
 have hw := hw.gr g1
 refine zG (qA tyF bd_checkPz) fun K hK => ?_
 refine WE.con (checkPz_con H1 k a b o p hk hL ha hb hB) fun w' H2 g2 hq => ?_
 subst hq
 have rx := (g2.get _ m1 not_false).trans rx
 have m1 := Nat.lt_of_lt_of_le m1 g2.nx
 have ha := ha.gr g2
 have hw := hw.gr g2
 have g2 := g1.gr g2
 clear g1
 generalize chkPz o p = e0 at hr0
 by_cases he0 : e0 = 0
 case neg =>
  have ce : (e0 == 0) = false := beq_false_of_ne he0
  refine zK tyF ?_
  exact fin (e0) _ _ qp qe (g2) ((by rw [if_pos he0] at hr0; exact hr0))
 rw [if_neg (fun h => h he0)] at hr0
 have ce : (e0 == 0) = true := by rw [he0]; rfl
 refine zK tyF ?_
 refine zG (qA tyF bd_valuesPz) fun K hK => ?_
 refine WE.con (values_pz_con H2 a b w p.1 v ha hw hV) fun w' H3 g3 hq => ?_
 subst hq
 have g3 := g2.gr g3
 cases hv : valB p.1 v with
 | false =>
  refine zK tyF ?_
  exact fin (54) _ _ qp qe (g3) ((by rw [if_pos hv] at hr0; exact hr0))
 | true =>
  refine zK tyF ?_
  exact fin (0) _ _ qp qe (g3) ((by rw [hv, if_neg (by decide : ¬ (true = false))] at hr0; exact hr0))
set_option maxRecDepth 10000 in
set_option maxHeartbeats 4000000 in
theorem asked_con (H : Hp) (k a b w : AC) (o : Option (List Lad)) (p : Pz) (v : List Int) (hk : RBkO H k o) (hL : ∀ ls, o = some ls → (∀ x ∈ ls, x.2.length ≤ 1000000) ∧ ls.length ≤ 1000000) (ha : SlCl H a p.1) (hb : SlRl H b p.2) (hB : PzB p) (hw : SlI H w v) (hV : v.length ≤ 4611686018427387904) :
  Con E2 58 [.one k, .agg [a, b], .one w] H (fun _ => False) fun r _ => r = .one (.i .i64 (askE o p v)) := by
 refine Con.of rfl fun lg => ?_
 have hk : RBkO ⟨H.t, H.nx, lg⟩ k o := RBkO.same (H := H) rfl rfl hk
 have ha : SlCl ⟨H.t, H.nx, lg⟩ a p.1 := ha
 have hb : SlRl ⟨H.t, H.nx, lg⟩ b p.2 := hb
 have hw : SlI ⟨H.t, H.nx, lg⟩ w v := hw
 generalize (⟨H.t, H.nx, lg⟩ : Hp) = H at hk ha hb hw ⊢
 refine C1.body (E := E2) (nt := 18) (res := [.tmp 6]) Tryz.func58 rfl rfl rfl rfl rfl fun tm hargs => ?_
 have h0 := hargs 0 _ rfl
 have h1 := hargs 1 _ rfl
 have h2 := hargs 2 _ rfl
 clear hargs
 have fin : ∀ (e : Int) (A : AAct) (H3 : Hp), slot A.tm 6 = .one (.i .i64 e) → A.dfr = [] → Gr H H3 → e = askE o p v → ∃ w H4, callEnd E2 [.tmp 6] (.ret, A, H3) = .ok [(w, H4)] ∧ Gr H H4 ∧ ∀ _ : List Nat, w = .one (.i .i64 (askE o p v)) := fun e A H3 h1 h2 h3 h4 => ⟨_, H3, callEnd_one (.i .i64 e) (.inr rfl) h2 h1, h3, fun _ => by rw [h4]⟩
 generalize hr0 : askE o p v = r0 at fin
 unfold askE at hr0
 refine zG tyF fun K hK => ?_
 refine hK.out _ _ ?_
 refine R1.gen (fun A1 H1 => Gr H H1 ∧ H.nx < H1.nx ∧ H1.get H.nx = some (.arr [a, b] 42 0 0) ∧ slot A1.tm 0 = .one (k) ∧ slot A1.tm 2 = .one (w) ∧ slot A1.tm 4 = .one ((.o (.ptr H.nx 0 0 2))) ∧ A1.nt = 18 ∧ A1.dfr = []) ⟨(Fr.refl _).new _, Nat.lt_succ_self _, get_newE rfl, zL⟩ ?_
 rintro A1 H1 ⟨g1, m1, rx, t0, t2, t4, hnt, hdf⟩
 clear h0 h1 h2 tm hK K
 have hk := hk.gr g1
 have ha := ha.gr g1
 have hb := hb.gr g1
 have hw := hw.gr g1
 refine zG (qA tyF bd_rCheckPz) fun K hK => ?_
 refine WE.con (rCheckPz_con H1 k a b o p hk hL ha hb hB) fun w' H2 g2 hq => ?_
 subst hq
 have rx := (g2.get _ m1 not_false).trans rx
 have m1 := Nat.lt_of_lt_of_le m1 g2.nx
 have ha := ha.gr g2
 have hw := hw.gr g2
 have g2 := g1.gr g2
 clear g1
 generalize chkPz o p = e0 at hr0
 by_cases he0 : e0 = 0
 case neg =>
  have ce : (e0 == 0) = false := beq_false_of_ne he0
  refine zK tyF ?_
  exact fin (e0) _ _ qp qe (g2) ((by rw [if_pos he0] at hr0; exact hr0))
 rw [if_neg (fun h => h he0)] at hr0
 have ce : (e0 == 0) = true := by rw [he0]; rfl
 refine zK tyF ?_
 refine zG (qA tyF bd_rValuesPz) fun K hK => ?_
 refine WE.con (rValuesPz_con H2 a b w p.1 v ha hw hV) fun w' H3 g3 hq => ?_
 subst hq
 have g3 := g2.gr g3
 cases hv : valB p.1 v with
 | false =>
  refine zK tyF ?_
  exact fin (54) _ _ qp qe (g3) ((by rw [if_pos hv] at hr0; exact hr0))
 | true =>
  refine zK tyF ?_
  exact fin (0) _ _ qp qe (g3) ((by rw [hv, if_neg (by decide : ¬ (true = false))] at hr0; exact hr0))
end Go.Proofs.YtiejeicaaojdlaaGreat
namespace Go.Proofs.YtiejeicaaojdlaaGreat
open Go Go.Eng
theorem goR_range {lc : List Cl} : ∀ {lr : List Rl} {T S : List Int}, goR lc T S lr = true → ∀ x ∈ lr, (0 ≤ x.1 ∧ x.1 < lc.length) ∧ ∀ m ∈ x.2, 0 ≤ m ∧ m < lc.length
 | [], _, _, _, _, h => by cases h
 | y :: lr, T, S, h, x, hx => by
  rw [goR] at h
  by_cases c0 : y.1 < 0
  ·rw [if_pos c0] at h; cases h
  rw [if_neg c0] at h
  by_cases c1 : (lc.length : Int) ≤ y.1
  ·rw [if_pos c1] at h; cases h
  rw [if_neg c1] at h
  cases c2 : T.any (fun z => z == y.1) with
  | true => rw [c2, if_pos rfl] at h; cases h
  | false =>
  rw [c2, if_neg Bool.false_ne_true] at h
  cases c3 : partsB lc y.1 [] y.2 with
  | false => rw [c3, if_pos rfl] at h; cases h
  | true =>
  rw [c3, if_neg (by decide : ¬ (true = false))] at h
  rcases List.mem_cons.1 hx with rfl | hx
  ·exact ⟨⟨by omega, by omega⟩, partsB_range lc _ _ [] c3⟩
  ·exact goR_range h x hx
theorem askE_ok {o : Option (List Lad)} {p : Pz} {v : List Int} (h : askE o p v = 0) : p.1.length ≤ 64 ∧ p.2.length ≤ 64 ∧ v.length = p.1.length ∧ chkPz o p = 0 ∧ ∀ x ∈ p.2, (0 ≤ x.1 ∧ x.1 < v.length) ∧ ∀ m ∈ x.2, 0 ≤ m ∧ m < v.length := by
 unfold askE at h
 by_cases c0 : chkPz o p ≠ 0
 ·rw [if_pos c0] at h; exact absurd h c0
 rw [if_neg c0] at h
 have c0 := Classical.not_not.1 c0
 obtain ⟨_, _, h1, h2, _, h4⟩ := chkPz_ok c0
 cases hv : valB p.1 v with
 | false => rw [if_pos hv] at h; cases h
 | true =>
  unfold valB at hv
  rw [Bool.and_eq_true] at hv
  have hl : v.length = p.1.length := by have := eq_of_beq hv.1; omega
  exact ⟨h1, h2, hl, c0, by rw [hl]; exact goR_range h4⟩
end Go.Proofs.YtiejeicaaojdlaaGreat
namespace Go.Proofs.YtiejeicaaojdlaaGreat
open Go Go.Eng
theorem bd_split : hasBody Tryz.prog 163 = true := by kernel_rfl
theorem bd_Split : hasBody Tryz.prog 150 = true := by kernel_rfl
theorem bd_first : hasBody Tryz.prog 98 = true := by kernel_rfl
def splitA : List Pr → Int → List Int
 | [], _ => []
 | [_], n => [n]
 | _ :: y :: l, n => n % y.2 :: splitA (y :: l) (n / y.2)
theorem splitA_len : ∀ (us : List Pr) (n : Int), (splitA us n).length = us.length
 | [], _ => rfl
 | [_], _ => rfl
 | _ :: y :: l, n => by rw [splitA, List.length_cons, splitA_len (y :: l), List.length_cons]; rfl
theorem flatI (l : List Int) : l.flatMap intC = l.map (AC.i .i64) := by
 induction l with
 | nil => rfl
 | cons x l ih => rw [List.flatMap_cons, ih]; rfl
theorem slI_row {H : Hp} {q : Nat} {l : List Int} {lo gen : Nat} (hg : H.get q = some (.arr (l.map (AC.i .i64)) 3 lo gen)) (hl : lo ≤ gen) (hq : q < H.nx) : SlI H (.o (.sl q gen 0 l.length 1)) l :=
 ⟨by rw [flatI, List.length_map, Nat.mul_one], .inr ⟨q, gen, 0, rfl, hq, l.map (AC.i .i64), by rw [hg]; exact rowOf_arr hl (Nat.le_refl _), by rw [List.length_map]; omega, by rw [List.drop_zero, List.take_of_length_le (by rw [List.length_map]; omega), flatI]⟩⟩
theorem setMid {α : Type} (out : List α) (z a : α) (k : Nat) : (out ++ List.replicate (k + 1) z).set out.length a = (out ++ [a]) ++ List.replicate k z := by
 rw [List.set_append_right _ _ (Nat.le_refl _), Nat.sub_self, List.replicate_succ, List.set_cons_zero, List.append_assoc]; rfl
set_option maxRecDepth 10000 in
set_option maxHeartbeats 16000000 in
theorem split_con (H : Hp) (nm : List UInt8) (u : AC) (us : List Pr) (n : Int) (hu : SlP H u us) (hL : us.length ≤ 1000000) (hn0 : 0 ≤ n) (hn : n ≤ 1099511627776) (hf : ∀ x ∈ us, 1 ≤ x.2 ∧ x.2 ≤ 60) :
  Con E2 163 [.agg [.o (.str nm), u], .one (.i .i64 n)] H (fun _ => False) fun r H' => ∃ c, r = .one c ∧ SlI H' c (splitA us n) ∧ ∀ id ∈ (AV.one c).ids, H.nx ≤ id := by
 refine Con.of rfl fun lg => ?_
 have hu : SlP ⟨H.t, H.nx, lg⟩ u us := hu
 have e0 : H.nx = (⟨H.t, H.nx, lg⟩ : Hp).nx := rfl
 rw [e0]
 clear e0
 generalize (⟨H.t, H.nx, lg⟩ : Hp) = H at hu ⊢
 refine C1.body (E := E2) (nt := 48) (res := [.tmp 4]) Tryz.func163 rfl rfl rfl rfl rfl fun tm hargs => ?_
 have h0 := hargs 0 _ rfl
 have h1 := hargs 1 _ rfl
 clear hargs
 obtain ⟨z, hz, hzc⟩ : ∃ z, zeroT Tryz.prog 3 = some z ∧ (ofValue z).cells = [.i .i64 0] := ⟨.int .i64 0, zv_int, rfl⟩
 have mk : ∀ H, doMakeSlice Tryz.prog H 33 (.one (.i .i64 (us.length : Int))) (.one (.i .i64 (us.length : Int))) = .val (.one (.o (.sl H.nx 0 0 us.length 1))) (H.new (.arr ((List.replicate us.length (0 : Int)).map (AC.i .i64)) 3 0 0)) := fun H => by
  rw [make_slice el_ints by_int hz (by rw [hzc]; rfl) (by omega), hzc, repl_eq, List.map_replicate]
 clear hz hzc
 have hu0 := hu
 refine zG tyF fun K hK => ?_
 refine hK.out _ _ ?_
 refine R1.gen (fun A1 H1 => Gr H H1 ∧ H.nx + 1 = H1.nx ∧ H1.get H.nx = some (.arr [.o (.str nm), u] 78 0 0) ∧ slot A1.tm 1 = .one (.i .i64 (n : Int)) ∧ slot A1.tm 2 = .one ((.o (.ptr H.nx 0 0 2))) ∧ A1.nt = 48 ∧ A1.dfr = []) ⟨(Fr.refl _).new _, rfl, get_newE rfl, zL⟩ ?_
 rintro A1 H1 ⟨g1, n1, rx, t1, t2, hnt, hdf⟩
 clear h0 h1 tm hK K
 have m1 : H.nx < H1.nx := by omega
 obtain ⟨N, hN⟩ : ∃ N, N = H.nx := ⟨_, rfl⟩
 rw [← hN] at n1 rx t2 m1
 replace hN : Hd (N = H.nx) := hN
 replace n1 : Hd (N + 1 = H1.nx) := n1
 have hu := hu.gr g1
 have l1 := hu.len
 have l2 := hu.lt
 refine zG (qA tyF mk) fun K hK => ?_
 refine hK.out _ _ ?_
 refine R1.gen (fun A2 H2 => Gr H1 H2 ∧ N + 1 < H2.nx ∧ H2.get (N + 1) = some (.arr ((([] : List Int) ++ List.replicate us.length 0).map (AC.i .i64)) 3 0 0) ∧ slot A2.tm 1 = .one (.i .i64 (n : Int)) ∧ slot A2.tm 2 = .one ((.o (.ptr N 0 0 2))) ∧ slot A2.tm 5 = .one ((.o (.sl (N + 1) 0 0 us.length 1))) ∧ A2.nt = 48 ∧ A2.dfr = [])
  ⟨(Fr.refl _).new _, by have := n1.out; show _ < H1.nx + 1; omega, get_newE n1.out, ?_⟩ ?_
 ·rw [n1.out]; exact zL
 clear t1 t2 hnt hdf A1 mk l1 l2 hK K
 rintro A2 H2 ⟨g2, m2, rs, t1, t2, t5, hnt, hdf⟩
 have rx := (g2.get _ m1 not_false).trans rx
 have m1 := Nat.lt_of_lt_of_le m1 g2.nx
 have hu := hu.gr g2
 have g2 := g1.gr g2
 clear g1 n1
 refine zW (qA tyF m2) ?_
 refine R1.s_bl fun K k1 k2 k3 k4 => ?_
 refine R1.loop (fun m A H3 => ∃ (i : Nat) (out : List Int) (k : Int), m = us.length - i ∧ i ≤ us.length ∧ out.length = i ∧ 0 ≤ k ∧ k ≤ 1099511627776 ∧ Gr H H3 ∧ N < H3.nx ∧ N + 1 < H3.nx ∧ H3.get N = some (.arr [.o (.str nm), u] 78 0 0) ∧ H3.get (N + 1) = some (.arr ((out ++ List.replicate (us.length - i) 0).map (AC.i .i64)) 3 0 0) ∧ out ++ splitA (us.drop i) k = splitA us n ∧
   slot A.tm 1 = .one (.i .i64 (k : Int)) ∧ slot A.tm 2 = .one ((.o (.ptr N 0 0 2))) ∧ slot A.tm 5 = .one ((.o (.sl (N + 1) 0 0 us.length 1))) ∧ slot A.tm 12 = .one (.i .i64 (us.length : Int)) ∧ slot A.tm 13 = .one (.i .i64 (i : Int)) ∧ A.nt = 48 ∧ A.dfr = []) ?_ us.length
  ⟨0, [], n, rfl, Nat.zero_le _, rfl, hn0, hn, g2, m1, m2, rx, rs, rfl, zL⟩
 clear t1 t2 t5 hnt hdf A2 rx rs hu m1 m2 k3 g2
 rintro m A H3 ⟨i, out, k, rfl, hi, hout, hk0, hk1, g3, m1, m2, rx, rs, hsp, t1, t2, t5, t12, t13, hnt, hdf⟩
 refine zW tyF ?_
 refine zI tyF (fun hc => ?_) (fun hc => ?_)
 ·have hlt : i < us.length := by omega
  have hw2 : IntKind.i64.wrap ((i : Int) + 1) = ((i + 1 : Nat) : Int) := by rw [wrapI (by omega) (by omega)]; omega
  have hle : i + 1 ≤ ((out ++ List.replicate (us.length - i) (0 : Int)).map (AC.i .i64)).length := by rw [List.length_map, List.length_append, List.length_replicate]; omega
  have hput : ∀ a : Int, List.take i ((out ++ List.replicate (us.length - i) (0 : Int)).map (AC.i .i64)) ++ AC.i .i64 a :: List.drop (i + 1) ((out ++ List.replicate (us.length - i) (0 : Int)).map (AC.i .i64)) = ((out ++ [a]) ++ List.replicate (us.length - (i + 1)) 0).map (AC.i .i64) := fun a => by
   rw [setRow (AC.i .i64) _ _ a (by rw [List.length_append, List.length_replicate]; omega)]
   have e : us.length - i = (us.length - (i + 1)) + 1 := by omega
   rw [e, ← hout, setMid]
  refine zW tyF ?_
  refine R1.s_bl fun K2 q1 q2 q3 q4 => ?_
  have hsz : (splitA us n).length = us.length := splitA_len us n
  by_cases hlast : i + 1 = us.length
  ·have ce : (((i + 1 : Nat) : Int) == (us.length : Int)) = true := by rw [hlast]; exact beq_self_eq_true _
   replace hlast : Hd (i + 1 = us.length) := hlast
   refine zW (qA tyF (qA (ixC hlt) (qA hput (qA Nat.mul_one hle)))) ?_
   refine q3.out 0 _ _ (by decide) ?_
   refine k2.out _ _ ?_
   refine zW tyF ?_
   have hdr : us.drop i = [us[i]] := by
    rw [List.drop_eq_getElem_cons hlt, List.drop_of_length_le (by have := hlast.out; omega)]
   rw [hdr, splitA] at hsp
   have e0 : us.length - (i + 1) = 0 := by have := hlast.out; omega
   have hsl := slI_row (H := H3.mod (N + 1) (.arr ((splitA us n).map (AC.i .i64)) 3 0 0)) (get_modE rfl) (Nat.le_refl _) m2
   rw [hsz] at hsl
   rw [e0, List.replicate_zero, List.append_nil, hsp]
   exact ⟨_, _, callEnd_one (.o (.sl (N + 1) 0 0 us.length 1)) (.inr rfl) qe qp, g3.mod _ (.inl (by have := hN.out; omega)), fun _ => ⟨_, rfl, hsl, fun k hk => by have := hN.out; rw [List.mem_singleton.1 hk]; omega⟩⟩
  ·have ce : (((i + 1 : Nat) : Int) == (us.length : Int)) = false := beq_false_of_ne (by omega)
   have hlt2 : i + 1 < us.length := by omega
   have hdr : us.drop i = us[i] :: us[i + 1] :: us.drop (i + 2) := by
    rw [List.drop_eq_getElem_cons hlt, List.drop_eq_getElem_cons hlt2]
   have hdr2 : us.drop (i + 1) = us[i + 1] :: us.drop (i + 2) := List.drop_eq_getElem_cons hlt2
   have ey : us[i + 1]? = some us[i + 1] := List.getElem?_eq_getElem hlt2
   obtain ⟨hy1, hy2⟩ := hf us[i + 1] (List.getElem_mem hlt2)
   rw [hdr, splitA, ← hdr2] at hsp
   clear hdr hdr2
   generalize us[i + 1] = y at ey hy1 hy2 hsp
   obtain ⟨id, g, off, cells, rfl, hid0, hgr0, hat⟩ := hu0.open (by omega)
   have hidN : id < N := by have := hN.out; omega
   have hid : id < H3.nx := by omega
   have hgr : rowOf (H3.get id) g = some cells := by rw [g3.get _ hid0 not_false]; exact hgr0
   have hgm : ∀ X, rowOf ((H3.mod (N + 1) X).get id) g = some cells := fun X => by rw [get_modN (by omega)]; exact hgr
   have hgx : ∀ X, (H3.mod (N + 1) X).get N = some (.arr [.o (.str nm), .o (.sl id g off us.length 2)] 78 0 0) := fun X => (get_modN (by omega)).trans rx
   have hy := hat _ y ey
   have y1 := hy.snd
   have y2 := hy.le2
   clear hat hy hid0 hgr0
   have hy0 : y.2 ≠ 0 := by omega
   have e1 : k.tmod y.2 = k % y.2 := Int.tmod_eq_emod_of_nonneg hk0
   have e3 : k / y.2 ≤ k := Int.ediv_le_self _ hk0
   have e4 : 0 ≤ k / y.2 := Int.ediv_nonneg hk0 (by omega)
   have e2 : IntKind.i64.wrap (k.tdiv y.2) = k / y.2 := by rw [Int.tdiv_eq_ediv_of_nonneg hk0]; exact wrapI (by omega) (by omega)
   refine zW (qA tyF (qA (ixC hlt) (qA (ixC hlt2) (qA hput (qA Nat.mul_one (qA hle (qA arQ (qA (quoI hy0) (remI hy0))))))))) ?_
   refine q1.out _ _ ?_
   refine zW tyF ?_
   exact ⟨us.length - (i + 1), by omega, i + 1, out ++ [k % y.2], k / y.2, rfl, hlt, by rw [List.length_append, hout]; rfl, e4, by omega, g3.mod _ (.inl (by have := hN.out; omega)), m1, m2, (get_modN (by omega)).trans rx, get_modE rfl, by rw [List.append_assoc]; exact hsp, zL⟩
 ·have hie : i = us.length := by omega
  refine zW tyF ?_
  refine k2.out _ _ ?_
  refine zW tyF ?_
  rw [hie, List.drop_length, splitA, List.append_nil] at hsp
  rw [hie, Nat.sub_self, List.replicate_zero, List.append_nil, hsp] at rs
  have hsl := slI_row rs (Nat.le_refl _) m2
  rw [splitA_len us n] at hsl
  exact ⟨_, _, callEnd_one (.o (.sl (N + 1) 0 0 us.length 1)) (.inr rfl) qe qp, g3, fun _ => ⟨_, rfl, hsl, fun k hk => by have := hN.out; rw [List.mem_singleton.1 hk]; omega⟩⟩
end Go.Proofs.YtiejeicaaojdlaaGreat
namespace Go.Proofs.YtiejeicaaojdlaaGreat
open Go Go.Eng
theorem bd_rSplit : hasBody Tryz.prog 132 = true := by kernel_rfl
def firstE : List Int → Int
 | [] => 0
 | x :: l => if x = 0 then firstE l else x
set_option maxRecDepth 10000 in
set_option maxHeartbeats 4000000 in
theorem first_con (H : Hp) (w : AC) (l : List Int) (hw : SlI H w l) (hL : l.length ≤ 4611686018427387904) :
  Con E2 98 [.one w] H (fun _ => False) fun r _ => r = .one (.i .i64 (firstE l)) := by
 refine Con.of rfl fun lg => ?_
 have hw : SlI ⟨H.t, H.nx, lg⟩ w l := hw
 generalize (⟨H.t, H.nx, lg⟩ : Hp) = H at hw ⊢
 refine C1.body (E := E2) (nt := 15) (res := [.tmp 2]) Tryz.func98 rfl rfl rfl rfl rfl fun tm hargs => ?_
 have h0 := hargs 0 _ rfl
 clear hargs
 have fin : ∀ (e : Int) (A : AAct) (H3 : Hp), slot A.tm 2 = .one (.i .i64 e) → A.dfr = [] → Gr H H3 → e = firstE l → ∃ w H4, callEnd E2 [.tmp 2] (.ret, A, H3) = .ok [(w, H4)] ∧ Gr H H4 ∧ ∀ _ : List Nat, w = .one (.i .i64 (firstE l)) := fun e A H3 h1 h2 h3 h4 => ⟨_, H3, callEnd_one (.i .i64 e) (.inr rfl) h2 h1, h3, fun _ => by rw [h4]⟩
 generalize hr0 : firstE l = r0 at fin
 have l1 := hw.len
 have l2 := hw.lt
 refine zW tyF ?_
 refine R1.s_bl fun K k1 k2 k3 k4 => ?_
 refine R1.loop (fun m A H2 => ∃ i : Nat, m = l.length - i ∧ i ≤ l.length ∧ H2 = H ∧ firstE (l.drop i) = r0 ∧ slot A.tm 5 = .one (w) ∧ slot A.tm 6 = .one (.i .i64 (l.length : Int)) ∧ slot A.tm 7 = .one (.i .i64 (i : Int)) ∧ A.nt = 15 ∧ A.dfr = []) ?_ l.length ⟨0, rfl, Nat.zero_le _, rfl, hr0, zL⟩
 clear h0 tm hr0 l1 l2
 rintro m A H2 ⟨i, rfl, hil, rfl, hr, t5, t6, t7, hnt, hdf⟩
 refine zW tyF ?_
 refine zI tyF (fun hc => ?_) (fun hc => ?_)
 ·have hlt : i < l.length := by omega
  have ex : l[i]? = some l[i] := List.getElem?_eq_getElem hlt
  have hdr : l.drop i = l[i] :: l.drop (i + 1) := List.drop_eq_getElem_cons hlt
  have htk : l.take (i + 1) = l.take i ++ [l[i]] := List.take_succ_eq_append_getElem hlt
  have hmem : l[i] ∈ l := List.getElem_mem hlt
  generalize l[i] = x at ex hdr htk hmem
  have hw2 : IntKind.i64.wrap ((i : Int) + 1) = ((i + 1 : Nat) : Int) := by rw [wrapI (by omega) (by omega)]; omega
  obtain ⟨id, g, off, cells, rfl, hid, hgr, hat⟩ := hw.open (by omega)
  obtain ⟨e1, e2⟩ := hat i x ex
  rw [hdr, firstE] at hr
  clear hat
  refine zW tyF ?_
  refine R1.s_bl fun K2 q1 q2 q3 q4 => ?_
  by_cases hx : x = 0
  ·have ce : (x == 0) = true := beq_iff_eq.2 hx
   rw [if_pos hx] at hr
   replace hx : Hd (x = 0) := hx
   refine zW (qA tyF (ixC hlt)) ?_
   refine q1.out _ _ ?_
   refine zW tyF ?_
   exact ⟨l.length - (i + 1), by omega, i + 1, rfl, hlt, rfl, hr, zL⟩
  ·have ce : (x == 0) = false := beq_false_of_ne hx
   refine zW (qA tyF (ixC hlt)) ?_
   exact q4.out _ _ (k4.out _ _ (fin (x) _ _ qp qe (Fr.refl _) ((by rw [if_neg hx] at hr; exact hr))))
 ·have hie : i = l.length := by omega
  refine zW tyF ?_
  refine k2.out _ _ ?_
  refine zW tyF ?_
  rw [hie, List.drop_length, firstE] at hr
  exact fin (0) _ _ qp qe (Fr.refl _) (hr)
theorem slI_two {H : Hp} (a b : Int) {e : TypeId} : SlI (H.new (.arr [.i .i64 a, .i .i64 b] e 0 0)) (.o (.sl H.nx 0 0 2 1)) [a, b] :=
 ⟨rfl, .inr ⟨H.nx, 0, 0, rfl, Nat.lt_succ_self _, _, by rw [get_newE rfl]; exact rowOf_arr (Nat.le_refl _) (Nat.le_refl _), Nat.le_refl _, rfl⟩⟩
def splitE (nm : List UInt8) (us : List Pr) (n : Int) : List Int × Int := if chkLad nm us ≠ 0 then ([], chkLad nm us) else if 0 ≤ n ∧ n ≤ 1099511627776 then (splitA us n, 0) else ([], 8)
set_option maxRecDepth 10000 in
set_option maxHeartbeats 8000000 in
theorem splitE_con (H : Hp) (nm : List UInt8) (u : AC) (us : List Pr) (n : Int) (hu : SlP H u us) :
  Con E2 150 [.agg [.o (.str nm), u], .one (.i .i64 n)] H (fun _ => False) fun r H' => ∃ c, r = .tup [(false, [c]), (false, [.i .i64 (splitE nm us n).2])] ∧ SlI H' c (splitE nm us n).1 ∧ ∀ id ∈ (AV.one c).ids, H.nx ≤ id := by
 refine Con.of rfl fun lg => ?_
 have hu : SlP ⟨H.t, H.nx, lg⟩ u us := hu
 have e0 : H.nx = (⟨H.t, H.nx, lg⟩ : Hp).nx := rfl
 rw [e0]
 clear e0
 generalize (⟨H.t, H.nx, lg⟩ : Hp) = H at hu ⊢
 refine C1.body (E := E2) (nt := 24) (res := [.tmp 4, .tmp 5]) Tryz.func150 rfl rfl rfl rfl rfl fun tm hargs => ?_
 have h0 := hargs 0 _ rfl
 have h1 := hargs 1 _ rfl
 clear hargs
 generalize hr0 : splitE nm us n = r0
 have fin : ∀ (c : AC) (e : Int) (A : AAct) (H3 : Hp), slot A.tm 4 = .one c → slot A.tm 5 = .one (.i .i64 e) → A.dfr = [] → Gr H H3 → SlI H3 c r0.1 ∧ e = r0.2 ∧ (∀ id ∈ (AV.one c).ids, H.nx ≤ id) → ∃ w H4, callEnd E2 [.tmp 4, .tmp 5] (.ret, A, H3) = .ok [(w, H4)] ∧ Gr H H4 ∧ ∀ lg' : List Nat, ∃ c, w = .tup [(false, [c]), (false, [.i .i64 r0.2])] ∧ SlI ⟨H4.t, H4.nx, lg'⟩ c r0.1 ∧ ∀ id ∈ (AV.one c).ids, H.nx ≤ id := fun c e A H3 h1 h2 h3 h4 h5 => ⟨_, H3, callEnd_two c (.i .i64 e) (.inr rfl) h3 h1 h2, h4, fun _ => ⟨c, by rw [h5.2.1], h5.1, h5.2.2⟩⟩
 refine zG tyF fun K hK => ?_
 refine hK.out _ _ ?_
 refine R1.gen (fun A1 H1 => Gr H H1 ∧ H.nx < H1.nx ∧ H1.get H.nx = some (.arr [.o (.str nm), u] 78 0 0) ∧ slot A1.tm 1 = .one (.i .i64 (n : Int)) ∧ slot A1.tm 2 = .one ((.o (.ptr H.nx 0 0 2))) ∧ A1.nt = 24 ∧ A1.dfr = []) ⟨(Fr.refl _).new _, Nat.lt_succ_self _, get_newE rfl, zL⟩ ?_
 rintro A1 H1 ⟨g1, m1, rx, t1, t2, hnt, hdf⟩
 clear h0 h1 tm hK K
 have hu := hu.gr g1
 refine zG (qA tyF bd_check) fun K hK => ?_
 refine WE.con (check_con H1 nm u us hu) fun w H2 g2 hq => ?_
 subst hq
 have rx := (g2.get _ m1 not_false).trans rx
 have m1 := Nat.lt_of_lt_of_le m1 g2.nx
 have hu := hu.gr g2
 have g2 := g1.gr g2
 clear g1
 have r2 : repl [AC.i .i64 0] 2 = [.i .i64 0, .i .i64 0] := rfl
 have hok := @chkLad_ok nm us
 unfold splitE at hr0
 generalize chkLad nm us = e0 at hr0 hok
 by_cases c0 : 0 ≤ n
 case neg =>
  refine zS (qA tyF bd_need) ?_
  refine WE.con (need_con H2 false 8) fun w H3 g3 hq => ?_
  subst hq
  have rx := (g3.get _ m1 not_false).trans rx
  have m1 := Nat.lt_of_lt_of_le m1 g3.nx
  have hu := hu.gr g3
  have g3 := g2.gr g3
  refine zS (qA tyF bd_first) ?_
  refine WE.con (first_con _ _ [e0, 8] (slI_two _ _) (by show 2 ≤ _; omega)) fun w H4 g4 hq => ?_
  subst hq
  have g4 : Gr H3 H4 := ((Fr.refl _).new _).gr g4
  have rx := (g4.get _ m1 not_false).trans rx
  have m1 := Nat.lt_of_lt_of_le m1 g4.nx
  have hu := hu.gr g4
  have g4 := g3.gr g4
  by_cases he0 : e0 = 0
  case neg =>
   have ce : (firstE [e0, 8] == 0) = false := by rw [firstE, if_neg he0]; exact beq_false_of_ne he0
   have cf : firstE [e0, 8] = e0 := by rw [firstE, if_neg he0]
   rw [cf] at ce
   refine zK tyF ?_
   exact fin (.o .nilS) (e0) _ _ qp qp qe (g4) (⟨by rw [← hr0, if_pos he0]; exact SlI.nil, by rw [← hr0, if_pos he0], fun _ h => by cases h⟩)
  rw [if_neg (fun h => h he0)] at hr0
  have cf : firstE [e0, 8] = 8 := by rw [firstE, if_pos he0]; rfl
  replace he0 : Hd (e0 = 0) := he0
  refine zK tyF ?_
  exact fin (.o .nilS) (8) _ _ qp qp qe (g4) (⟨by rw [← hr0, if_neg (fun h => c0 h.1)]; exact SlI.nil, by rw [← hr0, if_neg (fun h => c0 h.1)], fun _ h => by cases h⟩)

 by_cases c1 : n ≤ 1099511627776
 case neg =>
  refine zS (qA tyF bd_need) ?_
  refine WE.con (need_con H2 false 8) fun w H3 g3 hq => ?_
  subst hq
  have rx := (g3.get _ m1 not_false).trans rx
  have m1 := Nat.lt_of_lt_of_le m1 g3.nx
  have hu := hu.gr g3
  have g3 := g2.gr g3
  refine zS (qA tyF bd_first) ?_
  refine WE.con (first_con _ _ [e0, 8] (slI_two _ _) (by show 2 ≤ _; omega)) fun w H4 g4 hq => ?_
  subst hq
  have g4 : Gr H3 H4 := ((Fr.refl _).new _).gr g4
  have rx := (g4.get _ m1 not_false).trans rx
  have m1 := Nat.lt_of_lt_of_le m1 g4.nx
  have hu := hu.gr g4
  have g4 := g3.gr g4
  by_cases he0 : e0 = 0
  case neg =>
   have ce : (firstE [e0, 8] == 0) = false := by rw [firstE, if_neg he0]; exact beq_false_of_ne he0
   have cf : firstE [e0, 8] = e0 := by rw [firstE, if_neg he0]
   rw [cf] at ce
   refine zK tyF ?_
   exact fin (.o .nilS) (e0) _ _ qp qp qe (g4) (⟨by rw [← hr0, if_pos he0]; exact SlI.nil, by rw [← hr0, if_pos he0], fun _ h => by cases h⟩)
  rw [if_neg (fun h => h he0)] at hr0
  have cf : firstE [e0, 8] = 8 := by rw [firstE, if_pos he0]; rfl
  replace he0 : Hd (e0 = 0) := he0
  refine zK tyF ?_
  exact fin (.o .nilS) (8) _ _ qp qp qe (g4) (⟨by rw [← hr0, if_neg (fun h => c1 h.2)]; exact SlI.nil, by rw [← hr0, if_neg (fun h => c1 h.2)], fun _ h => by cases h⟩)

 refine zS (qA tyF bd_need) ?_
 refine WE.con (need_con H2 true 8) fun w H3 g3 hq => ?_
 subst hq
 have rx := (g3.get _ m1 not_false).trans rx
 have m1 := Nat.lt_of_lt_of_le m1 g3.nx
 have hu := hu.gr g3
 have g3 := g2.gr g3
 refine zS (qA tyF bd_first) ?_
 refine WE.con (first_con _ _ [e0, 0] (slI_two _ _) (by show 2 ≤ _; omega)) fun w H4 g4 hq => ?_
 subst hq
 have g4 : Gr H3 H4 := ((Fr.refl _).new _).gr g4
 have rx := (g4.get _ m1 not_false).trans rx
 have m1 := Nat.lt_of_lt_of_le m1 g4.nx
 have hu := hu.gr g4
 have g4 := g3.gr g4
 by_cases he0 : e0 = 0
 case neg =>
  have ce : (firstE [e0, 0] == 0) = false := by rw [firstE, if_neg he0]; exact beq_false_of_ne he0
  have cf : firstE [e0, 0] = e0 := by rw [firstE, if_neg he0]
  rw [cf] at ce
  refine zK tyF ?_
  exact fin (.o .nilS) (e0) _ _ qp qp qe (g4) (⟨by rw [← hr0, if_pos he0]; exact SlI.nil, by rw [← hr0, if_pos he0], fun _ h => by cases h⟩)
 rw [if_neg (fun h => h he0)] at hr0
 have cf : firstE [e0, 0] = 0 := by rw [firstE, if_pos he0]; rfl
 obtain ⟨_, _, hf⟩ := hok he0
 have hul := (hok he0).1
 replace he0 : Hd (e0 = 0) := he0
 refine zK tyF ?_
 refine zG (qA tyF bd_split) fun K hK => ?_
 refine WE.con (split_con H4 nm u us n hu (by omega) c0 c1 hf) fun w H5 g5 ⟨c, hq, hc, hfr⟩ => ?_
 subst hq
 refine zK tyF ?_
 exact fin (c) (0) _ _ qp qp qe (g4.gr g5) (⟨by rw [← hr0, if_pos ⟨c0, c1⟩]; exact hc, by rw [← hr0, if_pos ⟨c0, c1⟩], fun id h => Nat.le_trans g4.nx (hfr id h)⟩)
end Go.Proofs.YtiejeicaaojdlaaGreat
namespace Go.Proofs.YtiejeicaaojdlaaGreat
open Go Go.Eng
def topV : List Int → Int → List Int
 | [], _ => []
 | w :: l, n => (l.head?.elim n fun y => n % y) / w :: topV l n
theorem topV_len : ∀ (vs : List Int) (n : Int), (topV vs n).length = vs.length
 | [], _ => rfl
 | _ :: l, n => by rw [topV, List.length_cons, topV_len l, List.length_cons]
theorem valsU_cons {v : Int} {x : Pr} {l : List Pr} {vs : List Int} (h : valsU v (x :: l) = some vs) : ∃ ws, vs = v * x.2 :: ws ∧ valsU (v * x.2) l = some ws := by
 rw [valsU] at h
 by_cases hb : 1099511627776 < v * x.2
 ·rw [if_pos hb] at h; cases h
 ·rw [if_neg hb] at h
  cases hw : valsU (v * x.2) l with
  | none => rw [hw] at h; cases h
  | some ws => rw [hw] at h; cases h; exact ⟨ws, rfl, rfl⟩
theorem valsU_len : ∀ {us : List Pr} {v : Int} {vs : List Int}, valsU v us = some vs → vs.length = us.length
 | [], _, _, h => by cases h; rfl
 | x :: l, v, vs, h => by
  obtain ⟨ws, rfl, hw⟩ := valsU_cons h
  rw [List.length_cons, List.length_cons, valsU_len hw]
theorem valsU_pos : ∀ {us : List Pr} {v : Int} {vs : List Int}, valsU v us = some vs → 1 ≤ v → (∀ x ∈ us, 1 ≤ x.2 ∧ x.2 ≤ 60) → ∀ w ∈ vs, 1 ≤ w ∧ v ∣ w
 | [], _, _, h, _, _, w, hw => by cases h; cases hw
 | x :: l, v, vs, h, hv, hf, w, hw => by
  obtain ⟨ws, rfl, hws⟩ := valsU_cons h
  have h1 := (hf x (List.mem_cons_self ..)).1
  have h2 : 1 ≤ v * x.2 := by have := Int.mul_le_mul hv h1 (by omega) (by omega); omega
  rcases List.mem_cons.1 hw with rfl | hw
  ·exact ⟨h2, Int.dvd_mul_right _ _⟩
  ·obtain ⟨a, b⟩ := valsU_pos hws h2 (fun y hy => hf y (List.mem_cons_of_mem _ hy)) w hw
   exact ⟨a, Int.dvd_trans (Int.dvd_mul_right _ _) b⟩
theorem valsU_dvd : ∀ {us : List Pr} {v : Int} {vs : List Int}, valsU v us = some vs → 1 ≤ v → (∀ x ∈ us, 1 ≤ x.2 ∧ x.2 ≤ 60) → ∀ i a b, vs[i]? = some a → vs[i + 1]? = some b → a ∣ b
 | [], _, _, h, _, _, i, a, b, ha, _ => by cases h; simp at ha
 | x :: l, v, vs, h, hv, hf, i, a, b, ha, hb => by
  obtain ⟨ws, rfl, hws⟩ := valsU_cons h
  have h1 := (hf x (List.mem_cons_self ..)).1
  have h2 : 1 ≤ v * x.2 := by have := Int.mul_le_mul hv h1 (by omega) (by omega); omega
  have hf' : ∀ y ∈ l, 1 ≤ y.2 ∧ y.2 ≤ 60 := fun y hy => hf y (List.mem_cons_of_mem _ hy)
  rw [List.getElem?_cons_succ] at hb
  cases i with
  | zero =>
   rw [List.getElem?_cons_zero] at ha
   cases ha
   exact (valsU_pos hws h2 hf' b (List.mem_of_getElem? hb)).2
  | succ i =>
   rw [List.getElem?_cons_succ] at ha
   exact valsU_dvd hws h2 hf' i a b ha hb
theorem mod_div (n a b : Int) (hn : 0 ≤ n) (ha : 1 ≤ a) (hb : 1 ≤ b) : n % (a * b) / a = n / a % b := by
 obtain ⟨m, rfl⟩ := Int.eq_ofNat_of_zero_le hn
 obtain ⟨x, rfl⟩ := Int.eq_ofNat_of_zero_le (show 0 ≤ a by omega)
 obtain ⟨y, rfl⟩ := Int.eq_ofNat_of_zero_le (show 0 ≤ b by omega)
 have := Nat.mod_mul_right_div_self m x y
 exact_mod_cast this
theorem div_div' (n a b : Int) (hn : 0 ≤ n) (ha : 1 ≤ a) (hb : 1 ≤ b) : n / a / b = n / (a * b) := by
 obtain ⟨m, rfl⟩ := Int.eq_ofNat_of_zero_le hn
 obtain ⟨x, rfl⟩ := Int.eq_ofNat_of_zero_le (show 0 ≤ a by omega)
 obtain ⟨y, rfl⟩ := Int.eq_ofNat_of_zero_le (show 0 ≤ b by omega)
 have := Nat.div_div_eq_div_mul m x y
 exact_mod_cast this
theorem topV_split : ∀ (l : List Pr) (x : Pr) (v : Int) (vs : List Int) (n : Int), valsU v (x :: l) = some vs → 0 ≤ n → 1 ≤ v → (∀ y ∈ x :: l, 1 ≤ y.2 ∧ y.2 ≤ 60) → topV vs n = splitA (x :: l) (n / (v * x.2))
 | [], x, v, vs, n, h, _, _, _ => by
  obtain ⟨ws, rfl, hw⟩ := valsU_cons h
  cases hw
  rfl
 | y :: l, x, v, vs, n, h, hn, hv, hf => by
  obtain ⟨ws, rfl, hw⟩ := valsU_cons h
  have h1 := (hf x (List.mem_cons_self ..)).1
  have hy := (hf y (List.mem_cons_of_mem _ (List.mem_cons_self ..))).1
  have h2 : 1 ≤ v * x.2 := by have := Int.mul_le_mul hv h1 (by omega) (by omega); omega
  have ih := topV_split l y (v * x.2) ws n hw hn h2 fun z hz => hf z (List.mem_cons_of_mem _ hz)
  obtain ⟨zs, rfl, _⟩ := valsU_cons hw
  rw [topV, splitA, ih, List.head?_cons, Option.elim_some, mod_div n _ _ hn h2 hy, div_div' n _ _ hn h2 hy]
theorem setFill {α : Type} (z a : α) (l : List α) : ∀ i : Nat, (List.replicate (i + 1) z ++ l).set i a = List.replicate i z ++ a :: l
 | 0 => rfl
 | i + 1 => by
  rw [List.replicate_succ, List.cons_append, List.set_cons_succ, setFill z a l i, List.replicate_succ, List.cons_append]
end Go.Proofs.YtiejeicaaojdlaaGreat
namespace Go.Proofs.YtiejeicaaojdlaaGreat
open Go Go.Eng
theorem chkLad_first {nm : List UInt8} {us : List Pr} (h : chkLad nm us = 0) : ∃ x l, us = x :: l ∧ x.2 = 1 := by
 unfold chkLad at h
 cases hl : ladOK nm us with
 | false => rw [hl, if_neg Bool.false_ne_true] at h; cases h
 | true =>
  unfold ladOK at hl
  simp only [Bool.and_eq_true] at hl
  obtain ⟨⟨⟨⟨_, h1⟩, _⟩, _⟩, h2⟩ := hl
  cases us with
  | nil => simp at h1
  | cons x l =>
   refine ⟨x, l, rfl, ?_⟩
   have := List.all_eq_true.1 h2 0 (List.mem_range.2 (Nat.succ_pos _))
   unfold okU at this
   simp only [Bool.and_eq_true] at this
   have h3 := this.2
   simp at h3
   exact h3
set_option maxRecDepth 10000 in
set_option maxHeartbeats 16000000 in
theorem rSplit_con (H : Hp) (nm : List UInt8) (u : AC) (us : List Pr) (n : Int) (hu : SlP H u us) :
  Con E2 132 [.agg [.o (.str nm), u], .one (.i .i64 n)] H (fun _ => False) fun r H' => ∃ c, r = .tup [(false, [c]), (false, [.i .i64 (splitE nm us n).2])] ∧ SlI H' c (splitE nm us n).1 := by
 refine Con.of rfl fun lg => ?_
 have hu : SlP ⟨H.t, H.nx, lg⟩ u us := hu
 generalize (⟨H.t, H.nx, lg⟩ : Hp) = H at hu ⊢
 refine C1.body (E := E2) (nt := 53) (res := [.tmp 4, .tmp 5]) Tryz.func132 rfl rfl rfl rfl rfl fun tm hargs => ?_
 have h0 := hargs 0 _ rfl
 have h1 := hargs 1 _ rfl
 clear hargs
 generalize hr0 : splitE nm us n = r0
 have fin : ∀ (c : AC) (e : Int) (A : AAct) (H3 : Hp), slot A.tm 4 = .one c → slot A.tm 5 = .one (.i .i64 e) → A.dfr = [] → Gr H H3 → SlI H3 c r0.1 ∧ e = r0.2 → ∃ w H4, callEnd E2 [.tmp 4, .tmp 5] (.ret, A, H3) = .ok [(w, H4)] ∧ Gr H H4 ∧ ∀ lg' : List Nat, ∃ c, w = .tup [(false, [c]), (false, [.i .i64 r0.2])] ∧ SlI ⟨H4.t, H4.nx, lg'⟩ c r0.1 := fun c e A H3 h1 h2 h3 h4 h5 => ⟨_, H3, callEnd_two c (.i .i64 e) (.inr rfl) h3 h1 h2, h4, fun _ => ⟨c, by rw [h5.2], h5.1⟩⟩
 refine zG tyF fun K hK => ?_
 refine hK.out _ _ ?_
 refine R1.gen (fun A1 H1 => Gr H H1 ∧ H.nx < H1.nx ∧ H1.get H.nx = some (.arr [.o (.str nm), u] 78 0 0) ∧ slot A1.tm 1 = .one (.i .i64 (n : Int)) ∧ slot A1.tm 2 = .one ((.o (.ptr H.nx 0 0 2))) ∧ A1.nt = 53 ∧ A1.dfr = []) ⟨(Fr.refl _).new _, Nat.lt_succ_self _, get_newE rfl, zL⟩ ?_
 rintro A1 H1 ⟨g1, m1, rx, t1, t2, hnt, hdf⟩
 clear h0 h1 tm hK K
 have hu := hu.gr g1
 refine zG (qA tyF bd_refCheck) fun K hK => ?_
 refine WE.con (refCheck_con H1 nm u us hu) fun w H2 g2 hq => ?_
 subst hq
 have rx := (g2.get _ m1 not_false).trans rx
 have m1 := Nat.lt_of_lt_of_le m1 g2.nx
 have hu := hu.gr g2
 have g2 := g1.gr g2
 clear g1
 have hok := @chkLad_ok nm us
 have hfirst := @chkLad_first nm us
 unfold splitE at hr0
 generalize chkLad nm us = e0 at hr0 hok hfirst
 by_cases he0 : e0 = 0
 case neg =>
  have ce : (e0 == 0) = false := beq_false_of_ne he0
  refine zK tyF ?_
  exact fin (.o .nilS) (e0) _ _ qp qp qe (g2) (⟨by rw [← hr0, if_pos he0]; exact SlI.nil, by rw [← hr0, if_pos he0]⟩)
 rw [if_neg (fun h => h he0)] at hr0
 obtain ⟨hul, hyl, hf⟩ := hok he0
 obtain ⟨x0, us', hus, hx0⟩ := hfirst he0
 clear hok hfirst
 have ce : (e0 == 0) = true := by rw [he0]; rfl
 replace he0 : Hd (e0 = 0) := he0
 by_cases c0 : n < 0
 ·refine zK tyF ?_
  exact fin (.o .nilS) (8) _ _ qp qp qe (g2) (⟨by rw [← hr0, if_neg (fun h => absurd h.1 (by omega))]; exact SlI.nil, by rw [← hr0, if_neg (fun h => absurd h.1 (by omega))]⟩)
 by_cases c1 : 1099511627776 < n
 ·refine zK tyF ?_
  exact fin (.o .nilS) (8) _ _ qp qp qe (g2) (⟨by rw [← hr0, if_neg (fun h => absurd h.2 (by omega))]; exact SlI.nil, by rw [← hr0, if_neg (fun h => absurd h.2 (by omega))]⟩)
 rw [if_pos ⟨by omega, by omega⟩] at hr0
 refine zK tyF ?_
 refine zG (qA tyF bd_values) fun K hK => ?_
 refine WE.con (values_con H2 nm u us hu (by omega) hf) fun w H3 g3 ⟨c, hq, hc⟩ => ?_
 subst hq
 obtain ⟨vs, hvs⟩ : ∃ vs, valsU 1 us = some vs := ⟨_, vals_yv 1 us hyl⟩
 rw [hvs, Option.getD_some] at hc
 have hvl : vs.length ≤ 12 := by rw [valsU_len hvs]; exact hul
 have hvp := fun w hw => (valsU_pos hvs (by omega) hf w hw).1
 have hvd := valsU_dvd hvs (by omega) hf
 have htop : topV vs n = splitA us n := by
  have := topV_split us' x0 1 vs n (by rw [← hus]; exact hvs) (by omega) (by omega) (by rw [← hus]; exact hf)
  rw [this, ← hus, hx0, Int.one_mul, Int.ediv_one]
 rw [← htop] at hr0
 have hvs1 : (valsU 1 us).isSome = true := by rw [hvs]; rfl
 have g3 := g2.gr g3
 clear g2 hyl hus htop hvs
 obtain ⟨z, hz, hzc⟩ : ∃ z, zeroT Tryz.prog 3 = some z ∧ (ofValue z).cells = [.i .i64 0] := ⟨.int .i64 0, zv_int, rfl⟩
 have mk : ∀ H, doMakeSlice Tryz.prog H 33 (.one (.i .i64 (vs.length : Int))) (.one (.i .i64 (vs.length : Int))) = .val (.one (.o (.sl H.nx 0 0 vs.length 1))) (H.new (.arr ((List.replicate vs.length (0 : Int)).map (AC.i .i64)) 3 0 0)) := fun H => by
  rw [make_slice el_ints by_int hz (by rw [hzc]; rfl) (by omega), hzc, repl_eq, List.map_replicate]
 clear hz hzc
 have l1 := hc.len
 have l2 := hc.lt
 have hcl : ∀ k ∈ (AV.one c).ids, k < H3.nx := hc.lt
 refine zK tyF ?_
 refine R1.gen (fun A4 H4 => Gr H H4 ∧ SlI H4 c vs ∧ H3.nx < H4.nx ∧ H4.get H3.nx = some (.arr ((List.replicate vs.length (0 : Int) ++ topV (vs.drop vs.length) n).map (AC.i .i64)) 3 0 0) ∧ slot A4.tm 1 = .one (.i .i64 (n : Int)) ∧ slot A4.tm 7 = .one (c) ∧ slot A4.tm 9 = .one ((.o (.sl H3.nx 0 0 vs.length 1))) ∧ A4.nt = 53 ∧ A4.dfr = [])
  ⟨g3.new _, hc.gr ((Fr.refl _).new _), Nat.lt_succ_self _, by rw [get_newE rfl, List.drop_length, topV, List.append_nil], zL⟩ ?_
 clear t1 t2 hnt hdf A1 mk l1 l2 hK K rx m1 hvs1
 rintro A H4 ⟨g4, hc, m2, rs, t1, t7, t9, hnt, hdf⟩
 obtain ⟨M, hM⟩ : ∃ M, M = H3.nx := ⟨_, rfl⟩
 rw [← hM] at m2 rs t9 hcl
 have hMH : H.nx ≤ M := by have := g3.nx; omega
 clear hM
 have hw0 : IntKind.i64.wrap ((vs.length : Int) - 1) = (vs.length : Int) - 1 := wrapI (by omega) (by omega)
 refine zW (qA tyF (qA hc.len hc.lt)) ?_
 refine R1.s_bl fun K k1 k2 k3 k4 => ?_
 refine R1.loop (fun m A H5 => ∃ i : Nat, m = i ∧ i ≤ vs.length ∧ Gr H H5 ∧ Fr (fun k => k = M) H4 H5 ∧ H5.get M = some (.arr ((List.replicate i (0 : Int) ++ topV (vs.drop i) n).map (AC.i .i64)) 3 0 0) ∧ slot A.tm 1 = .one (.i .i64 (((vs[i]?).elim n fun w => n % w) : Int)) ∧ slot A.tm 7 = .one (c) ∧ slot A.tm 9 = .one ((.o (.sl M 0 0 vs.length 1))) ∧ slot A.tm 10 = .one (.i .i64 (((i : Int) - 1) : Int)) ∧ A.nt = 53 ∧ A.dfr = []) ?_ vs.length
  ⟨vs.length, rfl, Nat.le_refl _, g4, Fr.refl _, rs, by rw [List.getElem?_eq_none (Nat.le_refl _), Option.elim_none]; exact zL⟩
 clear t1 t7 t9 hnt hdf A rs hw0 k3
 rintro m A H5 ⟨i, hmi, hi, g5, f5, rs, t1, t7, t9, t10, hnt, hdf⟩
 have hcn : ∀ k ∈ (AV.one c).ids, ¬ k = M := fun k hk e => by have := hcl k hk; omega
 have hc5 : SlI H5 c vs := SlC.fr hc f5 hcn
 have m5 : M < H5.nx := Nat.lt_of_lt_of_le m2 f5.nx
 refine zW tyF ?_
 refine zI tyF (fun hq => ?_) (fun hq => ?_)
 ·obtain ⟨j, rfl⟩ : ∃ j, i = j + 1 := ⟨i - 1, by omega⟩
  have hlt : j < vs.length := by omega
  have ew : vs[j]? = some vs[j] := List.getElem?_eq_getElem hlt
  have hdj : vs.drop j = vs[j] :: vs.drop (j + 1) := List.drop_eq_getElem_cons hlt
  have hwp := hvp vs[j] (List.getElem_mem hlt)
  have hdv := fun b => hvd j vs[j] b ew
  generalize vs[j] = w at ew hdj hwp hdv
  generalize hk : (vs[j + 1]?.elim n fun w => n % w) = k at t1
  have hkw : k % w = (vs[j]?).elim n fun w => n % w := by
   rw [ew, Option.elim_some, ← hk]
   cases hb : vs[j + 1]? with
   | none => rfl
   | some b => rw [Option.elim_some]; exact Int.emod_emod_of_dvd n (hdv b hb)
  have htv : topV (vs.drop j) n = k / w :: topV (vs.drop (j + 1)) n := by
   rw [hdj, topV, ← hk, List.head?_drop]
  have hk0 : 0 ≤ k := by
   rw [← hk]
   cases hb : vs[j + 1]? with
   | none => exact (by omega : 0 ≤ n)
   | some b => exact Int.emod_nonneg _ (by have := hvp b (List.mem_of_getElem? hb); omega)
  have hkn : k ≤ 1099511627776 := by
   rw [← hk]
   cases hb : vs[j + 1]? with
   | none => exact (by omega : n ≤ 1099511627776)
   | some b =>
    have h1 := Int.emod_nonneg n (show b ≠ 0 by have := hvp b (List.mem_of_getElem? hb); omega)
    have h2 := Int.emod_lt_of_pos n (show 0 < b by have := hvp b (List.mem_of_getElem? hb); omega)
    have h3 : n % b ≤ n := by
     obtain ⟨x, rfl⟩ := Int.eq_ofNat_of_zero_le (show 0 ≤ n by omega)
     obtain ⟨y, rfl⟩ := Int.eq_ofNat_of_zero_le (show 0 ≤ b by omega)
     have := Nat.mod_le x y
     exact_mod_cast this
    show n % b ≤ _
    omega
  clear hk hdj hdv
  obtain ⟨id, g, off, cells, rfl, hid, hgr, hat⟩ := hc5.open (by omega)
  have hne : id ≠ M := hcn id (List.mem_singleton.2 rfl)
  obtain ⟨y1, y2⟩ := hat j w ew
  rw [Nat.mul_one] at y1 y2
  have hgm : ∀ X, rowOf ((H5.mod M X).get id) g = some cells := fun X => by rw [get_modN hne]; exact hgr
  have hw0 : w ≠ 0 := by omega
  have e1 : k.tmod w = k % w := Int.tmod_eq_emod_of_nonneg hk0
  have e3 : k / w ≤ k := Int.ediv_le_self _ hk0
  have e4 : 0 ≤ k / w := Int.ediv_nonneg hk0 (by omega)
  have e2 : IntKind.i64.wrap (k.tdiv w) = k / w := by rw [Int.tdiv_eq_ediv_of_nonneg hk0]; exact wrapI (by omega) (by omega)
  have ej : (((j + 1 : Nat) : Int) - 1) = (j : Int) := by omega
  have ej2 : IntKind.i64.wrap ((j : Int) - 1) = (j : Int) - 1 := wrapI (by omega) (by omega)
  rw [ej] at t10
  have hle : j + 1 ≤ ((List.replicate (j + 1) (0 : Int) ++ topV (vs.drop (j + 1)) n).map (AC.i .i64)).length := by rw [List.length_map, List.length_append, List.length_replicate]; omega
  have hput : List.take j ((List.replicate (j + 1) (0 : Int) ++ topV (vs.drop (j + 1)) n).map (AC.i .i64)) ++ AC.i .i64 (k / w) :: List.drop (j + 1) ((List.replicate (j + 1) (0 : Int) ++ topV (vs.drop (j + 1)) n).map (AC.i .i64)) = (List.replicate j (0 : Int) ++ topV (vs.drop j) n).map (AC.i .i64) := by
   rw [setRow (AC.i .i64) _ _ (k / w) (by rw [List.length_append, List.length_replicate]; omega), setFill, ← htv]
  clear htv hat hq
  refine zW tyF ?_
  refine R1.s_bl fun K2 q1 q2 q3 q4 => ?_
  refine zW (qA tyF (qA (ixC hlt) (qA hput (qA Nat.mul_one (qA hle (qA arQ (qA (quoI hw0) (remI hw0)))))))) ?_
  refine q1.out _ _ ?_
  refine zW tyF ?_
  exact ⟨j, by omega, j, rfl, by omega, g5.mod _ (.inl hMH), f5.mod _ (.inr rfl), get_modE rfl, zL⟩
 ·have hie : i = 0 := by omega
  refine zW tyF ?_
  refine k2.out _ _ ?_
  refine zW tyF ?_
  rw [hie, List.drop_zero, List.replicate_zero, List.nil_append] at rs
  have hsl := slI_row rs (Nat.le_refl _) m5
  rw [topV_len] at hsl
  exact fin (.o (.sl M 0 0 vs.length 1)) (0) _ _ qp qp qe (g5) (⟨by rw [← hr0]; exact hsl, by rw [← hr0]⟩)
end Go.Proofs.YtiejeicaaojdlaaGreat
namespace Go.Proofs.YtiejeicaaojdlaaGreat
open Go Go.Eng
theorem bd_slips : hasBody Tryz.prog 129 = true := by kernel_rfl
theorem bd_slips1 : hasBody Tryz.prog 149 = true := by kernel_rfl
theorem bd_room : hasBody Tryz.prog 151 = true := by kernel_rfl
theorem bd_pass : hasBody Tryz.prog 152 = true := by kernel_rfl
abbrev Sp := Int × List UInt8 × Int
def spC (x : Sp) : List AC := [.i .i64 x.1, .o (.str x.2.1), .i .i64 x.2.2]
def okN (m : Int) : Bool := decide (1 ≤ m) && decide (m ≤ 1099511627776)
def roomB (us : List Pr) (i : Nat) (k : Int) : Bool := ((i + 1 : Nat) : Int) == (us.length : Int) || decide (k < (us.getD (i + 1) ([], 0)).2)
def one (b : Bool) (x : Sp) : List Sp := if (b && okN x.2.2) = true then [x] else []
def slipsAt (us : List Pr) (cs vs : List Int) (n : Int) (i : Nat) : List Sp :=
 one (decide (0 < cs.getD i 0)) (1, (us.getD i ([], 0)).1, n - vs.getD i 0) ++ one (roomB us i (cs.getD i 0 + 1)) (2, (us.getD i ([], 0)).1, n + vs.getD i 0) ++
 (if i + 1 = us.length then [] else
  one (cs.getD i 0 == 0 && decide (0 < cs.getD (i + 1) 0) && roomB us i (cs.getD (i + 1) 0)) (3, (us.getD i ([], 0)).1, n - cs.getD (i + 1) 0 * vs.getD (i + 1) 0 + cs.getD (i + 1) 0 * vs.getD i 0) ++
  one (cs.getD (i + 1) 0 == 0 && decide (0 < cs.getD i 0) && roomB us (i + 1) (cs.getD i 0)) (4, (us.getD (i + 1) ([], 0)).1, n - cs.getD i 0 * vs.getD i 0 + cs.getD i 0 * vs.getD (i + 1) 0))
def slA (S : List Sp) (j : Nat) : List AV := match S[j]? with
 | some x => [.agg (spC x)]
 | none => [.any]
theorem slA_len (S : List Sp) (j : Nat) : (slA S j).length = 1 := by
 unfold slA
 split <;> rfl
theorem slA_at {S : List Sp} {j : Nat} {x : Sp} (h : S[j]? = some x) : slA S j = [.agg (spC x)] := by
 unfold slA
 rw [h]
set_option maxRecDepth 10000 in
set_option maxHeartbeats 8000000 in
theorem room_con (H : Hp) (us : List Pr) (cs : List Int) (nm : List UInt8) (u c : AC) (rc il : Nat) (i : Nat) (k : Int) (hu : SlP H u us) (hc : SlI H c cs) (hl : cs.length = us.length) (hi : i < us.length) (hL : us.length ≤ 1000000) (hrc : rc < H.nx) (hil : il < H.nx) (hgc : H.get rc = some (.arr [c] 33 0 0)) (hgl : H.get il = some (.arr [.o (.str nm), u] 78 0 0)) :
  Con E2 151 [.one (.i .i64 (i : Int)), .one (.i .i64 k), .one (.o (.ptr rc 0 0 1)), .one (.o (.ptr il 0 0 2))] H (fun _ => False) fun r _ => r = .one (.b (roomB us i k)) := by
 refine Con.of rfl fun lg => ?_
 have hu : SlP ⟨H.t, H.nx, lg⟩ u us := hu
 have hc : SlI ⟨H.t, H.nx, lg⟩ c cs := hc
 have hrc : rc < Hp.nx ⟨H.t, H.nx, lg⟩ := hrc
 have hil : il < Hp.nx ⟨H.t, H.nx, lg⟩ := hil
 have hgc : Hp.get ⟨H.t, H.nx, lg⟩ rc = some (.arr [c] 33 0 0) := hgc
 have hgl : Hp.get ⟨H.t, H.nx, lg⟩ il = some (.arr [.o (.str nm), u] 78 0 0) := hgl
 generalize (⟨H.t, H.nx, lg⟩ : Hp) = H at hu hc hrc hil hgc hgl ⊢
 refine C1.body (E := E2) (nt := 23) (res := [.tmp 6]) Tryz.func151 rfl rfl rfl rfl rfl fun tm hargs => ?_
 have h0 := hargs 0 _ rfl
 have h1 := hargs 1 _ rfl
 have h2 := hargs 2 _ rfl
 have h3 := hargs 3 _ rfl
 clear hargs
 have fin : ∀ (e : Bool) (A : AAct) (H3 : Hp), slot A.tm 6 = .one (.b e) → A.dfr = [] → Gr H H3 → e = roomB us i k → ∃ w H4, callEnd E2 [.tmp 6] (.ret, A, H3) = .ok [(w, H4)] ∧ Gr H H4 ∧ ∀ _ : List Nat, w = .one (.b (roomB us i k)) := fun e A H3 h1 h2 h3 h4 => ⟨_, H3, callEnd_one (.b e) (.inr rfl) h2 h1, h3, fun _ => by rw [h4]⟩
 generalize hr0 : roomB us i k = r0 at fin
 have l1 := hc.len
 have l2 := hc.lt
 rw [hl] at l1
 replace hl : Hd (cs.length = us.length) := hl
 have hw2 : IntKind.i64.wrap ((i : Int) + 1) = ((i + 1 : Nat) : Int) := by rw [wrapI (by omega) (by omega)]; omega
 unfold roomB at hr0
 cases hcc : (((i + 1 : Nat) : Int) == (us.length : Int)) with
 | true =>
  refine zW tyF ?_
  exact fin (true) _ _ qp qe (Fr.refl _) ((by rw [hcc, Bool.true_or] at hr0; exact hr0))
 | false =>
  have hlt : i + 1 < us.length := by have := ne_of_beq_false hcc; omega
  obtain ⟨id, g, off, cells, rfl, hid, hgr, hat⟩ := hu.open (by omega)
  have ey : us[i + 1]? = some (us.getD (i + 1) ([], 0)) := by rw [List.getD_eq_getElem?_getD, List.getElem?_eq_getElem hlt]; rfl
  have hy := hat _ _ ey
  have y1 := hy.snd
  have y2 := hy.le2
  clear hat
  refine zW (qA tyF (ixC hlt)) ?_
  exact fin ((decide (k < (us.getD (i + 1) ([], 0)).2))) _ _ qp qe (Fr.refl _) ((by rw [hcc, Bool.false_or] at hr0; exact hr0))
set_option maxRecDepth 10000 in
set_option maxHeartbeats 8000000 in
theorem pass_con {σ : Type} {L : Nat} {S : List Sp} {Dn : Nat → Prop} (B : YB E2 L S.length (slA S) Dn σ) (s : σ) (j : Nat) (H : Hp) (us : List Pr) (nm : List UInt8) (u : AC) (rb il : Nat) (kd : Int) (i : Nat) (m : Int) (hj : B.J j s H) (hu : SlP H u us) (hi : i < us.length) (hL : us.length ≤ 1000000) (hrb : rb < H.nx) (hil : il < H.nx)
  (hgb : H.get rb = some (.arr [.o (.yl L)] 230 0 0)) (hgl : H.get il = some (.arr [.o (.str nm), u] 78 0 0)) (hS : okN m = true → S[j]? = some (kd, (us.getD i ([], 0)).1, m)) :
  Con E2 152 [.one (.i .i64 kd), .one (.i .i64 (i : Int)), .one (.i .i64 m), .one (.o (.ptr rb 0 0 1)), .one (.o (.ptr il 0 0 2))] H (B.fp s) fun r H' => ∃ b s', r = .one (.b b) ∧ (b = true → B.J (if okN m = true then j + 1 else j) s' H') ∧ (b = false → B.F s' H') ∧ ∀ k, B.fp s' k → B.fp s k ∨ H.nx ≤ k := by
 refine Con.of rfl fun lg => ?_
 have hj : B.J j s ⟨H.t, H.nx, lg⟩ := B.hJ hj (Nat.le_refl _) fun _ _ => rfl
 have hu : SlP ⟨H.t, H.nx, lg⟩ u us := hu
 have hrb : rb < (⟨H.t, H.nx, lg⟩ : Hp).nx := hrb
 have hil : il < (⟨H.t, H.nx, lg⟩ : Hp).nx := hil
 have hgb : (⟨H.t, H.nx, lg⟩ : Hp).get rb = some (.arr [.o (.yl L)] 230 0 0) := hgb
 have hgl : (⟨H.t, H.nx, lg⟩ : Hp).get il = some (.arr [.o (.str nm), u] 78 0 0) := hgl
 have e0 : H.nx = (⟨H.t, H.nx, lg⟩ : Hp).nx := rfl
 rw [e0]
 clear e0
 generalize (⟨H.t, H.nx, lg⟩ : Hp) = H at hj hu hrb hil hgb hgl ⊢
 generalize hj' : (if okN m = true then j + 1 else j) = j'
 refine C1.body (E := E2) (nt := 28) (res := [.tmp 8]) Tryz.func152 rfl rfl rfl rfl rfl fun tm hargs => ?_
 have h0 := hargs 0 _ rfl
 have h1 := hargs 1 _ rfl
 have h2 := hargs 2 _ rfl
 have h3 := hargs 3 _ rfl
 have h4 := hargs 4 _ rfl
 clear hargs
 have fin : ∀ (b : Bool) (A : AAct) (H3 : Hp) (s' : σ), slot A.tm 8 = .one (.b b) → A.dfr = [] → Fr (B.fp s) H H3 → (b = true → B.J j' s' H3) → (b = false → B.F s' H3) → (∀ k, B.fp s' k → B.fp s k ∨ H.nx ≤ k) →
   ∃ w H4, callEnd E2 [.tmp 8] (.ret, A, H3) = .ok [(w, H4)] ∧ Fr (B.fp s) H H4 ∧ ∀ lg', ∃ b s', w = .one (.b b) ∧ (b = true → B.J j' s' ⟨H4.t, H4.nx, lg'⟩) ∧ (b = false → B.F s' ⟨H4.t, H4.nx, lg'⟩) ∧ ∀ k, B.fp s' k → B.fp s k ∨ H.nx ≤ k := fun b A H3 s' h1 h2 h3 h4 h5 h6 =>
  ⟨_, H3, callEnd_one (.b b) (.inr rfl) h2 h1, h3, fun _ => ⟨b, s', rfl, fun h => B.hJ (h4 h) (Nat.le_refl _) fun _ _ => rfl, fun h => B.hF (h5 h) (Nat.le_refl _) fun _ _ => rfl, h6⟩⟩
 by_cases c0 : m < 1
 ·have hk : okN m = false := by unfold okN; rw [decide_eq_false (by omega)]; rfl
  rw [hk, if_neg Bool.false_ne_true] at hj'
  subst hj'
  refine zW tyF ?_
  exact fin true _ _ s qp qe (Fr.refl _) (fun _ => hj) (fun h => by cases h) fun _ h => .inl h
 by_cases c1 : 1099511627776 < m
 ·have hk : okN m = false := by unfold okN; rw [decide_eq_false (show ¬ m ≤ 1099511627776 by omega), Bool.and_false]
  rw [hk, if_neg Bool.false_ne_true] at hj'
  subst hj'
  refine zW tyF ?_
  exact fin true _ _ s qp qe (Fr.refl _) (fun _ => hj) (fun h => by cases h) fun _ h => .inl h
 have hk : okN m = true := by unfold okN; rw [decide_eq_true (by omega), decide_eq_true (by omega)]; rfl
 rw [hk, if_pos rfl] at hj'
 subst hj'
 have hSj := hS hk
 have hjl : j < S.length := (List.getElem?_eq_some_iff.1 hSj).1
 have hp := B.pass j s H hjl hj
 rw [slA_at hSj, spC] at hp
 obtain ⟨id, g, off, cells, rfl, hid, hgr, hat⟩ := hu.open (by omega)
 have ey : us[i]? = some (us.getD i ([], 0)) := by rw [List.getD_eq_getElem?_getD, List.getElem?_eq_getElem hi]; rfl
 have hy := hat _ _ ey
 have y1 := hy.fst
 have y2 := hy.le1
 clear hat hS hSj hk ey
 generalize us.getD i ([], 0) = y at y1 hp
 refine zW tyF ?_
 refine zG (qA tyF (ixC hi)) fun K hK => ?_
 refine WE.conR hp fun v H4 hf4 ⟨b, s3, hv, hbt, hbf, hfp3⟩ => ?_
 subst hv
 refine zK tyF ?_
 exact fin b _ _ s3 qp qe hf4 hbt hbf hfp3
end Go.Proofs.YtiejeicaaojdlaaGreat
namespace Go.Proofs.YtiejeicaaojdlaaGreat
open Go Go.Eng
theorem drop_one {S R : List Sp} {j : Nat} {x : Sp} (h : S.drop j = one true x ++ R) : (okN x.2.2 = true → S[j]? = some x) ∧ S.drop (if okN x.2.2 = true then j + 1 else j) = R := by
 unfold one at h
 cases hk : okN x.2.2 with
 | true =>
  rw [hk, Bool.true_and, if_pos rfl] at h
  have h0 : (S.drop j)[0]? = some x := by rw [h]; rfl
  rw [List.getElem?_drop] at h0
  refine ⟨fun _ => h0, ?_⟩
  rw [if_pos rfl, ← List.drop_drop, h]; rfl
 | false =>
  rw [hk, Bool.true_and, if_neg Bool.false_ne_true, List.nil_append] at h
  exact ⟨fun h2 => absurd h2 Bool.false_ne_true, (if_neg Bool.false_ne_true).symm ▸ h⟩
theorem drop_none {S R : List Sp} {j : Nat} {x : Sp} (h : S.drop j = one false x ++ R) : S.drop j = R := by
 unfold one at h
 rw [Bool.false_and, if_neg Bool.false_ne_true, List.nil_append] at h
 exact h
def slipsL (us : List Pr) (cs vs : List Int) (n : Int) : List Sp := (List.range us.length).flatMap (slipsAt us cs vs n)
theorem headD_i (l : List Int) (i : Nat) (h : i < l.length) : ((l.map (AC.i .i64)).drop i).headD (.b false) = .i .i64 (l.getD i 0) := by
 rw [← List.map_drop, List.getD_eq_getElem?_getD, List.drop_eq_getElem_cons h, List.getElem?_eq_getElem h]; rfl
def valsS (nm : List UInt8) (us : List Pr) : List Int := us.map fun x => (valL nm us x.1).1
def SmallB (us : List Pr) (cs vs : List Int) : Prop := ∀ i, i < us.length → (0 ≤ cs.getD i 0 ∧ cs.getD i 0 ≤ 1099511627776) ∧ (0 ≤ vs.getD i 0 ∧ vs.getD i 0 ≤ 1099511627776) ∧
 (i + 1 < us.length → (0 ≤ cs.getD (i + 1) 0 * vs.getD (i + 1) 0 ∧ cs.getD (i + 1) 0 * vs.getD (i + 1) 0 ≤ 1099511627776) ∧ (0 ≤ cs.getD (i + 1) 0 * vs.getD i 0 ∧ cs.getD (i + 1) 0 * vs.getD i 0 ≤ 1125899906842624) ∧
  (0 ≤ cs.getD i 0 * vs.getD i 0 ∧ cs.getD i 0 * vs.getD i 0 ≤ 1099511627776) ∧ (0 ≤ cs.getD i 0 * vs.getD (i + 1) 0 ∧ cs.getD i 0 * vs.getD (i + 1) 0 ≤ 1125899906842624))
set_option maxRecDepth 10000 in
set_option maxHeartbeats 64000000 in
theorem slips1_it (H : Hp) (il rn : Nat) (nm : List UInt8) (u : AC) (us : List Pr) (n : Int) (hil : il < H.nx) (hgl : H.get il = some (.arr [.o (.str nm), u] 78 0 0)) (hrn : rn < H.nx) (hgn : H.get rn = some (.arr [.i .i64 n] 3 0 0)) (hu : SlP H u us) (hck : chkLad nm us = 0) (hn1 : 1 ≤ n) (hn2 : n ≤ 1099511627776)
  (cs vs : List Int) (hcs : splitA us n = cs) (hvs : valsS nm us = vs) (hSB : SmallB us cs vs) (S : List Sp) (hS : slipsL us cs vs n = S) :
  ItC E2 149 [(il, 0, 0, 2), (rn, 0, 0, 1)] S.length (slA S) (fun k => k = il ∨ k = rn ∨ k ∈ (AV.one u).ids) H := by
 intro σ L B s H1 hnx hs1 hj
 refine Con.of rfl fun lg => ?_
 have hj : B.J 0 s ⟨H1.t, H1.nx, lg⟩ := B.hJ hj (Nat.le_refl _) fun _ _ => rfl
 have hnx : H.nx ≤ (⟨H1.t, H1.nx, lg⟩ : Hp).nx := hnx
 have hs1 : ∀ k, k < H.nx → (⟨H1.t, H1.nx, lg⟩ : Hp).get k = H.get k := hs1
 have e0 : H1.nx = (⟨H1.t, H1.nx, lg⟩ : Hp).nx := rfl
 rw [e0]
 clear e0
 generalize (⟨H1.t, H1.nx, lg⟩ : Hp) = H1 at hj hnx hs1 ⊢
 have hgl1 : H1.get il = some (.arr [.o (.str nm), u] 78 0 0) := by rw [hs1 _ hil]; exact hgl
 have hgn1 : H1.get rn = some (.arr [.i .i64 n] 3 0 0) := by rw [hs1 _ hrn]; exact hgn
 have hil1 : il < H1.nx := Nat.lt_of_lt_of_le hil hnx
 have hrn1 : rn < H1.nx := Nat.lt_of_lt_of_le hrn hnx
 have hu1 : SlP H1 u us := SlC.of_get hu hnx hs1
 have hfpD : ∀ k, B.fp s k → k < H1.nx ∧ ¬ (k = il ∨ k = rn ∨ k ∈ (AV.one u).ids) := fun k hk => B.hl hj hk
 clear hgl hgn hs1 hu hil hrn hnx
 have hL := (chkLad_ok hck).1
 have hck' := hck
 have hsp : splitE nm us n = (cs, 0) := by unfold splitE; rw [if_neg (fun h => h hck), if_pos ⟨by omega, hn2⟩, hcs]
 have hcl : cs.length = us.length := by rw [← hcs]; exact splitA_len us n
 have hvl : vs.length = us.length := by rw [← hvs]; unfold valsS; exact List.length_map _
 refine C1.body (E := E2) (nt := 180) (res := []) Tryz.func149 rfl rfl rfl rfl rfl fun tm hargs => ?_
 have h0 := hargs 0 _ rfl
 have h1 := hargs 1 _ rfl
 have h2 := hargs 2 _ rfl
 clear hargs
 refine zG tyF fun K hK => ?_
 refine hK.out _ _ ?_
 refine R1.gen (fun A2 H2 => Gr H1 H2 ∧ H1.nx < H2.nx ∧ H2.get H1.nx = some (.arr [.o (.yl L)] 230 0 0) ∧ slot A2.tm 1 = .one ((.o (.ptr il 0 0 2))) ∧ slot A2.tm 2 = .one ((.o (.ptr rn 0 0 1))) ∧ slot A2.tm 3 = .one ((.o (.ptr H1.nx 0 0 1))) ∧ A2.nt = 180 ∧ A2.dfr = []) ⟨(Fr.refl _).new _, Nat.lt_succ_self _, get_newE rfl, zL⟩ ?_
 clear h0 h1 h2 tm hK K
 rintro A2 H2 ⟨g2, mb, rb, t1, t2, t3, hnt, hdf⟩
 obtain ⟨qb, hqb⟩ : ∃ q, q = H1.nx := ⟨_, rfl⟩
 rw [← hqb] at mb rb t3
 replace hqb : Hd (qb = H1.nx) := hqb
 have rl := (g2.get _ hil1 not_false).trans hgl1
 have ml := Nat.lt_of_lt_of_le hil1 g2.nx
 have rn2 := (g2.get _ hrn1 not_false).trans hgn1
 have mn := Nat.lt_of_lt_of_le hrn1 g2.nx
 refine zG (qA tyF bd_Split) fun K hK => ?_
 refine WE.con (splitE_con H2 nm u us n (hu1.gr g2)) fun w H3 g3 ⟨c, hq, hc, hcf⟩ => ?_
 rw [hsp] at hq hc
 subst hq
 have rb := (g3.get _ mb not_false).trans rb
 have mb := Nat.lt_of_lt_of_le mb g3.nx
 have rl := (g3.get _ ml not_false).trans rl
 have ml := Nat.lt_of_lt_of_le ml g3.nx
 have rn2 := (g3.get _ mn not_false).trans rn2
 have mn := Nat.lt_of_lt_of_le mn g3.nx
 have g3 := g2.gr g3
 refine zS tyF ?_
 refine hK.out _ _ ?_
 refine R1.gen (fun A4 H4 => Gr H1 H4 ∧ Gr H3 H4 ∧ H3.nx < H4.nx ∧ H4.get H3.nx = some (.arr [c] 33 0 0) ∧ slot A4.tm 1 = .one ((.o (.ptr il 0 0 2))) ∧ slot A4.tm 2 = .one ((.o (.ptr rn 0 0 1))) ∧ slot A4.tm 3 = .one ((.o (.ptr qb 0 0 1))) ∧ slot A4.tm 4 = .one ((.o (.ptr H3.nx 0 0 1))) ∧ A4.nt = 180 ∧ A4.dfr = [])
  ⟨(g3.new _).mod _ (.inl g3.nx), ((Fr.refl _).new _).mod _ (.inl (Nat.le_refl _)), Nat.lt_succ_self _, get_modE rfl, zL⟩ ?_
 clear t1 t2 t3 hnt hdf A2 hK K
 rintro A H4 ⟨g4, g34, mc, rc, t1, t2, t3, t4, hnt, hdf⟩
 have rb := (g34.get _ mb not_false).trans rb
 have mb := Nat.lt_of_lt_of_le mb g34.nx
 have rl := (g34.get _ ml not_false).trans rl
 have ml := Nat.lt_of_lt_of_le ml g34.nx
 have rn2 := (g34.get _ mn not_false).trans rn2
 have mn := Nat.lt_of_lt_of_le mn g34.nx
 have hqv1 : qb < H4.nx ∧ H3.nx < H4.nx ∧ il < H4.nx ∧ rn < H4.nx ∧ H1.nx ≤ H4.nx := ⟨mb, mc, ml, mn, g4.nx⟩
 have hc4 := hc.gr g34
 have hqc : H1.nx ≤ H3.nx := g3.nx
 obtain ⟨qc, hqc'⟩ : ∃ q, q = H3.nx := ⟨_, rfl⟩
 rw [← hqc'] at mc rc t4 hqc hqv1
 have hcf1 : ∀ k ∈ (AV.one c).ids, H1.nx ≤ k := fun k hk => Nat.le_trans g2.nx (hcf k hk)
 clear hqc' g3 g34 hc hcf
 obtain ⟨z, hz, hzc⟩ : ∃ z, zeroT Tryz.prog 3 = some z ∧ (ofValue z).cells = [.i .i64 0] := ⟨.int .i64 0, zv_int, rfl⟩
 have mk : ∀ H, doMakeSlice Tryz.prog H 33 (.one (.i .i64 (cs.length : Int))) (.one (.i .i64 (cs.length : Int))) = .val (.one (.o (.sl H.nx 0 0 cs.length 1))) (H.new (.arr ((List.replicate cs.length (0 : Int)).map (AC.i .i64)) 3 0 0)) := fun H => by
  rw [make_slice el_ints by_int hz (by rw [hzc]; rfl) (by omega), hzc, repl_eq, List.map_replicate]
 clear hz hzc
 have l1 := hc4.len
 have l2 := hc4.lt
 rw [hcl] at l1 mk
 replace hcl : Hd (cs.length = us.length) := hcl
 replace hvl : Hd (vs.length = us.length) := hvl
 replace hcs : Hd (splitA us n = cs) := hcs
 replace hsp : Hd (splitE nm us n = (cs, 0)) := hsp
 replace hvs : Hd (valsS nm us = vs) := hvs
 replace hck : Hd (chkLad nm us = 0) := hck
 clear hck'
 replace hS : Hd (slipsL us cs vs n = S) := hS
 refine zG (qA tyF mk) fun K hK => ?_
 refine hK.out _ _ ?_
 refine R1.gen (fun A5 H5 => Gr H1 H5 ∧ Gr H4 H5 ∧ H4.nx < H5.nx ∧ H5.get H4.nx = some (.arr ((List.replicate us.length (0 : Int)).map (AC.i .i64)) 3 0 0) ∧ slot A5.tm 1 = .one ((.o (.ptr il 0 0 2))) ∧ slot A5.tm 2 = .one ((.o (.ptr rn 0 0 1))) ∧ slot A5.tm 3 = .one ((.o (.ptr qb 0 0 1))) ∧ slot A5.tm 4 = .one ((.o (.ptr qc 0 0 1))) ∧ slot A5.tm 6 = .one ((.o (.sl H4.nx 0 0 us.length 1))) ∧ A5.nt = 180 ∧ A5.dfr = [])
  ⟨g4.new _, (Fr.refl _).new _, Nat.lt_succ_self _, get_newE rfl, zL⟩ ?_
 clear t1 t2 t3 t4 hnt hdf A hK K mk l1 l2
 rintro A H5 ⟨g5, g45, mv, rv, t1, t2, t3, t4, t6, hnt, hdf⟩
 have rb := (g45.get _ mb not_false).trans rb
 have mb := Nat.lt_of_lt_of_le mb g45.nx
 have rl := (g45.get _ ml not_false).trans rl
 have ml := Nat.lt_of_lt_of_le ml g45.nx
 have rn2 := (g45.get _ mn not_false).trans rn2
 have mn := Nat.lt_of_lt_of_le mn g45.nx
 have rc := (g45.get _ mc not_false).trans rc
 have mc := Nat.lt_of_lt_of_le mc g45.nx
 have hc5 := hc4.gr g45
 have hcv : ∀ k ∈ (AV.one c).ids, k < H4.nx := hc4.lt
 obtain ⟨qv, hqv⟩ : ∃ q, q = H4.nx := ⟨_, rfl⟩
 rw [← hqv] at mv rv t6 hcv hqv1
 clear hqv g45 hc4 g4
 have hu5 := hu1.gr g5
 have l1 := hu5.len
 have l2 := hu5.lt
 refine zW tyF ?_
 obtain ⟨hqb1, hqc1, hqi1, hqn1, hq1⟩ := hqv1
 have RF : ∀ H6, Fr (fun k => k = qv) H5 H6 → (H6.get qb = some (.arr [.o (.yl L)] 230 0 0) ∧ qb < H6.nx) ∧ (H6.get il = some (.arr [.o (.str nm), u] 78 0 0) ∧ il < H6.nx) ∧ (H6.get rn = some (.arr [.i .i64 n] 3 0 0) ∧ rn < H6.nx) ∧ (H6.get qc = some (.arr [c] 33 0 0) ∧ qc < H6.nx) ∧ qv < H6.nx := fun H6 f =>
  ⟨⟨(f.get _ mb (by omega)).trans rb, Nat.lt_of_lt_of_le mb f.nx⟩, ⟨(f.get _ ml (by omega)).trans rl, Nat.lt_of_lt_of_le ml f.nx⟩, ⟨(f.get _ mn (by omega)).trans rn2, Nat.lt_of_lt_of_le mn f.nx⟩, ⟨(f.get _ mc (by omega)).trans rc, Nat.lt_of_lt_of_le mc f.nx⟩, Nat.lt_of_lt_of_le mv f.nx⟩
 have hcne : ∀ k ∈ (AV.one c).ids, ¬ k = qv := fun k hk e => by have := hcv k hk; omega
 refine R1.s_bl fun K k1 k2 k3 k4 => ?_
 refine R1.loop (fun m A H6 => ∃ i : Nat, m = us.length - i ∧ i ≤ us.length ∧ Gr H1 H6 ∧ Fr (fun k => k = qv) H5 H6 ∧ H6.get qv = some (.arr ((vs.take i ++ List.replicate (us.length - i) (0 : Int)).map (AC.i .i64)) 3 0 0) ∧
   slot A.tm 1 = .one ((.o (.ptr il 0 0 2))) ∧ slot A.tm 2 = .one ((.o (.ptr rn 0 0 1))) ∧ slot A.tm 3 = .one ((.o (.ptr qb 0 0 1))) ∧ slot A.tm 4 = .one ((.o (.ptr qc 0 0 1))) ∧ slot A.tm 6 = .one ((.o (.sl qv 0 0 us.length 1))) ∧ slot A.tm 24 = .one (u) ∧ slot A.tm 25 = .one (.i .i64 (us.length : Int)) ∧ slot A.tm 26 = .one (.i .i64 (i : Int)) ∧ A.nt = 180 ∧ A.dfr = []) ?_ us.length
  ⟨0, rfl, Nat.zero_le _, g5, Fr.refl _, rv, zL⟩
 clear t1 t2 t3 t4 t6 hnt hdf A rb rl rn2 rc rv k3 l1 l2 hu5
 rintro m A H6 ⟨i, rfl, hi, g6, f6, rv, t1, t2, t3, t4, t6, t24, t25, t26, hnt, hdf⟩
 refine zW tyF ?_
 refine zI tyF (fun hc => ?_) (fun hc => ?_)
 ·have hlt : i < us.length := by omega
  have ex : us[i]? = some us[i] := List.getElem?_eq_getElem hlt
  have hdr : us.drop i = us[i] :: us.drop (i + 1) := List.drop_eq_getElem_cons hlt
  have htk : us.take (i + 1) = us.take i ++ [us[i]] := List.take_succ_eq_append_getElem hlt
  have hmem : us[i] ∈ us := List.getElem_mem hlt
  generalize us[i] = x at ex hdr htk hmem
  have hw2 : IntKind.i64.wrap ((i : Int) + 1) = ((i + 1 : Nat) : Int) := by rw [wrapI (by omega) (by omega)]; omega
  obtain ⟨id, g, off, cells, rfl, hid, hgr, hat⟩ := (hu1.gr g6).open (by omega)
  have hy := hat _ _ ex
  have y1 := hy.all
  have y2 := hy.le
  have hvx : vs.take (i + 1) = vs.take i ++ [(valL nm us x.1).1] := by
   have e : vs[i]? = some (valL nm us x.1).1 := by rw [← hvs.out]; unfold valsS; rw [List.getElem?_map, ex]; rfl
   obtain ⟨h1, h2⟩ := List.getElem?_eq_some_iff.1 e
   rw [List.take_succ_eq_append_getElem h1, h2]
  clear hat hy hdr htk
  refine zW tyF ?_
  refine R1.s_bl fun K2 q1 q2 q3 q4 => ?_
  refine zG (qA tyF (qA (ixC hlt) prC_e)) fun K3 hK3 => ?_
  refine hK3.out _ _ ?_
  refine R1.gen (fun A7 H7 => Gr H1 H7 ∧ Gr H6 H7 ∧ H6.nx < H7.nx ∧ H7.get H6.nx = some (.arr [.o (.str x.1), .i .i64 x.2] 140 0 0) ∧ slot A7.tm 1 = .one ((.o (.ptr il 0 0 2))) ∧ slot A7.tm 2 = .one ((.o (.ptr rn 0 0 1))) ∧ slot A7.tm 3 = .one ((.o (.ptr qb 0 0 1))) ∧ slot A7.tm 4 = .one ((.o (.ptr qc 0 0 1))) ∧ slot A7.tm 6 = .one ((.o (.sl qv 0 0 us.length 1))) ∧ slot A7.tm 7 = .one (.i .i64 (i : Int)) ∧ slot A7.tm 8 = .one ((.o (.ptr H6.nx 0 0 2))) ∧ slot A7.tm 24 = .one ((.o (.sl id g off us.length 2))) ∧ slot A7.tm 25 = .one (.i .i64 (us.length : Int)) ∧ slot A7.tm 26 = .one (.i .i64 (i : Int)) ∧ A7.nt = 180 ∧ A7.dfr = [])
   ⟨(g6.new _).mod _ (.inl g6.nx), ((Fr.refl _).new _).mod _ (.inl (Nat.le_refl _)), Nat.lt_succ_self _, get_modE rfl, zL⟩ ?_
  clear t1 t2 t3 t4 t6 t24 t25 t26 hnt hdf A y1 y2 hgr hid hK3 K3
  rintro A H7 ⟨g7, g67, m8, r8, t1, t2, t3, t4, t6, t7, t8, t24, t25, t26, hnt, hdf⟩
  have f7 : Fr (fun k => k = qv) H5 H7 := f6.gr g67
  have rv7 := (g67.get _ (RF H6 f6).2.2.2.2 not_false).trans rv
  refine zG (qA tyF (qA (RF H7 f7) bd_value)) fun K3 hK3 => ?_
  refine WE.con (value_con H7 nm _ us x.1 (hu1.gr g7)) fun w H8 g8 hq => ?_
  subst hq
  have f8 : Fr (fun k => k = qv) H5 H8 := f7.gr g8
  have rv8 := (g8.get _ (RF H7 f7).2.2.2.2 not_false).trans rv7
  have g78 := g7.gr g8
  clear rv rv7 r8 m8
  have hlen : (vs.take i).length = i := by have := hvl.out; rw [List.length_take]; omega
  have hle : i + 1 ≤ ((vs.take i ++ List.replicate (us.length - i) (0 : Int)).map (AC.i .i64)).length := by rw [List.length_map, List.length_append, List.length_replicate, hlen]; omega
  have hput : List.take i ((vs.take i ++ List.replicate (us.length - i) (0 : Int)).map (AC.i .i64)) ++ AC.i .i64 (valL nm us x.1).1 :: List.drop (i + 1) ((vs.take i ++ List.replicate (us.length - i) (0 : Int)).map (AC.i .i64)) = (vs.take (i + 1) ++ List.replicate (us.length - (i + 1)) 0).map (AC.i .i64) := by
   rw [setRow (AC.i .i64) _ _ _ (by rw [List.length_append, List.length_replicate, hlen]; omega)]
   have e : us.length - i = (us.length - (i + 1)) + 1 := by omega
   rw [e]
   have e2 := setMid (vs.take i) 0 (valL nm us x.1).1 (us.length - (i + 1))
   rw [hlen] at e2
   rw [e2, hvx]
  replace hlen : Hd ((vs.take i).length = i) := hlen
  clear hvx
  generalize (valL nm us x.1).1 = vx at hput
  generalize (valL nm us x.1).2 = ve
  refine zS (qA tyF (qA (RF H8 f8) (qA (ixC hlt) (qA hput (qA Nat.mul_one hle))))) ?_
  refine hK3.out _ _ ?_
  refine q1.out _ _ ?_
  refine zW tyF ?_
  exact ⟨us.length - (i + 1), by omega, i + 1, rfl, hlt, g78.mod _ (.inl (by omega)), f8.mod _ (.inr rfl), get_modE rfl, zL⟩
 ·have hie : i = us.length := by omega
  refine zW tyF ?_
  refine k2.out _ _ ?_
  clear k1 k2 k4
  have hvl2 : vs.take us.length = vs := by rw [← hvl.out, List.take_length]
  rw [hie, Nat.sub_self, List.replicate_zero, List.append_nil, hvl2] at rv
  replace hie : Hd (i = us.length) := hie
  clear t26 t24 t25 hvl2
  have hc6 : SlI H6 c cs := SlC.fr hc5 f6 hcne
  have l1 := hc6.len
  have l2 := hc6.lt
  rw [hcl.out] at l1
  refine zW (qA tyF (RF H6 f6)) ?_
  have hlp : 0 < us.length := by obtain ⟨x0, l0, e0, _⟩ := chkLad_first hck.out; rw [e0]; exact Nat.succ_pos _
  obtain ⟨idc, gc, offc, cellsc, hce, hidc, hgc, hatc⟩ := hc6.open (by have := hcl.out; omega)
  rw [hcl.out] at hce
  subst hce
  have ec : ∀ j, j < us.length → (cellsc.drop (offc + j)).headD (.b false) = .i .i64 (cs.getD j 0) ∧ offc + j + 1 ≤ cellsc.length := fun j hj => by
   have e : cs[j]? = some (cs.getD j 0) := by have := hcl.out; rw [List.getD_eq_getElem?_getD, List.getElem?_eq_getElem (by omega)]; rfl
   have h := hatc j _ e
   rwa [Nat.mul_one] at h
  have evv : ∀ j, j < us.length → ((vs.map (AC.i .i64)).drop j).headD (.b false) = .i .i64 (vs.getD j 0) ∧ j + 1 ≤ (vs.map (AC.i .i64)).length := fun j hj => by
   have := hvl.out
   exact ⟨headD_i vs j (by omega), by rw [List.length_map]; omega⟩
  have hnD : ∀ k, (H1.nx ≤ k ∨ (k = il ∨ k = rn ∨ k ∈ (AV.one u).ids)) → ¬ B.fp s k := fun k h hf => by
   have h2 := hfpD k hf
   rcases h with h | h
   ·omega
   ·exact h2.2 h
  have hqbn : ¬ B.fp s qb := hnD _ (.inl (by have := hqb.out; omega))
  have hidf : ¬ B.fp s idc := hnD _ (.inl (hcf1 idc (List.mem_singleton.2 rfl)))
  have hun : ∀ k ∈ (AV.one u).ids, ¬ B.fp s k := fun k hk => hnD k (.inr (.inr (.inr hk)))
  have hcn : ∀ k ∈ (AV.one (.o (.sl idc gc offc us.length 1))).ids, ¬ B.fp s k := fun k hk => by rw [List.mem_singleton.1 hk]; exact hidf
  have hu6 := hu1.gr g6
  have RG : ∀ H7, Fr (B.fp s) H6 H7 → (H7.get qb = some (.arr [.o (.yl L)] 230 0 0) ∧ qb < H7.nx) ∧ (H7.get il = some (.arr [.o (.str nm), u] 78 0 0) ∧ il < H7.nx) ∧ (H7.get rn = some (.arr [.i .i64 n] 3 0 0) ∧ rn < H7.nx) ∧ (H7.get qc = some (.arr [.o (.sl idc gc offc us.length 1)] 33 0 0) ∧ qc < H7.nx) ∧ (H7.get qv = some (.arr (vs.map (AC.i .i64)) 3 0 0) ∧ qv < H7.nx) ∧ (rowOf (H7.get idc) gc = some cellsc ∧ idc < H7.nx) := fun H7 f => by
   obtain ⟨⟨a1, a2⟩, ⟨b1, b2⟩, ⟨c1, c2⟩, ⟨d1, d2⟩, e2⟩ := RF H6 f6
   exact ⟨⟨(f.get _ a2 hqbn).trans a1, Nat.lt_of_lt_of_le a2 f.nx⟩, ⟨(f.get _ b2 (hnD _ (.inr (.inl rfl)))).trans b1, Nat.lt_of_lt_of_le b2 f.nx⟩, ⟨(f.get _ c2 (hnD _ (.inr (.inr (.inl rfl))))).trans c1, Nat.lt_of_lt_of_le c2 f.nx⟩, ⟨(f.get _ d2 (hnD _ (.inl hqc))).trans d1, Nat.lt_of_lt_of_le d2 f.nx⟩, ⟨(f.get _ e2 (hnD _ (.inl hq1))).trans rv, Nat.lt_of_lt_of_le e2 f.nx⟩, ⟨by rw [f.get _ hidc hidf]; exact hgc, Nat.lt_of_lt_of_le hidc f.nx⟩⟩
  have hcS : ∀ H7, Fr (B.fp s) H6 H7 → SlI H7 (.o (.sl idc gc offc us.length 1)) cs := fun H7 f => SlC.fr hc6 f hcn
  have huS : ∀ H7, Fr (B.fp s) H6 H7 → SlP H7 u us := fun H7 f => SlC.fr hu6 f hun
  have hj6 : B.J 0 s H6 := B.hJ hj g6.nx fun k hk => g6.get k hk not_false
  have fin : ∀ (e : AExit), e = .normal ∨ e = .ret → ∀ s3 H3 A3, B.J S.length s3 H3 ∨ B.F s3 H3 → Fr (B.fp s) H6 H3 → (∀ k, B.fp s3 k → B.fp s k ∨ H6.nx ≤ k) → A3.dfr = [] → ∃ v H4, callEnd E2 [] (e, A3, H3) = .ok [(v, H4)] ∧ Fr (B.fp s) H1 H4 ∧ ∀ lg', ∃ s', (B.J S.length s' ⟨H4.t, H4.nx, lg'⟩ ∨ B.F s' ⟨H4.t, H4.nx, lg'⟩) ∧ ∀ k, B.fp s' k → B.fp s k ∨ H1.nx ≤ k := fun e he s3 H3 A3 hjf hf hfp hd =>
   ⟨_, H3, callEnd_nil he hd, g6.none.then hf fun k hk => .inr hk, fun lg' => ⟨s3, hjf.imp (fun h => B.hJ (H := H3) h (Nat.le_refl _) fun _ _ => rfl) (fun h => B.hF (H := H3) h (Nat.le_refl _) fun _ _ => rfl), fun k hk => (hfp k hk).imp id fun h => Nat.le_trans g6.nx h⟩⟩
  have hS0 : S.drop 0 = ((List.range us.length).drop 0).flatMap (slipsAt us cs vs n) := by rw [List.drop_zero, List.drop_zero]; exact hS.out.symm
  have n16 := g6.nx
  replace hS0 : Hd _ := hS0
  clear RF hcne hc6 hc5 hu6 rv hatc hgc hj l1 l2 hu1 g5 mb ml mn mc mv hcv hcf1 hlp
  refine R1.e_bl fun K k1 k2 k3 k4 => ?_
  refine R1.loop (fun m A H7 => ∃ (i j : Nat) (s2 : σ), m = us.length - i ∧ i ≤ us.length ∧ j ≤ S.length ∧ B.J j s2 H7 ∧ Fr (B.fp s) H6 H7 ∧ (∀ k, B.fp s2 k → B.fp s k ∨ H6.nx ≤ k) ∧ Hd (S.drop j = ((List.range us.length).drop i).flatMap (slipsAt us cs vs n)) ∧ slot A.tm 2 = .one ((.o (.ptr rn 0 0 1))) ∧ slot A.tm 4 = .one ((.o (.ptr qc 0 0 1))) ∧ slot A.tm 6 = .one ((.o (.sl qv 0 0 us.length 1))) ∧ slot A.tm 9 = .one ((.o (.clo 151 [(qc, 0, 0, 1), (il, 0, 0, 2)]))) ∧ slot A.tm 10 = .one ((.o (.clo 152 [(qb, 0, 0, 1), (il, 0, 0, 2)]))) ∧ slot A.tm 45 = .one (.i .i64 (us.length : Int)) ∧ slot A.tm 46 = .one (.i .i64 (i : Int)) ∧ A.nt = 180 ∧ A.dfr = []) ?_ us.length
   ⟨0, 0, s, rfl, Nat.zero_le _, Nat.zero_le _, hj6, Fr.refl _, fun _ h => .inl h, hS0, zL⟩
  clear t1 t2 t3 t4 t6 hnt hdf A hj6 hS0
  rintro m A H7 ⟨i, j, s2, rfl, hi, hjS, hj7, f7, hfp, hSj, t2, t4, t6, t9, t10, t45, t46, hnt, hdf⟩
  refine zW tyF ?_
  refine zI tyF (fun hc => ?_) (fun hc => ?_)
  ·have hlt : i < us.length := by omega
   have hw2 : IntKind.i64.wrap ((i : Int) + 1) = ((i + 1 : Nat) : Int) := by rw [wrapI (by omega) (by omega)]; omega
   have hfl : ((List.range us.length).drop i).flatMap (slipsAt us cs vs n) = slipsAt us cs vs n i ++ ((List.range us.length).drop (i + 1)).flatMap (slipsAt us cs vs n) := by
    rw [List.drop_eq_getElem_cons (by rw [List.length_range]; exact hlt), List.getElem_range, List.flatMap_cons]
   replace hSj := hSj.out
   rw [hfl] at hSj
   obtain ⟨⟨c0, c1⟩, ⟨v0, v1⟩, hmore⟩ := hSB i hlt
   obtain ⟨ec1, ec2⟩ := ec i hlt
   obtain ⟨ev1, ev2⟩ := evv i hlt
   generalize hR : ((List.range us.length).drop (i + 1)).flatMap (slipsAt us cs vs n) = R at hSj
   replace hR : Hd (((List.range us.length).drop (i + 1)).flatMap (slipsAt us cs vs n) = R) := hR
   clear hfl
   have w1 : IntKind.i64.wrap (n - vs.getD i 0) = n - vs.getD i 0 := wrapI (by omega) (by omega)
   have w2 : IntKind.i64.wrap (n + vs.getD i 0) = n + vs.getD i 0 := wrapI (by omega) (by omega)
   have w3 : IntKind.i64.wrap (cs.getD i 0 + 1) = cs.getD i 0 + 1 := wrapI (by omega) (by omega)
   refine zW tyF ?_
   refine R1.s_bl fun K2 q1 q2 q3 q4 => ?_
   refine zW tyF ?_
   have next : ∀ (s4 : σ) (j4 : Nat) (A8 : AAct) (H8 : Hp), j4 ≤ S.length → B.J j4 s4 H8 → Fr (B.fp s) H6 H8 → (∀ k, B.fp s4 k → B.fp s k ∨ H6.nx ≤ k) → S.drop j4 = R → slot A8.tm 2 = .one ((.o (.ptr rn 0 0 1))) ∧ slot A8.tm 4 = .one ((.o (.ptr qc 0 0 1))) ∧ slot A8.tm 6 = .one ((.o (.sl qv 0 0 us.length 1))) ∧ slot A8.tm 9 = .one ((.o (.clo 151 [(qc, 0, 0, 1), (il, 0, 0, 2)]))) ∧ slot A8.tm 10 = .one ((.o (.clo 152 [(qb, 0, 0, 1), (il, 0, 0, 2)]))) ∧ slot A8.tm 45 = .one (.i .i64 (us.length : Int)) ∧ slot A8.tm 46 = .one (.i .i64 (i : Int)) ∧ A8.nt = 180 ∧ A8.dfr = [] → K2 .normal A8 H8 ∧ K2 (.exit 3) A8 H8 := by
    clear t2 t4 t6 t9 t10 t45 t46 hnt hdf A
    rintro s4 j4 A H8 hjS8 hj8 f8 hfp8 hS8 ⟨t2, t4, t6, t9, t10, t45, t46, hnt, hdf⟩
    replace hS8 : Hd (S.drop j4 = ((List.range us.length).drop (i + 1)).flatMap (slipsAt us cs vs n)) := hS8.trans hR.out.symm
    refine ⟨q1.out _ _ ?_, q2.out _ _ ?_⟩
    ·refine zW tyF ?_
     exact ⟨us.length - (i + 1), by omega, i + 1, j4, s4, rfl, hlt, hjS8, hj8, f8, hfp8, hS8, zL⟩
    ·refine zW tyF ?_
     exact ⟨us.length - (i + 1), by omega, i + 1, j4, s4, rfl, hlt, hjS8, hj8, f8, hfp8, hS8, zL⟩
   have stop : ∀ (s4 : σ) (A8 : AAct) (H8 : Hp), B.F s4 H8 → Fr (B.fp s) H6 H8 → (∀ k, B.fp s4 k → B.fp s k ∨ H6.nx ≤ k) → A8.dfr = [] → K2 .ret A8 H8 := fun s4 A8 H8 h1 h2 h3 h4 => q4.out _ _ (k4.out _ _ (fin .ret (.inr rfl) s4 H8 A8 (.inr h1) h2 h3 h4))
   replace next : Hd (∀ (s4 : σ) (j4 : Nat) (A8 : AAct) (H8 : Hp), j4 ≤ S.length → B.J j4 s4 H8 → Fr (B.fp s) H6 H8 → (∀ k, B.fp s4 k → B.fp s k ∨ H6.nx ≤ k) → S.drop j4 = R → slot A8.tm 2 = .one ((.o (.ptr rn 0 0 1))) ∧ slot A8.tm 4 = .one ((.o (.ptr qc 0 0 1))) ∧ slot A8.tm 6 = .one ((.o (.sl qv 0 0 us.length 1))) ∧ slot A8.tm 9 = .one ((.o (.clo 151 [(qc, 0, 0, 1), (il, 0, 0, 2)]))) ∧ slot A8.tm 10 = .one ((.o (.clo 152 [(qb, 0, 0, 1), (il, 0, 0, 2)]))) ∧ slot A8.tm 45 = .one (.i .i64 (us.length : Int)) ∧ slot A8.tm 46 = .one (.i .i64 (i : Int)) ∧ A8.nt = 180 ∧ A8.dfr = [] → K2 .normal A8 H8 ∧ K2 (.exit 3) A8 H8) := next
   replace stop : Hd (∀ (s4 : σ) (A8 : AAct) (H8 : Hp), B.F s4 H8 → Fr (B.fp s) H6 H8 → (∀ k, B.fp s4 k → B.fp s k ∨ H6.nx ≤ k) → A8.dfr = [] → K2 .ret A8 H8) := stop
   unfold slipsAt at hSj
   rw [List.append_assoc, List.append_assoc] at hSj
   generalize hT : (if i + 1 = us.length then ([] : List Sp) else _) ++ R = T at hSj
   repeat refine R1.s_assoc ?_
   refine R1.s_h (by kernel_rfl) fun K3 hK3 => ?_
   have rest : Hd (∀ (s4 : σ) (j4 : Nat) (A8 : AAct) (H8 : Hp), j4 ≤ S.length → B.J j4 s4 H8 → Fr (B.fp s) H6 H8 → (∀ k, B.fp s4 k → B.fp s k ∨ H6.nx ≤ k) → S.drop j4 = T → (slot A8.tm 11 = .one (.i .i64 (i : Int))) ∧ (slot A8.tm 87 = .one (.b false)) ∧ (slot A8.tm 2 = .one ((.o (.ptr rn 0 0 1))) ∧ slot A8.tm 4 = .one ((.o (.ptr qc 0 0 1))) ∧ slot A8.tm 6 = .one ((.o (.sl qv 0 0 us.length 1))) ∧ slot A8.tm 9 = .one ((.o (.clo 151 [(qc, 0, 0, 1), (il, 0, 0, 2)]))) ∧ slot A8.tm 10 = .one ((.o (.clo 152 [(qb, 0, 0, 1), (il, 0, 0, 2)]))) ∧ slot A8.tm 45 = .one (.i .i64 (us.length : Int)) ∧ slot A8.tm 46 = .one (.i .i64 (i : Int)) ∧ A8.nt = 180 ∧ A8.dfr = []) → K3 A8 H8) := by
    clear t2 t4 t6 t9 t10 t45 t46 hnt hdf A hSj
    rintro s4 j4 A H8 hjS8 hj8 f8 hfp8 hS8 ⟨t11, t87, t2, t4, t6, t9, t10, t45, t46, hnt, hdf⟩
    refine hK3.out _ _ ?_
    clear hK3 K3
    by_cases hlast : i + 1 = us.length
    ·have ce : (((i + 1 : Nat) : Int) == (us.length : Int)) = true := by rw [hlast]; exact beq_self_eq_true _
     rw [if_pos hlast, List.nil_append] at hT
     replace hlast : Hd _ := hlast
     refine zW (qA tyF (RG H8 f8)) ?_
     exact (next.out s4 j4 _ _ hjS8 hj8 f8 hfp8 (hS8.trans hT.symm) zL).2
    have ce : (((i + 1 : Nat) : Int) == (us.length : Int)) = false := beq_false_of_ne (by omega)
    have hlt2 : i + 1 < us.length := by omega
    rw [if_neg hlast, List.append_assoc] at hT
    rw [← hT] at hS8
    clear hT
    obtain ⟨⟨p1, p2⟩, ⟨p3, p4⟩, ⟨p5, p6⟩, ⟨p7, p8⟩⟩ := hmore hlt2
    obtain ⟨⟨c2, c3⟩, ⟨v2, v3⟩, _⟩ := hSB (i + 1) hlt2
    obtain ⟨ec3, ec4⟩ := ec (i + 1) hlt2
    obtain ⟨ev3, ev4⟩ := evv (i + 1) hlt2
    have hw4 : IntKind.i64.wrap (((i + 1 : Nat) : Int) + 1) = ((i + 1 + 1 : Nat) : Int) := by rw [wrapI (by omega) (by omega)]; omega
    have x1 : IntKind.i64.wrap (cs.getD (i + 1) 0 * vs.getD (i + 1) 0) = cs.getD (i + 1) 0 * vs.getD (i + 1) 0 := wrapI (by omega) (by omega)
    have x2 : IntKind.i64.wrap (cs.getD (i + 1) 0 * vs.getD i 0) = cs.getD (i + 1) 0 * vs.getD i 0 := wrapI (by omega) (by omega)
    have x3 : IntKind.i64.wrap (n - cs.getD (i + 1) 0 * vs.getD (i + 1) 0) = n - cs.getD (i + 1) 0 * vs.getD (i + 1) 0 := wrapI (by omega) (by omega)
    have x4 : IntKind.i64.wrap (n - cs.getD (i + 1) 0 * vs.getD (i + 1) 0 + cs.getD (i + 1) 0 * vs.getD i 0) = n - cs.getD (i + 1) 0 * vs.getD (i + 1) 0 + cs.getD (i + 1) 0 * vs.getD i 0 := wrapI (by omega) (by omega)
    have x5 : IntKind.i64.wrap (cs.getD i 0 * vs.getD i 0) = cs.getD i 0 * vs.getD i 0 := wrapI (by omega) (by omega)
    have x6 : IntKind.i64.wrap (cs.getD i 0 * vs.getD (i + 1) 0) = cs.getD i 0 * vs.getD (i + 1) 0 := wrapI (by omega) (by omega)
    have x7 : IntKind.i64.wrap (n - cs.getD i 0 * vs.getD i 0) = n - cs.getD i 0 * vs.getD i 0 := wrapI (by omega) (by omega)
    have x8 : IntKind.i64.wrap (n - cs.getD i 0 * vs.getD i 0 + cs.getD i 0 * vs.getD (i + 1) 0) = n - cs.getD i 0 * vs.getD i 0 + cs.getD i 0 * vs.getD (i + 1) 0 := wrapI (by omega) (by omega)
    refine zW (qA tyF (qA (RG H8 f8) (qA (ixC hlt) (qA (ixC hlt2) Nat.mul_one)))) ?_
    generalize hT2 : one (cs.getD (i + 1) 0 == 0 && decide (0 < cs.getD i 0) && roomB us (i + 1) (cs.getD i 0)) (4, (us.getD (i + 1) ([], 0)).1, n - cs.getD i 0 * vs.getD i 0 + cs.getD i 0 * vs.getD (i + 1) 0) ++ R = T2 at hS8
    repeat refine R1.s_assoc ?_
    refine R1.s_h (by kernel_rfl) fun K3 hK3 => ?_
    have rest : Hd (∀ (s4 : σ) (j4 : Nat) (A8 : AAct) (H8 : Hp), j4 ≤ S.length → B.J j4 s4 H8 → Fr (B.fp s) H6 H8 → (∀ k, B.fp s4 k → B.fp s k ∨ H6.nx ≤ k) → S.drop j4 = T2 → (slot A8.tm 134 = .one (.b false)) ∧ (slot A8.tm 2 = .one ((.o (.ptr rn 0 0 1))) ∧ slot A8.tm 4 = .one ((.o (.ptr qc 0 0 1))) ∧ slot A8.tm 6 = .one ((.o (.sl qv 0 0 us.length 1))) ∧ slot A8.tm 9 = .one ((.o (.clo 151 [(qc, 0, 0, 1), (il, 0, 0, 2)]))) ∧ slot A8.tm 10 = .one ((.o (.clo 152 [(qb, 0, 0, 1), (il, 0, 0, 2)]))) ∧ slot A8.tm 45 = .one (.i .i64 (us.length : Int)) ∧ slot A8.tm 46 = .one (.i .i64 (i : Int)) ∧ slot A8.tm 11 = .one (.i .i64 (i : Int)) ∧ A8.nt = 180 ∧ A8.dfr = []) → K3 A8 H8) := by
     clear t2 t4 t6 t9 t10 t11 t45 t46 t87 hnt hdf hS8 hj8 hjS8 hfp8 f8 A H8 s4 j4
     rintro s4 j4 A H8 hjS8 hj8 f8 hfp8 hS8 ⟨t134, t2, t4, t6, t9, t10, t45, t46, t11, hnt, hdf⟩
     refine hK3.out _ _ ?_
     clear hK3 K3
     refine zW (qA tyF (qA (RG H8 f8) (qA (ixC hlt) (qA (ixC hlt2) Nat.mul_one)))) ?_
     rw [← hT2] at hS8
     repeat refine R1.s_assoc ?_
     refine R1.s_h (by kernel_rfl) fun K3 hK3 => ?_
     have rest : Hd (∀ (s4 : σ) (j4 : Nat) (A8 : AAct) (H8 : Hp), j4 ≤ S.length → B.J j4 s4 H8 → Fr (B.fp s) H6 H8 → (∀ k, B.fp s4 k → B.fp s k ∨ H6.nx ≤ k) → S.drop j4 = R → (slot A8.tm 178 = .one (.b false)) ∧ (slot A8.tm 2 = .one ((.o (.ptr rn 0 0 1))) ∧ slot A8.tm 4 = .one ((.o (.ptr qc 0 0 1))) ∧ slot A8.tm 6 = .one ((.o (.sl qv 0 0 us.length 1))) ∧ slot A8.tm 9 = .one ((.o (.clo 151 [(qc, 0, 0, 1), (il, 0, 0, 2)]))) ∧ slot A8.tm 10 = .one ((.o (.clo 152 [(qb, 0, 0, 1), (il, 0, 0, 2)]))) ∧ slot A8.tm 45 = .one (.i .i64 (us.length : Int)) ∧ slot A8.tm 46 = .one (.i .i64 (i : Int)) ∧ slot A8.tm 11 = .one (.i .i64 (i : Int)) ∧ A8.nt = 180 ∧ A8.dfr = []) → K3 A8 H8) := by
      clear t2 t4 t6 t9 t10 t11 t45 t46 t134 hnt hdf hS8 hj8 hjS8 hfp8 f8 A H8 s4 j4
      rintro s4 j4 A H8 hjS8 hj8 f8 hfp8 hS8 ⟨t178, t2, t4, t6, t9, t10, t45, t46, t11, hnt, hdf⟩
      refine hK3.out _ _ ?_
      refine zW tyF ?_
      exact (next.out s4 j4 _ _ hjS8 hj8 f8 hfp8 hS8 zL).1
     have bad : Hd (∀ (s4 : σ) (A8 : AAct) (H8 : Hp), B.F s4 H8 → Fr (B.fp s) H6 H8 → (∀ k, B.fp s4 k → B.fp s k ∨ H6.nx ≤ k) → slot A8.tm 178 = .one (.b true) ∧ A8.nt = 180 ∧ A8.dfr = [] → K3 A8 H8) := by
      clear t2 t4 t6 t9 t10 t11 t45 t46 hnt hdf
      rintro s4 A8 H8 h1 h2 h3 ⟨t178, hnt, hdf⟩
      refine hK3.out _ _ ?_
      refine zW tyF ?_
      exact stop.out s4 _ _ h1 h2 h3 qe
     clear hK3
     by_cases hC1 : cs.getD (i + 1) 0 = 0
     case neg =>
      have eC1 : (cs.getD (i + 1) 0 == 0) = false := beq_false_of_ne hC1
      rw [eC1, Bool.false_and, Bool.false_and] at hS8
      refine zS (qA tyF (qA (RG H8 f8) (qA (ixC hlt) (qA (ixC hlt2) Nat.mul_one)))) ?_
      exact rest.out s4 j4 _ _ hjS8 hj8 f8 hfp8 (drop_none hS8) ⟨zL, zL⟩

     have eC1 : (cs.getD (i + 1) 0 == 0) = true := beq_iff_eq.2 hC1
     replace hC1 : Hd _ := hC1
     rw [eC1, Bool.true_and] at hS8
     by_cases hC2 : 0 < cs.getD i 0
     case neg =>
      rw [decide_eq_false hC2, Bool.false_and] at hS8
      refine zS (qA tyF (qA (RG H8 f8) (qA (ixC hlt) (qA (ixC hlt2) Nat.mul_one)))) ?_
      exact rest.out s4 j4 _ _ hjS8 hj8 f8 hfp8 (drop_none hS8) ⟨zL, zL⟩

     rw [decide_eq_true hC2, Bool.true_and] at hS8
     refine zS (qA bd_room (qA tyF (qA (RG H8 f8) (qA (ixC hlt) (qA (ixC hlt2) Nat.mul_one))))) ?_
     refine WE.con (room_con H8 us cs nm u _ qc il (i + 1) (cs.getD i 0) (huS H8 f8) (hcS H8 f8) hcl.out hlt2 (by omega) (RG H8 f8).2.2.2.1.2 (RG H8 f8).2.1.2 (RG H8 f8).2.2.2.1.1 (RG H8 f8).2.1.1) fun w' Hr gr hq => ?_
     subst hq
     have fR := f8.gr gr
     have hjR := B.hJ hj8 gr.nx fun k hk => gr.get k hk not_false
     cases hB : roomB us (i + 1) (cs.getD i 0) with
     | false =>
      rw [hB] at hS8
      refine zS (qA tyF (qA (RG Hr fR) (qA (ixC hlt) (qA (ixC hlt2) Nat.mul_one)))) ?_
      exact rest.out s4 j4 _ _ hjS8 hjR fR hfp8 (drop_none hS8) ⟨zL, zL⟩

     | true =>
      rw [hB] at hS8
      refine zS (qA bd_pass (qA tyF (qA (RG Hr fR) (qA (ixC hlt) (qA (ixC hlt2) Nat.mul_one))))) ?_
      obtain ⟨hk1, hk2⟩ := drop_one hS8
      refine WE.con (pass_con B s4 j4 Hr us nm u qb il 4 (i + 1) (n - cs.getD i 0 * vs.getD i 0 + cs.getD i 0 * vs.getD (i + 1) 0) hjR (huS Hr fR) hlt2 (by omega) (RG Hr fR).1.2 (RG Hr fR).2.1.2 (RG Hr fR).1.1 (RG Hr fR).2.1.1 hk1) fun w' Hp0 fp0 ⟨b, s3, hq, hbt, hbf, hfp3⟩ => ?_
      subst hq
      have fP := fR.then fp0 fun k hk => (hfp8 k hk).symm
      have hfpP : ∀ k, B.fp s3 k → B.fp s k ∨ H6.nx ≤ k := fun k hk => (hfp3 k hk).elim (fun h => hfp8 k h) fun h => .inr (Nat.le_trans fR.nx h)
      have hjSP : (if okN (n - cs.getD i 0 * vs.getD i 0 + cs.getD i 0 * vs.getD (i + 1) 0) = true then j4 + 1 else j4) ≤ S.length := by
       cases hok : okN (n - cs.getD i 0 * vs.getD i 0 + cs.getD i 0 * vs.getD (i + 1) 0) with
       | true => have := (List.getElem?_eq_some_iff.1 (hk1 hok)).1; rw [if_pos rfl]; exact this
       | false => rw [if_neg Bool.false_ne_true]; exact hjS8
      generalize (if okN (n - cs.getD i 0 * vs.getD i 0 + cs.getD i 0 * vs.getD (i + 1) 0) = true then j4 + 1 else j4) = jP at hk2 hbt hjSP
      cases b with
      | false =>
       refine zS (tyF) ?_
       exact bad.out s3 _ _ (hbf rfl) fP hfpP ⟨zL, zL, zL⟩
      | true =>
       replace hbt := hbt rfl
       clear hbf hk1
       refine zS (qA tyF (qA (RG Hp0 fP) (qA (ixC hlt) (qA (ixC hlt2) Nat.mul_one)))) ?_
       exact rest.out s3 jP _ _ hjSP hbt fP hfpP hk2 ⟨zL, zL⟩
    have bad : Hd (∀ (s4 : σ) (A8 : AAct) (H8 : Hp), B.F s4 H8 → Fr (B.fp s) H6 H8 → (∀ k, B.fp s4 k → B.fp s k ∨ H6.nx ≤ k) → slot A8.tm 134 = .one (.b true) ∧ A8.nt = 180 ∧ A8.dfr = [] → K3 A8 H8) := by
     clear t2 t4 t6 t9 t10 t11 t45 t46 hnt hdf
     rintro s4 A8 H8 h1 h2 h3 ⟨t134, hnt, hdf⟩
     refine hK3.out _ _ ?_
     refine zW tyF ?_
     exact stop.out s4 _ _ h1 h2 h3 qe
    clear hK3
    by_cases hC1 : cs.getD i 0 = 0
    case neg =>
     have eC1 : (cs.getD i 0 == 0) = false := beq_false_of_ne hC1
     rw [eC1, Bool.false_and, Bool.false_and] at hS8
     refine zS (qA tyF (qA (RG H8 f8) (qA (ixC hlt) (qA (ixC hlt2) Nat.mul_one)))) ?_
     exact rest.out s4 j4 _ _ hjS8 hj8 f8 hfp8 (drop_none hS8) ⟨zL, zL⟩

    have eC1 : (cs.getD i 0 == 0) = true := beq_iff_eq.2 hC1
    replace hC1 : Hd _ := hC1
    rw [eC1, Bool.true_and] at hS8
    by_cases hC2 : 0 < cs.getD (i + 1) 0
    case neg =>
     rw [decide_eq_false hC2, Bool.false_and] at hS8
     refine zS (qA tyF (qA (RG H8 f8) (qA (ixC hlt) (qA (ixC hlt2) Nat.mul_one)))) ?_
     exact rest.out s4 j4 _ _ hjS8 hj8 f8 hfp8 (drop_none hS8) ⟨zL, zL⟩

    rw [decide_eq_true hC2, Bool.true_and] at hS8
    refine zS (qA bd_room (qA tyF (qA (RG H8 f8) (qA (ixC hlt) (qA (ixC hlt2) Nat.mul_one))))) ?_
    refine WE.con (room_con H8 us cs nm u _ qc il i (cs.getD (i + 1) 0) (huS H8 f8) (hcS H8 f8) hcl.out hlt (by omega) (RG H8 f8).2.2.2.1.2 (RG H8 f8).2.1.2 (RG H8 f8).2.2.2.1.1 (RG H8 f8).2.1.1) fun w' Hr gr hq => ?_
    subst hq
    have fR := f8.gr gr
    have hjR := B.hJ hj8 gr.nx fun k hk => gr.get k hk not_false
    cases hB : roomB us i (cs.getD (i + 1) 0) with
    | false =>
     rw [hB] at hS8
     refine zS (qA tyF (qA (RG Hr fR) (qA (ixC hlt) (qA (ixC hlt2) Nat.mul_one)))) ?_
     exact rest.out s4 j4 _ _ hjS8 hjR fR hfp8 (drop_none hS8) ⟨zL, zL⟩

    | true =>
     rw [hB] at hS8
     refine zS (qA bd_pass (qA tyF (qA (RG Hr fR) (qA (ixC hlt) (qA (ixC hlt2) Nat.mul_one))))) ?_
     obtain ⟨hk1, hk2⟩ := drop_one hS8
     refine WE.con (pass_con B s4 j4 Hr us nm u qb il 3 i (n - cs.getD (i + 1) 0 * vs.getD (i + 1) 0 + cs.getD (i + 1) 0 * vs.getD i 0) hjR (huS Hr fR) hlt (by omega) (RG Hr fR).1.2 (RG Hr fR).2.1.2 (RG Hr fR).1.1 (RG Hr fR).2.1.1 hk1) fun w' Hp0 fp0 ⟨b, s3, hq, hbt, hbf, hfp3⟩ => ?_
     subst hq
     have fP := fR.then fp0 fun k hk => (hfp8 k hk).symm
     have hfpP : ∀ k, B.fp s3 k → B.fp s k ∨ H6.nx ≤ k := fun k hk => (hfp3 k hk).elim (fun h => hfp8 k h) fun h => .inr (Nat.le_trans fR.nx h)
     have hjSP : (if okN (n - cs.getD (i + 1) 0 * vs.getD (i + 1) 0 + cs.getD (i + 1) 0 * vs.getD i 0) = true then j4 + 1 else j4) ≤ S.length := by
      cases hok : okN (n - cs.getD (i + 1) 0 * vs.getD (i + 1) 0 + cs.getD (i + 1) 0 * vs.getD i 0) with
      | true => have := (List.getElem?_eq_some_iff.1 (hk1 hok)).1; rw [if_pos rfl]; exact this
      | false => rw [if_neg Bool.false_ne_true]; exact hjS8
     generalize (if okN (n - cs.getD (i + 1) 0 * vs.getD (i + 1) 0 + cs.getD (i + 1) 0 * vs.getD i 0) = true then j4 + 1 else j4) = jP at hk2 hbt hjSP
     cases b with
     | false =>
      refine zS (tyF) ?_
      exact bad.out s3 _ _ (hbf rfl) fP hfpP ⟨zL, zL, zL⟩
     | true =>
      replace hbt := hbt rfl
      clear hbf hk1
      refine zS (qA tyF (qA (RG Hp0 fP) (qA (ixC hlt) (qA (ixC hlt2) Nat.mul_one)))) ?_
      exact rest.out s3 jP _ _ hjSP hbt fP hfpP hk2 ⟨zL, zL⟩

   have bad : Hd (∀ (s4 : σ) (A8 : AAct) (H8 : Hp), B.F s4 H8 → Fr (B.fp s) H6 H8 → (∀ k, B.fp s4 k → B.fp s k ∨ H6.nx ≤ k) → slot A8.tm 87 = .one (.b true) ∧ A8.nt = 180 ∧ A8.dfr = [] → K3 A8 H8) := by
    clear t2 t4 t6 t9 t10 t45 t46 hnt hdf
    rintro s4 A8 H8 h1 h2 h3 ⟨t87, hnt, hdf⟩
    refine hK3.out _ _ ?_
    refine zW tyF ?_
    exact stop.out s4 _ _ h1 h2 h3 qe
   clear hK3
   by_cases hA : 0 < cs.getD i 0
   ·have eA : decide (0 < cs.getD i 0) = true := decide_eq_true hA
    rw [eA] at hSj
    refine zS (qA tyF (qA (RG H7 f7) (qA bd_pass (qA (ixC hlt) Nat.mul_one)))) ?_
    obtain ⟨hk1, hk2⟩ := drop_one hSj
    refine WE.con (pass_con B s2 j H7 us nm u qb il 1 i (n - vs.getD i 0) hj7 (huS H7 f7) hlt (by omega) (RG H7 f7).1.2 (RG H7 f7).2.1.2 (RG H7 f7).1.1 (RG H7 f7).2.1.1 hk1) fun w' Hp0 fp0 ⟨b, s3, hq, hbt, hbf, hfp3⟩ => ?_
    subst hq
    have fP := f7.then fp0 fun k hk => (hfp k hk).symm
    have hfpP : ∀ k, B.fp s3 k → B.fp s k ∨ H6.nx ≤ k := fun k hk => (hfp3 k hk).elim (fun h => hfp k h) fun h => .inr (Nat.le_trans f7.nx h)
    have hjSP : (if okN (n - vs.getD i 0) = true then j + 1 else j) ≤ S.length := by
     cases hok : okN (n - vs.getD i 0) with
     | true => have := (List.getElem?_eq_some_iff.1 (hk1 hok)).1; rw [if_pos rfl]; exact this
     | false => rw [if_neg Bool.false_ne_true]; exact hjS
    generalize (if okN (n - vs.getD i 0) = true then j + 1 else j) = jP at hk2 hbt hjSP
    cases b with
    | false =>
     refine zS (tyF) ?_
     exact bad.out s3 _ _ (hbf rfl) fP hfpP ⟨zL, zL, zL⟩
    | true =>
     replace hbt := hbt rfl
     clear hbf hk1
     refine zS (qA tyF (qA (RG Hp0 fP) (qA bd_room (qA (ixC hlt) Nat.mul_one)))) ?_
     refine WE.con (room_con Hp0 us cs nm u _ qc il i (cs.getD i 0 + 1) (huS Hp0 fP) (hcS Hp0 fP) hcl.out hlt (by omega) (RG Hp0 fP).2.2.2.1.2 (RG Hp0 fP).2.1.2 (RG Hp0 fP).2.2.2.1.1 (RG Hp0 fP).2.1.1) fun w' Hr gr hq => ?_
     subst hq
     have fR := fP.gr gr
     have hjR := B.hJ hbt gr.nx fun k hk => gr.get k hk not_false
     cases hB : roomB us i (cs.getD i 0 + 1) with
     | false =>
      rw [hB] at hk2
      refine zS (qA tyF (RG Hr fR)) ?_
      exact rest.out s3 jP _ _ hjSP hjR fR hfpP (drop_none hk2) ⟨zL, zL, zL⟩
     | true =>
      rw [hB] at hk2
      refine zS (qA tyF (qA (RG Hr fR) (qA bd_pass (qA (ixC hlt) Nat.mul_one)))) ?_
      obtain ⟨hk1, hk2⟩ := drop_one hk2
      refine WE.con (pass_con B s3 jP Hr us nm u qb il 2 i (n + vs.getD i 0) hjR (huS Hr fR) hlt (by omega) (RG Hr fR).1.2 (RG Hr fR).2.1.2 (RG Hr fR).1.1 (RG Hr fR).2.1.1 hk1) fun w' Hp0 fp0 ⟨b, s3, hq, hbt, hbf, hfp3⟩ => ?_
      subst hq
      have fP := fR.then fp0 fun k hk => (hfpP k hk).symm
      have hfpP : ∀ k, B.fp s3 k → B.fp s k ∨ H6.nx ≤ k := fun k hk => (hfp3 k hk).elim (fun h => hfpP k h) fun h => .inr (Nat.le_trans fR.nx h)
      have hjSP : (if okN (n + vs.getD i 0) = true then jP + 1 else jP) ≤ S.length := by
       cases hok : okN (n + vs.getD i 0) with
       | true => have := (List.getElem?_eq_some_iff.1 (hk1 hok)).1; rw [if_pos rfl]; exact this
       | false => rw [if_neg Bool.false_ne_true]; exact hjSP
      generalize (if okN (n + vs.getD i 0) = true then jP + 1 else jP) = jP at hk2 hbt hjSP
      cases b with
      | false =>
       refine zS (tyF) ?_
       exact bad.out s3 _ _ (hbf rfl) fP hfpP ⟨zL, zL, zL⟩
      | true =>
       replace hbt := hbt rfl
       clear hbf hk1
       refine zS (qA tyF (RG Hp0 fP)) ?_
       exact rest.out s3 jP _ _ hjSP hbt fP hfpP hk2 ⟨zL, zL, zL⟩

   ·have eA : decide (0 < cs.getD i 0) = false := decide_eq_false hA
    rw [eA] at hSj
    replace hSj := drop_none hSj
    refine zS (qA tyF (qA (RG H7 f7) (qA bd_room (qA (ixC hlt) Nat.mul_one)))) ?_
    refine WE.con (room_con H7 us cs nm u _ qc il i (cs.getD i 0 + 1) (huS H7 f7) (hcS H7 f7) hcl.out hlt (by omega) (RG H7 f7).2.2.2.1.2 (RG H7 f7).2.1.2 (RG H7 f7).2.2.2.1.1 (RG H7 f7).2.1.1) fun w' Hr gr hq => ?_
    subst hq
    have fR := f7.gr gr
    have hjR := B.hJ hj7 gr.nx fun k hk => gr.get k hk not_false
    cases hB : roomB us i (cs.getD i 0 + 1) with
    | false =>
     rw [hB] at hSj
     refine zS (qA tyF (RG Hr fR)) ?_
     exact rest.out s2 j _ _ hjS hjR fR hfp (drop_none hSj) ⟨zL, zL, zL⟩
    | true =>
     rw [hB] at hSj
     refine zS (qA tyF (qA (RG Hr fR) (qA bd_pass (qA (ixC hlt) Nat.mul_one)))) ?_
     obtain ⟨hk1, hk2⟩ := drop_one hSj
     refine WE.con (pass_con B s2 j Hr us nm u qb il 2 i (n + vs.getD i 0) hjR (huS Hr fR) hlt (by omega) (RG Hr fR).1.2 (RG Hr fR).2.1.2 (RG Hr fR).1.1 (RG Hr fR).2.1.1 hk1) fun w' Hp0 fp0 ⟨b, s3, hq, hbt, hbf, hfp3⟩ => ?_
     subst hq
     have fP := fR.then fp0 fun k hk => (hfp k hk).symm
     have hfpP : ∀ k, B.fp s3 k → B.fp s k ∨ H6.nx ≤ k := fun k hk => (hfp3 k hk).elim (fun h => hfp k h) fun h => .inr (Nat.le_trans fR.nx h)
     have hjSP : (if okN (n + vs.getD i 0) = true then j + 1 else j) ≤ S.length := by
      cases hok : okN (n + vs.getD i 0) with
      | true => have := (List.getElem?_eq_some_iff.1 (hk1 hok)).1; rw [if_pos rfl]; exact this
      | false => rw [if_neg Bool.false_ne_true]; exact hjS
     generalize (if okN (n + vs.getD i 0) = true then j + 1 else j) = jP at hk2 hbt hjSP
     cases b with
     | false =>
      refine zS (tyF) ?_
      exact bad.out s3 _ _ (hbf rfl) fP hfpP ⟨zL, zL, zL⟩
     | true =>
      replace hbt := hbt rfl
      clear hbf hk1
      refine zS (qA tyF (RG Hp0 fP)) ?_
      exact rest.out s3 jP _ _ hjSP hbt fP hfpP hk2 ⟨zL, zL, zL⟩

  ·have hie : i = us.length := by omega
   refine zW tyF ?_
   refine k2.out _ _ ?_
   have hjl : B.J S.length s2 H7 := by
    have h := hSj.out
    have e : (List.range us.length).drop i = [] := List.drop_eq_nil_of_le (by rw [List.length_range]; omega)
    rw [e, List.flatMap_nil] at h
    have h2 := congrArg List.length h
    rw [List.length_drop, List.length_nil] at h2
    have h3 : j = S.length := by omega
    exact h3 ▸ hj7
   exact fin .normal (.inl rfl) s2 H7 _ (.inl hjl) f7 hfp qe
end Go.Proofs.YtiejeicaaojdlaaGreat
