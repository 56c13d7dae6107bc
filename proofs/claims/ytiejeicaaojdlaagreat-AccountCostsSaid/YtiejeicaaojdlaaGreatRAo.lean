/- A part of the proof: BkSl7, BkSl8, BkSl9, BkSl10, BkSl11, BkSl12, BkSl13, BkSl14, BkSl15. No conditions. -/
import Derived.Test.YtiejeicaaojdlaaGreatRAn
namespace Go.Proofs.YtiejeicaaojdlaaGreat
open Go Go.Eng
theorem bd_kind : hasBody Tryz.prog 92 = true := by kernel_rfl
set_option maxRecDepth 10000 in
theorem slips_con (H : Hp) (n u : AC) (m : Int) (hu : ltV (.one u) H.nx) :
  Con E2 129 [.agg [n, u], .one (.i .i64 m)] H (fun _ => False) fun r H' => r = .one (.o (.clo 149 [(H.nx, 0, 0, 2), (H.nx + 1, 0, 0, 1)])) ∧ H'.get H.nx = some (.arr [n, u] 78 0 0) ∧ H'.get (H.nx + 1) = some (.arr [.i .i64 m] 3 0 0) ∧ H.nx + 1 < H'.nx := by
 refine Con.of rfl fun lg => ?_
 have hu : ltV (.one u) (⟨H.t, H.nx, lg⟩ : Hp).nx := hu
 have e0 : H.nx = (⟨H.t, H.nx, lg⟩ : Hp).nx := rfl
 rw [e0]
 clear e0
 generalize (⟨H.t, H.nx, lg⟩ : Hp) = H at hu ⊢
 refine C1.body (E := E2) (nt := 6) (res := [.tmp 4]) Tryz.func129 rfl rfl rfl rfl rfl fun tm hargs => ?_
 have h0 := hargs 0 _ rfl
 have h1 := hargs 1 _ rfl
 clear hargs
 refine zW tyF ?_
 refine ⟨_, _, callEnd_one (.o (.clo 149 [(H.nx, 0, 0, 2), (H.nx + 1, 0, 0, 1)])) (.inr rfl) qe qp, ((Fr.refl _).new _).new _, fun _ => ⟨rfl, ?_, ?_, ?_⟩⟩
 ·show ((H.new _).new _).get H.nx = _
  rw [get_newL (by show H.nx < H.nx + 1; omega)]; exact get_newE rfl
 ·show ((H.new _).new _).get (H.nx + 1) = _
  exact get_newE rfl
 ·show H.nx + 1 < H.nx + 1 + 1
  omega
def kindL : List Sp → Int → Int
 | [], _ => 0
 | x :: S, m => if x.2.2 = m then x.1 else kindL S m
set_option maxRecDepth 10000 in
set_option maxHeartbeats 8000000 in
theorem kind_con (H : Hp) (nm : List UInt8) (u : AC) (us : List Pr) (m n : Int) (hu : SlP H u us) (hck : chkLad nm us = 0) (hn1 : 1 ≤ n) (hn2 : n ≤ 1099511627776) (hSB : SmallB us (splitA us n) (valsS nm us)) :
  Con E2 92 [.agg [.o (.str nm), u], .one (.i .i64 m), .one (.i .i64 n)] H (fun _ => False) fun r _ => r = .one (.i .i64 (kindL (slipsL us (splitA us n) (valsS nm us) n) m)) := by
 refine Con.of rfl fun lg => ?_
 have hu : SlP ⟨H.t, H.nx, lg⟩ u us := hu
 generalize (⟨H.t, H.nx, lg⟩ : Hp) = H at hu ⊢
 refine C1.body (E := E2) (nt := 18) (res := [.cell 6 3]) Tryz.func92 rfl rfl rfl rfl rfl fun tm hargs => ?_
 have h0 := hargs 0 _ rfl
 have h1 := hargs 1 _ rfl
 have h2 := hargs 2 _ rfl
 clear hargs
 have hid0 : ∀ id ∈ (AV.one u).ids, id < H.nx := hu.lt
 generalize hr0 : kindL (slipsL us (splitA us n) (valsS nm us) n) m = r0
 refine zG tyF fun K hK => ?_
 refine hK.out _ _ ?_
 refine R1.gen (fun A1 H1 => Gr H H1 ∧ H.nx + 2 < H1.nx ∧ H1.get H.nx = some (.arr [.o (.str nm), u] 78 0 0) ∧ H1.get (H.nx + 1) = some (.arr [.i .i64 m] 3 0 0) ∧ H1.get (H.nx + 1 + 1) = some (.arr [.i .i64 0] 3 0 0) ∧ slot A1.tm 2 = .one (.i .i64 (n : Int)) ∧ slot A1.tm 3 = .one ((.o (.ptr H.nx 0 0 2))) ∧ slot A1.tm 4 = .one ((.o (.ptr (H.nx + 1) 0 0 1))) ∧ slot A1.tm 6 = .one ((.o (.ptr (H.nx + 1 + 1) 0 0 1))) ∧ A1.nt = 18 ∧ A1.dfr = [])
  ⟨(((Fr.refl _).new _).new _).new _, by show H.nx + 2 < H.nx + 1 + 1 + 1; omega, by rw [get_newL (by show H.nx < H.nx + 1 + 1; omega), get_newL (by show H.nx < H.nx + 1; omega)]; exact get_newE rfl, by rw [get_newL (by show H.nx + 1 < H.nx + 1 + 1; omega)]; exact get_newE rfl, get_newE rfl, zL⟩ ?_
 clear h0 h1 h2 tm hK K
 rintro A1 H1 ⟨g1, n1, r1, r2, r3, t2, t3, t4, t6, hnt, hdf⟩
 have hu1 : SlP H1 u us := hu.gr g1
 obtain ⟨c1, hc1⟩ : ∃ c, c = H.nx := ⟨_, rfl⟩
 obtain ⟨c2, hc2⟩ : ∃ c, c = H.nx + 1 := ⟨_, rfl⟩
 obtain ⟨c3, hc3⟩ : ∃ c, c = H.nx + 1 + 1 := ⟨_, rfl⟩
 rw [← hc3] at r3 t6
 rw [← hc2] at r2 t4
 rw [← hc1] at r1 t3 hid0
 have o12 : c1 < c2 := by omega
 have o23 : c2 < c3 := by omega
 have o3 : c3 < H1.nx := by omega
 have hcc : H.nx ≤ c1 := by omega
 clear hc3 hc2 hc1 n1
 have l1 : c1 < H1.nx := by omega
 have l2 : c2 < H1.nx := by omega
 have fin : ∀ (e : AExit) (A : AAct) (H2 H3 : Hp), (e = .normal ∨ e = .ret) → closeAll H2 A.dfr = some H3 → Gr H H3 → slot A.tm 6 = .one (.o (.ptr c3 0 0 1)) → H3.get c3 = some (.arr [.i .i64 r0] 3 0 0) →
   ∃ w H4, callEnd E2 [.cell 6 3] (e, A, H2) = .ok [(w, H4)] ∧ Gr H H4 ∧ ∀ _ : List Nat, w = .one (.i .i64 r0) := fun e A H2 H3 he hd hg hs hr =>
  ⟨_, H3, callEnd_cell (c := .i .i64 r0) ld_int he hd hs (by rw [hr]; exact rowOf_arr (Nat.le_refl _) (Nat.le_refl _)) (Nat.le_refl _) (Nat.le_refl _) rfl, hg, fun _ => rfl⟩
 have hlu : ltV (.one u) H1.nx := hu1.lt
 replace hr0 : Hd _ := hr0
 refine zG (qA tyF bd_slips) fun K hK => ?_
 refine WE.con (slips_con H1 (.o (.str nm)) u n hu1.lt) fun v H5 g5 ⟨hv, hil, hrn, hln⟩ => ?_
 subst hv
 refine zS tyF ?_
 refine hK.out _ _ ?_
 refine R1.genA (fun A4 => slot A4.tm 3 = .one ((.o (.ptr c1 0 0 2))) ∧ slot A4.tm 4 = .one ((.o (.ptr c2 0 0 1))) ∧ slot A4.tm 6 = .one ((.o (.ptr c3 0 0 1))) ∧ slot A4.tm 10 = .one ((.o (.clo 149 [(H1.nx, 0, 0, 2), (H1.nx + 1, 0, 0, 1)]))) ∧ A4.nt = 18 ∧ A4.dfr = []) zL ?_
 clear t2 t3 t4 t6 hnt hdf A1 hK K
 rintro A ⟨t3, t4, t6, t10, hnt, hdf⟩
 have gg : Gr H H5 := g1.gr g5
 have r2 := (g5.get _ l2 not_false).trans r2
 have r3 := (g5.get _ o3 not_false).trans r3
 have hu5 : SlP H5 u us := hu1.gr g5
 obtain ⟨il, hild⟩ : ∃ i, i = H1.nx := ⟨_, rfl⟩
 rw [← hild] at hil hrn hln t10 o3 l1 l2
 clear hild hlu r1
 generalize hS : slipsL us (splitA us n) (valsS nm us) n = S at hr0
 refine R1.s_block fun K k1 k2 k3 k4 => ?_
 refine R1.range (σ := Unit) (g := 149) (caps := [(il, 0, 0, 2), (il + 1, 0, 0, 1)]) (n := S.length) (ar := slA S) (D := fun k => k = il ∨ k = il + 1 ∨ k ∈ (AV.one u).ids) (by simp only [evTmp, t10]) bd_slips1 (fun _ => rfl)
  (slips1_it H5 il (il + 1) nm u us n (by omega) hil hln hrn hu5 hck hn1 hn2 _ _ rfl rfl hSB S hS) (fun k hk => by
   rcases hk with h | h | h
   ·omega
   ·omega
   ·exact Nat.lt_trans (hid0 k h) (by omega)) (by rw [hnt]; rfl) (fun i _ => slA_len S i)
  (fun i _ H6 => H6.get c2 = some (.arr [.i .i64 m] 3 0 0) ∧ H6.get c3 = some (.arr [.i .i64 0] 3 0 0) ∧ Hd (kindL (S.drop i) m = r0) ∧ H5.nx ≤ H6.nx)
  (fun e _ H6 => e = .ret ∧ H6.get c3 = some (.arr [.i .i64 r0] 3 0 0) ∧ H5.nx ≤ H6.nx)
  (fun _ k => k = c3) ?_ ?_ ?_ () ?_ ?_ ?_ ?_
 ·rintro i _ H6 H7 ⟨a1, a2, a4, a5⟩ hs
  exact ⟨by rw [hs.get _ (by omega) (by omega)]; exact a1, by rw [hs.get _ (by omega) (by omega)]; exact a2, a4, Nat.le_trans a5 hs.nx⟩
 ·rintro e _ H6 H7 ⟨a1, a2, a5⟩ hs
  exact ⟨a1, by rw [hs.get _ (by omega) (by omega)]; exact a2, Nat.le_trans a5 hs.nx⟩
 ·rintro i _ H6 k ⟨a1, a2, a4, a5⟩ rfl
  refine ⟨by omega, by omega, by omega, fun h => ?_⟩
  rcases h with h | h | h
  ·omega
  ·omega
  ·have := hid0 _ h; omega
 ·intro H6 g6 n6
  exact ⟨by rw [g6.get _ (by omega) not_false]; exact r2, by rw [g6.get _ (by omega) not_false]; exact r3, by rw [List.drop_zero]; exact hr0, g6.nx⟩
 ·rintro i _ H6 hi ⟨a1, a2, a4, a5⟩ n6
  have hy : S[i]? = some S[i] := List.getElem?_eq_getElem hi
  have hdr : S.drop i = S[i] :: S.drop (i + 1) := List.drop_eq_getElem_cons hi
  generalize S[i] = y at hy hdr
  replace a4 := a4.out
  rw [hdr, kindL] at a4
  rw [slA_at hy]
  obtain ⟨kd, sg, nn⟩ := y
  refine R1.genA (fun A7 => slot A7.tm 4 = .one (.o (.ptr c2 0 0 1)) ∧ slot A7.tm 6 = .one (.o (.ptr c3 0 0 1)) ∧ slot A7.tm 11 = .agg [.i .i64 kd, .o (.str sg), .i .i64 nn] ∧ A7.nt = 18 ∧ A7.dfr = []) ⟨?_, ?_, ?_, hnt, rfl⟩ ?_
  ·show slot (A.tm.set 11 _) 4 = _
   simp only [slot_set, Nat.reduceEqDiff, reduceIte, t4]
  ·show slot (A.tm.set 11 _) 6 = _
   simp only [slot_set, Nat.reduceEqDiff, reduceIte, t6]
  ·show slot (A.tm.set 11 _) 11 = _
   simp only [slot_set, reduceIte]; rfl
  clear t3 t4 t6 t10 hnt hdf r2 r3
  rintro A7 ⟨t4, t6, t11, hnt, hdf⟩
  replace hS : Hd _ := hS
  replace a4 : Hd _ := a4
  clear hdr hy
  refine zW tyF ?_
  refine ⟨rfl, ((Fr.refl _).new _).mod _ (.inl (Nat.le_refl _)), fun H8 n8 s8 => ?_⟩
  have gu : H8.get H6.nx = some (.arr [.i .i64 kd, .o (.str sg), .i .i64 nn] 164 0 0) := by
   rw [s8.get _ (by show H6.nx < H6.nx + 1; omega) (by omega)]
   exact get_modE rfl
  have keep : ∀ k, k < H5.nx → H8.get k = H6.get k := fun k hk => by
   rw [s8.get _ (by show k < H6.nx + 1; omega) (by omega), get_modN (by omega), get_newL (by omega)]
  have n8' : H8.nx = H6.nx + 1 := n8
  have b2 : H8.get c2 = some (.arr [.i .i64 m] 3 0 0) := (keep c2 (by omega)).trans a1
  have b3 : H8.get c3 = some (.arr [.i .i64 0] 3 0 0) := (keep c3 (by omega)).trans a2
  have lu : H6.nx < H8.nx := by omega
  have m2 : c2 < H8.nx := by omega
  have m3 : c3 < H8.nx := by omega
  have m5 : H5.nx ≤ H8.nx := by omega
  clear keep n8 n8' a1 a2 s8
  refine R1.e_block fun K2 p1 p2 p3 p4 => ?_
  by_cases hxs : nn = m
  ·have e4 := a4.out
   rw [if_pos hxs] at e4
   replace e4 : kd = r0 := e4
   clear a4
   have cs : (nn == m) = true := beq_iff_eq.2 hxs
   replace hxs : Hd _ := hxs
   replace e4 : Hd _ := e4
   refine zW tyF ?_
   refine p4 _ _ ⟨qe, (Fr.refl _).mod _ (.inr (.inl rfl)), (), fun h => (by cases h), fun _ => ⟨rfl, ?_, m5⟩, fun k hk => .inl hk⟩
   rw [← e4.out]; exact get_modE rfl
  ·have e4 := a4.out
   rw [if_neg hxs] at e4
   clear a4
   have cs : (nn == m) = false := beq_false_of_ne hxs
   replace hxs : Hd _ := hxs
   replace e4 : Hd _ := e4
   refine zW tyF ?_
   refine p1 _ _ ⟨qe, Fr.refl _, (), fun _ => ⟨b2, b3, e4, m5⟩, fun h => absurd rfl h, fun k hk => .inl hk⟩
 ·rintro s' H6 ⟨a1, a2, a4, a5⟩ n6 hd6 hf6 hfp
  have g6 : Gr H H6 := gg.then hf6 fun k hk => .inl (by rcases hk with rfl; omega)
  have m3 : c3 < H6.nx := by omega
  replace a4 := a4.out
  rw [List.drop_length, kindL] at a4
  refine k1 _ _ ?_
  refine R1.genA (fun A7 => slot A7.tm 6 = .one (.o (.ptr c3 0 0 1)) ∧ A7.nt = 18 ∧ A7.dfr = [H5.nx]) ⟨t6, hnt, by show H5.nx :: A.dfr = _; rw [hdf]⟩ ?_
  clear t3 t4 t6 t10 hnt hdf r2 r3
  rintro A7 ⟨t6, hnt, hdf⟩
  replace hS : Hd _ := hS
  replace a4 : Hd _ := a4
  refine zW tyF ?_
  refine fin .ret _ _ _ (.inr rfl) (by simp only [hdf]; exact closeAll_one (by rw [get_modN (by omega)]; exact hd6)) ((g6.mod _ (.inl (by omega))).mod _ (.inl (by have := gg.nx; omega))) t6 (by rw [get_modN (by omega), ← a4.out]; exact get_modE rfl)
 ·rintro e s' H6 hne ⟨rfl, a2, a5⟩ n6 hd6 hf6 hfp
  have g6 : Gr H H6 := gg.then hf6 fun k hk => .inl (by rcases hk with rfl; omega)
  exact k4 _ _ (fin .ret _ _ _ (.inr rfl) (by show closeAll H6 (H5.nx :: A.dfr) = _; rw [hdf]; exact closeAll_one hd6) (g6.mod _ (.inl (by have := gg.nx; omega))) t6 (by rw [get_modN (by omega)]; exact a2))
end Go.Proofs.YtiejeicaaojdlaaGreat
namespace Go.Proofs.YtiejeicaaojdlaaGreat
open Go Go.Eng
def evH : List Pr → List Int → Int
 | _ :: y :: l, d :: ds => d + y.2 * evH (y :: l) ds
 | _, d :: _ => d
 | _, [] => 0
def vW : List Pr → Nat → Int
 | _, 0 => 1
 | _ :: y :: l, i + 1 => y.2 * vW (y :: l) i
 | _, _ + 1 => 0
def DigB (us : List Pr) (ds : List Int) : Prop := ds.length = us.length ∧ ∀ i, i < us.length → 0 ≤ ds.getD i 0 ∧ (i + 1 < us.length → ds.getD i 0 < (us.getD (i + 1) ([], 0)).2)
theorem DigB.tl {x y : Pr} {l : List Pr} {d : Int} {ds : List Int} (h : DigB (x :: y :: l) (d :: ds)) : 0 ≤ d ∧ d < y.2 ∧ DigB (y :: l) ds := by
 obtain ⟨h1, h2⟩ := h
 have h0 := h2 0 (by simp)
 refine ⟨h0.1, h0.2 (by simp), by simpa using h1, fun i hi => ?_⟩
 have := h2 (i + 1) (by simp at hi ⊢; omega)
 refine ⟨this.1, fun h => this.2 (by simp at h ⊢; omega)⟩
theorem DigB.cons {x y : Pr} {l : List Pr} {d : Int} {ds : List Int} (h0 : 0 ≤ d) (h1 : d < y.2) (h : DigB (y :: l) ds) : DigB (x :: y :: l) (d :: ds) := by
 obtain ⟨h2, h3⟩ := h
 refine ⟨by simpa using h2, fun i hi => ?_⟩
 cases i with
 | zero => exact ⟨h0, fun _ => h1⟩
 | succ i =>
  have := h3 i (by simp at hi ⊢; omega)
  exact ⟨this.1, fun h => this.2 (by simp at h ⊢; omega)⟩
theorem split_ev : ∀ (us : List Pr) (ds : List Int), DigB us ds → splitA us (evH us ds) = ds
 | [], [], _ => rfl
 | [], _ :: _, h => by cases h.1
 | [_], [], h => by cases h.1
 | [_], [_], _ => rfl
 | [_], _ :: _ :: _, h => by cases h.1
 | _ :: _ :: _, [], h => by cases h.1
 | x :: y :: l, d :: ds, h => by
  obtain ⟨h0, h1, h2⟩ := h.tl
  have hy : y.2 ≠ 0 := by omega
  rw [evH, splitA, Int.add_mul_emod_self_left, Int.emod_eq_of_lt h0 h1, Int.add_mul_ediv_left _ _ hy, Int.ediv_eq_zero_of_lt h0 h1, Int.zero_add, split_ev (y :: l) ds h2]
theorem ev_split : ∀ (us : List Pr) (n : Int), us ≠ [] → evH us (splitA us n) = n
 | [], _, h => absurd rfl h
 | [_], _, _ => rfl
 | x :: y :: l, n, _ => by
  rw [splitA, evH, ev_split (y :: l) _ (by simp)]
  have := Int.emod_add_mul_ediv n y.2
  omega
theorem dig_split : ∀ (us : List Pr) (n : Int), 0 ≤ n → (∀ x ∈ us, 1 ≤ x.2) → DigB us (splitA us n)
 | [], _, _, _ => ⟨rfl, fun i hi => absurd hi (Nat.not_lt_zero i)⟩
 | [x], n, h, _ => ⟨rfl, fun i hi => by
  have : i = 0 := by simp at hi; omega
  subst this
  exact ⟨h, fun h => absurd h (by simp)⟩⟩
 | x :: y :: l, n, h, hf => by
  have hy := hf y (by simp)
  rw [splitA]
  exact DigB.cons (Int.emod_nonneg _ (by omega)) (Int.emod_lt_of_pos _ (by omega)) (dig_split (y :: l) _ (Int.ediv_nonneg h (by omega)) fun z hz => hf z (List.mem_cons_of_mem _ hz))
theorem ev_set : ∀ (us : List Pr) (ds : List Int) (i : Nat) (d : Int), ds.length = us.length → i < us.length → evH us (ds.set i d) = evH us ds + (d - ds.getD i 0) * vW us i
 | [], _, i, _, _, hi => absurd hi (Nat.not_lt_zero i)
 | _ :: _, [], _, _, h, _ => by cases h
 | [x], c :: ds, i, d, h, hi => by
  have : i = 0 := by simp at hi; omega
  subst this
  show d = c + (d - c) * 1
  omega
 | x :: y :: l, c :: ds, 0, d, h, hi => by
  show d + y.2 * evH (y :: l) ds = c + y.2 * evH (y :: l) ds + (d - c) * 1
  omega
 | x :: y :: l, c :: ds, i + 1, d, h, hi => by
  rw [List.set_cons_succ, evH, evH, ev_set (y :: l) ds i d (by simpa using h) (by simp at hi ⊢; omega), List.getD_cons_succ, vW, Int.mul_add, Int.add_assoc, Int.mul_left_comm]
theorem vW_step : ∀ (us : List Pr) (i : Nat), i + 1 < us.length → vW us (i + 1) = vW us i * (us.getD (i + 1) ([], 0)).2
 | [], i, h => absurd h (Nat.not_lt_zero _)
 | [_], i, h => absurd h (by simp)
 | x :: y :: l, 0, _ => by
  show y.2 * 1 = 1 * y.2
  omega
 | x :: y :: l, i + 1, h => by
  rw [vW, vW_step (y :: l) i (by simp at h ⊢; omega), vW, Int.mul_assoc]; rfl
theorem vW_pos : ∀ (us : List Pr) (i : Nat), i < us.length → (∀ x ∈ us, 1 ≤ x.2) → 1 ≤ vW us i
 | _, 0, _, _ => by rw [vW]; omega
 | [], i + 1, h, _ => absurd h (Nat.not_lt_zero _)
 | [_], i + 1, h, _ => absurd h (by simp)
 | x :: y :: l, i + 1, h, hf => by
  rw [vW]
  have h1 := vW_pos (y :: l) i (by simp at h ⊢; omega) fun z hz => hf z (List.mem_cons_of_mem _ hz)
  have h2 := hf y (by simp)
  have := Int.mul_le_mul h2 h1 (by omega) (by omega)
  omega
theorem ev_ge : ∀ (us : List Pr) (ds : List Int), DigB us ds → (∀ x ∈ us, 1 ≤ x.2) → 0 ≤ evH us ds ∧ ∀ i, i < us.length → ds.getD i 0 * vW us i ≤ evH us ds
 | [], [], _, _ => ⟨Int.le_refl _, fun i hi => absurd hi (Nat.not_lt_zero i)⟩
 | [], _ :: _, h, _ => by cases h.1
 | [_], [], h, _ => by cases h.1
 | [x], [d], h, _ => ⟨(h.2 0 (by simp)).1, fun i hi => by
  have : i = 0 := by simp at hi; omega
  subst this
  show d * 1 ≤ d
  omega⟩
 | [_], _ :: _ :: _, h, _ => by cases h.1
 | _ :: _ :: _, [], h, _ => by cases h.1
 | x :: y :: l, d :: ds, h, hf => by
  obtain ⟨h0, h1, h2⟩ := h.tl
  obtain ⟨e0, e1⟩ := ev_ge (y :: l) ds h2 fun z hz => hf z (List.mem_cons_of_mem _ hz)
  have hy := hf y (by simp)
  have e2 : 0 ≤ y.2 * evH (y :: l) ds := Int.mul_nonneg (by omega) e0
  rw [evH]
  refine ⟨by omega, fun i hi => ?_⟩
  cases i with
  | zero =>
   show d * 1 ≤ _
   omega
  | succ i =>
   have e3 := e1 i (by simp at hi ⊢; omega)
   rw [List.getD_cons_succ, vW, Int.mul_left_comm]
   have := Int.mul_le_mul_of_nonneg_left e3 (show 0 ≤ y.2 by omega)
   omega
theorem yv_vW : ∀ (v : Int) (x : Pr) (l : List Pr) (i : Nat) (y : Pr × Int), (yv v (x :: l)).length = (x :: l).length → (yv v (x :: l))[i]? = some y → y.2 = v * x.2 * vW (x :: l) i ∧ y.2 ≤ 1099511627776
 | v, x, l, i, y, h, hy => by
  rw [yv] at h hy
  by_cases hb : x.2 < 1 ∨ 60 < x.2 ∨ 1099511627776 < v * x.2
  ·rw [if_pos hb] at hy; simp at hy
  ·rw [if_neg hb] at h hy
   cases i with
   | zero =>
    rw [List.getElem?_cons_zero] at hy
    cases hy
    rw [vW]
    exact ⟨by show v * x.2 = _; omega, by show v * x.2 ≤ _; omega⟩
   | succ i =>
    rw [List.getElem?_cons_succ] at hy
    cases l with
    | nil => rw [yv] at hy; simp at hy
    | cons z l =>
     obtain ⟨e1, e2⟩ := yv_vW (v * x.2) z l i y (by simpa using h) hy
     exact ⟨by rw [e1, vW, Int.mul_assoc (v * x.2)], e2⟩
theorem valsS_at {nm : List UInt8} {us : List Pr} (hck : chkLad nm us = 0) {i : Nat} (hi : i < us.length) : (valsS nm us).getD i 0 = vW us i ∧ vW us i ≤ 1099511627776 := by
 obtain ⟨hL, hyl, hf⟩ := chkLad_ok hck
 have hx : us[i]? = some us[i] := List.getElem?_eq_getElem hi
 have hok : ladOK nm us = true := by
  unfold chkLad at hck
  by_cases h : ladOK nm us = true
  ·exact h
  ·rw [if_neg h] at hck; cases hck
 have hrl := hok
 rw [← refLad_eq] at hrl
 unfold refLad at hrl
 simp only [Bool.and_eq_true, List.all_eq_true, List.mem_range] at hrl
 have hr := hrl.1.2 i hi
 have eg : us.getD i ([], 0) = us[i] := by rw [List.getD_eq_getElem?_getD, hx]; rfl
 rw [eg] at hr
 unfold refU at hr
 simp only [Bool.and_eq_true, decide_eq_true_eq] at hr
 have hid := hr.2.1
 have e1 : (valsS nm us).getD i 0 = (valL nm us us[i].1).1 := by
  unfold valsS
  rw [List.getD_eq_getElem?_getD, List.getElem?_map, hx]; rfl
 rw [e1]
 unfold valL
 rw [if_neg (fun h => h hck)]
 obtain ⟨x, l, hxl, hx1⟩ := chkLad_first hck
 rcases valM_idx 0 1 us us[i].1 hyl with ⟨h1, _⟩ | ⟨j, y, hj, h1, h2, h3⟩
 ·rw [hid] at h1; omega
 ·have : j = i := by rw [hid] at h1; omega
  subst this
  rw [h3]
  subst hxl
  obtain ⟨a, b⟩ := yv_vW 1 x l j y hyl h2
  rw [hx1, Int.one_mul, Int.one_mul] at a
  exact ⟨a, a ▸ b⟩
theorem small_b {nm : List UInt8} {us : List Pr} (hck : chkLad nm us = 0) {n : Int} (hn1 : 0 ≤ n) (hn2 : n ≤ 1099511627776) : SmallB us (splitA us n) (valsS nm us) := by
 obtain ⟨hL, hyl, hf⟩ := chkLad_ok hck
 have hf1 : ∀ x ∈ us, 1 ≤ x.2 := fun x hx => (hf x hx).1
 obtain ⟨x, l, hxl, hx1⟩ := chkLad_first hck
 have hd := dig_split us n hn1 hf1
 have he := ev_split us n (by rw [hxl]; simp)
 have hg := (ev_ge us _ hd hf1).2
 rw [he] at hg
 have key : ∀ i, i < us.length → 0 ≤ (splitA us n).getD i 0 ∧ (splitA us n).getD i 0 ≤ 1099511627776 ∧ (splitA us n).getD i 0 * vW us i ≤ 1099511627776 ∧ 0 ≤ (splitA us n).getD i 0 * vW us i := fun i hi => by
  have a1 := (hd.2 i hi).1
  have a2 := hg i hi
  have a3 := vW_pos us i hi hf1
  have a4 := Int.mul_le_mul_of_nonneg_left a3 a1
  exact ⟨a1, by omega, by omega, by omega⟩
 intro i hi
 obtain ⟨k1, k2, k3, k4⟩ := key i hi
 obtain ⟨v1, v2⟩ := valsS_at hck hi
 have v3 := vW_pos us i hi hf1
 rw [v1]
 refine ⟨⟨k1, k2⟩, ⟨by omega, v2⟩, fun hi2 => ?_⟩
 obtain ⟨l1, l2, l3, l4⟩ := key (i + 1) hi2
 obtain ⟨w1, w2⟩ := valsS_at hck hi2
 rw [w1]
 have hy := hf (us.getD (i + 1) ([], 0)) (by rw [List.getD_eq_getElem?_getD, List.getElem?_eq_getElem hi2]; exact List.getElem_mem hi2)
 have ws := vW_step us i hi2
 have s1 : vW us i ≤ vW us (i + 1) := by
  rw [ws]
  have := Int.mul_le_mul_of_nonneg_left hy.1 (show 0 ≤ vW us i by omega)
  omega
 have s2 := Int.mul_le_mul_of_nonneg_left s1 l1
 have s3 : (splitA us n).getD i 0 * vW us (i + 1) = (splitA us n).getD i 0 * vW us i * (us.getD (i + 1) ([], 0)).2 := by rw [ws, Int.mul_assoc]
 have s4 := Int.mul_le_mul_of_nonneg_left hy.2 k4
 have s5 := Int.mul_nonneg k4 (show 0 ≤ (us.getD (i + 1) ([], 0)).2 by omega)
 have s6 := Int.mul_nonneg l1 (show 0 ≤ vW us i by omega)
 exact ⟨⟨l4, l3⟩, ⟨s6, by omega⟩, ⟨k4, k3⟩, by omega, by omega⟩
end Go.Proofs.YtiejeicaaojdlaaGreat
namespace Go.Proofs.YtiejeicaaojdlaaGreat
open Go Go.Eng
theorem flt0 (p : Nat → Bool) : ∀ n : Nat, (∀ j, j < n → p j = false) → (List.range n).filter p = []
 | 0, _ => rfl
 | n + 1, h => by
  rw [List.range_succ, List.filter_append, flt0 p n fun j hj => h j (by omega), List.filter_cons, h n (by omega)]; rfl
theorem flt1 (p : Nat → Bool) (i : Nat) : ∀ n : Nat, i < n → (∀ j, j < n → p j = decide (j = i)) → (List.range n).filter p = [i]
 | 0, h, _ => absurd h (Nat.not_lt_zero i)
 | n + 1, hi, h => by
  rw [List.range_succ, List.filter_append, List.filter_cons, h n (by omega)]
  by_cases he : n = i
  ·subst he
   rw [flt0 p n fun j hj => by rw [h j (by omega)]; exact decide_eq_false (by omega), decide_eq_true rfl]; rfl
  ·rw [flt1 p i n (by omega) fun j hj => h j (by omega), decide_eq_false he]; rfl
theorem flt2 (p : Nat → Bool) (i : Nat) : ∀ n : Nat, i + 1 < n → (∀ j, j < n → p j = (decide (j = i) || decide (j = i + 1))) → (List.range n).filter p = [i, i + 1]
 | 0, h, _ => absurd h (Nat.not_lt_zero _)
 | n + 1, hi, h => by
  rw [List.range_succ, List.filter_append, List.filter_cons, h n (by omega)]
  by_cases he : n = i + 1
  ·subst he
   rw [flt1 p i (i + 1) (by omega) fun j hj => by rw [h j (by omega), decide_eq_false (show ¬ j = i + 1 by omega), Bool.or_false], decide_eq_true rfl, Bool.or_true]; rfl
  ·rw [flt2 p i n (by omega) fun j hj => h j (by omega), decide_eq_false he, decide_eq_false (show ¬ n = i by omega)]; rfl
def difL (cs ds : List Int) (n : Nat) : List Nat := (List.range n).filter fun i => cs.getD i 0 != ds.getD i 0
def slipK (cs ds : List Int) : List Nat → Int
 | [a] => if cs.getD a 0 = ds.getD a 0 + 1 then 1 else if cs.getD a 0 + 1 = ds.getD a 0 then 2 else 0
 | [a, b] => if b = a + 1 then (if ds.getD b 0 = 0 ∧ 1 ≤ ds.getD a 0 ∧ cs.getD a 0 = 0 ∧ cs.getD b 0 = ds.getD a 0 then 3 else if ds.getD a 0 = 0 ∧ 1 ≤ ds.getD b 0 ∧ cs.getD b 0 = 0 ∧ cs.getD a 0 = ds.getD b 0 then 4 else 0) else 0
 | _ => 0
theorem getD_set (l : List Int) (i j : Nat) (d : Int) (hi : i < l.length) : (l.set i d).getD j 0 = if j = i then d else l.getD j 0 := by
 rw [List.getD_eq_getElem?_getD, List.getElem?_set]
 by_cases h : i = j
 ·subst h; rw [if_pos rfl, if_pos hi, if_pos rfl]; rfl
 ·rw [if_neg h, if_neg (fun e => h e.symm), List.getD_eq_getElem?_getD]
theorem extD {l k : List Int} (h : l.length = k.length) (he : ∀ j, j < l.length → l.getD j 0 = k.getD j 0) : l = k := by
 apply List.ext_getElem? 
 intro j
 rcases Nat.lt_or_ge j l.length with hj | hj
 ·have := he j hj
  rw [List.getD_eq_getElem?_getD, List.getD_eq_getElem?_getD, List.getElem?_eq_getElem hj, List.getElem?_eq_getElem (h ▸ hj)] at this
  rw [List.getElem?_eq_getElem hj, List.getElem?_eq_getElem (h ▸ hj)]
  exact congrArg some this
 ·rw [List.getElem?_eq_none hj, List.getElem?_eq_none (h ▸ hj)]
theorem DigB.set {us : List Pr} {ds : List Int} (h : DigB us ds) {i : Nat} {d : Int} (hi : i < us.length) (h0 : 0 ≤ d) (h1 : i + 1 < us.length → d < (us.getD (i + 1) ([], 0)).2) : DigB us (ds.set i d) := by
 have hl := h.1
 refine ⟨by rw [List.length_set]; exact hl, fun j hj => ?_⟩
 rw [getD_set _ _ _ _ (by omega)]
 by_cases e : j = i
 ·subst e; rw [if_pos rfl]; exact ⟨h0, h1⟩
 ·rw [if_neg e]; exact h.2 j hj
theorem roomB_iff {us : List Pr} {i : Nat} {k : Int} (hi : i < us.length) : roomB us i k = true ↔ (i + 1 < us.length → k < (us.getD (i + 1) ([], 0)).2) := by
 unfold roomB
 rw [Bool.or_eq_true, beq_iff_eq, decide_eq_true_eq]
 constructor
 ·rintro (h | h) h2
  ·omega
  ·exact h
 ·intro h
  rcases Nat.lt_or_ge (i + 1) us.length with h1 | h1
  ·exact .inr (h h1)
  ·exact .inl (by omega)
theorem mem_one {b : Bool} {x y : Sp} : y ∈ one b x ↔ b = true ∧ okN x.2.2 = true ∧ y = x := by
 unfold one
 cases b with
 | false => simp
 | true =>
  cases h : okN x.2.2 with
  | false => simp
  | true => simp
theorem kindL_of {m k : Int} : ∀ {S : List Sp}, (∀ x ∈ S, x.2.2 = m → x.1 = k) → (k = 0 ∨ ∃ x ∈ S, x.2.2 = m) → kindL S m = k
 | [], _, h => by
  rcases h with h | ⟨x, hx, _⟩
  ·exact h.symm
  ·cases hx
 | x :: S, h1, h2 => by
  rw [kindL]
  by_cases h : x.2.2 = m
  ·rw [if_pos h]; exact h1 x (List.mem_cons_self ..) h
  ·rw [if_neg h]
   refine kindL_of (fun y hy => h1 y (List.mem_cons_of_mem _ hy)) ?_
   rcases h2 with h2 | ⟨y, hy, e⟩
   ·exact .inl h2
   ·rcases List.mem_cons.1 hy with rfl | hy
    ·exact absurd e h
    ·exact .inr ⟨y, hy, e⟩
theorem dif1 {cs : List Int} {i n : Nat} {d : Int} (hl : cs.length = n) (hi : i < n) (hd : d ≠ cs.getD i 0) : difL cs (cs.set i d) n = [i] := by
 unfold difL
 refine flt1 _ i n hi fun j hj => ?_
 rw [getD_set _ _ _ _ (by omega)]
 by_cases e : j = i
 ·subst e; rw [if_pos rfl, decide_eq_true rfl]; exact bne_iff_ne.2 fun h => hd h.symm
 ·rw [if_neg e, decide_eq_false e]; exact bne_self_eq_false _
theorem dif2 {cs : List Int} {i n : Nat} {d e : Int} (hl : cs.length = n) (hi : i + 1 < n) (hd : d ≠ cs.getD i 0) (he : e ≠ cs.getD (i + 1) 0) : difL cs ((cs.set i d).set (i + 1) e) n = [i, i + 1] := by
 unfold difL
 refine flt2 _ i n hi fun j hj => ?_
 rw [getD_set _ _ _ _ (by rw [List.length_set]; omega), getD_set _ _ _ _ (by omega)]
 by_cases h1 : j = i + 1
 ·subst h1; rw [if_pos rfl, decide_eq_true (show i + 1 = i + 1 from rfl), Bool.or_true]; exact bne_iff_ne.2 fun h => he h.symm
 ·rw [if_neg h1, decide_eq_false h1, Bool.or_false]
  by_cases h : j = i
  ·subst h; rw [if_pos rfl, decide_eq_true rfl]; exact bne_iff_ne.2 fun h => hd h.symm
  ·rw [if_neg h, decide_eq_false h]; exact bne_self_eq_false _
theorem mem_dif {cs ds : List Int} {n j : Nat} : j ∈ difL cs ds n ↔ j < n ∧ cs.getD j 0 ≠ ds.getD j 0 := by
 unfold difL
 rw [List.mem_filter, List.mem_range, bne_iff_ne]
theorem kind_law {nm : List UInt8} {us : List Pr} (hck : chkLad nm us = 0) {n m : Int} (hn1 : 1 ≤ n) (hm1 : 1 ≤ m) (hm2 : m ≤ 1099511627776) :
  kindL (slipsL us (splitA us n) (valsS nm us) n) m = slipK (splitA us n) (splitA us m) (difL (splitA us n) (splitA us m) us.length) := by
 obtain ⟨hL, hyl, hf⟩ := chkLad_ok hck
 have hf1 : ∀ x ∈ us, 1 ≤ x.2 := fun x hx => (hf x hx).1
 obtain ⟨x0, l0, hxl, hx1⟩ := chkLad_first hck
 have hne : us ≠ [] := by rw [hxl]; simp
 have hdn := dig_split us n (by omega) hf1
 have hdm := dig_split us m (by omega) hf1
 have hen := ev_split us n hne
 have hem := ev_split us m hne
 have huq : ∀ ds, DigB us ds → evH us ds = m → splitA us m = ds := fun ds h1 h2 => by rw [← h2]; exact split_ev us ds h1
 have hv : ∀ i, i < us.length → (valsS nm us).getD i 0 = vW us i := fun i hi => (valsS_at hck hi).1
 clear hyl hf hxl hx1
 generalize valsS nm us = vs at hv ⊢
 generalize splitA us m = ds at hdm hem huq ⊢
 generalize splitA us n = cs at hdn hen ⊢
 have hl := hdn.1
 have hlm := hdm.1
 have e1 : ∀ i d, i < us.length → evH us (cs.set i d) = n + (d - cs.getD i 0) * vW us i := fun i d hi => by rw [ev_set us cs i d hl hi, hen]
 have e2 : ∀ i d e, i + 1 < us.length → evH us ((cs.set i d).set (i + 1) e) = n + (d - cs.getD i 0) * vW us i + (e - cs.getD (i + 1) 0) * vW us (i + 1) := fun i d e hi => by
  rw [ev_set us (cs.set i d) (i + 1) e (by rw [List.length_set]; exact hl) hi, e1 i d (by omega), getD_set _ _ _ _ (by omega), if_neg (by omega)]
 have g1 : ∀ i d, i < us.length → (cs.set i d).getD i 0 = d := fun i d hi => by rw [getD_set _ _ _ _ (by omega), if_pos rfl]
 have g2 : ∀ i d e, i + 1 < us.length → ((cs.set i d).set (i + 1) e).getD i 0 = d ∧ ((cs.set i d).set (i + 1) e).getD (i + 1) 0 = e := fun i d e hi => by
  exact ⟨by rw [getD_set _ _ _ _ (by rw [List.length_set]; omega), if_neg (by omega), g1 i d (by omega)], by rw [getD_set _ _ _ _ (by rw [List.length_set]; omega), if_pos rfl]⟩
 have okm : okN m = true := by unfold okN; rw [decide_eq_true hm1, decide_eq_true hm2]; rfl
 refine kindL_of (fun x hx hxm => ?_) ?_
 ·unfold slipsL at hx
  obtain ⟨i, hi, hx⟩ := List.mem_flatMap.1 hx
  rw [List.mem_range] at hi
  obtain ⟨c0, c1⟩ := hdn.2 i hi
  unfold slipsAt at hx
  rw [List.mem_append, List.mem_append, mem_one, mem_one] at hx
  rcases hx with (⟨h1, _, rfl⟩ | ⟨h1, _, rfl⟩) | hx
  ·replace hxm : n - vs.getD i 0 = m := hxm
   rw [hv i hi] at hxm
   have hc := of_decide_eq_true h1
   have := huq (cs.set i (cs.getD i 0 - 1)) (hdn.set hi (by omega) fun h => by have := c1 h; omega) (by rw [e1 i _ hi, ← hxm, show cs.getD i 0 - 1 - cs.getD i 0 = -1 by omega, Int.neg_mul, Int.one_mul]; omega)
   subst this
   rw [dif1 hl hi (by omega)]
   show 1 = (if _ then (1 : Int) else _)
   rw [g1 i _ hi, if_pos (by omega)]
  ·replace hxm : n + vs.getD i 0 = m := hxm
   rw [hv i hi] at hxm
   have hc := (roomB_iff hi).1 h1
   have := huq (cs.set i (cs.getD i 0 + 1)) (hdn.set hi (by omega) hc) (by rw [e1 i _ hi, ← hxm, show cs.getD i 0 + 1 - cs.getD i 0 = 1 by omega, Int.one_mul])
   subst this
   rw [dif1 hl hi (by omega)]
   show 2 = (if _ then (1 : Int) else _)
   rw [g1 i _ hi, if_neg (by omega), if_pos rfl]
  ·by_cases hlast : i + 1 = us.length
   ·rw [if_pos hlast] at hx; cases hx
   ·have hi2 : i + 1 < us.length := by omega
    obtain ⟨d0, d1⟩ := hdn.2 (i + 1) hi2
    rw [if_neg hlast, List.mem_append, mem_one, mem_one] at hx
    rcases hx with ⟨h1, _, rfl⟩ | ⟨h1, _, rfl⟩
    ·rw [Bool.and_eq_true, Bool.and_eq_true, beq_iff_eq, decide_eq_true_eq] at h1
     obtain ⟨⟨h1, h2⟩, h3⟩ := h1
     replace hxm : n - cs.getD (i + 1) 0 * vs.getD (i + 1) 0 + cs.getD (i + 1) 0 * vs.getD i 0 = m := hxm
     rw [hv i hi, hv (i + 1) hi2] at hxm
     have := huq ((cs.set i (cs.getD (i + 1) 0)).set (i + 1) 0) ((hdn.set hi d0 ((roomB_iff hi).1 h3)).set hi2 (by omega) fun h => by have := d1 h; omega) (by rw [e2 i _ _ hi2, ← hxm, h1, Int.sub_zero, Int.zero_sub, Int.neg_mul]; omega)
     subst this
     rw [dif2 hl hi2 (by omega) (by omega)]
     show 3 = (if _ then (if _ then (3 : Int) else _) else _)
     rw [if_pos rfl, (g2 i _ _ hi2).1, (g2 i _ _ hi2).2, if_pos ⟨rfl, by omega, h1, rfl⟩]
    ·rw [Bool.and_eq_true, Bool.and_eq_true, beq_iff_eq, decide_eq_true_eq] at h1
     obtain ⟨⟨h1, h2⟩, h3⟩ := h1
     replace hxm : n - cs.getD i 0 * vs.getD i 0 + cs.getD i 0 * vs.getD (i + 1) 0 = m := hxm
     rw [hv i hi, hv (i + 1) hi2] at hxm
     have := huq ((cs.set i 0).set (i + 1) (cs.getD i 0)) ((hdn.set hi (Int.le_refl 0) fun h => by have := c1 h; omega).set hi2 c0 ((roomB_iff hi2).1 h3)) (by rw [e2 i _ _ hi2, ← hxm, h1, Int.sub_zero, Int.zero_sub, Int.neg_mul]; omega)
     subst this
     rw [dif2 hl hi2 (by omega) (by omega)]
     show 4 = (if _ then (if _ then (3 : Int) else if _ then 4 else _) else _)
     rw [if_pos rfl, (g2 i _ _ hi2).1, (g2 i _ _ hi2).2, if_neg (fun h => by omega), if_pos ⟨rfl, by omega, h1, rfl⟩]
 ·have md := @mem_dif cs ds us.length
  have found : ∀ (i : Nat) (x : Sp), i < us.length → x ∈ slipsAt us cs vs n i → x.2.2 = m → ∃ x ∈ slipsL us cs vs n, x.2.2 = m := fun i x hi hx he => ⟨x, List.mem_flatMap.2 ⟨i, List.mem_range.2 hi, hx⟩, he⟩
  generalize difL cs ds us.length = D at md ⊢
  rcases D with _ | ⟨a, _ | ⟨b, _ | ⟨c, D⟩⟩⟩
  ·exact .inl rfl
  ·have ha := (md.1 (List.mem_cons_self ..)).1
   have hds : ds = cs.set a (ds.getD a 0) := extD (by rw [List.length_set]; omega) fun j hj => by
    rw [getD_set _ _ _ _ (by omega)]
    by_cases e : j = a
    ·subst e; rw [if_pos rfl]
    ·rw [if_neg e]
     exact Classical.byContradiction fun h => e (List.mem_singleton.1 (md.2 ⟨by omega, fun h' => h h'.symm⟩))
   have hev : m = n + (ds.getD a 0 - cs.getD a 0) * vW us a := by rw [← e1 a _ ha, ← hds, hem]
   have hda := hdm.2 a ha
   show (if _ then (1 : Int) else if _ then 2 else 0) = 0 ∨ _
   by_cases k1 : cs.getD a 0 = ds.getD a 0 + 1
   ·refine .inr (found a _ ha (List.mem_append_left _ (List.mem_append_left _ (mem_one.2 ⟨decide_eq_true (by omega), ?_, rfl⟩))) ?_)
    ·show okN (n - vs.getD a 0) = true
     rw [hv a ha, show n - vW us a = m by rw [hev, k1, show ds.getD a 0 - (ds.getD a 0 + 1) = -1 by omega, Int.neg_mul, Int.one_mul]; omega]
     exact okm
    ·show n - vs.getD a 0 = m
     rw [hv a ha, hev, k1, show ds.getD a 0 - (ds.getD a 0 + 1) = -1 by omega, Int.neg_mul, Int.one_mul]; omega
   ·rw [if_neg k1]
    by_cases k2 : cs.getD a 0 + 1 = ds.getD a 0
    ·have hm : n + vs.getD a 0 = m := by rw [hv a ha, hev, ← k2, show cs.getD a 0 + 1 - cs.getD a 0 = 1 by omega, Int.one_mul]
     exact .inr (found a (2, (us.getD a ([], 0)).1, n + vs.getD a 0) ha (List.mem_append_left _ (List.mem_append_right _ (mem_one.2 ⟨(roomB_iff ha).2 fun h => by rw [k2]; exact hda.2 h, by show okN (n + vs.getD a 0) = true; rw [hm]; exact okm, rfl⟩))) hm)
    ·rw [if_neg k2]; exact .inl rfl
  ·have ha := (md.1 (List.mem_cons_self ..)).1
   have hb := (md.1 (List.mem_cons_of_mem _ (List.mem_cons_self ..))).1
   show (if _ then (if _ then (3 : Int) else if _ then 4 else 0) else 0) = 0 ∨ _
   by_cases hba : b = a + 1
   case neg => rw [if_neg hba]; exact .inl rfl
   subst hba
   rw [if_pos rfl]
   have hds : ds = (cs.set a (ds.getD a 0)).set (a + 1) (ds.getD (a + 1) 0) := extD (by rw [List.length_set, List.length_set]; omega) fun j hj => by
    rw [getD_set _ _ _ _ (by rw [List.length_set]; omega), getD_set _ _ _ _ (by omega)]
    by_cases e : j = a + 1
    ·subst e; rw [if_pos rfl]
    ·rw [if_neg e]
     by_cases e' : j = a
     ·subst e'; rw [if_pos rfl]
     ·rw [if_neg e']
      refine Classical.byContradiction fun h => ?_
      have := md.2 ⟨show j < us.length by omega, fun h' => h h'.symm⟩
      rcases List.mem_cons.1 this with h | h
      ·exact e' h
      ·exact e (List.mem_singleton.1 h)
   have hev : m = n + (ds.getD a 0 - cs.getD a 0) * vW us a + (ds.getD (a + 1) 0 - cs.getD (a + 1) 0) * vW us (a + 1) := by rw [← e2 a _ _ hb, ← hds, hem]
   have hda := hdm.2 a ha
   have hdb := hdm.2 (a + 1) hb
   have hlast : ¬ a + 1 = us.length := by omega
   by_cases k1 : ds.getD (a + 1) 0 = 0 ∧ 1 ≤ ds.getD a 0 ∧ cs.getD a 0 = 0 ∧ cs.getD (a + 1) 0 = ds.getD a 0
   ·obtain ⟨p1, p2, p3, p4⟩ := k1
    have hm : n - cs.getD (a + 1) 0 * vs.getD (a + 1) 0 + cs.getD (a + 1) 0 * vs.getD a 0 = m := by
     rw [hv a ha, hv (a + 1) hb, hev, p1, p3, p4, Int.sub_zero, Int.zero_sub, Int.neg_mul]; omega
    refine .inr (found a (3, (us.getD a ([], 0)).1, n - cs.getD (a + 1) 0 * vs.getD (a + 1) 0 + cs.getD (a + 1) 0 * vs.getD a 0) ha (List.mem_append_right _ ?_) hm)
    rw [if_neg hlast]
    exact List.mem_append_left _ (mem_one.2 ⟨by rw [beq_iff_eq.2 p3, decide_eq_true (show 0 < cs.getD (a + 1) 0 by omega), (roomB_iff ha).2 fun h => by rw [p4]; exact hda.2 h]; rfl, by show okN (n - cs.getD (a + 1) 0 * vs.getD (a + 1) 0 + cs.getD (a + 1) 0 * vs.getD a 0) = true; rw [hm]; exact okm, rfl⟩)
   ·rw [if_neg k1]
    by_cases k2 : ds.getD a 0 = 0 ∧ 1 ≤ ds.getD (a + 1) 0 ∧ cs.getD (a + 1) 0 = 0 ∧ cs.getD a 0 = ds.getD (a + 1) 0
    ·obtain ⟨p1, p2, p3, p4⟩ := k2
     have hm : n - cs.getD a 0 * vs.getD a 0 + cs.getD a 0 * vs.getD (a + 1) 0 = m := by
      rw [hv a ha, hv (a + 1) hb, hev, p1, p3, p4, Int.sub_zero, Int.zero_sub, Int.neg_mul]; omega
     refine .inr (found a (4, (us.getD (a + 1) ([], 0)).1, n - cs.getD a 0 * vs.getD a 0 + cs.getD a 0 * vs.getD (a + 1) 0) ha (List.mem_append_right _ ?_) hm)
     rw [if_neg hlast]
     exact List.mem_append_right _ (mem_one.2 ⟨by rw [beq_iff_eq.2 p3, decide_eq_true (show 0 < cs.getD a 0 by omega), (roomB_iff hb).2 fun h => by rw [p4]; exact hdb.2 h]; rfl, by show okN (n - cs.getD a 0 * vs.getD a 0 + cs.getD a 0 * vs.getD (a + 1) 0) = true; rw [hm]; exact okm, rfl⟩)
    ·rw [if_neg k2]; exact .inl rfl
  ·exact .inl rfl
end Go.Proofs.YtiejeicaaojdlaaGreat
namespace Go.Proofs.YtiejeicaaojdlaaGreat
open Go Go.Eng
theorem bd_rSlip : hasBody Tryz.prog 94 = true := by kernel_rfl
def slipE (nm : List UInt8) (us : List Pr) (m n : Int) : Int :=
 if (1 ≤ m ∧ 1 ≤ n) ∧ (m ≤ 1099511627776 ∧ n ≤ 1099511627776) then slipK (splitE nm us n).1 (splitE nm us m).1 (difL (splitE nm us n).1 (splitE nm us m).1 (splitE nm us n).1.length) else 0
theorem dif_succ (cs ds : List Int) (i : Nat) : difL cs ds (i + 1) = difL cs ds i ++ (if cs.getD i 0 = ds.getD i 0 then [] else [i]) := by
 unfold difL
 rw [List.range_succ, List.filter_append, List.filter_cons]
 by_cases h : cs.getD i 0 = ds.getD i 0
 ·rw [if_pos h, if_neg (by rw [h]; simp)]; rfl
 ·rw [if_neg h, if_pos (bne_iff_ne.2 h)]; rfl
theorem dif_len (cs ds : List Int) : ∀ i, (difL cs ds i).length ≤ i
 | 0 => Nat.le_refl _
 | i + 1 => by
  rw [dif_succ, List.length_append]
  have := dif_len cs ds i
  split
  ·exact Nat.le_succ_of_le this
  ·exact Nat.succ_le_succ this
def ints (l : List Nat) : List Int := l.map fun k : Nat => (k : Int)
theorem split_small (nm : List UInt8) (us : List Pr) (n : Int) : ((splitE nm us n).1.length ≤ us.length) ∧ ∀ i, i < (splitE nm us n).1.length → 0 ≤ (splitE nm us n).1.getD i 0 ∧ (splitE nm us n).1.getD i 0 ≤ 1099511627776 := by
 unfold splitE
 by_cases hck : chkLad nm us = 0
 case neg => rw [if_pos hck]; exact ⟨Nat.zero_le _, fun i hi => absurd hi (Nat.not_lt_zero i)⟩
 rw [if_neg (fun h => h hck)]
 by_cases hn : 0 ≤ n ∧ n ≤ 1099511627776
 case neg => rw [if_neg hn]; exact ⟨Nat.zero_le _, fun i hi => absurd hi (Nat.not_lt_zero i)⟩
 rw [if_pos hn]
 refine ⟨Nat.le_of_eq (splitA_len us n), fun i hi => ?_⟩
 exact (small_b hck hn.1 hn.2 i (by rw [splitA_len] at hi; exact hi)).1
set_option maxRecDepth 10000 in
set_option maxHeartbeats 64000000 in
theorem rSlip_con (H : Hp) (nm : List UInt8) (u : AC) (us : List Pr) (m n : Int) (hu : SlP H u us) :
  Con E2 94 [.agg [.o (.str nm), u], .one (.i .i64 m), .one (.i .i64 n)] H (fun _ => False) fun r _ => ∃ sg x, r = .agg [.i .i64 (slipE nm us m n), .o (.str sg), .i .i64 x] := by
 refine Con.of rfl fun lg => ?_
 have hu : SlP ⟨H.t, H.nx, lg⟩ u us := hu
 generalize (⟨H.t, H.nx, lg⟩ : Hp) = H at hu ⊢
 refine C1.body (E := E2) (nt := 202) (res := [.cell 6 164]) Tryz.func94 rfl rfl rfl rfl rfl fun tm hargs => ?_
 have h0 := hargs 0 _ rfl
 have h1 := hargs 1 _ rfl
 have h2 := hargs 2 _ rfl
 clear hargs
 generalize hr0 : slipE nm us m n = r0
 refine zG tyF fun K hK => ?_
 refine hK.out _ _ ?_
 refine zG tyF fun K hK => ?_
 refine hK.out _ _ ?_
 refine R1.gen (fun A1 H1 => Gr H H1 ∧ H.nx + 2 < H1.nx ∧ H1.get H.nx = some (.arr [.o (.str nm), u] 78 0 0) ∧ H1.get (H.nx + 1) = some (.arr [.i .i64 0, .o (.str []), .i .i64 0] 164 0 0) ∧ H1.get (H.nx + 1 + 1) = some (.arr [.i .i64 0, .o (.str []), .i .i64 0] 164 0 0) ∧ slot A1.tm 1 = .one (.i .i64 (m : Int)) ∧ slot A1.tm 2 = .one (.i .i64 (n : Int)) ∧ slot A1.tm 3 = .one ((.o (.ptr H.nx 0 0 2))) ∧ slot A1.tm 6 = .one ((.o (.ptr (H.nx + 1) 0 0 3))) ∧ slot A1.tm 7 = .one ((.o (.ptr (H.nx + 1 + 1) 0 0 3))) ∧ A1.nt = 202 ∧ A1.dfr = [])
  ⟨((((Fr.refl _).new _).new _).new _).mod _ (.inl (by omega)), by show H.nx + 2 < H.nx + 1 + 1 + 1; omega, by rw [get_modN (by omega), get_newL (by show H.nx < H.nx + 1 + 1; omega), get_newL (by show H.nx < H.nx + 1; omega)]; exact get_newE rfl, by rw [get_modN (by omega), get_newL (by show H.nx + 1 < H.nx + 1 + 1; omega)]; exact get_newE rfl, get_modE rfl, zL⟩ ?_
 clear h0 h1 h2 tm hK K
 rintro A1 H1 ⟨g1, n1, r1, r2, r3, t1, t2, t3, t6, t7, hnt, hdf⟩
 obtain ⟨N, hN⟩ : ∃ N, N = H.nx := ⟨_, rfl⟩
 rw [← hN] at n1 r1 r2 r3 t3 t6 t7
 have hNH : H.nx ≤ N := by omega
 clear hN
 have n2 : N + 1 < H1.nx := by omega
 have n0 : N < H1.nx := by omega
 have n3 : N + 1 + 1 < H1.nx := n1
 clear n1
 have fin : ∀ (k : Int) (sg : List UInt8) (x : Int) (A : AAct) (H2 : Hp), slot A.tm 6 = .one (.o (.ptr (N + 1) 0 0 3)) → A.dfr = [] → Gr H H2 → H2.get (N + 1) = some (.arr [.i .i64 k, .o (.str sg), .i .i64 x] 164 0 0) → k = r0 →
   ∃ w H4, callEnd E2 [.cell 6 164] (.ret, A, H2) = .ok [(w, H4)] ∧ Gr H H4 ∧ ∀ _ : List Nat, ∃ sg x, w = .agg [.i .i64 r0, .o (.str sg), .i .i64 x] := fun k sg x A H2 hs hd hg hr he =>
  ⟨_, _, callEnd_cells (id := N + 1) (g := 0) ld_slip (.inr rfl) (by rw [hd]; rfl) hs (by rw [hr]; exact rowOf_arr (Nat.le_refl _) (Nat.le_refl _)) (Nat.le_refl _) rfl, hg, fun _ => ⟨sg, x, by rw [he]⟩⟩
 have bad : ∀ (A : AAct), slot A.tm 6 = .one (.o (.ptr (N + 1) 0 0 3)) → A.dfr = [] → ¬ ((1 ≤ m ∧ 1 ≤ n) ∧ (m ≤ 1099511627776 ∧ n ≤ 1099511627776)) → ∃ w H4, callEnd E2 [.cell 6 164] (.ret, A, H1.mod (N + 1) (.arr [.i .i64 0, .o (.str []), .i .i64 0] 164 0 0)) = .ok [(w, H4)] ∧ Gr H H4 ∧ ∀ _ : List Nat, ∃ sg x, w = .agg [.i .i64 r0, .o (.str sg), .i .i64 x] := fun A h1 h2 h3 =>
  fin 0 [] 0 A _ h1 h2 (g1.mod _ (.inl (by omega))) (get_modE rfl) (by rw [← hr0]; unfold slipE; rw [if_neg h3])
 by_cases q1 : m < 1
 ·replace hr0 : Hd _ := hr0
  refine zW tyF ?_
  exact bad _ zL qe (fun h => by omega)
 by_cases q2 : n < 1
 ·replace hr0 : Hd _ := hr0
  refine zW tyF ?_
  exact bad _ zL qe (fun h => by omega)
 by_cases q3 : 1099511627776 < m
 ·replace hr0 : Hd _ := hr0
  refine zW tyF ?_
  exact bad _ zL qe (fun h => by omega)
 by_cases q4 : 1099511627776 < n
 ·replace hr0 : Hd _ := hr0
  refine zW tyF ?_
  exact bad _ zL qe (fun h => by omega)
 clear bad
 unfold slipE at hr0
 rw [if_pos ⟨⟨by omega, by omega⟩, by omega, by omega⟩] at hr0
 obtain ⟨lc, bc⟩ := split_small nm us n
 obtain ⟨ld, bd⟩ := split_small nm us m
 have hsE : chkLad nm us = 0 → ∀ k, 1 ≤ k → k ≤ 1099511627776 → splitE nm us k = (splitA us k, 0) := fun hck k h1 h2 => by
  unfold splitE; rw [if_neg (fun h => h hck), if_pos ⟨by omega, h2⟩]
 have hlen : (splitE nm us n).1.length = (splitE nm us m).1.length ∧ ((splitE nm us n).1.length = 0 ∨ (splitE nm us n).1.length = us.length) ∧ us.length ≤ 1000000 ∨ (splitE nm us n).1 = [] := by
  by_cases hck : chkLad nm us = 0
  ·rw [hsE hck n (by omega) (by omega), hsE hck m (by omega) (by omega)]
   exact .inl ⟨by rw [splitA_len, splitA_len], .inr (splitA_len us n), by have := (chkLad_ok hck).1; omega⟩
  ·exact .inr (by unfold splitE; rw [if_pos hck])
 clear hsE
 have hu := hu.gr g1
 have hu0 := hu
 replace hr0 : Hd _ := hr0
 replace hlen : Hd _ := hlen
 replace bc : Hd _ := bc
 replace bd : Hd _ := bd
 replace lc : Hd _ := lc
 replace ld : Hd _ := ld
 refine zW tyF ?_
 repeat refine R1.s_assoc ?_
 refine zG (qA tyF bd_rSplit) fun K hK => ?_
 refine WE.con (rSplit_con H1 nm u us n hu) fun w H2 g2 ⟨c, hq, hc⟩ => ?_
 subst hq
 have r1 := (g2.get _ n0 not_false).trans r1
 have n0 := Nat.lt_of_lt_of_le n0 g2.nx
 have r2 := (g2.get _ n2 not_false).trans r2
 have n2 := Nat.lt_of_lt_of_le n2 g2.nx
 have r3 := (g2.get _ n3 not_false).trans r3
 have n3 := Nat.lt_of_lt_of_le n3 g2.nx
 have hu := hu.gr g2
 refine zK tyF ?_
 refine zG (qA tyF bd_rSplit) fun K hK => ?_
 refine WE.con (rSplit_con H2 nm u us m hu) fun w H3 g3 ⟨d, hq, hd⟩ => ?_
 subst hq
 have r1 := (g3.get _ n0 not_false).trans r1
 have n0 := Nat.lt_of_lt_of_le n0 g3.nx
 have r2 := (g3.get _ n2 not_false).trans r2
 have n2 := Nat.lt_of_lt_of_le n2 g3.nx
 have r3 := (g3.get _ n3 not_false).trans r3
 have n3 := Nat.lt_of_lt_of_le n3 g3.nx
 have hu := hu.gr g3
 have hc := hc.gr g3
 have g3 := (g1.gr g2).gr g3
 clear g1 g2 hu0
 generalize (splitE nm us n).1 = cs at hc hr0 hlen bc lc
 generalize (splitE nm us m).1 = ds at hd hr0 hlen bd ld
 have hl1 : cs.length ≤ us.length := lc.out
 have hl2 : cs.length = 0 ∨ (cs.length = ds.length ∧ cs.length = us.length ∧ us.length ≤ 1000000) := by
  rcases hlen.out with ⟨h1, h2, h3⟩ | h
  ·rcases h2 with h2 | h2
   ·exact .inl h2
   ·exact .inr ⟨h1, h2, h3⟩
  ·exact .inl (by rw [h]; rfl)
 have hl3 : cs.length ≤ 1000000 := by omega
 replace hl2 : Hd _ := hl2
 clear hl1 hlen lc ld
 obtain ⟨zi, hzi, hzil⟩ := zx_int
 have l1 := hc.len
 have l2 := hc.lt
 refine zK tyF ?_
 refine R1.s_bl fun K k1 k2 k3 k4 => ?_
 refine R1.loop (fun z A H4 => ∃ (i : Nat) (v : AC) (r : Option Nat), z = cs.length - i ∧ i ≤ cs.length ∧ Gr H3 H4 ∧ OwnR H4 v 3 1 (ints (difL cs ds i)).length ((ints (difL cs ds i)).flatMap intC) r ∧ (∀ q, r = some q → H3.nx ≤ q) ∧ slot A.tm 1 = .one (.i .i64 (m : Int)) ∧ slot A.tm 3 = .one ((.o (.ptr N 0 0 2))) ∧ slot A.tm 6 = .one ((.o (.ptr (N + 1) 0 0 3))) ∧ slot A.tm 7 = .one ((.o (.ptr (N + 1 + 1) 0 0 3))) ∧ slot A.tm 8 = .one (c) ∧ slot A.tm 10 = .one (d) ∧ slot A.tm 12 = .one (v) ∧ slot A.tm 13 = .one (.i .i64 (i : Int)) ∧ A.nt = 202 ∧ A.dfr = []) ?_ cs.length
  ⟨0, .o .nilS, none, rfl, Nat.zero_le _, Fr.refl _, .inl ⟨rfl, rfl, rfl, rfl⟩, fun q hq => (by cases hq), zL⟩
 clear t1 t2 t3 t6 t7 hnt hdf A1 l1 l2 k3
 rintro z A H4 ⟨i, v, r, rfl, hi, g4, hown, hrow, t1, t3, t6, t7, t8, t10, t12, t13, hnt, hdf⟩
 have hc4 := hc.gr g4
 have l1 := hc4.len
 have l2 := hc4.lt
 refine zW tyF ?_
 refine zI tyF (fun hx => ?_) (fun hx => ?_)
 ·have hlt : i < cs.length := by omega
  have hlt2 : i < ds.length := by have := hl2.out; omega
  have hw2 : IntKind.i64.wrap ((i : Int) + 1) = ((i + 1 : Nat) : Int) := by rw [wrapI (by omega) (by omega)]; omega
  have hdl : (difL cs ds i).length ≤ i := dif_len cs ds i
  have hil : (ints (difL cs ds i)).length = (difL cs ds i).length := List.length_map _
  have hsu := dif_succ cs ds i
  obtain ⟨idc, gc, oc, cc, rfl, hidc, hgc, hatc⟩ := hc4.open (by omega)
  obtain ⟨idd, gd, od, cd, rfl, hidd, hgd, hatd⟩ := (hd.gr g4).open (by omega)
  have ec : cs[i]? = some (cs.getD i 0) := by rw [List.getD_eq_getElem?_getD, List.getElem?_eq_getElem hlt]; rfl
  have ed : ds[i]? = some (ds.getD i 0) := by rw [List.getD_eq_getElem?_getD, List.getElem?_eq_getElem hlt2]; rfl
  obtain ⟨e1, e2⟩ := hatc i _ ec
  obtain ⟨e3, e4⟩ := hatd i _ ed
  clear hatc hatd ec ed l1 l2
  replace hsu : Hd _ := hsu
  replace hil : Hd _ := hil
  replace hc4 : Hd _ := hc4
  by_cases hq : cs.getD i 0 = ds.getD i 0
  ·have hse : difL cs ds (i + 1) = difL cs ds i := by rw [hsu.out, if_pos hq, List.append_nil]
   replace hse : Hd _ := hse
   rw [← hq] at e3
   replace hq : Hd _ := hq
   have ce : (cs.getD i 0 == cs.getD i 0) = true := beq_self_eq_true _
   refine zW tyF ?_
   refine R1.s_bl fun K2 q1 q2 q3 q4 => ?_
   refine zW (qA tyF (qA (ixC hlt) (ixC hlt2))) ?_
   refine q1.out _ _ ?_
   refine zW tyF ?_
   exact ⟨cs.length - (i + 1), by omega, i + 1, v, r, rfl, hlt, g4, by rw [hse.out]; exact hown, hrow, zL⟩
  ·have hse : difL cs ds (i + 1) = difL cs ds i ++ [i] := by rw [hsu.out, if_neg hq]
   replace hse : Hd _ := hse
   have ce : (cs.getD i 0 == ds.getD i 0) = false := beq_false_of_ne hq
   replace hq : Hd _ := hq
   refine zW tyF ?_
   refine R1.s_bl fun K2 q1 q2 q3 q4 => ?_
   refine zW (qA tyF (qA (ixC hlt) (ixC hlt2))) ?_
   obtain ⟨hlt5, v6, H6, r6, happ, ho6, hf6, hr6⟩ := push_own el_ints by_int hzi hzil (by decide) hown [.i .i64 ((i : Int))] rfl (by have := hil.out; omega)
   clear hzi hzil
   refine zG (qA tyF (qA (repl1) happ)) fun K hK => ?_
   refine ⟨hlt5, ?_⟩
   refine zK tyF ?_
   refine q1.out _ _ ?_
   refine zW tyF ?_
   refine ⟨cs.length - (i + 1), by omega, i + 1, v6, some r6, rfl, hlt, g4.then hf6 fun q hq => .inl (hrow q hq), ?_, fun q hq => ?_, zL⟩
   ·have e : ints (difL cs ds (i + 1)) = ints (difL cs ds i) ++ [(i : Int)] := by rw [hse.out]; unfold ints; rw [List.map_append]; rfl
    rw [e, List.length_append, List.flatMap_append]; exact ho6
   ·cases hq
    rcases hr6 with e | e
    ·exact hrow _ e
    ·exact Nat.le_trans g4.nx e
 ·have hie : i = cs.length := by omega
  subst hie
  refine zW tyF ?_
  refine k2.out _ _ ?_
  have hD : SlI H4 v (ints (difL cs ds cs.length)) := hown.slc
  have hmd := fun j => (@mem_dif cs ds cs.length j).1
  have hdl := dif_len cs ds cs.length
  have hl2 := hl2.out
  have g14 := g3.gr g4
  have r1 := (g4.get _ n0 not_false).trans r1
  have n0 := Nat.lt_of_lt_of_le n0 g4.nx
  have r2 := (g4.get _ n2 not_false).trans r2
  have n2 := Nat.lt_of_lt_of_le n2 g4.nx
  have r3 := (g4.get _ n3 not_false).trans r3
  have n3 := Nat.lt_of_lt_of_le n3 g4.nx
  have hu := hu.gr g4
  have hd := hd.gr g4
  clear hown hrow t13 hi g3 g4 hzi hzil l1 l2 hx
  generalize difL cs ds cs.length = D at hD hmd hdl hr0
  have hmd : ∀ j ∈ D, j < cs.length ∧ j < ds.length ∧ j < us.length ∧ us.length ≤ 1000000 := fun j hj => by have := (hmd j hj).1; omega
  have l2 := hD.lt
  have zero : ∀ (A : AAct), slot A.tm 6 = .one (.o (.ptr (N + 1) 0 0 3)) → A.dfr = [] → 0 = r0 → ∃ w H5, callEnd E2 [.cell 6 164] (.ret, A, H4.mod (N + 1) (.arr [.i .i64 0, .o (.str []), .i .i64 0] 164 0 0)) = .ok [(w, H5)] ∧ Gr H H5 ∧ ∀ _ : List Nat, ∃ sg x, w = .agg [.i .i64 r0, .o (.str sg), .i .i64 x] := fun A h1 h2 h3 =>
   fin 0 [] 0 A _ h1 h2 (g14.mod _ (.inl (by omega))) (get_modE rfl) h3
  have some' : ∀ (A : AAct) (k : Int) (sg : List UInt8), slot A.tm 6 = .one (.o (.ptr (N + 1) 0 0 3)) → A.dfr = [] → k = r0 → ∃ w H5, callEnd E2 [.cell 6 164] (.ret, A, H4.mod (N + 1) (.arr [.i .i64 k, .o (.str sg), .i .i64 m] 164 0 0)) = .ok [(w, H5)] ∧ Gr H H5 ∧ ∀ _ : List Nat, ∃ sg x, w = .agg [.i .i64 r0, .o (.str sg), .i .i64 x] := fun A k sg h1 h2 h3 =>
   fin k sg m A _ h1 h2 (g14.mod _ (.inl (by omega))) (get_modE rfl) h3
  replace zero : Hd _ := zero
  replace some' : Hd _ := some'
  clear fin
  replace hl2 : Hd _ := hl2
  replace g14 : Hd _ := g14
  rcases D with _ | ⟨a, _ | ⟨b, _ | ⟨e, D⟩⟩⟩
  ·have l1 : doLen H4 1 (.one v) = .val (.one (.i .i64 0)) H4 := hD.len
   refine zW tyF ?_
   exact zero.out _ zL qe hr0.out
  ·obtain ⟨ha, ha2, ha3, hL⟩ := hmd a (List.mem_cons_self ..)
   obtain ⟨id, g, off, cells, hv, hid, hgr, hat⟩ := hD.open (Nat.succ_pos 0)
   replace hv : v = .o (.sl id g off 1 1) := hv
   have c11 : (((1 : Nat) : Int) == 1) = true := rfl
   have c12 : (((1 : Nat) : Int) == 2) = false := rfl
   subst hv
   obtain ⟨e1, e2⟩ := hat 0 a rfl
   rw [Nat.zero_mul, Nat.add_zero] at e1 e2
   clear hat hD l2
   obtain ⟨idc, gc, oc, cc, rfl, hidc, hgc, hatc⟩ := hc4.open (by omega)
   obtain ⟨idd, gd, od, cd, rfl, hidd, hgd, hatd⟩ := hd.open (by omega)
   obtain ⟨x1, x2⟩ := hatc a (cs.getD a 0) (by rw [List.getD_eq_getElem?_getD, List.getElem?_eq_getElem ha]; rfl)
   obtain ⟨x3, x4⟩ := hatd a (ds.getD a 0) (by rw [List.getD_eq_getElem?_getD, List.getElem?_eq_getElem ha2]; rfl)
   clear hatc hatd hc4 hd hc
   have k1 := bc.out a ha
   have k2 := bd.out a ha2
   obtain ⟨idu, gu, ou, cu, rfl, hidu, hgu, hatu⟩ := hu.open (by omega)
   have hy := hatu a us[a] (List.getElem?_eq_getElem ha3)
   have y1 := hy.fst
   have y2 := hy.le1
   clear hatu hy
   have hr1 : (if cs.getD a 0 = ds.getD a 0 + 1 then (1 : Int) else if cs.getD a 0 + 1 = ds.getD a 0 then 2 else 0) = r0 := hr0.out
   generalize us[a] = y at y1
   generalize cs.getD a 0 = ca at x1 k1 hr1
   generalize ds.getD a 0 = da at x3 k2 hr1
   have w1 : IntKind.i64.wrap (ca + 1) = ca + 1 := wrapI (by omega) (by omega)
   have w2 : IntKind.i64.wrap (da + 1) = da + 1 := wrapI (by omega) (by omega)
   by_cases c1 : ca = da + 1
   ·rw [if_pos c1] at hr1
    replace hr1 : Hd _ := hr1
    have ce : (ca == da + 1) = true := beq_iff_eq.2 c1
    replace c1 : Hd _ := c1
    refine zW (qA tyF (qA (ixC ha) (qA (ixC ha2) (ixC ha3)))) ?_
    exact some'.out _ _ _ zL qe hr1.out
   rw [if_neg c1] at hr1
   have ce : (ca == da + 1) = false := beq_false_of_ne c1
   replace c1 : Hd _ := c1
   by_cases c2 : ca + 1 = da
   ·rw [if_pos c2] at hr1
    replace hr1 : Hd _ := hr1
    have ce2 : (ca + 1 == da) = true := beq_iff_eq.2 c2
    replace c2 : Hd _ := c2
    refine zW (qA tyF (qA (ixC ha) (qA (ixC ha2) (ixC ha3)))) ?_
    exact some'.out _ _ _ zL qe hr1.out
   rw [if_neg c2] at hr1
   have ce2 : (ca + 1 == da) = false := beq_false_of_ne c2
   replace c2 : Hd _ := c2
   replace hr1 : Hd _ := hr1
   refine zW (qA tyF (qA (ixC ha) (qA (ixC ha2) (ixC ha3)))) ?_
   exact zero.out _ zL qe hr1.out
  ·obtain ⟨ha, ha2, ha3, hL⟩ := hmd a (List.mem_cons_self ..)
   obtain ⟨hb, hb2, hb3, _⟩ := hmd b (List.mem_cons_of_mem _ (List.mem_cons_self ..))
   obtain ⟨id, g, off, cells, hv, hid, hgr, hat⟩ := hD.open (Nat.succ_pos 1)
   replace hv : v = .o (.sl id g off 2 1) := hv
   have c21 : (((2 : Nat) : Int) == 1) = false := rfl
   have c22 : (((2 : Nat) : Int) == 2) = true := rfl
   subst hv
   obtain ⟨e1, e2⟩ := hat 0 a rfl
   rw [Nat.zero_mul, Nat.add_zero] at e1 e2
   obtain ⟨e3, e4⟩ := hat 1 b rfl
   rw [Nat.one_mul] at e3 e4
   clear hat hD l2
   have ix1 : ∀ (H : Hp) (id g off sz : Nat), doIndexAddr H sz (.one (.o (.sl id g off 2 sz))) (.one (.i .i64 1)) = .val (.one (.o (.ptr id g (off + 1 * sz) sz))) H := fun _ _ _ _ _ => indexAddr_cast (i := 1) (by decide)
   have wab : IntKind.i64.wrap ((a : Int) + 1) = (a : Int) + 1 := wrapI (by omega) (by omega)
   by_cases hba : b = a + 1
   case neg =>
    have ce : ((b : Int) == (a : Int) + 1) = false := beq_false_of_ne (by omega)
    have hr1 := hr0.out
    rw [slipK, if_neg hba] at hr1
    replace hr1 : Hd _ := hr1
    replace hba : Hd _ := hba
    clear hr0
    refine zW (qA tyF ix1) ?_
    exact zero.out _ zL qe hr1.out
   have ce : ((b : Int) == (a : Int) + 1) = true := beq_iff_eq.2 (by omega)
   have hr1 := hr0.out
   rw [slipK, if_pos hba] at hr1
   replace hba : Hd _ := hba
   clear hr0
   obtain ⟨idc, gc, oc, cc, rfl, hidc, hgc, hatc⟩ := hc4.open (by omega)
   obtain ⟨idd, gd, od, cd, rfl, hidd, hgd, hatd⟩ := hd.open (by omega)
   obtain ⟨x1, x2⟩ := hatc a (cs.getD a 0) (by rw [List.getD_eq_getElem?_getD, List.getElem?_eq_getElem ha]; rfl)
   obtain ⟨x3, x4⟩ := hatd a (ds.getD a 0) (by rw [List.getD_eq_getElem?_getD, List.getElem?_eq_getElem ha2]; rfl)
   obtain ⟨x5, x6⟩ := hatc b (cs.getD b 0) (by rw [List.getD_eq_getElem?_getD, List.getElem?_eq_getElem hb]; rfl)
   obtain ⟨x7, x8⟩ := hatd b (ds.getD b 0) (by rw [List.getD_eq_getElem?_getD, List.getElem?_eq_getElem hb2]; rfl)
   clear hatc hatd hc4 hd hc
   obtain ⟨idu, gu, ou, cu, rfl, hidu, hgu, hatu⟩ := hu.open (by omega)
   have hy := hatu a us[a] (List.getElem?_eq_getElem ha3)
   have y1 := hy.fst
   have y2 := hy.le1
   have hz := hatu b us[b] (List.getElem?_eq_getElem hb3)
   have y3 := hz.fst
   have y4 := hz.le1
   clear hatu hy hz
   generalize us[a] = y at y1
   generalize us[b] = yb at y3
   generalize cs.getD a 0 = ca at x1 hr1
   generalize ds.getD a 0 = da at x3 hr1
   generalize cs.getD b 0 = cb at x5 hr1
   generalize ds.getD b 0 = db at x7 hr1
   replace hr1 : Hd _ := hr1
   refine zW (qA tyF (qA ix1 (qA (ixC ha) (qA (ixC ha2) (ixC ha3))))) ?_
   repeat refine R1.s_assoc ?_
   refine R1.s_h (by kernel_rfl) fun K3 hK3 => ?_
   have key : Hd (∀ (bb : Bool) (A : AAct), (bb = true ↔ db = 0 ∧ 1 ≤ da ∧ ca = 0 ∧ cb = da) → slot A.tm 154 = .one (.b bb) ∧ slot A.tm 1 = .one (.i .i64 (m : Int)) ∧ slot A.tm 3 = .one ((.o (.ptr N 0 0 2))) ∧ slot A.tm 6 = .one ((.o (.ptr (N + 1) 0 0 3))) ∧ slot A.tm 7 = .one ((.o (.ptr (N + 1 + 1) 0 0 3))) ∧ slot A.tm 8 = .one ((.o (.sl idc gc oc cs.length 1))) ∧ slot A.tm 10 = .one ((.o (.sl idd gd od ds.length 1))) ∧ slot A.tm 15 = .one (.i .i64 (a : Int)) ∧ slot A.tm 16 = .one (.i .i64 (b : Int)) ∧ A.nt = 202 ∧ A.dfr = [] → K3 A H4) := by
    clear t1 t3 t6 t7 t8 t10 t12 hnt hdf A
    rintro bb A hbb ⟨t154, t1, t3, t6, t7, t8, t10, t15, t16, hnt, hdf⟩
    refine hK3.out _ _ ?_
    clear hK3 K3
    cases bb with
    | true =>
     have hr2 := hr1.out
     rw [if_pos (hbb.1 rfl)] at hr2
     replace hr2 : Hd _ := hr2
     clear hbb x1 x3 x5 x7
     refine zW (qA tyF (qA (ixC ha3) (ixC hb3))) ?_
     exact some'.out _ _ _ zL qe hr2.out
    | false =>
     have hr2 := hr1.out
     rw [if_neg (fun h => by have := hbb.2 h; cases this)] at hr2
     replace hr2 : Hd _ := hr2
     clear hbb
     refine qX t154 ?_
     refine R1.s_skip ?_
     repeat refine R1.s_assoc ?_
     refine R1.s_h (by kernel_rfl) fun K3 hK3 => ?_
     have key : Hd (∀ (bb : Bool) (A : AAct), (bb = true ↔ da = 0 ∧ 1 ≤ db ∧ cb = 0 ∧ ca = db) → slot A.tm 192 = .one (.b bb) ∧ slot A.tm 1 = .one (.i .i64 (m : Int)) ∧ slot A.tm 3 = .one ((.o (.ptr N 0 0 2))) ∧ slot A.tm 6 = .one ((.o (.ptr (N + 1) 0 0 3))) ∧ slot A.tm 7 = .one ((.o (.ptr (N + 1 + 1) 0 0 3))) ∧ slot A.tm 15 = .one (.i .i64 (a : Int)) ∧ slot A.tm 16 = .one (.i .i64 (b : Int)) ∧ A.nt = 202 ∧ A.dfr = [] → K3 A H4) := by
      clear t1 t3 t6 t7 t8 t10 t15 t16 t154 hnt hdf A
      rintro bb A hbb ⟨t192, t1, t3, t6, t7, t15, t16, hnt, hdf⟩
      refine hK3.out _ _ ?_
      clear hK3 K3
      have hr3 := hr2.out
      cases bb with
      | true =>
       rw [if_pos (hbb.1 rfl)] at hr3
       replace hr3 : Hd _ := hr3
       clear hbb x1 x3 x5 x7
       refine zW (qA tyF (qA (ixC ha3) (ixC hb3))) ?_
       exact some'.out _ _ _ zL qe hr3.out
      | false =>
       rw [if_neg (fun h => by have := hbb.2 h; cases this)] at hr3
       replace hr3 : Hd _ := hr3
       clear hbb x1 x3 x5 x7
       refine zW tyF ?_
       exact zero.out _ zL qe hr3.out
     clear hK3
     clear y1 y2 y3 y4
     by_cases s1 : da = 0
     case neg =>
      have fs1 : (da == 0) = false := beq_false_of_ne s1
      replace s1 : Hd _ := s1
      refine zS (qA tyF (qA (ixC ha) (qA (ixC ha2) (qA (ixC hb) (ixC hb2))))) ?_
      exact key.out false _ ⟨fun h => (by cases h), fun h => absurd h.1 s1.out⟩ zL
     have fs1 : (da == 0) = true := beq_iff_eq.2 s1
     replace s1 : Hd _ := s1
     by_cases s2 : 1 ≤ db
     case neg =>
      refine zS (qA tyF (qA (ixC ha) (qA (ixC ha2) (qA (ixC hb) (ixC hb2))))) ?_
      exact key.out false _ ⟨fun h => (by cases h), fun h => absurd h.2.1 s2⟩ zL
     by_cases s3 : cb = 0
     case neg =>
      have fs3 : (cb == 0) = false := beq_false_of_ne s3
      replace s3 : Hd _ := s3
      refine zS (qA tyF (qA (ixC ha) (qA (ixC ha2) (qA (ixC hb) (ixC hb2))))) ?_
      exact key.out false _ ⟨fun h => (by cases h), fun h => absurd h.2.2.1 s3.out⟩ zL
     have fs3 : (cb == 0) = true := beq_iff_eq.2 s3
     replace s3 : Hd _ := s3
     by_cases s4 : ca = db
     case neg =>
      have fs4 : (ca == db) = false := beq_false_of_ne s4
      replace s4 : Hd _ := s4
      refine zS (qA tyF (qA (ixC ha) (qA (ixC ha2) (qA (ixC hb) (ixC hb2))))) ?_
      exact key.out false _ ⟨fun h => (by cases h), fun h => absurd h.2.2.2 s4.out⟩ zL
     have fs4 : (ca == db) = true := beq_iff_eq.2 s4
     replace s4 : Hd _ := s4
     refine zS (qA tyF (qA (ixC ha) (qA (ixC ha2) (qA (ixC hb) (ixC hb2))))) ?_
     exact key.out true _ ⟨fun _ => ⟨s1.out, s2, s3.out, s4.out⟩, fun _ => rfl⟩ zL
   clear hK3
   clear y1 y2 y3 y4
   by_cases p1 : db = 0
   case neg =>
    have fp1 : (db == 0) = false := beq_false_of_ne p1
    replace p1 : Hd _ := p1
    refine zS (qA tyF (qA (ixC ha) (qA (ixC ha2) (qA (ixC hb) (ixC hb2))))) ?_
    exact key.out false _ ⟨fun h => (by cases h), fun h => absurd h.1 p1.out⟩ zL
   have fp1 : (db == 0) = true := beq_iff_eq.2 p1
   replace p1 : Hd _ := p1
   by_cases p2 : 1 ≤ da
   case neg =>
    refine zS (qA tyF (qA (ixC ha) (qA (ixC ha2) (qA (ixC hb) (ixC hb2))))) ?_
    exact key.out false _ ⟨fun h => (by cases h), fun h => absurd h.2.1 p2⟩ zL
   by_cases p3 : ca = 0
   case neg =>
    have fp3 : (ca == 0) = false := beq_false_of_ne p3
    replace p3 : Hd _ := p3
    refine zS (qA tyF (qA (ixC ha) (qA (ixC ha2) (qA (ixC hb) (ixC hb2))))) ?_
    exact key.out false _ ⟨fun h => (by cases h), fun h => absurd h.2.2.1 p3.out⟩ zL
   have fp3 : (ca == 0) = true := beq_iff_eq.2 p3
   replace p3 : Hd _ := p3
   by_cases p4 : cb = da
   case neg =>
    have fp4 : (cb == da) = false := beq_false_of_ne p4
    replace p4 : Hd _ := p4
    refine zS (qA tyF (qA (ixC ha) (qA (ixC ha2) (qA (ixC hb) (ixC hb2))))) ?_
    exact key.out false _ ⟨fun h => (by cases h), fun h => absurd h.2.2.2 p4.out⟩ zL
   have fp4 : (cb == da) = true := beq_iff_eq.2 p4
   replace p4 : Hd _ := p4
   refine zS (qA tyF (qA (ixC ha) (qA (ixC ha2) (qA (ixC hb) (ixC hb2))))) ?_
   exact key.out true _ ⟨fun _ => ⟨p1.out, p2, p3.out, p4.out⟩, fun _ => rfl⟩ zL
  ·have k1 : (((D.length + 1 + 1 + 1 : Nat) : Int) == 1) = false := beq_false_of_ne (by omega)
   have k2 : (((D.length + 1 + 1 + 1 : Nat) : Int) == 2) = false := beq_false_of_ne (by omega)
   have l1 : doLen H4 1 (.one v) = .val (.one (.i .i64 ((D.length + 1 + 1 + 1 : Nat) : Int))) H4 := by
    have h := hD.len
    have e : (ints (a :: b :: e :: D)).length = D.length + 1 + 1 + 1 := List.length_map _
    rw [e] at h; exact h
   generalize ((D.length + 1 + 1 + 1 : Nat) : Int) = z at k1 k2 l1
   clear hmd hdl
   refine zW tyF ?_
   exact zero.out _ zL qe hr0.out
end Go.Proofs.YtiejeicaaojdlaaGreat
namespace Go.Proofs.YtiejeicaaojdlaaGreat
open Go Go.Eng
theorem bd_isSum1 : hasBody Tryz.prog 131 = true := by kernel_rfl
theorem bd_idxRule : hasBody Tryz.prog 153 = true := by kernel_rfl
theorem bd_hasRule : hasBody Tryz.prog 130 = true := by kernel_rfl
theorem bd_isSum : hasBody Tryz.prog 93 = true := by kernel_rfl
set_option maxRecDepth 10000 in
theorem isSum1_con (H : Hp) (bn : Nat) (n x : Int) (u : AC) (hb : bn < H.nx) (hg : H.get bn = some (.arr [.i .i64 n] 3 0 0)) (hu : ltV (.one u) H.nx) :
  Con E2 131 [.agg [.i .i64 x, u], .one (.o (.ptr bn 0 0 1))] H (fun _ => False) fun r _ => r = .one (.b (x == n)) := by
 refine Con.of rfl fun lg => ?_
 have hb : bn < (⟨H.t, H.nx, lg⟩ : Hp).nx := hb
 have hg : (⟨H.t, H.nx, lg⟩ : Hp).get bn = some (.arr [.i .i64 n] 3 0 0) := hg
 have hu : ltV (.one u) (⟨H.t, H.nx, lg⟩ : Hp).nx := hu
 generalize (⟨H.t, H.nx, lg⟩ : Hp) = H at hb hg hu ⊢
 refine C1.body (E := E2) (nt := 8) (res := [.tmp 3]) Tryz.func131 rfl rfl rfl rfl rfl fun tm hargs => ?_
 have h0 := hargs 0 _ rfl
 have h1 := hargs 1 _ rfl
 clear hargs
 have hb' : bn < H.nx + 1 := Nat.lt_succ_of_lt hb
 have hg' : ∀ o, (H.new o).get bn = some (.arr [.i .i64 n] 3 0 0) := fun o => (get_newL hb).trans hg
 refine zW tyF ?_
 exact ⟨_, _, callEnd_one (.b (x == n)) (.inr rfl) qe qp, (Fr.refl _).new _, fun _ => rfl⟩
set_option maxRecDepth 10000 in
set_option maxHeartbeats 4000000 in
theorem idxRule_con (H : Hp) (v : AC) (lr : List Rl) (bn : Nat) (n : Int) (hv : SlRl H v lr) (hb : bn < H.nx) (hg : H.get bn = some (.arr [.i .i64 n] 3 0 0)) (hL : lr.length ≤ 1000000) :
  Con E2 153 [.one v, .one (.o (.clo 131 [(bn, 0, 0, 1)]))] H (fun _ => False) fun r _ => r = .one (.i .i64 (sumI 0 lr n)) := by
 refine Con.of rfl fun lg => ?_
 have hv : SlRl ⟨H.t, H.nx, lg⟩ v lr := hv
 have hb : bn < (⟨H.t, H.nx, lg⟩ : Hp).nx := hb
 have hg : (⟨H.t, H.nx, lg⟩ : Hp).get bn = some (.arr [.i .i64 n] 3 0 0) := hg
 generalize (⟨H.t, H.nx, lg⟩ : Hp) = H at hv hb hg ⊢
 refine C1.body (E := E2) (nt := 19) (res := [.tmp 4]) Tryz.func153 rfl rfl rfl rfl rfl fun tm hargs => ?_
 have h0 := hargs 0 _ rfl
 have h1 := hargs 1 _ rfl
 clear hargs
 have fin : ∀ (e : Int) (A : AAct) (H3 : Hp), slot A.tm 4 = .one (.i .i64 e) → A.dfr = [] → Gr H H3 → e = sumI 0 lr n → ∃ w H4, callEnd E2 [.tmp 4] (.ret, A, H3) = .ok [(w, H4)] ∧ Gr H H4 ∧ ∀ _ : List Nat, w = .one (.i .i64 (sumI 0 lr n)) := fun e A H3 h1 h2 h3 h4 => ⟨_, H3, callEnd_one (.i .i64 e) (.inr rfl) h2 h1, h3, fun _ => by rw [h4]⟩
 generalize hr0 : sumI 0 lr n = r0 at fin
 have l1 := hv.len
 have l2 := hv.lt
 replace hr0 : Hd _ := hr0
 refine zW tyF ?_
 refine R1.s_bl fun K k1 k2 k3 k4 => ?_
 refine R1.loop (fun k A H1 => ∃ i : Nat, k = lr.length - i ∧ i ≤ lr.length ∧ Gr H H1 ∧ Hd (sumI i (lr.drop i) n = r0) ∧ slot A.tm 0 = .one (v) ∧ slot A.tm 1 = .one ((.o (.clo 131 [(bn, 0, 0, 1)]))) ∧ slot A.tm 7 = .one (.i .i64 (lr.length : Int)) ∧ slot A.tm 8 = .one (.i .i64 (i : Int)) ∧ A.nt = 19 ∧ A.dfr = []) ?_ lr.length
  ⟨0, rfl, Nat.zero_le _, Fr.refl _, hr0, zL⟩
 clear h0 h1 tm l1 l2 hr0 k3
 rintro k A H1 ⟨i, rfl, hi, g1, hr, t0, t1, t7, t8, hnt, hdf⟩
 have hv1 := hv.gr g1
 have hg1 : H1.get bn = some (.arr [.i .i64 n] 3 0 0) := by rw [g1.get _ hb not_false]; exact hg
 have hb1 : bn < H1.nx := Nat.lt_of_lt_of_le hb g1.nx
 refine zW tyF ?_
 refine zI tyF (fun hc => ?_) (fun hc => ?_)
 ·have hlt : i < lr.length := by omega
  have ex : lr[i]? = some lr[i] := List.getElem?_eq_getElem hlt
  have hdr : lr.drop i = lr[i] :: lr.drop (i + 1) := List.drop_eq_getElem_cons hlt
  have htk : lr.take (i + 1) = lr.take i ++ [lr[i]] := List.take_succ_eq_append_getElem hlt
  have hmem : lr[i] ∈ lr := List.getElem_mem hlt
  generalize lr[i] = x at ex hdr htk hmem
  have hw2 : IntKind.i64.wrap ((i : Int) + 1) = ((i + 1 : Nat) : Int) := by rw [wrapI (by omega) (by omega)]; omega
  obtain ⟨id, g, off, cells, rfl, hid, hgr, hat⟩ := hv1.open (by omega)
  obtain ⟨u, hx1⟩ := hat i x ex
  obtain ⟨hu1, y1, y2, y3, y4, y5, y6⟩ := hx1
  clear hat
  have hr := hr.out
  rw [hdr, sumI] at hr
  replace hr : Hd _ := hr
  clear hdr htk
  refine zW tyF ?_
  refine R1.s_bl fun K2 q1 q2 q3 q4 => ?_
  refine zW tyF ?_
  refine zG (qA tyF (qA (ixC hlt) bd_isSum1)) fun K hK => ?_
  refine WE.con (isSum1_con H1 bn n x.1 u hb1 hg1 hu1.lt) fun w H2 g2 hw => ?_
  subst hw
  have g2' := g1.gr g2
  by_cases hxs : x.1 = n
  ·have hr := hr.out
   rw [if_pos hxs] at hr
   have ce : (x.1 == n) = true := beq_iff_eq.2 hxs
   replace hxs : Hd _ := hxs
   replace hr : Hd _ := hr
   refine zK tyF ?_
   exact q4.out _ _ (k4.out _ _ (fin (i) _ _ qp qe (g2') (hr.out)))
  ·have hr := hr.out
   rw [if_neg hxs] at hr
   have ce : (x.1 == n) = false := beq_false_of_ne hxs
   replace hxs : Hd _ := hxs
   replace hr : Hd _ := hr
   refine zK tyF ?_
   refine q1.out _ _ ?_
   refine zW tyF ?_
   exact ⟨lr.length - (i + 1), by omega, i + 1, rfl, hlt, g2', hr, zL⟩
 ·have hie : i = lr.length := by omega
  have hr := hr.out
  rw [hie, List.drop_length, sumI] at hr
  replace hr : Hd _ := hr
  clear hie
  refine zW tyF ?_
  refine k2.out _ _ ?_
  refine zW tyF ?_
  exact fin (-1) _ _ qp qe (g1) (hr.out)
set_option maxRecDepth 10000 in
theorem hasRule_con (H : Hp) (v : AC) (lr : List Rl) (bn : Nat) (n : Int) (hv : SlRl H v lr) (hb : bn < H.nx) (hg : H.get bn = some (.arr [.i .i64 n] 3 0 0)) (hL : lr.length ≤ 1000000) :
  Con E2 130 [.one v, .one (.o (.clo 131 [(bn, 0, 0, 1)]))] H (fun _ => False) fun r _ => r = .one (.b (decide (0 ≤ sumI 0 lr n))) := by
 refine Con.of rfl fun lg => ?_
 have hv : SlRl ⟨H.t, H.nx, lg⟩ v lr := hv
 have hb : bn < (⟨H.t, H.nx, lg⟩ : Hp).nx := hb
 have hg : (⟨H.t, H.nx, lg⟩ : Hp).get bn = some (.arr [.i .i64 n] 3 0 0) := hg
 generalize (⟨H.t, H.nx, lg⟩ : Hp) = H at hv hb hg ⊢
 refine C1.body (E := E2) (nt := 9) (res := [.tmp 4]) Tryz.func130 rfl rfl rfl rfl rfl fun tm hargs => ?_
 have h0 := hargs 0 _ rfl
 have h1 := hargs 1 _ rfl
 clear hargs
 refine zW tyF ?_
 refine zG (qA tyF bd_idxRule) fun K hK => ?_
 refine WE.con (idxRule_con H v lr bn n hv hb hg hL) fun w H2 g2 hw => ?_
 subst hw
 refine zK tyF ?_
 exact ⟨_, _, callEnd_one (.b (decide (0 ≤ sumI 0 lr n))) (.inr rfl) qe qp, g2, fun _ => rfl⟩
set_option maxRecDepth 10000 in
theorem isSum_con (H : Hp) (a b : AC) (lr : List Rl) (n : Int) (hb : SlRl H b lr) (ha : ltV (.one a) H.nx) (hL : lr.length ≤ 1000000) :
  Con E2 93 [.agg [a, b], .one (.i .i64 n)] H (fun _ => False) fun r _ => r = .one (.b (decide (0 ≤ sumI 0 lr n))) := by
 refine Con.of rfl fun lg => ?_
 have hb : SlRl ⟨H.t, H.nx, lg⟩ b lr := hb
 have ha : ltV (.one a) (⟨H.t, H.nx, lg⟩ : Hp).nx := ha
 generalize (⟨H.t, H.nx, lg⟩ : Hp) = H at hb ha ⊢
 refine C1.body (E := E2) (nt := 9) (res := [.tmp 4]) Tryz.func93 rfl rfl rfl rfl rfl fun tm hargs => ?_
 have h0 := hargs 0 _ rfl
 have h1 := hargs 1 _ rfl
 clear hargs
 have l2 := hb.lt
 refine zG tyF fun K hK => ?_
 refine hK.out _ _ ?_
 refine R1.gen (fun A1 H1 => Gr H H1 ∧ H.nx + 1 < H1.nx ∧ H1.get H.nx = some (.arr [a, b] 42 0 0) ∧ H1.get (H.nx + 1) = some (.arr [.i .i64 n] 3 0 0) ∧ slot A1.tm 2 = .one ((.o (.ptr H.nx 0 0 2))) ∧ slot A1.tm 3 = .one ((.o (.ptr (H.nx + 1) 0 0 1))) ∧ A1.nt = 9 ∧ A1.dfr = [])
  ⟨((Fr.refl _).new _).new _, by show H.nx + 1 < H.nx + 1 + 1; omega, by rw [get_newL (by show H.nx < H.nx + 1; omega)]; exact get_newE rfl, get_newE rfl, zL⟩ ?_
 clear h0 h1 tm hK K l2
 rintro A1 H1 ⟨g1, n1, r1, r2, t2, t3, hnt, hdf⟩
 have n0 : H.nx < H1.nx := by omega
 have hb := hb.gr g1
 refine zG (qA tyF bd_hasRule) fun K hK => ?_
 refine WE.con (hasRule_con H1 b lr _ n hb n1 r2 hL) fun w H2 g2 hw => ?_
 subst hw
 refine zK tyF ?_
 exact ⟨_, _, callEnd_one (.b (decide (0 ≤ sumI 0 lr n))) (.inr rfl) qe qp, g1.gr g2, fun _ => rfl⟩
end Go.Proofs.YtiejeicaaojdlaaGreat
namespace Go.Proofs.YtiejeicaaojdlaaGreat
open Go Go.Eng
theorem bd_rLad5 : hasBody Tryz.prog 95 = true := by kernel_rfl
theorem bd_rKind5 : hasBody Tryz.prog 61 = true := by kernel_rfl
theorem bd_rPrice : hasBody Tryz.prog 62 = true := by kernel_rfl
def priceE (k : Int) : Int := if k = 5 then 2 else 1
set_option maxRecDepth 10000 in
theorem rPrice_con (H : Hp) (k : Int) : Con E2 62 [.one (.i .i64 k)] H (fun _ => False) fun r _ => r = .one (.i .i64 (priceE k)) := by
 refine Con.of rfl fun lg => ?_
 generalize (⟨H.t, H.nx, lg⟩ : Hp) = H
 refine C1.body (E := E2) (nt := 5) (res := [.tmp 2]) Tryz.func62 rfl rfl rfl rfl rfl fun tm hargs => ?_
 have h0 := hargs 0 _ rfl
 clear hargs
 unfold priceE
 by_cases c : k = 5
 ·have ce : (k == 5) = true := beq_iff_eq.2 c
  rw [if_pos c]
  replace c : Hd _ := c
  refine zW tyF ?_
  exact ⟨_, _, callEnd_one (.i .i64 2) (.inr rfl) qe qp, Fr.refl _, fun _ => rfl⟩
 ·have ce : (k == 5) = false := beq_false_of_ne c
  rw [if_neg c]
  replace c : Hd _ := c
  refine zW tyF ?_
  exact ⟨_, _, callEnd_one (.i .i64 1) (.inr rfl) qe qp, Fr.refl _, fun _ => rfl⟩
theorem slp_keep {H H' : Hp} {u : AC} {us : List Pr} {q : Nat} {t : TypeId} {a b : AC} (h : SlP H u us) (hq : H.get q = some (.arr [.o (.str []), .o .nilS] t 0 0)) (hf : Fr (fun k => k = q) H H') (hq' : H'.get q = some (.arr [a, b] t 0 0)) : SlP H' u us := by
 obtain ⟨h1, h2⟩ := h
 refine ⟨h1, ?_⟩
 rcases h2 with h2 | ⟨id, g, off, e, hid, cells, hr, hl, hc⟩
 ·exact .inl h2
 ·refine .inr ⟨id, g, off, e, Nat.lt_of_lt_of_le hid hf.nx, ?_⟩
  by_cases heq : id = q
  ·subst heq
   rw [hq] at hr
   have hg : cells = [.o (.str []), .o .nilS] ∧ g = 0 := by
    by_cases hgg : 0 ≤ g ∧ g ≤ 0
    ·rw [rowOf_arr hgg.1 hgg.2] at hr; exact ⟨(Option.some.inj hr).symm, by omega⟩
    ·have e : rowOf (some (.arr [.o (.str []), .o .nilS] t 0 0)) g = none := if_neg hgg
     rw [e] at hr; cases hr
   obtain ⟨rfl, rfl⟩ := hg
   cases us with
   | nil => exact ⟨[a, b], by rw [hq']; exact rowOf_arr (Nat.le_refl _) (Nat.le_refl _), hl, by rw [List.length_nil, Nat.zero_mul, List.take_zero]; rfl⟩
   | cons x l =>
    exfalso
    simp only [List.length_cons, List.length_nil] at hl
    have ho : off = 0 := by omega
    have hll : l = [] := List.eq_nil_of_length_eq_zero (by omega)
    subst ho
    subst hll
    have : ([AC.o (.str []), .o .nilS] : List AC) = prC x := by
     have e : ([x].flatMap prC) = prC x := by rw [List.flatMap_cons, List.flatMap_nil, List.append_nil]
     rw [e] at hc; exact hc
    exact absurd (List.cons.inj (List.cons.inj this).2).1 (by intro h; cases h)
  ·exact ⟨cells, by rw [hf.get _ hid heq]; exact hr, hl, hc⟩
set_option maxRecDepth 10000 in
set_option maxHeartbeats 8000000 in
theorem rLad5_con (H : Hp) (k a b : AC) (ls : List Lad) (lc : List Cl) (x : Int) (y : Cl) (hk : RBk H k ls) (hL1 : ∀ x ∈ ls, x.2.length ≤ 1000000) (hL2 : ls.length ≤ 1000000) (ha : SlCl H a lc) (hb : ltV (.one b) H.nx) (hx0 : 0 ≤ x) (hx1 : x < lc.length) (hy : lc[x.toNat]? = some y) :
  Con E2 95 [.one k, .agg [a, b], .one (.i .i64 x)] H (fun _ => False) fun r H' => ∃ u, r = .agg [.o (.str (ladOf (some ls) y.2.2.1).1), u] ∧ SlP H' u (ladOf (some ls) y.2.2.1).2 := by
 refine Con.of rfl fun lg => ?_
 have hk : RBk ⟨H.t, H.nx, lg⟩ k ls := hk
 have ha : SlCl ⟨H.t, H.nx, lg⟩ a lc := ha
 have hb : ltV (.one b) (⟨H.t, H.nx, lg⟩ : Hp).nx := hb
 generalize (⟨H.t, H.nx, lg⟩ : Hp) = H at hk ha hb ⊢
 refine C1.body (E := E2) (nt := 21) (res := [.cell 6 78]) Tryz.func95 rfl rfl rfl rfl rfl fun tm hargs => ?_
 have h0 := hargs 0 _ rfl
 have h1 := hargs 1 _ rfl
 have h2 := hargs 2 _ rfl
 clear hargs
 have l2 := ha.lt
 have hk0 : ltV (.one k) H.nx := by
  obtain ⟨kb, lad, rfl, h, _⟩ := hk
  exact fun i hi => (by rw [List.mem_singleton.1 hi]; exact h)
 refine zG tyF fun K hK => ?_
 refine hK.out _ _ ?_
 refine R1.gen (fun A1 H1 => Gr H H1 ∧ H.nx + 1 < H1.nx ∧ H1.get H.nx = some (.arr [a, b] 42 0 0) ∧ H1.get (H.nx + 1) = some (.arr [.o (.str []), .o .nilS] 78 0 0) ∧ slot A1.tm 0 = .one (k) ∧ slot A1.tm 2 = .one (.i .i64 (x : Int)) ∧ slot A1.tm 4 = .one ((.o (.ptr H.nx 0 0 2))) ∧ slot A1.tm 6 = .one ((.o (.ptr (H.nx + 1) 0 0 2))) ∧ A1.nt = 21 ∧ A1.dfr = [])
  ⟨((Fr.refl _).new _).new _, by show H.nx + 1 < H.nx + 1 + 1; omega, by rw [get_newL (by show H.nx < H.nx + 1; omega)]; exact get_newE rfl, get_newE rfl, zL⟩ ?_
 clear h0 h1 h2 tm hK K l2 hk0
 rintro A1 H1 ⟨g1, n1, r1, r2, t0, t2, t4, t6, hnt, hdf⟩
 have n0 : H.nx < H1.nx := by omega
 obtain ⟨N, hN⟩ : ∃ N, N = H.nx := ⟨_, rfl⟩
 rw [← hN] at n0 n1 r1 r2 t4 t6
 have hNH : H.nx ≤ N := by omega
 clear hN
 have hk0 := hk
 have hk := hk.gr g1
 have ha := ha.gr g1
 obtain ⟨id, g, off, cells, rfl, hid, hgr, hat⟩ := ha.open (by omega)
 obtain ⟨p, q, hx⟩ := hat x.toNat y hy
 have y1 := hx.f3
 have y2 := hx.le3
 clear hat hx hy
 refine zG (qA tyF (qA (ixI hx0 hx1) bd_rLadder)) fun K hK => ?_
 refine WE.con (rLadder_con H1 k ls y.2.2.1 hk hL1 hL2) fun w H2 g2 ⟨c, hw, hc1, hcl⟩ => ?_
 subst hw
 have r1 := (g2.get _ n0 not_false).trans r1
 have n0 := Nat.lt_of_lt_of_le n0 g2.nx
 have r2 := (g2.get _ n1 not_false).trans r2
 have n1 := Nat.lt_of_lt_of_le n1 g2.nx
 obtain ⟨u, rfl, hu⟩ := hc1.of
 have l2 := hu.lt
 clear hcl
 refine zK tyF ?_
 have fin : ∀ (A : AAct) (o : AObj) (H3 : Hp), H3 = ((H2.new o).mod H2.nx (.arr [.o (.str (ladOf (some ls) y.2.2.1).1), u] 78 0 0)).mod (N + 1) (.arr [.o (.str (ladOf (some ls) y.2.2.1).1), u] 78 0 0) → slot A.tm 6 = .one (.o (.ptr (N + 1) 0 0 2)) → A.dfr = [] → ∃ w H4, callEnd E2 [.cell 6 78] (.ret, A, H3) = .ok [(w, H4)] ∧ Gr H H4 ∧ ∀ lg' : List Nat, ∃ u, w = .agg [.o (.str (ladOf (some ls) y.2.2.1).1), u] ∧ SlP ⟨H4.t, H4.nx, lg'⟩ u (ladOf (some ls) y.2.2.1).2 := fun A o H3 h0 h1 h2 => by
  subst h0
  have hs : SlP (((H2.new o).mod H2.nx (.arr [.o (.str (ladOf (some ls) y.2.2.1).1), u] 78 0 0)).mod (N + 1) (.arr [.o (.str (ladOf (some ls) y.2.2.1).1), u] 78 0 0)) u (ladOf (some ls) y.2.2.1).2 := slp_keep (q := N + 1) hu r2 ((((Fr.refl H2).new o).mod _ (.inl (Nat.le_refl _))).mod _ (.inr rfl)) (get_modE rfl)
  refine ⟨_, _, callEnd_cells (id := N + 1) (g := 0) ld_lad (.inr rfl) (by rw [h2]; rfl) h1 (by rw [get_modE rfl]; exact rowOf_arr (Nat.le_refl _) (Nat.le_refl _)) (Nat.le_refl _) rfl, (((g1.gr g2).new _).mod _ (.inl (by have := g2.nx; have := g1.nx; omega))).mod _ (.inl (by omega)), fun _ => ⟨u, rfl, ?_⟩⟩
  exact hs
 exact fin _ _ _ rfl zL qe
def kindE (L : Lad) (lr : List Rl) (x n m : Int) : Int :=
 if slipE L.1 L.2 m n ≠ 0 then slipE L.1 L.2 m n else if 0 ≤ sumI 0 lr x ∧ n ≠ m ∧ 1 ≤ m ∧ m ≤ 1099511627776 then 5 else 0
set_option maxRecDepth 10000 in
set_option maxHeartbeats 16000000 in
theorem rKind5_con (H : Hp) (k a b : AC) (ls : List Lad) (lc : List Cl) (lr : List Rl) (x n m : Int) (y : Cl) (hk : RBk H k ls) (hL1 : ∀ x ∈ ls, x.2.length ≤ 1000000) (hL2 : ls.length ≤ 1000000) (ha : SlCl H a lc) (hb : SlRl H b lr) (hR : lr.length ≤ 1000000) (hx0 : 0 ≤ x) (hx1 : x < lc.length) (hy : lc[x.toNat]? = some y) :
  Con E2 61 [.one k, .agg [a, b], .one (.i .i64 x), .one (.i .i64 n), .one (.i .i64 m)] H (fun _ => False) fun r _ => r = .one (.i .i64 (kindE (ladOf (some ls) y.2.2.1) lr x n m)) := by
 refine Con.of rfl fun lg => ?_
 have hk : RBk ⟨H.t, H.nx, lg⟩ k ls := hk
 have ha : SlCl ⟨H.t, H.nx, lg⟩ a lc := ha
 have hb : SlRl ⟨H.t, H.nx, lg⟩ b lr := hb
 generalize (⟨H.t, H.nx, lg⟩ : Hp) = H at hk ha hb ⊢
 refine C1.body (E := E2) (nt := 41) (res := [.tmp 10]) Tryz.func61 rfl rfl rfl rfl rfl fun tm hargs => ?_
 have h0 := hargs 0 _ rfl
 have h1 := hargs 1 _ rfl
 have h2 := hargs 2 _ rfl
 have h3 := hargs 3 _ rfl
 have h4 := hargs 4 _ rfl
 clear hargs
 have fin : ∀ (e : Int) (A : AAct) (H3 : Hp), slot A.tm 10 = .one (.i .i64 e) → A.dfr = [] → Gr H H3 → e = kindE (ladOf (some ls) y.2.2.1) lr x n m → ∃ w H4, callEnd E2 [.tmp 10] (.ret, A, H3) = .ok [(w, H4)] ∧ Gr H H4 ∧ ∀ _ : List Nat, w = .one (.i .i64 (kindE (ladOf (some ls) y.2.2.1) lr x n m)) := fun e A H3 h1 h2 h3 h4 => ⟨_, H3, callEnd_one (.i .i64 e) (.inr rfl) h2 h1, h3, fun _ => by rw [h4]⟩
 generalize hr0 : kindE (ladOf (some ls) y.2.2.1) lr x n m = r0 at fin
 have l2 := ha.lt
 have l3 := hb.lt
 replace hr0 : Hd _ := hr0
 refine zG tyF fun K hK => ?_
 refine hK.out _ _ ?_
 refine R1.gen (fun A1 H1 => Gr H H1 ∧ H.nx < H1.nx ∧ H1.get H.nx = some (.arr [a, b] 42 0 0) ∧ slot A1.tm 0 = .one (k) ∧ slot A1.tm 2 = .one (.i .i64 (x : Int)) ∧ slot A1.tm 3 = .one (.i .i64 (n : Int)) ∧ slot A1.tm 4 = .one (.i .i64 (m : Int)) ∧ slot A1.tm 6 = .one ((.o (.ptr H.nx 0 0 2))) ∧ A1.nt = 41 ∧ A1.dfr = [])
  ⟨(Fr.refl _).new _, Nat.lt_succ_self _, get_newE rfl, zL⟩ ?_
 clear h0 h1 h2 h3 h4 tm hK K l2 l3
 rintro A1 H1 ⟨g1, n0, r1, t0, t2, t3, t4, t6, hnt, hdf⟩
 obtain ⟨N, hN⟩ : ∃ N, N = H.nx := ⟨_, rfl⟩
 rw [← hN] at n0 r1 t6
 have hNH : H.nx ≤ N := by omega
 clear hN
 have hk := hk.gr g1
 have ha := ha.gr g1
 have hb := hb.gr g1
 refine zG (qA tyF bd_rLad5) fun K hK => ?_
 refine WE.con (rLad5_con H1 k a b ls lc x y hk hL1 hL2 ha hb.lt hx0 hx1 hy) fun w H2 g2 ⟨u, hw, hu⟩ => ?_
 subst hw
 clear hy
 have r1 := (g2.get _ n0 not_false).trans r1
 have n0 := Nat.lt_of_lt_of_le n0 g2.nx
 have hk2 := hk.gr g2
 have ha := ha.gr g2
 have hb := hb.gr g2
 have g2 := g1.gr g2
 refine zS (qA tyF bd_rSlip) ?_
 refine WE.con (rSlip_con H2 (ladOf (some ls) y.2.2.1).1 u (ladOf (some ls) y.2.2.1).2 m n hu) fun w H3 g3 ⟨sg, nn, hw⟩ => ?_
 subst hw
 have r1 := (g3.get _ n0 not_false).trans r1
 have n0 := Nat.lt_of_lt_of_le n0 g3.nx
 have ha := ha.gr g3
 have hb := hb.gr g3
 have g3 := g2.gr g3
 refine zS tyF ?_
 have hr1 := hr0.out
 unfold kindE at hr1
 generalize slipE (ladOf (some ls) y.2.2.1).1 (ladOf (some ls) y.2.2.1).2 m n = e at hr1
 replace hr1 : Hd _ := hr1
 refine hK.out _ _ ?_
 refine R1.gen (fun A4 H4 => Gr H3 H4 ∧ H3.nx < H4.nx ∧ H4.get H3.nx = some (.arr [.i .i64 e, .o (.str sg), .i .i64 nn] 164 0 0) ∧ slot A4.tm 2 = .one (.i .i64 (x : Int)) ∧ slot A4.tm 3 = .one (.i .i64 (n : Int)) ∧ slot A4.tm 4 = .one (.i .i64 (m : Int)) ∧ slot A4.tm 6 = .one ((.o (.ptr N 0 0 2))) ∧ slot A4.tm 11 = .one ((.o (.ptr H3.nx 0 0 3))) ∧ A4.nt = 41 ∧ A4.dfr = [])
  ⟨((Fr.refl _).new _).mod _ (.inl (Nat.le_refl _)), Nat.lt_succ_self _, get_modE rfl, zL⟩ ?_
 clear t0 t2 t3 t4 t6 hnt hdf A1 hK K hu hk hk2
 rintro A1 H4 ⟨g4, n4, r4, t2, t3, t4, t6, t11, hnt, hdf⟩
 have r1 := (g4.get _ n0 not_false).trans r1
 have n0 := Nat.lt_of_lt_of_le n0 g4.nx
 have ha := ha.gr g4
 have hb := hb.gr g4
 have g4 := g3.gr g4
 clear g3 g1 g2
 by_cases he : e = 0
 case neg =>
  have ce : (e == 0) = false := beq_false_of_ne he
  have hr2 := hr1.out
  rw [if_pos he] at hr2
  replace hr2 : Hd _ := hr2
  replace he : Hd _ := he
  refine zW tyF ?_
  exact fin (e) _ _ qp qe (g4) (hr2.out)
 have ce : (e == 0) = true := beq_iff_eq.2 he
 have hr2 := hr1.out
 rw [if_neg (fun h => h he)] at hr2
 replace hr2 : Hd _ := hr2
 replace he : Hd _ := he
 have l2 := ha.lt
 have l3 := hb.lt
 refine zW tyF ?_
 refine zG (qA tyF bd_rSumPz) fun K hK => ?_
 refine WE.con (rSumPz_con H4 a b lr x hb ha.lt hR) fun w H5 g5 hw => ?_
 subst hw
 have g5 := g4.gr g5
 generalize sumI 0 lr x = z at hr2
 have no : ¬ (0 ≤ z ∧ n ≠ m ∧ 1 ≤ m ∧ m ≤ 1099511627776) → 0 = r0 := fun h => by
  have := hr2.out
  rw [if_neg h] at this; exact this
 replace no : Hd _ := no
 by_cases c1 : 0 ≤ z
 case neg =>
  refine zK tyF ?_
  exact fin (0) _ _ qp qe (g5) ((no.out fun h => c1 h.1))
 by_cases c2 : n = m
 ·have ce2 : (n == m) = true := beq_iff_eq.2 c2
  replace c2 : Hd _ := c2
  refine zK tyF ?_
  exact fin (0) _ _ qp qe (g5) ((no.out fun h => h.2.1 c2.out))
 have ce2 : (n == m) = false := beq_false_of_ne c2
 replace c2 : Hd _ := c2
 by_cases c3 : 1 ≤ m
 case neg =>
  refine zK tyF ?_
  exact fin (0) _ _ qp qe (g5) ((no.out fun h => c3 h.2.2.1))
 by_cases c4 : m ≤ 1099511627776
 case neg =>
  refine zK tyF ?_
  exact fin (0) _ _ qp qe (g5) ((no.out fun h => c4 h.2.2.2))
 refine zK tyF ?_
 exact fin (5) _ _ qp qe (g5) ((by have := hr2.out; rw [if_pos ⟨c1, c2.out, c3, c4⟩] at this; exact this))
end Go.Proofs.YtiejeicaaojdlaaGreat
namespace Go.Proofs.YtiejeicaaojdlaaGreat
open Go Go.Eng
abbrev Fx := Int × Int × Int × Int
def fxC (x : Fx) : List AC := [.i .i64 x.1, .i .i64 x.2.1, .i .i64 x.2.2.1, .i .i64 x.2.2.2]
theorem fxC_len (x : Fx) : (fxC x).length = 4 := rfl
def SlF (H : Hp) (v : AC) (l : List Fx) : Prop := SlC H v 4 l.length (l.flatMap fxC)
theorem SlF.gr {H H' : Hp} {v : AC} {l : List Fx} (h : SlF H v l) (hg : Gr H H') : SlF H' v l := SlC.gr h hg
theorem SlF.len {H : Hp} {v : AC} {l : List Fx} (h : SlF H v l) : doLen H 1 (.one v) = .val (.one (.i .i64 (l.length : Int))) H := SlC.len h
theorem SlF.lt {H : Hp} {v : AC} {l : List Fx} (h : SlF H v l) : ltV (.one v) H.nx := ltV_slc h
theorem SlF.nil {H : Hp} : SlF H (.o .nilS) [] := ⟨by simp, .inl ⟨rfl, rfl⟩⟩
structure FxAt (cells : List AC) (o : Nat) (x : Fx) : Prop where
 all : (cells.drop o).take 4 = fxC x
 le : o + 4 ≤ cells.length
 le1 : o + 1 ≤ cells.length
 le2 : o + 1 + 1 ≤ cells.length
 le3 : o + 2 + 1 ≤ cells.length
 le4 : o + 3 + 1 ≤ cells.length
 f0 : (cells.drop o).headD (.b false) = .i .i64 x.1
 f1 : (cells.drop (o + 1)).headD (.b false) = .i .i64 x.2.1
 f2 : (cells.drop (o + 2)).headD (.b false) = .i .i64 x.2.2.1
 f3 : (cells.drop (o + 3)).headD (.b false) = .i .i64 x.2.2.2
theorem drop4 {cells : List AC} {o : Nat} {a b c d : AC} (h : (cells.drop o).take 4 = [a, b, c, d]) : (cells.drop o).headD (.b false) = a ∧ (cells.drop (o + 1)).headD (.b false) = b ∧ (cells.drop (o + 2)).headD (.b false) = c ∧ (cells.drop (o + 3)).headD (.b false) = d := by
 rw [← List.drop_drop, ← List.drop_drop, ← List.drop_drop]
 match hd : cells.drop o, h with
 | x0 :: x1 :: x2 :: x3 :: r, h =>
  simp only [List.take_succ_cons, List.take_zero, List.cons.injEq, and_true] at h
  obtain ⟨rfl, rfl, rfl, rfl⟩ := h
  exact ⟨rfl, rfl, rfl, rfl⟩
theorem SlF.open {H : Hp} {v : AC} {l : List Fx} (h : SlF H v l) (hn : 0 < l.length) : ∃ id g off cells, v = .o (.sl id g off l.length 4) ∧ id < H.nx ∧ rowOf (H.get id) g = some cells ∧ ∀ (i : Nat) (x : Fx), l[i]? = some x → FxAt cells (off + i * 4) x := by
 obtain ⟨id, g, off, h1, h2, hr⟩ := SlC.pos h hn
 have hr' := hr
 obtain ⟨cells, h3, h6, h7⟩ := hr
 refine ⟨id, g, off, cells, h1, h2, h3, fun i x hx => ?_⟩
 obtain ⟨cells', k3, k6, k7⟩ := Rd.at (c := fxC) fxC_len hr' hx
 rw [h3] at k3
 cases k3
 rw [fxC] at k7
 obtain ⟨d0, d1, d2, d3⟩ := drop4 k7
 exact ⟨k7, k6, by omega, by omega, by omega, by omega, d0, d1, d2, d3⟩
set_option maxRecDepth 10000 in
set_option maxHeartbeats 4000000 in
theorem sameFix_con (H : Hp) (v w : AC) (l : List Fx) (hv : SlF H v l) (hw : SlF H w l) (hL : l.length ≤ 4611686018427387904) :
  Con E2 28 [.one v, .one w] H (fun _ => False) fun r _ => r = .one (.b true) := by
 refine Con.of rfl fun lg => ?_
 have hv : SlF ⟨H.t, H.nx, lg⟩ v l := hv
 have hw : SlF ⟨H.t, H.nx, lg⟩ w l := hw
 generalize (⟨H.t, H.nx, lg⟩ : Hp) = H at hv hw ⊢
 refine C1.body (E := E2) (nt := 26) (res := [.tmp 4]) Tryz.func28 rfl rfl rfl rfl rfl fun tm hargs => ?_
 have h0 := hargs 0 _ rfl
 have h1 := hargs 1 _ rfl
 clear hargs
 have l1 := hv.len
 have l2 := hw.len
 have l3 := hv.lt
 have l4 := hw.lt
 have hne : ((l.length : Int) == (l.length : Int)) = true := beq_self_eq_true _
 refine zW tyF ?_
 refine R1.s_bl fun K k1 k2 k3 k4 => ?_
 refine R1.loop (fun k A H2 => ∃ i : Nat, k = l.length - i ∧ i ≤ l.length ∧ Gr H H2 ∧ slot A.tm 0 = .one (v) ∧ slot A.tm 1 = .one (w) ∧ slot A.tm 5 = .one (.i .i64 (i : Int)) ∧ A.nt = 26 ∧ A.dfr = []) ?_ l.length ⟨0, rfl, Nat.zero_le _, Fr.refl _, zL⟩
 clear h0 h1 tm l1 l2 l3 l4 k3
 rintro k A H2 ⟨i, rfl, hi, g2, t0, t1, t5, hnt, hdf⟩
 have hv2 := hv.gr g2
 have hw2' := hw.gr g2
 have l1 := hv2.len
 have l3 := hv2.lt
 refine zW tyF ?_
 refine zI tyF (fun hc => ?_) (fun hc => ?_)
 ·have hlt : i < l.length := by omega
  have ex : l[i]? = some l[i] := List.getElem?_eq_getElem hlt
  have hdr : l.drop i = l[i] :: l.drop (i + 1) := List.drop_eq_getElem_cons hlt
  have htk : l.take (i + 1) = l.take i ++ [l[i]] := List.take_succ_eq_append_getElem hlt
  have hmem : l[i] ∈ l := List.getElem_mem hlt
  generalize l[i] = x at ex hdr htk hmem
  have hw2 : IntKind.i64.wrap ((i : Int) + 1) = ((i + 1 : Nat) : Int) := by rw [wrapI (by omega) (by omega)]; omega
  clear hdr htk hmem l1 l3
  obtain ⟨id, g, off, cells, rfl, hid, hgr, hat⟩ := hv2.open (by omega)
  obtain ⟨id', g', off', cells', rfl, hid', hgr', hat'⟩ := hw2'.open (by omega)
  have hx1 := hat i x ex
  have hx2 := hat' i x ex
  have y1 := hx1.all
  have y2 := hx1.le
  have y3 := hx2.all
  have y4 := hx2.le
  rw [fxC] at y1 y3
  obtain ⟨x1, x2, x3, x4⟩ := x
  have c1 : (x1 == x1) = true := beq_self_eq_true _
  have c2 : (x2 == x2) = true := beq_self_eq_true _
  have c3 : (x3 == x3) = true := beq_self_eq_true _
  have c4 : (x4 == x4) = true := beq_self_eq_true _
  clear hat hat' hx1 hx2 ex hne
  refine zW tyF ?_
  refine R1.s_bl fun K2 q1 q2 q3 q4 => ?_
  repeat refine R1.s_assoc ?_
  (first | refine R1.s_sg (by kernel_rfl) fun K hK => ?_ | refine R1.e_sg (by kernel_rfl) fun K hK => ?_)
  simp only [qB, slotOk, Nat.reduceLT, E2_P, t0, t1, t5, hnt, el_fixes, ld_fix, indexAddr_cast hlt, hid, hgr, hid', hgr', y1, y2, y3, y4, plain_neq eq_fix, beq_self_eq_true, Bool.and_self]
  refine hK _ _ ?_
  clear hK K
  refine qY ?_
  refine zW tyF ?_
  refine q1.out _ _ ?_
  refine zW tyF ?_
  exact ⟨l.length - (i + 1), by omega, i + 1, rfl, hlt, g2, zL⟩
 ·refine zW tyF ?_
  refine k2.out _ _ ?_
  refine zW tyF ?_
  exact ⟨_, _, callEnd_one (.b true) (.inr rfl) qe qp, g2, fun _ => rfl⟩
end Go.Proofs.YtiejeicaaojdlaaGreat
namespace Go.Proofs.YtiejeicaaojdlaaGreat
open Go Go.Eng
theorem bd_rCost : hasBody Tryz.prog 25 = true := by kernel_rfl
def badF (v : List Int) (prev : Option Int) (f : Fx) : Bool := decide (f.1 < 0) || (decide ((v.length : Int) ≤ f.1) || ((prev.any fun p => decide (f.1 ≤ p)) || !(f.2.1 == v.getD f.1.toNat 0)))
def kindF (ls : List Lad) (lc : List Cl) (lr : List Rl) (f : Fx) : Int := kindE (ladOf (some ls) (ladC lc f.1)) lr f.1 f.2.1 f.2.2.1
def costL (ls : List Lad) (lc : List Cl) (lr : List Rl) (v : List Int) : Option Int → Int → List Fx → Int × Int
 | _, t, [] => (t, 0)
 | prev, t, f :: l => if badF v prev f = true then (0, 55) else if f.2.2.2 = 0 ∨ f.2.2.2 ≠ kindF ls lc lr f then (0, 55) else costL ls lc lr v (some f.1) (t + priceE f.2.2.2) l
noncomputable def costE (o : Option (List Lad)) (p : Pz) (v : List Int) (l : List Fx) : Int × Int := if askE o p v ≠ 0 then (0, askE o p v) else costL (o.getD []) p.1 p.2 v none 0 l
def prevF (l : List Fx) : Nat → Option Int
 | 0 => none
 | j + 1 => (l[j]?).map (·.1)
set_option maxRecDepth 10000 in
set_option maxHeartbeats 64000000 in
theorem rCost_con (H : Hp) (k a b w fx : AC) (o : Option (List Lad)) (p : Pz) (v : List Int) (l : List Fx) (hk : RBkO H k o) (hL : ∀ ls, o = some ls → (∀ x ∈ ls, x.2.length ≤ 1000000) ∧ ls.length ≤ 1000000) (ha : SlCl H a p.1) (hb : SlRl H b p.2) (hB : PzB p) (hw : SlI H w v) (hV : v.length ≤ 4611686018427387904) (hf : SlF H fx l) (hF : l.length ≤ 4398046511104) :
  Con E2 25 [.one k, .agg [a, b], .one w, .one fx] H (fun _ => False) fun r _ => r = .tup [(false, [.i .i64 (costE o p v l).1]), (false, [.i .i64 (costE o p v l).2])] := by
 refine Con.of rfl fun lg => ?_
 have hk : RBkO ⟨H.t, H.nx, lg⟩ k o := RBkO.same (H := H) rfl rfl hk
 have ha : SlCl ⟨H.t, H.nx, lg⟩ a p.1 := ha
 have hb : SlRl ⟨H.t, H.nx, lg⟩ b p.2 := hb
 have hw : SlI ⟨H.t, H.nx, lg⟩ w v := hw
 have hf : SlF ⟨H.t, H.nx, lg⟩ fx l := hf
 generalize (⟨H.t, H.nx, lg⟩ : Hp) = H at hk ha hb hw hf ⊢
 refine C1.body (E := E2) (nt := 89) (res := [.tmp 8, .tmp 9]) Tryz.func25 rfl rfl rfl rfl rfl fun tm hargs => ?_
 have h0 := hargs 0 _ rfl
 have h1 := hargs 1 _ rfl
 have h2 := hargs 2 _ rfl
 have h3 := hargs 3 _ rfl
 clear hargs
 generalize hq0 : costE o p v l = q0
 have fin : ∀ (v w : Int) (A : AAct) (H3 : Hp), slot A.tm 8 = .one (.i .i64 v) → slot A.tm 9 = .one (.i .i64 w) → A.dfr = [] → Gr H H3 → (v, w) = q0 → ∃ w H4, callEnd E2 [.tmp 8, .tmp 9] (.ret, A, H3) = .ok [(w, H4)] ∧ Gr H H4 ∧ ∀ _ : List Nat, w = .tup [(false, [.i .i64 (q0).1]), (false, [.i .i64 (q0).2])] := fun v w A H3 h1 h2 hd hg hv => ⟨_, H3, callEnd_two (.i .i64 v) (.i .i64 w) (.inr rfl) hd h1 h2, hg, fun _ => by rw [← hv]⟩
 generalize hr0 : q0 = r0 at fin
 rw [← hq0] at hr0
 clear hq0
 unfold costE at hr0
 refine zG tyF fun K hK => ?_
 refine hK.out _ _ ?_
 refine R1.gen (fun A1 H1 => Gr H H1 ∧ H.nx < H1.nx ∧ H1.get H.nx = some (.arr [a, b] 42 0 0) ∧ slot A1.tm 0 = .one (k) ∧ slot A1.tm 2 = .one (w) ∧ slot A1.tm 3 = .one (fx) ∧ slot A1.tm 5 = .one ((.o (.ptr H.nx 0 0 2))) ∧ A1.nt = 89 ∧ A1.dfr = []) ⟨(Fr.refl _).new _, Nat.lt_succ_self _, get_newE rfl, zL⟩ ?_
 rintro A1 H1 ⟨g1, m1, rx, t0, t2, t3, t5, hnt, hdf⟩
 clear h0 h1 h2 h3 tm hK K
 have hk := hk.gr g1
 have ha := ha.gr g1
 have hb := hb.gr g1
 have hw := hw.gr g1
 have hf := hf.gr g1
 refine zG (qA tyF bd_asked) fun K hK => ?_
 refine WE.con (asked_con H1 k a b w o p v hk hL ha hb hB hw hV) fun w' H2 g2 hq => ?_
 subst hq
 have rx := (g2.get _ m1 not_false).trans rx
 have m1 := Nat.lt_of_lt_of_le m1 g2.nx
 have hk := hk.gr g2
 have ha := ha.gr g2
 have hb := hb.gr g2
 have hw := hw.gr g2
 have hf := hf.gr g2
 have g2 := g1.gr g2
 clear g1
 have hok := @askE_ok o p v
 have hoc := @chkPz_ok o p
 generalize askE o p v = e0 at hr0 hok
 by_cases he0 : e0 = 0
 case neg =>
  have ce : (e0 == 0) = false := beq_false_of_ne he0
  rw [if_pos he0] at hr0
  replace hr0 : Hd _ := hr0
  refine zK tyF ?_
  exact fin (0) (e0) _ _ qp qp qe (g2) (hr0.out)
 rw [if_neg (fun h => h he0)] at hr0
 have ce : (e0 == 0) = true := by rw [he0]; rfl
 obtain ⟨hC, hR, hvl, hcp, hrg⟩ := hok he0
 obtain ⟨ls, rfl, _⟩ := hoc hcp
 obtain ⟨hL1, hL2⟩ := hL ls rfl
 have hk : RBk H2 k ls := hk
 obtain ⟨lc, lr⟩ := p
 replace hr0 : costL ls lc lr v none 0 l = r0 := hr0
 replace ha : SlCl H2 a lc := ha
 replace hb : SlRl H2 b lr := hb
 replace hvl : v.length = lc.length := hvl
 replace hC : lc.length ≤ 64 := hC
 replace hR : lr.length ≤ 1000000 := by have : lr.length ≤ 64 := hR; omega
 replace hvl : Hd _ := hvl
 clear hok hoc hrg hcp hL hB
 replace he0 : Hd _ := he0
 replace hr0 : Hd _ := hr0
 obtain ⟨N, hN⟩ : ∃ N, N = H.nx := ⟨_, rfl⟩
 rw [← hN] at m1 rx t5
 clear hN
 refine zK tyF ?_
 refine R1.s_bl fun K k1 k2 k3 k4 => ?_
 refine R1.loop (fun z A H3 => ∃ (i : Nat) (tot : Int), z = l.length - i ∧ i ≤ l.length ∧ 0 ≤ tot ∧ tot ≤ 2 * (i : Int) ∧ Gr H2 H3 ∧ Hd (costL ls lc lr v (prevF l i) tot (l.drop i) = r0) ∧ slot A.tm 0 = .one (k) ∧ slot A.tm 2 = .one (w) ∧ slot A.tm 3 = .one (fx) ∧ slot A.tm 5 = .one ((.o (.ptr N 0 0 2))) ∧ slot A.tm 11 = .one (.i .i64 (tot : Int)) ∧ slot A.tm 12 = .one (.i .i64 (i : Int)) ∧ A.nt = 89 ∧ A.dfr = []) ?_ l.length
  ⟨0, 0, rfl, Nat.zero_le _, Int.le_refl _, by omega, Fr.refl _, hr0, zL⟩
 clear t0 t2 t3 t5 hnt hdf A1 hr0 k3
 rintro z A H3 ⟨i, tot, rfl, hi, ht0, ht1, g3, hr, t0, t2, t3, t5, t11, t12, hnt, hdf⟩
 have hf3 := hf.gr g3
 have l1 := hf3.len
 have l2 := hf3.lt
 refine zW tyF ?_
 refine zI tyF (fun hc => ?_) (fun hc => ?_)
 ·have hlt : i < l.length := by omega
  have ex : l[i]? = some l[i] := List.getElem?_eq_getElem hlt
  have hdr : l.drop i = l[i] :: l.drop (i + 1) := List.drop_eq_getElem_cons hlt
  have htk : l.take (i + 1) = l.take i ++ [l[i]] := List.take_succ_eq_append_getElem hlt
  have hmem : l[i] ∈ l := List.getElem_mem hlt
  generalize l[i] = x at ex hdr htk hmem
  have hw2 : IntKind.i64.wrap ((i : Int) + 1) = ((i + 1 : Nat) : Int) := by rw [wrapI (by omega) (by omega)]; omega
  obtain ⟨id, g, off, cells, rfl, hid, hgr, hat⟩ := hf3.open (by omega)
  have hx1 := hat i x ex
  have y1 := hx1.all
  have y2 := hx1.le
  rw [fxC] at y1
  clear hx1 hmem htk
  have hr1 := hr.out
  rw [hdr, costL] at hr1
  replace hr1 : Hd _ := hr1
  clear hdr hr l1 l2
  refine zW tyF ?_
  refine R1.s_bl fun K2 q1 q2 q3 q4 => ?_
  have rx := (g3.get _ m1 not_false).trans rx
  have m1 := Nat.lt_of_lt_of_le m1 g3.nx
  refine zG (qA tyF (ixC hlt)) fun K3 hK3 => ?_
  refine hK3.out _ _ ?_
  obtain ⟨x1, x2, x3, x4⟩ := x
  replace y1 : (cells.drop (off + i * 4)).take 4 = [.i .i64 x1, .i .i64 x2, .i .i64 x3, .i .i64 x4] := y1
  refine R1.gen (fun A4 H4 => Gr H3 H4 ∧ H3.nx < H4.nx ∧ H4.get H3.nx = some (.arr [.i .i64 x1, .i .i64 x2, .i .i64 x3, .i .i64 x4] 103 0 0) ∧ slot A4.tm 0 = .one (k) ∧ slot A4.tm 2 = .one (w) ∧ slot A4.tm 3 = .one ((.o (.sl id g off l.length 4))) ∧ slot A4.tm 5 = .one ((.o (.ptr N 0 0 2))) ∧ slot A4.tm 11 = .one (.i .i64 (tot : Int)) ∧ slot A4.tm 12 = .one (.i .i64 (i : Int)) ∧ slot A4.tm 13 = .one ((.o (.ptr H3.nx 0 0 4))) ∧ A4.nt = 89 ∧ A4.dfr = [])
   ⟨((Fr.refl _).new _).mod _ (.inl (Nat.le_refl _)), Nat.lt_succ_self _, get_modE rfl, zL⟩ ?_
  clear t0 t2 t3 t5 t11 t12 hnt hdf A y1 y2 hK3 K3
  rintro A H4 ⟨g4, mM, rM, t0, t2, t3, t5, t11, t12, t13, hnt, hdf⟩
  obtain ⟨M, hM⟩ : ∃ M, M = H3.nx := ⟨_, rfl⟩
  rw [← hM] at mM rM t13
  clear hM
  have rx := (g4.get _ m1 not_false).trans rx
  have m1 := Nat.lt_of_lt_of_le m1 g4.nx
  have hgr4 : rowOf (H4.get id) g = some cells := by rw [g4.get _ hid not_false]; exact hgr
  have hid4 : id < H4.nx := Nat.lt_of_lt_of_le hid g4.nx
  have g24 := g3.gr g4
  have hw4 := hw.gr g24
  clear hgr hid hf3 g4 g3
  replace ex : Hd _ := ex
  repeat refine R1.s_assoc ?_
  refine R1.s_h (by kernel_rfl) fun K4 hK4 => ?_
  have key : Hd (∀ (bb : Bool) (A : AAct), badF v (prevF l i) (x1, x2, x3, x4) = bb → slot A.tm 65 = .one (.b bb) ∧ slot A.tm 0 = .one (k) ∧ slot A.tm 2 = .one (w) ∧ slot A.tm 3 = .one ((.o (.sl id g off l.length 4))) ∧ slot A.tm 5 = .one ((.o (.ptr N 0 0 2))) ∧ slot A.tm 11 = .one (.i .i64 (tot : Int)) ∧ slot A.tm 12 = .one (.i .i64 (i : Int)) ∧ slot A.tm 13 = .one ((.o (.ptr M 0 0 4))) ∧ A.nt = 89 ∧ A.dfr = [] → K4 A H4) := by
   clear t0 t2 t3 t5 t11 t12 t13 hnt hdf A
   rintro bb A hbb ⟨t65, t0, t2, t3, t5, t11, t12, t13, hnt, hdf⟩
   refine hK4.out _ _ ?_
   clear hK4 K4
   cases bb with
   | true =>
    have hr2 := hr1.out
    rw [if_pos hbb] at hr2
    replace hr2 : Hd _ := hr2
    clear hbb
    refine zW tyF ?_
    exact q4.out _ _ (k4.out _ _ (fin (0) (55) _ _ qp qp qe (g2.gr g24) (hr2.out)))
   | false =>
    have hr2 := hr1.out
    rw [if_neg (by rw [hbb]; decide)] at hr2
    replace hr2 : Hd _ := hr2
    refine qX t65 ?_
    refine R1.s_skip ?_
    have hrg : 0 ≤ x1 ∧ x1 < lc.length := by
     have h := hbb
     unfold badF at h
     rw [Bool.or_eq_false_iff, Bool.or_eq_false_iff, decide_eq_false_iff_not, decide_eq_false_iff_not] at h
     have := hvl.out
     have h1 := h.1
     have h2 := h.2.1
     omega
    clear hbb
    repeat refine R1.s_assoc ?_
    by_cases c5 : x4 = 0
    ·have ce5 : (x4 == 0) = true := beq_iff_eq.2 c5
     have hr3 := hr2.out
     rw [if_pos (.inl c5)] at hr3
     replace hr3 : Hd _ := hr3
     replace c5 : Hd _ := c5
     refine zH (qA tyF bd_rKind5) fun K5 hK5 => ?_
     refine zK tyF ?_
     exact q4.out _ _ (k4.out _ _ (fin (0) (55) _ _ qp qp qe (g2.gr g24) (hr3.out)))
    have ce5 : (x4 == 0) = false := beq_false_of_ne c5
    have hlt1 : x1.toNat < lc.length := by omega
    have hy : lc[x1.toNat]? = some lc[x1.toNat] := List.getElem?_eq_getElem hlt1
    have hkf : kindF ls lc lr (x1, x2, x3, x4) = kindE (ladOf (some ls) lc[x1.toNat].2.2.1) lr x1 x2 x3 := by
     unfold kindF ladC
     show kindE (ladOf (some ls) ((lc[x1.toNat]?).elim [] fun x => x.2.2.1)) lr x1 x2 x3 = _
     rw [hy]; rfl
    have hr3 := hr2.out
    rw [hkf] at hr3
    generalize lc[x1.toNat] = y at hy hr3
    clear hkf
    replace hr3 : Hd _ := hr3
    replace hy : Hd _ := hy
    replace hrg : Hd _ := hrg
    replace c5 : Hd _ := c5
    refine zH (qA tyF bd_rKind5) fun K5 hK5 => ?_
    refine WE.conG (rKind5_con H4 k a b ls lc lr x1 x2 x3 y (hk.gr g24) hL1 hL2 (ha.gr g24) (hb.gr g24) hR hrg.out.1 hrg.out.2 hy.out) fun w' H5 g5 hq => ?_
    subst hq
    generalize kindE (ladOf (some ls) y.2.2.1) lr x1 x2 x3 = kk at hr3
    have rx := (g5.get _ m1 not_false).trans rx
    have m1 := Nat.lt_of_lt_of_le m1 g5.nx
    have rM := (g5.get _ mM not_false).trans rM
    have mM := Nat.lt_of_lt_of_le mM g5.nx
    have g25 := g24.gr g5
    by_cases c6 : x4 = kk
    case neg =>
     have ce6 : (x4 == kk) = false := beq_false_of_ne c6
     have hr4 := hr3.out
     rw [if_pos (.inr c6)] at hr4
     replace hr4 : Hd _ := hr4
     replace c6 : Hd _ := c6
     refine zK tyF ?_
     exact q4.out _ _ (k4.out _ _ (fin (0) (55) _ _ qp qp qe (g2.gr g25) (hr4.out)))
    have ce6 : (x4 == kk) = true := beq_iff_eq.2 c6
    have hr4 := hr3.out
    rw [if_neg (fun h => h.elim c5.out fun h => h c6)] at hr4
    replace hr4 : Hd _ := hr4
    replace c6 : Hd _ := c6
    refine zK tyF ?_
    refine zG (qA tyF bd_rPrice) fun K6 hK6 => ?_
    refine WE.con (rPrice_con H5 x4) fun w' H6 g6 hq => ?_
    subst hq
    have hpr : 1 ≤ priceE x4 ∧ priceE x4 ≤ 2 := by unfold priceE; split <;> omega
    generalize priceE x4 = pr at hpr hr4
    have hwt : IntKind.i64.wrap (tot + pr) = tot + pr := wrapI (by omega) (by omega)
    refine zK tyF ?_
    refine q1.out _ _ ?_
    refine zW tyF ?_
    exact ⟨l.length - (i + 1), by omega, i + 1, tot + pr, rfl, hlt, by omega, by omega, g25.gr g6, by rw [prevF, ex.out]; exact hr4, zL⟩
  clear hK4
  have lw := hw4.len
  have lw2 := hw4.lt
  have htl : (v.length : Int) = (v.length : Int) := rfl
  clear htl
  by_cases c0 : x1 < 0
  ·refine zS tyF ?_
   exact key.out true _ (by unfold badF; rw [decide_eq_true c0, Bool.true_or]) zL
  by_cases c1 : (v.length : Int) ≤ x1
  ·refine zS tyF ?_
   exact key.out true _ (by unfold badF; rw [decide_eq_true c1, Bool.true_or, Bool.or_true]) zL
  have hx0 : 0 ≤ x1 := by omega
  have hxv : x1 < v.length := by omega
  have hbf : badF v (prevF l i) (x1, x2, x3, x4) = (((prevF l i).any fun p => decide (x1 ≤ p)) || !(x2 == v.getD x1.toNat 0)) := by
   unfold badF
   rw [decide_eq_false c0, decide_eq_false c1, Bool.false_or, Bool.false_or]
  replace hbf : Hd _ := hbf
  obtain ⟨idw, gw, ow, cw, rfl, hidw, hgw, hatw⟩ := hw4.open (by omega)
  obtain ⟨z1, z2⟩ := hatw x1.toNat (v.getD x1.toNat 0) (by rw [List.getD_eq_getElem?_getD, List.getElem?_eq_getElem (by omega)]; rfl)
  clear hatw lw lw2 hw4
  generalize v.getD x1.toNat 0 = vv at z1 hbf
  by_cases hi0 : i = 0
  ·have hp : prevF l i = none := by rw [hi0]; rfl
   have hgt : ¬ 0 < (i : Int) := by omega
   replace hp : Hd _ := hp
   replace hi0 : Hd _ := hi0
   refine zS (qA tyF (ixI hx0 hxv)) ?_
   exact key.out (!(x2 == vv)) _ (by rw [hbf.out, hp.out]; rfl) zL
  obtain ⟨j, hj⟩ : ∃ j, i = j + 1 := ⟨i - 1, by omega⟩
  have hjl : j < l.length := by omega
  have hgt : 0 < (i : Int) := by omega
  have hsub : IntKind.i64.wrap ((i : Int) - 1) = (j : Int) := by rw [wrapI (by omega) (by omega)]; omega
  have hz := hat j l[j] (List.getElem?_eq_getElem hjl)
  have w1 := hz.f0
  have w2 := hz.le1
  have hp : prevF l i = some l[j].1 := by rw [hj, prevF, List.getElem?_eq_getElem hjl]; rfl
  generalize l[j].1 = zz at w1 hp
  clear hz hat
  replace hp : Hd _ := hp
  replace hj : Hd _ := hj
  by_cases c2 : x1 ≤ zz
  ·refine zS (qA tyF (qA (ixC hjl) (ixI hx0 hxv))) ?_
   exact key.out true _ (by rw [hbf.out, hp.out]; show (decide (x1 ≤ zz) || _) = true; rw [decide_eq_true c2]; rfl) zL
  ·refine zS (qA tyF (qA (ixC hjl) (ixI hx0 hxv))) ?_
   exact key.out (!(x2 == vv)) _ (by rw [hbf.out, hp.out]; show (decide (x1 ≤ zz) || _) = _; rw [decide_eq_false c2]; rfl) zL
 ·have hie : i = l.length := by omega
  have hr1 := hr.out
  rw [hie, List.drop_length, costL] at hr1
  replace hr1 : Hd _ := hr1
  clear hie
  refine zW tyF ?_
  refine k2.out _ _ ?_
  refine zW tyF ?_
  exact fin (tot) (0) _ _ qp qp qe (g2.gr g3) (hr1.out)
end Go.Proofs.YtiejeicaaojdlaaGreat
namespace Go.Proofs.YtiejeicaaojdlaaGreat
open Go Go.Eng
theorem slipE_law {nm : List UInt8} {us : List Pr} (hck : chkLad nm us = 0) {n m : Int} (hn1 : 1 ≤ n) (hn2 : n ≤ 1099511627776) (hm1 : 1 ≤ m) (hm2 : m ≤ 1099511627776) : kindL (slipsL us (splitA us n) (valsS nm us) n) m = slipE nm us m n := by
 have e : ∀ k, 1 ≤ k → k ≤ 1099511627776 → splitE nm us k = (splitA us k, 0) := fun k h1 h2 => by
  unfold splitE; rw [if_neg (fun h => h hck), if_pos ⟨by omega, h2⟩]
 unfold slipE
 rw [if_pos ⟨⟨hm1, hn1⟩, hm2, hn2⟩, e n hn1 hn2, e m hm1 hm2, kind_law hck hn1 hm1 hm2]
 show _ = slipK _ _ (difL _ _ (splitA us n).length)
 rw [splitA_len]
theorem slipE_out {nm : List UInt8} {us : List Pr} {n m : Int} (h : m < 1 ∨ 1099511627776 < m) : slipE nm us m n = 0 := by
 unfold slipE
 rw [if_neg (fun h' => by omega)]
theorem slipE_same {nm : List UInt8} {us : List Pr} {n : Int} : slipE nm us n n = 0 := by
 unfold slipE
 split
 ·have : ∀ (cs : List Int) (k : Nat), difL cs cs k = [] := fun cs k => flt0 _ k fun j _ => bne_self_eq_false _
  rw [this]; rfl
 ·rfl
theorem slipK_lt (cs ds : List Int) (D : List Nat) : slipK cs ds D ≠ 5 := by
 unfold slipK
 split
 ·split
  ·decide
  ·split <;> decide
 ·split
  ·split
   ·decide
   ·split <;> decide
  ·decide
 ·decide
theorem slipE_5 {nm : List UInt8} {us : List Pr} {n m : Int} : slipE nm us m n ≠ 5 := by
 unfold slipE
 split
 ·exact slipK_lt _ _ _
 ·decide
theorem kindE_bad {L : Lad} {lr : List Rl} {x n m : Int} (h : n = m ∨ m < 1 ∨ 1099511627776 < m) : kindE L lr x n m = 0 := by
 unfold kindE
 have e : slipE L.1 L.2 m n = 0 := by
  rcases h with rfl | h
  ·exact slipE_same
  ·exact slipE_out h
 rw [e, if_neg (fun h => h rfl), if_neg (fun h' => by omega)]
end Go.Proofs.YtiejeicaaojdlaaGreat
