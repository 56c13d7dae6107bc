/- A part of the proof: BkPz7, BkPz8, BkPz9, BkPz10, BkAll, BkSum1, BkSum2, BkSum3. No conditions. -/
import Derived.Test.YtiejeicaaojdlaaGreatQAk
namespace Go.Proofs.YtiejeicaaojdlaaGreat
open Go Go.Eng
theorem bd_rSumPz : hasBody Tryz.prog 88 = true := by kernel_rfl
theorem bd_rRules : hasBody Tryz.prog 54 = true := by kernel_rfl
def sumI : Nat → List Rl → Int → Int
  | _, [], _ => -1
  | n, x :: l, t => if x.1 = t then (n : Int) else sumI (n + 1) l t
set_option maxRecDepth 10000 in
set_option maxHeartbeats 4000000 in
theorem rSumPz_con (H : Hp) (a b : AC) (lr : List Rl) (t : Int) (hb : SlRl H b lr) (ha : ltV (.one a) H.nx) (hR : lr.length ≤ 1000000) :
    Con E2 88 [.agg [a, b], .one (.i .i64 t)] H (fun _ => False) fun r _ => r = .one (.i .i64 (sumI 0 lr t)) := by
  refine Con.of rfl fun lg => ?_
  have hb : SlRl ⟨H.t, H.nx, lg⟩ b lr := hb
  generalize (⟨H.t, H.nx, lg⟩ : Hp) = H at hb ⊢
  refine C1.body (E := E2) (nt := 22) (res := [.tmp 4]) Tryz.func88 rfl rfl rfl rfl rfl fun tm hargs => ?_
  have h0 := hargs 0 _ rfl
  have h1 := hargs 1 _ rfl
  clear hargs
  have fin : ∀ (e : Int) (A : AAct) (H3 : Hp), slot A.tm 4 = .one (.i .i64 e) → A.dfr = [] → Gr H H3 → e = sumI 0 lr t → ∃ w H4, callEnd E2 [.tmp 4] (.ret, A, H3) = .ok [(w, H4)] ∧ Gr H H4 ∧ ∀ _ : List Nat, w = .one (.i .i64 (sumI 0 lr t)) := fun e A H3 h1 h2 h3 h4 => ⟨_, H3, callEnd_one (.i .i64 e) (.inr rfl) h2 h1, h3, fun _ => by rw [h4]⟩
  generalize hr0 : sumI 0 lr t = r0 at fin
  refine qG (qA E2_P (qA h0 h1)) fun K hK => ?_
  refine hK _ _ ?_
  clear hK K
  refine R1.gen (fun A1 H1 => Gr H H1 ∧ H.nx < H1.nx ∧ H1.get H.nx = some (.arr [a, b] 42 0 0) ∧ slot A1.tm 1 = .one (.i .i64 (t : Int)) ∧ slot A1.tm 2 = .one ((.o (.ptr H.nx 0 0 2))) ∧ A1.nt = 22 ∧ A1.dfr = [])
    ⟨(Fr.refl _).new _, ?_⟩ ?_
  · exact qZ h1
  rintro A1 H1 ⟨g1, m1, r1, t1, t2, hnt, hdf⟩
  clear h0 h1 tm
  have hb := hb.gr g1
  refine qW hnt ?_
  refine R1.s_block fun K k1 k2 k3 k4 => ?_
  refine R1.loop (fun m A H2 => ∃ i : Nat, m = lr.length - i ∧ i ≤ lr.length ∧ H2 = H1 ∧ sumI i (lr.drop i) t = r0 ∧ slot A.tm 1 = .one (.i .i64 (t : Int)) ∧ slot A.tm 2 = .one ((.o (.ptr H.nx 0 0 2))) ∧ slot A.tm 5 = .one (.i .i64 (i : Int)) ∧ A.nt = 22 ∧ A.dfr = []) ?_ lr.length ⟨0, rfl, Nat.zero_le _, rfl, hr0, ?_⟩
  · clear t1 t2 hnt hdf A1
    rintro m A H2 ⟨i, rfl, hi, rfl, hr, t1, t2, t5, hnt, hdf⟩
    refine qW (qA E2_P (qA t2 (qA t5 (qA hnt (qA r1 (qA m1 (qA fd_puzzle_1 (qA ld_rules (qA ln_rules (qA hb.len hb.lt)))))))))) ?_
    refine qE fun Kx Ky hx hy => ?_
    refine iteI (fun hc => hx ?_) (fun hc => hy ?_)
    · clear hx hy Kx Ky
      have hlt : i < lr.length := by omega
      have ex : lr[i]? = some lr[i] := List.getElem?_eq_getElem hlt
      have hdr : lr.drop i = lr[i] :: lr.drop (i + 1) := List.drop_eq_getElem_cons hlt
      have htk : lr.take (i + 1) = lr.take i ++ [lr[i]] := List.take_succ_eq_append_getElem hlt
      have hmem : lr[i] ∈ lr := List.getElem_mem hlt
      generalize lr[i] = x at ex hdr htk hmem
      have hw2 : IntKind.i64.wrap ((i : Int) + 1) = ((i + 1 : Nat) : Int) := by rw [wrapI (by omega) (by omega)]; omega
      obtain ⟨id, g, off, cells, rfl, hid, hgr, hat⟩ := hb.open (by omega)
      obtain ⟨u, hx1⟩ := hat i x ex
      rw [hdr, sumI] at hr
      refine qV ?_
      refine R1.s_block fun K2 q1 q2 q3 q4 => ?_
      refine qG (qA E2_P (qA t1 (qA t2 (qA t5 (qA hnt (qA r1 (qA m1 (qA fd_puzzle_1 (qA ld_rules (qA el_rules (qA fd_rule_0 (qA ld_int (qA (ixC hlt) (qA hid (qA hgr (qA hx1.f1 hx1.le1)))))))))))))))) fun K hK => ?_
      refine hK _ _ ?_
      clear hK K
      by_cases he : x.1 = t
      · have ce : (x.1 == t) = true := by rw [he]; exact beq_self_eq_true _
        rw [if_pos he] at hr
        refine qX ce ?_
        refine qW (qA hnt t5) ?_
        exact q4 _ _ (k4 _ _ (fin ((i : Int)) _ _ qp (qd hdf) (g1) (hr)))
      · have ce : (x.1 == t) = false := beq_false_of_ne he
        rw [if_neg he] at hr
        refine qX ce ?_
        refine qW hnt ?_
        refine q1 _ _ ?_
        refine qW (qA hnt (qA t5 hw2)) ?_
        refine ⟨lr.length - (i + 1), by omega, i + 1, rfl, hlt, rfl, hr, ?_⟩
        repeat' (first | (simp only [slot_put, Nat.reduceEqDiff, reduceIte, putD_nt, putD_dfr, t1, t2, t5, hnt, hdf]; first | done | rfl) | refine ⟨?_, ?_⟩)
    · clear hx hy Kx Ky
      have hie : i = lr.length := by omega
      rw [hie, List.drop_length, sumI] at hr
      refine qW hnt ?_
      refine k2 _ _ ?_
      refine qW hnt ?_
      exact fin (-1) _ _ qp (qd hdf) (g1) (hr)
  · repeat' (first | (simp only [slot_put, Nat.reduceEqDiff, reduceIte, putD_nt, putD_dfr, t1, t2, hnt, hdf]; first | done | rfl) | refine ⟨?_, ?_⟩)
def partsR (lc : List Cl) (lr : List Rl) (t : Int) : List Int → List Int → Bool
  | _, [] => true
  | acc, m :: l => if m < 0 then false else if (lc.length : Int) ≤ m then false else if prevI acc m = true then false else if ladC lc m ≠ ladC lc t then false else if 0 ≤ sumI 0 lr m then false else partsR lc lr t (acc ++ [m]) l
def refR (lc : List Cl) (lr : List Rl) : Nat → List Rl → Bool
  | _, [] => true
  | i, x :: l => if x.1 < 0 then false else if (lc.length : Int) ≤ x.1 then false else if sumI 0 lr x.1 ≠ (i : Int) then false else if partsR lc lr x.1 [] x.2 = false then false else refR lc lr (i + 1) l
set_option maxRecDepth 10000 in
set_option maxHeartbeats 32000000 in
theorem rRules_con (H : Hp) (a b : AC) (lc : List Cl) (lr : List Rl) (ha : SlCl H a lc) (hb : SlRl H b lr) (hC : lc.length ≤ 1000000) (hR : lr.length ≤ 1000000) (hP : ∀ x ∈ lr, x.2.length ≤ 4611686018427387904) :
    Con E2 54 [.agg [a, b]] H (fun _ => False) fun r _ => r = .one (.b (refR lc lr 0 lr)) := by
  refine Con.of rfl fun lg => ?_
  have ha : SlCl ⟨H.t, H.nx, lg⟩ a lc := ha
  have hb : SlRl ⟨H.t, H.nx, lg⟩ b lr := hb
  generalize (⟨H.t, H.nx, lg⟩ : Hp) = H at ha hb ⊢
  refine C1.body (E := E2) (nt := 95) (res := [.tmp 2]) Tryz.func54 rfl rfl rfl rfl rfl fun tm hargs => ?_
  have h0 := hargs 0 _ rfl
  clear hargs
  have fin : ∀ (e : Bool) (A : AAct) (H3 : Hp), slot A.tm 2 = .one (.b e) → A.dfr = [] → Gr H H3 → e = refR lc lr 0 lr → ∃ w H4, callEnd E2 [.tmp 2] (.ret, A, H3) = .ok [(w, H4)] ∧ Gr H H4 ∧ ∀ _ : List Nat, w = .one (.b (refR lc lr 0 lr)) := fun e A H3 h1 h2 h3 h4 => ⟨_, H3, callEnd_one (.b e) (.inr rfl) h2 h1, h3, fun _ => by rw [h4]⟩
  generalize hr0 : refR lc lr 0 lr = r0 at fin
  have hA := ha
  have hB := hb
  refine qG (qA E2_P h0) fun K hK => ?_
  refine hK _ _ ?_
  clear hK K
  refine R1.gen (fun A1 H1 => Gr H H1 ∧ H.nx < H1.nx ∧ H1.get H.nx = some (.arr [a, b] 42 0 0) ∧ slot A1.tm 1 = .one ((.o (.ptr H.nx 0 0 2))) ∧ A1.nt = 95 ∧ A1.dfr = [])
    ⟨(Fr.refl _).new _, ?_⟩ ?_
  · exact qU
  rintro A1 H1 ⟨g1, m1, r1, t1, hnt, hdf⟩
  clear h0 tm
  obtain ⟨N, hN⟩ : ∃ N, N = H.nx := ⟨_, rfl⟩
  rw [← hN] at m1 r1 t1
  have ha := ha.gr g1
  have hb := hb.gr g1
  refine qW (qA E2_P (qA t1 (qA hnt (qA r1 (qA m1 (qA fd_puzzle_0 (qA ld_cells (qA ln_cells (qA ha.len ha.lt))))))))) ?_
  refine R1.s_block fun K k1 k2 k3 k4 => ?_
  refine R1.loop (fun m A H3 => ∃ i : Nat, m = lr.length - i ∧ i ≤ lr.length ∧ Gr H H3 ∧ N < H3.nx ∧ H3.get N = some (.arr [a, b] 42 0 0) ∧ refR lc lr i (lr.drop i) = r0 ∧
      slot A.tm 1 = .one ((.o (.ptr N 0 0 2))) ∧ slot A.tm 3 = .one (.i .i64 (lc.length : Int)) ∧ slot A.tm 4 = .one (.i .i64 (i : Int)) ∧ A.nt = 95 ∧ A.dfr = []) ?_ lr.length
    ⟨0, rfl, Nat.zero_le _, g1, m1, r1, hr0, ?_⟩
  · clear t1 hnt hdf A1 r1 m1
    rintro m A H3 ⟨i, rfl, hi, g3, m1, r1, hr, t1, t3, t4, hnt, hdf⟩
    have hb3 := hB.gr g3
    refine qW (qA E2_P (qA t1 (qA t4 (qA hnt (qA r1 (qA m1 (qA fd_puzzle_1 (qA ld_rules (qA ln_rules (qA hb3.len hb3.lt)))))))))) ?_
    refine qE fun Kx Ky hx hy => ?_
    refine iteI (fun hc => hx ?_) (fun hc => hy ?_)
    · clear hx hy Kx Ky
      have hlt : i < lr.length := by omega
      have ex : lr[i]? = some lr[i] := List.getElem?_eq_getElem hlt
      have hdr : lr.drop i = lr[i] :: lr.drop (i + 1) := List.drop_eq_getElem_cons hlt
      have htk : lr.take (i + 1) = lr.take i ++ [lr[i]] := List.take_succ_eq_append_getElem hlt
      have hmem : lr[i] ∈ lr := List.getElem_mem hlt
      generalize lr[i] = x at ex hdr htk hmem
      have hw2 : IntKind.i64.wrap ((i : Int) + 1) = ((i + 1 : Nat) : Int) := by rw [wrapI (by omega) (by omega)]; omega
      obtain ⟨id, g, off, cells, rfl, hid0, hgr0, hat⟩ := hB.open (by omega)
      have hid : id < H3.nx := Nat.lt_of_lt_of_le hid0 g3.nx
      have hgr : rowOf (H3.get id) g = some cells := by rw [g3.get _ hid0 not_false]; exact hgr0
      obtain ⟨u, hx1⟩ := hat i x ex
      have hu := hx1.of
      have hPx := hP x hmem
      rw [hdr, refR] at hr
      generalize hb1 : partsR lc lr x.1 [] x.2 = b1 at hr
      generalize hr1 : (if b1 = false then false else refR lc lr (i + 1) (lr.drop (i + 1))) = r1' at hr
      refine qV ?_
      refine R1.s_block fun K2 q1 q2 q3 q4 => ?_
      refine qG (qA E2_P (qA t1 (qA t4 (qA hnt (qA r1 (qA m1 (qA fd_puzzle_1 (qA ld_rules (qA el_rules (qA ld_rule (qA sz_rule (qA zr_rule (qA (ixC hlt) (qA hid (qA hgr (qA hx1.all hx1.le)))))))))))))))) fun K hK => ?_
      refine hK _ _ ?_
      clear hK K
      refine R1.gen (fun A4 H4 => Gr H3 H4 ∧ H3.nx < H4.nx ∧ H4.get H3.nx = some (.arr [.i .i64 x.1, u] 92 0 0) ∧ slot A4.tm 1 = .one ((.o (.ptr N 0 0 2))) ∧ slot A4.tm 3 = .one (.i .i64 (lc.length : Int)) ∧ slot A4.tm 4 = .one (.i .i64 (i : Int)) ∧ slot A4.tm 5 = .one ((.o (.ptr H3.nx 0 0 2))) ∧ A4.nt = 95 ∧ A4.dfr = [])
        ⟨((Fr.refl _).new _).mod _ (.inl (Nat.le_refl _)), ?_⟩ ?_
      · exact qZ (qA t1 (qA t3 (qA t4 (qA hnt hdf))))
      clear t1 t3 t4 hnt hdf A
      rintro A H4 ⟨g4, n4, rx, t1, t3, t4, t5, hnt, hdf⟩
      obtain ⟨M, hM⟩ : ∃ M, M = H3.nx := ⟨_, rfl⟩
      rw [← hM] at rx n4 t5
      have r1 := (g4.get _ m1 not_false).trans r1
      have m1 := Nat.lt_of_lt_of_le m1 g4.nx
      have hNM : N < M := by omega
      have g4 := g3.gr g4
      clear hgr hid hb3 hx1 hat hid0 hgr0
      repeat refine R1.s_assoc ?_
      (first | refine R1.s_rg fun K hK => ?_ | refine R1.e_rg fun K hK => ?_)
      have rest : ∀ (b : Bool) (A5 : AAct) (H5 : Hp), Gr H4 H5 → (b = false → 0 ≤ x.1 ∧ x.1 < lc.length) → (if b = true then false else r1') = r0 → slot A5.tm 1 = .one ((.o (.ptr N 0 0 2))) ∧ slot A5.tm 3 = .one (.i .i64 (lc.length : Int)) ∧ slot A5.tm 4 = .one (.i .i64 (i : Int)) ∧ slot A5.tm 5 = .one ((.o (.ptr M 0 0 2))) ∧ slot A5.tm 39 = .one (.b b) ∧ A5.nt = 95 ∧ A5.dfr = [] → K A5 H5 := by
        clear hr t1 t3 t4 t5 hnt hdf A
        rintro b A H5 g5 hxb hr ⟨t1, t3, t4, t5, t39, hnt, hdf⟩
        refine hK _ _ ?_
        clear hK K
        have r1 := (g5.get _ m1 not_false).trans r1
        have m1 := Nat.lt_of_lt_of_le m1 g5.nx
        have rx := (g5.get _ n4 not_false).trans rx
        have n4 := Nat.lt_of_lt_of_le n4 g5.nx
        have g5 := g4.gr g5
        cases b with
        | true =>
          rw [if_pos rfl] at hr
          refine qX t39 ?_
          refine qW hnt ?_
          exact q4 _ _ (k4 _ _ (fin (false) _ _ qp (qd hdf) (g5) (hr)))
        | false =>
        rw [if_neg Bool.false_ne_true] at hr
        obtain ⟨hx0, hxn⟩ := hxb rfl
        refine qX t39 ?_
        refine R1.s_skip ?_
        refine qW hnt ?_
        refine R1.e_block fun K p1 p2 p3 p4 => ?_
        refine R1.loop (fun m A H6 => ∃ j : Nat, m = x.2.length - j ∧ j ≤ x.2.length ∧ Gr H H6 ∧ M < H6.nx ∧ H6.get N = some (.arr [a, .o (.sl id g off lr.length 2)] 42 0 0) ∧ H6.get M = some (.arr [.i .i64 x.1, u] 92 0 0) ∧ partsR lc lr x.1 (x.2.take j) (x.2.drop j) = b1 ∧
          slot A.tm 1 = .one ((.o (.ptr N 0 0 2))) ∧ slot A.tm 3 = .one (.i .i64 (lc.length : Int)) ∧ slot A.tm 4 = .one (.i .i64 (i : Int)) ∧ slot A.tm 5 = .one ((.o (.ptr M 0 0 2))) ∧ slot A.tm 6 = .one (.i .i64 (j : Int)) ∧ A.nt = 95 ∧ A.dfr = []) ?_ x.2.length
          ⟨0, rfl, Nat.zero_le _, g5, n4, r1, rx, hb1, ?_⟩
        · clear t1 t3 t4 t5 t39 hnt hdf A r1 rx n4 g4 g5 hb1 m1
          rintro m A H6 ⟨j, rfl, hj, g6, n6, r1, rx, hb1, t1, t3, t4, t5, t6, hnt, hdf⟩
          have m1 : N < H6.nx := by omega
          have hu6 := hu.gr g6
          refine qW (qA E2_P (qA t5 (qA t6 (qA hnt (qA rx (qA n6 (qA fd_rule_1 (qA ld_ints (qA ln_ints (qA hu6.len hu6.lt)))))))))) ?_
          refine qE fun Kx Ky hx hy => ?_
          refine iteI (fun hc2 => hx ?_) (fun hc2 => hy ?_)
          · clear hx hy Kx Ky
            have hlj : j < x.2.length := by omega
            have hdj : x.2.drop j = x.2[j] :: x.2.drop (j + 1) := List.drop_eq_getElem_cons hlj
            have htj : x.2.take (j + 1) = x.2.take j ++ [x.2[j]] := List.take_succ_eq_append_getElem hlj
            have ej : x.2[j]? = some x.2[j] := List.getElem?_eq_getElem hlj
            generalize x.2[j] = m at hdj htj ej
            have hwj : IntKind.i64.wrap ((j : Int) + 1) = ((j + 1 : Nat) : Int) := by rw [wrapI (by omega) (by omega)]; omega
            have ha6 := hA.gr g6
            have hb6 := hB.gr g6
            obtain ⟨ui, ug, uo, uc, rfl, hui, hug, hut⟩ := hu6.open (by omega)
            have hm1 := hut j m ej
            rw [hdj, partsR] at hb1
            refine qV ?_
            refine R1.s_block fun K3 w1 w2 w3 w4 => ?_
            refine qG (qA E2_P (qA t5 (qA t6 (qA hnt (qA rx (qA n6 (qA fd_rule_1 (qA ld_ints (qA el_ints (qA ld_int (qA (ixC hlj) (qA hui (qA hug (qA hm1.1 hm1.2)))))))))))))) fun K hK => ?_
            refine hK _ _ ?_
            clear hK K
            refine R1.gen (fun A7 H7 => H7 = H6 ∧ slot A7.tm 1 = .one ((.o (.ptr N 0 0 2))) ∧ slot A7.tm 3 = .one (.i .i64 (lc.length : Int)) ∧ slot A7.tm 4 = .one (.i .i64 (i : Int)) ∧ slot A7.tm 5 = .one ((.o (.ptr M 0 0 2))) ∧ slot A7.tm 6 = .one (.i .i64 (j : Int)) ∧ slot A7.tm 7 = .one (.i .i64 (m : Int)) ∧ A7.nt = 95 ∧ A7.dfr = [])
              ⟨rfl, ?_⟩ ?_
            · repeat' (first | (simp only [slot_put, Nat.reduceEqDiff, reduceIte, putD_nt, putD_dfr, t1, t3, t4, t5, t6, hnt, hdf]; first | done | rfl) | refine ⟨?_, ?_⟩)
            clear t1 t3 t4 t5 t6 hnt hdf A
            rintro A H7 ⟨rfl, t1, t3, t4, t5, t6, t7, hnt, hdf⟩
            generalize hb2 : partsR lc lr x.1 (x.2.take j ++ [m]) (x.2.drop (j + 1)) = b2 at hb1
            repeat refine R1.s_assoc ?_
            (first | refine R1.s_sq (by kernel_rfl) fun K hK => ?_ | refine R1.e_sq (by kernel_rfl) fun K hK => ?_)
            have rest2 : ∀ (b : Bool) (A8 : AAct) (H8 : Hp), Gr H7 H8 → (if b = true then false else b2) = b1 → slot A8.tm 1 = .one ((.o (.ptr N 0 0 2))) ∧ slot A8.tm 3 = .one (.i .i64 (lc.length : Int)) ∧ slot A8.tm 4 = .one (.i .i64 (i : Int)) ∧ slot A8.tm 5 = .one ((.o (.ptr M 0 0 2))) ∧ slot A8.tm 6 = .one (.i .i64 (j : Int)) ∧ slot A8.tm 94 = .one (.b b) ∧ A8.nt = 95 ∧ A8.dfr = [] → K A8 H8 := by
              clear hb1 t1 t3 t4 t5 t6 t7 hnt hdf A
              rintro b A H8 g8 hb1 ⟨t1, t3, t4, t5, t6, t94, hnt, hdf⟩
              refine hK _ _ ?_
              clear hK K
              have r1 := (g8.get _ m1 not_false).trans r1
              have m1 := Nat.lt_of_lt_of_le m1 g8.nx
              have rx := (g8.get _ n6 not_false).trans rx
              have n6 := Nat.lt_of_lt_of_le n6 g8.nx
              have g8 := g6.gr g8
              cases b with
              | true =>
                rw [if_pos rfl] at hb1
                rw [← hb1, if_pos rfl] at hr1
                rw [← hr1] at hr
                refine qX t94 ?_
                refine qW hnt ?_
                exact w4 _ _ (p4 _ _ (q4 _ _ (k4 _ _ (fin (false) _ _ qp (qd hdf) (g8) (hr)))))
              | false =>
              rw [if_neg Bool.false_ne_true, ← hb2, ← htj] at hb1
              refine qX t94 ?_
              refine qW hnt ?_
              refine w1 _ _ ?_
              refine qW (qA hnt (qA t6 hwj)) ?_
              refine ⟨x.2.length - (j + 1), by omega, j + 1, rfl, hlj, g8, n6, r1, rx, hb1, ?_⟩
              repeat' (first | (simp only [slot_put, Nat.reduceEqDiff, reduceIte, putD_nt, putD_dfr, t1, t3, t4, t5, t6, hnt, hdf]; first | done | rfl) | refine ⟨?_, ?_⟩)
            clear hK
            by_cases c0 : m < 0
            · rw [if_pos c0] at hb1
              have c0 := eq_true c0
              refine qS (qA E2_P (qA t7 (qA hnt c0))) ?_
              refine rest2 true _ _ (Fr.refl _) hb1 ?_
              repeat' (first | (simp only [slot_put, Nat.reduceEqDiff, reduceIte, putD_nt, putD_dfr, t1, t3, t4, t5, t6, hnt, hdf]; first | done | rfl) | refine ⟨?_, ?_⟩)
            rw [if_neg c0] at hb1
            by_cases c1 : (lc.length : Int) ≤ m
            · rw [if_pos c1] at hb1
              have c0 := eq_false c0
              have c1 := eq_true c1
              refine qS (qA E2_P (qA t3 (qA t7 (qA hnt (qA c0 c1))))) ?_
              refine rest2 true _ _ (Fr.refl _) hb1 ?_
              repeat' (first | (simp only [slot_put, Nat.reduceEqDiff, reduceIte, putD_nt, putD_dfr, t1, t3, t4, t5, t6, hnt, hdf]; first | done | rfl) | refine ⟨?_, ?_⟩)
            rw [if_neg c1] at hb1
            have hm0 : 0 ≤ m := by omega
            have hmn : m < lc.length := by omega
            have c0 := eq_false c0
            have c1 := eq_false c1
            obtain ⟨ci, cg, co, cc, rfl, hci, hcg, hct⟩ := ha6.open (by omega)
            have em : lc[m.toNat]? = some lc[m.toNat] := List.getElem?_eq_getElem (by omega)
            have et : lc[x.1.toNat]? = some lc[x.1.toNat] := List.getElem?_eq_getElem (by omega)
            have lm : ladC lc m = lc[m.toNat].2.2.1 := by unfold ladC; rw [em]; rfl
            have lt : ladC lc x.1 = lc[x.1.toNat].2.2.1 := by unfold ladC; rw [et]; rfl
            rw [lm, lt] at hb1
            generalize lc[m.toNat] = ym at em hb1
            generalize lc[x.1.toNat] = yt at et hb1
            obtain ⟨_, _, hym⟩ := hct _ _ em
            obtain ⟨_, _, hyt⟩ := hct _ _ et
            have m2 : M < H7.nx := n6
            have last : (if 0 ≤ sumI 0 lr m then false else b2) = b1 → (if decide (0 ≤ sumI 0 lr m) = true then false else b2) = b1 := fun h => by
              by_cases h0 : 0 ≤ sumI 0 lr m
              · rw [if_pos h0] at h; rw [if_pos (decide_eq_true h0)]; exact h
              · rw [if_neg h0] at h; rw [if_neg (by rw [decide_eq_true_eq]; exact h0)]; exact h
            by_cases hj0 : j = 0
            · have cj : ((0 : Int) < (j : Int)) = False := eq_false (by omega)
              rw [hj0, List.take_zero, if_neg (by exact Bool.false_ne_true)] at hb1
              by_cases hne : ym.2.2.1 = yt.2.2.1
              · rw [if_neg (fun h => h hne)] at hb1
                have hle : lEq ym.2.2.1 yt.2.2.1 = true := by rw [lEq_eq, hne, beq_self_eq_true]
                refine qS (qA E2_P (qA t1 (qA t3 (qA t5 (qA t6 (qA t7 (qA hnt (qA c0 (qA c1 (qA cj (qA r1 (qA m1 (qA rx (qA m2 (qA fd_puzzle_0 (qA ld_cells (qA el_cells (qA fd_cell_2 (qA ld_str (qA fd_rule_0 (qA ld_int (qA (ixI hm0 hmn) (qA (ixI hx0 hxn) (qA hci (qA hcg (qA hym.f3 (qA hym.le3 (qA hyt.f3 (qA hyt.le3 (qA hle (qA ld_puzzle bd_rSumPz))))))))))))))))))))))))))))))) ?_
                refine WE.con (rSumPz_con H7 _ _ lr m hb6 ha6.lt hR) fun w H8 g8 hw => ?_
                subst hw
                refine qS (qA E2_P hnt) ?_
                refine rest2 (decide (0 ≤ sumI 0 lr m)) _ _ g8 (last hb1) ?_
                repeat' (first | (simp only [slot_put, Nat.reduceEqDiff, reduceIte, putD_nt, putD_dfr, t1, t3, t4, t5, t6, hnt, hdf]; first | done | rfl) | refine ⟨?_, ?_⟩)
              · rw [if_pos hne] at hb1
                have hle : lEq ym.2.2.1 yt.2.2.1 = false := by rw [lEq_eq]; exact beq_false_of_ne hne
                refine qS (qA E2_P (qA t1 (qA t3 (qA t5 (qA t6 (qA t7 (qA hnt (qA c0 (qA c1 (qA cj (qA r1 (qA m1 (qA rx (qA m2 (qA fd_puzzle_0 (qA ld_cells (qA el_cells (qA fd_cell_2 (qA ld_str (qA fd_rule_0 (qA ld_int (qA (ixI hm0 hmn) (qA (ixI hx0 hxn) (qA hci (qA hcg (qA hym.f3 (qA hym.le3 (qA hyt.f3 (qA hyt.le3 hle))))))))))))))))))))))))))))) ?_
                refine rest2 true _ _ (Fr.refl _) hb1 ?_
                repeat' (first | (simp only [slot_put, Nat.reduceEqDiff, reduceIte, putD_nt, putD_dfr, t1, t3, t4, t5, t6, hnt, hdf]; first | done | rfl) | refine ⟨?_, ?_⟩)
            · have cj : ((0 : Int) < (j : Int)) = True := eq_true (by omega)
              have hlt3 : j - 1 < x.2.length := by omega
              have ey : x.2[j - 1]? = some x.2[j - 1] := List.getElem?_eq_getElem hlt3
              have hpp := fun z => prevI_take (x := z) (by omega) ey
              generalize x.2[j - 1] = y at ey hpp
              have hy1 := hut (j - 1) y ey
              have hw3 : IntKind.i64.wrap ((j : Int) - 1) = ((j - 1 : Nat) : Int) := by rw [wrapI (by omega) (by omega)]; omega
              rw [hpp m] at hb1
              by_cases c2 : m ≤ y
              · rw [if_pos (decide_eq_true c2)] at hb1
                have c2 := eq_true c2
                refine qS (qA E2_P (qA t3 (qA t5 (qA t6 (qA t7 (qA hnt (qA c0 (qA c1 (qA cj (qA c2 (qA hw3 (qA rx (qA m2 (qA fd_rule_1 (qA ld_ints (qA el_ints (qA ld_int (qA (ixC hlt3) (qA hui (qA hug (qA hy1.1 hy1.2))))))))))))))))))))) ?_
                refine rest2 true _ _ (Fr.refl _) hb1 ?_
                repeat' (first | (simp only [slot_put, Nat.reduceEqDiff, reduceIte, putD_nt, putD_dfr, t1, t3, t4, t5, t6, hnt, hdf]; first | done | rfl) | refine ⟨?_, ?_⟩)
              · rw [if_neg (by rw [decide_eq_true_eq]; exact c2)] at hb1
                have c2 := eq_false c2
                by_cases hne : ym.2.2.1 = yt.2.2.1
                · rw [if_neg (fun h => h hne)] at hb1
                  have hle : lEq ym.2.2.1 yt.2.2.1 = true := by rw [lEq_eq, hne, beq_self_eq_true]
                  refine qS (qA E2_P (qA t1 (qA t3 (qA t5 (qA t6 (qA t7 (qA hnt (qA c0 (qA c1 (qA cj (qA c2 (qA hw3 (qA r1 (qA m1 (qA rx (qA m2 (qA fd_puzzle_0 (qA ld_cells (qA el_cells (qA fd_cell_2 (qA ld_str (qA fd_rule_0 (qA fd_rule_1 (qA ld_ints (qA el_ints (qA ld_int (qA (ixC hlt3) (qA hui (qA hug (qA hy1.1 (qA hy1.2 (qA (ixI hm0 hmn) (qA (ixI hx0 hxn) (qA hci (qA hcg (qA hym.f3 (qA hym.le3 (qA hyt.f3 (qA hyt.le3 (qA hle (qA ld_puzzle bd_rSumPz))))))))))))))))))))))))))))))))))))))))) ?_
                  refine WE.con (rSumPz_con H7 _ _ lr m hb6 ha6.lt hR) fun w H8 g8 hw => ?_
                  subst hw
                  refine qS (qA E2_P hnt) ?_
                  refine rest2 (decide (0 ≤ sumI 0 lr m)) _ _ g8 (last hb1) ?_
                  repeat' (first | (simp only [slot_put, Nat.reduceEqDiff, reduceIte, putD_nt, putD_dfr, t1, t3, t4, t5, t6, hnt, hdf]; first | done | rfl) | refine ⟨?_, ?_⟩)
                · rw [if_pos hne] at hb1
                  have hle : lEq ym.2.2.1 yt.2.2.1 = false := by rw [lEq_eq]; exact beq_false_of_ne hne
                  refine qS (qA E2_P (qA t1 (qA t3 (qA t5 (qA t6 (qA t7 (qA hnt (qA c0 (qA c1 (qA cj (qA c2 (qA hw3 (qA r1 (qA m1 (qA rx (qA m2 (qA fd_puzzle_0 (qA ld_cells (qA el_cells (qA fd_cell_2 (qA ld_str (qA fd_rule_0 (qA fd_rule_1 (qA ld_ints (qA el_ints (qA ld_int (qA (ixC hlt3) (qA hui (qA hug (qA hy1.1 (qA hy1.2 (qA (ixI hm0 hmn) (qA (ixI hx0 hxn) (qA hci (qA hcg (qA hym.f3 (qA hym.le3 (qA hyt.f3 (qA hyt.le3 hle))))))))))))))))))))))))))))))))))))))) ?_
                  refine rest2 true _ _ (Fr.refl _) hb1 ?_
                  repeat' (first | (simp only [slot_put, Nat.reduceEqDiff, reduceIte, putD_nt, putD_dfr, t1, t3, t4, t5, t6, hnt, hdf]; first | done | rfl) | refine ⟨?_, ?_⟩)
          · clear hx hy Kx Ky
            have hje : j = x.2.length := by omega
            rw [hje, List.drop_length, partsR] at hb1
            rw [← hb1, if_neg (by decide)] at hr1
            rw [← hr1] at hr
            refine qW hnt ?_
            refine p2 _ _ (q1 _ _ ?_)
            refine qW (qA hnt (qA t4 hw2)) ?_
            refine ⟨lr.length - (i + 1), by omega, i + 1, rfl, hlt, g6, m1, r1, hr, ?_⟩
            repeat' (first | (simp only [slot_put, Nat.reduceEqDiff, reduceIte, putD_nt, putD_dfr, t1, t3, t4, hnt, hdf]; first | done | rfl) | refine ⟨?_, ?_⟩)
        · repeat' (first | (simp only [slot_put, Nat.reduceEqDiff, reduceIte, putD_nt, putD_dfr, t1, t3, t4, t5, hnt, hdf]; first | done | rfl) | refine ⟨?_, ?_⟩)
      clear hK
      by_cases c0 : x.1 < 0
      · rw [if_pos c0] at hr
        have c0 := eq_true c0
        refine qS (qA E2_P (qA t5 (qA hnt (qA rx (qA n4 (qA fd_rule_0 (qA ld_int c0))))))) ?_
        refine rest true _ _ (Fr.refl _) (fun h => by cases h) hr ?_
        repeat' (first | (simp only [slot_put, Nat.reduceEqDiff, reduceIte, putD_nt, putD_dfr, t1, t3, t4, t5, hnt, hdf]; first | done | rfl) | refine ⟨?_, ?_⟩)
      rw [if_neg c0] at hr
      by_cases c1 : (lc.length : Int) ≤ x.1
      · rw [if_pos c1] at hr
        have c0 := eq_false c0
        have c1 := eq_true c1
        refine qS (qA E2_P (qA t3 (qA t5 (qA hnt (qA rx (qA n4 (qA fd_rule_0 (qA ld_int (qA c0 c1))))))))) ?_
        refine rest true _ _ (Fr.refl _) (fun h => by cases h) hr ?_
        repeat' (first | (simp only [slot_put, Nat.reduceEqDiff, reduceIte, putD_nt, putD_dfr, t1, t3, t4, t5, hnt, hdf]; first | done | rfl) | refine ⟨?_, ?_⟩)
      rw [if_neg c1] at hr
      have hx0 : 0 ≤ x.1 := by omega
      have hxn : x.1 < lc.length := by omega
      have c0 := eq_false c0
      have c1 := eq_false c1
      refine qS (qA E2_P (qA t1 (qA t3 (qA t4 (qA t5 (qA hnt (qA rx (qA n4 (qA r1 (qA m1 (qA fd_rule_0 (qA ld_int (qA c0 (qA c1 (qA ld_puzzle bd_rSumPz))))))))))))))) ?_
      refine WE.con (rSumPz_con H4 _ _ lr x.1 (hB.gr g4) (hA.gr g4).lt hR) fun w H8 g8 hw => ?_
      subst hw
      refine qS (qA E2_P (qA t4 hnt)) ?_
      refine rest (!(sumI 0 lr x.1 == (i : Int))) _ _ g8 (fun _ => ⟨hx0, hxn⟩) ?_ ?_
      · by_cases he : sumI 0 lr x.1 = (i : Int)
        · rw [if_neg (fun h => h he)] at hr; rw [he, beq_self_eq_true]; exact hr
        · rw [if_pos he] at hr; rw [beq_false_of_ne he]; exact hr
      · repeat' (first | (simp only [slot_put, Nat.reduceEqDiff, reduceIte, putD_nt, putD_dfr, t1, t3, t4, t5, hnt, hdf]; first | done | rfl) | refine ⟨?_, ?_⟩)
    · clear hx hy Kx Ky
      have hie : i = lr.length := by omega
      rw [hie, List.drop_length, refR] at hr
      refine qW hnt ?_
      refine k2 _ _ ?_
      refine qW hnt ?_
      exact fin (true) _ _ qp (qd hdf) (g3) (hr)
  · repeat' (first | (simp only [slot_put, Nat.reduceEqDiff, reduceIte, putD_nt, putD_dfr, t1, hnt, hdf]; first | done | rfl) | refine ⟨?_, ?_⟩)
end Go.Proofs.YtiejeicaaojdlaaGreat
namespace Go.Proofs.YtiejeicaaojdlaaGreat
open Go Go.Eng
def isT (l : List Rl) (t : Int) : Bool := l.any fun x => x.1 == t
theorem sumI_no : ∀ (n : Nat) (l : List Rl) (t : Int), isT l t = false → sumI n l t = -1
  | _, [], _, _ => rfl
  | n, x :: l, t, h => by
    unfold isT at h
    rw [List.any_cons, Bool.or_eq_false_iff] at h
    unfold sumI
    rw [if_neg (ne_of_beq_false h.1)]
    exact sumI_no (n + 1) l t h.2
theorem sumI_yes : ∀ (n : Nat) (l : List Rl) (t : Int), isT l t = true → (n : Int) ≤ sumI n l t ∧ sumI n l t < (n : Int) + l.length
  | _, [], _, h => by cases h
  | n, x :: l, t, h => by
    unfold sumI
    by_cases e : x.1 = t
    · rw [if_pos e, List.length_cons]; omega
    · rw [if_neg e]
      have h2 : isT l t = true := by
        unfold isT at h ⊢
        rw [List.any_cons, beq_false_of_ne e, Bool.false_or] at h
        exact h
      have := sumI_yes (n + 1) l t h2
      rw [List.length_cons]; omega
theorem sumI_app : ∀ (n : Nat) (acc l : List Rl) (t : Int), sumI n (acc ++ l) t = if isT acc t = true then sumI n acc t else sumI (n + acc.length) l t
  | _, [], _, t => by rw [if_neg (show ¬ (isT [] t = true) from Bool.false_ne_true)]; rfl
  | n, x :: acc, l, t => by
    rw [List.cons_append]
    unfold sumI
    by_cases e : x.1 = t
    · rw [if_pos e, if_pos (by unfold isT; rw [List.any_cons, e, beq_self_eq_true]; rfl), if_pos e]
    · have h2 : isT (x :: acc) t = isT acc t := by unfold isT; rw [List.any_cons, beq_false_of_ne e, Bool.false_or]
      rw [if_neg e, if_neg e, h2, sumI_app (n + 1) acc l t, List.length_cons]
      have : n + 1 + acc.length = n + (acc.length + 1) := by omega
      rw [this]
      cases l <;> rfl
theorem sumI_pos (l : List Rl) (t : Int) : decide (0 ≤ sumI 0 l t) = isT l t := by
  cases h : isT l t with
  | true => exact decide_eq_true (by have := (sumI_yes 0 l t h).1; omega)
  | false => rw [sumI_no 0 l t h]; rfl
theorem partsR_eq (lc : List Cl) (lr : List Rl) (t : Int) : ∀ (l acc : List Int), partsR lc lr t acc l = (partsB lc t acc l && l.all fun m => !isT lr m)
  | [], _ => rfl
  | m :: l, acc => by
    rw [partsR, partsB, List.all_cons]
    by_cases c0 : m < 0
    · rw [if_pos c0, if_pos c0]; rfl
    rw [if_neg c0, if_neg c0]
    by_cases c1 : (lc.length : Int) ≤ m
    · rw [if_pos c1, if_pos c1]; rfl
    rw [if_neg c1, if_neg c1]
    by_cases c2 : prevI acc m = true
    · rw [if_pos c2, if_pos c2]; rfl
    rw [if_neg c2, if_neg c2]
    by_cases c3 : ladC lc m ≠ ladC lc t
    · rw [if_pos c3, if_pos c3]; rfl
    rw [if_neg c3, if_neg c3, ← sumI_pos]
    by_cases c4 : 0 ≤ sumI 0 lr m
    · rw [if_pos c4, decide_eq_true c4]
      cases partsB lc t (acc ++ [m]) l <;> rfl
    · rw [if_neg c4, decide_eq_false c4, partsR_eq lc lr t l]
      rfl
theorem partsB_range (lc : List Cl) (t : Int) : ∀ (l acc : List Int), partsB lc t acc l = true → ∀ m ∈ l, 0 ≤ m ∧ m < lc.length
  | [], _, _, _, h => by cases h
  | m :: l, acc, h, k, hk => by
    rw [partsB] at h
    by_cases c0 : m < 0
    · rw [if_pos c0] at h; cases h
    rw [if_neg c0] at h
    by_cases c1 : (lc.length : Int) ≤ m
    · rw [if_pos c1] at h; cases h
    rw [if_neg c1] at h
    by_cases c2 : prevI acc m = true
    · rw [if_pos c2] at h; cases h
    rw [if_neg c2] at h
    by_cases c3 : ladC lc m ≠ ladC lc t
    · rw [if_pos c3] at h; cases h
    rw [if_neg c3] at h
    rcases List.mem_cons.1 hk with rfl | hk
    · omega
    · exact partsB_range lc t l _ h k hk
theorem goR_eq (lc : List Cl) (lr : List Rl) : ∀ (rest acc : List Rl) (S : List Int), lr = acc ++ rest → (∀ m ∈ S, 0 ≤ m ∧ m < (lc.length : Int)) →
    goR lc (acc.map (·.1)) S rest = (refR lc lr acc.length rest && S.all fun m => !isT lr m)
  | [], acc, S, he, hS => by
    rw [List.append_nil] at he
    subst he
    rw [goR, refR, Bool.true_and]
    have hT : ∀ t : Int, ((lr.map (·.1)).any fun x => x == t) = isT lr t := fun t => by unfold isT; rw [List.any_map]; rfl
    cases hr : S.all fun m => !isT lr m with
    | true =>
      rw [List.all_eq_true] at hr ⊢
      intro j _
      rw [hT]
      cases hs : S.any fun x => x == (j : Int) with
      | false => rw [Bool.and_false]; rfl
      | true =>
        obtain ⟨m, hm, e⟩ := List.any_eq_true.1 hs
        rw [eq_of_beq e] at hm
        have := hr _ hm
        rw [Bool.and_true]; exact this
    | false =>
      rw [List.all_eq_false] at hr ⊢
      obtain ⟨m, hm, h⟩ := hr
      obtain ⟨h0, h1⟩ := hS m hm
      have e : ((m.toNat : Nat) : Int) = m := by omega
      refine ⟨m.toNat, List.mem_range.2 (by omega), ?_⟩
      rw [hT, e]
      have h2 : (S.any fun x => x == m) = true := List.any_eq_true.2 ⟨m, hm, beq_self_eq_true _⟩
      rw [h2, Bool.and_true]; exact h
  | x :: rest, acc, S, he, hS => by
    rw [goR, refR]
    by_cases c0 : x.1 < 0
    · rw [if_pos c0, if_pos c0]; rfl
    rw [if_neg c0, if_neg c0]
    by_cases c1 : (lc.length : Int) ≤ x.1
    · rw [if_pos c1, if_pos c1]; rfl
    rw [if_neg c1, if_neg c1]
    have hT : ((acc.map (·.1)).any fun y => y == x.1) = isT acc x.1 := by unfold isT; rw [List.any_map]; rfl
    rw [hT]
    have hs : sumI 0 lr x.1 = if isT acc x.1 = true then sumI 0 acc x.1 else (acc.length : Int) := by
      rw [he, sumI_app]
      cases isT acc x.1 with
      | true => rfl
      | false =>
        rw [if_neg Bool.false_ne_true, if_neg Bool.false_ne_true, sumI, if_pos rfl, Nat.zero_add]
    cases ht : isT acc x.1 with
    | true =>
      rw [ht, if_pos rfl] at hs
      have := sumI_yes 0 acc x.1 ht
      rw [if_pos rfl, if_pos (by omega)]; rfl
    | false =>
      rw [ht, if_neg Bool.false_ne_true] at hs
      rw [if_neg Bool.false_ne_true, if_neg (show ¬ (sumI 0 lr x.1 ≠ (acc.length : Int)) from fun h => h hs), partsR_eq]
      cases hp : partsB lc x.1 [] x.2 with
      | false => rfl
      | true =>
        have hr := partsB_range lc x.1 x.2 [] hp
        have ih := goR_eq lc lr rest (acc ++ [x]) (S ++ x.2) (by rw [he, List.append_assoc]; rfl) fun m hm => by
          rcases List.mem_append.1 hm with h | h
          · exact hS m h
          · exact hr m h
        rw [List.map_append, List.length_append, List.all_append] at ih
        rw [if_neg (by decide : ¬ (true = false)), Bool.true_and]
        refine ih.trans ?_
        show (refR lc lr (acc.length + 1) rest && _) = _
        cases x.2.all fun m => !isT lr m with
        | true => rw [if_neg (by decide : ¬ (true = false)), Bool.and_true]
        | false => rw [if_pos rfl, Bool.and_false, Bool.and_false]; rfl
theorem rules_alike (lc : List Cl) (lr : List Rl) : refR lc lr 0 lr = goR lc [] [] lr := by
  have := goR_eq lc lr lr [] [] rfl fun m hm => by cases hm
  rw [List.map_nil] at this
  rw [this]
  exact (Bool.and_true _).symm
end Go.Proofs.YtiejeicaaojdlaaGreat
namespace Go.Proofs.YtiejeicaaojdlaaGreat
open Go Go.Eng
theorem bd_checkPz : hasBody Tryz.prog 15 = true := by kernel_rfl
theorem bd_rCheckPz : hasBody Tryz.prog 16 = true := by kernel_rfl
noncomputable def chkPz : Option (List Lad) → Pz → Int
  | none, _ => 1
  | some ls, p => if (64 : Int) < p.1.length then 3 else if (64 : Int) < p.2.length then 3 else if goC (some ls) [] p.1 ≠ 0 then goC (some ls) [] p.1 else if goR p.1 [] [] p.2 = false then 53 else 0
set_option maxRecDepth 10000 in
set_option maxHeartbeats 8000000 in
theorem checkPz_con (H : Hp) (k a b : AC) (o : Option (List Lad)) (p : Pz) (hk : BookO H k o) (hL : ∀ ls, o = some ls → ∀ x ∈ ls, x.2.length ≤ 1000000) (ha : SlCl H a p.1) (hb : SlRl H b p.2) (hB : PzB p) :
    Con E2 15 [.one k, .agg [a, b]] H (fun _ => False) fun r _ => r = .one (.i .i64 (chkPz o p)) := by
  refine Con.of rfl fun lg => ?_
  have hk : BookO ⟨H.t, H.nx, lg⟩ k o := BookO.same (H := H) rfl rfl hk
  have ha : SlCl ⟨H.t, H.nx, lg⟩ a p.1 := ha
  have hb : SlRl ⟨H.t, H.nx, lg⟩ b p.2 := hb
  generalize (⟨H.t, H.nx, lg⟩ : Hp) = H at hk ha hb ⊢
  refine C1.body (E := E2) (nt := 28) (res := [.tmp 4]) Tryz.func15 rfl rfl rfl rfl rfl fun tm hargs => ?_
  have h0 := hargs 0 _ rfl
  have h1 := hargs 1 _ rfl
  clear hargs
  have fin : ∀ (e : Int) (A : AAct) (H3 : Hp), slot A.tm 4 = .one (.i .i64 e) → A.dfr = [] → Gr H H3 → e = chkPz o p → ∃ w H4, callEnd E2 [.tmp 4] (.ret, A, H3) = .ok [(w, H4)] ∧ Gr H H4 ∧ ∀ _ : List Nat, w = .one (.i .i64 (chkPz o p)) := fun e A H3 h1 h2 h3 h4 => ⟨_, H3, callEnd_one (.i .i64 e) (.inr rfl) h2 h1, h3, fun _ => by rw [h4]⟩
  generalize hr0 : chkPz o p = r0 at fin
  obtain ⟨lc, lr⟩ := p
  have hP : ∀ x ∈ lr, x.2.length ≤ 4611686018427387904 := fun x hx => by have := hB.p x hx; omega
  simp only at ha hb
  refine qG (qA E2_P (qA h0 h1)) fun K hK => ?_
  refine hK _ _ ?_
  clear hK K
  refine R1.gen (fun A1 H1 => Gr H H1 ∧ H.nx < H1.nx ∧ H1.get H.nx = some (.arr [a, b] 42 0 0) ∧ slot A1.tm 0 = .one (k) ∧ slot A1.tm 3 = .one ((.o (.ptr H.nx 0 0 2))) ∧ A1.nt = 28 ∧ A1.dfr = [])
    ⟨(Fr.refl _).new _, ?_⟩ ?_
  · exact qZ h0
  rintro A1 H1 ⟨g1, m1, r1, t0, t3, hnt, hdf⟩
  clear h0 h1 tm
  have hk := hk.gr g1
  have ha := ha.gr g1
  have hb := hb.gr g1
  refine qG (qA E2_P (qA t0 (qA hnt bd_absent))) fun K hK => ?_
  refine WE.con (absent_con H1 k o hk hL) fun w H2 g2 hw => ?_
  subst hw
  have r1 := (g2.get _ m1 not_false).trans r1
  have m1 := Nat.lt_of_lt_of_le m1 g2.nx
  have hk := hk.gr g2
  have ha := ha.gr g2
  have hb := hb.gr g2
  have g2 := g1.gr g2
  clear g1
  refine qS (qA E2_P hnt) ?_
  refine hK _ _ ?_
  clear hK K
  cases o with
  | none =>
    repeat refine R1.s_assoc ?_
    (first | refine R1.s_cnd fun Kx Ky hx hy => ?_ | refine R1.e_cnd fun Kx Ky hx hy => ?_); simp only [qB, Option.isNone]
    refine hx ?_
    clear hx hy Kx Ky
    refine qW hnt ?_
    exact fin (1) _ _ qp (qd hdf) (g2) (hr0)
  | some ls =>
  repeat refine R1.s_assoc ?_
  (first | refine R1.s_cnd fun Kx Ky hx hy => ?_ | refine R1.e_cnd fun Kx Ky hx hy => ?_); simp only [qB, Option.isNone]
  refine hy ?_
  clear hx hy Kx Ky
  refine R1.s_skip ?_
  rw [chkPz] at hr0
  simp only at hr0
  by_cases c1 : (64 : Int) < lc.length
  · rw [if_pos c1] at hr0
    have c1 := eq_true c1
    refine qG (qA E2_P (qA t3 (qA hnt (qA r1 (qA m1 (qA fd_puzzle_0 (qA ld_cells (qA ln_cells (qA ha.len (qA ha.lt c1)))))))))) fun K hK => ?_
    refine hK _ _ ?_
    clear hK K
    refine qY ?_
    refine qW hnt ?_
    exact fin (3) _ _ qp (qd hdf) (g2) (hr0)
  rw [if_neg c1] at hr0
  by_cases c2 : (64 : Int) < lr.length
  · rw [if_pos c2] at hr0
    have c1 := eq_false c1
    have c2 := eq_true c2
    refine qG (qA E2_P (qA t3 (qA hnt (qA r1 (qA m1 (qA fd_puzzle_0 (qA fd_puzzle_1 (qA ld_cells (qA ld_rules (qA ln_cells (qA ln_rules (qA ha.len (qA ha.lt (qA hb.len (qA hb.lt (qA c1 c2)))))))))))))))) fun K hK => ?_
    refine hK _ _ ?_
    clear hK K
    refine qY ?_
    refine qW hnt ?_
    exact fin (3) _ _ qp (qd hdf) (g2) (hr0)
  rw [if_neg c2] at hr0
  have hC : lc.length ≤ 1000000 := by omega
  have hR : lr.length ≤ 1000000 := by omega
  have c1 := eq_false c1
  have c2 := eq_false c2
  refine qG (qA E2_P (qA t3 (qA hnt (qA r1 (qA m1 (qA fd_puzzle_0 (qA fd_puzzle_1 (qA ld_cells (qA ld_rules (qA ln_cells (qA ln_rules (qA ha.len (qA ha.lt (qA hb.len (qA hb.lt (qA c1 c2)))))))))))))))) fun K hK => ?_
  refine hK _ _ ?_
  clear hK K
  refine qY ?_
  refine R1.s_skip ?_
  refine qG (qA E2_P (qA t0 (qA t3 (qA hnt (qA r1 (qA m1 (qA fd_puzzle_0 (qA ld_cells bd_checkCells)))))))) fun K hK => ?_
  refine WE.con (checkCells_con H2 k a (some ls) lc hk hL ha hC) fun w H3 g3 hw => ?_
  subst hw
  have r1 := (g3.get _ m1 not_false).trans r1
  have m1 := Nat.lt_of_lt_of_le m1 g3.nx
  have ha := ha.gr g3
  have hb := hb.gr g3
  have g3 := g2.gr g3
  refine qS (qA E2_P hnt) ?_
  refine hK _ _ ?_
  clear hK K
  generalize goC (some ls) [] lc = e0 at hr0 ⊢
  by_cases he0 : e0 = 0
  case neg =>
    have ce : (e0 == 0) = false := beq_false_of_ne he0
    rw [if_pos he0] at hr0
    refine qW (qA E2_P (qA hnt ce)) ?_
    refine qY ?_
    refine qW hnt ?_
    exact fin (e0) _ _ qp (qd hdf) (g3) (hr0)
  rw [if_neg (fun h => h he0)] at hr0
  have ce : (e0 == 0) = true := by rw [he0]; rfl
  refine qW (qA E2_P (qA hnt ce)) ?_
  refine qY ?_
  refine R1.s_skip ?_
  refine qG (qA E2_P (qA t3 (qA hnt (qA r1 (qA m1 (qA ld_puzzle bd_checkRules)))))) fun K hK => ?_
  refine WE.con (checkRules_con H3 a b lc lr ha hb hC hR hP) fun w H4 g4 hw => ?_
  subst hw
  have g4 := g3.gr g4
  refine qS (qA E2_P hnt) ?_
  refine hK _ _ ?_
  clear hK K
  cases hg : goR lc [] [] lr with
  | false =>
    rw [hg, if_pos rfl] at hr0
    refine qY ?_
    refine qW hnt ?_
    exact fin (53) _ _ qp (qd hdf) (g4) (hr0)
  | true =>
    rw [hg, if_neg (by decide : ¬ (true = false))] at hr0
    refine qY ?_
    refine qW hnt ?_
    exact fin (0) _ _ qp (qd hdf) (g4) (hr0)
set_option maxRecDepth 10000 in
set_option maxHeartbeats 16000000 in
theorem rCheckPz_con (H : Hp) (k a b : AC) (o : Option (List Lad)) (p : Pz) (hk : RBkO H k o) (hL : ∀ ls, o = some ls → (∀ x ∈ ls, x.2.length ≤ 1000000) ∧ ls.length ≤ 1000000) (ha : SlCl H a p.1) (hb : SlRl H b p.2) (hB : PzB p) :
    Con E2 16 [.one k, .agg [a, b]] H (fun _ => False) fun r _ => r = .one (.i .i64 (chkPz o p)) := by
  refine Con.of rfl fun lg => ?_
  have hk : RBkO ⟨H.t, H.nx, lg⟩ k o := RBkO.same (H := H) rfl rfl hk
  have ha : SlCl ⟨H.t, H.nx, lg⟩ a p.1 := ha
  have hb : SlRl ⟨H.t, H.nx, lg⟩ b p.2 := hb
  generalize (⟨H.t, H.nx, lg⟩ : Hp) = H at hk ha hb ⊢
  refine C1.body (E := E2) (nt := 82) (res := [.tmp 4]) Tryz.func16 rfl rfl rfl rfl rfl fun tm hargs => ?_
  have h0 := hargs 0 _ rfl
  have h1 := hargs 1 _ rfl
  clear hargs
  have fin : ∀ (e : Int) (A : AAct) (H3 : Hp), slot A.tm 4 = .one (.i .i64 e) → A.dfr = [] → Gr H H3 → e = chkPz o p → ∃ w H4, callEnd E2 [.tmp 4] (.ret, A, H3) = .ok [(w, H4)] ∧ Gr H H4 ∧ ∀ _ : List Nat, w = .one (.i .i64 (chkPz o p)) := fun e A H3 h1 h2 h3 h4 => ⟨_, H3, callEnd_one (.i .i64 e) (.inr rfl) h2 h1, h3, fun _ => by rw [h4]⟩
  generalize hr0 : chkPz o p = r0 at fin
  obtain ⟨l, lr⟩ := p
  have hP : ∀ x ∈ lr, x.2.length ≤ 4611686018427387904 := fun x hx => by have := hB.p x hx; omega
  simp only at ha hb
  refine qG (qA E2_P (qA h0 h1)) fun K hK => ?_
  refine hK _ _ ?_
  clear hK K
  refine R1.gen (fun A1 H1 => Gr H H1 ∧ H.nx < H1.nx ∧ H1.get H.nx = some (.arr [a, b] 42 0 0) ∧ slot A1.tm 0 = .one (k) ∧ slot A1.tm 3 = .one ((.o (.ptr H.nx 0 0 2))) ∧ A1.nt = 82 ∧ A1.dfr = [])
    ⟨(Fr.refl _).new _, ?_⟩ ?_
  · exact qZ h0
  rintro A1 H1 ⟨g1, m1, r1, t0, t3, hnt, hdf⟩
  clear h0 h1 tm
  have hk := hk.gr g1
  have ha := ha.gr g1
  have hb := hb.gr g1
  cases o with
  | none =>
    have hk' : k = .o .nilP := hk
    subst hk'
    repeat refine R1.s_assoc ?_
    refine R1.s_rg fun K hK => ?_
    simp only [qB, slotOk, Nat.reduceLT, E2_P, t0, hnt, ad_prbook, eql_nilP, plain_nilP un_prbook, nilP2_n]
    refine hK _ _ ?_
    clear hK K
    refine qY ?_
    refine qW hnt ?_
    exact fin (1) _ _ qp (qd hdf) (g1) (hr0)
  | some ls =>
  have hk' : RBk H1 k ls := hk
  obtain ⟨kb, _, rfl, _⟩ := hk'
  repeat refine R1.s_assoc ?_
  refine R1.s_rg fun K hK => ?_
  simp only [qB, slotOk, Nat.reduceLT, E2_P, t0, hnt, ad_prbook, eql_ptr_nil]
  refine hK _ _ ?_
  clear hK K
  refine qY ?_
  refine R1.s_skip ?_
  rw [chkPz] at hr0
  simp only at hr0
  by_cases c1 : (64 : Int) < l.length
  · rw [if_pos c1] at hr0
    have c1 := eq_true c1
    refine qG (qA E2_P (qA t3 (qA hnt (qA r1 (qA m1 (qA fd_puzzle_0 (qA ld_cells (qA ln_cells (qA ha.len (qA ha.lt c1)))))))))) fun K hK => ?_
    refine hK _ _ ?_
    clear hK K
    refine qY ?_
    refine qW hnt ?_
    exact fin (3) _ _ qp (qd hdf) (g1) (hr0)
  rw [if_neg c1] at hr0
  by_cases c2 : (64 : Int) < lr.length
  · rw [if_pos c2] at hr0
    have c1 := eq_false c1
    have c2 := eq_true c2
    refine qG (qA E2_P (qA t3 (qA hnt (qA r1 (qA m1 (qA fd_puzzle_0 (qA fd_puzzle_1 (qA ld_cells (qA ld_rules (qA ln_cells (qA ln_rules (qA ha.len (qA ha.lt (qA hb.len (qA hb.lt (qA c1 c2)))))))))))))))) fun K hK => ?_
    refine hK _ _ ?_
    clear hK K
    refine qY ?_
    refine qW hnt ?_
    exact fin (3) _ _ qp (qd hdf) (g1) (hr0)
  rw [if_neg c2] at hr0
  have hC : l.length ≤ 1000000 := by omega
  have hR : lr.length ≤ 1000000 := by omega
  have c1 := eq_false c1
  have c2 := eq_false c2
  refine qG (qA E2_P (qA t3 (qA hnt (qA r1 (qA m1 (qA fd_puzzle_0 (qA fd_puzzle_1 (qA ld_cells (qA ld_rules (qA ln_cells (qA ln_rules (qA ha.len (qA ha.lt (qA hb.len (qA hb.lt (qA c1 c2)))))))))))))))) fun K hK => ?_
  refine hK _ _ ?_
  clear hK K
  refine qY ?_
  generalize hR1 : goR l [] [] lr = rb at hr0
  generalize hc0 : goC (some ls) [] l = e0 at hr0
  obtain ⟨N, hN⟩ : ∃ N, N = H.nx := ⟨_, rfl⟩
  rw [← hN] at m1 r1 t3
  clear hN
  refine qW hnt ?_
  refine R1.s_block fun K k1 k2 k3 k4 => ?_
  refine R1.loop (fun m A H2 => ∃ i : Nat, m = l.length - i ∧ i ≤ l.length ∧ Gr H1 H2 ∧ goC (some ls) (l.take i) (l.drop i) = e0 ∧ slot A.tm 0 = .one ((.o (.ptr kb 0 0 2))) ∧ slot A.tm 3 = .one ((.o (.ptr N 0 0 2))) ∧ slot A.tm 5 = .one (.i .i64 (i : Int)) ∧ A.nt = 82 ∧ A.dfr = []) ?_ l.length ⟨0, rfl, Nat.zero_le _, Fr.refl _, hc0, ?_⟩
  · clear t0 t3 hnt hdf A1
    rintro m A H2 ⟨i, rfl, hi, g2, hr, t0, t3, t5, hnt, hdf⟩
    have hv2 := ha.gr g2
    have hk2 := hk.gr g2
    have r1 := (g2.get _ m1 not_false).trans r1
    have m1 := Nat.lt_of_lt_of_le m1 g2.nx
    have g02 := g1.gr g2
    refine qW (qA E2_P (qA t3 (qA t5 (qA hnt (qA r1 (qA m1 (qA fd_puzzle_0 (qA ld_cells (qA ln_cells (qA hv2.len hv2.lt)))))))))) ?_
    refine qE fun Kx Ky hx hy => ?_
    refine iteI (fun hc => hx ?_) (fun hc => hy ?_)
    · clear hx hy Kx Ky
      have hlt : i < l.length := by omega
      have ex : l[i]? = some l[i] := List.getElem?_eq_getElem hlt
      have hdr : l.drop i = l[i] :: l.drop (i + 1) := List.drop_eq_getElem_cons hlt
      have htk : l.take (i + 1) = l.take i ++ [l[i]] := List.take_succ_eq_append_getElem hlt
      have hmem : l[i] ∈ l := List.getElem_mem hlt
      generalize l[i] = x at ex hdr htk hmem
      have hw2 : IntKind.i64.wrap ((i : Int) + 1) = ((i + 1 : Nat) : Int) := by rw [wrapI (by omega) (by omega)]; omega
      obtain ⟨id, g, off, cells, rfl, hid, hgr, hat⟩ := hv2.open (by omega)
      obtain ⟨p, q, hx1⟩ := hat i x ex
      rw [hdr, goC] at hr
      refine qV ?_
      refine R1.s_block fun K2 q1 q2 q3 q4 => ?_
      refine qG (qA E2_P (qA t3 (qA t5 (qA hnt (qA r1 (qA m1 (qA fd_puzzle_0 (qA ld_cells (qA el_cells (qA ld_cell (qA sz_cell (qA zr_cell (qA (ixC hlt) (qA hid (qA hgr (qA hx1.all hx1.le)))))))))))))))) fun K hK => ?_
      refine hK _ _ ?_
      clear hK K
      refine R1.gen (fun A3 H3 => Gr H2 H3 ∧ H2.nx < H3.nx ∧ H3.get H2.nx = some (.arr [.i .i64 x.1, .o (.str x.2.1), .o (.str x.2.2.1), p, q] 108 0 0) ∧ slot A3.tm 0 = .one ((.o (.ptr kb 0 0 2))) ∧ slot A3.tm 3 = .one ((.o (.ptr N 0 0 2))) ∧ slot A3.tm 5 = .one (.i .i64 (i : Int)) ∧ slot A3.tm 6 = .one ((.o (.ptr H2.nx 0 0 5))) ∧ A3.nt = 82 ∧ A3.dfr = [])
        ⟨((Fr.refl _).new _).mod _ (.inl (Nat.le_refl _)), ?_⟩ ?_
      · exact qZ (qA t0 (qA t3 (qA t5 (qA hnt hdf))))
      clear t0 t3 t5 hnt hdf A
      rintro A H3 ⟨g3, n3, rx, t0, t3, t5, t6, hnt, hdf⟩
      obtain ⟨M, hM⟩ : ∃ M, M = H2.nx := ⟨_, rfl⟩
      rw [← hM] at rx n3 t6
      have hgr3 : rowOf (H3.get id) g = some cells := by rw [g3.get _ hid not_false]; exact hgr
      have hid3 : id < H3.nx := Nat.lt_of_lt_of_le hid g3.nx
      have hk3 := hk2.gr g3
      have r1 := (g3.get _ m1 not_false).trans r1
      have m1 := Nat.lt_of_lt_of_le m1 g3.nx
      have g13 := g02.gr g3
      generalize hr1 : (if ladE (some ls) x.2.2.1 ≠ 0 then 4 else if chkNm x.2.2.2 ≠ 0 then chkNm x.2.2.2 else goC (some ls) (l.take i ++ [x]) (l.drop (i + 1))) = r1' at hr
      repeat refine R1.s_assoc ?_
      (first | refine R1.s_sq (by kernel_rfl) fun K hK => ?_ | refine R1.e_sq (by kernel_rfl) fun K hK => ?_)
      have rest : ∀ (b : Bool) (A4 : AAct) (H4 : Hp), Gr H3 H4 → (if b = true then 53 else r1') = e0 → slot A4.tm 0 = .one ((.o (.ptr kb 0 0 2))) ∧ slot A4.tm 3 = .one ((.o (.ptr N 0 0 2))) ∧ slot A4.tm 5 = .one (.i .i64 (i : Int)) ∧ slot A4.tm 6 = .one ((.o (.ptr M 0 0 5))) ∧ slot A4.tm 63 = .one (.b b) ∧ A4.nt = 82 ∧ A4.dfr = [] → K A4 H4 := by
        clear hr t0 t3 t5 t6 hnt hdf A
        rintro b A H4 g4 hr ⟨t0, t3, t5, t6, t63, hnt, hdf⟩
        refine hK _ _ ?_
        clear hK K
        have rx := (g4.get _ n3 not_false).trans rx
        have n3 := Nat.lt_of_lt_of_le n3 g4.nx
        have hk4 := hk3.gr g4
        have g14 := g13.gr g4
        have g24 := g3.gr g4
        clear g3
        have out : e0 ≠ 0 → e0 = r0 := fun h => by rw [← hr0, if_pos h]
        cases b with
        | true =>
          rw [if_pos rfl] at hr
          refine qX t63 ?_
          refine qW hnt ?_
          exact q4 _ _ (k4 _ _ (fin (53) _ _ qp (qd hdf) (g14) (hr.trans (out (by omega)))))
        | false =>
        rw [if_neg Bool.false_ne_true, ← hr1] at hr
        refine qX t63 ?_
        refine R1.s_skip ?_
        refine qG (qA E2_P (qA t0 (qA t6 (qA hnt (qA rx (qA n3 (qA fd_cell_2 (qA ld_str bd_rLadder)))))))) fun K hK => ?_
        refine WE.con (rLadder_con H4 _ ls x.2.2.1 hk4 (hL ls rfl).1 (hL ls rfl).2) fun w H6 g6 ⟨c, hw, ha, hcl⟩ => ?_
        subst hw
        have rx := (g6.get _ n3 not_false).trans rx
        have n3 := Nat.lt_of_lt_of_le n3 g6.nx
        have g6 := g24.gr g6
        refine qS (qA E2_P (qA hnt (qA zr_lad (qA sz_lad hcl)))) ?_
        refine hK _ _ ?_
        clear hK K
        refine R1.gen (fun A7 H7 => Gr H2 H7 ∧ H7.get M = some (.arr [.i .i64 x.1, .o (.str x.2.1), .o (.str x.2.2.1), p, q] 108 0 0) ∧ M < H7.nx ∧ slot A7.tm 0 = .one ((.o (.ptr kb 0 0 2))) ∧ slot A7.tm 3 = .one ((.o (.ptr N 0 0 2))) ∧ slot A7.tm 5 = .one (.i .i64 (i : Int)) ∧ slot A7.tm 6 = .one ((.o (.ptr M 0 0 5))) ∧ slot A7.tm 8 = .one (.i .i64 ((ladE (some ls) x.2.2.1) : Int)) ∧ A7.nt = 82 ∧ A7.dfr = [])
          ⟨(g6.new _).mod _ (.inl g6.nx), ?_, ?_, ?_⟩ ?_
        · rw [get_modN (Nat.ne_of_lt n3), get_newL n3]; exact rx
        · exact Nat.lt_succ_of_lt n3
        · repeat' (first | (simp only [slot_put, Nat.reduceEqDiff, reduceIte, putD_nt, putD_dfr, t0, t3, t5, t6, hnt, hdf]; first | done | rfl) | refine ⟨?_, ?_⟩)
        clear t0 t3 t5 t6 t63 hnt hdf A
        rintro A H7 ⟨g7, rx, n7, t0, t3, t5, t6, t8, hnt, hdf⟩
        generalize ladE (some ls) x.2.2.1 = d0 at hr t8
        by_cases he0 : d0 = 0
        case neg =>
          have ce : (d0 == 0) = false := beq_false_of_ne he0
          rw [if_pos he0] at hr
          refine qW (qA E2_P (qA t8 (qA hnt ce))) ?_
          refine qY ?_
          refine qW hnt ?_
          exact q4 _ _ (k4 _ _ (fin (4) _ _ qp (qd hdf) (g02.gr g7) (hr.trans (out (by omega)))))
        rw [if_neg (fun h => h he0)] at hr
        have ce : (d0 == 0) = true := by rw [he0]; rfl
        refine qW (qA E2_P (qA t8 (qA hnt ce))) ?_
        refine qY ?_
        refine R1.s_skip ?_
        have hp7 := hx1.of1.gr g7
        have hq7 := hx1.of2.gr g7
        refine qG (qA E2_P (qA t6 (qA hnt (qA rx (qA n7 (qA fd_cell_3 (qA ld_num bd_rNumCheck))))))) fun K hK => ?_
        refine WE.con (rNumCheck_con H7 p q x.2.2.2 hp7 hq7) fun w H8 g8 hw => ?_
        subst hw
        have g8 := g7.gr g8
        refine qS (qA E2_P hnt) ?_
        refine hK _ _ ?_
        clear hK K
        generalize chkNm x.2.2.2 = e1 at hr ⊢
        by_cases he1 : e1 = 0
        case neg =>
          have ce : (e1 == 0) = false := beq_false_of_ne he1
          rw [if_pos he1] at hr
          refine qW (qA E2_P (qA hnt ce)) ?_
          refine qY ?_
          refine qW hnt ?_
          exact q4 _ _ (k4 _ _ (fin (e1) _ _ qp (qd hdf) (g02.gr g8) (hr.trans (out (fun h => he1 (hr.trans h))))))
        rw [if_neg (fun h => h he1), ← htk] at hr
        have ce : (e1 == 0) = true := by rw [he1]; rfl
        refine qW (qA E2_P (qA hnt ce)) ?_
        refine qY ?_
        refine qW hnt ?_
        refine q1 _ _ ?_
        refine qW (qA hnt (qA t5 hw2)) ?_
        refine ⟨l.length - (i + 1), by omega, i + 1, rfl, hlt, g2.gr g8, hr, ?_⟩
        repeat' (first | (simp only [slot_put, Nat.reduceEqDiff, reduceIte, putD_nt, putD_dfr, t0, t3, t5, hnt, hdf]; first | done | rfl) | refine ⟨?_, ?_⟩)
      clear hK
      by_cases c0 : x.1 < 0
      · rw [if_pos c0] at hr
        have c0 := eq_true c0
        refine qS (qA E2_P (qA t6 (qA hnt (qA rx (qA n3 (qA fd_cell_0 (qA ld_int c0))))))) ?_
        refine rest true _ _ (Fr.refl _) hr ?_
        repeat' (first | (simp only [slot_put, Nat.reduceEqDiff, reduceIte, putD_nt, putD_dfr, t0, t3, t5, t6, hnt, hdf]; first | done | rfl) | refine ⟨?_, ?_⟩)
      rw [if_neg c0] at hr
      by_cases c1 : 255 < x.1
      · rw [if_pos c1] at hr
        have c0 := eq_false c0
        have c1 := eq_true c1
        refine qS (qA E2_P (qA t6 (qA hnt (qA rx (qA n3 (qA fd_cell_0 (qA ld_int (qA c0 c1)))))))) ?_
        refine rest true _ _ (Fr.refl _) hr ?_
        repeat' (first | (simp only [slot_put, Nat.reduceEqDiff, reduceIte, putD_nt, putD_dfr, t0, t3, t5, t6, hnt, hdf]; first | done | rfl) | refine ⟨?_, ?_⟩)
      rw [if_neg c1] at hr
      have c0 := eq_false c0
      have c1 := eq_false c1
      have fin2 : ∀ {H4 : Hp}, (if nmB x.2.1 = false then 53 else r1') = e0 → (if (!nmB x.2.1) = true then 53 else r1') = e0 := fun h => by rw [← h]; cases nmB x.2.1 <;> rfl
      by_cases hi0 : i = 0
      · have ci : ((0 : Int) < (i : Int)) = False := eq_false (by omega)
        rw [hi0, List.take_zero, if_neg (by exact Bool.false_ne_true)] at hr
        refine qS (qA E2_P (qA t5 (qA t6 (qA hnt (qA rx (qA n3 (qA fd_cell_0 (qA fd_cell_1 (qA ld_int (qA ld_str (qA c0 (qA c1 (qA ci bd_refName))))))))))))) ?_
        refine WE.con (refName_con H3 x.2.1) fun w H4 g4 hw => ?_
        subst hw
        refine qS (qA E2_P hnt) ?_
        refine rest (!nmB x.2.1) _ _ g4 (fin2 (H4 := H4) hr) ?_
        repeat' (first | (simp only [slot_put, Nat.reduceEqDiff, reduceIte, putD_nt, putD_dfr, t0, t3, t5, t6, hnt, hdf]; first | done | rfl) | refine ⟨?_, ?_⟩)
      · have ci : ((0 : Int) < (i : Int)) = True := eq_true (by omega)
        have hlt3 : i - 1 < l.length := by omega
        have ey : l[i - 1]? = some l[i - 1] := List.getElem?_eq_getElem hlt3
        have hpp := fun x => prevC_take (x := x) (by omega) ey
        generalize l[i - 1] = y at ey hpp
        obtain ⟨p', q', hy1⟩ := hat (i - 1) y ey
        have hw3 : IntKind.i64.wrap ((i : Int) - 1) = ((i - 1 : Nat) : Int) := by rw [wrapI (by omega) (by omega)]; omega
        rw [hpp x] at hr
        by_cases c2 : x.1 ≤ y.1
        · rw [if_pos (decide_eq_true c2)] at hr
          have c2 := eq_true c2
          refine qS (qA E2_P (qA t3 (qA t5 (qA t6 (qA hnt (qA rx (qA n3 (qA r1 (qA m1 (qA fd_puzzle_0 (qA ld_cells (qA fd_cell_0 (qA ld_int (qA c0 (qA c1 (qA ci (qA c2 (qA hw3 (qA el_cells (qA (ixC hlt3) (qA hid3 (qA hgr3 (qA hy1.f1 hy1.le1))))))))))))))))))))))) ?_
          refine rest true _ _ (Fr.refl _) hr ?_
          repeat' (first | (simp only [slot_put, Nat.reduceEqDiff, reduceIte, putD_nt, putD_dfr, t0, t3, t5, t6, hnt, hdf]; first | done | rfl) | refine ⟨?_, ?_⟩)
        · rw [if_neg (by rw [decide_eq_true_eq]; exact c2)] at hr
          have c2 := eq_false c2
          refine qS (qA E2_P (qA t3 (qA t5 (qA t6 (qA hnt (qA rx (qA n3 (qA r1 (qA m1 (qA fd_puzzle_0 (qA ld_cells (qA fd_cell_0 (qA fd_cell_1 (qA ld_int (qA ld_str (qA c0 (qA c1 (qA ci (qA c2 (qA hw3 (qA el_cells (qA (ixC hlt3) (qA hid3 (qA hgr3 (qA hy1.f1 (qA hy1.le1 bd_refName)))))))))))))))))))))))))) ?_
          refine WE.con (refName_con H3 x.2.1) fun w H4 g4 hw => ?_
          subst hw
          refine qS (qA E2_P hnt) ?_
          refine rest (!nmB x.2.1) _ _ g4 (fin2 (H4 := H4) hr) ?_
          repeat' (first | (simp only [slot_put, Nat.reduceEqDiff, reduceIte, putD_nt, putD_dfr, t0, t3, t5, t6, hnt, hdf]; first | done | rfl) | refine ⟨?_, ?_⟩)
    · clear hx hy Kx Ky
      have hie : i = l.length := by omega
      rw [hie, List.drop_length, goC] at hr
      rw [if_neg (fun h => h hr.symm)] at hr0
      refine qW hnt ?_
      refine k2 _ _ ?_
      have hb2 := hb.gr g2
      refine qG (qA E2_P (qA t3 (qA hnt (qA r1 (qA m1 (qA ld_puzzle bd_rRules)))))) fun K hK => ?_
      refine WE.con (rRules_con H2 a b l lr hv2 hb2 hC hR hP) fun w H4 g4 hw => ?_
      subst hw
      have g4 := g02.gr g4
      refine qS (qA E2_P hnt) ?_
      refine hK _ _ ?_
      clear hK K
      rw [rules_alike, hR1]
      cases rb with
      | false =>
        rw [if_pos rfl] at hr0
        refine qY ?_
        refine qW hnt ?_
        exact fin (53) _ _ qp (qd hdf) (g4) (hr0)
      | true =>
        rw [if_neg (by decide : ¬ (true = false))] at hr0
        refine qY ?_
        refine qW hnt ?_
        exact fin (0) _ _ qp (qd hdf) (g4) (hr0)
  · repeat' (first | (simp only [slot_put, Nat.reduceEqDiff, reduceIte, putD_nt, putD_dfr, t0, t3, hnt, hdf]; first | done | rfl) | refine ⟨?_, ?_⟩)
end Go.Proofs.YtiejeicaaojdlaaGreat
namespace Go.Proofs.YtiejeicaaojdlaaGreat
open Go Go.Eng
theorem chkPz_ok {o : Option (List Lad)} {p : Pz} (h : chkPz o p = 0) : ∃ ls, o = some ls ∧ p.1.length ≤ 64 ∧ p.2.length ≤ 64 ∧ goC o [] p.1 = 0 ∧ goR p.1 [] [] p.2 = true := by
  cases o with
  | none => rw [chkPz] at h; cases h
  | some ls =>
    rw [chkPz] at h
    refine ⟨ls, rfl, ?_⟩
    by_cases c1 : (64 : Int) < p.1.length
    · rw [if_pos c1] at h; cases h
    rw [if_neg c1] at h
    by_cases c2 : (64 : Int) < p.2.length
    · rw [if_pos c2] at h; cases h
    rw [if_neg c2] at h
    by_cases c3 : goC (some ls) [] p.1 ≠ 0
    · rw [if_pos c3] at h; exact absurd h c3
    rw [if_neg c3] at h
    refine ⟨by omega, by omega, Classical.not_not.1 c3, ?_⟩
    cases hg : goR p.1 [] [] p.2 with
    | true => rfl
    | false => rw [hg, if_pos rfl] at h; cases h
end Go.Proofs.YtiejeicaaojdlaaGreat
namespace Go.Proofs.YtiejeicaaojdlaaGreat
open Go Go.Eng
set_option maxRecDepth 10000 in
theorem tyF : type_of% (qA E2_P (qA ld_str (qA sz_str (qA zr_str (qA ln_str (qA ad_str (qA ld_int (qA sz_int (qA zr_int (qA ad_int (qA ld_bool (qA sz_bool (qA zr_bool (qA ad_bool (qA ld_errno (qA sz_errno (qA zr_errno (qA ad_errno (qA ld_unit (qA sz_unit (qA zr_unit (qA ad_unit (qA fd_unit_0 (qA fd_unit_1 (qA pt_unit (qA pl_unit_0 (qA pl_unit_1 (qA ld_units (qA sz_units (qA zr_units (qA el_units (qA ln_units (qA ad_units (qA ld_lad (qA sz_lad (qA zr_lad (qA ad_lad (qA fd_lad_0 (qA fd_lad_1 (qA pt_lad (qA pl_lad_0 (qA pl_lad_1 (qA ld_lads (qA sz_lads (qA zr_lads (qA el_lads (qA ln_lads (qA ad_lads (qA ld_mSB (qA sz_mSB (qA zr_mSB (qA ln_mSB (qA mp_mSB (qA kk_mSB (qA ad_mSB (qA ld_mSI (qA sz_mSI (qA zr_mSI (qA ln_mSI (qA mp_mSI (qA kk_mSI (qA ad_mSI (qA ld_pbook (qA sz_pbook (qA zr_pbook (qA ad_pbook (qA ld_book (qA sz_book (qA zr_book (qA ad_book (qA fd_book_0 (qA fd_book_1 (qA fd_book_2 (qA fd_book_3 (qA pt_book (qA pl_book_0 (qA pl_book_1 (qA pl_book_2 (qA pl_book_3 (qA ld_ints (qA sz_ints (qA zr_ints (qA el_ints (qA ln_ints (qA ad_ints (qA ld_prods (qA sz_prods (qA zr_prods (qA el_prods (qA ln_prods (qA ad_prods (qA ld_prod (qA sz_prod (qA zr_prod (qA ad_prod (qA fd_prod_0 (qA fd_prod_1 (qA pt_prod (qA pl_prod_0 (qA pl_prod_1 (qA ld_strs (qA sz_strs (qA zr_strs (qA el_strs (qA ln_strs (qA ad_strs (qA ld_good (qA sz_good (qA zr_good (qA ad_good (qA fd_good_0 (qA fd_good_1 (qA fd_good_2 (qA pt_good (qA pl_good_0 (qA pl_good_1 (qA pl_good_2 (qA ld_goods (qA sz_goods (qA zr_goods (qA el_goods (qA ln_goods (qA ad_goods (qA ld_rbook (qA sz_rbook (qA zr_rbook (qA ad_rbook (qA fd_rbook_0 (qA fd_rbook_1 (qA pt_rbook (qA pl_rbook_0 (qA pl_rbook_1 (qA ld_prbook (qA sz_prbook (qA zr_prbook (qA ad_prbook (qA ld_puzzle (qA sz_puzzle (qA zr_puzzle (qA ad_puzzle (qA fd_puzzle_0 (qA fd_puzzle_1 (qA pt_puzzle (qA pl_puzzle_0 (qA pl_puzzle_1 (qA ld_cells (qA sz_cells (qA zr_cells (qA el_cells (qA ln_cells (qA ad_cells (qA ld_cell (qA sz_cell (qA zr_cell (qA ad_cell (qA fd_cell_0 (qA fd_cell_1 (qA fd_cell_2 (qA fd_cell_3 (qA pt_cell (qA pl_cell_0 (qA pl_cell_1 (qA pl_cell_2 (qA pl_cell_3 (qA ld_rules (qA sz_rules (qA zr_rules (qA el_rules (qA ln_rules (qA ad_rules (qA ld_rule (qA sz_rule (qA zr_rule (qA ad_rule (qA fd_rule_0 (qA fd_rule_1 (qA pt_rule (qA pl_rule_0 (qA pl_rule_1 (qA ld_num (qA sz_num (qA zr_num (qA ad_num (qA fd_num_0 (qA fd_num_1 (qA pt_num (qA pl_num_0 (qA pl_num_1 (qA ld_grps (qA sz_grps (qA zr_grps (qA el_grps (qA ln_grps (qA ad_grps (qA ld_grp (qA sz_grp (qA zr_grp (qA ad_grp (qA fd_grp_0 (qA fd_grp_1 (qA fd_grp_2 (qA pt_grp (qA pl_grp_0 (qA pl_grp_1 (qA pl_grp_2 (qA ld_bools (qA sz_bools (qA zr_bools (qA el_bools (qA ln_bools (qA ad_bools (qA ld_errnos (qA sz_errnos (qA zr_errnos (qA el_errnos (qA ln_errnos (qA ad_errnos (qA ld_slip (qA sz_slip (qA zr_slip (qA ad_slip (qA fd_slip_0 (qA fd_slip_1 (qA fd_slip_2 (qA pt_slip (qA pl_slip_0 (qA pl_slip_1 (qA pl_slip_2 (qA ld_fixes (qA sz_fixes (qA zr_fixes (qA el_fixes (qA ln_fixes (qA ad_fixes (qA ld_fix (qA sz_fix (qA zr_fix (qA ad_fix (qA fd_fix_0 (qA fd_fix_1 (qA fd_fix_2 (qA fd_fix_3 (qA pt_fix (qA pl_fix_0 (qA pl_fix_1 (qA pl_fix_2 (qA pl_fix_3 (qA ld_case (qA sz_case (qA zr_case (qA ad_case (qA fd_case_0 (qA fd_case_1 (qA fd_case_2 (qA pt_case (qA pl_case_0 (qA pl_case_1 (qA pl_case_2 (qA ld_yfn (qA sz_yfn (qA zr_yfn ad_yfn))))))))))))))))))))))))))))))))))))))))))))))))))))))))))))))))))))))))))))))))))))))))))))))))))))))))))))))))))))))))))))))))))))))))))))))))))))))))))))))))))))))))))))))))))))))))))))))))))))))))))))))))))))))))))))))))))))))))))))))))))))))))))))))))))))) := qA E2_P (qA ld_str (qA sz_str (qA zr_str (qA ln_str (qA ad_str (qA ld_int (qA sz_int (qA zr_int (qA ad_int (qA ld_bool (qA sz_bool (qA zr_bool (qA ad_bool (qA ld_errno (qA sz_errno (qA zr_errno (qA ad_errno (qA ld_unit (qA sz_unit (qA zr_unit (qA ad_unit (qA fd_unit_0 (qA fd_unit_1 (qA pt_unit (qA pl_unit_0 (qA pl_unit_1 (qA ld_units (qA sz_units (qA zr_units (qA el_units (qA ln_units (qA ad_units (qA ld_lad (qA sz_lad (qA zr_lad (qA ad_lad (qA fd_lad_0 (qA fd_lad_1 (qA pt_lad (qA pl_lad_0 (qA pl_lad_1 (qA ld_lads (qA sz_lads (qA zr_lads (qA el_lads (qA ln_lads (qA ad_lads (qA ld_mSB (qA sz_mSB (qA zr_mSB (qA ln_mSB (qA mp_mSB (qA kk_mSB (qA ad_mSB (qA ld_mSI (qA sz_mSI (qA zr_mSI (qA ln_mSI (qA mp_mSI (qA kk_mSI (qA ad_mSI (qA ld_pbook (qA sz_pbook (qA zr_pbook (qA ad_pbook (qA ld_book (qA sz_book (qA zr_book (qA ad_book (qA fd_book_0 (qA fd_book_1 (qA fd_book_2 (qA fd_book_3 (qA pt_book (qA pl_book_0 (qA pl_book_1 (qA pl_book_2 (qA pl_book_3 (qA ld_ints (qA sz_ints (qA zr_ints (qA el_ints (qA ln_ints (qA ad_ints (qA ld_prods (qA sz_prods (qA zr_prods (qA el_prods (qA ln_prods (qA ad_prods (qA ld_prod (qA sz_prod (qA zr_prod (qA ad_prod (qA fd_prod_0 (qA fd_prod_1 (qA pt_prod (qA pl_prod_0 (qA pl_prod_1 (qA ld_strs (qA sz_strs (qA zr_strs (qA el_strs (qA ln_strs (qA ad_strs (qA ld_good (qA sz_good (qA zr_good (qA ad_good (qA fd_good_0 (qA fd_good_1 (qA fd_good_2 (qA pt_good (qA pl_good_0 (qA pl_good_1 (qA pl_good_2 (qA ld_goods (qA sz_goods (qA zr_goods (qA el_goods (qA ln_goods (qA ad_goods (qA ld_rbook (qA sz_rbook (qA zr_rbook (qA ad_rbook (qA fd_rbook_0 (qA fd_rbook_1 (qA pt_rbook (qA pl_rbook_0 (qA pl_rbook_1 (qA ld_prbook (qA sz_prbook (qA zr_prbook (qA ad_prbook (qA ld_puzzle (qA sz_puzzle (qA zr_puzzle (qA ad_puzzle (qA fd_puzzle_0 (qA fd_puzzle_1 (qA pt_puzzle (qA pl_puzzle_0 (qA pl_puzzle_1 (qA ld_cells (qA sz_cells (qA zr_cells (qA el_cells (qA ln_cells (qA ad_cells (qA ld_cell (qA sz_cell (qA zr_cell (qA ad_cell (qA fd_cell_0 (qA fd_cell_1 (qA fd_cell_2 (qA fd_cell_3 (qA pt_cell (qA pl_cell_0 (qA pl_cell_1 (qA pl_cell_2 (qA pl_cell_3 (qA ld_rules (qA sz_rules (qA zr_rules (qA el_rules (qA ln_rules (qA ad_rules (qA ld_rule (qA sz_rule (qA zr_rule (qA ad_rule (qA fd_rule_0 (qA fd_rule_1 (qA pt_rule (qA pl_rule_0 (qA pl_rule_1 (qA ld_num (qA sz_num (qA zr_num (qA ad_num (qA fd_num_0 (qA fd_num_1 (qA pt_num (qA pl_num_0 (qA pl_num_1 (qA ld_grps (qA sz_grps (qA zr_grps (qA el_grps (qA ln_grps (qA ad_grps (qA ld_grp (qA sz_grp (qA zr_grp (qA ad_grp (qA fd_grp_0 (qA fd_grp_1 (qA fd_grp_2 (qA pt_grp (qA pl_grp_0 (qA pl_grp_1 (qA pl_grp_2 (qA ld_bools (qA sz_bools (qA zr_bools (qA el_bools (qA ln_bools (qA ad_bools (qA ld_errnos (qA sz_errnos (qA zr_errnos (qA el_errnos (qA ln_errnos (qA ad_errnos (qA ld_slip (qA sz_slip (qA zr_slip (qA ad_slip (qA fd_slip_0 (qA fd_slip_1 (qA fd_slip_2 (qA pt_slip (qA pl_slip_0 (qA pl_slip_1 (qA pl_slip_2 (qA ld_fixes (qA sz_fixes (qA zr_fixes (qA el_fixes (qA ln_fixes (qA ad_fixes (qA ld_fix (qA sz_fix (qA zr_fix (qA ad_fix (qA fd_fix_0 (qA fd_fix_1 (qA fd_fix_2 (qA fd_fix_3 (qA pt_fix (qA pl_fix_0 (qA pl_fix_1 (qA pl_fix_2 (qA pl_fix_3 (qA ld_case (qA sz_case (qA zr_case (qA ad_case (qA fd_case_0 (qA fd_case_1 (qA fd_case_2 (qA pt_case (qA pl_case_0 (qA pl_case_1 (qA pl_case_2 (qA ld_yfn (qA sz_yfn (qA zr_yfn ad_yfn))))))))))))))))))))))))))))))))))))))))))))))))))))))))))))))))))))))))))))))))))))))))))))))))))))))))))))))))))))))))))))))))))))))))))))))))))))))))))))))))))))))))))))))))))))))))))))))))))))))))))))))))))))))))))))))))))))))))))))))))))))))))))))))))))))
end Go.Proofs.YtiejeicaaojdlaaGreat
namespace Go.Proofs.YtiejeicaaojdlaaGreat
open Go Go.Eng
theorem bd_sumPz : hasBody Tryz.prog 57 = true := by kernel_rfl
theorem bd_rSumPz2 : hasBody Tryz.prog 59 = true := by kernel_rfl
def sumW (v : List Int) : Int → List Int → Int
  | n, [] => n
  | n, i :: l => sumW v (IntKind.i64.wrap (n + v.getD i.toNat 0)) l
set_option maxRecDepth 10000 in
set_option maxHeartbeats 8000000 in
theorem sumPz_con (H : Hp) (u w : AC) (t : Int) (ps v : List Int) (hu : SlI H u ps) (hw : SlI H w v) (hi : ∀ i ∈ ps, 0 ≤ i ∧ i < v.length) (hL : ps.length ≤ 4611686018427387904) :
    Con E2 57 [.agg [.i .i64 t, u], .one w] H (fun _ => False) fun r _ => r = .one (.i .i64 (sumW v 0 ps)) := by
  refine Con.of rfl fun lg => ?_
  have hu : SlI ⟨H.t, H.nx, lg⟩ u ps := hu
  have hw : SlI ⟨H.t, H.nx, lg⟩ w v := hw
  generalize (⟨H.t, H.nx, lg⟩ : Hp) = H at hu hw ⊢
  refine C1.body (E := E2) (nt := 23) (res := [.tmp 4]) Tryz.func57 rfl rfl rfl rfl rfl fun tm hargs => ?_
  have h0 := hargs 0 _ rfl
  have h1 := hargs 1 _ rfl
  clear hargs
  have fin : ∀ (e : Int) (A : AAct) (H3 : Hp), slot A.tm 4 = .one (.i .i64 e) → A.dfr = [] → Gr H H3 → e = sumW v 0 ps → ∃ w H4, callEnd E2 [.tmp 4] (.ret, A, H3) = .ok [(w, H4)] ∧ Gr H H4 ∧ ∀ _ : List Nat, w = .one (.i .i64 (sumW v 0 ps)) := fun e A H3 h1 h2 h3 h4 => ⟨_, H3, callEnd_one (.i .i64 e) (.inr rfl) h2 h1, h3, fun _ => by rw [h4]⟩
  generalize hr0 : sumW v 0 ps = r0 at fin
  refine zG tyF fun K hK => ?_
  refine hK.out _ _ ?_
  refine R1.gen (fun A1 H1 => Gr H H1 ∧ H.nx < H1.nx ∧ H1.get H.nx = some (.arr [.i .i64 t, u] 92 0 0) ∧ slot A1.tm 1 = .one (w) ∧ slot A1.tm 2 = .one ((.o (.ptr H.nx 0 0 2))) ∧ A1.nt = 23 ∧ A1.dfr = []) ⟨(Fr.refl _).new _, Nat.lt_succ_self _, get_newE rfl, zL⟩ ?_
  rintro A1 H1 ⟨g1, m1, rx, t1, t2, hnt, hdf⟩
  clear h0 h1 tm hK K
  have hu := hu.gr g1
  have hw := hw.gr g1
  have l1 := hu.len
  have l2 := hu.lt
  refine zW tyF ?_
  refine R1.s_bl fun K k1 k2 k3 k4 => ?_
  refine R1.loop (fun m A H2 => ∃ (i : Nat) (n : Int), m = ps.length - i ∧ i ≤ ps.length ∧ H2 = H1 ∧ sumW v n (ps.drop i) = r0 ∧ slot A.tm 1 = .one (w) ∧ slot A.tm 5 = .one (.i .i64 (n : Int)) ∧ slot A.tm 9 = .one (u) ∧ slot A.tm 10 = .one (.i .i64 (ps.length : Int)) ∧ slot A.tm 11 = .one (.i .i64 (i : Int)) ∧ A.nt = 23 ∧ A.dfr = []) ?_ ps.length ⟨0, 0, rfl, Nat.zero_le _, rfl, hr0, zL⟩
  clear t1 t2 hnt hdf A1
  rintro m A H2 ⟨i, n, rfl, hil, rfl, hr, t1, t5, t9, t10, t11, hnt, hdf⟩
  refine zW tyF ?_
  refine zI tyF (fun hc => ?_) (fun hc => ?_)
  · have hlt : i < ps.length := by omega
    have ex : ps[i]? = some ps[i] := List.getElem?_eq_getElem hlt
    have hdr : ps.drop i = ps[i] :: ps.drop (i + 1) := List.drop_eq_getElem_cons hlt
    have htk : ps.take (i + 1) = ps.take i ++ [ps[i]] := List.take_succ_eq_append_getElem hlt
    have hmem : ps[i] ∈ ps := List.getElem_mem hlt
    generalize ps[i] = x at ex hdr htk hmem
    have hw2 : IntKind.i64.wrap ((i : Int) + 1) = ((i + 1 : Nat) : Int) := by rw [wrapI (by omega) (by omega)]; omega
    obtain ⟨hx0, hxn⟩ := hi x hmem
    obtain ⟨id, g, off, cells, rfl, hid, hgr, hat⟩ := hu.open (by omega)
    obtain ⟨id', g', off', cells', rfl, hid', hgr', hat'⟩ := hw.open (by omega)
    obtain ⟨e1, e2⟩ := hat i x ex
    have ev : v[x.toNat]? = some (v.getD x.toNat 0) := by rw [List.getD_eq_getElem?_getD, List.getElem?_eq_getElem (by omega)]; rfl
    obtain ⟨e3, e4⟩ := hat' _ _ ev
    rw [hdr, sumW] at hr
    clear hat hat'
    refine zW tyF ?_
    refine R1.s_bl fun K2 q1 q2 q3 q4 => ?_
    refine zW (qA tyF (qA (ixC hlt) (ixI hx0 hxn))) ?_
    refine q1.out _ _ ?_
    refine zW tyF ?_
    exact ⟨ps.length - (i + 1), by omega, i + 1, _, rfl, hlt, rfl, hr, zL⟩
  · have hie : i = ps.length := by omega
    refine zW tyF ?_
    refine k2.out _ _ ?_
    refine zW tyF ?_
    rw [hie, List.drop_length, sumW] at hr
    exact fin (n) _ _ qp qe (g1) (hr)
end Go.Proofs.YtiejeicaaojdlaaGreat
namespace Go.Proofs.YtiejeicaaojdlaaGreat
open Go Go.Eng
theorem bd_valuesF1 : hasBody Tryz.prog 128 = true := by kernel_rfl
theorem bd_valuesPz : hasBody Tryz.prog 90 = true := by kernel_rfl
theorem bd_contI : hasBody Tryz.prog 127 = true := by kernel_rfl
theorem bd_idxI : hasBody Tryz.prog 148 = true := by kernel_rfl
theorem bd_rValuesPz : hasBody Tryz.prog 91 = true := by kernel_rfl
theorem bd_checkValues : hasBody Tryz.prog 56 = true := by kernel_rfl
theorem bd_asked : hasBody Tryz.prog 58 = true := by kernel_rfl
set_option maxRecDepth 10000 in
set_option maxHeartbeats 8000000 in
theorem rSumPz2_con (H : Hp) (u w : AC) (t : Int) (ps v : List Int) (hu : SlI H u ps) (hw : SlI H w v) (hi : ∀ i ∈ ps, 0 ≤ i ∧ i < v.length) (hL : ps.length ≤ 4611686018427387904) :
    Con E2 59 [.agg [.i .i64 t, u], .one w] H (fun _ => False) fun r _ => r = .one (.i .i64 (sumW v 0 ps)) := by
  refine Con.of rfl fun lg => ?_
  have hu : SlI ⟨H.t, H.nx, lg⟩ u ps := hu
  have hw : SlI ⟨H.t, H.nx, lg⟩ w v := hw
  generalize (⟨H.t, H.nx, lg⟩ : Hp) = H at hu hw ⊢
  refine C1.body (E := E2) (nt := 25) (res := [.tmp 4]) Tryz.func59 rfl rfl rfl rfl rfl fun tm hargs => ?_
  have h0 := hargs 0 _ rfl
  have h1 := hargs 1 _ rfl
  clear hargs
  have fin : ∀ (e : Int) (A : AAct) (H3 : Hp), slot A.tm 4 = .one (.i .i64 e) → A.dfr = [] → Gr H H3 → e = sumW v 0 ps → ∃ w H4, callEnd E2 [.tmp 4] (.ret, A, H3) = .ok [(w, H4)] ∧ Gr H H4 ∧ ∀ _ : List Nat, w = .one (.i .i64 (sumW v 0 ps)) := fun e A H3 h1 h2 h3 h4 => ⟨_, H3, callEnd_one (.i .i64 e) (.inr rfl) h2 h1, h3, fun _ => by rw [h4]⟩
  generalize hr0 : sumW v 0 ps = r0 at fin
  refine zG tyF fun K hK => ?_
  refine hK.out _ _ ?_
  refine R1.gen (fun A1 H1 => Gr H H1 ∧ H.nx < H1.nx ∧ H1.get H.nx = some (.arr [.i .i64 t, u] 92 0 0) ∧ slot A1.tm 1 = .one (w) ∧ slot A1.tm 2 = .one ((.o (.ptr H.nx 0 0 2))) ∧ A1.nt = 25 ∧ A1.dfr = []) ⟨(Fr.refl _).new _, Nat.lt_succ_self _, get_newE rfl, zL⟩ ?_
  rintro A1 H1 ⟨g1, m1, rx, t1, t2, hnt, hdf⟩
  clear h0 h1 tm hK K
  have hu := hu.gr g1
  have hw := hw.gr g1
  have l1 := hu.len
  have l2 := hu.lt
  refine zW tyF ?_
  refine R1.s_bl fun K k1 k2 k3 k4 => ?_
  refine R1.loop (fun m A H2 => ∃ (i : Nat) (n : Int), m = ps.length - i ∧ i ≤ ps.length ∧ H2 = H1 ∧ sumW v n (ps.drop i) = r0 ∧ slot A.tm 1 = .one (w) ∧ slot A.tm 2 = .one ((.o (.ptr H.nx 0 0 2))) ∧ slot A.tm 5 = .one (.i .i64 (n : Int)) ∧ slot A.tm 6 = .one (.i .i64 (i : Int)) ∧ A.nt = 25 ∧ A.dfr = []) ?_ ps.length ⟨0, 0, rfl, Nat.zero_le _, rfl, hr0, zL⟩
  clear t1 t2 hnt hdf A1
  rintro m A H2 ⟨i, n, rfl, hil, rfl, hr, t1, t2, t5, t6, hnt, hdf⟩
  refine zW tyF ?_
  refine zI tyF (fun hc => ?_) (fun hc => ?_)
  · have hlt : i < ps.length := by omega
    have ex : ps[i]? = some ps[i] := List.getElem?_eq_getElem hlt
    have hdr : ps.drop i = ps[i] :: ps.drop (i + 1) := List.drop_eq_getElem_cons hlt
    have htk : ps.take (i + 1) = ps.take i ++ [ps[i]] := List.take_succ_eq_append_getElem hlt
    have hmem : ps[i] ∈ ps := List.getElem_mem hlt
    generalize ps[i] = x at ex hdr htk hmem
    have hw2 : IntKind.i64.wrap ((i : Int) + 1) = ((i + 1 : Nat) : Int) := by rw [wrapI (by omega) (by omega)]; omega
    obtain ⟨hx0, hxn⟩ := hi x hmem
    obtain ⟨id, g, off, cells, rfl, hid, hgr, hat⟩ := hu.open (by omega)
    obtain ⟨id', g', off', cells', rfl, hid', hgr', hat'⟩ := hw.open (by omega)
    obtain ⟨e1, e2⟩ := hat i x ex
    have ev : v[x.toNat]? = some (v.getD x.toNat 0) := by rw [List.getD_eq_getElem?_getD, List.getElem?_eq_getElem (by omega)]; rfl
    obtain ⟨e3, e4⟩ := hat' _ _ ev
    rw [hdr, sumW] at hr
    clear hat hat'
    refine zW tyF ?_
    refine R1.s_bl fun K2 q1 q2 q3 q4 => ?_
    refine zW (qA tyF (qA (ixC hlt) (ixI hx0 hxn))) ?_
    refine q1.out _ _ ?_
    refine zW tyF ?_
    exact ⟨ps.length - (i + 1), by omega, i + 1, _, rfl, hlt, rfl, hr, zL⟩
  · have hie : i = ps.length := by omega
    refine zW tyF ?_
    refine k2.out _ _ ?_
    refine zW tyF ?_
    rw [hie, List.drop_length, sumW] at hr
    exact fin (n) _ _ qp qe (g1) (hr)
def vbad (n : Int) : Bool := decide (n < 1) || decide (1099511627776 < n)
def idxV : Nat → List Int → Int
  | _, [] => -1
  | n, x :: l => if vbad x = true then (n : Int) else idxV (n + 1) l
theorem idxV_any : ∀ (l : List Int) (n : Nat), decide (0 ≤ idxV n l) = l.any vbad
  | [], _ => rfl
  | x :: l, n => by
    rw [idxV, List.any_cons]
    cases h : vbad x with
    | true => rw [if_pos rfl, Bool.true_or]; exact decide_eq_true (by omega)
    | false => rw [if_neg Bool.false_ne_true, Bool.false_or]; exact idxV_any l (n + 1)
set_option maxRecDepth 10000 in
set_option maxHeartbeats 4000000 in
theorem values1_con (H : Hp) (n : Int) : Con E2 128 [.one (.i .i64 n)] H (fun _ => False) fun r _ => r = .one (.b (vbad n)) := by
  refine Con.of rfl fun lg => ?_
  generalize (⟨H.t, H.nx, lg⟩ : Hp) = H at ⊢
  refine C1.body (E := E2) (nt := 9) (res := [.tmp 2]) Tryz.func128 rfl rfl rfl rfl rfl fun tm hargs => ?_
  have h0 := hargs 0 _ rfl
  clear hargs
  have fin : ∀ (e : Bool) (A : AAct) (H3 : Hp), slot A.tm 2 = .one (.b e) → A.dfr = [] → Gr H H3 → e = vbad n → ∃ w H4, callEnd E2 [.tmp 2] (.ret, A, H3) = .ok [(w, H4)] ∧ Gr H H4 ∧ ∀ _ : List Nat, w = .one (.b (vbad n)) := fun e A H3 h1 h2 h3 h4 => ⟨_, H3, callEnd_one (.b e) (.inr rfl) h2 h1, h3, fun _ => by rw [h4]⟩
  generalize hr0 : vbad n = r0 at fin
  unfold vbad at hr0
  by_cases c0 : n < 1
  · refine zW tyF ?_
    exact fin (true) _ _ qp qe (Fr.refl _) ((by rw [decide_eq_true c0, Bool.true_or] at hr0; exact hr0))
  · refine zW tyF ?_
    exact fin ((decide (1099511627776 < n))) _ _ qp qe (Fr.refl _) ((by rw [decide_eq_false c0, Bool.false_or] at hr0; exact hr0))
set_option maxRecDepth 10000 in
set_option maxHeartbeats 4000000 in
theorem idxI_con (H : Hp) (v : AC) (l : List Int) (hv : SlI H v l) (hL : l.length ≤ 4611686018427387904) :
    Con E2 148 [.one v, .one (.o (.clo 128 []))] H (fun _ => False) fun r _ => r = .one (.i .i64 (idxV 0 l)) := by
  refine Con.of rfl fun lg => ?_
  have hv : SlI ⟨H.t, H.nx, lg⟩ v l := hv
  generalize (⟨H.t, H.nx, lg⟩ : Hp) = H at hv ⊢
  refine C1.body (E := E2) (nt := 19) (res := [.tmp 4]) Tryz.func148 rfl rfl rfl rfl rfl fun tm hargs => ?_
  have h0 := hargs 0 _ rfl
  have h1 := hargs 1 _ rfl
  clear hargs
  have fin : ∀ (e : Int) (A : AAct) (H3 : Hp), slot A.tm 4 = .one (.i .i64 e) → A.dfr = [] → Gr H H3 → e = idxV 0 l → ∃ w H4, callEnd E2 [.tmp 4] (.ret, A, H3) = .ok [(w, H4)] ∧ Gr H H4 ∧ ∀ _ : List Nat, w = .one (.i .i64 (idxV 0 l)) := fun e A H3 h1 h2 h3 h4 => ⟨_, H3, callEnd_one (.i .i64 e) (.inr rfl) h2 h1, h3, fun _ => by rw [h4]⟩
  generalize hr0 : idxV 0 l = r0 at fin
  have l1 := hv.len
  have l2 := hv.lt
  refine zW tyF ?_
  refine R1.s_bl fun K k1 k2 k3 k4 => ?_
  refine R1.loop (fun m A H2 => ∃ i : Nat, m = l.length - i ∧ i ≤ l.length ∧ Gr H H2 ∧ idxV i (l.drop i) = r0 ∧ slot A.tm 0 = .one (v) ∧ slot A.tm 1 = .one ((.o (.clo 128 []))) ∧ slot A.tm 7 = .one (.i .i64 (l.length : Int)) ∧ slot A.tm 8 = .one (.i .i64 (i : Int)) ∧ A.nt = 19 ∧ A.dfr = []) ?_ l.length ⟨0, rfl, Nat.zero_le _, Fr.refl _, hr0, zL⟩
  clear h0 h1 tm l1 l2
  rintro m A H2 ⟨i, rfl, hil, g2, hr, t0, t1, t7, t8, hnt, hdf⟩
  refine zW tyF ?_
  refine zI tyF (fun hc => ?_) (fun hc => ?_)
  · have hlt : i < l.length := by omega
    have ex : l[i]? = some l[i] := List.getElem?_eq_getElem hlt
    have hdr : l.drop i = l[i] :: l.drop (i + 1) := List.drop_eq_getElem_cons hlt
    have htk : l.take (i + 1) = l.take i ++ [l[i]] := List.take_succ_eq_append_getElem hlt
    have hmem : l[i] ∈ l := List.getElem_mem hlt
    generalize l[i] = x at ex hdr htk hmem
    have hw2 : IntKind.i64.wrap ((i : Int) + 1) = ((i + 1 : Nat) : Int) := by rw [wrapI (by omega) (by omega)]; omega
    obtain ⟨id, g, off, cells, rfl, hid, hgr, hat⟩ := (hv.gr g2).open (by omega)
    obtain ⟨e1, e2⟩ := hat i x ex
    rw [hdr, idxV] at hr
    clear hat
    refine zW tyF ?_
    refine R1.s_bl fun K2 q1 q2 q3 q4 => ?_
    refine zW tyF ?_
    refine zG (qA tyF (qA (ixC hlt) bd_valuesF1)) fun K3 hK3 => ?_
    refine WE.con (values1_con H2 x) fun w H4 g4 hw => ?_
    subst hw
    have g4 := g2.gr g4
    cases hb : vbad x with
    | true =>
      refine zK tyF ?_
      exact q4.out _ _ (k4.out _ _ (fin ((i : Int)) _ _ qp qe (g4) ((by rw [if_pos hb] at hr; exact hr))))
    | false =>
      refine zK tyF ?_
      rw [if_neg (by rw [hb]; exact Bool.false_ne_true)] at hr
      refine q1.out _ _ ?_
      refine zW tyF ?_
      exact ⟨l.length - (i + 1), by omega, i + 1, rfl, hlt, g4, hr, zL⟩
  · have hie : i = l.length := by omega
    refine zW tyF ?_
    refine k2.out _ _ ?_
    refine zW tyF ?_
    rw [hie, List.drop_length, idxV] at hr
    exact fin (-1) _ _ qp qe (g2) (hr)
set_option maxRecDepth 10000 in
set_option maxHeartbeats 4000000 in
theorem contI_con (H : Hp) (v : AC) (l : List Int) (hv : SlI H v l) (hL : l.length ≤ 4611686018427387904) :
    Con E2 127 [.one v, .one (.o (.clo 128 []))] H (fun _ => False) fun r _ => r = .one (.b (l.any vbad)) := by
  refine Con.of rfl fun lg => ?_
  have hv : SlI ⟨H.t, H.nx, lg⟩ v l := hv
  generalize (⟨H.t, H.nx, lg⟩ : Hp) = H at hv ⊢
  refine C1.body (E := E2) (nt := 9) (res := [.tmp 4]) Tryz.func127 rfl rfl rfl rfl rfl fun tm hargs => ?_
  have h0 := hargs 0 _ rfl
  have h1 := hargs 1 _ rfl
  clear hargs
  have fin : ∀ (e : Bool) (A : AAct) (H3 : Hp), slot A.tm 4 = .one (.b e) → A.dfr = [] → Gr H H3 → e = l.any vbad → ∃ w H4, callEnd E2 [.tmp 4] (.ret, A, H3) = .ok [(w, H4)] ∧ Gr H H4 ∧ ∀ _ : List Nat, w = .one (.b (l.any vbad)) := fun e A H3 h1 h2 h3 h4 => ⟨_, H3, callEnd_one (.b e) (.inr rfl) h2 h1, h3, fun _ => by rw [h4]⟩
  generalize hr0 : l.any vbad = r0 at fin
  refine zW tyF ?_
  refine zG (qA tyF bd_idxI) fun K hK => ?_
  refine WE.con (idxI_con H v l hv hL) fun w H4 g4 hw => ?_
  subst hw
  refine zK tyF ?_
  exact fin ((decide (0 ≤ idxV 0 l))) _ _ qp qe (g4) ((idxV_any l 0).trans hr0)
def valB (lc : List Cl) (v : List Int) : Bool := ((v.length : Int) == (lc.length : Int)) && !(v.any vbad)
set_option maxRecDepth 10000 in
set_option maxHeartbeats 4000000 in
theorem values_pz_con (H : Hp) (a b w : AC) (lc : List Cl) (v : List Int) (ha : SlCl H a lc) (hw : SlI H w v) (hL : v.length ≤ 4611686018427387904) :
    Con E2 90 [.agg [a, b], .one w] H (fun _ => False) fun r _ => r = .one (.b (valB lc v)) := by
  refine Con.of rfl fun lg => ?_
  have ha : SlCl ⟨H.t, H.nx, lg⟩ a lc := ha
  have hw : SlI ⟨H.t, H.nx, lg⟩ w v := hw
  generalize (⟨H.t, H.nx, lg⟩ : Hp) = H at ha hw ⊢
  refine C1.body (E := E2) (nt := 16) (res := [.tmp 4]) Tryz.func90 rfl rfl rfl rfl rfl fun tm hargs => ?_
  have h0 := hargs 0 _ rfl
  have h1 := hargs 1 _ rfl
  clear hargs
  have fin : ∀ (e : Bool) (A : AAct) (H3 : Hp), slot A.tm 4 = .one (.b e) → A.dfr = [] → Gr H H3 → e = valB lc v → ∃ w H4, callEnd E2 [.tmp 4] (.ret, A, H3) = .ok [(w, H4)] ∧ Gr H H4 ∧ ∀ _ : List Nat, w = .one (.b (valB lc v)) := fun e A H3 h1 h2 h3 h4 => ⟨_, H3, callEnd_one (.b e) (.inr rfl) h2 h1, h3, fun _ => by rw [h4]⟩
  generalize hr0 : valB lc v = r0 at fin
  unfold valB at hr0
  refine zG tyF fun K hK => ?_
  refine hK.out _ _ ?_
  refine R1.gen (fun A1 H1 => Gr H H1 ∧ H.nx < H1.nx ∧ H1.get H.nx = some (.arr [a, b] 42 0 0) ∧ slot A1.tm 1 = .one (w) ∧ slot A1.tm 2 = .one ((.o (.ptr H.nx 0 0 2))) ∧ A1.nt = 16 ∧ A1.dfr = []) ⟨(Fr.refl _).new _, Nat.lt_succ_self _, get_newE rfl, zL⟩ ?_
  rintro A1 H1 ⟨g1, m1, rx, t1, t2, hnt, hdf⟩
  clear h0 h1 tm hK K
  have ha := ha.gr g1
  have hw := hw.gr g1
  have l1 := ha.len
  have l2 := ha.lt
  have l3 := hw.len
  have l4 := hw.lt
  cases hc : ((v.length : Int) == (lc.length : Int)) with
  | false =>
    refine zW tyF ?_
    exact fin (false) _ _ qp qe (g1) ((by rw [hc, Bool.false_and] at hr0; exact hr0))
  | true =>
    refine zG (qA tyF bd_contI) fun K hK => ?_
    refine WE.con (contI_con H1 w v hw hL) fun w H4 g4 hw => ?_
    subst hw
    refine zK tyF ?_
    exact fin ((!(v.any vbad))) _ _ qp qe (g1.gr g4) ((by rw [hc, Bool.true_and] at hr0; exact hr0))
set_option maxRecDepth 10000 in
set_option maxHeartbeats 4000000 in
theorem rValuesPz_con (H : Hp) (a b w : AC) (lc : List Cl) (v : List Int) (ha : SlCl H a lc) (hw : SlI H w v) (hL : v.length ≤ 4611686018427387904) :
    Con E2 91 [.agg [a, b], .one w] H (fun _ => False) fun r _ => r = .one (.b (valB lc v)) := by
  refine Con.of rfl fun lg => ?_
  have ha : SlCl ⟨H.t, H.nx, lg⟩ a lc := ha
  have hw : SlI ⟨H.t, H.nx, lg⟩ w v := hw
  generalize (⟨H.t, H.nx, lg⟩ : Hp) = H at ha hw ⊢
  refine C1.body (E := E2) (nt := 30) (res := [.tmp 4]) Tryz.func91 rfl rfl rfl rfl rfl fun tm hargs => ?_
  have h0 := hargs 0 _ rfl
  have h1 := hargs 1 _ rfl
  clear hargs
  have fin : ∀ (e : Bool) (A : AAct) (H3 : Hp), slot A.tm 4 = .one (.b e) → A.dfr = [] → Gr H H3 → e = valB lc v → ∃ w H4, callEnd E2 [.tmp 4] (.ret, A, H3) = .ok [(w, H4)] ∧ Gr H H4 ∧ ∀ _ : List Nat, w = .one (.b (valB lc v)) := fun e A H3 h1 h2 h3 h4 => ⟨_, H3, callEnd_one (.b e) (.inr rfl) h2 h1, h3, fun _ => by rw [h4]⟩
  generalize hr0 : valB lc v = r0 at fin
  unfold valB at hr0
  refine zG tyF fun K hK => ?_
  refine hK.out _ _ ?_
  refine R1.gen (fun A1 H1 => Gr H H1 ∧ H.nx < H1.nx ∧ H1.get H.nx = some (.arr [a, b] 42 0 0) ∧ slot A1.tm 1 = .one (w) ∧ slot A1.tm 2 = .one ((.o (.ptr H.nx 0 0 2))) ∧ A1.nt = 30 ∧ A1.dfr = []) ⟨(Fr.refl _).new _, Nat.lt_succ_self _, get_newE rfl, zL⟩ ?_
  rintro A1 H1 ⟨g1, m1, rx, t1, t2, hnt, hdf⟩
  clear h0 h1 tm hK K
  have ha := ha.gr g1
  have hw := hw.gr g1
  have l1 := ha.len
  have l2 := ha.lt
  have l3 := hw.len
  have l4 := hw.lt
  cases hc : ((v.length : Int) == (lc.length : Int)) with
  | false =>
    refine zW tyF ?_
    exact fin (false) _ _ qp qe (g1) ((by rw [hc, Bool.false_and] at hr0; exact hr0))
  | true =>
    rw [hc, Bool.true_and] at hr0
    refine zW tyF ?_
    refine R1.s_bl fun K k1 k2 k3 k4 => ?_
    refine R1.loop (fun m A H2 => ∃ i : Nat, m = v.length - i ∧ i ≤ v.length ∧ H2 = H1 ∧ (!((v.drop i).any vbad)) = r0 ∧ slot A.tm 1 = .one (w) ∧ slot A.tm 5 = .one (.i .i64 (i : Int)) ∧ A.nt = 30 ∧ A.dfr = []) ?_ v.length ⟨0, rfl, Nat.zero_le _, rfl, hr0, zL⟩
    clear t1 t2 hnt hdf A1 hr0
    rintro m A H2 ⟨i, rfl, hil, rfl, hr, t1, t5, hnt, hdf⟩
    refine zW tyF ?_
    refine zI tyF (fun hc => ?_) (fun hc => ?_)
    · have hlt : i < v.length := by omega
      have ex : v[i]? = some v[i] := List.getElem?_eq_getElem hlt
      have hdr : v.drop i = v[i] :: v.drop (i + 1) := List.drop_eq_getElem_cons hlt
      have htk : v.take (i + 1) = v.take i ++ [v[i]] := List.take_succ_eq_append_getElem hlt
      have hmem : v[i] ∈ v := List.getElem_mem hlt
      generalize v[i] = x at ex hdr htk hmem
      have hw2 : IntKind.i64.wrap ((i : Int) + 1) = ((i + 1 : Nat) : Int) := by rw [wrapI (by omega) (by omega)]; omega
      obtain ⟨id, g, off, cells, rfl, hid, hgr, hat⟩ := hw.open (by omega)
      obtain ⟨e1, e2⟩ := hat i x ex
      rw [hdr, List.any_cons] at hr
      clear hat
      refine zW tyF ?_
      refine R1.s_bl fun K2 q1 q2 q3 q4 => ?_
      by_cases c0 : x < 1
      · refine zW (qA tyF (ixC hlt)) ?_
        exact q4.out _ _ (k4.out _ _ (fin (false) _ _ qp qe (g1) ((by unfold vbad at hr; rw [decide_eq_true c0, Bool.true_or, Bool.true_or] at hr; exact hr))))
      by_cases c1 : 1099511627776 < x
      · refine zW (qA tyF (ixC hlt)) ?_
        exact q4.out _ _ (k4.out _ _ (fin (false) _ _ qp qe (g1) ((by unfold vbad at hr; rw [decide_eq_true c1, Bool.or_true, Bool.true_or] at hr; exact hr))))
      refine zW (qA tyF (ixC hlt)) ?_
      refine q1.out _ _ ?_
      refine zW tyF ?_
      have hb : vbad x = false := by unfold vbad; rw [decide_eq_false c0, decide_eq_false c1]; rfl
      rw [hb, Bool.false_or] at hr
      exact ⟨v.length - (i + 1), by omega, i + 1, rfl, hlt, rfl, hr, zL⟩
    · have hie : i = v.length := by omega
      refine zW tyF ?_
      refine k2.out _ _ ?_
      refine zW tyF ?_
      rw [hie, List.drop_length] at hr
      exact fin (true) _ _ qp qe (g1) (hr)
noncomputable def askE (o : Option (List Lad)) (p : Pz) (v : List Int) : Int := if chkPz o p ≠ 0 then chkPz o p else if valB p.1 v = false then 54 else 0
set_option maxRecDepth 10000 in
set_option maxHeartbeats 4000000 in
theorem checkValues_con (H : Hp) (k a b w : AC) (o : Option (List Lad)) (p : Pz) (v : List Int) (hk : BookO H k o) (hL : ∀ ls, o = some ls → ∀ x ∈ ls, x.2.length ≤ 1000000) (ha : SlCl H a p.1) (hb : SlRl H b p.2) (hB : PzB p) (hw : SlI H w v) (hV : v.length ≤ 4611686018427387904) :
    Con E2 56 [.one k, .agg [a, b], .one w] H (fun _ => False) fun r _ => r = .one (.i .i64 (askE o p v)) := by
  refine Con.of rfl fun lg => ?_
  have hk : BookO ⟨H.t, H.nx, lg⟩ k o := BookO.same (H := H) rfl rfl hk
  have ha : SlCl ⟨H.t, H.nx, lg⟩ a p.1 := ha
  have hb : SlRl ⟨H.t, H.nx, lg⟩ b p.2 := hb
  have hw : SlI ⟨H.t, H.nx, lg⟩ w v := hw
  generalize (⟨H.t, H.nx, lg⟩ : Hp) = H at hk ha hb hw ⊢
  refine C1.body (E := E2) (nt := 18) (res := [.tmp 6]) Tryz.func56 rfl rfl rfl rfl rfl fun tm hargs => ?_
  have h0 := hargs 0 _ rfl
  have h1 := hargs 1 _ rfl
  have h2 := hargs 2 _ rfl
  clear hargs
  have fin : ∀ (e : Int) (A : AAct) (H3 : Hp), slot A.tm 6 = .one (.i .i64 e) → A.dfr = [] → Gr H H3 → e = askE o p v → ∃ w H4, callEnd E2 [.tmp 6] (.ret, A, H3) = .ok [(w, H4)] ∧ Gr H H4 ∧ ∀ _ : List Nat, w = .one (.i .i64 (askE o p v)) := fun e A H3 h1 h2 h3 h4 => ⟨_, H3, callEnd_one (.i .i64 e) (.inr rfl) h2 h1, h3, fun _ => by rw [h4]⟩
  generalize hr0 : askE o p v = r0 at fin
  unfold askE at hr0
  refine zG tyF fun K hK => ?_
  refine hK.out _ _ ?_
  refine R1.gen (fun A1 H1 => Gr H H1 ∧ H.nx < H1.nx ∧ H1.get H.nx = some (.arr [a, b] 42 0 0) ∧ slot A1.tm 0 = .one (k) ∧ slot A1.tm 2 = .one (w) ∧ slot A1.tm 4 = .one ((.o (.ptr H.nx 0 0 2))) ∧ A1.nt = 18 ∧ A1.dfr = []) ⟨(Fr.refl _).new _, Nat.lt_succ_self _, get_newE rfl, zL⟩ ?_
  rintro A1 H1 ⟨g1, m1, rx, t0, t2, t4, hnt, hdf⟩
  clear h0 h1 h2 tm hK K
  have hk := hk.gr g1
  have ha := ha.gr g1
  have hb := hb.gr g1
  have hw := hw.gr g1
  refine zG (qA tyF bd_checkPz) fun K hK => ?_
  refine WE.con (checkPz_con H1 k a b o p hk hL ha hb hB) fun w' H2 g2 hq => ?_
  subst hq
  have rx := (g2.get _ m1 not_false).trans rx
  have m1 := Nat.lt_of_lt_of_le m1 g2.nx
  have ha := ha.gr g2
  have hw := hw.gr g2
  have g2 := g1.gr g2
  clear g1
  generalize chkPz o p = e0 at hr0
  by_cases he0 : e0 = 0
  case neg =>
    have ce : (e0 == 0) = false := beq_false_of_ne he0
    refine zK tyF ?_
    exact fin (e0) _ _ qp qe (g2) ((by rw [if_pos he0] at hr0; exact hr0))
  rw [if_neg (fun h => h he0)] at hr0
  have ce : (e0 == 0) = true := by rw [he0]; rfl
  refine zK tyF ?_
  refine zG (qA tyF bd_valuesPz) fun K hK => ?_
  refine WE.con (values_pz_con H2 a b w p.1 v ha hw hV) fun w' H3 g3 hq => ?_
  subst hq
  have g3 := g2.gr g3
  cases hv : valB p.1 v with
  | false =>
    refine zK tyF ?_
    exact fin (54) _ _ qp qe (g3) ((by rw [if_pos hv] at hr0; exact hr0))
  | true =>
    refine zK tyF ?_
    exact fin (0) _ _ qp qe (g3) ((by rw [hv, if_neg (by decide : ¬ (true = false))] at hr0; exact hr0))
set_option maxRecDepth 10000 in
set_option maxHeartbeats 4000000 in
theorem asked_con (H : Hp) (k a b w : AC) (o : Option (List Lad)) (p : Pz) (v : List Int) (hk : RBkO H k o) (hL : ∀ ls, o = some ls → (∀ x ∈ ls, x.2.length ≤ 1000000) ∧ ls.length ≤ 1000000) (ha : SlCl H a p.1) (hb : SlRl H b p.2) (hB : PzB p) (hw : SlI H w v) (hV : v.length ≤ 4611686018427387904) :
    Con E2 58 [.one k, .agg [a, b], .one w] H (fun _ => False) fun r _ => r = .one (.i .i64 (askE o p v)) := by
  refine Con.of rfl fun lg => ?_
  have hk : RBkO ⟨H.t, H.nx, lg⟩ k o := RBkO.same (H := H) rfl rfl hk
  have ha : SlCl ⟨H.t, H.nx, lg⟩ a p.1 := ha
  have hb : SlRl ⟨H.t, H.nx, lg⟩ b p.2 := hb
  have hw : SlI ⟨H.t, H.nx, lg⟩ w v := hw
  generalize (⟨H.t, H.nx, lg⟩ : Hp) = H at hk ha hb hw ⊢
  refine C1.body (E := E2) (nt := 18) (res := [.tmp 6]) Tryz.func58 rfl rfl rfl rfl rfl fun tm hargs => ?_
  have h0 := hargs 0 _ rfl
  have h1 := hargs 1 _ rfl
  have h2 := hargs 2 _ rfl
  clear hargs
  have fin : ∀ (e : Int) (A : AAct) (H3 : Hp), slot A.tm 6 = .one (.i .i64 e) → A.dfr = [] → Gr H H3 → e = askE o p v → ∃ w H4, callEnd E2 [.tmp 6] (.ret, A, H3) = .ok [(w, H4)] ∧ Gr H H4 ∧ ∀ _ : List Nat, w = .one (.i .i64 (askE o p v)) := fun e A H3 h1 h2 h3 h4 => ⟨_, H3, callEnd_one (.i .i64 e) (.inr rfl) h2 h1, h3, fun _ => by rw [h4]⟩
  generalize hr0 : askE o p v = r0 at fin
  unfold askE at hr0
  refine zG tyF fun K hK => ?_
  refine hK.out _ _ ?_
  refine R1.gen (fun A1 H1 => Gr H H1 ∧ H.nx < H1.nx ∧ H1.get H.nx = some (.arr [a, b] 42 0 0) ∧ slot A1.tm 0 = .one (k) ∧ slot A1.tm 2 = .one (w) ∧ slot A1.tm 4 = .one ((.o (.ptr H.nx 0 0 2))) ∧ A1.nt = 18 ∧ A1.dfr = []) ⟨(Fr.refl _).new _, Nat.lt_succ_self _, get_newE rfl, zL⟩ ?_
  rintro A1 H1 ⟨g1, m1, rx, t0, t2, t4, hnt, hdf⟩
  clear h0 h1 h2 tm hK K
  have hk := hk.gr g1
  have ha := ha.gr g1
  have hb := hb.gr g1
  have hw := hw.gr g1
  refine zG (qA tyF bd_rCheckPz) fun K hK => ?_
  refine WE.con (rCheckPz_con H1 k a b o p hk hL ha hb hB) fun w' H2 g2 hq => ?_
  subst hq
  have rx := (g2.get _ m1 not_false).trans rx
  have m1 := Nat.lt_of_lt_of_le m1 g2.nx
  have ha := ha.gr g2
  have hw := hw.gr g2
  have g2 := g1.gr g2
  clear g1
  generalize chkPz o p = e0 at hr0
  by_cases he0 : e0 = 0
  case neg =>
    have ce : (e0 == 0) = false := beq_false_of_ne he0
    refine zK tyF ?_
    exact fin (e0) _ _ qp qe (g2) ((by rw [if_pos he0] at hr0; exact hr0))
  rw [if_neg (fun h => h he0)] at hr0
  have ce : (e0 == 0) = true := by rw [he0]; rfl
  refine zK tyF ?_
  refine zG (qA tyF bd_rValuesPz) fun K hK => ?_
  refine WE.con (rValuesPz_con H2 a b w p.1 v ha hw hV) fun w' H3 g3 hq => ?_
  subst hq
  have g3 := g2.gr g3
  cases hv : valB p.1 v with
  | false =>
    refine zK tyF ?_
    exact fin (54) _ _ qp qe (g3) ((by rw [if_pos hv] at hr0; exact hr0))
  | true =>
    refine zK tyF ?_
    exact fin (0) _ _ qp qe (g3) ((by rw [hv, if_neg (by decide : ¬ (true = false))] at hr0; exact hr0))
end Go.Proofs.YtiejeicaaojdlaaGreat
namespace Go.Proofs.YtiejeicaaojdlaaGreat
open Go Go.Eng
theorem bd_sums : hasBody Tryz.prog 20 = true := by kernel_rfl
theorem bd_rSums : hasBody Tryz.prog 21 = true := by kernel_rfl
theorem bd_wrong : hasBody Tryz.prog 22 = true := by kernel_rfl
theorem bd_rWrong : hasBody Tryz.prog 23 = true := by kernel_rfl
def sumsP (v : List Int) : List Int → List Rl → List Int × Int
  | acc, [] => (acc, 0)
  | acc, x :: l => if 1099511627776 < sumW v 0 x.2 then ([], 6) else sumsP v (acc ++ [sumW v 0 x.2]) l
noncomputable def sumsPz (o : Option (List Lad)) (p : Pz) (v : List Int) : List Int × Int := if askE o p v ≠ 0 then ([], askE o p v) else sumsP v [] p.2
def wrongP (v : List Int) : Nat → List Int → List Rl → List Int
  | _, acc, [] => acc
  | i, acc, x :: l => wrongP v (i + 1) (if sumW v 0 x.2 = v.getD x.1.toNat 0 then acc else acc ++ [(i : Int)]) l
noncomputable def wrongPz (o : Option (List Lad)) (p : Pz) (v : List Int) : List Int × Int := if askE o p v ≠ 0 then ([], askE o p v) else (wrongP v 0 [] p.2, 0)
theorem goR_range {lc : List Cl} : ∀ {lr : List Rl} {T S : List Int}, goR lc T S lr = true → ∀ x ∈ lr, (0 ≤ x.1 ∧ x.1 < lc.length) ∧ ∀ m ∈ x.2, 0 ≤ m ∧ m < lc.length
  | [], _, _, _, _, h => by cases h
  | y :: lr, T, S, h, x, hx => by
    rw [goR] at h
    by_cases c0 : y.1 < 0
    · rw [if_pos c0] at h; cases h
    rw [if_neg c0] at h
    by_cases c1 : (lc.length : Int) ≤ y.1
    · rw [if_pos c1] at h; cases h
    rw [if_neg c1] at h
    cases c2 : T.any (fun z => z == y.1) with
    | true => rw [c2, if_pos rfl] at h; cases h
    | false =>
    rw [c2, if_neg Bool.false_ne_true] at h
    cases c3 : partsB lc y.1 [] y.2 with
    | false => rw [c3, if_pos rfl] at h; cases h
    | true =>
    rw [c3, if_neg (by decide : ¬ (true = false))] at h
    rcases List.mem_cons.1 hx with rfl | hx
    · exact ⟨⟨by omega, by omega⟩, partsB_range lc _ _ [] c3⟩
    · exact goR_range h x hx
theorem askE_ok {o : Option (List Lad)} {p : Pz} {v : List Int} (h : askE o p v = 0) : p.1.length ≤ 64 ∧ p.2.length ≤ 64 ∧ v.length = p.1.length ∧ chkPz o p = 0 ∧ ∀ x ∈ p.2, (0 ≤ x.1 ∧ x.1 < v.length) ∧ ∀ m ∈ x.2, 0 ≤ m ∧ m < v.length := by
  unfold askE at h
  by_cases c0 : chkPz o p ≠ 0
  · rw [if_pos c0] at h; exact absurd h c0
  rw [if_neg c0] at h
  have c0 := Classical.not_not.1 c0
  obtain ⟨_, _, h1, h2, _, h4⟩ := chkPz_ok c0
  cases hv : valB p.1 v with
  | false => rw [if_pos hv] at h; cases h
  | true =>
    unfold valB at hv
    rw [Bool.and_eq_true] at hv
    have hl : v.length = p.1.length := by have := eq_of_beq hv.1; omega
    exact ⟨h1, h2, hl, c0, by rw [hl]; exact goR_range h4⟩
set_option maxRecDepth 10000 in
set_option maxHeartbeats 16000000 in
theorem sums_con (H : Hp) (k a b w : AC) (o : Option (List Lad)) (p : Pz) (v : List Int) (hk : BookO H k o) (hL : ∀ ls, o = some ls → ∀ x ∈ ls, x.2.length ≤ 1000000) (ha : SlCl H a p.1) (hb : SlRl H b p.2) (hB : PzB p) (hw : SlI H w v) (hV : v.length ≤ 4611686018427387904) :
    Con E2 20 [.one k, .agg [a, b], .one w] H (fun _ => False) fun r H' => ∃ c, r = .tup [(false, [c]), (false, [.i .i64 (sumsPz o p v).2])] ∧ SlI H' c (sumsPz o p v).1 := by
  refine Con.of rfl fun lg => ?_
  have hk : BookO ⟨H.t, H.nx, lg⟩ k o := BookO.same (H := H) rfl rfl hk
  have ha : SlCl ⟨H.t, H.nx, lg⟩ a p.1 := ha
  have hb : SlRl ⟨H.t, H.nx, lg⟩ b p.2 := hb
  have hw : SlI ⟨H.t, H.nx, lg⟩ w v := hw
  generalize (⟨H.t, H.nx, lg⟩ : Hp) = H at hk ha hb hw ⊢
  refine C1.body (E := E2) (nt := 38) (res := [.tmp 6, .tmp 7]) Tryz.func20 rfl rfl rfl rfl rfl fun tm hargs => ?_
  have h0 := hargs 0 _ rfl
  have h1 := hargs 1 _ rfl
  have h2 := hargs 2 _ rfl
  clear hargs
  generalize hr0 : sumsPz o p v = r0
  have fin : ∀ (c : AC) (e : Int) (A : AAct) (H3 : Hp), slot A.tm 6 = .one c → slot A.tm 7 = .one (.i .i64 e) → A.dfr = [] → Gr H H3 → SlI H3 c r0.1 ∧ e = r0.2 → ∃ w H4, callEnd E2 [.tmp 6, .tmp 7] (.ret, A, H3) = .ok [(w, H4)] ∧ Gr H H4 ∧ ∀ lg' : List Nat, ∃ c, w = .tup [(false, [c]), (false, [.i .i64 r0.2])] ∧ SlI ⟨H4.t, H4.nx, lg'⟩ c r0.1 := fun c e A H3 h1 h2 h3 h4 h5 => ⟨_, H3, callEnd_two c (.i .i64 e) (.inr rfl) h3 h1 h2, h4, fun _ => ⟨c, by rw [h5.2], h5.1⟩⟩
  unfold sumsPz at hr0
  refine zG tyF fun K hK => ?_
  refine hK.out _ _ ?_
  refine R1.gen (fun A1 H1 => Gr H H1 ∧ H.nx < H1.nx ∧ H1.get H.nx = some (.arr [a, b] 42 0 0) ∧ slot A1.tm 0 = .one (k) ∧ slot A1.tm 2 = .one (w) ∧ slot A1.tm 4 = .one ((.o (.ptr H.nx 0 0 2))) ∧ A1.nt = 38 ∧ A1.dfr = []) ⟨(Fr.refl _).new _, Nat.lt_succ_self _, get_newE rfl, zL⟩ ?_
  rintro A1 H1 ⟨g1, m1, rx, t0, t2, t4, hnt, hdf⟩
  clear h0 h1 h2 tm hK K
  have hk := hk.gr g1
  have ha := ha.gr g1
  have hb := hb.gr g1
  have hw := hw.gr g1
  refine zG (qA tyF bd_checkValues) fun K hK => ?_
  refine WE.con (checkValues_con H1 k a b w o p v hk hL ha hb hB hw hV) fun w' H2 g2 hq => ?_
  subst hq
  have rx := (g2.get _ m1 not_false).trans rx
  have m1 := Nat.lt_of_lt_of_le m1 g2.nx
  have hb := hb.gr g2
  have hw := hw.gr g2
  have g2 := g1.gr g2
  clear g1 hk ha
  have hok := @askE_ok o p v
  generalize askE o p v = e0 at hr0 hok
  by_cases he0 : e0 = 0
  case neg =>
    have ce : (e0 == 0) = false := beq_false_of_ne he0
    refine zK tyF ?_
    exact fin (.o .nilS) (e0) _ _ qp qp qe (g2) (⟨by rw [← hr0, if_pos he0]; exact SlI.nil, by rw [← hr0, if_pos he0]⟩)
  rw [if_neg (fun h => h he0)] at hr0
  obtain ⟨hC, hR, hvl, _, hrg⟩ := hok he0
  clear hok
  have hP := hB.p
  obtain ⟨lc, lr⟩ := p
  simp only at hr0 hb hC hR hvl hrg hP
  clear hvl
  have ce : (e0 == 0) = true := by rw [he0]; rfl
  obtain ⟨N, hN⟩ : ∃ N, N = H.nx := ⟨_, rfl⟩
  rw [← hN] at m1 rx t4
  clear hN
  obtain ⟨zi, hzi, hzil⟩ := zx_int
  have l1 := hb.len
  have l2 := hb.lt
  refine zK tyF ?_
  refine R1.s_bl fun K k1 k2 k3 k4 => ?_
  refine R1.loop (fun m A H3 => ∃ (i : Nat) (out : List Int) (u : AC) (r : Option Nat), m = lr.length - i ∧ i ≤ lr.length ∧ out.length ≤ i ∧ Gr H2 H3 ∧ sumsP v out (lr.drop i) = r0 ∧ OwnR H3 u 3 1 out.length (out.flatMap intC) r ∧ (∀ q, r = some q → H2.nx ≤ q) ∧ slot A.tm 0 = .one (k) ∧ slot A.tm 2 = .one (w) ∧ slot A.tm 9 = .one (u) ∧ slot A.tm 21 = .one (b) ∧ slot A.tm 22 = .one (.i .i64 (lr.length : Int)) ∧ slot A.tm 23 = .one (.i .i64 (i : Int)) ∧ A.nt = 38 ∧ A.dfr = []) ?_ lr.length
    ⟨0, [], .o .nilS, none, rfl, Nat.zero_le _, Nat.zero_le _, Fr.refl _, hr0, .inl ⟨rfl, rfl, rfl, rfl⟩, fun q hq => (by cases hq), zL⟩
  clear t0 t2 t4 hnt hdf A1 hr0 l1 l2 k3 hK
  rintro m A H3 ⟨i, out, u, r, rfl, hi, hout, g3, hr, hown, hrow, t0, t2, t9, t21, t22, t23, hnt, hdf⟩
  refine zW tyF ?_
  refine zI tyF (fun hc => ?_) (fun hc => ?_)
  · have hlt : i < lr.length := by omega
    have ex : lr[i]? = some lr[i] := List.getElem?_eq_getElem hlt
    have hdr : lr.drop i = lr[i] :: lr.drop (i + 1) := List.drop_eq_getElem_cons hlt
    have htk : lr.take (i + 1) = lr.take i ++ [lr[i]] := List.take_succ_eq_append_getElem hlt
    have hmem : lr[i] ∈ lr := List.getElem_mem hlt
    generalize lr[i] = x at ex hdr htk hmem
    have hw2 : IntKind.i64.wrap ((i : Int) + 1) = ((i + 1 : Nat) : Int) := by rw [wrapI (by omega) (by omega)]; omega
    obtain ⟨⟨hx0, hxn⟩, hxp⟩ := hrg x hmem
    have hPx := hP x hmem
    obtain ⟨id, g, off, cells, rfl, hid, hgr, hat⟩ := (hb.gr g3).open (by omega)
    obtain ⟨u1, hx1⟩ := hat i x ex
    obtain ⟨hu1, y1, y2, _, _, _, _⟩ := hx1
    clear hat
    rw [hdr, sumsP] at hr
    refine zW tyF ?_
    refine R1.s_bl fun K2 q1 q2 q3 q4 => ?_
    refine zG (qA tyF (ixC hlt)) fun K hK => ?_
    refine hK.out _ _ ?_
    refine R1.gen (fun A4 H4 => Gr H3 H4 ∧ H3.nx < H4.nx ∧ H4.get H3.nx = some (.arr [.i .i64 x.1, u1] 92 0 0) ∧ slot A4.tm 0 = .one (k) ∧ slot A4.tm 2 = .one (w) ∧ slot A4.tm 9 = .one (u) ∧ slot A4.tm 11 = .one ((.o (.ptr H3.nx 0 0 2))) ∧ slot A4.tm 21 = .one ((.o (.sl id g off lr.length 2))) ∧ slot A4.tm 22 = .one (.i .i64 (lr.length : Int)) ∧ slot A4.tm 23 = .one (.i .i64 (i : Int)) ∧ A4.nt = 38 ∧ A4.dfr = [])
      ⟨((Fr.refl _).new _).mod _ (.inl (Nat.le_refl _)), Nat.lt_succ_self _, get_modE rfl, zL⟩ ?_
    clear t0 t2 t9 t21 t22 t23 hnt hdf A hgr hid y1 y2 hK K
    rintro A H4 ⟨g4, n4, rx, t0, t2, t9, t11, t21, t22, t23, hnt, hdf⟩
    refine zG (qA tyF bd_sumPz) fun K hK => ?_
    refine WE.con (sumPz_con H4 u1 w x.1 x.2 v (hu1.gr g4) ((hw.gr g3).gr g4) hxp (by omega)) fun w' H5 g5 hq => ?_
    subst hq
    have g35 := g4.gr g5
    generalize sumW v 0 x.2 = n at hr
    by_cases hbig : 1099511627776 < n
    · refine zK tyF ?_
      exact q4.out _ _ (k4.out _ _ (fin (.o .nilS) (6) _ _ qp qp qe (g2.gr (g3.gr g35)) (⟨by rw [← hr, if_pos hbig]; exact SlI.nil, by rw [← hr, if_pos hbig]⟩)))
    rw [if_neg hbig] at hr
    refine zK tyF ?_
    obtain ⟨hlt5, v6, H6, r6, happ, ho6, hf6, hr6⟩ := push_own el_ints by_int hzi hzil (by decide) (hown.fr g35 fun _ _ h => h) [.i .i64 (n)] rfl (by omega)
    clear hzi hzil
    refine zG (qA tyF (qA (repl1) happ)) fun K hK => ?_
    refine ⟨hlt5, ?_⟩
    refine zK tyF ?_
    refine q1.out _ _ ?_
    refine zW tyF ?_
    refine ⟨lr.length - (i + 1), by omega, i + 1, out ++ [n], v6, some r6, rfl, hlt, by rw [List.length_append]; exact Nat.succ_le_succ hout, (g3.gr g35).then hf6 fun q hq => .inl (hrow q hq), hr, ?_, fun q hq => ?_, zL⟩
    · rw [List.length_append, List.flatMap_append]; exact ho6
    · cases hq
      rcases hr6 with e | e
      · exact hrow _ e
      · exact Nat.le_trans (g3.gr g35).nx e
  · have hie : i = lr.length := by omega
    refine zW tyF ?_
    refine k2.out _ _ ?_
    refine zW tyF ?_
    rw [hie, List.drop_length, sumsP] at hr
    exact fin (u) (0) _ _ qp qp qe (g2.gr g3) (⟨by rw [← hr]; exact hown.slc, by rw [← hr]⟩)
set_option maxRecDepth 10000 in
set_option maxHeartbeats 16000000 in
theorem wrong_con (H : Hp) (k a b w : AC) (o : Option (List Lad)) (p : Pz) (v : List Int) (hk : BookO H k o) (hL : ∀ ls, o = some ls → ∀ x ∈ ls, x.2.length ≤ 1000000) (ha : SlCl H a p.1) (hb : SlRl H b p.2) (hB : PzB p) (hw : SlI H w v) (hV : v.length ≤ 4611686018427387904) :
    Con E2 22 [.one k, .agg [a, b], .one w] H (fun _ => False) fun r H' => ∃ c, r = .tup [(false, [c]), (false, [.i .i64 (wrongPz o p v).2])] ∧ SlI H' c (wrongPz o p v).1 := by
  refine Con.of rfl fun lg => ?_
  have hk : BookO ⟨H.t, H.nx, lg⟩ k o := BookO.same (H := H) rfl rfl hk
  have ha : SlCl ⟨H.t, H.nx, lg⟩ a p.1 := ha
  have hb : SlRl ⟨H.t, H.nx, lg⟩ b p.2 := hb
  have hw : SlI ⟨H.t, H.nx, lg⟩ w v := hw
  generalize (⟨H.t, H.nx, lg⟩ : Hp) = H at hk ha hb hw ⊢
  refine C1.body (E := E2) (nt := 42) (res := [.tmp 6, .tmp 7]) Tryz.func22 rfl rfl rfl rfl rfl fun tm hargs => ?_
  have h0 := hargs 0 _ rfl
  have h1 := hargs 1 _ rfl
  have h2 := hargs 2 _ rfl
  clear hargs
  generalize hr0 : wrongPz o p v = r0
  have fin : ∀ (c : AC) (e : Int) (A : AAct) (H3 : Hp), slot A.tm 6 = .one c → slot A.tm 7 = .one (.i .i64 e) → A.dfr = [] → Gr H H3 → SlI H3 c r0.1 ∧ e = r0.2 → ∃ w H4, callEnd E2 [.tmp 6, .tmp 7] (.ret, A, H3) = .ok [(w, H4)] ∧ Gr H H4 ∧ ∀ lg' : List Nat, ∃ c, w = .tup [(false, [c]), (false, [.i .i64 r0.2])] ∧ SlI ⟨H4.t, H4.nx, lg'⟩ c r0.1 := fun c e A H3 h1 h2 h3 h4 h5 => ⟨_, H3, callEnd_two c (.i .i64 e) (.inr rfl) h3 h1 h2, h4, fun _ => ⟨c, by rw [h5.2], h5.1⟩⟩
  unfold wrongPz at hr0
  refine zG tyF fun K hK => ?_
  refine hK.out _ _ ?_
  refine R1.gen (fun A1 H1 => Gr H H1 ∧ H.nx < H1.nx ∧ H1.get H.nx = some (.arr [a, b] 42 0 0) ∧ slot A1.tm 0 = .one (k) ∧ slot A1.tm 2 = .one (w) ∧ slot A1.tm 4 = .one ((.o (.ptr H.nx 0 0 2))) ∧ A1.nt = 42 ∧ A1.dfr = []) ⟨(Fr.refl _).new _, Nat.lt_succ_self _, get_newE rfl, zL⟩ ?_
  rintro A1 H1 ⟨g1, m1, rx, t0, t2, t4, hnt, hdf⟩
  clear h0 h1 h2 tm hK K
  have hk := hk.gr g1
  have ha := ha.gr g1
  have hb := hb.gr g1
  have hw := hw.gr g1
  refine zG (qA tyF bd_checkValues) fun K hK => ?_
  refine WE.con (checkValues_con H1 k a b w o p v hk hL ha hb hB hw hV) fun w' H2 g2 hq => ?_
  subst hq
  have rx := (g2.get _ m1 not_false).trans rx
  have m1 := Nat.lt_of_lt_of_le m1 g2.nx
  have hb := hb.gr g2
  have hw := hw.gr g2
  have g2 := g1.gr g2
  clear g1 hk ha
  have hok := @askE_ok o p v
  generalize askE o p v = e0 at hr0 hok
  by_cases he0 : e0 = 0
  case neg =>
    have ce : (e0 == 0) = false := beq_false_of_ne he0
    refine zK tyF ?_
    exact fin (.o .nilS) (e0) _ _ qp qp qe (g2) (⟨by rw [← hr0, if_pos he0]; exact SlI.nil, by rw [← hr0, if_pos he0]⟩)
  rw [if_neg (fun h => h he0)] at hr0
  obtain ⟨hC, hR, hvl, _, hrg⟩ := hok he0
  clear hok
  have hP := hB.p
  obtain ⟨lc, lr⟩ := p
  simp only at hr0 hb hC hR hvl hrg hP
  clear hvl
  have ce : (e0 == 0) = true := by rw [he0]; rfl
  obtain ⟨N, hN⟩ : ∃ N, N = H.nx := ⟨_, rfl⟩
  rw [← hN] at m1 rx t4
  clear hN
  obtain ⟨zi, hzi, hzil⟩ := zx_int
  have l1 := hb.len
  have l2 := hb.lt
  refine zK tyF ?_
  refine R1.s_bl fun K k1 k2 k3 k4 => ?_
  refine R1.loop (fun m A H3 => ∃ (i : Nat) (out : List Int) (u : AC) (r : Option Nat), m = lr.length - i ∧ i ≤ lr.length ∧ out.length ≤ i ∧ Gr H2 H3 ∧ (wrongP v i out (lr.drop i), 0) = r0 ∧ OwnR H3 u 3 1 out.length (out.flatMap intC) r ∧ (∀ q, r = some q → H2.nx ≤ q) ∧ slot A.tm 0 = .one (k) ∧ slot A.tm 2 = .one (w) ∧ slot A.tm 9 = .one (u) ∧ slot A.tm 20 = .one (b) ∧ slot A.tm 21 = .one (.i .i64 (lr.length : Int)) ∧ slot A.tm 22 = .one (.i .i64 (i : Int)) ∧ A.nt = 42 ∧ A.dfr = []) ?_ lr.length
    ⟨0, [], .o .nilS, none, rfl, Nat.zero_le _, Nat.zero_le _, Fr.refl _, hr0, .inl ⟨rfl, rfl, rfl, rfl⟩, fun q hq => (by cases hq), zL⟩
  clear t0 t2 t4 hnt hdf A1 hr0 l1 l2 k3 hK
  rintro m A H3 ⟨i, out, u, r, rfl, hi, hout, g3, hr, hown, hrow, t0, t2, t9, t20, t21, t22, hnt, hdf⟩
  refine zW tyF ?_
  refine zI tyF (fun hc => ?_) (fun hc => ?_)
  · have hlt : i < lr.length := by omega
    have ex : lr[i]? = some lr[i] := List.getElem?_eq_getElem hlt
    have hdr : lr.drop i = lr[i] :: lr.drop (i + 1) := List.drop_eq_getElem_cons hlt
    have htk : lr.take (i + 1) = lr.take i ++ [lr[i]] := List.take_succ_eq_append_getElem hlt
    have hmem : lr[i] ∈ lr := List.getElem_mem hlt
    generalize lr[i] = x at ex hdr htk hmem
    have hw2 : IntKind.i64.wrap ((i : Int) + 1) = ((i + 1 : Nat) : Int) := by rw [wrapI (by omega) (by omega)]; omega
    obtain ⟨⟨hx0, hxn⟩, hxp⟩ := hrg x hmem
    have hPx := hP x hmem
    obtain ⟨id, g, off, cells, rfl, hid, hgr, hat⟩ := (hb.gr g3).open (by omega)
    obtain ⟨u1, hx1⟩ := hat i x ex
    obtain ⟨hu1, y1, y2, _, _, _, _⟩ := hx1
    clear hat
    rw [hdr, wrongP] at hr
    refine zW tyF ?_
    refine R1.s_bl fun K2 q1 q2 q3 q4 => ?_
    refine zG (qA tyF (ixC hlt)) fun K hK => ?_
    refine hK.out _ _ ?_
    refine R1.gen (fun A4 H4 => Gr H3 H4 ∧ H3.nx < H4.nx ∧ H4.get H3.nx = some (.arr [.i .i64 x.1, u1] 92 0 0) ∧ slot A4.tm 0 = .one (k) ∧ slot A4.tm 2 = .one (w) ∧ slot A4.tm 9 = .one (u) ∧ slot A4.tm 10 = .one (.i .i64 (i : Int)) ∧ slot A4.tm 11 = .one ((.o (.ptr H3.nx 0 0 2))) ∧ slot A4.tm 20 = .one ((.o (.sl id g off lr.length 2))) ∧ slot A4.tm 21 = .one (.i .i64 (lr.length : Int)) ∧ slot A4.tm 22 = .one (.i .i64 (i : Int)) ∧ A4.nt = 42 ∧ A4.dfr = [])
      ⟨((Fr.refl _).new _).mod _ (.inl (Nat.le_refl _)), Nat.lt_succ_self _, get_modE rfl, zL⟩ ?_
    clear t0 t2 t9 t20 t21 t22 hnt hdf A hgr hid y1 y2 hK K
    rintro A H4 ⟨g4, n4, rx, t0, t2, t9, t10, t11, t20, t21, t22, hnt, hdf⟩
    have hw4 := (hw.gr g3).gr g4
    obtain ⟨id', g', off', cells', rfl, hid4, hgr4, hat'⟩ := hw4.open (by omega)
    have ev : v[x.1.toNat]? = some (v.getD x.1.toNat 0) := by rw [List.getD_eq_getElem?_getD, List.getElem?_eq_getElem (by omega)]; rfl
    obtain ⟨e3, e4⟩ := hat' _ _ ev
    clear hat'
    repeat refine R1.s_assoc ?_
    (first | refine R1.s_drw (ms := [0, 0, 3, 0, 0, 16, 56, 120, 255]) (by kernel_rfl) (by kernel_rfl) fun K hK => ?_ | refine R1.e_drw (ms := [0, 0, 3, 0, 0, 16, 56, 120, 255]) (by kernel_rfl) (by kernel_rfl) fun K hK => ?_)
    simp (config := {decide := true}) only [qB, slotOk, Nat.reduceLT, Nat.reduceAdd, qD, Untou, unordS, E2_P, t2, t11, hnt, rx, n4, ld_rule, bd_sumPz]
    refine DC_conG (.one (.i .i64 (sumW v 0 x.2))) ?_ (fun h hg => sumPz_con h u1 _ x.1 x.2 v ((hu1.gr g4).gr hg) (hw4.gr hg) hxp (by omega)) ?_
    · exact unU (by simp (config := {decide := true}) only [unordS, if_true])
    intro kx H5 hkx hn5 g5
    subst hn5
    have g35 := g4.gr g5
    have rx5 := (g5.get _ n4 not_false).trans rx
    have n5 := Nat.lt_of_lt_of_le n4 g5.nx
    have hid5 := Nat.lt_of_lt_of_le hid4 g5.nx
    have hgr5 : rowOf (H5.get id') g' = some cells' := by rw [g5.get _ hid4 not_false]; exact hgr4
    generalize sumW v 0 x.2 = n at hr ⊢
    generalize v.getD x.1.toNat 0 = n2 at hr e3
    by_cases hq : n = n2
    · have ce : (n == n2) = true := beq_iff_eq.2 hq
      rw [if_pos hq] at hr
      simp (config := {decide := true}) only [qB, Nat.reduceLT, Nat.reduceLeDiff, Nat.reduceAdd, Nat.reduceSub, qD, Untou, unordS, t2, t11, hnt, rx5, n5, n4, fd_rule_0, ld_int, el_ints, indexAddr_int hx0 hxn, hid4, hid5, hgr5, e3, e4, ce]
      refine hK _ _ ?_
      refine zW tyF ?_
      refine q1.out _ _ ?_
      refine zW tyF ?_
      exact ⟨lr.length - (i + 1), by omega, i + 1, out, u, r, rfl, hlt, Nat.le_succ_of_le hout, g3.gr g35, hr, hown.fr g35 fun _ _ h => h, hrow, zL⟩
    · have ce : (n == n2) = false := beq_false_of_ne hq
      rw [if_neg hq] at hr
      simp (config := {decide := true}) only [qB, Nat.reduceLT, Nat.reduceLeDiff, Nat.reduceAdd, Nat.reduceSub, qD, Untou, unordS, t2, t11, hnt, rx5, n5, n4, fd_rule_0, ld_int, el_ints, indexAddr_int hx0 hxn, hid4, hid5, hgr5, e3, e4, ce]
      refine hK _ _ ?_
      refine zW tyF ?_
      obtain ⟨hlt5, v6, H6, r6, happ, ho6, hf6, hr6⟩ := push_own el_ints by_int hzi hzil (by decide) (hown.fr g35 fun _ _ h => h) [.i .i64 ((i : Int))] rfl (by omega)
      clear hzi hzil
      refine zG (qA tyF (qA (repl1) happ)) fun K hK => ?_
      refine ⟨hlt5, ?_⟩
      refine zK tyF ?_
      refine q1.out _ _ ?_
      refine zW tyF ?_
      refine ⟨lr.length - (i + 1), by omega, i + 1, out ++ [(i : Int)], v6, some r6, rfl, hlt, by rw [List.length_append]; exact Nat.succ_le_succ hout, (g3.gr g35).then hf6 fun q hq => .inl (hrow q hq), hr, ?_, fun q hq => ?_, zL⟩
      · rw [List.length_append, List.flatMap_append]; exact ho6
      · cases hq
        rcases hr6 with e | e
        · exact hrow _ e
        · exact Nat.le_trans (g3.gr g35).nx e
  · have hie : i = lr.length := by omega
    refine zW tyF ?_
    refine k2.out _ _ ?_
    refine zW tyF ?_
    rw [hie, List.drop_length, wrongP] at hr
    exact fin (u) (0) _ _ qp qp qe (g2.gr g3) (⟨by rw [← hr]; exact hown.slc, by rw [← hr]⟩)
end Go.Proofs.YtiejeicaaojdlaaGreat
