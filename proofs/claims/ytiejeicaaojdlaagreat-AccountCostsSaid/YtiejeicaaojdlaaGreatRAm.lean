/- A part of the proof: BkPz6, BkPz7, BkPz8, BkPz9, BkPz10, BkPzArg, BkFacts5, BkAll. No conditions. -/
import Derived.Test.YtiejeicaaojdlaaGreatRAl
import Derived.KernelRfl
namespace Go.Proofs.YtiejeicaaojdlaaGreat
open Go Go.Eng
theorem bd_checkRules : hasBody Tryz.prog 52 = true := by kernel_rfl
theorem zy_bool : ∃ z, zeroT Tryz.prog 4 = some z ∧ (ofValue z).cells = [.b false] := ⟨.bool false, zv_bool, rfl⟩
def ladC (lc : List Cl) (m : Int) : List UInt8 := (lc[m.toNat]?).elim [] fun x => x.2.2.1
def prevI (acc : List Int) (m : Int) : Bool := acc.getLast?.any fun y => decide (m ≤ y)
theorem prevI_take {l : List Int} {i : Nat} {x y : Int} (hi : 0 < i) (hy : l[i - 1]? = some y) : prevI (l.take i) x = decide (x ≤ y) := by
 have h : (l.take i).getLast? = some y := by
  have hlt := (List.getElem?_eq_some_iff.1 hy).1
  rw [List.getLast?_eq_getElem?, List.length_take, Nat.min_eq_left (by omega), List.getElem?_take, if_pos (by omega)]
  exact hy
 unfold prevI
 rw [h]; rfl
def partsB (lc : List Cl) (t : Int) : List Int → List Int → Bool
 | _, [] => true
 | acc, m :: l => if m < 0 then false else if (lc.length : Int) ≤ m then false else if prevI acc m = true then false else if ladC lc m ≠ ladC lc t then false else partsB lc t (acc ++ [m]) l
def goR (lc : List Cl) : List Int → List Int → List Rl → Bool
 | T, S, [] => (List.range lc.length).all fun j => !(T.any (fun x => x == (j : Int)) && S.any fun x => x == (j : Int))
 | T, S, x :: l => if x.1 < 0 then false else if (lc.length : Int) ≤ x.1 then false else if T.any (fun y => y == x.1) = true then false else if partsB lc x.1 [] x.2 = false then false else goR lc (T ++ [x.1]) (S ++ x.2) l
set_option maxRecDepth 10000 in
set_option maxHeartbeats 32000000 in
theorem checkRules_con (H : Hp) (a b : AC) (lc : List Cl) (lr : List Rl) (ha : SlCl H a lc) (hb : SlRl H b lr) (hC : lc.length ≤ 1000000) (hR : lr.length ≤ 1000000) (hP : ∀ x ∈ lr, x.2.length ≤ 4611686018427387904) :
  Con E2 52 [.agg [a, b]] H (fun _ => False) fun r _ => r = .one (.b (goR lc [] [] lr)) := by
 refine Con.of rfl fun lg => ?_
 have ha : SlCl ⟨H.t, H.nx, lg⟩ a lc := ha
 have hb : SlRl ⟨H.t, H.nx, lg⟩ b lr := hb
 generalize (⟨H.t, H.nx, lg⟩ : Hp) = H at ha hb ⊢
 refine C1.body (E := E2) (nt := 111) (res := [.tmp 2]) Tryz.func52 rfl rfl rfl rfl rfl fun tm hargs => ?_
 have h0 := hargs 0 _ rfl
 clear hargs
 have fin : ∀ (e : Bool) (A : AAct) (H3 : Hp), slot A.tm 2 = .one (.b e) → A.dfr = [] → Gr H H3 → e = goR lc [] [] lr → ∃ w H4, callEnd E2 [.tmp 2] (.ret, A, H3) = .ok [(w, H4)] ∧ Gr H H4 ∧ ∀ _ : List Nat, w = .one (.b (goR lc [] [] lr)) := fun e A H3 h1 h2 h3 h4 => ⟨_, H3, callEnd_one (.b e) (.inr rfl) h2 h1, h3, fun _ => by rw [h4]⟩
 generalize hr0 : goR lc [] [] lr = r0 at fin
 have hA := ha
 have hB := hb
 obtain ⟨z, hz, hzc⟩ := zy_bool
 have mk : ∀ H, doMakeSlice Tryz.prog H 156 (.one (.i .i64 (lc.length : Int))) (.one (.i .i64 (lc.length : Int))) = .val (.one (.o (.sl H.nx 0 0 lc.length 1))) (H.new (.arr ((List.replicate lc.length false).map AC.b) 4 0 0)) := fun H => by
  rw [make_slice el_bools by_bool hz (by rw [hzc]; rfl) (by omega), hzc, repl_eq, List.map_replicate]
 refine qG (qA E2_P h0) fun K hK => ?_
 refine hK _ _ ?_
 clear hK K
 refine R1.gen (fun A1 H1 => Gr H H1 ∧ H.nx + 1 = H1.nx ∧ H1.get H.nx = some (.arr [a, b] 42 0 0) ∧ slot A1.tm 1 = .one ((.o (.ptr H.nx 0 0 2))) ∧ A1.nt = 111 ∧ A1.dfr = [])
  ⟨(Fr.refl _).new _, rfl, ?_⟩ ?_
 ·exact qU
 rintro A1 H1 ⟨g1, n1, r1, t1, hnt, hdf⟩
 clear h0 tm
 obtain ⟨N, hN⟩ : ∃ N, N = H.nx := ⟨_, rfl⟩
 rw [← hN] at n1 r1 t1
 have m1 : N < H1.nx := by omega
 have ha := ha.gr g1
 have hb := hb.gr g1
 refine qW (qA E2_P (qA t1 (qA hnt (qA r1 (qA m1 (qA fd_puzzle_0 (qA ld_cells (qA ln_cells (qA ha.len (qA ha.lt mk)))))))))) ?_
 refine R1.gen (fun A2 H2 => Gr H1 H2 ∧ N + 3 = H2.nx ∧ H2.get N = some (.arr [a, b] 42 0 0) ∧ H2.get (N + 1) = some (.arr ((List.replicate lc.length false).map AC.b) 4 0 0) ∧ H2.get (N + 2) = some (.arr ((List.replicate lc.length false).map AC.b) 4 0 0) ∧ slot A2.tm 1 = .one ((.o (.ptr N 0 0 2))) ∧ slot A2.tm 3 = .one (.i .i64 (lc.length : Int)) ∧ slot A2.tm 4 = .one ((.o (.sl (N + 1) 0 0 lc.length 1))) ∧ slot A2.tm 5 = .one ((.o (.sl (N + 2) 0 0 lc.length 1))) ∧ A2.nt = 111 ∧ A2.dfr = [])
  ⟨((Fr.refl _).new _).new _, by show _ = H1.nx + 1 + 1; omega, ?_, ?_, ?_, ?_⟩ ?_
 ·rw [get_newL (by show _ < H1.nx + 1; omega), get_newL m1]; exact r1
 ·rw [get_newL (by show _ < H1.nx + 1; omega)]; exact get_newE n1
 ·exact get_newE (by show _ = H1.nx + 1; omega)
 ·rw [n1]
  have e2 : N + 2 = H1.nx + 1 := by omega
  rw [e2]
  repeat' (first | (simp only [slot_put, Nat.reduceEqDiff, reduceIte, putD_nt, putD_dfr, t1, hnt, hdf]; first | done | rfl) | refine ⟨?_, ?_⟩)
 clear t1 hnt hdf A1
 rintro A2 H2 ⟨g2, n2, r1, rs, rp, t1, t3, t4, t5, hnt, hdf⟩
 clear m1 n1
 have m1 : N < H2.nx := by omega
 have ha := ha.gr g2
 have hb := hb.gr g2
 have g2 := g1.gr g2
 clear g1
 have fits : ∀ {m : Int} {bs : List Bool}, bs.length = lc.length → 0 ≤ m → m < lc.length → m.toNat + 1 ≤ (bs.map AC.b).length := fun h h1 h2 => by rw [List.length_map, h]; omega
 have put : ∀ {m : Int} {bs : List Bool}, bs.length = lc.length → 0 ≤ m → m < lc.length → List.take m.toNat (List.map AC.b bs) ++ AC.b true :: List.drop (m.toNat + 1) (List.map AC.b bs) = (bs.set m.toNat true).map AC.b := fun h h1 h2 => setRow AC.b _ _ _ (by rw [h]; omega)
 refine qW (qA E2_P (qA t1 (qA hnt (qA r1 (qA m1 (qA fd_puzzle_1 (qA ld_rules (qA ln_rules (qA hb.len hb.lt))))))))) ?_
 refine R1.s_block fun K k1 k2 k3 k4 => ?_
 refine R1.loop (fun m A H3 => ∃ (i : Nat) (T S : List Int) (bs ps : List Bool), m = lr.length - i ∧ i ≤ lr.length ∧ Gr H H3 ∧ N + 3 ≤ H3.nx ∧ H3.get N = some (.arr [a, b] 42 0 0) ∧ H3.get (N + 1) = some (.arr (bs.map AC.b) 4 0 0) ∧ H3.get (N + 2) = some (.arr (ps.map AC.b) 4 0 0) ∧ Mk bs lc.length T ∧ Mk ps lc.length S ∧ goR lc T S (lr.drop i) = r0 ∧
   slot A.tm 1 = .one ((.o (.ptr N 0 0 2))) ∧ slot A.tm 3 = .one (.i .i64 (lc.length : Int)) ∧ slot A.tm 4 = .one ((.o (.sl (N + 1) 0 0 lc.length 1))) ∧ slot A.tm 5 = .one ((.o (.sl (N + 2) 0 0 lc.length 1))) ∧ slot A.tm 19 = .one (b) ∧ slot A.tm 20 = .one (.i .i64 (lr.length : Int)) ∧ slot A.tm 21 = .one (.i .i64 (i : Int)) ∧ A.nt = 111 ∧ A.dfr = []) ?_ lr.length
  ⟨0, [], [], _, _, rfl, Nat.zero_le _, g2, Nat.le_of_eq n2, r1, rs, rp, Mk.nil _, Mk.nil _, hr0, ?_⟩
 ·clear t1 t3 t4 t5 hnt hdf A2 r1 rs rp hr0
  rintro m A H3 ⟨i, T, S, bs, ps, rfl, hi, g3, n3, r1, rs, rp, hT, hS, hr, t1, t3, t4, t5, t19, t20, t21, hnt, hdf⟩
  have hb3 := hB.gr g3
  have m1 : N < H3.nx := by omega
  have o1 : N + 1 < H3.nx := by omega
  have o2 : N + 2 < H3.nx := by omega
  refine qW (qA E2_P (qA t20 (qA t21 hnt))) ?_
  refine qE fun Kx Ky hx hy => ?_
  refine iteI (fun hc => hx ?_) (fun hc => hy ?_)
  ·clear hx hy Kx Ky
   have hlt : i < lr.length := by omega
   have ex : lr[i]? = some lr[i] := List.getElem?_eq_getElem hlt
   have hdr : lr.drop i = lr[i] :: lr.drop (i + 1) := List.drop_eq_getElem_cons hlt
   have htk : lr.take (i + 1) = lr.take i ++ [lr[i]] := List.take_succ_eq_append_getElem hlt
   have hmem : lr[i] ∈ lr := List.getElem_mem hlt
   generalize lr[i] = x at ex hdr htk hmem
   have hw2 : IntKind.i64.wrap ((i : Int) + 1) = ((i + 1 : Nat) : Int) := by rw [wrapI (by omega) (by omega)]; omega
   obtain ⟨id, g, off, cells, rfl, hid0, hgr0, hat⟩ := hB.open (by omega)
   have hid : id < H3.nx := Nat.lt_of_lt_of_le hid0 g3.nx
   have hgr : rowOf (H3.get id) g = some cells := by rw [g3.get _ hid0 not_false]; exact hgr0
   obtain ⟨u, hx1⟩ := hat i x ex
   have hu := hx1.of
   have hPx := hP x hmem
   rw [hdr, goR] at hr
   generalize hb1 : partsB lc x.1 [] x.2 = b1 at hr
   generalize hr1 : (if b1 = false then false else goR lc (T ++ [x.1]) (S ++ x.2) (lr.drop (i + 1))) = r1' at hr
   refine qV ?_
   refine R1.s_block fun K2 q1 q2 q3 q4 => ?_
   refine qG (qA E2_P (qA t19 (qA t21 (qA hnt (qA el_rules (qA ld_rule (qA sz_rule (qA zr_rule (qA (ixC hlt) (qA hid (qA hgr (qA hx1.all hx1.le)))))))))))) fun K hK => ?_
   refine hK _ _ ?_
   clear hK K
   refine R1.gen (fun A4 H4 => Gr H3 H4 ∧ H3.nx < H4.nx ∧ H4.get H3.nx = some (.arr [.i .i64 x.1, u] 92 0 0) ∧ slot A4.tm 1 = .one ((.o (.ptr N 0 0 2))) ∧ slot A4.tm 3 = .one (.i .i64 (lc.length : Int)) ∧ slot A4.tm 4 = .one ((.o (.sl (N + 1) 0 0 lc.length 1))) ∧ slot A4.tm 5 = .one ((.o (.sl (N + 2) 0 0 lc.length 1))) ∧ slot A4.tm 7 = .one ((.o (.ptr H3.nx 0 0 2))) ∧ slot A4.tm 19 = .one ((.o (.sl id g off lr.length 2))) ∧ slot A4.tm 20 = .one (.i .i64 (lr.length : Int)) ∧ slot A4.tm 21 = .one (.i .i64 (i : Int)) ∧ A4.nt = 111 ∧ A4.dfr = [])
    ⟨((Fr.refl _).new _).mod _ (.inl (Nat.le_refl _)), ?_⟩ ?_
   ·exact qZ (qA t1 (qA t3 (qA t4 (qA t5 (qA t19 (qA t20 (qA t21 (qA hnt hdf))))))))
   clear t1 t3 t4 t5 t19 t20 t21 hnt hdf A
   rintro A H4 ⟨g4, n4, rx, t1, t3, t4, t5, t7, t19, t20, t21, hnt, hdf⟩
   obtain ⟨M, hM⟩ : ∃ M, M = H3.nx := ⟨_, rfl⟩
   rw [← hM] at rx n4 t7
   have r1 := (g4.get _ m1 not_false).trans r1
   have m1 := Nat.lt_of_lt_of_le m1 g4.nx
   have rs := (g4.get _ o1 not_false).trans rs
   have o1 := Nat.lt_of_lt_of_le o1 g4.nx
   have rp := (g4.get _ o2 not_false).trans rp
   have o2 := Nat.lt_of_lt_of_le o2 g4.nx
   have hNM : N + 3 ≤ M := by omega
   have g4 := g3.gr g4
   clear hgr hid hb3 hx1 hat hid0 hgr0
   repeat refine R1.s_assoc ?_
   (first | refine R1.s_rg fun K hK => ?_ | refine R1.e_rg fun K hK => ?_)
   have rest : ∀ (b : Bool) (A5 : AAct), (b = false → 0 ≤ x.1 ∧ x.1 < lc.length) → (if b = true then false else r1') = r0 → slot A5.tm 1 = .one ((.o (.ptr N 0 0 2))) ∧ slot A5.tm 3 = .one (.i .i64 (lc.length : Int)) ∧ slot A5.tm 4 = .one ((.o (.sl (N + 1) 0 0 lc.length 1))) ∧ slot A5.tm 5 = .one ((.o (.sl (N + 2) 0 0 lc.length 1))) ∧ slot A5.tm 7 = .one ((.o (.ptr M 0 0 2))) ∧ slot A5.tm 19 = .one ((.o (.sl id g off lr.length 2))) ∧ slot A5.tm 20 = .one (.i .i64 (lr.length : Int)) ∧ slot A5.tm 21 = .one (.i .i64 (i : Int)) ∧ slot A5.tm 40 = .one (.b b) ∧ A5.nt = 111 ∧ A5.dfr = [] → K A5 H4 := by
    clear hr t1 t3 t4 t5 t7 t19 t20 t21 hnt hdf A
    rintro b A hxb hr ⟨t1, t3, t4, t5, t7, t19, t20, t21, t40, hnt, hdf⟩
    refine hK _ _ ?_
    clear hK K
    cases b with
    | true =>
     rw [if_pos rfl] at hr
     refine qX t40 ?_
     refine qW hnt ?_
     exact q4 _ _ (k4 _ _ (fin (false) _ _ qp (qd hdf) (g4) (hr)))
    | false =>
    rw [if_neg Bool.false_ne_true] at hr
    obtain ⟨hx0, hxn⟩ := hxb rfl
    refine qX t40 ?_
    refine R1.s_skip ?_
    refine qG (qA E2_P (qA t4 (qA t7 (qA hnt (qA rx (qA n4 (qA rs (qA o1 (qA fd_rule_0 (qA ld_int (qA el_bools (qA sz_bool (qA (ixI hx0 hxn) (qA Nat.mul_one (qA (fits hT.1 hx0 hxn) (put hT.1 hx0 hxn)))))))))))))))) fun K hK => ?_
    refine hK _ _ ?_
    clear hK K
    have hT := hT.set hx0 hxn
    generalize bs.set x.1.toNat true = bs at hT ⊢
    have g5 : Gr H (H4.mod (N + 1) (.arr (bs.map AC.b) 4 0 0)) := g4.mod _ (.inl (by omega))
    have r1 : (H4.mod (N + 1) (.arr (bs.map AC.b) 4 0 0)).get N = _ := (get_modN (by omega)).trans r1
    have rx : (H4.mod (N + 1) (.arr (bs.map AC.b) 4 0 0)).get M = _ := (get_modN (by omega)).trans rx
    have rp : (H4.mod (N + 1) (.arr (bs.map AC.b) 4 0 0)).get (N + 2) = _ := (get_modN (by omega)).trans rp
    have rs : (H4.mod (N + 1) (.arr (bs.map AC.b) 4 0 0)).get (N + 1) = _ := get_modE rfl
    have n5 : M < (H4.mod (N + 1) (.arr (bs.map AC.b) 4 0 0)).nx := n4
    generalize (H4.mod (N + 1) (.arr (bs.map AC.b) 4 0 0)) = H5 at g5 r1 rx rp rs n5 ⊢
    clear g4 n4 m1 o1 o2
    have hu5 := hu.gr g5
    refine qG (qA E2_P (qA t7 (qA hnt (qA rx (qA n5 (qA fd_rule_1 (qA ld_ints (qA ln_ints (qA hu5.len hu5.lt))))))))) fun K hK => ?_
    refine hK _ _ ?_
    clear hK K
    refine R1.e_block fun K p1 p2 p3 p4 => ?_
    refine R1.loop (fun m A H6 => ∃ (j : Nat) (ps : List Bool), m = x.2.length - j ∧ j ≤ x.2.length ∧ Gr H H6 ∧ M < H6.nx ∧ H6.get N = some (.arr [a, .o (.sl id g off lr.length 2)] 42 0 0) ∧ H6.get (N + 1) = some (.arr (bs.map AC.b) 4 0 0) ∧ H6.get (N + 2) = some (.arr (ps.map AC.b) 4 0 0) ∧ H6.get M = some (.arr [.i .i64 x.1, u] 92 0 0) ∧ Mk ps lc.length (S ++ x.2.take j) ∧ partsB lc x.1 (x.2.take j) (x.2.drop j) = b1 ∧
     slot A.tm 1 = .one ((.o (.ptr N 0 0 2))) ∧ slot A.tm 3 = .one (.i .i64 (lc.length : Int)) ∧ slot A.tm 4 = .one ((.o (.sl (N + 1) 0 0 lc.length 1))) ∧ slot A.tm 5 = .one ((.o (.sl (N + 2) 0 0 lc.length 1))) ∧ slot A.tm 7 = .one ((.o (.ptr M 0 0 2))) ∧ slot A.tm 19 = .one ((.o (.sl id g off lr.length 2))) ∧ slot A.tm 20 = .one (.i .i64 (lr.length : Int)) ∧ slot A.tm 21 = .one (.i .i64 (i : Int)) ∧ slot A.tm 46 = .one (u) ∧ slot A.tm 47 = .one (.i .i64 (x.2.length : Int)) ∧ slot A.tm 48 = .one (.i .i64 (j : Int)) ∧ A.nt = 111 ∧ A.dfr = []) ?_ x.2.length
     ⟨0, _, rfl, Nat.zero_le _, g5, n5, r1, rs, rp, rx, by rw [List.take_zero, List.append_nil]; exact hS, hb1, ?_⟩
    ·clear t1 t3 t4 t5 t7 t19 t20 t21 t40 hnt hdf A hS r1 rs rp rx n5 hu5 g5 hb1
     rintro m A H6 ⟨j, ps, rfl, hj, g6, n6, r1, rs, rp, rx, hS, hb1, t1, t3, t4, t5, t7, t19, t20, t21, t46, t47, t48, hnt, hdf⟩
     have m1 : N < H6.nx := by omega
     have o2 : N + 2 < H6.nx := by omega
     refine qW (qA E2_P (qA t47 (qA t48 hnt))) ?_
     refine qE fun Kx Ky hx hy => ?_
     refine iteI (fun hc2 => hx ?_) (fun hc2 => hy ?_)
     ·clear hx hy Kx Ky
      have hlj : j < x.2.length := by omega
      have hdj : x.2.drop j = x.2[j] :: x.2.drop (j + 1) := List.drop_eq_getElem_cons hlj
      have htj : x.2.take (j + 1) = x.2.take j ++ [x.2[j]] := List.take_succ_eq_append_getElem hlj
      have ej : x.2[j]? = some x.2[j] := List.getElem?_eq_getElem hlj
      generalize x.2[j] = m at hdj htj ej
      have hwj : IntKind.i64.wrap ((j : Int) + 1) = ((j + 1 : Nat) : Int) := by rw [wrapI (by omega) (by omega)]; omega
      have hu6 := hu.gr g6
      have ha6 := hA.gr g6
      obtain ⟨ui, ug, uo, uc, rfl, hui, hug, hut⟩ := hu6.open (by omega)
      have hm1 := hut j m ej
      rw [hdj, partsB] at hb1
      refine qV ?_
      refine R1.s_block fun K3 w1 w2 w3 w4 => ?_
      refine qG (qA E2_P (qA t46 (qA t48 (qA hnt (qA el_ints (qA ld_int (qA (ixC hlj) (qA hui (qA hug (qA hm1.1 hm1.2)))))))))) fun K hK => ?_
      refine hK _ _ ?_
      clear hK K
      refine R1.gen (fun A7 H7 => H7 = H6 ∧ slot A7.tm 1 = .one ((.o (.ptr N 0 0 2))) ∧ slot A7.tm 3 = .one (.i .i64 (lc.length : Int)) ∧ slot A7.tm 4 = .one ((.o (.sl (N + 1) 0 0 lc.length 1))) ∧ slot A7.tm 5 = .one ((.o (.sl (N + 2) 0 0 lc.length 1))) ∧ slot A7.tm 7 = .one ((.o (.ptr M 0 0 2))) ∧ slot A7.tm 8 = .one (.i .i64 (j : Int)) ∧ slot A7.tm 9 = .one (.i .i64 (m : Int)) ∧ slot A7.tm 19 = .one ((.o (.sl id g off lr.length 2))) ∧ slot A7.tm 20 = .one (.i .i64 (lr.length : Int)) ∧ slot A7.tm 21 = .one (.i .i64 (i : Int)) ∧ slot A7.tm 46 = .one ((.o (.sl ui ug uo x.2.length 1))) ∧ slot A7.tm 47 = .one (.i .i64 (x.2.length : Int)) ∧ slot A7.tm 48 = .one (.i .i64 (j : Int)) ∧ A7.nt = 111 ∧ A7.dfr = [])
       ⟨rfl, ?_⟩ ?_
      ·repeat' (first | (simp only [slot_put, Nat.reduceEqDiff, reduceIte, putD_nt, putD_dfr, t1, t3, t4, t5, t7, t19, t20, t21, t46, t47, t48, hnt, hdf]; first | done | rfl) | refine ⟨?_, ?_⟩)
      clear t1 t3 t4 t5 t7 t19 t20 t21 t46 t47 t48 hnt hdf A
      rintro A H7 ⟨rfl, t1, t3, t4, t5, t7, t8, t9, t19, t20, t21, t46, t47, t48, hnt, hdf⟩
      generalize hb2 : partsB lc x.1 (x.2.take j ++ [m]) (x.2.drop (j + 1)) = b2 at hb1
      repeat refine R1.s_assoc ?_
      (first | refine R1.s_sq (by kernel_rfl) fun K hK => ?_ | refine R1.e_sq (by kernel_rfl) fun K hK => ?_)
      have rest2 : ∀ (b : Bool) (A8 : AAct), (b = false → 0 ≤ m ∧ m < lc.length) → (if b = true then false else b2) = b1 → slot A8.tm 1 = .one ((.o (.ptr N 0 0 2))) ∧ slot A8.tm 3 = .one (.i .i64 (lc.length : Int)) ∧ slot A8.tm 4 = .one ((.o (.sl (N + 1) 0 0 lc.length 1))) ∧ slot A8.tm 5 = .one ((.o (.sl (N + 2) 0 0 lc.length 1))) ∧ slot A8.tm 7 = .one ((.o (.ptr M 0 0 2))) ∧ slot A8.tm 9 = .one (.i .i64 (m : Int)) ∧ slot A8.tm 19 = .one ((.o (.sl id g off lr.length 2))) ∧ slot A8.tm 20 = .one (.i .i64 (lr.length : Int)) ∧ slot A8.tm 21 = .one (.i .i64 (i : Int)) ∧ slot A8.tm 46 = .one ((.o (.sl ui ug uo x.2.length 1))) ∧ slot A8.tm 47 = .one (.i .i64 (x.2.length : Int)) ∧ slot A8.tm 48 = .one (.i .i64 (j : Int)) ∧ slot A8.tm 89 = .one (.b b) ∧ A8.nt = 111 ∧ A8.dfr = [] → K A8 H7 := by
       clear hb1 t1 t3 t4 t5 t7 t8 t9 t19 t20 t21 t46 t47 t48 hnt hdf A
       rintro b A hmb hb1 ⟨t1, t3, t4, t5, t7, t9, t19, t20, t21, t46, t47, t48, t89, hnt, hdf⟩
       refine hK _ _ ?_
       clear hK K
       cases b with
       | true =>
        rw [if_pos rfl] at hb1
        rw [← hb1, if_pos rfl] at hr1
        rw [← hr1] at hr
        refine qX t89 ?_
        refine qW hnt ?_
        exact w4 _ _ (p4 _ _ (q4 _ _ (k4 _ _ (fin (false) _ _ qp (qd hdf) (g6) (hr)))))
       | false =>
       rw [if_neg Bool.false_ne_true, ← hb2, ← htj] at hb1
       obtain ⟨hm0, hmn⟩ := hmb rfl
       refine qX t89 ?_
       refine R1.s_skip ?_
       refine qG (qA E2_P (qA t5 (qA t9 (qA hnt (qA rp (qA o2 (qA el_bools (qA sz_bool (qA (ixI hm0 hmn) (qA Nat.mul_one (qA (fits hS.1 hm0 hmn) (put hS.1 hm0 hmn)))))))))))) fun K hK => ?_
       refine hK _ _ ?_
       clear hK K
       refine w1 _ _ ?_
       refine qW (qA hnt (qA t48 hwj)) ?_
       have hS := hS.set hm0 hmn
       rw [List.append_assoc, ← htj] at hS
       refine ⟨x.2.length - (j + 1), by omega, j + 1, ps.set m.toNat true, rfl, hlj, g6.mod _ (.inl (by omega)), n6, (get_modN (by omega)).trans r1, (get_modN (by omega)).trans rs, get_modE rfl, (get_modN (by omega)).trans rx, hS, hb1, ?_⟩
       repeat' (first | (simp only [slot_put, Nat.reduceEqDiff, reduceIte, putD_nt, putD_dfr, t1, t3, t4, t5, t7, t19, t20, t21, t46, t47, t48, hnt, hdf]; first | done | rfl) | refine ⟨?_, ?_⟩)
      clear hK
      by_cases c0 : m < 0
      ·rw [if_pos c0] at hb1
       have c0 := eq_true c0
       refine qS (qA E2_P (qA t9 (qA hnt c0))) ?_
       refine rest2 true _ (fun h => by cases h) hb1 ?_
       repeat' (first | (simp only [slot_put, Nat.reduceEqDiff, reduceIte, putD_nt, putD_dfr, t1, t3, t4, t5, t7, t9, t19, t20, t21, t46, t47, t48, hnt, hdf]; first | done | rfl) | refine ⟨?_, ?_⟩)
      rw [if_neg c0] at hb1
      by_cases c1 : (lc.length : Int) ≤ m
      ·rw [if_pos c1] at hb1
       have c0 := eq_false c0
       have c1 := eq_true c1
       refine qS (qA E2_P (qA t3 (qA t9 (qA hnt (qA c0 c1))))) ?_
       refine rest2 true _ (fun h => by cases h) hb1 ?_
       repeat' (first | (simp only [slot_put, Nat.reduceEqDiff, reduceIte, putD_nt, putD_dfr, t1, t3, t4, t5, t7, t9, t19, t20, t21, t46, t47, t48, hnt, hdf]; first | done | rfl) | refine ⟨?_, ?_⟩)
      rw [if_neg c1] at hb1
      have hm0 : 0 ≤ m := by omega
      have hmn : m < lc.length := by omega
      have c0 := eq_false c0
      have c1 := eq_false c1
      obtain ⟨ci, cg, co, cc, rfl, hci, hcg, hct⟩ := ha6.open (by omega)
      have em : lc[m.toNat]? = some lc[m.toNat] := List.getElem?_eq_getElem (by omega)
      have et : lc[x.1.toNat]? = some lc[x.1.toNat] := List.getElem?_eq_getElem (by omega)
      have lm : ladC lc m = lc[m.toNat].2.2.1 := by unfold ladC; rw [em]; rfl
      have lt : ladC lc x.1 = lc[x.1.toNat].2.2.1 := by unfold ladC; rw [et]; rfl
      rw [lm, lt] at hb1
      generalize lc[m.toNat] = ym at em hb1
      generalize lc[x.1.toNat] = yt at et hb1
      obtain ⟨_, _, hym⟩ := hct _ _ em
      obtain ⟨_, _, hyt⟩ := hct _ _ et
      have m2 : M < H7.nx := n6
      have last : ∀ (d : Bool), (if ym.2.2.1 ≠ yt.2.2.1 then false else b2) = b1 → lEq ym.2.2.1 yt.2.2.1 = d → (if (!d) = true then false else b2) = b1 := fun d h e => by
       rw [lEq_eq] at e
       cases d with
       | true => rw [if_neg (fun hn => hn (eq_of_beq e))] at h; exact h
       | false => rw [if_pos (ne_of_beq_false e)] at h; exact h
      generalize hle : lEq ym.2.2.1 yt.2.2.1 = d at last
      by_cases hj0 : j = 0
      ·have cj : ((0 : Int) < (j : Int)) = False := eq_false (by omega)
       rw [hj0, List.take_zero, if_neg (by exact Bool.false_ne_true)] at hb1
       refine qS (qA E2_P (qA t1 (qA t3 (qA t7 (qA t8 (qA t9 (qA hnt (qA c0 (qA c1 (qA cj (qA r1 (qA m1 (qA rx (qA m2 (qA fd_puzzle_0 (qA ld_cells (qA el_cells (qA fd_cell_2 (qA ld_str (qA fd_rule_0 (qA ld_int (qA (ixI hm0 hmn) (qA (ixI hx0 hxn) (qA hci (qA hcg (qA hym.f3 (qA hym.le3 (qA hyt.f3 (qA hyt.le3 hle))))))))))))))))))))))))))))) ?_
       refine rest2 (!d) _ (fun _ => ⟨hm0, hmn⟩) (last d hb1 rfl) ?_
       repeat' (first | (simp only [slot_put, Nat.reduceEqDiff, reduceIte, putD_nt, putD_dfr, t1, t3, t4, t5, t7, t9, t19, t20, t21, t46, t47, t48, hnt, hdf]; first | done | rfl) | refine ⟨?_, ?_⟩)
      ·have cj : ((0 : Int) < (j : Int)) = True := eq_true (by omega)
       have hlt3 : j - 1 < x.2.length := by omega
       have ey : x.2[j - 1]? = some x.2[j - 1] := List.getElem?_eq_getElem hlt3
       have hpp := fun z => prevI_take (x := z) (by omega) ey
       generalize x.2[j - 1] = y at ey hpp
       have hy1 := hut (j - 1) y ey
       have hw3 : IntKind.i64.wrap ((j : Int) - 1) = ((j - 1 : Nat) : Int) := by rw [wrapI (by omega) (by omega)]; omega
       rw [hpp m] at hb1
       by_cases c2 : m ≤ y
       ·rw [if_pos (decide_eq_true c2)] at hb1
        have c2 := eq_true c2
        refine qS (qA E2_P (qA t3 (qA t7 (qA t8 (qA t9 (qA hnt (qA c0 (qA c1 (qA cj (qA c2 (qA hw3 (qA rx (qA m2 (qA fd_rule_1 (qA ld_ints (qA el_ints (qA ld_int (qA (ixC hlt3) (qA hui (qA hug (qA hy1.1 hy1.2))))))))))))))))))))) ?_
        refine rest2 true _ (fun h => by cases h) hb1 ?_
        repeat' (first | (simp only [slot_put, Nat.reduceEqDiff, reduceIte, putD_nt, putD_dfr, t1, t3, t4, t5, t7, t9, t19, t20, t21, t46, t47, t48, hnt, hdf]; first | done | rfl) | refine ⟨?_, ?_⟩)
       ·rw [if_neg (by rw [decide_eq_true_eq]; exact c2)] at hb1
        have c2 := eq_false c2
        refine qS (qA E2_P (qA t1 (qA t3 (qA t7 (qA t8 (qA t9 (qA hnt (qA c0 (qA c1 (qA cj (qA c2 (qA hw3 (qA r1 (qA m1 (qA rx (qA m2 (qA fd_puzzle_0 (qA ld_cells (qA el_cells (qA fd_cell_2 (qA ld_str (qA fd_rule_0 (qA fd_rule_1 (qA ld_ints (qA el_ints (qA ld_int (qA (ixC hlt3) (qA hui (qA hug (qA hy1.1 (qA hy1.2 (qA (ixI hm0 hmn) (qA (ixI hx0 hxn) (qA hci (qA hcg (qA hym.f3 (qA hym.le3 (qA hyt.f3 (qA hyt.le3 hle))))))))))))))))))))))))))))))))))))))) ?_
        refine rest2 (!d) _ (fun _ => ⟨hm0, hmn⟩) (last d hb1 rfl) ?_
        repeat' (first | (simp only [slot_put, Nat.reduceEqDiff, reduceIte, putD_nt, putD_dfr, t1, t3, t4, t5, t7, t9, t19, t20, t21, t46, t47, t48, hnt, hdf]; first | done | rfl) | refine ⟨?_, ?_⟩)
     ·clear hx hy Kx Ky
      have hje : j = x.2.length := by omega
      rw [hje, List.drop_length, partsB] at hb1
      rw [hje, List.take_length] at hS
      rw [← hb1, if_neg (by decide)] at hr1
      rw [← hr1] at hr
      refine qW hnt ?_
      refine p2 _ _ (q1 _ _ ?_)
      refine qW (qA hnt (qA t21 hw2)) ?_
      refine ⟨lr.length - (i + 1), by omega, i + 1, T ++ [x.1], S ++ x.2, bs, ps, rfl, hlt, g6, by omega, r1, rs, rp, hT, hS, hr, ?_⟩
      repeat' (first | (simp only [slot_put, Nat.reduceEqDiff, reduceIte, putD_nt, putD_dfr, t1, t3, t4, t5, t19, t20, t21, hnt, hdf]; first | done | rfl) | refine ⟨?_, ?_⟩)
    ·repeat' (first | (simp only [slot_put, Nat.reduceEqDiff, reduceIte, putD_nt, putD_dfr, t1, t3, t4, t5, t7, t19, t20, t21, hnt, hdf]; first | done | rfl) | refine ⟨?_, ?_⟩)
   clear hK
   by_cases c0 : x.1 < 0
   ·rw [if_pos c0] at hr
    have c0 := eq_true c0
    refine qS (qA E2_P (qA t7 (qA hnt (qA rx (qA n4 (qA fd_rule_0 (qA ld_int c0))))))) ?_
    refine rest true _ (fun h => by cases h) hr ?_
    repeat' (first | (simp only [slot_put, Nat.reduceEqDiff, reduceIte, putD_nt, putD_dfr, t1, t3, t4, t5, t7, t19, t20, t21, hnt, hdf]; first | done | rfl) | refine ⟨?_, ?_⟩)
   rw [if_neg c0] at hr
   by_cases c1 : (lc.length : Int) ≤ x.1
   ·rw [if_pos c1] at hr
    have c0 := eq_false c0
    have c1 := eq_true c1
    refine qS (qA E2_P (qA t3 (qA t7 (qA hnt (qA rx (qA n4 (qA fd_rule_0 (qA ld_int (qA c0 c1))))))))) ?_
    refine rest true _ (fun h => by cases h) hr ?_
    repeat' (first | (simp only [slot_put, Nat.reduceEqDiff, reduceIte, putD_nt, putD_dfr, t1, t3, t4, t5, t7, t19, t20, t21, hnt, hdf]; first | done | rfl) | refine ⟨?_, ?_⟩)
   rw [if_neg c1] at hr
   have hx0 : 0 ≤ x.1 := by omega
   have hxn : x.1 < lc.length := by omega
   have c0 := eq_false c0
   have c1 := eq_false c1
   refine qS (qA E2_P (qA t3 (qA t4 (qA t7 (qA hnt (qA rx (qA n4 (qA rs (qA o1 (qA fd_rule_0 (qA ld_int (qA ld_bool (qA c0 (qA c1 (qA el_bools (qA (ixI hx0 hxn) (qA Nat.mul_one (qA (fits hT.1 hx0 hxn) (qA headD_b (hT.at hx0 hxn)))))))))))))))))))) ?_
   refine rest (T.any fun y => y == x.1) _ (fun _ => ⟨hx0, hxn⟩) hr ?_
   repeat' (first | (simp only [slot_put, Nat.reduceEqDiff, reduceIte, putD_nt, putD_dfr, t1, t3, t4, t5, t7, t19, t20, t21, hnt, hdf]; first | done | rfl) | refine ⟨?_, ?_⟩)
  ·clear hx hy Kx Ky
   have hie : i = lr.length := by omega
   rw [hie, List.drop_length, goR] at hr
   have bad : ∀ j : Nat, j < lc.length → ((T.any fun x => x == (j : Int)) && S.any fun x => x == (j : Int)) = true → false = r0 := fun j hj h => by
    rw [← hr]
    exact (List.all_eq_false.2 ⟨j, List.mem_range.2 hj, by rw [h]; decide⟩).symm
   have good : (∀ j : Nat, j < lc.length → ((T.any fun x => x == (j : Int)) && S.any fun x => x == (j : Int)) = false) → true = r0 := fun h => by
    rw [← hr]
    exact (List.all_eq_true.2 fun j hj => by rw [h j (List.mem_range.1 hj)]; rfl).symm
   clear hr
   refine qW hnt ?_
   refine k2 _ _ ?_
   clear k1 k2 k3 k4 K
   refine qW (qA E2_P (qA t4 (qA hnt (qA ln_bools o1)))) ?_
   refine R1.s_block fun K k1 k2 k3 k4 => ?_
   refine R1.loop (fun m A H4 => ∃ j : Nat, m = lc.length - j ∧ j ≤ lc.length ∧ H4 = H3 ∧ (∀ j' : Nat, j' < j → ((T.any fun x => x == (j' : Int)) && S.any fun x => x == (j' : Int)) = false) ∧ slot A.tm 4 = .one ((.o (.sl (N + 1) 0 0 lc.length 1))) ∧ slot A.tm 5 = .one ((.o (.sl (N + 2) 0 0 lc.length 1))) ∧ slot A.tm 96 = .one (.i .i64 (lc.length : Int)) ∧ slot A.tm 97 = .one (.i .i64 (j : Int)) ∧ A.nt = 111 ∧ A.dfr = []) ?_ lc.length
    ⟨0, rfl, Nat.zero_le _, rfl, fun j' h => absurd h (Nat.not_lt_zero _), ?_⟩
   ·clear t1 t3 t4 t5 t19 t20 t21 hnt hdf A
    rintro m A H4 ⟨j, rfl, hj, rfl, hall, t4, t5, t96, t97, hnt, hdf⟩
    refine qW (qA E2_P (qA t96 (qA t97 hnt))) ?_
    refine qE fun Kx Ky hx hy => ?_
    refine iteI (fun hc => hx ?_) (fun hc => hy ?_)
    ·clear hx hy Kx Ky
     have hlj : j < lc.length := by omega
     have hwj : IntKind.i64.wrap ((j : Int) + 1) = ((j + 1 : Nat) : Int) := by rw [wrapI (by omega) (by omega)]; omega
     have hf1 : j + 1 ≤ (bs.map AC.b).length := by rw [List.length_map, hT.1]; exact hlj
     have hf2 : j + 1 ≤ (ps.map AC.b).length := by rw [List.length_map, hS.1]; exact hlj
     have e1 := hT.2 j hlj
     have e2 := hS.2 j hlj
     have hb0 := bad j hlj
     have hg0 : ((T.any fun x => x == (j : Int)) && S.any fun x => x == (j : Int)) = false → ∀ j' : Nat, j' < j + 1 → ((T.any fun x => x == (j' : Int)) && S.any fun x => x == (j' : Int)) = false := fun h j' hj' => by
      rcases Nat.lt_or_eq_of_le (Nat.le_of_lt_succ hj') with h' | h'
      ·exact hall j' h'
      ·rw [h']; exact h
     generalize (T.any fun x => x == (j : Int)) = d1 at e1 hb0 hg0
     generalize (S.any fun x => x == (j : Int)) = d2 at e2 hb0 hg0
     refine qV ?_
     refine R1.s_block fun K2 q1 q2 q3 q4 => ?_
     refine qW (qA E2_P (qA t97 hnt)) ?_
     cases d1 with
     | false =>
      refine qG (qA E2_P (qA t4 (qA t97 (qA hnt (qA rs (qA o1 (qA el_bools (qA ld_bool (qA (ixC hlj) (qA Nat.mul_one (qA hf1 (qA headD_b e1)))))))))))) fun K hK => ?_
      refine hK _ _ ?_
      clear hK K
      refine qY ?_
      refine qW hnt ?_
      refine q1 _ _ ?_
      refine qW (qA hnt (qA t97 hwj)) ?_
      refine ⟨lc.length - (j + 1), by omega, j + 1, rfl, hlj, rfl, hg0 rfl, ?_⟩
      repeat' (first | (simp only [slot_put, Nat.reduceEqDiff, reduceIte, putD_nt, putD_dfr, t4, t5, t96, t97, hnt, hdf]; first | done | rfl) | refine ⟨?_, ?_⟩)
     | true =>
      refine qG (qA E2_P (qA t4 (qA t5 (qA t97 (qA hnt (qA rs (qA o1 (qA rp (qA o2 (qA el_bools (qA ld_bool (qA (ixC hlj) (qA Nat.mul_one (qA hf1 (qA hf2 (qA headD_b (qA e1 e2))))))))))))))))) fun K hK => ?_
      refine hK _ _ ?_
      clear hK K
      cases d2 with
      | true =>
       refine qY ?_
       refine qW hnt ?_
       exact q4 _ _ (k4 _ _ (fin (false) _ _ qp (qd hdf) (g3) (hb0 rfl)))
      | false =>
       refine qY ?_
       refine qW hnt ?_
       refine q1 _ _ ?_
       refine qW (qA hnt (qA t97 hwj)) ?_
       refine ⟨lc.length - (j + 1), by omega, j + 1, rfl, hlj, rfl, hg0 rfl, ?_⟩
       repeat' (first | (simp only [slot_put, Nat.reduceEqDiff, reduceIte, putD_nt, putD_dfr, t4, t5, t96, t97, hnt, hdf]; first | done | rfl) | refine ⟨?_, ?_⟩)
    ·clear hx hy Kx Ky
     have hje : j = lc.length := by omega
     rw [hje] at hall
     refine qW hnt ?_
     refine k2 _ _ ?_
     refine qW hnt ?_
     exact fin (true) _ _ qp (qd hdf) (g3) (good hall)
   ·repeat' (first | (simp only [slot_put, Nat.reduceEqDiff, reduceIte, putD_nt, putD_dfr, t4, t5, hnt, hdf]; first | done | rfl) | refine ⟨?_, ?_⟩)
 ·repeat' (first | (simp only [slot_put, Nat.reduceEqDiff, reduceIte, putD_nt, putD_dfr, t1, t3, t4, t5, hnt, hdf]; first | done | rfl) | refine ⟨?_, ?_⟩)
end Go.Proofs.YtiejeicaaojdlaaGreat
namespace Go.Proofs.YtiejeicaaojdlaaGreat
open Go Go.Eng
theorem bd_rSumPz : hasBody Tryz.prog 88 = true := by kernel_rfl
theorem bd_rRules : hasBody Tryz.prog 54 = true := by kernel_rfl
def sumI : Nat → List Rl → Int → Int
 | _, [], _ => -1
 | n, x :: l, t => if x.1 = t then (n : Int) else sumI (n + 1) l t
set_option maxRecDepth 10000 in
set_option maxHeartbeats 4000000 in
theorem rSumPz_con (H : Hp) (a b : AC) (lr : List Rl) (t : Int) (hb : SlRl H b lr) (ha : ltV (.one a) H.nx) (hR : lr.length ≤ 1000000) :
  Con E2 88 [.agg [a, b], .one (.i .i64 t)] H (fun _ => False) fun r _ => r = .one (.i .i64 (sumI 0 lr t)) := by
 refine Con.of rfl fun lg => ?_
 have hb : SlRl ⟨H.t, H.nx, lg⟩ b lr := hb
 generalize (⟨H.t, H.nx, lg⟩ : Hp) = H at hb ⊢
 refine C1.body (E := E2) (nt := 22) (res := [.tmp 4]) Tryz.func88 rfl rfl rfl rfl rfl fun tm hargs => ?_
 have h0 := hargs 0 _ rfl
 have h1 := hargs 1 _ rfl
 clear hargs
 have fin : ∀ (e : Int) (A : AAct) (H3 : Hp), slot A.tm 4 = .one (.i .i64 e) → A.dfr = [] → Gr H H3 → e = sumI 0 lr t → ∃ w H4, callEnd E2 [.tmp 4] (.ret, A, H3) = .ok [(w, H4)] ∧ Gr H H4 ∧ ∀ _ : List Nat, w = .one (.i .i64 (sumI 0 lr t)) := fun e A H3 h1 h2 h3 h4 => ⟨_, H3, callEnd_one (.i .i64 e) (.inr rfl) h2 h1, h3, fun _ => by rw [h4]⟩
 generalize hr0 : sumI 0 lr t = r0 at fin
 refine qG (qA E2_P (qA h0 h1)) fun K hK => ?_
 refine hK _ _ ?_
 clear hK K
 refine R1.gen (fun A1 H1 => Gr H H1 ∧ H.nx < H1.nx ∧ H1.get H.nx = some (.arr [a, b] 42 0 0) ∧ slot A1.tm 1 = .one (.i .i64 (t : Int)) ∧ slot A1.tm 2 = .one ((.o (.ptr H.nx 0 0 2))) ∧ A1.nt = 22 ∧ A1.dfr = [])
  ⟨(Fr.refl _).new _, ?_⟩ ?_
 ·exact qZ h1
 rintro A1 H1 ⟨g1, m1, r1, t1, t2, hnt, hdf⟩
 clear h0 h1 tm
 have hb := hb.gr g1
 refine qW hnt ?_
 refine R1.s_block fun K k1 k2 k3 k4 => ?_
 refine R1.loop (fun m A H2 => ∃ i : Nat, m = lr.length - i ∧ i ≤ lr.length ∧ H2 = H1 ∧ sumI i (lr.drop i) t = r0 ∧ slot A.tm 1 = .one (.i .i64 (t : Int)) ∧ slot A.tm 2 = .one ((.o (.ptr H.nx 0 0 2))) ∧ slot A.tm 5 = .one (.i .i64 (i : Int)) ∧ A.nt = 22 ∧ A.dfr = []) ?_ lr.length ⟨0, rfl, Nat.zero_le _, rfl, hr0, ?_⟩
 ·clear t1 t2 hnt hdf A1
  rintro m A H2 ⟨i, rfl, hi, rfl, hr, t1, t2, t5, hnt, hdf⟩
  refine qW (qA E2_P (qA t2 (qA t5 (qA hnt (qA r1 (qA m1 (qA fd_puzzle_1 (qA ld_rules (qA ln_rules (qA hb.len hb.lt)))))))))) ?_
  refine qE fun Kx Ky hx hy => ?_
  refine iteI (fun hc => hx ?_) (fun hc => hy ?_)
  ·clear hx hy Kx Ky
   have hlt : i < lr.length := by omega
   have ex : lr[i]? = some lr[i] := List.getElem?_eq_getElem hlt
   have hdr : lr.drop i = lr[i] :: lr.drop (i + 1) := List.drop_eq_getElem_cons hlt
   have htk : lr.take (i + 1) = lr.take i ++ [lr[i]] := List.take_succ_eq_append_getElem hlt
   have hmem : lr[i] ∈ lr := List.getElem_mem hlt
   generalize lr[i] = x at ex hdr htk hmem
   have hw2 : IntKind.i64.wrap ((i : Int) + 1) = ((i + 1 : Nat) : Int) := by rw [wrapI (by omega) (by omega)]; omega
   obtain ⟨id, g, off, cells, rfl, hid, hgr, hat⟩ := hb.open (by omega)
   obtain ⟨u, hx1⟩ := hat i x ex
   rw [hdr, sumI] at hr
   refine qV ?_
   refine R1.s_block fun K2 q1 q2 q3 q4 => ?_
   refine qG (qA E2_P (qA t1 (qA t2 (qA t5 (qA hnt (qA r1 (qA m1 (qA fd_puzzle_1 (qA ld_rules (qA el_rules (qA fd_rule_0 (qA ld_int (qA (ixC hlt) (qA hid (qA hgr (qA hx1.f1 hx1.le1)))))))))))))))) fun K hK => ?_
   refine hK _ _ ?_
   clear hK K
   by_cases he : x.1 = t
   ·have ce : (x.1 == t) = true := by rw [he]; exact beq_self_eq_true _
    rw [if_pos he] at hr
    refine qX ce ?_
    refine qW (qA hnt t5) ?_
    exact q4 _ _ (k4 _ _ (fin ((i : Int)) _ _ qp (qd hdf) (g1) (hr)))
   ·have ce : (x.1 == t) = false := beq_false_of_ne he
    rw [if_neg he] at hr
    refine qX ce ?_
    refine qW hnt ?_
    refine q1 _ _ ?_
    refine qW (qA hnt (qA t5 hw2)) ?_
    refine ⟨lr.length - (i + 1), by omega, i + 1, rfl, hlt, rfl, hr, ?_⟩
    repeat' (first | (simp only [slot_put, Nat.reduceEqDiff, reduceIte, putD_nt, putD_dfr, t1, t2, t5, hnt, hdf]; first | done | rfl) | refine ⟨?_, ?_⟩)
  ·clear hx hy Kx Ky
   have hie : i = lr.length := by omega
   rw [hie, List.drop_length, sumI] at hr
   refine qW hnt ?_
   refine k2 _ _ ?_
   refine qW hnt ?_
   exact fin (-1) _ _ qp (qd hdf) (g1) (hr)
 ·repeat' (first | (simp only [slot_put, Nat.reduceEqDiff, reduceIte, putD_nt, putD_dfr, t1, t2, hnt, hdf]; first | done | rfl) | refine ⟨?_, ?_⟩)
def partsR (lc : List Cl) (lr : List Rl) (t : Int) : List Int → List Int → Bool
 | _, [] => true
 | acc, m :: l => if m < 0 then false else if (lc.length : Int) ≤ m then false else if prevI acc m = true then false else if ladC lc m ≠ ladC lc t then false else if 0 ≤ sumI 0 lr m then false else partsR lc lr t (acc ++ [m]) l
def refR (lc : List Cl) (lr : List Rl) : Nat → List Rl → Bool
 | _, [] => true
 | i, x :: l => if x.1 < 0 then false else if (lc.length : Int) ≤ x.1 then false else if sumI 0 lr x.1 ≠ (i : Int) then false else if partsR lc lr x.1 [] x.2 = false then false else refR lc lr (i + 1) l
set_option maxRecDepth 10000 in
set_option maxHeartbeats 32000000 in
theorem rRules_con (H : Hp) (a b : AC) (lc : List Cl) (lr : List Rl) (ha : SlCl H a lc) (hb : SlRl H b lr) (hC : lc.length ≤ 1000000) (hR : lr.length ≤ 1000000) (hP : ∀ x ∈ lr, x.2.length ≤ 4611686018427387904) :
  Con E2 54 [.agg [a, b]] H (fun _ => False) fun r _ => r = .one (.b (refR lc lr 0 lr)) := by
 refine Con.of rfl fun lg => ?_
 have ha : SlCl ⟨H.t, H.nx, lg⟩ a lc := ha
 have hb : SlRl ⟨H.t, H.nx, lg⟩ b lr := hb
 generalize (⟨H.t, H.nx, lg⟩ : Hp) = H at ha hb ⊢
 refine C1.body (E := E2) (nt := 95) (res := [.tmp 2]) Tryz.func54 rfl rfl rfl rfl rfl fun tm hargs => ?_
 have h0 := hargs 0 _ rfl
 clear hargs
 have fin : ∀ (e : Bool) (A : AAct) (H3 : Hp), slot A.tm 2 = .one (.b e) → A.dfr = [] → Gr H H3 → e = refR lc lr 0 lr → ∃ w H4, callEnd E2 [.tmp 2] (.ret, A, H3) = .ok [(w, H4)] ∧ Gr H H4 ∧ ∀ _ : List Nat, w = .one (.b (refR lc lr 0 lr)) := fun e A H3 h1 h2 h3 h4 => ⟨_, H3, callEnd_one (.b e) (.inr rfl) h2 h1, h3, fun _ => by rw [h4]⟩
 generalize hr0 : refR lc lr 0 lr = r0 at fin
 have hA := ha
 have hB := hb
 refine qG (qA E2_P h0) fun K hK => ?_
 refine hK _ _ ?_
 clear hK K
 refine R1.gen (fun A1 H1 => Gr H H1 ∧ H.nx < H1.nx ∧ H1.get H.nx = some (.arr [a, b] 42 0 0) ∧ slot A1.tm 1 = .one ((.o (.ptr H.nx 0 0 2))) ∧ A1.nt = 95 ∧ A1.dfr = [])
  ⟨(Fr.refl _).new _, ?_⟩ ?_
 ·exact qU
 rintro A1 H1 ⟨g1, m1, r1, t1, hnt, hdf⟩
 clear h0 tm
 obtain ⟨N, hN⟩ : ∃ N, N = H.nx := ⟨_, rfl⟩
 rw [← hN] at m1 r1 t1
 have ha := ha.gr g1
 have hb := hb.gr g1
 refine qW (qA E2_P (qA t1 (qA hnt (qA r1 (qA m1 (qA fd_puzzle_0 (qA ld_cells (qA ln_cells (qA ha.len ha.lt))))))))) ?_
 refine R1.s_block fun K k1 k2 k3 k4 => ?_
 refine R1.loop (fun m A H3 => ∃ i : Nat, m = lr.length - i ∧ i ≤ lr.length ∧ Gr H H3 ∧ N < H3.nx ∧ H3.get N = some (.arr [a, b] 42 0 0) ∧ refR lc lr i (lr.drop i) = r0 ∧
   slot A.tm 1 = .one ((.o (.ptr N 0 0 2))) ∧ slot A.tm 3 = .one (.i .i64 (lc.length : Int)) ∧ slot A.tm 4 = .one (.i .i64 (i : Int)) ∧ A.nt = 95 ∧ A.dfr = []) ?_ lr.length
  ⟨0, rfl, Nat.zero_le _, g1, m1, r1, hr0, ?_⟩
 ·clear t1 hnt hdf A1 r1 m1
  rintro m A H3 ⟨i, rfl, hi, g3, m1, r1, hr, t1, t3, t4, hnt, hdf⟩
  have hb3 := hB.gr g3
  refine qW (qA E2_P (qA t1 (qA t4 (qA hnt (qA r1 (qA m1 (qA fd_puzzle_1 (qA ld_rules (qA ln_rules (qA hb3.len hb3.lt)))))))))) ?_
  refine qE fun Kx Ky hx hy => ?_
  refine iteI (fun hc => hx ?_) (fun hc => hy ?_)
  ·clear hx hy Kx Ky
   have hlt : i < lr.length := by omega
   have ex : lr[i]? = some lr[i] := List.getElem?_eq_getElem hlt
   have hdr : lr.drop i = lr[i] :: lr.drop (i + 1) := List.drop_eq_getElem_cons hlt
   have htk : lr.take (i + 1) = lr.take i ++ [lr[i]] := List.take_succ_eq_append_getElem hlt
   have hmem : lr[i] ∈ lr := List.getElem_mem hlt
   generalize lr[i] = x at ex hdr htk hmem
   have hw2 : IntKind.i64.wrap ((i : Int) + 1) = ((i + 1 : Nat) : Int) := by rw [wrapI (by omega) (by omega)]; omega
   obtain ⟨id, g, off, cells, rfl, hid0, hgr0, hat⟩ := hB.open (by omega)
   have hid : id < H3.nx := Nat.lt_of_lt_of_le hid0 g3.nx
   have hgr : rowOf (H3.get id) g = some cells := by rw [g3.get _ hid0 not_false]; exact hgr0
   obtain ⟨u, hx1⟩ := hat i x ex
   have hu := hx1.of
   have hPx := hP x hmem
   rw [hdr, refR] at hr
   generalize hb1 : partsR lc lr x.1 [] x.2 = b1 at hr
   generalize hr1 : (if b1 = false then false else refR lc lr (i + 1) (lr.drop (i + 1))) = r1' at hr
   refine qV ?_
   refine R1.s_block fun K2 q1 q2 q3 q4 => ?_
   refine qG (qA E2_P (qA t1 (qA t4 (qA hnt (qA r1 (qA m1 (qA fd_puzzle_1 (qA ld_rules (qA el_rules (qA ld_rule (qA sz_rule (qA zr_rule (qA (ixC hlt) (qA hid (qA hgr (qA hx1.all hx1.le)))))))))))))))) fun K hK => ?_
   refine hK _ _ ?_
   clear hK K
   refine R1.gen (fun A4 H4 => Gr H3 H4 ∧ H3.nx < H4.nx ∧ H4.get H3.nx = some (.arr [.i .i64 x.1, u] 92 0 0) ∧ slot A4.tm 1 = .one ((.o (.ptr N 0 0 2))) ∧ slot A4.tm 3 = .one (.i .i64 (lc.length : Int)) ∧ slot A4.tm 4 = .one (.i .i64 (i : Int)) ∧ slot A4.tm 5 = .one ((.o (.ptr H3.nx 0 0 2))) ∧ A4.nt = 95 ∧ A4.dfr = [])
    ⟨((Fr.refl _).new _).mod _ (.inl (Nat.le_refl _)), ?_⟩ ?_
   ·exact qZ (qA t1 (qA t3 (qA t4 (qA hnt hdf))))
   clear t1 t3 t4 hnt hdf A
   rintro A H4 ⟨g4, n4, rx, t1, t3, t4, t5, hnt, hdf⟩
   obtain ⟨M, hM⟩ : ∃ M, M = H3.nx := ⟨_, rfl⟩
   rw [← hM] at rx n4 t5
   have r1 := (g4.get _ m1 not_false).trans r1
   have m1 := Nat.lt_of_lt_of_le m1 g4.nx
   have hNM : N < M := by omega
   have g4 := g3.gr g4
   clear hgr hid hb3 hx1 hat hid0 hgr0
   repeat refine R1.s_assoc ?_
   (first | refine R1.s_rg fun K hK => ?_ | refine R1.e_rg fun K hK => ?_)
   have rest : ∀ (b : Bool) (A5 : AAct) (H5 : Hp), Gr H4 H5 → (b = false → 0 ≤ x.1 ∧ x.1 < lc.length) → (if b = true then false else r1') = r0 → slot A5.tm 1 = .one ((.o (.ptr N 0 0 2))) ∧ slot A5.tm 3 = .one (.i .i64 (lc.length : Int)) ∧ slot A5.tm 4 = .one (.i .i64 (i : Int)) ∧ slot A5.tm 5 = .one ((.o (.ptr M 0 0 2))) ∧ slot A5.tm 39 = .one (.b b) ∧ A5.nt = 95 ∧ A5.dfr = [] → K A5 H5 := by
    clear hr t1 t3 t4 t5 hnt hdf A
    rintro b A H5 g5 hxb hr ⟨t1, t3, t4, t5, t39, hnt, hdf⟩
    refine hK _ _ ?_
    clear hK K
    have r1 := (g5.get _ m1 not_false).trans r1
    have m1 := Nat.lt_of_lt_of_le m1 g5.nx
    have rx := (g5.get _ n4 not_false).trans rx
    have n4 := Nat.lt_of_lt_of_le n4 g5.nx
    have g5 := g4.gr g5
    cases b with
    | true =>
     rw [if_pos rfl] at hr
     refine qX t39 ?_
     refine qW hnt ?_
     exact q4 _ _ (k4 _ _ (fin (false) _ _ qp (qd hdf) (g5) (hr)))
    | false =>
    rw [if_neg Bool.false_ne_true] at hr
    obtain ⟨hx0, hxn⟩ := hxb rfl
    refine qX t39 ?_
    refine R1.s_skip ?_
    refine qW hnt ?_
    refine R1.e_block fun K p1 p2 p3 p4 => ?_
    refine R1.loop (fun m A H6 => ∃ j : Nat, m = x.2.length - j ∧ j ≤ x.2.length ∧ Gr H H6 ∧ M < H6.nx ∧ H6.get N = some (.arr [a, .o (.sl id g off lr.length 2)] 42 0 0) ∧ H6.get M = some (.arr [.i .i64 x.1, u] 92 0 0) ∧ partsR lc lr x.1 (x.2.take j) (x.2.drop j) = b1 ∧
     slot A.tm 1 = .one ((.o (.ptr N 0 0 2))) ∧ slot A.tm 3 = .one (.i .i64 (lc.length : Int)) ∧ slot A.tm 4 = .one (.i .i64 (i : Int)) ∧ slot A.tm 5 = .one ((.o (.ptr M 0 0 2))) ∧ slot A.tm 6 = .one (.i .i64 (j : Int)) ∧ A.nt = 95 ∧ A.dfr = []) ?_ x.2.length
     ⟨0, rfl, Nat.zero_le _, g5, n4, r1, rx, hb1, ?_⟩
    ·clear t1 t3 t4 t5 t39 hnt hdf A r1 rx n4 g4 g5 hb1 m1
     rintro m A H6 ⟨j, rfl, hj, g6, n6, r1, rx, hb1, t1, t3, t4, t5, t6, hnt, hdf⟩
     have m1 : N < H6.nx := by omega
     have hu6 := hu.gr g6
     refine qW (qA E2_P (qA t5 (qA t6 (qA hnt (qA rx (qA n6 (qA fd_rule_1 (qA ld_ints (qA ln_ints (qA hu6.len hu6.lt)))))))))) ?_
     refine qE fun Kx Ky hx hy => ?_
     refine iteI (fun hc2 => hx ?_) (fun hc2 => hy ?_)
     ·clear hx hy Kx Ky
      have hlj : j < x.2.length := by omega
      have hdj : x.2.drop j = x.2[j] :: x.2.drop (j + 1) := List.drop_eq_getElem_cons hlj
      have htj : x.2.take (j + 1) = x.2.take j ++ [x.2[j]] := List.take_succ_eq_append_getElem hlj
      have ej : x.2[j]? = some x.2[j] := List.getElem?_eq_getElem hlj
      generalize x.2[j] = m at hdj htj ej
      have hwj : IntKind.i64.wrap ((j : Int) + 1) = ((j + 1 : Nat) : Int) := by rw [wrapI (by omega) (by omega)]; omega
      have ha6 := hA.gr g6
      have hb6 := hB.gr g6
      obtain ⟨ui, ug, uo, uc, rfl, hui, hug, hut⟩ := hu6.open (by omega)
      have hm1 := hut j m ej
      rw [hdj, partsR] at hb1
      refine qV ?_
      refine R1.s_block fun K3 w1 w2 w3 w4 => ?_
      refine qG (qA E2_P (qA t5 (qA t6 (qA hnt (qA rx (qA n6 (qA fd_rule_1 (qA ld_ints (qA el_ints (qA ld_int (qA (ixC hlj) (qA hui (qA hug (qA hm1.1 hm1.2)))))))))))))) fun K hK => ?_
      refine hK _ _ ?_
      clear hK K
      refine R1.gen (fun A7 H7 => H7 = H6 ∧ slot A7.tm 1 = .one ((.o (.ptr N 0 0 2))) ∧ slot A7.tm 3 = .one (.i .i64 (lc.length : Int)) ∧ slot A7.tm 4 = .one (.i .i64 (i : Int)) ∧ slot A7.tm 5 = .one ((.o (.ptr M 0 0 2))) ∧ slot A7.tm 6 = .one (.i .i64 (j : Int)) ∧ slot A7.tm 7 = .one (.i .i64 (m : Int)) ∧ A7.nt = 95 ∧ A7.dfr = [])
       ⟨rfl, ?_⟩ ?_
      ·repeat' (first | (simp only [slot_put, Nat.reduceEqDiff, reduceIte, putD_nt, putD_dfr, t1, t3, t4, t5, t6, hnt, hdf]; first | done | rfl) | refine ⟨?_, ?_⟩)
      clear t1 t3 t4 t5 t6 hnt hdf A
      rintro A H7 ⟨rfl, t1, t3, t4, t5, t6, t7, hnt, hdf⟩
      generalize hb2 : partsR lc lr x.1 (x.2.take j ++ [m]) (x.2.drop (j + 1)) = b2 at hb1
      repeat refine R1.s_assoc ?_
      (first | refine R1.s_sq (by kernel_rfl) fun K hK => ?_ | refine R1.e_sq (by kernel_rfl) fun K hK => ?_)
      have rest2 : ∀ (b : Bool) (A8 : AAct) (H8 : Hp), Gr H7 H8 → (if b = true then false else b2) = b1 → slot A8.tm 1 = .one ((.o (.ptr N 0 0 2))) ∧ slot A8.tm 3 = .one (.i .i64 (lc.length : Int)) ∧ slot A8.tm 4 = .one (.i .i64 (i : Int)) ∧ slot A8.tm 5 = .one ((.o (.ptr M 0 0 2))) ∧ slot A8.tm 6 = .one (.i .i64 (j : Int)) ∧ slot A8.tm 94 = .one (.b b) ∧ A8.nt = 95 ∧ A8.dfr = [] → K A8 H8 := by
       clear hb1 t1 t3 t4 t5 t6 t7 hnt hdf A
       rintro b A H8 g8 hb1 ⟨t1, t3, t4, t5, t6, t94, hnt, hdf⟩
       refine hK _ _ ?_
       clear hK K
       have r1 := (g8.get _ m1 not_false).trans r1
       have m1 := Nat.lt_of_lt_of_le m1 g8.nx
       have rx := (g8.get _ n6 not_false).trans rx
       have n6 := Nat.lt_of_lt_of_le n6 g8.nx
       have g8 := g6.gr g8
       cases b with
       | true =>
        rw [if_pos rfl] at hb1
        rw [← hb1, if_pos rfl] at hr1
        rw [← hr1] at hr
        refine qX t94 ?_
        refine qW hnt ?_
        exact w4 _ _ (p4 _ _ (q4 _ _ (k4 _ _ (fin (false) _ _ qp (qd hdf) (g8) (hr)))))
       | false =>
       rw [if_neg Bool.false_ne_true, ← hb2, ← htj] at hb1
       refine qX t94 ?_
       refine qW hnt ?_
       refine w1 _ _ ?_
       refine qW (qA hnt (qA t6 hwj)) ?_
       refine ⟨x.2.length - (j + 1), by omega, j + 1, rfl, hlj, g8, n6, r1, rx, hb1, ?_⟩
       repeat' (first | (simp only [slot_put, Nat.reduceEqDiff, reduceIte, putD_nt, putD_dfr, t1, t3, t4, t5, t6, hnt, hdf]; first | done | rfl) | refine ⟨?_, ?_⟩)
      clear hK
      by_cases c0 : m < 0
      ·rw [if_pos c0] at hb1
       have c0 := eq_true c0
       refine qS (qA E2_P (qA t7 (qA hnt c0))) ?_
       refine rest2 true _ _ (Fr.refl _) hb1 ?_
       repeat' (first | (simp only [slot_put, Nat.reduceEqDiff, reduceIte, putD_nt, putD_dfr, t1, t3, t4, t5, t6, hnt, hdf]; first | done | rfl) | refine ⟨?_, ?_⟩)
      rw [if_neg c0] at hb1
      by_cases c1 : (lc.length : Int) ≤ m
      ·rw [if_pos c1] at hb1
       have c0 := eq_false c0
       have c1 := eq_true c1
       refine qS (qA E2_P (qA t3 (qA t7 (qA hnt (qA c0 c1))))) ?_
       refine rest2 true _ _ (Fr.refl _) hb1 ?_
       repeat' (first | (simp only [slot_put, Nat.reduceEqDiff, reduceIte, putD_nt, putD_dfr, t1, t3, t4, t5, t6, hnt, hdf]; first | done | rfl) | refine ⟨?_, ?_⟩)
      rw [if_neg c1] at hb1
      have hm0 : 0 ≤ m := by omega
      have hmn : m < lc.length := by omega
      have c0 := eq_false c0
      have c1 := eq_false c1
      obtain ⟨ci, cg, co, cc, rfl, hci, hcg, hct⟩ := ha6.open (by omega)
      have em : lc[m.toNat]? = some lc[m.toNat] := List.getElem?_eq_getElem (by omega)
      have et : lc[x.1.toNat]? = some lc[x.1.toNat] := List.getElem?_eq_getElem (by omega)
      have lm : ladC lc m = lc[m.toNat].2.2.1 := by unfold ladC; rw [em]; rfl
      have lt : ladC lc x.1 = lc[x.1.toNat].2.2.1 := by unfold ladC; rw [et]; rfl
      rw [lm, lt] at hb1
      generalize lc[m.toNat] = ym at em hb1
      generalize lc[x.1.toNat] = yt at et hb1
      obtain ⟨_, _, hym⟩ := hct _ _ em
      obtain ⟨_, _, hyt⟩ := hct _ _ et
      have m2 : M < H7.nx := n6
      have last : (if 0 ≤ sumI 0 lr m then false else b2) = b1 → (if decide (0 ≤ sumI 0 lr m) = true then false else b2) = b1 := fun h => by
       by_cases h0 : 0 ≤ sumI 0 lr m
       ·rw [if_pos h0] at h; rw [if_pos (decide_eq_true h0)]; exact h
       ·rw [if_neg h0] at h; rw [if_neg (by rw [decide_eq_true_eq]; exact h0)]; exact h
      by_cases hj0 : j = 0
      ·have cj : ((0 : Int) < (j : Int)) = False := eq_false (by omega)
       rw [hj0, List.take_zero, if_neg (by exact Bool.false_ne_true)] at hb1
       by_cases hne : ym.2.2.1 = yt.2.2.1
       ·rw [if_neg (fun h => h hne)] at hb1
        have hle : lEq ym.2.2.1 yt.2.2.1 = true := by rw [lEq_eq, hne, beq_self_eq_true]
        refine qS (qA E2_P (qA t1 (qA t3 (qA t5 (qA t6 (qA t7 (qA hnt (qA c0 (qA c1 (qA cj (qA r1 (qA m1 (qA rx (qA m2 (qA fd_puzzle_0 (qA ld_cells (qA el_cells (qA fd_cell_2 (qA ld_str (qA fd_rule_0 (qA ld_int (qA (ixI hm0 hmn) (qA (ixI hx0 hxn) (qA hci (qA hcg (qA hym.f3 (qA hym.le3 (qA hyt.f3 (qA hyt.le3 (qA hle (qA ld_puzzle bd_rSumPz))))))))))))))))))))))))))))))) ?_
        refine WE.con (rSumPz_con H7 _ _ lr m hb6 ha6.lt hR) fun w H8 g8 hw => ?_
        subst hw
        refine qS (qA E2_P hnt) ?_
        refine rest2 (decide (0 ≤ sumI 0 lr m)) _ _ g8 (last hb1) ?_
        repeat' (first | (simp only [slot_put, Nat.reduceEqDiff, reduceIte, putD_nt, putD_dfr, t1, t3, t4, t5, t6, hnt, hdf]; first | done | rfl) | refine ⟨?_, ?_⟩)
       ·rw [if_pos hne] at hb1
        have hle : lEq ym.2.2.1 yt.2.2.1 = false := by rw [lEq_eq]; exact beq_false_of_ne hne
        refine qS (qA E2_P (qA t1 (qA t3 (qA t5 (qA t6 (qA t7 (qA hnt (qA c0 (qA c1 (qA cj (qA r1 (qA m1 (qA rx (qA m2 (qA fd_puzzle_0 (qA ld_cells (qA el_cells (qA fd_cell_2 (qA ld_str (qA fd_rule_0 (qA ld_int (qA (ixI hm0 hmn) (qA (ixI hx0 hxn) (qA hci (qA hcg (qA hym.f3 (qA hym.le3 (qA hyt.f3 (qA hyt.le3 hle))))))))))))))))))))))))))))) ?_
        refine rest2 true _ _ (Fr.refl _) hb1 ?_
        repeat' (first | (simp only [slot_put, Nat.reduceEqDiff, reduceIte, putD_nt, putD_dfr, t1, t3, t4, t5, t6, hnt, hdf]; first | done | rfl) | refine ⟨?_, ?_⟩)
      ·have cj : ((0 : Int) < (j : Int)) = True := eq_true (by omega)
       have hlt3 : j - 1 < x.2.length := by omega
       have ey : x.2[j - 1]? = some x.2[j - 1] := List.getElem?_eq_getElem hlt3
       have hpp := fun z => prevI_take (x := z) (by omega) ey
       generalize x.2[j - 1] = y at ey hpp
       have hy1 := hut (j - 1) y ey
       have hw3 : IntKind.i64.wrap ((j : Int) - 1) = ((j - 1 : Nat) : Int) := by rw [wrapI (by omega) (by omega)]; omega
       rw [hpp m] at hb1
       by_cases c2 : m ≤ y
       ·rw [if_pos (decide_eq_true c2)] at hb1
        have c2 := eq_true c2
        refine qS (qA E2_P (qA t3 (qA t5 (qA t6 (qA t7 (qA hnt (qA c0 (qA c1 (qA cj (qA c2 (qA hw3 (qA rx (qA m2 (qA fd_rule_1 (qA ld_ints (qA el_ints (qA ld_int (qA (ixC hlt3) (qA hui (qA hug (qA hy1.1 hy1.2))))))))))))))))))))) ?_
        refine rest2 true _ _ (Fr.refl _) hb1 ?_
        repeat' (first | (simp only [slot_put, Nat.reduceEqDiff, reduceIte, putD_nt, putD_dfr, t1, t3, t4, t5, t6, hnt, hdf]; first | done | rfl) | refine ⟨?_, ?_⟩)
       ·rw [if_neg (by rw [decide_eq_true_eq]; exact c2)] at hb1
        have c2 := eq_false c2
        by_cases hne : ym.2.2.1 = yt.2.2.1
        ·rw [if_neg (fun h => h hne)] at hb1
         have hle : lEq ym.2.2.1 yt.2.2.1 = true := by rw [lEq_eq, hne, beq_self_eq_true]
         refine qS (qA E2_P (qA t1 (qA t3 (qA t5 (qA t6 (qA t7 (qA hnt (qA c0 (qA c1 (qA cj (qA c2 (qA hw3 (qA r1 (qA m1 (qA rx (qA m2 (qA fd_puzzle_0 (qA ld_cells (qA el_cells (qA fd_cell_2 (qA ld_str (qA fd_rule_0 (qA fd_rule_1 (qA ld_ints (qA el_ints (qA ld_int (qA (ixC hlt3) (qA hui (qA hug (qA hy1.1 (qA hy1.2 (qA (ixI hm0 hmn) (qA (ixI hx0 hxn) (qA hci (qA hcg (qA hym.f3 (qA hym.le3 (qA hyt.f3 (qA hyt.le3 (qA hle (qA ld_puzzle bd_rSumPz))))))))))))))))))))))))))))))))))))))))) ?_
         refine WE.con (rSumPz_con H7 _ _ lr m hb6 ha6.lt hR) fun w H8 g8 hw => ?_
         subst hw
         refine qS (qA E2_P hnt) ?_
         refine rest2 (decide (0 ≤ sumI 0 lr m)) _ _ g8 (last hb1) ?_
         repeat' (first | (simp only [slot_put, Nat.reduceEqDiff, reduceIte, putD_nt, putD_dfr, t1, t3, t4, t5, t6, hnt, hdf]; first | done | rfl) | refine ⟨?_, ?_⟩)
        ·rw [if_pos hne] at hb1
         have hle : lEq ym.2.2.1 yt.2.2.1 = false := by rw [lEq_eq]; exact beq_false_of_ne hne
         refine qS (qA E2_P (qA t1 (qA t3 (qA t5 (qA t6 (qA t7 (qA hnt (qA c0 (qA c1 (qA cj (qA c2 (qA hw3 (qA r1 (qA m1 (qA rx (qA m2 (qA fd_puzzle_0 (qA ld_cells (qA el_cells (qA fd_cell_2 (qA ld_str (qA fd_rule_0 (qA fd_rule_1 (qA ld_ints (qA el_ints (qA ld_int (qA (ixC hlt3) (qA hui (qA hug (qA hy1.1 (qA hy1.2 (qA (ixI hm0 hmn) (qA (ixI hx0 hxn) (qA hci (qA hcg (qA hym.f3 (qA hym.le3 (qA hyt.f3 (qA hyt.le3 hle))))))))))))))))))))))))))))))))))))))) ?_
         refine rest2 true _ _ (Fr.refl _) hb1 ?_
         repeat' (first | (simp only [slot_put, Nat.reduceEqDiff, reduceIte, putD_nt, putD_dfr, t1, t3, t4, t5, t6, hnt, hdf]; first | done | rfl) | refine ⟨?_, ?_⟩)
     ·clear hx hy Kx Ky
      have hje : j = x.2.length := by omega
      rw [hje, List.drop_length, partsR] at hb1
      rw [← hb1, if_neg (by decide)] at hr1
      rw [← hr1] at hr
      refine qW hnt ?_
      refine p2 _ _ (q1 _ _ ?_)
      refine qW (qA hnt (qA t4 hw2)) ?_
      refine ⟨lr.length - (i + 1), by omega, i + 1, rfl, hlt, g6, m1, r1, hr, ?_⟩
      repeat' (first | (simp only [slot_put, Nat.reduceEqDiff, reduceIte, putD_nt, putD_dfr, t1, t3, t4, hnt, hdf]; first | done | rfl) | refine ⟨?_, ?_⟩)
    ·repeat' (first | (simp only [slot_put, Nat.reduceEqDiff, reduceIte, putD_nt, putD_dfr, t1, t3, t4, t5, hnt, hdf]; first | done | rfl) | refine ⟨?_, ?_⟩)
   clear hK
   by_cases c0 : x.1 < 0
   ·rw [if_pos c0] at hr
    have c0 := eq_true c0
    refine qS (qA E2_P (qA t5 (qA hnt (qA rx (qA n4 (qA fd_rule_0 (qA ld_int c0))))))) ?_
    refine rest true _ _ (Fr.refl _) (fun h => by cases h) hr ?_
    repeat' (first | (simp only [slot_put, Nat.reduceEqDiff, reduceIte, putD_nt, putD_dfr, t1, t3, t4, t5, hnt, hdf]; first | done | rfl) | refine ⟨?_, ?_⟩)
   rw [if_neg c0] at hr
   by_cases c1 : (lc.length : Int) ≤ x.1
   ·rw [if_pos c1] at hr
    have c0 := eq_false c0
    have c1 := eq_true c1
    refine qS (qA E2_P (qA t3 (qA t5 (qA hnt (qA rx (qA n4 (qA fd_rule_0 (qA ld_int (qA c0 c1))))))))) ?_
    refine rest true _ _ (Fr.refl _) (fun h => by cases h) hr ?_
    repeat' (first | (simp only [slot_put, Nat.reduceEqDiff, reduceIte, putD_nt, putD_dfr, t1, t3, t4, t5, hnt, hdf]; first | done | rfl) | refine ⟨?_, ?_⟩)
   rw [if_neg c1] at hr
   have hx0 : 0 ≤ x.1 := by omega
   have hxn : x.1 < lc.length := by omega
   have c0 := eq_false c0
   have c1 := eq_false c1
   refine qS (qA E2_P (qA t1 (qA t3 (qA t4 (qA t5 (qA hnt (qA rx (qA n4 (qA r1 (qA m1 (qA fd_rule_0 (qA ld_int (qA c0 (qA c1 (qA ld_puzzle bd_rSumPz))))))))))))))) ?_
   refine WE.con (rSumPz_con H4 _ _ lr x.1 (hB.gr g4) (hA.gr g4).lt hR) fun w H8 g8 hw => ?_
   subst hw
   refine qS (qA E2_P (qA t4 hnt)) ?_
   refine rest (!(sumI 0 lr x.1 == (i : Int))) _ _ g8 (fun _ => ⟨hx0, hxn⟩) ?_ ?_
   ·by_cases he : sumI 0 lr x.1 = (i : Int)
    ·rw [if_neg (fun h => h he)] at hr; rw [he, beq_self_eq_true]; exact hr
    ·rw [if_pos he] at hr; rw [beq_false_of_ne he]; exact hr
   ·repeat' (first | (simp only [slot_put, Nat.reduceEqDiff, reduceIte, putD_nt, putD_dfr, t1, t3, t4, t5, hnt, hdf]; first | done | rfl) | refine ⟨?_, ?_⟩)
  ·clear hx hy Kx Ky
   have hie : i = lr.length := by omega
   rw [hie, List.drop_length, refR] at hr
   refine qW hnt ?_
   refine k2 _ _ ?_
   refine qW hnt ?_
   exact fin (true) _ _ qp (qd hdf) (g3) (hr)
 ·repeat' (first | (simp only [slot_put, Nat.reduceEqDiff, reduceIte, putD_nt, putD_dfr, t1, hnt, hdf]; first | done | rfl) | refine ⟨?_, ?_⟩)
end Go.Proofs.YtiejeicaaojdlaaGreat
namespace Go.Proofs.YtiejeicaaojdlaaGreat
open Go Go.Eng
def isT (l : List Rl) (t : Int) : Bool := l.any fun x => x.1 == t
theorem sumI_no : ∀ (n : Nat) (l : List Rl) (t : Int), isT l t = false → sumI n l t = -1
 | _, [], _, _ => rfl
 | n, x :: l, t, h => by
  unfold isT at h
  rw [List.any_cons, Bool.or_eq_false_iff] at h
  unfold sumI
  rw [if_neg (ne_of_beq_false h.1)]
  exact sumI_no (n + 1) l t h.2
theorem sumI_yes : ∀ (n : Nat) (l : List Rl) (t : Int), isT l t = true → (n : Int) ≤ sumI n l t ∧ sumI n l t < (n : Int) + l.length
 | _, [], _, h => by cases h
 | n, x :: l, t, h => by
  unfold sumI
  by_cases e : x.1 = t
  ·rw [if_pos e, List.length_cons]; omega
  ·rw [if_neg e]
   have h2 : isT l t = true := by
    unfold isT at h ⊢
    rw [List.any_cons, beq_false_of_ne e, Bool.false_or] at h
    exact h
   have := sumI_yes (n + 1) l t h2
   rw [List.length_cons]; omega
theorem sumI_app : ∀ (n : Nat) (acc l : List Rl) (t : Int), sumI n (acc ++ l) t = if isT acc t = true then sumI n acc t else sumI (n + acc.length) l t
 | _, [], _, t => by rw [if_neg (show ¬ (isT [] t = true) from Bool.false_ne_true)]; rfl
 | n, x :: acc, l, t => by
  rw [List.cons_append]
  unfold sumI
  by_cases e : x.1 = t
  ·rw [if_pos e, if_pos (by unfold isT; rw [List.any_cons, e, beq_self_eq_true]; rfl), if_pos e]
  ·have h2 : isT (x :: acc) t = isT acc t := by unfold isT; rw [List.any_cons, beq_false_of_ne e, Bool.false_or]
   rw [if_neg e, if_neg e, h2, sumI_app (n + 1) acc l t, List.length_cons]
   have : n + 1 + acc.length = n + (acc.length + 1) := by omega
   rw [this]
   cases l <;> rfl
theorem sumI_pos (l : List Rl) (t : Int) : decide (0 ≤ sumI 0 l t) = isT l t := by
 cases h : isT l t with
 | true => exact decide_eq_true (by have := (sumI_yes 0 l t h).1; omega)
 | false => rw [sumI_no 0 l t h]; rfl
theorem partsR_eq (lc : List Cl) (lr : List Rl) (t : Int) : ∀ (l acc : List Int), partsR lc lr t acc l = (partsB lc t acc l && l.all fun m => !isT lr m)
 | [], _ => rfl
 | m :: l, acc => by
  rw [partsR, partsB, List.all_cons]
  by_cases c0 : m < 0
  ·rw [if_pos c0, if_pos c0]; rfl
  rw [if_neg c0, if_neg c0]
  by_cases c1 : (lc.length : Int) ≤ m
  ·rw [if_pos c1, if_pos c1]; rfl
  rw [if_neg c1, if_neg c1]
  by_cases c2 : prevI acc m = true
  ·rw [if_pos c2, if_pos c2]; rfl
  rw [if_neg c2, if_neg c2]
  by_cases c3 : ladC lc m ≠ ladC lc t
  ·rw [if_pos c3, if_pos c3]; rfl
  rw [if_neg c3, if_neg c3, ← sumI_pos]
  by_cases c4 : 0 ≤ sumI 0 lr m
  ·rw [if_pos c4, decide_eq_true c4]
   cases partsB lc t (acc ++ [m]) l <;> rfl
  ·rw [if_neg c4, decide_eq_false c4, partsR_eq lc lr t l]
   rfl
theorem partsB_range (lc : List Cl) (t : Int) : ∀ (l acc : List Int), partsB lc t acc l = true → ∀ m ∈ l, 0 ≤ m ∧ m < lc.length
 | [], _, _, _, h => by cases h
 | m :: l, acc, h, k, hk => by
  rw [partsB] at h
  by_cases c0 : m < 0
  ·rw [if_pos c0] at h; cases h
  rw [if_neg c0] at h
  by_cases c1 : (lc.length : Int) ≤ m
  ·rw [if_pos c1] at h; cases h
  rw [if_neg c1] at h
  by_cases c2 : prevI acc m = true
  ·rw [if_pos c2] at h; cases h
  rw [if_neg c2] at h
  by_cases c3 : ladC lc m ≠ ladC lc t
  ·rw [if_pos c3] at h; cases h
  rw [if_neg c3] at h
  rcases List.mem_cons.1 hk with rfl | hk
  ·omega
  ·exact partsB_range lc t l _ h k hk
theorem goR_eq (lc : List Cl) (lr : List Rl) : ∀ (rest acc : List Rl) (S : List Int), lr = acc ++ rest → (∀ m ∈ S, 0 ≤ m ∧ m < (lc.length : Int)) →
  goR lc (acc.map (·.1)) S rest = (refR lc lr acc.length rest && S.all fun m => !isT lr m)
 | [], acc, S, he, hS => by
  rw [List.append_nil] at he
  subst he
  rw [goR, refR, Bool.true_and]
  have hT : ∀ t : Int, ((lr.map (·.1)).any fun x => x == t) = isT lr t := fun t => by unfold isT; rw [List.any_map]; rfl
  cases hr : S.all fun m => !isT lr m with
  | true =>
   rw [List.all_eq_true] at hr ⊢
   intro j _
   rw [hT]
   cases hs : S.any fun x => x == (j : Int) with
   | false => rw [Bool.and_false]; rfl
   | true =>
    obtain ⟨m, hm, e⟩ := List.any_eq_true.1 hs
    rw [eq_of_beq e] at hm
    have := hr _ hm
    rw [Bool.and_true]; exact this
  | false =>
   rw [List.all_eq_false] at hr ⊢
   obtain ⟨m, hm, h⟩ := hr
   obtain ⟨h0, h1⟩ := hS m hm
   have e : ((m.toNat : Nat) : Int) = m := by omega
   refine ⟨m.toNat, List.mem_range.2 (by omega), ?_⟩
   rw [hT, e]
   have h2 : (S.any fun x => x == m) = true := List.any_eq_true.2 ⟨m, hm, beq_self_eq_true _⟩
   rw [h2, Bool.and_true]; exact h
 | x :: rest, acc, S, he, hS => by
  rw [goR, refR]
  by_cases c0 : x.1 < 0
  ·rw [if_pos c0, if_pos c0]; rfl
  rw [if_neg c0, if_neg c0]
  by_cases c1 : (lc.length : Int) ≤ x.1
  ·rw [if_pos c1, if_pos c1]; rfl
  rw [if_neg c1, if_neg c1]
  have hT : ((acc.map (·.1)).any fun y => y == x.1) = isT acc x.1 := by unfold isT; rw [List.any_map]; rfl
  rw [hT]
  have hs : sumI 0 lr x.1 = if isT acc x.1 = true then sumI 0 acc x.1 else (acc.length : Int) := by
   rw [he, sumI_app]
   cases isT acc x.1 with
   | true => rfl
   | false =>
    rw [if_neg Bool.false_ne_true, if_neg Bool.false_ne_true, sumI, if_pos rfl, Nat.zero_add]
  cases ht : isT acc x.1 with
  | true =>
   rw [ht, if_pos rfl] at hs
   have := sumI_yes 0 acc x.1 ht
   rw [if_pos rfl, if_pos (by omega)]; rfl
  | false =>
   rw [ht, if_neg Bool.false_ne_true] at hs
   rw [if_neg Bool.false_ne_true, if_neg (show ¬ (sumI 0 lr x.1 ≠ (acc.length : Int)) from fun h => h hs), partsR_eq]
   cases hp : partsB lc x.1 [] x.2 with
   | false => rfl
   | true =>
    have hr := partsB_range lc x.1 x.2 [] hp
    have ih := goR_eq lc lr rest (acc ++ [x]) (S ++ x.2) (by rw [he, List.append_assoc]; rfl) fun m hm => by
     rcases List.mem_append.1 hm with h | h
     ·exact hS m h
     ·exact hr m h
    rw [List.map_append, List.length_append, List.all_append] at ih
    rw [if_neg (by decide : ¬ (true = false)), Bool.true_and]
    refine ih.trans ?_
    show (refR lc lr (acc.length + 1) rest && _) = _
    cases x.2.all fun m => !isT lr m with
    | true => rw [if_neg (by decide : ¬ (true = false)), Bool.and_true]
    | false => rw [if_pos rfl, Bool.and_false, Bool.and_false]; rfl
theorem rules_alike (lc : List Cl) (lr : List Rl) : refR lc lr 0 lr = goR lc [] [] lr := by
 have := goR_eq lc lr lr [] [] rfl fun m hm => by cases hm
 rw [List.map_nil] at this
 rw [this]
 exact (Bool.and_true _).symm
end Go.Proofs.YtiejeicaaojdlaaGreat
namespace Go.Proofs.YtiejeicaaojdlaaGreat
open Go Go.Eng
theorem bd_checkPz : hasBody Tryz.prog 15 = true := by kernel_rfl
theorem bd_rCheckPz : hasBody Tryz.prog 16 = true := by kernel_rfl
noncomputable def chkPz : Option (List Lad) → Pz → Int
 | none, _ => 1
 | some ls, p => if (64 : Int) < p.1.length then 3 else if (64 : Int) < p.2.length then 3 else if goC (some ls) [] p.1 ≠ 0 then goC (some ls) [] p.1 else if goR p.1 [] [] p.2 = false then 53 else 0
set_option maxRecDepth 10000 in
set_option maxHeartbeats 8000000 in
theorem checkPz_con (H : Hp) (k a b : AC) (o : Option (List Lad)) (p : Pz) (hk : BookO H k o) (hL : ∀ ls, o = some ls → ∀ x ∈ ls, x.2.length ≤ 1000000) (ha : SlCl H a p.1) (hb : SlRl H b p.2) (hB : PzB p) :
  Con E2 15 [.one k, .agg [a, b]] H (fun _ => False) fun r _ => r = .one (.i .i64 (chkPz o p)) := by
 refine Con.of rfl fun lg => ?_
 have hk : BookO ⟨H.t, H.nx, lg⟩ k o := BookO.same (H := H) rfl rfl hk
 have ha : SlCl ⟨H.t, H.nx, lg⟩ a p.1 := ha
 have hb : SlRl ⟨H.t, H.nx, lg⟩ b p.2 := hb
 generalize (⟨H.t, H.nx, lg⟩ : Hp) = H at hk ha hb ⊢
 refine C1.body (E := E2) (nt := 28) (res := [.tmp 4]) Tryz.func15 rfl rfl rfl rfl rfl fun tm hargs => ?_
 have h0 := hargs 0 _ rfl
 have h1 := hargs 1 _ rfl
 clear hargs
 have fin : ∀ (e : Int) (A : AAct) (H3 : Hp), slot A.tm 4 = .one (.i .i64 e) → A.dfr = [] → Gr H H3 → e = chkPz o p → ∃ w H4, callEnd E2 [.tmp 4] (.ret, A, H3) = .ok [(w, H4)] ∧ Gr H H4 ∧ ∀ _ : List Nat, w = .one (.i .i64 (chkPz o p)) := fun e A H3 h1 h2 h3 h4 => ⟨_, H3, callEnd_one (.i .i64 e) (.inr rfl) h2 h1, h3, fun _ => by rw [h4]⟩
 generalize hr0 : chkPz o p = r0 at fin
 obtain ⟨lc, lr⟩ := p
 have hP : ∀ x ∈ lr, x.2.length ≤ 4611686018427387904 := fun x hx => by have := hB.p x hx; omega
 simp only at ha hb
 refine qG (qA E2_P (qA h0 h1)) fun K hK => ?_
 refine hK _ _ ?_
 clear hK K
 refine R1.gen (fun A1 H1 => Gr H H1 ∧ H.nx < H1.nx ∧ H1.get H.nx = some (.arr [a, b] 42 0 0) ∧ slot A1.tm 0 = .one (k) ∧ slot A1.tm 3 = .one ((.o (.ptr H.nx 0 0 2))) ∧ A1.nt = 28 ∧ A1.dfr = [])
  ⟨(Fr.refl _).new _, ?_⟩ ?_
 ·exact qZ h0
 rintro A1 H1 ⟨g1, m1, r1, t0, t3, hnt, hdf⟩
 clear h0 h1 tm
 have hk := hk.gr g1
 have ha := ha.gr g1
 have hb := hb.gr g1
 refine qG (qA E2_P (qA t0 (qA hnt bd_absent))) fun K hK => ?_
 refine WE.con (absent_con H1 k o hk hL) fun w H2 g2 hw => ?_
 subst hw
 have r1 := (g2.get _ m1 not_false).trans r1
 have m1 := Nat.lt_of_lt_of_le m1 g2.nx
 have hk := hk.gr g2
 have ha := ha.gr g2
 have hb := hb.gr g2
 have g2 := g1.gr g2
 clear g1
 refine qS (qA E2_P hnt) ?_
 refine hK _ _ ?_
 clear hK K
 cases o with
 | none =>
  repeat refine R1.s_assoc ?_
  (first | refine R1.s_cnd fun Kx Ky hx hy => ?_ | refine R1.e_cnd fun Kx Ky hx hy => ?_); simp only [qB, Option.isNone]
  refine hx ?_
  clear hx hy Kx Ky
  refine qW hnt ?_
  exact fin (1) _ _ qp (qd hdf) (g2) (hr0)
 | some ls =>
 repeat refine R1.s_assoc ?_
 (first | refine R1.s_cnd fun Kx Ky hx hy => ?_ | refine R1.e_cnd fun Kx Ky hx hy => ?_); simp only [qB, Option.isNone]
 refine hy ?_
 clear hx hy Kx Ky
 refine R1.s_skip ?_
 rw [chkPz] at hr0
 simp only at hr0
 by_cases c1 : (64 : Int) < lc.length
 ·rw [if_pos c1] at hr0
  have c1 := eq_true c1
  refine qG (qA E2_P (qA t3 (qA hnt (qA r1 (qA m1 (qA fd_puzzle_0 (qA ld_cells (qA ln_cells (qA ha.len (qA ha.lt c1)))))))))) fun K hK => ?_
  refine hK _ _ ?_
  clear hK K
  refine qY ?_
  refine qW hnt ?_
  exact fin (3) _ _ qp (qd hdf) (g2) (hr0)
 rw [if_neg c1] at hr0
 by_cases c2 : (64 : Int) < lr.length
 ·rw [if_pos c2] at hr0
  have c1 := eq_false c1
  have c2 := eq_true c2
  refine qG (qA E2_P (qA t3 (qA hnt (qA r1 (qA m1 (qA fd_puzzle_0 (qA fd_puzzle_1 (qA ld_cells (qA ld_rules (qA ln_cells (qA ln_rules (qA ha.len (qA ha.lt (qA hb.len (qA hb.lt (qA c1 c2)))))))))))))))) fun K hK => ?_
  refine hK _ _ ?_
  clear hK K
  refine qY ?_
  refine qW hnt ?_
  exact fin (3) _ _ qp (qd hdf) (g2) (hr0)
 rw [if_neg c2] at hr0
 have hC : lc.length ≤ 1000000 := by omega
 have hR : lr.length ≤ 1000000 := by omega
 have c1 := eq_false c1
 have c2 := eq_false c2
 refine qG (qA E2_P (qA t3 (qA hnt (qA r1 (qA m1 (qA fd_puzzle_0 (qA fd_puzzle_1 (qA ld_cells (qA ld_rules (qA ln_cells (qA ln_rules (qA ha.len (qA ha.lt (qA hb.len (qA hb.lt (qA c1 c2)))))))))))))))) fun K hK => ?_
 refine hK _ _ ?_
 clear hK K
 refine qY ?_
 refine R1.s_skip ?_
 refine qG (qA E2_P (qA t0 (qA t3 (qA hnt (qA r1 (qA m1 (qA fd_puzzle_0 (qA ld_cells bd_checkCells)))))))) fun K hK => ?_
 refine WE.con (checkCells_con H2 k a (some ls) lc hk hL ha hC) fun w H3 g3 hw => ?_
 subst hw
 have r1 := (g3.get _ m1 not_false).trans r1
 have m1 := Nat.lt_of_lt_of_le m1 g3.nx
 have ha := ha.gr g3
 have hb := hb.gr g3
 have g3 := g2.gr g3
 refine qS (qA E2_P hnt) ?_
 refine hK _ _ ?_
 clear hK K
 generalize goC (some ls) [] lc = e0 at hr0 ⊢
 by_cases he0 : e0 = 0
 case neg =>
  have ce : (e0 == 0) = false := beq_false_of_ne he0
  rw [if_pos he0] at hr0
  refine qW (qA E2_P (qA hnt ce)) ?_
  refine qY ?_
  refine qW hnt ?_
  exact fin (e0) _ _ qp (qd hdf) (g3) (hr0)
 rw [if_neg (fun h => h he0)] at hr0
 have ce : (e0 == 0) = true := by rw [he0]; rfl
 refine qW (qA E2_P (qA hnt ce)) ?_
 refine qY ?_
 refine R1.s_skip ?_
 refine qG (qA E2_P (qA t3 (qA hnt (qA r1 (qA m1 (qA ld_puzzle bd_checkRules)))))) fun K hK => ?_
 refine WE.con (checkRules_con H3 a b lc lr ha hb hC hR hP) fun w H4 g4 hw => ?_
 subst hw
 have g4 := g3.gr g4
 refine qS (qA E2_P hnt) ?_
 refine hK _ _ ?_
 clear hK K
 cases hg : goR lc [] [] lr with
 | false =>
  rw [hg, if_pos rfl] at hr0
  refine qY ?_
  refine qW hnt ?_
  exact fin (53) _ _ qp (qd hdf) (g4) (hr0)
 | true =>
  rw [hg, if_neg (by decide : ¬ (true = false))] at hr0
  refine qY ?_
  refine qW hnt ?_
  exact fin (0) _ _ qp (qd hdf) (g4) (hr0)
set_option maxRecDepth 10000 in
set_option maxHeartbeats 16000000 in
theorem rCheckPz_con (H : Hp) (k a b : AC) (o : Option (List Lad)) (p : Pz) (hk : RBkO H k o) (hL : ∀ ls, o = some ls → (∀ x ∈ ls, x.2.length ≤ 1000000) ∧ ls.length ≤ 1000000) (ha : SlCl H a p.1) (hb : SlRl H b p.2) (hB : PzB p) :
  Con E2 16 [.one k, .agg [a, b]] H (fun _ => False) fun r _ => r = .one (.i .i64 (chkPz o p)) := by
 refine Con.of rfl fun lg => ?_
 have hk : RBkO ⟨H.t, H.nx, lg⟩ k o := RBkO.same (H := H) rfl rfl hk
 have ha : SlCl ⟨H.t, H.nx, lg⟩ a p.1 := ha
 have hb : SlRl ⟨H.t, H.nx, lg⟩ b p.2 := hb
 generalize (⟨H.t, H.nx, lg⟩ : Hp) = H at hk ha hb ⊢
 refine C1.body (E := E2) (nt := 82) (res := [.tmp 4]) Tryz.func16 rfl rfl rfl rfl rfl fun tm hargs => ?_
 have h0 := hargs 0 _ rfl
 have h1 := hargs 1 _ rfl
 clear hargs
 have fin : ∀ (e : Int) (A : AAct) (H3 : Hp), slot A.tm 4 = .one (.i .i64 e) → A.dfr = [] → Gr H H3 → e = chkPz o p → ∃ w H4, callEnd E2 [.tmp 4] (.ret, A, H3) = .ok [(w, H4)] ∧ Gr H H4 ∧ ∀ _ : List Nat, w = .one (.i .i64 (chkPz o p)) := fun e A H3 h1 h2 h3 h4 => ⟨_, H3, callEnd_one (.i .i64 e) (.inr rfl) h2 h1, h3, fun _ => by rw [h4]⟩
 generalize hr0 : chkPz o p = r0 at fin
 obtain ⟨l, lr⟩ := p
 have hP : ∀ x ∈ lr, x.2.length ≤ 4611686018427387904 := fun x hx => by have := hB.p x hx; omega
 simp only at ha hb
 refine qG (qA E2_P (qA h0 h1)) fun K hK => ?_
 refine hK _ _ ?_
 clear hK K
 refine R1.gen (fun A1 H1 => Gr H H1 ∧ H.nx < H1.nx ∧ H1.get H.nx = some (.arr [a, b] 42 0 0) ∧ slot A1.tm 0 = .one (k) ∧ slot A1.tm 3 = .one ((.o (.ptr H.nx 0 0 2))) ∧ A1.nt = 82 ∧ A1.dfr = [])
  ⟨(Fr.refl _).new _, ?_⟩ ?_
 ·exact qZ h0
 rintro A1 H1 ⟨g1, m1, r1, t0, t3, hnt, hdf⟩
 clear h0 h1 tm
 have hk := hk.gr g1
 have ha := ha.gr g1
 have hb := hb.gr g1
 cases o with
 | none =>
  have hk' : k = .o .nilP := hk
  subst hk'
  repeat refine R1.s_assoc ?_
  refine R1.s_rg fun K hK => ?_
  simp only [qB, slotOk, Nat.reduceLT, E2_P, t0, hnt, ad_prbook, eql_nilP, plain_nilP un_prbook, nilP2_n]
  refine hK _ _ ?_
  clear hK K
  refine qY ?_
  refine qW hnt ?_
  exact fin (1) _ _ qp (qd hdf) (g1) (hr0)
 | some ls =>
 have hk' : RBk H1 k ls := hk
 obtain ⟨kb, _, rfl, _⟩ := hk'
 repeat refine R1.s_assoc ?_
 refine R1.s_rg fun K hK => ?_
 simp only [qB, slotOk, Nat.reduceLT, E2_P, t0, hnt, ad_prbook, eql_ptr_nil]
 refine hK _ _ ?_
 clear hK K
 refine qY ?_
 refine R1.s_skip ?_
 rw [chkPz] at hr0
 simp only at hr0
 by_cases c1 : (64 : Int) < l.length
 ·rw [if_pos c1] at hr0
  have c1 := eq_true c1
  refine qG (qA E2_P (qA t3 (qA hnt (qA r1 (qA m1 (qA fd_puzzle_0 (qA ld_cells (qA ln_cells (qA ha.len (qA ha.lt c1)))))))))) fun K hK => ?_
  refine hK _ _ ?_
  clear hK K
  refine qY ?_
  refine qW hnt ?_
  exact fin (3) _ _ qp (qd hdf) (g1) (hr0)
 rw [if_neg c1] at hr0
 by_cases c2 : (64 : Int) < lr.length
 ·rw [if_pos c2] at hr0
  have c1 := eq_false c1
  have c2 := eq_true c2
  refine qG (qA E2_P (qA t3 (qA hnt (qA r1 (qA m1 (qA fd_puzzle_0 (qA fd_puzzle_1 (qA ld_cells (qA ld_rules (qA ln_cells (qA ln_rules (qA ha.len (qA ha.lt (qA hb.len (qA hb.lt (qA c1 c2)))))))))))))))) fun K hK => ?_
  refine hK _ _ ?_
  clear hK K
  refine qY ?_
  refine qW hnt ?_
  exact fin (3) _ _ qp (qd hdf) (g1) (hr0)
 rw [if_neg c2] at hr0
 have hC : l.length ≤ 1000000 := by omega
 have hR : lr.length ≤ 1000000 := by omega
 have c1 := eq_false c1
 have c2 := eq_false c2
 refine qG (qA E2_P (qA t3 (qA hnt (qA r1 (qA m1 (qA fd_puzzle_0 (qA fd_puzzle_1 (qA ld_cells (qA ld_rules (qA ln_cells (qA ln_rules (qA ha.len (qA ha.lt (qA hb.len (qA hb.lt (qA c1 c2)))))))))))))))) fun K hK => ?_
 refine hK _ _ ?_
 clear hK K
 refine qY ?_
 generalize hR1 : goR l [] [] lr = rb at hr0
 generalize hc0 : goC (some ls) [] l = e0 at hr0
 obtain ⟨N, hN⟩ : ∃ N, N = H.nx := ⟨_, rfl⟩
 rw [← hN] at m1 r1 t3
 clear hN
 refine qW hnt ?_
 refine R1.s_block fun K k1 k2 k3 k4 => ?_
 refine R1.loop (fun m A H2 => ∃ i : Nat, m = l.length - i ∧ i ≤ l.length ∧ Gr H1 H2 ∧ goC (some ls) (l.take i) (l.drop i) = e0 ∧ slot A.tm 0 = .one ((.o (.ptr kb 0 0 2))) ∧ slot A.tm 3 = .one ((.o (.ptr N 0 0 2))) ∧ slot A.tm 5 = .one (.i .i64 (i : Int)) ∧ A.nt = 82 ∧ A.dfr = []) ?_ l.length ⟨0, rfl, Nat.zero_le _, Fr.refl _, hc0, ?_⟩
 ·clear t0 t3 hnt hdf A1
  rintro m A H2 ⟨i, rfl, hi, g2, hr, t0, t3, t5, hnt, hdf⟩
  have hv2 := ha.gr g2
  have hk2 := hk.gr g2
  have r1 := (g2.get _ m1 not_false).trans r1
  have m1 := Nat.lt_of_lt_of_le m1 g2.nx
  have g02 := g1.gr g2
  refine qW (qA E2_P (qA t3 (qA t5 (qA hnt (qA r1 (qA m1 (qA fd_puzzle_0 (qA ld_cells (qA ln_cells (qA hv2.len hv2.lt)))))))))) ?_
  refine qE fun Kx Ky hx hy => ?_
  refine iteI (fun hc => hx ?_) (fun hc => hy ?_)
  ·clear hx hy Kx Ky
   have hlt : i < l.length := by omega
   have ex : l[i]? = some l[i] := List.getElem?_eq_getElem hlt
   have hdr : l.drop i = l[i] :: l.drop (i + 1) := List.drop_eq_getElem_cons hlt
   have htk : l.take (i + 1) = l.take i ++ [l[i]] := List.take_succ_eq_append_getElem hlt
   have hmem : l[i] ∈ l := List.getElem_mem hlt
   generalize l[i] = x at ex hdr htk hmem
   have hw2 : IntKind.i64.wrap ((i : Int) + 1) = ((i + 1 : Nat) : Int) := by rw [wrapI (by omega) (by omega)]; omega
   obtain ⟨id, g, off, cells, rfl, hid, hgr, hat⟩ := hv2.open (by omega)
   obtain ⟨p, q, hx1⟩ := hat i x ex
   rw [hdr, goC] at hr
   refine qV ?_
   refine R1.s_block fun K2 q1 q2 q3 q4 => ?_
   refine qG (qA E2_P (qA t3 (qA t5 (qA hnt (qA r1 (qA m1 (qA fd_puzzle_0 (qA ld_cells (qA el_cells (qA ld_cell (qA sz_cell (qA zr_cell (qA (ixC hlt) (qA hid (qA hgr (qA hx1.all hx1.le)))))))))))))))) fun K hK => ?_
   refine hK _ _ ?_
   clear hK K
   refine R1.gen (fun A3 H3 => Gr H2 H3 ∧ H2.nx < H3.nx ∧ H3.get H2.nx = some (.arr [.i .i64 x.1, .o (.str x.2.1), .o (.str x.2.2.1), p, q] 108 0 0) ∧ slot A3.tm 0 = .one ((.o (.ptr kb 0 0 2))) ∧ slot A3.tm 3 = .one ((.o (.ptr N 0 0 2))) ∧ slot A3.tm 5 = .one (.i .i64 (i : Int)) ∧ slot A3.tm 6 = .one ((.o (.ptr H2.nx 0 0 5))) ∧ A3.nt = 82 ∧ A3.dfr = [])
    ⟨((Fr.refl _).new _).mod _ (.inl (Nat.le_refl _)), ?_⟩ ?_
   ·exact qZ (qA t0 (qA t3 (qA t5 (qA hnt hdf))))
   clear t0 t3 t5 hnt hdf A
   rintro A H3 ⟨g3, n3, rx, t0, t3, t5, t6, hnt, hdf⟩
   obtain ⟨M, hM⟩ : ∃ M, M = H2.nx := ⟨_, rfl⟩
   rw [← hM] at rx n3 t6
   have hgr3 : rowOf (H3.get id) g = some cells := by rw [g3.get _ hid not_false]; exact hgr
   have hid3 : id < H3.nx := Nat.lt_of_lt_of_le hid g3.nx
   have hk3 := hk2.gr g3
   have r1 := (g3.get _ m1 not_false).trans r1
   have m1 := Nat.lt_of_lt_of_le m1 g3.nx
   have g13 := g02.gr g3
   generalize hr1 : (if ladE (some ls) x.2.2.1 ≠ 0 then 4 else if chkNm x.2.2.2 ≠ 0 then chkNm x.2.2.2 else goC (some ls) (l.take i ++ [x]) (l.drop (i + 1))) = r1' at hr
   repeat refine R1.s_assoc ?_
   (first | refine R1.s_sq (by kernel_rfl) fun K hK => ?_ | refine R1.e_sq (by kernel_rfl) fun K hK => ?_)
   have rest : ∀ (b : Bool) (A4 : AAct) (H4 : Hp), Gr H3 H4 → (if b = true then 53 else r1') = e0 → slot A4.tm 0 = .one ((.o (.ptr kb 0 0 2))) ∧ slot A4.tm 3 = .one ((.o (.ptr N 0 0 2))) ∧ slot A4.tm 5 = .one (.i .i64 (i : Int)) ∧ slot A4.tm 6 = .one ((.o (.ptr M 0 0 5))) ∧ slot A4.tm 63 = .one (.b b) ∧ A4.nt = 82 ∧ A4.dfr = [] → K A4 H4 := by
    clear hr t0 t3 t5 t6 hnt hdf A
    rintro b A H4 g4 hr ⟨t0, t3, t5, t6, t63, hnt, hdf⟩
    refine hK _ _ ?_
    clear hK K
    have rx := (g4.get _ n3 not_false).trans rx
    have n3 := Nat.lt_of_lt_of_le n3 g4.nx
    have hk4 := hk3.gr g4
    have g14 := g13.gr g4
    have g24 := g3.gr g4
    clear g3
    have out : e0 ≠ 0 → e0 = r0 := fun h => by rw [← hr0, if_pos h]
    cases b with
    | true =>
     rw [if_pos rfl] at hr
     refine qX t63 ?_
     refine qW hnt ?_
     exact q4 _ _ (k4 _ _ (fin (53) _ _ qp (qd hdf) (g14) (hr.trans (out (by omega)))))
    | false =>
    rw [if_neg Bool.false_ne_true, ← hr1] at hr
    refine qX t63 ?_
    refine R1.s_skip ?_
    refine qG (qA E2_P (qA t0 (qA t6 (qA hnt (qA rx (qA n3 (qA fd_cell_2 (qA ld_str bd_rLadder)))))))) fun K hK => ?_
    refine WE.con (rLadder_con H4 _ ls x.2.2.1 hk4 (hL ls rfl).1 (hL ls rfl).2) fun w H6 g6 ⟨c, hw, ha, hcl⟩ => ?_
    subst hw
    have rx := (g6.get _ n3 not_false).trans rx
    have n3 := Nat.lt_of_lt_of_le n3 g6.nx
    have g6 := g24.gr g6
    refine qS (qA E2_P (qA hnt (qA zr_lad (qA sz_lad hcl)))) ?_
    refine hK _ _ ?_
    clear hK K
    refine R1.gen (fun A7 H7 => Gr H2 H7 ∧ H7.get M = some (.arr [.i .i64 x.1, .o (.str x.2.1), .o (.str x.2.2.1), p, q] 108 0 0) ∧ M < H7.nx ∧ slot A7.tm 0 = .one ((.o (.ptr kb 0 0 2))) ∧ slot A7.tm 3 = .one ((.o (.ptr N 0 0 2))) ∧ slot A7.tm 5 = .one (.i .i64 (i : Int)) ∧ slot A7.tm 6 = .one ((.o (.ptr M 0 0 5))) ∧ slot A7.tm 8 = .one (.i .i64 ((ladE (some ls) x.2.2.1) : Int)) ∧ A7.nt = 82 ∧ A7.dfr = [])
     ⟨(g6.new _).mod _ (.inl g6.nx), ?_, ?_, ?_⟩ ?_
    ·rw [get_modN (Nat.ne_of_lt n3), get_newL n3]; exact rx
    ·exact Nat.lt_succ_of_lt n3
    ·repeat' (first | (simp only [slot_put, Nat.reduceEqDiff, reduceIte, putD_nt, putD_dfr, t0, t3, t5, t6, hnt, hdf]; first | done | rfl) | refine ⟨?_, ?_⟩)
    clear t0 t3 t5 t6 t63 hnt hdf A
    rintro A H7 ⟨g7, rx, n7, t0, t3, t5, t6, t8, hnt, hdf⟩
    generalize ladE (some ls) x.2.2.1 = d0 at hr t8
    by_cases he0 : d0 = 0
    case neg =>
     have ce : (d0 == 0) = false := beq_false_of_ne he0
     rw [if_pos he0] at hr
     refine qW (qA E2_P (qA t8 (qA hnt ce))) ?_
     refine qY ?_
     refine qW hnt ?_
     exact q4 _ _ (k4 _ _ (fin (4) _ _ qp (qd hdf) (g02.gr g7) (hr.trans (out (by omega)))))
    rw [if_neg (fun h => h he0)] at hr
    have ce : (d0 == 0) = true := by rw [he0]; rfl
    refine qW (qA E2_P (qA t8 (qA hnt ce))) ?_
    refine qY ?_
    refine R1.s_skip ?_
    have hp7 := hx1.of1.gr g7
    have hq7 := hx1.of2.gr g7
    refine qG (qA E2_P (qA t6 (qA hnt (qA rx (qA n7 (qA fd_cell_3 (qA ld_num bd_rNumCheck))))))) fun K hK => ?_
    refine WE.con (rNumCheck_con H7 p q x.2.2.2 hp7 hq7) fun w H8 g8 hw => ?_
    subst hw
    have g8 := g7.gr g8
    refine qS (qA E2_P hnt) ?_
    refine hK _ _ ?_
    clear hK K
    generalize chkNm x.2.2.2 = e1 at hr ⊢
    by_cases he1 : e1 = 0
    case neg =>
     have ce : (e1 == 0) = false := beq_false_of_ne he1
     rw [if_pos he1] at hr
     refine qW (qA E2_P (qA hnt ce)) ?_
     refine qY ?_
     refine qW hnt ?_
     exact q4 _ _ (k4 _ _ (fin (e1) _ _ qp (qd hdf) (g02.gr g8) (hr.trans (out (fun h => he1 (hr.trans h))))))
    rw [if_neg (fun h => h he1), ← htk] at hr
    have ce : (e1 == 0) = true := by rw [he1]; rfl
    refine qW (qA E2_P (qA hnt ce)) ?_
    refine qY ?_
    refine qW hnt ?_
    refine q1 _ _ ?_
    refine qW (qA hnt (qA t5 hw2)) ?_
    refine ⟨l.length - (i + 1), by omega, i + 1, rfl, hlt, g2.gr g8, hr, ?_⟩
    repeat' (first | (simp only [slot_put, Nat.reduceEqDiff, reduceIte, putD_nt, putD_dfr, t0, t3, t5, hnt, hdf]; first | done | rfl) | refine ⟨?_, ?_⟩)
   clear hK
   by_cases c0 : x.1 < 0
   ·rw [if_pos c0] at hr
    have c0 := eq_true c0
    refine qS (qA E2_P (qA t6 (qA hnt (qA rx (qA n3 (qA fd_cell_0 (qA ld_int c0))))))) ?_
    refine rest true _ _ (Fr.refl _) hr ?_
    repeat' (first | (simp only [slot_put, Nat.reduceEqDiff, reduceIte, putD_nt, putD_dfr, t0, t3, t5, t6, hnt, hdf]; first | done | rfl) | refine ⟨?_, ?_⟩)
   rw [if_neg c0] at hr
   by_cases c1 : 255 < x.1
   ·rw [if_pos c1] at hr
    have c0 := eq_false c0
    have c1 := eq_true c1
    refine qS (qA E2_P (qA t6 (qA hnt (qA rx (qA n3 (qA fd_cell_0 (qA ld_int (qA c0 c1)))))))) ?_
    refine rest true _ _ (Fr.refl _) hr ?_
    repeat' (first | (simp only [slot_put, Nat.reduceEqDiff, reduceIte, putD_nt, putD_dfr, t0, t3, t5, t6, hnt, hdf]; first | done | rfl) | refine ⟨?_, ?_⟩)
   rw [if_neg c1] at hr
   have c0 := eq_false c0
   have c1 := eq_false c1
   have fin2 : ∀ {H4 : Hp}, (if nmB x.2.1 = false then 53 else r1') = e0 → (if (!nmB x.2.1) = true then 53 else r1') = e0 := fun h => by rw [← h]; cases nmB x.2.1 <;> rfl
   by_cases hi0 : i = 0
   ·have ci : ((0 : Int) < (i : Int)) = False := eq_false (by omega)
    rw [hi0, List.take_zero, if_neg (by exact Bool.false_ne_true)] at hr
    refine qS (qA E2_P (qA t5 (qA t6 (qA hnt (qA rx (qA n3 (qA fd_cell_0 (qA fd_cell_1 (qA ld_int (qA ld_str (qA c0 (qA c1 (qA ci bd_refName))))))))))))) ?_
    refine WE.con (refName_con H3 x.2.1) fun w H4 g4 hw => ?_
    subst hw
    refine qS (qA E2_P hnt) ?_
    refine rest (!nmB x.2.1) _ _ g4 (fin2 (H4 := H4) hr) ?_
    repeat' (first | (simp only [slot_put, Nat.reduceEqDiff, reduceIte, putD_nt, putD_dfr, t0, t3, t5, t6, hnt, hdf]; first | done | rfl) | refine ⟨?_, ?_⟩)
   ·have ci : ((0 : Int) < (i : Int)) = True := eq_true (by omega)
    have hlt3 : i - 1 < l.length := by omega
    have ey : l[i - 1]? = some l[i - 1] := List.getElem?_eq_getElem hlt3
    have hpp := fun x => prevC_take (x := x) (by omega) ey
    generalize l[i - 1] = y at ey hpp
    obtain ⟨p', q', hy1⟩ := hat (i - 1) y ey
    have hw3 : IntKind.i64.wrap ((i : Int) - 1) = ((i - 1 : Nat) : Int) := by rw [wrapI (by omega) (by omega)]; omega
    rw [hpp x] at hr
    by_cases c2 : x.1 ≤ y.1
    ·rw [if_pos (decide_eq_true c2)] at hr
     have c2 := eq_true c2
     refine qS (qA E2_P (qA t3 (qA t5 (qA t6 (qA hnt (qA rx (qA n3 (qA r1 (qA m1 (qA fd_puzzle_0 (qA ld_cells (qA fd_cell_0 (qA ld_int (qA c0 (qA c1 (qA ci (qA c2 (qA hw3 (qA el_cells (qA (ixC hlt3) (qA hid3 (qA hgr3 (qA hy1.f1 hy1.le1))))))))))))))))))))))) ?_
     refine rest true _ _ (Fr.refl _) hr ?_
     repeat' (first | (simp only [slot_put, Nat.reduceEqDiff, reduceIte, putD_nt, putD_dfr, t0, t3, t5, t6, hnt, hdf]; first | done | rfl) | refine ⟨?_, ?_⟩)
    ·rw [if_neg (by rw [decide_eq_true_eq]; exact c2)] at hr
     have c2 := eq_false c2
     refine qS (qA E2_P (qA t3 (qA t5 (qA t6 (qA hnt (qA rx (qA n3 (qA r1 (qA m1 (qA fd_puzzle_0 (qA ld_cells (qA fd_cell_0 (qA fd_cell_1 (qA ld_int (qA ld_str (qA c0 (qA c1 (qA ci (qA c2 (qA hw3 (qA el_cells (qA (ixC hlt3) (qA hid3 (qA hgr3 (qA hy1.f1 (qA hy1.le1 bd_refName)))))))))))))))))))))))))) ?_
     refine WE.con (refName_con H3 x.2.1) fun w H4 g4 hw => ?_
     subst hw
     refine qS (qA E2_P hnt) ?_
     refine rest (!nmB x.2.1) _ _ g4 (fin2 (H4 := H4) hr) ?_
     repeat' (first | (simp only [slot_put, Nat.reduceEqDiff, reduceIte, putD_nt, putD_dfr, t0, t3, t5, t6, hnt, hdf]; first | done | rfl) | refine ⟨?_, ?_⟩)
  ·clear hx hy Kx Ky
   have hie : i = l.length := by omega
   rw [hie, List.drop_length, goC] at hr
   rw [if_neg (fun h => h hr.symm)] at hr0
   refine qW hnt ?_
   refine k2 _ _ ?_
   have hb2 := hb.gr g2
   refine qG (qA E2_P (qA t3 (qA hnt (qA r1 (qA m1 (qA ld_puzzle bd_rRules)))))) fun K hK => ?_
   refine WE.con (rRules_con H2 a b l lr hv2 hb2 hC hR hP) fun w H4 g4 hw => ?_
   subst hw
   have g4 := g02.gr g4
   refine qS (qA E2_P hnt) ?_
   refine hK _ _ ?_
   clear hK K
   rw [rules_alike, hR1]
   cases rb with
   | false =>
    rw [if_pos rfl] at hr0
    refine qY ?_
    refine qW hnt ?_
    exact fin (53) _ _ qp (qd hdf) (g4) (hr0)
   | true =>
    rw [if_neg (by decide : ¬ (true = false))] at hr0
    refine qY ?_
    refine qW hnt ?_
    exact fin (0) _ _ qp (qd hdf) (g4) (hr0)
 ·repeat' (first | (simp only [slot_put, Nat.reduceEqDiff, reduceIte, putD_nt, putD_dfr, t0, t3, hnt, hdf]; first | done | rfl) | refine ⟨?_, ?_⟩)
end Go.Proofs.YtiejeicaaojdlaaGreat
namespace Go.Proofs.YtiejeicaaojdlaaGreat
open Go Go.Eng
theorem chkPz_ok {o : Option (List Lad)} {p : Pz} (h : chkPz o p = 0) : ∃ ls, o = some ls ∧ p.1.length ≤ 64 ∧ p.2.length ≤ 64 ∧ goC o [] p.1 = 0 ∧ goR p.1 [] [] p.2 = true := by
 cases o with
 | none => rw [chkPz] at h; cases h
 | some ls =>
  rw [chkPz] at h
  refine ⟨ls, rfl, ?_⟩
  by_cases c1 : (64 : Int) < p.1.length
  ·rw [if_pos c1] at h; cases h
  rw [if_neg c1] at h
  by_cases c2 : (64 : Int) < p.2.length
  ·rw [if_pos c2] at h; cases h
  rw [if_neg c2] at h
  by_cases c3 : goC (some ls) [] p.1 ≠ 0
  ·rw [if_pos c3] at h; exact absurd h c3
  rw [if_neg c3] at h
  refine ⟨by omega, by omega, Classical.not_not.1 c3, ?_⟩
  cases hg : goR p.1 [] [] p.2 with
  | true => rfl
  | false => rw [hg, if_pos rfl] at h; cases h
theorem goC_lad {o : Option (List Lad)} : ∀ {l acc : List Cl}, goC o acc l = 0 → ∀ x ∈ l, ladE o x.2.2.1 = 0
 | [], _, _, _, h => by cases h
 | x :: l, acc, h, y, hy => by
  rw [goC] at h
  by_cases c0 : x.1 < 0
  ·rw [if_pos c0] at h; cases h
  rw [if_neg c0] at h
  by_cases c1 : 255 < x.1
  ·rw [if_pos c1] at h; cases h
  rw [if_neg c1] at h
  by_cases c2 : prevC acc x = true
  ·rw [if_pos c2] at h; cases h
  rw [if_neg c2] at h
  by_cases c3 : nmB x.2.1 = false
  ·rw [if_pos c3] at h; cases h
  rw [if_neg c3] at h
  by_cases c4 : ladE o x.2.2.1 ≠ 0
  ·rw [if_pos c4] at h; cases h
  rw [if_neg c4] at h
  by_cases c5 : chkNm x.2.2.2 ≠ 0
  ·rw [if_pos c5] at h; exact absurd h c5
  rw [if_neg c5] at h
  rcases List.mem_cons.1 hy with rfl | hy
  ·exact Classical.not_not.1 c4
  ·exact goC_lad h y hy
end Go.Proofs.YtiejeicaaojdlaaGreat
namespace Go.Proofs.YtiejeicaaojdlaaGreat
open Go Go.Eng Go.ChangeShapes Go.WideShapes
abbrev grpR := pairR (intR .i64) (pairR strR boolR)
abbrev grpsR := sliR Tryz.prog 196 3 grpR
abbrev numR := pairR grpsR grpsR
abbrev cellR := pairR (intR .i64) (pairR strR (pairR strR numR))
abbrev cellsR := sliR Tryz.prog 108 5 cellR
abbrev intsR := sliR Tryz.prog 3 1 (intR .i64)
abbrev ruleR := pairR (intR .i64) intsR
abbrev rulesR := sliR Tryz.prog 92 2 ruleR
abbrev puzzleR := pairR cellsR rulesR
theorem mon_grp : MonR grpR := mon_pair mon_int (mon_pair mon_str mon_bool)
theorem mon_grps : MonR grpsR := mon_sli mon_grp
theorem mon_num : MonR numR := mon_pair mon_grps mon_grps
theorem mon_cell : MonR cellR := mon_pair mon_int (mon_pair mon_str (mon_pair mon_str mon_num))
theorem mon_cells : MonR cellsR := mon_sli mon_cell
theorem mon_ints : MonR intsR := mon_sli mon_int
theorem mon_rule : MonR ruleR := mon_pair mon_int mon_ints
theorem mon_rules : MonR rulesR := mon_sli mon_rule
theorem opn_grp {W : World} : Opn Tryz.prog W 3 grpR 196 := opn_struct Tryz.underlying196 (by kernel_rfl) rfl (opnF_cons (opn_int Tryz.underlying3) mon_int (opnF_cons (opn_str Tryz.underlying9) mon_str (opnF_one (opn_bool Tryz.underlying4))))
theorem opn_grps {W : World} (hB : HasB W) : Opn Tryz.prog W 1 grpsR 104 := opn_slice Tryz.underlying104 (by kernel_rfl) (by decide) mon_grp hB opn_grp
theorem opn_num {W : World} (hB : HasB W) : Opn Tryz.prog W 2 numR 106 := opn_struct Tryz.underlying106 (by kernel_rfl) rfl (opnF_cons (opn_grps hB) mon_grps (opnF_one (opn_grps hB)))
theorem opn_cell {W : World} (hB : HasB W) : Opn Tryz.prog W 5 cellR 108 := opn_struct Tryz.underlying108 (by kernel_rfl) rfl (opnF_cons (opn_int Tryz.underlying3) mon_int (opnF_cons (opn_str Tryz.underlying9) mon_str (opnF_cons (opn_str Tryz.underlying9) mon_str (opnF_one (opn_num hB)))))
theorem opn_cells {W : World} (hB : HasB W) : Opn Tryz.prog W 1 cellsR 39 := opn_slice Tryz.underlying39 (by kernel_rfl) (by decide) mon_cell hB (opn_cell hB)
theorem opn_ints {W : World} (hB : HasB W) : Opn Tryz.prog W 1 intsR 33 := opn_slice Tryz.underlying33 (by kernel_rfl) (by decide) mon_int hB (opn_int Tryz.underlying3)
theorem opn_rule {W : World} (hB : HasB W) : Opn Tryz.prog W 2 ruleR 92 := opn_struct Tryz.underlying92 (by kernel_rfl) rfl (opnF_cons (opn_int Tryz.underlying3) mon_int (opnF_one (opn_ints hB)))
theorem opn_rules {W : World} (hB : HasB W) : Opn Tryz.prog W 1 rulesR 40 := opn_slice Tryz.underlying40 (by kernel_rfl) (by decide) mon_rule hB (opn_rule hB)
theorem opn_puzzle {W : World} (hB : HasB W) : Opn Tryz.prog W 2 puzzleR 42 := opn_struct Tryz.underlying42 (by kernel_rfl) rfl (opnF_cons (opn_cells hB) mon_cells (opnF_one (opn_rules hB)))
theorem opnZ_puzzle {W : World} : OpnZ Tryz.prog W 2 puzzleR 42 := opnZ_struct Tryz.underlying42 (by kernel_rfl) rfl (opnFZ_cons (opnZ_slice Tryz.underlying39) mon_cells (opnFZ_one (opnZ_slice Tryz.underlying40)))
theorem bytesOf_grp : Tryz.prog.bytesOf 196 = 32 := by kernel_rfl
theorem bytesOf_cell : Tryz.prog.bytesOf 108 = 88 := by kernel_rfl
theorem bytesOf_int : Tryz.prog.bytesOf 3 = 8 := by kernel_rfl
theorem bytesOf_rule : Tryz.prog.bytesOf 92 = 32 := by kernel_rfl
theorem grps_of {B : Nat} {H : Hp} {c : List AC} {us : List Gp} (h : grpsR B H c us) : ∃ u, c = [u] ∧ SlGp H u us ∧ us.length * 32 ≤ B := by
 obtain ⟨u, rfl, ⟨css, h1, h2⟩, h3⟩ := h
 refine ⟨u, rfl, ?_, by rwa [bytesOf_grp] at h3⟩
 have := al_flat (f := gpC) (h2.mono fun c x ⟨_, c1, c2, e, a, c3, c4, e2, b, d⟩ => by rw [e, a.1, e2, b.1, d]; rfl)
 rw [this] at h1
 exact h1
theorem ints_of {B : Nat} {H : Hp} {c : List AC} {us : List Int} (h : intsR B H c us) : ∃ u, c = [u] ∧ SlI H u us ∧ us.length * 8 ≤ B := by
 obtain ⟨u, rfl, ⟨css, h1, h2⟩, h3⟩ := h
 refine ⟨u, rfl, ?_, by rwa [bytesOf_int] at h3⟩
 have := al_flat (f := intC) (h2.mono fun c x ⟨_, e, _⟩ => e)
 rw [this] at h1
 exact h1
theorem num_of {B : Nat} {H : Hp} {c : List AC} {x : Nm} (h : numR B H c x) : ∃ p q, c = [p, q] ∧ SlGp H p x.1 ∧ SlGp H q x.2 ∧ x.1.length * 32 ≤ B ∧ x.2.length * 32 ≤ B := by
 obtain ⟨c1, c2, rfl, h1, h2⟩ := h
 obtain ⟨p, rfl, a1, a2⟩ := grps_of h1
 obtain ⟨q, rfl, b1, b2⟩ := grps_of h2
 exact ⟨p, q, rfl, a1, b1, a2, b2⟩
theorem cell_of {B : Nat} {H : Hp} {c : List AC} {x : Cl} (h : cellR B H c x) : ClR H c x ∧ x.2.2.2.1.length * 32 ≤ B ∧ x.2.2.2.2.length * 32 ≤ B := by
 obtain ⟨c1, c2, rfl, a, c3, c4, rfl, b, c5, c6, rfl, d, e⟩ := h
 obtain ⟨p, q, rfl, e1, e2, e3, e4⟩ := num_of e
 exact ⟨⟨p, q, by rw [a.1, b.1, d.1]; rfl, e1, e2⟩, e3, e4⟩
theorem cells_of {B : Nat} {H : Hp} {c : List AC} {l : List Cl} (h : cellsR B H c l) : ∃ u, c = [u] ∧ SlCl H u l ∧ l.length * 88 ≤ B ∧ ∀ x ∈ l, x.2.2.2.1.length * 32 ≤ B ∧ x.2.2.2.2.length * 32 ≤ B := by
 obtain ⟨u, rfl, ⟨css, h1, h2⟩, h3⟩ := h
 exact ⟨u, rfl, ⟨css, h1, h2.mono fun c x ⟨hl, h⟩ => ⟨hl, (cell_of h).1⟩⟩, by rwa [bytesOf_cell] at h3, Al.all (fun c x ⟨_, h⟩ => (cell_of h).2) h2⟩
theorem rules_of {B : Nat} {H : Hp} {c : List AC} {l : List Rl} (h : rulesR B H c l) : ∃ u, c = [u] ∧ SlRl H u l ∧ l.length * 32 ≤ B ∧ ∀ x ∈ l, x.2.length * 8 ≤ B := by
 obtain ⟨u, rfl, ⟨css, h1, h2⟩, h3⟩ := h
 have key : ∀ c x, ruleR B H c x → RlR H c x ∧ x.2.length * 8 ≤ B := fun c x ⟨c1, c2, e, a, b⟩ => by
  obtain ⟨u, rfl, b1, b2⟩ := ints_of b
  exact ⟨⟨u, by rw [e, a.1]; rfl, b1⟩, b2⟩
 exact ⟨u, rfl, ⟨css, h1, h2.mono fun c x ⟨hl, h⟩ => ⟨hl, (key c x h).1⟩⟩, by rwa [bytesOf_rule] at h3, Al.all (fun c x ⟨_, h⟩ => (key c x h).2) h2⟩
theorem pz_of {B : Nat} {H : Hp} {c : List AC} {p : Pz} (hB : B ≤ 140737488355328) (h : puzzleR B H c p) : ∃ a b, c = [a, b] ∧ SlCl H a p.1 ∧ SlRl H b p.2 ∧ PzB p := by
 obtain ⟨c1, c2, rfl, h1, h2⟩ := h
 obtain ⟨a, rfl, a1, a2, a3⟩ := cells_of h1
 obtain ⟨b, rfl, b1, b2, b3⟩ := rules_of h2
 exact ⟨a, b, rfl, a1, b1, ⟨Nat.le_trans a2 hB, Nat.le_trans b2 hB, fun x hx => ⟨Nat.le_trans (a3 x hx).1 hB, Nat.le_trans (a3 x hx).2 hB⟩, fun x hx => Nat.le_trans (b3 x hx) hB⟩⟩
end Go.Proofs.YtiejeicaaojdlaaGreat
namespace Go.Proofs.YtiejeicaaojdlaaGreat
open Go Go.Eng
theorem ld_errnos : loadT Tryz.prog 212 = some (false, 1) := by kernel_rfl
theorem sz_errnos : sizeT Tryz.prog 212 = some 1 := by kernel_rfl
theorem zr_errnos : (zeroT Tryz.prog 212).map (fun z => (ofValue z).cells) = some [.o .nilS] := by kernel_rfl
theorem el_errnos : elemT Tryz.prog 212 = some (28, 1) := by kernel_rfl
theorem ln_errnos : lenT Tryz.prog 212 = some 1 := by kernel_rfl
theorem ad_errnos : addrT Tryz.prog 212 = 1 := by kernel_rfl
theorem ld_slip : loadT Tryz.prog 164 = some (true, 3) := by kernel_rfl
theorem sz_slip : sizeT Tryz.prog 164 = some 3 := by kernel_rfl
theorem zr_slip : (zeroT Tryz.prog 164).map (fun z => (ofValue z).cells) = some [.i .i64 0, .o (.str []), .i .i64 0] := by kernel_rfl
theorem ad_slip : addrT Tryz.prog 164 = 4 := by kernel_rfl
theorem fd_slip_0 : fieldT Tryz.prog 164 0 = some (0, 3, 1) := by kernel_rfl
theorem fd_slip_1 : fieldT Tryz.prog 164 1 = some (1, 9, 1) := by kernel_rfl
theorem fd_slip_2 : fieldT Tryz.prog 164 2 = some (2, 3, 1) := by kernel_rfl
def pl_slip : Nat → Option (Nat × Nat) := fun i => (#[(0, 1), (1, 1), (2, 1)] : Array (Nat × Nat))[i]?
theorem pt_slip : placeT Tryz.prog 164 = some pl_slip := by kernel_rfl
theorem pl_slip_0 : pl_slip 0 = some (0, 1) := rfl
theorem pl_slip_1 : pl_slip 1 = some (1, 1) := rfl
theorem pl_slip_2 : pl_slip 2 = some (2, 1) := rfl
theorem ld_fixes : loadT Tryz.prog 58 = some (false, 1) := by kernel_rfl
theorem sz_fixes : sizeT Tryz.prog 58 = some 1 := by kernel_rfl
theorem zr_fixes : (zeroT Tryz.prog 58).map (fun z => (ofValue z).cells) = some [.o .nilS] := by kernel_rfl
theorem el_fixes : elemT Tryz.prog 58 = some (103, 4) := by kernel_rfl
theorem ln_fixes : lenT Tryz.prog 58 = some 1 := by kernel_rfl
theorem ad_fixes : addrT Tryz.prog 58 = 1 := by kernel_rfl
theorem ld_fix : loadT Tryz.prog 103 = some (true, 4) := by kernel_rfl
theorem sz_fix : sizeT Tryz.prog 103 = some 4 := by kernel_rfl
theorem by_fix : bytesT Tryz.prog 103 = some 32 := by kernel_rfl
theorem zr_fix : (zeroT Tryz.prog 103).map (fun z => (ofValue z).cells) = some [.i .i64 0, .i .i64 0, .i .i64 0, .i .i64 0] := by kernel_rfl
theorem zx_fix : ∃ z, zeroT Tryz.prog 103 = some z ∧ (ofValue z).cells.length = 4 := by
 have h := zr_fix
 cases hz : zeroT Tryz.prog 103 with
 | none => rw [hz] at h; cases h
 | some z =>
  rw [hz] at h
  exact ⟨z, rfl, by have : (ofValue z).cells = _ := Option.some.inj h; rw [this]; rfl⟩
theorem ad_fix : addrT Tryz.prog 103 = 4 := by kernel_rfl
theorem fd_fix_0 : fieldT Tryz.prog 103 0 = some (0, 3, 1) := by kernel_rfl
theorem fd_fix_1 : fieldT Tryz.prog 103 1 = some (1, 3, 1) := by kernel_rfl
theorem fd_fix_2 : fieldT Tryz.prog 103 2 = some (2, 3, 1) := by kernel_rfl
theorem fd_fix_3 : fieldT Tryz.prog 103 3 = some (3, 3, 1) := by kernel_rfl
def pl_fix : Nat → Option (Nat × Nat) := fun i => (#[(0, 1), (1, 1), (2, 1), (3, 1)] : Array (Nat × Nat))[i]?
theorem pt_fix : placeT Tryz.prog 103 = some pl_fix := by kernel_rfl
theorem pl_fix_0 : pl_fix 0 = some (0, 1) := rfl
theorem pl_fix_1 : pl_fix 1 = some (1, 1) := rfl
theorem pl_fix_2 : pl_fix 2 = some (2, 1) := rfl
theorem pl_fix_3 : pl_fix 3 = some (3, 1) := rfl
theorem eq_fix : eqK Tryz.prog 103 = some [.i, .i, .i, .i] := by kernel_rfl
theorem ld_case : loadT Tryz.prog 57 = some (true, 4) := by kernel_rfl
theorem sz_case : sizeT Tryz.prog 57 = some 4 := by kernel_rfl
theorem zr_case : (zeroT Tryz.prog 57).map (fun z => (ofValue z).cells) = some [.o .nilS, .o .nilS, .o .nilS, .o .nilS] := by kernel_rfl
theorem ad_case : addrT Tryz.prog 57 = 4 := by kernel_rfl
theorem fd_case_0 : fieldT Tryz.prog 57 0 = some (0, 22, 1) := by kernel_rfl
theorem fd_case_1 : fieldT Tryz.prog 57 1 = some (1, 42, 2) := by kernel_rfl
theorem fd_case_2 : fieldT Tryz.prog 57 2 = some (3, 33, 1) := by kernel_rfl
def pl_case : Nat → Option (Nat × Nat) := fun i => (#[(0, 1), (1, 2), (3, 1)] : Array (Nat × Nat))[i]?
theorem pt_case : placeT Tryz.prog 57 = some pl_case := by kernel_rfl
theorem pl_case_0 : pl_case 0 = some (0, 1) := rfl
theorem pl_case_1 : pl_case 1 = some (1, 2) := rfl
theorem pl_case_2 : pl_case 2 = some (3, 1) := rfl
theorem ld_yfn : loadT Tryz.prog 230 = some (false, 1) := by kernel_rfl
theorem sz_yfn : sizeT Tryz.prog 230 = some 1 := by kernel_rfl
theorem zr_yfn : (zeroT Tryz.prog 230).map (fun z => (ofValue z).cells) = some [.o .nilF] := by kernel_rfl
theorem ad_yfn : addrT Tryz.prog 230 = 3 := by kernel_rfl
end Go.Proofs.YtiejeicaaojdlaaGreat
namespace Go.Proofs.YtiejeicaaojdlaaGreat
open Go Go.Eng
set_option maxRecDepth 10000 in
theorem tyF : type_of% (qA E2_P (qA ld_str (qA sz_str (qA zr_str (qA ln_str (qA ad_str (qA ld_int (qA sz_int (qA zr_int (qA ad_int (qA ld_bool (qA sz_bool (qA zr_bool (qA ad_bool (qA ld_errno (qA sz_errno (qA zr_errno (qA ad_errno (qA ld_unit (qA sz_unit (qA zr_unit (qA ad_unit (qA fd_unit_0 (qA fd_unit_1 (qA pt_unit (qA pl_unit_0 (qA pl_unit_1 (qA ld_units (qA sz_units (qA zr_units (qA el_units (qA ln_units (qA ad_units (qA ld_lad (qA sz_lad (qA zr_lad (qA ad_lad (qA fd_lad_0 (qA fd_lad_1 (qA pt_lad (qA pl_lad_0 (qA pl_lad_1 (qA ld_lads (qA sz_lads (qA zr_lads (qA el_lads (qA ln_lads (qA ad_lads (qA ld_mSB (qA sz_mSB (qA zr_mSB (qA ln_mSB (qA mp_mSB (qA kk_mSB (qA ad_mSB (qA ld_mSI (qA sz_mSI (qA zr_mSI (qA ln_mSI (qA mp_mSI (qA kk_mSI (qA ad_mSI (qA ld_pbook (qA sz_pbook (qA zr_pbook (qA ad_pbook (qA ld_book (qA sz_book (qA zr_book (qA ad_book (qA fd_book_0 (qA fd_book_1 (qA fd_book_2 (qA fd_book_3 (qA pt_book (qA pl_book_0 (qA pl_book_1 (qA pl_book_2 (qA pl_book_3 (qA ld_ints (qA sz_ints (qA zr_ints (qA el_ints (qA ln_ints (qA ad_ints (qA ld_prods (qA sz_prods (qA zr_prods (qA el_prods (qA ln_prods (qA ad_prods (qA ld_prod (qA sz_prod (qA zr_prod (qA ad_prod (qA fd_prod_0 (qA fd_prod_1 (qA pt_prod (qA pl_prod_0 (qA pl_prod_1 (qA ld_strs (qA sz_strs (qA zr_strs (qA el_strs (qA ln_strs (qA ad_strs (qA ld_good (qA sz_good (qA zr_good (qA ad_good (qA fd_good_0 (qA fd_good_1 (qA fd_good_2 (qA pt_good (qA pl_good_0 (qA pl_good_1 (qA pl_good_2 (qA ld_goods (qA sz_goods (qA zr_goods (qA el_goods (qA ln_goods (qA ad_goods (qA ld_rbook (qA sz_rbook (qA zr_rbook (qA ad_rbook (qA fd_rbook_0 (qA fd_rbook_1 (qA pt_rbook (qA pl_rbook_0 (qA pl_rbook_1 (qA ld_prbook (qA sz_prbook (qA zr_prbook (qA ad_prbook (qA ld_puzzle (qA sz_puzzle (qA zr_puzzle (qA ad_puzzle (qA fd_puzzle_0 (qA fd_puzzle_1 (qA pt_puzzle (qA pl_puzzle_0 (qA pl_puzzle_1 (qA ld_cells (qA sz_cells (qA zr_cells (qA el_cells (qA ln_cells (qA ad_cells (qA ld_cell (qA sz_cell (qA zr_cell (qA ad_cell (qA fd_cell_0 (qA fd_cell_1 (qA fd_cell_2 (qA fd_cell_3 (qA pt_cell (qA pl_cell_0 (qA pl_cell_1 (qA pl_cell_2 (qA pl_cell_3 (qA ld_rules (qA sz_rules (qA zr_rules (qA el_rules (qA ln_rules (qA ad_rules (qA ld_rule (qA sz_rule (qA zr_rule (qA ad_rule (qA fd_rule_0 (qA fd_rule_1 (qA pt_rule (qA pl_rule_0 (qA pl_rule_1 (qA ld_num (qA sz_num (qA zr_num (qA ad_num (qA fd_num_0 (qA fd_num_1 (qA pt_num (qA pl_num_0 (qA pl_num_1 (qA ld_grps (qA sz_grps (qA zr_grps (qA el_grps (qA ln_grps (qA ad_grps (qA ld_grp (qA sz_grp (qA zr_grp (qA ad_grp (qA fd_grp_0 (qA fd_grp_1 (qA fd_grp_2 (qA pt_grp (qA pl_grp_0 (qA pl_grp_1 (qA pl_grp_2 (qA ld_bools (qA sz_bools (qA zr_bools (qA el_bools (qA ln_bools (qA ad_bools (qA ld_errnos (qA sz_errnos (qA zr_errnos (qA el_errnos (qA ln_errnos (qA ad_errnos (qA ld_slip (qA sz_slip (qA zr_slip (qA ad_slip (qA fd_slip_0 (qA fd_slip_1 (qA fd_slip_2 (qA pt_slip (qA pl_slip_0 (qA pl_slip_1 (qA pl_slip_2 (qA ld_fixes (qA sz_fixes (qA zr_fixes (qA el_fixes (qA ln_fixes (qA ad_fixes (qA ld_fix (qA sz_fix (qA zr_fix (qA ad_fix (qA fd_fix_0 (qA fd_fix_1 (qA fd_fix_2 (qA fd_fix_3 (qA pt_fix (qA pl_fix_0 (qA pl_fix_1 (qA pl_fix_2 (qA pl_fix_3 (qA ld_case (qA sz_case (qA zr_case (qA ad_case (qA fd_case_0 (qA fd_case_1 (qA fd_case_2 (qA pt_case (qA pl_case_0 (qA pl_case_1 (qA pl_case_2 (qA ld_yfn (qA sz_yfn (qA zr_yfn ad_yfn))))))))))))))))))))))))))))))))))))))))))))))))))))))))))))))))))))))))))))))))))))))))))))))))))))))))))))))))))))))))))))))))))))))))))))))))))))))))))))))))))))))))))))))))))))))))))))))))))))))))))))))))))))))))))))))))))))))))))))))))))))))))))))))))))))) := qA E2_P (qA ld_str (qA sz_str (qA zr_str (qA ln_str (qA ad_str (qA ld_int (qA sz_int (qA zr_int (qA ad_int (qA ld_bool (qA sz_bool (qA zr_bool (qA ad_bool (qA ld_errno (qA sz_errno (qA zr_errno (qA ad_errno (qA ld_unit (qA sz_unit (qA zr_unit (qA ad_unit (qA fd_unit_0 (qA fd_unit_1 (qA pt_unit (qA pl_unit_0 (qA pl_unit_1 (qA ld_units (qA sz_units (qA zr_units (qA el_units (qA ln_units (qA ad_units (qA ld_lad (qA sz_lad (qA zr_lad (qA ad_lad (qA fd_lad_0 (qA fd_lad_1 (qA pt_lad (qA pl_lad_0 (qA pl_lad_1 (qA ld_lads (qA sz_lads (qA zr_lads (qA el_lads (qA ln_lads (qA ad_lads (qA ld_mSB (qA sz_mSB (qA zr_mSB (qA ln_mSB (qA mp_mSB (qA kk_mSB (qA ad_mSB (qA ld_mSI (qA sz_mSI (qA zr_mSI (qA ln_mSI (qA mp_mSI (qA kk_mSI (qA ad_mSI (qA ld_pbook (qA sz_pbook (qA zr_pbook (qA ad_pbook (qA ld_book (qA sz_book (qA zr_book (qA ad_book (qA fd_book_0 (qA fd_book_1 (qA fd_book_2 (qA fd_book_3 (qA pt_book (qA pl_book_0 (qA pl_book_1 (qA pl_book_2 (qA pl_book_3 (qA ld_ints (qA sz_ints (qA zr_ints (qA el_ints (qA ln_ints (qA ad_ints (qA ld_prods (qA sz_prods (qA zr_prods (qA el_prods (qA ln_prods (qA ad_prods (qA ld_prod (qA sz_prod (qA zr_prod (qA ad_prod (qA fd_prod_0 (qA fd_prod_1 (qA pt_prod (qA pl_prod_0 (qA pl_prod_1 (qA ld_strs (qA sz_strs (qA zr_strs (qA el_strs (qA ln_strs (qA ad_strs (qA ld_good (qA sz_good (qA zr_good (qA ad_good (qA fd_good_0 (qA fd_good_1 (qA fd_good_2 (qA pt_good (qA pl_good_0 (qA pl_good_1 (qA pl_good_2 (qA ld_goods (qA sz_goods (qA zr_goods (qA el_goods (qA ln_goods (qA ad_goods (qA ld_rbook (qA sz_rbook (qA zr_rbook (qA ad_rbook (qA fd_rbook_0 (qA fd_rbook_1 (qA pt_rbook (qA pl_rbook_0 (qA pl_rbook_1 (qA ld_prbook (qA sz_prbook (qA zr_prbook (qA ad_prbook (qA ld_puzzle (qA sz_puzzle (qA zr_puzzle (qA ad_puzzle (qA fd_puzzle_0 (qA fd_puzzle_1 (qA pt_puzzle (qA pl_puzzle_0 (qA pl_puzzle_1 (qA ld_cells (qA sz_cells (qA zr_cells (qA el_cells (qA ln_cells (qA ad_cells (qA ld_cell (qA sz_cell (qA zr_cell (qA ad_cell (qA fd_cell_0 (qA fd_cell_1 (qA fd_cell_2 (qA fd_cell_3 (qA pt_cell (qA pl_cell_0 (qA pl_cell_1 (qA pl_cell_2 (qA pl_cell_3 (qA ld_rules (qA sz_rules (qA zr_rules (qA el_rules (qA ln_rules (qA ad_rules (qA ld_rule (qA sz_rule (qA zr_rule (qA ad_rule (qA fd_rule_0 (qA fd_rule_1 (qA pt_rule (qA pl_rule_0 (qA pl_rule_1 (qA ld_num (qA sz_num (qA zr_num (qA ad_num (qA fd_num_0 (qA fd_num_1 (qA pt_num (qA pl_num_0 (qA pl_num_1 (qA ld_grps (qA sz_grps (qA zr_grps (qA el_grps (qA ln_grps (qA ad_grps (qA ld_grp (qA sz_grp (qA zr_grp (qA ad_grp (qA fd_grp_0 (qA fd_grp_1 (qA fd_grp_2 (qA pt_grp (qA pl_grp_0 (qA pl_grp_1 (qA pl_grp_2 (qA ld_bools (qA sz_bools (qA zr_bools (qA el_bools (qA ln_bools (qA ad_bools (qA ld_errnos (qA sz_errnos (qA zr_errnos (qA el_errnos (qA ln_errnos (qA ad_errnos (qA ld_slip (qA sz_slip (qA zr_slip (qA ad_slip (qA fd_slip_0 (qA fd_slip_1 (qA fd_slip_2 (qA pt_slip (qA pl_slip_0 (qA pl_slip_1 (qA pl_slip_2 (qA ld_fixes (qA sz_fixes (qA zr_fixes (qA el_fixes (qA ln_fixes (qA ad_fixes (qA ld_fix (qA sz_fix (qA zr_fix (qA ad_fix (qA fd_fix_0 (qA fd_fix_1 (qA fd_fix_2 (qA fd_fix_3 (qA pt_fix (qA pl_fix_0 (qA pl_fix_1 (qA pl_fix_2 (qA pl_fix_3 (qA ld_case (qA sz_case (qA zr_case (qA ad_case (qA fd_case_0 (qA fd_case_1 (qA fd_case_2 (qA pt_case (qA pl_case_0 (qA pl_case_1 (qA pl_case_2 (qA ld_yfn (qA sz_yfn (qA zr_yfn ad_yfn))))))))))))))))))))))))))))))))))))))))))))))))))))))))))))))))))))))))))))))))))))))))))))))))))))))))))))))))))))))))))))))))))))))))))))))))))))))))))))))))))))))))))))))))))))))))))))))))))))))))))))))))))))))))))))))))))))))))))))))))))))))))))))))))))))
end Go.Proofs.YtiejeicaaojdlaaGreat
