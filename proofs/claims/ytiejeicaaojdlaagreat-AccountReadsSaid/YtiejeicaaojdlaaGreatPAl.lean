/- A part of the proof: BkPz1, BkPz2, BkPz3, BkPz4, BkPz5, BkPz6. No conditions. -/
import Derived.Test.YtiejeicaaojdlaaGreatPAk
namespace Go.Proofs.YtiejeicaaojdlaaGreat
open Go Go.Eng
theorem bd_eqInts : hasBody Tryz.prog 17 = true := by kernel_rfl
theorem bd_copyInts : hasBody Tryz.prog 19 = true := by kernel_rfl
theorem bd_rsame : hasBody Tryz.prog 89 = true := by kernel_rfl
theorem bd_rSame : hasBody Tryz.prog 55 = true := by kernel_rfl
theorem bd_rCopy : hasBody Tryz.prog 48 = true := by kernel_rfl
theorem SlI.gr {H H' : Hp} {v : AC} {l : List Int} (h : SlI H v l) (hg : Gr H H') : SlI H' v l := SlC.gr h hg
theorem SlI.len {H : Hp} {v : AC} {l : List Int} (h : SlI H v l) : doLen H 1 (.one v) = .val (.one (.i .i64 (l.length : Int))) H := SlC.len h
theorem SlI.lt {H : Hp} {v : AC} {l : List Int} (h : SlI H v l) : ltV (.one v) H.nx := ltV_slc h
theorem SlI.nil {H : Hp} : SlI H (.o .nilS) [] := ⟨by simp, .inl ⟨rfl, rfl⟩⟩
theorem SlI.open {H : Hp} {v : AC} {l : List Int} (h : SlI H v l) (hn : 0 < l.length) : ∃ id g off cells, v = .o (.sl id g off l.length 1) ∧ id < H.nx ∧ rowOf (H.get id) g = some cells ∧ ∀ (i : Nat) (x : Int), l[i]? = some x → (cells.drop (off + i * 1)).headD (.b false) = .i .i64 x ∧ off + i * 1 + 1 ≤ cells.length := by
  obtain ⟨id, g, off, h1, h2, hr⟩ := SlC.pos h hn
  have hr' := hr
  obtain ⟨cells, h3, h6, h7⟩ := hr
  refine ⟨id, g, off, cells, h1, h2, h3, fun i x hx => ?_⟩
  obtain ⟨cells', k3, k6, k7⟩ := Rd.at (c := intC) intC_len hr' hx
  rw [h3] at k3
  cases k3
  refine ⟨?_, k6⟩
  cases hd : cells.drop (off + i * 1) with
  | nil => have := congrArg List.length hd; simp at this; omega
  | cons a r =>
    rw [hd] at k7
    have := (List.cons.inj k7).1
    rw [this]; rfl
set_option maxRecDepth 10000 in
set_option maxHeartbeats 4000000 in
theorem eqInts_con (H : Hp) (v w : AC) (l : List Int) (hv : SlI H v l) (hw : SlI H w l) (hL : l.length ≤ 4611686018427387904) :
    Con E2 17 [.one v, .one w] H (fun _ => False) fun r _ => r = .one (.b true) := by
  refine Con.of rfl fun lg => ?_
  have hv : SlI ⟨H.t, H.nx, lg⟩ v l := hv
  have hw : SlI ⟨H.t, H.nx, lg⟩ w l := hw
  generalize (⟨H.t, H.nx, lg⟩ : Hp) = H at hv hw ⊢
  refine C1.body (E := E2) (nt := 26) (res := [.tmp 4]) Tryz.func17 rfl rfl rfl rfl rfl fun tm hargs => ?_
  have h0 := hargs 0 _ rfl
  have h1 := hargs 1 _ rfl
  clear hargs
  have hne : ((l.length : Int) == (l.length : Int)) = true := by simp
  refine qW (qA E2_P (qA h0 (qA h1 (qA ln_ints (qA hv.len (qA hw.len (qA hv.lt (qA hw.lt hne)))))))) ?_
  refine qY ?_
  refine qV ?_
  refine R1.s_block fun K k1 k2 k3 k4 => ?_
  refine R1.loop (fun k A H2 => ∃ i : Nat, k = l.length - i ∧ i ≤ l.length ∧ H2 = H ∧ slot A.tm 0 = .one (v) ∧ slot A.tm 1 = .one (w) ∧ slot A.tm 5 = .one (.i .i64 (i : Int)) ∧ A.nt = 26 ∧ A.dfr = []) ?_ l.length ⟨0, rfl, Nat.zero_le _, rfl, ?_⟩
  · clear h0 h1 tm
    rintro k A H2 ⟨i, rfl, hi, rfl, t0, t1, t5, hnt, hdf⟩
    refine qW (qA E2_P (qA t0 (qA t5 (qA hnt (qA ln_ints (qA hv.len hv.lt)))))) ?_
    refine qE fun Kx Ky hx hy => ?_
    refine iteI (fun hc => hx ?_) (fun hc => hy ?_)
    · clear hx hy Kx Ky
      have hlt : i < l.length := by omega
      have ex : l[i]? = some l[i] := List.getElem?_eq_getElem hlt
      have hdr : l.drop i = l[i] :: l.drop (i + 1) := List.drop_eq_getElem_cons hlt
      have htk : l.take (i + 1) = l.take i ++ [l[i]] := List.take_succ_eq_append_getElem hlt
      have hmem : l[i] ∈ l := List.getElem_mem hlt
      generalize l[i] = x at ex hdr htk hmem
      have hw2 : IntKind.i64.wrap ((i : Int) + 1) = ((i + 1 : Nat) : Int) := by rw [wrapI (by omega) (by omega)]; omega
      have hnx : (x == x) = true := by simp
      obtain ⟨id, g, off, cells, rfl, hid, hgr, hat⟩ := hv.open (by omega)
      obtain ⟨id', g', off', cells', rfl, hid', hgr', hat'⟩ := hw.open (by omega)
      have hx1 := hat i x ex
      have hx2 := hat' i x ex
      refine qV ?_
      refine R1.s_block fun K2 q1 q2 q3 q4 => ?_
      refine qH (qA E2_P (qA t0 (qA t1 (qA t5 (qA hnt (qA el_ints (qA ld_int (qA (ixC hlt) (qA hid (qA hgr (qA hid' (qA hgr' (qA hx1.1 (qA hx1.2 (qA hx2.1 (qA hx2.2 hnx)))))))))))))))) fun K hK => ?_
      refine hK _ _ ?_
      clear hK K
      refine qY ?_
      refine qW hnt ?_
      refine q1 _ _ ?_
      refine qW (qA hnt (qA t5 hw2)) ?_
      refine ⟨l.length - (i + 1), by omega, i + 1, rfl, hlt, rfl, ?_⟩
      repeat' (first | (simp only [slot_put, Nat.reduceEqDiff, reduceIte, putD_nt, putD_dfr, t0, t1, t5, hnt, hdf]; first | done | rfl) | refine ⟨?_, ?_⟩)
    · clear hx hy Kx Ky
      refine qW hnt ?_
      refine k2 _ _ ?_
      refine qW hnt ?_
      exact ⟨_, _, callEnd_one (.b true) (.inr rfl) (qd hdf) qp, Fr.refl _, fun _ => rfl⟩
  · repeat' (first | (simp only [slot_put, Nat.reduceEqDiff, reduceIte, putD_nt, putD_dfr, h0, h1]; first | done | rfl) | refine ⟨?_, ?_⟩)
set_option maxRecDepth 10000 in
theorem copyInts_con (H : Hp) (v : AC) (l : List Int) (hv : SlI H v l) (hL : l.length * 8 ≤ 140737488355328) :
    Con E2 19 [.one v] H (fun _ => False) fun r H' => ∃ v', r = .one v' ∧ SlI H' v' l ∧ ∀ id ∈ (AV.one v').ids, H.nx ≤ id := by
  refine Con.of rfl fun lg => ?_
  have hv : SlI ⟨H.t, H.nx, lg⟩ v l := hv
  have e0 : H.nx = (⟨H.t, H.nx, lg⟩ : Hp).nx := rfl
  rw [e0]
  clear e0
  generalize (⟨H.t, H.nx, lg⟩ : Hp) = H at hv ⊢
  refine C1.body (E := E2) (nt := 7) (res := [.tmp 2]) Tryz.func19 rfl rfl rfl rfl rfl fun tm hargs => ?_
  have h0 := hargs 0 _ rfl
  clear hargs
  obtain ⟨z, hz, hzl⟩ := zx_int
  obtain ⟨v', H', happ, hs, hg, hi⟩ := app_nil (P := Tryz.prog) (t := 33) el_ints by_int hz hzl (by decide) hv (by omega)
  have hlt := hv.lt
  refine qV ?_
  refine qG (qA E2_P (qA h0 (qA happ hlt))) fun K hK => ?_
  refine hK _ _ ?_
  clear hK K
  refine qV ?_
  exact ⟨_, _, callEnd_one v' (.inr rfl) rfl qp, hg, fun _ => ⟨v', rfl, hs, hi⟩⟩
set_option maxRecDepth 10000 in
set_option maxHeartbeats 4000000 in
theorem rsame_con (H : Hp) (v w : AC) (l : List Gp) (hv : SlGp H v l) (hw : SlGp H w l) (hL : l.length ≤ 4611686018427387904) :
    Con E2 89 [.one v, .one w] H (fun _ => False) fun r _ => r = .one (.b true) := by
  refine Con.of rfl fun lg => ?_
  have hv : SlGp ⟨H.t, H.nx, lg⟩ v l := hv
  have hw : SlGp ⟨H.t, H.nx, lg⟩ w l := hw
  generalize (⟨H.t, H.nx, lg⟩ : Hp) = H at hv hw ⊢
  refine C1.body (E := E2) (nt := 26) (res := [.tmp 4]) Tryz.func89 rfl rfl rfl rfl rfl fun tm hargs => ?_
  have h0 := hargs 0 _ rfl
  have h1 := hargs 1 _ rfl
  clear hargs
  have hne : ((l.length : Int) == (l.length : Int)) = true := by simp
  refine qW (qA E2_P (qA h0 (qA h1 (qA ln_grps (qA hv.len (qA hw.len (qA hv.lt (qA hw.lt hne)))))))) ?_
  refine qY ?_
  refine qV ?_
  refine R1.s_block fun K k1 k2 k3 k4 => ?_
  refine R1.loop (fun k A H2 => ∃ i : Nat, k = l.length - i ∧ i ≤ l.length ∧ H2 = H ∧ slot A.tm 0 = .one (v) ∧ slot A.tm 1 = .one (w) ∧ slot A.tm 5 = .one (.i .i64 (i : Int)) ∧ A.nt = 26 ∧ A.dfr = []) ?_ l.length ⟨0, rfl, Nat.zero_le _, rfl, ?_⟩
  · clear h0 h1 tm
    rintro k A H2 ⟨i, rfl, hi, rfl, t0, t1, t5, hnt, hdf⟩
    refine qW (qA E2_P (qA t0 (qA t5 (qA hnt (qA ln_grps (qA hv.len hv.lt)))))) ?_
    refine qE fun Kx Ky hx hy => ?_
    refine iteI (fun hc => hx ?_) (fun hc => hy ?_)
    · clear hx hy Kx Ky
      have hlt : i < l.length := by omega
      have ex : l[i]? = some l[i] := List.getElem?_eq_getElem hlt
      have hdr : l.drop i = l[i] :: l.drop (i + 1) := List.drop_eq_getElem_cons hlt
      have htk : l.take (i + 1) = l.take i ++ [l[i]] := List.take_succ_eq_append_getElem hlt
      have hmem : l[i] ∈ l := List.getElem_mem hlt
      generalize l[i] = x at ex hdr htk hmem
      have hw2 : IntKind.i64.wrap ((i : Int) + 1) = ((i + 1 : Nat) : Int) := by rw [wrapI (by omega) (by omega)]; omega
      obtain ⟨id, g, off, cells, rfl, hid, hgr, hat⟩ := hv.open (by omega)
      obtain ⟨id', g', off', cells', rfl, hid', hgr', hat'⟩ := hw.open (by omega)
      have hx1 := hat i x ex
      have hx2 := hat' i x ex
      refine qV ?_
      refine R1.s_block fun K2 q1 q2 q3 q4 => ?_
      repeat refine R1.s_assoc ?_
      (first | refine R1.s_sg (by kernel_rfl) fun K hK => ?_ | refine R1.e_sg (by kernel_rfl) fun K hK => ?_)
      simp only [qB, slotOk, Nat.reduceLT, E2_P, t0, t1, t5, hnt, el_grps, ld_grp, indexAddr_cast hlt, hid, hgr, hid', hgr', hx1.all, hx1.le, hx2.all, hx2.le, gpC, plain_neq eq_grp, beq_self_eq_true, Bool.and_self]
      refine hK _ _ ?_
      clear hK K
      refine qY ?_
      refine qW hnt ?_
      refine q1 _ _ ?_
      refine qW (qA hnt (qA t5 hw2)) ?_
      refine ⟨l.length - (i + 1), by omega, i + 1, rfl, hlt, rfl, ?_⟩
      repeat' (first | (simp only [slot_put, Nat.reduceEqDiff, reduceIte, putD_nt, putD_dfr, t0, t1, t5, hnt, hdf]; first | done | rfl) | refine ⟨?_, ?_⟩)
    · clear hx hy Kx Ky
      refine qW hnt ?_
      refine k2 _ _ ?_
      refine qW hnt ?_
      exact ⟨_, _, callEnd_one (.b true) (.inr rfl) (qd hdf) qp, Fr.refl _, fun _ => rfl⟩
  · repeat' (first | (simp only [slot_put, Nat.reduceEqDiff, reduceIte, putD_nt, putD_dfr, h0, h1]; first | done | rfl) | refine ⟨?_, ?_⟩)
set_option maxRecDepth 10000 in
set_option maxHeartbeats 4000000 in
theorem rSame_con (H : Hp) (a b c d : AC) (x : Nm) (ha : SlGp H a x.1) (hb : SlGp H b x.2) (hc : SlGp H c x.1) (hd : SlGp H d x.2) (hL1 : x.1.length ≤ 4611686018427387904) (hL2 : x.2.length ≤ 4611686018427387904) :
    Con E2 55 [.agg [a, b], .agg [c, d]] H (fun _ => False) fun r _ => r = .one (.b true) := by
  refine Con.of rfl fun lg => ?_
  have ha : SlGp ⟨H.t, H.nx, lg⟩ a x.1 := ha
  have hb : SlGp ⟨H.t, H.nx, lg⟩ b x.2 := hb
  have hc : SlGp ⟨H.t, H.nx, lg⟩ c x.1 := hc
  have hd : SlGp ⟨H.t, H.nx, lg⟩ d x.2 := hd
  generalize (⟨H.t, H.nx, lg⟩ : Hp) = H at ha hb hc hd ⊢
  refine C1.body (E := E2) (nt := 17) (res := [.tmp 4]) Tryz.func55 rfl rfl rfl rfl rfl fun tm hargs => ?_
  have h0 := hargs 0 _ rfl
  have h1 := hargs 1 _ rfl
  clear hargs
  refine qG (qA E2_P (qA h0 h1)) fun K hK => ?_
  refine hK _ _ ?_
  clear hK K
  refine R1.gen (fun A1 H1 => Gr H H1 ∧ H.nx + 1 < H1.nx ∧ H1.get H.nx = some (.arr [a, b] 106 0 0) ∧ H1.get (H.nx + 1) = some (.arr [c, d] 106 0 0) ∧ slot A1.tm 2 = .one ((.o (.ptr H.nx 0 0 2))) ∧ slot A1.tm 3 = .one ((.o (.ptr (H.nx + 1) 0 0 2))) ∧ A1.nt = 17 ∧ A1.dfr = [])
    ⟨((Fr.refl _).new _).new _, ?_⟩ ?_
  · exact qU
  rintro A1 H1 ⟨g1, n1, ra, rb, t2, t3, hnt, hdf⟩
  clear h0 h1 tm
  have m1 : H.nx < H1.nx := by omega
  have ha := ha.gr g1
  have hb := hb.gr g1
  have hc := hc.gr g1
  have hd := hd.gr g1
  refine qG (qA E2_P (qA t2 (qA t3 (qA hnt (qA ra (qA m1 (qA rb (qA n1 (qA fd_num_0 (qA ld_grps bd_rsame)))))))))) fun K hK => ?_
  refine WE.con (rsame_con H1 a c x.1 ha hc hL1) fun v H2 g2 hv => ?_
  subst hv
  have ra := (g2.get _ m1 not_false).trans ra
  have m1 := Nat.lt_of_lt_of_le m1 g2.nx
  have rb := (g2.get _ n1 not_false).trans rb
  have n1 := Nat.lt_of_lt_of_le n1 g2.nx
  have hb := hb.gr g2
  have hd := hd.gr g2
  refine qS (qA E2_P (qA t2 (qA t3 (qA hnt (qA ra (qA m1 (qA rb (qA n1 (qA fd_num_1 (qA ld_grps bd_rsame)))))))))) ?_
  refine WE.con (rsame_con H2 b d x.2 hb hd hL2) fun v H3 g3 hv => ?_
  subst hv
  refine qS (qA E2_P hnt) ?_
  refine hK _ _ ?_
  clear hK K
  refine qV ?_
  exact ⟨_, _, callEnd_one (.b true) (.inr rfl) (qd hdf) qp, (g1.gr g2).gr g3, fun _ => rfl⟩
end Go.Proofs.YtiejeicaaojdlaaGreat
namespace Go.Proofs.YtiejeicaaojdlaaGreat
open Go Go.Eng
abbrev Cl := Int × List UInt8 × List UInt8 × Nm
def ClR (H : Hp) (c : List AC) (x : Cl) : Prop := ∃ p q, c = [.i .i64 x.1, .o (.str x.2.1), .o (.str x.2.2.1), p, q] ∧ SlGp H p x.2.2.2.1 ∧ SlGp H q x.2.2.2.2
theorem ClR.gr {H H' : Hp} {c : List AC} {x : Cl} (h : ClR H c x) (hg : Gr H H') : ClR H' c x := let ⟨p, q, h1, h2, h3⟩ := h; ⟨p, q, h1, h2.gr hg, h3.gr hg⟩
theorem cids_cl {k : Int} {s t : List UInt8} {p q : AC} : cids [.i .i64 k, .o (.str s), .o (.str t), p, q] = (AV.one p).ids ++ (AV.one q).ids := by
  simp only [cids_cons, cids_nil, ids_i, ids_str, List.nil_append, List.append_nil]
theorem frr_cl : FrR ClR := fun Y H H' c x ⟨p, q, h1, h2, h3⟩ hf hi => by
  subst h1
  rw [cids_cl] at hi
  exact ⟨p, q, rfl, SlC.fr h2 hf fun i h => hi i (List.mem_append_left _ h), SlC.fr h3 hf fun i h => hi i (List.mem_append_right _ h)⟩
theorem ltr_cl : LtR ClR := fun H c x ⟨p, q, h1, h2, h3⟩ i hi => by
  subst h1
  rw [cids_cl] at hi
  rcases List.mem_append.1 hi with h | h
  · exact h2.lt i h
  · exact h3.lt i h
def SlCl (H : Hp) (v : AC) (l : List Cl) : Prop := SlR ClR 5 H v l
theorem SlCl.gr {H H' : Hp} {v : AC} {l : List Cl} (h : SlCl H v l) (hg : Gr H H') : SlCl H' v l := SlR.of_get h hg.nx (fun i hi => hg.get i hi not_false) fun _ _ h => h.gr hg
theorem SlCl.len {H : Hp} {v : AC} {l : List Cl} (h : SlCl H v l) : doLen H 1 (.one v) = .val (.one (.i .i64 (l.length : Int))) H := SlR.len h
theorem SlCl.lt {H : Hp} {v : AC} {l : List Cl} (h : SlCl H v l) : ltV (.one v) H.nx := SlR.lt h
structure ClAt (H : Hp) (cells : List AC) (o : Nat) (x : Cl) (p q : AC) : Prop where
  of1 : SlGp H p x.2.2.2.1
  of2 : SlGp H q x.2.2.2.2
  all : (cells.drop o).take 5 = [.i .i64 x.1, .o (.str x.2.1), .o (.str x.2.2.1), p, q]
  le : o + 5 ≤ cells.length
  le1 : o + 1 ≤ cells.length
  le2 : o + 1 + 1 ≤ cells.length
  le3 : o + 2 + 1 ≤ cells.length
  le4 : o + 3 + 2 ≤ cells.length
  f1 : (cells.drop o).headD (.b false) = .i .i64 x.1
  f2 : (cells.drop (o + 1)).headD (.b false) = .o (.str x.2.1)
  f3 : (cells.drop (o + 2)).headD (.b false) = .o (.str x.2.2.1)
  f4 : (cells.drop (o + 3)).take 2 = [p, q]
theorem drop5 {cells : List AC} {o : Nat} {a b c d e : AC} (h : (cells.drop o).take 5 = [a, b, c, d, e]) : (cells.drop o).headD (.b false) = a ∧ (cells.drop (o + 1)).headD (.b false) = b ∧ (cells.drop (o + 2)).headD (.b false) = c ∧ (cells.drop (o + 3)).take 2 = [d, e] := by
  rw [← List.drop_drop, ← List.drop_drop, ← List.drop_drop]
  match hd : cells.drop o, h with
  | x0 :: x1 :: x2 :: x3 :: x4 :: r, h =>
    simp only [List.take_succ_cons, List.take_zero, List.cons.injEq, and_true] at h
    obtain ⟨rfl, rfl, rfl, rfl, rfl⟩ := h
    exact ⟨rfl, rfl, rfl, rfl⟩
theorem SlCl.open {H : Hp} {v : AC} {l : List Cl} (h : SlCl H v l) (hn : 0 < l.length) : ∃ id g off cells, v = .o (.sl id g off l.length 5) ∧ id < H.nx ∧ rowOf (H.get id) g = some cells ∧ ∀ (i : Nat) (x : Cl), l[i]? = some x → ∃ p q, ClAt H cells (off + i * 5) x p q := by
  obtain ⟨id, g, off, cells, h1, h2, h3, h4⟩ := SlR.open h hn
  refine ⟨id, g, off, cells, h1, h2, h3, fun i x hx => ?_⟩
  obtain ⟨h5, c, h6, h7, p, q, rfl, h8, h9⟩ := h4 i x hx
  obtain ⟨d1, d2, d3, d4⟩ := drop5 h6
  exact ⟨p, q, h8, h9, h6, h5, by omega, by omega, by omega, by omega, d1, d2, d3, d4⟩
abbrev Rl := Int × List Int
def RlR (H : Hp) (c : List AC) (x : Rl) : Prop := ∃ u, c = [.i .i64 x.1, u] ∧ SlI H u x.2
theorem RlR.gr {H H' : Hp} {c : List AC} {x : Rl} (h : RlR H c x) (hg : Gr H H') : RlR H' c x := let ⟨u, h1, h2⟩ := h; ⟨u, h1, h2.gr hg⟩
theorem cids_rl {k : Int} {u : AC} : cids [.i .i64 k, u] = (AV.one u).ids := by
  simp only [cids_cons, cids_nil, ids_i, List.nil_append, List.append_nil]
theorem frr_rl : FrR RlR := fun Y H H' c x ⟨u, h1, h2⟩ hf hi => by
  subst h1
  rw [cids_rl] at hi
  exact ⟨u, rfl, SlC.fr h2 hf hi⟩
theorem ltr_rl : LtR RlR := fun H c x ⟨u, h1, h2⟩ i hi => by
  subst h1
  rw [cids_rl] at hi
  exact h2.lt i hi
def SlRl (H : Hp) (v : AC) (l : List Rl) : Prop := SlR RlR 2 H v l
theorem SlRl.gr {H H' : Hp} {v : AC} {l : List Rl} (h : SlRl H v l) (hg : Gr H H') : SlRl H' v l := SlR.of_get h hg.nx (fun i hi => hg.get i hi not_false) fun _ _ h => h.gr hg
theorem SlRl.len {H : Hp} {v : AC} {l : List Rl} (h : SlRl H v l) : doLen H 1 (.one v) = .val (.one (.i .i64 (l.length : Int))) H := SlR.len h
theorem SlRl.lt {H : Hp} {v : AC} {l : List Rl} (h : SlRl H v l) : ltV (.one v) H.nx := SlR.lt h
structure RlAt (H : Hp) (cells : List AC) (o : Nat) (x : Rl) (u : AC) : Prop where
  of : SlI H u x.2
  all : (cells.drop o).take 2 = [.i .i64 x.1, u]
  le : o + 2 ≤ cells.length
  le1 : o + 1 ≤ cells.length
  le2 : o + 1 + 1 ≤ cells.length
  f1 : (cells.drop o).headD (.b false) = .i .i64 x.1
  f2 : (cells.drop (o + 1)).headD (.b false) = u
theorem drop2 {cells : List AC} {o : Nat} {a b : AC} (h : (cells.drop o).take 2 = [a, b]) : (cells.drop o).headD (.b false) = a ∧ (cells.drop (o + 1)).headD (.b false) = b := by
  rw [← List.drop_drop]
  match hd : cells.drop o, h with
  | x0 :: x1 :: r, h =>
    simp only [List.take_succ_cons, List.take_zero, List.cons.injEq, and_true] at h
    obtain ⟨rfl, rfl⟩ := h
    exact ⟨rfl, rfl⟩
theorem SlRl.open {H : Hp} {v : AC} {l : List Rl} (h : SlRl H v l) (hn : 0 < l.length) : ∃ id g off cells, v = .o (.sl id g off l.length 2) ∧ id < H.nx ∧ rowOf (H.get id) g = some cells ∧ ∀ (i : Nat) (x : Rl), l[i]? = some x → ∃ u, RlAt H cells (off + i * 2) x u := by
  obtain ⟨id, g, off, cells, h1, h2, h3, h4⟩ := SlR.open h hn
  refine ⟨id, g, off, cells, h1, h2, h3, fun i x hx => ?_⟩
  obtain ⟨h5, c, h6, h7, u, rfl, h8⟩ := h4 i x hx
  obtain ⟨d1, d2⟩ := drop2 h6
  exact ⟨u, h8, h6, h5, by omega, by omega, d1, d2⟩
abbrev Pz := List Cl × List Rl
structure PzB (p : Pz) : Prop where
  c : p.1.length * 88 ≤ 140737488355328
  r : p.2.length * 32 ≤ 140737488355328
  t : ∀ x ∈ p.1, x.2.2.2.1.length * 32 ≤ 140737488355328 ∧ x.2.2.2.2.length * 32 ≤ 140737488355328
  p : ∀ x ∈ p.2, x.2.length * 8 ≤ 140737488355328
set_option maxRecDepth 10000 in
set_option maxHeartbeats 4000000 in
theorem rCopy_con (H : Hp) (p q : AC) (x : Nm) (hp : SlGp H p x.1) (hq : SlGp H q x.2) (hL : x.1.length * 32 ≤ 140737488355328 ∧ x.2.length * 32 ≤ 140737488355328) :
    Con E2 48 [.agg [p, q]] H (fun _ => False) fun r H' => ∃ p' q', r = .agg [p', q'] ∧ SlGp H' p' x.1 ∧ SlGp H' q' x.2 ∧ (∀ id ∈ (AV.one p').ids, H.nx ≤ id) ∧ ∀ id ∈ (AV.one q').ids, H.nx ≤ id := by
  refine Con.of rfl fun lg => ?_
  have hp : SlGp ⟨H.t, H.nx, lg⟩ p x.1 := hp
  have hq : SlGp ⟨H.t, H.nx, lg⟩ q x.2 := hq
  have e0 : H.nx = (⟨H.t, H.nx, lg⟩ : Hp).nx := rfl
  rw [e0]
  clear e0
  generalize (⟨H.t, H.nx, lg⟩ : Hp) = H at hp hq ⊢
  refine C1.body (E := E2) (nt := 14) (res := [.cell 2 106]) Tryz.func48 rfl rfl rfl rfl rfl fun tm hargs => ?_
  have h0 := hargs 0 _ rfl
  clear hargs
  refine qG (qA E2_P (qA h0 zr_num)) fun K hK => ?_
  refine hK _ _ ?_
  clear hK K
  refine R1.gen (fun A1 H1 => Gr H H1 ∧ H.nx + 1 < H1.nx ∧ H1.get H.nx = some (.arr [p, q] 106 0 0) ∧ H1.get (H.nx + 1) = some (.arr [.o .nilS, .o .nilS] 106 0 0) ∧ slot A1.tm 1 = .one ((.o (.ptr H.nx 0 0 2))) ∧ slot A1.tm 2 = .one ((.o (.ptr (H.nx + 1) 0 0 2))) ∧ A1.nt = 14 ∧ A1.dfr = [])
    ⟨((Fr.refl _).new _).new _, ?_⟩ ?_
  · exact qU
  rintro A1 H1 ⟨g1, n1, r1, r2, t1, t2, hnt, hdf⟩
  clear h0 tm
  have hp1 : SlGp H1 p x.1 := hp.gr g1
  have hq1 : SlGp H1 q x.2 := hq.gr g1
  have l1 : H.nx < H1.nx := by omega
  have hlp : ∀ id ∈ (AV.one p).ids, id < H.nx := hp.lt
  have hlq : ∀ id ∈ (AV.one q).ids, id < H.nx := hq.lt
  obtain ⟨z, hz, hzl⟩ := zx_grp
  refine qG (qA E2_P hnt) fun K hK => ?_
  refine hK _ _ ?_
  clear hK K
  repeat refine R1.s_assoc ?_
  (first | refine R1.s_drw (ms := [0, 0, 2, 7, 0, 0, 32, 127, 255, 511]) (by kernel_rfl) (by kernel_rfl) fun K hK => ?_ | refine R1.e_drw (ms := [0, 0, 2, 7, 0, 0, 32, 127, 255, 511]) (by kernel_rfl) (by kernel_rfl) fun K hK => ?_)
  simp (config := {decide := true}) only [qB, slotOk, Nat.reduceLT, Nat.reduceLeDiff, Nat.reduceAdd, Nat.reduceSub, qD, Untou, unordS, E2_P, t1, hnt, r1, l1, fd_num_0, fd_num_1, ld_grps]
  refine AP_nil el_grps by_grp hz hzl (by decide) hp1 (by omega) (fun id h => by have := hlp id h; simp (config := {decide := true}) [unordS, Untou] <;> omega) fun v c1 H2 hv hvn g2 hc => ?_
  subst hc
  have r1 : H2.get H.nx = some (.arr [p, q] 106 0 0) := by rw [g2.get _ l1 not_false]; exact r1
  have l2 : H.nx < H2.nx := Nat.lt_of_lt_of_le l1 g2.nx
  have r2 : H2.get (H.nx + 1) = some (.arr [.o .nilS, .o .nilS] 106 0 0) := by rw [g2.get _ n1 not_false]; exact r2
  have n2 : H.nx + 1 < H2.nx := Nat.lt_of_lt_of_le n1 g2.nx
  have hq2 : SlGp H2 q x.2 := hq1.gr g2
  simp (config := {decide := true}) only [qB, Nat.reduceLT, Nat.reduceAdd, qD, Untou, unordS, t1, hnt, r1, l2, l1]
  refine AP_nil el_grps by_grp hz hzl (by decide) hq2 (by omega) (fun id h => by have := hlq id h; simp (config := {decide := true}) [unordS, Untou] <;> omega) fun w c1 H3 hw hwn g3 hc => ?_
  subst hc
  have r2 : H3.get (H.nx + 1) = some (.arr [.o .nilS, .o .nilS] 106 0 0) := by rw [g3.get _ n2 not_false]; exact r2
  have n3 : H.nx + 1 < H3.nx := Nat.lt_of_lt_of_le n2 g3.nx
  have hv3 : SlGp H3 v x.1 := SlGp.gr hv g3
  simp (config := {decide := true}) only [qB, Nat.reduceLeDiff, Nat.reduceAdd, qD, Untou, Unseen, unordS, t2, hnt, st_bu zr_num pt_num, pl_num_0, pl_num_1, sz_num, r2, n3]
  refine hK _ _ ?_
  clear hK K
  refine qV ?_
  have n12 := g2.nx
  have keep : ∀ {u : AC} {l : List Gp}, SlGp H3 u l → (∀ id ∈ (AV.one u).ids, H1.nx ≤ id) → SlGp (H3.mod (H.nx + 1) (.arr [v, w] 106 0 0)) u l := fun hu hi => SlC.fr hu (X := fun k => k = H.nx + 1) ((Fr.refl _).mod _ (.inr rfl)) fun id h hh => by have := hi id h; omega
  exact ⟨_, _, callEnd_cells (id := H.nx + 1) (g := 0) ld_num (.inr rfl) (by simp only [putD_dfr, hdf]; rfl) (by simp only [slot_put, Nat.reduceEqDiff, reduceIte, t2]) (by rw [get_modE rfl]; exact rowOf_arr (Nat.le_refl _) (Nat.le_refl _)) (Nat.le_refl _) rfl, ((g1.gr g2).gr g3).mod _ (.inl (Nat.le_succ _)), fun _ => ⟨v, w, rfl, keep hv3 hvn, keep hw fun i h => by have := hwn i h; omega, fun id h => by have := hvn id h; omega, fun id h => by have := hwn id h; omega⟩⟩
end Go.Proofs.YtiejeicaaojdlaaGreat
namespace Go.Proofs.YtiejeicaaojdlaaGreat
open Go Go.Eng
theorem bd_copyPz : hasBody Tryz.prog 12 = true := by kernel_rfl
set_option maxRecDepth 10000 in
set_option maxHeartbeats 16000000 in
theorem copyPz_con (H : Hp) (a b : AC) (p : Pz) (ha : SlCl H a p.1) (hb : SlRl H b p.2) (hB : PzB p) :
    Con E2 12 [.agg [a, b]] H (fun _ => False) fun r H' => ∃ a' b', r = .agg [a', b'] ∧ SlCl H' a' p.1 ∧ SlRl H' b' p.2 := by
  refine Con.of rfl fun lg => ?_
  have ha : SlCl ⟨H.t, H.nx, lg⟩ a p.1 := ha
  have hb : SlRl ⟨H.t, H.nx, lg⟩ b p.2 := hb
  generalize (⟨H.t, H.nx, lg⟩ : Hp) = H at ha hb ⊢
  refine C1.body (E := E2) (nt := 56) (res := [.cell 2 42]) Tryz.func12 rfl rfl rfl rfl rfl fun tm hargs => ?_
  have h0 := hargs 0 _ rfl
  clear hargs
  obtain ⟨lc, lr⟩ := p
  have hB1 : lc.length * 88 ≤ 140737488355328 := hB.c
  have hB2 : lr.length * 32 ≤ 140737488355328 := hB.r
  have hB3 : ∀ x ∈ lc, x.2.2.2.1.length * 32 ≤ 140737488355328 ∧ x.2.2.2.2.length * 32 ≤ 140737488355328 := hB.t
  have hB4 : ∀ x ∈ lr, x.2.length * 8 ≤ 140737488355328 := hB.p
  clear hB
  simp only at ha hb ⊢
  refine qG (qA E2_P (qA h0 zr_puzzle)) fun K hK => ?_
  refine hK _ _ ?_
  clear hK K
  refine qG (qA E2_P zr_puzzle) fun K hK => ?_
  refine hK _ _ ?_
  clear hK K
  refine R1.gen (fun A1 H1 => Gr H H1 ∧ H.nx + 3 = H1.nx ∧ H1.get H.nx = some (.arr [a, b] 42 0 0) ∧ H1.get (H.nx + 1) = some (.arr [.o .nilS, .o .nilS] 42 0 0) ∧ H1.get (H.nx + 2) = some (.arr [.o .nilS, .o .nilS] 42 0 0) ∧ slot A1.tm 1 = .one ((.o (.ptr H.nx 0 0 2))) ∧ slot A1.tm 2 = .one ((.o (.ptr (H.nx + 1) 0 0 2))) ∧ slot A1.tm 3 = .one ((.o (.ptr (H.nx + 2) 0 0 2))) ∧ A1.nt = 56 ∧ A1.dfr = [])
    ⟨(((Fr.refl _).new _).new _).new _, rfl, ?_⟩ ?_
  · exact qU
  rintro A1 H1 ⟨g1, n1, r1, r2, r3, t1, t2, t3, hnt, hdf⟩
  clear h0 tm
  obtain ⟨zc, hzc, hzcl⟩ := zx_cell
  obtain ⟨zr, hzr, hzrl⟩ := zx_rule
  obtain ⟨N, hN⟩ : ∃ N, N = H.nx := ⟨_, rfl⟩
  rw [← hN] at n1 r1 r2 r3 t1 t2 t3
  refine qW hnt ?_
  refine R1.s_block fun K k1 k2 k3 k4 => ?_
  refine R1.loop (fun k A H2 => ∃ (i : Nat) (v : AC) (r : Option Nat), k = lc.length - i ∧ i ≤ lc.length ∧ Gr H H2 ∧ H1.nx ≤ H2.nx ∧ H2.get N = some (.arr [a, b] 42 0 0) ∧ H2.get (N + 1) = some (.arr [.o .nilS, .o .nilS] 42 0 0) ∧ H2.get (N + 2) = some (.arr [v, .o .nilS] 42 0 0) ∧ OwnS ClR 5 108 (fun i => i < N + 3) H2 v (lc.take i) r ∧
      slot A.tm 1 = .one ((.o (.ptr N 0 0 2))) ∧ slot A.tm 2 = .one ((.o (.ptr (N + 1) 0 0 2))) ∧ slot A.tm 3 = .one ((.o (.ptr (N + 2) 0 0 2))) ∧ slot A.tm 4 = .one (.i .i64 (i : Int)) ∧ A.nt = 56 ∧ A.dfr = []) ?_ lc.length
    ⟨0, .o .nilS, none, rfl, Nat.zero_le _, g1, Nat.le_refl _, r1, r2, r3, OwnS.nil, ?_⟩
  · clear t1 t2 t3 hnt hdf A1 r1 r2 r3
    rintro k A H2 ⟨i, v, r, rfl, hi, g2, n2, r1, r2, r3, ho, t1, t2, t3, t4, hnt, hdf⟩
    have ha2 := ha.gr g2
    have m1 : N < H2.nx := by omega
    have m2 : N + 1 < H2.nx := by omega
    have m3 : N + 2 < H2.nx := by omega
    refine qW (qA E2_P (qA t1 (qA t4 (qA hnt (qA r1 (qA m1 (qA fd_puzzle_0 (qA ld_cells (qA ln_cells (qA ha2.len ha2.lt)))))))))) ?_
    refine qE fun Kx Ky hx hy => ?_
    refine iteI (fun hc => hx ?_) (fun hc => hy ?_)
    · clear hx hy Kx Ky
      have hlen : (lc.take i).length = i := by rw [List.length_take]; omega
      have hlt : i < lc.length := by omega
      have ex : lc[i]? = some lc[i] := List.getElem?_eq_getElem hlt
      have hdr : lc.drop i = lc[i] :: lc.drop (i + 1) := List.drop_eq_getElem_cons hlt
      have htk : lc.take (i + 1) = lc.take i ++ [lc[i]] := List.take_succ_eq_append_getElem hlt
      have hmem : lc[i] ∈ lc := List.getElem_mem hlt
      generalize lc[i] = x at ex hdr htk hmem
      have hw2 : IntKind.i64.wrap ((i : Int) + 1) = ((i + 1 : Nat) : Int) := by rw [wrapI (by omega) (by omega)]; omega
      obtain ⟨hBx1, hBx2⟩ := hB3 x hmem
      obtain ⟨id, g, off, cells, rfl, hid, hgr, hat⟩ := ha2.open (by omega)
      obtain ⟨p, q, hx1⟩ := hat i x ex
      refine qV ?_
      refine R1.s_block fun K2 q1 q2 q3 q4 => ?_
      refine qG (qA E2_P (qA t1 (qA t4 (qA hnt (qA r1 (qA m1 (qA fd_puzzle_0 (qA ld_cells (qA el_cells (qA ld_cell (qA sz_cell (qA zr_cell (qA (ixC hlt) (qA hid (qA hgr (qA hx1.all hx1.le)))))))))))))))) fun K hK => ?_
      refine hK _ _ ?_
      clear hK K
      refine R1.gen (fun A3 H3 => Gr H2 H3 ∧ H2.nx < H3.nx ∧ H3.get H2.nx = some (.arr [.i .i64 x.1, .o (.str x.2.1), .o (.str x.2.2.1), p, q] 108 0 0) ∧ slot A3.tm 1 = .one ((.o (.ptr N 0 0 2))) ∧ slot A3.tm 2 = .one ((.o (.ptr (N + 1) 0 0 2))) ∧ slot A3.tm 3 = .one ((.o (.ptr (N + 2) 0 0 2))) ∧ slot A3.tm 4 = .one (.i .i64 (i : Int)) ∧ slot A3.tm 5 = .one ((.o (.ptr H2.nx 0 0 5))) ∧ A3.nt = 56 ∧ A3.dfr = [])
        ⟨((Fr.refl _).new _).mod _ (.inl (Nat.le_refl _)), ?_⟩ ?_
      · exact qZ (qA t1 (qA t2 (qA t3 (qA t4 (qA hnt hdf)))))
      clear t1 t2 t3 t4 hnt hdf A
      rintro A H3 ⟨g3, n3, rx, t1, t2, t3, t4, t5, hnt, hdf⟩
      obtain ⟨M, hM⟩ : ∃ M, M = H2.nx := ⟨_, rfl⟩
      rw [← hM] at rx n3 t5 m1 m2 m3 n2
      refine qG (qA E2_P (qA t5 (qA hnt (qA rx (qA n3 (qA fd_cell_3 (qA ld_num bd_rCopy))))))) fun K hK => ?_
      refine WE.con (rCopy_con H3 p q x.2.2.2 (hx1.of1.gr g3) (hx1.of2.gr g3) ⟨hBx1, hBx2⟩) fun w H4 g4 ⟨p', q', hw, hp', hq', hip, hiq⟩ => ?_
      subst hw
      have rx := (g4.get _ n3 not_false).trans rx
      have n3 := Nat.lt_of_lt_of_le n3 g4.nx
      have g24 := g3.gr g4
      refine qS (qA E2_P (qA t5 (qA hnt (qA rx (qA n3 (qA fd_cell_3 sz_num)))))) ?_
      refine hK _ _ ?_
      clear hK K
      have g25 : Gr H2 (H4.mod M (.arr [.i .i64 x.1, .o (.str x.2.1), .o (.str x.2.2.1), p', q'] 108 0 0)) := g24.mod _ (.inl (by omega))
      have ho5 := ho.gr frr_cl ltr_cl g25
      have n34 := g4.nx
      have h3n := g3.nx
      have hMx : M < H3.nx := by
        have := g3.get
        omega
      have hi0 : ∀ id ∈ cids [.i .i64 x.1, .o (.str x.2.1), .o (.str x.2.2.1), p', q'], ¬ id < N + 3 ∧ some id ≠ r := fun id hid => by
        have h1 : H3.nx ≤ id := by
          rw [cids_cl] at hid
          rcases List.mem_append.1 hid with h | h
          · exact hip id h
          · exact hiq id h
        refine ⟨by omega, fun e => ?_⟩
        have := (ho.row id e.symm).2
        omega
      have hcl : ClR (H4.mod M (.arr [.i .i64 x.1, .o (.str x.2.1), .o (.str x.2.2.1), p', q'] 108 0 0)) [.i .i64 x.1, .o (.str x.2.1), .o (.str x.2.2.1), p', q'] x :=
        ⟨p', q', rfl, SlC.fr hp' mod_fr fun k h e => by have := hip k h; omega, SlC.fr hq' mod_fr fun k h e => by have := hiq k h; omega⟩
      have rx : (H4.mod M (.arr [.i .i64 x.1, .o (.str x.2.1), .o (.str x.2.2.1), p', q'] 108 0 0)).get M = some (.arr [.i .i64 x.1, .o (.str x.2.1), .o (.str x.2.2.1), p', q'] 108 0 0) := get_modE rfl
      have n5 : M < (H4.mod M (.arr [.i .i64 x.1, .o (.str x.2.1), .o (.str x.2.2.1), p', q'] 108 0 0)).nx := n3
      generalize (H4.mod M (.arr [.i .i64 x.1, .o (.str x.2.1), .o (.str x.2.2.1), p', q'] 108 0 0)) = H5 at g25 ho5 hcl rx n5 ⊢
      rw [hM] at m1 m2 m3
      have r1 := (g25.get _ m1 not_false).trans r1
      have m1 := Nat.lt_of_lt_of_le m1 g25.nx
      have r2 := (g25.get _ m2 not_false).trans r2
      have m2 := Nat.lt_of_lt_of_le m2 g25.nx
      have r3 := (g25.get _ m3 not_false).trans r3
      have m3 := Nat.lt_of_lt_of_le m3 g25.nx
      obtain ⟨hlt5, v7, H7, r7, happ, ho7, hf7, hr7⟩ := ho5.push frr_cl ltr_cl el_cells by_cell hzc hzcl (by decide) (fun i h => by omega) rfl hcl hi0 (by omega)
      have r1 := (hf7.get _ m1 fun e => (ho5.row _ e).1 (by omega)).trans r1
      have r2 := (hf7.get _ m2 fun e => (ho5.row _ e).1 (by omega)).trans r2
      have r37 := (hf7.get _ m3 fun e => (ho5.row _ e).1 (by omega)).trans r3
      have m37 := Nat.lt_of_lt_of_le m3 hf7.nx
      have g27 : Gr H H7 := (g2.gr g25).then hf7 fun q hq => .inl (by have := (ho5.row q hq).1; omega)
      refine qG (qA E2_P (qA t3 (qA t5 (qA hnt (qA rx (qA n5 (qA r3 (qA m3 (qA r37 (qA m37 (qA fd_puzzle_0 (qA ld_cells (qA ld_cell (qA el_cells (qA zr_cell (qA repl1 (qA hlt5 (qA happ sz_cells)))))))))))))))))) fun K hK => ?_
      refine ⟨hlt5, ?_⟩
      refine hK _ _ ?_
      clear hK K
      refine q1 _ _ ?_
      refine qW (qA hnt (qA t4 hw2)) ?_
      have ho8 := ho7.fr frr_cl ltr_cl (Y := fun i => i = N + 2) (H' := H7.mod (N + 2) (.arr [v7, .o .nilS] 42 0 0)) ((Fr.refl _).mod _ (.inr rfl)) fun i h => .inl (by omega)
      rw [← htk] at ho8
      refine ⟨lc.length - (i + 1), by omega, i + 1, v7, some r7, rfl, hlt, g27.mod _ (.inl (by omega)), ?_, (get_modN (by omega)).trans r1, (get_modN (by omega)).trans r2, get_modE rfl, ho8, ?_⟩
      · have h1 := g25.nx
        have h2 := hf7.nx
        show H1.nx ≤ H7.nx
        omega
      · repeat' (first | (simp only [slot_put, Nat.reduceEqDiff, reduceIte, putD_nt, putD_dfr, t1, t2, t3, t4, hnt, hdf]; first | done | rfl) | refine ⟨?_, ?_⟩)
    · clear hx hy Kx Ky
      have hie : i = lc.length := by omega
      rw [hie, List.take_length] at ho
      refine qW hnt ?_
      refine k2 _ _ ?_
      clear k1 k2 k3 k4 K
      have ho1 := ho.above ltr_cl
      clear ho t4 hi hc hie
      have g1 := g2
      obtain ⟨M, hM⟩ : ∃ M, M = H2.nx := ⟨_, rfl⟩
      rw [← hM] at ho1
      have hNM : N + 3 ≤ M := by omega
      refine qW hnt ?_
      refine R1.s_block fun K k1 k2 k3 k4 => ?_
      refine R1.loop (fun k A H2 => ∃ (i : Nat) (v2 : AC) (r' : Option Nat), k = lr.length - i ∧ i ≤ lr.length ∧ Gr H H2 ∧ M ≤ H2.nx ∧ H2.get N = some (.arr [a, b] 42 0 0) ∧ H2.get (N + 1) = some (.arr [.o .nilS, .o .nilS] 42 0 0) ∧ H2.get (N + 2) = some (.arr [v, v2] 42 0 0) ∧ OwnS ClR 5 108 (fun i => i < N + 3 ∨ M ≤ i) H2 v lc r ∧ OwnS RlR 2 92 (fun i => i < M) H2 v2 (lr.take i) r' ∧
          slot A.tm 1 = .one ((.o (.ptr N 0 0 2))) ∧ slot A.tm 2 = .one ((.o (.ptr (N + 1) 0 0 2))) ∧ slot A.tm 3 = .one ((.o (.ptr (N + 2) 0 0 2))) ∧ slot A.tm 6 = .one (.i .i64 (i : Int)) ∧ A.nt = 56 ∧ A.dfr = []) ?_ lr.length
        ⟨0, .o .nilS, none, rfl, Nat.zero_le _, g1, by omega, r1, r2, r3, ho1, OwnS.nil, ?_⟩
      · clear t1 t2 t3 hnt hdf r1 r2 r3 ho1 hM g1 g2 m1 m2 m3 n2 ha2 A
        rintro k A H2 ⟨i, v2, r', rfl, hi, g2, n2, r1, r2, r3, ho1, ho, t1, t2, t3, t6, hnt, hdf⟩
        have hb2 := hb.gr g2
        have m1 : N < H2.nx := by omega
        have m2 : N + 1 < H2.nx := by omega
        have m3 : N + 2 < H2.nx := by omega
        refine qW (qA E2_P (qA t1 (qA t6 (qA hnt (qA r1 (qA m1 (qA fd_puzzle_1 (qA ld_rules (qA ln_rules (qA hb2.len hb2.lt)))))))))) ?_
        refine qE fun Kx Ky hx hy => ?_
        refine iteI (fun hc => hx ?_) (fun hc => hy ?_)
        · clear hx hy Kx Ky
          have hlen : (lr.take i).length = i := by rw [List.length_take]; omega
          have hlt : i < lr.length := by omega
          have ex : lr[i]? = some lr[i] := List.getElem?_eq_getElem hlt
          have hdr : lr.drop i = lr[i] :: lr.drop (i + 1) := List.drop_eq_getElem_cons hlt
          have htk : lr.take (i + 1) = lr.take i ++ [lr[i]] := List.take_succ_eq_append_getElem hlt
          have hmem : lr[i] ∈ lr := List.getElem_mem hlt
          generalize lr[i] = x at ex hdr htk hmem
          have hw2 : IntKind.i64.wrap ((i : Int) + 1) = ((i + 1 : Nat) : Int) := by rw [wrapI (by omega) (by omega)]; omega
          have hBx := hB4 x hmem
          obtain ⟨id, g, off, cells, rfl, hid, hgr, hat⟩ := hb2.open (by omega)
          obtain ⟨u, hx1⟩ := hat i x ex
          refine qV ?_
          refine R1.s_block fun K2 q1 q2 q3 q4 => ?_
          refine qH (qA E2_P (qA t1 (qA t3 (qA t6 (qA hnt (qA r1 (qA m1 (qA r3 (qA m3 (qA fd_puzzle_1 (qA ld_rules (qA el_rules (qA fd_rule_0 (qA fd_rule_1 (qA ld_int (qA ld_ints (qA (ixC hlt) (qA hid (qA hgr (qA hx1.f1 (qA hx1.f2 (qA hx1.le1 (qA hx1.le2 bd_copyInts))))))))))))))))))))))) fun K hK => ?_
          refine WE.conG (copyInts_con H2 u x.2 hx1.of hBx) fun w H4 g4 ⟨u', hw, hu', hiu⟩ => ?_
          subst hw
          have ho4 := ho.gr frr_rl ltr_rl g4
          have ho14 := ho1.gr frr_cl ltr_cl g4
          have n4 := g4.nx
          have hi0 : ∀ id ∈ cids [.i .i64 x.1, u'], ¬ id < M ∧ some id ≠ r' := fun id hid => by
            have h1 : H2.nx ≤ id := by
              rw [cids_rl] at hid
              exact hiu id hid
            refine ⟨by omega, fun e => ?_⟩
            have := (ho.row id e.symm).2
            omega
          have r1 := (g4.get _ m1 not_false).trans r1
          have m1 := Nat.lt_of_lt_of_le m1 g4.nx
          have r2 := (g4.get _ m2 not_false).trans r2
          have m2 := Nat.lt_of_lt_of_le m2 g4.nx
          have r3 := (g4.get _ m3 not_false).trans r3
          have m3 := Nat.lt_of_lt_of_le m3 g4.nx
          obtain ⟨hlt5, v7, H7, r7, happ, ho7, hf7, hr7⟩ := ho4.push frr_rl ltr_rl el_rules by_rule hzr hzrl (by decide) (fun i h => by omega) (c0 := [.i .i64 x.1, u']) (x := x) rfl ⟨u', rfl, hu'⟩ hi0 (by omega)
          have hne : ∀ j, j < M → ¬ r' = some j := fun j hj e => (ho4.row _ e).1 hj
          have r1 := (hf7.get _ m1 (hne _ (by omega))).trans r1
          have r2 := (hf7.get _ m2 (hne _ (by omega))).trans r2
          have r37 := (hf7.get _ m3 (hne _ (by omega))).trans r3
          have m37 := Nat.lt_of_lt_of_le m3 hf7.nx
          have hHN := g1.nx
          have g27 : Gr H H7 := (g2.gr g4).then hf7 fun q hq => .inl (by have := (ho4.row q hq).1; omega)
          have ho17 := ho14.fr frr_cl ltr_cl hf7 fun q hq => .inl (.inr (by have := (ho4.row q hq).1; omega))
          refine qS (qA E2_P (qA t3 (qA hnt (qA r3 (qA m3 (qA r37 (qA m37 (qA fd_puzzle_1 (qA ld_rules (qA el_rules (qA zr_rule (qA pt_rule (qA pl_rule_0 (qA pl_rule_1 (qA repl1 (qA hlt5 (qA happ sz_rules))))))))))))))))) ?_
          refine ⟨hlt5, ?_⟩
          refine hK _ _ ?_
          clear hK K
          refine q1 _ _ ?_
          refine qW (qA hnt (qA t6 hw2)) ?_
          have ho8 := ho7.fr frr_rl ltr_rl (Y := fun i => i = N + 2) (H' := H7.mod (N + 2) (.arr [v, v7] 42 0 0)) ((Fr.refl _).mod _ (.inr rfl)) fun i h => .inl (by omega)
          have ho18 := ho17.fr frr_cl ltr_cl (Y := fun i => i = N + 2) (H' := H7.mod (N + 2) (.arr [v, v7] 42 0 0)) ((Fr.refl _).mod _ (.inr rfl)) fun i h => .inl (.inl (by omega))
          rw [← htk] at ho8
          refine ⟨lr.length - (i + 1), by omega, i + 1, v7, some r7, rfl, hlt, g27.mod _ (.inl (by omega)), ?_, (get_modN (by omega)).trans r1, (get_modN (by omega)).trans r2, get_modE rfl, ho18, ho8, ?_⟩
          · have h2 := hf7.nx
            show M ≤ H7.nx
            omega
          · repeat' (first | (simp only [slot_put, Nat.reduceEqDiff, reduceIte, putD_nt, putD_dfr, t1, t2, t3, t6, hnt, hdf]; first | done | rfl) | refine ⟨?_, ?_⟩)
        · clear hx hy Kx Ky
          have hie : i = lr.length := by omega
          rw [hie, List.take_length] at ho
          refine qW hnt ?_
          refine k2 _ _ ?_
          refine qW (qA E2_P (qA hnt (qA t2 (qA t3 (qA r3 (qA m3 (qA r2 (qA m2 (qA ld_puzzle sz_puzzle))))))))) ?_
          have ho8 := ho.fr frr_rl ltr_rl (Y := fun i => i = N + 1) (H' := H2.mod (N + 1) (.arr [v, v2] 42 0 0)) ((Fr.refl _).mod _ (.inr rfl)) fun i h => .inl (by omega)
          have ho18 := ho1.fr frr_cl ltr_cl (Y := fun i => i = N + 1) (H' := H2.mod (N + 1) (.arr [v, v2] 42 0 0)) ((Fr.refl _).mod _ (.inr rfl)) fun i h => .inl (.inl (by omega))
          exact ⟨_, _, callEnd_cells (id := N + 1) (g := 0) ld_puzzle (.inr rfl) (by simp only [putD_dfr, hdf]; rfl) (by simp only [slot_put, Nat.reduceEqDiff, reduceIte, t2]) (by rw [get_modE rfl]; exact rowOf_arr (Nat.le_refl _) (Nat.le_refl _)) (Nat.le_refl _) rfl, g2.mod _ (.inl (by omega)), fun _ => ⟨v, v2, rfl, ho18.slr, ho8.slr⟩⟩
      · repeat' (first | (simp only [slot_put, Nat.reduceEqDiff, reduceIte, putD_nt, putD_dfr, t1, t2, t3, hnt, hdf]; first | done | rfl) | refine ⟨?_, ?_⟩)
  · repeat' (first | (simp only [slot_put, Nat.reduceEqDiff, reduceIte, putD_nt, putD_dfr, t1, t2, t3, hnt, hdf]; first | done | rfl) | refine ⟨?_, ?_⟩)
end Go.Proofs.YtiejeicaaojdlaaGreat
namespace Go.Proofs.YtiejeicaaojdlaaGreat
open Go Go.Eng
theorem bd_samePz : hasBody Tryz.prog 18 = true := by kernel_rfl
theorem lEq_self (s : List UInt8) : lEq s s = true := by rw [lEq_eq, beq_self_eq_true]
set_option maxRecDepth 10000 in
set_option maxHeartbeats 16000000 in
theorem samePz_con (H : Hp) (a b c d : AC) (p : Pz) (ha : SlCl H a p.1) (hb : SlRl H b p.2) (hc : SlCl H c p.1) (hd : SlRl H d p.2) (hB : PzB p) :
    Con E2 18 [.agg [a, b], .agg [c, d]] H (fun _ => False) fun r _ => r = .one (.b true) := by
  refine Con.of rfl fun lg => ?_
  have ha : SlCl ⟨H.t, H.nx, lg⟩ a p.1 := ha
  have hb : SlRl ⟨H.t, H.nx, lg⟩ b p.2 := hb
  have hc : SlCl ⟨H.t, H.nx, lg⟩ c p.1 := hc
  have hd : SlRl ⟨H.t, H.nx, lg⟩ d p.2 := hd
  generalize (⟨H.t, H.nx, lg⟩ : Hp) = H at ha hb hc hd ⊢
  refine C1.body (E := E2) (nt := 105) (res := [.tmp 4]) Tryz.func18 rfl rfl rfl rfl rfl fun tm hargs => ?_
  have h0 := hargs 0 _ rfl
  have h1 := hargs 1 _ rfl
  clear hargs
  obtain ⟨lc, lr⟩ := p
  have hB1 : lc.length * 88 ≤ 140737488355328 := hB.c
  have hB2 : lr.length * 32 ≤ 140737488355328 := hB.r
  have hB3 : ∀ x ∈ lc, x.2.2.2.1.length * 32 ≤ 140737488355328 ∧ x.2.2.2.2.length * 32 ≤ 140737488355328 := hB.t
  have hB4 : ∀ x ∈ lr, x.2.length * 8 ≤ 140737488355328 := hB.p
  clear hB
  simp only at ha hb hc hd
  refine qG (qA E2_P (qA h0 h1)) fun K hK => ?_
  refine hK _ _ ?_
  clear hK K
  refine R1.gen (fun A1 H1 => Gr H H1 ∧ H.nx + 1 < H1.nx ∧ H1.get H.nx = some (.arr [a, b] 42 0 0) ∧ H1.get (H.nx + 1) = some (.arr [c, d] 42 0 0) ∧ slot A1.tm 2 = .one ((.o (.ptr H.nx 0 0 2))) ∧ slot A1.tm 3 = .one ((.o (.ptr (H.nx + 1) 0 0 2))) ∧ A1.nt = 105 ∧ A1.dfr = [])
    ⟨((Fr.refl _).new _).new _, ?_⟩ ?_
  · exact qU
  rintro A1 H1 ⟨g1, m2, r1, r2, t2, t3, hnt, hdf⟩
  clear h0 h1 tm
  have m1 : H.nx < H1.nx := by omega
  obtain ⟨N, hN⟩ : ∃ N, N = H.nx := ⟨_, rfl⟩
  rw [← hN] at m1 m2 r1 r2 t2 t3
  have ha := ha.gr g1
  have hb := hb.gr g1
  have hc := hc.gr g1
  have hd := hd.gr g1
  have s1 := r1
  have s2 := r2
  have o1 := m1
  have o2 := m2
  have e1 : ((lc.length : Int) == lc.length) = true := by simp
  have e2 : ((lr.length : Int) == lr.length) = true := by simp
  refine qW (qA E2_P (qA t2 (qA t3 (qA hnt (qA r1 (qA m1 (qA r2 (qA m2 (qA fd_puzzle_0 (qA fd_puzzle_1 (qA ld_cells (qA ld_rules (qA ln_cells (qA ln_rules (qA ha.len (qA ha.lt (qA hb.len (qA hb.lt (qA hc.len (qA hc.lt (qA hd.len (qA hd.lt (qA e1 e2))))))))))))))))))))))) ?_
  refine qY ?_
  refine qW hnt ?_
  refine R1.s_block fun K k1 k2 k3 k4 => ?_
  refine R1.loop (fun k A H2 => ∃ i : Nat, k = lc.length - i ∧ i ≤ lc.length ∧ Gr H1 H2 ∧ slot A.tm 2 = .one ((.o (.ptr N 0 0 2))) ∧ slot A.tm 3 = .one ((.o (.ptr (N + 1) 0 0 2))) ∧ slot A.tm 5 = .one (.i .i64 (i : Int)) ∧ A.nt = 105 ∧ A.dfr = []) ?_ lc.length ⟨0, rfl, Nat.zero_le _, Fr.refl _, ?_⟩
  · clear t2 t3 hnt hdf A1
    rintro k A H2 ⟨i, rfl, hi, g2, t2, t3, t5, hnt, hdf⟩
    have ha2 := ha.gr g2
    have hc2 := hc.gr g2
    have r1 := (g2.get _ m1 not_false).trans r1
    have r2 := (g2.get _ m2 not_false).trans r2
    have m1 := Nat.lt_of_lt_of_le m1 g2.nx
    have m2 := Nat.lt_of_lt_of_le m2 g2.nx
    refine qW (qA E2_P (qA t2 (qA t5 (qA hnt (qA r1 (qA m1 (qA fd_puzzle_0 (qA ld_cells (qA ln_cells (qA ha2.len ha2.lt)))))))))) ?_
    refine qE fun Kx Ky hx hy => ?_
    refine iteI (fun hc => hx ?_) (fun hc => hy ?_)
    · clear hx hy Kx Ky
      have hlt : i < lc.length := by omega
      have ex : lc[i]? = some lc[i] := List.getElem?_eq_getElem hlt
      have hdr : lc.drop i = lc[i] :: lc.drop (i + 1) := List.drop_eq_getElem_cons hlt
      have htk : lc.take (i + 1) = lc.take i ++ [lc[i]] := List.take_succ_eq_append_getElem hlt
      have hmem : lc[i] ∈ lc := List.getElem_mem hlt
      generalize lc[i] = x at ex hdr htk hmem
      have hw2 : IntKind.i64.wrap ((i : Int) + 1) = ((i + 1 : Nat) : Int) := by rw [wrapI (by omega) (by omega)]; omega
      obtain ⟨hBx1, hBx2⟩ := hB3 x hmem
      obtain ⟨id, g, off, cells, rfl, hid, hgr, hat⟩ := ha2.open (by omega)
      obtain ⟨id', g', off', cells', rfl, hid', hgr', hat'⟩ := hc2.open (by omega)
      obtain ⟨p, q, hx1⟩ := hat i x ex
      obtain ⟨p', q', hx2⟩ := hat' i x ex
      refine qV ?_
      refine R1.s_block fun K2 q1 q2 q3 q4 => ?_
      repeat refine R1.s_assoc ?_
      (first | refine R1.s_drw (ms := [0, 1, 0, 7, 15, 0, 32, 0, 224, 480, 0, 0, 3103, 8191]) (by kernel_rfl) (by kernel_rfl) fun K hK => ?_ | refine R1.e_drw (ms := [0, 1, 0, 7, 15, 0, 32, 0, 224, 480, 0, 0, 3103, 8191]) (by kernel_rfl) (by kernel_rfl) fun K hK => ?_)
      simp (config := {decide := true}) only [qB, slotOk, Nat.reduceLT, Nat.reduceLeDiff, Nat.reduceAdd, Nat.reduceSub, qD, Untou, Unseen, unordS, E2_P, t2, t3, t5, hnt, r1, m1, r2, m2, fd_puzzle_0, ld_cells, el_cells, ld_cell, sz_cell, zr_cell, indexAddr_cast hlt, hid, hgr, hx1.all, hx1.le, hid', hgr', hx2.all, hx2.le]
      refine hK _ _ ?_
      clear hK K
      refine R1.gen (fun A3 H3 => Gr H2 H3 ∧ H2.nx + 1 < H3.nx ∧ H3.get H2.nx = some (.arr [.i .i64 x.1, .o (.str x.2.1), .o (.str x.2.2.1), p, q] 108 0 0) ∧ H3.get (H2.nx + 1) = some (.arr [.i .i64 x.1, .o (.str x.2.1), .o (.str x.2.2.1), p', q'] 108 0 0) ∧ slot A3.tm 2 = .one ((.o (.ptr N 0 0 2))) ∧ slot A3.tm 3 = .one ((.o (.ptr (N + 1) 0 0 2))) ∧ slot A3.tm 5 = .one (.i .i64 (i : Int)) ∧ slot A3.tm 6 = .one ((.o (.ptr H2.nx 0 0 5))) ∧ slot A3.tm 7 = .one ((.o (.ptr (H2.nx + 1) 0 0 5))) ∧ A3.nt = 105 ∧ A3.dfr = [])
        ⟨((((Fr.refl _).new _).new _).mod _ (.inl (Nat.le_refl _))).mod _ (.inl (Nat.le_succ _)), ?_⟩ ?_
      · exact qZ (qA t2 (qA t3 (qA t5 (qA hnt hdf))))
      clear t2 t3 t5 hnt hdf A
      rintro A H3 ⟨g3, n3, rx, ry, t2, t3, t5, t6, t7, hnt, hdf⟩
      obtain ⟨M, hM⟩ : ∃ M, M = H2.nx := ⟨_, rfl⟩
      rw [← hM] at rx ry n3 t6 t7
      have n3' : M < H3.nx := by omega
      have ei : (x.1 == x.1) = true := by simp
      have es := lEq_self x.2.1
      have et := lEq_self x.2.2.1
      refine qG (qA E2_P (qA t6 (qA t7 (qA hnt (qA rx (qA ry (qA n3 (qA n3' (qA fd_cell_0 (qA fd_cell_1 (qA fd_cell_2 (qA fd_cell_3 (qA ld_int (qA ld_str (qA ld_num (qA ei (qA es (qA et bd_rSame)))))))))))))))))) fun K hK => ?_
      refine WE.con (rSame_con H3 p q p' q' x.2.2.2 (hx1.of1.gr g3) (hx1.of2.gr g3) (hx2.of1.gr g3) (hx2.of2.gr g3) (by omega) (by omega)) fun w H4 g4 hw => ?_
      subst hw
      refine qS (qA E2_P hnt) ?_
      refine hK _ _ ?_
      clear hK K
      refine qY ?_
      refine qW hnt ?_
      refine q1 _ _ ?_
      refine qW (qA hnt (qA t5 hw2)) ?_
      refine ⟨lc.length - (i + 1), by omega, i + 1, rfl, hlt, g2.gr (g3.gr g4), ?_⟩
      repeat' (first | (simp only [slot_put, Nat.reduceEqDiff, reduceIte, putD_nt, putD_dfr, t2, t3, t5, hnt, hdf]; first | done | rfl) | refine ⟨?_, ?_⟩)
    · clear hx hy Kx Ky
      refine qW hnt ?_
      refine k2 _ _ ?_
      clear k1 k2 k3 k4 K ha2 hc2
      have hb2 := hb.gr g2
      have hd2 := hd.gr g2
      refine qW hnt ?_
      refine R1.s_block fun K k1 k2 k3 k4 => ?_
      refine R1.loop (fun k A H2 => ∃ i : Nat, k = lr.length - i ∧ i ≤ lr.length ∧ Gr H1 H2 ∧ slot A.tm 2 = .one ((.o (.ptr N 0 0 2))) ∧ slot A.tm 3 = .one ((.o (.ptr (N + 1) 0 0 2))) ∧ slot A.tm 8 = .one (.i .i64 (i : Int)) ∧ A.nt = 105 ∧ A.dfr = []) ?_ lr.length ⟨0, rfl, Nat.zero_le _, g2, ?_⟩
      · clear t2 t3 t5 hnt hdf A hb2 hd2 r1 r2 g2 m1 m2 hi hc i H2
        rintro k A H2 ⟨i, rfl, hi, g2, t2, t3, t8, hnt, hdf⟩
        have hb2 := hb.gr g2
        have hd2 := hd.gr g2
        have s1 := (g2.get _ o1 not_false).trans s1
        have o1 := Nat.lt_of_lt_of_le o1 g2.nx
        have s2 := (g2.get _ o2 not_false).trans s2
        have o2 := Nat.lt_of_lt_of_le o2 g2.nx
        refine qW (qA E2_P (qA t2 (qA t8 (qA hnt (qA s1 (qA o1 (qA fd_puzzle_1 (qA ld_rules (qA ln_rules (qA hb2.len hb2.lt)))))))))) ?_
        refine qE fun Kx Ky hx hy => ?_
        refine iteI (fun hc => hx ?_) (fun hc => hy ?_)
        · clear hx hy Kx Ky
          have hlt : i < lr.length := by omega
          have ex : lr[i]? = some lr[i] := List.getElem?_eq_getElem hlt
          have hdr : lr.drop i = lr[i] :: lr.drop (i + 1) := List.drop_eq_getElem_cons hlt
          have htk : lr.take (i + 1) = lr.take i ++ [lr[i]] := List.take_succ_eq_append_getElem hlt
          have hmem : lr[i] ∈ lr := List.getElem_mem hlt
          generalize lr[i] = x at ex hdr htk hmem
          have hw2 : IntKind.i64.wrap ((i : Int) + 1) = ((i + 1 : Nat) : Int) := by rw [wrapI (by omega) (by omega)]; omega
          have hBx := hB4 x hmem
          obtain ⟨id, g, off, cells, rfl, hid, hgr, hat⟩ := hb2.open (by omega)
          obtain ⟨id', g', off', cells', rfl, hid', hgr', hat'⟩ := hd2.open (by omega)
          obtain ⟨u, hx1⟩ := hat i x ex
          obtain ⟨u', hx2⟩ := hat' i x ex
          have ei : (x.1 == x.1) = true := by simp
          refine qV ?_
          refine R1.s_block fun K2 q1 q2 q3 q4 => ?_
          refine qG (qA E2_P (qA t2 (qA t3 (qA t8 (qA hnt (qA s1 (qA o1 (qA s2 (qA o2 (qA fd_puzzle_1 (qA ld_rules (qA el_rules (qA fd_rule_0 (qA fd_rule_1 (qA ld_int (qA ld_ints (qA (ixC hlt) (qA hid (qA hgr (qA hx1.f1 (qA hx1.f2 (qA hx1.le1 (qA hx1.le2 (qA hid' (qA hgr' (qA hx2.f1 (qA hx2.f2 (qA hx2.le1 (qA hx2.le2 (qA ei bd_eqInts)))))))))))))))))))))))))))))) fun K hK => ?_
          refine WE.con (eqInts_con H2 u u' x.2 hx1.of hx2.of (by omega)) fun w H4 g4 hw => ?_
          subst hw
          refine qS (qA E2_P hnt) ?_
          refine hK _ _ ?_
          clear hK K
          refine qY ?_
          refine qW hnt ?_
          refine q1 _ _ ?_
          refine qW (qA hnt (qA t8 hw2)) ?_
          refine ⟨lr.length - (i + 1), by omega, i + 1, rfl, hlt, g2.gr g4, ?_⟩
          repeat' (first | (simp only [slot_put, Nat.reduceEqDiff, reduceIte, putD_nt, putD_dfr, t2, t3, t8, hnt, hdf]; first | done | rfl) | refine ⟨?_, ?_⟩)
        · clear hx hy Kx Ky
          refine qW hnt ?_
          refine k2 _ _ ?_
          refine qW hnt ?_
          exact ⟨_, _, callEnd_one (.b true) (.inr rfl) (qd hdf) qp, g1.gr g2, fun _ => rfl⟩
      · repeat' (first | (simp only [slot_put, Nat.reduceEqDiff, reduceIte, putD_nt, putD_dfr, t2, t3, hnt, hdf]; first | done | rfl) | refine ⟨?_, ?_⟩)
  · repeat' (first | (simp only [slot_put, Nat.reduceEqDiff, reduceIte, putD_nt, putD_dfr, t2, t3, hnt, hdf]; first | done | rfl) | refine ⟨?_, ?_⟩)
end Go.Proofs.YtiejeicaaojdlaaGreat
namespace Go.Proofs.YtiejeicaaojdlaaGreat
open Go Go.Eng
theorem bd_read : hasBody Tryz.prog 49 = true := by kernel_rfl
theorem bd_checkCells : hasBody Tryz.prog 51 = true := by kernel_rfl
def ladOf (o : Option (List Lad)) (s : List UInt8) : Lad := match o with
  | none => ([], [])
  | some ls => (idxN 0 ls s).elim ([], []) fun i => ls.getD i ([], [])
theorem LadA.of {H : Hp} {c : List AC} {o : Option (List Lad)} {s : List UInt8} (h : LadA H c o s) : ∃ u, c = [.o (.str (ladOf o s).1), u] ∧ SlP H u (ladOf o s).2 := by
  obtain ⟨h1, h2⟩ := h
  cases o with
  | none => exact ⟨_, h1 (by rw [ladE_none]; decide), SlP.nil⟩
  | some ls =>
    rw [ladE_some] at h1
    cases hi : idxN 0 ls s with
    | none =>
      rw [hi] at h1
      have e : ladOf (some ls) s = ([], []) := by unfold ladOf; simp only [hi, Option.elim_none]
      rw [e]
      exact ⟨_, h1 (by decide), SlP.nil⟩
    | some i =>
      obtain ⟨x, hx, _⟩ := idx_at hi
      have e : ladOf (some ls) s = x := by unfold ladOf; simp only [hi, Option.elim_some]; rw [List.getD_eq_getElem?_getD, hx]; rfl
      rw [e]
      exact h2 ls i x rfl hi hx
noncomputable def readC (o : Option (List Lad)) (x : Cl) : Int × Int := if ladE o x.2.2.1 ≠ 0 then (0, ladE o x.2.2.1) else readN (ladOf o x.2.2.1).1 (ladOf o x.2.2.1).2 x.2.2.2
set_option maxRecDepth 10000 in
set_option maxHeartbeats 8000000 in
theorem read_con (H : Hp) (k p q : AC) (o : Option (List Lad)) (x : Cl) (hk : BookO H k o) (hL : ∀ ls, o = some ls → ∀ x ∈ ls, x.2.length ≤ 1000000) (hp : SlGp H p x.2.2.2.1) (hq : SlGp H q x.2.2.2.2) :
    Con E2 49 [.one k, .agg [.i .i64 x.1, .o (.str x.2.1), .o (.str x.2.2.1), p, q]] H (fun _ => False) fun r _ => r = .tup [(false, [.i .i64 (readC o x).1]), (false, [.i .i64 (readC o x).2])] := by
  refine Con.of rfl fun lg => ?_
  have hk : BookO ⟨H.t, H.nx, lg⟩ k o := BookO.same (H := H) rfl rfl hk
  have hp : SlGp ⟨H.t, H.nx, lg⟩ p x.2.2.2.1 := hp
  have hq : SlGp ⟨H.t, H.nx, lg⟩ q x.2.2.2.2 := hq
  generalize (⟨H.t, H.nx, lg⟩ : Hp) = H at hk hp hq ⊢
  refine C1.body (E := E2) (nt := 24) (res := [.tmp 4, .tmp 5]) Tryz.func49 rfl rfl rfl rfl rfl fun tm hargs => ?_
  have h0 := hargs 0 _ rfl
  have h1 := hargs 1 _ rfl
  clear hargs
  have fin : ∀ (v w : Int) (A : AAct) (H3 : Hp), slot A.tm 4 = .one (.i .i64 v) → slot A.tm 5 = .one (.i .i64 w) → A.dfr = [] → Gr H H3 → (v, w) = readC o x → ∃ w H4, callEnd E2 [.tmp 4, .tmp 5] (.ret, A, H3) = .ok [(w, H4)] ∧ Gr H H4 ∧ ∀ _ : List Nat, w = .tup [(false, [.i .i64 (readC o x).1]), (false, [.i .i64 (readC o x).2])] := fun v w A H3 h1 h2 hd hg hv => ⟨_, H3, callEnd_two (.i .i64 v) (.i .i64 w) (.inr rfl) hd h1 h2, hg, fun _ => by rw [← hv]⟩
  generalize hr0 : readC o x = r0 at fin
  unfold readC at hr0
  refine qG (qA E2_P (qA h0 h1)) fun K hK => ?_
  refine hK _ _ ?_
  clear hK K
  refine R1.gen (fun A1 H1 => Gr H H1 ∧ H.nx < H1.nx ∧ H1.get H.nx = some (.arr [.i .i64 x.1, .o (.str x.2.1), .o (.str x.2.2.1), p, q] 108 0 0) ∧ slot A1.tm 0 = .one (k) ∧ slot A1.tm 3 = .one ((.o (.ptr H.nx 0 0 5))) ∧ A1.nt = 24 ∧ A1.dfr = [])
    ⟨(Fr.refl _).new _, ?_⟩ ?_
  · exact qZ h0
  rintro A1 H1 ⟨g1, m1, rx, t0, t3, hnt, hdf⟩
  clear h0 h1 tm
  obtain ⟨N, hN⟩ : ∃ N, N = H.nx := ⟨_, rfl⟩
  rw [← hN] at m1 rx t3
  have hk := hk.gr g1
  have hp := hp.gr g1
  have hq := hq.gr g1
  refine qG (qA E2_P (qA t0 (qA t3 (qA hnt (qA rx (qA m1 (qA fd_cell_2 (qA ld_str bd_ladder)))))))) fun K hK => ?_
  refine WE.con (ladder_con H1 k o x.2.2.1 hk hL) fun w H2 g2 ⟨c, hw, ha, hcl⟩ => ?_
  subst hw
  have rx := (g2.get _ m1 not_false).trans rx
  have m1 := Nat.lt_of_lt_of_le m1 g2.nx
  have hp := hp.gr g2
  have hq := hq.gr g2
  have g2 := g1.gr g2
  refine qS (qA E2_P (qA hnt (qA zr_lad (qA sz_lad hcl)))) ?_
  refine hK _ _ ?_
  clear hK K
  obtain ⟨u, rfl, hu⟩ := ha.of
  clear hcl
  refine R1.gen (fun A3 H3 => Gr H2 H3 ∧ H2.nx < H3.nx ∧ H3.get H2.nx = some (.arr [.o (.str (ladOf o x.2.2.1).1), u] 78 0 0) ∧ slot A3.tm 3 = .one ((.o (.ptr N 0 0 5))) ∧ slot A3.tm 6 = .one ((.o (.ptr H2.nx 0 0 2))) ∧ slot A3.tm 7 = .one (.i .i64 ((ladE o x.2.2.1) : Int)) ∧ A3.nt = 24 ∧ A3.dfr = [])
    ⟨((Fr.refl _).new _).mod _ (.inl (Nat.le_refl _)), ?_⟩ ?_
  · exact qZ (qA t3 (qA hnt hdf))
  clear t0 t3 hnt hdf A1
  rintro A H3 ⟨g3, n3, rl, t3, t6, t7, hnt, hdf⟩
  obtain ⟨M, hM⟩ : ∃ M, M = H2.nx := ⟨_, rfl⟩
  rw [← hM] at rl n3 t6
  clear hM
  have rx := (g3.get _ m1 not_false).trans rx
  have m1 := Nat.lt_of_lt_of_le m1 g3.nx
  have hp := hp.gr g3
  have hq := hq.gr g3
  have hu := hu.gr g3
  have g3 := g2.gr g3
  refine qW (qA E2_P (qA t7 hnt)) ?_
  generalize ladE o x.2.2.1 = e0 at hr0 t7 ⊢
  by_cases he0 : e0 = 0
  case neg =>
    have ce : (e0 == 0) = false := beq_false_of_ne he0
    rw [if_pos he0] at hr0
    refine qX ce ?_
    refine qW (qA hnt t7) ?_
    exact fin (0) (e0) _ _ qp qp (qd hdf) (g3) (hr0)
  rw [if_neg (fun h => h he0)] at hr0
  have ce : (e0 == 0) = true := by rw [he0]; rfl
  refine qX ce ?_
  refine R1.s_skip ?_
  refine qG (qA E2_P (qA t3 (qA t6 (qA hnt (qA rx (qA m1 (qA rl (qA n3 (qA ld_lad (qA fd_cell_3 (qA ld_num bd_numRead))))))))))) fun K hK => ?_
  refine WE.con (numRead_con H3 (ladOf o x.2.2.1).1 u p q (ladOf o x.2.2.1).2 x.2.2.2 hu hp hq) fun w H4 g4 hw => ?_
  subst hw
  refine qS (qA E2_P hnt) ?_
  refine hK _ _ ?_
  clear hK K
  refine qV ?_
  exact fin ((readN (ladOf o x.2.2.1).1 (ladOf o x.2.2.1).2 x.2.2.2).1) ((readN (ladOf o x.2.2.1).1 (ladOf o x.2.2.1).2 x.2.2.2).2) _ _ qp qp (qd hdf) (g3.gr g4) (hr0)
def prevC (acc : List Cl) (x : Cl) : Bool := acc.getLast?.any fun y => decide (x.1 ≤ y.1)
theorem prevC_take {l : List Cl} {i : Nat} {x y : Cl} (hi : 0 < i) (hy : l[i - 1]? = some y) : prevC (l.take i) x = decide (x.1 ≤ y.1) := by
  have h : (l.take i).getLast? = some y := by
    have hlt := (List.getElem?_eq_some_iff.1 hy).1
    rw [List.getLast?_eq_getElem?, List.length_take, Nat.min_eq_left (by omega), List.getElem?_take, if_pos (by omega)]
    exact hy
  unfold prevC
  rw [h]; rfl
noncomputable def goC (o : Option (List Lad)) : List Cl → List Cl → Int
  | _, [] => 0
  | acc, x :: l => if x.1 < 0 then 53 else if 255 < x.1 then 53 else if prevC acc x = true then 53 else if nmB x.2.1 = false then 53 else if ladE o x.2.2.1 ≠ 0 then 4 else if chkNm x.2.2.2 ≠ 0 then chkNm x.2.2.2 else goC o (acc ++ [x]) l
set_option maxRecDepth 10000 in
set_option maxHeartbeats 16000000 in
theorem checkCells_con (H : Hp) (k v : AC) (o : Option (List Lad)) (l : List Cl) (hk : BookO H k o) (hL : ∀ ls, o = some ls → ∀ x ∈ ls, x.2.length ≤ 1000000) (hv : SlCl H v l) (hB : l.length ≤ 1000000) :
    Con E2 51 [.one k, .one v] H (fun _ => False) fun r _ => r = .one (.i .i64 (goC o [] l)) := by
  refine Con.of rfl fun lg => ?_
  have hk : BookO ⟨H.t, H.nx, lg⟩ k o := BookO.same (H := H) rfl rfl hk
  have hv : SlCl ⟨H.t, H.nx, lg⟩ v l := hv
  generalize (⟨H.t, H.nx, lg⟩ : Hp) = H at hk hv ⊢
  refine C1.body (E := E2) (nt := 62) (res := [.tmp 4]) Tryz.func51 rfl rfl rfl rfl rfl fun tm hargs => ?_
  have h0 := hargs 0 _ rfl
  have h1 := hargs 1 _ rfl
  clear hargs
  have fin : ∀ (e : Int) (A : AAct) (H3 : Hp), slot A.tm 4 = .one (.i .i64 e) → A.dfr = [] → Gr H H3 → e = goC o [] l → ∃ w H4, callEnd E2 [.tmp 4] (.ret, A, H3) = .ok [(w, H4)] ∧ Gr H H4 ∧ ∀ _ : List Nat, w = .one (.i .i64 (goC o [] l)) := fun e A H3 h1 h2 h3 h4 => ⟨_, H3, callEnd_one (.i .i64 e) (.inr rfl) h2 h1, h3, fun _ => by rw [h4]⟩
  generalize hr0 : goC o [] l = r0 at fin
  refine qW (qA E2_P (qA h0 (qA h1 (qA ln_cells (qA hv.len hv.lt))))) ?_
  refine R1.s_block fun K k1 k2 k3 k4 => ?_
  refine R1.loop (fun m A H2 => ∃ i : Nat, m = l.length - i ∧ i ≤ l.length ∧ Gr H H2 ∧ goC o (l.take i) (l.drop i) = r0 ∧ slot A.tm 0 = .one (k) ∧ slot A.tm 1 = .one (v) ∧ slot A.tm 10 = .one (v) ∧ slot A.tm 11 = .one (.i .i64 (l.length : Int)) ∧ slot A.tm 12 = .one (.i .i64 (i : Int)) ∧ A.nt = 62 ∧ A.dfr = []) ?_ l.length ⟨0, rfl, Nat.zero_le _, Fr.refl _, hr0, ?_⟩
  · clear h0 h1 tm
    rintro m A H2 ⟨i, rfl, hi, g2, hr, t0, t1, t10, t11, t12, hnt, hdf⟩
    have hv2 := hv.gr g2
    have hk2 := hk.gr g2
    refine qW (qA E2_P (qA t11 (qA t12 hnt))) ?_
    refine qE fun Kx Ky hx hy => ?_
    refine iteI (fun hc => hx ?_) (fun hc => hy ?_)
    · clear hx hy Kx Ky
      have hlt : i < l.length := by omega
      have ex : l[i]? = some l[i] := List.getElem?_eq_getElem hlt
      have hdr : l.drop i = l[i] :: l.drop (i + 1) := List.drop_eq_getElem_cons hlt
      have htk : l.take (i + 1) = l.take i ++ [l[i]] := List.take_succ_eq_append_getElem hlt
      have hmem : l[i] ∈ l := List.getElem_mem hlt
      generalize l[i] = x at ex hdr htk hmem
      have hw2 : IntKind.i64.wrap ((i : Int) + 1) = ((i + 1 : Nat) : Int) := by rw [wrapI (by omega) (by omega)]; omega
      obtain ⟨id, g, off, cells, rfl, hid, hgr, hat⟩ := hv2.open (by omega)
      obtain ⟨p, q, hx1⟩ := hat i x ex
      rw [hdr, goC] at hr
      refine qV ?_
      refine R1.s_block fun K2 q1 q2 q3 q4 => ?_
      refine qG (qA E2_P (qA t10 (qA t12 (qA hnt (qA el_cells (qA ld_cell (qA sz_cell (qA zr_cell (qA (ixC hlt) (qA hid (qA hgr (qA hx1.all hx1.le)))))))))))) fun K hK => ?_
      refine hK _ _ ?_
      clear hK K
      refine R1.gen (fun A3 H3 => Gr H2 H3 ∧ H2.nx < H3.nx ∧ H3.get H2.nx = some (.arr [.i .i64 x.1, .o (.str x.2.1), .o (.str x.2.2.1), p, q] 108 0 0) ∧ slot A3.tm 0 = .one (k) ∧ slot A3.tm 1 = .one ((.o (.sl id g off l.length 5))) ∧ slot A3.tm 5 = .one (.i .i64 (i : Int)) ∧ slot A3.tm 6 = .one ((.o (.ptr H2.nx 0 0 5))) ∧ slot A3.tm 10 = .one ((.o (.sl id g off l.length 5))) ∧ slot A3.tm 11 = .one (.i .i64 (l.length : Int)) ∧ slot A3.tm 12 = .one (.i .i64 (i : Int)) ∧ A3.nt = 62 ∧ A3.dfr = [])
        ⟨((Fr.refl _).new _).mod _ (.inl (Nat.le_refl _)), ?_⟩ ?_
      · exact qZ (qA t0 (qA t1 (qA t10 (qA t11 (qA t12 (qA hnt hdf))))))
      clear t0 t1 t10 t11 t12 hnt hdf A
      rintro A H3 ⟨g3, n3, rx, t0, t1, t5, t6, t10, t11, t12, hnt, hdf⟩
      obtain ⟨M, hM⟩ : ∃ M, M = H2.nx := ⟨_, rfl⟩
      rw [← hM] at rx n3 t6
      have hgr3 : rowOf (H3.get id) g = some cells := by rw [g3.get _ hid not_false]; exact hgr
      have hid3 : id < H3.nx := Nat.lt_of_lt_of_le hid g3.nx
      have hk3 := hk2.gr g3
      have g13 := g2.gr g3
      generalize hr1 : (if ladE o x.2.2.1 ≠ 0 then 4 else if chkNm x.2.2.2 ≠ 0 then chkNm x.2.2.2 else goC o (l.take i ++ [x]) (l.drop (i + 1))) = r1 at hr
      repeat refine R1.s_assoc ?_
      (first | refine R1.s_sq (by kernel_rfl) fun K hK => ?_ | refine R1.e_sq (by kernel_rfl) fun K hK => ?_)
      have rest : ∀ (b : Bool) (A4 : AAct) (H4 : Hp), Gr H3 H4 → (if b = true then 53 else r1) = r0 → slot A4.tm 0 = .one (k) ∧ slot A4.tm 1 = .one ((.o (.sl id g off l.length 5))) ∧ slot A4.tm 6 = .one ((.o (.ptr M 0 0 5))) ∧ slot A4.tm 10 = .one ((.o (.sl id g off l.length 5))) ∧ slot A4.tm 11 = .one (.i .i64 (l.length : Int)) ∧ slot A4.tm 12 = .one (.i .i64 (i : Int)) ∧ slot A4.tm 45 = .one (.b b) ∧ A4.nt = 62 ∧ A4.dfr = [] → K A4 H4 := by
        clear hr t0 t1 t5 t6 t10 t11 t12 hnt hdf A
        rintro b A H4 g4 hr ⟨t0, t1, t6, t10, t11, t12, t45, hnt, hdf⟩
        refine hK _ _ ?_
        clear hK K
        have rx := (g4.get _ n3 not_false).trans rx
        have n3 := Nat.lt_of_lt_of_le n3 g4.nx
        have hk4 := hk3.gr g4
        have g14 := g13.gr g4
        have g24 := g3.gr g4
        clear g3
        cases b with
        | true =>
          rw [if_pos rfl] at hr
          refine qX t45 ?_
          refine qW hnt ?_
          exact q4 _ _ (k4 _ _ (fin (53) _ _ qp (qd hdf) (g14) (hr)))
        | false =>
        rw [if_neg Bool.false_ne_true, ← hr1] at hr
        refine qX t45 ?_
        refine R1.s_skip ?_
        refine qG (qA E2_P (qA t0 (qA t6 (qA hnt (qA rx (qA n3 (qA fd_cell_2 (qA ld_str bd_ladder)))))))) fun K hK => ?_
        refine WE.con (ladder_con H4 k o x.2.2.1 hk4 hL) fun w H6 g6 ⟨c, hw, ha, hcl⟩ => ?_
        subst hw
        have rx := (g6.get _ n3 not_false).trans rx
        have n3 := Nat.lt_of_lt_of_le n3 g6.nx
        have g6 := g24.gr g6
        refine qS (qA E2_P (qA hnt (qA zr_lad (qA sz_lad hcl)))) ?_
        refine hK _ _ ?_
        clear hK K
        refine R1.gen (fun A7 H7 => Gr H2 H7 ∧ H7.get M = some (.arr [.i .i64 x.1, .o (.str x.2.1), .o (.str x.2.2.1), p, q] 108 0 0) ∧ M < H7.nx ∧ slot A7.tm 0 = .one (k) ∧ slot A7.tm 1 = .one ((.o (.sl id g off l.length 5))) ∧ slot A7.tm 6 = .one ((.o (.ptr M 0 0 5))) ∧ slot A7.tm 8 = .one (.i .i64 ((ladE o x.2.2.1) : Int)) ∧ slot A7.tm 10 = .one ((.o (.sl id g off l.length 5))) ∧ slot A7.tm 11 = .one (.i .i64 (l.length : Int)) ∧ slot A7.tm 12 = .one (.i .i64 (i : Int)) ∧ A7.nt = 62 ∧ A7.dfr = [])
          ⟨(g6.new _).mod _ (.inl g6.nx), ?_, ?_, ?_⟩ ?_
        · rw [get_modN (Nat.ne_of_lt n3), get_newL n3]; exact rx
        · exact Nat.lt_succ_of_lt n3
        · repeat' (first | (simp only [slot_put, Nat.reduceEqDiff, reduceIte, putD_nt, putD_dfr, t0, t1, t6, t10, t11, t12, hnt, hdf]; first | done | rfl) | refine ⟨?_, ?_⟩)
        clear t0 t1 t6 t10 t11 t12 t45 hnt hdf A
        rintro A H7 ⟨g7, rx, n7, t0, t1, t6, t8, t10, t11, t12, hnt, hdf⟩
        generalize ladE o x.2.2.1 = e0 at hr t8
        by_cases he0 : e0 = 0
        case neg =>
          have ce : (e0 == 0) = false := beq_false_of_ne he0
          rw [if_pos he0] at hr
          refine qW (qA E2_P (qA t8 (qA hnt ce))) ?_
          refine qY ?_
          refine qW hnt ?_
          exact q4 _ _ (k4 _ _ (fin (4) _ _ qp (qd hdf) (g2.gr g7) (hr)))
        rw [if_neg (fun h => h he0)] at hr
        have ce : (e0 == 0) = true := by rw [he0]; rfl
        refine qW (qA E2_P (qA t8 (qA hnt ce))) ?_
        refine qY ?_
        refine R1.s_skip ?_
        have hp7 := hx1.of1.gr g7
        have hq7 := hx1.of2.gr g7
        refine qG (qA E2_P (qA t6 (qA hnt (qA rx (qA n7 (qA fd_cell_3 (qA ld_num bd_numCheck))))))) fun K hK => ?_
        refine WE.con (numCheck_con H7 p q x.2.2.2 hp7 hq7) fun w H8 g8 hw => ?_
        subst hw
        have g8 := g7.gr g8
        refine qS (qA E2_P hnt) ?_
        refine hK _ _ ?_
        clear hK K
        generalize chkNm x.2.2.2 = e1 at hr ⊢
        by_cases he1 : e1 = 0
        case neg =>
          have ce : (e1 == 0) = false := beq_false_of_ne he1
          rw [if_pos he1] at hr
          refine qW (qA E2_P (qA hnt ce)) ?_
          refine qY ?_
          refine qW hnt ?_
          exact q4 _ _ (k4 _ _ (fin (e1) _ _ qp (qd hdf) (g2.gr g8) (hr)))
        rw [if_neg (fun h => h he1), ← htk] at hr
        have ce : (e1 == 0) = true := by rw [he1]; rfl
        refine qW (qA E2_P (qA hnt ce)) ?_
        refine qY ?_
        refine qW hnt ?_
        refine q1 _ _ ?_
        refine qW (qA hnt (qA t12 hw2)) ?_
        refine ⟨l.length - (i + 1), by omega, i + 1, rfl, hlt, g2.gr g8, hr, ?_⟩
        repeat' (first | (simp only [slot_put, Nat.reduceEqDiff, reduceIte, putD_nt, putD_dfr, t0, t1, t10, t11, t12, hnt, hdf]; first | done | rfl) | refine ⟨?_, ?_⟩)
      clear hK
      by_cases c0 : x.1 < 0
      · rw [if_pos c0] at hr
        have c0 := eq_true c0
        refine qS (qA E2_P (qA t6 (qA hnt (qA rx (qA n3 (qA fd_cell_0 (qA ld_int c0))))))) ?_
        refine rest true _ _ (Fr.refl _) hr ?_
        repeat' (first | (simp only [slot_put, Nat.reduceEqDiff, reduceIte, putD_nt, putD_dfr, t0, t1, t6, t10, t11, t12, hnt, hdf]; first | done | rfl) | refine ⟨?_, ?_⟩)
      rw [if_neg c0] at hr
      by_cases c1 : 255 < x.1
      · rw [if_pos c1] at hr
        have c0 := eq_false c0
        have c1 : (256 ≤ x.1) = True := eq_true (by omega)
        refine qS (qA E2_P (qA t6 (qA hnt (qA rx (qA n3 (qA fd_cell_0 (qA ld_int (qA c0 c1)))))))) ?_
        refine rest true _ _ (Fr.refl _) hr ?_
        repeat' (first | (simp only [slot_put, Nat.reduceEqDiff, reduceIte, putD_nt, putD_dfr, t0, t1, t6, t10, t11, t12, hnt, hdf]; first | done | rfl) | refine ⟨?_, ?_⟩)
      rw [if_neg c1] at hr
      have c0 := eq_false c0
      have c1 : (256 ≤ x.1) = False := eq_false (by omega)
      by_cases hi0 : i = 0
      · have ci : ((0 : Int) < (i : Int)) = False := eq_false (by omega)
        rw [hi0, List.take_zero, if_neg (by exact Bool.false_ne_true)] at hr
        refine qS (qA E2_P (qA t5 (qA t6 (qA hnt (qA rx (qA n3 (qA fd_cell_0 (qA fd_cell_1 (qA ld_int (qA ld_str (qA c0 (qA c1 (qA ci bd_isName))))))))))))) ?_
        refine WE.prim (isName_p x.2.1) fun H4 g4 n4 e4 => ?_
        refine qS (qA E2_P hnt) ?_
        refine rest (!nmB x.2.1) _ _ g4 ?_ ?_
        · rw [← hr]; cases nmB x.2.1 <;> rfl
        · repeat' (first | (simp only [slot_put, Nat.reduceEqDiff, reduceIte, putD_nt, putD_dfr, t0, t1, t6, t10, t11, t12, hnt, hdf]; first | done | rfl) | refine ⟨?_, ?_⟩)
      · have ci : ((0 : Int) < (i : Int)) = True := eq_true (by omega)
        have hlt3 : i - 1 < l.length := by omega
        have ey : l[i - 1]? = some l[i - 1] := List.getElem?_eq_getElem hlt3
        have hpp := fun x => prevC_take (x := x) (by omega) ey
        generalize l[i - 1] = y at ey hpp
        obtain ⟨p', q', hy1⟩ := hat (i - 1) y ey
        have hw3 : IntKind.i64.wrap ((i : Int) - 1) = ((i - 1 : Nat) : Int) := by rw [wrapI (by omega) (by omega)]; omega
        rw [hpp x] at hr
        by_cases c2 : x.1 ≤ y.1
        · rw [if_pos (decide_eq_true c2)] at hr
          have c2 := eq_true c2
          refine qS (qA E2_P (qA t1 (qA t5 (qA t6 (qA hnt (qA rx (qA n3 (qA fd_cell_0 (qA ld_int (qA c0 (qA c1 (qA ci (qA c2 (qA hw3 (qA el_cells (qA (ixC hlt3) (qA hid3 (qA hgr3 (qA hy1.f1 hy1.le1))))))))))))))))))) ?_
          refine rest true _ _ (Fr.refl _) hr ?_
          repeat' (first | (simp only [slot_put, Nat.reduceEqDiff, reduceIte, putD_nt, putD_dfr, t0, t1, t6, t10, t11, t12, hnt, hdf]; first | done | rfl) | refine ⟨?_, ?_⟩)
        · rw [if_neg (by rw [decide_eq_true_eq]; exact c2)] at hr
          have c2 := eq_false c2
          refine qS (qA E2_P (qA t1 (qA t5 (qA t6 (qA hnt (qA rx (qA n3 (qA fd_cell_0 (qA fd_cell_1 (qA ld_int (qA ld_str (qA c0 (qA c1 (qA ci (qA c2 (qA hw3 (qA el_cells (qA (ixC hlt3) (qA hid3 (qA hgr3 (qA hy1.f1 (qA hy1.le1 bd_isName)))))))))))))))))))))) ?_
          refine WE.prim (isName_p x.2.1) fun H4 g4 n4 e4 => ?_
          refine qS (qA E2_P hnt) ?_
          refine rest (!nmB x.2.1) _ _ g4 ?_ ?_
          · rw [← hr]; cases nmB x.2.1 <;> rfl
          · repeat' (first | (simp only [slot_put, Nat.reduceEqDiff, reduceIte, putD_nt, putD_dfr, t0, t1, t6, t10, t11, t12, hnt, hdf]; first | done | rfl) | refine ⟨?_, ?_⟩)
    · clear hx hy Kx Ky
      have hie : i = l.length := by omega
      rw [hie, List.drop_length, goC] at hr
      refine qW hnt ?_
      refine k2 _ _ ?_
      refine qW hnt ?_
      exact fin (0) _ _ qp (qd hdf) (g2) (hr)
  · repeat' (first | (simp only [slot_put, Nat.reduceEqDiff, reduceIte, putD_nt, putD_dfr, h0, h1]; first | done | rfl) | refine ⟨?_, ?_⟩)
end Go.Proofs.YtiejeicaaojdlaaGreat
namespace Go.Proofs.YtiejeicaaojdlaaGreat
open Go Go.Eng
theorem bd_checkRules : hasBody Tryz.prog 52 = true := by kernel_rfl
theorem zy_bool : ∃ z, zeroT Tryz.prog 4 = some z ∧ (ofValue z).cells = [.b false] := ⟨.bool false, zv_bool, rfl⟩
def ladC (lc : List Cl) (m : Int) : List UInt8 := (lc[m.toNat]?).elim [] fun x => x.2.2.1
def prevI (acc : List Int) (m : Int) : Bool := acc.getLast?.any fun y => decide (m ≤ y)
theorem prevI_take {l : List Int} {i : Nat} {x y : Int} (hi : 0 < i) (hy : l[i - 1]? = some y) : prevI (l.take i) x = decide (x ≤ y) := by
  have h : (l.take i).getLast? = some y := by
    have hlt := (List.getElem?_eq_some_iff.1 hy).1
    rw [List.getLast?_eq_getElem?, List.length_take, Nat.min_eq_left (by omega), List.getElem?_take, if_pos (by omega)]
    exact hy
  unfold prevI
  rw [h]; rfl
def partsB (lc : List Cl) (t : Int) : List Int → List Int → Bool
  | _, [] => true
  | acc, m :: l => if m < 0 then false else if (lc.length : Int) ≤ m then false else if prevI acc m = true then false else if ladC lc m ≠ ladC lc t then false else partsB lc t (acc ++ [m]) l
def goR (lc : List Cl) : List Int → List Int → List Rl → Bool
  | T, S, [] => (List.range lc.length).all fun j => !(T.any (fun x => x == (j : Int)) && S.any fun x => x == (j : Int))
  | T, S, x :: l => if x.1 < 0 then false else if (lc.length : Int) ≤ x.1 then false else if T.any (fun y => y == x.1) = true then false else if partsB lc x.1 [] x.2 = false then false else goR lc (T ++ [x.1]) (S ++ x.2) l
set_option maxRecDepth 10000 in
set_option maxHeartbeats 32000000 in
theorem checkRules_con (H : Hp) (a b : AC) (lc : List Cl) (lr : List Rl) (ha : SlCl H a lc) (hb : SlRl H b lr) (hC : lc.length ≤ 1000000) (hR : lr.length ≤ 1000000) (hP : ∀ x ∈ lr, x.2.length ≤ 4611686018427387904) :
    Con E2 52 [.agg [a, b]] H (fun _ => False) fun r _ => r = .one (.b (goR lc [] [] lr)) := by
  refine Con.of rfl fun lg => ?_
  have ha : SlCl ⟨H.t, H.nx, lg⟩ a lc := ha
  have hb : SlRl ⟨H.t, H.nx, lg⟩ b lr := hb
  generalize (⟨H.t, H.nx, lg⟩ : Hp) = H at ha hb ⊢
  refine C1.body (E := E2) (nt := 111) (res := [.tmp 2]) Tryz.func52 rfl rfl rfl rfl rfl fun tm hargs => ?_
  have h0 := hargs 0 _ rfl
  clear hargs
  have fin : ∀ (e : Bool) (A : AAct) (H3 : Hp), slot A.tm 2 = .one (.b e) → A.dfr = [] → Gr H H3 → e = goR lc [] [] lr → ∃ w H4, callEnd E2 [.tmp 2] (.ret, A, H3) = .ok [(w, H4)] ∧ Gr H H4 ∧ ∀ _ : List Nat, w = .one (.b (goR lc [] [] lr)) := fun e A H3 h1 h2 h3 h4 => ⟨_, H3, callEnd_one (.b e) (.inr rfl) h2 h1, h3, fun _ => by rw [h4]⟩
  generalize hr0 : goR lc [] [] lr = r0 at fin
  have hA := ha
  have hB := hb
  obtain ⟨z, hz, hzc⟩ := zy_bool
  have mk : ∀ H, doMakeSlice Tryz.prog H 156 (.one (.i .i64 (lc.length : Int))) (.one (.i .i64 (lc.length : Int))) = .val (.one (.o (.sl H.nx 0 0 lc.length 1))) (H.new (.arr ((List.replicate lc.length false).map AC.b) 4 0 0)) := fun H => by
    rw [make_slice el_bools by_bool hz (by rw [hzc]; rfl) (by omega), hzc, repl_eq, List.map_replicate]
  refine qG (qA E2_P h0) fun K hK => ?_
  refine hK _ _ ?_
  clear hK K
  refine R1.gen (fun A1 H1 => Gr H H1 ∧ H.nx + 1 = H1.nx ∧ H1.get H.nx = some (.arr [a, b] 42 0 0) ∧ slot A1.tm 1 = .one ((.o (.ptr H.nx 0 0 2))) ∧ A1.nt = 111 ∧ A1.dfr = [])
    ⟨(Fr.refl _).new _, rfl, ?_⟩ ?_
  · exact qU
  rintro A1 H1 ⟨g1, n1, r1, t1, hnt, hdf⟩
  clear h0 tm
  obtain ⟨N, hN⟩ : ∃ N, N = H.nx := ⟨_, rfl⟩
  rw [← hN] at n1 r1 t1
  have m1 : N < H1.nx := by omega
  have ha := ha.gr g1
  have hb := hb.gr g1
  refine qW (qA E2_P (qA t1 (qA hnt (qA r1 (qA m1 (qA fd_puzzle_0 (qA ld_cells (qA ln_cells (qA ha.len (qA ha.lt mk)))))))))) ?_
  refine R1.gen (fun A2 H2 => Gr H1 H2 ∧ N + 3 = H2.nx ∧ H2.get N = some (.arr [a, b] 42 0 0) ∧ H2.get (N + 1) = some (.arr ((List.replicate lc.length false).map AC.b) 4 0 0) ∧ H2.get (N + 2) = some (.arr ((List.replicate lc.length false).map AC.b) 4 0 0) ∧ slot A2.tm 1 = .one ((.o (.ptr N 0 0 2))) ∧ slot A2.tm 3 = .one (.i .i64 (lc.length : Int)) ∧ slot A2.tm 4 = .one ((.o (.sl (N + 1) 0 0 lc.length 1))) ∧ slot A2.tm 5 = .one ((.o (.sl (N + 2) 0 0 lc.length 1))) ∧ A2.nt = 111 ∧ A2.dfr = [])
    ⟨((Fr.refl _).new _).new _, by show _ = H1.nx + 1 + 1; omega, ?_, ?_, ?_, ?_⟩ ?_
  · rw [get_newL (by show _ < H1.nx + 1; omega), get_newL m1]; exact r1
  · rw [get_newL (by show _ < H1.nx + 1; omega)]; exact get_newE n1
  · exact get_newE (by show _ = H1.nx + 1; omega)
  · rw [n1]
    have e2 : N + 2 = H1.nx + 1 := by omega
    rw [e2]
    repeat' (first | (simp only [slot_put, Nat.reduceEqDiff, reduceIte, putD_nt, putD_dfr, t1, hnt, hdf]; first | done | rfl) | refine ⟨?_, ?_⟩)
  clear t1 hnt hdf A1
  rintro A2 H2 ⟨g2, n2, r1, rs, rp, t1, t3, t4, t5, hnt, hdf⟩
  clear m1 n1
  have m1 : N < H2.nx := by omega
  have ha := ha.gr g2
  have hb := hb.gr g2
  have g2 := g1.gr g2
  clear g1
  have fits : ∀ {m : Int} {bs : List Bool}, bs.length = lc.length → 0 ≤ m → m < lc.length → m.toNat + 1 ≤ (bs.map AC.b).length := fun h h1 h2 => by rw [List.length_map, h]; omega
  have put : ∀ {m : Int} {bs : List Bool}, bs.length = lc.length → 0 ≤ m → m < lc.length → List.take m.toNat (List.map AC.b bs) ++ AC.b true :: List.drop (m.toNat + 1) (List.map AC.b bs) = (bs.set m.toNat true).map AC.b := fun h h1 h2 => setRow AC.b _ _ _ (by rw [h]; omega)
  refine qW (qA E2_P (qA t1 (qA hnt (qA r1 (qA m1 (qA fd_puzzle_1 (qA ld_rules (qA ln_rules (qA hb.len hb.lt))))))))) ?_
  refine R1.s_block fun K k1 k2 k3 k4 => ?_
  refine R1.loop (fun m A H3 => ∃ (i : Nat) (T S : List Int) (bs ps : List Bool), m = lr.length - i ∧ i ≤ lr.length ∧ Gr H H3 ∧ N + 3 ≤ H3.nx ∧ H3.get N = some (.arr [a, b] 42 0 0) ∧ H3.get (N + 1) = some (.arr (bs.map AC.b) 4 0 0) ∧ H3.get (N + 2) = some (.arr (ps.map AC.b) 4 0 0) ∧ Mk bs lc.length T ∧ Mk ps lc.length S ∧ goR lc T S (lr.drop i) = r0 ∧
      slot A.tm 1 = .one ((.o (.ptr N 0 0 2))) ∧ slot A.tm 3 = .one (.i .i64 (lc.length : Int)) ∧ slot A.tm 4 = .one ((.o (.sl (N + 1) 0 0 lc.length 1))) ∧ slot A.tm 5 = .one ((.o (.sl (N + 2) 0 0 lc.length 1))) ∧ slot A.tm 19 = .one (b) ∧ slot A.tm 20 = .one (.i .i64 (lr.length : Int)) ∧ slot A.tm 21 = .one (.i .i64 (i : Int)) ∧ A.nt = 111 ∧ A.dfr = []) ?_ lr.length
    ⟨0, [], [], _, _, rfl, Nat.zero_le _, g2, Nat.le_of_eq n2, r1, rs, rp, Mk.nil _, Mk.nil _, hr0, ?_⟩
  · clear t1 t3 t4 t5 hnt hdf A2 r1 rs rp hr0
    rintro m A H3 ⟨i, T, S, bs, ps, rfl, hi, g3, n3, r1, rs, rp, hT, hS, hr, t1, t3, t4, t5, t19, t20, t21, hnt, hdf⟩
    have hb3 := hB.gr g3
    have m1 : N < H3.nx := by omega
    have o1 : N + 1 < H3.nx := by omega
    have o2 : N + 2 < H3.nx := by omega
    refine qW (qA E2_P (qA t20 (qA t21 hnt))) ?_
    refine qE fun Kx Ky hx hy => ?_
    refine iteI (fun hc => hx ?_) (fun hc => hy ?_)
    · clear hx hy Kx Ky
      have hlt : i < lr.length := by omega
      have ex : lr[i]? = some lr[i] := List.getElem?_eq_getElem hlt
      have hdr : lr.drop i = lr[i] :: lr.drop (i + 1) := List.drop_eq_getElem_cons hlt
      have htk : lr.take (i + 1) = lr.take i ++ [lr[i]] := List.take_succ_eq_append_getElem hlt
      have hmem : lr[i] ∈ lr := List.getElem_mem hlt
      generalize lr[i] = x at ex hdr htk hmem
      have hw2 : IntKind.i64.wrap ((i : Int) + 1) = ((i + 1 : Nat) : Int) := by rw [wrapI (by omega) (by omega)]; omega
      obtain ⟨id, g, off, cells, rfl, hid0, hgr0, hat⟩ := hB.open (by omega)
      have hid : id < H3.nx := Nat.lt_of_lt_of_le hid0 g3.nx
      have hgr : rowOf (H3.get id) g = some cells := by rw [g3.get _ hid0 not_false]; exact hgr0
      obtain ⟨u, hx1⟩ := hat i x ex
      have hu := hx1.of
      have hPx := hP x hmem
      rw [hdr, goR] at hr
      generalize hb1 : partsB lc x.1 [] x.2 = b1 at hr
      generalize hr1 : (if b1 = false then false else goR lc (T ++ [x.1]) (S ++ x.2) (lr.drop (i + 1))) = r1' at hr
      refine qV ?_
      refine R1.s_block fun K2 q1 q2 q3 q4 => ?_
      refine qG (qA E2_P (qA t19 (qA t21 (qA hnt (qA el_rules (qA ld_rule (qA sz_rule (qA zr_rule (qA (ixC hlt) (qA hid (qA hgr (qA hx1.all hx1.le)))))))))))) fun K hK => ?_
      refine hK _ _ ?_
      clear hK K
      refine R1.gen (fun A4 H4 => Gr H3 H4 ∧ H3.nx < H4.nx ∧ H4.get H3.nx = some (.arr [.i .i64 x.1, u] 92 0 0) ∧ slot A4.tm 1 = .one ((.o (.ptr N 0 0 2))) ∧ slot A4.tm 3 = .one (.i .i64 (lc.length : Int)) ∧ slot A4.tm 4 = .one ((.o (.sl (N + 1) 0 0 lc.length 1))) ∧ slot A4.tm 5 = .one ((.o (.sl (N + 2) 0 0 lc.length 1))) ∧ slot A4.tm 7 = .one ((.o (.ptr H3.nx 0 0 2))) ∧ slot A4.tm 19 = .one ((.o (.sl id g off lr.length 2))) ∧ slot A4.tm 20 = .one (.i .i64 (lr.length : Int)) ∧ slot A4.tm 21 = .one (.i .i64 (i : Int)) ∧ A4.nt = 111 ∧ A4.dfr = [])
        ⟨((Fr.refl _).new _).mod _ (.inl (Nat.le_refl _)), ?_⟩ ?_
      · exact qZ (qA t1 (qA t3 (qA t4 (qA t5 (qA t19 (qA t20 (qA t21 (qA hnt hdf))))))))
      clear t1 t3 t4 t5 t19 t20 t21 hnt hdf A
      rintro A H4 ⟨g4, n4, rx, t1, t3, t4, t5, t7, t19, t20, t21, hnt, hdf⟩
      obtain ⟨M, hM⟩ : ∃ M, M = H3.nx := ⟨_, rfl⟩
      rw [← hM] at rx n4 t7
      have r1 := (g4.get _ m1 not_false).trans r1
      have m1 := Nat.lt_of_lt_of_le m1 g4.nx
      have rs := (g4.get _ o1 not_false).trans rs
      have o1 := Nat.lt_of_lt_of_le o1 g4.nx
      have rp := (g4.get _ o2 not_false).trans rp
      have o2 := Nat.lt_of_lt_of_le o2 g4.nx
      have hNM : N + 3 ≤ M := by omega
      have g4 := g3.gr g4
      clear hgr hid hb3 hx1 hat hid0 hgr0
      repeat refine R1.s_assoc ?_
      (first | refine R1.s_rg fun K hK => ?_ | refine R1.e_rg fun K hK => ?_)
      have rest : ∀ (b : Bool) (A5 : AAct), (b = false → 0 ≤ x.1 ∧ x.1 < lc.length) → (if b = true then false else r1') = r0 → slot A5.tm 1 = .one ((.o (.ptr N 0 0 2))) ∧ slot A5.tm 3 = .one (.i .i64 (lc.length : Int)) ∧ slot A5.tm 4 = .one ((.o (.sl (N + 1) 0 0 lc.length 1))) ∧ slot A5.tm 5 = .one ((.o (.sl (N + 2) 0 0 lc.length 1))) ∧ slot A5.tm 7 = .one ((.o (.ptr M 0 0 2))) ∧ slot A5.tm 19 = .one ((.o (.sl id g off lr.length 2))) ∧ slot A5.tm 20 = .one (.i .i64 (lr.length : Int)) ∧ slot A5.tm 21 = .one (.i .i64 (i : Int)) ∧ slot A5.tm 40 = .one (.b b) ∧ A5.nt = 111 ∧ A5.dfr = [] → K A5 H4 := by
        clear hr t1 t3 t4 t5 t7 t19 t20 t21 hnt hdf A
        rintro b A hxb hr ⟨t1, t3, t4, t5, t7, t19, t20, t21, t40, hnt, hdf⟩
        refine hK _ _ ?_
        clear hK K
        cases b with
        | true =>
          rw [if_pos rfl] at hr
          refine qX t40 ?_
          refine qW hnt ?_
          exact q4 _ _ (k4 _ _ (fin (false) _ _ qp (qd hdf) (g4) (hr)))
        | false =>
        rw [if_neg Bool.false_ne_true] at hr
        obtain ⟨hx0, hxn⟩ := hxb rfl
        refine qX t40 ?_
        refine R1.s_skip ?_
        refine qG (qA E2_P (qA t4 (qA t7 (qA hnt (qA rx (qA n4 (qA rs (qA o1 (qA fd_rule_0 (qA ld_int (qA el_bools (qA sz_bool (qA (ixI hx0 hxn) (qA Nat.mul_one (qA (fits hT.1 hx0 hxn) (put hT.1 hx0 hxn)))))))))))))))) fun K hK => ?_
        refine hK _ _ ?_
        clear hK K
        have hT := hT.set hx0 hxn
        generalize bs.set x.1.toNat true = bs at hT ⊢
        have g5 : Gr H (H4.mod (N + 1) (.arr (bs.map AC.b) 4 0 0)) := g4.mod _ (.inl (by omega))
        have r1 : (H4.mod (N + 1) (.arr (bs.map AC.b) 4 0 0)).get N = _ := (get_modN (by omega)).trans r1
        have rx : (H4.mod (N + 1) (.arr (bs.map AC.b) 4 0 0)).get M = _ := (get_modN (by omega)).trans rx
        have rp : (H4.mod (N + 1) (.arr (bs.map AC.b) 4 0 0)).get (N + 2) = _ := (get_modN (by omega)).trans rp
        have rs : (H4.mod (N + 1) (.arr (bs.map AC.b) 4 0 0)).get (N + 1) = _ := get_modE rfl
        have n5 : M < (H4.mod (N + 1) (.arr (bs.map AC.b) 4 0 0)).nx := n4
        generalize (H4.mod (N + 1) (.arr (bs.map AC.b) 4 0 0)) = H5 at g5 r1 rx rp rs n5 ⊢
        clear g4 n4 m1 o1 o2
        have hu5 := hu.gr g5
        refine qG (qA E2_P (qA t7 (qA hnt (qA rx (qA n5 (qA fd_rule_1 (qA ld_ints (qA ln_ints (qA hu5.len hu5.lt))))))))) fun K hK => ?_
        refine hK _ _ ?_
        clear hK K
        refine R1.e_block fun K p1 p2 p3 p4 => ?_
        refine R1.loop (fun m A H6 => ∃ (j : Nat) (ps : List Bool), m = x.2.length - j ∧ j ≤ x.2.length ∧ Gr H H6 ∧ M < H6.nx ∧ H6.get N = some (.arr [a, .o (.sl id g off lr.length 2)] 42 0 0) ∧ H6.get (N + 1) = some (.arr (bs.map AC.b) 4 0 0) ∧ H6.get (N + 2) = some (.arr (ps.map AC.b) 4 0 0) ∧ H6.get M = some (.arr [.i .i64 x.1, u] 92 0 0) ∧ Mk ps lc.length (S ++ x.2.take j) ∧ partsB lc x.1 (x.2.take j) (x.2.drop j) = b1 ∧
          slot A.tm 1 = .one ((.o (.ptr N 0 0 2))) ∧ slot A.tm 3 = .one (.i .i64 (lc.length : Int)) ∧ slot A.tm 4 = .one ((.o (.sl (N + 1) 0 0 lc.length 1))) ∧ slot A.tm 5 = .one ((.o (.sl (N + 2) 0 0 lc.length 1))) ∧ slot A.tm 7 = .one ((.o (.ptr M 0 0 2))) ∧ slot A.tm 19 = .one ((.o (.sl id g off lr.length 2))) ∧ slot A.tm 20 = .one (.i .i64 (lr.length : Int)) ∧ slot A.tm 21 = .one (.i .i64 (i : Int)) ∧ slot A.tm 46 = .one (u) ∧ slot A.tm 47 = .one (.i .i64 (x.2.length : Int)) ∧ slot A.tm 48 = .one (.i .i64 (j : Int)) ∧ A.nt = 111 ∧ A.dfr = []) ?_ x.2.length
          ⟨0, _, rfl, Nat.zero_le _, g5, n5, r1, rs, rp, rx, by rw [List.take_zero, List.append_nil]; exact hS, hb1, ?_⟩
        · clear t1 t3 t4 t5 t7 t19 t20 t21 t40 hnt hdf A hS r1 rs rp rx n5 hu5 g5 hb1
          rintro m A H6 ⟨j, ps, rfl, hj, g6, n6, r1, rs, rp, rx, hS, hb1, t1, t3, t4, t5, t7, t19, t20, t21, t46, t47, t48, hnt, hdf⟩
          have m1 : N < H6.nx := by omega
          have o2 : N + 2 < H6.nx := by omega
          refine qW (qA E2_P (qA t47 (qA t48 hnt))) ?_
          refine qE fun Kx Ky hx hy => ?_
          refine iteI (fun hc2 => hx ?_) (fun hc2 => hy ?_)
          · clear hx hy Kx Ky
            have hlj : j < x.2.length := by omega
            have hdj : x.2.drop j = x.2[j] :: x.2.drop (j + 1) := List.drop_eq_getElem_cons hlj
            have htj : x.2.take (j + 1) = x.2.take j ++ [x.2[j]] := List.take_succ_eq_append_getElem hlj
            have ej : x.2[j]? = some x.2[j] := List.getElem?_eq_getElem hlj
            generalize x.2[j] = m at hdj htj ej
            have hwj : IntKind.i64.wrap ((j : Int) + 1) = ((j + 1 : Nat) : Int) := by rw [wrapI (by omega) (by omega)]; omega
            have hu6 := hu.gr g6
            have ha6 := hA.gr g6
            obtain ⟨ui, ug, uo, uc, rfl, hui, hug, hut⟩ := hu6.open (by omega)
            have hm1 := hut j m ej
            rw [hdj, partsB] at hb1
            refine qV ?_
            refine R1.s_block fun K3 w1 w2 w3 w4 => ?_
            refine qG (qA E2_P (qA t46 (qA t48 (qA hnt (qA el_ints (qA ld_int (qA (ixC hlj) (qA hui (qA hug (qA hm1.1 hm1.2)))))))))) fun K hK => ?_
            refine hK _ _ ?_
            clear hK K
            refine R1.gen (fun A7 H7 => H7 = H6 ∧ slot A7.tm 1 = .one ((.o (.ptr N 0 0 2))) ∧ slot A7.tm 3 = .one (.i .i64 (lc.length : Int)) ∧ slot A7.tm 4 = .one ((.o (.sl (N + 1) 0 0 lc.length 1))) ∧ slot A7.tm 5 = .one ((.o (.sl (N + 2) 0 0 lc.length 1))) ∧ slot A7.tm 7 = .one ((.o (.ptr M 0 0 2))) ∧ slot A7.tm 8 = .one (.i .i64 (j : Int)) ∧ slot A7.tm 9 = .one (.i .i64 (m : Int)) ∧ slot A7.tm 19 = .one ((.o (.sl id g off lr.length 2))) ∧ slot A7.tm 20 = .one (.i .i64 (lr.length : Int)) ∧ slot A7.tm 21 = .one (.i .i64 (i : Int)) ∧ slot A7.tm 46 = .one ((.o (.sl ui ug uo x.2.length 1))) ∧ slot A7.tm 47 = .one (.i .i64 (x.2.length : Int)) ∧ slot A7.tm 48 = .one (.i .i64 (j : Int)) ∧ A7.nt = 111 ∧ A7.dfr = [])
              ⟨rfl, ?_⟩ ?_
            · repeat' (first | (simp only [slot_put, Nat.reduceEqDiff, reduceIte, putD_nt, putD_dfr, t1, t3, t4, t5, t7, t19, t20, t21, t46, t47, t48, hnt, hdf]; first | done | rfl) | refine ⟨?_, ?_⟩)
            clear t1 t3 t4 t5 t7 t19 t20 t21 t46 t47 t48 hnt hdf A
            rintro A H7 ⟨rfl, t1, t3, t4, t5, t7, t8, t9, t19, t20, t21, t46, t47, t48, hnt, hdf⟩
            generalize hb2 : partsB lc x.1 (x.2.take j ++ [m]) (x.2.drop (j + 1)) = b2 at hb1
            repeat refine R1.s_assoc ?_
            (first | refine R1.s_sq (by kernel_rfl) fun K hK => ?_ | refine R1.e_sq (by kernel_rfl) fun K hK => ?_)
            have rest2 : ∀ (b : Bool) (A8 : AAct), (b = false → 0 ≤ m ∧ m < lc.length) → (if b = true then false else b2) = b1 → slot A8.tm 1 = .one ((.o (.ptr N 0 0 2))) ∧ slot A8.tm 3 = .one (.i .i64 (lc.length : Int)) ∧ slot A8.tm 4 = .one ((.o (.sl (N + 1) 0 0 lc.length 1))) ∧ slot A8.tm 5 = .one ((.o (.sl (N + 2) 0 0 lc.length 1))) ∧ slot A8.tm 7 = .one ((.o (.ptr M 0 0 2))) ∧ slot A8.tm 9 = .one (.i .i64 (m : Int)) ∧ slot A8.tm 19 = .one ((.o (.sl id g off lr.length 2))) ∧ slot A8.tm 20 = .one (.i .i64 (lr.length : Int)) ∧ slot A8.tm 21 = .one (.i .i64 (i : Int)) ∧ slot A8.tm 46 = .one ((.o (.sl ui ug uo x.2.length 1))) ∧ slot A8.tm 47 = .one (.i .i64 (x.2.length : Int)) ∧ slot A8.tm 48 = .one (.i .i64 (j : Int)) ∧ slot A8.tm 89 = .one (.b b) ∧ A8.nt = 111 ∧ A8.dfr = [] → K A8 H7 := by
              clear hb1 t1 t3 t4 t5 t7 t8 t9 t19 t20 t21 t46 t47 t48 hnt hdf A
              rintro b A hmb hb1 ⟨t1, t3, t4, t5, t7, t9, t19, t20, t21, t46, t47, t48, t89, hnt, hdf⟩
              refine hK _ _ ?_
              clear hK K
              cases b with
              | true =>
                rw [if_pos rfl] at hb1
                rw [← hb1, if_pos rfl] at hr1
                rw [← hr1] at hr
                refine qX t89 ?_
                refine qW hnt ?_
                exact w4 _ _ (p4 _ _ (q4 _ _ (k4 _ _ (fin (false) _ _ qp (qd hdf) (g6) (hr)))))
              | false =>
              rw [if_neg Bool.false_ne_true, ← hb2, ← htj] at hb1
              obtain ⟨hm0, hmn⟩ := hmb rfl
              refine qX t89 ?_
              refine R1.s_skip ?_
              refine qG (qA E2_P (qA t5 (qA t9 (qA hnt (qA rp (qA o2 (qA el_bools (qA sz_bool (qA (ixI hm0 hmn) (qA Nat.mul_one (qA (fits hS.1 hm0 hmn) (put hS.1 hm0 hmn)))))))))))) fun K hK => ?_
              refine hK _ _ ?_
              clear hK K
              refine w1 _ _ ?_
              refine qW (qA hnt (qA t48 hwj)) ?_
              have hS := hS.set hm0 hmn
              rw [List.append_assoc, ← htj] at hS
              refine ⟨x.2.length - (j + 1), by omega, j + 1, ps.set m.toNat true, rfl, hlj, g6.mod _ (.inl (by omega)), n6, (get_modN (by omega)).trans r1, (get_modN (by omega)).trans rs, get_modE rfl, (get_modN (by omega)).trans rx, hS, hb1, ?_⟩
              repeat' (first | (simp only [slot_put, Nat.reduceEqDiff, reduceIte, putD_nt, putD_dfr, t1, t3, t4, t5, t7, t19, t20, t21, t46, t47, t48, hnt, hdf]; first | done | rfl) | refine ⟨?_, ?_⟩)
            clear hK
            by_cases c0 : m < 0
            · rw [if_pos c0] at hb1
              have c0 := eq_true c0
              refine qS (qA E2_P (qA t9 (qA hnt c0))) ?_
              refine rest2 true _ (fun h => by cases h) hb1 ?_
              repeat' (first | (simp only [slot_put, Nat.reduceEqDiff, reduceIte, putD_nt, putD_dfr, t1, t3, t4, t5, t7, t9, t19, t20, t21, t46, t47, t48, hnt, hdf]; first | done | rfl) | refine ⟨?_, ?_⟩)
            rw [if_neg c0] at hb1
            by_cases c1 : (lc.length : Int) ≤ m
            · rw [if_pos c1] at hb1
              have c0 := eq_false c0
              have c1 := eq_true c1
              refine qS (qA E2_P (qA t3 (qA t9 (qA hnt (qA c0 c1))))) ?_
              refine rest2 true _ (fun h => by cases h) hb1 ?_
              repeat' (first | (simp only [slot_put, Nat.reduceEqDiff, reduceIte, putD_nt, putD_dfr, t1, t3, t4, t5, t7, t9, t19, t20, t21, t46, t47, t48, hnt, hdf]; first | done | rfl) | refine ⟨?_, ?_⟩)
            rw [if_neg c1] at hb1
            have hm0 : 0 ≤ m := by omega
            have hmn : m < lc.length := by omega
            have c0 := eq_false c0
            have c1 := eq_false c1
            obtain ⟨ci, cg, co, cc, rfl, hci, hcg, hct⟩ := ha6.open (by omega)
            have em : lc[m.toNat]? = some lc[m.toNat] := List.getElem?_eq_getElem (by omega)
            have et : lc[x.1.toNat]? = some lc[x.1.toNat] := List.getElem?_eq_getElem (by omega)
            have lm : ladC lc m = lc[m.toNat].2.2.1 := by unfold ladC; rw [em]; rfl
            have lt : ladC lc x.1 = lc[x.1.toNat].2.2.1 := by unfold ladC; rw [et]; rfl
            rw [lm, lt] at hb1
            generalize lc[m.toNat] = ym at em hb1
            generalize lc[x.1.toNat] = yt at et hb1
            obtain ⟨_, _, hym⟩ := hct _ _ em
            obtain ⟨_, _, hyt⟩ := hct _ _ et
            have m2 : M < H7.nx := n6
            have last : ∀ (d : Bool), (if ym.2.2.1 ≠ yt.2.2.1 then false else b2) = b1 → lEq ym.2.2.1 yt.2.2.1 = d → (if (!d) = true then false else b2) = b1 := fun d h e => by
              rw [lEq_eq] at e
              cases d with
              | true => rw [if_neg (fun hn => hn (eq_of_beq e))] at h; exact h
              | false => rw [if_pos (ne_of_beq_false e)] at h; exact h
            generalize hle : lEq ym.2.2.1 yt.2.2.1 = d at last
            by_cases hj0 : j = 0
            · have cj : ((0 : Int) < (j : Int)) = False := eq_false (by omega)
              rw [hj0, List.take_zero, if_neg (by exact Bool.false_ne_true)] at hb1
              refine qS (qA E2_P (qA t1 (qA t3 (qA t7 (qA t8 (qA t9 (qA hnt (qA c0 (qA c1 (qA cj (qA r1 (qA m1 (qA rx (qA m2 (qA fd_puzzle_0 (qA ld_cells (qA el_cells (qA fd_cell_2 (qA ld_str (qA fd_rule_0 (qA ld_int (qA (ixI hm0 hmn) (qA (ixI hx0 hxn) (qA hci (qA hcg (qA hym.f3 (qA hym.le3 (qA hyt.f3 (qA hyt.le3 hle))))))))))))))))))))))))))))) ?_
              refine rest2 (!d) _ (fun _ => ⟨hm0, hmn⟩) (last d hb1 rfl) ?_
              repeat' (first | (simp only [slot_put, Nat.reduceEqDiff, reduceIte, putD_nt, putD_dfr, t1, t3, t4, t5, t7, t9, t19, t20, t21, t46, t47, t48, hnt, hdf]; first | done | rfl) | refine ⟨?_, ?_⟩)
            · have cj : ((0 : Int) < (j : Int)) = True := eq_true (by omega)
              have hlt3 : j - 1 < x.2.length := by omega
              have ey : x.2[j - 1]? = some x.2[j - 1] := List.getElem?_eq_getElem hlt3
              have hpp := fun z => prevI_take (x := z) (by omega) ey
              generalize x.2[j - 1] = y at ey hpp
              have hy1 := hut (j - 1) y ey
              have hw3 : IntKind.i64.wrap ((j : Int) - 1) = ((j - 1 : Nat) : Int) := by rw [wrapI (by omega) (by omega)]; omega
              rw [hpp m] at hb1
              by_cases c2 : m ≤ y
              · rw [if_pos (decide_eq_true c2)] at hb1
                have c2 := eq_true c2
                refine qS (qA E2_P (qA t3 (qA t7 (qA t8 (qA t9 (qA hnt (qA c0 (qA c1 (qA cj (qA c2 (qA hw3 (qA rx (qA m2 (qA fd_rule_1 (qA ld_ints (qA el_ints (qA ld_int (qA (ixC hlt3) (qA hui (qA hug (qA hy1.1 hy1.2))))))))))))))))))))) ?_
                refine rest2 true _ (fun h => by cases h) hb1 ?_
                repeat' (first | (simp only [slot_put, Nat.reduceEqDiff, reduceIte, putD_nt, putD_dfr, t1, t3, t4, t5, t7, t9, t19, t20, t21, t46, t47, t48, hnt, hdf]; first | done | rfl) | refine ⟨?_, ?_⟩)
              · rw [if_neg (by rw [decide_eq_true_eq]; exact c2)] at hb1
                have c2 := eq_false c2
                refine qS (qA E2_P (qA t1 (qA t3 (qA t7 (qA t8 (qA t9 (qA hnt (qA c0 (qA c1 (qA cj (qA c2 (qA hw3 (qA r1 (qA m1 (qA rx (qA m2 (qA fd_puzzle_0 (qA ld_cells (qA el_cells (qA fd_cell_2 (qA ld_str (qA fd_rule_0 (qA fd_rule_1 (qA ld_ints (qA el_ints (qA ld_int (qA (ixC hlt3) (qA hui (qA hug (qA hy1.1 (qA hy1.2 (qA (ixI hm0 hmn) (qA (ixI hx0 hxn) (qA hci (qA hcg (qA hym.f3 (qA hym.le3 (qA hyt.f3 (qA hyt.le3 hle))))))))))))))))))))))))))))))))))))))) ?_
                refine rest2 (!d) _ (fun _ => ⟨hm0, hmn⟩) (last d hb1 rfl) ?_
                repeat' (first | (simp only [slot_put, Nat.reduceEqDiff, reduceIte, putD_nt, putD_dfr, t1, t3, t4, t5, t7, t9, t19, t20, t21, t46, t47, t48, hnt, hdf]; first | done | rfl) | refine ⟨?_, ?_⟩)
          · clear hx hy Kx Ky
            have hje : j = x.2.length := by omega
            rw [hje, List.drop_length, partsB] at hb1
            rw [hje, List.take_length] at hS
            rw [← hb1, if_neg (by decide)] at hr1
            rw [← hr1] at hr
            refine qW hnt ?_
            refine p2 _ _ (q1 _ _ ?_)
            refine qW (qA hnt (qA t21 hw2)) ?_
            refine ⟨lr.length - (i + 1), by omega, i + 1, T ++ [x.1], S ++ x.2, bs, ps, rfl, hlt, g6, by omega, r1, rs, rp, hT, hS, hr, ?_⟩
            repeat' (first | (simp only [slot_put, Nat.reduceEqDiff, reduceIte, putD_nt, putD_dfr, t1, t3, t4, t5, t19, t20, t21, hnt, hdf]; first | done | rfl) | refine ⟨?_, ?_⟩)
        · repeat' (first | (simp only [slot_put, Nat.reduceEqDiff, reduceIte, putD_nt, putD_dfr, t1, t3, t4, t5, t7, t19, t20, t21, hnt, hdf]; first | done | rfl) | refine ⟨?_, ?_⟩)
      clear hK
      by_cases c0 : x.1 < 0
      · rw [if_pos c0] at hr
        have c0 := eq_true c0
        refine qS (qA E2_P (qA t7 (qA hnt (qA rx (qA n4 (qA fd_rule_0 (qA ld_int c0))))))) ?_
        refine rest true _ (fun h => by cases h) hr ?_
        repeat' (first | (simp only [slot_put, Nat.reduceEqDiff, reduceIte, putD_nt, putD_dfr, t1, t3, t4, t5, t7, t19, t20, t21, hnt, hdf]; first | done | rfl) | refine ⟨?_, ?_⟩)
      rw [if_neg c0] at hr
      by_cases c1 : (lc.length : Int) ≤ x.1
      · rw [if_pos c1] at hr
        have c0 := eq_false c0
        have c1 := eq_true c1
        refine qS (qA E2_P (qA t3 (qA t7 (qA hnt (qA rx (qA n4 (qA fd_rule_0 (qA ld_int (qA c0 c1))))))))) ?_
        refine rest true _ (fun h => by cases h) hr ?_
        repeat' (first | (simp only [slot_put, Nat.reduceEqDiff, reduceIte, putD_nt, putD_dfr, t1, t3, t4, t5, t7, t19, t20, t21, hnt, hdf]; first | done | rfl) | refine ⟨?_, ?_⟩)
      rw [if_neg c1] at hr
      have hx0 : 0 ≤ x.1 := by omega
      have hxn : x.1 < lc.length := by omega
      have c0 := eq_false c0
      have c1 := eq_false c1
      refine qS (qA E2_P (qA t3 (qA t4 (qA t7 (qA hnt (qA rx (qA n4 (qA rs (qA o1 (qA fd_rule_0 (qA ld_int (qA ld_bool (qA c0 (qA c1 (qA el_bools (qA (ixI hx0 hxn) (qA Nat.mul_one (qA (fits hT.1 hx0 hxn) (qA headD_b (hT.at hx0 hxn)))))))))))))))))))) ?_
      refine rest (T.any fun y => y == x.1) _ (fun _ => ⟨hx0, hxn⟩) hr ?_
      repeat' (first | (simp only [slot_put, Nat.reduceEqDiff, reduceIte, putD_nt, putD_dfr, t1, t3, t4, t5, t7, t19, t20, t21, hnt, hdf]; first | done | rfl) | refine ⟨?_, ?_⟩)
    · clear hx hy Kx Ky
      have hie : i = lr.length := by omega
      rw [hie, List.drop_length, goR] at hr
      have bad : ∀ j : Nat, j < lc.length → ((T.any fun x => x == (j : Int)) && S.any fun x => x == (j : Int)) = true → false = r0 := fun j hj h => by
        rw [← hr]
        exact (List.all_eq_false.2 ⟨j, List.mem_range.2 hj, by rw [h]; decide⟩).symm
      have good : (∀ j : Nat, j < lc.length → ((T.any fun x => x == (j : Int)) && S.any fun x => x == (j : Int)) = false) → true = r0 := fun h => by
        rw [← hr]
        exact (List.all_eq_true.2 fun j hj => by rw [h j (List.mem_range.1 hj)]; rfl).symm
      clear hr
      refine qW hnt ?_
      refine k2 _ _ ?_
      clear k1 k2 k3 k4 K
      refine qW (qA E2_P (qA t4 (qA hnt (qA ln_bools o1)))) ?_
      refine R1.s_block fun K k1 k2 k3 k4 => ?_
      refine R1.loop (fun m A H4 => ∃ j : Nat, m = lc.length - j ∧ j ≤ lc.length ∧ H4 = H3 ∧ (∀ j' : Nat, j' < j → ((T.any fun x => x == (j' : Int)) && S.any fun x => x == (j' : Int)) = false) ∧ slot A.tm 4 = .one ((.o (.sl (N + 1) 0 0 lc.length 1))) ∧ slot A.tm 5 = .one ((.o (.sl (N + 2) 0 0 lc.length 1))) ∧ slot A.tm 96 = .one (.i .i64 (lc.length : Int)) ∧ slot A.tm 97 = .one (.i .i64 (j : Int)) ∧ A.nt = 111 ∧ A.dfr = []) ?_ lc.length
        ⟨0, rfl, Nat.zero_le _, rfl, fun j' h => absurd h (Nat.not_lt_zero _), ?_⟩
      · clear t1 t3 t4 t5 t19 t20 t21 hnt hdf A
        rintro m A H4 ⟨j, rfl, hj, rfl, hall, t4, t5, t96, t97, hnt, hdf⟩
        refine qW (qA E2_P (qA t96 (qA t97 hnt))) ?_
        refine qE fun Kx Ky hx hy => ?_
        refine iteI (fun hc => hx ?_) (fun hc => hy ?_)
        · clear hx hy Kx Ky
          have hlj : j < lc.length := by omega
          have hwj : IntKind.i64.wrap ((j : Int) + 1) = ((j + 1 : Nat) : Int) := by rw [wrapI (by omega) (by omega)]; omega
          have hf1 : j + 1 ≤ (bs.map AC.b).length := by rw [List.length_map, hT.1]; exact hlj
          have hf2 : j + 1 ≤ (ps.map AC.b).length := by rw [List.length_map, hS.1]; exact hlj
          have e1 := hT.2 j hlj
          have e2 := hS.2 j hlj
          have hb0 := bad j hlj
          have hg0 : ((T.any fun x => x == (j : Int)) && S.any fun x => x == (j : Int)) = false → ∀ j' : Nat, j' < j + 1 → ((T.any fun x => x == (j' : Int)) && S.any fun x => x == (j' : Int)) = false := fun h j' hj' => by
            rcases Nat.lt_or_eq_of_le (Nat.le_of_lt_succ hj') with h' | h'
            · exact hall j' h'
            · rw [h']; exact h
          generalize (T.any fun x => x == (j : Int)) = d1 at e1 hb0 hg0
          generalize (S.any fun x => x == (j : Int)) = d2 at e2 hb0 hg0
          refine qV ?_
          refine R1.s_block fun K2 q1 q2 q3 q4 => ?_
          refine qW (qA E2_P (qA t97 hnt)) ?_
          cases d1 with
          | false =>
            refine qG (qA E2_P (qA t4 (qA t97 (qA hnt (qA rs (qA o1 (qA el_bools (qA ld_bool (qA (ixC hlj) (qA Nat.mul_one (qA hf1 (qA headD_b e1)))))))))))) fun K hK => ?_
            refine hK _ _ ?_
            clear hK K
            refine qY ?_
            refine qW hnt ?_
            refine q1 _ _ ?_
            refine qW (qA hnt (qA t97 hwj)) ?_
            refine ⟨lc.length - (j + 1), by omega, j + 1, rfl, hlj, rfl, hg0 rfl, ?_⟩
            repeat' (first | (simp only [slot_put, Nat.reduceEqDiff, reduceIte, putD_nt, putD_dfr, t4, t5, t96, t97, hnt, hdf]; first | done | rfl) | refine ⟨?_, ?_⟩)
          | true =>
            refine qG (qA E2_P (qA t4 (qA t5 (qA t97 (qA hnt (qA rs (qA o1 (qA rp (qA o2 (qA el_bools (qA ld_bool (qA (ixC hlj) (qA Nat.mul_one (qA hf1 (qA hf2 (qA headD_b (qA e1 e2))))))))))))))))) fun K hK => ?_
            refine hK _ _ ?_
            clear hK K
            cases d2 with
            | true =>
              refine qY ?_
              refine qW hnt ?_
              exact q4 _ _ (k4 _ _ (fin (false) _ _ qp (qd hdf) (g3) (hb0 rfl)))
            | false =>
              refine qY ?_
              refine qW hnt ?_
              refine q1 _ _ ?_
              refine qW (qA hnt (qA t97 hwj)) ?_
              refine ⟨lc.length - (j + 1), by omega, j + 1, rfl, hlj, rfl, hg0 rfl, ?_⟩
              repeat' (first | (simp only [slot_put, Nat.reduceEqDiff, reduceIte, putD_nt, putD_dfr, t4, t5, t96, t97, hnt, hdf]; first | done | rfl) | refine ⟨?_, ?_⟩)
        · clear hx hy Kx Ky
          have hje : j = lc.length := by omega
          rw [hje] at hall
          refine qW hnt ?_
          refine k2 _ _ ?_
          refine qW hnt ?_
          exact fin (true) _ _ qp (qd hdf) (g3) (good hall)
      · repeat' (first | (simp only [slot_put, Nat.reduceEqDiff, reduceIte, putD_nt, putD_dfr, t4, t5, hnt, hdf]; first | done | rfl) | refine ⟨?_, ?_⟩)
  · repeat' (first | (simp only [slot_put, Nat.reduceEqDiff, reduceIte, putD_nt, putD_dfr, t1, t3, t4, t5, hnt, hdf]; first | done | rfl) | refine ⟨?_, ?_⟩)
end Go.Proofs.YtiejeicaaojdlaaGreat
