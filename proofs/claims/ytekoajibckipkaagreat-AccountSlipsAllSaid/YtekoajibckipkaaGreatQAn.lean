/- A part of the proof: BkSp8, BkAl1, BkLArg, BkAlEnd, BkAlHold. No conditions. -/
import Derived.Test.YtekoajibckipkaaGreatQAm
namespace Go.Proofs.YtekoajibckipkaaGreat
open Go Go.Eng
theorem bd_rSlipsP : hasBody Tryz.prog 33 = true := by kernel_rfl
theorem bd_rCheck' : hasBody Tryz.prog 74 = true := by kernel_rfl
theorem bd_sameLad : hasBody Tryz.prog 34 = true := by kernel_rfl
theorem bd_copyLad' : hasBody Tryz.prog 31 = true := by kernel_rfl
set_option maxRecDepth 10000 in
set_option maxHeartbeats 16000000 in
theorem rSlipsP_con (H : Hp) (nm : List UInt8) (u : AC) (us : List Pr) (n : Int) (hu : SlP H u us) :
    Con E2 33 [.agg [.o (.str nm), u], .one (.i .i64 n)] H (fun _ => False) fun r H' => ∃ c out, r = .tup [(false, [c]), (false, [.i .i64 (slpE nm us n)])] ∧ SlSp H' c out ∧ out.length ≤ 48 ∧ (slpE nm us n ≠ 0 → out = []) ∧ (slpE nm us n = 0 → ChoN nm us n (meantL (splitA us n) ((valsU 1 us).getD []) n us.length) out ∧
      ∀ m ∈ meantL (splitA us n) ((valsU 1 us).getD []) n us.length, goodM nm us n m → beyB out m = false) := by
  refine Con.of rfl fun lg => ?_
  have hu : SlP ⟨H.t, H.nx, lg⟩ u us := hu
  generalize (⟨H.t, H.nx, lg⟩ : Hp) = H at hu ⊢
  refine C1.body (E := E2) (nt := 21) (res := [.tmp 4, .tmp 5]) Tryz.func33 rfl rfl rfl rfl rfl fun tm hargs => ?_
  have h0 := hargs 0 _ rfl
  have h1 := hargs 1 _ rfl
  clear hargs
  have bad : ∀ (e : Int) (A : AAct) (H3 : Hp), slot A.tm 4 = .one (.o .nilS) → slot A.tm 5 = .one (.i .i64 e) → A.dfr = [] → Gr H H3 → e = slpE nm us n → e ≠ 0 → ∃ w H4, callEnd E2 [.tmp 4, .tmp 5] (.ret, A, H3) = .ok [(w, H4)] ∧ Gr H H4 ∧ ∀ lg' : List Nat, ∃ c out, w = .tup [(false, [c]), (false, [.i .i64 (slpE nm us n)])] ∧ SlSp ⟨H4.t, H4.nx, lg'⟩ c out ∧ out.length ≤ 48 ∧ (slpE nm us n ≠ 0 → out = []) ∧ (slpE nm us n = 0 → ChoN nm us n (meantL (splitA us n) ((valsU 1 us).getD []) n us.length) out ∧
      ∀ m ∈ meantL (splitA us n) ((valsU 1 us).getD []) n us.length, goodM nm us n m → beyB out m = false) := fun e A H3 h1 h2 hd hg he hn =>
    ⟨_, H3, callEnd_two (.o .nilS) (.i .i64 e) (.inr rfl) hd h1 h2, hg, fun _ => ⟨.o .nilS, [], by rw [he], SlSp.nil, Nat.zero_le _, fun _ => rfl, fun h => absurd (he.trans h) hn⟩⟩
  have hlu := hu.lt
  refine zG tyS fun K hK => ?_
  refine hK.out _ _ ?_
  refine R1.gen (fun A1 H1 => Gr H H1 ∧ H.nx < H1.nx ∧ H1.get H.nx = some (.arr [.o (.str nm), u] 68 0 0) ∧ slot A1.tm 1 = .one (.i .i64 (n : Int)) ∧ slot A1.tm 2 = .one ((.o (.ptr H.nx 0 0 2))) ∧ A1.nt = 21 ∧ A1.dfr = [])
    ⟨(Fr.refl _).new _, Nat.lt_succ_self _, get_newE rfl, zL⟩ ?_
  clear h0 h1 tm hK K hlu
  rintro A1 H1 ⟨g1, m1, rx, t1, t2, hnt, hdf⟩
  obtain ⟨N, hN⟩ : ∃ N, N = H.nx := ⟨_, rfl⟩
  rw [← hN] at m1 rx t2
  clear hN
  have hu := hu.gr g1
  refine zG (qA tyS bd_rCheck') fun K hK => ?_
  refine WE.con (refCheck_con H1 nm u us hu) fun w H2 g2 hq => ?_
  subst hq
  have rx := (g2.get _ m1 not_false).trans rx
  have m1 := Nat.lt_of_lt_of_le m1 g2.nx
  have hu := hu.gr g2
  have g2 := g1.gr g2
  clear g1
  by_cases hck : chkLad nm us = 0
  case neg =>
    have ce : (chkLad nm us == 0) = false := beq_false_of_ne hck
    have he : chkLad nm us = slpE nm us n := by unfold slpE; rw [if_pos hck]
    generalize chkLad nm us = e0 at ce he hck ⊢
    replace he : Hd _ := he
    replace hck : Hd _ := hck
    refine zK tyS ?_
    exact bad e0 _ _ qp qp qe g2 he.out hck.out
  have ce : (chkLad nm us == 0) = true := beq_iff_eq.2 hck
  by_cases q1 : n < 1
  · have he : 8 = slpE nm us n := by unfold slpE; rw [if_neg (fun h => h hck), if_pos (.inl q1)]
    replace he : Hd _ := he
    replace hck : Hd _ := hck
    refine zK tyS ?_
    exact bad 8 _ _ qp qp qe g2 he.out (by decide)
  by_cases q2 : 1099511627776 < n
  · have he : 8 = slpE nm us n := by unfold slpE; rw [if_neg (fun h => h hck), if_pos (.inr q2)]
    replace he : Hd _ := he
    replace hck : Hd _ := hck
    refine zK tyS ?_
    exact bad 8 _ _ qp qp qe g2 he.out (by decide)
  have he : slpE nm us n = 0 := by unfold slpE; rw [if_neg (fun h => h hck), if_neg (fun h => h.elim q1 q2)]
  have hcon := rSlipsL_con H2 nm u us n hu hck (by omega) (by omega)
  clear bad
  replace he : Hd _ := he
  replace hck : Hd _ := hck
  replace hcon : Hd (Con E2 _ _ _ _ _) := hcon
  refine zK tyS ?_
  refine zG (qA tyS bd_rSlipsL) fun K hK => ?_
  refine WE.con hcon.out fun w H3 g3 ⟨c, out, hq, hso, hle, hch, hno⟩ => ?_
  subst hq
  clear hcon
  replace hso : Hd _ := hso
  replace hle : Hd _ := hle
  replace hch : Hd _ := hch
  replace hno : Hd _ := hno
  refine zK tyS ?_
  exact ⟨_, _, callEnd_two c (.i .i64 0) (.inr rfl) qe qp qp, g2.gr g3, fun _ => ⟨c, out, by rw [he.out], hso.out, hle.out, fun h => absurd he.out h, fun _ => ⟨hch.out, hno.out⟩⟩⟩
theorem neU : ∀ (tm : PT AV) (H : Hp) (d : Option Tmp) (c : TypeId) (x y : Operand) (ty : TypeId) (pos : String) (af : Array Edge) (g : Option (Nat × Bool)), plainOp Tryz.prog tm H ⟨d, .binOp .neq 137 x y c, ty, pos, af, g⟩ = agg2 [.s, .i] (!·) H (plainAlt Tryz.prog tm H ⟨d, .binOp .neq 137 x y c, ty, pos, af, g⟩) (ev tm x) (ev tm y) := fun _ _ _ _ _ _ _ _ _ _ => plain_neq eq_unit
theorem neS : ∀ (tm : PT AV) (H : Hp) (d : Option Tmp) (c : TypeId) (x y : Operand) (ty : TypeId) (pos : String) (af : Array Edge) (g : Option (Nat × Bool)), plainOp Tryz.prog tm H ⟨d, .binOp .neq 75 x y c, ty, pos, af, g⟩ = agg2 [.i, .s, .i] (!·) H (plainAlt Tryz.prog tm H ⟨d, .binOp .neq 75 x y c, ty, pos, af, g⟩) (ev tm x) (ev tm y) := fun _ _ _ _ _ _ _ _ _ _ => plain_neq eq_slip
set_option maxRecDepth 10000 in
set_option maxHeartbeats 16000000 in
theorem sameLad_con (H : Hp) (nm : List UInt8) (u w : AC) (us : List Pr) (hu : SlP H u us) (hw : SlP H w us) (hL : us.length ≤ 4611686018427387904) :
    Con E2 34 [.agg [.o (.str nm), u], .agg [.o (.str nm), w]] H (fun _ => False) fun r _ => r = .one (.b true) := by
  refine Con.of rfl fun lg => ?_
  have hu : SlP ⟨H.t, H.nx, lg⟩ u us := hu
  have hw : SlP ⟨H.t, H.nx, lg⟩ w us := hw
  generalize (⟨H.t, H.nx, lg⟩ : Hp) = H at hu hw ⊢
  refine C1.body (E := E2) (nt := 38) (res := [.tmp 4]) Tryz.func34 rfl rfl rfl rfl rfl fun tm hargs => ?_
  have h0 := hargs 0 _ rfl
  have h1 := hargs 1 _ rfl
  clear hargs
  have lu := hu.lt
  have lw := hw.lt
  refine zG tyS fun K hK => ?_
  refine hK.out _ _ ?_
  refine R1.gen (fun A1 H1 => Gr H H1 ∧ H.nx + 1 < H1.nx ∧ H1.get H.nx = some (.arr [.o (.str nm), u] 68 0 0) ∧ H1.get (H.nx + 1) = some (.arr [.o (.str nm), w] 68 0 0) ∧ slot A1.tm 2 = .one ((.o (.ptr H.nx 0 0 2))) ∧ slot A1.tm 3 = .one ((.o (.ptr (H.nx + 1) 0 0 2))) ∧ A1.nt = 38 ∧ A1.dfr = [])
    ⟨((Fr.refl _).new _).new _, by show H.nx + 1 < H.nx + 1 + 1; omega, by rw [get_newL (by show H.nx < H.nx + 1; omega)]; exact get_newE rfl, get_newE rfl, zL⟩ ?_
  clear h0 h1 tm hK K lu lw
  rintro A1 H1 ⟨g1, n1, ra, rb, t2, t3, hnt, hdf⟩
  obtain ⟨N, hN⟩ : ∃ N, N = H.nx := ⟨_, rfl⟩
  rw [← hN] at n1 ra rb t2 t3
  clear hN
  have n0 : N < H1.nx := by omega
  have hu := hu.gr g1
  have hw := hw.gr g1
  have es : lEq nm nm = true := lEq_self nm
  have hbe : ∀ x : Int, (x == x) = true := fun x => by simp
  have l1 := hu.len
  have l2 := hw.len
  have l3 := hu.lt
  have l4 := hw.lt
  refine zW tyS ?_
  refine R1.s_bl fun K k1 k2 k3 k4 => ?_
  refine R1.loop (fun z A H2 => ∃ i : Nat, z = us.length - i ∧ i ≤ us.length ∧ H2 = H1 ∧ slot A.tm 2 = .one ((.o (.ptr N 0 0 2))) ∧ slot A.tm 3 = .one ((.o (.ptr (N + 1) 0 0 2))) ∧ slot A.tm 5 = .one (.i .i64 (i : Int)) ∧ A.nt = 38 ∧ A.dfr = []) ?_ us.length ⟨0, rfl, Nat.zero_le _, rfl, zL⟩
  clear t2 t3 hnt hdf A1 k3
  rintro z A H2 ⟨i, rfl, hi, rfl, t2, t3, t5, hnt, hdf⟩
  refine zW tyS ?_
  refine zI tyS (fun hc => ?_) (fun hc => ?_)
  · have hlt : i < us.length := by omega
    have ex : us[i]? = some us[i] := List.getElem?_eq_getElem hlt
    have hdr : us.drop i = us[i] :: us.drop (i + 1) := List.drop_eq_getElem_cons hlt
    have htk : us.take (i + 1) = us.take i ++ [us[i]] := List.take_succ_eq_append_getElem hlt
    have hmem : us[i] ∈ us := List.getElem_mem hlt
    generalize us[i] = x at ex hdr htk hmem
    have hw2 : IntKind.i64.wrap ((i : Int) + 1) = ((i + 1 : Nat) : Int) := by rw [wrapI (by omega) (by omega)]; omega
    obtain ⟨id, g, off, cells, rfl, hid, hgr, hat⟩ := hu.open (by omega)
    obtain ⟨id', g', off', cells', rfl, hid', hgr', hat'⟩ := hw.open (by omega)
    have hx1 := hat i x ex
    have hx2 := hat' i x ex
    obtain ⟨x1, x2⟩ := x
    have y1 : (cells.drop (off + i * 2)).take 2 = [.o (.str x1), .i .i64 x2] := hx1.all
    have y2 : (cells'.drop (off' + i * 2)).take 2 = [.o (.str x1), .i .i64 x2] := hx2.all
    have y3 := hx1.le
    have y4 := hx2.le
    have ex2 : (x1 == x1) = true := beq_self_eq_true x1
    have ex3 : (true && true) = true := rfl
    clear hx1 hx2 hat hat' hdr htk hmem
    replace ex : Hd _ := ex
    refine zW tyS ?_
    refine R1.s_bl fun K2 q1 q2 q3 q4 => ?_
    refine zW (qA tyS (qA (ixC hlt) neU)) ?_
    refine q1.out _ _ ?_
    refine zW tyS ?_
    exact ⟨us.length - (i + 1), by omega, i + 1, rfl, hlt, rfl, zL⟩
  · refine zW tyS ?_
    refine k2.out _ _ ?_
    refine zW tyS ?_
    exact ⟨_, _, callEnd_one (.b true) (.inr rfl) qe qp, g1, fun _ => rfl⟩
set_option maxRecDepth 10000 in
theorem copyLad2_con (H : Hp) (n : List UInt8) (u : AC) (us : List Pr) (hu : SlP H u us) (hL : us.length * 24 ≤ 140737488355328) :
    Con E2 31 [.agg [.o (.str n), u]] H (fun _ => False) fun r H' => ∃ u', r = .agg [.o (.str n), u'] ∧ SlP H' u' us ∧ ∀ id ∈ (AV.one u').ids, H.nx ≤ id := by
  refine Con.of rfl fun lg => ?_
  have hu : SlP ⟨H.t, H.nx, lg⟩ u us := hu
  have e0 : H.nx = (⟨H.t, H.nx, lg⟩ : Hp).nx := rfl
  rw [e0]
  clear e0
  generalize (⟨H.t, H.nx, lg⟩ : Hp) = H at hu ⊢
  refine C1.body (E := E2) (nt := 11) (res := [.cell 2 68]) Tryz.func31 rfl rfl rfl rfl rfl fun tm hargs => ?_
  have h0 := hargs 0 _ rfl
  clear hargs
  refine qG (qA E2_P (qA h0 zr_lad)) fun K hK => ?_
  refine hK _ _ ?_
  clear hK K
  refine R1.gen (fun A1 H1 => Gr H H1 ∧ H.nx + 1 < H1.nx ∧ H1.get H.nx = some (.arr [.o (.str n), u] 68 0 0) ∧ H1.get (H.nx + 1) = some (.arr [.o (.str []), .o .nilS] 68 0 0) ∧ slot A1.tm 1 = .one (.o (.ptr H.nx 0 0 2)) ∧ slot A1.tm 2 = .one (.o (.ptr (H.nx + 1) 0 0 2)) ∧ A1.nt = 11 ∧ A1.dfr = [])
    ⟨((Fr.refl _).new _).new _, ?_⟩ ?_
  · exact qU
  rintro A1 H1 ⟨g1, n1, r1, r2, t1, t2, hnt, hdf⟩
  clear h0 tm
  have hu1 : SlP H1 u us := hu.gr g1
  have l1 : H.nx < H1.nx := by omega
  have hlu : ∀ id ∈ (AV.one u).ids, id < H1.nx := hu1.lt
  obtain ⟨z, hz, hzl⟩ := zx_unit
  refine qG (qA E2_P hnt) fun K hK => ?_
  refine hK _ _ ?_
  clear hK K
  repeat refine R1.s_assoc ?_
  (first | refine R1.s_drw (ms := [0, 1, 0, 0, 8, 28, 63, 127]) (by kernel_rfl) (by kernel_rfl) fun K hK => ?_ | refine R1.e_drw (ms := [0, 1, 0, 0, 8, 28, 63, 127]) (by kernel_rfl) (by kernel_rfl) fun K hK => ?_)
  simp (config := {decide := true}) only [qB, slotOk, Nat.reduceLT, Nat.reduceLeDiff, Nat.reduceAdd, Nat.reduceSub, qD, Untou, unordS, E2_P, t1, hnt, r1, l1, fd_lad_0, fd_lad_1, ld_str, ld_units]
  refine AP_nil el_units by_unit hz hzl (by decide) hu1 (by omega) (fun id h => by have := hlu id h; simp (config := {decide := true}) [unordS, Untou] <;> omega) fun v c1 H2 hv hvn g2 hc => ?_
  subst hc
  have r2 : H2.get (H.nx + 1) = some (.arr [.o (.str []), .o .nilS] 68 0 0) := by rw [g2.get _ n1 not_false]; exact r2
  have n2 : H.nx + 1 < H2.nx := Nat.lt_of_lt_of_le n1 g2.nx
  simp (config := {decide := true}) only [qB, Nat.reduceLeDiff, Nat.reduceAdd, qD, Untou, Unseen, unordS, t2, hnt, st_bu zr_lad pt_lad, pl_lad_0, pl_lad_1, sz_lad, r2, n2]
  refine hK _ _ ?_
  clear hK K
  refine qV ?_
  have hv3 : SlP (H2.mod (H.nx + 1) (.arr [.o (.str n), v] 68 0 0)) v us := SlC.fr hv (X := fun k => k = H.nx + 1) ((Fr.refl _).mod _ (.inr rfl)) fun id h hh => by have := hvn id h; omega
  exact ⟨_, _, callEnd_cells (id := H.nx + 1) (g := 0) ld_lad (.inr rfl) (by simp only [putD_dfr, hdf]; rfl) (by simp only [slot_put, Nat.reduceEqDiff, reduceIte, t2]) (by rw [get_modE rfl]; exact rowOf_arr (Nat.le_refl _) (Nat.le_refl _)) (Nat.le_refl _) rfl, (g1.gr g2).mod _ (.inl (Nat.le_succ _)), fun _ => ⟨v, rfl, hv3, fun id h => by have := hvn id h; omega⟩⟩
end Go.Proofs.YtekoajibckipkaaGreat
namespace Go.Proofs.YtekoajibckipkaaGreat
open Go Go.Eng
theorem both_one {nm : List UInt8} {us : List Pr} {n : Int} {o1 o2 : List Sp} (h1 : slpE nm us n ≠ 0 → o1 = [])
    (h2 : slpE nm us n = 0 → chkLad nm us = 0 ∧ 1 ≤ n ∧ n ≤ 1099511627776 ∧ o1.Perm (slipsL us (splitA us n) (valsS nm us) n) ∧ List.Pairwise (fun x y : Sp => ¬ y.2.2 < x.2.2) o1 ∧ o1.length ≤ 48)
    (h3 : slpE nm us n ≠ 0 → o2 = []) (h4 : slpE nm us n = 0 → ChoN nm us n (meantL (splitA us n) ((valsU 1 us).getD []) n us.length) o2 ∧ ∀ m ∈ meantL (splitA us n) ((valsU 1 us).getD []) n us.length, goodM nm us n m → beyB o2 m = false) : o1 = o2 := by
  by_cases he : slpE nm us n = 0
  · obtain ⟨a1, a2, a3, a4, a5, _⟩ := h2 he
    obtain ⟨b1, b2⟩ := h4 he
    exact slips_one a1 a2 a3 a4 a5 b1 b2
  · rw [h1 he, h3 he]
set_option maxRecDepth 10000 in
set_option maxHeartbeats 16000000 in
theorem allLaw_c1 (H : Hp) (nm : List UInt8) (u : AC) (us : List Pr) (n : Int) (hu : SlP H u us) (hL : us.length * 24 ≤ 140737488355328) :
    C1 E2 7 [.agg [.o (.str nm), u], .one (.i .i64 n)] H fun r _ => r = .one (.b true) := by
  refine C1.body (E := E2) (nt := 57) (res := [.tmp 4]) Tryz.func7 rfl rfl rfl rfl rfl fun tm hargs => ?_
  have h0 := hargs 0 _ rfl
  have h1 := hargs 1 _ rfl
  clear hargs
  have hlu := hu.lt
  refine zG tyS fun K hK => ?_
  refine hK.out _ _ ?_
  refine R1.gen (fun A1 H1 => Gr H H1 ∧ H.nx < H1.nx ∧ H1.get H.nx = some (.arr [.o (.str nm), u] 68 0 0) ∧ slot A1.tm 1 = .one (.i .i64 (n : Int)) ∧ slot A1.tm 2 = .one ((.o (.ptr H.nx 0 0 2))) ∧ A1.nt = 57 ∧ A1.dfr = [])
    ⟨(Fr.refl _).new _, Nat.lt_succ_self _, get_newE rfl, zL⟩ ?_
  clear h0 h1 tm hK K hlu
  rintro A1 H1 ⟨g1, m1, rx, t1, t2, hnt, hdf⟩
  obtain ⟨N, hN⟩ : ∃ N, N = H.nx := ⟨_, rfl⟩
  rw [← hN] at m1 rx t2
  clear hN
  have hu := hu.gr g1
  clear g1
  refine zG (qA tyS bd_copyLad') fun K hK => ?_
  refine WE.con (copyLad2_con H1 nm u us hu hL) fun w' H2 g2 ⟨u2, hq, hu2, _⟩ => ?_
  subst hq
  have rx := (g2.get _ m1 not_false).trans rx
  have m1 := Nat.lt_of_lt_of_le m1 g2.nx
  have hu := hu.gr g2
  clear g2
  have l2 := hu2.lt
  refine zS tyS ?_
  refine hK.out _ _ ?_
  refine R1.gen (fun A3 H3 => Gr H2 H3 ∧ H2.nx < H3.nx ∧ H3.get H2.nx = some (.arr [.o (.str nm), u2] 68 0 0) ∧ slot A3.tm 1 = .one (.i .i64 (n : Int)) ∧ slot A3.tm 2 = .one ((.o (.ptr N 0 0 2))) ∧ slot A3.tm 5 = .one ((.o (.ptr H2.nx 0 0 2))) ∧ A3.nt = 57 ∧ A3.dfr = [])
    ⟨((Fr.refl _).new _).mod _ (.inl (Nat.le_refl _)), Nat.lt_succ_self _, get_modE rfl, zL⟩ ?_
  clear t1 t2 hnt hdf A1 hK K l2
  rintro A3 H3 ⟨g3, m3, ry, t1, t2, t5, hnt, hdf⟩
  obtain ⟨M, hM⟩ : ∃ M, M = H2.nx := ⟨_, rfl⟩
  rw [← hM] at m3 ry t5
  clear hM
  have rx := (g3.get _ m1 not_false).trans rx
  have m1 := Nat.lt_of_lt_of_le m1 g3.nx
  have hu := hu.gr g3
  have hu2 := hu2.gr g3
  clear g3
  refine zG (qA tyS bd_slipsP) fun K hK => ?_
  refine WE.con (slipsP_con H3 nm u2 us n hu2) fun w' H4 g4 ⟨c1, o1, hq, hs1, hz1, hz2⟩ => ?_
  subst hq
  have rx := (g4.get _ m1 not_false).trans rx
  have m1 := Nat.lt_of_lt_of_le m1 g4.nx
  have ry := (g4.get _ m3 not_false).trans ry
  have m3 := Nat.lt_of_lt_of_le m3 g4.nx
  have hu := hu.gr g4
  have hu2 := hu2.gr g4
  clear g4
  have l1 := hs1.lt
  replace hz1 : Hd _ := hz1
  replace hz2 : Hd _ := hz2
  generalize he : slpE nm us n = e at hz1 hz2 ⊢
  replace he : Hd _ := he
  refine zK tyS ?_
  refine zG (qA tyS bd_rSlipsP) fun K hK => ?_
  refine WE.con (rSlipsP_con H4 nm u us n hu) fun w' H5 g5 ⟨c2, o2, hq, hs2, hle, hz3, hz4⟩ => ?_
  subst hq
  rw [← he.out] at hz1 hz2
  have hone := both_one hz1.out hz2.out hz3 hz4
  rw [he.out]
  clear hz1 hz2 hz3 hz4
  subst hone
  have rx := (g5.get _ m1 not_false).trans rx
  have m1 := Nat.lt_of_lt_of_le m1 g5.nx
  have ry := (g5.get _ m3 not_false).trans ry
  have m3 := Nat.lt_of_lt_of_le m3 g5.nx
  have hu := hu.gr g5
  have hu2 := hu2.gr g5
  have hs1 := hs1.gr g5
  clear g5 l1
  have l1 := hs1.lt
  have l2 := hs2.lt
  have l3 := hs1.len
  have l4 := hs2.len
  have hbe : ∀ x : Int, (x == x) = true := fun x => by simp
  have hsm := sameLad_con H5 nm u2 u us hu2 hu (by omega)
  replace hsm : Hd (Con E2 _ _ _ _ _) := hsm
  clear hu hu2
  refine zK tyS ?_
  refine zG (qA tyS bd_sameLad) fun K hK => ?_
  refine WE.con hsm.out fun w' H6 g6 hq => ?_
  subst hq
  have hs1 := hs1.gr g6
  have hs2 := hs2.gr g6
  clear g6 l1 l2 l3 l4 hsm
  have l1 := hs1.lt
  have l2 := hs2.lt
  have l3 := hs1.len
  refine zK tyS ?_
  refine R1.s_bl fun K k1 k2 k3 k4 => ?_
  refine R1.loop (fun z A H7 => ∃ i : Nat, z = o1.length - i ∧ i ≤ o1.length ∧ H7 = H6 ∧ slot A.tm 6 = .one (c1) ∧ slot A.tm 8 = .one (c2) ∧ slot A.tm 10 = .one (.i .i64 (i : Int)) ∧ A.nt = 57 ∧ A.dfr = []) ?_ o1.length ⟨0, rfl, Nat.zero_le _, rfl, zL⟩
  clear t1 t2 t5 hnt hdf A3 k3 rx m1 ry m3
  rintro z A H7 ⟨i, rfl, hi, rfl, t6, t8, t10, hnt, hdf⟩
  refine zW tyS ?_
  refine zI tyS (fun hc => ?_) (fun hc => ?_)
  · have hlt : i < o1.length := by omega
    have ex : o1[i]? = some o1[i] := List.getElem?_eq_getElem hlt
    have hdr : o1.drop i = o1[i] :: o1.drop (i + 1) := List.drop_eq_getElem_cons hlt
    have htk : o1.take (i + 1) = o1.take i ++ [o1[i]] := List.take_succ_eq_append_getElem hlt
    have hmem : o1[i] ∈ o1 := List.getElem_mem hlt
    generalize o1[i] = x at ex hdr htk hmem
    have hw2 : IntKind.i64.wrap ((i : Int) + 1) = ((i + 1 : Nat) : Int) := by rw [wrapI (by omega) (by omega)]; omega
    obtain ⟨id, g, off, cells, rfl, hid, hgr, hat⟩ := hs1.open (by omega)
    obtain ⟨id', g', off', cells', rfl, hid', hgr', hat'⟩ := hs2.open (by omega)
    have hx1 := hat i x ex
    have hx2 := hat' i x ex
    obtain ⟨x1, x2, x3⟩ := x
    have y1 : (cells.drop (off + i * 3)).take 3 = [.i .i64 x1, .o (.str x2), .i .i64 x3] := hx1.all
    have y2 : (cells'.drop (off' + i * 3)).take 3 = [.i .i64 x1, .o (.str x2), .i .i64 x3] := hx2.all
    have y3 := hx1.le
    have y4 := hx2.le
    have ex2 : (x2 == x2) = true := beq_self_eq_true x2
    have ex3 : (true && true) = true := rfl
    clear hx1 hx2 hat hat' hdr htk hmem
    replace ex : Hd _ := ex
    refine zW tyS ?_
    refine R1.s_bl fun K2 q1 q2 q3 q4 => ?_
    refine zW (qA tyS (qA (ixC hlt) neS)) ?_
    refine q1.out _ _ ?_
    refine zW tyS ?_
    exact ⟨o1.length - (i + 1), by omega, i + 1, rfl, hlt, rfl, zL⟩
  · refine zW tyS ?_
    refine k2.out _ _ ?_
    refine zG (qA tyS bd_works) fun K hK => ?_
    refine WE.prim works_p fun Hb gb _ _ => ?_
    refine zK tyS ?_
    exact ⟨_, _, callEnd_one (.b true) (.inr rfl) qe qp, rfl⟩
end Go.Proofs.YtekoajibckipkaaGreat
namespace Go.Proofs.YtekoajibckipkaaGreat
open Go.ChangeShapes Go.WideShapes Go.ChangeAt Go.RowKit Go.Eng
theorem opnZ_lad {W : World} : OpnZ Tryz.prog W 2 ladR 68 := opnZ_struct Tryz.underlying68 (by kernel_rfl) rfl (opnFZ_cons (opn_str Tryz.underlying9).z mon_str (opnFZ_one (opnZ_slice Tryz.underlying66)))
theorem bytesOf_unit : Tryz.prog.bytesOf 137 = 24 := by kernel_rfl
theorem lad_of {B : Nat} {H : Hp} {c : List AC} {x : List UInt8 × List Pr} (h : ladR B H c x) : ∃ u, c = [.o (.str x.1), u] ∧ SlP H u x.2 ∧ x.2.length * 24 ≤ B := by
  obtain ⟨c1, c2, rfl, a, b⟩ := h
  have b' := b
  obtain ⟨u, rfl, hu⟩ := units_of b
  obtain ⟨_, _, _, h3⟩ := b'
  exact ⟨u, by rw [a.1]; rfl, hu, by rwa [bytesOf_unit] at h3⟩
theorem readsL : ∀ t ∈ [68, 3], Tryz.prog.readableRec t = true ∧ t < Tryz.prog.types.size := by
  have h1 : Tryz.prog.readableRec 68 = true := by kernel_rfl
  have h2 : Tryz.prog.readableRec 3 = true := by kernel_rfl
  have k1 : decide (68 < Tryz.prog.types.size) = true := by kernel_rfl
  have k2 : decide (3 < Tryz.prog.types.size) = true := by kernel_rfl
  intro t ht
  simp only [List.mem_cons, List.not_mem_nil, or_false] at ht
  rcases ht with rfl | rfl
  · exact ⟨h1, of_decide_eq_true k1⟩
  · exact ⟨h2, of_decide_eq_true k2⟩
end Go.Proofs.YtekoajibckipkaaGreat
namespace Go.Proofs.YtekoajibckipkaaGreat
open Go.ChangeShapes Go.WideShapes Go.ChangeAt Go.RowKit Go.Eng
set_option maxRecDepth 100000 in
theorem all_lifted (os : Os) (started : os.Started) (H : Type) (enc : TypeId × Value → H) :
    ReturnsInHanded {} Tryz.checked os 7 .any (Rows.accountSlipsAllSpec.pre6 enc Tryz.prog Tryz.f7 Rows.accountSlipsAllRow.domain false) (Rows.accountSlipsAllSpec.post enc Tryz.prog Tryz.f7 false true false false) := by
  refine returnsInHanded_of_change_sized (C := Tryz.checked) Tryz.own started (by kernel_rfl) Tryz.func7
    (ChangeSpec.witness6 (enc := enc) (C := Tryz.checked) false ⟨#[], #[.agg #[.string ⟨#[]⟩, .slice none 0 0], .int .i64 0], []⟩ 8 (by kernel_rfl) (by kernel_rfl) (by kernel_rfl) (by kernel_rfl)) ?_
  intro W base args ds gs before hval0 hW hcnd0 hsz _
  clear hcnd0
  have hval : ∀ (j : Nat) t v, Tryz.f7.params[j]? = some t → args[j]? = some v → Value.okWide Tryz.prog W .any base t v := hval0
  have hW' := hW
  obtain ⟨p, q, hA0, hV, rfl, hfz, hnd⟩ := hW
  have hA : DataW.TrodAll enc Tryz.prog W 0 (fun _ => true) true Tryz.f7.params.toList args.toList ds p := hA0
  rw [Tryz.params7] at hA hval hsz
  have hAll := hA
  obtain ⟨v0, v1, d0, d1, p0, p1, rfl, rfl, rfl, h0, h1⟩ := trodAll_two hA
  obtain ⟨rfl, rfl⟩ := trodVars_none hV
  clear hA0 hval0
  simp only [List.append_nil] at hW' hfz
  have hw : ∀ (j : Nat) (t : TypeId) (d : DataW H), [68, 3][j]? = some t → [d0, d1][j]? = some d → ∀ n ∈ d.weights Tryz.prog t, n ≤ reachBytes := fun j t d ht hd n hn => by
    have := List.all_eq_true.1 hsz n (DataW.weights_mem_each (j := j) (by rw [List.getElem?_append_left (by have := (List.getElem?_eq_some_iff.1 ht).1; exact this)]; exact ht) (by rw [List.getElem?_append_left (by have := (List.getElem?_eq_some_iff.1 hd).1; exact this)]; exact hd) n hn)
    simpa using this
  obtain ⟨y0, u0, l0, a0, b0, _, c0⟩ := opn_topS Tryz.underlying68 (fun hB => opn_lad hB) opnZ_lad (hval 0 _ v0 rfl rfl) h0 (hw 0 _ _ rfl rfl) [] rows_nil
  clear hw hsz
  obtain ⟨n, rfl, rfl, rfl, _⟩ := open_int Tryz.underlying3 (hval 1 _ v1 rfl rfl) h1
  obtain ⟨u, rfl, hu, hub⟩ := lad_of c0
  have hcall := calls_of_c1 (E := E2) envS2 (f := 7) (args := [.agg [.o (.str l0.1), u], .one (.i .i64 n)]) (vs := [v0, .int .i64 n]) (w := W) (l := [] ++ y0) a0
    ⟨b0, rfl, trivial⟩
    (allLaw_c1 _ l0.1 u l0.2 n hu (Nat.le_trans hub reach_le))
  refine hcall.mono fun e W' ⟨he, hw⟩ => ?_
  subst he
  have hlt : ∀ x ∈ p0, x.block < W.heap.size := fun x hx => hW'.lt x (by simpa using hx)
  exact ⟨_, rfl, law_post rfl hW' rfl (by kernel_rfl) rfl rfl rfl (grown_below hw) fun sp hsp => trodAll_stays Tryz.laidOut (grown_below hw) readsL (by simpa using hAll) (by simpa using hlt) hsp⟩
end Go.Proofs.YtekoajibckipkaaGreat
namespace Go.Proofs.YtekoajibckipkaaGreat
open Go.ChangeShapes Go.WideShapes Go.ChangeAt Go.RowKit Go.Eng
theorem all_holds : Rows.AccountSlipsAllSaid :=
  OpenClaim.holds_of_wide 7 Tryz.f7 rfl rfl rfl rfl rfl rfl rfl ⟨rfl, rfl, rfl, rfl, rfl⟩ rfl rfl rfl rfl rfl (by kernel_rfl) Tryz.func7 (by kernel_rfl)
    (of_decide_eq_true (by kernel_rfl)) (by unfold Func.isWrapper; first | (rw [if_pos (by decide +kernel)]; kernel_rfl) | (rw [if_neg (by decide +kernel)]; exact ⟨rfl, rfl⟩))
    (fun os started H enc _ => all_lifted os started H enc)
end Go.Proofs.YtekoajibckipkaaGreat
