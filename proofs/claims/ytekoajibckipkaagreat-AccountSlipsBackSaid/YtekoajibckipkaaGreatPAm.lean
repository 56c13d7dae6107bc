/- A part of the proof: BkBk1, BkBackEnd, BkBackHold. No conditions. -/
import Derived.Test.YtekoajibckipkaaGreatPAl
namespace Go.Proofs.YtekoajibckipkaaGreat
open Go Go.Eng
def pl_five : Nat → Option (Nat × Nat) := fun i => some (i * 1, 1)
theorem zr_five : (zeroT Tryz.prog 77).map (fun z => (ofValue z).cells) = some [.i .i64 0, .i .i64 0, .i .i64 0, .i .i64 0, .i .i64 0] := by kernel_rfl
theorem pt_five : placeT Tryz.prog 77 = some pl_five := by kernel_rfl
theorem fv_0 : pl_five 0 = some (0, 1) := rfl
theorem fv_1 : pl_five 1 = some (1, 1) := rfl
theorem fv_2 : pl_five 2 = some (2, 1) := rfl
theorem fv_3 : pl_five 3 = some (3, 1) := rfl
theorem fv_4 : pl_five 4 = some (4, 1) := rfl
theorem ns_five : isStrT Tryz.prog 77 = false := by kernel_rfl
theorem back1 : pureRun Tryz.prog (Sem.bind (Instr.index 77 (.agg #[.int .i64 0, .int .i64 2, .int .i64 1, .int .i64 4, .int .i64 3]) (.int .i64 1)) fun v => Sem.pure (Next.value v)) = some (.value (.int .i64 2)) := by kernel_rfl
theorem back2 : pureRun Tryz.prog (Sem.bind (Instr.index 77 (.agg #[.int .i64 0, .int .i64 2, .int .i64 1, .int .i64 4, .int .i64 3]) (.int .i64 2)) fun v => Sem.pure (Next.value v)) = some (.value (.int .i64 1)) := by kernel_rfl
theorem back3 : pureRun Tryz.prog (Sem.bind (Instr.index 77 (.agg #[.int .i64 0, .int .i64 2, .int .i64 1, .int .i64 4, .int .i64 3]) (.int .i64 3)) fun v => Sem.pure (Next.value v)) = some (.value (.int .i64 4)) := by kernel_rfl
theorem back4 : pureRun Tryz.prog (Sem.bind (Instr.index 77 (.agg #[.int .i64 0, .int .i64 2, .int .i64 1, .int .i64 4, .int .i64 3]) (.int .i64 4)) fun v => Sem.pure (Next.value v)) = some (.value (.int .i64 3)) := by kernel_rfl
theorem plain_back {k : Int} (h1 : 1 ≤ k) (h4 : k ≤ 4) : ∀ (tm : PT AV) (H : Hp) (d : Option Tmp) (ty : TypeId) (pos : String) (af : Array Edge) (g : Option (Nat × Bool)) (x i : Operand), ev tm x = .agg [.i .i64 0, .i .i64 2, .i .i64 1, .i .i64 4, .i .i64 3] → ev tm i = .one (.i .i64 k) →
    plainOp Tryz.prog tm H ⟨d, .index 77 x i, ty, pos, af, g⟩ = .val (.one (.i .i64 (backK k))) H := fun tm H d ty pos af g x i hx hi => by
  refine plain_of (v := .int .i64 (backK k)) ?_ ?_ rfl
  · show ([x, i].all fun x => (ev tm x).val?.isSome) = true
    simp only [List.all_cons, List.all_nil, hx, hi]; rfl
  · show pureRun Tryz.prog (Sem.bind (Instr.index 77 (valD (ev tm x)) (valD (ev tm i))) fun v => Sem.pure (Next.value v)) = _
    rw [hx, hi]
    have : k = 1 ∨ k = 2 ∨ k = 3 ∨ k = 4 := by omega
    rcases this with rfl | rfl | rfl | rfl
    · exact back1
    · exact back2
    · exact back3
    · exact back4
theorem ixA : (∀ {st : Bool} {E : Env} {A : AAct} {d : Option Tmp} {H : Hp} {next : AAct → Hp → Prop} {ty : TypeId} {pos : String} {af : Array Edge} {gd : Option (Nat × Bool)} {t : TypeId} {x i : Operand}, SK st E ⟨d, .index t x i, ty, pos, af, gd⟩ A H next = vN next A d (doIndex H (isStrT E.P t) (ev A.tm x) (ev A.tm i) (plainOp E.P A.tm H ⟨d, .index t x i, ty, pos, af, gd⟩))) ∧ isStrT Tryz.prog 77 = false ∧
    (∀ (H : Hp) (x i : AV) (alt : ANext), doIndex H false x i alt = alt) := ⟨SK_index, ns_five, fun _ _ _ _ => rfl⟩
theorem tyK : type_of% (qA tyS (qA zr_five (qA pt_five (qA fv_0 (qA fv_1 (qA fv_2 (qA fv_3 (qA fv_4 ixA)))))))) := qA tyS (qA zr_five (qA pt_five (qA fv_0 (qA fv_1 (qA fv_2 (qA fv_3 (qA fv_4 ixA)))))))
noncomputable def tst (x1 : Int) (x2 : List UInt8) (n : Int) (y : Sp) : Bool := y.2.2 == n && (y.1 == backK x1 && (decide (2 < x1) || lEq y.2.1 x2))
set_option maxRecDepth 10000 in
set_option maxHeartbeats 16000000 in
theorem backLaw_c1 (H : Hp) (nm : List UInt8) (u : AC) (us : List Pr) (n : Int) (hu : SlP H u us) :
    C1 E2 8 [.agg [.o (.str nm), u], .one (.i .i64 n)] H fun r _ => r = .one (.b true) := by
  refine C1.body (E := E2) (nt := 144) (res := [.tmp 4]) Tryz.func8 rfl rfl rfl rfl rfl fun tm hargs => ?_
  have h0 := hargs 0 _ rfl
  have h1 := hargs 1 _ rfl
  clear hargs
  have hlu := hu.lt
  refine zG tyK fun K hK => ?_
  refine hK.out _ _ ?_
  refine R1.gen (fun A1 H1 => Gr H H1 ∧ H.nx < H1.nx ∧ H1.get H.nx = some (.arr [.o (.str nm), u] 68 0 0) ∧ slot A1.tm 1 = .one (.i .i64 (n : Int)) ∧ slot A1.tm 2 = .one ((.o (.ptr H.nx 0 0 2))) ∧ A1.nt = 144 ∧ A1.dfr = [])
    ⟨(Fr.refl _).new _, Nat.lt_succ_self _, get_newE rfl, zL⟩ ?_
  clear h0 h1 tm hK K hlu
  rintro A1 H1 ⟨g1, m1, rx, t1, t2, hnt, hdf⟩
  obtain ⟨N, hN⟩ : ∃ N, N = H.nx := ⟨_, rfl⟩
  rw [← hN] at m1 rx t2
  clear hN
  have hu := hu.gr g1
  clear g1
  refine zG (qA tyK bd_slipsP) fun K hK => ?_
  refine WE.con (slipsP_con H1 nm u us n hu) fun w' H2 g2 ⟨c, out, hq, hso, hbad, hgood⟩ => ?_
  subst hq
  have rx := (g2.get _ m1 not_false).trans rx
  have m1 := Nat.lt_of_lt_of_le m1 g2.nx
  have hu := hu.gr g2
  clear g2
  by_cases he : slpE nm us n = 0
  case neg =>
    have ho := hbad he
    subst ho
    have hl : doLen H2 1 (.one c) = .val (.one (.i .i64 0)) H2 := hso.len
    have l1 := hso.lt
    have cz : (slpE nm us n == 0) = false := beq_false_of_ne he
    clear hgood hbad
    generalize slpE nm us n = e0 at cz he ⊢
    replace he : Hd _ := he
    replace hso : Hd _ := hso
    refine zK tyK ?_
    refine zG (qA tyK bd_works) fun K hK => ?_
    refine WE.prim works_p fun Hb gb _ _ => ?_
    refine zK tyK ?_
    exact ⟨_, _, callEnd_one (.b true) (.inr rfl) qe qp, rfl⟩
  obtain ⟨hck, hn1, hn2, hpe, hpw, hle⟩ := hgood he
  clear hbad hgood
  rw [he]
  clear he
  have hmem' : ∀ x ∈ out, x ∈ slipsL us (splitA us n) (valsS nm us) n := fun x hx => (hpe.mem_iff).1 hx
  have hst : List.Pairwise (fun x y : Sp => x.2.2 < y.2.2) out := List.Pairwise.imp₂ (fun x y (h1 : ¬ y.2.2 < x.2.2) (h2 : x.2.2 ≠ y.2.2) => by omega) hpw ((hpe.pairwise_iff fun {x y} h => fun e => h e.symm).2 (slips_pw hck hn1))
  have hkd : ∀ x ∈ out, (1 ≤ x.1 ∧ x.1 ≤ 4) ∧ x.2.2 ≠ n ∧ 1 ≤ x.2.2 ∧ x.2.2 ≤ 1099511627776 := fun x hx => slip_kind hck hn1 (hmem' x hx)
  have hbk : ∀ x ∈ out, ∃ y ∈ slipsL us (splitA us x.2.2) (valsS nm us) x.2.2, y.2.2 = n ∧ y.1 = backK x.1 ∧ (x.1 ≤ 2 → y.2.1 = x.2.1) := fun x hx => slip_back hck hn1 hn2 (hmem' x hx)
  have hs0 : ∀ x ∈ out, slpE nm us x.2.2 = 0 := fun x hx => by
    have := (hkd x hx).2.2
    unfold slpE
    rw [if_neg (fun h => h hck), if_neg (by omega)]
  clear hmem' hpe hpw hn1 hn2
  replace hck : Hd _ := hck
  replace hst : Hd _ := hst
  replace hkd : Hd _ := hkd
  replace hbk : Hd _ := hbk
  replace hs0 : Hd _ := hs0
  have l1 := hso.lt
  refine zK tyK ?_
  refine R1.s_bl fun K k1 k2 k3 k4 => ?_
  refine R1.loop (fun z A H3 => ∃ i : Nat, z = out.length - i ∧ i ≤ out.length ∧ Gr H2 H3 ∧ slot A.tm 1 = .one (.i .i64 (n : Int)) ∧ slot A.tm 2 = .one ((.o (.ptr N 0 0 2))) ∧ slot A.tm 5 = .one (c) ∧ slot A.tm 7 = .one (.i .i64 (i : Int)) ∧ A.nt = 144 ∧ A.dfr = []) ?_ out.length
    ⟨0, rfl, Nat.zero_le _, Fr.refl _, zL⟩
  clear t1 t2 hnt hdf A1 k3 l1
  rintro z A H3 ⟨i, rfl, hi, g3, t1, t2, t5, t7, hnt, hdf⟩
  have hso3 := hso.gr g3
  have l1 := hso3.len
  have l2 := hso3.lt
  have rx := (g3.get _ m1 not_false).trans rx
  have m1 := Nat.lt_of_lt_of_le m1 g3.nx
  have hu3 := hu.gr g3
  refine zW tyK ?_
  refine zI tyK (fun hc => ?_) (fun hc => ?_)
  · have hlt : i < out.length := by omega
    have ex : out[i]? = some out[i] := List.getElem?_eq_getElem hlt
    have hdr : out.drop i = out[i] :: out.drop (i + 1) := List.drop_eq_getElem_cons hlt
    have htk : out.take (i + 1) = out.take i ++ [out[i]] := List.take_succ_eq_append_getElem hlt
    have hmem : out[i] ∈ out := List.getElem_mem hlt
    generalize out[i] = x at ex hdr htk hmem
    have hw2 : IntKind.i64.wrap ((i : Int) + 1) = ((i + 1 : Nat) : Int) := by rw [wrapI (by omega) (by omega)]; omega
    obtain ⟨⟨hk1, hk4⟩, hxn, hx1, hx2⟩ := hkd.out x hmem
    obtain ⟨y, hy, hyn, hyk, hys⟩ := hbk.out x hmem
    have he2 := hs0.out x hmem
    have hwi := hw2
    have hlti := hlt
    have hprev : 0 < i → ∃ p : Sp, out[i - 1]? = some p ∧ p.2.2 < x.2.2 := fun hp => by
      have h1 : i - 1 < out.length := by omega
      refine ⟨out[i - 1], List.getElem?_eq_getElem h1, ?_⟩
      have := List.pairwise_iff_getElem.1 hst.out (i - 1) i h1 hlti (by omega)
      have e : out[i] = x := by have := List.getElem?_eq_getElem hlti; rw [ex] at this; exact (Option.some.inj this).symm
      rw [e] at this
      exact this
    obtain ⟨id, g, off, cells, rfl, hid, hgr, hat⟩ := hso3.open (by omega)
    have hx := hat i x ex
    obtain ⟨x1, x2, x3⟩ := x
    have f0 : (cells.drop (off + i * 3)).headD (.b false) = .i .i64 x1 := hx.f0
    have f1 : (cells.drop (off + i * 3 + 1)).headD (.b false) = .o (.str x2) := hx.f1
    have f2 : (cells.drop (off + i * 3 + 2)).headD (.b false) = .i .i64 x3 := hx.f2
    have y0 := hx.le1
    have y1 := hx.le2
    have y2 := hx.le3
    replace hk1 : 1 ≤ x1 := hk1
    replace hk4 : x1 ≤ 4 := hk4
    replace he2 : slpE nm us x3 = 0 := he2
    have c1 : (x3 == n) = false := beq_false_of_ne hxn
    have hkk : Hd (1 ≤ x1 ∧ x1 ≤ 4) := ⟨hk1, hk4⟩
    have c2 : ¬ x1 < 1 := by omega
    have c3 : ¬ 4 < x1 := by omega
    clear hx hdr htk hmem hw2 hxn hx1 hx2 hk1 hk4 hlt
    replace ex : Hd _ := ex
    replace hy : Hd _ := hy
    replace hyn : Hd _ := hyn
    replace hyk : Hd _ := hyk
    replace hys : Hd _ := hys
    replace he2 : Hd _ := he2
    replace hprev : Hd _ := hprev
    replace hat : Hd _ := hat
    refine zW tyK ?_
    refine R1.s_bl fun Kb b1 b2 b3 b4 => ?_
    repeat refine R1.s_assoc ?_
    refine R1.s_h (by kernel_rfl) fun K7 hK7 => ?_
    suffices hgo : ∀ A4 : AAct, (slot A4.tm 74 = .one (.b false) ∧ slot A4.tm 1 = .one (.i .i64 (n : Int)) ∧ slot A4.tm 2 = .one ((.o (.ptr N 0 0 2))) ∧ slot A4.tm 5 = .one ((.o (.sl id g off out.length 3))) ∧ slot A4.tm 7 = .one (.i .i64 (i : Int)) ∧ A4.nt = 144 ∧ A4.dfr = []) → K7 A4 H3 by
      clear hK7
      replace hgo : Hd _ := hgo
      by_cases h0 : 0 < i
      · obtain ⟨p, hp, hlt2⟩ := hprev.out h0
        have hx := hat.out (i - 1) p hp
        obtain ⟨p1, p2, p3⟩ := p
        have p0 : (cells.drop (off + (i - 1) * 3 + 2)).headD (.b false) = .i .i64 p3 := hx.f2
        have z2 := hx.le3
        have c0 : (0 : Int) < (i : Int) := by omega
        have c5 : ¬ x3 ≤ p3 := by have : p3 < x3 := hlt2; omega
        have hlt3 : i - 1 < out.length := by omega
        have hw : IntKind.i64.wrap ((i : Int) - 1) = ((i - 1 : Nat) : Int) := by rw [wrapI (by omega) (by omega)]; omega
        clear hx hlt2 hp
        refine zS (qA tyK (qA (ixC hlti) (ixC hlt3))) ?_
        exact hgo.out _ zL
      · have c0 : ¬ (0 : Int) < (i : Int) := by omega
        refine zS (qA tyK (ixC hlti)) ?_
        exact hgo.out _ zL
    clear t1 t2 t5 t7 hnt hdf A
    rintro A ⟨t74, t1, t2, t5, t7, hnt, hdf⟩
    refine hK7.out _ _ ?_
    clear hK7 K7 hprev hat
    refine zW tyK ?_
    refine zG (qA tyK (qA bd_slipsP (ixC hlti))) fun K hK => ?_
    refine WE.con (slipsP_con H3 nm u us x3 hu3) fun w' H4 g4 ⟨c2', o2, hq, hs2, _, hg2⟩ => ?_
    subst hq
    rw [he2.out]
    obtain ⟨_, _, _, hp2, _, hl2⟩ := hg2 he2.out
    clear hg2
    have hy2 : y ∈ o2 := hp2.mem_iff.2 hy.out
    clear hp2
    clear c2 c3
    have l1 := hs2.lt
    have rx := (g4.get _ m1 not_false).trans rx
    have m1 := Nat.lt_of_lt_of_le m1 g4.nx
    have hgr4 : rowOf (H4.get id) g = some cells := by rw [g4.get _ hid not_false]; exact hgr
    have hid4 : id < H4.nx := Nat.lt_of_lt_of_le hid g4.nx
    clear hgr hid t74 hu3 hso3 l2
    replace hl2 : Hd _ := hl2
    replace hy2 : Hd _ := hy2
    refine zK tyK ?_
    refine R1.s_bl fun K3 q1 q2 q3 q4 => ?_
    refine R1.loop (fun z A H5 => ∃ (j : Nat) (b : Bool), z = o2.length - j ∧ j ≤ o2.length ∧ Gr H4 H5 ∧ Hd (b = (o2.take j).any (tst x1 x2 n)) ∧ slot A.tm 1 = .one (.i .i64 (n : Int)) ∧ slot A.tm 2 = .one ((.o (.ptr N 0 0 2))) ∧ slot A.tm 5 = .one ((.o (.sl id g off out.length 3))) ∧ slot A.tm 7 = .one (.i .i64 (i : Int)) ∧ slot A.tm 8 = .one (c2') ∧ slot A.tm 10 = .one (.b b) ∧ slot A.tm 11 = .one (.i .i64 (j : Int)) ∧ A.nt = 144 ∧ A.dfr = []) ?_ o2.length
      ⟨0, false, rfl, Nat.zero_le _, Fr.refl _, rfl, zL⟩
    clear t1 t2 t5 t7 hnt hdf A q3 l1 hK K
    rintro z A H5 ⟨j, b, rfl, hj, g5, hb, t1, t2, t5, t7, t8, t10, t11, hnt, hdf⟩
    have hs5 := hs2.gr g5
    have l1 := hs5.len
    have l2 := hs5.lt
    have hgr5 : rowOf (H5.get id) g = some cells := by rw [g5.get _ hid4 not_false]; exact hgr4
    have hid5 : id < H5.nx := Nat.lt_of_lt_of_le hid4 g5.nx
    refine zW tyK ?_
    refine zI tyK (fun hc2 => ?_) (fun hc2 => ?_)
    · have hl2 := hl2.out
      have hlt : j < o2.length := by omega
      have ex : o2[j]? = some o2[j] := List.getElem?_eq_getElem hlt
      have hdr : o2.drop j = o2[j] :: o2.drop (j + 1) := List.drop_eq_getElem_cons hlt
      have htk : o2.take (j + 1) = o2.take j ++ [o2[j]] := List.take_succ_eq_append_getElem hlt
      have hmem : o2[j] ∈ o2 := List.getElem_mem hlt
      generalize o2[j] = v at ex hdr htk hmem
      have hw2 : IntKind.i64.wrap ((j : Int) + 1) = ((j + 1 : Nat) : Int) := by rw [wrapI (by omega) (by omega)]; omega
      obtain ⟨id2, g2, off2, cells2, rfl, hid2, hgr2, hat2⟩ := hs5.open (by omega)
      have hv := hat2 j v ex
      obtain ⟨v1, v2, v3⟩ := v
      have d0 : (cells2.drop (off2 + j * 3)).headD (.b false) = .i .i64 v1 := hv.f0
      have d1 : (cells2.drop (off2 + j * 3 + 1)).headD (.b false) = .o (.str v2) := hv.f1
      have d2 : (cells2.drop (off2 + j * 3 + 2)).headD (.b false) = .i .i64 v3 := hv.f2
      have z0 := hv.le1
      have z1 := hv.le2
      have z2 := hv.le3
      clear hat2 hv hdr hmem
      replace htk : Hd _ := htk
      replace ex : Hd _ := ex
      replace hl2 : Hd _ := hl2
      refine zW tyK ?_
      refine R1.s_bl fun K4 p1 p2 p3 p4 => ?_
      have hk1 : 1 ≤ x1 := hkk.out.1
      have hk4 : x1 ≤ 4 := hkk.out.2
      have hpb := @plain_back x1 hk1 hk4
      clear hk1 hk4
      refine zG (qA tyK (qA (ixC hlti) hpb)) fun K hK => ?_
      refine hK.out _ _ ?_
      refine R1.genA (fun A5 => slot A5.tm 1 = .one (.i .i64 (n : Int)) ∧ slot A5.tm 2 = .one ((.o (.ptr N 0 0 2))) ∧ slot A5.tm 5 = .one ((.o (.sl id g off out.length 3))) ∧ slot A5.tm 7 = .one (.i .i64 (i : Int)) ∧ slot A5.tm 8 = .one ((.o (.sl id2 g2 off2 o2.length 3))) ∧ slot A5.tm 10 = .one (.b b) ∧ slot A5.tm 11 = .one (.i .i64 (j : Int)) ∧ slot A5.tm 12 = .one (.i .i64 ((backK x1) : Int)) ∧ A5.nt = 144 ∧ A5.dfr = []) zL ?_
      clear t1 t2 t5 t7 t8 t10 t11 hnt hdf A hK K hpb
      rintro A ⟨t1, t2, t5, t7, t8, t10, t11, t12, hnt, hdf⟩
      repeat refine R1.s_assoc ?_
      refine R1.s_h (by kernel_rfl) fun K7 hK7 => ?_
      suffices hgo : ∀ (A4 : AAct) (s : Bool), s = (decide (2 < x1) || lEq v2 x2) → (slot A4.tm 1 = .one (.i .i64 (n : Int)) ∧ slot A4.tm 2 = .one ((.o (.ptr N 0 0 2))) ∧ slot A4.tm 5 = .one ((.o (.sl id g off out.length 3))) ∧ slot A4.tm 7 = .one (.i .i64 (i : Int)) ∧ slot A4.tm 8 = .one ((.o (.sl id2 g2 off2 o2.length 3))) ∧ slot A4.tm 10 = .one (.b b) ∧ slot A4.tm 11 = .one (.i .i64 (j : Int)) ∧ slot A4.tm 12 = .one (.i .i64 ((backK x1) : Int)) ∧ slot A4.tm 13 = .one (.b s) ∧ A4.nt = 144 ∧ A4.dfr = []) → K7 A4 H5 by
        clear hK7
        replace hgo : Hd _ := hgo
        by_cases h0 : 2 < x1
        · refine zS (qA tyK (qA (ixC hlti) (ixC hlt))) ?_
          exact hgo.out _ true (by rw [decide_eq_true h0]; rfl) zL
        · refine zS (qA tyK (qA (ixC hlti) (ixC hlt))) ?_
          exact hgo.out _ (lEq v2 x2) (by rw [decide_eq_false h0]; rfl) zL
      clear t1 t2 t5 t7 t8 t10 t11 t12 hnt hdf A
      rintro A s hs ⟨t1, t2, t5, t7, t8, t10, t11, t12, t13, hnt, hdf⟩
      refine hK7.out _ _ ?_
      clear hK7 K7
      refine R1.e_h (by kernel_rfl) fun K8 hK8 => ?_
      suffices hgo : ∀ (A4 : AAct) (b' : Bool), b' = (b || tst x1 x2 n (v1, v2, v3)) → (slot A4.tm 1 = .one (.i .i64 (n : Int)) ∧ slot A4.tm 2 = .one ((.o (.ptr N 0 0 2))) ∧ slot A4.tm 5 = .one ((.o (.sl id g off out.length 3))) ∧ slot A4.tm 7 = .one (.i .i64 (i : Int)) ∧ slot A4.tm 8 = .one ((.o (.sl id2 g2 off2 o2.length 3))) ∧ slot A4.tm 10 = .one (.b b') ∧ slot A4.tm 11 = .one (.i .i64 (j : Int)) ∧ A4.nt = 144 ∧ A4.dfr = []) → K8 A4 H5 by
        clear hK8
        replace hgo : Hd _ := hgo
        have ht : tst x1 x2 n (v1, v2, v3) = (v3 == n && (v1 == backK x1 && s)) := by rw [hs]; rfl
        replace hs : Hd _ := hs
        cases b
        · by_cases e1 : (v3 == n) = true
          · by_cases e2 : (v1 == backK x1) = true
            · have ht' : tst x1 x2 n (v1, v2, v3) = s := by rw [ht, e1, e2]; rfl
              replace ht : Hd _ := ht
              replace ht' : Hd _ := ht'
              refine zS (qA tyK (ixC hlt)) ?_
              exact hgo.out _ s (by rw [ht'.out]; rfl) zL
            · rw [Bool.not_eq_true] at e2
              have ht' : tst x1 x2 n (v1, v2, v3) = false := by rw [ht, e1, e2]; rfl
              replace ht : Hd _ := ht
              replace ht' : Hd _ := ht'
              refine zS (qA tyK (ixC hlt)) ?_
              exact hgo.out _ false (by rw [ht'.out]; rfl) zL
          · rw [Bool.not_eq_true] at e1
            have ht' : tst x1 x2 n (v1, v2, v3) = false := by rw [ht, e1]; rfl
            replace ht : Hd _ := ht
            replace ht' : Hd _ := ht'
            refine zS (qA tyK (ixC hlt)) ?_
            exact hgo.out _ false (by rw [ht'.out]; rfl) zL
        · replace ht : Hd _ := ht
          refine zS (qA tyK (ixC hlt)) ?_
          exact hgo.out _ true rfl zL
      clear t1 t2 t5 t7 t8 t10 t11 t12 t13 hnt hdf A
      rintro A b' hb' ⟨t1, t2, t5, t7, t8, t10, t11, hnt, hdf⟩
      refine hK8.out _ _ ?_
      clear hK8 K8 hs
      replace hb' : Hd _ := hb'
      refine p1.out _ _ ?_
      refine zW tyK ?_
      exact ⟨o2.length - (j + 1), by omega, j + 1, b', rfl, hlt, g5, (by
        rw [htk.out, List.any_append, ← hb.out, hb'.out, List.any_cons, List.any_nil, Bool.or_false] : b' = (o2.take (j + 1)).any (tst x1 x2 n)), zL⟩
    · have hje : j = o2.length := by omega
      have hbt : b = true := by
        rw [hb.out, hje, List.take_length, List.any_eq_true]
        refine ⟨y, hy2.out, ?_⟩
        unfold tst
        rw [hyn.out, hyk.out, beq_self_eq_true, beq_self_eq_true, Bool.true_and, Bool.true_and]
        by_cases h0 : 2 < x1
        · rw [decide_eq_true h0]; rfl
        · rw [hys.out (by show x1 ≤ 2; omega)]
          show (_ || lEq x2 x2) = true
          rw [lEq_self, Bool.or_true]
      clear hje hb
      subst hbt
      refine zW tyK ?_
      refine q2.out _ _ ?_
      refine zW tyK ?_
      refine b1.out _ _ ?_
      refine zW tyK ?_
      exact ⟨out.length - (i + 1), by omega, i + 1, rfl, hlti, g3.gr (g4.gr g5), zL⟩
  · clear hu3 hso3
    refine zW tyK ?_
    refine k2.out _ _ ?_
    refine zG (qA tyK bd_works) fun K hK => ?_
    refine WE.prim works_p fun Hb gb _ _ => ?_
    refine zK tyK ?_
    exact ⟨_, _, callEnd_one (.b true) (.inr rfl) qe qp, rfl⟩
end Go.Proofs.YtekoajibckipkaaGreat
namespace Go.Proofs.YtekoajibckipkaaGreat
open Go.ChangeShapes Go.WideShapes Go.ChangeAt Go.RowKit Go.Eng
theorem opnZ_lad {W : World} : OpnZ Tryz.prog W 2 ladR 68 := opnZ_struct Tryz.underlying68 (by kernel_rfl) rfl (opnFZ_cons (opn_str Tryz.underlying9).z mon_str (opnFZ_one (opnZ_slice Tryz.underlying66)))
theorem bytesOf_unit : Tryz.prog.bytesOf 137 = 24 := by kernel_rfl
theorem lad_of {B : Nat} {H : Hp} {c : List AC} {x : List UInt8 × List Pr} (h : ladR B H c x) : ∃ u, c = [.o (.str x.1), u] ∧ SlP H u x.2 ∧ x.2.length * 24 ≤ B := by
  obtain ⟨c1, c2, rfl, a, b⟩ := h
  have b' := b
  obtain ⟨u, rfl, hu⟩ := units_of b
  obtain ⟨_, _, _, h3⟩ := b'
  exact ⟨u, by rw [a.1]; rfl, hu, by rwa [bytesOf_unit] at h3⟩
theorem readsL : ∀ t ∈ [68, 3], Tryz.prog.readableRec t = true ∧ t < Tryz.prog.types.size := by
  have h1 : Tryz.prog.readableRec 68 = true := by kernel_rfl
  have h2 : Tryz.prog.readableRec 3 = true := by kernel_rfl
  have k1 : decide (68 < Tryz.prog.types.size) = true := by kernel_rfl
  have k2 : decide (3 < Tryz.prog.types.size) = true := by kernel_rfl
  intro t ht
  simp only [List.mem_cons, List.not_mem_nil, or_false] at ht
  rcases ht with rfl | rfl
  · exact ⟨h1, of_decide_eq_true k1⟩
  · exact ⟨h2, of_decide_eq_true k2⟩
set_option maxRecDepth 100000 in
theorem back_lifted (os : Os) (started : os.Started) (H : Type) (enc : TypeId × Value → H) :
    ReturnsInHanded {} Tryz.checked os 8 .any (Rows.accountSlipsBackSpec.pre6 enc Tryz.prog Tryz.f8 Rows.accountSlipsBackRow.domain false) (Rows.accountSlipsBackSpec.post enc Tryz.prog Tryz.f8 false true false false) := by
  refine returnsInHanded_of_change_sized (C := Tryz.checked) Tryz.own started (by kernel_rfl) Tryz.func8
    (ChangeSpec.witness6 (enc := enc) (C := Tryz.checked) false ⟨#[], #[.agg #[.string ⟨#[]⟩, .slice none 0 0], .int .i64 0], []⟩ 8 (by kernel_rfl) (by kernel_rfl) (by kernel_rfl) (by kernel_rfl)) ?_
  intro W base args ds gs before hval0 hW hcnd0 hsz _
  clear hcnd0
  have hval : ∀ (j : Nat) t v, Tryz.f8.params[j]? = some t → args[j]? = some v → Value.okWide Tryz.prog W .any base t v := hval0
  have hW' := hW
  obtain ⟨p, q, hA0, hV, rfl, hfz, hnd⟩ := hW
  have hA : DataW.TrodAll enc Tryz.prog W 0 (fun _ => true) true Tryz.f8.params.toList args.toList ds p := hA0
  rw [Tryz.params8] at hA hval hsz
  have hAll := hA
  obtain ⟨v0, v1, d0, d1, p0, p1, rfl, rfl, rfl, h0, h1⟩ := trodAll_two hA
  obtain ⟨rfl, rfl⟩ := trodVars_none hV
  clear hA0 hval0
  simp only [List.append_nil] at hW' hfz
  have hw : ∀ (j : Nat) (t : TypeId) (d : DataW H), [68, 3][j]? = some t → [d0, d1][j]? = some d → ∀ n ∈ d.weights Tryz.prog t, n ≤ reachBytes := fun j t d ht hd n hn => by
    have := List.all_eq_true.1 hsz n (DataW.weights_mem_each (j := j) (by rw [List.getElem?_append_left (by have := (List.getElem?_eq_some_iff.1 ht).1; exact this)]; exact ht) (by rw [List.getElem?_append_left (by have := (List.getElem?_eq_some_iff.1 hd).1; exact this)]; exact hd) n hn)
    simpa using this
  obtain ⟨y0, u0, l0, a0, b0, _, c0⟩ := opn_topS Tryz.underlying68 (fun hB => opn_lad hB) opnZ_lad (hval 0 _ v0 rfl rfl) h0 (hw 0 _ _ rfl rfl) [] rows_nil
  clear hw hsz
  obtain ⟨n, rfl, rfl, rfl, _⟩ := open_int Tryz.underlying3 (hval 1 _ v1 rfl rfl) h1
  obtain ⟨u, rfl, hu, hub⟩ := lad_of c0
  have hcall := calls_of_c1 (E := E2) envS2 (f := 8) (args := [.agg [.o (.str l0.1), u], .one (.i .i64 n)]) (vs := [v0, .int .i64 n]) (w := W) (l := [] ++ y0) a0
    ⟨b0, rfl, trivial⟩
    (backLaw_c1 _ l0.1 u l0.2 n hu)
  refine hcall.mono fun e W' ⟨he, hw⟩ => ?_
  subst he
  have hlt : ∀ x ∈ p0, x.block < W.heap.size := fun x hx => hW'.lt x (by simpa using hx)
  exact ⟨_, rfl, law_post rfl hW' rfl (by kernel_rfl) rfl rfl rfl (grown_below hw) fun sp hsp => trodAll_stays Tryz.laidOut (grown_below hw) readsL (by simpa using hAll) (by simpa using hlt) hsp⟩
end Go.Proofs.YtekoajibckipkaaGreat
namespace Go.Proofs.YtekoajibckipkaaGreat
open Go.ChangeShapes Go.WideShapes Go.ChangeAt Go.RowKit Go.Eng
theorem back_holds : Rows.AccountSlipsBackSaid :=
  OpenClaim.holds_of_wide 8 Tryz.f8 rfl rfl rfl rfl rfl rfl rfl ⟨rfl, rfl, rfl, rfl, rfl⟩ rfl rfl rfl rfl rfl (by kernel_rfl) Tryz.func8 (by kernel_rfl)
    (of_decide_eq_true (by kernel_rfl)) (by unfold Func.isWrapper; first | (rw [if_pos (by decide +kernel)]; kernel_rfl) | (rw [if_neg (by decide +kernel)]; exact ⟨rfl, rfl⟩))
    (fun os started H enc _ => back_lifted os started H enc)
end Go.Proofs.YtekoajibckipkaaGreat
