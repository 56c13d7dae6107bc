/- A part of the proof: BkNum3, BkNum4, BkNum5, BkNum6, BkNum7, BkPz1, BkPz2, BkPz5. No conditions. -/
import Derived.Test.YtiejeicaaojdlaaGreatRAk
namespace Go.Proofs.YtiejeicaaojdlaaGreat
open Go Go.Eng
theorem s_label {E : Env} {r : Option Nat} {z : Code} {A : AAct} {H : Hp} {Q : AExit → AAct → Hp → Prop} {i : Nat} (h : R1 E r z A H Q) : R1 E r (.seq (.label i) z) A H Q := R1.seq ⟨0, _, _, _, rfl, h⟩
def gapP (acc : List Gp) : Bool := acc.getLast?.any gapB
noncomputable def chkGp (less : Bool) : List Gp → List Gp → Int
 | _, [] => 0
 | acc, x :: l =>
  if gapB x = true then
   if less = true then 24 else if gapP acc = true then 5 else chkGp less (acc ++ [x]) l
  else if nmB x.2.1 = false then 20 else if x.1 < 1 ∨ (99 : Int) < x.1 then 21 else if hadB acc x.2.1 = true then 22 else if (less && x.2.2) = true then 24 else chkGp less (acc ++ [x]) l
theorem gapP_take {l : List Gp} {i : Nat} {y : Gp} (hi : 0 < i) (hy : l[i - 1]? = some y) : gapP (l.take i) = gapB y := by
 have h : (l.take i).getLast? = some y := by
  have hlt := (List.getElem?_eq_some_iff.1 hy).1
  rw [List.getLast?_eq_getElem?, List.length_take, Nat.min_eq_left (by omega), List.getElem?_take, if_pos (by omega)]
  exact hy
 unfold gapP
 rw [h]; rfl
set_option maxRecDepth 10000 in
set_option maxHeartbeats 16000000 in
theorem numChecked_con (H : Hp) (v : AC) (l : List Gp) (less : Bool) (hv : SlGp H v l) (hL : l.length ≤ 1000000) :
  Con E2 125 [.one v, .one (.b less)] H (fun _ => False) fun r _ => r = .one (.i .i64 (chkGp less [] l)) := by
 refine Con.of rfl fun lg => ?_
 have hv : SlGp ⟨H.t, H.nx, lg⟩ v l := hv
 generalize (⟨H.t, H.nx, lg⟩ : Hp) = H at hv ⊢
 refine C1.body (E := E2) (nt := 69) (res := [.tmp 4]) Tryz.func125 rfl rfl rfl rfl rfl fun tm hargs => ?_
 have h0 := hargs 0 _ rfl
 have h1 := hargs 1 _ rfl
 clear hargs
 have fin : ∀ (e : Int) (A : AAct) (H3 : Hp), slot A.tm 4 = .one (.i .i64 e) → A.dfr = [] → Gr H H3 → e = chkGp less [] l → ∃ w H4, callEnd E2 [.tmp 4] (.ret, A, H3) = .ok [(w, H4)] ∧ Gr H H4 ∧ ∀ _ : List Nat, w = .one (.i .i64 (chkGp less [] l)) := fun e A H3 h1 h2 h3 h4 => ⟨_, H3, callEnd_one (.i .i64 e) (.inr rfl) h2 h1, h3, fun _ => by rw [h4]⟩
 generalize hr0 : chkGp less [] l = r0 at fin
 refine qW (qA E2_P (qA h0 (qA ln_grps (qA hv.len hv.lt)))) ?_
 refine R1.scope (s_label ?_)
 refine qW (qA E2_P (qA h0 (qA ln_grps (qA hv.len hv.lt)))) ?_
 refine R1.s_block fun K k1 k2 k3 k4 => ?_
 refine R1.loop (fun k A H1 => ∃ i : Nat, k = l.length - i ∧ i ≤ l.length ∧ Gr H H1 ∧ chkGp less (l.take i) (l.drop i) = r0 ∧ slot A.tm 0 = .one v ∧ slot A.tm 1 = .one (.b less) ∧ slot A.tm 9 = .one v ∧ slot A.tm 10 = .one (.i .i64 (l.length : Int)) ∧ slot A.tm 11 = .one (.i .i64 (i : Int)) ∧ A.nt = 69 ∧ A.dfr = []) ?_ l.length
  ⟨0, rfl, Nat.zero_le _, Fr.refl _, hr0, ?_⟩
 ·clear h0 h1 tm
  rintro k A H1 ⟨i, rfl, hi, g1, hr, t0, t1, t9, t10, t11, hnt, hdf⟩
  have hv1 := hv.gr g1
  refine qW (qA E2_P (qA t10 (qA t11 hnt))) ?_
  refine qE fun Kx Ky hx hy => ?_
  refine iteI (fun hc => hx ?_) (fun hc => hy ?_)
  ·clear hx hy Kx Ky
   have hlt : i < l.length := by omega
   obtain ⟨id, g, off, cells, rfl, hid, hgr, hat⟩ := hv1.open (by omega)
   have ex : l[i]? = some l[i] := List.getElem?_eq_getElem hlt
   have hdr : l.drop i = l[i] :: l.drop (i + 1) := List.drop_eq_getElem_cons hlt
   have htk : l.take (i + 1) = l.take i ++ [l[i]] := List.take_succ_eq_append_getElem hlt
   generalize l[i] = x at ex hdr htk
   have hx1 := hat i x ex
   have hw2 : IntKind.i64.wrap ((i : Int) + 1) = ((i + 1 : Nat) : Int) := by rw [wrapI (by omega) (by omega)]; omega
   rw [hdr, chkGp] at hr
   refine qV ?_
   refine R1.s_block fun K2 q1 q2 q3 q4 => ?_
   refine qG (qA E2_P (qA t9 (qA t11 (qA hnt (qA el_grps (qA ld_grp (qA sz_grp (qA zr_grp (qA (ixC hlt) (qA hid (qA hgr (qA hx1.all (qA hx1.le gpC_e))))))))))))) fun K hK => ?_
   refine hK _ _ ?_
   clear hK K
   refine R1.gen (fun A3 H3 => Gr H1 H3 ∧ H1.nx < H3.nx ∧ H3.get H1.nx = some (.arr (gpC x) 196 0 0) ∧ slot A3.tm 0 = .one (.o (.sl id g off l.length 3)) ∧ slot A3.tm 1 = .one (.b less) ∧ slot A3.tm 5 = .one (.i .i64 (i : Int)) ∧ slot A3.tm 6 = .one (.o (.ptr H1.nx 0 0 3)) ∧ slot A3.tm 9 = .one (.o (.sl id g off l.length 3)) ∧ slot A3.tm 10 = .one (.i .i64 (l.length : Int)) ∧ slot A3.tm 11 = .one (.i .i64 (i : Int)) ∧ A3.nt = 69 ∧ A3.dfr = [])
    ⟨((Fr.refl _).new _).mod _ (.inl (Nat.le_refl _)), ?_⟩ ?_
   ·exact qZ (qA t0 (qA t1 (qA t9 (qA t10 (qA t11 (qA hnt (qA hdf gpC_e)))))))
   clear t0 t1 t9 t10 t11 hnt hdf A
   rintro A H3 ⟨g3, n3, rx, t0, t1, t5, t6, t9, t10, t11, hnt, hdf⟩
   have next : ∀ (A2 : AAct) (H2 : Hp), Gr H3 H2 → chkGp less (l.take (i + 1)) (l.drop (i + 1)) = r0 → slot A2.tm 0 = slot A.tm 0 → slot A2.tm 1 = slot A.tm 1 → slot A2.tm 9 = slot A.tm 9 → slot A2.tm 10 = slot A.tm 10 → slot A2.tm 11 = slot A.tm 11 → A2.nt = 69 → A2.dfr = [] →
     K2 .normal A2 H2 ∧ K2 (.exit 1) A2 H2 := by
    intro A2 H2 g2 hr s0 s1 s9 s10 s11 hn hd
    have g2' : Gr H H2 := g1.gr (g3.gr g2)
    rw [t0] at s0; rw [t1] at s1; rw [t9] at s9; rw [t10] at s10; rw [t11] at s11
    refine ⟨q1 _ _ ?_, q2 _ _ ?_⟩
    ·refine qW (qA hn (qA s11 hw2)) ?_
     refine ⟨l.length - (i + 1), by omega, i + 1, rfl, hlt, g2', hr, ?_, ?_, ?_, ?_, ?_, ?_, ?_⟩
     ·simp only [slot_put, Nat.reduceEqDiff, reduceIte, s0]
     ·simp only [slot_put, Nat.reduceEqDiff, reduceIte, s1]
     ·simp only [slot_put, Nat.reduceEqDiff, reduceIte, s9]
     ·simp only [slot_put, Nat.reduceEqDiff, reduceIte, s10]
     ·simp only [slot_put, Nat.reduceEqDiff, reduceIte]
     ·simp only [putD_nt, hn]
     ·simp only [putD_dfr, hd]
    ·refine qW (qA hn (qA s11 hw2)) ?_
     refine ⟨l.length - (i + 1), by omega, i + 1, rfl, hlt, g2', hr, ?_, ?_, ?_, ?_, ?_, ?_, ?_⟩
     ·simp only [slot_put, Nat.reduceEqDiff, reduceIte, s0]
     ·simp only [slot_put, Nat.reduceEqDiff, reduceIte, s1]
     ·simp only [slot_put, Nat.reduceEqDiff, reduceIte, s9]
     ·simp only [slot_put, Nat.reduceEqDiff, reduceIte, s10]
     ·simp only [slot_put, Nat.reduceEqDiff, reduceIte]
     ·simp only [putD_nt, hn]
     ·simp only [putD_dfr, hd]
   clear q1 q2
   rw [← htk] at hr
   refine R1.s_block fun K3 p1 p2 p3 p4 => ?_
   refine qG (qA E2_P (qA t6 (qA hnt (qA rx (qA n3 (qA ld_grp (qA gpC_e bd_gap))))))) fun K hK => ?_
   refine WE.con (gap_con H3 x) fun w H4 g4 hw => ?_
   subst hw
   have rx4 : H4.get H1.nx = some (.arr (gpC x) 196 0 0) := by rw [g4.get _ n3 not_false]; exact rx
   have n4 : H1.nx < H4.nx := Nat.lt_of_lt_of_le n3 g4.nx
   have g4' := g1.gr (g3.gr g4)
   cases hgp : gapB x with
   | true =>
    rw [if_pos hgp] at hr
    refine qS (qA E2_P (qA hnt t1)) ?_
    refine hK _ _ ?_
    clear hK K
    cases less with
    | true =>
     rw [if_pos rfl] at hr
     refine qY ?_
     refine qW hnt ?_
     exact p4 _ _ (q4 _ _ (k4 _ _ (fin 24 _ _ qp (qd hdf) g4' hr)))
    | false =>
     rw [if_neg Bool.false_ne_true] at hr
     refine qY ?_
     refine qG (qA E2_P (qA t6 (qA hnt (qA rx4 (qA n4 (qA ld_grp (qA gpC_e bd_gap))))))) fun K hK => ?_
     refine WE.con (gap_con H4 x) fun w H5 g5 hw => ?_
     subst hw
     have g35 : Gr H3 H5 := g4.gr g5
     have g5' : Gr H H5 := g4'.gr g5
     refine qS (qA E2_P (qA hnt hgp)) ?_
     refine hK _ _ ?_
     clear hK K
     refine qY ?_
     by_cases hi0 : i = 0
     ·have c0 : ((0 : Int) < (i : Int)) = False := eq_false (by omega)
      rw [hi0, List.take_zero, if_neg (by exact Bool.false_ne_true), ← hi0] at hr
      refine qW (qA E2_P (qA t5 (qA hnt c0))) ?_
      refine qY ?_
      refine qV ?_
      exact p3 1 _ _ (by decide) (next _ _ g35 hr qp qp qp qp qp (by simp only [putD_nt, hnt]) (qd hdf)).2
     ·have c0 : ((0 : Int) < (i : Int)) = True := eq_true (by omega)
      have hlt3 : i - 1 < l.length := by omega
      have ey : l[i - 1]? = some l[i - 1] := List.getElem?_eq_getElem hlt3
      have hgpp := gapP_take (by omega) ey
      generalize l[i - 1] = y at ey hgpp
      have hy1 := hat (i - 1) y ey
      have hw3 : IntKind.i64.wrap ((i : Int) - 1) = ((i - 1 : Nat) : Int) := by rw [wrapI (by omega) (by omega)]; omega
      have hid5 : id < H5.nx := Nat.lt_of_lt_of_le hid (g3.gr g35).nx
      have hgr5 : rowOf (H5.get id) g = some cells := by rw [(g3.gr g35).get _ hid not_false]; exact hgr
      rw [hgpp] at hr
      refine qG (qA E2_P (qA t0 (qA t5 (qA hnt (qA c0 (qA hw3 (qA el_grps (qA ld_grp (qA (ixC hlt3) (qA hid5 (qA hgr5 (qA hy1.all (qA hy1.le (qA gpC_e bd_gap)))))))))))))) fun K hK => ?_
      refine WE.con (gap_con H5 y) fun w H6 g6 hw => ?_
      subst hw
      have g36 : Gr H3 H6 := g35.gr g6
      have g6' : Gr H H6 := g5'.gr g6
      cases hgy : gapB y with
      | true =>
       rw [hgy, if_pos rfl] at hr
       refine qS (qA E2_P hnt) ?_
       refine hK _ _ ?_
       clear hK K
       refine qY ?_
       refine qW hnt ?_
       exact p4 _ _ (q4 _ _ (k4 _ _ (fin 5 _ _ qp (qd hdf) g6' hr)))
      | false =>
       rw [hgy, if_neg Bool.false_ne_true] at hr
       refine qS (qA E2_P hnt) ?_
       refine hK _ _ ?_
       clear hK K
       refine qY ?_
       refine qV ?_
       exact p3 1 _ _ (by decide) (next _ _ g36 hr qp qp qp qp qp (by simp only [putD_nt, hnt]) (qd hdf)).2
   | false =>
    rw [if_neg (by rw [hgp]; exact Bool.false_ne_true)] at hr
    refine qS (qA E2_P (qA hnt t1)) ?_
    refine hK _ _ ?_
    clear hK K
    refine qY ?_
    refine qG (qA E2_P (qA t6 (qA hnt (qA rx4 (qA n4 (qA ld_grp (qA gpC_e bd_gap))))))) fun K hK => ?_
    refine WE.con (gap_con H4 x) fun w H5 g5 hw => ?_
    subst hw
    have rx5 : H5.get H1.nx = some (.arr (gpC x) 196 0 0) := by rw [g5.get _ n4 not_false]; exact rx4
    have n5 : H1.nx < H5.nx := Nat.lt_of_lt_of_le n4 g5.nx
    have g35 : Gr H3 H5 := g4.gr g5
    have g5' : Gr H H5 := g4'.gr g5
    refine qS (qA E2_P (qA hnt hgp)) ?_
    refine hK _ _ ?_
    clear hK K
    refine qY ?_
    refine qG (qA E2_P (qA t6 (qA hnt (qA rx5 (qA n5 (qA fd_grp_1 (qA ld_str (qA gpC_e bd_isName)))))))) fun K hK => ?_
    refine WE.prim (isName_p x.2.1) fun H6 g6 nn6 e6 => ?_
    have rx6 : H6.get H1.nx = some (.arr (gpC x) 196 0 0) := (e6 _).trans rx5
    have n6 : H1.nx < H6.nx := by rw [nn6]; exact n5
    have g36 : Gr H3 H6 := g35.gr g6
    have g6' : Gr H H6 := g5'.gr g6
    cases hnm : nmB x.2.1 with
    | false =>
     rw [if_pos hnm] at hr
     refine qS (qA E2_P hnt) ?_
     refine hK _ _ ?_
     clear hK K
     refine qY ?_
     refine qW hnt ?_
     exact p4 _ _ (q4 _ _ (k4 _ _ (fin 20 _ _ qp (qd hdf) g6' hr)))
    | true =>
     rw [if_neg (by rw [hnm]; decide)] at hr
     refine qS (qA E2_P hnt) ?_
     refine hK _ _ ?_
     clear hK K
     refine qY ?_
     by_cases hn1 : x.1 < 1
     ·have c1 : (x.1 < 1) = True := eq_true hn1
      rw [if_pos (.inl hn1)] at hr
      refine qW (qA E2_P (qA t6 (qA hnt (qA rx6 (qA n6 (qA fd_grp_0 (qA ld_int (qA gpC_e c1)))))))) ?_
      refine qY ?_
      refine qW hnt ?_
      exact p4 _ _ (q4 _ _ (k4 _ _ (fin 21 _ _ qp (qd hdf) g6' hr)))
     ·have c1 : (x.1 < 1) = False := eq_false hn1
      by_cases hn2 : (99 : Int) < x.1
      ·have c2 : ((99 : Int) < x.1) = True := eq_true hn2
       rw [if_pos (.inr hn2)] at hr
       refine qW (qA E2_P (qA t6 (qA hnt (qA rx6 (qA n6 (qA fd_grp_0 (qA ld_int (qA gpC_e (qA c1 c2))))))))) ?_
       refine qY ?_
       refine qW hnt ?_
       exact p4 _ _ (q4 _ _ (k4 _ _ (fin 21 _ _ qp (qd hdf) g6' hr)))
      ·have c2 : ((99 : Int) < x.1) = False := eq_false hn2
       rw [if_neg (fun h => h.elim hn1 hn2)] at hr
       refine qW (qA E2_P (qA t6 (qA hnt (qA rx6 (qA n6 (qA fd_grp_0 (qA ld_int (qA gpC_e (qA c1 c2))))))))) ?_
       refine qY ?_
       refine qW hnt ?_
       refine p1 _ _ ?_
       have hid6 : id < H6.nx := Nat.lt_of_lt_of_le hid (g3.gr g36).nx
       have hgr6 : rowOf (H6.get id) g = some cells := by rw [(g3.gr g36).get _ hid not_false]; exact hgr
       generalize hrb : hadB (l.take i) x.2.1 = rb at hr
       have hti : (l.take i).length = i := by rw [List.length_take]; omega
       refine qG (qA E2_P (qA t0 (qA t5 (qA hnt (qA el_grps (qA ln_grps (qA (slH (Nat.le_of_lt hlt)) hid6))))))) fun K hK => ?_
       refine hK _ _ ?_
       clear hK K
       refine R1.s_block fun K4 u1 u2 u3 u4 => ?_
       refine R1.loop (fun k A2 H2 => ∃ j : Nat, k = i - j ∧ j ≤ i ∧ Gr H6 H2 ∧ hadB ((l.take i).drop j) x.2.1 = rb ∧ slot A2.tm 0 = .one (.o (.sl id g off l.length 3)) ∧ slot A2.tm 1 = .one (.b less) ∧ slot A2.tm 6 = .one (.o (.ptr H1.nx 0 0 3)) ∧ slot A2.tm 9 = .one (.o (.sl id g off l.length 3)) ∧ slot A2.tm 10 = .one (.i .i64 (l.length : Int)) ∧ slot A2.tm 11 = .one (.i .i64 (i : Int)) ∧ slot A2.tm 51 = .one (.o (.sl id g off i 3)) ∧ slot A2.tm 52 = .one (.i .i64 (i : Int)) ∧ slot A2.tm 53 = .one (.i .i64 (j : Int)) ∧ A2.nt = 69 ∧ A2.dfr = []) ?_ i
        ⟨0, rfl, Nat.zero_le _, Fr.refl _, by rw [List.drop_zero]; exact hrb, ?_⟩
       ·rintro k A2 H2 ⟨j, rfl, hj, g2, hr2, s0, s1, s6, s9, s10, s11, s51, s52, s53, hn, hd⟩
        have rx2 : H2.get H1.nx = some (.arr (gpC x) 196 0 0) := by rw [g2.get _ n6 not_false]; exact rx6
        have n2 : H1.nx < H2.nx := Nat.lt_of_lt_of_le n6 g2.nx
        have hid2 : id < H2.nx := Nat.lt_of_lt_of_le hid6 g2.nx
        have hgr2 : rowOf (H2.get id) g = some cells := by rw [g2.get _ hid6 not_false]; exact hgr6
        have g2' : Gr H H2 := g6'.gr g2
        refine qW (qA E2_P (qA s52 (qA s53 hn))) ?_
        refine qE fun Kx Ky hx hy => ?_
        refine iteI (fun hc => hx ?_) (fun hc => hy ?_)
        ·clear hx hy Kx Ky
         have hjt : j < i := by omega
         have hjt' : j < (l.take i).length := by omega
         have hdr2 : (l.take i).drop j = (l.take i)[j] :: (l.take i).drop (j + 1) := List.drop_eq_getElem_cons hjt'
         have ey : l[j]? = some (l.take i)[j] := by rw [List.getElem_take]; exact List.getElem?_eq_getElem (by omega)
         generalize (l.take i)[j] = y at hdr2 ey
         have hy1 := hat j y ey
         have hw4 : IntKind.i64.wrap ((j : Int) + 1) = ((j + 1 : Nat) : Int) := by rw [wrapI (by omega) (by omega)]; omega
         rw [hdr2, hadB, List.any_cons] at hr2
         refine qV ?_
         refine R1.s_block fun K5 w1 w2 w3 w4 => ?_
         refine qG (qA E2_P (qA s51 (qA s53 (qA hn (qA el_grps (qA ld_grp (qA sz_grp (qA zr_grp (qA (ixC hjt) (qA hid2 (qA hgr2 (qA hy1.all (qA hy1.le gpC_e))))))))))))) fun K hK => ?_
         refine hK _ _ ?_
         clear hK K
         refine R1.gen (fun A3 H7 => Gr H2 H7 ∧ H2.nx < H7.nx ∧ H7.get H2.nx = some (.arr (gpC y) 196 0 0) ∧ slot A3.tm 8 = .one (.o (.ptr H2.nx 0 0 3)) ∧ slot A3.tm 0 = .one (.o (.sl id g off l.length 3)) ∧ slot A3.tm 1 = .one (.b less) ∧ slot A3.tm 6 = .one (.o (.ptr H1.nx 0 0 3)) ∧ slot A3.tm 9 = .one (.o (.sl id g off l.length 3)) ∧ slot A3.tm 10 = .one (.i .i64 (l.length : Int)) ∧ slot A3.tm 11 = .one (.i .i64 (i : Int)) ∧ slot A3.tm 51 = .one (.o (.sl id g off i 3)) ∧ slot A3.tm 52 = .one (.i .i64 (i : Int)) ∧ slot A3.tm 53 = .one (.i .i64 (j : Int)) ∧ A3.nt = 69 ∧ A3.dfr = [])
          ⟨((Fr.refl _).new _).mod _ (.inl (Nat.le_refl _)), ?_⟩ ?_
         ·exact qZ (qA s0 (qA s1 (qA s6 (qA s9 (qA s10 (qA s11 (qA s51 (qA s52 (qA s53 (qA hn (qA hd gpC_e)))))))))))
         clear s0 s1 s6 s9 s10 s11 s51 s52 s53 hn hd A2
         rintro A2 H7 ⟨g7, n7, ry, s8, s0, s1, s6, s9, s10, s11, s51, s52, s53, hn, hd⟩
         have rx7 : H7.get H1.nx = some (.arr (gpC x) 196 0 0) := by rw [g7.get _ n2 not_false]; exact rx2
         have n17 : H1.nx < H7.nx := Nat.lt_of_lt_of_le n2 g7.nx
         have g7' : Gr H H7 := g2'.gr g7
         cases cs : (y.2.1 == x.2.1) with
         | true =>
          rw [cs, Bool.true_or] at hr2
          rw [← hr2, if_pos rfl] at hr
          refine qW (qA E2_P (qA s8 (qA s6 (qA hn (qA ry (qA n7 (qA rx7 (qA n17 (qA gpC_e (qA fd_grp_1 ld_str)))))))))) ?_
          refine qE fun Kx Ky hx hy => ?_
          rw [lEq_eq, cs]
          refine hx ?_
          clear hx hy Kx Ky
          refine qW hn ?_
          exact w4 _ _ (u4 _ _ (q4 _ _ (k4 _ _ (fin 22 _ _ qp (by simp only [putD_dfr, hd]) g7' hr))))
         | false =>
          rw [cs, Bool.false_or] at hr2
          refine qW (qA E2_P (qA s8 (qA s6 (qA hn (qA ry (qA n7 (qA rx7 (qA n17 (qA gpC_e (qA fd_grp_1 ld_str)))))))))) ?_
          refine qE fun Kx Ky hx hy => ?_
          rw [lEq_eq, cs]
          refine hy ?_
          clear hx hy Kx Ky
          refine qW hn ?_
          refine w1 _ _ ?_
          refine qW (qA hn (qA s53 hw4)) ?_
          refine ⟨i - (j + 1), by omega, j + 1, rfl, hjt, g2.gr g7, hr2, ?_, ?_, ?_, ?_, ?_, ?_, ?_, ?_, ?_, ?_, ?_⟩
          ·simp only [slot_put, Nat.reduceEqDiff, reduceIte, s0]
          ·simp only [slot_put, Nat.reduceEqDiff, reduceIte, s1]
          ·simp only [slot_put, Nat.reduceEqDiff, reduceIte, s6]
          ·simp only [slot_put, Nat.reduceEqDiff, reduceIte, s9]
          ·simp only [slot_put, Nat.reduceEqDiff, reduceIte, s10]
          ·simp only [slot_put, Nat.reduceEqDiff, reduceIte, s11]
          ·simp only [slot_put, Nat.reduceEqDiff, reduceIte, s51]
          ·simp only [slot_put, Nat.reduceEqDiff, reduceIte, s52]
          ·simp only [slot_put, Nat.reduceEqDiff, reduceIte]
          ·simp only [putD_nt, hn]
          ·simp only [putD_dfr, hd]
        ·clear hx hy Kx Ky
         have hje : (l.take i).drop j = [] := List.drop_eq_nil_of_le (by omega)
         rw [hje] at hr2
         rw [← hr2, if_neg (by exact Bool.false_ne_true)] at hr
         refine qW hn ?_
         refine u2 _ _ ?_
         cases less with
         | false =>
          rw [if_neg (by exact Bool.false_ne_true)] at hr
          refine qW (qA E2_P (qA s1 hn)) ?_
          refine qY ?_
          refine qW hn ?_
          exact (next _ _ (g36.gr g2) hr (by simp only [slot_put, Nat.reduceEqDiff, reduceIte, s0, t0]) (by simp only [slot_put, Nat.reduceEqDiff, reduceIte, s1, t1]) (by simp only [slot_put, Nat.reduceEqDiff, reduceIte, s9, t9]) (by simp only [slot_put, Nat.reduceEqDiff, reduceIte, s10, t10]) (by simp only [slot_put, Nat.reduceEqDiff, reduceIte, s11, t11]) (by simp only [putD_nt, hn]) (by simp only [putD_dfr, hd])).1
         | true =>
          cases hbr : x.2.2 with
          | true =>
           rw [hbr, if_pos (by rfl)] at hr
           refine qW (qA E2_P (qA s1 (qA s6 (qA hn (qA rx2 (qA n2 (qA gpC_e (qA fd_grp_2 (qA ld_bool hbr))))))))) ?_
           refine qY ?_
           refine qW hn ?_
           exact q4 _ _ (k4 _ _ (fin 24 _ _ qp (by simp only [putD_dfr, hd]) g2' hr))
          | false =>
           rw [hbr, if_neg (by exact Bool.false_ne_true)] at hr
           refine qW (qA E2_P (qA s1 (qA s6 (qA hn (qA rx2 (qA n2 (qA gpC_e (qA fd_grp_2 (qA ld_bool hbr))))))))) ?_
           refine qY ?_
           refine qW hn ?_
           exact (next _ _ (g36.gr g2) hr (by simp only [slot_put, Nat.reduceEqDiff, reduceIte, s0, t0]) (by simp only [slot_put, Nat.reduceEqDiff, reduceIte, s1, t1]) (by simp only [slot_put, Nat.reduceEqDiff, reduceIte, s9, t9]) (by simp only [slot_put, Nat.reduceEqDiff, reduceIte, s10, t10]) (by simp only [slot_put, Nat.reduceEqDiff, reduceIte, s11, t11]) (by simp only [putD_nt, hn]) (by simp only [putD_dfr, hd])).1
       ·simp only [slot_put, Nat.reduceEqDiff, reduceIte, putD_nt, putD_dfr, t0, t1, t6, t9, t10, t11, hnt, hdf, and_self, true_and]
        exact ⟨rfl, trivial⟩
  ·clear hx hy Kx Ky
   have hie : i = l.length := by omega
   rw [hie, List.drop_length, chkGp] at hr
   refine qW hnt ?_
   refine k2 _ _ ?_
   refine qW hnt ?_
   exact fin 0 _ _ qp (qd hdf) g1 hr
 ·simp only [slot_put, Nat.reduceEqDiff, reduceIte, putD_nt, putD_dfr, h0, h1, and_self, true_and]
  exact ⟨rfl, trivial⟩
end Go.Proofs.YtiejeicaaojdlaaGreat
namespace Go.Proofs.YtiejeicaaojdlaaGreat
open Go Go.Eng
set_option maxRecDepth 10000 in
set_option maxHeartbeats 16000000 in
theorem rGroups_con (H : Hp) (v : AC) (l : List Gp) (less : Bool) (hv : SlGp H v l) (hL : l.length ≤ 1000000) :
  Con E2 87 [.one v, .one (.b less)] H (fun _ => False) fun r _ => r = .one (.i .i64 (chkGp less [] l)) := by
 refine Con.of rfl fun lg => ?_
 have hv : SlGp ⟨H.t, H.nx, lg⟩ v l := hv
 generalize (⟨H.t, H.nx, lg⟩ : Hp) = H at hv ⊢
 refine C1.body (E := E2) (nt := 68) (res := [.tmp 4]) Tryz.func87 rfl rfl rfl rfl rfl fun tm hargs => ?_
 have h0 := hargs 0 _ rfl
 have h1 := hargs 1 _ rfl
 clear hargs
 have fin : ∀ (e : Int) (A : AAct) (H3 : Hp), slot A.tm 4 = .one (.i .i64 e) → A.dfr = [] → Gr H H3 → e = chkGp less [] l → ∃ w H4, callEnd E2 [.tmp 4] (.ret, A, H3) = .ok [(w, H4)] ∧ Gr H H4 ∧ ∀ _ : List Nat, w = .one (.i .i64 (chkGp less [] l)) := fun e A H3 h1 h2 h3 h4 => ⟨_, H3, callEnd_one (.i .i64 e) (.inr rfl) h2 h1, h3, fun _ => by rw [h4]⟩
 generalize hr0 : chkGp less [] l = r0 at fin
 refine qW E2_P ?_
 refine R1.s_block fun K k1 k2 k3 k4 => ?_
 refine R1.loop (fun k A H1 => ∃ i : Nat, k = l.length - i ∧ i ≤ l.length ∧ Gr H H1 ∧ chkGp less (l.take i) (l.drop i) = r0 ∧ slot A.tm 0 = .one v ∧ slot A.tm 1 = .one (.b less) ∧ slot A.tm 5 = .one (.i .i64 (i : Int)) ∧ A.nt = 68 ∧ A.dfr = []) ?_ l.length
  ⟨0, rfl, Nat.zero_le _, Fr.refl _, hr0, ?_⟩
 ·clear h0 h1 tm
  rintro k A H1 ⟨i, rfl, hi, g1, hr, t0, t1, t5, hnt, hdf⟩
  have hv1 := hv.gr g1
  refine qW (qA E2_P (qA t0 (qA t5 (qA hnt (qA ln_grps (qA hv1.len hv1.lt)))))) ?_
  refine qE fun Kx Ky hx hy => ?_
  refine iteI (fun hc => hx ?_) (fun hc => hy ?_)
  ·clear hx hy Kx Ky
   have hlt : i < l.length := by omega
   obtain ⟨id, g, off, cells, rfl, hid, hgr, hat⟩ := hv1.open (by omega)
   have ex : l[i]? = some l[i] := List.getElem?_eq_getElem hlt
   have hdr : l.drop i = l[i] :: l.drop (i + 1) := List.drop_eq_getElem_cons hlt
   have htk : l.take (i + 1) = l.take i ++ [l[i]] := List.take_succ_eq_append_getElem hlt
   generalize l[i] = x at ex hdr htk
   have hx1 := hat i x ex
   have hw2 : IntKind.i64.wrap ((i : Int) + 1) = ((i + 1 : Nat) : Int) := by rw [wrapI (by omega) (by omega)]; omega
   rw [hdr, chkGp] at hr
   refine qV ?_
   refine R1.s_block fun K2 q1 q2 q3 q4 => ?_
   refine qG (qA E2_P (qA t0 (qA t5 (qA hnt (qA el_grps (qA ld_grp (qA sz_grp (qA zr_grp (qA (ixC hlt) (qA hid (qA hgr (qA hx1.all (qA hx1.le gpC_e))))))))))))) fun K hK => ?_
   refine hK _ _ ?_
   clear hK K
   refine R1.gen (fun A3 H3 => Gr H1 H3 ∧ H1.nx < H3.nx ∧ H3.get H1.nx = some (.arr (gpC x) 196 0 0) ∧ slot A3.tm 0 = .one (.o (.sl id g off l.length 3)) ∧ slot A3.tm 1 = .one (.b less) ∧ slot A3.tm 5 = .one (.i .i64 (i : Int)) ∧ slot A3.tm 6 = .one (.o (.ptr H1.nx 0 0 3)) ∧ A3.nt = 68 ∧ A3.dfr = [])
    ⟨((Fr.refl _).new _).mod _ (.inl (Nat.le_refl _)), ?_⟩ ?_
   ·exact qZ (qA t0 (qA t1 (qA t5 (qA hnt (qA hdf gpC_e)))))
   clear t0 t1 t5 hnt hdf A
   rintro A H3 ⟨g3, n3, rx, t0, t1, t5, t6, hnt, hdf⟩
   have next : ∀ (A2 : AAct) (H2 : Hp), Gr H3 H2 → chkGp less (l.take (i + 1)) (l.drop (i + 1)) = r0 → slot A2.tm 0 = slot A.tm 0 → slot A2.tm 1 = slot A.tm 1 → slot A2.tm 5 = slot A.tm 5 → A2.nt = 68 → A2.dfr = [] →
     K2 .normal A2 H2 := by
    intro A2 H2 g2 hr s0 s1 s5 hn hd
    have g2' : Gr H H2 := g1.gr (g3.gr g2)
    rw [t0] at s0; rw [t1] at s1; rw [t5] at s5
    refine q1 _ _ ?_
    refine qW (qA hn (qA s5 hw2)) ?_
    refine ⟨l.length - (i + 1), by omega, i + 1, rfl, hlt, g2', hr, ?_, ?_, ?_, ?_, ?_⟩
    ·simp only [slot_put, Nat.reduceEqDiff, reduceIte, s0]
    ·simp only [slot_put, Nat.reduceEqDiff, reduceIte, s1]
    ·simp only [slot_put, Nat.reduceEqDiff, reduceIte]
    ·simp only [putD_nt, hn]
    ·simp only [putD_dfr, hd]
   clear q1 q2
   rw [← htk] at hr
   refine R1.e_block fun K3 p1 p2 p3 p4 => ?_
   refine qG (qA E2_P (qA t6 (qA hnt (qA rx (qA n3 (qA ld_grp (qA gpC_e bd_rGap))))))) fun K hK => ?_
   refine WE.con (rGap_con H3 x) fun w H4 g4 hw => ?_
   subst hw
   have rx4 : H4.get H1.nx = some (.arr (gpC x) 196 0 0) := by rw [g4.get _ n3 not_false]; exact rx
   have n4 : H1.nx < H4.nx := Nat.lt_of_lt_of_le n3 g4.nx
   have g4' := g1.gr (g3.gr g4)
   cases hgp : gapB x with
   | true =>
    rw [if_pos hgp] at hr
    refine qS (qA E2_P (qA hnt t1)) ?_
    refine hK _ _ ?_
    clear hK K
    cases less with
    | true =>
     rw [if_pos rfl] at hr
     refine qY ?_
     refine qW hnt ?_
     exact p4 _ _ (q4 _ _ (k4 _ _ (fin 24 _ _ qp (qd hdf) g4' hr)))
    | false =>
     rw [if_neg Bool.false_ne_true] at hr
     refine qY ?_
     refine qG (qA E2_P (qA t6 (qA hnt (qA rx4 (qA n4 (qA ld_grp (qA gpC_e bd_rGap))))))) fun K hK => ?_
     refine WE.con (rGap_con H4 x) fun w H5 g5 hw => ?_
     subst hw
     have rx5 : H5.get H1.nx = some (.arr (gpC x) 196 0 0) := by rw [g5.get _ n4 not_false]; exact rx4
     have n5 : H1.nx < H5.nx := Nat.lt_of_lt_of_le n4 g5.nx
     have g35 : Gr H3 H5 := g4.gr g5
     have g5' : Gr H H5 := g4'.gr g5
     by_cases hi0 : i = 0
     ·have c0 : ((0 : Int) < (i : Int)) = False := eq_false (by omega)
      rw [hi0, List.take_zero, if_neg (by exact Bool.false_ne_true), ← hi0] at hr
      refine qS (qA E2_P (qA t5 (qA hnt (qA hgp c0)))) ?_
      refine hK _ _ ?_
      clear hK K
      refine qY ?_
      refine qG (qA E2_P (qA t6 (qA hnt (qA rx5 (qA n5 (qA ld_grp (qA gpC_e bd_rGap))))))) fun K hK => ?_
      refine WE.con (rGap_con H5 x) fun w H6 g6 hw => ?_
      subst hw
      have g36 : Gr H3 H6 := g35.gr g6
      refine qS (qA E2_P (qA hnt hgp)) ?_
      refine hK _ _ ?_
      clear hK K
      refine qY ?_
      refine qV ?_
      exact p1 _ _ (next _ _ g36 hr qp qp qp (by simp only [putD_nt, hnt]) (qd hdf))
     ·have c0 : ((0 : Int) < (i : Int)) = True := eq_true (by omega)
      have hlt3 : i - 1 < l.length := by omega
      have ey : l[i - 1]? = some l[i - 1] := List.getElem?_eq_getElem hlt3
      have hgpp := gapP_take (by omega) ey
      generalize l[i - 1] = y at ey hgpp
      have hy1 := hat (i - 1) y ey
      have hw3 : IntKind.i64.wrap ((i : Int) - 1) = ((i - 1 : Nat) : Int) := by rw [wrapI (by omega) (by omega)]; omega
      have hid5 : id < H5.nx := Nat.lt_of_lt_of_le hid (g3.gr g35).nx
      have hgr5 : rowOf (H5.get id) g = some cells := by rw [(g3.gr g35).get _ hid not_false]; exact hgr
      rw [hgpp] at hr
      refine qS (qA E2_P (qA t0 (qA t5 (qA hnt (qA hgp (qA c0 (qA hw3 (qA el_grps (qA ld_grp (qA (ixC hlt3) (qA hid5 (qA hgr5 (qA hy1.all (qA hy1.le (qA gpC_e bd_rGap))))))))))))))) ?_
      refine WE.con (rGap_con H5 y) fun w H6 g6 hw => ?_
      subst hw
      have rx6 : H6.get H1.nx = some (.arr (gpC x) 196 0 0) := by rw [g6.get _ n5 not_false]; exact rx5
      have n6 : H1.nx < H6.nx := Nat.lt_of_lt_of_le n5 g6.nx
      have g36 : Gr H3 H6 := g35.gr g6
      have g6' : Gr H H6 := g5'.gr g6
      cases hgy : gapB y with
      | true =>
       rw [hgy, if_pos rfl] at hr
       refine qS (qA E2_P hnt) ?_
       refine hK _ _ ?_
       clear hK K
       refine qY ?_
       refine qW hnt ?_
       exact p4 _ _ (q4 _ _ (k4 _ _ (fin 5 _ _ qp (qd hdf) g6' hr)))
      | false =>
       rw [hgy, if_neg Bool.false_ne_true] at hr
       refine qS (qA E2_P hnt) ?_
       refine hK _ _ ?_
       clear hK K
       refine qY ?_
       refine qG (qA E2_P (qA t6 (qA hnt (qA rx6 (qA n6 (qA ld_grp (qA gpC_e bd_rGap))))))) fun K hK => ?_
       refine WE.con (rGap_con H6 x) fun w H7 g7 hw => ?_
       subst hw
       have g37 : Gr H3 H7 := g36.gr g7
       refine qS (qA E2_P (qA hnt hgp)) ?_
       refine hK _ _ ?_
       clear hK K
       refine qY ?_
       refine qV ?_
       exact p1 _ _ (next _ _ g37 hr qp qp qp (by simp only [putD_nt, hnt]) (qd hdf))
   | false =>
    rw [if_neg (by rw [hgp]; exact Bool.false_ne_true)] at hr
    refine qS (qA E2_P (qA hnt t1)) ?_
    refine hK _ _ ?_
    clear hK K
    refine qY ?_
    refine qG (qA E2_P (qA t6 (qA hnt (qA rx4 (qA n4 (qA ld_grp (qA gpC_e bd_rGap))))))) fun K hK => ?_
    refine WE.con (rGap_con H4 x) fun w H5 g5 hw => ?_
    subst hw
    have rx5 : H5.get H1.nx = some (.arr (gpC x) 196 0 0) := by rw [g5.get _ n4 not_false]; exact rx4
    have n5 : H1.nx < H5.nx := Nat.lt_of_lt_of_le n4 g5.nx
    have g35 : Gr H3 H5 := g4.gr g5
    have g5' : Gr H H5 := g4'.gr g5
    refine qS (qA E2_P (qA hnt hgp)) ?_
    refine hK _ _ ?_
    clear hK K
    refine qY ?_
    refine qG (qA E2_P (qA t6 (qA hnt (qA rx5 (qA n5 (qA ld_grp (qA gpC_e bd_rGap))))))) fun K hK => ?_
    refine WE.con (rGap_con H5 x) fun w H8 g8 hw => ?_
    subst hw
    have rx8 : H8.get H1.nx = some (.arr (gpC x) 196 0 0) := by rw [g8.get _ n5 not_false]; exact rx5
    have n8 : H1.nx < H8.nx := Nat.lt_of_lt_of_le n5 g8.nx
    have g38 : Gr H3 H8 := g35.gr g8
    have g8' : Gr H H8 := g5'.gr g8
    refine qS (qA E2_P (qA hnt hgp)) ?_
    refine hK _ _ ?_
    clear hK K
    refine qY ?_
    refine qG (qA E2_P (qA t6 (qA hnt (qA rx8 (qA n8 (qA fd_grp_1 (qA ld_str (qA gpC_e bd_refName)))))))) fun K hK => ?_
    refine WE.con (refName_con H8 x.2.1) fun w H6 g6 hw => ?_
    subst hw
    have rx6 : H6.get H1.nx = some (.arr (gpC x) 196 0 0) := by rw [g6.get _ n8 not_false]; exact rx8
    have n6 : H1.nx < H6.nx := Nat.lt_of_lt_of_le n8 g6.nx
    have g36 : Gr H3 H6 := g38.gr g6
    have g6' : Gr H H6 := g8'.gr g6
    cases hnm : nmB x.2.1 with
    | false =>
     rw [if_pos hnm] at hr
     refine qS (qA E2_P hnt) ?_
     refine hK _ _ ?_
     clear hK K
     refine qY ?_
     refine qW hnt ?_
     exact p4 _ _ (q4 _ _ (k4 _ _ (fin 20 _ _ qp (qd hdf) g6' hr)))
    | true =>
     rw [if_neg (by rw [hnm]; decide)] at hr
     refine qS (qA E2_P hnt) ?_
     refine hK _ _ ?_
     clear hK K
     refine qY ?_
     by_cases hn1 : x.1 < 1
     ·have c1 : (x.1 < 1) = True := eq_true hn1
      rw [if_pos (.inl hn1)] at hr
      refine qW (qA E2_P (qA t6 (qA hnt (qA rx6 (qA n6 (qA fd_grp_0 (qA ld_int (qA gpC_e c1)))))))) ?_
      refine qY ?_
      refine qW hnt ?_
      exact p4 _ _ (q4 _ _ (k4 _ _ (fin 21 _ _ qp (qd hdf) g6' hr)))
     ·have c1 : (x.1 < 1) = False := eq_false hn1
      by_cases hn2 : (99 : Int) < x.1
      ·have c2 : ((99 : Int) < x.1) = True := eq_true hn2
       rw [if_pos (.inr hn2)] at hr
       refine qW (qA E2_P (qA t6 (qA hnt (qA rx6 (qA n6 (qA fd_grp_0 (qA ld_int (qA gpC_e (qA c1 c2))))))))) ?_
       refine qY ?_
       refine qW hnt ?_
       exact p4 _ _ (q4 _ _ (k4 _ _ (fin 21 _ _ qp (qd hdf) g6' hr)))
      ·have c2 : ((99 : Int) < x.1) = False := eq_false hn2
       rw [if_neg (fun h => h.elim hn1 hn2)] at hr
       have hid6 : id < H6.nx := Nat.lt_of_lt_of_le hid (g3.gr g36).nx
       have hgr6 : rowOf (H6.get id) g = some cells := by rw [(g3.gr g36).get _ hid not_false]; exact hgr
       have hvt : SlGp H6 (.o (.sl id g off i 3)) (l.take i) := (hv1.gr (g3.gr g36)).take (Nat.le_of_lt hlt)
       refine qG (qA E2_P (qA t6 (qA hnt (qA rx6 (qA n6 (qA fd_grp_0 (qA ld_int (qA gpC_e (qA c1 c2))))))))) fun K hK => ?_
       refine hK _ _ ?_
       clear hK K
       refine qY ?_
       refine qG (qA E2_P (qA t0 (qA t5 (qA t6 (qA hnt (qA el_grps (qA (slH (Nat.le_of_lt hlt)) (qA hid6 (qA rx6 (qA n6 (qA fd_grp_1 (qA ld_str (qA gpC_e bd_had))))))))))))) fun K hK => ?_
       refine WE.con (had_con H6 _ (l.take i) x.2.1 hvt (by rw [List.length_take]; omega)) fun w H7 g7 hw => ?_
       subst hw
       have rx7 : H7.get H1.nx = some (.arr (gpC x) 196 0 0) := by rw [g7.get _ n6 not_false]; exact rx6
       have n7 : H1.nx < H7.nx := Nat.lt_of_lt_of_le n6 g7.nx
       have g37 : Gr H3 H7 := g36.gr g7
       have g7' : Gr H H7 := g6'.gr g7
       refine qS (qA E2_P hnt) ?_
       refine hK _ _ ?_
       clear hK K
       cases hhd : hadB (l.take i) x.2.1 with
       | true =>
        rw [hhd, if_pos rfl] at hr
        refine qY ?_
        refine qW hnt ?_
        exact p4 _ _ (q4 _ _ (k4 _ _ (fin 22 _ _ qp (qd hdf) g7' hr)))
       | false =>
        rw [hhd, if_neg Bool.false_ne_true] at hr
        refine qY ?_
        cases less with
        | false =>
         rw [if_neg (by exact Bool.false_ne_true)] at hr
         refine qW (qA E2_P (qA t1 hnt)) ?_
         refine qY ?_
         refine qW hnt ?_
         exact p1 _ _ (next _ _ g37 hr qp qp qp (by simp only [putD_nt, hnt]) (qd hdf))
        | true =>
         cases hbr : x.2.2 with
         | true =>
          rw [hbr, if_pos (by rfl)] at hr
          refine qW (qA E2_P (qA t1 (qA t6 (qA hnt (qA rx7 (qA n7 (qA gpC_e (qA fd_grp_2 (qA ld_bool hbr))))))))) ?_
          refine qY ?_
          refine qW hnt ?_
          exact p4 _ _ (q4 _ _ (k4 _ _ (fin 24 _ _ qp (qd hdf) g7' hr)))
         | false =>
          rw [hbr, if_neg (by exact Bool.false_ne_true)] at hr
          refine qW (qA E2_P (qA t1 (qA t6 (qA hnt (qA rx7 (qA n7 (qA gpC_e (qA fd_grp_2 (qA ld_bool hbr))))))))) ?_
          refine qY ?_
          refine qW hnt ?_
          exact p1 _ _ (next _ _ g37 hr qp qp qp (by simp only [putD_nt, hnt]) (qd hdf))
  ·clear hx hy Kx Ky
   have hie : i = l.length := by omega
   rw [hie, List.drop_length, chkGp] at hr
   refine qW hnt ?_
   refine k2 _ _ ?_
   refine qW hnt ?_
   exact fin 0 _ _ qp (qd hdf) g1 hr
 ·simp only [slot_put, Nat.reduceEqDiff, reduceIte, putD_nt, putD_dfr, h0, h1, and_self, true_and]
  exact ⟨rfl, trivial⟩
end Go.Proofs.YtiejeicaaojdlaaGreat
namespace Go.Proofs.YtiejeicaaojdlaaGreat
open Go Go.Eng
abbrev Nm := List Gp × List Gp
noncomputable def chkNm (x : Nm) : Int :=
 if (24 : Int) < x.1.length ∨ (24 : Int) < x.2.length then 3 else if x.1.length = 0 then 5 else
 if chkGp false [] x.1 ≠ 0 then chkGp false [] x.1 else if chkGp true [] x.2 ≠ 0 then chkGp true [] x.2 else
 if (0 < x.2.length ∧ brkB x.1 = true) then 24 else 0
set_option maxRecDepth 10000 in
set_option maxHeartbeats 4000000 in
theorem numCheck_con (H : Hp) (u w : AC) (x : Nm) (hu : SlGp H u x.1) (hw : SlGp H w x.2) :
  Con E2 86 [.agg [u, w]] H (fun _ => False) fun r _ => r = .one (.i .i64 (chkNm x)) := by
 refine Con.of rfl fun lg => ?_
 have hu : SlGp ⟨H.t, H.nx, lg⟩ u x.1 := hu
 have hw : SlGp ⟨H.t, H.nx, lg⟩ w x.2 := hw
 generalize (⟨H.t, H.nx, lg⟩ : Hp) = H at hu hw ⊢
 refine C1.body (E := E2) (nt := 40) (res := [.tmp 2]) Tryz.func86 rfl rfl rfl rfl rfl fun tm hargs => ?_
 have h0 := hargs 0 _ rfl
 clear hargs
 have fin : ∀ (e : Int) (A : AAct) (H3 : Hp), slot A.tm 2 = .one (.i .i64 e) → A.dfr = [] → Gr H H3 → e = chkNm x → ∃ w H4, callEnd E2 [.tmp 2] (.ret, A, H3) = .ok [(w, H4)] ∧ Gr H H4 ∧ ∀ _ : List Nat, w = .one (.i .i64 (chkNm x)) := fun e A H3 h1 h2 h3 h4 => ⟨_, H3, callEnd_one (.i .i64 e) (.inr rfl) h2 h1, h3, fun _ => by rw [h4]⟩
 generalize hr0 : chkNm x = r0 at fin
 unfold chkNm at hr0
 refine qG (qA E2_P h0) fun K hK => ?_
 refine hK _ _ ?_
 clear hK K
 refine R1.gen (fun A1 H1 => Gr H H1 ∧ H.nx < H1.nx ∧ H1.get H.nx = some (.arr [u, w] 106 0 0) ∧ slot A1.tm 1 = .one (.o (.ptr H.nx 0 0 2)) ∧ A1.nt = 40 ∧ A1.dfr = [])
  ⟨(Fr.refl _).new _, ?_⟩ ?_
 ·exact qZ h0
 rintro A1 H1 ⟨g1, n1, rx, t1, hnt, hdf⟩
 clear h0 tm
 have hu1 := hu.gr g1
 have hw1 := hw.gr g1
 by_cases h24 : (24 : Int) < x.1.length
 ·have c24 : ((24 : Int) < x.1.length) = True := eq_true h24
  rw [if_pos (.inl h24)] at hr0
  refine qW (qA E2_P (qA t1 (qA hnt (qA rx (qA n1 (qA fd_num_0 (qA ld_grps (qA ln_grps (qA hu1.len (qA hu1.lt c24)))))))))) ?_
  refine qY ?_
  refine qW hnt ?_
  exact fin 3 _ _ qp (qd hdf) g1 hr0
 have c24 : ((24 : Int) < x.1.length) = False := eq_false h24
 by_cases h25 : (24 : Int) < x.2.length
 ·have c25 : ((24 : Int) < x.2.length) = True := eq_true h25
  rw [if_pos (.inr h25)] at hr0
  refine qW (qA E2_P (qA t1 (qA hnt (qA rx (qA n1 (qA fd_num_0 (qA fd_num_1 (qA ld_grps (qA ln_grps (qA hu1.len (qA hu1.lt (qA hw1.len (qA hw1.lt (qA c24 c25)))))))))))))) ?_
  refine qY ?_
  refine qW hnt ?_
  exact fin 3 _ _ qp (qd hdf) g1 hr0
 have c25 : ((24 : Int) < x.2.length) = False := eq_false h25
 rw [if_neg (fun h => h.elim h24 h25)] at hr0
 refine qW (qA E2_P (qA t1 (qA hnt (qA rx (qA n1 (qA fd_num_0 (qA fd_num_1 (qA ld_grps (qA ln_grps (qA hu1.len (qA hu1.lt (qA hw1.len (qA hw1.lt (qA c24 c25)))))))))))))) ?_
 refine qY ?_
 by_cases hz : x.1.length = 0
 ·have cz : ((x.1.length : Int) == 0) = true := by rw [hz]; rfl
  rw [if_pos hz] at hr0
  refine qW (qA E2_P (qA t1 (qA hnt (qA rx (qA n1 (qA fd_num_0 (qA ld_grps (qA ln_grps (qA hu1.len (qA hu1.lt cz)))))))))) ?_
  refine qY ?_
  refine qW hnt ?_
  exact fin 5 _ _ qp (qd hdf) g1 hr0
 have cz : ((x.1.length : Int) == 0) = false := beq_false_of_ne (by omega)
 rw [if_neg hz] at hr0
 refine qW (qA E2_P (qA t1 (qA hnt (qA rx (qA n1 (qA fd_num_0 (qA ld_grps (qA ln_grps (qA hu1.len (qA hu1.lt cz)))))))))) ?_
 refine qY ?_
 refine R1.s_skip ?_
 refine qG (qA E2_P (qA t1 (qA hnt (qA rx (qA n1 (qA fd_num_0 (qA ld_grps bd_numChecked))))))) fun K hK => ?_
 refine WE.con (numChecked_con H1 u x.1 false hu1 (by omega)) fun r H2 g2 hr => ?_
 subst hr
 have rx2 : H2.get H.nx = some (.arr [u, w] 106 0 0) := by rw [g2.get _ n1 not_false]; exact rx
 have n2 : H.nx < H2.nx := Nat.lt_of_lt_of_le n1 g2.nx
 have g2' := g1.gr g2
 refine qS (qA E2_P hnt) ?_
 refine hK _ _ ?_
 clear hK K
 generalize chkGp false [] x.1 = e1 at hr0 ⊢
 by_cases he1 : e1 = 0
 case neg =>
  have ce : (e1 != 0) = true := bne_iff_ne.2 he1
  rw [if_pos he1] at hr0
  refine qW (qA E2_P (qA hnt ce)) ?_
  refine qE fun Kx Ky hx hy => ?_
  refine iteI (fun _ => hx ?_) (fun h => absurd ce (by simpa using h))
  clear hx hy Kx Ky
  refine qW hnt ?_
  exact fin e1 _ _ qp (qd hdf) g2' hr0
 rw [if_neg (fun h => h he1)] at hr0
 refine qW (qA E2_P (qA hnt he1)) ?_
 refine qY ?_
 refine R1.s_skip ?_
 refine qG (qA E2_P (qA t1 (qA hnt (qA rx2 (qA n2 (qA fd_num_1 (qA ld_grps bd_numChecked))))))) fun K hK => ?_
 refine WE.con (numChecked_con H2 w x.2 true (hw1.gr g2) (by omega)) fun r H3 g3 hr => ?_
 subst hr
 have rx3 : H3.get H.nx = some (.arr [u, w] 106 0 0) := by rw [g3.get _ n2 not_false]; exact rx2
 have n3 : H.nx < H3.nx := Nat.lt_of_lt_of_le n2 g3.nx
 have g3' := g2'.gr g3
 have hu3 := (hu1.gr g2).gr g3
 have hw3 := (hw1.gr g2).gr g3
 refine qS (qA E2_P hnt) ?_
 refine hK _ _ ?_
 clear hK K
 generalize chkGp true [] x.2 = e2 at hr0 ⊢
 by_cases he2 : e2 = 0
 case neg =>
  have ce : (e2 != 0) = true := bne_iff_ne.2 he2
  rw [if_pos he2] at hr0
  refine qW (qA E2_P (qA hnt ce)) ?_
  refine qE fun Kx Ky hx hy => ?_
  refine iteI (fun _ => hx ?_) (fun h => absurd ce (by simpa using h))
  clear hx hy Kx Ky
  refine qW hnt ?_
  exact fin e2 _ _ qp (qd hdf) g3' hr0
 rw [if_neg (fun h => h he2)] at hr0
 refine qW (qA E2_P (qA hnt he2)) ?_
 refine qY ?_
 refine R1.s_skip ?_
 by_cases hp : 0 < x.2.length
 ·have cp : ((0 : Int) < x.2.length) = True := eq_true (by omega)
  refine qG (qA E2_P (qA t1 (qA hnt (qA rx3 (qA n3 (qA fd_num_0 (qA fd_num_1 (qA ld_grps (qA ln_grps (qA hu3.lt (qA hw3.len (qA hw3.lt (qA cp bd_broken))))))))))))) fun K hK => ?_
  refine WE.con (broken_con H3 u x.1 hu3 (by omega)) fun r H4 g4 hr => ?_
  subst hr
  have g4' := g3'.gr g4
  refine qS (qA E2_P hnt) ?_
  refine hK _ _ ?_
  clear hK K
  cases hb : brkB x.1 with
  | true =>
   rw [if_pos ⟨hp, hb⟩] at hr0
   refine qY ?_
   refine qW hnt ?_
   exact fin 24 _ _ qp (qd hdf) g4' hr0
  | false =>
   rw [if_neg (fun h => by rw [hb] at h; cases h.2)] at hr0
   refine qY ?_
   refine qW hnt ?_
   exact fin 0 _ _ qp (qd hdf) g4' hr0
 ·have cp : ((0 : Int) < x.2.length) = False := eq_false (by omega)
  rw [if_neg (fun h => hp h.1)] at hr0
  refine qW (qA E2_P (qA t1 (qA hnt (qA rx3 (qA n3 (qA fd_num_0 (qA fd_num_1 (qA ld_grps (qA ln_grps (qA hu3.lt (qA hw3.len (qA hw3.lt cp)))))))))))) ?_
  refine qY ?_
  refine qW hnt ?_
  exact fin 0 _ _ qp (qd hdf) g3' hr0
set_option maxRecDepth 10000 in
set_option maxHeartbeats 4000000 in
theorem rNumCheck_con (H : Hp) (u w : AC) (x : Nm) (hu : SlGp H u x.1) (hw : SlGp H w x.2) :
  Con E2 53 [.agg [u, w]] H (fun _ => False) fun r _ => r = .one (.i .i64 (chkNm x)) := by
 refine Con.of rfl fun lg => ?_
 have hu : SlGp ⟨H.t, H.nx, lg⟩ u x.1 := hu
 have hw : SlGp ⟨H.t, H.nx, lg⟩ w x.2 := hw
 generalize (⟨H.t, H.nx, lg⟩ : Hp) = H at hu hw ⊢
 refine C1.body (E := E2) (nt := 40) (res := [.tmp 2]) Tryz.func53 rfl rfl rfl rfl rfl fun tm hargs => ?_
 have h0 := hargs 0 _ rfl
 clear hargs
 have fin : ∀ (e : Int) (A : AAct) (H3 : Hp), slot A.tm 2 = .one (.i .i64 e) → A.dfr = [] → Gr H H3 → e = chkNm x → ∃ w H4, callEnd E2 [.tmp 2] (.ret, A, H3) = .ok [(w, H4)] ∧ Gr H H4 ∧ ∀ _ : List Nat, w = .one (.i .i64 (chkNm x)) := fun e A H3 h1 h2 h3 h4 => ⟨_, H3, callEnd_one (.i .i64 e) (.inr rfl) h2 h1, h3, fun _ => by rw [h4]⟩
 generalize hr0 : chkNm x = r0 at fin
 unfold chkNm at hr0
 refine qG (qA E2_P h0) fun K hK => ?_
 refine hK _ _ ?_
 clear hK K
 refine R1.gen (fun A1 H1 => Gr H H1 ∧ H.nx < H1.nx ∧ H1.get H.nx = some (.arr [u, w] 106 0 0) ∧ slot A1.tm 1 = .one (.o (.ptr H.nx 0 0 2)) ∧ A1.nt = 40 ∧ A1.dfr = [])
  ⟨(Fr.refl _).new _, ?_⟩ ?_
 ·exact qZ h0
 rintro A1 H1 ⟨g1, n1, rx, t1, hnt, hdf⟩
 clear h0 tm
 have hu1 := hu.gr g1
 have hw1 := hw.gr g1
 by_cases h24 : (24 : Int) < x.1.length
 ·have c24 : ((24 : Int) < x.1.length) = True := eq_true h24
  rw [if_pos (.inl h24)] at hr0
  refine qW (qA E2_P (qA t1 (qA hnt (qA rx (qA n1 (qA fd_num_0 (qA ld_grps (qA ln_grps (qA hu1.len (qA hu1.lt c24)))))))))) ?_
  refine qY ?_
  refine qW hnt ?_
  exact fin 3 _ _ qp (qd hdf) g1 hr0
 have c24 : ((24 : Int) < x.1.length) = False := eq_false h24
 by_cases h25 : (24 : Int) < x.2.length
 ·have c25 : ((24 : Int) < x.2.length) = True := eq_true h25
  rw [if_pos (.inr h25)] at hr0
  refine qW (qA E2_P (qA t1 (qA hnt (qA rx (qA n1 (qA fd_num_0 (qA fd_num_1 (qA ld_grps (qA ln_grps (qA hu1.len (qA hu1.lt (qA hw1.len (qA hw1.lt (qA c24 c25)))))))))))))) ?_
  refine qY ?_
  refine qW hnt ?_
  exact fin 3 _ _ qp (qd hdf) g1 hr0
 have c25 : ((24 : Int) < x.2.length) = False := eq_false h25
 rw [if_neg (fun h => h.elim h24 h25)] at hr0
 refine qW (qA E2_P (qA t1 (qA hnt (qA rx (qA n1 (qA fd_num_0 (qA fd_num_1 (qA ld_grps (qA ln_grps (qA hu1.len (qA hu1.lt (qA hw1.len (qA hw1.lt (qA c24 c25)))))))))))))) ?_
 refine qY ?_
 by_cases hz : x.1.length = 0
 ·have cz : ((x.1.length : Int) == 0) = true := by rw [hz]; rfl
  rw [if_pos hz] at hr0
  refine qW (qA E2_P (qA t1 (qA hnt (qA rx (qA n1 (qA fd_num_0 (qA ld_grps (qA ln_grps (qA hu1.len (qA hu1.lt cz)))))))))) ?_
  refine qY ?_
  refine qW hnt ?_
  exact fin 5 _ _ qp (qd hdf) g1 hr0
 have cz : ((x.1.length : Int) == 0) = false := beq_false_of_ne (by omega)
 rw [if_neg hz] at hr0
 refine qW (qA E2_P (qA t1 (qA hnt (qA rx (qA n1 (qA fd_num_0 (qA ld_grps (qA ln_grps (qA hu1.len (qA hu1.lt cz)))))))))) ?_
 refine qY ?_
 refine R1.s_skip ?_
 refine qG (qA E2_P (qA t1 (qA hnt (qA rx (qA n1 (qA fd_num_0 (qA ld_grps bd_rGroups))))))) fun K hK => ?_
 refine WE.con (rGroups_con H1 u x.1 false hu1 (by omega)) fun r H2 g2 hr => ?_
 subst hr
 have rx2 : H2.get H.nx = some (.arr [u, w] 106 0 0) := by rw [g2.get _ n1 not_false]; exact rx
 have n2 : H.nx < H2.nx := Nat.lt_of_lt_of_le n1 g2.nx
 have g2' := g1.gr g2
 refine qS (qA E2_P hnt) ?_
 refine hK _ _ ?_
 clear hK K
 generalize chkGp false [] x.1 = e1 at hr0 ⊢
 by_cases he1 : e1 = 0
 case neg =>
  have ce : (e1 != 0) = true := bne_iff_ne.2 he1
  rw [if_pos he1] at hr0
  refine qW (qA E2_P (qA hnt ce)) ?_
  refine qE fun Kx Ky hx hy => ?_
  refine iteI (fun _ => hx ?_) (fun h => absurd ce (by simpa using h))
  clear hx hy Kx Ky
  refine qW hnt ?_
  exact fin e1 _ _ qp (qd hdf) g2' hr0
 rw [if_neg (fun h => h he1)] at hr0
 refine qW (qA E2_P (qA hnt he1)) ?_
 refine qY ?_
 refine R1.s_skip ?_
 refine qG (qA E2_P (qA t1 (qA hnt (qA rx2 (qA n2 (qA fd_num_1 (qA ld_grps bd_rGroups))))))) fun K hK => ?_
 refine WE.con (rGroups_con H2 w x.2 true (hw1.gr g2) (by omega)) fun r H3 g3 hr => ?_
 subst hr
 have rx3 : H3.get H.nx = some (.arr [u, w] 106 0 0) := by rw [g3.get _ n2 not_false]; exact rx2
 have n3 : H.nx < H3.nx := Nat.lt_of_lt_of_le n2 g3.nx
 have g3' := g2'.gr g3
 have hu3 := (hu1.gr g2).gr g3
 have hw3 := (hw1.gr g2).gr g3
 refine qS (qA E2_P hnt) ?_
 refine hK _ _ ?_
 clear hK K
 generalize chkGp true [] x.2 = e2 at hr0 ⊢
 by_cases he2 : e2 = 0
 case neg =>
  have ce : (e2 != 0) = true := bne_iff_ne.2 he2
  rw [if_pos he2] at hr0
  refine qW (qA E2_P (qA hnt ce)) ?_
  refine qE fun Kx Ky hx hy => ?_
  refine iteI (fun _ => hx ?_) (fun h => absurd ce (by simpa using h))
  clear hx hy Kx Ky
  refine qW hnt ?_
  exact fin e2 _ _ qp (qd hdf) g3' hr0
 rw [if_neg (fun h => h he2)] at hr0
 refine qW (qA E2_P (qA hnt he2)) ?_
 refine qY ?_
 refine R1.s_skip ?_
 by_cases hp : 0 < x.2.length
 ·have cp : ((0 : Int) < x.2.length) = True := eq_true (by omega)
  refine qG (qA E2_P (qA t1 (qA hnt (qA rx3 (qA n3 (qA fd_num_0 (qA fd_num_1 (qA ld_grps (qA ln_grps (qA hu3.lt (qA hw3.len (qA hw3.lt (qA cp bd_rBroken))))))))))))) fun K hK => ?_
  refine WE.con (rBroken_con H3 u x.1 hu3 (by omega)) fun r H4 g4 hr => ?_
  subst hr
  have g4' := g3'.gr g4
  refine qS (qA E2_P hnt) ?_
  refine hK _ _ ?_
  clear hK K
  cases hb : brkB x.1 with
  | true =>
   rw [if_pos ⟨hp, hb⟩] at hr0
   refine qY ?_
   refine qW hnt ?_
   exact fin 24 _ _ qp (qd hdf) g4' hr0
  | false =>
   rw [if_neg (fun h => by rw [hb] at h; cases h.2)] at hr0
   refine qY ?_
   refine qW hnt ?_
   exact fin 0 _ _ qp (qd hdf) g4' hr0
 ·have cp : ((0 : Int) < x.2.length) = False := eq_false (by omega)
  rw [if_neg (fun h => hp h.1)] at hr0
  refine qW (qA E2_P (qA t1 (qA hnt (qA rx3 (qA n3 (qA fd_num_0 (qA fd_num_1 (qA ld_grps (qA ln_grps (qA hu3.lt (qA hw3.len (qA hw3.lt cp)))))))))))) ?_
  refine qY ?_
  refine qW hnt ?_
  exact fin 0 _ _ qp (qd hdf) g3' hr0
end Go.Proofs.YtiejeicaaojdlaaGreat
namespace Go.Proofs.YtiejeicaaojdlaaGreat
open Go Go.Eng
theorem bd_value : hasBody Tryz.prog 99 = true := by kernel_rfl
theorem callEnd_two_cells {E : Env} {s s' : Tmp} {t t' : TypeId} {A : AAct} {H H2 : Hp} {e : AExit} {id id' g g' : Nat} {c c' : AC} (ht : loadT E.P t = some (false, 1)) (ht' : loadT E.P t' = some (false, 1)) (he : e = .normal ∨ e = .ret) (hd : closeAll H A.dfr = some H2)
  (hs : slot A.tm s = .one (.o (.ptr id g 0 1))) (hs' : slot A.tm s' = .one (.o (.ptr id' g' 0 1))) (hg : rowOf (H2.get id) g = some [c]) (hg' : rowOf (H2.get id') g' = some [c']) :
  callEnd E [.cell s t, .cell s' t'] (e, A, H) = .ok [(.tup [(false, [c]), (false, [c'])], H2)] := by
 have one : ∀ (s : Tmp) (t : TypeId) (id g : Nat) (c : AC), loadT E.P t = some (false, 1) → slot A.tm s = .one (.o (.ptr id g 0 1)) → rowOf (H2.get id) g = some [c] → resF E.P (.cell s t) A.tm H2 = some (false, [c]) := fun s t id g c ht hs hg => by
  have e0 : resF E.P (.cell s t) = match loadT E.P t with
    | some p => fun tm h => optE (tm.get s) none fun v => ANext.rec (motive := fun _ => Option (Bool × List AC)) (fun v _ => resV v) (fun _ => none) (fun _ _ => none) (fun _ _ => none) (fun _ => none) (doLoad h p.1 p.2 v)
    | none => fun _ _ => none := rfl
  rw [e0, ht]
  show optE (A.tm.get s) none (fun v => ANext.rec (motive := fun _ => Option (Bool × List AC)) (fun v _ => resV v) (fun _ => none) (fun _ _ => none) (fun _ _ => none) (fun _ => none) (doLoad H2 false 1 v)) = _
  rw [getS hs]
  show ANext.rec (motive := fun _ => Option (Bool × List AC)) (fun v _ => resV v) (fun _ => none) (fun _ _ => none) (fun _ _ => none) (fun _ => none) (doLoad H2 false 1 (.one (.o (.ptr id g 0 1)))) = _
  rw [doLoad_ptr, hg, ldO_one (Nat.le_refl _) (by simp)]; rfl
 have key : (optE (closeAll H A.dfr) (R.bad "marks") fun h2 => optE (resAll E.P [.cell s t, .cell s' t'] A.tm h2) (.bad "results") fun l => .ok [(tupOf l, h2)]) = .ok [(.tup [(false, [c]), (false, [c'])], H2)] := by
  rw [hd]
  have hr : resAll E.P [.cell s t, .cell s' t'] A.tm H2 = some [(false, [c]), (false, [c'])] := by
   show optE (resF E.P (.cell s t) A.tm H2) none (fun x => optE (optE (resF E.P (.cell s' t') A.tm H2) none fun x => optE (some []) none fun l => some (x :: l)) none fun l => some (x :: l)) = _
   rw [one s t id g c ht hs hg, one s' t' id' g' c' ht' hs' hg']; rfl
  show optE (resAll E.P [.cell s t, .cell s' t'] A.tm H2) (R.bad "results") (fun l => R.ok [(tupOf l, H2)]) = _
  rw [hr]; rfl
 rcases he with rfl | rfl
 ·exact key
 ·exact key
def valM : List (Pr × Int) → List UInt8 → Int × Int
 | [], _ => (0, 11)
 | y :: ys, s => if y.1.1 = s then (y.2, 0) else valM ys s
def valL (n : List UInt8) (us : List Pr) (s : List UInt8) : Int × Int := if chkLad n us ≠ 0 then (0, chkLad n us) else valM (yv 1 us) s
set_option maxRecDepth 10000 in
set_option maxHeartbeats 8000000 in
theorem value_con (H : Hp) (n : List UInt8) (u : AC) (us : List Pr) (s : List UInt8) (hu : SlP H u us) :
  Con E2 99 [.agg [.o (.str n), u], .one (.o (.str s))] H (fun _ => False) fun r _ => r = .tup [(false, [.i .i64 (valL n us s).1]), (false, [.i .i64 (valL n us s).2])] := by
 refine Con.of rfl fun lg => ?_
 have hu : SlP ⟨H.t, H.nx, lg⟩ u us := hu
 generalize (⟨H.t, H.nx, lg⟩ : Hp) = H at hu ⊢
 refine C1.body (E := E2) (nt := 23) (res := [.cell 4 3, .cell 5 28]) Tryz.func99 rfl rfl rfl rfl rfl fun tm hargs => ?_
 have h0 := hargs 0 _ rfl
 have h1 := hargs 1 _ rfl
 clear hargs
 refine qG (qA E2_P (qA h0 (qA h1 (qA zr_errno zr_int)))) fun K hK => ?_
 refine hK _ _ ?_
 clear hK K
 have hid0 : ∀ id ∈ (AV.one u).ids, id < H.nx := hu.lt
 refine R1.gen (fun A1 H1 => Gr H H1 ∧ H.nx + 3 < H1.nx ∧ H1.get H.nx = some (.arr [.o (.str n), u] 78 0 0) ∧ H1.get (H.nx + 1) = some (.arr [.o (.str s)] 9 0 0) ∧ H1.get (H.nx + 1 + 1) = some (.arr [.i .i64 0] 3 0 0) ∧ H1.get (H.nx + 1 + 1 + 1) = some (.arr [.i .i64 0] 28 0 0) ∧ slot A1.tm 2 = .one (.o (.ptr H.nx 0 0 2)) ∧ slot A1.tm 3 = .one (.o (.ptr (H.nx + 1) 0 0 1)) ∧ slot A1.tm 4 = .one (.o (.ptr (H.nx + 1 + 1) 0 0 1)) ∧ slot A1.tm 5 = .one (.o (.ptr (H.nx + 1 + 1 + 1) 0 0 1)) ∧ A1.nt = 23 ∧ A1.dfr = [])
  ⟨((((Fr.refl _).new _).new _).new _).new _, ?_⟩ ?_
 ·refine qT ?_
  rw [get_newL (by show H.nx < H.nx + 1 + 1 + 1; omega), get_newL (by show H.nx < H.nx + 1 + 1; omega), get_newL (by show H.nx < H.nx + 1; omega)]
  exact get_newE rfl
 rintro A1 H1 ⟨g1, n1, r1, r2, r4, r5, t2, t3, t4, t5, hnt, hdf⟩
 clear h0 h1 tm
 have hu1 : SlP H1 u us := hu.gr g1
 obtain ⟨c1, hc1⟩ : ∃ c, c = H.nx := ⟨_, rfl⟩
 obtain ⟨c2, hc2⟩ : ∃ c, c = H.nx + 1 := ⟨_, rfl⟩
 obtain ⟨c4, hc4⟩ : ∃ c, c = H.nx + 1 + 1 := ⟨_, rfl⟩
 obtain ⟨c5, hc5⟩ : ∃ c, c = H.nx + 1 + 1 + 1 := ⟨_, rfl⟩
 rw [← hc5] at r5 t5
 rw [← hc4] at r4 t4
 rw [← hc2] at r2 t3
 rw [← hc1] at r1 t2 hid0
 have o12 : c1 < c2 := by omega
 have o24 : c2 < c4 := by omega
 have o45 : c4 < c5 := by omega
 have o5 : c5 < H1.nx := by omega
 have hcc : H.nx ≤ c1 := by omega
 clear hc5 hc4 hc2 n1
 have l1 : c1 < H1.nx := by omega
 have l2 : c2 < H1.nx := by omega
 have l4 : c4 < H1.nx := by omega
 have fin : ∀ (e : AExit) (A : AAct) (H2 H3 : Hp) (v w : Int), (e = .normal ∨ e = .ret) → closeAll H2 A.dfr = some H3 → Gr H H3 → slot A.tm 4 = .one (.o (.ptr c4 0 0 1)) → slot A.tm 5 = .one (.o (.ptr c5 0 0 1)) → H3.get c4 = some (.arr [.i .i64 v] 3 0 0) → H3.get c5 = some (.arr [.i .i64 w] 28 0 0) → (v, w) = valL n us s →
   ∃ w H4, callEnd E2 [.cell 4 3, .cell 5 28] (e, A, H2) = .ok [(w, H4)] ∧ Gr H H4 ∧ ∀ _ : List Nat, w = .tup [(false, [.i .i64 (valL n us s).1]), (false, [.i .i64 (valL n us s).2])] := fun e A H2 H3 v w he hd hg hs hs' hr hr' hv =>
  ⟨_, H3, callEnd_two_cells (c := .i .i64 v) (c' := .i .i64 w) ld_int ld_errno he hd hs hs' (by rw [hr]; exact rowOf_arr (Nat.le_refl _) (Nat.le_refl _)) (by rw [hr']; exact rowOf_arr (Nat.le_refl _) (Nat.le_refl _)), hg, fun _ => by rw [← hv]⟩
 generalize hr0 : valL n us s = r0 at fin
 unfold valL at hr0
 repeat refine R1.s_assoc ?_
 refine qG (qA E2_P (qA t2 (qA hnt (qA r1 (qA l1 (qA ld_lad bd_check)))))) fun K hK => ?_
 refine WE.con (check_con H1 n u us hu1) fun v H2 g2 hv => ?_
 subst hv
 have r1 : H2.get c1 = some (.arr [.o (.str n), u] 78 0 0) := by rw [g2.get _ l1 not_false]; exact r1
 have r2 : H2.get c2 = some (.arr [.o (.str s)] 9 0 0) := by rw [g2.get _ l2 not_false]; exact r2
 have r4 : H2.get c4 = some (.arr [.i .i64 0] 3 0 0) := by rw [g2.get _ l4 not_false]; exact r4
 have r5 : H2.get c5 = some (.arr [.i .i64 0] 28 0 0) := by rw [g2.get _ o5 not_false]; exact r5
 have o5 : c5 < H2.nx := Nat.lt_of_lt_of_le o5 g2.nx
 have l1 : c1 < H2.nx := by omega
 have l2 : c2 < H2.nx := by omega
 have l4 : c4 < H2.nx := by omega
 have hu2 := hu1.gr g2
 have g2 := g1.gr g2
 have hlen := @chkLad_len n us
 refine qS (qA E2_P hnt) ?_
 refine hK _ _ ?_
 clear hK K
 generalize chkLad n us = e0 at hr0 hlen ⊢
 by_cases he0 : e0 = 0
 case neg =>
  have ce : (e0 != 0) = true := bne_iff_ne.2 he0
  rw [if_pos he0] at hr0
  refine qW (qA E2_P (qA hnt ce)) ?_
  refine qE fun Kx Ky hx hy => ?_
  refine iteI (fun _ => hx ?_) (fun h => absurd ce (by simpa using h))
  clear hx hy Kx Ky
  repeat' first | refine R1.ret ?_ | refine R1.exit ?_ | refine R1.skip ?_ | refine R1.s_ret ?_ | refine R1.s_exit ?_ | refine R1.s_assoc ?_ | refine R1.s_skip ?_ | refine R1.s_scope ?_ | ((first | refine R1.e_rg fun K hK => ?_ | refine R1.s_rg fun K hK => ?_ | refine R1.e_sq (by kernel_rfl) fun K hK => ?_ | refine R1.s_sq (by kernel_rfl) fun K hK => ?_); simp only [qB, slotOk, Nat.reduceLT, E2_P, t4, t5, hnt, sz_int, sz_errno, r4, r5, l4, o5, get_modN (Nat.ne_of_gt o45)]; refine hK _ _ ?_; clear hK K)
  exact fin .ret _ _ _ 0 e0 (.inr rfl) (by simp only [putD_dfr, hdf]; rfl) ((g2.mod _ (.inl (by omega))).mod _ (.inl (by omega))) (by simp only [slot_put, Nat.reduceEqDiff, reduceIte, t4]) (by simp only [slot_put, Nat.reduceEqDiff, reduceIte, t5]) (by rw [get_modN (by omega)]; exact get_modE rfl) (get_modE rfl) hr0
 rw [if_neg (fun h => h he0)] at hr0
 have hlen := hlen he0
 refine qW (qA E2_P (qA hnt he0)) ?_
 refine qY ?_
 refine R1.s_skip ?_
 repeat refine R1.s_assoc ?_
 refine qG (qA E2_P (qA t2 (qA hnt (qA r1 (qA l1 (qA ld_lad bd_units)))))) fun K hK => ?_
 refine WE.con (units_con H2 (.o (.str n)) u hu2.lt) fun v H5 g5 ⟨hv, hil, hln⟩ => ?_
 subst hv
 refine qS (qA E2_P hnt) ?_
 refine hK _ _ ?_
 clear hK K
 refine R1.genA (fun A4 => slot A4.tm 3 = .one (.o (.ptr c2 0 0 1)) ∧ slot A4.tm 4 = .one (.o (.ptr c4 0 0 1)) ∧ slot A4.tm 5 = .one (.o (.ptr c5 0 0 1)) ∧ slot A4.tm 15 = .one (.o (.clo 133 [(H2.nx, 0, 0, 2)])) ∧ A4.nt = 23 ∧ A4.dfr = [])
  ⟨by simp only [slot_put, Nat.reduceEqDiff, reduceIte, t3], by simp only [slot_put, Nat.reduceEqDiff, reduceIte, t4], by simp only [slot_put, Nat.reduceEqDiff, reduceIte, t5], by simp only [slot_put, Nat.reduceEqDiff, reduceIte], by simp only [putD_nt, hnt], by simp only [putD_dfr, hdf]⟩ ?_
 clear t2 t3 t4 t5 hnt hdf A1
 rintro A ⟨t3, t4, t5, t15, hnt, hdf⟩
 have gg : Gr H H5 := g2.gr g5
 have r2 : H5.get c2 = some (.arr [.o (.str s)] 9 0 0) := by rw [g5.get _ l2 not_false]; exact r2
 have r4 : H5.get c4 = some (.arr [.i .i64 0] 3 0 0) := by rw [g5.get _ l4 not_false]; exact r4
 have r5 : H5.get c5 = some (.arr [.i .i64 0] 28 0 0) := by rw [g5.get _ o5 not_false]; exact r5
 have hu5 : SlP H5 u us := hu2.gr g5
 obtain ⟨il, hild⟩ : ∃ i, i = H2.nx := ⟨_, rfl⟩
 rw [← hild] at hil hln t15 o5 l1 l2 l4
 clear hild
 generalize hys : yv 1 us = ys at hr0
 have hyl : ys.length ≤ us.length := by rw [← hys]; exact yv_len 1 us
 refine R1.s_block fun K k1 k2 k3 k4 => ?_
 refine R1.range (σ := Unit) (g := 133) (caps := [(il, 0, 0, 2)]) (n := ys.length) (ar := yA ys) (D := DL il u) (by simp only [evTmp, t15]) bd_units1 (fun _ => rfl)
  (units1_it H5 il (.o (.str n)) u us hln hil hu5 (by omega) ys hys) (fun k hk => by
   rcases hk with h | h
   ·omega
   ·exact Nat.lt_trans (hid0 k h) (by omega)) (by rw [hnt]; rfl) (fun i _ => yA_len ys i)
  (fun i _ H6 => H6.get c2 = some (.arr [.o (.str s)] 9 0 0) ∧ H6.get c4 = some (.arr [.i .i64 0] 3 0 0) ∧ H6.get c5 = some (.arr [.i .i64 0] 28 0 0) ∧ valM (ys.drop i) s = r0 ∧ H5.nx ≤ H6.nx)
  (fun e _ H6 => e = .ret ∧ H6.get c4 = some (.arr [.i .i64 r0.1] 3 0 0) ∧ H6.get c5 = some (.arr [.i .i64 r0.2] 28 0 0) ∧ H5.nx ≤ H6.nx)
  (fun _ k => k = c4 ∨ k = c5) ?_ ?_ ?_ () ?_ ?_ ?_ ?_
 ·rintro i _ H6 H7 ⟨a1, a2, a3, a4, a5⟩ hs
  exact ⟨by rw [hs.get _ (by omega) (by omega)]; exact a1, by rw [hs.get _ (by omega) (by omega)]; exact a2, by rw [hs.get _ (by omega) (by omega)]; exact a3, a4, Nat.le_trans a5 hs.nx⟩
 ·rintro e _ H6 H7 ⟨a1, a2, a3, a5⟩ hs
  exact ⟨a1, by rw [hs.get _ (by omega) (by omega)]; exact a2, by rw [hs.get _ (by omega) (by omega)]; exact a3, Nat.le_trans a5 hs.nx⟩
 ·rintro i _ H6 k ⟨a1, a2, a3, a4, a5⟩ hk
  have : k < H5.nx ∧ c1 < k ∧ k < il := by rcases hk with rfl | rfl <;> omega
  refine ⟨by omega, by omega, by omega, fun h => ?_⟩
  rcases h with h | h
  ·omega
  ·have := hid0 k h; omega
 ·intro H6 g6 n6
  exact ⟨by rw [g6.get _ (by omega) not_false]; exact r2, by rw [g6.get _ (by omega) not_false]; exact r4, by rw [g6.get _ (by omega) not_false]; exact r5, by rw [List.drop_zero]; exact hr0, g6.nx⟩
 ·rintro i _ H6 hi ⟨a1, a2, a3, a4, a5⟩ n6
  have hy : ys[i]? = some ys[i] := List.getElem?_eq_getElem hi
  have hdr : ys.drop i = ys[i] :: ys.drop (i + 1) := List.drop_eq_getElem_cons hi
  generalize ys[i] = y at hy hdr
  rw [hdr, valM] at a4
  rw [yA_at hy]
  obtain ⟨x, yval⟩ := y
  refine R1.genA (fun A7 => slot A7.tm 3 = .one (.o (.ptr c2 0 0 1)) ∧ slot A7.tm 4 = .one (.o (.ptr c4 0 0 1)) ∧ slot A7.tm 5 = .one (.o (.ptr c5 0 0 1)) ∧ slot A7.tm 16 = .agg (prC x) ∧ slot A7.tm 17 = .one (.i .i64 yval) ∧ A7.nt = 23 ∧ A7.dfr = []) ⟨?_, ?_, ?_, ?_, ?_, hnt, rfl⟩ ?_
  ·show slot ((A.tm.set 16 _).set 17 _) 3 = _
   simp only [slot_set, Nat.reduceEqDiff, reduceIte, t3]
  ·show slot ((A.tm.set 16 _).set 17 _) 4 = _
   simp only [slot_set, Nat.reduceEqDiff, reduceIte, t4]
  ·show slot ((A.tm.set 16 _).set 17 _) 5 = _
   simp only [slot_set, Nat.reduceEqDiff, reduceIte, t5]
  ·show slot ((A.tm.set 16 _).set 17 _) 16 = _
   simp only [slot_set, Nat.reduceEqDiff, reduceIte]
  ·show slot ((A.tm.set 16 _).set 17 _) 17 = _
   simp only [slot_set, Nat.reduceEqDiff, reduceIte]
  rintro A7 ⟨u3, u4, u5, u16, u17, unt, udf⟩
  refine qW (qA E2_P (qA u16 (qA u17 (qA unt (qA zr_unit (qA sz_unit prC_e)))))) ?_
  refine ⟨rfl, ((Fr.refl _).new _).mod _ (.inl (Nat.le_refl _)), fun H8 n8 s8 => ?_⟩
  have gu : H8.get H6.nx = some (.arr (prC x) 140 0 0) := by
   rw [s8.get _ (by show H6.nx < H6.nx + 1; omega) (by omega)]
   exact get_modE rfl
  have keep : ∀ k, k < H5.nx → H8.get k = H6.get k := fun k hk => by
   rw [s8.get _ (by show k < H6.nx + 1; omega) (by omega), get_modN (by omega), get_newL (by omega)]
  have n8' : H8.nx = H6.nx + 1 := n8
  have b2 : H8.get c2 = some (.arr [.o (.str s)] 9 0 0) := (keep c2 (by omega)).trans a1
  have b4 : H8.get c4 = some (.arr [.i .i64 0] 3 0 0) := (keep c4 (by omega)).trans a2
  have b5 : H8.get c5 = some (.arr [.i .i64 0] 28 0 0) := (keep c5 (by omega)).trans a3
  have lu : H6.nx < H8.nx := by omega
  have m2 : c2 < H8.nx := by omega
  have m4 : c4 < H8.nx := by omega
  have m5 : c5 < H8.nx := by omega
  refine R1.e_block fun K2 p1 p2 p3 p4 => ?_
  repeat refine R1.s_assoc ?_
  by_cases hxs : x.1 = s
  ·rw [if_pos hxs] at a4
   have cs : (x.1 == s) = true := beq_iff_eq.2 hxs
   refine qW (qA E2_P (qA u3 (qA unt (qA gu (qA lu (qA b2 (qA m2 (qA fd_unit_0 (qA ld_str prC_e))))))))) ?_
   refine qE fun Kx Ky hx hy => ?_
   rw [lEq_eq, cs]
   refine hx ?_
   clear hx hy Kx Ky
   repeat' first | refine R1.ret ?_ | refine R1.exit ?_ | refine R1.skip ?_ | refine R1.s_ret ?_ | refine R1.s_exit ?_ | refine R1.s_assoc ?_ | refine R1.s_skip ?_ | refine R1.s_scope ?_ | ((first | refine R1.e_rg fun K hK => ?_ | refine R1.s_rg fun K hK => ?_ | refine R1.e_sq (by kernel_rfl) fun K hK => ?_ | refine R1.s_sq (by kernel_rfl) fun K hK => ?_); simp only [qB, slotOk, Nat.reduceLT, E2_P, u4, u5, unt, sz_int, sz_errno, b4, b5, m4, m5, get_modN (Nat.ne_of_gt o45)]; refine hK _ _ ?_; clear hK K)
   refine p4 _ _ ⟨by simp only [putD_dfr, udf], ((Fr.refl _).mod _ (.inr (.inl (.inl rfl)))).mod _ (.inr (.inl (.inr rfl))), (), fun h => (by cases h), fun _ => ⟨rfl, ?_, ?_, by show H5.nx ≤ H8.nx; omega⟩, fun k hk => .inl hk⟩
   ·rw [get_modN (by omega), ← a4]; exact get_modE rfl
   ·rw [← a4]; exact get_modE rfl
  ·rw [if_neg hxs] at a4
   have cs : (x.1 == s) = false := beq_false_of_ne hxs
   refine qW (qA E2_P (qA u3 (qA unt (qA gu (qA lu (qA b2 (qA m2 (qA fd_unit_0 (qA ld_str prC_e))))))))) ?_
   refine qE fun Kx Ky hx hy => ?_
   rw [lEq_eq, cs]
   refine hy ?_
   clear hx hy Kx Ky
   refine qV ?_
   refine p1 _ _ ⟨by simp only [putD_dfr, udf], Fr.refl _, (), fun _ => ⟨b2, b4, b5, a4, by omega⟩, fun h => absurd rfl h, fun k hk => .inl hk⟩
 ·rintro s' H6 ⟨a1, a2, a3, a4, a5⟩ n6 hd6 hf6 hfp
  have g6 : Gr H H6 := gg.then hf6 fun k hk => .inl (by rcases hk with rfl | rfl <;> omega)
  have m4 : c4 < H6.nx := by omega
  have m5 : c5 < H6.nx := by omega
  rw [List.drop_length, valM] at a4
  refine k1 _ _ ?_
  refine R1.genA (fun A7 => slot A7.tm 4 = .one (.o (.ptr c4 0 0 1)) ∧ slot A7.tm 5 = .one (.o (.ptr c5 0 0 1)) ∧ A7.nt = 23 ∧ A7.dfr = [H5.nx]) ⟨t4, t5, hnt, by show H5.nx :: A.dfr = _; rw [hdf]⟩ ?_
  rintro A7 ⟨u4, u5, unt, udf⟩
  repeat' first | refine R1.ret ?_ | refine R1.exit ?_ | refine R1.skip ?_ | refine R1.s_ret ?_ | refine R1.s_exit ?_ | refine R1.s_assoc ?_ | refine R1.s_skip ?_ | refine R1.s_scope ?_ | ((first | refine R1.e_rg fun K hK => ?_ | refine R1.s_rg fun K hK => ?_ | refine R1.e_sq (by kernel_rfl) fun K hK => ?_ | refine R1.s_sq (by kernel_rfl) fun K hK => ?_); simp only [qB, slotOk, E2_P, u4, u5, sz_int, sz_errno, a2, a3, m4, m5, get_modN (Nat.ne_of_gt o45)]; refine hK _ _ ?_; clear hK K)
  refine fin .ret _ _ _ 0 11 (.inr rfl) (by simp only [udf]; exact closeAll_one (by rw [get_modN (by omega), get_modN (by omega)]; exact hd6)) (((g6.mod _ (.inl (by omega))).mod _ (.inl (by omega))).mod _ (.inl (by have := gg.nx; omega))) (by simp only [u4]) (by simp only [u5]) (by rw [get_modN (by omega), get_modN (by omega)]; exact get_modE rfl) (by rw [get_modN (by omega)]; exact get_modE rfl) a4
 ·rintro e s' H6 hne ⟨rfl, a2, a3, a5⟩ n6 hd6 hf6 hfp
  have g6 : Gr H H6 := gg.then hf6 fun k hk => .inl (by rcases hk with rfl | rfl <;> omega)
  exact k4 _ _ (fin .ret _ _ _ _ _ (.inr rfl) (by show closeAll H6 (H5.nx :: A.dfr) = _; rw [hdf]; exact closeAll_one hd6) (g6.mod _ (.inl (by have := gg.nx; omega))) t4 t5 (by rw [get_modN (by omega)]; exact a2) (by rw [get_modN (by omega)]; exact a3) rfl)
end Go.Proofs.YtiejeicaaojdlaaGreat
namespace Go.Proofs.YtiejeicaaojdlaaGreat
open Go Go.Eng
theorem chkLad_ok {n : List UInt8} {us : List Pr} (h : chkLad n us = 0) : us.length ≤ 12 ∧ (yv 1 us).length = us.length ∧ ∀ x ∈ us, 1 ≤ x.2 ∧ x.2 ≤ 60 := by
 have hl := chkLad_len h
 unfold chkLad at h
 by_cases hk : ladOK n us = true
 ·unfold ladOK at hk
  simp only [Bool.and_eq_true, decide_eq_true_eq] at hk
  have hy := hk.1.2
  exact ⟨hl, hy, ((yv_full 1 us).1 hy).1⟩
 ·rw [if_neg hk] at h; cases h
theorem vals_yv : ∀ (v : Int) (us : List Pr), (yv v us).length = us.length → valsU v us = some ((yv v us).map (·.2))
 | _, [], _ => rfl
 | v, x :: us, h => by
  unfold yv at h ⊢
  unfold valsU
  by_cases hb : x.2 < 1 ∨ 60 < x.2 ∨ 1099511627776 < v * x.2
  ·rw [if_pos hb] at h; simp at h
  ·rw [if_neg hb] at h ⊢
   rw [if_neg (fun h => hb (.inr (.inr h))), vals_yv _ us (by simpa using h)]
   rfl
theorem valM_idx : ∀ (k : Nat) (v : Int) (us : List Pr) (s : List UInt8), (yv v us).length = us.length →
  (idxU k us s < 0 ∧ valM (yv v us) s = (0, 11)) ∨ ∃ j y, j < us.length ∧ idxU k us s = ((k + j : Nat) : Int) ∧ (yv v us)[j]? = some y ∧ valM (yv v us) s = (y.2, 0)
 | _, _, [], _, _ => .inl ⟨by unfold idxU; omega, rfl⟩
 | k, v, x :: us, s, h => by
  unfold yv at h ⊢
  by_cases hb : x.2 < 1 ∨ 60 < x.2 ∨ 1099511627776 < v * x.2
  ·rw [if_pos hb] at h; simp at h
  ·rw [if_neg hb] at h ⊢
   rw [valM, idxU]
   by_cases hs : x.1 = s
   ·right
    refine ⟨0, (x, v * x.2), by simp, ?_, rfl, ?_⟩
    ·rw [if_pos hs]; rfl
    ·rw [if_pos hs]
   ·rw [if_neg hs, if_neg hs]
    rcases valM_idx (k + 1) (v * x.2) us s (by simpa using h) with ⟨h1, h2⟩ | ⟨j, y, h0, h1, h2, h3⟩
    ·exact .inl ⟨h1, h2⟩
    ·refine .inr ⟨j + 1, y, by rw [List.length_cons]; omega, ?_, by rw [List.getElem?_cons_succ]; exact h2, h3⟩
     rw [h1]; omega
theorem SlI.at {H : Hp} {v : AC} {l : List Int} (h : SlI H v l) {j : Nat} {z : Int} (hz : l[j]? = some z) : ∃ id g off cells, v = .o (.sl id g off l.length 1) ∧ id < H.nx ∧ rowOf (H.get id) g = some cells ∧ (cells.drop (off + j * 1)).headD (.b false) = .i .i64 z ∧ off + j * 1 + 1 ≤ cells.length ∧ j < l.length := by
 have hj := (List.getElem?_eq_some_iff.1 hz).1
 obtain ⟨id, g, off, h1, h2, hr⟩ := SlC.pos h (by omega)
 have hr' := hr
 obtain ⟨cells, h3, h6, h7⟩ := hr
 obtain ⟨cells', k3, k6, k7⟩ := Rd.at (c := intC) intC_len hr' hz
 rw [h3] at k3
 cases k3
 refine ⟨id, g, off, cells, h1, h2, h3, ?_, k6, hj⟩
 cases hd : cells.drop (off + j * 1) with
 | nil => have := congrArg List.length hd; simp at this; omega
 | cons a r =>
  rw [hd] at k7
  have := (List.cons.inj k7).1
  rw [this]; rfl
end Go.Proofs.YtiejeicaaojdlaaGreat
namespace Go.Proofs.YtiejeicaaojdlaaGreat
open Go Go.Eng
theorem bd_eqInts : hasBody Tryz.prog 17 = true := by kernel_rfl
theorem bd_copyInts : hasBody Tryz.prog 19 = true := by kernel_rfl
theorem SlI.gr {H H' : Hp} {v : AC} {l : List Int} (h : SlI H v l) (hg : Gr H H') : SlI H' v l := SlC.gr h hg
theorem SlI.len {H : Hp} {v : AC} {l : List Int} (h : SlI H v l) : doLen H 1 (.one v) = .val (.one (.i .i64 (l.length : Int))) H := SlC.len h
theorem SlI.lt {H : Hp} {v : AC} {l : List Int} (h : SlI H v l) : ltV (.one v) H.nx := ltV_slc h
theorem SlI.nil {H : Hp} : SlI H (.o .nilS) [] := ⟨by simp, .inl ⟨rfl, rfl⟩⟩
theorem SlI.open {H : Hp} {v : AC} {l : List Int} (h : SlI H v l) (hn : 0 < l.length) : ∃ id g off cells, v = .o (.sl id g off l.length 1) ∧ id < H.nx ∧ rowOf (H.get id) g = some cells ∧ ∀ (i : Nat) (x : Int), l[i]? = some x → (cells.drop (off + i * 1)).headD (.b false) = .i .i64 x ∧ off + i * 1 + 1 ≤ cells.length := by
 obtain ⟨id, g, off, h1, h2, hr⟩ := SlC.pos h hn
 have hr' := hr
 obtain ⟨cells, h3, h6, h7⟩ := hr
 refine ⟨id, g, off, cells, h1, h2, h3, fun i x hx => ?_⟩
 obtain ⟨cells', k3, k6, k7⟩ := Rd.at (c := intC) intC_len hr' hx
 rw [h3] at k3
 cases k3
 refine ⟨?_, k6⟩
 cases hd : cells.drop (off + i * 1) with
 | nil => have := congrArg List.length hd; simp at this; omega
 | cons a r =>
  rw [hd] at k7
  have := (List.cons.inj k7).1
  rw [this]; rfl
set_option maxRecDepth 10000 in
set_option maxHeartbeats 4000000 in
theorem eqInts_con (H : Hp) (v w : AC) (l : List Int) (hv : SlI H v l) (hw : SlI H w l) (hL : l.length ≤ 4611686018427387904) :
  Con E2 17 [.one v, .one w] H (fun _ => False) fun r _ => r = .one (.b true) := by
 refine Con.of rfl fun lg => ?_
 have hv : SlI ⟨H.t, H.nx, lg⟩ v l := hv
 have hw : SlI ⟨H.t, H.nx, lg⟩ w l := hw
 generalize (⟨H.t, H.nx, lg⟩ : Hp) = H at hv hw ⊢
 refine C1.body (E := E2) (nt := 26) (res := [.tmp 4]) Tryz.func17 rfl rfl rfl rfl rfl fun tm hargs => ?_
 have h0 := hargs 0 _ rfl
 have h1 := hargs 1 _ rfl
 clear hargs
 have hne : ((l.length : Int) == (l.length : Int)) = true := by simp
 refine qW (qA E2_P (qA h0 (qA h1 (qA ln_ints (qA hv.len (qA hw.len (qA hv.lt (qA hw.lt hne)))))))) ?_
 refine qY ?_
 refine qV ?_
 refine R1.s_block fun K k1 k2 k3 k4 => ?_
 refine R1.loop (fun k A H2 => ∃ i : Nat, k = l.length - i ∧ i ≤ l.length ∧ H2 = H ∧ slot A.tm 0 = .one (v) ∧ slot A.tm 1 = .one (w) ∧ slot A.tm 5 = .one (.i .i64 (i : Int)) ∧ A.nt = 26 ∧ A.dfr = []) ?_ l.length ⟨0, rfl, Nat.zero_le _, rfl, ?_⟩
 ·clear h0 h1 tm
  rintro k A H2 ⟨i, rfl, hi, rfl, t0, t1, t5, hnt, hdf⟩
  refine qW (qA E2_P (qA t0 (qA t5 (qA hnt (qA ln_ints (qA hv.len hv.lt)))))) ?_
  refine qE fun Kx Ky hx hy => ?_
  refine iteI (fun hc => hx ?_) (fun hc => hy ?_)
  ·clear hx hy Kx Ky
   have hlt : i < l.length := by omega
   have ex : l[i]? = some l[i] := List.getElem?_eq_getElem hlt
   have hdr : l.drop i = l[i] :: l.drop (i + 1) := List.drop_eq_getElem_cons hlt
   have htk : l.take (i + 1) = l.take i ++ [l[i]] := List.take_succ_eq_append_getElem hlt
   have hmem : l[i] ∈ l := List.getElem_mem hlt
   generalize l[i] = x at ex hdr htk hmem
   have hw2 : IntKind.i64.wrap ((i : Int) + 1) = ((i + 1 : Nat) : Int) := by rw [wrapI (by omega) (by omega)]; omega
   have hnx : (x == x) = true := by simp
   obtain ⟨id, g, off, cells, rfl, hid, hgr, hat⟩ := hv.open (by omega)
   obtain ⟨id', g', off', cells', rfl, hid', hgr', hat'⟩ := hw.open (by omega)
   have hx1 := hat i x ex
   have hx2 := hat' i x ex
   refine qV ?_
   refine R1.s_block fun K2 q1 q2 q3 q4 => ?_
   refine qH (qA E2_P (qA t0 (qA t1 (qA t5 (qA hnt (qA el_ints (qA ld_int (qA (ixC hlt) (qA hid (qA hgr (qA hid' (qA hgr' (qA hx1.1 (qA hx1.2 (qA hx2.1 (qA hx2.2 hnx)))))))))))))))) fun K hK => ?_
   refine hK _ _ ?_
   clear hK K
   refine qY ?_
   refine qW hnt ?_
   refine q1 _ _ ?_
   refine qW (qA hnt (qA t5 hw2)) ?_
   refine ⟨l.length - (i + 1), by omega, i + 1, rfl, hlt, rfl, ?_⟩
   repeat' (first | (simp only [slot_put, Nat.reduceEqDiff, reduceIte, putD_nt, putD_dfr, t0, t1, t5, hnt, hdf]; first | done | rfl) | refine ⟨?_, ?_⟩)
  ·clear hx hy Kx Ky
   refine qW hnt ?_
   refine k2 _ _ ?_
   refine qW hnt ?_
   exact ⟨_, _, callEnd_one (.b true) (.inr rfl) (qd hdf) qp, Fr.refl _, fun _ => rfl⟩
 ·repeat' (first | (simp only [slot_put, Nat.reduceEqDiff, reduceIte, putD_nt, putD_dfr, h0, h1]; first | done | rfl) | refine ⟨?_, ?_⟩)
end Go.Proofs.YtiejeicaaojdlaaGreat
namespace Go.Proofs.YtiejeicaaojdlaaGreat
open Go Go.Eng
abbrev Cl := Int × List UInt8 × List UInt8 × Nm
def ClR (H : Hp) (c : List AC) (x : Cl) : Prop := ∃ p q, c = [.i .i64 x.1, .o (.str x.2.1), .o (.str x.2.2.1), p, q] ∧ SlGp H p x.2.2.2.1 ∧ SlGp H q x.2.2.2.2
theorem ClR.gr {H H' : Hp} {c : List AC} {x : Cl} (h : ClR H c x) (hg : Gr H H') : ClR H' c x := let ⟨p, q, h1, h2, h3⟩ := h; ⟨p, q, h1, h2.gr hg, h3.gr hg⟩
def SlCl (H : Hp) (v : AC) (l : List Cl) : Prop := SlR ClR 5 H v l
theorem SlCl.gr {H H' : Hp} {v : AC} {l : List Cl} (h : SlCl H v l) (hg : Gr H H') : SlCl H' v l := SlR.of_get h hg.nx (fun i hi => hg.get i hi not_false) fun _ _ h => h.gr hg
theorem SlCl.len {H : Hp} {v : AC} {l : List Cl} (h : SlCl H v l) : doLen H 1 (.one v) = .val (.one (.i .i64 (l.length : Int))) H := SlR.len h
theorem SlCl.lt {H : Hp} {v : AC} {l : List Cl} (h : SlCl H v l) : ltV (.one v) H.nx := SlR.lt h
structure ClAt (H : Hp) (cells : List AC) (o : Nat) (x : Cl) (p q : AC) : Prop where
 of1 : SlGp H p x.2.2.2.1
 of2 : SlGp H q x.2.2.2.2
 all : (cells.drop o).take 5 = [.i .i64 x.1, .o (.str x.2.1), .o (.str x.2.2.1), p, q]
 le : o + 5 ≤ cells.length
 le1 : o + 1 ≤ cells.length
 le2 : o + 1 + 1 ≤ cells.length
 le3 : o + 2 + 1 ≤ cells.length
 le4 : o + 3 + 2 ≤ cells.length
 f1 : (cells.drop o).headD (.b false) = .i .i64 x.1
 f2 : (cells.drop (o + 1)).headD (.b false) = .o (.str x.2.1)
 f3 : (cells.drop (o + 2)).headD (.b false) = .o (.str x.2.2.1)
 f4 : (cells.drop (o + 3)).take 2 = [p, q]
theorem drop5 {cells : List AC} {o : Nat} {a b c d e : AC} (h : (cells.drop o).take 5 = [a, b, c, d, e]) : (cells.drop o).headD (.b false) = a ∧ (cells.drop (o + 1)).headD (.b false) = b ∧ (cells.drop (o + 2)).headD (.b false) = c ∧ (cells.drop (o + 3)).take 2 = [d, e] := by
 rw [← List.drop_drop, ← List.drop_drop, ← List.drop_drop]
 match hd : cells.drop o, h with
 | x0 :: x1 :: x2 :: x3 :: x4 :: r, h =>
  simp only [List.take_succ_cons, List.take_zero, List.cons.injEq, and_true] at h
  obtain ⟨rfl, rfl, rfl, rfl, rfl⟩ := h
  exact ⟨rfl, rfl, rfl, rfl⟩
theorem SlCl.open {H : Hp} {v : AC} {l : List Cl} (h : SlCl H v l) (hn : 0 < l.length) : ∃ id g off cells, v = .o (.sl id g off l.length 5) ∧ id < H.nx ∧ rowOf (H.get id) g = some cells ∧ ∀ (i : Nat) (x : Cl), l[i]? = some x → ∃ p q, ClAt H cells (off + i * 5) x p q := by
 obtain ⟨id, g, off, cells, h1, h2, h3, h4⟩ := SlR.open h hn
 refine ⟨id, g, off, cells, h1, h2, h3, fun i x hx => ?_⟩
 obtain ⟨h5, c, h6, h7, p, q, rfl, h8, h9⟩ := h4 i x hx
 obtain ⟨d1, d2, d3, d4⟩ := drop5 h6
 exact ⟨p, q, h8, h9, h6, h5, by omega, by omega, by omega, by omega, d1, d2, d3, d4⟩
abbrev Rl := Int × List Int
def RlR (H : Hp) (c : List AC) (x : Rl) : Prop := ∃ u, c = [.i .i64 x.1, u] ∧ SlI H u x.2
theorem RlR.gr {H H' : Hp} {c : List AC} {x : Rl} (h : RlR H c x) (hg : Gr H H') : RlR H' c x := let ⟨u, h1, h2⟩ := h; ⟨u, h1, h2.gr hg⟩
def SlRl (H : Hp) (v : AC) (l : List Rl) : Prop := SlR RlR 2 H v l
theorem SlRl.gr {H H' : Hp} {v : AC} {l : List Rl} (h : SlRl H v l) (hg : Gr H H') : SlRl H' v l := SlR.of_get h hg.nx (fun i hi => hg.get i hi not_false) fun _ _ h => h.gr hg
theorem SlRl.len {H : Hp} {v : AC} {l : List Rl} (h : SlRl H v l) : doLen H 1 (.one v) = .val (.one (.i .i64 (l.length : Int))) H := SlR.len h
theorem SlRl.lt {H : Hp} {v : AC} {l : List Rl} (h : SlRl H v l) : ltV (.one v) H.nx := SlR.lt h
structure RlAt (H : Hp) (cells : List AC) (o : Nat) (x : Rl) (u : AC) : Prop where
 of : SlI H u x.2
 all : (cells.drop o).take 2 = [.i .i64 x.1, u]
 le : o + 2 ≤ cells.length
 le1 : o + 1 ≤ cells.length
 le2 : o + 1 + 1 ≤ cells.length
 f1 : (cells.drop o).headD (.b false) = .i .i64 x.1
 f2 : (cells.drop (o + 1)).headD (.b false) = u
theorem drop2 {cells : List AC} {o : Nat} {a b : AC} (h : (cells.drop o).take 2 = [a, b]) : (cells.drop o).headD (.b false) = a ∧ (cells.drop (o + 1)).headD (.b false) = b := by
 rw [← List.drop_drop]
 match hd : cells.drop o, h with
 | x0 :: x1 :: r, h =>
  simp only [List.take_succ_cons, List.take_zero, List.cons.injEq, and_true] at h
  obtain ⟨rfl, rfl⟩ := h
  exact ⟨rfl, rfl⟩
theorem SlRl.open {H : Hp} {v : AC} {l : List Rl} (h : SlRl H v l) (hn : 0 < l.length) : ∃ id g off cells, v = .o (.sl id g off l.length 2) ∧ id < H.nx ∧ rowOf (H.get id) g = some cells ∧ ∀ (i : Nat) (x : Rl), l[i]? = some x → ∃ u, RlAt H cells (off + i * 2) x u := by
 obtain ⟨id, g, off, cells, h1, h2, h3, h4⟩ := SlR.open h hn
 refine ⟨id, g, off, cells, h1, h2, h3, fun i x hx => ?_⟩
 obtain ⟨h5, c, h6, h7, u, rfl, h8⟩ := h4 i x hx
 obtain ⟨d1, d2⟩ := drop2 h6
 exact ⟨u, h8, h6, h5, by omega, by omega, d1, d2⟩
abbrev Pz := List Cl × List Rl
structure PzB (p : Pz) : Prop where
 c : p.1.length * 88 ≤ 140737488355328
 r : p.2.length * 32 ≤ 140737488355328
 t : ∀ x ∈ p.1, x.2.2.2.1.length * 32 ≤ 140737488355328 ∧ x.2.2.2.2.length * 32 ≤ 140737488355328
 p : ∀ x ∈ p.2, x.2.length * 8 ≤ 140737488355328
end Go.Proofs.YtiejeicaaojdlaaGreat
namespace Go.Proofs.YtiejeicaaojdlaaGreat
open Go Go.Eng
theorem bd_checkCells : hasBody Tryz.prog 51 = true := by kernel_rfl
def ladOf (o : Option (List Lad)) (s : List UInt8) : Lad := match o with
 | none => ([], [])
 | some ls => (idxN 0 ls s).elim ([], []) fun i => ls.getD i ([], [])
theorem LadA.of {H : Hp} {c : List AC} {o : Option (List Lad)} {s : List UInt8} (h : LadA H c o s) : ∃ u, c = [.o (.str (ladOf o s).1), u] ∧ SlP H u (ladOf o s).2 := by
 obtain ⟨h1, h2⟩ := h
 cases o with
 | none => exact ⟨_, h1 (by rw [ladE_none]; decide), SlP.nil⟩
 | some ls =>
  rw [ladE_some] at h1
  cases hi : idxN 0 ls s with
  | none =>
   rw [hi] at h1
   have e : ladOf (some ls) s = ([], []) := by unfold ladOf; simp only [hi, Option.elim_none]
   rw [e]
   exact ⟨_, h1 (by decide), SlP.nil⟩
  | some i =>
   obtain ⟨x, hx, _⟩ := idx_at hi
   have e : ladOf (some ls) s = x := by unfold ladOf; simp only [hi, Option.elim_some]; rw [List.getD_eq_getElem?_getD, hx]; rfl
   rw [e]
   exact h2 ls i x rfl hi hx
def prevC (acc : List Cl) (x : Cl) : Bool := acc.getLast?.any fun y => decide (x.1 ≤ y.1)
theorem prevC_take {l : List Cl} {i : Nat} {x y : Cl} (hi : 0 < i) (hy : l[i - 1]? = some y) : prevC (l.take i) x = decide (x.1 ≤ y.1) := by
 have h : (l.take i).getLast? = some y := by
  have hlt := (List.getElem?_eq_some_iff.1 hy).1
  rw [List.getLast?_eq_getElem?, List.length_take, Nat.min_eq_left (by omega), List.getElem?_take, if_pos (by omega)]
  exact hy
 unfold prevC
 rw [h]; rfl
noncomputable def goC (o : Option (List Lad)) : List Cl → List Cl → Int
 | _, [] => 0
 | acc, x :: l => if x.1 < 0 then 53 else if 255 < x.1 then 53 else if prevC acc x = true then 53 else if nmB x.2.1 = false then 53 else if ladE o x.2.2.1 ≠ 0 then 4 else if chkNm x.2.2.2 ≠ 0 then chkNm x.2.2.2 else goC o (acc ++ [x]) l
set_option maxRecDepth 10000 in
set_option maxHeartbeats 16000000 in
theorem checkCells_con (H : Hp) (k v : AC) (o : Option (List Lad)) (l : List Cl) (hk : BookO H k o) (hL : ∀ ls, o = some ls → ∀ x ∈ ls, x.2.length ≤ 1000000) (hv : SlCl H v l) (hB : l.length ≤ 1000000) :
  Con E2 51 [.one k, .one v] H (fun _ => False) fun r _ => r = .one (.i .i64 (goC o [] l)) := by
 refine Con.of rfl fun lg => ?_
 have hk : BookO ⟨H.t, H.nx, lg⟩ k o := BookO.same (H := H) rfl rfl hk
 have hv : SlCl ⟨H.t, H.nx, lg⟩ v l := hv
 generalize (⟨H.t, H.nx, lg⟩ : Hp) = H at hk hv ⊢
 refine C1.body (E := E2) (nt := 62) (res := [.tmp 4]) Tryz.func51 rfl rfl rfl rfl rfl fun tm hargs => ?_
 have h0 := hargs 0 _ rfl
 have h1 := hargs 1 _ rfl
 clear hargs
 have fin : ∀ (e : Int) (A : AAct) (H3 : Hp), slot A.tm 4 = .one (.i .i64 e) → A.dfr = [] → Gr H H3 → e = goC o [] l → ∃ w H4, callEnd E2 [.tmp 4] (.ret, A, H3) = .ok [(w, H4)] ∧ Gr H H4 ∧ ∀ _ : List Nat, w = .one (.i .i64 (goC o [] l)) := fun e A H3 h1 h2 h3 h4 => ⟨_, H3, callEnd_one (.i .i64 e) (.inr rfl) h2 h1, h3, fun _ => by rw [h4]⟩
 generalize hr0 : goC o [] l = r0 at fin
 refine qW (qA E2_P (qA h0 (qA h1 (qA ln_cells (qA hv.len hv.lt))))) ?_
 refine R1.s_block fun K k1 k2 k3 k4 => ?_
 refine R1.loop (fun m A H2 => ∃ i : Nat, m = l.length - i ∧ i ≤ l.length ∧ Gr H H2 ∧ goC o (l.take i) (l.drop i) = r0 ∧ slot A.tm 0 = .one (k) ∧ slot A.tm 1 = .one (v) ∧ slot A.tm 10 = .one (v) ∧ slot A.tm 11 = .one (.i .i64 (l.length : Int)) ∧ slot A.tm 12 = .one (.i .i64 (i : Int)) ∧ A.nt = 62 ∧ A.dfr = []) ?_ l.length ⟨0, rfl, Nat.zero_le _, Fr.refl _, hr0, ?_⟩
 ·clear h0 h1 tm
  rintro m A H2 ⟨i, rfl, hi, g2, hr, t0, t1, t10, t11, t12, hnt, hdf⟩
  have hv2 := hv.gr g2
  have hk2 := hk.gr g2
  refine qW (qA E2_P (qA t11 (qA t12 hnt))) ?_
  refine qE fun Kx Ky hx hy => ?_
  refine iteI (fun hc => hx ?_) (fun hc => hy ?_)
  ·clear hx hy Kx Ky
   have hlt : i < l.length := by omega
   have ex : l[i]? = some l[i] := List.getElem?_eq_getElem hlt
   have hdr : l.drop i = l[i] :: l.drop (i + 1) := List.drop_eq_getElem_cons hlt
   have htk : l.take (i + 1) = l.take i ++ [l[i]] := List.take_succ_eq_append_getElem hlt
   have hmem : l[i] ∈ l := List.getElem_mem hlt
   generalize l[i] = x at ex hdr htk hmem
   have hw2 : IntKind.i64.wrap ((i : Int) + 1) = ((i + 1 : Nat) : Int) := by rw [wrapI (by omega) (by omega)]; omega
   obtain ⟨id, g, off, cells, rfl, hid, hgr, hat⟩ := hv2.open (by omega)
   obtain ⟨p, q, hx1⟩ := hat i x ex
   rw [hdr, goC] at hr
   refine qV ?_
   refine R1.s_block fun K2 q1 q2 q3 q4 => ?_
   refine qG (qA E2_P (qA t10 (qA t12 (qA hnt (qA el_cells (qA ld_cell (qA sz_cell (qA zr_cell (qA (ixC hlt) (qA hid (qA hgr (qA hx1.all hx1.le)))))))))))) fun K hK => ?_
   refine hK _ _ ?_
   clear hK K
   refine R1.gen (fun A3 H3 => Gr H2 H3 ∧ H2.nx < H3.nx ∧ H3.get H2.nx = some (.arr [.i .i64 x.1, .o (.str x.2.1), .o (.str x.2.2.1), p, q] 108 0 0) ∧ slot A3.tm 0 = .one (k) ∧ slot A3.tm 1 = .one ((.o (.sl id g off l.length 5))) ∧ slot A3.tm 5 = .one (.i .i64 (i : Int)) ∧ slot A3.tm 6 = .one ((.o (.ptr H2.nx 0 0 5))) ∧ slot A3.tm 10 = .one ((.o (.sl id g off l.length 5))) ∧ slot A3.tm 11 = .one (.i .i64 (l.length : Int)) ∧ slot A3.tm 12 = .one (.i .i64 (i : Int)) ∧ A3.nt = 62 ∧ A3.dfr = [])
    ⟨((Fr.refl _).new _).mod _ (.inl (Nat.le_refl _)), ?_⟩ ?_
   ·exact qZ (qA t0 (qA t1 (qA t10 (qA t11 (qA t12 (qA hnt hdf))))))
   clear t0 t1 t10 t11 t12 hnt hdf A
   rintro A H3 ⟨g3, n3, rx, t0, t1, t5, t6, t10, t11, t12, hnt, hdf⟩
   obtain ⟨M, hM⟩ : ∃ M, M = H2.nx := ⟨_, rfl⟩
   rw [← hM] at rx n3 t6
   have hgr3 : rowOf (H3.get id) g = some cells := by rw [g3.get _ hid not_false]; exact hgr
   have hid3 : id < H3.nx := Nat.lt_of_lt_of_le hid g3.nx
   have hk3 := hk2.gr g3
   have g13 := g2.gr g3
   generalize hr1 : (if ladE o x.2.2.1 ≠ 0 then 4 else if chkNm x.2.2.2 ≠ 0 then chkNm x.2.2.2 else goC o (l.take i ++ [x]) (l.drop (i + 1))) = r1 at hr
   repeat refine R1.s_assoc ?_
   (first | refine R1.s_sq (by kernel_rfl) fun K hK => ?_ | refine R1.e_sq (by kernel_rfl) fun K hK => ?_)
   have rest : ∀ (b : Bool) (A4 : AAct) (H4 : Hp), Gr H3 H4 → (if b = true then 53 else r1) = r0 → slot A4.tm 0 = .one (k) ∧ slot A4.tm 1 = .one ((.o (.sl id g off l.length 5))) ∧ slot A4.tm 6 = .one ((.o (.ptr M 0 0 5))) ∧ slot A4.tm 10 = .one ((.o (.sl id g off l.length 5))) ∧ slot A4.tm 11 = .one (.i .i64 (l.length : Int)) ∧ slot A4.tm 12 = .one (.i .i64 (i : Int)) ∧ slot A4.tm 45 = .one (.b b) ∧ A4.nt = 62 ∧ A4.dfr = [] → K A4 H4 := by
    clear hr t0 t1 t5 t6 t10 t11 t12 hnt hdf A
    rintro b A H4 g4 hr ⟨t0, t1, t6, t10, t11, t12, t45, hnt, hdf⟩
    refine hK _ _ ?_
    clear hK K
    have rx := (g4.get _ n3 not_false).trans rx
    have n3 := Nat.lt_of_lt_of_le n3 g4.nx
    have hk4 := hk3.gr g4
    have g14 := g13.gr g4
    have g24 := g3.gr g4
    clear g3
    cases b with
    | true =>
     rw [if_pos rfl] at hr
     refine qX t45 ?_
     refine qW hnt ?_
     exact q4 _ _ (k4 _ _ (fin (53) _ _ qp (qd hdf) (g14) (hr)))
    | false =>
    rw [if_neg Bool.false_ne_true, ← hr1] at hr
    refine qX t45 ?_
    refine R1.s_skip ?_
    refine qG (qA E2_P (qA t0 (qA t6 (qA hnt (qA rx (qA n3 (qA fd_cell_2 (qA ld_str bd_ladder)))))))) fun K hK => ?_
    refine WE.con (ladder_con H4 k o x.2.2.1 hk4 hL) fun w H6 g6 ⟨c, hw, ha, hcl⟩ => ?_
    subst hw
    have rx := (g6.get _ n3 not_false).trans rx
    have n3 := Nat.lt_of_lt_of_le n3 g6.nx
    have g6 := g24.gr g6
    refine qS (qA E2_P (qA hnt (qA zr_lad (qA sz_lad hcl)))) ?_
    refine hK _ _ ?_
    clear hK K
    refine R1.gen (fun A7 H7 => Gr H2 H7 ∧ H7.get M = some (.arr [.i .i64 x.1, .o (.str x.2.1), .o (.str x.2.2.1), p, q] 108 0 0) ∧ M < H7.nx ∧ slot A7.tm 0 = .one (k) ∧ slot A7.tm 1 = .one ((.o (.sl id g off l.length 5))) ∧ slot A7.tm 6 = .one ((.o (.ptr M 0 0 5))) ∧ slot A7.tm 8 = .one (.i .i64 ((ladE o x.2.2.1) : Int)) ∧ slot A7.tm 10 = .one ((.o (.sl id g off l.length 5))) ∧ slot A7.tm 11 = .one (.i .i64 (l.length : Int)) ∧ slot A7.tm 12 = .one (.i .i64 (i : Int)) ∧ A7.nt = 62 ∧ A7.dfr = [])
     ⟨(g6.new _).mod _ (.inl g6.nx), ?_, ?_, ?_⟩ ?_
    ·rw [get_modN (Nat.ne_of_lt n3), get_newL n3]; exact rx
    ·exact Nat.lt_succ_of_lt n3
    ·repeat' (first | (simp only [slot_put, Nat.reduceEqDiff, reduceIte, putD_nt, putD_dfr, t0, t1, t6, t10, t11, t12, hnt, hdf]; first | done | rfl) | refine ⟨?_, ?_⟩)
    clear t0 t1 t6 t10 t11 t12 t45 hnt hdf A
    rintro A H7 ⟨g7, rx, n7, t0, t1, t6, t8, t10, t11, t12, hnt, hdf⟩
    generalize ladE o x.2.2.1 = e0 at hr t8
    by_cases he0 : e0 = 0
    case neg =>
     have ce : (e0 == 0) = false := beq_false_of_ne he0
     rw [if_pos he0] at hr
     refine qW (qA E2_P (qA t8 (qA hnt ce))) ?_
     refine qY ?_
     refine qW hnt ?_
     exact q4 _ _ (k4 _ _ (fin (4) _ _ qp (qd hdf) (g2.gr g7) (hr)))
    rw [if_neg (fun h => h he0)] at hr
    have ce : (e0 == 0) = true := by rw [he0]; rfl
    refine qW (qA E2_P (qA t8 (qA hnt ce))) ?_
    refine qY ?_
    refine R1.s_skip ?_
    have hp7 := hx1.of1.gr g7
    have hq7 := hx1.of2.gr g7
    refine qG (qA E2_P (qA t6 (qA hnt (qA rx (qA n7 (qA fd_cell_3 (qA ld_num bd_numCheck))))))) fun K hK => ?_
    refine WE.con (numCheck_con H7 p q x.2.2.2 hp7 hq7) fun w H8 g8 hw => ?_
    subst hw
    have g8 := g7.gr g8
    refine qS (qA E2_P hnt) ?_
    refine hK _ _ ?_
    clear hK K
    generalize chkNm x.2.2.2 = e1 at hr ⊢
    by_cases he1 : e1 = 0
    case neg =>
     have ce : (e1 == 0) = false := beq_false_of_ne he1
     rw [if_pos he1] at hr
     refine qW (qA E2_P (qA hnt ce)) ?_
     refine qY ?_
     refine qW hnt ?_
     exact q4 _ _ (k4 _ _ (fin (e1) _ _ qp (qd hdf) (g2.gr g8) (hr)))
    rw [if_neg (fun h => h he1), ← htk] at hr
    have ce : (e1 == 0) = true := by rw [he1]; rfl
    refine qW (qA E2_P (qA hnt ce)) ?_
    refine qY ?_
    refine qW hnt ?_
    refine q1 _ _ ?_
    refine qW (qA hnt (qA t12 hw2)) ?_
    refine ⟨l.length - (i + 1), by omega, i + 1, rfl, hlt, g2.gr g8, hr, ?_⟩
    repeat' (first | (simp only [slot_put, Nat.reduceEqDiff, reduceIte, putD_nt, putD_dfr, t0, t1, t10, t11, t12, hnt, hdf]; first | done | rfl) | refine ⟨?_, ?_⟩)
   clear hK
   by_cases c0 : x.1 < 0
   ·rw [if_pos c0] at hr
    have c0 := eq_true c0
    refine qS (qA E2_P (qA t6 (qA hnt (qA rx (qA n3 (qA fd_cell_0 (qA ld_int c0))))))) ?_
    refine rest true _ _ (Fr.refl _) hr ?_
    repeat' (first | (simp only [slot_put, Nat.reduceEqDiff, reduceIte, putD_nt, putD_dfr, t0, t1, t6, t10, t11, t12, hnt, hdf]; first | done | rfl) | refine ⟨?_, ?_⟩)
   rw [if_neg c0] at hr
   by_cases c1 : 255 < x.1
   ·rw [if_pos c1] at hr
    have c0 := eq_false c0
    have c1 : (256 ≤ x.1) = True := eq_true (by omega)
    refine qS (qA E2_P (qA t6 (qA hnt (qA rx (qA n3 (qA fd_cell_0 (qA ld_int (qA c0 c1)))))))) ?_
    refine rest true _ _ (Fr.refl _) hr ?_
    repeat' (first | (simp only [slot_put, Nat.reduceEqDiff, reduceIte, putD_nt, putD_dfr, t0, t1, t6, t10, t11, t12, hnt, hdf]; first | done | rfl) | refine ⟨?_, ?_⟩)
   rw [if_neg c1] at hr
   have c0 := eq_false c0
   have c1 : (256 ≤ x.1) = False := eq_false (by omega)
   by_cases hi0 : i = 0
   ·have ci : ((0 : Int) < (i : Int)) = False := eq_false (by omega)
    rw [hi0, List.take_zero, if_neg (by exact Bool.false_ne_true)] at hr
    refine qS (qA E2_P (qA t5 (qA t6 (qA hnt (qA rx (qA n3 (qA fd_cell_0 (qA fd_cell_1 (qA ld_int (qA ld_str (qA c0 (qA c1 (qA ci bd_isName))))))))))))) ?_
    refine WE.prim (isName_p x.2.1) fun H4 g4 n4 e4 => ?_
    refine qS (qA E2_P hnt) ?_
    refine rest (!nmB x.2.1) _ _ g4 ?_ ?_
    ·rw [← hr]; cases nmB x.2.1 <;> rfl
    ·repeat' (first | (simp only [slot_put, Nat.reduceEqDiff, reduceIte, putD_nt, putD_dfr, t0, t1, t6, t10, t11, t12, hnt, hdf]; first | done | rfl) | refine ⟨?_, ?_⟩)
   ·have ci : ((0 : Int) < (i : Int)) = True := eq_true (by omega)
    have hlt3 : i - 1 < l.length := by omega
    have ey : l[i - 1]? = some l[i - 1] := List.getElem?_eq_getElem hlt3
    have hpp := fun x => prevC_take (x := x) (by omega) ey
    generalize l[i - 1] = y at ey hpp
    obtain ⟨p', q', hy1⟩ := hat (i - 1) y ey
    have hw3 : IntKind.i64.wrap ((i : Int) - 1) = ((i - 1 : Nat) : Int) := by rw [wrapI (by omega) (by omega)]; omega
    rw [hpp x] at hr
    by_cases c2 : x.1 ≤ y.1
    ·rw [if_pos (decide_eq_true c2)] at hr
     have c2 := eq_true c2
     refine qS (qA E2_P (qA t1 (qA t5 (qA t6 (qA hnt (qA rx (qA n3 (qA fd_cell_0 (qA ld_int (qA c0 (qA c1 (qA ci (qA c2 (qA hw3 (qA el_cells (qA (ixC hlt3) (qA hid3 (qA hgr3 (qA hy1.f1 hy1.le1))))))))))))))))))) ?_
     refine rest true _ _ (Fr.refl _) hr ?_
     repeat' (first | (simp only [slot_put, Nat.reduceEqDiff, reduceIte, putD_nt, putD_dfr, t0, t1, t6, t10, t11, t12, hnt, hdf]; first | done | rfl) | refine ⟨?_, ?_⟩)
    ·rw [if_neg (by rw [decide_eq_true_eq]; exact c2)] at hr
     have c2 := eq_false c2
     refine qS (qA E2_P (qA t1 (qA t5 (qA t6 (qA hnt (qA rx (qA n3 (qA fd_cell_0 (qA fd_cell_1 (qA ld_int (qA ld_str (qA c0 (qA c1 (qA ci (qA c2 (qA hw3 (qA el_cells (qA (ixC hlt3) (qA hid3 (qA hgr3 (qA hy1.f1 (qA hy1.le1 bd_isName)))))))))))))))))))))) ?_
     refine WE.prim (isName_p x.2.1) fun H4 g4 n4 e4 => ?_
     refine qS (qA E2_P hnt) ?_
     refine rest (!nmB x.2.1) _ _ g4 ?_ ?_
     ·rw [← hr]; cases nmB x.2.1 <;> rfl
     ·repeat' (first | (simp only [slot_put, Nat.reduceEqDiff, reduceIte, putD_nt, putD_dfr, t0, t1, t6, t10, t11, t12, hnt, hdf]; first | done | rfl) | refine ⟨?_, ?_⟩)
  ·clear hx hy Kx Ky
   have hie : i = l.length := by omega
   rw [hie, List.drop_length, goC] at hr
   refine qW hnt ?_
   refine k2 _ _ ?_
   refine qW hnt ?_
   exact fin (0) _ _ qp (qd hdf) (g2) (hr)
 ·repeat' (first | (simp only [slot_put, Nat.reduceEqDiff, reduceIte, putD_nt, putD_dfr, h0, h1]; first | done | rfl) | refine ⟨?_, ?_⟩)
end Go.Proofs.YtiejeicaaojdlaaGreat
