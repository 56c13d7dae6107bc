/- A part of the proof: BkRef1, BkRef2, BkFacts3, BkRef3, BkRef4, BkRef6, BkBooks, BkArg, BkStay, BkFacts4, BkNum1, BkNum2. No conditions. -/
import Derived.Test.YtiejeicaaojdlaaGreatRAj
import Derived.KernelRfl
import Derived.Carry
namespace Go.Proofs.YtiejeicaaojdlaaGreat
open Go Go.Eng
section
variable {st : Bool} {E : Env} {A : AAct} {H : Hp} {next : AAct → Hp → Prop} {d : Option Tmp} {ty : TypeId} {pos : String} {af : Array Edge} {gd : Option (Nat × Bool)}
theorem SK_index {t : TypeId} {x i : Operand} : SK st E ⟨d, .index t x i, ty, pos, af, gd⟩ A H next = vN next A d (doIndex H (isStrT E.P t) (ev A.tm x) (ev A.tm i) (plainOp E.P A.tm H ⟨d, .index t x i, ty, pos, af, gd⟩)) := tand
theorem str_at {s : List UInt8} {n : Nat} {b : UInt8} {k : IntKind} {alt : ANext} (h : s[n]? = some b) : doIndex H true (.one (.o (.str s))) (.one (.i k (n : Int))) alt = .val (.one (.i .u8 (b.toNat : Int))) H := by
 show nd (nthB n s) _ _ = _
 rw [nthB_eq, h]; rfl
theorem str_0 {c : UInt8} {s : List UInt8} {k : IntKind} {alt : ANext} : doIndex H true (.one (.o (.str (c :: s)))) (.one (.i k 0)) alt = .val (.one (.i .u8 (c.toNat : Int))) H := rfl
end
theorem bd_refName : hasBody Tryz.prog 37 = true := by kernel_rfl
theorem okB_dec (c : UInt8) : okB c = (decide ((c.toNat : Int) = 95) || (decide (97 ≤ (c.toNat : Int)) && decide ((c.toNat : Int) ≤ 122)) || (decide (48 ≤ (c.toNat : Int)) && decide ((c.toNat : Int) ≤ 57))) := by
 rw [Bool.eq_iff_iff, okB_iff]
 simp only [Bool.or_eq_true, Bool.and_eq_true, decide_eq_true_eq, or_assoc]
theorem nmB_cons (c : UInt8) (l : List UInt8) : nmB (c :: l) = (decide (l.length + 1 ≤ 16) && (decide (97 ≤ (c.toNat : Int)) && decide ((c.toNat : Int) ≤ 122)) && (c :: l).all okB) := by
 unfold nmB
 have e1 : decide (97 ≤ (c.toNat : Int)) = decide ((97 : UInt8) ≤ c) := by
  rw [decide_eq_decide, UInt8.le_iff_toNat_le]
  show (97 : Int) ≤ c.toNat ↔ 97 ≤ c.toNat
  omega
 have e2 : decide ((c.toNat : Int) ≤ 122) = decide (c ≤ (122 : UInt8)) := by
  rw [decide_eq_decide, UInt8.le_iff_toNat_le]
  show (c.toNat : Int) ≤ 122 ↔ c.toNat ≤ 122
  omega
 rw [e1, e2]
 simp only [List.isEmpty_cons, Bool.not_false, Bool.true_and, List.length_cons, Bool.and_assoc]
set_option maxRecDepth 10000 in
set_option maxHeartbeats 4000000 in
theorem refName_con (H : Hp) (s : List UInt8) : Con E2 37 [.one (.o (.str s))] H (fun _ => False) fun v _ => v = .one (.b (nmB s)) := by
 refine Con.of rfl fun lg => ?_
 generalize (⟨H.t, H.nx, lg⟩ : Hp) = H
 refine C1.body (E := E2) (nt := 52) (res := [.tmp 2]) Tryz.func37 rfl rfl rfl rfl rfl fun tm hargs => ?_
 have h0 := hargs 0 _ rfl
 clear hargs
 cases s with
 | nil =>
  refine qW E2_P ?_
  repeat refine R1.s_assoc ?_
  refine R1.s_rg fun K hK => ?_
  simp only [qB, slotOk, Nat.reduceLT, Int.reduceLT, E2_P, h0, ln_str]
  refine hK _ _ ?_
  clear hK K
  refine qY ?_
  refine qV ?_
  exact ⟨_, _, callEnd_one (.b false) (.inr rfl) rfl qp, Fr.refl _, fun _ => rfl⟩
 | cons c l =>
  have hl1 : (((l.length + 1 : Nat) : Int) < 1) = False := eq_false (by omega)
  refine qW E2_P ?_
  repeat refine R1.s_assoc ?_
  refine R1.s_rg fun K hK => ?_
  simp only [qB, slotOk, Nat.reduceLT, E2_P, h0, ln_str, hl1]
  repeat' (refine SU_iteI (fun hc => ?_) (fun hc => ?_) <;> (try simp only [Classical.not_not] at hc) <;> simp only [hc, qB, slotOk, Nat.reduceLT, E2_P, h0, SK_index, is_str, str_0])
  all_goals refine hK _ _ ?_
  all_goals clear hK K
  all_goals refine qE fun Kx Ky hx hy => ?_
  all_goals first | refine hx ?_ | refine hy ?_ | refine iteI (fun hd => hx ?_) (fun hd => hy ?_)
  all_goals clear hx hy Kx Ky
  all_goals refine qV ?_
  all_goals first
   | (refine ⟨_, _, callEnd_one (.b false) (.inr rfl) rfl qp, Fr.refl _, fun _ => ?_⟩
      have : nmB (c :: l) = false := Bool.eq_false_iff.2 fun h => by
       rw [nmB_cons] at h
       simp only [Bool.and_eq_true, decide_eq_true_eq] at h
       omega
      rw [this]; done)
   | skip
  rename_i hl16
  have hnm : nmB (c :: l) = (c :: l).all okB := by
   rw [nmB_cons, decide_eq_true (by omega : l.length + 1 ≤ 16), decide_eq_true (by omega : 97 ≤ (c.toNat : Int)), decide_eq_true (by omega : (c.toNat : Int) ≤ 122)]; rfl
  rw [hnm]
  clear hnm hl1 hc hd
  generalize hs : c :: l = s at h0 ⊢
  have hlen : s.length ≤ 16 := by rw [← hs, List.length_cons]; omega
  clear hl16 hs
  refine R1.s_block fun K k1 k2 k3 k4 => ?_
  refine R1.loop (fun m A1 H1 => ∃ i : Nat, m = s.length - i ∧ i ≤ s.length ∧ H1 = H ∧ (s.take i).all okB = true ∧ slot A1.tm 0 = .one (.o (.str s)) ∧ slot A1.tm 3 = .one (.i .i64 (i : Int)) ∧ A1.nt = 52 ∧ A1.dfr = []) ?_ s.length
   ⟨0, rfl, Nat.zero_le _, rfl, rfl, ?_, ?_, rfl, rfl⟩
  ·clear h0 tm
   rintro m A1 H1 ⟨i, rfl, hi, rfl, hall, t0, t3, hnt, hdf⟩
   refine qW (qA E2_P (qA t0 (qA t3 (qA hnt ln_str)))) ?_
   refine qE fun Kx Ky hx hy => ?_
   refine iteI (fun hc => hx ?_) (fun hc => hy ?_)
   ·clear hx hy Kx Ky
    have hlt : i < s.length := by omega
    have hb : s[i]? = some s[i] := List.getElem?_eq_getElem hlt
    have htk : s.take (i + 1) = s.take i ++ [s[i]] := List.take_succ_eq_append_getElem hlt
    have hmem : s[i] ∈ s := List.getElem_mem hlt
    generalize s[i] = b at hb htk hmem
    refine R1.s_skip (R1.s_block fun K2 q1 q2 q3 q4 => ?_)
    repeat refine R1.s_assoc ?_
    refine R1.s_rg fun K hK => ?_
    simp only [qB, slotOk, Nat.reduceLT, E2_P, t0, t3, hnt, SK_index, is_str, str_at hb]
    refine hK _ _ ?_
    clear hK K
    refine qG (qA E2_P hnt) fun K hK => ?_
    repeat' (refine SU_iteI (fun hc => ?_) (fun hc => ?_) <;> (try simp only [Classical.not_not] at hc) <;> simp only [hc, qB, slotOk, Nat.reduceLT, E2_P, hnt])
    all_goals refine hK _ _ ?_
    all_goals clear hK K
    all_goals refine qE fun Kx Ky hx hy => ?_
    all_goals first | refine hx ?_ | refine hy ?_ | refine iteI (fun hd => hx ?_) (fun hd => hy ?_)
    all_goals clear hx hy Kx Ky
    all_goals (try simp only [beq_eq_false_iff_ne, ne_eq, Classical.not_not] at hd)
    all_goals refine qW (qA t3 hnt) ?_
    all_goals first
     | (refine q4 _ _ (k4 _ _ ⟨_, _, callEnd_one (.b false) (.inr rfl) (qd hdf) qp, Fr.refl _, fun _ => ?_⟩)
        have hno : okB b = false := Bool.eq_false_iff.2 fun h => by
         rw [okB_dec] at h
         simp only [Bool.or_eq_true, Bool.and_eq_true, decide_eq_true_eq] at h
         omega
        have : s.all okB = false := List.all_eq_false.2 ⟨b, hmem, by rw [hno]; decide⟩
        rw [this]; done)
     | (refine q1 _ _ ?_
        have hok : okB b = true := by
         rw [okB_dec]
         simp only [Bool.or_eq_true, Bool.and_eq_true, decide_eq_true_eq]
         omega
        have hw2 : IntKind.i64.wrap ((i : Int) + 1) = ((i + 1 : Nat) : Int) := by rw [wrapI (by omega) (by omega)]; omega
        refine qW (qA t3 (qA hnt hw2)) ?_
        refine ⟨s.length - (i + 1), by omega, i + 1, rfl, hlt, rfl, by rw [htk, List.all_append, hall, List.all_cons, hok]; rfl, ?_, ?_, ?_, ?_⟩
        ·simp only [slot_put, Nat.reduceEqDiff, reduceIte, t0]
        ·simp only [slot_put, Nat.reduceEqDiff, reduceIte]
        ·simp only [putD_nt, hnt]
        ·simp only [putD_dfr, hdf])
   ·clear hx hy Kx Ky
    have hie : i = s.length := by omega
    refine qW hnt ?_
    refine k2 _ _ ?_
    refine qW hnt ?_
    refine ⟨_, _, callEnd_one (.b true) (.inr rfl) (qd hdf) qp, Fr.refl _, fun _ => ?_⟩
    rw [hie, List.take_length] at hall
    rw [hall]
  all_goals simp only [slot_put, Nat.reduceEqDiff, reduceIte, h0]
  all_goals rfl
theorem bd_signAt : hasBody Tryz.prog 107 = true := by kernel_rfl
theorem bd_values : hasBody Tryz.prog 108 = true := by kernel_rfl
theorem bd_refCheck : hasBody Tryz.prog 67 = true := by kernel_rfl
def idxU : Nat → List Pr → List UInt8 → Int
 | _, [], _ => -1
 | n, x :: l, s => if x.1 = s then (n : Int) else idxU (n + 1) l s
set_option maxRecDepth 10000 in
set_option maxHeartbeats 4000000 in
theorem signAt_con (H : Hp) (n : List UInt8) (u : AC) (us : List Pr) (s : List UInt8) (hu : SlP H u us) (hL : us.length ≤ 1000000) :
  Con E2 107 [.agg [.o (.str n), u], .one (.o (.str s))] H (fun _ => False) fun r _ => r = .one (.i .i64 (idxU 0 us s)) := by
 refine Con.of rfl fun lg => ?_
 have hu : SlP ⟨H.t, H.nx, lg⟩ u us := hu
 generalize (⟨H.t, H.nx, lg⟩ : Hp) = H at hu ⊢
 refine C1.body (E := E2) (nt := 22) (res := [.tmp 4]) Tryz.func107 rfl rfl rfl rfl rfl fun tm hargs => ?_
 have h0 := hargs 0 _ rfl
 have h1 := hargs 1 _ rfl
 clear hargs
 generalize hr0 : idxU 0 us s = r0
 refine qG (qA E2_P h0) fun K hK => ?_
 refine hK _ _ ?_
 clear hK K
 refine R1.gen (fun A1 H1 => Gr H H1 ∧ H.nx < H1.nx ∧ H1.get H.nx = some (.arr [.o (.str n), u] 78 0 0) ∧ slot A1.tm 1 = .one (.o (.str s)) ∧ slot A1.tm 2 = .one (.o (.ptr H.nx 0 0 2)) ∧ A1.nt = 22 ∧ A1.dfr = [])
  ⟨(Fr.refl _).new _, ?_⟩ ?_
 ·exact qZ h1
 rintro A1 H1 ⟨g1, lb, rb, t1, t2, hnt, hdf⟩
 clear h0 h1 tm
 have hu1 := hu.gr g1
 refine qW hnt ?_
 refine R1.s_block fun K k1 k2 k3 k4 => ?_
 refine R1.loop (fun k A H2 => ∃ i : Nat, k = us.length - i ∧ i ≤ us.length ∧ H2 = H1 ∧ idxU i (us.drop i) s = r0 ∧ slot A.tm 1 = .one (.o (.str s)) ∧ slot A.tm 2 = .one (.o (.ptr H.nx 0 0 2)) ∧ slot A.tm 5 = .one (.i .i64 (i : Int)) ∧ A.nt = 22 ∧ A.dfr = []) ?_ us.length
  ⟨0, rfl, Nat.zero_le _, rfl, hr0, ?_⟩
 ·clear t1 t2 hnt hdf A1
  rintro k A H2 ⟨i, rfl, hi, rfl, hr, t1, t2, t5, hnt, hdf⟩
  refine qW (qA E2_P (qA t2 (qA t5 (qA hnt (qA rb (qA lb (qA fd_lad_1 (qA ld_units (qA ln_units (qA hu1.len hu1.lt)))))))))) ?_
  refine qE fun Kx Ky hx hy => ?_
  refine iteI (fun hc => hx ?_) (fun hc => hy ?_)
  ·clear hx hy Kx Ky
   have hlt : i < us.length := by omega
   obtain ⟨id, g, off, cells, rfl, hid, hgr, hat⟩ := hu1.open (by omega)
   have ex : us[i]? = some us[i] := List.getElem?_eq_getElem hlt
   have hdr : us.drop i = us[i] :: us.drop (i + 1) := List.drop_eq_getElem_cons hlt
   generalize us[i] = x at ex hdr
   have hx1 := hat i x ex
   have hw2 : IntKind.i64.wrap ((i : Int) + 1) = ((i + 1 : Nat) : Int) := by rw [wrapI (by omega) (by omega)]; omega
   rw [hdr, idxU] at hr
   refine qV ?_
   refine R1.s_block fun K2 q1 q2 q3 q4 => ?_
   refine qG (qA E2_P (qA t1 (qA t2 (qA t5 (qA hnt (qA rb (qA lb (qA fd_lad_1 (qA ld_units (qA el_units (qA fd_unit_0 (qA ld_str (qA (ixC hlt) (qA hid (qA hgr (qA hx1.fst hx1.le1)))))))))))))))) fun K hK => ?_
   refine hK _ _ ?_
   clear hK K
   by_cases hxs : x.1 = s
   ·rw [if_pos hxs] at hr
    have ce : lEq x.1 s = true := by rw [lEq_eq, hxs, beq_self_eq_true]
    refine qX ce ?_
    refine qW (qA hnt t5) ?_
    exact q4 _ _ (k4 _ _ ⟨_, _, callEnd_one (.i .i64 (i : Int)) (.inr rfl) (qd hdf) qp, g1, fun _ => by rw [← hr]⟩)
   ·rw [if_neg hxs] at hr
    have ce : lEq x.1 s = false := by rw [lEq_eq]; exact beq_false_of_ne hxs
    refine qX ce ?_
    refine qW hnt ?_
    refine q1 _ _ ?_
    refine qW (qA hnt (qA t5 hw2)) ?_
    refine ⟨us.length - (i + 1), by omega, i + 1, rfl, hlt, rfl, hr, ?_, ?_, ?_, ?_, ?_⟩
    ·simp only [slot_put, Nat.reduceEqDiff, reduceIte, t1]
    ·simp only [slot_put, Nat.reduceEqDiff, reduceIte, t2]
    ·simp only [slot_put, Nat.reduceEqDiff, reduceIte]
    ·simp only [putD_nt, hnt]
    ·simp only [putD_dfr, hdf]
  ·clear hx hy Kx Ky
   have hie : i = us.length := by omega
   rw [hie, List.drop_length, idxU] at hr
   refine qW hnt ?_
   refine k2 _ _ ?_
   refine qW hnt ?_
   exact ⟨_, _, callEnd_one (.i .i64 (-1)) (.inr rfl) (qd hdf) qp, g1, fun _ => by rw [← hr]⟩
 ·simp only [slot_put, Nat.reduceEqDiff, reduceIte, putD_nt, putD_dfr, t1, t2, hnt, hdf, and_self, true_and]
  exact ⟨rfl, trivial⟩
def valsU : Int → List Pr → Option (List Int)
 | _, [] => some []
 | v, x :: l => if 1099511627776 < v * x.2 then none else (valsU (v * x.2) l).map (v * x.2 :: ·)
def intC (n : Int) : List AC := [.i .i64 n]
theorem intC_len (n : Int) : (intC n).length = 1 := rfl
def SlI (H : Hp) (v : AC) (l : List Int) : Prop := SlC H v 1 l.length (l.flatMap intC)
set_option maxRecDepth 10000 in
set_option maxHeartbeats 4000000 in
theorem values_con (H : Hp) (n : List UInt8) (u : AC) (us : List Pr) (hu : SlP H u us) (hL : us.length ≤ 1000000) (hf : ∀ x ∈ us, 1 ≤ x.2 ∧ x.2 ≤ 60) :
  Con E2 108 [.agg [.o (.str n), u]] H (fun _ => False) fun r H' => ∃ c, r = .tup [(false, [c]), (false, [.b (valsU 1 us).isSome])] ∧ SlI H' c ((valsU 1 us).getD []) := by
 refine Con.of rfl fun lg => ?_
 have hu : SlP ⟨H.t, H.nx, lg⟩ u us := hu
 generalize (⟨H.t, H.nx, lg⟩ : Hp) = H at hu ⊢
 refine C1.body (E := E2) (nt := 29) (res := [.tmp 2, .tmp 3]) Tryz.func108 rfl rfl rfl rfl rfl fun tm hargs => ?_
 have h0 := hargs 0 _ rfl
 clear hargs
 generalize hr0 : valsU 1 us = r0
 refine qG (qA E2_P h0) fun K hK => ?_
 refine hK _ _ ?_
 clear hK K
 refine R1.gen (fun A1 H1 => Gr H H1 ∧ H.nx < H1.nx ∧ H1.get H.nx = some (.arr [.o (.str n), u] 78 0 0) ∧ slot A1.tm 1 = .one (.o (.ptr H.nx 0 0 2)) ∧ A1.nt = 29 ∧ A1.dfr = [])
  ⟨(Fr.refl _).new _, ?_⟩ ?_
 ·exact qU
 rintro A1 H1 ⟨g1, lb, rb, t1, hnt, hdf⟩
 clear h0 tm
 obtain ⟨zi, hzi, hzil⟩ := zx_int
 refine qW hnt ?_
 refine R1.s_block fun K k1 k2 k3 k4 => ?_
 refine R1.loop (fun k A H2 => ∃ (i : Nat) (out : List Int) (v : Int) (v4 : AC) (r : Option Nat), k = us.length - i ∧ i ≤ us.length ∧ out.length = i ∧ Gr H1 H2 ∧ 1 ≤ v ∧ v ≤ 1099511627776 ∧ (valsU v (us.drop i)).map (out ++ ·) = r0 ∧ OwnR H2 v4 3 1 out.length (out.flatMap intC) r ∧ (∀ q, r = some q → H1.nx ≤ q) ∧
  slot A.tm 1 = .one (.o (.ptr H.nx 0 0 2)) ∧ slot A.tm 4 = .one v4 ∧ slot A.tm 5 = .one (.i .i64 v) ∧ slot A.tm 6 = .one (.i .i64 (i : Int)) ∧ A.nt = 29 ∧ A.dfr = []) ?_ us.length
  ⟨0, [], 1, .o .nilS, none, rfl, Nat.zero_le _, rfl, Fr.refl _, by omega, by omega, ?_, .inl ⟨rfl, rfl, rfl, rfl⟩, fun q hq => (by cases hq), ?_⟩
 ·clear t1 hnt hdf A1
  rintro k A H2 ⟨i, out, v, v4, r, rfl, hi, hout, g2, hv1, hv2, hr, hown, hrow, t1, t4, t5, t6, hnt, hdf⟩
  have rb2 : H2.get H.nx = some (.arr [.o (.str n), u] 78 0 0) := by rw [g2.get _ lb not_false]; exact rb
  have lb2 : H.nx < H2.nx := Nat.lt_of_lt_of_le lb g2.nx
  have hu2 := (hu.gr g1).gr g2
  refine qW (qA E2_P (qA t1 (qA t6 (qA hnt (qA rb2 (qA lb2 (qA fd_lad_1 (qA ld_units (qA ln_units (qA hu2.len hu2.lt)))))))))) ?_
  refine qE fun Kx Ky hx hy => ?_
  refine iteI (fun hc => hx ?_) (fun hc => hy ?_)
  ·clear hx hy Kx Ky
   have hlt : i < us.length := by omega
   obtain ⟨id, g, off, cells, rfl, hid, hgr, hat⟩ := hu2.open (by omega)
   have ex : us[i]? = some us[i] := List.getElem?_eq_getElem hlt
   have hdr : us.drop i = us[i] :: us.drop (i + 1) := List.drop_eq_getElem_cons hlt
   have hff := hf us[i] (List.getElem_mem hlt)
   generalize us[i] = x at ex hdr hff
   have hx1 := hat i x ex
   have hw2 : IntKind.i64.wrap ((i : Int) + 1) = ((i + 1 : Nat) : Int) := by rw [wrapI (by omega) (by omega)]; omega
   have hmul1 : 1 ≤ v * x.2 := by
    have := Int.mul_le_mul hv1 hff.1 (by omega) (by omega)
    omega
   have hmul2 : v * x.2 ≤ 1099511627776 * 60 := Int.mul_le_mul hv2 hff.2 (by omega) (by omega)
   have hwm : IntKind.i64.wrap (v * x.2) = v * x.2 := wrapI (by omega) (by omega)
   rw [hdr, valsU] at hr
   refine qV ?_
   refine R1.s_block fun K2 q1 q2 q3 q4 => ?_
   refine qG (qA E2_P (qA t1 (qA t5 (qA t6 (qA hnt (qA rb2 (qA lb2 (qA fd_lad_1 (qA ld_units (qA el_units (qA fd_unit_1 (qA ld_int (qA (ixC hlt) (qA hid (qA hgr (qA hx1.snd (qA hx1.le2 hwm))))))))))))))))) fun K hK => ?_
   refine hK _ _ ?_
   clear hK K
   refine qW hnt ?_
   by_cases hbig : 1099511627776 < v * x.2
   ·have cb : (1099511627776 < v * x.2) = True := eq_true hbig
    rw [if_pos hbig] at hr
    refine qX cb ?_
    refine qW hnt ?_
    refine q4 _ _ (k4 _ _ ⟨_, _, callEnd_two (.o .nilS) (.b false) (.inr rfl) (qd hdf) qp qp, g1.gr g2, fun _ => ?_⟩)
    rw [← hr]
    exact ⟨_, rfl, by simp [SlI], .inl ⟨rfl, rfl⟩⟩
   ·have cb : (1099511627776 < v * x.2) = False := eq_false hbig
    rw [if_neg hbig] at hr
    obtain ⟨hlt5, v6, H6, r6, happ, ho6, hf6, hr6⟩ := push_own el_ints by_int hzi hzil (by decide) hown [.i .i64 (v * x.2)] rfl (by omega)
    refine qX cb ?_
    refine R1.s_skip ?_
    refine qG (qA E2_P (qA t4 (qA hnt (qA el_ints (qA zr_int (qA repl1 (qA happ hlt5))))))) fun K hK => ?_
    refine ⟨hlt5, ?_⟩
    refine hK _ _ ?_
    clear hK K
    refine q1 _ _ ?_
    refine qW (qA hnt (qA t6 hw2)) ?_
    refine ⟨us.length - (i + 1), by omega, i + 1, out ++ [v * x.2], v * x.2, v6, some r6, rfl, hlt, by rw [List.length_append, hout]; rfl, g2.then hf6 fun q hq => .inl (hrow q hq), hmul1, by omega, ?_, ?_, fun q hq => ?_, ?_, ?_, ?_, ?_, ?_, ?_⟩
    ·rw [← hr, Option.map_map]
     congr 1
     funext l
     simp
    ·have e2 : (out ++ [v * x.2]).flatMap intC = out.flatMap intC ++ [.i .i64 (v * x.2)] := by rw [List.flatMap_append]; rfl
     rw [List.length_append, e2]; exact ho6
    ·cases hq
     rcases hr6 with h | h
     ·exact hrow _ h
     ·exact Nat.le_trans g2.nx h
    ·simp only [slot_put, Nat.reduceEqDiff, reduceIte, t1]
    ·simp only [slot_put, Nat.reduceEqDiff, reduceIte]
    ·simp only [slot_put, Nat.reduceEqDiff, reduceIte]
    ·simp only [slot_put, Nat.reduceEqDiff, reduceIte]
    ·simp only [putD_nt, hnt]
    ·simp only [putD_dfr, hdf]
  ·clear hx hy Kx Ky
   have hie : i = us.length := by omega
   rw [hie, List.drop_length, valsU] at hr
   refine qW hnt ?_
   refine k2 _ _ ?_
   refine qW (qA hnt t4) ?_
   refine ⟨_, _, callEnd_two v4 (.b true) (.inr rfl) (qd hdf) qp qp, g1.gr g2, fun _ => ?_⟩
   rw [← hr]
   refine ⟨_, rfl, ?_⟩
   have e : ((Option.map (fun x => out ++ x) (some [])).getD []) = out := by simp
   rw [e]; exact hown.slc
 ·rw [List.drop_zero, hr0]
  cases r0 <;> simp
 ·simp only [slot_put, Nat.reduceEqDiff, reduceIte, putD_nt, putD_dfr, t1, hnt, hdf, and_self, true_and]
  exact ⟨rfl, trivial⟩
end Go.Proofs.YtiejeicaaojdlaaGreat
namespace Go.Proofs.YtiejeicaaojdlaaGreat
open Go Go.Eng
def refU (us : List Pr) (i : Nat) (x : Pr) : Bool := nmB x.1 && (decide (idxU 0 us x.1 = (i : Int)) && (if i = 0 then x.2 == 1 else decide (2 ≤ x.2) && decide (x.2 ≤ 60)))
def refLad (n : List UInt8) (us : List Pr) : Bool := nmB n && decide (1 ≤ us.length) && decide (us.length ≤ 12) && ((List.range us.length).all fun i => refU us i (us.getD i ([], 0))) && (valsU 1 us).isSome
theorem refLad_no {n : List UInt8} {us : List Pr} {i : Nat} {x : Pr} (hx : us[i]? = some x) (h : refU us i x = false) : (if refLad n us = true then 0 else 10) = (10 : Int) := by
 have hlt : i < us.length := (List.getElem?_eq_some_iff.1 hx).1
 have : ((List.range us.length).all fun i => refU us i (us.getD i ([], 0))) = false := List.all_eq_false.2 ⟨i, List.mem_range.2 hlt, by rw [List.getD_eq_getElem?_getD, hx]; show ¬ refU us i x = true; rw [h]; decide⟩
 unfold refLad
 rw [this, Bool.and_false, Bool.false_and]; rfl
theorem yv_full : ∀ (v : Int) (us : List Pr), (yv v us).length = us.length ↔ (∀ x ∈ us, 1 ≤ x.2 ∧ x.2 ≤ 60) ∧ (valsU v us).isSome = true
 | _, [] => ⟨fun _ => ⟨fun x hx => (by cases hx), rfl⟩, fun _ => rfl⟩
 | v, u :: us => by
  unfold yv valsU
  have ih := yv_full (v * u.2) us
  by_cases h : u.2 < 1 ∨ 60 < u.2 ∨ 1099511627776 < v * u.2
  ·rw [if_pos h]
   refine ⟨fun h' => (by simp at h'), fun ⟨h1, h2⟩ => ?_⟩
   have h3 := h1 u (List.mem_cons_self ..)
   have h4 : 1099511627776 < v * u.2 := by omega
   rw [if_pos h4] at h2
   cases h2
  ·rw [if_neg h, if_neg (by omega), List.length_cons, List.length_cons, List.forall_mem_cons, Option.isSome_map]
   constructor
   ·intro h'
    obtain ⟨a, b⟩ := ih.1 (by omega)
    exact ⟨⟨by omega, a⟩, b⟩
   ·rintro ⟨⟨_, a⟩, b⟩
    have := ih.2 ⟨a, b⟩
    omega
theorem idxU_at : ∀ (n : Nat) (us : List Pr) (i : Nat) (x : Pr), us[i]? = some x → (idxU n us x.1 = ((n + i : Nat) : Int) ↔ ((us.take i).any fun y => y.1 == x.1) = false)
 | _, [], _, _, h => by simp at h
 | n, u :: us, 0, x, h => by
  simp only [List.getElem?_cons_zero, Option.some.injEq] at h
  subst h
  unfold idxU
  rw [if_pos rfl]
  exact ⟨fun _ => rfl, fun _ => rfl⟩
 | n, u :: us, i + 1, x, h => by
  rw [List.getElem?_cons_succ] at h
  unfold idxU
  rw [List.take_succ_cons, List.any_cons]
  by_cases hu : u.1 = x.1
  ·rw [if_pos hu, hu, beq_self_eq_true, Bool.true_or]
   exact ⟨fun h => by omega, fun h => by cases h⟩
  ·rw [if_neg hu, beq_false_of_ne hu, Bool.false_or]
   have := idxU_at (n + 1) us i x h
   have e : n + 1 + i = n + (i + 1) := by omega
   rw [e] at this
   exact this
theorem refLad_eq (n : List UInt8) (us : List Pr) : refLad n us = ladOK n us := by
 rw [Bool.eq_iff_iff]
 unfold refLad ladOK
 simp only [Bool.and_eq_true, decide_eq_true_eq, List.all_eq_true, List.mem_range, Bool.not_eq_true', beq_eq_false_iff_ne]
 have hat : ∀ i, i < us.length → ∃ x, us[i]? = some x ∧ us.getD i ([], 0) = x := fun i hi => ⟨us[i], List.getElem?_eq_getElem hi, by rw [List.getD_eq_getElem?_getD, List.getElem?_eq_getElem hi]; rfl⟩
 constructor
 ·rintro ⟨⟨⟨⟨h1, h2⟩, h3⟩, h4⟩, h5⟩
  have fac : ∀ x ∈ us, 1 ≤ x.2 ∧ x.2 ≤ 60 := fun x hx => by
   obtain ⟨i, hi, rfl⟩ := List.getElem_of_mem hx
   have := h4 i hi
   rw [List.getD_eq_getElem?_getD, List.getElem?_eq_getElem hi] at this
   unfold refU at this
   simp only [Option.getD_some, Bool.and_eq_true] at this
   have h6 := this.2.2
   split at h6
   ·have := eq_of_beq h6; omega
   ·simp only [Bool.and_eq_true, decide_eq_true_eq] at h6; omega
  refine ⟨⟨⟨⟨h1, by omega⟩, by omega⟩, (yv_full 1 us).2 ⟨fac, h5⟩⟩, fun i hi => ?_⟩
  obtain ⟨x, hx, hxd⟩ := hat i hi
  have h6 := h4 i hi
  rw [hxd] at h6 ⊢
  unfold refU at h6
  unfold okU
  simp only [Bool.and_eq_true, decide_eq_true_eq] at h6
  have h7 := (idxU_at 0 us i x hx).1 (by rw [Nat.zero_add]; exact h6.2.1)
  rw [h6.1, h7]
  have h8 := h6.2.2
  by_cases hi0 : i = 0
  ·rw [if_pos hi0] at h8
   rw [h8, hi0]; rfl
  ·rw [if_neg hi0] at h8
   simp only [Bool.and_eq_true, decide_eq_true_eq] at h8
   rw [beq_false_of_ne (by omega : x.2 ≠ 1), beq_false_of_ne (by omega : (i : Int) ≠ 0)]; rfl
 ·rintro ⟨⟨⟨⟨h1, h2⟩, h3⟩, h4⟩, h5⟩
  obtain ⟨fac, hv⟩ := (yv_full 1 us).1 h4
  refine ⟨⟨⟨⟨h1, by omega⟩, by omega⟩, fun i hi => ?_⟩, hv⟩
  obtain ⟨x, hx, hxd⟩ := hat i hi
  have h6 := h5 i hi
  rw [hxd] at h6 ⊢
  unfold okU at h6
  unfold refU
  simp only [Bool.and_eq_true, Bool.not_eq_true'] at h6
  have h7 := (idxU_at 0 us i x hx).2 h6.1.2
  rw [Nat.zero_add] at h7
  have hfx := fac x (List.mem_of_getElem? hx)
  rw [h6.1.1, h7, decide_eq_true rfl]
  have h8 := eq_of_beq h6.2
  by_cases hi0 : i = 0
  ·rw [if_pos hi0, h8, hi0]; rfl
  ·rw [if_neg hi0]
   rw [beq_false_of_ne (by omega : (i : Int) ≠ 0)] at h8
   have : x.2 ≠ 1 := fun h => by rw [h] at h8; cases h8
   rw [decide_eq_true (by omega : 2 ≤ x.2), decide_eq_true (by omega : x.2 ≤ 60)]; rfl
set_option maxRecDepth 10000 in
set_option maxHeartbeats 8000000 in
theorem refCheck_con (H : Hp) (n : List UInt8) (u : AC) (us : List Pr) (hu : SlP H u us) :
  Con E2 67 [.agg [.o (.str n), u]] H (fun _ => False) fun r _ => r = .one (.i .i64 (chkLad n us)) := by
 refine Con.of rfl fun lg => ?_
 have hu : SlP ⟨H.t, H.nx, lg⟩ u us := hu
 generalize (⟨H.t, H.nx, lg⟩ : Hp) = H at hu ⊢
 unfold chkLad
 rw [← refLad_eq]
 refine C1.body (E := E2) (nt := 77) (res := [.tmp 2]) Tryz.func67 rfl rfl rfl rfl rfl fun tm hargs => ?_
 have h0 := hargs 0 _ rfl
 clear hargs
 have fin : ∀ (e : Int) (A : AAct) (H3 : Hp), slot A.tm 2 = .one (.i .i64 e) → A.dfr = [] → Gr H H3 → e = (if refLad n us = true then 0 else 10) → ∃ w H4, callEnd E2 [.tmp 2] (.ret, A, H3) = .ok [(w, H4)] ∧ Gr H H4 ∧ ∀ _ : List Nat, w = .one (.i .i64 (if refLad n us = true then 0 else 10)) := fun e A H3 h1 h2 h3 h4 => ⟨_, H3, callEnd_one (.i .i64 e) (.inr rfl) h2 h1, h3, fun _ => by rw [h4]⟩
 refine qG (qA E2_P h0) fun K hK => ?_
 refine hK _ _ ?_
 clear hK K
 refine R1.gen (fun A1 H1 => Gr H H1 ∧ H.nx < H1.nx ∧ H1.get H.nx = some (.arr [.o (.str n), u] 78 0 0) ∧ slot A1.tm 1 = .one (.o (.ptr H.nx 0 0 2)) ∧ A1.nt = 77 ∧ A1.dfr = [])
  ⟨(Fr.refl _).new _, ?_⟩ ?_
 ·exact qU
 rintro A1 H1 ⟨g1, lb, rb, t1, hnt, hdf⟩
 clear h0 tm
 refine qG (qA E2_P (qA t1 (qA hnt (qA rb (qA lb (qA fd_lad_0 (qA ld_str bd_refName))))))) fun K hK => ?_
 refine WE.con (refName_con H1 n) fun w H2 g2 hw => ?_
 subst hw
 have g2' := g1.gr g2
 have hu2 := hu.gr g2'
 have rb : H2.get H.nx = some (.arr [.o (.str n), u] 78 0 0) := by rw [g2.get _ lb not_false]; exact rb
 have lb : H.nx < H2.nx := Nat.lt_of_lt_of_le lb g2.nx
 cases hnm : nmB n with
 | false =>
  refine qS (qA E2_P hnt) ?_
  refine hK _ _ ?_
  clear hK K
  refine qY ?_
  refine qW hnt ?_
  exact fin 10 _ _ qp (qd hdf) g2' (by unfold refLad; rw [hnm]; rfl)
 | true =>
  by_cases h1 : (us.length : Int) < 1
  ·have c1 : ((us.length : Int) < 1) = True := eq_true h1
   refine qS (qA E2_P (qA t1 (qA hnt (qA rb (qA lb (qA fd_lad_1 (qA ld_units (qA ln_units (qA hu2.len (qA hu2.lt c1)))))))))) ?_
   refine hK _ _ ?_
   clear hK K
   refine qY ?_
   refine qW hnt ?_
   exact fin 10 _ _ qp (qd hdf) g2' (by unfold refLad; rw [decide_eq_false (by omega : ¬ 1 ≤ us.length)]; simp)
  ·have c1 : ((us.length : Int) < 1) = False := eq_false h1
   by_cases h12 : (12 : Int) < us.length
   ·have c12 : ((12 : Int) < us.length) = True := eq_true h12
    refine qS (qA E2_P (qA t1 (qA hnt (qA rb (qA lb (qA fd_lad_1 (qA ld_units (qA ln_units (qA hu2.len (qA hu2.lt (qA c1 c12))))))))))) ?_
    refine hK _ _ ?_
    clear hK K
    refine qY ?_
    refine qW hnt ?_
    exact fin 10 _ _ qp (qd hdf) g2' (by unfold refLad; rw [decide_eq_false (by omega : ¬ us.length ≤ 12)]; simp)
   ·have c12 : ((12 : Int) < us.length) = False := eq_false h12
    refine qS (qA E2_P (qA t1 (qA hnt (qA rb (qA lb (qA fd_lad_1 (qA ld_units (qA ln_units (qA hu2.len (qA hu2.lt (qA c1 c12))))))))))) ?_
    refine hK _ _ ?_
    clear hK K
    refine qY ?_
    refine qW hnt ?_
    refine R1.s_block fun K k1 k2 k3 k4 => ?_
    refine R1.loop (fun k A H3 => ∃ i : Nat, k = us.length - i ∧ i ≤ us.length ∧ Gr H2 H3 ∧ (∀ j, j < i → refU us j (us.getD j ([], 0)) = true) ∧ slot A.tm 1 = .one (.o (.ptr H.nx 0 0 2)) ∧ slot A.tm 3 = .one (.i .i64 (i : Int)) ∧ A.nt = 77 ∧ A.dfr = []) ?_ us.length
     ⟨0, rfl, Nat.zero_le _, Fr.refl _, fun j hj => absurd hj (Nat.not_lt_zero j), ?_⟩
    ·clear t1 hnt hdf A1
     rintro k A H3 ⟨i, rfl, hi, g3, hall, t1, t3, hnt, hdf⟩
     have hu3 := hu2.gr g3
     have rb : H3.get H.nx = some (.arr [.o (.str n), u] 78 0 0) := by rw [g3.get _ lb not_false]; exact rb
     have lb : H.nx < H3.nx := Nat.lt_of_lt_of_le lb g3.nx
     refine qW (qA E2_P (qA t1 (qA t3 (qA hnt (qA rb (qA lb (qA fd_lad_1 (qA ld_units (qA ln_units (qA hu3.len hu3.lt)))))))))) ?_
     refine qE fun Kx Ky hx hy => ?_
     refine iteI (fun hc => hx ?_) (fun hc => hy ?_)
     ·clear hx hy Kx Ky
      have hlt : i < us.length := by omega
      have hw2 : IntKind.i64.wrap ((i : Int) + 1) = ((i + 1 : Nat) : Int) := by rw [wrapI (by omega) (by omega)]; omega
      obtain ⟨id, g, off, cells, rfl, hid, hgr, hat⟩ := hu3.open (by omega)
      have ex : us[i]? = some us[i] := List.getElem?_eq_getElem hlt
      generalize us[i] = x at ex
      have hx1 := hat i x ex
      refine qV ?_
      refine R1.s_block fun K2 q1 q2 q3 q4 => ?_
      refine qG (qA E2_P (qA t1 (qA t3 (qA hnt (qA rb (qA lb (qA fd_lad_1 (qA ld_units (qA el_units (qA ld_unit (qA sz_unit (qA zr_unit (qA (ixC hlt) (qA hid (qA hgr (qA hx1.all (qA hx1.le prC_e))))))))))))))))) fun K hK => ?_
      refine hK _ _ ?_
      clear hK K
      refine R1.gen (fun A4 H4 => Gr H3 H4 ∧ H3.nx < H4.nx ∧ H4.get H3.nx = some (.arr (prC x) 140 0 0) ∧ slot A4.tm 1 = .one (.o (.ptr H.nx 0 0 2)) ∧ slot A4.tm 3 = .one (.i .i64 (i : Int)) ∧ slot A4.tm 4 = .one (.o (.ptr H3.nx 0 0 2)) ∧ A4.nt = 77 ∧ A4.dfr = [])
       ⟨((Fr.refl _).new _).mod _ (.inl (Nat.le_refl _)), ?_⟩ ?_
      ·exact qZ (qA t1 (qA t3 (qA hnt (qA hdf prC_e))))
      clear t1 t3 hnt hdf A
      rintro A H4 ⟨g4, lx, rx, t1, t3, t4, hnt, hdf⟩
      have rb : H4.get H.nx = some (.arr [.o (.str n), .o (.sl id g off us.length 2)] 78 0 0) := by rw [g4.get _ lb not_false]; exact rb
      have lb : H.nx < H4.nx := Nat.lt_of_lt_of_le lb g4.nx
      refine qG (qA E2_P (qA t4 (qA hnt (qA rx (qA lx (qA fd_unit_0 (qA ld_str (qA prC_e bd_refName)))))))) fun K hK => ?_
      refine WE.con (refName_con H4 x.1) fun w H5 g5 hw => ?_
      subst hw
      have rb : H5.get H.nx = some (.arr [.o (.str n), .o (.sl id g off us.length 2)] 78 0 0) := by rw [g5.get _ lb not_false]; exact rb
      have lb : H.nx < H5.nx := Nat.lt_of_lt_of_le lb g5.nx
      have rx : H5.get H3.nx = some (.arr (prC x) 140 0 0) := by rw [g5.get _ lx not_false]; exact rx
      have lx : H3.nx < H5.nx := Nat.lt_of_lt_of_le lx g5.nx
      have g25 : Gr H2 H5 := (g3.gr g4).gr g5
      cases hnx : nmB x.1 with
      | false =>
       refine qS (qA E2_P (qA t1 (qA t3 (qA t4 (qA hnt (qA rx (qA lx (qA rb (qA lb (qA fd_unit_0 (qA fd_unit_1 (qA ld_str (qA ld_int (qA prC_e hnx)))))))))))))) ?_
       refine hK _ _ ?_
       clear hK K
       refine qY ?_
       refine qW hnt ?_
       exact q4 _ _ (k4 _ _ (fin 10 _ _ qp (qd hdf) (g2'.gr g25) (by rw [refLad_no ex (by unfold refU; rw [hnx]; rfl)])))
      | true =>
       have hu5 := hu2.gr g25
       refine qS (qA E2_P (qA t1 (qA t3 (qA t4 (qA hnt (qA rx (qA lx (qA rb (qA lb (qA fd_unit_0 (qA fd_unit_1 (qA ld_str (qA ld_int (qA prC_e (qA ld_lad bd_signAt))))))))))))))) ?_
       refine WE.con (signAt_con H5 n _ us x.1 hu5 (by omega)) fun w H6 g6 hw => ?_
       subst hw
       have rx : H6.get H3.nx = some (.arr (prC x) 140 0 0) := by rw [g6.get _ lx not_false]; exact rx
       have lx : H3.nx < H6.nx := Nat.lt_of_lt_of_le lx g6.nx
       have g26 := g25.gr g6
       by_cases hix : idxU 0 us x.1 = (i : Int)
       ·have cix : (idxU 0 us x.1 == (i : Int)) = true := by rw [beq_iff_eq]; exact hix
        by_cases hi0 : i = 0
        ·have ci0 : ((i : Int) == 0) = true := by rw [beq_iff_eq]; omega
         have ci1 : (0 < (i : Int)) = False := eq_false (by omega)
         cases hf1 : (x.2 == 1) with
         | false =>
          refine qS (qA E2_P (qA t1 (qA t3 (qA t4 (qA hnt (qA rx (qA lx (qA rb (qA lb (qA fd_unit_0 (qA fd_unit_1 (qA ld_str (qA ld_int (qA prC_e (qA cix (qA ci0 hf1)))))))))))))))) ?_
          refine hK _ _ ?_
          clear hK K
          refine qY ?_
          refine qW hnt ?_
          exact q4 _ _ (k4 _ _ (fin 10 _ _ qp (qd hdf) (g2'.gr g26) (by rw [refLad_no ex (by unfold refU; rw [if_pos hi0, hf1, Bool.and_false, Bool.and_false])])))
         | true =>
          have hok : refU us i x = true := by unfold refU; rw [hnx, decide_eq_true hix, if_pos hi0, hf1]; rfl
          refine qS (qA E2_P (qA t1 (qA t3 (qA t4 (qA hnt (qA rx (qA lx (qA rb (qA lb (qA fd_unit_0 (qA fd_unit_1 (qA ld_str (qA ld_int (qA prC_e (qA cix (qA ci0 (qA hf1 ci1))))))))))))))))) ?_
          refine hK _ _ ?_
          clear hK K
          refine qY ?_
          refine qW hnt ?_
          refine q1 _ _ ?_
          refine qW (qA hnt (qA t3 hw2)) ?_
          refine ⟨us.length - (i + 1), by omega, i + 1, rfl, hlt, g26, fun j hj => ?_, ?_, ?_, ?_, ?_⟩
          ·rcases Nat.lt_or_ge j i with h | h
           ·exact hall j h
           ·have : j = i := by omega
            subst this
            rw [List.getD_eq_getElem?_getD, ex]; exact hok
          ·simp only [slot_put, Nat.reduceEqDiff, reduceIte, t1]
          ·simp only [slot_put, Nat.reduceEqDiff, reduceIte]
          ·simp only [putD_nt, hnt]
          ·simp only [putD_dfr, hdf]
        ·have ci0 : ((i : Int) == 0) = false := beq_false_of_ne (by omega)
         have ci1 : (0 < (i : Int)) = True := eq_true (by omega)
         by_cases hf2 : x.2 < 2
         ·have cf2 : (x.2 < 2) = True := eq_true hf2
          refine qS (qA E2_P (qA t1 (qA t3 (qA t4 (qA hnt (qA rx (qA lx (qA rb (qA lb (qA fd_unit_0 (qA fd_unit_1 (qA ld_str (qA ld_int (qA prC_e (qA cix (qA ci0 (qA ci1 cf2))))))))))))))))) ?_
          refine hK _ _ ?_
          clear hK K
          refine qY ?_
          refine qW hnt ?_
          exact q4 _ _ (k4 _ _ (fin 10 _ _ qp (qd hdf) (g2'.gr g26) (by rw [refLad_no ex (by unfold refU; rw [if_neg hi0, decide_eq_false (by omega : ¬ 2 ≤ x.2), Bool.false_and, Bool.and_false, Bool.and_false])])))
         ·have cf2 : (x.2 < 2) = False := eq_false hf2
          by_cases hf60 : 60 < x.2
          ·have cf60 : (60 < x.2) = True := eq_true hf60
           refine qS (qA E2_P (qA t1 (qA t3 (qA t4 (qA hnt (qA rx (qA lx (qA rb (qA lb (qA fd_unit_0 (qA fd_unit_1 (qA ld_str (qA ld_int (qA prC_e (qA cix (qA ci0 (qA ci1 (qA cf2 cf60)))))))))))))))))) ?_
           refine hK _ _ ?_
           clear hK K
           refine qY ?_
           refine qW hnt ?_
           exact q4 _ _ (k4 _ _ (fin 10 _ _ qp (qd hdf) (g2'.gr g26) (by rw [refLad_no ex (by unfold refU; rw [if_neg hi0, decide_eq_false (by omega : ¬ x.2 ≤ 60), Bool.and_false, Bool.and_false, Bool.and_false])])))
          ·have cf60 : (60 < x.2) = False := eq_false hf60
           have hok : refU us i x = true := by unfold refU; rw [hnx, decide_eq_true hix, if_neg hi0, decide_eq_true (by omega : 2 ≤ x.2), decide_eq_true (by omega : x.2 ≤ 60)]; rfl
           refine qS (qA E2_P (qA t1 (qA t3 (qA t4 (qA hnt (qA rx (qA lx (qA rb (qA lb (qA fd_unit_0 (qA fd_unit_1 (qA ld_str (qA ld_int (qA prC_e (qA cix (qA ci0 (qA ci1 (qA cf2 cf60)))))))))))))))))) ?_
           refine hK _ _ ?_
           clear hK K
           refine qY ?_
           refine qW hnt ?_
           refine q1 _ _ ?_
           refine qW (qA hnt (qA t3 hw2)) ?_
           refine ⟨us.length - (i + 1), by omega, i + 1, rfl, hlt, g26, fun j hj => ?_, ?_, ?_, ?_, ?_⟩
           ·rcases Nat.lt_or_ge j i with h | h
            ·exact hall j h
            ·have : j = i := by omega
             subst this
             rw [List.getD_eq_getElem?_getD, ex]; exact hok
           ·simp only [slot_put, Nat.reduceEqDiff, reduceIte, t1]
           ·simp only [slot_put, Nat.reduceEqDiff, reduceIte]
           ·simp only [putD_nt, hnt]
           ·simp only [putD_dfr, hdf]
       ·have cix : (idxU 0 us x.1 == (i : Int)) = false := beq_false_of_ne hix
        refine qS (qA E2_P (qA t1 (qA t3 (qA t4 (qA hnt (qA rx (qA lx (qA rb (qA lb (qA fd_unit_0 (qA fd_unit_1 (qA ld_str (qA ld_int (qA prC_e cix)))))))))))))) ?_
        refine hK _ _ ?_
        clear hK K
        refine qY ?_
        refine qW hnt ?_
        exact q4 _ _ (k4 _ _ (fin 10 _ _ qp (qd hdf) (g2'.gr g26) (by rw [refLad_no ex (by unfold refU; rw [decide_eq_false hix, Bool.false_and, Bool.and_false])])))
     ·clear hx hy Kx Ky
      have hie : i = us.length := by omega
      have hall' : ((List.range us.length).all fun i => refU us i (us.getD i ([], 0))) = true := List.all_eq_true.2 fun j hj => hall j (by have := List.mem_range.1 hj; omega)
      have fac : ∀ x ∈ us, 1 ≤ x.2 ∧ x.2 ≤ 60 := fun x hx => by
       obtain ⟨j, hj, rfl⟩ := List.getElem_of_mem hx
       have := hall j (by omega)
       rw [List.getD_eq_getElem?_getD, List.getElem?_eq_getElem hj] at this
       unfold refU at this
       simp only [Option.getD_some, Bool.and_eq_true] at this
       have h6 := this.2.2
       split at h6
       ·have := eq_of_beq h6; omega
       ·simp only [Bool.and_eq_true, decide_eq_true_eq] at h6; omega
      refine qW hnt ?_
      refine k2 _ _ ?_
      refine qG (qA E2_P (qA t1 (qA hnt (qA rb (qA lb (qA ld_lad bd_values)))))) fun K hK => ?_
      refine WE.con (values_con H3 n u us hu3 (by omega) fac) fun w H5 g5 ⟨c, hw, _⟩ => ?_
      subst hw
      refine qS (qA E2_P hnt) ?_
      refine hK _ _ ?_
      clear hK K
      have g5' := (g2'.gr g3).gr g5
      cases hvs : (valsU 1 us).isSome with
      | true =>
       refine qW hnt ?_
       refine qY ?_
       refine qW hnt ?_
       refine fin 0 _ _ qp (qd hdf) g5' ?_
       have : refLad n us = true := by
        unfold refLad
        rw [hnm, hall', hvs, decide_eq_true (by omega : 1 ≤ us.length), decide_eq_true (by omega : us.length ≤ 12)]; rfl
       rw [this]; rfl
      | false =>
       refine qW hnt ?_
       refine qY ?_
       refine qW hnt ?_
       refine fin 10 _ _ qp (qd hdf) g5' ?_
       have : refLad n us = false := by
        unfold refLad
        rw [hvs, Bool.and_false]
       rw [this]; rfl
    ·simp only [slot_put, Nat.reduceEqDiff, reduceIte, putD_nt, putD_dfr, t1, hnt, hdf, and_self, true_and]
     exact ⟨rfl, trivial⟩
end Go.Proofs.YtiejeicaaojdlaaGreat
namespace Go.Proofs.YtiejeicaaojdlaaGreat
open Go Go.Eng
theorem ld_rbook : loadT Tryz.prog 134 = some (true, 2) := by kernel_rfl
theorem sz_rbook : sizeT Tryz.prog 134 = some 2 := by kernel_rfl
theorem zr_rbook : (zeroT Tryz.prog 134).map (fun z => (ofValue z).cells) = some [.o .nilS, .o .nilS] := by kernel_rfl
theorem ad_rbook : addrT Tryz.prog 134 = 4 := by kernel_rfl
theorem fd_rbook_0 : fieldT Tryz.prog 134 0 = some (0, 22, 1) := by kernel_rfl
theorem fd_rbook_1 : fieldT Tryz.prog 134 1 = some (1, 121, 1) := by kernel_rfl
def pl_rbook : Nat → Option (Nat × Nat) := fun i => (#[(0, 1), (1, 1)] : Array (Nat × Nat))[i]?
theorem pt_rbook : placeT Tryz.prog 134 = some pl_rbook := by kernel_rfl
theorem pl_rbook_0 : pl_rbook 0 = some (0, 1) := rfl
theorem pl_rbook_1 : pl_rbook 1 = some (1, 1) := rfl
theorem ld_prbook : loadT Tryz.prog 25 = some (false, 1) := by kernel_rfl
theorem sz_prbook : sizeT Tryz.prog 25 = some 1 := by kernel_rfl
theorem zr_prbook : (zeroT Tryz.prog 25).map (fun z => (ofValue z).cells) = some [.o .nilP] := by kernel_rfl
theorem ad_prbook : addrT Tryz.prog 25 = 0 := by kernel_rfl
end Go.Proofs.YtiejeicaaojdlaaGreat
namespace Go.Proofs.YtiejeicaaojdlaaGreat
open Go Go.Eng
theorem bd_copyLad : hasBody Tryz.prog 69 = true := by kernel_rfl
theorem bd_rAt : hasBody Tryz.prog 68 = true := by kernel_rfl
theorem bd_rNew : hasBody Tryz.prog 30 = true := by kernel_rfl
theorem bd_rLadder : hasBody Tryz.prog 39 = true := by kernel_rfl
set_option maxRecDepth 10000 in
set_option maxHeartbeats 4000000 in
theorem copyLad_con (H : Hp) (n : List UInt8) (u : AC) (us : List Pr) (hu : SlP H u us) (hL : us.length ≤ 1000000) :
  Con E2 69 [.agg [.o (.str n), u]] H (fun _ => False) fun r H' => ∃ u', r = .agg [.o (.str n), u'] ∧ SlP H' u' us ∧ ∀ id ∈ (AV.one u').ids, H.nx ≤ id := by
 refine Con.of rfl fun lg => ?_
 have hu : SlP ⟨H.t, H.nx, lg⟩ u us := hu
 have e0 : H.nx = (⟨H.t, H.nx, lg⟩ : Hp).nx := rfl
 rw [e0]
 clear e0
 generalize (⟨H.t, H.nx, lg⟩ : Hp) = H at hu ⊢
 refine C1.body (E := E2) (nt := 11) (res := [.cell 2 78]) Tryz.func69 rfl rfl rfl rfl rfl fun tm hargs => ?_
 have h0 := hargs 0 _ rfl
 clear hargs
 refine qG (qA E2_P (qA h0 zr_lad)) fun K hK => ?_
 refine hK _ _ ?_
 clear hK K
 refine R1.gen (fun A1 H1 => Gr H H1 ∧ H.nx + 1 < H1.nx ∧ H1.get H.nx = some (.arr [.o (.str n), u] 78 0 0) ∧ H1.get (H.nx + 1) = some (.arr [.o (.str []), .o .nilS] 78 0 0) ∧ slot A1.tm 1 = .one (.o (.ptr H.nx 0 0 2)) ∧ slot A1.tm 2 = .one (.o (.ptr (H.nx + 1) 0 0 2)) ∧ A1.nt = 11 ∧ A1.dfr = [])
  ⟨((Fr.refl _).new _).new _, ?_⟩ ?_
 ·exact qU
 rintro A1 H1 ⟨g1, n1, r1, r2, t1, t2, hnt, hdf⟩
 clear h0 tm
 have hu1 : SlP H1 u us := hu.gr g1
 have l1 : H.nx < H1.nx := by omega
 have hlu : ∀ id ∈ (AV.one u).ids, id < H1.nx := hu1.lt
 obtain ⟨z, hz, hzl⟩ := zx_unit
 refine qG (qA E2_P hnt) fun K hK => ?_
 refine hK _ _ ?_
 clear hK K
 repeat refine R1.s_assoc ?_
 (first | refine R1.s_drw (ms := [0, 1, 0, 0, 8, 28, 63, 127]) (by kernel_rfl) (by kernel_rfl) fun K hK => ?_ | refine R1.e_drw (ms := [0, 1, 0, 0, 8, 28, 63, 127]) (by kernel_rfl) (by kernel_rfl) fun K hK => ?_)
 simp (config := {decide := true}) only [qB, slotOk, Nat.reduceLT, Nat.reduceLeDiff, Nat.reduceAdd, Nat.reduceSub, qD, Untou, unordS, E2_P, t1, hnt, r1, l1, fd_lad_0, fd_lad_1, ld_str, ld_units]
 refine AP_nil el_units by_unit hz hzl (by decide) hu1 (by omega) (fun id h => by have := hlu id h; simp (config := {decide := true}) [unordS, Untou] <;> omega) fun v c1 H2 hv hvn g2 hc => ?_
 subst hc
 have r2 : H2.get (H.nx + 1) = some (.arr [.o (.str []), .o .nilS] 78 0 0) := by rw [g2.get _ n1 not_false]; exact r2
 have n2 : H.nx + 1 < H2.nx := Nat.lt_of_lt_of_le n1 g2.nx
 simp (config := {decide := true}) only [qB, Nat.reduceLeDiff, Nat.reduceAdd, qD, Untou, Unseen, unordS, t2, hnt, st_bu zr_lad pt_lad, pl_lad_0, pl_lad_1, sz_lad, r2, n2]
 refine hK _ _ ?_
 clear hK K
 refine qV ?_
 have hv3 : SlP (H2.mod (H.nx + 1) (.arr [.o (.str n), v] 78 0 0)) v us := SlC.fr hv (X := fun k => k = H.nx + 1) ((Fr.refl _).mod _ (.inr rfl)) fun id h hh => by have := hvn id h; omega
 exact ⟨_, _, callEnd_cells (id := H.nx + 1) (g := 0) ld_lad (.inr rfl) (by simp only [putD_dfr, hdf]; rfl) (by simp only [slot_put, Nat.reduceEqDiff, reduceIte, t2]) (by rw [get_modE rfl]; exact rowOf_arr (Nat.le_refl _) (Nat.le_refl _)) (Nat.le_refl _) rfl, (g1.gr g2).mod _ (.inl (Nat.le_succ _)), fun _ => ⟨v, rfl, hv3, fun id h => by have := hvn id h; omega⟩⟩
def RBk (H : Hp) (p : AC) (ls : List Lad) : Prop := ∃ kb lad, p = .o (.ptr kb 0 0 2) ∧ kb < H.nx ∧ H.get kb = some (.arr [lad, .o .nilS] 134 0 0) ∧ SlLad H lad ls
theorem RBk.gr {H H' : Hp} {p : AC} {ls : List Lad} (h : RBk H p ls) (hg : Gr H H') : RBk H' p ls := by
 obtain ⟨kb, lad, h1, h2, h3, h4⟩ := h
 exact ⟨kb, lad, h1, Nat.lt_of_lt_of_le h2 hg.nx, by rw [hg.get _ h2 not_false]; exact h3, h4.gr hg⟩
def atN : Nat → List Lad → List UInt8 → Int
 | _, [], _ => -1
 | n, x :: l, s => if x.1 = s then (n : Int) else atN (n + 1) l s
theorem atN_idx : ∀ (n : Nat) (ls : List Lad) (s : List UInt8), atN n ls s = (idxN n ls s).elim (-1) fun i => (i : Int)
 | _, [], _ => rfl
 | n, x :: l, s => by
  unfold atN idxN
  by_cases h : x.1 = s
  ·rw [if_pos h, if_pos h]; rfl
  ·rw [if_neg h, if_neg h]; exact atN_idx (n + 1) l s
set_option maxRecDepth 10000 in
set_option maxHeartbeats 4000000 in
theorem rAt_con (H : Hp) (p : AC) (ls : List Lad) (s : List UInt8) (hp : RBk H p ls) (hL : ls.length ≤ 1000000) :
  Con E2 68 [.one p, .one (.o (.str s))] H (fun _ => False) fun r _ => r = .one (.i .i64 (atN 0 ls s)) := by
 refine Con.of rfl fun lg => ?_
 have hp : RBk ⟨H.t, H.nx, lg⟩ p ls := hp
 generalize (⟨H.t, H.nx, lg⟩ : Hp) = H at hp ⊢
 refine C1.body (E := E2) (nt := 26) (res := [.tmp 4]) Tryz.func68 rfl rfl rfl rfl rfl fun tm hargs => ?_
 have h0 := hargs 0 _ rfl
 have h1 := hargs 1 _ rfl
 clear hargs
 obtain ⟨kb, lad, rfl, k1, k2, hl⟩ := hp
 generalize hr0 : atN 0 ls s = r0
 refine qV ?_
 refine R1.s_block fun K k1' k2' k3 k4 => ?_
 refine R1.loop (fun k A H2 => ∃ i : Nat, k = ls.length - i ∧ i ≤ ls.length ∧ H2 = H ∧ atN i (ls.drop i) s = r0 ∧ slot A.tm 0 = .one (.o (.ptr kb 0 0 2)) ∧ slot A.tm 1 = .one (.o (.str s)) ∧ slot A.tm 5 = .one (.i .i64 (i : Int)) ∧ A.nt = 26 ∧ A.dfr = []) ?_ ls.length
  ⟨0, rfl, Nat.zero_le _, rfl, hr0, ?_⟩
 ·clear h0 h1 tm
  rintro k A H2 ⟨i, rfl, hi, rfl, hr, t0, t1, t5, hnt, hdf⟩
  refine qW (qA E2_P (qA t0 (qA t5 (qA hnt (qA k1 (qA k2 (qA fd_rbook_0 (qA ld_lads (qA ln_lads (qA hl.len hl.lt)))))))))) ?_
  refine qE fun Kx Ky hx hy => ?_
  refine iteI (fun hc => hx ?_) (fun hc => hy ?_)
  ·clear hx hy Kx Ky
   have hlt : i < ls.length := by omega
   obtain ⟨id, g, off, cells, rfl, hid, hgr, hat⟩ := hl.open (by omega)
   have ex : ls[i]? = some ls[i] := List.getElem?_eq_getElem hlt
   have hdr : ls.drop i = ls[i] :: ls.drop (i + 1) := List.drop_eq_getElem_cons hlt
   generalize ls[i] = x at ex hdr
   obtain ⟨u, hu, hx0, hx1, hx2, hx3, hx4, hx5⟩ := hat i x ex
   have hw2 : IntKind.i64.wrap ((i : Int) + 1) = ((i + 1 : Nat) : Int) := by rw [wrapI (by omega) (by omega)]; omega
   rw [hdr, atN] at hr
   refine qV ?_
   refine R1.s_block fun K2 q1 q2 q3 q4 => ?_
   refine qG (qA E2_P (qA t0 (qA t1 (qA t5 (qA hnt (qA k1 (qA k2 (qA fd_rbook_0 (qA ld_lads (qA el_lads (qA fd_lad_0 (qA ld_str (qA (ixC hlt) (qA hid (qA hgr (qA hx2 hx4)))))))))))))))) fun K hK => ?_
   refine hK _ _ ?_
   clear hK K
   by_cases hxs : x.1 = s
   ·rw [if_pos hxs] at hr
    have ce : lEq x.1 s = true := by rw [lEq_eq, hxs, beq_self_eq_true]
    refine qX ce ?_
    refine qW (qA hnt t5) ?_
    exact q4 _ _ (k4 _ _ ⟨_, _, callEnd_one (.i .i64 (i : Int)) (.inr rfl) (qd hdf) qp, Fr.refl _, fun _ => by rw [← hr]⟩)
   ·rw [if_neg hxs] at hr
    have ce : lEq x.1 s = false := by rw [lEq_eq]; exact beq_false_of_ne hxs
    refine qX ce ?_
    refine qW hnt ?_
    refine q1 _ _ ?_
    refine qW (qA hnt (qA t5 hw2)) ?_
    refine ⟨ls.length - (i + 1), by omega, i + 1, rfl, hlt, rfl, hr, ?_, ?_, ?_, ?_, ?_⟩
    ·simp only [slot_put, Nat.reduceEqDiff, reduceIte, t0]
    ·simp only [slot_put, Nat.reduceEqDiff, reduceIte, t1]
    ·simp only [slot_put, Nat.reduceEqDiff, reduceIte]
    ·simp only [putD_nt, hnt]
    ·simp only [putD_dfr, hdf]
  ·clear hx hy Kx Ky
   have hie : i = ls.length := by omega
   rw [hie, List.drop_length, atN] at hr
   refine qW hnt ?_
   refine k2' _ _ ?_
   refine qW hnt ?_
   exact ⟨_, _, callEnd_one (.i .i64 (-1)) (.inr rfl) (qd hdf) qp, Fr.refl _, fun _ => by rw [← hr]⟩
 ·simp only [slot_put, Nat.reduceEqDiff, reduceIte, putD_nt, putD_dfr, h0, h1, and_self, true_and]
  exact ⟨rfl, trivial⟩
end Go.Proofs.YtiejeicaaojdlaaGreat
namespace Go.Proofs.YtiejeicaaojdlaaGreat
open Go Go.Eng
structure RB (n0 kb : Nat) (ll : List Lad) (H1 : Hp) (lad : AC) (r1 : Option Nat) : Prop where
 kbg : H1.get kb = some (.arr [lad, .o .nilS] 134 0 0)
 o1 : ∃ css : List (List AC), OwnR H1 lad 78 2 ll.length (css.flatMap id) r1 ∧ Al (fun c x => c.length = 2 ∧ ∃ u, c = [.o (.str x.1), u] ∧ SlP H1 u x.2 ∧ ∀ id ∈ (AV.one u).ids, id ≠ kb ∧ some id ≠ r1) css ll
 kn : n0 ≤ kb ∧ kb < H1.nx
 n1 : ∀ q, r1 = some q → n0 ≤ q ∧ q < H1.nx ∧ q ≠ kb
section
variable {n0 kb : Nat} {ll : List Lad} {H1 H2 : Hp} {lad : AC} {r1 : Option Nat}
theorem RB.ofGr (h : RB n0 kb ll H1 lad r1) (hg : Gr H1 H2) : RB n0 kb ll H2 lad r1 where
 kbg := by rw [hg.get _ h.kn.2 not_false]; exact h.kbg
 o1 := let ⟨css, a, b⟩ := h.o1; ⟨css, a.fr hg fun _ _ h => h, b.mono fun c x ⟨hc, u, e, hu, hi⟩ => ⟨hc, u, e, hu.gr hg, hi⟩⟩
 kn := ⟨h.kn.1, Nat.lt_of_lt_of_le h.kn.2 hg.nx⟩
 n1 := fun q hq => let ⟨a, b, c⟩ := h.n1 q hq; ⟨a, Nat.lt_of_lt_of_le b hg.nx, c⟩
theorem RB.addL (h : RB n0 kb ll H1 lad r1) {x : Lad} {u v5 : AC} {r5 : Nat} {H5 : Hp} (hu : SlP H1 u x.2) (hi : ∀ id ∈ (AV.one u).ids, id ≠ kb ∧ some id ≠ r1)
  {css : List (List AC)} (hal : Al (fun c x => c.length = 2 ∧ ∃ u, c = [.o (.str x.1), u] ∧ SlP H1 u x.2 ∧ ∀ id ∈ (AV.one u).ids, id ≠ kb ∧ some id ≠ r1) css ll)
  (ho : OwnR H5 v5 78 2 (ll.length + 1) (css.flatMap id ++ [.o (.str x.1), u]) (some r5)) (hf : Fr (fun i => r1 = some i) H1 H5) (hr : r1 = some r5 ∨ H1.nx ≤ r5) :
  RB n0 kb (ll ++ [x]) (H5.mod kb (.arr [v5, .o .nilS] 134 0 0)) v5 (some r5) := by
 have r5kb : r5 ≠ kb := by
  rcases hr with e | e
  ·exact (h.n1 _ e).2.2
  ·have := h.kn.2; omega
 have n0le : n0 ≤ H1.nx := Nat.le_trans h.kn.1 (Nat.le_of_lt h.kn.2)
 have lt5 : r5 < H5.nx := by
  rcases ho with ⟨_, _, _, e⟩ | ⟨id, lo, gen, e, _, _, _, _, hl⟩
  ·cases e
  ·cases e; exact hl
 have keep : ∀ {c : List AC} {x : Lad}, (c.length = 2 ∧ ∃ u, c = [.o (.str x.1), u] ∧ SlP H1 u x.2 ∧ ∀ id ∈ (AV.one u).ids, id ≠ kb ∧ some id ≠ r1) →
   c.length = 2 ∧ ∃ u, c = [.o (.str x.1), u] ∧ SlP (H5.mod kb (.arr [v5, .o .nilS] 134 0 0)) u x.2 ∧ ∀ id ∈ (AV.one u).ids, id ≠ kb ∧ some id ≠ some r5 := by
  rintro c x ⟨hc, u, e, hu, hi⟩
  refine ⟨hc, u, e, SlC.fr (SlC.fr hu hf fun i h' e => (hi i h').2 e.symm) mod_fr fun i h' e => (hi i h').1 e, fun i h' => ⟨(hi i h').1, fun e => ?_⟩⟩
  cases e
  rcases hr with e | e
  ·exact (hi _ h').2 e.symm
  ·have := hu.lt _ h'; omega
 refine ⟨get_modE rfl, ⟨css ++ [[.o (.str x.1), u]], ?_, ?_⟩, ⟨h.kn.1, Nat.lt_of_lt_of_le h.kn.2 hf.nx⟩, ?_⟩
 ·rw [List.length_append, List.length_singleton, List.flatMap_append]
  exact ho.fr mod_fr fun i hi e => by cases hi; exact r5kb e
 ·exact Al.app (hal.mono fun c x hc => keep hc) (keep ⟨rfl, u, rfl, hu, hi⟩)
 ·intro q hq
  cases hq
  refine ⟨?_, lt5, r5kb⟩
  rcases hr with e | e
  ·exact (h.n1 _ e).1
  ·omega
theorem RB.book (h : RB n0 kb ll H1 lad r1) : RBk H1 (.o (.ptr kb 0 0 2)) ll := by
 obtain ⟨css, a, b⟩ := h.o1
 exact ⟨kb, lad, rfl, h.kn.2, h.kbg, css, a.slc, b.mono fun c x ⟨hc, u, e, hu, _⟩ => ⟨hc, u, e, hu⟩⟩
end
set_option maxRecDepth 10000 in
set_option maxHeartbeats 8000000 in
theorem rNew_con (H : Hp) (v : AC) (ls : List Lad) (hl : SlLad H v ls) :
  Con E2 30 [.one v, .one (.o .nilS)] H (fun _ => False) fun r H' => ∃ p, r = .tup [(false, [p]), (false, [.i .i64 (newE ls)])] ∧ (newE ls = 0 → RBk H' p ls) ∧ (newE ls ≠ 0 → p = .o .nilP) := by
 refine Con.of rfl fun lg => ?_
 have hl : SlLad ⟨H.t, H.nx, lg⟩ v ls := hl
 generalize (⟨H.t, H.nx, lg⟩ : Hp) = H at hl ⊢
 refine C1.body (E := E2) (nt := 86) (res := [.tmp 4, .tmp 5]) Tryz.func30 rfl rfl rfl rfl rfl fun tm hargs => ?_
 have h0 := hargs 0 _ rfl
 have h1 := hargs 1 _ rfl
 clear hargs
 have lnB : lenT Tryz.prog 121 = some 1 := by kernel_rfl
 by_cases h32 : (32 : Int) < ls.length
 ·have c32 : ((32 : Int) < ls.length) = True := eq_true h32
  refine qW E2_P ?_
  refine qG (qA E2_P (qA h0 (qA h1 (qA ln_lads (qA hl.len (qA hl.lt c32)))))) fun K hK => ?_
  refine hK _ _ ?_
  clear hK K
  refine qY ?_
  refine qV ?_
  refine ⟨_, _, callEnd_two (.o .nilP) (.i .i64 3) (.inr rfl) rfl (by simp only [slot_put, Nat.reduceEqDiff, reduceIte]) qp, Fr.refl _, fun _ => ?_⟩
  have : newE ls = 3 := if_pos h32
  rw [this]
  exact ⟨_, rfl, fun h => (by cases h), fun _ => rfl⟩
 ·have c32 : ((32 : Int) < ls.length) = False := eq_false h32
  refine qW E2_P ?_
  refine qG (qA E2_P (qA h0 (qA h1 (qA ln_lads (qA hl.len (qA hl.lt (qA c32 lnB))))))) fun K hK => ?_
  refine hK _ _ ?_
  clear hK K
  refine qY ?_
  refine R1.s_skip ?_
  refine qG (qA E2_P (qA zr_rbook pt_rbook)) fun K hK => ?_
  refine hK _ _ ?_
  clear hK K
  refine R1.gen (fun A1 H1 => Gr H H1 ∧ RB H.nx H.nx [] H1 (.o .nilS) none ∧ slot A1.tm 0 = .one v ∧ slot A1.tm 1 = .one (.o .nilS) ∧ slot A1.tm 6 = .one (.o (.ptr H.nx 0 0 2)) ∧ A1.nt = 86 ∧ A1.dfr = [])
   ⟨(Fr.refl _).new _, ⟨get_newE rfl, ⟨[], .inl ⟨rfl, rfl, rfl, rfl⟩, trivial⟩, ⟨Nat.le_refl _, Nat.lt_succ_self _⟩, fun q h => (by cases h)⟩, ?_⟩ ?_
  ·exact qZ (qA h0 h1)
  clear h0 h1 tm
  rintro A1 H1 ⟨g1, nb, t0, t1, t6, hnt, hdf⟩
  obtain ⟨kb, hkb⟩ : ∃ k, k = H.nx := ⟨_, rfl⟩
  rw [← hkb] at t6
  have nb : RB H.nx kb [] H1 (.o .nilS) none := by rw [hkb]; exact nb
  clear hkb
  have hnew : newE ls = newG [] ls := if_neg h32
  rw [hnew]
  generalize hr0 : newG [] ls = r0
  refine qW hnt ?_
  refine R1.s_block fun K k1 k2 k3 k4 => ?_
  refine R1.loop (fun k A2 H2 => ∃ (i : Nat) (lad : AC) (r1 : Option Nat), k = ls.length - i ∧ i ≤ ls.length ∧ RB H.nx kb (ls.take i) H2 lad r1 ∧ Gr H H2 ∧ newG (ls.take i) (ls.drop i) = r0 ∧
   slot A2.tm 0 = .one v ∧ slot A2.tm 1 = .one (.o .nilS) ∧ slot A2.tm 6 = .one (.o (.ptr kb 0 0 2)) ∧ slot A2.tm 7 = .one (.i .i64 (i : Int)) ∧ A2.nt = 86 ∧ A2.dfr = []) ?_ ls.length
   ⟨0, _, _, rfl, Nat.zero_le _, nb, g1, hr0, ?_⟩
  ·clear t0 t1 t6 hnt hdf A1
   rintro k A H1 ⟨i, lad, r1, rfl, hi, nb, g1, hr, t0, t1, t6, t7, hnt, hdf⟩
   have hl1 := hl.gr g1
   refine qW (qA E2_P (qA t0 (qA t7 (qA hnt (qA ln_lads (qA hl1.len hl1.lt)))))) ?_
   refine qE fun Kx Ky hx hy => ?_
   refine iteI (fun hc => hx ?_) (fun hc => hy ?_)
   ·clear hx hy Kx Ky
    have hlt : i < ls.length := by omega
    obtain ⟨id, g, off, cells, rfl, hid0, hg0, hat⟩ := hl.open (by omega)
    have hid : id < H1.nx := Nat.lt_of_lt_of_le hid0 g1.nx
    have hg : rowOf (H1.get id) g = some cells := by rw [g1.get _ hid0 not_false]; exact hg0
    have ex : ls[i]? = some ls[i] := List.getElem?_eq_getElem hlt
    have hdr : ls.drop i = ls[i] :: ls.drop (i + 1) := List.drop_eq_getElem_cons hlt
    have htk : ls.take (i + 1) = ls.take i ++ [ls[i]] := List.take_succ_eq_append_getElem hlt
    generalize ls[i] = x at ex hdr htk
    obtain ⟨u, hu0, hx0, hx1, hx2, hx3, hx4, hx5⟩ := hat i x ex
    have hu : SlP H1 u x.2 := hu0.gr g1
    have hti : (ls.take i).length = i := by rw [List.length_take]; omega
    have hi32 : ls.length ≤ 32 := by omega
    have hw2 : IntKind.i64.wrap ((i : Int) + 1) = ((i + 1 : Nat) : Int) := by rw [wrapI (by omega) (by omega)]; omega
    rw [hdr, newG] at hr
    refine qV ?_
    refine R1.s_block fun K2 q1 q2 q3 q4 => ?_
    refine qG (qA E2_P (qA t0 (qA t7 (qA hnt (qA el_lads (qA ld_lad (qA (ixC hlt) (qA hid (qA hg (qA hx0 (qA hx1 bd_refCheck))))))))))) fun K hK => ?_
    refine WE.con (refCheck_con H1 x.1 u x.2 hu) fun w H4 g4 hv => ?_
    subst hv
    have nb4 := nb.ofGr g4
    have g4' := g1.gr g4
    have hid4 : id < H4.nx := Nat.lt_of_lt_of_le hid g4.nx
    have hg4 : rowOf (H4.get id) g = some cells := by rw [g4.get _ hid not_false]; exact hg
    refine qS (qA E2_P hnt) ?_
    refine hK _ _ ?_
    clear hK K
    refine qW (qA E2_P hnt) ?_
    refine qE fun Kx Ky hx hy => ?_
    refine iteI (fun hd => hx ?_) (fun hd => hy ?_)
    ·clear hx hy Kx Ky
     have hne : chkLad x.1 x.2 ≠ 0 := by simpa using hd
     rw [if_pos hne] at hr
     subst hr
     refine qW (qA E2_P hnt) ?_
     refine q4 _ _ (k4 _ _ ⟨_, _, callEnd_two (.o .nilP) (.i .i64 (chkLad x.1 x.2)) (.inr rfl) (qd hdf) (by simp only [slot_put, Nat.reduceEqDiff, reduceIte]) qp, g4', fun _ => ⟨_, rfl, fun h => absurd h hne, fun _ => rfl⟩⟩)
    ·clear hx hy Kx Ky
     have hz : chkLad x.1 x.2 = 0 := by simpa using hd
     rw [if_neg (fun h => h hz)] at hr
     have hL12 := chkLad_len hz
     refine R1.s_skip ?_
     refine qG (qA E2_P (qA t0 (qA t6 (qA t7 (qA hnt (qA el_lads (qA fd_lad_0 (qA ld_str (qA (ixC hlt) (qA hid4 (qA hg4 (qA hx2 (qA hx4 bd_rAt))))))))))))) fun K hK => ?_
     refine WE.con (rAt_con H4 _ (ls.take i) x.1 nb4.book (by omega)) fun w H5 g5 hw => ?_
     subst hw
     have nb5 := nb4.ofGr g5
     have g5' := g4'.gr g5
     have hid5 : id < H5.nx := Nat.lt_of_lt_of_le hid4 g5.nx
     have hg5 : rowOf (H5.get id) g = some cells := by rw [g5.get _ hid4 not_false]; exact hg4
     cases hfound : idxN 0 (ls.take i) x.1 with
     | some j =>
      have cge : (0 ≤ atN 0 (ls.take i) x.1) = True := eq_true (by rw [atN_idx, hfound, Option.elim_some]; omega)
      rw [if_pos (by rw [hfound]; rfl)] at hr
      subst hr
      refine qS (qA E2_P (qA hnt cge)) ?_
      refine hK _ _ ?_
      clear hK K
      refine qY ?_
      refine qW (qA E2_P hnt) ?_
      refine q4 _ _ (k4 _ _ ⟨_, _, callEnd_two (.o .nilP) (.i .i64 2) (.inr rfl) (qd hdf) (by simp only [slot_put, Nat.reduceEqDiff, reduceIte]) qp, g5', fun _ => ⟨_, rfl, fun h => (by cases h), fun _ => rfl⟩⟩)
     | none =>
      have cge : (0 ≤ atN 0 (ls.take i) x.1) = False := eq_false (by rw [atN_idx, hfound, Option.elim_none]; omega)
      rw [if_neg (by rw [hfound]; decide)] at hr
      refine qS (qA E2_P (qA hnt cge)) ?_
      refine hK _ _ ?_
      clear hK K
      refine qY ?_
      refine R1.s_skip ?_
      have hkn : H.nx ≤ kb := nb5.kn.1
      have lkb := nb5.kn.2
      have rkb := nb5.kbg
      have hu5 : SlP H5 u x.2 := hu0.gr g5'
      refine qH (qA E2_P (qA t0 (qA t6 (qA t7 (qA hnt (qA rkb (qA lkb (qA fd_rbook_0 (qA ld_lads (qA ld_lad (qA el_lads (qA (ixC hlt) (qA hid5 (qA hg5 (qA hx0 (qA hx1 bd_copyLad)))))))))))))))) fun K hK => ?_
      refine WE.conG (copyLad_con H5 x.1 u x.2 hu5 (by omega)) fun w H6 g6 ⟨u', hv, hu', hid'⟩ => ?_
      subst hv
      have nb6 := nb5.ofGr g6
      obtain ⟨css, ho1, hal⟩ := nb6.o1
      obtain ⟨zl, hzl, hzll⟩ := zx_lad
      obtain ⟨hlt7, v7, H7, r7, happ, ho7, hf7, hr7⟩ := push_own el_lads by_lad hzl hzll (by decide) ho1 [.o (.str x.1), u'] rfl (by rw [hti]; omega)
      have rk7 : H7.get kb = some (.arr [lad, .o .nilS] 134 0 0) := by rw [hf7.get _ nb6.kn.2 (fun e => (nb6.n1 _ e).2.2 rfl)]; exact nb6.kbg
      have lk7 : kb < H7.nx := Nat.lt_of_lt_of_le nb6.kn.2 hf7.nx
      have hui : ∀ k ∈ (AV.one u').ids, k ≠ kb ∧ some k ≠ r1 := fun k h => by
       have h5 := hid' k h
       refine ⟨by omega, fun e => ?_⟩
       have := (nb5.n1 _ e.symm).2.1; omega
      have nb8 := nb6.addL hu' hui hal ho7 hf7 hr7
      have g8 : Gr H (H7.mod kb (.arr [v7, .o .nilS] 134 0 0)) := ((g5'.gr g6).then hf7 fun k hk => .inl (nb6.n1 _ hk).1).mod _ (.inl hkn)
      refine qS (qA E2_P (qA t6 (qA hnt (qA el_lads (qA zr_lad (qA repl1 (qA hlt7 (qA happ (qA rk7 (qA lk7 (qA fd_rbook_0 sz_lads))))))))))) ?_
      refine ⟨hlt7, ?_⟩
      refine hK _ _ ?_
      clear hK K
      refine q1 _ _ ?_
      refine qW (qA hnt (qA t7 hw2)) ?_
      rw [← htk] at nb8 hr
      refine ⟨ls.length - (i + 1), by omega, i + 1, _, _, rfl, hlt, nb8, g8, hr, ?_, ?_, ?_, ?_, ?_, ?_⟩
      ·simp only [slot_put, Nat.reduceEqDiff, reduceIte, t0]
      ·simp only [slot_put, Nat.reduceEqDiff, reduceIte, t1]
      ·simp only [slot_put, Nat.reduceEqDiff, reduceIte, t6]
      ·simp only [slot_put, Nat.reduceEqDiff, reduceIte]
      ·simp only [putD_nt, hnt]
      ·simp only [putD_dfr, hdf]
   ·clear hx hy Kx Ky
    have hie : i = ls.length := by omega
    rw [hie, List.drop_length, newG] at hr
    rw [hie, List.take_length] at nb
    refine qW hnt ?_
    refine k2 _ _ ?_
    refine qW (qA E2_P hnt) ?_
    refine R1.s_block fun K2 q1 q2 q3 q4 => ?_
    refine R1.round ?_
    refine qW (qA E2_P (qA hnt (qA t1 lnB))) ?_
    refine qY ?_
    refine qW hnt ?_
    refine q2 _ _ ?_
    refine qW (qA E2_P (qA hnt t6)) ?_
    refine ⟨_, _, callEnd_two (.o (.ptr kb 0 0 2)) (.i .i64 0) (.inr rfl) (qd hdf) qp qp, g1, fun _ => ⟨_, by rw [← hr], fun _ => nb.book, fun h => absurd hr.symm h⟩⟩
  ·simp only [slot_put, Nat.reduceEqDiff, reduceIte, putD_nt, putD_dfr, t0, t1, t6, hnt, hdf, and_self, true_and]
   exact ⟨rfl, trivial⟩
set_option maxRecDepth 10000 in
set_option maxHeartbeats 4000000 in
theorem rLadder_con (H : Hp) (p : AC) (ls : List Lad) (s : List UInt8) (hp : RBk H p ls) (hL : ∀ x ∈ ls, x.2.length ≤ 1000000) (hL2 : ls.length ≤ 1000000) : Con E2 39 [.one p, .one (.o (.str s))] H (fun _ => False) fun r H' =>
  ∃ c, r = .tup [(true, c), (false, [.i .i64 (ladE (some ls) s)])] ∧ LadA H' c (some ls) s ∧ c.length = 2 := by
 refine Con.of rfl fun lg => ?_
 have hp : RBk ⟨H.t, H.nx, lg⟩ p ls := hp
 generalize (⟨H.t, H.nx, lg⟩ : Hp) = H at hp ⊢
 refine C1.body (E := E2) (nt := 21) (res := [.cell 4 78, .tmp 5]) Tryz.func39 rfl rfl rfl rfl rfl fun tm hargs => ?_
 have h0 := hargs 0 _ rfl
 have h1 := hargs 1 _ rfl
 clear hargs
 refine qG (qA E2_P zr_lad) fun K hK => ?_
 refine hK _ _ ?_
 clear hK K
 refine R1.gen (fun A1 H1 => Gr H H1 ∧ H.nx < H1.nx ∧ H1.get H.nx = some (.arr [.o (.str []), .o .nilS] 78 0 0) ∧ slot A1.tm 0 = .one p ∧ slot A1.tm 1 = .one (.o (.str s)) ∧ slot A1.tm 4 = .one (.o (.ptr H.nx 0 0 2)) ∧ A1.nt = 21 ∧ A1.dfr = [])
  ⟨(Fr.refl _).new _, ?_⟩ ?_
 ·exact qZ (qA h0 h1)
 rintro A1 H1 ⟨g1, n1, r4, t0, t1, t4, hnt, hdf⟩
 clear h0 h1 tm
 have hp1 := hp.gr g1
 have fin : ∀ (A : AAct) (H3 : Hp) (c : List AC) (e : Int), slot A.tm 4 = .one (.o (.ptr H.nx 0 0 2)) → slot A.tm 5 = .one (.i .i64 e) → A.dfr = [] → Gr H H3 → H3.get H.nx = some (.arr c 78 0 0) → c.length = 2 → e = ladE (some ls) s → LadA H3 c (some ls) s →
   ∃ w H4, callEnd E2 [.cell 4 78, .tmp 5] (.ret, A, H3) = .ok [(w, H4)] ∧ Gr H H4 ∧ ∀ lg' : List Nat, ∃ c, w = .tup [(true, c), (false, [.i .i64 (ladE (some ls) s)])] ∧ LadA ⟨H4.t, H4.nx, lg'⟩ c (some ls) s ∧ c.length = 2 := fun A H3 c e h4 h5 hd hg hr hc he ha =>
  ⟨_, H3, callEnd_cells_one (id := H.nx) (g := 0) ld_lad (.inr rfl) (by rw [hd]; rfl) h4 (by rw [hr]; exact rowOf_arr (Nat.le_refl _) (Nat.le_refl _)) (Nat.le_refl _) hc h5, hg, fun _ => ⟨c, by rw [he], ha, hc⟩⟩
 refine qG (qA E2_P (qA t0 (qA t1 (qA hnt bd_rAt)))) fun K hK => ?_
 refine WE.con (rAt_con H1 p ls s hp1 hL2) fun v H3 g3 hv => ?_
 subst hv
 refine qS (qA E2_P hnt) ?_
 refine hK _ _ ?_
 clear hK K
 have hp3 := hp1.gr g3
 have r4 : H3.get H.nx = some (.arr [.o (.str []), .o .nilS] 78 0 0) := by rw [g3.get _ n1 not_false]; exact r4
 have n3 : H.nx < H3.nx := Nat.lt_of_lt_of_le n1 g3.nx
 have g3' := g1.gr g3
 cases hfi : idxN 0 ls s with
 | none =>
  have hle : ladE (some ls) s = 4 := by rw [ladE_some, hfi]; rfl
  have hat : atN 0 ls s = -1 := by rw [atN_idx, hfi]; rfl
  rw [hat]
  refine qW (qA E2_P hnt) ?_
  refine qY ?_
  refine qW (qA E2_P (qA hnt (qA zr_lad (qA pt_lad (qA t4 (qA sz_lad (qA r4 n3))))))) ?_
  exact fin _ _ _ 4 (by simp only [slot_put, Nat.reduceEqDiff, reduceIte, t4]) qp (qd hdf) (g3'.mod _ (.inl (Nat.le_refl _))) (get_modE rfl) rfl hle.symm ⟨fun _ => rfl, fun ls' i x h h2 => by cases h; rw [hfi] at h2; cases h2⟩
 | some i =>
  have hle : ladE (some ls) s = 0 := by rw [ladE_some, hfi]; rfl
  have hat : atN 0 ls s = (i : Int) := by rw [atN_idx, hfi]; rfl
  obtain ⟨x, hx, hxs⟩ := idx_at hfi
  rw [hat]
  have ci : ((i : Int) < 0) = False := eq_false (by omega)
  refine qW (qA E2_P (qA hnt ci)) ?_
  refine qY ?_
  rename_i hx
  refine R1.s_skip ?_
  obtain ⟨kb, lad, rfl, k1, k3, k5⟩ := hp3
  have hlt : i < ls.length := (List.getElem?_eq_some_iff.1 hx).1
  obtain ⟨id, g, off, cells, rfl, hid, hg, hat'⟩ := k5.open (by omega)
  obtain ⟨u, hu, hx0, hx1, _⟩ := hat' i x hx
  refine qG (qA E2_P (qA t0 (qA hnt (qA k1 (qA k3 (qA fd_rbook_0 (qA ld_lads (qA el_lads (qA ld_lad (qA (ixC hlt) (qA hid (qA hg (qA hx0 (qA hx1 bd_copyLad)))))))))))))) fun K hK => ?_
  refine WE.con (copyLad_con H3 x.1 u x.2 hu (hL x (List.mem_of_getElem? hx))) fun w H6 g6 ⟨u', hv, hu', hid'⟩ => ?_
  subst hv
  have r4 : H6.get H.nx = some (.arr [.o (.str []), .o .nilS] 78 0 0) := by rw [g6.get _ n3 not_false]; exact r4
  have n6 : H.nx < H6.nx := Nat.lt_of_lt_of_le n3 g6.nx
  have hu6 : SlP (H6.mod H.nx (.arr [.o (.str x.1), u'] 78 0 0)) u' x.2 := SlC.fr hu' mod_fr fun k h e => by have := hid' k h; omega
  refine qS (qA E2_P (qA hnt (qA t4 (qA sz_lad (qA r4 n6))))) ?_
  refine hK _ _ ?_
  clear hK K
  refine qV ?_
  exact fin _ _ _ 0 (by simp only [slot_put, Nat.reduceEqDiff, reduceIte, t4]) qp (qd hdf) ((g3'.gr g6).mod _ (.inl (Nat.le_refl _))) (get_modE rfl) rfl hle.symm ⟨fun h => absurd hle h, fun ls' j y h h2 h3 => by
   cases h
   rw [hfi] at h2
   cases h2
   rw [hx] at h3
   cases h3
   exact ⟨u', rfl, hu6⟩⟩
end Go.Proofs.YtiejeicaaojdlaaGreat
namespace Go.Proofs.YtiejeicaaojdlaaGreat
open Go Go.Eng
def RBkO (H : Hp) (p : AC) : Option (List Lad) → Prop
 | some ls => RBk H p ls
 | none => p = .o .nilP
theorem un_prbook : Tryz.prog.underlying 25 = some (.pointer 134) := by kernel_rfl
end Go.Proofs.YtiejeicaaojdlaaGreat
namespace Go.Proofs.YtiejeicaaojdlaaGreat
open Go Go.Eng
theorem bd_books : hasBody Tryz.prog 7 = true := by kernel_rfl
theorem newG_ok : ∀ (acc ls : List Lad), newG acc ls = 0 → ∀ x ∈ ls, chkLad x.1 x.2 = 0
 | _, [], _ => fun _ h => absurd h (List.not_mem_nil)
 | acc, y :: ls, h => by
  rw [newG] at h
  by_cases hc : chkLad y.1 y.2 ≠ 0
  ·rw [if_pos hc] at h; exact absurd h hc
  ·rw [if_neg hc] at h
   by_cases hi : (idxN 0 acc y.1).isSome = true
   ·rw [if_pos hi] at h; cases h
   ·rw [if_neg hi] at h
    intro x hx
    rcases List.mem_cons.1 hx with rfl | hx
    ·exact Classical.not_not.1 hc
    ·exact newG_ok _ ls h x hx
theorem newE_ok {ls : List Lad} (h : newE ls = 0) : ls.length ≤ 32 ∧ ∀ x ∈ ls, x.2.length ≤ 12 := by
 unfold newE at h
 by_cases hc : (32 : Int) < ls.length
 ·rw [if_pos hc] at h; cases h
 ·rw [if_neg hc] at h
  exact ⟨by omega, fun x hx => chkLad_len (newG_ok [] ls h x hx)⟩
def bkO (ls : List Lad) : Option (List Lad) := if newE ls = 0 then some ls else none
theorem bkO_le {ls l : List Lad} (h : bkO ls = some l) : l.length ≤ 32 ∧ ∀ x ∈ l, x.2.length ≤ 12 := by
 unfold bkO at h
 by_cases hc : newE ls = 0
 ·rw [if_pos hc] at h; cases h; exact newE_ok hc
 ·rw [if_neg hc] at h; cases h
theorem RBkO.same {H H' : Hp} {p : AC} {o : Option (List Lad)} (ht : H'.t = H.t) (hn : H'.nx = H.nx) (h : RBkO H p o) : RBkO H' p o := by
 obtain ⟨t, nx, l⟩ := H
 obtain ⟨t', nx', l'⟩ := H'
 cases ht; cases hn
 cases o <;> exact h
theorem RBkO.gr {H H' : Hp} {p : AC} {o : Option (List Lad)} (h : RBkO H p o) (hg : Gr H H') : RBkO H' p o := by
 cases o with
 | some ls => exact RBk.gr h hg
 | none => exact h
set_option maxRecDepth 10000 in
set_option maxHeartbeats 4000000 in
theorem books_con (H : Hp) (v : AC) (ls : List Lad) (hl : SlLad H v ls) :
  Con E2 7 [.one v] H (fun _ => False) fun r H' => ∃ p q, r = .tup [(false, [p]), (false, [q])] ∧ BookO H' p (bkO ls) ∧ RBkO H' q (bkO ls) ∧ (bkO ls = none → p = .o .nilP) := by
 refine Con.of rfl fun lg => ?_
 have hl : SlLad ⟨H.t, H.nx, lg⟩ v ls := hl
 generalize (⟨H.t, H.nx, lg⟩ : Hp) = H at hl ⊢
 refine C1.body (E := E2) (nt := 20) (res := [.tmp 2, .tmp 3]) Tryz.func7 rfl rfl rfl rfl rfl fun tm hargs => ?_
 have h0 := hargs 0 _ rfl
 clear hargs
 refine qW E2_P ?_
 refine qG (qA E2_P (qA h0 bd_newBook)) fun K hK => ?_
 refine WE.con (newBook_con H v ls hl) fun w H1 g1 ⟨p, hw, hp1, hp2⟩ => ?_
 subst hw
 refine qT ?_
 refine hK _ _ ?_
 clear hK K
 refine qG (qA E2_P (qA h0 bd_rNew)) fun K hK => ?_
 refine WE.con (rNew_con H1 v ls (hl.gr g1)) fun w H2 g2 ⟨q, hw, hq1, hq2⟩ => ?_
 subst hw
 refine qT ?_
 refine hK _ _ ?_
 clear hK K
 refine qV ?_
 refine ⟨_, _, callEnd_two p q (.inr rfl) rfl qp qp, g1.gr g2, fun _ => ⟨p, q, rfl, ?_, ?_, ?_⟩⟩
 ·refine BookO.same (H := H2) rfl rfl ?_
  unfold bkO
  by_cases hc : newE ls = 0
  ·rw [if_pos hc]; exact (hp1 hc).gr g2
  ·rw [if_neg hc]; exact .inl (hp2 hc)
 ·refine RBkO.same (H := H2) rfl rfl ?_
  unfold bkO
  by_cases hc : newE ls = 0
  ·rw [if_pos hc]; exact hq1 hc
  ·rw [if_neg hc]; exact hq2 hc
 ·unfold bkO
  by_cases hc : newE ls = 0
  ·rw [if_pos hc]; intro h; cases h
  ·exact fun _ => hp2 hc
end Go.Proofs.YtiejeicaaojdlaaGreat
namespace Go.Proofs.YtiejeicaaojdlaaGreat
open Go Go.Eng Go.ChangeShapes Go.WideShapes
abbrev unitR := pairR strR (intR .i64)
abbrev unitsR := sliR Tryz.prog 140 2 unitR
abbrev ladR := pairR strR unitsR
abbrev ladsR := sliR Tryz.prog 78 2 ladR
theorem mon_units : MonR unitsR := mon_sli (mon_pair mon_str mon_int)
theorem opn_unit {W : World} : Opn Tryz.prog W 2 unitR 140 := opn_struct Tryz.underlying140 (by kernel_rfl) rfl (opnF_cons (opn_str Tryz.underlying9) mon_str (opnF_one (opn_int Tryz.underlying3)))
theorem opn_units {W : World} (hB : HasB W) : Opn Tryz.prog W 1 unitsR 76 := opn_slice Tryz.underlying76 (by kernel_rfl) (by decide) (mon_pair mon_str mon_int) hB opn_unit
theorem opn_lad {W : World} (hB : HasB W) : Opn Tryz.prog W 2 ladR 78 := opn_struct Tryz.underlying78 (by kernel_rfl) rfl (opnF_cons (opn_str Tryz.underlying9) mon_str (opnF_one (opn_units hB)))
theorem opn_lads {W : World} (hB : HasB W) : Opn Tryz.prog W 1 ladsR 22 := opn_slice Tryz.underlying22 (by kernel_rfl) (by decide) (mon_pair mon_str mon_units) hB (opn_lad hB)
theorem bytesOf_lad : Tryz.prog.bytesOf 78 = 40 := by kernel_rfl
theorem units_of {B : Nat} {H : Hp} {c : List AC} {us : List Pr} (h : unitsR B H c us) : ∃ u, c = [u] ∧ SlP H u us := by
 obtain ⟨u, rfl, ⟨css, h1, h2⟩, _⟩ := h
 refine ⟨u, rfl, ?_⟩
 have := al_flat (f := prC) (h2.mono fun c x ⟨_, c1, c2, e, a, b⟩ => by rw [e, a.1, b.1]; rfl)
 rw [this] at h1
 exact h1
theorem lads_of {B : Nat} {H : Hp} {u : AC} {ls : List Lad} (h : ladsR B H [u] ls) : SlLad H u ls ∧ ls.length * 40 ≤ B := by
 obtain ⟨u, e, ⟨css, h1, h2⟩, h3⟩ := h
 cases e
 refine ⟨⟨css, h1, h2.mono fun c x ⟨hl, c1, c2, e, a, b⟩ => ⟨hl, ?_⟩⟩, by rwa [bytesOf_lad] at h3⟩
 obtain ⟨u, rfl, hu⟩ := units_of b
 exact ⟨u, by rw [e, a.1]; rfl, hu⟩
end Go.Proofs.YtiejeicaaojdlaaGreat
namespace Go.Proofs.YtiejeicaaojdlaaGreat
open Go.ChangeShapes Go.WideShapes Go.ChangeAt Go.RowKit Go.Eng
theorem trodAll_stays {H : Type} {enc : TypeId × Value → H} {P : Program} (hl : laidOutB P = true) {W W' : World} (hb : Below W.heap.size W W') {sp : Nat → Bool} : ∀ {ts : List TypeId} {vs : List Value} {ds : List (DataW H)} {ps : List MemPlace}, (∀ t ∈ ts, P.readableRec t = true ∧ t < P.types.size) →
  DataW.TrodAll enc P W 0 (fun _ => true) true ts vs ds ps → (∀ p ∈ ps, p.block < W.heap.size) → (∀ p ∈ ps, sp p.block = true) → DataW.TrodAll enc P W' 0 sp true ts vs ds ps
 | [], vs, ds, ps, _, h, _, _ => by
  obtain ⟨rfl, rfl, rfl⟩ := trodAll_nil h
  exact trodAll_mk0
 | t :: ts, vs, ds, ps, hr, h, hlt, hsp => by
  obtain ⟨v, vs1, d, ds1, a, b, rfl, rfl, rfl, h1, h2⟩ := trodAll_cons h
  refine ⟨a, b, ?_, trodAll_stays hl hb (fun t ht => hr t (List.mem_cons_of_mem _ ht)) h2 (fun p hp => hlt p (List.mem_append_right _ hp)) (fun p hp => hsp p (List.mem_append_right _ hp)), rfl⟩
  exact WideElems.Trod_stays hl (hr t (List.mem_cons_self ..)).1 (hr t (List.mem_cons_self ..)).2 h1 (fun x hx => hb.same (hlt x (List.mem_append_left _ hx))) (fun x hx => hsp x (List.mem_append_left _ hx))
theorem Tryz.laidOut : laidOutB Tryz.prog = true := by kernel_rfl
theorem reach_le : reachBytes ≤ 140737488355328 := by decide
end Go.Proofs.YtiejeicaaojdlaaGreat
namespace Go.Proofs.YtiejeicaaojdlaaGreat
open Go Go.Eng
theorem ld_puzzle : loadT Tryz.prog 42 = some (true, 2) := by kernel_rfl
theorem sz_puzzle : sizeT Tryz.prog 42 = some 2 := by kernel_rfl
theorem zr_puzzle : (zeroT Tryz.prog 42).map (fun z => (ofValue z).cells) = some [.o .nilS, .o .nilS] := by kernel_rfl
theorem ad_puzzle : addrT Tryz.prog 42 = 4 := by kernel_rfl
theorem fd_puzzle_0 : fieldT Tryz.prog 42 0 = some (0, 39, 1) := by kernel_rfl
theorem fd_puzzle_1 : fieldT Tryz.prog 42 1 = some (1, 40, 1) := by kernel_rfl
def pl_puzzle : Nat → Option (Nat × Nat) := fun i => (#[(0, 1), (1, 1)] : Array (Nat × Nat))[i]?
theorem pt_puzzle : placeT Tryz.prog 42 = some pl_puzzle := by kernel_rfl
theorem pl_puzzle_0 : pl_puzzle 0 = some (0, 1) := rfl
theorem pl_puzzle_1 : pl_puzzle 1 = some (1, 1) := rfl
theorem ld_cells : loadT Tryz.prog 39 = some (false, 1) := by kernel_rfl
theorem sz_cells : sizeT Tryz.prog 39 = some 1 := by kernel_rfl
theorem zr_cells : (zeroT Tryz.prog 39).map (fun z => (ofValue z).cells) = some [.o .nilS] := by kernel_rfl
theorem el_cells : elemT Tryz.prog 39 = some (108, 5) := by kernel_rfl
theorem ln_cells : lenT Tryz.prog 39 = some 1 := by kernel_rfl
theorem ad_cells : addrT Tryz.prog 39 = 1 := by kernel_rfl
theorem ld_cell : loadT Tryz.prog 108 = some (true, 5) := by kernel_rfl
theorem sz_cell : sizeT Tryz.prog 108 = some 5 := by kernel_rfl
theorem zr_cell : (zeroT Tryz.prog 108).map (fun z => (ofValue z).cells) = some [.i .i64 0, .o (.str []), .o (.str []), .o .nilS, .o .nilS] := by kernel_rfl
theorem ad_cell : addrT Tryz.prog 108 = 4 := by kernel_rfl
theorem fd_cell_0 : fieldT Tryz.prog 108 0 = some (0, 3, 1) := by kernel_rfl
theorem fd_cell_1 : fieldT Tryz.prog 108 1 = some (1, 9, 1) := by kernel_rfl
theorem fd_cell_2 : fieldT Tryz.prog 108 2 = some (2, 9, 1) := by kernel_rfl
theorem fd_cell_3 : fieldT Tryz.prog 108 3 = some (3, 106, 2) := by kernel_rfl
def pl_cell : Nat → Option (Nat × Nat) := fun i => (#[(0, 1), (1, 1), (2, 1), (3, 2)] : Array (Nat × Nat))[i]?
theorem pt_cell : placeT Tryz.prog 108 = some pl_cell := by kernel_rfl
theorem pl_cell_0 : pl_cell 0 = some (0, 1) := rfl
theorem pl_cell_1 : pl_cell 1 = some (1, 1) := rfl
theorem pl_cell_2 : pl_cell 2 = some (2, 1) := rfl
theorem pl_cell_3 : pl_cell 3 = some (3, 2) := rfl
theorem ld_rules : loadT Tryz.prog 40 = some (false, 1) := by kernel_rfl
theorem sz_rules : sizeT Tryz.prog 40 = some 1 := by kernel_rfl
theorem zr_rules : (zeroT Tryz.prog 40).map (fun z => (ofValue z).cells) = some [.o .nilS] := by kernel_rfl
theorem el_rules : elemT Tryz.prog 40 = some (92, 2) := by kernel_rfl
theorem ln_rules : lenT Tryz.prog 40 = some 1 := by kernel_rfl
theorem ad_rules : addrT Tryz.prog 40 = 1 := by kernel_rfl
theorem ld_rule : loadT Tryz.prog 92 = some (true, 2) := by kernel_rfl
theorem sz_rule : sizeT Tryz.prog 92 = some 2 := by kernel_rfl
theorem zr_rule : (zeroT Tryz.prog 92).map (fun z => (ofValue z).cells) = some [.i .i64 0, .o .nilS] := by kernel_rfl
theorem ad_rule : addrT Tryz.prog 92 = 4 := by kernel_rfl
theorem fd_rule_0 : fieldT Tryz.prog 92 0 = some (0, 3, 1) := by kernel_rfl
theorem fd_rule_1 : fieldT Tryz.prog 92 1 = some (1, 33, 1) := by kernel_rfl
def pl_rule : Nat → Option (Nat × Nat) := fun i => (#[(0, 1), (1, 1)] : Array (Nat × Nat))[i]?
theorem pt_rule : placeT Tryz.prog 92 = some pl_rule := by kernel_rfl
theorem pl_rule_0 : pl_rule 0 = some (0, 1) := rfl
theorem pl_rule_1 : pl_rule 1 = some (1, 1) := rfl
theorem ld_num : loadT Tryz.prog 106 = some (true, 2) := by kernel_rfl
theorem sz_num : sizeT Tryz.prog 106 = some 2 := by kernel_rfl
theorem zr_num : (zeroT Tryz.prog 106).map (fun z => (ofValue z).cells) = some [.o .nilS, .o .nilS] := by kernel_rfl
theorem ad_num : addrT Tryz.prog 106 = 4 := by kernel_rfl
theorem fd_num_0 : fieldT Tryz.prog 106 0 = some (0, 104, 1) := by kernel_rfl
theorem fd_num_1 : fieldT Tryz.prog 106 1 = some (1, 104, 1) := by kernel_rfl
def pl_num : Nat → Option (Nat × Nat) := fun i => (#[(0, 1), (1, 1)] : Array (Nat × Nat))[i]?
theorem pt_num : placeT Tryz.prog 106 = some pl_num := by kernel_rfl
theorem pl_num_0 : pl_num 0 = some (0, 1) := rfl
theorem pl_num_1 : pl_num 1 = some (1, 1) := rfl
theorem ld_grps : loadT Tryz.prog 104 = some (false, 1) := by kernel_rfl
theorem sz_grps : sizeT Tryz.prog 104 = some 1 := by kernel_rfl
theorem zr_grps : (zeroT Tryz.prog 104).map (fun z => (ofValue z).cells) = some [.o .nilS] := by kernel_rfl
theorem el_grps : elemT Tryz.prog 104 = some (196, 3) := by kernel_rfl
theorem ln_grps : lenT Tryz.prog 104 = some 1 := by kernel_rfl
theorem ad_grps : addrT Tryz.prog 104 = 1 := by kernel_rfl
theorem ld_grp : loadT Tryz.prog 196 = some (true, 3) := by kernel_rfl
theorem sz_grp : sizeT Tryz.prog 196 = some 3 := by kernel_rfl
theorem zr_grp : (zeroT Tryz.prog 196).map (fun z => (ofValue z).cells) = some [.i .i64 0, .o (.str []), .b false] := by kernel_rfl
theorem ad_grp : addrT Tryz.prog 196 = 4 := by kernel_rfl
theorem fd_grp_0 : fieldT Tryz.prog 196 0 = some (0, 3, 1) := by kernel_rfl
theorem fd_grp_1 : fieldT Tryz.prog 196 1 = some (1, 9, 1) := by kernel_rfl
theorem fd_grp_2 : fieldT Tryz.prog 196 2 = some (2, 4, 1) := by kernel_rfl
def pl_grp : Nat → Option (Nat × Nat) := fun i => (#[(0, 1), (1, 1), (2, 1)] : Array (Nat × Nat))[i]?
theorem pt_grp : placeT Tryz.prog 196 = some pl_grp := by kernel_rfl
theorem pl_grp_0 : pl_grp 0 = some (0, 1) := rfl
theorem pl_grp_1 : pl_grp 1 = some (1, 1) := rfl
theorem pl_grp_2 : pl_grp 2 = some (2, 1) := rfl
theorem ld_bools : loadT Tryz.prog 156 = some (false, 1) := by kernel_rfl
theorem sz_bools : sizeT Tryz.prog 156 = some 1 := by kernel_rfl
theorem zr_bools : (zeroT Tryz.prog 156).map (fun z => (ofValue z).cells) = some [.o .nilS] := by kernel_rfl
theorem el_bools : elemT Tryz.prog 156 = some (4, 1) := by kernel_rfl
theorem ln_bools : lenT Tryz.prog 156 = some 1 := by kernel_rfl
theorem ad_bools : addrT Tryz.prog 156 = 1 := by kernel_rfl
theorem eq_grp : eqK Tryz.prog 196 = some [.i, .s, .b] := by kernel_rfl
end Go.Proofs.YtiejeicaaojdlaaGreat
namespace Go.Proofs.YtiejeicaaojdlaaGreat
open Go Go.Eng
theorem bd_gap : hasBody Tryz.prog 147 = true := by kernel_rfl
theorem bd_rGap : hasBody Tryz.prog 123 = true := by kernel_rfl
theorem bd_broken : hasBody Tryz.prog 121 = true := by kernel_rfl
theorem bd_rBroken : hasBody Tryz.prog 84 = true := by kernel_rfl
theorem bd_numChecked : hasBody Tryz.prog 125 = true := by kernel_rfl
theorem bd_rGroups : hasBody Tryz.prog 87 = true := by kernel_rfl
theorem bd_had : hasBody Tryz.prog 126 = true := by kernel_rfl
theorem bd_numCheck : hasBody Tryz.prog 86 = true := by kernel_rfl
theorem bd_rNumCheck : hasBody Tryz.prog 53 = true := by kernel_rfl
abbrev Gp := Int × List UInt8 × Bool
def gpC (x : Gp) : List AC := [.i .i64 x.1, .o (.str x.2.1), .b x.2.2]
theorem gpC_e (x : Gp) : gpC x = [.i .i64 x.1, .o (.str x.2.1), .b x.2.2] := by unfold gpC; rfl
theorem gpC_len (x : Gp) : (gpC x).length = 3 := rfl
def SlGp (H : Hp) (v : AC) (l : List Gp) : Prop := SlC H v 3 l.length (l.flatMap gpC)
theorem SlGp.gr {H H' : Hp} {v : AC} {l : List Gp} (h : SlGp H v l) (hg : Gr H H') : SlGp H' v l := SlC.gr h hg
theorem SlGp.len {H : Hp} {v : AC} {l : List Gp} (h : SlGp H v l) : doLen H 1 (.one v) = .val (.one (.i .i64 (l.length : Int))) H := SlC.len h
theorem SlGp.lt {H : Hp} {v : AC} {l : List Gp} (h : SlGp H v l) : ltV (.one v) H.nx := ltV_slc h
theorem SlGp.nil {H : Hp} : SlGp H (.o .nilS) [] := ⟨by simp, .inl ⟨rfl, rfl⟩⟩
structure GpAt (cells : List AC) (o : Nat) (x : Gp) : Prop where
 all : (cells.drop o).take 3 = gpC x
 le : o + 3 ≤ cells.length
 le1 : o + 1 ≤ cells.length
 le2 : o + 1 + 1 ≤ cells.length
 le3 : o + 2 + 1 ≤ cells.length
 f1 : (cells.drop o).headD (.b false) = .i .i64 x.1
 f2 : (cells.drop (o + 1)).headD (.b false) = .o (.str x.2.1)
 f3 : (cells.drop (o + 2)).headD (.b false) = .b x.2.2
theorem SlGp.open {H : Hp} {v : AC} {l : List Gp} (h : SlGp H v l) (hn : 0 < l.length) : ∃ id g off cells, v = .o (.sl id g off l.length 3) ∧ id < H.nx ∧ rowOf (H.get id) g = some cells ∧ ∀ (i : Nat) (x : Gp), l[i]? = some x → GpAt cells (off + i * 3) x := by
 obtain ⟨id, g, off, h1, h2, hr⟩ := SlC.pos h hn
 have hr' := hr
 obtain ⟨cells, h3, h6, h7⟩ := hr
 refine ⟨id, g, off, cells, h1, h2, h3, fun i x hx => ?_⟩
 obtain ⟨cells', k3, k6, k7⟩ := Rd.at (c := gpC) gpC_len hr' hx
 rw [h3] at k3
 cases k3
 obtain ⟨a, b, c⟩ := drop3 k7
 exact ⟨k7, k6, by omega, by omega, by omega, a, b, c⟩
theorem SlGp.take {H : Hp} {id g off : Nat} {l : List Gp} (h : SlGp H (.o (.sl id g off l.length 3)) l) {n : Nat} (hn : n ≤ l.length) : SlGp H (.o (.sl id g off n 3)) (l.take n) := by
 have hl : (l.take n).length = n := by rw [List.length_take]; omega
 refine ⟨by rw [flat_len gpC_len], ?_⟩
 rcases h.2 with ⟨e, _⟩ | ⟨id', g', off', e, hid, hr⟩
 ·cases e
 ·cases e
  refine .inr ⟨id, g, off, by rw [hl], hid, ?_⟩
  have := hr.part 0 (n * 3) (by omega)
  rw [List.drop_zero, Nat.add_zero] at this
  rw [hl]
  have e : (l.take n).flatMap gpC = (l.flatMap gpC).take (n * 3) := by
   have h1 : l.flatMap gpC = (l.take n).flatMap gpC ++ (l.drop n).flatMap gpC := by rw [← List.flatMap_append, List.take_append_drop]
   exact ((congrArg (List.take (n * 3)) h1).trans (by rw [List.take_append_of_le_length (by rw [flat_len gpC_len, hl]; exact Nat.le_refl _), List.take_of_length_le (by rw [flat_len gpC_len, hl]; exact Nat.le_refl _)])).symm
  rw [e]
  exact this
def gapB (x : Gp) : Bool := x.1 == 0 && (x.2.1 == [] && (x.2.2 == false && true))
def brkB (l : List Gp) : Bool := l.any fun x => gapB x || x.2.2
set_option maxRecDepth 10000 in
theorem gap_con (H : Hp) (x : Gp) : Con E2 147 [.agg (gpC x)] H (fun _ => False) fun r _ => r = .one (.b (gapB x)) := by
 refine Con.of rfl fun lg => ?_
 generalize (⟨H.t, H.nx, lg⟩ : Hp) = H
 refine C1.body (E := E2) (nt := 6) (res := [.tmp 2]) Tryz.func147 rfl rfl rfl rfl rfl fun tm hargs => ?_
 have h0 := hargs 0 _ rfl
 clear hargs
 repeat' first | refine R1.ret ?_ | refine R1.exit ?_ | refine R1.skip ?_ | refine R1.s_ret ?_ | refine R1.s_exit ?_ | refine R1.s_assoc ?_ | refine R1.s_skip ?_ | refine R1.s_scope ?_ | ((first | refine R1.e_rg fun K hK => ?_ | refine R1.s_rg fun K hK => ?_ | refine R1.e_sq (by kernel_rfl) fun K hK => ?_ | refine R1.s_sq (by kernel_rfl) fun K hK => ?_); simp only [qB, slotOk, Nat.reduceLT, Nat.reduceAdd, E2_P, h0, gpC, ld_grp, zr_grp, pt_grp, plain_eql eq_grp]; refine hK _ _ ?_; clear hK K)
 exact ⟨_, _, callEnd_one (.b (gapB x)) (.inr rfl) rfl (by simp only [slot_put, Nat.reduceEqDiff, reduceIte, gapB, id_eq]), (Fr.refl _).new _, fun _ => rfl⟩
set_option maxRecDepth 10000 in
theorem rGap_con (H : Hp) (x : Gp) : Con E2 123 [.agg (gpC x)] H (fun _ => False) fun r _ => r = .one (.b (gapB x)) := by
 refine Con.of rfl fun lg => ?_
 generalize (⟨H.t, H.nx, lg⟩ : Hp) = H
 refine C1.body (E := E2) (nt := 6) (res := [.tmp 2]) Tryz.func123 rfl rfl rfl rfl rfl fun tm hargs => ?_
 have h0 := hargs 0 _ rfl
 clear hargs
 repeat' first | refine R1.ret ?_ | refine R1.exit ?_ | refine R1.skip ?_ | refine R1.s_ret ?_ | refine R1.s_exit ?_ | refine R1.s_assoc ?_ | refine R1.s_skip ?_ | refine R1.s_scope ?_ | ((first | refine R1.e_rg fun K hK => ?_ | refine R1.s_rg fun K hK => ?_ | refine R1.e_sq (by kernel_rfl) fun K hK => ?_ | refine R1.s_sq (by kernel_rfl) fun K hK => ?_); simp only [qB, slotOk, Nat.reduceLT, Nat.reduceAdd, E2_P, h0, gpC, ld_grp, zr_grp, pt_grp, plain_eql eq_grp]; refine hK _ _ ?_; clear hK K)
 exact ⟨_, _, callEnd_one (.b (gapB x)) (.inr rfl) rfl (by simp only [slot_put, Nat.reduceEqDiff, reduceIte, gapB, id_eq]), (Fr.refl _).new _, fun _ => rfl⟩
set_option maxRecDepth 10000 in
set_option maxHeartbeats 4000000 in
theorem broken_con (H : Hp) (v : AC) (l : List Gp) (hv : SlGp H v l) (hL : l.length ≤ 1000000) :
  Con E2 121 [.one v] H (fun _ => False) fun r _ => r = .one (.b (brkB l)) := by
 refine Con.of rfl fun lg => ?_
 have hv : SlGp ⟨H.t, H.nx, lg⟩ v l := hv
 generalize (⟨H.t, H.nx, lg⟩ : Hp) = H at hv ⊢
 refine C1.body (E := E2) (nt := 18) (res := [.tmp 2]) Tryz.func121 rfl rfl rfl rfl rfl fun tm hargs => ?_
 have h0 := hargs 0 _ rfl
 clear hargs
 have fin : ∀ (b : Bool) (A : AAct) (H3 : Hp), slot A.tm 2 = .one (.b b) → A.dfr = [] → Gr H H3 → b = brkB l → ∃ w H4, callEnd E2 [.tmp 2] (.ret, A, H3) = .ok [(w, H4)] ∧ Gr H H4 ∧ ∀ _ : List Nat, w = .one (.b (brkB l)) := fun b A H3 h1 h2 h3 h4 => ⟨_, H3, callEnd_one (.b b) (.inr rfl) h2 h1, h3, fun _ => by rw [h4]⟩
 generalize hr0 : brkB l = r0 at fin
 refine qW (qA E2_P (qA h0 (qA ln_grps (qA hv.len hv.lt)))) ?_
 refine R1.s_block fun K k1 k2 k3 k4 => ?_
 refine R1.loop (fun k A H1 => ∃ i : Nat, k = l.length - i ∧ i ≤ l.length ∧ Gr H H1 ∧ brkB (l.drop i) = r0 ∧ slot A.tm 5 = .one v ∧ slot A.tm 6 = .one (.i .i64 (l.length : Int)) ∧ slot A.tm 7 = .one (.i .i64 (i : Int)) ∧ A.nt = 18 ∧ A.dfr = []) ?_ l.length
  ⟨0, rfl, Nat.zero_le _, Fr.refl _, hr0, ?_⟩
 ·clear h0 tm
  rintro k A H1 ⟨i, rfl, hi, g1, hr, t5, t6, t7, hnt, hdf⟩
  have hv1 := hv.gr g1
  refine qW (qA E2_P (qA t6 (qA t7 hnt))) ?_
  refine qE fun Kx Ky hx hy => ?_
  refine iteI (fun hc => hx ?_) (fun hc => hy ?_)
  ·clear hx hy Kx Ky
   have hlt : i < l.length := by omega
   obtain ⟨id, g, off, cells, rfl, hid, hgr, hat⟩ := hv1.open (by omega)
   have ex : l[i]? = some l[i] := List.getElem?_eq_getElem hlt
   have hdr : l.drop i = l[i] :: l.drop (i + 1) := List.drop_eq_getElem_cons hlt
   generalize l[i] = x at ex hdr
   have hx1 := hat i x ex
   have hw2 : IntKind.i64.wrap ((i : Int) + 1) = ((i + 1 : Nat) : Int) := by rw [wrapI (by omega) (by omega)]; omega
   rw [hdr, brkB, List.any_cons] at hr
   refine qV ?_
   refine R1.s_block fun K2 q1 q2 q3 q4 => ?_
   refine qG (qA E2_P (qA t5 (qA t7 (qA hnt (qA el_grps (qA ld_grp (qA sz_grp (qA zr_grp (qA (ixC hlt) (qA hid (qA hgr (qA hx1.all (qA hx1.le gpC_e))))))))))))) fun K hK => ?_
   refine hK _ _ ?_
   clear hK K
   refine R1.gen (fun A3 H3 => Gr H1 H3 ∧ H1.nx < H3.nx ∧ H3.get H1.nx = some (.arr (gpC x) 196 0 0) ∧ slot A3.tm 4 = .one (.o (.ptr H1.nx 0 0 3)) ∧ slot A3.tm 5 = .one (.o (.sl id g off l.length 3)) ∧ slot A3.tm 6 = .one (.i .i64 (l.length : Int)) ∧ slot A3.tm 7 = .one (.i .i64 (i : Int)) ∧ A3.nt = 18 ∧ A3.dfr = [])
    ⟨((Fr.refl _).new _).mod _ (.inl (Nat.le_refl _)), ?_⟩ ?_
   ·exact qZ (qA t5 (qA t6 (qA t7 (qA hnt (qA hdf gpC_e)))))
   clear t5 t6 t7 hnt hdf A
   rintro A H3 ⟨g3, n3, rx, t4, t5, t6, t7, hnt, hdf⟩
   refine qG (qA E2_P (qA t4 (qA hnt (qA rx (qA n3 (qA ld_grp (qA gpC_e bd_gap))))))) fun K hK => ?_
   refine WE.con (gap_con H3 x) fun w H4 g4 hw => ?_
   subst hw
   have rx : H4.get H1.nx = some (.arr (gpC x) 196 0 0) := by rw [g4.get _ n3 not_false]; exact rx
   have n4 : H1.nx < H4.nx := Nat.lt_of_lt_of_le n3 g4.nx
   have g4' := g1.gr (g3.gr g4)
   cases hgp : gapB x with
   | true =>
    rw [hgp, Bool.true_or, Bool.true_or] at hr
    refine qS (qA E2_P hnt) ?_
    refine hK _ _ ?_
    clear hK K
    refine qY ?_
    refine qW hnt ?_
    exact q4 _ _ (k4 _ _ (fin true _ _ qp (qd hdf) g4' hr))
   | false =>
    rw [hgp, Bool.false_or] at hr
    refine qS (qA E2_P (qA hnt (qA t4 (qA rx (qA n4 (qA gpC_e (qA fd_grp_2 ld_bool))))))) ?_
    refine hK _ _ ?_
    clear hK K
    cases hbr : x.2.2 with
    | true =>
     rw [hbr, Bool.true_or] at hr
     refine qY ?_
     refine qW hnt ?_
     exact q4 _ _ (k4 _ _ (fin true _ _ qp (qd hdf) g4' hr))
    | false =>
     rw [hbr, Bool.false_or] at hr
     refine qY ?_
     refine qW hnt ?_
     refine q1 _ _ ?_
     refine qW (qA hnt (qA t7 hw2)) ?_
     refine ⟨l.length - (i + 1), by omega, i + 1, rfl, hlt, g4', hr, ?_, ?_, ?_, ?_, ?_⟩
     ·simp only [slot_put, Nat.reduceEqDiff, reduceIte, t5]
     ·simp only [slot_put, Nat.reduceEqDiff, reduceIte, t6]
     ·simp only [slot_put, Nat.reduceEqDiff, reduceIte]
     ·simp only [putD_nt, hnt]
     ·simp only [putD_dfr, hdf]
  ·clear hx hy Kx Ky
   have hie : i = l.length := by omega
   rw [hie, List.drop_length] at hr
   refine qW hnt ?_
   refine k2 _ _ ?_
   refine qW hnt ?_
   exact fin false _ _ qp (qd hdf) g1 hr
 ·simp only [slot_put, Nat.reduceEqDiff, reduceIte, putD_nt, putD_dfr, and_self, true_and]
  exact ⟨rfl, trivial⟩
end Go.Proofs.YtiejeicaaojdlaaGreat
namespace Go.Proofs.YtiejeicaaojdlaaGreat
open Go Go.Eng
set_option maxRecDepth 10000 in
set_option maxHeartbeats 4000000 in
theorem rBroken_con (H : Hp) (v : AC) (l : List Gp) (hv : SlGp H v l) (hL : l.length ≤ 1000000) :
  Con E2 84 [.one v] H (fun _ => False) fun r _ => r = .one (.b (brkB l)) := by
 refine Con.of rfl fun lg => ?_
 have hv : SlGp ⟨H.t, H.nx, lg⟩ v l := hv
 generalize (⟨H.t, H.nx, lg⟩ : Hp) = H at hv ⊢
 refine C1.body (E := E2) (nt := 22) (res := [.tmp 2]) Tryz.func84 rfl rfl rfl rfl rfl fun tm hargs => ?_
 have h0 := hargs 0 _ rfl
 clear hargs
 have fin : ∀ (b : Bool) (A : AAct) (H3 : Hp), slot A.tm 2 = .one (.b b) → A.dfr = [] → Gr H H3 → b = brkB l → ∃ w H4, callEnd E2 [.tmp 2] (.ret, A, H3) = .ok [(w, H4)] ∧ Gr H H4 ∧ ∀ _ : List Nat, w = .one (.b (brkB l)) := fun b A H3 h1 h2 h3 h4 => ⟨_, H3, callEnd_one (.b b) (.inr rfl) h2 h1, h3, fun _ => by rw [h4]⟩
 generalize hr0 : brkB l = r0 at fin
 refine qW E2_P ?_
 refine R1.s_block fun K k1 k2 k3 k4 => ?_
 refine R1.loop (fun k A H1 => ∃ i : Nat, k = l.length - i ∧ i ≤ l.length ∧ Gr H H1 ∧ brkB (l.drop i) = r0 ∧ slot A.tm 0 = .one v ∧ slot A.tm 3 = .one (.i .i64 (i : Int)) ∧ A.nt = 22 ∧ A.dfr = []) ?_ l.length
  ⟨0, rfl, Nat.zero_le _, Fr.refl _, hr0, ?_⟩
 ·clear h0 tm
  rintro k A H1 ⟨i, rfl, hi, g1, hr, t0, t3, hnt, hdf⟩
  have hv1 := hv.gr g1
  refine qW (qA E2_P (qA t0 (qA t3 (qA hnt (qA ln_grps (qA hv1.len hv1.lt)))))) ?_
  refine qE fun Kx Ky hx hy => ?_
  refine iteI (fun hc => hx ?_) (fun hc => hy ?_)
  ·clear hx hy Kx Ky
   have hlt : i < l.length := by omega
   obtain ⟨id, g, off, cells, rfl, hid, hgr, hat⟩ := hv1.open (by omega)
   have ex : l[i]? = some l[i] := List.getElem?_eq_getElem hlt
   have hdr : l.drop i = l[i] :: l.drop (i + 1) := List.drop_eq_getElem_cons hlt
   generalize l[i] = x at ex hdr
   have hx1 := hat i x ex
   have hw2 : IntKind.i64.wrap ((i : Int) + 1) = ((i + 1 : Nat) : Int) := by rw [wrapI (by omega) (by omega)]; omega
   rw [hdr, brkB, List.any_cons] at hr
   refine qV ?_
   refine R1.s_block fun K2 q1 q2 q3 q4 => ?_
   refine qG (qA E2_P (qA t0 (qA t3 (qA hnt (qA el_grps (qA ld_grp (qA (ixC hlt) (qA hid (qA hgr (qA hx1.all (qA hx1.le bd_rGap))))))))))) fun K hK => ?_
   refine WE.con (rGap_con H1 x) fun w H4 g4 hw => ?_
   subst hw
   have hid4 : id < H4.nx := Nat.lt_of_lt_of_le hid g4.nx
   have hgr4 : rowOf (H4.get id) g = some cells := by rw [g4.get _ hid not_false]; exact hgr
   have g4' := g1.gr g4
   cases hgp : gapB x with
   | true =>
    rw [hgp, Bool.true_or, Bool.true_or] at hr
    refine qS (qA E2_P hnt) ?_
    refine hK _ _ ?_
    clear hK K
    refine qY ?_
    refine qW hnt ?_
    exact q4 _ _ (k4 _ _ (fin true _ _ qp (qd hdf) g4' hr))
   | false =>
    rw [hgp, Bool.false_or] at hr
    refine qS (qA E2_P (qA hnt (qA t0 (qA t3 (qA el_grps (qA (ixC hlt) (qA hid4 (qA hgr4 (qA fd_grp_2 (qA ld_bool (qA hx1.f3 hx1.le3))))))))))) ?_
    refine hK _ _ ?_
    clear hK K
    cases hbr : x.2.2 with
    | true =>
     rw [hbr, Bool.true_or] at hr
     refine qY ?_
     refine qW hnt ?_
     exact q4 _ _ (k4 _ _ (fin true _ _ qp (qd hdf) g4' hr))
    | false =>
     rw [hbr, Bool.false_or] at hr
     refine qY ?_
     refine qW hnt ?_
     refine q1 _ _ ?_
     refine qW (qA hnt (qA t3 hw2)) ?_
     refine ⟨l.length - (i + 1), by omega, i + 1, rfl, hlt, g4', hr, ?_, ?_, ?_, ?_⟩
     ·simp only [slot_put, Nat.reduceEqDiff, reduceIte, t0]
     ·simp only [slot_put, Nat.reduceEqDiff, reduceIte]
     ·simp only [putD_nt, hnt]
     ·simp only [putD_dfr, hdf]
  ·clear hx hy Kx Ky
   have hie : i = l.length := by omega
   rw [hie, List.drop_length] at hr
   refine qW hnt ?_
   refine k2 _ _ ?_
   refine qW hnt ?_
   exact fin false _ _ qp (qd hdf) g1 hr
 ·simp only [slot_put, Nat.reduceEqDiff, reduceIte, putD_nt, putD_dfr, h0, and_self, true_and]
  exact ⟨rfl, trivial⟩
def hadB (l : List Gp) (s : List UInt8) : Bool := l.any fun x => x.2.1 == s
set_option maxRecDepth 10000 in
set_option maxHeartbeats 4000000 in
theorem had_con (H : Hp) (v : AC) (l : List Gp) (s : List UInt8) (hv : SlGp H v l) (hL : l.length ≤ 1000000) :
  Con E2 126 [.one v, .one (.o (.str s))] H (fun _ => False) fun r _ => r = .one (.b (hadB l s)) := by
 refine Con.of rfl fun lg => ?_
 have hv : SlGp ⟨H.t, H.nx, lg⟩ v l := hv
 generalize (⟨H.t, H.nx, lg⟩ : Hp) = H at hv ⊢
 refine C1.body (E := E2) (nt := 19) (res := [.tmp 4]) Tryz.func126 rfl rfl rfl rfl rfl fun tm hargs => ?_
 have h0 := hargs 0 _ rfl
 have h1 := hargs 1 _ rfl
 clear hargs
 have fin : ∀ (b : Bool) (A : AAct) (H3 : Hp), slot A.tm 4 = .one (.b b) → A.dfr = [] → Gr H H3 → b = hadB l s → ∃ w H4, callEnd E2 [.tmp 4] (.ret, A, H3) = .ok [(w, H4)] ∧ Gr H H4 ∧ ∀ _ : List Nat, w = .one (.b (hadB l s)) := fun b A H3 h1 h2 h3 h4 => ⟨_, H3, callEnd_one (.b b) (.inr rfl) h2 h1, h3, fun _ => by rw [h4]⟩
 generalize hr0 : hadB l s = r0 at fin
 refine qW E2_P ?_
 refine R1.s_block fun K k1 k2 k3 k4 => ?_
 refine R1.loop (fun k A H1 => ∃ i : Nat, k = l.length - i ∧ i ≤ l.length ∧ Gr H H1 ∧ hadB (l.drop i) s = r0 ∧ slot A.tm 0 = .one v ∧ slot A.tm 1 = .one (.o (.str s)) ∧ slot A.tm 5 = .one (.i .i64 (i : Int)) ∧ A.nt = 19 ∧ A.dfr = []) ?_ l.length
  ⟨0, rfl, Nat.zero_le _, Fr.refl _, hr0, ?_⟩
 ·clear h0 h1 tm
  rintro k A H1 ⟨i, rfl, hi, g1, hr, t0, t1, t5, hnt, hdf⟩
  have hv1 := hv.gr g1
  refine qW (qA E2_P (qA t0 (qA t5 (qA hnt (qA ln_grps (qA hv1.len hv1.lt)))))) ?_
  refine qE fun Kx Ky hx hy => ?_
  refine iteI (fun hc => hx ?_) (fun hc => hy ?_)
  ·clear hx hy Kx Ky
   have hlt : i < l.length := by omega
   obtain ⟨id, g, off, cells, rfl, hid, hgr, hat⟩ := hv1.open (by omega)
   have ex : l[i]? = some l[i] := List.getElem?_eq_getElem hlt
   have hdr : l.drop i = l[i] :: l.drop (i + 1) := List.drop_eq_getElem_cons hlt
   generalize l[i] = x at ex hdr
   have hx1 := hat i x ex
   have hw2 : IntKind.i64.wrap ((i : Int) + 1) = ((i + 1 : Nat) : Int) := by rw [wrapI (by omega) (by omega)]; omega
   rw [hdr, hadB, List.any_cons] at hr
   refine qV ?_
   refine R1.s_block fun K2 q1 q2 q3 q4 => ?_
   by_cases hxs : x.2.1 = s
   ·rw [beq_iff_eq.2 hxs, Bool.true_or] at hr
    have cs : (x.2.1 == s) = true := beq_iff_eq.2 hxs
    refine qW (qA E2_P (qA t0 (qA t1 (qA t5 (qA hnt (qA el_grps (qA fd_grp_1 (qA ld_str (qA (ixC hlt) (qA hid (qA hgr (qA hx1.f2 (qA hx1.le2 cs))))))))))))) ?_
    refine qE fun Kx Ky hx hy => ?_
    rw [lEq_eq, cs]
    refine hx ?_
    clear hx hy Kx Ky
    refine qW hnt ?_
    exact q4 _ _ (k4 _ _ (fin true _ _ qp (qd hdf) g1 hr))
   ·have cs : (x.2.1 == s) = false := beq_false_of_ne hxs
    rw [cs, Bool.false_or] at hr
    refine qW (qA E2_P (qA t0 (qA t1 (qA t5 (qA hnt (qA el_grps (qA fd_grp_1 (qA ld_str (qA (ixC hlt) (qA hid (qA hgr (qA hx1.f2 (qA hx1.le2 cs))))))))))))) ?_
    refine qE fun Kx Ky hx hy => ?_
    rw [lEq_eq, cs]
    refine hy ?_
    clear hx hy Kx Ky
    refine qW hnt ?_
    refine q1 _ _ ?_
    refine qW (qA hnt (qA t5 hw2)) ?_
    refine ⟨l.length - (i + 1), by omega, i + 1, rfl, hlt, g1, hr, ?_, ?_, ?_, ?_, ?_⟩
    ·simp only [slot_put, Nat.reduceEqDiff, reduceIte, t0]
    ·simp only [slot_put, Nat.reduceEqDiff, reduceIte, t1]
    ·simp only [slot_put, Nat.reduceEqDiff, reduceIte]
    ·simp only [putD_nt, hnt]
    ·simp only [putD_dfr, hdf]
  ·clear hx hy Kx Ky
   have hie : i = l.length := by omega
   rw [hie, List.drop_length] at hr
   refine qW hnt ?_
   refine k2 _ _ ?_
   refine qW hnt ?_
   exact fin false _ _ qp (qd hdf) g1 hr
 ·simp only [slot_put, Nat.reduceEqDiff, reduceIte, putD_nt, putD_dfr, h0, h1, and_self, true_and]
  exact ⟨rfl, trivial⟩
end Go.Proofs.YtiejeicaaojdlaaGreat
