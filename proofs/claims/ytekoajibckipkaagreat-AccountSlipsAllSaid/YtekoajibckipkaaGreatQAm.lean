/- A part of the proof: BkSv7, BkSv8, BkSv9, BkSp5, BkSp6, BkSp7. No conditions. -/
import Derived.Test.YtekoajibckipkaaGreatQAl
import Derived.Sort.LotA
import Derived.Sort.LotB
import Derived.Sort.LotD3
namespace Go.Proofs.YtekoajibckipkaaGreat
open Go Go.Eng
section
variable {α : Type} [Inhabited α] {c : α → List AC} {cf : α → α → Int} {cl N : Nat}
theorem partEq_b {lt : α → α → Bool} {a n : Nat} : ∀ (m i j : Nat) (d : Array α), j + 1 - i ≤ m → i ≤ j + 2 → j < n → (Go.Sort.partEqLoop lt a i j d).1 ≤ n + 1
  | m, i, j, d, hm, hij, hj => by
    have h2 := scanUp_le2 (p := fun x => !lt d[a]! x) (d := d) hij
    rw [Go.Sort.partEqLoop_eq]
    by_cases hIJ : Go.Sort.scanUp (fun x => !lt d[a]! x) d j i > Go.Sort.scanDown (fun x => lt d[a]! x) d (Go.Sort.scanUp (fun x => !lt d[a]! x) d j i) j
    · rw [if_pos hIJ]
      show Go.Sort.scanUp _ d j i ≤ _
      omega
    · rw [if_neg hIJ]
      have hg := Go.Sort.partEqLoop_guard lt a i j d hIJ
      have h3 := Go.Sort.scanDown_le (fun x => lt d[a]! x) d (Go.Sort.scanUp (fun x => !lt d[a]! x) d j i) j
      cases m with
      | zero => omega
      | succ m => exact partEq_b m _ _ _ (by omega) (by omega) (by omega)
set_option maxRecDepth 10000 in
set_option maxHeartbeats 32000000 in
theorem peq_con (hm : Cmp c cf cl N) (H : Hp) (id gen n : Nat) (d : Array α) (a b pv : Nat) (hs : Srt c H id gen n d) (hN : N ≤ H.nx) (hab : a < b) (hb : b ≤ n) (hp : pv < n) (hn : n ≤ 4096) :
    Con E2 155 [.one (.o (.sl id gen 0 n 3)), .one (.i .i64 a), .one (.i .i64 b), .one (.i .i64 pv), .one (.o (.clo cl []))] H (fun k => k = id) fun r H' => r = .one (.i .i64 ((Go.Sort.partitionEqual (ltF cf) d a b pv).1 : Int)) ∧ Srt c H' id gen n (Go.Sort.partitionEqual (ltF cf) d a b pv).2 := by
  have hbd := hm.bd
  refine Con.of rfl fun lg => ?_
  have hs : Srt c ⟨H.t, H.nx, lg⟩ id gen n d := hs
  have hN : N ≤ (⟨H.t, H.nx, lg⟩ : Hp).nx := hN
  generalize (⟨H.t, H.nx, lg⟩ : Hp) = H at hs hN ⊢
  refine C1.body (E := E2) (nt := 90) (res := [.tmp 10]) Tryz.func155 rfl rfl rfl rfl rfl fun tm hargs => ?_
  have h0 := hargs 0 _ rfl
  have h1 := hargs 1 _ rfl
  have h2 := hargs 2 _ rfl
  have h3 := hargs 3 _ rfl
  have h4 := hargs 4 _ rfl
  clear hargs
  generalize hr0 : Go.Sort.partitionEqual (ltF cf) d a b pv = R
  unfold Go.Sort.partitionEqual at hr0
  have fin : ∀ (A : AAct) (H3 : Hp), slot A.tm 10 = .one (.i .i64 (R.1 : Int)) → A.dfr = [] → Fr (fun k => k = id) H H3 → Srt c H3 id gen n R.2 → ∃ w H4, callEnd E2 [.tmp 10] (.ret, A, H3) = .ok [(w, H4)] ∧ Fr (fun k => k = id) H H4 ∧ ∀ lg' : List Nat, w = .one (.i .i64 (R.1 : Int)) ∧ Srt c ⟨H4.t, H4.nx, lg'⟩ id gen n R.2 := fun A H3 h1 hd h3 h4 => ⟨_, H3, callEnd_one (.i .i64 (R.1 : Int)) (.inr rfl) hd h1, h3, fun _ => ⟨rfl, h4⟩⟩
  have hid := hs.lt
  have hdz := hs.sz
  obtain ⟨lo, hlo, hg⟩ := hs.row
  have lv := hm.ltH hN
  have hcl := hm.len
  have b2 : a < n := by omega
  have d1 : a < d.size := by omega
  have d2 : pv < d.size := by omega
  have hw1 : IntKind.i64.wrap ((a : Int) + 1) = ((a + 1 : Nat) : Int) := by rw [wrapI (by omega) (by omega)]; omega
  have hw2 : IntKind.i64.wrap ((b : Int) - 1) = ((b - 1 : Nat) : Int) := by rw [wrapI (by omega) (by omega)]; omega
  have hRn : R.1 ≤ n + 1 := by
    rw [← hr0]
    exact partEq_b _ _ _ _ (Nat.le_refl _) (by omega) (by omega)
  replace hr0 : Hd _ := hr0
  replace hdz : Hd _ := hdz
  replace d1 : Hd _ := d1
  replace d2 : Hd _ := d2
  refine zW (qA tyS (qA (ixC b2) (qA (ixC hp) (swQ hm.len d1.out d2.out)))) ?_
  refine R1.s_mid (fun B H4 => Fr (fun k => k = id) H H4 ∧ Srt c H4 id gen n R.2 ∧ slot B.tm 11 = .one (.i .i64 (R.1 : Int)) ∧ B.nt = 90 ∧ B.dfr = []) (fun K7 m1 m2 m3 => ?_) ?_
  · refine R1.e_bl fun K8 k1 k2 k3 k4 => ?_
    refine R1.loop (fun z A H4 => ∃ (i j : Nat) (dc : Array α), z = j + 1 - i ∧ a + 1 ≤ i ∧ j < n ∧ i ≤ j + 2 ∧ Fr (fun k => k = id) H H4 ∧ Srt c H4 id gen n dc ∧ Hd (Go.Sort.partEqLoop (ltF cf) a i j dc = R) ∧ slot A.tm 0 = .one ((.o (.sl id gen 0 n 3))) ∧ slot A.tm 1 = .one (.i .i64 (a : Int)) ∧ slot A.tm 4 = .one ((.o (.clo cl []))) ∧ slot A.tm 11 = .one (.i .i64 (i : Int)) ∧ slot A.tm 12 = .one (.i .i64 (j : Int)) ∧ A.nt = 90 ∧ A.dfr = []) ?_ (b - 1 + 1 - (a + 1))
      ⟨a + 1, b - 1, Go.Sort.swp d a pv, rfl, by omega, by omega, by omega, ((Fr.refl (X := fun k => k = id) H).mod _ (.inr rfl)).mod _ (.inr rfl), ⟨by rw [swp_size]; exact hdz.out, ⟨gen, Nat.le_refl _, get_modE rfl⟩, hid⟩, hr0, zL⟩
    clear h0 h1 h2 h3 h4 tm hs hid hw1 hw2 hg hlo lo lv hdz d1 d2 hr0 k3
    rintro z A1 H1 ⟨i0, j0, dd, rfl, hi1, hj1, hij0, f1, hs, hr, t0, t1, t4, t11, t12, hnt, hdf⟩
    obtain ⟨I, hI⟩ : ∃ I, Hd (Go.Sort.scanUp (fun x => !ltF cf dd[a]! x) dd j0 i0 = I) := ⟨_, rfl⟩
    obtain ⟨J, hJ⟩ : ∃ J, Hd (Go.Sort.scanDown (fun x => ltF cf dd[a]! x) dd I j0 = J) := ⟨_, rfl⟩
    have hr1 := hr.out
    rw [Go.Sort.partEqLoop_eq] at hr1
    have hgd := @Go.Sort.partEqLoop_guard α _ (ltF cf) a i0 j0 dd
    rw [hI.out, hJ.out] at hgd
    rw [hI.out, hJ.out] at hr1
    clear hr
    replace hr1 : Hd _ := hr1
    have hI1 : i0 ≤ I := by rw [← hI.out]; exact Go.Sort.scanUp_ge _ _ _ _
    have hI2 : I ≤ j0 + 2 := by rw [← hI.out]; exact scanUp_le2 hij0
    have hJ1 : J ≤ j0 := by rw [← hJ.out]; exact Go.Sort.scanDown_le _ _ _ _
    have hJ2 : I ≤ J + 2 := by rw [← hJ.out]; exact scanDown_ge2 hI2
    replace hgd : Hd _ := hgd
    refine R1.e_bl fun K9 q1 q2 q3 q4 => ?_
    refine R1.s_mid (fun B H4 => Fr (fun k => k = id) H H4 ∧ Srt c H4 id gen n dd ∧ slot B.tm 0 = .one ((.o (.sl id gen 0 n 3))) ∧ slot B.tm 1 = .one (.i .i64 (a : Int)) ∧ slot B.tm 4 = .one ((.o (.clo cl []))) ∧ slot B.tm 11 = .one (.i .i64 (I : Int)) ∧ slot B.tm 12 = .one (.i .i64 (j0 : Int)) ∧ B.nt = 90 ∧ B.dfr = []) (fun Ka m1 m2 m3 => ?_) ?_
    · refine R1.e_bl fun Kab u1 u2 u3 u4 => ?_
      refine R1.loop (fun z A H4 => ∃ ii : Nat, z = j0 + 1 - ii ∧ i0 ≤ ii ∧ ii ≤ n + 2 ∧ Fr (fun k => k = id) H H4 ∧ Srt c H4 id gen n dd ∧ Hd (Go.Sort.scanUp (fun x => !ltF cf dd[a]! x) dd j0 ii = I) ∧ slot A.tm 0 = .one ((.o (.sl id gen 0 n 3))) ∧ slot A.tm 1 = .one (.i .i64 (a : Int)) ∧ slot A.tm 4 = .one ((.o (.clo cl []))) ∧ slot A.tm 11 = .one (.i .i64 (ii : Int)) ∧ slot A.tm 12 = .one (.i .i64 (j0 : Int)) ∧ A.nt = 90 ∧ A.dfr = []) ?_ (j0 + 1 - i0)
        ⟨i0, rfl, Nat.le_refl _, by omega, f1, hs, hI, zL⟩
      clear t0 t1 t4 t11 t12 hnt hdf hs f1 A1 hI u3
      rintro z A H4 ⟨ii, rfl, hi1, hi2, f4, hs, hr, t0, t1, t4, t11, t12, hnt, hdf⟩
      have hid := hs.lt
      by_cases hij : ii ≤ j0
      · have hiji : (ii : Int) ≤ (j0 : Int) := by omega
        have hdz := hs.sz
        obtain ⟨lo, hlo, hg⟩ := hs.row
        have lv := hm.ltH (Nat.le_trans hN f4.nx)
        have hcl := hm.len
        have b1 : ii < n := by omega
        have b2 : a < n := by omega
        have d1 : ii < Array.size dd := by omega
        have d2 : a < Array.size dd := by omega
        replace hdz : Hd _ := hdz
        replace d1 : Hd _ := d1
        replace d2 : Hd _ := d2
        refine zG (qA tyS (qA (ixC b1) (qA (ixC b2) (rdQ hm.len d1.out d2.out)))) fun K hK => ?_
        refine WE.con (hm.con H4 dd[a]! dd[ii]! (Nat.le_trans hN f4.nx)) fun w' H5 g5 hq => ?_
        subst hq
        have hs5 := hs.fr g5 not_false
        have hg := (g5.get _ hid not_false).trans hg
        have hid := Nat.lt_of_lt_of_le hid g5.nx
        have f5 := f4.then g5 fun _ h => h.elim
        by_cases hcf : cf dd[a]! dd[ii]! < 0
        · have hrr := hr.out
          rw [scanUp_stop (.inr (by show (!ltF cf _ _) = false; unfold ltF; rw [decide_eq_true hcf]; rfl))] at hrr
          clear hr
          subst hrr
          refine zK tyS ?_
          refine u2.out _ _ (m1.out _ _ ?_)
          exact ⟨f5, hs5, zL⟩
        · have hrr := hr.out
          rw [scanUp_go hij (by show (!ltF cf _ _) = true; unfold ltF; rw [decide_eq_false hcf]; rfl)] at hrr
          clear hr
          replace hrr : Hd _ := hrr
          have hwi : IntKind.i64.wrap ((ii : Int) + 1) = ((ii + 1 : Nat) : Int) := by rw [wrapI (by omega) (by omega)]; omega
          refine zK tyS ?_
          refine R1.e_bl fun K4 v1 v2 v3 v4 => ?_
          refine zW tyS ?_
          refine v1.out _ _ ?_
          exact ⟨j0 + 1 - (ii + 1), by omega, ii + 1, rfl, by omega, by omega, f5, hs5, hrr, zL⟩
      · have hiji : ¬ (ii : Int) ≤ (j0 : Int) := by omega
        have hrr := hr.out
        rw [scanUp_stop (.inl hij)] at hrr
        clear hr
        subst hrr
        refine zW tyS ?_
        refine u2.out _ _ (m1.out _ _ ?_)
        exact ⟨f4, hs, zL⟩
    clear t0 t1 t4 t11 t12 hnt hdf hs f1 A1 H1 hI
    rintro A H1 ⟨f1, hs, t0, t1, t4, t11, t12, hnt, hdf⟩
    refine R1.s_mid (fun B H4 => Fr (fun k => k = id) H H4 ∧ Srt c H4 id gen n dd ∧ slot B.tm 0 = .one ((.o (.sl id gen 0 n 3))) ∧ slot B.tm 1 = .one (.i .i64 (a : Int)) ∧ slot B.tm 4 = .one ((.o (.clo cl []))) ∧ slot B.tm 11 = .one (.i .i64 (I : Int)) ∧ slot B.tm 12 = .one (.i .i64 (J : Int)) ∧ B.nt = 90 ∧ B.dfr = []) (fun Kb m1 m2 m3 => ?_) ?_
    · refine R1.e_bl fun Kbb u1 u2 u3 u4 => ?_
      refine R1.loop (fun z A H4 => ∃ jj : Nat, z = jj ∧ jj ≤ j0 ∧ Fr (fun k => k = id) H H4 ∧ Srt c H4 id gen n dd ∧ Hd (Go.Sort.scanDown (fun x => ltF cf dd[a]! x) dd I jj = J) ∧ slot A.tm 0 = .one ((.o (.sl id gen 0 n 3))) ∧ slot A.tm 1 = .one (.i .i64 (a : Int)) ∧ slot A.tm 4 = .one ((.o (.clo cl []))) ∧ slot A.tm 11 = .one (.i .i64 (I : Int)) ∧ slot A.tm 12 = .one (.i .i64 (jj : Int)) ∧ A.nt = 90 ∧ A.dfr = []) ?_ j0
        ⟨j0, rfl, Nat.le_refl _, f1, hs, hJ, zL⟩
      clear t0 t1 t4 t11 t12 hnt hdf hs f1 A hJ u3
      rintro jj A H4 ⟨_, rfl, hj1, f4, hs, hr, t0, t1, t4, t11, t12, hnt, hdf⟩
      have hid := hs.lt
      by_cases hij : I ≤ jj
      · have hiji : (I : Int) ≤ (jj : Int) := by omega
        have hdz := hs.sz
        obtain ⟨lo, hlo, hg⟩ := hs.row
        have lv := hm.ltH (Nat.le_trans hN f4.nx)
        have hcl := hm.len
        have b1 : jj < n := by omega
        have b2 : a < n := by omega
        have d1 : jj < Array.size dd := by omega
        have d2 : a < Array.size dd := by omega
        replace hdz : Hd _ := hdz
        replace d1 : Hd _ := d1
        replace d2 : Hd _ := d2
        refine zG (qA tyS (qA (ixC b1) (qA (ixC b2) (rdQ hm.len d1.out d2.out)))) fun K hK => ?_
        refine WE.con (hm.con H4 dd[a]! dd[jj]! (Nat.le_trans hN f4.nx)) fun w' H5 g5 hq => ?_
        subst hq
        have hs5 := hs.fr g5 not_false
        have hg := (g5.get _ hid not_false).trans hg
        have hid := Nat.lt_of_lt_of_le hid g5.nx
        have f5 := f4.then g5 fun _ h => h.elim
        have hjn : jj ≠ 0 := by omega
        by_cases hcf : cf dd[a]! dd[jj]! < 0
        · have hrr := hr.out
          rw [scanDown_go hij hjn (by show ltF cf _ _ = true; exact decide_eq_true hcf)] at hrr
          clear hr
          replace hrr : Hd _ := hrr
          have hwj : IntKind.i64.wrap ((jj : Int) - 1) = ((jj - 1 : Nat) : Int) := by rw [wrapI (by omega) (by omega)]; omega
          refine zK tyS ?_
          refine R1.e_bl fun K4 v1 v2 v3 v4 => ?_
          refine zW tyS ?_
          refine v1.out _ _ ?_
          exact ⟨jj - 1, by omega, jj - 1, rfl, by omega, f5, hs5, hrr, zL⟩
        · have hrr := hr.out
          rw [scanDown_stop (.inr (by show ltF cf _ _ = false; exact decide_eq_false hcf))] at hrr
          clear hr
          subst hrr
          refine zK tyS ?_
          refine u2.out _ _ (m1.out _ _ ?_)
          exact ⟨f5, hs5, zL⟩
      · have hiji : ¬ (I : Int) ≤ (jj : Int) := by omega
        have hrr := hr.out
        rw [scanDown_stop (.inl hij)] at hrr
        clear hr
        subst hrr
        refine zW tyS ?_
        refine u2.out _ _ (m1.out _ _ ?_)
        exact ⟨f4, hs, zL⟩
    clear t0 t1 t4 t11 t12 hnt hdf hs f1 A H1 hJ
    rintro A H1 ⟨f1, hs, t0, t1, t4, t11, t12, hnt, hdf⟩
    have hid := hs.lt
    have hdz := hs.sz
    obtain ⟨lo, hlo, hg⟩ := hs.row
    have lv := hm.ltH (Nat.le_trans hN f1.nx)
    have hr2 := hr1.out
    clear hr1
    by_cases hIJ : J < I
    · rw [if_pos hIJ] at hr2
      have hIJi : (J : Int) < (I : Int) := by omega
      replace hr2 : Hd _ := hr2
      replace hs : Hd _ := hs
      refine zW tyS ?_
      refine q3.out _ _ _ (by decide) (k2.out _ _ (m1.out _ _ ?_))
      rw [← hr2.out]
      exact ⟨f1, hs.out, zL⟩
    · rw [if_neg hIJ] at hr2
      have hIJi : ¬ (J : Int) < (I : Int) := by omega
      have hgd2 := hgd.out hIJ
      have b1 : I < n := by omega
      have b3 : J < n := by omega
      have d1 : I < dd.size := by omega
      have d2 : J < dd.size := by omega
      have hwI : IntKind.i64.wrap ((I : Int) + 1) = ((I + 1 : Nat) : Int) := by rw [wrapI (by omega) (by omega)]; omega
      have hwJ : IntKind.i64.wrap ((J : Int) - 1) = ((J - 1 : Nat) : Int) := by rw [wrapI (by omega) (by omega)]; omega
      replace hr2 : Hd _ := hr2
      replace hdz : Hd _ := hdz
      replace d1 : Hd _ := d1
      replace d2 : Hd _ := d2
      replace hgd2 : Hd _ := hgd2
      refine zW (qA tyS (qA (ixC b1) (qA (ixC b3) (swQ hm.len d1.out d2.out)))) ?_
      refine q1.out _ _ ?_
      exact ⟨J - 1 + 1 - (I + 1), hgd2.out, I + 1, J - 1, Go.Sort.swp dd I J, rfl, by omega, by omega, by omega, (f1.mod _ (.inr rfl)).mod _ (.inr rfl), ⟨by rw [swp_size]; exact hdz.out, ⟨gen, Nat.le_refl _, get_modE rfl⟩, hid⟩, hr2, zL⟩
  clear h0 h1 h2 h3 h4 tm hs hid hw1 hw2 hg hlo lo lv hdz d1 d2 hr0
  rintro A H1 ⟨f1, hs, t11, hnt, hdf⟩
  replace hs : Hd _ := hs
  refine zW tyS ?_
  exact fin _ _ qp qe f1 hs.out
end
end Go.Proofs.YtekoajibckipkaaGreat
namespace Go.Proofs.YtekoajibckipkaaGreat
open Go Go.Eng
theorem bd_pins : hasBody Tryz.prog 154 = true := by kernel_rfl
section
variable {α : Type} [Inhabited α]
theorem srt_go {lt : α → α → Bool} {d : Array α} {b i : Nat} (h : i < b) (hp : lt d[i]! d[i - 1]! = false) : Go.Sort.scanSorted lt d b i = Go.Sort.scanSorted lt d b (i + 1) := by
  rw [Go.Sort.scanSorted, if_pos (by rw [decide_eq_true h, hp]; rfl)]
theorem srt_stop {lt : α → α → Bool} {d : Array α} {b i : Nat} (h : ¬ i < b ∨ lt d[i]! d[i - 1]! = true) : Go.Sort.scanSorted lt d b i = i := by
  rw [Go.Sort.scanSorted, if_neg]
  rcases h with h | h
  · rw [decide_eq_false h, Bool.false_and]; exact Bool.false_ne_true
  · rw [h, Bool.not_true, Bool.and_false]; exact Bool.false_ne_true
theorem srt_b {lt : α → α → Bool} {d : Array α} {b : Nat} : ∀ (m i : Nat), b - i ≤ m → i ≤ b → i ≤ Go.Sort.scanSorted lt d b i ∧ Go.Sort.scanSorted lt d b i ≤ b
  | 0, i, h, hi => by rw [srt_stop (.inl (by omega))]; exact ⟨Nat.le_refl _, hi⟩
  | m + 1, i, h, hi => by
    by_cases hp : i < b ∧ lt d[i]! d[i - 1]! = false
    · rw [srt_go hp.1 hp.2]
      have hp1 := hp.1
      have := srt_b (lt := lt) (d := d) (b := b) m (i + 1) (by omega) (by omega)
      exact ⟨by omega, this.2⟩
    · rw [srt_stop (by
        by_cases hq : i < b
        · exact .inr (by have := fun h => hp ⟨hq, h⟩; simpa using this)
        · exact .inl hq)]
      exact ⟨Nat.le_refl _, hi⟩
variable {c : α → List AC} {cf : α → α → Int} {cl N : Nat}
set_option maxRecDepth 10000 in
set_option maxHeartbeats 64000000 in
theorem pins_con (hm : Cmp c cf cl N) (H : Hp) (id gen n : Nat) (d : Array α) (a b : Nat) (hs : Srt c H id gen n d) (hN : N ≤ H.nx) (hab : a < b) (hb : b ≤ n) (hn : n ≤ 4096) :
    Con E2 154 [.one (.o (.sl id gen 0 n 3)), .one (.i .i64 a), .one (.i .i64 b), .one (.o (.clo cl []))] H (fun k => k = id) fun r H' => r = .one (.b (Go.Sort.partialInsertionSort (ltF cf) d a b).2) ∧ Srt c H' id gen n (Go.Sort.partialInsertionSort (ltF cf) d a b).1 := by
  have hbd := hm.bd
  refine Con.of rfl fun lg => ?_
  have hs : Srt c ⟨H.t, H.nx, lg⟩ id gen n d := hs
  have hN : N ≤ (⟨H.t, H.nx, lg⟩ : Hp).nx := hN
  generalize (⟨H.t, H.nx, lg⟩ : Hp) = H at hs hN ⊢
  refine C1.body (E := E2) (nt := 141) (res := [.tmp 8]) Tryz.func154 rfl rfl rfl rfl rfl fun tm hargs => ?_
  have h0 := hargs 0 _ rfl
  have h1 := hargs 1 _ rfl
  have h2 := hargs 2 _ rfl
  have h3 := hargs 3 _ rfl
  clear hargs
  generalize hr0 : Go.Sort.partialInsertionSort (ltF cf) d a b = R
  unfold Go.Sort.partialInsertionSort at hr0
  have fin : ∀ (A : AAct) (H3 : Hp) (x : Bool) (dc : Array α), slot A.tm 8 = .one (.b x) → A.dfr = [] → Fr (fun k => k = id) H H3 → Srt c H3 id gen n dc → (dc, x) = R → ∃ w H4, callEnd E2 [.tmp 8] (.ret, A, H3) = .ok [(w, H4)] ∧ Fr (fun k => k = id) H H4 ∧ ∀ lg' : List Nat, w = .one (.b R.2) ∧ Srt c ⟨H4.t, H4.nx, lg'⟩ id gen n R.1 := fun A H3 x dc h1 hd h3 h4 h5 => ⟨_, H3, callEnd_one (.b x) (.inr rfl) hd h1, h3, fun _ => by rw [← h5]; exact ⟨rfl, h4⟩⟩
  have hid := hs.lt
  have hw1 : IntKind.i64.wrap ((a : Int) + 1) = ((a + 1 : Nat) : Int) := by rw [wrapI (by omega) (by omega)]; omega
  replace hr0 : Hd _ := hr0
  refine zW tyS ?_
  refine R1.s_bl fun K k1 k2 k3 k4 => ?_
  refine R1.loop (fun z A H3 => ∃ (i : Nat) (dc : Array α), z ≤ 5 ∧ a + 1 ≤ i ∧ i ≤ b ∧ Fr (fun k => k = id) H H3 ∧ Srt c H3 id gen n dc ∧ Hd (Go.Sort.partialIns (ltF cf) a b z i dc = R) ∧ slot A.tm 0 = .one ((.o (.sl id gen 0 n 3))) ∧ slot A.tm 1 = .one (.i .i64 (a : Int)) ∧ slot A.tm 2 = .one (.i .i64 (b : Int)) ∧ slot A.tm 3 = .one ((.o (.clo cl []))) ∧ slot A.tm 9 = .one (.i .i64 (i : Int)) ∧ slot A.tm 10 = .one (.i .i64 ((5 - z : Nat) : Int)) ∧ A.nt = 141 ∧ A.dfr = []) ?_ 5
    ⟨a + 1, d, Nat.le_refl _, Nat.le_refl _, hab, Fr.refl _, hs, hr0, zL⟩
  clear h0 h1 h2 h3 tm hs hid hw1 hr0 k3
  rintro z A H3 ⟨i0, dc, hz5, hi1, hi2, f3, hs, hr, t0, t1, t2, t3, t9, t10, hnt, hdf⟩
  have hid := hs.lt
  cases z with
  | zero =>
    have hci : ¬ (((5 - 0 : Nat) : Int)) < 5 := by decide
    have hr1 : (dc, false) = R := hr
    replace hr1 : Hd _ := hr1
    clear hr
    refine zW tyS ?_
    refine k2.out _ _ ?_
    refine zW tyS ?_
    exact fin _ _ false _ qp qe f3 hs hr1.out
  | succ z =>
  have hci : (((5 - (z + 1) : Nat) : Int)) < 5 := by omega
  have hwz : IntKind.i64.wrap (((5 - (z + 1) : Nat) : Int) + 1) = ((5 - z : Nat) : Int) := by rw [wrapI (by omega) (by omega)]; omega
  have hr1 := hr.out
  rw [Go.Sort.partialIns] at hr1
  clear hr
  obtain ⟨I, hI⟩ : ∃ I, Hd (Go.Sort.scanSorted (ltF cf) dc b i0 = I) := ⟨_, rfl⟩
  obtain ⟨hI1, hI2⟩ := srt_b (lt := ltF cf) (d := dc) (b - i0) i0 (Nat.le_refl _) hi2
  rw [hI.out] at hr1 hI1 hI2
  dsimp only at hr1
  replace hr1 : Hd _ := hr1
  generalize hcz : ((5 - (z + 1) : Nat) : Int) = cz at hci hwz t10
  replace hcz : Hd _ := hcz
  refine zW tyS ?_
  refine R1.s_bl fun K2 q1 q2 q3 q4 => ?_
  refine R1.s_mid (fun B H4 => Fr (fun k => k = id) H H4 ∧ Srt c H4 id gen n dc ∧ slot B.tm 0 = .one ((.o (.sl id gen 0 n 3))) ∧ slot B.tm 1 = .one (.i .i64 (a : Int)) ∧ slot B.tm 2 = .one (.i .i64 (b : Int)) ∧ slot B.tm 3 = .one ((.o (.clo cl []))) ∧ slot B.tm 9 = .one (.i .i64 (I : Int)) ∧ slot B.tm 10 = .one (.i .i64 (cz : Int)) ∧ B.nt = 141 ∧ B.dfr = []) (fun K3 m1 m2 m3 => ?_) ?_
  · refine R1.e_bl fun K4 u1 u2 u3 u4 => ?_
    refine R1.loop (fun z A H4 => ∃ ii : Nat, z = b - ii ∧ a + 1 ≤ ii ∧ ii ≤ b ∧ Fr (fun k => k = id) H H4 ∧ Srt c H4 id gen n dc ∧ Hd (Go.Sort.scanSorted (ltF cf) dc b ii = I) ∧ slot A.tm 0 = .one ((.o (.sl id gen 0 n 3))) ∧ slot A.tm 1 = .one (.i .i64 (a : Int)) ∧ slot A.tm 2 = .one (.i .i64 (b : Int)) ∧ slot A.tm 3 = .one ((.o (.clo cl []))) ∧ slot A.tm 9 = .one (.i .i64 (ii : Int)) ∧ slot A.tm 10 = .one (.i .i64 (cz : Int)) ∧ A.nt = 141 ∧ A.dfr = []) ?_ (b - i0)
      ⟨i0, rfl, hi1, hi2, f3, hs, hI, zL⟩
    clear t0 t1 t2 t3 t9 t10 hnt hdf A hs f3 H3 hid hI u3 hci hwz
    rintro z A H4 ⟨ii, rfl, hi1, hi2, f4, hs, hr, t0, t1, t2, t3, t9, t10, hnt, hdf⟩
    have hid := hs.lt
    by_cases hib : ii < b
    · have hibi : (ii : Int) < (b : Int) := by omega
      obtain ⟨k, rfl⟩ : ∃ k, ii = k + 1 := ⟨ii - 1, by omega⟩
      have hwk : IntKind.i64.wrap (((k + 1 : Nat) : Int) - 1) = (k : Int) := by rw [wrapI (by omega) (by omega)]; omega
      have hdz := hs.sz
      obtain ⟨lo, hlo, hg⟩ := hs.row
      have lv := hm.ltH (Nat.le_trans hN f4.nx)
      have hcl := hm.len
      have b1 : k + 1 < n := by omega
      have b2 : k < n := by omega
      have d1 : k + 1 < Array.size dc := by omega
      have d2 : k < Array.size dc := by omega
      replace hdz : Hd _ := hdz
      replace d1 : Hd _ := d1
      replace d2 : Hd _ := d2
      refine zG (qA tyS (qA (ixC b1) (qA (ixC b2) (rdQ hm.len d1.out d2.out)))) fun K hK => ?_
      refine WE.con (hm.con H4 dc[k + 1]! dc[k]! (Nat.le_trans hN f4.nx)) fun w' H5 g5 hq => ?_
      subst hq
      have hs5 := hs.fr g5 not_false
      have hg := (g5.get _ hid not_false).trans hg
      have hid := Nat.lt_of_lt_of_le hid g5.nx
      have f5 := f4.then g5 fun _ h => h.elim
      by_cases hcf : cf dc[k + 1]! dc[k]! < 0
      · have hrr := hr.out
        rw [srt_stop (.inr (by show ltF cf dc[k + 1]! dc[k]! = true; exact decide_eq_true hcf))] at hrr
        clear hr
        subst hrr
        refine zK tyS ?_
        refine u2.out _ _ (m1.out _ _ ?_)
        exact ⟨f5, hs5, zL⟩
      · have hrr := hr.out
        rw [srt_go hib (by show ltF cf dc[k + 1]! dc[k]! = false; exact decide_eq_false hcf)] at hrr
        clear hr
        replace hrr : Hd _ := hrr
        have hwi : IntKind.i64.wrap (((k + 1 : Nat) : Int) + 1) = ((k + 1 + 1 : Nat) : Int) := by rw [wrapI (by omega) (by omega)]; omega
        refine zK tyS ?_
        refine R1.e_bl fun K4 v1 v2 v3 v4 => ?_
        refine zW tyS ?_
        refine v1.out _ _ ?_
        exact ⟨b - (k + 1 + 1), by omega, k + 1 + 1, rfl, by omega, by omega, f5, hs5, hrr, zL⟩
    · have hibi : ¬ (ii : Int) < (b : Int) := by omega
      have hrr := hr.out
      rw [srt_stop (.inl hib)] at hrr
      clear hr
      subst hrr
      refine zW tyS ?_
      refine u2.out _ _ (m1.out _ _ ?_)
      exact ⟨f4, hs, zL⟩
  clear t0 t1 t2 t3 t9 t10 hnt hdf A hs f3 hid hI H3 hci
  rintro A H3 ⟨f3, hs, t0, t1, t2, t3, t9, t10, hnt, hdf⟩
  have hid := hs.lt
  have hr2 := hr1.out
  clear hr1
  by_cases hIb : I = b
  · rw [if_pos hIb] at hr2
    have hIbi : ((I : Int) == (b : Int)) = true := by rw [hIb]; exact beq_self_eq_true _
    replace hr2 : Hd _ := hr2
    replace hIb : Hd _ := hIb
    refine zW tyS ?_
    exact q4.out _ _ (k4.out _ _ (fin _ _ true _ qp qe f3 hs hr2.out))
  rw [if_neg hIb] at hr2
  have hIbi : ((I : Int) == (b : Int)) = false := beq_false_of_ne (by omega)
  have hwba : IntKind.i64.wrap ((b : Int) - (a : Int)) = ((b - a : Nat) : Int) := by rw [wrapI (by omega) (by omega)]; omega
  by_cases h50 : b - a < 50
  · rw [if_pos h50] at hr2
    have h50i : ((b - a : Nat) : Int) < 50 := by omega
    replace hr2 : Hd _ := hr2
    replace hIb : Hd _ := hIb
    refine zW tyS ?_
    exact q4.out _ _ (k4.out _ _ (fin _ _ false _ qp qe f3 hs hr2.out))
  rw [if_neg h50] at hr2
  have h50i : ¬ ((b - a : Nat) : Int) < 50 := by omega
  have hwI : IntKind.i64.wrap ((I : Int) - 1) = ((I - 1 : Nat) : Int) := by rw [wrapI (by omega) (by omega)]; omega
  have hwIa : IntKind.i64.wrap ((I : Int) - (a : Int)) = ((I - a : Nat) : Int) := by rw [wrapI (by omega) (by omega)]; omega
  have hwbI : IntKind.i64.wrap ((b : Int) - (I : Int)) = ((b - I : Nat) : Int) := by rw [wrapI (by omega) (by omega)]; omega
  have hdz := hs.sz
  obtain ⟨lo, hlo, hg⟩ := hs.row
  have lv := hm.ltH (Nat.le_trans hN f3.nx)
  have hcl := hm.len
  have hIn : I < n := by omega
  have hIn1 : I - 1 < n := by omega
  have d1 : I < dc.size := by omega
  have d2 : I - 1 < dc.size := by omega
  replace hr2 : Hd _ := hr2
  replace hdz : Hd _ := hdz
  replace d1 : Hd _ := d1
  replace d2 : Hd _ := d2
  refine zW (qA tyS (qA (ixC hIn) (qA (ixC hIn1) (swQ hm.len d1.out d2.out)))) ?_
  obtain ⟨e1, he1⟩ : ∃ e1, Hd (Go.Sort.swp dc I (I - 1) = e1) := ⟨_, rfl⟩
  have hr3 := hr2.out
  rw [he1.out] at hr3
  obtain ⟨e2, he2⟩ : ∃ e2, Hd ((if I - a ≥ 2 then Go.Sort.shiftDown (ltF cf) (I - 1) e1 else e1) = e2) := ⟨_, rfl⟩
  rw [he2.out] at hr3
  obtain ⟨e3, he3⟩ : ∃ e3, Hd ((if b - I ≥ 2 then Go.Sort.shiftUp (ltF cf) b (I + 1) e2 else e2) = e3) := ⟨_, rfl⟩
  rw [he3.out] at hr3
  clear hr2
  replace hr3 : Hd _ := hr3
  have hs1 : Srt c ((H3.mod id (.arr (rowS c (dc.setIfInBounds I dc[I - 1]!)) 75 gen gen)).mod id (.arr (rowS c (Go.Sort.swp dc I (I - 1))) 75 gen gen)) id gen n e1 := by
    rw [← he1.out]; exact ⟨by rw [swp_size]; exact hdz.out, ⟨gen, Nat.le_refl _, get_modE rfl⟩, hid⟩
  have f4 : Fr (fun k => k = id) H ((H3.mod id (.arr (rowS c (dc.setIfInBounds I dc[I - 1]!)) 75 gen gen)).mod id (.arr (rowS c (Go.Sort.swp dc I (I - 1))) 75 gen gen)) := (f3.mod _ (.inr rfl)).mod _ (.inr rfl)
  refine R1.gen (fun A4 H4 => Fr (fun k => k = id) H H4 ∧ Srt c H4 id gen n e1 ∧ slot A4.tm 0 = .one ((.o (.sl id gen 0 n 3))) ∧ slot A4.tm 1 = .one (.i .i64 (a : Int)) ∧ slot A4.tm 2 = .one (.i .i64 (b : Int)) ∧ slot A4.tm 3 = .one ((.o (.clo cl []))) ∧ slot A4.tm 9 = .one (.i .i64 (I : Int)) ∧ slot A4.tm 10 = .one (.i .i64 (cz : Int)) ∧ slot A4.tm 65 = .one (.b (decide ((2 : Int) ≤ ((I - a : Nat) : Int)))) ∧ A4.nt = 141 ∧ A4.dfr = []) ⟨f4, hs1, zL⟩ ?_
  clear t0 t1 t2 t3 t9 t10 hnt hdf A hs f3 hid hg hlo lo lv hs1 f4 he1 hdz d1 d2 H3
  rintro A H3 ⟨f3, hs, t0, t1, t2, t3, t9, t10, t65, hnt, hdf⟩
  have hid := hs.lt
  refine R1.s_mid (fun B H4 => Fr (fun k => k = id) H H4 ∧ Srt c H4 id gen n e2 ∧ slot B.tm 0 = .one ((.o (.sl id gen 0 n 3))) ∧ slot B.tm 1 = .one (.i .i64 (a : Int)) ∧ slot B.tm 2 = .one (.i .i64 (b : Int)) ∧ slot B.tm 3 = .one ((.o (.clo cl []))) ∧ slot B.tm 9 = .one (.i .i64 (I : Int)) ∧ slot B.tm 10 = .one (.i .i64 (cz : Int)) ∧ B.nt = 141 ∧ B.dfr = []) (fun K3 m1 m2 m3 => ?_) ?_
  · by_cases hIa : 2 ≤ I - a
    case neg =>
      have hIai : ¬ (2 : Int) ≤ ((I - a : Nat) : Int) := by omega
      have he := he2.out
      rw [if_neg hIa] at he
      subst he
      clear he2
      refine zW tyS ?_
      refine m1.out _ _ ?_
      exact ⟨f3, hs, zL⟩
    have hIai : (2 : Int) ≤ ((I - a : Nat) : Int) := by omega
    have he := he2.out
    rw [if_pos hIa] at he
    clear he2
    replace he : Hd _ := he
    refine zW tyS ?_
    refine R1.e_bl fun K4 u1 u2 u3 u4 => ?_
    refine R1.loop (fun z A H4 => ∃ (j : Nat) (dj : Array α), z = j ∧ j ≤ I - 1 ∧ Fr (fun k => k = id) H H4 ∧ Srt c H4 id gen n dj ∧ Hd (Go.Sort.shiftDown (ltF cf) j dj = e2) ∧ slot A.tm 0 = .one ((.o (.sl id gen 0 n 3))) ∧ slot A.tm 1 = .one (.i .i64 (a : Int)) ∧ slot A.tm 2 = .one (.i .i64 (b : Int)) ∧ slot A.tm 3 = .one ((.o (.clo cl []))) ∧ slot A.tm 9 = .one (.i .i64 (I : Int)) ∧ slot A.tm 10 = .one (.i .i64 (cz : Int)) ∧ slot A.tm 11 = .one (.i .i64 (j : Int)) ∧ A.nt = 141 ∧ A.dfr = []) ?_ (I - 1)
      ⟨I - 1, e1, rfl, Nat.le_refl _, f3, hs, he, zL⟩
    clear t0 t1 t2 t3 t9 t10 t65 hnt hdf A hs f3 hid he u3 H3
    rintro j A H4 ⟨_, dj, rfl, hj, f4, hs, hr, t0, t1, t2, t3, t9, t10, t11, hnt, hdf⟩
    have hid := hs.lt
    cases j with
    | zero =>
      have hci : ¬ (1 : Int) ≤ ((0 : Nat) : Int) := by decide
      have hrr : dj = e2 := hr
      subst hrr
      clear hr
      refine zW tyS ?_
      refine u2.out _ _ (m1.out _ _ ?_)
      exact ⟨f4, hs, zL⟩
    | succ k =>
      have hci : (1 : Int) ≤ ((k + 1 : Nat) : Int) := by omega
      have hwk : IntKind.i64.wrap (((k + 1 : Nat) : Int) - 1) = (k : Int) := by rw [wrapI (by omega) (by omega)]; omega
      have hdz := hs.sz
      obtain ⟨lo, hlo, hg⟩ := hs.row
      have lv := hm.ltH (Nat.le_trans hN f4.nx)
      have b1 : k + 1 < n := by omega
      have b2 : k < n := by omega
      have d1 : k + 1 < Array.size dj := by omega
      have d2 : k < Array.size dj := by omega
      replace hdz : Hd _ := hdz
      replace d1 : Hd _ := d1
      replace d2 : Hd _ := d2
      refine zW tyS ?_
      refine R1.s_bl fun K5 v1 v2 v3 v4 => ?_
      refine zG (qA tyS (qA (ixC b1) (qA (ixC b2) (rdQ hm.len d1.out d2.out)))) fun K hK => ?_
      refine WE.con (hm.con H4 dj[k + 1]! dj[k]! (Nat.le_trans hN f4.nx)) fun w' H5 g5 hq => ?_
      subst hq
      have hs5 := hs.fr g5 not_false
      have hg := (g5.get _ hid not_false).trans hg
      have hid := Nat.lt_of_lt_of_le hid g5.nx
      have lv := hm.ltH (Nat.le_trans hN (Nat.le_trans f4.nx g5.nx))
      have f5 := f4.then g5 fun _ h => h.elim
      have hrr := hr.out
      rw [Go.Sort.shiftDown] at hrr
      by_cases hcf : cf dj[k + 1]! dj[k]! < 0
      · rw [if_neg (by unfold ltF; rw [decide_eq_true hcf]; decide)] at hrr
        clear hr hs hs5
        replace hrr : Hd _ := hrr
        refine zK (qA tyS (qA (ixC b1) (qA (ixC b2) (swQ hm.len d1.out d2.out)))) ?_
        refine v1.out _ _ ?_
        refine zW tyS ?_
        exact ⟨k, Nat.lt_succ_self _, k, Go.Sort.swp dj (k + 1) k, rfl, by omega, (f5.mod _ (.inr rfl)).mod _ (.inr rfl), ⟨by rw [swp_size]; exact hdz.out, ⟨gen, Nat.le_refl _, get_modE rfl⟩, hid⟩, hrr, zL⟩
      · rw [if_pos (by unfold ltF; rw [decide_eq_false hcf]; rfl)] at hrr
        subst hrr
        clear hr
        refine zK tyS ?_
        refine v3.out _ _ _ (by decide) (u2.out _ _ (m1.out _ _ ?_))
        exact ⟨f5, hs5, zL⟩
  clear t0 t1 t2 t3 t9 t10 t65 hnt hdf A hs f3 hid he2 H3
  rintro A H3 ⟨f3, hs, t0, t1, t2, t3, t9, t10, hnt, hdf⟩
  have hid := hs.lt
  refine zW tyS ?_
  refine R1.e_mid (fun B H4 => Fr (fun k => k = id) H H4 ∧ Srt c H4 id gen n e3 ∧ slot B.tm 0 = .one ((.o (.sl id gen 0 n 3))) ∧ slot B.tm 1 = .one (.i .i64 (a : Int)) ∧ slot B.tm 2 = .one (.i .i64 (b : Int)) ∧ slot B.tm 3 = .one ((.o (.clo cl []))) ∧ slot B.tm 9 = .one (.i .i64 (I : Int)) ∧ slot B.tm 10 = .one (.i .i64 (cz : Int)) ∧ B.nt = 141 ∧ B.dfr = []) (fun K3 m1 m2 m3 => ?_) ?_
  · by_cases hIa : 2 ≤ b - I
    case neg =>
      have hIai : ¬ (2 : Int) ≤ ((b - I : Nat) : Int) := by omega
      have he := he3.out
      rw [if_neg hIa] at he
      subst he
      clear he3
      refine zW tyS ?_
      refine m1.out _ _ ?_
      exact ⟨f3, hs, zL⟩
    have hIai : (2 : Int) ≤ ((b - I : Nat) : Int) := by omega
    have hwI1 : IntKind.i64.wrap ((I : Int) + 1) = ((I + 1 : Nat) : Int) := by rw [wrapI (by omega) (by omega)]; omega
    have he := he3.out
    rw [if_pos hIa] at he
    clear he3
    replace he : Hd _ := he
    refine zW tyS ?_
    refine R1.e_bl fun K4 u1 u2 u3 u4 => ?_
    refine R1.loop (fun z A H4 => ∃ (j : Nat) (dj : Array α), z = b - j ∧ 1 ≤ j ∧ j ≤ b ∧ Fr (fun k => k = id) H H4 ∧ Srt c H4 id gen n dj ∧ Hd (Go.Sort.shiftUp (ltF cf) b j dj = e3) ∧ slot A.tm 0 = .one ((.o (.sl id gen 0 n 3))) ∧ slot A.tm 1 = .one (.i .i64 (a : Int)) ∧ slot A.tm 2 = .one (.i .i64 (b : Int)) ∧ slot A.tm 3 = .one ((.o (.clo cl []))) ∧ slot A.tm 9 = .one (.i .i64 (I : Int)) ∧ slot A.tm 10 = .one (.i .i64 (cz : Int)) ∧ slot A.tm 12 = .one (.i .i64 (j : Int)) ∧ A.nt = 141 ∧ A.dfr = []) ?_ (b - (I + 1))
      ⟨I + 1, e2, rfl, by omega, by omega, f3, hs, he, zL⟩
    clear t0 t1 t2 t3 t9 t10 hnt hdf A hs f3 hid he u3 H3 hwI1
    rintro z A H4 ⟨j, dj, rfl, hj1, hj, f4, hs, hr, t0, t1, t2, t3, t9, t10, t12, hnt, hdf⟩
    have hid := hs.lt
    have hrr := hr.out
    rw [Go.Sort.shiftUp] at hrr
    by_cases hjb : j < b
    case neg =>
      have hci : ¬ (j : Int) < (b : Int) := by omega
      rw [if_neg hjb] at hrr
      subst hrr
      clear hr
      refine zW tyS ?_
      refine u2.out _ _ (m1.out _ _ ?_)
      exact ⟨f4, hs, zL⟩
    have hci : (j : Int) < (b : Int) := by omega
    rw [if_pos hjb] at hrr
    obtain ⟨k, rfl⟩ : ∃ k, j = k + 1 := ⟨j - 1, by omega⟩
    have hwk : IntKind.i64.wrap (((k + 1 : Nat) : Int) - 1) = (k : Int) := by rw [wrapI (by omega) (by omega)]; omega
    have hwk1 : IntKind.i64.wrap (((k + 1 : Nat) : Int) + 1) = ((k + 1 + 1 : Nat) : Int) := by rw [wrapI (by omega) (by omega)]; omega
    have hdz := hs.sz
    obtain ⟨lo, hlo, hg⟩ := hs.row
    have lv := hm.ltH (Nat.le_trans hN f4.nx)
    have b1 : k + 1 < n := by omega
    have b2 : k < n := by omega
    have d1 : k + 1 < Array.size dj := by omega
    have d2 : k < Array.size dj := by omega
    replace hdz : Hd _ := hdz
    replace d1 : Hd _ := d1
    replace d2 : Hd _ := d2
    replace hrr : Hd ((if (!ltF cf dj[k + 1]! dj[k]!) = true then dj else Go.Sort.shiftUp (ltF cf) b (k + 1 + 1) (Go.Sort.swp dj (k + 1) k)) = e3) := hrr
    clear hr
    refine zW tyS ?_
    refine R1.s_bl fun K5 v1 v2 v3 v4 => ?_
    refine zG (qA tyS (qA (ixC b1) (qA (ixC b2) (rdQ hm.len d1.out d2.out)))) fun K hK => ?_
    refine WE.con (hm.con H4 dj[k + 1]! dj[k]! (Nat.le_trans hN f4.nx)) fun w' H5 g5 hq => ?_
    subst hq
    have hs5 := hs.fr g5 not_false
    have hg := (g5.get _ hid not_false).trans hg
    have hid := Nat.lt_of_lt_of_le hid g5.nx
    have lv := hm.ltH (Nat.le_trans hN (Nat.le_trans f4.nx g5.nx))
    have f5 := f4.then g5 fun _ h => h.elim
    have hr4 := hrr.out
    clear hrr
    by_cases hcf : cf dj[k + 1]! dj[k]! < 0
    · rw [if_neg (by unfold ltF; rw [decide_eq_true hcf]; decide)] at hr4
      clear hs hs5
      replace hr4 : Hd _ := hr4
      refine zK (qA tyS (qA (ixC b1) (qA (ixC b2) (swQ hm.len d1.out d2.out)))) ?_
      refine v1.out _ _ ?_
      refine zW tyS ?_
      exact ⟨b - (k + 1 + 1), by omega, k + 1 + 1, Go.Sort.swp dj (k + 1) k, rfl, by omega, by omega, (f5.mod _ (.inr rfl)).mod _ (.inr rfl), ⟨by rw [swp_size]; exact hdz.out, ⟨gen, Nat.le_refl _, get_modE rfl⟩, hid⟩, hr4, zL⟩
    · rw [if_pos (by unfold ltF; rw [decide_eq_false hcf]; rfl)] at hr4
      subst hr4
      refine zK tyS ?_
      refine v3.out _ _ _ (by decide) (u2.out _ _ (m1.out _ _ ?_))
      exact ⟨f5, hs5, zL⟩
  clear t0 t1 t2 t3 t9 t10 hnt hdf A hs f3 hid he3 H3
  rintro A H3 ⟨f3, hs, t0, t1, t2, t3, t9, t10, hnt, hdf⟩
  replace hs : Hd _ := hs
  refine q1.out _ _ ?_
  refine zW tyS ?_
  exact ⟨z, Nat.lt_succ_self _, I, e3, by omega, by omega, hI2, f3, hs.out, hr3, zL⟩
end
end Go.Proofs.YtekoajibckipkaaGreat
namespace Go.Proofs.YtekoajibckipkaaGreat
open Go Go.Eng
theorem bd_pdq : hasBody Tryz.prog 112 = true := by kernel_rfl
theorem tyH : type_of% (qA tyS (qA arQ (quoI (show (8 : Int) ≠ 0 by decide)))) := qA tyS (qA arQ (quoI (show (8 : Int) ≠ 0 by decide)))
section
variable {α : Type} [Inhabited α] {c : α → List AC} {cf : α → α → Int} {cl N : Nat}
set_option maxRecDepth 10000 in
set_option maxHeartbeats 64000000 in
theorem pdq_con (hm : Cmp c cf cl N) (hsw : Go.Sort.SWO (ltF cf)) (id gen n : Nat) (hn : n ≤ 4096) : ∀ (m : Nat) (H : Hp) (d : Array α) (a b lim : Nat), b - a ≤ m → Srt c H id gen n d → N ≤ H.nx → a ≤ b → b ≤ n → lim ≤ 64 → Go.Sort.Below (ltF cf) a b d →
    Con E2 112 [.one (.o (.sl id gen 0 n 3)), .one (.i .i64 a), .one (.i .i64 b), .one (.i .i64 lim), .one (.o (.clo cl []))] H (fun k => k = id) fun r H' => r = .tup [] ∧ ∃ d', Srt c H' id gen n d' ∧ Go.Sort.PermIn a b d d' ∧ Go.Sort.SortedIn (ltF cf) a b d' := by
  have hbd := hm.bd
  intro m
  induction m using Nat.strongRecOn with
  | ind m ih =>
  intro H d a0 b0 lim hm0 hs hN hab0 hb0 hlim hBl0
  refine Con.of rfl fun lg => ?_
  have hs : Srt c ⟨H.t, H.nx, lg⟩ id gen n d := hs
  have hN : N ≤ (⟨H.t, H.nx, lg⟩ : Hp).nx := hN
  generalize (⟨H.t, H.nx, lg⟩ : Hp) = H at hs hN ⊢
  refine C1.body (E := E2) (nt := 148) (res := []) Tryz.func112 rfl rfl rfl rfl rfl fun tm hargs => ?_
  have h0 := hargs 0 _ rfl
  have h1 := hargs 1 _ rfl
  have h2 := hargs 2 _ rfl
  have h3 := hargs 3 _ rfl
  have h4 := hargs 4 _ rfl
  clear hargs
  have fin : ∀ (e : AExit) (A : AAct) (H3 : Hp) (dc : Array α), (e = .normal ∨ e = .ret) → A.dfr = [] → Fr (fun k => k = id) H H3 → Srt c H3 id gen n dc → Go.Sort.PermIn a0 b0 d dc ∧ Go.Sort.SortedIn (ltF cf) a0 b0 dc → ∃ w H4, callEnd E2 [] (e, A, H3) = .ok [(w, H4)] ∧ Fr (fun k => k = id) H H4 ∧ ∀ lg' : List Nat, w = .tup [] ∧ ∃ d', Srt c ⟨H4.t, H4.nx, lg'⟩ id gen n d' ∧ Go.Sort.PermIn a0 b0 d d' ∧ Go.Sort.SortedIn (ltF cf) a0 b0 d' := fun e A H3 dc he h1 h2 h3 h4 => ⟨_, H3, callEnd_nil he h1, h2, fun _ => ⟨rfl, dc, h3, h4⟩⟩
  replace hBl0 : Hd _ := hBl0
  replace ih : Hd _ := ih
  refine zW tyS ?_
  refine R1.e_bl fun K k1 k2 k3 k4 => ?_
  refine R1.loop (fun z A H3 => ∃ (a b lim : Nat) (wb wp : Bool) (dc : Array α), z = b - a ∧ a0 ≤ a ∧ a ≤ b ∧ b ≤ b0 ∧ lim ≤ 64 ∧ Fr (fun k => k = id) H H3 ∧ Srt c H3 id gen n dc ∧ Hd (Go.Sort.Below (ltF cf) a b dc) ∧ Hd (∀ R, Go.Sort.PermIn a b dc R → Go.Sort.SortedIn (ltF cf) a b R → Go.Sort.PermIn a0 b0 d R ∧ Go.Sort.SortedIn (ltF cf) a0 b0 R) ∧
      slot A.tm 0 = .one ((.o (.sl id gen 0 n 3))) ∧ slot A.tm 1 = .one (.i .i64 (a : Int)) ∧ slot A.tm 2 = .one (.i .i64 (b : Int)) ∧ slot A.tm 3 = .one (.i .i64 (lim : Int)) ∧ slot A.tm 4 = .one ((.o (.clo cl []))) ∧ slot A.tm 10 = .one (.b wb) ∧ slot A.tm 11 = .one (.b wp) ∧ A.nt = 148 ∧ A.dfr = []) ?_ (b0 - a0)
    ⟨a0, b0, lim, true, true, d, rfl, Nat.le_refl _, hab0, Nat.le_refl _, hlim, Fr.refl _, hs, hBl0, fun R h1 h2 => ⟨h1, h2⟩, zL⟩
  clear h0 h1 h2 h3 h4 tm hs hBl0 k3
  rintro z A H3 ⟨a, b, lim, wb, wp, dc, rfl, haa, hab, hbb0, hlim, f3, hs, hBl, hct, t0, t1, t2, t3, t4, t10, t11, hnt, hdf⟩
  have hid := hs.lt
  have hN3 := Nat.le_trans hN f3.nx
  obtain ⟨L, hL⟩ : ∃ L, L = b - a := ⟨_, rfl⟩
  have hwL : IntKind.i64.wrap ((b : Int) - (a : Int)) = (L : Int) := by rw [wrapI (by omega) (by omega)]; omega
  refine R1.e_bl fun K2 q1 q2 q3 q4 => ?_
  by_cases h12 : L ≤ 12
  · have h12i : (L : Int) ≤ 12 := by omega
    replace hL : Hd _ := hL
    refine zW tyS ?_
    refine zG (qA tyS bd_ins) fun K5 hK5 => ?_
    refine WE.con (ins_con hm H3 id gen n dc a b hs hN3 hab (by omega) (by omega)) fun w' H4 g4 ⟨hw, hs4⟩ => ?_
    subst hw
    obtain ⟨x1, x2⟩ := Go.Sort.insertionSort_holds hsw dc a b hab (by have := hs.sz; omega)
    have hpost := hct.out _ x1 x2
    replace x1 : Hd _ := x1
    replace x2 : Hd _ := x2
    replace hs4 : Hd _ := hs4
    replace hpost : Hd _ := hpost
    refine zK tyS ?_
    exact q4.out _ _ (k4.out _ _ (fin _ _ _ _ (.inr rfl) qe (f3.then g4 fun _ h => .inr h) hs4.out hpost.out))
  have h12i : ¬ (L : Int) ≤ 12 := by omega
  by_cases hl0 : lim = 0
  · have hl0b : ((lim : Int) == 0) = true := by rw [hl0]; rfl
    replace hL : Hd _ := hL
    replace hl0 : Hd _ := hl0
    refine zW tyS ?_
    refine zG (qA tyS bd_heap) fun K5 hK5 => ?_
    refine WE.con (heap_con hm H3 id gen n dc a b hs hN3 hab (by omega) (by omega)) fun w' H4 g4 ⟨hw, hs4⟩ => ?_
    subst hw
    obtain ⟨x1, x2⟩ := Go.Sort.heapSort_holds hsw dc a b hab (by have := hs.sz; omega)
    have hpost := hct.out _ x1 x2
    replace x1 : Hd _ := x1
    replace x2 : Hd _ := x2
    replace hs4 : Hd _ := hs4
    replace hpost : Hd _ := hpost
    refine zK tyS ?_
    exact q4.out _ _ (k4.out _ _ (fin _ _ _ _ (.inr rfl) qe (f3.then g4 fun _ h => .inr h) hs4.out hpost.out))
  have hl0b : ((lim : Int) == 0) = false := beq_false_of_ne (by omega)
  have hwl : IntKind.i64.wrap ((lim : Int) - 1) = ((lim - 1 : Nat) : Int) := by rw [wrapI (by omega) (by omega)]; omega
  have hLL : a < b := by omega
  have hL12 : 12 < b - a := by omega
  replace hL : Hd _ := hL
  replace hl0 : Hd _ := hl0
  refine zW tyS ?_
  refine R1.s_mid (fun B H4 => ∃ (l1 : Nat) (d1 : Array α), l1 ≤ 64 ∧ Fr (fun k => k = id) H H4 ∧ Srt c H4 id gen n d1 ∧ Hd (Go.Sort.PermIn a b dc d1) ∧ slot B.tm 0 = .one ((.o (.sl id gen 0 n 3))) ∧ slot B.tm 1 = .one (.i .i64 (a : Int)) ∧ slot B.tm 2 = .one (.i .i64 (b : Int)) ∧ slot B.tm 3 = .one (.i .i64 (l1 : Int)) ∧ slot B.tm 4 = .one ((.o (.clo cl []))) ∧ slot B.tm 10 = .one (.b wb) ∧ slot B.tm 11 = .one (.b wp) ∧ slot B.tm 12 = .one (.i .i64 (L : Int)) ∧ B.nt = 148 ∧ B.dfr = []) (fun K3 m1 m2 m3 => ?_) ?_
  · cases wb with
    | true =>
      refine zW tyS ?_
      refine m1.out _ _ ?_
      exact ⟨lim, dc, hlim, f3, hs, Go.Sort.permIn_refl dc a b, zL⟩
    | false =>
      refine zW tyS ?_
      refine zG (qA tyS bd_brk) fun K5 hK5 => ?_
      refine WE.con (brk_con hm H3 id gen n dc a b hs hN3 hLL (by omega) hn) fun w' H4 g4 ⟨hw, hs4⟩ => ?_
      subst hw
      have x1 := Go.Sort.breakPatterns_holds dc a b hab (by have := hs.sz; omega)
      replace x1 : Hd _ := x1
      replace hs4 : Hd _ := hs4
      refine zK tyS ?_
      refine m1.out _ _ ?_
      exact ⟨lim - 1, _, by omega, f3.then g4 (fun _ h => .inr h), hs4.out, x1, zL⟩
  have hdz0 : dc.size = n := hs.sz
  clear t0 t1 t2 t3 t4 t10 t11 hnt hdf A hs f3 hid hN3 H3 hwl hlim hl0b hl0 lim
  rintro A H3 ⟨lim, d1, hlim, f3, hs, hp1, t0, t1, t2, t3, t4, t10, t11, t12, hnt, hdf⟩
  have hid := hs.lt
  have hN3 := Nat.le_trans hN f3.nx
  refine zG (qA tyS bd_pivo) fun K5 hK5 => ?_
  have hpv := Go.Sort.choosePivot_holds (ltF cf) d1 a b hLL
  refine WE.con (pivo_con hm H3 id gen n d1 a b hs hN3 hLL (by omega) (by omega)) fun w' H4 g4 hw => ?_
  subst hw
  have hs4 := hs.fr g4 not_false
  have hid4 := hs4.lt
  have f4 : Fr (fun k => k = id) H H4 := f3.then g4 fun _ h => h.elim
  have hN4 := Nat.le_trans hN f4.nx
  clear hs hid hN3 g4 f3
  generalize Go.Sort.choosePivot (ltF cf) d1 a b = pv at hpv ⊢
  obtain ⟨p0, hh⟩ := pv
  obtain ⟨hpv1, hpv2⟩ := hpv
  replace hpv1 : a ≤ p0 := hpv1
  replace hpv2 : p0 < b := hpv2
  refine zS tyS ?_
  refine hK5.out _ _ ?_
  clear hK5 K5
  refine R1.gen (fun A5 H5 => H4 = H5 ∧ slot A5.tm 0 = .one ((.o (.sl id gen 0 n 3))) ∧ slot A5.tm 1 = .one (.i .i64 (a : Int)) ∧ slot A5.tm 2 = .one (.i .i64 (b : Int)) ∧ slot A5.tm 3 = .one (.i .i64 (lim : Int)) ∧ slot A5.tm 4 = .one ((.o (.clo cl []))) ∧ slot A5.tm 10 = .one (.b wb) ∧ slot A5.tm 11 = .one (.b wp) ∧ slot A5.tm 12 = .one (.i .i64 (L : Int)) ∧ slot A5.tm 13 = .one (.i .i64 (p0 : Int)) ∧ slot A5.tm 14 = .one (.i .i64 ((hintI hh) : Int)) ∧ A5.nt = 148 ∧ A5.dfr = []) ⟨rfl, zL⟩ ?_
  clear t0 t1 t2 t3 t4 t10 t11 t12 hnt hdf A
  rintro A _ ⟨rfl, t0, t1, t2, t3, t4, t10, t11, t12, t13, t14, hnt, hdf⟩
  have hdz1 : d1.size = n := hs4.sz
  have hct1 : Hd (∀ R, Go.Sort.PermIn a b d1 R → Go.Sort.SortedIn (ltF cf) a b R → Go.Sort.PermIn a0 b0 d R ∧ Go.Sort.SortedIn (ltF cf) a0 b0 R) := fun R h1 h2 => hct.out R (Go.Sort.permIn_trans _ _ _ a b hp1.out h1) h2
  have hBl1 : Hd (Go.Sort.Below (ltF cf) a b d1) := hBl.out.perm (by omega) hp1.out
  clear hct hBl hp1 hdz0
  refine zW tyS ?_
  refine R1.s_mid (fun B H5 => ∃ (pv : Nat) (hi : Int) (d2 : Array α), a ≤ pv ∧ pv < b ∧ Fr (fun k => k = id) H H5 ∧ Srt c H5 id gen n d2 ∧ Hd (Go.Sort.PermIn a b d1 d2) ∧ slot B.tm 0 = .one ((.o (.sl id gen 0 n 3))) ∧ slot B.tm 1 = .one (.i .i64 (a : Int)) ∧ slot B.tm 2 = .one (.i .i64 (b : Int)) ∧ slot B.tm 3 = .one (.i .i64 (lim : Int)) ∧ slot B.tm 4 = .one ((.o (.clo cl []))) ∧ slot B.tm 10 = .one (.b wb) ∧ slot B.tm 11 = .one (.b wp) ∧ slot B.tm 12 = .one (.i .i64 (L : Int)) ∧ slot B.tm 13 = .one (.i .i64 (pv : Int)) ∧ slot B.tm 14 = .one (.i .i64 (hi : Int)) ∧ B.nt = 148 ∧ B.dfr = []) (fun K3 m1 m2 m3 => ?_) ?_
  · by_cases hdd : hh = .decreasing
    · have hdi : (hintI hh == 2) = true := by rw [hdd]; rfl
      have hwa : IntKind.i64.wrap ((b : Int) - 1) = ((b - 1 : Nat) : Int) := by rw [wrapI (by omega) (by omega)]; omega
      have hwb : IntKind.i64.wrap ((p0 : Int) - (a : Int)) = ((p0 - a : Nat) : Int) := by rw [wrapI (by omega) (by omega)]; omega
      have hwc : IntKind.i64.wrap (((b - 1 : Nat) : Int) - ((p0 - a : Nat) : Int)) = ((b - 1 - (p0 - a) : Nat) : Int) := by rw [wrapI (by omega) (by omega)]; omega
      have x1 := Go.Sort.reverseRange_holds d1 a b hab (by omega)
      replace x1 : Hd _ := x1
      replace hdd : Hd _ := hdd
      refine zW tyS ?_
      refine zG (qA tyS bd_rev) fun K5 hK5 => ?_
      refine WE.con (rev_con hm H4 id gen n d1 a b hs4 hN4 hLL (by omega) (by omega)) fun w' H5 g5 ⟨hw, hs5⟩ => ?_
      subst hw
      replace hs5 : Hd _ := hs5
      refine zK tyS ?_
      refine m1.out _ _ ?_
      exact ⟨b - 1 - (p0 - a), 1, _, by omega, by omega, f4.then g5 (fun _ h => .inr h), hs5.out, x1, zL⟩
    · have hdi : (hintI hh == 2) = false := by cases hh <;> first | rfl | exact absurd rfl hdd
      replace hdd : Hd _ := hdd
      refine zW tyS ?_
      refine m1.out _ _ ?_
      exact ⟨p0, hintI hh, d1, hpv1, hpv2, f4, hs4, Go.Sort.permIn_refl d1 a b, zL⟩
  clear t0 t1 t2 t3 t4 t10 t11 t12 t13 t14 hnt hdf A hs4 f4 hid4 hN4 hh hpv1 hpv2 p0
  rintro A H4 ⟨pv, hi, d2, hpv1, hpv2, f4, hs4, hp2, t0, t1, t2, t3, t4, t10, t11, t12, t13, t14, hnt, hdf⟩
  have hid4 := hs4.lt
  have hN4 := Nat.le_trans hN f4.nx
  have hdz2 : d2.size = n := hs4.sz
  have hct2 : Hd (∀ R, Go.Sort.PermIn a b d2 R → Go.Sort.SortedIn (ltF cf) a b R → Go.Sort.PermIn a0 b0 d R ∧ Go.Sort.SortedIn (ltF cf) a0 b0 R) := fun R h1 h2 => hct1.out R (Go.Sort.permIn_trans _ _ _ a b hp2.out h1) h2
  have hBl2 : Hd (Go.Sort.Below (ltF cf) a b d2) := hBl1.out.perm (by omega) hp2.out
  clear hct1 hBl1 hp2 hdz1
  repeat refine R1.s_assoc ?_
  refine R1.s_h (by kernel_rfl) fun K4 hK4 => ?_
  have key : Hd (∀ (bb : Bool) (A : AAct), slot A.tm 75 = .one (.b bb) ∧ slot A.tm 0 = .one ((.o (.sl id gen 0 n 3))) ∧ slot A.tm 1 = .one (.i .i64 (a : Int)) ∧ slot A.tm 2 = .one (.i .i64 (b : Int)) ∧ slot A.tm 3 = .one (.i .i64 (lim : Int)) ∧ slot A.tm 4 = .one ((.o (.clo cl []))) ∧ slot A.tm 10 = .one (.b wb) ∧ slot A.tm 11 = .one (.b wp) ∧ slot A.tm 12 = .one (.i .i64 (L : Int)) ∧ slot A.tm 13 = .one (.i .i64 (pv : Int)) ∧ A.nt = 148 ∧ A.dfr = [] → K4 A H4) := by
    clear t0 t1 t2 t3 t4 t10 t11 t12 t13 t14 hnt hdf A
    rintro bb A ⟨t75, t0, t1, t2, t3, t4, t10, t11, t12, t13, hnt, hdf⟩
    refine hK4.out _ _ ?_
    clear hK4 K4
    refine R1.s_mid (fun B H5 => ∃ (d3 : Array α), Fr (fun k => k = id) H H5 ∧ Srt c H5 id gen n d3 ∧ Hd (Go.Sort.PermIn a b d2 d3) ∧ slot B.tm 0 = .one ((.o (.sl id gen 0 n 3))) ∧ slot B.tm 1 = .one (.i .i64 (a : Int)) ∧ slot B.tm 2 = .one (.i .i64 (b : Int)) ∧ slot B.tm 3 = .one (.i .i64 (lim : Int)) ∧ slot B.tm 4 = .one ((.o (.clo cl []))) ∧ slot B.tm 10 = .one (.b wb) ∧ slot B.tm 11 = .one (.b wp) ∧ slot B.tm 12 = .one (.i .i64 (L : Int)) ∧ slot B.tm 13 = .one (.i .i64 (pv : Int)) ∧ B.nt = 148 ∧ B.dfr = []) (fun K5 m1 m2 m3 => ?_) ?_
    · cases bb with
      | true =>
        refine zW tyS ?_
        refine zG (qA tyS bd_pins) fun K6 hK6 => ?_
        have hx := Go.Sort.partialInsertionSort_holds hsw d2 a b hLL (by omega) hBl2.out
        refine WE.con (pins_con hm H4 id gen n d2 a b hs4 hN4 hLL (by omega) hn) fun w' H5 g5 ⟨hw, hs5⟩ => ?_
        subst hw
        generalize Go.Sort.partialInsertionSort (ltF cf) d2 a b = Z at hx hs5 ⊢
        obtain ⟨d3, zb⟩ := Z
        obtain ⟨x1, x2⟩ := hx
        cases zb with
        | true =>
          have hpost := hct2.out _ x1 (x2 rfl)
          replace x1 : Hd _ := x1
          replace x2 : Hd _ := x2
          replace hs5 : Hd _ := hs5
          replace hpost : Hd _ := hpost
          refine zK tyS ?_
          exact m3.out _ _ (q4.out _ _ (k4.out _ _ (fin _ _ _ _ (.inr rfl) qe (f4.then g5 fun _ h => .inr h) hs5.out hpost.out)))
        | false =>
          replace x1 : Hd _ := x1
          replace x2 : Hd _ := x2
          replace hs5 : Hd _ := hs5
          refine zK tyS ?_
          refine m1.out _ _ ?_
          exact ⟨d3, f4.then g5 (fun _ h => .inr h), hs5.out, x1, zL⟩
      | false =>
        refine zW tyS ?_
        refine m1.out _ _ ?_
        exact ⟨d2, f4, hs4, Go.Sort.permIn_refl d2 a b, zL⟩
    clear t0 t1 t2 t3 t4 t10 t11 t12 t13 t75 hnt hdf A hs4 f4 hid4 hN4 bb
    rintro A H5 ⟨d3, f5, hs5, hp3, t0, t1, t2, t3, t4, t10, t11, t12, t13, hnt, hdf⟩
    have hdz3 : d3.size = n := hs5.sz
    have hct3 : Hd (∀ R, Go.Sort.PermIn a b d3 R → Go.Sort.SortedIn (ltF cf) a b R → Go.Sort.PermIn a0 b0 d R ∧ Go.Sort.SortedIn (ltF cf) a0 b0 R) := fun R h1 h2 => hct2.out R (Go.Sort.permIn_trans _ _ _ a b hp3.out h1) h2
    have hBl3 : Hd (Go.Sort.Below (ltF cf) a b d3) := hBl2.out.perm (by omega) hp3.out
    clear hct2 hBl2 hp3 hdz2
    repeat refine R1.s_assoc ?_
    refine R1.s_h (by kernel_rfl) fun K6 hK6 => ?_
    have key2 : Hd (∀ (bb : Bool) (A : AAct) (H5 : Hp), Fr (fun k => k = id) H H5 → Srt c H5 id gen n d3 → (bb = true → 0 < a ∧ ltF cf d3[a - 1]! d3[pv]! = false) → slot A.tm 97 = .one (.b bb) ∧ slot A.tm 0 = .one ((.o (.sl id gen 0 n 3))) ∧ slot A.tm 1 = .one (.i .i64 (a : Int)) ∧ slot A.tm 2 = .one (.i .i64 (b : Int)) ∧ slot A.tm 3 = .one (.i .i64 (lim : Int)) ∧ slot A.tm 4 = .one ((.o (.clo cl []))) ∧ slot A.tm 10 = .one (.b wb) ∧ slot A.tm 11 = .one (.b wp) ∧ slot A.tm 12 = .one (.i .i64 (L : Int)) ∧ slot A.tm 13 = .one (.i .i64 (pv : Int)) ∧ A.nt = 148 ∧ A.dfr = [] → K6 A H5) := by
      clear t0 t1 t2 t3 t4 t10 t11 t12 t13 hnt hdf A hs5 f5 H5
      rintro bb A H5 f5 hs5 hbb ⟨t97, t0, t1, t2, t3, t4, t10, t11, t12, t13, hnt, hdf⟩
      refine hK6.out _ _ ?_
      clear hK6 K6
      have hid5 := hs5.lt
      have hN5 := Nat.le_trans hN f5.nx
      cases bb with
      | true =>
        obtain ⟨ha0, hnl⟩ := hbb rfl
        refine zW tyS ?_
        refine zG (qA tyS bd_peq) fun K7 hK7 => ?_
        have hcon := peq_con hm H5 id gen n d3 a b pv hs5 hN5 hLL (by omega) (by omega) hn
        generalize hx : Go.Sort.partitionEqual (ltF cf) d3 a b pv = Z at hcon
        obtain ⟨mid, d4⟩ := Z
        obtain ⟨y1, y2, y3, y4, y5⟩ := Go.Sort.round_eq hsw (Go.Sort.partitionEqual_holds (ltF cf)) ha0 hpv1 hpv2 (by omega) hBl3.out hnl hx
        refine WE.con hcon fun w' H6 g6 ⟨hw, hs6⟩ => ?_
        subst hw
        have hct4 : Hd (∀ R, Go.Sort.PermIn mid b d4 R → Go.Sort.SortedIn (ltF cf) mid b R → Go.Sort.PermIn a0 b0 d R ∧ Go.Sort.SortedIn (ltF cf) a0 b0 R) := fun R h1 h2 => hct3.out R (y5 R h1 h2).1 (y5 R h1 h2).2
        clear hcon y5 hnl hbb
        replace hx : Hd _ := hx
        replace y3 : Hd _ := y3
        replace y4 : Hd _ := y4
        replace hs6 : Hd (Srt c H6 id gen n d4) := hs6
        refine zK tyS ?_
        refine q2.out _ _ ?_
        exact ⟨b - mid, by omega, mid, b, lim, wb, wp, d4, rfl, by omega, y2, hbb0, hlim, f5.then g6 (fun _ h => .inr h), hs6.out, y4, hct4, zL⟩
      | false =>
        clear hbb
        refine zW tyS ?_
        refine zG (qA tyS bd_part) fun K7 hK7 => ?_
        have hcon := part_con hm H5 id gen n d3 a b pv hs5 hN5 hLL (by omega) (by omega) hn
        generalize hx : Go.Sort.partition (ltF cf) d3 a b pv = Z at hcon
        obtain ⟨mid, ap, d4⟩ := Z
        obtain ⟨y1, y2, y3, y4, y5, y6, y7⟩ := Go.Sort.round_part hsw (Go.Sort.partition_holds (ltF cf)) hpv1 hpv2 (by omega) hBl3.out hx
        refine WE.con hcon fun w' H6 g6 ⟨hw, hs6⟩ => ?_
        subst hw
        replace hs6 : Srt c H6 id gen n d4 := hs6
        have hid6 := hs6.lt
        have f6 : Fr (fun k => k = id) H H6 := f5.then g6 fun _ h => .inr h
        have hN6 := Nat.le_trans hN f6.nx
        have hml : IntKind.i64.wrap ((mid : Int) - (a : Int)) = ((mid - a : Nat) : Int) := by rw [wrapI (by omega) (by omega)]; omega
        have hmr : IntKind.i64.wrap ((b : Int) - (mid : Int)) = ((b - mid : Nat) : Int) := by rw [wrapI (by omega) (by omega)]; omega
        have hm1 : IntKind.i64.wrap ((mid : Int) + 1) = ((mid + 1 : Nat) : Int) := by rw [wrapI (by omega) (by omega)]; omega
        have hLe := hL.out
        have hq8 : IntKind.i64.wrap ((L : Int).tdiv 8) = ((L / 8 : Nat) : Int) := by rw [Int.tdiv_eq_ediv_of_nonneg (by omega), wrapI (by omega) (by omega)]; omega
        replace hLe : Hd _ := hLe
        clear hcon
        replace hx : Hd _ := hx
        replace y3 : Hd _ := y3
        replace y4 : Hd _ := y4
        replace y5 : Hd _ := y5
        replace y6 : Hd _ := y6
        replace y7 : Hd _ := y7
        by_cases hlr : mid - a < b - mid
        · have hlri : ((mid - a : Nat) : Int) < ((b - mid : Nat) : Int) := by omega
          replace hs6 : Hd _ := hs6
          refine zK tyH ?_
          refine zG (qA tyS bd_pdq) fun K8 hK8 => ?_
          refine WE.con (ih.out (mid - a) (by omega) H6 d4 a mid lim (Nat.le_refl _) hs6.out hN6 (by omega) (by omega) hlim y4.out) fun w' H7 g7 ⟨hw, dL, hs7, pL, sL⟩ => ?_
          subst hw
          obtain ⟨u1, u2⟩ := y6.out dL pL sL
          have hct4 : Hd (∀ R, Go.Sort.PermIn (mid + 1) b dL R → Go.Sort.SortedIn (ltF cf) (mid + 1) b R → Go.Sort.PermIn a0 b0 d R ∧ Go.Sort.SortedIn (ltF cf) a0 b0 R) := fun R h1 h2 => hct3.out R (u2 R h1 h2).1 (u2 R h1 h2).2
          clear u2
          replace u1 : Hd _ := u1
          replace hs7 : Hd _ := hs7
          replace pL : Hd _ := pL
          replace sL : Hd _ := sL
          refine zK tyH ?_
          refine q1.out _ _ ?_
          exact ⟨b - (mid + 1), by omega, mid + 1, b, lim, _, ap, dL, rfl, by omega, by omega, hbb0, hlim, f6.then g7 (fun _ h => .inr h), hs7.out, u1, hct4, zL⟩
        · have hlri : ¬ ((mid - a : Nat) : Int) < ((b - mid : Nat) : Int) := by omega
          replace hs6 : Hd _ := hs6
          refine zK tyH ?_
          refine zG (qA tyS bd_pdq) fun K8 hK8 => ?_
          refine WE.con (ih.out (b - (mid + 1)) (by omega) H6 d4 (mid + 1) b lim (Nat.le_refl _) hs6.out hN6 (by omega) (by omega) hlim y5.out) fun w' H7 g7 ⟨hw, dL, hs7, pL, sL⟩ => ?_
          subst hw
          obtain ⟨u1, u2⟩ := y7.out dL pL sL
          have hct4 : Hd (∀ R, Go.Sort.PermIn a mid dL R → Go.Sort.SortedIn (ltF cf) a mid R → Go.Sort.PermIn a0 b0 d R ∧ Go.Sort.SortedIn (ltF cf) a0 b0 R) := fun R h1 h2 => hct3.out R (u2 R h1 h2).1 (u2 R h1 h2).2
          clear u2
          replace u1 : Hd _ := u1
          replace hs7 : Hd _ := hs7
          replace pL : Hd _ := pL
          replace sL : Hd _ := sL
          refine zK tyH ?_
          refine q1.out _ _ ?_
          exact ⟨mid - a, by omega, a, mid, lim, _, ap, dL, rfl, haa, y1, by omega, hlim, f6.then g7 (fun _ h => .inr h), hs7.out, u1, hct4, zL⟩
    clear hK6
    by_cases ha0 : 0 < a
    · have ha0i : (0 : Int) < (a : Int) := by omega
      have hwa : IntKind.i64.wrap ((a : Int) - 1) = ((a - 1 : Nat) : Int) := by rw [wrapI (by omega) (by omega)]; omega
      have hid5 := hs5.lt
      have hN5 := Nat.le_trans hN f5.nx
      obtain ⟨lo, hlo, hg⟩ := hs5.row
      have lv := hm.ltH hN5
      have hcl := hm.len
      have b1 : a - 1 < n := by omega
      have b2 : pv < n := by omega
      have e1 : a - 1 < d3.size := by omega
      have e2 : pv < d3.size := by omega
      replace hdz3 : Hd _ := hdz3
      replace e1 : Hd _ := e1
      replace e2 : Hd _ := e2
      refine zS (qA tyS (qA (ixC b1) (qA (ixC b2) (rdQ hm.len e1.out e2.out)))) ?_
      refine WE.con (hm.con H5 d3[a - 1]! d3[pv]! hN5) fun w' H6 g6 hq => ?_
      subst hq
      have hs6 := hs5.fr g6 not_false
      have f6 : Fr (fun k => k = id) H H6 := f5.then g6 fun _ h => h.elim
      by_cases hcf : cf d3[a - 1]! d3[pv]! < 0
      · refine zS tyS ?_
        exact key2.out false _ _ f6 hs6 (fun h => by cases h) zL
      · refine zS tyS ?_
        exact key2.out true _ _ f6 hs6 (fun _ => ⟨ha0, decide_eq_false hcf⟩) zL
    · have ha0i : ¬ (0 : Int) < (a : Int) := by omega
      replace hdz3 : Hd _ := hdz3
      refine zS tyS ?_
      exact key2.out false _ _ f5 hs5 (fun h => by cases h) zL
  clear hK4
  cases wb with
  | false =>
    refine zS tyS ?_
    exact key.out false _ zL
  | true =>
  cases wp with
  | false =>
    refine zS tyS ?_
    exact key.out false _ zL
  | true =>
    refine zS tyS ?_
    exact key.out (hi == 1) _ zL
set_option maxRecDepth 10000 in
set_option maxHeartbeats 8000000 in
theorem sortF_con (hm : Cmp c cf cl N) (hsw : Go.Sort.SWO (ltF cf)) (H : Hp) (id gen n : Nat) (d : Array α) (hs : Srt c H id gen n d) (hN : N ≤ H.nx) (hn : n ≤ 4096) :
    Con E2 72 [.one (.o (.sl id gen 0 n 3)), .one (.o (.clo cl []))] H (fun k => k = id) fun r H' => r = .tup [] ∧ ∃ d', Srt c H' id gen n d' ∧ d'.toList.Perm d.toList ∧ Go.Sort.SortedIn (ltF cf) 0 n d' := by
  have hbd := hm.bd
  refine Con.of rfl fun lg => ?_
  have hs : Srt c ⟨H.t, H.nx, lg⟩ id gen n d := hs
  have hN : N ≤ (⟨H.t, H.nx, lg⟩ : Hp).nx := hN
  generalize (⟨H.t, H.nx, lg⟩ : Hp) = H at hs hN ⊢
  refine C1.body (E := E2) (nt := 14) (res := []) Tryz.func72 rfl rfl rfl rfl rfl fun tm hargs => ?_
  have h0 := hargs 0 _ rfl
  have h1 := hargs 1 _ rfl
  clear hargs
  have hid := hs.lt
  have hdz := hs.sz
  have e1 : IntKind.u64.wrap (n : Int) = (n : Int) := wrapU (by omega)
  have hb := bitsLen_le64 hn
  replace hdz : Hd _ := hdz
  refine zW tyS ?_
  refine zG (qA tyU (qA ixS (qA (cvQ un_int un_uin) bd_len))) fun K hK => ?_
  refine WE.con (len_con H n hn) fun w' H1 g1 hw => ?_
  subst hw
  have hs1 := hs.fr g1 not_false
  have hid1 := hs1.lt
  refine zS (qA tyS bd_pdq) ?_
  refine WE.con (pdq_con hm hsw id gen n hn n H1 d 0 n (Go.Sort.bitsLen n) (Nat.le_refl _) hs1 (Nat.le_trans hN g1.nx) (Nat.zero_le _) (Nat.le_refl _) (by omega) (.inl rfl)) fun w' H2 g2 ⟨hw, d', hs2, hp, hso⟩ => ?_
  subst hw
  replace hs2 : Hd _ := hs2
  replace hp : Hd _ := hp
  replace hso : Hd _ := hso
  refine zK tyS ?_
  refine ⟨_, _, callEnd_nil (.inl rfl) qe, ((Fr.refl (X := fun k => k = id) H).then g1 fun _ h => h.elim).then g2 fun _ h => .inr h, fun _ => ⟨rfl, d', hs2.out, ?_, hso.out⟩⟩
  have h3 := hp.out.2.2
  have e2 : n = d.size := hdz.out.symm
  have e3 : n = d'.size := hs2.out.1.symm
  rw [show d'.extract 0 n = d' from by rw [e3]; exact Array.extract_size, show d.extract 0 n = d from by rw [e2]; exact Array.extract_size] at h3
  exact h3
end
end Go.Proofs.YtekoajibckipkaaGreat
namespace Go.Proofs.YtekoajibckipkaaGreat
open Go Go.Eng
theorem bd_cmpS : hasBody Tryz.prog 73 = true := by kernel_rfl
def SlSp (H : Hp) (v : AC) (l : List Sp) : Prop := SlC H v 3 l.length (l.flatMap spC)
theorem spC_len (x : Sp) : (spC x).length = 3 := rfl
theorem SlSp.gr {H H' : Hp} {v : AC} {l : List Sp} (h : SlSp H v l) (hg : Gr H H') : SlSp H' v l := SlC.gr h hg
theorem SlSp.len {H : Hp} {v : AC} {l : List Sp} (h : SlSp H v l) : doLen H 1 (.one v) = .val (.one (.i .i64 (l.length : Int))) H := SlC.len h
theorem SlSp.lt {H : Hp} {v : AC} {l : List Sp} (h : SlSp H v l) : ltV (.one v) H.nx := ltV_slc h
theorem SlSp.nil {H : Hp} : SlSp H (.o .nilS) [] := ⟨by simp, .inl ⟨rfl, rfl⟩⟩
structure SpAt (cells : List AC) (o : Nat) (x : Sp) : Prop where
  all : (cells.drop o).take 3 = [.i .i64 x.1, .o (.str x.2.1), .i .i64 x.2.2]
  le : o + 3 ≤ cells.length
  le1 : o + 1 ≤ cells.length
  le2 : o + 1 + 1 ≤ cells.length
  le3 : o + 2 + 1 ≤ cells.length
  f0 : (cells.drop o).headD (.b false) = .i .i64 x.1
  f1 : (cells.drop (o + 1)).headD (.b false) = .o (.str x.2.1)
  f2 : (cells.drop (o + 2)).headD (.b false) = .i .i64 x.2.2
theorem SlSp.open {H : Hp} {v : AC} {l : List Sp} (h : SlSp H v l) (hn : 0 < l.length) : ∃ id g off cells, v = .o (.sl id g off l.length 3) ∧ id < H.nx ∧ rowOf (H.get id) g = some cells ∧ ∀ (i : Nat) (x : Sp), l[i]? = some x → SpAt cells (off + i * 3) x := by
  obtain ⟨id, g, off, h1, h2, hr⟩ := SlC.pos h hn
  have hr' := hr
  obtain ⟨cells, h3, h6, h7⟩ := hr
  refine ⟨id, g, off, cells, h1, h2, h3, fun i x hx => ?_⟩
  obtain ⟨cells', k3, k6, k7⟩ := Rd.at (c := spC) spC_len hr' hx
  rw [h3] at k3
  cases k3
  rw [spC] at k7
  obtain ⟨d0, d1, d2⟩ := drop3 k7
  exact ⟨k7, k6, by omega, by omega, by omega, d0, d1, d2⟩
abbrev SpN := {x : Sp // okN x.2.2 = true}
instance : Inhabited SpN := ⟨⟨(0, [], 1), rfl⟩⟩
def spN (x : SpN) : List AC := spC x.1
def cfN (x y : SpN) : Int := x.1.2.2 - y.1.2.2
theorem okN_b {m : Int} (h : okN m = true) : 1 ≤ m ∧ m ≤ 1099511627776 := by
  unfold okN at h
  rw [Bool.and_eq_true, decide_eq_true_eq, decide_eq_true_eq] at h
  exact h
set_option maxRecDepth 10000 in
theorem cmpS_con (H : Hp) (x y : SpN) : Con E2 73 [.agg (spN x), .agg (spN y)] H (fun _ => False) fun r _ => r = .one (.i .i64 (cfN x y)) := by
  refine Con.of rfl fun lg => ?_
  generalize (⟨H.t, H.nx, lg⟩ : Hp) = H
  obtain ⟨⟨x1, x2, x3⟩, hx⟩ := x
  obtain ⟨⟨y1, y2, y3⟩, hy⟩ := y
  have bx := okN_b hx
  have bv := okN_b hy
  replace bx : 1 ≤ x3 ∧ x3 ≤ 1099511627776 := bx
  replace bv : 1 ≤ y3 ∧ y3 ≤ 1099511627776 := bv
  have hw : IntKind.i64.wrap (x3 - y3) = x3 - y3 := wrapI (by omega) (by omega)
  show C1 E2 _ [.agg [.i .i64 x1, .o (.str x2), .i .i64 x3], .agg [.i .i64 y1, .o (.str y2), .i .i64 y3]] H fun v h' => Fr _ H h' ∧ ∀ _ : List Nat, v = .one (.i .i64 (x3 - y3))
  clear hx hy bx bv
  refine C1.body (E := E2) (nt := 10) (res := [.tmp 4]) Tryz.func73 rfl rfl rfl rfl rfl fun tm hargs => ?_
  have h0 := hargs 0 _ rfl
  have h1 := hargs 1 _ rfl
  clear hargs
  refine zW tyS ?_
  exact ⟨_, _, callEnd_one (.i .i64 (x3 - y3)) (.inr rfl) qe qp, ((Fr.refl _).new _).new _, fun _ => rfl⟩
theorem cmpS : Cmp spN cfN 73 0 where
  len := fun x => rfl
  lt := fun x i hi => by
    obtain ⟨⟨x1, x2, x3⟩, hx⟩ := x
    have : i ∈ ([] : List Nat) := hi
    cases this
  bd := bd_cmpS
  con := fun H x y _ => cmpS_con H x y
theorem swoS : Go.Sort.SWO (ltF cfN) where
  irrefl := fun x => by unfold ltF cfN; exact decide_eq_false (by omega)
  trans := fun x y z h1 h2 => by
    unfold ltF cfN at *
    rw [decide_eq_true_eq] at *
    omega
  ntrans := fun x y z h1 h2 => by
    unfold ltF cfN at *
    rw [decide_eq_false_iff_not] at *
    omega
set_option maxRecDepth 10000 in
theorem ins_nil (H : Hp) (cl : FuncId) : Con E2 149 [.one (.o .nilS), .one (.i .i64 0), .one (.i .i64 0), .one (.o (.clo cl []))] H (fun _ => False) fun r _ => r = .tup [] := by
  refine Con.of rfl fun lg => ?_
  generalize (⟨H.t, H.nx, lg⟩ : Hp) = H
  refine C1.body (E := E2) (nt := 53) (res := []) Tryz.func149 rfl rfl rfl rfl rfl fun tm hargs => ?_
  have h0 := hargs 0 _ rfl
  have h1 := hargs 1 _ rfl
  have h2 := hargs 2 _ rfl
  have h3 := hargs 3 _ rfl
  clear hargs
  have hw : IntKind.i64.wrap (0 + 1) = 1 := by decide
  refine zW tyS ?_
  refine R1.e_bl fun K k1 k2 k3 k4 => ?_
  refine R1.loop (fun z A H1 => Gr H H1 ∧ slot A.tm 2 = .one (.i .i64 (0 : Int)) ∧ slot A.tm 8 = .one (.i .i64 (1 : Int)) ∧ A.nt = 53 ∧ A.dfr = []) ?_ 0 ⟨Fr.refl _, zL⟩
  clear h0 h1 h2 h3 tm k3
  rintro z A H1 ⟨g1, t2, t8, hnt, hdf⟩
  have hc : ¬ (1 : Int) < 0 := by decide
  refine zW tyS ?_
  refine k2.out _ _ ?_
  exact ⟨_, _, callEnd_nil (.inl rfl) qe, g1, fun _ => rfl⟩
set_option maxRecDepth 10000 in
theorem pdq_nil (H : Hp) (cl : FuncId) : Con E2 112 [.one (.o .nilS), .one (.i .i64 0), .one (.i .i64 0), .one (.i .i64 0), .one (.o (.clo cl []))] H (fun _ => False) fun r _ => r = .tup [] := by
  refine Con.of rfl fun lg => ?_
  generalize (⟨H.t, H.nx, lg⟩ : Hp) = H
  refine C1.body (E := E2) (nt := 148) (res := []) Tryz.func112 rfl rfl rfl rfl rfl fun tm hargs => ?_
  have h0 := hargs 0 _ rfl
  have h1 := hargs 1 _ rfl
  have h2 := hargs 2 _ rfl
  have h3 := hargs 3 _ rfl
  have h4 := hargs 4 _ rfl
  clear hargs
  have hw : IntKind.i64.wrap (0 - 0) = 0 := by decide
  refine zW tyS ?_
  refine R1.e_bl fun K k1 k2 k3 k4 => ?_
  refine R1.loop (fun z A H1 => Gr H H1 ∧ slot A.tm 0 = .one ((.o .nilS)) ∧ slot A.tm 1 = .one (.i .i64 (0 : Int)) ∧ slot A.tm 2 = .one (.i .i64 (0 : Int)) ∧ slot A.tm 4 = .one ((.o (.clo cl []))) ∧ A.nt = 148 ∧ A.dfr = []) ?_ 0 ⟨Fr.refl _, zL⟩
  clear h0 h1 h2 h3 h4 tm k3
  rintro z A H1 ⟨g1, t0, t1, t2, t4, hnt, hdf⟩
  have hc : (0 : Int) ≤ 12 := by decide
  refine R1.e_bl fun K2 q1 q2 q3 q4 => ?_
  refine zW tyS ?_
  refine zG (qA tyS bd_ins) fun K5 hK5 => ?_
  refine WE.con (ins_nil H1 cl) fun w' H2 g2 hw' => ?_
  subst hw'
  refine zK tyS ?_
  exact q4.out _ _ (k4.out _ _ ⟨_, _, callEnd_nil (.inr rfl) qe, g1.gr g2, fun _ => rfl⟩)
set_option maxRecDepth 10000 in
theorem sortF_nil (H : Hp) (cl : FuncId) : Con E2 72 [.one (.o .nilS), .one (.o (.clo cl []))] H (fun _ => False) fun r _ => r = .tup [] := by
  refine Con.of rfl fun lg => ?_
  generalize (⟨H.t, H.nx, lg⟩ : Hp) = H
  refine C1.body (E := E2) (nt := 14) (res := []) Tryz.func72 rfl rfl rfl rfl rfl fun tm hargs => ?_
  have h0 := hargs 0 _ rfl
  have h1 := hargs 1 _ rfl
  clear hargs
  have e1 : IntKind.u64.wrap 0 = 0 := wrapU (x := 0) (by decide)
  have hlen := len_con H 0 (by decide)
  rw [show ((0 : Nat) : Int) = 0 from rfl, show ((Go.Sort.bitsLen 0 : Nat) : Int) = 0 from rfl] at hlen
  replace hlen : Hd (Con E2 _ _ _ _ _) := hlen
  refine zW tyS ?_
  refine zG (qA tyU (qA ixS (qA (cvQ un_int un_uin) bd_len))) fun K hK => ?_
  refine WE.con hlen.out fun w' H1 g1 hw => ?_
  subst hw
  clear hlen
  refine zS (qA tyS bd_pdq) ?_
  refine WE.con (pdq_nil H1 cl) fun w' H2 g2 hw => ?_
  subst hw
  refine zK tyS ?_
  exact ⟨_, _, callEnd_nil (.inl rfl) qe, g1.gr g2, fun _ => rfl⟩
def lif : (l : List Sp) → (∀ x ∈ l, okN x.2.2 = true) → List SpN
  | [], _ => []
  | x :: l, h => ⟨x, h x (List.mem_cons_self ..)⟩ :: lif l fun y hy => h y (List.mem_cons_of_mem _ hy)
theorem lif_val : ∀ (l : List Sp) (h : ∀ x ∈ l, okN x.2.2 = true), (lif l h).map Subtype.val = l
  | [], _ => rfl
  | x :: l, h => by rw [lif, List.map_cons, lif_val l]
theorem flat_val : ∀ (l : List SpN), l.flatMap spN = (l.map Subtype.val).flatMap spC
  | [] => rfl
  | x :: l => by rw [List.flatMap_cons, flat_val l, List.map_cons, List.flatMap_cons]; rfl
set_option maxRecDepth 10000 in
theorem sortS_con (H : Hp) (v : AC) (l : List Sp) (r : Option Nat) (hv : OwnR H v 75 3 l.length (l.flatMap spC) r) (hl : ∀ x ∈ l, okN x.2.2 = true) (hn : l.length ≤ 4096) :
    Con E2 72 [.one v, .one (.o (.clo 73 []))] H (fun k => r = some k) fun q H' => q = .tup [] ∧ ∃ out, SlSp H' v out ∧ out.Perm l ∧ out.length = l.length ∧ List.Pairwise (fun x y : Sp => ¬ y.2.2 < x.2.2) out := by
  rcases hv with ⟨rfl, h0, _, rfl⟩ | ⟨id, lo, gen, rfl, rfl, hg, hlo, hlen, hid⟩
  · have hl0 : l = [] := List.eq_nil_of_length_eq_zero h0
    subst hl0
    intro lg
    refine N1.mono (sortF_nil H 73 lg) fun w h' ⟨h1, h2⟩ => ⟨h1.mono fun _ h => h.elim, fun lg' => ⟨h2 lg', [], SlSp.nil, List.Perm.refl _, rfl, List.Pairwise.nil⟩⟩
  · have hd : Srt spN H id gen l.length (lif l hl).toArray := by
      refine ⟨?_, ⟨lo, hlo, ?_⟩, hid⟩
      · have := congrArg List.length (lif_val l hl)
        rw [List.length_map] at this
        rw [List.size_toArray]
        exact this
      · rw [hg]; unfold rowS; rw [List.toList_toArray, flat_val, lif_val]
    intro lg
    refine N1.mono (sortF_con cmpS swoS H id gen l.length _ hd (Nat.zero_le _) hn lg) fun w h' ⟨h1, h2⟩ => ⟨h1.mono fun k h => by rw [h], fun lg' => ?_⟩
    obtain ⟨h3, d', h4, h5, h6⟩ := h2 lg'
    refine ⟨h3, d'.toList.map Subtype.val, ?_, ?_, ?_, ?_⟩
    · obtain ⟨lo', hlo', hg'⟩ := h4.row
      have hsz : (d'.toList.map Subtype.val).length = l.length := by rw [List.length_map, Array.length_toList]; exact h4.sz
      refine ⟨by rw [flat_len spC_len], .inr ⟨id, gen, 0, by rw [hsz], h4.lt, rowS spN d', by rw [hg']; exact rowOf_arr hlo' (Nat.le_refl _), ?_, ?_⟩⟩
      · rw [hsz, rowS_len cmpS.len, h4.sz]; omega
      · rw [List.drop_zero, hsz, List.take_of_length_le (by rw [rowS_len cmpS.len, h4.sz]; omega)]
        unfold rowS; rw [flat_val]
    · have := h5.map Subtype.val
      rw [List.toList_toArray, lif_val] at this
      exact this
    · rw [List.length_map, Array.length_toList]; exact h4.sz
    · rw [List.pairwise_map, List.pairwise_iff_getElem]
      intro i j hi hj hij
      rw [Array.length_toList, h4.sz] at hi hj
      have h7 := h6 i j (Nat.zero_le _) hij hj
      have hi' : i < d'.size := by rw [h4.sz]; exact hi
      have hj' : j < d'.size := by rw [h4.sz]; exact hj
      rw [getElem!_pos d' i hi', getElem!_pos d' j hj'] at h7
      unfold ltF cfN at h7
      rw [decide_eq_false_iff_not] at h7
      rw [Array.getElem_toList, Array.getElem_toList]
      omega
end Go.Proofs.YtekoajibckipkaaGreat
namespace Go.Proofs.YtekoajibckipkaaGreat
open Go Go.Eng
theorem bd_slipsP : hasBody Tryz.prog 32 = true := by kernel_rfl
theorem bd_sortS : hasBody Tryz.prog 72 = true := by kernel_rfl
theorem callEnd_two_c {E : Env} {s t : Tmp} {A : AAct} {H H2 : Hp} {e : AExit} (c d : AC) (he : e = .normal ∨ e = .ret) (hd : closeAll H A.dfr = some H2) (hs : slot A.tm s = .one c) (ht : slot A.tm t = .one d) : callEnd E [.tmp s, .tmp t] (e, A, H) = .ok [(.tup [(false, [c]), (false, [d])], H2)] := by
  have key : (optE (closeAll H A.dfr) (R.bad "marks") fun h2 => optE (resAll E.P [.tmp s, .tmp t] A.tm h2) (.bad "results") fun l => .ok [(tupOf l, h2)]) = .ok [(.tup [(false, [c]), (false, [d])], H2)] := by
    rw [hd]
    have hr : resAll E.P [.tmp s, .tmp t] A.tm H2 = some [(false, [c]), (false, [d])] := by
      show optE (optE (A.tm.get s) none resV) none (fun x => optE (optE (optE (A.tm.get t) none resV) none fun x => optE (some []) none fun l => some (x :: l)) none fun l => some (x :: l)) = _
      rw [getS hs, getS ht]; rfl
    show optE (resAll E.P [.tmp s, .tmp t] A.tm H2) (R.bad "results") (fun l => R.ok [(tupOf l, H2)]) = _
    rw [hr]; rfl
  rcases he with rfl | rfl
  · exact key
  · exact key
theorem OwnR.of_get {H H' : Hp} {v : AC} {e : TypeId} {sz n : Nat} {cells : List AC} {r : Option Nat} (h : OwnR H v e sz n cells r) (hn : H.nx ≤ H'.nx) (hg : ∀ i, r = some i → i < H.nx → H'.get i = H.get i) : OwnR H' v e sz n cells r := by
  rcases h with h | ⟨id, lo, gen, h1, h2, h3, h4, h5, h6⟩
  · exact .inl h
  · exact .inr ⟨id, lo, gen, h1, h2, (hg id h1 h6).trans h3, h4, h5, Nat.lt_of_lt_of_le h6 hn⟩
theorem one_len (b : Bool) (x : Sp) : (one b x).length ≤ 1 := by
  unfold one
  split
  · exact Nat.le_refl _
  · exact Nat.zero_le _
theorem slipsAt_len (us : List Pr) (cs vs : List Int) (n : Int) (i : Nat) : (slipsAt us cs vs n i).length ≤ 4 := by
  unfold slipsAt
  have h1 := one_len (decide (0 < cs.getD i 0)) (1, (us.getD i ([], 0)).1, n - vs.getD i 0)
  have h2 := one_len (roomB us i (cs.getD i 0 + 1)) (2, (us.getD i ([], 0)).1, n + vs.getD i 0)
  rw [List.length_append, List.length_append]
  split
  · rw [List.length_nil]; omega
  · have h3 := one_len (cs.getD i 0 == 0 && decide (0 < cs.getD (i + 1) 0) && roomB us i (cs.getD (i + 1) 0)) (3, (us.getD i ([], 0)).1, n - cs.getD (i + 1) 0 * vs.getD (i + 1) 0 + cs.getD (i + 1) 0 * vs.getD i 0)
    have h4 := one_len (cs.getD (i + 1) 0 == 0 && decide (0 < cs.getD i 0) && roomB us (i + 1) (cs.getD i 0)) (4, (us.getD (i + 1) ([], 0)).1, n - cs.getD i 0 * vs.getD i 0 + cs.getD i 0 * vs.getD (i + 1) 0)
    rw [List.length_append]; omega
theorem slipsL_len (us : List Pr) (cs vs : List Int) (n : Int) : (slipsL us cs vs n).length ≤ 4 * us.length := by
  unfold slipsL
  have key : ∀ k, ((List.range k).flatMap (slipsAt us cs vs n)).length ≤ 4 * k := fun k => by
    induction k with
    | zero => exact Nat.le_refl _
    | succ k ih =>
      rw [List.range_succ, List.flatMap_append, List.length_append, List.flatMap_cons, List.flatMap_nil, List.append_nil]
      have := slipsAt_len us cs vs n k
      omega
  exact key us.length
noncomputable def slpE (nm : List UInt8) (us : List Pr) (n : Int) : Int := if chkLad nm us ≠ 0 then chkLad nm us else if n < 1 ∨ 1099511627776 < n then 8 else 0
set_option maxRecDepth 10000 in
set_option maxHeartbeats 16000000 in
theorem slipsP_con (H : Hp) (nm : List UInt8) (u : AC) (us : List Pr) (n : Int) (hu : SlP H u us) :
    Con E2 32 [.agg [.o (.str nm), u], .one (.i .i64 n)] H (fun _ => False) fun r H' => ∃ c out, r = .tup [(false, [c]), (false, [.i .i64 (slpE nm us n)])] ∧ SlSp H' c out ∧ (slpE nm us n ≠ 0 → out = []) ∧ (slpE nm us n = 0 → chkLad nm us = 0 ∧ 1 ≤ n ∧ n ≤ 1099511627776 ∧ out.Perm (slipsL us (splitA us n) (valsS nm us) n) ∧ List.Pairwise (fun x y : Sp => ¬ y.2.2 < x.2.2) out ∧ out.length ≤ 48) := by
  refine Con.of rfl fun lg => ?_
  have hu : SlP ⟨H.t, H.nx, lg⟩ u us := hu
  generalize (⟨H.t, H.nx, lg⟩ : Hp) = H at hu ⊢
  refine C1.body (E := E2) (nt := 31) (res := [.tmp 4, .tmp 5]) Tryz.func32 rfl rfl rfl rfl rfl fun tm hargs => ?_
  have h0 := hargs 0 _ rfl
  have h1 := hargs 1 _ rfl
  clear hargs
  have hid0 : ∀ id ∈ (AV.one u).ids, id < H.nx := hu.lt
  have bad : ∀ (e : Int) (A : AAct) (H3 : Hp), slot A.tm 4 = .one (.o .nilS) → slot A.tm 5 = .one (.i .i64 e) → A.dfr = [] → Gr H H3 → e = slpE nm us n → e ≠ 0 → ∃ w H4, callEnd E2 [.tmp 4, .tmp 5] (.ret, A, H3) = .ok [(w, H4)] ∧ Gr H H4 ∧ ∀ lg' : List Nat, ∃ c out, w = .tup [(false, [c]), (false, [.i .i64 (slpE nm us n)])] ∧ SlSp ⟨H4.t, H4.nx, lg'⟩ c out ∧ (slpE nm us n ≠ 0 → out = []) ∧ (slpE nm us n = 0 → chkLad nm us = 0 ∧ 1 ≤ n ∧ n ≤ 1099511627776 ∧ out.Perm (slipsL us (splitA us n) (valsS nm us) n) ∧ List.Pairwise (fun x y : Sp => ¬ y.2.2 < x.2.2) out ∧ out.length ≤ 48) := fun e A H3 h1 h2 hd hg he hn =>
    ⟨_, H3, callEnd_two (.o .nilS) (.i .i64 e) (.inr rfl) hd h1 h2, hg, fun _ => ⟨.o .nilS, [], by rw [he], SlSp.nil, fun _ => rfl, fun h => absurd (he.trans h) hn⟩⟩
  have hlu : ltV (.one u) H.nx := hu.lt
  refine zG tyS fun K hK => ?_
  refine hK.out _ _ ?_
  refine R1.gen (fun A1 H1 => Gr H H1 ∧ H.nx + 1 = H1.nx ∧ H1.get H.nx = some (.arr [.o (.str nm), u] 68 0 0) ∧ slot A1.tm 1 = .one (.i .i64 (n : Int)) ∧ slot A1.tm 2 = .one ((.o (.ptr H.nx 0 0 2))) ∧ A1.nt = 31 ∧ A1.dfr = [])
    ⟨(Fr.refl _).new _, rfl, get_newE rfl, zL⟩ ?_
  clear h0 h1 tm hK K hlu
  rintro A1 H1 ⟨g1, n1, r1, t1, t2, hnt, hdf⟩
  have hu1 : SlP H1 u us := hu.gr g1
  obtain ⟨c1, hc1⟩ : ∃ c, c = H.nx := ⟨_, rfl⟩
  rw [← hc1] at r1 t2 n1
  have l1 : c1 < H1.nx := by omega
  have hcH : H.nx ≤ c1 := by omega
  replace hc1 : Hd _ := hc1
  replace n1 : Hd _ := n1
  refine zG (qA tyS bd_check) fun K hK => ?_
  refine WE.con (check_con H1 nm u us hu1) fun w H2 g2 hq => ?_
  subst hq
  have r1 := (g2.get _ l1 not_false).trans r1
  have l1 := Nat.lt_of_lt_of_le l1 g2.nx
  have hu2 : SlP H2 u us := hu1.gr g2
  have g2 := g1.gr g2
  by_cases hck : chkLad nm us = 0
  case neg =>
    have ce : (chkLad nm us == 0) = false := beq_false_of_ne hck
    have he : chkLad nm us = slpE nm us n := by unfold slpE; rw [if_pos hck]
    generalize chkLad nm us = e0 at ce he hck ⊢
    replace he : Hd _ := he
    replace hck : Hd _ := hck
    refine zK tyS ?_
    exact bad e0 _ _ qp qp qe g2 he.out hck.out
  have ce : (chkLad nm us == 0) = true := beq_iff_eq.2 hck
  by_cases q1 : n < 1
  · have he : 8 = slpE nm us n := by unfold slpE; rw [if_neg (fun h => h hck), if_pos (.inl q1)]
    replace he : Hd _ := he
    replace hck : Hd _ := hck
    refine zK tyS ?_
    exact bad 8 _ _ qp qp qe g2 he.out (by decide)
  by_cases q2 : 1099511627776 < n
  · have he : 8 = slpE nm us n := by unfold slpE; rw [if_neg (fun h => h hck), if_pos (.inr q2)]
    replace he : Hd _ := he
    replace hck : Hd _ := hck
    refine zK tyS ?_
    exact bad 8 _ _ qp qp qe g2 he.out (by decide)
  have he : slpE nm us n = 0 := by unfold slpE; rw [if_neg (fun h => h hck), if_neg (fun h => h.elim q1 q2)]
  have hn1 : 1 ≤ n := by omega
  have hn2 : n ≤ 1099511627776 := by omega
  have hSB := small_b hck (show 0 ≤ n by omega) hn2
  have hL12 := (chkLad_ok hck).1
  clear bad
  replace he : Hd _ := he
  replace hck : Hd _ := hck
  replace hSB : Hd _ := hSB
  refine zK tyS ?_
  refine R1.gen (fun A3 H3 => Gr H2 H3 ∧ H2.nx < H3.nx ∧ H3.get H2.nx = some (.arr [.o .nilS] 70 0 0) ∧ slot A3.tm 1 = .one (.i .i64 (n : Int)) ∧ slot A3.tm 2 = .one ((.o (.ptr c1 0 0 2))) ∧ slot A3.tm 7 = .one ((.o (.ptr H2.nx 0 0 1))) ∧ A3.nt = 31 ∧ A3.dfr = [])
    ⟨(Fr.refl _).new _, Nat.lt_succ_self _, get_newE rfl, zL⟩ ?_
  clear t1 t2 hnt hdf A1 hK K q1 q2
  rintro A3 H3 ⟨g3, m3, r3, t1, t2, t7, hnt, hdf⟩
  obtain ⟨c3, hc3⟩ : ∃ c, c = H2.nx := ⟨_, rfl⟩
  rw [← hc3] at m3 r3 t7
  have r1 := (g3.get _ l1 not_false).trans r1
  have l1 := Nat.lt_of_lt_of_le l1 g3.nx
  have hu3 : SlP H3 u us := hu2.gr g3
  have g3' := g2.gr g3
  have o13 : c1 < c3 := by have := g2.nx; have := hc1.out; have := n1.out; have := hu2; omega
  have hc3H : H.nx ≤ c3 := by have := g2.nx; omega
  clear hc3 g3 g2
  have hlu3 := hu3.lt
  refine zG (qA tyS bd_slips) fun K hK => ?_
  refine WE.con (slips_con H3 (.o (.str nm)) u n hu3.lt) fun v H5 g5 ⟨hv, hil, hrn, hln⟩ => ?_
  subst hv
  refine zS tyS ?_
  refine hK.out _ _ ?_
  refine R1.genA (fun A4 => slot A4.tm 7 = .one ((.o (.ptr c3 0 0 1))) ∧ slot A4.tm 22 = .one ((.o (.clo 107 [(H3.nx, 0, 0, 2), (H3.nx + 1, 0, 0, 1)]))) ∧ A4.nt = 31 ∧ A4.dfr = []) zL ?_
  clear t1 t2 t7 hnt hdf A3 hK K
  rintro A ⟨t7, t22, hnt, hdf⟩
  have gg : Gr H H5 := g3'.gr g5
  have r3 := (g5.get _ m3 not_false).trans r3
  have hu5 : SlP H5 u us := hu3.gr g5
  obtain ⟨il, hild⟩ : ∃ i, i = H3.nx := ⟨_, rfl⟩
  rw [← hild] at hil hrn hln t22 m3
  have hid1 : ∀ id ∈ (AV.one u).ids, id < c3 := fun id h => Nat.lt_of_lt_of_le (hid0 id h) hc3H
  clear hild hlu3 r1 l1
  obtain ⟨zs, hzs, hzsl⟩ := zx_slip
  have hSl := slipsL_len us (splitA us n) (valsS nm us) n
  have hSok : ∀ x ∈ slipsL us (splitA us n) (valsS nm us) n, okN x.2.2 = true := fun x hx => ((slip_mem hck.out hn1 x).1 hx).1
  generalize hS : slipsL us (splitA us n) (valsS nm us) n = S at hSl hSok
  have hS48 : S.length ≤ 48 := by omega
  have hc3g : c3 < H5.nx := Nat.lt_of_lt_of_le m3 (by omega)
  refine R1.s_block fun K k1 k2 k3 k4 => ?_
  refine R1.range (σ := AC × Option Nat) (g := 107) (caps := [(il, 0, 0, 2), (il + 1, 0, 0, 1)]) (n := S.length) (ar := slA S) (D := fun k => k = il ∨ k = il + 1 ∨ k ∈ (AV.one u).ids) (by simp only [evTmp, t22]) bd_slips1 (fun _ => rfl)
    (slips1_it H5 il (il + 1) nm u us n (by omega) hil hln hrn hu5 hck.out hn1 hn2 _ _ rfl rfl hSB.out S hS) (fun k hk => by
      rcases hk with h | h | h
      · omega
      · omega
      · exact Nat.lt_trans (hid1 k h) hc3g) (by rw [hnt]; rfl) (fun i _ => slA_len S i)
    (fun i s H6 => H6.get c3 = some (.arr [s.1] 70 0 0) ∧ OwnR H6 s.1 75 3 i ((S.take i).flatMap spC) s.2 ∧ (∀ q, s.2 = some q → H5.nx + 2 ≤ q) ∧ H5.nx ≤ H6.nx)
    (fun _ _ _ => False)
    (fun s k => k = c3 ∨ s.2 = some k) ?_ ?_ ?_ (.o .nilS, none) ?_ ?_ ?_ ?_
  · rintro i s H6 H7 ⟨a1, a2, a3, a4⟩ hs
    exact ⟨by rw [hs.get _ (by omega) (by omega)]; exact a1, OwnR.of_get a2 hs.nx fun q hq hl => hs.get q hl (by have := a3 q hq; omega), a3, Nat.le_trans a4 hs.nx⟩
  · rintro e s H6 H7 h hs
    exact h
  · rintro i s H6 k ⟨a1, a2, a3, a4⟩ hk
    rcases hk with rfl | hk
    · refine ⟨by omega, by omega, by omega, fun h => ?_⟩
      rcases h with h | h | h
      · omega
      · omega
      · have := hid1 _ h; omega
    · have h5 := a3 k hk
      have h6 : k < H6.nx := by
        rcases a2 with ⟨_, _, _, h⟩ | ⟨q, lo, gen, h, _, _, _, _, hlt⟩
        · rw [h] at hk; cases hk
        · rw [h] at hk; cases hk; exact hlt
      refine ⟨h6, by omega, by omega, fun h => ?_⟩
      rcases h with h | h | h
      · omega
      · omega
      · have := hid1 _ h; omega
  · intro H6 g6 n6
    exact ⟨by rw [g6.get _ (by omega) not_false]; exact r3, .inl ⟨rfl, rfl, rfl, rfl⟩, fun q h => (by cases h), g6.nx⟩
  · rintro i ⟨v, r⟩ H6 hi ⟨a1, a2, a3, a4⟩ n6
    have hy : S[i]? = some S[i] := List.getElem?_eq_getElem hi
    have htk : S.take (i + 1) = S.take i ++ [S[i]] := List.take_succ_eq_append_getElem hi
    generalize S[i] = y at hy htk
    rw [slA_at hy]
    obtain ⟨kd, sg, nn⟩ := y
    refine R1.genA (fun A7 => slot A7.tm 7 = .one (.o (.ptr c3 0 0 1)) ∧ slot A7.tm 23 = .agg [.i .i64 kd, .o (.str sg), .i .i64 nn] ∧ A7.nt = 31 ∧ A7.dfr = []) ⟨?_, ?_, hnt, rfl⟩ ?_
    · show slot (A.tm.set 23 _) 7 = _
      simp only [slot_set, Nat.reduceEqDiff, reduceIte, t7]
    · show slot (A.tm.set 23 _) 23 = _
      simp only [slot_set, reduceIte]; rfl
    clear t7 t22 hnt hdf r3
    rintro A7 ⟨t7, t23, hnt, hdf⟩
    replace hS : Hd _ := hS
    replace htk : Hd _ := htk
    clear hy hzsl hzs zs
    refine zW tyS ?_
    refine ⟨rfl, ((Fr.refl _).new _).mod _ (.inl (Nat.le_refl _)), fun H8 n8 s8 => ?_⟩
    have gu : H8.get H6.nx = some (.arr [.i .i64 kd, .o (.str sg), .i .i64 nn] 75 0 0) := by
      rw [s8.get _ (by show H6.nx < H6.nx + 1; omega) (by omega)]
      exact get_modE rfl
    have keep : ∀ k, k < H6.nx → k ≠ H5.nx + 1 → H8.get k = H6.get k := fun k hk hk2 => by
      rw [s8.get _ (by show k < H6.nx + 1; omega) hk2, get_modN (by omega), get_newL (by omega)]
    have n8' : H8.nx = H6.nx + 1 := n8
    have b1 : H8.get c3 = some (.arr [v] 70 0 0) := (keep c3 (by omega) (by omega)).trans a1
    have b2 : OwnR H8 v 75 3 i ((S.take i).flatMap spC) r := OwnR.of_get a2 (by omega) fun q hq hl => keep q hl (by have := a3 q hq; omega)
    have lu : H6.nx < H8.nx := by omega
    have m3 : c3 < H8.nx := by omega
    have hv8 := b2.lt
    have hr3 : ∀ q, r = some q → q ≠ c3 := fun q hq => by have := a3 q hq; omega
    obtain ⟨zs, hzs, hzsl⟩ := zx_slip
    obtain ⟨hlt5, v9, H9, r9, happ, how9, hf9, hr9⟩ := push_own el_slips by_slip hzs hzsl (by decide) b2 [.i .i64 kd, .o (.str sg), .i .i64 nn] rfl (by omega)
    have c9 : H9.get c3 = some (.arr [v] 70 0 0) := (hf9.get _ m3 fun h => hr3 _ h rfl).trans b1
    have m9 : c3 < H9.nx := Nat.lt_of_lt_of_le m3 hf9.nx
    have hv9 := how9.lt
    clear hzs hzsl zs keep n8 a1 a2 s8
    replace n8' : Hd _ := n8'
    replace hr9 : Hd _ := hr9
    replace how9 : Hd _ := how9
    replace hf9 : Hd _ := hf9
    replace b2 : Hd _ := b2
    replace hr3 : Hd _ := hr3
    replace a3 : Hd _ := a3
    refine R1.e_block fun K2 p1 p2 p3 p4 => ?_
    refine zG (qA tyS (qA repl1 happ)) fun K hK => ?_
    refine ⟨hlt5, ?_⟩
    refine zK tyS ?_
    have hr9' : c3 ≠ r9 ∧ H5.nx + 2 ≤ r9 := by
      rcases hr9.out with e | e
      · exact ⟨fun h => hr3.out r9 e h.symm, a3.out r9 e⟩
      · have := n8'.out; exact ⟨by omega, by omega⟩
    refine p1 _ _ ⟨qe, ?_, (v9, some r9), fun _ => ⟨get_modE rfl, ?_, fun q hq => by cases hq; exact hr9'.2, ?_⟩, fun h => absurd rfl h, fun k hk => ?_⟩
    · refine (hf9.out.mono fun k h => ?_).mod _ (.inr (.inl (.inl rfl)))
      exact .inl (.inr h)
    · rw [htk.out, List.flatMap_append]
      exact OwnR.fr how9.out (X := fun k => k = c3) ((Fr.refl _).mod _ (.inr rfl)) fun q hq h => hr9'.1 (by cases hq; exact h.symm)
    · have := hf9.out.nx; have := n8'.out; show H5.nx ≤ H9.nx; omega
    · rcases hk with h | h
      · exact .inl (.inl h)
      · cases h
        rcases hr9.out with e | e
        · exact .inl (.inr e)
        · have := n8'.out; exact .inr (by omega)
  · rintro ⟨v, r⟩ H6 ⟨a1, a2, a3, a4⟩ n6 hd6 hf6 hfp
    have g6 : Gr H H6 := gg.then hf6 fun k hk => .inl (by
      rcases hk with rfl | hk
      · exact hc3H
      · cases hk)
    have m3 : c3 < H6.nx := by omega
    rw [List.take_length] at a2
    refine k1 _ _ ?_
    refine R1.genA (fun A7 => slot A7.tm 7 = .one (.o (.ptr c3 0 0 1)) ∧ A7.nt = 31 ∧ A7.dfr = [H5.nx]) ⟨t7, hnt, by show H5.nx :: A.dfr = _; rw [hdf]⟩ ?_
    clear t7 t22 hnt hdf r3 hzs hzsl zs
    rintro A7 ⟨t7, hnt, hdf⟩
    have hv6 := a2.lt
    have hrr : ∀ q, r = some q → q ≠ c3 ∧ q ≠ H5.nx ∧ H.nx ≤ q := fun q hq => by have := a3 q hq; have := gg.nx; exact ⟨by omega, by omega, by omega⟩
    have hsort := sortS_con H6 v S r a2 hSok (by omega)
    replace hS : Hd _ := hS
    replace hd6 : Hd _ := hd6
    replace hrr : Hd _ := hrr
    replace hsort : Hd (Con E2 _ _ _ _ _) := hsort
    clear a2 a3 hf6 hfp
    refine zG (qA tyS bd_sortS) fun K hK => ?_
    refine WE.con hsort.out fun w H7 g7 ⟨hw, out, hso, hpe, hle, hpw⟩ => ?_
    subst hw
    clear hsort
    have d7 : H7.get c3 = some (.arr [v] 70 0 0) := (g7.get _ m3 fun h => (hrr.out _ h).1 rfl).trans a1
    have m7 : c3 < H7.nx := Nat.lt_of_lt_of_le m3 g7.nx
    have hv7 := hso.lt
    have q7 : H7.get H5.nx = some (.oth (.dfr true)) := (g7.get _ (by omega) fun h => (hrr.out _ h).2.1 rfl).trans hd6.out
    have gf : Gr H H7 := g6.then g7 fun k hk => .inl (hrr.out k hk).2.2
    replace hpe : Hd _ := hpe
    replace hpw : Hd _ := hpw
    replace hso : Hd _ := hso
    replace q7 : Hd _ := q7
    replace hle : Hd _ := hle
    refine zK tyS ?_
    refine ⟨_, H7.mod H5.nx (.oth (.dfr false)), callEnd_two_c v (.i .i64 0) (.inr rfl) ?_ qp qp, gf.mod _ (.inl gg.nx), fun lg' => ⟨v, out, by rw [he.out], ?_, fun h => absurd he.out h, fun _ => ⟨hck.out, hn1, hn2, ?_, hpw.out, by have := hle.out; omega⟩⟩⟩
    · simp only [putD_dfr, hdf]; exact closeAll_one q7.out
    · obtain ⟨e1, e2⟩ := hso.out
      refine ⟨e1, e2.imp id ?_⟩
      rintro ⟨id, g, off, e3, e4, e5⟩
      refine ⟨id, g, off, e3, e4, e5.of_get ?_⟩
      show (H7.mod H5.nx _).get id = H7.get id
      by_cases hid : id = H5.nx
      · subst hid
        obtain ⟨cells, e6, _⟩ := e5
        rw [q7.out] at e6
        cases e6
      · exact get_modN hid
    · exact hpe.out
  · rintro e s' H6 hne h
    exact h.elim
end Go.Proofs.YtekoajibckipkaaGreat
namespace Go.Proofs.YtekoajibckipkaaGreat
open Go Go.Eng
theorem bd_rSlipsL : hasBody Tryz.prog 75 = true := by kernel_rfl
theorem bd_rSplit' : hasBody Tryz.prog 116 = true := by kernel_rfl
theorem bd_rValues' : hasBody Tryz.prog 115 = true := by kernel_rfl
theorem bd_rSlip' : hasBody Tryz.prog 103 = true := by kernel_rfl
theorem DC_conQ {E : Env} {j m : Nat} {did : List DSy} {A : AAct} {d : Option Tmp} {H : Hp} {next : List DSy → AAct → Hp → Prop} {f : FuncId} {args : List AV} (V : AV → Prop) (hu : ∀ i, i < H.nx → Untou i (unordS m did))
    (h : ∀ h : Hp, Gr H h → Con E f args h (fun _ => False) fun v _ => V v)
    (hn : ∀ v c1 H', V v → H.nx ≤ c1 → H'.nx = c1 → Gr H H' → next (⟨j, none, H.nx, c1, []⟩ :: did) (putD A d v) H') : DC E j m did A d H next (.enter f args) := by
  show ∀ h : Hp, _ → _ → _ → _
  intro h' hnx hget _
  have hg : Gr H ⟨h'.t, h'.nx, H.log⟩ := ⟨Nat.le_of_eq hnx.symm, fun i hi _ => hget i hi (hu i hi), [], rfl, fun _ h => by cases h⟩
  refine (h _ hg h'.log).mono fun v h2 ⟨hgr, hv⟩ => ⟨hgr, fun H' e1 e2 e3 e4 => ?_⟩
  have hv := hv []
  have hle : H.nx ≤ h2.nx := by rw [← hnx]; exact hgr.nx
  exact hn v h2.nx H' hv hle e1 ⟨by rw [e1]; exact hle, fun i hi _ => e3 i hi, [], by rw [e2]; rfl, fun i hi => by cases hi⟩
theorem push2_own {P : Program} {H : Hp} {t e : TypeId} {sz by_ n : Nat} {z : Value} {v : AC} {cells : List AC} {r : Option Nat} (he : elemT P t = some (e, sz)) (hb : bytesT P e = some by_) (hz : zeroT P e = some z) (hzl : (ofValue z).cells.length = sz) (hsz : sz ≠ 0)
    (ho : OwnR H v e sz n cells r) (c0 : List AC) (hc0 : c0.length = 2 * sz) (hL : n + 2 ≤ 140737488355328 ∧ (n + 2) * by_ ≤ 140737488355328) :
    ltV (.one v) (H.new (.arr c0 e 0 0)).nx ∧ ∃ v' H' r', doAppend P (H.new (.arr c0 e 0 0)) t (.one v) (.one (.o (.sl H.nx 0 0 2 sz))) = .val (.one v') H' ∧
      OwnR H' v' e sz (n + 2) (cells ++ c0) (some r') ∧ Fr (fun i => r = some i) H H' ∧ (r = some r' ∨ H.nx ≤ r') := by
  have hown3 := ho.fr ((Fr.refl _ : Gr _ _).new (.arr c0 e 0 0)) fun _ _ h => h
  obtain ⟨v5, H5, r5, happ, how5, hf5, hr5⟩ := append_own (P := P) (t := t) (H := H.new (.arr c0 e 0 0)) (x := .one (.o (.sl H.nx 0 0 2 sz))) (k := 2) (c := c0) he hb hz hzl hsz hown3
    (by rw [srcOf_row (cells := c0) (by rw [get_newE rfl]; rfl) (by omega)]; simp only [List.drop_zero]; rw [List.take_of_length_le (by omega)]) (by decide) hc0 hL.1 hL.2
  refine ⟨hown3.lt, v5, H5, r5, happ, how5, ?_, ?_⟩
  · exact ((Fr.refl _ : Gr _ _).new (.arr c0 e 0 0)).none.then hf5 fun q hq => .inr hq
  · rcases hr5 with h | ⟨_, h⟩
    · exact .inl h
    · right; rw [h, nxNew]; omega
theorem replI2 : repl [.i .i64 0] 2 = [.i .i64 0, .i .i64 0] := rfl
theorem getD_some {l : List Int} {i : Nat} (h : i < l.length) : l[i]? = some (l.getD i 0) := by rw [List.getD_eq_getElem?_getD, List.getElem?_eq_getElem h]; rfl
theorem meantA_0 (cs vs : List Int) (n : Int) {i : Nat} (h : ¬ 0 < i) : meantA cs vs n i = [n - vs.getD i 0, n + vs.getD i 0] := by unfold meantA; rw [if_neg h, List.append_nil]
theorem meantA_s (cs vs : List Int) (n : Int) {i : Nat} (h : 0 < i) : meantA cs vs n i = [n - vs.getD i 0, n + vs.getD i 0] ++ [n - cs.getD i 0 * vs.getD i 0 + cs.getD i 0 * vs.getD (i - 1) 0, n - cs.getD (i - 1) 0 * vs.getD (i - 1) 0 + cs.getD (i - 1) 0 * vs.getD i 0] := by unfold meantA; rw [if_pos h]
def chB (s1 : Int) (bey : Bool) (b1 b3 m : Int) : Bool := !(s1 == 0) && (bey && (b1 == 0 || decide (m < b3)))
set_option maxRecDepth 10000 in
set_option maxHeartbeats 32000000 in
theorem rSlipsL_con (H : Hp) (nm : List UInt8) (u : AC) (us : List Pr) (n : Int) (hu : SlP H u us) (hck : chkLad nm us = 0) (hn1 : 1 ≤ n) (hn2 : n ≤ 1099511627776) :
    Con E2 75 [.agg [.o (.str nm), u], .one (.i .i64 n)] H (fun _ => False) fun r H' => ∃ c out, r = .one c ∧ SlSp H' c out ∧ out.length ≤ 48 ∧ ChoN nm us n (meantL (splitA us n) ((valsU 1 us).getD []) n us.length) out ∧
      ∀ m ∈ meantL (splitA us n) ((valsU 1 us).getD []) n us.length, goodM nm us n m → beyB out m = false := by
  refine Con.of rfl fun lg => ?_
  have hu : SlP ⟨H.t, H.nx, lg⟩ u us := hu
  generalize (⟨H.t, H.nx, lg⟩ : Hp) = H at hu ⊢
  refine C1.body (E := E2) (nt := 153) (res := [.tmp 4]) Tryz.func75 rfl rfl rfl rfl rfl fun tm hargs => ?_
  have h0 := hargs 0 _ rfl
  have h1 := hargs 1 _ rfl
  clear hargs
  have hlu := hu.lt
  refine zG tyS fun K hK => ?_
  refine hK.out _ _ ?_
  refine R1.gen (fun A1 H1 => Gr H H1 ∧ H.nx < H1.nx ∧ H1.get H.nx = some (.arr [.o (.str nm), u] 68 0 0) ∧ slot A1.tm 1 = .one (.i .i64 (n : Int)) ∧ slot A1.tm 2 = .one ((.o (.ptr H.nx 0 0 2))) ∧ A1.nt = 153 ∧ A1.dfr = [])
    ⟨(Fr.refl _).new _, Nat.lt_succ_self _, get_newE rfl, zL⟩ ?_
  clear h0 h1 tm hK K hlu
  rintro A1 H1 ⟨g1, m1, rx, t1, t2, hnt, hdf⟩
  obtain ⟨N, hN⟩ : ∃ N, N = H.nx := ⟨_, rfl⟩
  rw [← hN] at m1 rx t2
  clear hN
  have hu := hu.gr g1
  have hsp := split_eq hck hn1 hn2
  have hSB := small_b hck (show 0 ≤ n by omega) hn2
  have hL12 := (chkLad_ok hck).1
  have hU := (chkLad_ok hck).2.2
  have hcl := splitA_len us n
  have hvl := valsU_len' hck
  have hSM : ∀ i, i < us.length → (0 ≤ (splitA us n).getD i 0 ∧ (splitA us n).getD i 0 ≤ 1099511627776) ∧ 0 ≤ ((valsU 1 us).getD []).getD i 0 ∧ ((valsU 1 us).getD []).getD i 0 ≤ 1099511627776 := fun i hi => by
    have := hSB i hi
    rw [valsU_at hck hi, ← (valsS_at hck hi).1]
    exact ⟨this.1, this.2.1⟩
  have hSN : ∀ i, i + 1 < us.length → (0 ≤ (splitA us n).getD (i + 1) 0 * ((valsU 1 us).getD []).getD (i + 1) 0 ∧ (splitA us n).getD (i + 1) 0 * ((valsU 1 us).getD []).getD (i + 1) 0 ≤ 1099511627776) ∧ (0 ≤ (splitA us n).getD (i + 1) 0 * ((valsU 1 us).getD []).getD i 0 ∧ (splitA us n).getD (i + 1) 0 * ((valsU 1 us).getD []).getD i 0 ≤ 1125899906842624) ∧
      (0 ≤ (splitA us n).getD i 0 * ((valsU 1 us).getD []).getD i 0 ∧ (splitA us n).getD i 0 * ((valsU 1 us).getD []).getD i 0 ≤ 1099511627776) ∧ 0 ≤ (splitA us n).getD i 0 * ((valsU 1 us).getD []).getD (i + 1) 0 ∧ (splitA us n).getD i 0 * ((valsU 1 us).getD []).getD (i + 1) 0 ≤ 1125899906842624 := fun i hi => by
    have := (hSB i (by omega)).2.2 hi
    rw [valsU_at hck (by omega : i < us.length), valsU_at hck hi, ← (valsS_at hck (by omega : i < us.length)).1, ← (valsS_at hck hi).1]
    exact this
  clear hSB
  refine zG (qA tyS bd_rSplit') fun K hK => ?_
  refine WE.con (rSplit_con H1 nm u us n hu) fun w' H2 g2 ⟨c1, hq, hc1⟩ => ?_
  subst hq
  rw [hsp] at hc1 ⊢
  replace hc1 : SlI H2 c1 (splitA us n) := hc1
  clear hsp
  have rx := (g2.get _ m1 not_false).trans rx
  have m1 := Nat.lt_of_lt_of_le m1 g2.nx
  have hu := hu.gr g2
  have g2 := g1.gr g2
  clear g1
  replace hcl : Hd _ := hcl
  replace hvl : Hd _ := hvl
  replace hck : Hd _ := hck
  replace hSM : Hd _ := hSM
  replace hSN : Hd _ := hSN
  replace hU : Hd _ := hU
  have lc := hc1.lt
  refine zK tyS ?_
  refine zG (qA tyS bd_rValues') fun K hK => ?_
  refine WE.con (values_con H2 nm u us hu (by omega) hU.out) fun w' H3 g3 ⟨c2, hq, hc2⟩ => ?_
  subst hq
  have rx := (g3.get _ m1 not_false).trans rx
  have m1 := Nat.lt_of_lt_of_le m1 g3.nx
  have hu := hu.gr g3
  have hc1 := hc1.gr g3
  have g3 := g2.gr g3
  clear g2 lc
  have lc1 := hc1.lt
  have lc2 := hc2.lt
  refine zK tyS ?_
  refine R1.gen (fun A4 H4 => H4 = H3 ∧ slot A4.tm 1 = .one (.i .i64 (n : Int)) ∧ slot A4.tm 2 = .one ((.o (.ptr N 0 0 2))) ∧ slot A4.tm 5 = .one (c1) ∧ slot A4.tm 7 = .one (c2) ∧ slot A4.tm 9 = .one ((.o .nilS)) ∧ slot A4.tm 10 = .one (.i .i64 (0 : Int)) ∧ A4.nt = 153 ∧ A4.dfr = []) ⟨rfl, zL⟩ ?_
  clear t1 t2 hnt hdf A1 hK K lc1 lc2
  rintro A1 H4 ⟨rfl, t1, t2, t5, t7, t9, t10, hnt, hdf⟩
  generalize hcs : splitA us n = cs at hc1 hcl hSM hSN
  generalize hvs : (valsU 1 us).getD [] = vs at hc2 hvl hSM hSN
  replace hcs : Hd _ := hcs
  replace hvs : Hd _ := hvs
  refine R1.s_bl fun K k1 k2 k3 k4 => ?_
  refine R1.loop (fun z A H5 => ∃ (i : Nat) (v : AC) (r : Option Nat), z = us.length - i ∧ i ≤ us.length ∧ Gr H4 H5 ∧ OwnR H5 v 3 1 (meantL cs vs n i).length ((meantL cs vs n i).flatMap intC) r ∧ (∀ q, r = some q → H4.nx ≤ q) ∧ slot A.tm 1 = .one (.i .i64 (n : Int)) ∧ slot A.tm 2 = .one ((.o (.ptr N 0 0 2))) ∧ slot A.tm 5 = .one (c1) ∧ slot A.tm 7 = .one (c2) ∧ slot A.tm 9 = .one (v) ∧ slot A.tm 10 = .one (.i .i64 (i : Int)) ∧ A.nt = 153 ∧ A.dfr = []) ?_ us.length
    ⟨0, .o .nilS, none, rfl, Nat.zero_le _, Fr.refl _, .inl ⟨rfl, rfl, rfl, rfl⟩, fun q hq => (by cases hq), zL⟩
  · clear t1 t2 t5 t7 t9 t10 hnt hdf A1 k3
    rintro z A H5 ⟨i, v, r, rfl, hi, g5, hown, hrow, t1, t2, t5, t7, t9, t10, hnt, hdf⟩
    have rx := (g5.get _ m1 not_false).trans rx
    have m1 := Nat.lt_of_lt_of_le m1 g5.nx
    have hc15 := hc1.gr g5
    have hc25 := hc2.gr g5
    have l1 := hc15.len
    rw [hcl.out] at l1
    have l2 := hc15.lt
    have l3 := hc25.lt
    have lv := hown.lt
    refine zW tyS ?_
    refine zI tyS (fun hc => ?_) (fun hc => ?_)
    · have hlt : i < us.length := by omega
      have hw2 : IntKind.i64.wrap ((i : Int) + 1) = ((i + 1 : Nat) : Int) := by rw [wrapI (by omega) (by omega)]; omega
      obtain ⟨id1, gg1, off1, cells1, rfl, hid1, hgr1, hat1⟩ := hc15.open (by rw [hcl.out]; omega)
      obtain ⟨id2, gg2, off2, cells2, rfl, hid2, hgr2, hat2⟩ := hc25.open (by rw [hvl.out]; omega)
      have hi1 : i < cs.length := by rw [hcl.out]; exact hlt
      have hi2 : i < vs.length := by rw [hvl.out]; exact hlt
      obtain ⟨b1, b2⟩ := hSM.out i hlt
      obtain ⟨e1, e2⟩ := hat2 i _ (getD_some hi2)
      have hM := meantL_succ cs vs n i
      have hML := meantL_len cs vs n i
      have hML2 : (meantL cs vs n i).length ≤ 48 := by omega
      have hwa : IntKind.i64.wrap (n - vs.getD i 0) = n - vs.getD i 0 := wrapI (by omega) (by omega)
      have hwb : IntKind.i64.wrap (n + vs.getD i 0) = n + vs.getD i 0 := wrapI (by omega) (by omega)
      obtain ⟨zi, hzi, hzil⟩ := zx_int
      obtain ⟨hlt5, v6, H6, r6, happ, ho6, hf6, hr6⟩ := push2_own el_ints by_int hzi hzil (by decide) hown [.i .i64 (n - vs.getD i 0), .i .i64 (n + vs.getD i 0)] rfl (by omega)
      clear hzi hzil zi
      replace hr6 : Hd _ := hr6
      replace ho6 : Hd _ := ho6
      replace hM : Hd _ := hM
      replace hat1 : Hd _ := hat1
      replace hat2 : Hd _ := hat2
      replace b1 : Hd _ := b1
      replace b2 : Hd _ := b2
      replace hrow : Hd _ := hrow
      clear hML
      have hk6 : ∀ k, k < H4.nx → H6.get k = H5.get k := fun k hk => hf6.get k (Nat.lt_of_lt_of_le hk g5.nx) fun h => by have := hrow.out k h; omega
      have hg6 : Gr H4 H6 := g5.then hf6 fun q hq => .inl (hrow.out q hq)
      replace hf6 : Hd _ := hf6
      replace hk6 : Hd _ := hk6
      replace hg6 : Hd _ := hg6
      refine zW tyS ?_
      refine R1.s_bl fun K2 q1 q2 q3 q4 => ?_
      refine zG (qA tyS (qA replI2 (qA (ixC hi1) (qA (ixC hi2) happ)))) fun K hK => ?_
      refine ⟨hlt5, ?_⟩
      refine hK.out _ _ ?_
      refine R1.genA (fun A5 => slot A5.tm 1 = .one (.i .i64 (n : Int)) ∧ slot A5.tm 2 = .one ((.o (.ptr N 0 0 2))) ∧ slot A5.tm 5 = .one ((.o (.sl id1 gg1 off1 cs.length 1))) ∧ slot A5.tm 7 = .one ((.o (.sl id2 gg2 off2 vs.length 1))) ∧ slot A5.tm 9 = .one (v6) ∧ slot A5.tm 10 = .one (.i .i64 (i : Int)) ∧ A5.nt = 153 ∧ A5.dfr = []) zL ?_
      clear t1 t2 t5 t7 t9 t10 hnt hdf A happ hK K hlt5 lv l1 l2 l3 hwa hwb e1 e2
      rintro A ⟨t1, t2, t5, t7, t9, t10, hnt, hdf⟩
      have hrow6 : ∀ q, some r6 = some q → H4.nx ≤ q := fun q hq => by
        cases hq
        rcases hr6.out with e | e
        · exact hrow.out _ e
        · exact Nat.le_trans g5.nx e
      replace hrow6 : Hd _ := hrow6
      by_cases h0 : 0 < i
      · have c0 : (0 : Int) < (i : Int) := by omega
        have hlt0 : i - 1 < us.length := by omega
        have hj1 : i - 1 < cs.length := by rw [hcl.out]; exact hlt0
        have hj2 : i - 1 < vs.length := by rw [hvl.out]; exact hlt0
        have hn6 : H4.nx ≤ H6.nx := hg6.out.nx
        have hidA : id1 < H4.nx := by have := hc1.lt; rw [ltV_sl] at this; exact this
        have hidB : id2 < H4.nx := by have := hc2.lt; rw [ltV_sl] at this; exact this
        have d1 : id1 < H6.nx := Nat.lt_of_lt_of_le hidA hn6
        have d2 : id2 < H6.nx := Nat.lt_of_lt_of_le hidB hn6
        have d3 : rowOf (H6.get id1) gg1 = some cells1 := by rw [hk6.out _ hidA]; exact hgr1
        have d4 : rowOf (H6.get id2) gg2 = some cells2 := by rw [hk6.out _ hidB]; exact hgr2
        obtain ⟨e1, e2⟩ := hat1.out i _ (getD_some hi1)
        obtain ⟨e3, e4⟩ := hat1.out (i - 1) _ (getD_some hj1)
        obtain ⟨e5, e6⟩ := hat2.out i _ (getD_some hi2)
        obtain ⟨e7, e8⟩ := hat2.out (i - 1) _ (getD_some hj2)
        have hM2 := meantA_s cs vs n h0
        have hB := hSN.out (i - 1) (by omega)
        rw [show i - 1 + 1 = i by omega] at hB
        have hw : IntKind.i64.wrap ((i : Int) - 1) = ((i - 1 : Nat) : Int) := by rw [wrapI (by omega) (by omega)]; omega
        have hm1 : IntKind.i64.wrap (cs.getD i 0 * vs.getD i 0) = cs.getD i 0 * vs.getD i 0 := wrapI (by omega) (by omega)
        have hm2 : IntKind.i64.wrap (cs.getD i 0 * vs.getD (i - 1) 0) = cs.getD i 0 * vs.getD (i - 1) 0 := wrapI (by omega) (by omega)
        have hm3 : IntKind.i64.wrap (cs.getD (i - 1) 0 * vs.getD (i - 1) 0) = cs.getD (i - 1) 0 * vs.getD (i - 1) 0 := wrapI (by omega) (by omega)
        have hm4 : IntKind.i64.wrap (cs.getD (i - 1) 0 * vs.getD i 0) = cs.getD (i - 1) 0 * vs.getD i 0 := wrapI (by omega) (by omega)
        have hs1 : IntKind.i64.wrap (n - cs.getD i 0 * vs.getD i 0) = n - cs.getD i 0 * vs.getD i 0 := wrapI (by omega) (by omega)
        have hs2 : IntKind.i64.wrap (n - cs.getD i 0 * vs.getD i 0 + cs.getD i 0 * vs.getD (i - 1) 0) = n - cs.getD i 0 * vs.getD i 0 + cs.getD i 0 * vs.getD (i - 1) 0 := wrapI (by omega) (by omega)
        have hs3 : IntKind.i64.wrap (n - cs.getD (i - 1) 0 * vs.getD (i - 1) 0) = n - cs.getD (i - 1) 0 * vs.getD (i - 1) 0 := wrapI (by omega) (by omega)
        have hs4 : IntKind.i64.wrap (n - cs.getD (i - 1) 0 * vs.getD (i - 1) 0 + cs.getD (i - 1) 0 * vs.getD i 0) = n - cs.getD (i - 1) 0 * vs.getD (i - 1) 0 + cs.getD (i - 1) 0 * vs.getD i 0 := wrapI (by omega) (by omega)
        obtain ⟨zi, hzi, hzil⟩ := zx_int
        obtain ⟨hlt7, v8, H8, r8, happ, ho8, hf8, hr8⟩ := push2_own el_ints by_int hzi hzil (by decide) ho6.out [.i .i64 (n - cs.getD i 0 * vs.getD i 0 + cs.getD i 0 * vs.getD (i - 1) 0), .i .i64 (n - cs.getD (i - 1) 0 * vs.getD (i - 1) 0 + cs.getD (i - 1) 0 * vs.getD i 0)] rfl (by omega)
        clear hzi hzil zi
        replace hr8 : Hd _ := hr8
        replace ho8 : Hd _ := ho8
        replace hf8 : Hd _ := hf8
        replace hM2 : Hd _ := hM2
        clear hB hgr1 hgr2 hid1 hid2 hn6 hidA hidB
        refine zW tyS ?_
        refine zG (qA tyS (qA replI2 (qA (ixC hi1) (qA (ixC hi2) (qA (ixC hj1) (qA (ixC hj2) happ)))))) fun K hK => ?_
        try refine ⟨hlt7, ?_⟩
        refine zK tyS ?_
        refine q1.out _ _ ?_
        refine zW tyS ?_
        have hr8' : ∀ q, some r8 = some q → H4.nx ≤ q := fun q hq => by
          cases hq
          rcases hr8.out with e | e
          · exact hrow6.out _ e
          · exact Nat.le_trans hg6.out.nx e
        have hE : meantL cs vs n (i + 1) = (meantL cs vs n i ++ [n - vs.getD i 0, n + vs.getD i 0]) ++ [n - cs.getD i 0 * vs.getD i 0 + cs.getD i 0 * vs.getD (i - 1) 0, n - cs.getD (i - 1) 0 * vs.getD (i - 1) 0 + cs.getD (i - 1) 0 * vs.getD i 0] := by rw [hM.out, hM2.out, List.append_assoc]
        exact ⟨us.length - (i + 1), by omega, i + 1, v8, some r8, rfl, hlt, hg6.out.then hf8.out fun q hq => .inl (hrow6.out q hq), by
          rw [hE, List.length_append, List.length_append, List.flatMap_append, List.flatMap_append]
          exact ho8.out, hr8', zL⟩
      · have c0 : ¬ (0 : Int) < (i : Int) := by omega
        have hM2 := meantA_0 cs vs n h0
        replace hM2 : Hd _ := hM2
        refine zW tyS ?_
        refine q1.out _ _ ?_
        refine zW tyS ?_
        exact ⟨us.length - (i + 1), by omega, i + 1, v6, some r6, rfl, hlt, hg6.out, by
          rw [hM.out, hM2.out, List.length_append, List.flatMap_append]
          exact ho6.out, hrow6.out, zL⟩
    · have hie : i = us.length := by omega
      rw [hie] at hown
      clear hie hc15 hc25 l1 l2 l3
      replace hrow : Hd _ := hrow
      have hCL := meantL_len cs vs n us.length
      have hCL2 : (meantL cs vs n us.length).length ≤ 48 := by omega
      generalize hC : meantL cs vs n us.length = C at hown hCL2
      clear hCL
      replace hC : Hd _ := hC
      have hg5 := g3.gr g5
      refine zW tyS ?_
      refine k2.out _ _ ?_
      refine zW tyS ?_
      have hCI : SlI H5 v C := hown.slc
      clear hown hrow t5 t7
      have hu5 := hu.gr g5
      refine R1.e_bl fun K k1 k2 k3 k4 => ?_
      refine R1.loop (fun z A H6 => ∃ (out : List Sp) (v2 : AC) (r : Option Nat), z = remN C out ∧ remN C out + out.length ≤ C.length ∧ Gr H5 H6 ∧ Hd (ChoN nm us n C out) ∧ OwnR H6 v2 75 3 out.length (out.flatMap spC) r ∧ (∀ q, r = some q → H5.nx ≤ q) ∧ slot A.tm 1 = .one (.i .i64 (n : Int)) ∧ slot A.tm 2 = .one ((.o (.ptr N 0 0 2))) ∧ slot A.tm 9 = .one (v) ∧ slot A.tm 11 = .one (v2) ∧ A.nt = 153 ∧ A.dfr = []) ?_ (remN C [])
        ⟨[], .o .nilS, none, rfl, by unfold remN; exact List.length_filter_le _ _, Fr.refl _, ChoN.nil, .inl ⟨rfl, rfl, rfl, rfl⟩, fun q hq => (by cases hq), zL⟩
      clear t1 t2 t9 t10 hnt hdf A k3 lv
      rintro z A H6 ⟨out, v2, r, rfl, hro, g6, hcho, hown, hrow, t1, t2, t9, t11, hnt, hdf⟩
      have rx := (g6.get _ m1 not_false).trans rx
      have m1 := Nat.lt_of_lt_of_le m1 g6.nx
      have hCI6 := hCI.gr g6
      have lv := hCI6.lt
      have lv2 := hown.lt
      replace hrow : Hd _ := hrow
      refine R1.e_bl fun K3 p1 p2 p3 p4 => ?_
      refine zG tyS fun K hK => ?_
      refine hK.out _ _ ?_
      refine R1.gen (fun A7 H7 => Gr H6 H7 ∧ H6.nx < H7.nx ∧ H7.get H6.nx = some (.arr [.i .i64 0, .o (.str []), .i .i64 0] 75 0 0) ∧ slot A7.tm 1 = .one (.i .i64 (n : Int)) ∧ slot A7.tm 2 = .one ((.o (.ptr N 0 0 2))) ∧ slot A7.tm 9 = .one (v) ∧ slot A7.tm 11 = .one (v2) ∧ slot A7.tm 12 = .one ((.o (.ptr H6.nx 0 0 3))) ∧ A7.nt = 153 ∧ A7.dfr = [])
        ⟨((Fr.refl _).new _).mod _ (.inl (Nat.le_refl _)), Nat.lt_succ_self _, get_modE rfl, zL⟩ ?_
      clear t1 t2 t9 t11 hnt hdf A hK K
      rintro A H7 ⟨g7, mM, rM, t1, t2, t9, t11, t12, hnt, hdf⟩
      have hown7 := hown.fr g7 fun _ _ h => h
      obtain ⟨M, hM⟩ : ∃ M, M = H6.nx := ⟨_, rfl⟩
      rw [← hM] at mM rM t12
      have hM6 : H6.nx ≤ M := by omega
      clear hM
      refine zW tyS ?_
      refine R1.s_bl fun K4 j1 j2 j3 j4 => ?_
      refine R1.loop (fun z A H8 => ∃ (j : Nat) (b1 : Int) (b2 : List UInt8) (b3 : Int), z = C.length - j ∧ j ≤ C.length ∧ Gr H6 H8 ∧ M < H8.nx ∧ H8.get M = some (.arr [.i .i64 b1, .o (.str b2), .i .i64 b3] 75 0 0) ∧ Hd (BestN nm us n out (C.take j) (b1, b2, b3)) ∧ slot A.tm 1 = .one (.i .i64 (n : Int)) ∧ slot A.tm 2 = .one ((.o (.ptr N 0 0 2))) ∧ slot A.tm 9 = .one (v) ∧ slot A.tm 11 = .one (v2) ∧ slot A.tm 12 = .one ((.o (.ptr M 0 0 3))) ∧ slot A.tm 13 = .one (.i .i64 (j : Int)) ∧ A.nt = 153 ∧ A.dfr = []) ?_ C.length
        ⟨0, 0, [], 0, rfl, Nat.zero_le _, g7, mM, rM, BestN.nil rfl, zL⟩
      · clear t1 t2 t9 t11 t12 hnt hdf A j3 mM rM lv lv2
        rintro z A H8 ⟨j, b1, b2, b3, rfl, hj, g8, mM, rM, hbest, t1, t2, t9, t11, t12, t13, hnt, hdf⟩
        have hCI8 := hCI6.gr g8
        have hown8 := hown.fr g8 fun _ _ h => h
        have rx := (g8.get _ m1 not_false).trans rx
        have m1 := Nat.lt_of_lt_of_le m1 g8.nx
        have lv := hCI8.lt
        have lv2 := hown8.lt
        have ll := hCI8.len
        refine zW tyS ?_
        refine zI tyS (fun hc => ?_) (fun hc => ?_)
        · have hlt : j < C.length := by omega
          have ex : C[j]? = some C[j] := List.getElem?_eq_getElem hlt
          have hdr : C.drop j = C[j] :: C.drop (j + 1) := List.drop_eq_getElem_cons hlt
          have htk : C.take (j + 1) = C.take j ++ [C[j]] := List.take_succ_eq_append_getElem hlt
          have hmem : C[j] ∈ C := List.getElem_mem hlt
          generalize C[j] = m at ex hdr htk hmem
          have hw2 : IntKind.i64.wrap ((j : Int) + 1) = ((j + 1 : Nat) : Int) := by rw [wrapI (by omega) (by omega)]; omega
          obtain ⟨idC, gC, offC, cellsC, rfl, hidC, hgrC, hatC⟩ := hCI8.open (by omega)
          obtain ⟨e1, e2⟩ := hatC j m ex
          have hu8 := (hu5.gr g6).gr g8
          clear hatC hdr
          replace htk : Hd _ := htk
          replace ex : Hd _ := ex
          replace hmem : Hd _ := hmem
          refine zW tyS ?_
          refine R1.s_bl fun K5 i1 i2 i3 i4 => ?_
          repeat refine R1.s_assoc ?_
          repeat refine R1.s_assoc ?_
          (first | refine R1.s_drw (ms := [0, 0, 0, 6, 14, 0, 63, 0, 255]) (by kernel_rfl) (by kernel_rfl) fun K hK => ?_ | refine R1.e_drw (ms := [0, 0, 0, 6, 14, 0, 63, 0, 255]) (by kernel_rfl) (by kernel_rfl) fun K hK => ?_)
          simp (config := {decide := true}) only [qB, slotOk, Nat.reduceLT, Nat.reduceAdd, qD, Untou, unordS, E2_P, t1, t2, t9, t13, hnt, rx, m1, ld_lad, ld_int, el_ints, indexAddr_cast hlt, hidC, hgrC, e1, e2, bd_rSlip']
          refine DC_conQ (fun w => ∃ sg x, w = .agg [.i .i64 (slipE nm us m n), .o (.str sg), .i .i64 x] ∧ (slipE nm us m n ≠ 0 → sg = slipG nm us m n ∧ x = m)) ?_ (fun h hg => rSlipX_con h nm u us m n (hu8.gr hg)) ?_
          · exact unU (by simp (config := {decide := true}) only [unordS, if_true])
          rintro w kx H9 ⟨sg, x, rfl, hsx⟩ hkx hn9 g9
          subst hn9
          simp (config := {decide := true}) only [qB, Nat.reduceLT, Nat.reduceAdd, qD, Untou, Unseen, unordS, hnt, zr_slip, sz_slip]
          refine hK _ _ ?_
          refine R1.gen (fun A10 H10 => Gr H8 H10 ∧ H9.nx < H10.nx ∧ H10.get H9.nx = some (.arr [.i .i64 (slipE nm us m n), .o (.str sg), .i .i64 x] 75 0 0) ∧ slot A10.tm 1 = .one (.i .i64 (n : Int)) ∧ slot A10.tm 2 = .one ((.o (.ptr N 0 0 2))) ∧ slot A10.tm 9 = .one ((.o (.sl idC gC offC C.length 1))) ∧ slot A10.tm 11 = .one (v2) ∧ slot A10.tm 12 = .one ((.o (.ptr M 0 0 3))) ∧ slot A10.tm 13 = .one (.i .i64 (j : Int)) ∧ slot A10.tm 14 = .one ((.o (.ptr H9.nx 0 0 3))) ∧ A10.nt = 153 ∧ A10.dfr = [])
            ⟨(g9.new _).mod _ (.inl g9.nx), Nat.lt_succ_self _, get_modE rfl, zL⟩ ?_
          clear t1 t2 t9 t11 t12 t13 hnt hdf A hK K e1 e2 hidC hgrC hc lv2 ll
          rintro A H10 ⟨g10, m2, r2, t1, t2, t9, t11, t12, t13, t14, hnt, hdf⟩
          obtain ⟨M2, hM2⟩ : ∃ M2, M2 = H9.nx := ⟨_, rfl⟩
          rw [← hM2] at m2 r2 t14
          have hMM : M < M2 := by have := g9.nx; omega
          clear hM2
          have rx := (g10.get _ m1 not_false).trans rx
          have m1 := Nat.lt_of_lt_of_le m1 g10.nx
          have rM := (g10.get _ mM not_false).trans rM
          have mM := Nat.lt_of_lt_of_le mM g10.nx
          generalize hs1 : slipE nm us m n = s1 at hsx r2
          replace hs1 : Hd _ := hs1
          have hown10 := hown8.fr g10 fun _ _ h => h
          have hso : SlSp H10 v2 out := hown10.slc
          have ll := hso.len
          have lv2 := hso.lt
          have lvC := lv
          clear lv hown8 hown10 hu8 hCI8
          replace hsx : Hd _ := hsx
          repeat refine R1.s_assoc ?_
          refine R1.s_h (by kernel_rfl) fun K7 hK7 => ?_
          suffices hgo : ∀ (A4 : AAct) (c : Bool), c = chB s1 (beyB out m) b1 b3 m → (slot A4.tm 1 = .one (.i .i64 (n : Int)) ∧ slot A4.tm 2 = .one ((.o (.ptr N 0 0 2))) ∧ slot A4.tm 9 = .one ((.o (.sl idC gC offC C.length 1))) ∧ slot A4.tm 11 = .one (v2) ∧ slot A4.tm 12 = .one ((.o (.ptr M 0 0 3))) ∧ slot A4.tm 13 = .one (.i .i64 (j : Int)) ∧ slot A4.tm 14 = .one ((.o (.ptr M2 0 0 3))) ∧ slot A4.tm 143 = .one (.b c) ∧ A4.nt = 153 ∧ A4.dfr = []) → K7 A4 H10 by
            clear hK7
            replace hgo : Hd _ := hgo
            by_cases q1 : s1 = 0
            · have ce : (s1 == 0) = true := beq_iff_eq.2 q1
              replace q1 : Hd _ := q1
              refine zS tyS ?_
              exact hgo.out _ false (by unfold chB; rw [ce]; rfl) zL
            · have ce : (s1 == 0) = false := beq_false_of_ne q1
              have hxm := (hsx.out q1).2
              rw [hxm] at r2
              replace q1 : Hd _ := q1
              clear hxm
              rcases Nat.eq_zero_or_pos out.length with h0 | h0
              · have cl : (((out.length : Nat) : Int) == 0) = true := by rw [h0]; rfl
                have hbey : beyB out m = true := by rw [List.eq_nil_of_length_eq_zero h0]; rfl
                replace h0 : Hd _ := h0
                replace hbey : Hd _ := hbey
                by_cases q2 : b1 = 0
                · have cb : (b1 == 0) = true := beq_iff_eq.2 q2
                  replace q2 : Hd _ := q2
                  refine zS tyS ?_
                  exact hgo.out _ true (by unfold chB; rw [ce, hbey.out, cb]; rfl) zL
                · have cb : (b1 == 0) = false := beq_false_of_ne q2
                  replace q2 : Hd _ := q2
                  refine zS tyS ?_
                  exact hgo.out _ (decide (m < b3)) (by unfold chB; rw [ce, hbey.out, cb]; rfl) zL
              · have hlt3 : out.length - 1 < out.length := by omega
                have hy : out[out.length - 1]? = some out[out.length - 1] := List.getElem?_eq_getElem hlt3
                generalize out[out.length - 1] = y at hy
                have hbey : beyB out m = decide (y.2.2 < m) := by rw [bey_last hcho.out.ord, List.getLast?_eq_getElem?, hy]
                obtain ⟨id3, gg3, off3, cells3, rfl, hid3, hgr3, hat3⟩ := hso.open h0
                have hz := hat3 _ _ hy
                obtain ⟨y1, y2, y3⟩ := y
                have f2 : (cells3.drop (off3 + (out.length - 1) * 3 + 2)).headD (.b false) = .i .i64 y3 := hz.f2
                have f3 := hz.le1
                have f4 := hz.le3
                have cl : (((out.length : Nat) : Int) == 0) = false := beq_false_of_ne (by omega)
                have hw : IntKind.i64.wrap (((out.length : Nat) : Int) - 1) = ((out.length - 1 : Nat) : Int) := by rw [wrapI (by omega) (by omega)]; omega
                replace hbey : beyB out m = decide (y3 < m) := hbey
                clear hz hat3 hy h0
                by_cases q3 : y3 < m
                · have hbey2 : beyB out m = true := by rw [hbey, decide_eq_true q3]
                  replace hbey : Hd _ := hbey
                  replace hbey2 : Hd _ := hbey2
                  by_cases q2 : b1 = 0
                  · have cb : (b1 == 0) = true := beq_iff_eq.2 q2
                    replace q2 : Hd _ := q2
                    refine zS (qA tyS (ixC hlt3)) ?_
                    exact hgo.out _ true (by unfold chB; rw [ce, hbey2.out, cb]; rfl) zL
                  · have cb : (b1 == 0) = false := beq_false_of_ne q2
                    replace q2 : Hd _ := q2
                    refine zS (qA tyS (ixC hlt3)) ?_
                    exact hgo.out _ (decide (m < b3)) (by unfold chB; rw [ce, hbey2.out, cb]; rfl) zL
                · have hbey2 : beyB out m = false := by rw [hbey, decide_eq_false q3]
                  replace hbey : Hd _ := hbey
                  replace hbey2 : Hd _ := hbey2
                  refine zS (qA tyS (ixC hlt3)) ?_
                  exact hgo.out _ false (by unfold chB; rw [ce, hbey2.out]; rfl) zL
          clear t1 t2 t9 t11 t12 t13 t14 hnt hdf A ll lv2
          rintro A c hcc ⟨t1, t2, t9, t11, t12, t13, t14, t143, hnt, hdf⟩
          refine hK7.out _ _ ?_
          clear hK7 K7
          have h10 := g8.gr g10
          unfold chB at hcc
          cases c
          · have hno : ¬ (goodM nm us n m ∧ beyB out m = true ∧ ((b1, b2, b3).1 = 0 ∨ m < (b1, b2, b3).2.2)) := fun ⟨h1, h2, h3⟩ => by
              have h1 : s1 ≠ 0 := by rw [← hs1.out]; exact h1
              rw [beq_false_of_ne h1, h2] at hcc
              rcases h3 with h3 | h3
              · have h3 : b1 = 0 := h3
                rw [h3] at hcc; cases hcc
              · have h3 : m < b3 := h3
                rw [decide_eq_true h3, Bool.or_true] at hcc; cases hcc
            replace hcc : Hd _ := hcc
            replace hno : Hd _ := hno
            refine zW tyS ?_
            refine i1.out _ _ ?_
            refine zW tyS ?_
            exact ⟨C.length - (j + 1), by omega, j + 1, b1, b2, b3, rfl, hlt, h10, mM, rM, (by rw [htk.out]; exact hbest.out.keep hno.out : BestN nm us n out (C.take (j + 1)) (b1, b2, b3)), zL⟩
          · have hcs1 : s1 ≠ 0 := fun h => by rw [h] at hcc; cases hcc
            rw [beq_false_of_ne hcs1] at hcc
            have hb : beyB out m = true := by
              cases hb : beyB out m with
              | true => rfl
              | false => rw [hb] at hcc; cases hcc
            rw [hb] at hcc
            have hk : b1 = 0 ∨ m < b3 := by
              by_cases q2 : b1 = 0
              · exact .inl q2
              · rw [beq_false_of_ne q2] at hcc
                exact .inr (of_decide_eq_true hcc.symm)
            obtain ⟨hsg, hxm⟩ := hsx.out hcs1
            have hgd : goodM nm us n m := by unfold goodM; rw [hs1.out]; exact hcs1
            have hX : slipX us n m = (s1, sg, x) := by rw [slipE_X hck.out hn1 hn2 (goodM_ok hgd), hs1.out, hsg, hxm]
            have hT := hbest.out.take hgd hb hk (by rw [hX]; exact hcs1)
            rw [hX] at hT
            replace hT : Hd _ := hT
            replace hX : Hd _ := hX
            replace hcc : Hd _ := hcc
            replace hb : Hd _ := hb
            replace hsg : Hd _ := hsg
            replace hxm : Hd _ := hxm
            replace hcs1 : Hd _ := hcs1
            replace hk : Hd _ := hk
            replace hgd : Hd _ := hgd
            refine zW tyS ?_
            refine i1.out _ _ ?_
            refine zW tyS ?_
            exact ⟨C.length - (j + 1), by omega, j + 1, s1, sg, x, rfl, hlt, h10.mod _ (.inl hM6), mM, get_modE rfl, (by rw [htk.out]; exact hT.out : BestN nm us n out (C.take (j + 1)) (s1, sg, x)), zL⟩
        · have hje : j = C.length := by omega
          have hbst := hbest.out
          rw [hje, List.take_length] at hbst
          clear hje hbest hc
          by_cases q1 : b1 = 0
          · have cb : (b1 == 0) = true := beq_iff_eq.2 q1
            have hno := hbst.no q1
            replace q1 : Hd _ := q1
            replace hbst : Hd _ := hbst
            replace hno : Hd _ := hno
            refine zW tyS ?_
            refine j2.out _ _ ?_
            refine zW tyS ?_
            refine p4.out _ _ (k4.out _ _ ⟨_, _, callEnd_one v2 (.inr rfl) qe qp, (hg5.gr g6).gr g8, fun lg' => ⟨v2, out, rfl, hown8.slc, by omega, ?_, ?_⟩⟩)
            · rw [hC.out]; exact hcho.out
            · rw [hC.out]; exact hno.out
          · have cb : (b1 == 0) = false := beq_false_of_ne q1
            obtain ⟨y1, y2, y3, y4, y5⟩ := hbst.yes q1
            have hpu := hcho.out.push hbst q1
            have hrl := rem_lt y1 y4
            obtain ⟨zs, hzs, hzsl⟩ := zx_slip
            obtain ⟨hlt7, v9, H9, r9, happ, ho9, hf9, hr9⟩ := push_own el_slips by_slip hzs hzsl (by decide) hown8 [.i .i64 b1, .o (.str b2), .i .i64 b3] rfl (by omega)
            clear hzs hzsl zs y1 y2 y3 y4 y5
            have hg9 : Gr H5 H9 := (g6.gr g8).then hf9 fun q hq => .inl (hrow.out q hq)
            have hrow9 : ∀ q, some r9 = some q → H5.nx ≤ q := fun q hq => by
              cases hq
              rcases hr9 with e | e
              · exact hrow.out _ e
              · exact Nat.le_trans (g6.gr g8).nx e
            replace q1 : Hd _ := q1
            replace hbst : Hd _ := hbst
            replace hpu : Hd _ := hpu
            replace hrl : Hd _ := hrl
            replace hr9 : Hd _ := hr9
            replace ho9 : Hd _ := ho9
            replace hf9 : Hd _ := hf9
            replace hrow9 : Hd _ := hrow9
            refine zW tyS ?_
            refine j2.out _ _ ?_
            refine zW tyS ?_
            refine zG (qA tyS (qA repl1 happ)) fun K hK => ?_
            try refine ⟨hlt7, ?_⟩
            refine zK tyS ?_
            refine p1.out _ _ ?_
            have hrl2 : remN C (out ++ [(b1, b2, b3)]) < remN C out := hrl.out
            exact ⟨remN C (out ++ [(b1, b2, b3)]), hrl2, out ++ [(b1, b2, b3)], v9, some r9, rfl, by rw [List.length_append]; show _ + (_ + 1) ≤ _; omega, hg9, hpu.out, by
              rw [List.length_append, List.flatMap_append]; exact ho9.out, hrow9.out, zL⟩
end Go.Proofs.YtekoajibckipkaaGreat
