/- The plain law of lots that are scaled. -/
import Derived.Test.YtndipbefnipnpaaGreatLotsSum
namespace Go.Proofs.YtndipbefnipnpaaGreat
open Go Go.Eng

noncomputable def nS (x : Int) : Int := if IntKind.i64.wrap (0 - x) > x then IntKind.i64.wrap (0 - x) else x
noncomputable def mS (x : Int) : Int := IntKind.i64.wrap ((1099511627776 : Int).tdiv (nS x))
noncomputable def okS (k x : Int) : Bool := !(decide (mS x < k) || decide (k < IntKind.i64.wrap (0 - mS x)))
noncomputable def mulS (k : Int) (x : Lot) : Lot := (x.1, IntKind.i64.wrap (x.2 * k))
noncomputable def scaleR (k : Int) : List Lot → List Lot → Option (List Lot)
  | out, [] => some out
  | out, x :: l => if okS k x.2 = true then scaleR k (out ++ [mulS k x]) l else none
/-- What 'Scale' answers. -/
noncomputable def scaleC (l : List Lot) (k : Int) : List Lot × Int :=
  if chkLots l = 0 then if k = 0 then ([], 0) else (scaleR k [] l).elim ([], 6) fun t => (t, 0) else ([], chkLots l)

theorem nS_eq {x : Int} (h : -1099511627776 ≤ x ∧ x ≤ 1099511627776) (h0 : x ≠ 0) : 0 < nS x ∧ nS x ≤ 1099511627776 ∧ (nS x = x ∨ nS x = -x) := by
  unfold nS
  rw [wrapI (by omega) (by omega)]
  split <;> omega
theorem mS_eq {x : Int} (h : -1099511627776 ≤ x ∧ x ≤ 1099511627776) (h0 : x ≠ 0) : mS x = 1099511627776 / nS x ∧ 1 ≤ mS x ∧ mS x ≤ 1099511627776 ∧ nS x * mS x ≤ 1099511627776 := by
  obtain ⟨h1, h2, _⟩ := nS_eq h h0
  have e : (1099511627776 : Int).tdiv (nS x) = 1099511627776 / nS x := Int.tdiv_eq_ediv_of_nonneg (by omega)
  have l1 : 1 ≤ (1099511627776 : Int) / nS x := (Int.le_ediv_iff_mul_le h1).2 (by omega)
  have l2 : (1099511627776 : Int) / nS x ≤ 1099511627776 := Int.ediv_le_self _ (by omega)
  have l3 : nS x * ((1099511627776 : Int) / nS x) ≤ 1099511627776 := Int.mul_ediv_self_le (by omega)
  have em : mS x = 1099511627776 / nS x := by
    unfold mS
    rw [e, wrapI (by omega) (by omega)]
  rw [em]
  exact ⟨rfl, l1, l2, l3⟩
theorem okS_iff {k x : Int} (h : -1099511627776 ≤ x ∧ x ≤ 1099511627776) (h0 : x ≠ 0) : okS k x = true ↔ -mS x ≤ k ∧ k ≤ mS x := by
  obtain ⟨_, h1, h2, _⟩ := mS_eq h h0
  unfold okS
  rw [wrapI (n := 0 - mS x) (by omega) (by omega), Bool.not_eq_true', Bool.or_eq_false_iff, decide_eq_false_iff_not, decide_eq_false_iff_not]
  omega
theorem okS_mul {k x : Int} (h : -1099511627776 ≤ x ∧ x ≤ 1099511627776) (h0 : x ≠ 0) (hk : okS k x = true) : IntKind.i64.wrap (x * k) = x * k ∧ -1099511627776 ≤ x * k ∧ x * k ≤ 1099511627776 := by
  obtain ⟨n1, n2, n3⟩ := nS_eq h h0
  obtain ⟨_, m1, m2, m3⟩ := mS_eq h h0
  obtain ⟨k1, k2⟩ := (okS_iff h h0).1 hk
  have a1 : nS x * k ≤ nS x * mS x := Int.mul_le_mul_of_nonneg_left k2 (by omega)
  have a2 : nS x * (-mS x) ≤ nS x * k := Int.mul_le_mul_of_nonneg_left k1 (by omega)
  rw [Int.mul_neg] at a2
  have b : -1099511627776 ≤ x * k ∧ x * k ≤ 1099511627776 := by
    rcases n3 with e | e
    · rw [e] at a1 a2 m3; omega
    · rw [e] at a1 a2 m3
      rw [Int.neg_mul] at a1 a2 m3
      rw [Int.neg_mul] at a1 a2
      omega
  exact ⟨wrapI (by omega) (by omega), b⟩
theorem okS_1 {x : Int} (h : -1099511627776 ≤ x ∧ x ≤ 1099511627776) (h0 : x ≠ 0) : okS 1 x = true := by
  obtain ⟨_, h1, h2, _⟩ := mS_eq h h0
  exact (okS_iff h h0).2 (by omega)

theorem scaleR_of {k : Int} : ∀ {l out : List Lot}, (∀ x ∈ l, okS k x.2 = true) → scaleR k out l = some (out ++ l.map (mulS k))
  | [], out, _ => by rw [scaleR, List.map_nil, List.append_nil]
  | x :: l, out, h => by
    rw [scaleR, if_pos (h x (List.mem_cons_self ..)), scaleR_of fun y hy => h y (List.mem_cons_of_mem _ hy), List.append_assoc]; rfl
theorem scaleR_ok {k : Int} : ∀ {l out t : List Lot}, scaleR k out l = some t → ∀ x ∈ l, okS k x.2 = true
  | [], _, _, _, x, hx => by cases hx
  | y :: l, out, t, h, x, hx => by
    rw [scaleR] at h
    by_cases e : okS k y.2 = true
    · rw [if_pos e] at h
      rcases List.mem_cons.1 hx with rfl | hx
      · exact e
      · exact scaleR_ok h x hx
    · rw [if_neg e] at h; cases h

theorem srt_mul {k : Int} (hk : k ≠ 0) : ∀ {l : List Lot}, Srt l → (∀ x ∈ l, -1099511627776 ≤ x.2 ∧ x.2 ≤ 1099511627776) → (∀ x ∈ l, okS k x.2 = true) → Srt (l.map (mulS k))
  | [], _, _, _ => trivial
  | x :: l, h, hb, ho => by
    refine ⟨fun y hy => ?_, ?_, srt_mul hk h.2.2 (fun y hy => hb y (List.mem_cons_of_mem _ hy)) fun y hy => ho y (List.mem_cons_of_mem _ hy)⟩
    · obtain ⟨z, hz, rfl⟩ := List.mem_map.1 hy
      exact h.1 z hz
    · show IntKind.i64.wrap (x.2 * k) ≠ 0
      rw [(okS_mul (hb x (List.mem_cons_self ..)) h.2.1 (ho x (List.mem_cons_self ..))).1]
      exact Int.mul_ne_zero h.2.1 hk
theorem amt_mul {k : Int} (s : List UInt8) : ∀ {l : List Lot}, Srt l → (∀ x ∈ l, -1099511627776 ≤ x.2 ∧ x.2 ≤ 1099511627776) → (∀ x ∈ l, okS k x.2 = true) → amt (l.map (mulS k)) s = amt l s * k
  | [], _, _, _ => by show (0 : Int) = 0 * k; rw [Int.zero_mul]
  | x :: l, h, hb, ho => by
    have e := (okS_mul (hb x (List.mem_cons_self ..)) h.2.1 (ho x (List.mem_cons_self ..))).1
    by_cases he : x.1 = s
    · subst he
      rw [amt_here]
      show amt (mulS k x :: l.map (mulS k)) (mulS k x).1 = _
      rw [amt_here]; exact e
    · rw [amt_there he]
      show amt (mulS k x :: l.map (mulS k)) s = _
      rw [amt_there (x := mulS k x) he]
      exact amt_mul s h.2.2 (fun y hy => hb y (List.mem_cons_of_mem _ hy)) fun y hy => ho y (List.mem_cons_of_mem _ hy)

theorem chk_nil : chkLots [] = 0 := by decide +kernel

theorem scale_ok {l : List Lot} {k : Int} (h : (scaleC l k).2 = 0) : chkLots l = 0 ∧ chkLots (scaleC l k).1 = 0 ∧ ∀ s, amt (scaleC l k).1 s = amt l s * k := by
  unfold scaleC at h ⊢
  by_cases hc : chkLots l = 0
  · rw [if_pos hc] at h ⊢
    refine ⟨hc, ?_⟩
    have hs := srt_ok (chk_ok hc).1
    have hb : ∀ x ∈ l, -1099511627776 ≤ x.2 ∧ x.2 ≤ 1099511627776 := fun x hx => (ok_mem (chk_ok hc).1 hx).2
    by_cases h0 : k = 0
    · rw [if_pos h0]
      exact ⟨chk_nil, fun s => by show (0 : Int) = _; rw [h0, Int.mul_zero]⟩
    · rw [if_neg h0] at h ⊢
      cases hr : scaleR k [] l with
      | none => rw [hr] at h; exact absurd h (by decide)
      | some t =>
        have hok := scaleR_ok hr
        rw [scaleR_of hok, List.nil_append] at hr
        have ht := Option.some.inj hr
        subst ht
        simp only [Option.elim_some]
        refine ⟨chk_of (ok_of_srt (srt_mul h0 hs hb hok) fun y hy => ?_) (by rw [List.length_map]; exact (chk_ok hc).2), fun s => amt_mul s hs hb hok⟩
        obtain ⟨x, hx, rfl⟩ := List.mem_map.1 hy
        obtain ⟨e1, e2⟩ := okS_mul (hb x hx) (srt_nz hs x hx) (hok x hx)
        refine ⟨(ok_mem (chk_ok hc).1 hx).1, ?_⟩
        show -1099511627776 ≤ IntKind.i64.wrap (x.2 * k) ∧ IntKind.i64.wrap (x.2 * k) ≤ 1099511627776
        rw [e1]; exact e2
  · rw [if_neg hc] at h; exact absurd h hc

theorem scale_1 {l : List Lot} (hc : chkLots l = 0) : scaleC l 1 = (l, 0) := by
  have hs := srt_ok (chk_ok hc).1
  have hb : ∀ x ∈ l, -1099511627776 ≤ x.2 ∧ x.2 ≤ 1099511627776 := fun x hx => (ok_mem (chk_ok hc).1 hx).2
  unfold scaleC
  rw [if_pos hc, if_neg (by decide), scaleR_of (k := 1) fun x hx => okS_1 (hb x hx) (srt_nz hs x hx), List.nil_append]
  have e : l.map (mulS 1) = l := by
    have : l.map (mulS 1) = l.map id := List.map_congr_left fun x hx => by
      show (x.1, IntKind.i64.wrap (x.2 * 1)) = x
      have := hb x hx
      rw [Int.mul_one, wrapI (by omega) (by omega)]
    rw [this, List.map_id]
  rw [e]; rfl
theorem scale_bad {l : List Lot} {k : Int} (hc : chkLots l ≠ 0) : scaleC l k = ([], chkLots l) := by
  unfold scaleC
  rw [if_neg hc]
theorem scale_sum {l : List Lot} {j k : Int} (h1 : (scaleC l j).2 = 0) (h2 : (scaleC l k).2 = 0) (h3 : (scaleC l (j + k)).2 = 0) : combC 1 (scaleC l j).1 (scaleC l k).1 = ((scaleC l (j + k)).1, 0) := by
  obtain ⟨_, a1, b1⟩ := scale_ok h1
  obtain ⟨_, a2, b2⟩ := scale_ok h2
  obtain ⟨_, a3, b3⟩ := scale_ok h3
  exact comb_of (.inl rfl) a1 a2 a3 fun s => by rw [b1, b2, b3, Int.mul_add, Int.one_mul]
end Go.Proofs.YtndipbefnipnpaaGreat
