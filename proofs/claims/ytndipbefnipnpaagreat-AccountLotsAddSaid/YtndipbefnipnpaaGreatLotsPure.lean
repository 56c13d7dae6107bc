/- The plain law of lists of lots: what covers what. -/
import Derived.Test.YtndipbefnipnpaaGreatLotsCov
namespace Go.Proofs.YtndipbefnipnpaaGreat
open Go Go.Eng

theorem lLess_nil (x : List UInt8) : lLess x [] = false := by cases x <;> rfl
theorem lLess_nc (b : UInt8) (y : List UInt8) : lLess [] (b :: y) = true := rfl
theorem lLess_cc (a b : UInt8) (x y : List UInt8) : lLess (a :: x) (b :: y) = (decide (a.toNat < b.toNat) || (decide (a.toNat = b.toNat) && lLess x y)) := by
  show ifE (Nat.blt a.toNat b.toNat) true (both (Nat.beq a.toNat b.toNat) (lLess x y)) = _
  rw [both_eq]
  by_cases h : a.toNat < b.toNat
  · have : Nat.blt a.toNat b.toNat = true := Nat.ble_eq_true_of_le h
    rw [this, decide_eq_true h]; rfl
  · have h1 : Nat.blt a.toNat b.toNat = false := by
      cases hb : Nat.blt a.toNat b.toNat with
      | false => rfl
      | true => exact absurd (Nat.le_of_ble_eq_true hb) h
    rw [h1, decide_eq_false h]
    show (Nat.beq a.toNat b.toNat && lLess x y) = _
    rw [beq_dec]; rfl

theorem lLess_irr : ∀ x : List UInt8, lLess x x = false
  | [] => rfl
  | a :: x => by rw [lLess_cc, lLess_irr x]; simp
theorem lLess_trans : ∀ {x y z : List UInt8}, lLess x y = true → lLess y z = true → lLess x z = true
  | x, y, [], _, h => by rw [lLess_nil] at h; cases h
  | x, [], c :: z, h, _ => by rw [lLess_nil] at h; cases h
  | [], b :: y, c :: z, _, _ => rfl
  | a :: x, b :: y, c :: z, h, k => by
    rw [lLess_cc] at h k ⊢
    simp only [Bool.or_eq_true, decide_eq_true_eq, Bool.and_eq_true] at h k ⊢
    rcases h with h | ⟨h, h'⟩
    · rcases k with k | ⟨k, _⟩
      · left; omega
      · left; omega
    · rcases k with k | ⟨k, k'⟩
      · left; omega
      · right; exact ⟨by omega, lLess_trans h' k'⟩
theorem lLess_tri : ∀ {x y : List UInt8}, lLess x y = false → lLess y x = false → x = y
  | [], [], _, _ => rfl
  | [], _ :: _, h, _ => by cases h
  | _ :: _, [], _, h => by cases h
  | a :: x, b :: y, h, k => by
    rw [lLess_cc] at h k
    simp only [Bool.or_eq_false_iff, decide_eq_false_iff_not, Bool.and_eq_false_iff] at h k
    have e : a.toNat = b.toNat := by omega
    have hx := lLess_tri (h.2.resolve_left (fun hh => hh e)) (k.2.resolve_left (fun hh => hh e.symm))
    rw [hx, UInt8.toNat_inj.1 e]
theorem lLess_ne {x y : List UInt8} (h : lLess x y = true) : x ≠ y := fun e => by subst e; rw [lLess_irr] at h; cases h
theorem lLess_asym {x y : List UInt8} (h : lLess x y = true) : lLess y x = false := by
  cases hk : lLess y x with
  | false => rfl
  | true => have := lLess_trans h hk; rw [lLess_irr] at this; cases this

/-- Lots in their order, none of them zero. -/
def Srt : List Lot → Prop
  | [] => True
  | x :: l => (∀ y ∈ l, lLess x.1 y.1 = true) ∧ x.2 ≠ 0 ∧ Srt l

theorem okAll_at {l : List Lot} (h : okAll l = true) {i : Nat} (hi : i < l.length) : okI l i (l.getD i ([], 0)) = true := by
  unfold okAll at h
  rw [List.all_eq_true] at h
  exact h i (List.mem_range.2 hi)

theorem srt_of_ok {l : List Lot} (h : okAll l = true) : ∀ n, n ≤ l.length → Srt (l.drop (l.length - n)) ∧ (∀ m, m < l.length - n → ∀ y ∈ l.drop (l.length - n), lLess (l.getD m ([], 0)).1 y.1 = true)
  | 0, _ => by
    rw [Nat.sub_zero, List.drop_length]
    exact ⟨trivial, fun m _ y hy => by cases hy⟩
  | n + 1, hn => by
    obtain ⟨ih1, ih2⟩ := srt_of_ok h n (by omega)
    have hi : l.length - (n + 1) < l.length := by omega
    have e : l.drop (l.length - (n + 1)) = l.getD (l.length - (n + 1)) ([], 0) :: l.drop (l.length - n) := by
      rw [List.drop_eq_getElem_cons hi]
      have e1 : l.length - (n + 1) + 1 = l.length - n := by omega
      have e2 : l.getD (l.length - (n + 1)) ([], 0) = l[l.length - (n + 1)] := by rw [List.getD_eq_getElem?_getD, List.getElem?_eq_getElem hi]; rfl
      rw [e1, e2]
    have hok := okAll_at h hi
    unfold okI at hok
    simp only [Bool.and_eq_true, Bool.not_eq_true', beq_eq_false_iff_ne] at hok
    rw [e]
    refine ⟨⟨fun y hy => ih2 _ (by omega) y hy, hok.1.1.2, ih1⟩, fun m hm y hy => ?_⟩
    have hstep : ∀ k, k + 1 < l.length → lLess (l.getD k ([], 0)).1 (l.getD (k + 1) ([], 0)).1 = true := fun k hk => by
      have := okAll_at h hk
      unfold okI at this
      simp only [Bool.and_eq_true, Bool.or_eq_true, Bool.not_eq_true', decide_eq_false_iff_not] at this
      have h2 := this.1.1.1.2
      rcases h2 with h2 | h2
      · omega
      · exact h2
    have hlt : ∀ d k, k + d + 1 < l.length → lLess (l.getD k ([], 0)).1 (l.getD (k + d + 1) ([], 0)).1 = true := by
      intro d
      induction d with
      | zero => intro k hk; exact hstep k hk
      | succ d ih => intro k hk; exact lLess_trans (ih k (by omega)) (hstep (k + d + 1) (by omega))
    rcases List.mem_cons.1 hy with rfl | hy
    · have := hlt (l.length - (n + 1) - m - 1) m (by omega)
      have e3 : m + (l.length - (n + 1) - m - 1) + 1 = l.length - (n + 1) := by omega
      rw [e3] at this; exact this
    · exact ih2 m (by omega) y hy

theorem srt_ok {l : List Lot} (h : okAll l = true) : Srt l := by
  have := (srt_of_ok h l.length (Nat.le_refl _)).1
  rwa [Nat.sub_self, List.drop_zero] at this

/-- How much there is of a good. -/
def amt : List Lot → List UInt8 → Int
  | [], _ => 0
  | x :: l, s => if x.1 = s then x.2 else amt l s

theorem amt_none {s : List UInt8} : ∀ {l : List Lot}, (∀ y ∈ l, lLess s y.1 = true) → amt l s = 0
  | [], _ => rfl
  | y :: l, h => by
    unfold amt
    rw [if_neg fun e => lLess_ne (h y (List.mem_cons_self ..)) e.symm]
    exact amt_none fun z hz => h z (List.mem_cons_of_mem _ hz)
theorem amt_here (x : Lot) (l : List Lot) : amt (x :: l) x.1 = x.2 := if_pos rfl
theorem amt_there {x : Lot} {l : List Lot} {s : List UInt8} (h : x.1 ≠ s) : amt (x :: l) s = amt l s := if_neg h
theorem below_cons {x y : Lot} {b : List Lot} (h : lLess x.1 y.1 = true) (hb : Srt (y :: b)) : ∀ z ∈ y :: b, lLess x.1 z.1 = true := fun z hz => by
  rcases List.mem_cons.1 hz with rfl | hz
  · exact h
  · exact lLess_trans h (hb.1 z hz)

theorem cover_iff (a b : List Lot) : Srt a → Srt b → ((∀ p ∈ pairs a b, p.2.2 ≤ p.1.2) ↔ ∀ s, amt b s ≤ amt a s) := by
  induction a, b using pairs.induct with
  | case1 => intro _ _; rw [pairs]; exact ⟨fun _ _ => Int.le_refl _, fun _ p hp => by cases hp⟩
  | case2 x a ih =>
    intro ha hb
    rw [pairs]
    have ih := ih ha.2.2 hb
    simp only [List.forall_mem_cons, ih]
    constructor
    · rintro ⟨h1, h2⟩ s
      by_cases e : x.1 = s
      · subst e; rw [amt_here]; exact h1
      · rw [amt_there e]; exact h2 s
    · intro h
      refine ⟨?_, fun s => ?_⟩
      · have := h x.1; rw [amt_here] at this; exact this
      · by_cases e : x.1 = s
        · subst e; rw [amt_none ha.1]; exact Int.le_refl _
        · have := h s; rw [amt_there e] at this; exact this
  | case3 y b ih =>
    intro ha hb
    rw [pairs]
    have ih := ih ha hb.2.2
    simp only [List.forall_mem_cons, ih]
    constructor
    · rintro ⟨h1, h2⟩ s
      by_cases e : y.1 = s
      · subst e; rw [amt_here]; exact h1
      · rw [amt_there e]; exact h2 s
    · intro h
      refine ⟨?_, fun s => ?_⟩
      · have := h y.1; rw [amt_here] at this; exact this
      · by_cases e : y.1 = s
        · subst e; rw [amt_none hb.1]; exact Int.le_refl _
        · have := h s; rw [amt_there e] at this; exact this
  | case4 x a y b hxy ih =>
    intro ha hb
    rw [pairs, if_pos hxy]
    have ih := ih ha.2.2 hb
    simp only [List.forall_mem_cons, ih]
    have h0 : amt (y :: b) x.1 = 0 := amt_none (below_cons hxy hb)
    constructor
    · rintro ⟨h1, h2⟩ s
      by_cases e : x.1 = s
      · subst e; rw [amt_here, h0]; exact h1
      · rw [amt_there (x := x) e]; exact h2 s
    · intro h
      refine ⟨?_, fun s => ?_⟩
      · have := h x.1; rw [amt_here, h0] at this; exact this
      · by_cases e : x.1 = s
        · subst e; rw [amt_none ha.1, h0]; exact Int.le_refl _
        · have := h s; rw [amt_there (x := x) e] at this; exact this
  | case5 x a y b hxy hyx ih =>
    intro ha hb
    rw [pairs, if_neg hxy, if_pos hyx]
    have ih := ih ha hb.2.2
    simp only [List.forall_mem_cons, ih]
    have h0 : amt (x :: a) y.1 = 0 := amt_none (below_cons hyx ha)
    constructor
    · rintro ⟨h1, h2⟩ s
      by_cases e : y.1 = s
      · subst e; rw [amt_here, h0]; exact h1
      · rw [amt_there (x := y) e]; exact h2 s
    · intro h
      refine ⟨?_, fun s => ?_⟩
      · have := h y.1; rw [amt_here, h0] at this; exact this
      · by_cases e : y.1 = s
        · subst e; rw [amt_none hb.1, h0]; exact Int.le_refl _
        · have := h s; rw [amt_there (x := y) e] at this; exact this
  | case6 x a y b hxy hyx ih =>
    intro ha hb
    rw [pairs, if_neg hxy, if_neg hyx]
    have ih := ih ha.2.2 hb.2.2
    simp only [List.forall_mem_cons, ih]
    have exy : x.1 = y.1 := lLess_tri (by simpa using hxy) (by simpa using hyx)
    constructor
    · rintro ⟨h1, h2⟩ s
      by_cases e : x.1 = s
      · subst e; rw [amt_here, exy, amt_here]; exact h1
      · rw [amt_there (x := x) e, amt_there (x := y) (by rw [← exy]; exact e)]; exact h2 s
    · intro h
      refine ⟨?_, fun s => ?_⟩
      · have := h x.1; rw [amt_here, exy, amt_here] at this; exact this
      · by_cases e : x.1 = s
        · subst e; rw [amt_none ha.1, exy, amt_none hb.1]; exact Int.le_refl _
        · have := h s; rw [amt_there (x := x) e, amt_there (x := y) (by rw [← exy]; exact e)] at this; exact this

theorem runUnit (l : List (Lot × Lot)) : (runPass (fun (_ : Unit) x y => decide (y.2 ≤ x.2)) (fun _ _ _ => ()) () l).isSome = true ↔ ∀ p ∈ l, p.2.2 ≤ p.1.2 := by
  induction l with
  | nil => exact ⟨fun _ p hp => (by cases hp), fun _ => rfl⟩
  | cons p l ih =>
    obtain ⟨x, y⟩ := p
    rw [runPass, List.forall_mem_cons]
    by_cases h : y.2 ≤ x.2
    · rw [if_pos (decide_eq_true h), ih]; exact ⟨fun k => ⟨h, k⟩, fun k => k.2⟩
    · rw [if_neg (by simpa using h)]; exact ⟨fun k => (by cases k), fun k => absurd k.1 h⟩

theorem covers_amt {a b : List Lot} (ha : Srt a) (hb : Srt b) : coversB a b = true ↔ ∀ s, amt b s ≤ amt a s := (runUnit _).trans (cover_iff a b ha hb)

theorem amt_ext : ∀ {a b : List Lot}, Srt a → Srt b → (∀ s, amt a s = amt b s) → a = b
  | [], [], _, _, _ => rfl
  | [], y :: b, _, hb, h => by
    have := h y.1
    rw [amt_here] at this
    exact absurd this.symm hb.2.1
  | x :: a, [], ha, _, h => by
    have := h x.1
    rw [amt_here] at this
    exact absurd this ha.2.1
  | x :: a, y :: b, ha, hb, h => by
    cases hxy : lLess x.1 y.1 with
    | true =>
      have := h x.1
      rw [amt_here, amt_none (below_cons hxy hb)] at this
      exact absurd this ha.2.1
    | false =>
      cases hyx : lLess y.1 x.1 with
      | true =>
        have := h y.1
        rw [amt_here, amt_none (below_cons hyx ha)] at this
        exact absurd this.symm hb.2.1
      | false =>
        have e1 := lLess_tri hxy hyx
        have e2 := h x.1
        rw [amt_here, e1, amt_here] at e2
        have e3 : a = b := amt_ext ha.2.2 hb.2.2 fun s => by
          by_cases e : x.1 = s
          · subst e; rw [amt_none ha.1, e1, amt_none hb.1]
          · have := h s
            rwa [amt_there (x := x) e, amt_there (x := y) (by rw [← e1]; exact e)] at this
        rw [e3, show x = y from Prod.ext e1 e2]

theorem chk_ok {l : List Lot} (h : chkLots l = 0) : okAll l = true ∧ l.length ≤ 64 := by
  unfold chkLots at h
  split at h
  · cases h
  · split at h
    · rename_i h1 h2; exact ⟨h2, by omega⟩
    · cases h
theorem chkTwo_ok {a b : List Lot} (ha : chkLots a = 0) (hb : chkLots b = 0) : chkTwo a b = 0 := by rw [chkTwo, if_pos ha, hb]
theorem cov_refl {a : List Lot} (ha : chkLots a = 0) : covC a a = true := by
  have s := srt_ok (chk_ok ha).1
  rw [covC, if_pos (chkTwo_ok ha ha)]
  exact (covers_amt s s).2 fun _ => Int.le_refl _
theorem cov_anti {a b : List Lot} (ha : chkLots a = 0) (hb : chkLots b = 0) : (covC a b && covC b a) = decide (a = b) := by
  have sa := srt_ok (chk_ok ha).1
  have sb := srt_ok (chk_ok hb).1
  rw [covC, covC, if_pos (chkTwo_ok ha hb), if_pos (chkTwo_ok hb ha), Bool.eq_iff_iff, Bool.and_eq_true, covers_amt sa sb, covers_amt sb sa, decide_eq_true_eq]
  exact ⟨fun ⟨h1, h2⟩ => amt_ext sa sb fun s => Int.le_antisymm (h2 s) (h1 s), fun e => by subst e; exact ⟨fun _ => Int.le_refl _, fun _ => Int.le_refl _⟩⟩
theorem cov_trans {a b c : List Lot} (ha : chkLots a = 0) (hb : chkLots b = 0) (hc : chkLots c = 0) (h1 : covC a b = true) (h2 : covC b c = true) : covC a c = true := by
  have sa := srt_ok (chk_ok ha).1
  have sb := srt_ok (chk_ok hb).1
  have sc := srt_ok (chk_ok hc).1
  rw [covC, if_pos (chkTwo_ok ha hb), covers_amt sa sb] at h1
  rw [covC, if_pos (chkTwo_ok hb hc), covers_amt sb sc] at h2
  rw [covC, if_pos (chkTwo_ok ha hc), covers_amt sa sc]
  exact fun s => Int.le_trans (h2 s) (h1 s)
end Go.Proofs.YtndipbefnipnpaaGreat
