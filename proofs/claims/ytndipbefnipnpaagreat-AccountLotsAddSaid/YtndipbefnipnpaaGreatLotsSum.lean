/- The plain law of sums of lots. -/
import Derived.Test.YtndipbefnipnpaaGreatLotsPure
namespace Go.Proofs.YtndipbefnipnpaaGreat
open Go Go.Eng

/-- What two numbers come to, as the program adds them. -/
noncomputable def addI (sign u v : Int) : Int := IntKind.i64.wrap (u + IntKind.i64.wrap (sign * v))
/-- The amount that two lots come to. -/
noncomputable def addN (sign : Int) (x y : Lot) : Int := addI sign x.2 y.2
noncomputable def okC (sign : Int) (_ : List Lot) (x y : Lot) : Bool := !(decide (1099511627776 < addN sign x y) || decide (addN sign x y < -1099511627776))
noncomputable def stepC (sign : Int) (out : List Lot) (x y : Lot) : List Lot := if addN sign x y = 0 then out else out ++ [(goodOf x y, addN sign x y)]
/-- What 'combined' answers. -/
noncomputable def combC (sign : Int) (a b : List Lot) : List Lot × Int :=
  if chkTwo a b = 0 then (runPass (okC sign) (stepC sign) [] (pairs a b)).elim ([], 6) fun t => if 64 < t.length then ([], 3) else (t, 0) else ([], chkTwo a b)

def okP (sign u v : Int) : Prop := -1099511627776 ≤ addI sign u v ∧ addI sign u v ≤ 1099511627776
theorem okC_iff {sign : Int} {out : List Lot} {x y : Lot} : okC sign out x y = true ↔ okP sign x.2 y.2 := by
  unfold okC okP addN
  rw [Bool.not_eq_true', Bool.or_eq_false_iff, decide_eq_false_iff_not, decide_eq_false_iff_not]
  omega

def keyP (p : Lot × Lot) : List UInt8 := goodOf p.1 p.2
def amtP : List (Lot × Lot) → List UInt8 → Int × Int
  | [], _ => (0, 0)
  | p :: l, s => if keyP p = s then (p.1.2, p.2.2) else amtP l s
def SrtP : List (Lot × Lot) → Prop
  | [] => True
  | p :: l => (∀ q ∈ l, lLess (keyP p) (keyP q) = true) ∧ SrtP l
theorem amtP_here (p : Lot × Lot) (l : List (Lot × Lot)) {s : List UInt8} (h : keyP p = s) : amtP (p :: l) s = (p.1.2, p.2.2) := if_pos h
theorem amtP_there {p : Lot × Lot} {l : List (Lot × Lot)} {s : List UInt8} (h : keyP p ≠ s) : amtP (p :: l) s = amtP l s := if_neg h
theorem key_l (x : Lot) : keyP (x, noLot) = x.1 := by
  unfold keyP goodOf
  by_cases h : x.1 = []
  · rw [if_pos h, h]; rfl
  · rw [if_neg h]
theorem key_r (y : Lot) : keyP (noLot, y) = y.1 := (if_pos rfl : (if noLot.1 = [] then y.1 else noLot.1) = y.1)
theorem key_b {x y : Lot} (e : x.1 = y.1) : keyP (x, y) = x.1 := by
  unfold keyP goodOf
  by_cases h : x.1 = []
  · rw [if_pos h, ← e]
  · rw [if_neg h]

theorem pairs_law (a b : List Lot) : Srt a → Srt b → (∀ N : List UInt8 → Prop, (∀ x ∈ a, N x.1) → (∀ y ∈ b, N y.1) → ∀ p ∈ pairs a b, N (keyP p)) ∧ SrtP (pairs a b) ∧ ∀ s, amtP (pairs a b) s = (amt a s, amt b s) := by
  induction a, b using pairs.induct with
  | case1 => intro _ _; rw [pairs]; exact ⟨fun _ _ _ p hp => (by cases hp), trivial, fun _ => rfl⟩
  | case2 x a ih =>
    intro ha hb
    rw [pairs]
    obtain ⟨h1, h2, h3⟩ := ih ha.2.2 hb
    refine ⟨fun N hx hy => List.forall_mem_cons.2 ⟨by rw [key_l]; exact hx x (List.mem_cons_self ..), h1 N (fun z hz => hx z (List.mem_cons_of_mem _ hz)) hy⟩, ⟨?_, h2⟩, fun s => ?_⟩
    · rw [key_l]; exact h1 (fun k => lLess x.1 k = true) ha.1 fun y hy => by cases hy
    · by_cases e : x.1 = s
      · rw [amtP_here _ _ (by rw [key_l]; exact e)]; subst e; rw [amt_here]; rfl
      · rw [amtP_there (by rw [key_l]; exact e), h3, amt_there e]
  | case3 y b ih =>
    intro ha hb
    rw [pairs]
    obtain ⟨h1, h2, h3⟩ := ih ha hb.2.2
    refine ⟨fun N hx hy => List.forall_mem_cons.2 ⟨by rw [key_r]; exact hy y (List.mem_cons_self ..), h1 N hx (fun z hz => hy z (List.mem_cons_of_mem _ hz))⟩, ⟨?_, h2⟩, fun s => ?_⟩
    · rw [key_r]; exact h1 (fun k => lLess y.1 k = true) (fun y hy => by cases hy) hb.1
    · by_cases e : y.1 = s
      · rw [amtP_here _ _ (by rw [key_r]; exact e)]; subst e; rw [amt_here]; rfl
      · rw [amtP_there (by rw [key_r]; exact e), h3, amt_there e]
  | case4 x a y b hxy ih =>
    intro ha hb
    rw [pairs, if_pos hxy]
    obtain ⟨h1, h2, h3⟩ := ih ha.2.2 hb
    refine ⟨fun N hx hy => List.forall_mem_cons.2 ⟨by rw [key_l]; exact hx x (List.mem_cons_self ..), h1 N (fun z hz => hx z (List.mem_cons_of_mem _ hz)) hy⟩, ⟨?_, h2⟩, fun s => ?_⟩
    · rw [key_l]; exact h1 (fun k => lLess x.1 k = true) ha.1 (below_cons hxy hb)
    · by_cases e : x.1 = s
      · rw [amtP_here _ _ (by rw [key_l]; exact e)]; subst e; rw [amt_here, amt_none (below_cons hxy hb)]; rfl
      · rw [amtP_there (by rw [key_l]; exact e), h3, amt_there (x := x) e]
  | case5 x a y b hxy hyx ih =>
    intro ha hb
    rw [pairs, if_neg hxy, if_pos hyx]
    obtain ⟨h1, h2, h3⟩ := ih ha hb.2.2
    refine ⟨fun N hx hy => List.forall_mem_cons.2 ⟨by rw [key_r]; exact hy y (List.mem_cons_self ..), h1 N hx (fun z hz => hy z (List.mem_cons_of_mem _ hz))⟩, ⟨?_, h2⟩, fun s => ?_⟩
    · rw [key_r]; exact h1 (fun k => lLess y.1 k = true) (below_cons hyx ha) hb.1
    · by_cases e : y.1 = s
      · rw [amtP_here _ _ (by rw [key_r]; exact e)]; subst e; rw [amt_here, amt_none (below_cons hyx ha)]; rfl
      · rw [amtP_there (by rw [key_r]; exact e), h3, amt_there (x := y) e]
  | case6 x a y b hxy hyx ih =>
    intro ha hb
    rw [pairs, if_neg hxy, if_neg hyx]
    obtain ⟨h1, h2, h3⟩ := ih ha.2.2 hb.2.2
    have e0 : x.1 = y.1 := lLess_tri (by simpa using hxy) (by simpa using hyx)
    refine ⟨fun N hx hy => List.forall_mem_cons.2 ⟨by rw [key_b e0]; exact hx x (List.mem_cons_self ..), h1 N (fun z hz => hx z (List.mem_cons_of_mem _ hz)) (fun z hz => hy z (List.mem_cons_of_mem _ hz))⟩, ⟨?_, h2⟩, fun s => ?_⟩
    · rw [key_b e0]; exact h1 (fun k => lLess x.1 k = true) ha.1 (by rw [e0]; exact hb.1)
    · by_cases e : x.1 = s
      · rw [amtP_here _ _ (by rw [key_b e0]; exact e)]; subst e; rw [amt_here, e0, amt_here]
      · rw [amtP_there (by rw [key_b e0]; exact e), h3, amt_there (x := x) e, amt_there (x := y) (by rw [← e0]; exact e)]

theorem amtP_mem : ∀ {l : List (Lot × Lot)}, SrtP l → ∀ p ∈ l, amtP l (keyP p) = (p.1.2, p.2.2)
  | q :: l, h, p, hp => by
    rcases List.mem_cons.1 hp with rfl | hp
    · exact amtP_here _ _ rfl
    · rw [amtP_there (lLess_ne (h.1 p hp)), amtP_mem h.2 p hp]
theorem amtP_all {Q : Int → Int → Prop} (h0 : Q 0 0) : ∀ {l : List (Lot × Lot)}, (∀ p ∈ l, Q p.1.2 p.2.2) → ∀ s, Q (amtP l s).1 (amtP l s).2
  | [], _, _ => h0
  | p :: l, h, s => by
    by_cases e : keyP p = s
    · rw [amtP_here _ _ e]; exact h p (List.mem_cons_self ..)
    · rw [amtP_there e]; exact amtP_all h0 (fun q hq => h q (List.mem_cons_of_mem _ hq)) s

noncomputable def sumL (sign : Int) : List (Lot × Lot) → List Lot
  | [] => []
  | p :: l => if addN sign p.1 p.2 = 0 then sumL sign l else (keyP p, addN sign p.1 p.2) :: sumL sign l
theorem sumL_mem {sign : Int} : ∀ {l : List (Lot × Lot)}, ∀ w ∈ sumL sign l, ∃ p ∈ l, w = (keyP p, addN sign p.1 p.2) ∧ w.2 ≠ 0
  | p :: l, w, hw => by
    rw [sumL] at hw
    by_cases e : addN sign p.1 p.2 = 0
    · rw [if_pos e] at hw
      obtain ⟨q, hq, h⟩ := sumL_mem w hw
      exact ⟨q, List.mem_cons_of_mem _ hq, h⟩
    · rw [if_neg e] at hw
      rcases List.mem_cons.1 hw with rfl | hw
      · exact ⟨p, List.mem_cons_self .., rfl, e⟩
      · obtain ⟨q, hq, h⟩ := sumL_mem w hw
        exact ⟨q, List.mem_cons_of_mem _ hq, h⟩
theorem sumL_srt {sign : Int} : ∀ {l : List (Lot × Lot)}, SrtP l → Srt (sumL sign l)
  | [], _ => trivial
  | p :: l, h => by
    rw [sumL]
    by_cases e : addN sign p.1 p.2 = 0
    · rw [if_pos e]; exact sumL_srt h.2
    · rw [if_neg e]
      refine ⟨fun w hw => ?_, e, sumL_srt h.2⟩
      obtain ⟨q, hq, rfl, _⟩ := sumL_mem w hw
      exact h.1 q hq
theorem addI_0 (sign : Int) : addI sign 0 0 = 0 := by
  unfold addI
  rw [Int.mul_zero]; rfl
theorem amt_sumL {sign : Int} (s : List UInt8) : ∀ {l : List (Lot × Lot)}, SrtP l → amt (sumL sign l) s = addI sign (amtP l s).1 (amtP l s).2
  | [], _ => (addI_0 sign).symm
  | p :: l, h => by
    rw [sumL]
    by_cases k : keyP p = s
    · rw [amtP_here _ _ k]
      by_cases e : addN sign p.1 p.2 = 0
      · rw [if_pos e, amt_none fun w hw => ?_]
        · exact e.symm
        · obtain ⟨q, hq, rfl, _⟩ := sumL_mem w hw
          rw [← k]; exact h.1 q hq
      · rw [if_neg e]; subst k; exact amt_here (keyP p, addN sign p.1 p.2) _
    · rw [amtP_there k, ← amt_sumL s h.2]
      by_cases e : addN sign p.1 p.2 = 0
      · rw [if_pos e]
      · rw [if_neg e]; exact amt_there (x := (keyP p, addN sign p.1 p.2)) k

theorem run_of {sign : Int} : ∀ {l : List (Lot × Lot)} {out : List Lot}, (∀ p ∈ l, okP sign p.1.2 p.2.2) → runPass (okC sign) (stepC sign) out l = some (out ++ sumL sign l)
  | [], out, _ => by rw [runPass, sumL, List.append_nil]
  | (x, y) :: l, out, h => by
    rw [runPass, if_pos (okC_iff.2 (h (x, y) (List.mem_cons_self ..))), run_of fun p hp => h p (List.mem_cons_of_mem _ hp), sumL]
    unfold stepC
    by_cases e : addN sign x y = 0
    · rw [if_pos e, if_pos e]
    · rw [if_neg e, if_neg e, List.append_assoc]; rfl
theorem run_ok {sign : Int} : ∀ {l : List (Lot × Lot)} {out t : List Lot}, runPass (okC sign) (stepC sign) out l = some t → ∀ p ∈ l, okP sign p.1.2 p.2.2
  | [], _, _, _, p, hp => by cases hp
  | (x, y) :: l, out, t, h, p, hp => by
    rw [runPass] at h
    by_cases e : okC sign out x y = true
    · rw [if_pos e] at h
      rcases List.mem_cons.1 hp with rfl | hp
      · exact okC_iff.1 e
      · exact run_ok h p hp
    · rw [if_neg e] at h; cases h

theorem ok_mem {l : List Lot} (h : okAll l = true) {x : Lot} (hx : x ∈ l) : nmB x.1 = true ∧ -1099511627776 ≤ x.2 ∧ x.2 ≤ 1099511627776 := by
  obtain ⟨i, hi, rfl⟩ := List.getElem_of_mem hx
  have := okAll_at h hi
  rw [List.getD_eq_getElem?_getD, List.getElem?_eq_getElem hi] at this
  unfold okI at this
  simp only [Option.getD_some, Bool.and_eq_true, Bool.not_eq_true', decide_eq_false_iff_not] at this
  exact ⟨this.1.1.1.1, by omega, by omega⟩
theorem srt_pw : ∀ {l : List Lot}, Srt l → l.Pairwise fun x y => lLess x.1 y.1 = true
  | [], _ => .nil
  | _ :: _, h => .cons h.1 (srt_pw h.2.2)
theorem srt_nz : ∀ {l : List Lot}, Srt l → ∀ x ∈ l, x.2 ≠ 0
  | y :: l, h, x, hx => by
    rcases List.mem_cons.1 hx with rfl | hx
    · exact h.2.1
    · exact srt_nz h.2.2 x hx
theorem ok_of_srt {l : List Lot} (h : Srt l) (hm : ∀ x ∈ l, nmB x.1 = true ∧ -1099511627776 ≤ x.2 ∧ x.2 ≤ 1099511627776) : okAll l = true := by
  refine okAll_yes fun j hj => ?_
  rw [List.getD_eq_getElem?_getD, List.getElem?_eq_getElem hj]
  unfold okI
  have hx := List.getElem_mem hj
  obtain ⟨h1, h2, h3⟩ := hm _ hx
  have h4 := srt_nz h _ hx
  simp only [Option.getD_some, Bool.and_eq_true, Bool.not_eq_true', decide_eq_false_iff_not, Bool.or_eq_true, beq_eq_false_iff_ne]
  refine ⟨⟨⟨⟨h1, ?_⟩, h4⟩, by omega⟩, by omega⟩
  by_cases h0 : 0 < (j : Int)
  · right
    have hj' : j - 1 < l.length := by omega
    rw [List.getD_eq_getElem?_getD, List.getElem?_eq_getElem hj']
    exact List.pairwise_iff_getElem.1 (srt_pw h) (j - 1) j hj' hj (by omega)
  · left; exact h0

theorem amt_bound : ∀ {l : List Lot}, (∀ x ∈ l, -1099511627776 ≤ x.2 ∧ x.2 ≤ 1099511627776) → ∀ s, -1099511627776 ≤ amt l s ∧ amt l s ≤ 1099511627776
  | [], _, _ => ⟨(by omega : (-1099511627776 : Int) ≤ 0), (by omega : (0 : Int) ≤ 1099511627776)⟩
  | x :: l, h, s => by
    by_cases e : x.1 = s
    · subst e; rw [amt_here]; exact h x (List.mem_cons_self ..)
    · rw [amt_there e]; exact amt_bound (fun y hy => h y (List.mem_cons_of_mem _ hy)) s
theorem addI_eq {sign u v : Int} (hs : sign = 1 ∨ sign = -1) (hu : -1099511627776 ≤ u ∧ u ≤ 1099511627776) (hv : -1099511627776 ≤ v ∧ v ≤ 1099511627776) : addI sign u v = u + sign * v := by
  unfold addI
  rcases hs with rfl | rfl
  · rw [wrapI (n := 1 * v) (by omega) (by omega), wrapI (by omega) (by omega)]
  · rw [wrapI (n := -1 * v) (by omega) (by omega), wrapI (by omega) (by omega)]

theorem chk_bound {l : List Lot} (h : chkLots l = 0) : ∀ s, -1099511627776 ≤ amt l s ∧ amt l s ≤ 1099511627776 := amt_bound fun _ hx => (ok_mem (chk_ok h).1 hx).2
theorem chk_of {l : List Lot} (h1 : okAll l = true) (h2 : l.length ≤ 64) : chkLots l = 0 := by
  unfold chkLots
  rw [if_neg (by omega), if_pos h1]

theorem comb_run {sign : Int} {a b : List Lot} (hs : sign = 1 ∨ sign = -1) (ha : chkLots a = 0) (hb : chkLots b = 0) (h : ∀ p ∈ pairs a b, okP sign p.1.2 p.2.2) :
    okAll (sumL sign (pairs a b)) = true ∧ ∀ s, amt (sumL sign (pairs a b)) s = amt a s + sign * amt b s := by
  obtain ⟨h1, h2, h3⟩ := pairs_law a b (srt_ok (chk_ok ha).1) (srt_ok (chk_ok hb).1)
  refine ⟨ok_of_srt (sumL_srt h2) fun w hw => ?_, fun s => ?_⟩
  · obtain ⟨p, hp, rfl, _⟩ := sumL_mem w hw
    exact ⟨h1 (fun k => nmB k = true) (fun x hx => (ok_mem (chk_ok ha).1 hx).1) (fun x hx => (ok_mem (chk_ok hb).1 hx).1) p hp, h p hp⟩
  · rw [amt_sumL s h2, h3]; exact addI_eq hs (chk_bound ha s) (chk_bound hb s)

theorem comb_ok {sign : Int} {a b : List Lot} (hs : sign = 1 ∨ sign = -1) (h : (combC sign a b).2 = 0) :
    chkLots a = 0 ∧ chkLots b = 0 ∧ chkLots (combC sign a b).1 = 0 ∧ ∀ s, amt (combC sign a b).1 s = amt a s + sign * amt b s := by
  unfold combC at h ⊢
  by_cases hc : chkTwo a b = 0
  · rw [if_pos hc] at h ⊢
    have ha : chkLots a = 0 := by
      unfold chkTwo at hc
      split at hc
      · assumption
      · exact hc
    have hb : chkLots b = 0 := by rwa [chkTwo, if_pos ha] at hc
    refine ⟨ha, hb, ?_⟩
    cases hr : runPass (okC sign) (stepC sign) [] (pairs a b) with
    | none => rw [hr] at h; exact absurd h (by decide)
    | some t =>
      rw [hr] at h
      have hok := run_ok hr
      rw [run_of hok, List.nil_append] at hr
      have ht := Option.some.inj hr
      subst ht
      obtain ⟨k1, k2⟩ := comb_run hs ha hb hok
      simp only [Option.elim_some] at h ⊢
      by_cases hl : 64 < (sumL sign (pairs a b)).length
      · rw [if_pos hl] at h; exact absurd h (by decide)
      · rw [if_neg hl]; exact ⟨chk_of k1 (Nat.le_of_not_lt hl), k2⟩
  · rw [if_neg hc] at h; exact absurd h hc

theorem comb_of {sign : Int} {a b t : List Lot} (hs : sign = 1 ∨ sign = -1) (ha : chkLots a = 0) (hb : chkLots b = 0) (ht : chkLots t = 0) (h : ∀ s, amt t s = amt a s + sign * amt b s) : combC sign a b = (t, 0) := by
  obtain ⟨h1, h2, h3⟩ := pairs_law a b (srt_ok (chk_ok ha).1) (srt_ok (chk_ok hb).1)
  have hok : ∀ p ∈ pairs a b, okP sign p.1.2 p.2.2 := fun p hp => by
    have e := amtP_mem h2 p hp
    rw [h3] at e
    have e1 := congrArg Prod.fst e
    have e2 := congrArg Prod.snd e
    have := chk_bound ht (keyP p)
    rw [h] at this
    unfold okP
    rw [← show amt a (keyP p) = p.1.2 from e1, ← show amt b (keyP p) = p.2.2 from e2, addI_eq hs (chk_bound ha _) (chk_bound hb _)]
    exact this
  obtain ⟨k1, k2⟩ := comb_run hs ha hb hok
  have e : sumL sign (pairs a b) = t := amt_ext (srt_ok k1) (srt_ok (chk_ok ht).1) fun s => by rw [k2, h]
  unfold combC
  rw [if_pos (chkTwo_ok ha hb), run_of hok, List.nil_append, e]
  simp only [Option.elim_some]
  rw [if_neg (by have := (chk_ok ht).2; omega)]

theorem add_comm' {a b : List Lot} : (combC 1 a b).2 = 0 → combC 1 b a = combC 1 a b := fun h => by
  obtain ⟨ha, hb, ht, hs⟩ := comb_ok (.inl rfl) h
  rw [comb_of (.inl rfl) hb ha ht fun s => by rw [hs]; omega, ← h]
theorem sub_back {a b : List Lot} (h : (combC 1 a b).2 = 0) : combC (-1) (combC 1 a b).1 b = (a, 0) := by
  obtain ⟨ha, hb, ht, hs⟩ := comb_ok (.inl rfl) h
  exact comb_of (.inr rfl) ht hb ha fun s => by rw [hs]; omega
theorem sub_self {a : List Lot} (h : chkLots a = 0) : combC (-1) a a = ([], 0) :=
  comb_of (.inr rfl) h h (by decide +kernel) fun s => by show (0 : Int) = _; omega
theorem add_group {a b c : List Lot} (h1 : (combC 1 a b).2 = 0) (h2 : (combC 1 (combC 1 a b).1 c).2 = 0) (h3 : (combC 1 b c).2 = 0) : combC 1 a (combC 1 b c).1 = combC 1 (combC 1 a b).1 c := by
  obtain ⟨ha, hb, ht, hs⟩ := comb_ok (.inl rfl) h1
  obtain ⟨_, hc, hx, hxs⟩ := comb_ok (.inl rfl) h2
  obtain ⟨_, _, hy, hys⟩ := comb_ok (.inl rfl) h3
  rw [comb_of (.inl rfl) ha hy hx fun s => by rw [hxs, hs, hys]; omega, ← h2]
end Go.Proofs.YtndipbefnipnpaaGreat
