/- A part of the proof: BkSp3, BkSv1, BkSv2, BkSv3, BkSv4, BkSv5, BkSv6. No conditions. -/
import Derived.Test.YtekoajibckipkaaGreatQAk
import Derived.Sort.Defs
import Derived.Sort.Lot0
import Derived.Sort.LotD5
import Derived.Sort.LotC
namespace Go.Proofs.YtekoajibckipkaaGreat
open Go Go.Eng
theorem valsU_at {nm : List UInt8} {us : List Pr} (hck : chkLad nm us = 0) {i : Nat} (hi : i < us.length) : ((valsU 1 us).getD []).getD i 0 = vW us i := by
  obtain ⟨hL, hyl, hf⟩ := chkLad_ok hck
  obtain ⟨x, l, hxl, hx1⟩ := chkLad_first hck
  rw [vals_yv 1 us hyl]
  have hlt : i < (yv 1 us).length := by omega
  have hy : (yv 1 us)[i]? = some (yv 1 us)[i] := List.getElem?_eq_getElem hlt
  show ((yv 1 us).map (·.2)).getD i 0 = _
  rw [List.getD_eq_getElem?_getD, List.getElem?_map, hy]
  generalize (yv 1 us)[i] = y at hy
  subst hxl
  obtain ⟨a, _⟩ := yv_vW 1 x l i y hyl hy
  show y.2 = _
  rw [a, hx1, Int.one_mul, Int.one_mul]
theorem valsU_len' {nm : List UInt8} {us : List Pr} (hck : chkLad nm us = 0) : ((valsU 1 us).getD []).length = us.length := by
  obtain ⟨hL, hyl, hf⟩ := chkLad_ok hck
  rw [vals_yv 1 us hyl]
  show ((yv 1 us).map (·.2)).length = _
  rw [List.length_map, hyl]
def meantA (cs vs : List Int) (n : Int) (i : Nat) : List Int := [n - vs.getD i 0, n + vs.getD i 0] ++ (if 0 < i then [n - cs.getD i 0 * vs.getD i 0 + cs.getD i 0 * vs.getD (i - 1) 0, n - cs.getD (i - 1) 0 * vs.getD (i - 1) 0 + cs.getD (i - 1) 0 * vs.getD i 0] else [])
def meantL (cs vs : List Int) (n : Int) (k : Nat) : List Int := (List.range k).flatMap (meantA cs vs n)
theorem meantL_succ (cs vs : List Int) (n : Int) (k : Nat) : meantL cs vs n (k + 1) = meantL cs vs n k ++ meantA cs vs n k := by
  unfold meantL
  rw [List.range_succ, List.flatMap_append, List.flatMap_cons, List.flatMap_nil, List.append_nil]
theorem meantA_len (cs vs : List Int) (n : Int) (i : Nat) : (meantA cs vs n i).length ≤ 4 := by
  unfold meantA
  rw [List.length_append]
  split
  · exact Nat.le_refl _
  · exact Nat.le_of_ble_eq_true rfl
theorem meantL_len (cs vs : List Int) (n : Int) : ∀ k, (meantL cs vs n k).length ≤ 4 * k
  | 0 => Nat.le_refl _
  | k + 1 => by
    rw [meantL_succ, List.length_append]
    have := meantL_len cs vs n k
    have := meantA_len cs vs n k
    omega
noncomputable def goodM (nm : List UInt8) (us : List Pr) (n m : Int) : Prop := slipE nm us m n ≠ 0
theorem goodM_ok {nm : List UInt8} {us : List Pr} {n m : Int} (h : goodM nm us n m) : okN m = true := by
  unfold goodM slipE at h
  by_cases c : (1 ≤ m ∧ 1 ≤ n) ∧ (m ≤ 1099511627776 ∧ n ≤ 1099511627776)
  · unfold okN; rw [decide_eq_true c.1.1, decide_eq_true c.2.1]; rfl
  · rw [if_neg c] at h; exact absurd rfl h
theorem split_eq {nm : List UInt8} {us : List Pr} (hck : chkLad nm us = 0) {k : Int} (h1 : 1 ≤ k) (h2 : k ≤ 1099511627776) : splitE nm us k = (splitA us k, 0) := by
  unfold splitE; rw [if_neg (fun h => h hck), if_pos ⟨by omega, h2⟩]
theorem slipE_X {nm : List UInt8} {us : List Pr} (hck : chkLad nm us = 0) {n m : Int} (hn1 : 1 ≤ n) (hn2 : n ≤ 1099511627776) (hm : okN m = true) : slipX us n m = (slipE nm us m n, slipG nm us m n, m) := by
  unfold okN at hm
  rw [Bool.and_eq_true, decide_eq_true_eq, decide_eq_true_eq] at hm
  unfold slipX slipE slipG
  rw [if_pos ⟨⟨hm.1, hn1⟩, hm.2, hn2⟩, split_eq hck hn1 hn2, split_eq hck hm.1 hm.2]
  show _ = (slipK _ _ (difL _ _ (splitA us n).length), slipS _ _ _ (difL _ _ (splitA us n).length), m)
  rw [splitA_len]
theorem slip_meant {nm : List UInt8} {us : List Pr} (hck : chkLad nm us = 0) {n : Int} {x : Sp} (hx : x ∈ slipsL us (splitA us n) (valsS nm us) n) : x.2.2 ∈ meantL (splitA us n) ((valsU 1 us).getD []) n us.length := by
  obtain ⟨i, hi, hx⟩ := List.mem_flatMap.1 hx
  rw [List.mem_range] at hi
  have hv : ∀ i, i < us.length → (valsS nm us).getD i 0 = ((valsU 1 us).getD []).getD i 0 := fun i hi => by rw [(valsS_at hck hi).1, valsU_at hck hi]
  generalize valsS nm us = vs at hx hv
  generalize (valsU 1 us).getD [] = ws at hv
  unfold slipsAt at hx
  rw [List.mem_append, List.mem_append, mem_one, mem_one] at hx
  have put : ∀ j m, j < us.length → m ∈ meantA (splitA us n) ws n j → m ∈ meantL (splitA us n) ws n us.length := fun j m hj hm => List.mem_flatMap.2 ⟨j, List.mem_range.2 hj, hm⟩
  rcases hx with (⟨_, _, rfl⟩ | ⟨_, _, rfl⟩) | hx
  · refine put i _ hi (List.mem_append_left _ ?_)
    show n - vs.getD i 0 ∈ _
    rw [hv i hi]; exact List.mem_cons_self ..
  · refine put i _ hi (List.mem_append_left _ ?_)
    show n + vs.getD i 0 ∈ _
    rw [hv i hi]; exact List.mem_cons_of_mem _ (List.mem_cons_self ..)
  · by_cases hlast : i + 1 = us.length
    · rw [if_pos hlast] at hx; cases hx
    · have hi2 : i + 1 < us.length := by omega
      rw [if_neg hlast, List.mem_append, mem_one, mem_one] at hx
      rcases hx with ⟨_, _, rfl⟩ | ⟨_, _, rfl⟩
      · refine put (i + 1) _ hi2 (List.mem_append_right _ ?_)
        show n - (splitA us n).getD (i + 1) 0 * vs.getD (i + 1) 0 + (splitA us n).getD (i + 1) 0 * vs.getD i 0 ∈ _
        rw [if_pos (Nat.succ_pos i), hv i hi, hv (i + 1) hi2]
        exact List.mem_cons_self ..
      · refine put (i + 1) _ hi2 (List.mem_append_right _ ?_)
        show n - (splitA us n).getD i 0 * vs.getD i 0 + (splitA us n).getD i 0 * vs.getD (i + 1) 0 ∈ _
        rw [if_pos (Nat.succ_pos i), hv i hi, hv (i + 1) hi2]
        exact List.mem_cons_of_mem _ (List.mem_cons_self ..)
def beyB (out : List Sp) (m : Int) : Bool := out.all fun y => decide (y.2.2 < m)
def remN (C : List Int) (out : List Sp) : Nat := (C.filter (beyB out)).length
theorem filter_lt {α : Type} {p q : α → Bool} : ∀ (l : List α), (∀ x ∈ l, q x = true → p x = true) → (∃ a ∈ l, p a = true ∧ q a = false) → (l.filter q).length < (l.filter p).length
  | [], _, ⟨_, h, _⟩ => absurd h List.not_mem_nil
  | b :: l, h1, h2 => by
    have le : ∀ l : List α, (∀ x ∈ l, q x = true → p x = true) → (l.filter q).length ≤ (l.filter p).length := fun l => by
      induction l with
      | nil => intro _; exact Nat.le_refl _
      | cons c l ih =>
        intro h
        have i1 := ih fun x hx => h x (List.mem_cons_of_mem _ hx)
        rw [List.filter_cons, List.filter_cons]
        by_cases hq : q c = true
        · rw [if_pos hq, if_pos (h c (List.mem_cons_self ..) hq)]; exact Nat.succ_le_succ i1
        · rw [if_neg hq]
          split
          · exact Nat.le_succ_of_le i1
          · exact i1
    rw [List.filter_cons, List.filter_cons]
    obtain ⟨a, ha, pa, qa⟩ := h2
    rcases List.mem_cons.1 ha with rfl | ha
    · rw [if_pos pa, if_neg (by rw [qa]; decide)]
      exact Nat.lt_succ_of_le (le l fun x hx => h1 x (List.mem_cons_of_mem _ hx))
    · have ih := filter_lt l (fun x hx => h1 x (List.mem_cons_of_mem _ hx)) ⟨a, ha, pa, qa⟩
      by_cases hq : q b = true
      · rw [if_pos hq, if_pos (h1 b (List.mem_cons_self ..) hq)]; exact Nat.succ_lt_succ ih
      · rw [if_neg hq]
        split
        · exact Nat.lt_succ_of_lt ih
        · exact ih
theorem rem_lt {C : List Int} {out : List Sp} {x : Sp} (hx : x.2.2 ∈ C) (hb : beyB out x.2.2 = true) : remN C (out ++ [x]) < remN C out := by
  refine filter_lt C (fun m _ h => ?_) ⟨x.2.2, hx, hb, ?_⟩
  · unfold beyB at h ⊢
    rw [List.all_append, Bool.and_eq_true] at h
    exact h.1
  · unfold beyB
    rw [List.all_append, Bool.and_eq_false_iff]
    refine .inr ?_
    rw [List.all_cons, decide_eq_false (Int.lt_irrefl _), Bool.false_and]
theorem bey_last {out : List Sp} (ho : List.Pairwise (fun x y : Sp => x.2.2 < y.2.2) out) (m : Int) : beyB out m = (match out.getLast? with | none => true | some y => decide (y.2.2 < m)) := by
  rcases List.eq_nil_or_concat out with rfl | ⟨l, y, rfl⟩
  · rfl
  · rw [List.concat_eq_append] at ho ⊢
    rw [List.getLast?_append]
    show beyB (l ++ [y]) m = decide (y.2.2 < m)
    unfold beyB
    rw [List.all_append, List.all_cons, List.all_nil, Bool.and_true]
    by_cases h : y.2.2 < m
    · rw [decide_eq_true h, Bool.and_true, List.all_eq_true]
      intro z hz
      have := (List.pairwise_append.1 ho).2.2 z hz y (List.mem_singleton.2 rfl)
      exact decide_eq_true (by omega)
    · rw [decide_eq_false h, Bool.and_false]
structure ChoN (nm : List UInt8) (us : List Pr) (n : Int) (C : List Int) (out : List Sp) : Prop where
  ord : List.Pairwise (fun x y : Sp => x.2.2 < y.2.2) out
  mem : ∀ x ∈ out, x.2.2 ∈ C ∧ goodM nm us n x.2.2 ∧ x = slipX us n x.2.2
  all : ∀ m ∈ C, goodM nm us n m → beyB out m = true ∨ ∃ x ∈ out, x.2.2 = m
structure BestN (nm : List UInt8) (us : List Pr) (n : Int) (out : List Sp) (C : List Int) (b : Sp) : Prop where
  no : b.1 = 0 → ∀ m ∈ C, goodM nm us n m → beyB out m = false
  yes : b.1 ≠ 0 → b.2.2 ∈ C ∧ goodM nm us n b.2.2 ∧ b = slipX us n b.2.2 ∧ beyB out b.2.2 = true ∧ ∀ m ∈ C, goodM nm us n m → beyB out m = true → b.2.2 ≤ m
theorem ChoN.nil {nm : List UInt8} {us : List Pr} {n : Int} {C : List Int} : ChoN nm us n C [] := ⟨List.Pairwise.nil, fun _ h => absurd h List.not_mem_nil, fun _ _ _ => .inl rfl⟩
theorem BestN.nil {nm : List UInt8} {us : List Pr} {n : Int} {out : List Sp} {b : Sp} (h : b.1 = 0) : BestN nm us n out [] b := ⟨fun _ _ hm => absurd hm List.not_mem_nil, fun h' => absurd h h'⟩
theorem BestN.keep {nm : List UInt8} {us : List Pr} {n : Int} {out : List Sp} {C : List Int} {b : Sp} {m : Int} (h : BestN nm us n out C b) (hk : ¬ (goodM nm us n m ∧ beyB out m = true ∧ (b.1 = 0 ∨ m < b.2.2))) : BestN nm us n out (C ++ [m]) b := by
  refine ⟨fun h0 m' hm' hg => ?_, fun h0 => ?_⟩
  · rcases List.mem_append.1 hm' with hm' | hm'
    · exact h.no h0 m' hm' hg
    · cases List.mem_singleton.1 hm'
      cases hb : beyB out m with
      | false => rfl
      | true => exact absurd ⟨hg, hb, .inl h0⟩ hk
  · obtain ⟨a1, a2, a3, a4, a5⟩ := h.yes h0
    refine ⟨List.mem_append_left _ a1, a2, a3, a4, fun m' hm' hg hb => ?_⟩
    rcases List.mem_append.1 hm' with hm' | hm'
    · exact a5 m' hm' hg hb
    · cases List.mem_singleton.1 hm'
      exact Int.not_lt.1 fun hlt => hk ⟨hg, hb, .inr hlt⟩
theorem BestN.take {nm : List UInt8} {us : List Pr} {n : Int} {out : List Sp} {C : List Int} {b : Sp} {m : Int} (h : BestN nm us n out C b) (hg : goodM nm us n m) (hb : beyB out m = true) (hk : b.1 = 0 ∨ m < b.2.2) (hx : (slipX us n m).1 ≠ 0) : BestN nm us n out (C ++ [m]) (slipX us n m) := by
  refine ⟨fun h0 => absurd h0 hx, fun _ => ⟨List.mem_append_right _ (List.mem_singleton.2 rfl), hg, rfl, hb, fun m' hm' hg' hb' => ?_⟩⟩
  show m ≤ m'
  rcases List.mem_append.1 hm' with hm' | hm'
  · by_cases h0 : b.1 = 0
    · rw [h.no h0 m' hm' hg'] at hb'; cases hb'
    · have := (h.yes h0).2.2.2.2 m' hm' hg' hb'
      rcases hk with hk | hk
      · exact absurd hk h0
      · omega
  · cases List.mem_singleton.1 hm'; exact Int.le_refl _
theorem ChoN.push {nm : List UInt8} {us : List Pr} {n : Int} {C : List Int} {out : List Sp} {b : Sp} (h : ChoN nm us n C out) (hb : BestN nm us n out C b) (h0 : b.1 ≠ 0) : ChoN nm us n C (out ++ [b]) := by
  obtain ⟨a1, a2, a3, a4, a5⟩ := hb.yes h0
  refine ⟨?_, fun x hx => ?_, fun m hm hg => ?_⟩
  · rw [List.pairwise_append]
    refine ⟨h.ord, List.pairwise_singleton _ _, fun x hx y hy => ?_⟩
    cases List.mem_singleton.1 hy
    unfold beyB at a4
    exact of_decide_eq_true (List.all_eq_true.1 a4 x hx)
  · rcases List.mem_append.1 hx with hx | hx
    · exact h.mem x hx
    · cases List.mem_singleton.1 hx
      exact ⟨a1, a2, a3⟩
  · rcases h.all m hm hg with h1 | ⟨x, hx, e⟩
    · have hle := a5 m hm hg h1
      by_cases he : b.2.2 = m
      · exact .inr ⟨b, List.mem_append_right _ (List.mem_singleton.2 rfl), he⟩
      · refine .inl ?_
        unfold beyB at h1 ⊢
        rw [List.all_append, h1, List.all_cons, decide_eq_true (by omega : b.2.2 < m)]; rfl
    · exact .inr ⟨x, List.mem_append_left _ hx, e⟩
theorem slips_one {nm : List UInt8} {us : List Pr} (hck : chkLad nm us = 0) {n : Int} (hn1 : 1 ≤ n) (hn2 : n ≤ 1099511627776) {P out : List Sp} (hp : P.Perm (slipsL us (splitA us n) (valsS nm us) n)) (ho : List.Pairwise (fun x y : Sp => ¬ y.2.2 < x.2.2) P)
    (hc : ChoN nm us n (meantL (splitA us n) ((valsU 1 us).getD []) n us.length) out) (hb : ∀ m ∈ meantL (splitA us n) ((valsU 1 us).getD []) n us.length, goodM nm us n m → beyB out m = false) : P = out := by
  have hpw : List.Pairwise (fun x y : Sp => x.2.2 ≠ y.2.2) P := (hp.pairwise_iff fun {x y} h => fun e => h e.symm).2 (slips_pw hck hn1)
  refine ord_ext (List.Pairwise.imp₂ (fun x y h1 h2 => by omega) ho hpw) hc.ord fun x => ?_
  rw [hp.mem_iff, slip_mem hck hn1]
  constructor
  · rintro ⟨h1, h2, h3⟩
    have hg : goodM nm us n x.2.2 := by
      unfold goodM
      have := slipE_X hck hn1 hn2 h1
      rw [this] at h2
      have e : x.1 = slipE nm us x.2.2 n := congrArg Prod.fst h2
      rw [← e]; exact h3
    have hm := slip_meant hck ((slip_mem hck hn1 x).2 ⟨h1, h2, h3⟩)
    rcases hc.all _ hm hg with hf | ⟨y, hy, e⟩
    · rw [hb _ hm hg] at hf; cases hf
    · have hy2 := (hc.mem y hy).2.2
      rw [e, ← h2] at hy2
      rw [← hy2]; exact hy
  · intro hx
    obtain ⟨h1, h2, h3⟩ := hc.mem x hx
    have ho := goodM_ok h2
    refine ⟨ho, h3, ?_⟩
    have := slipE_X hck hn1 hn2 ho
    rw [this] at h3
    have e : x.1 = slipE nm us x.2.2 n := congrArg Prod.fst h3
    rw [e]; exact h2
end Go.Proofs.YtekoajibckipkaaGreat
namespace Go.Proofs.YtekoajibckipkaaGreat
open Go Go.Eng
theorem tyS : type_of% (qA tyF (qA ld_slips (qA sz_slips (qA zr_slips (qA el_slips (qA ln_slips ad_slips)))))) := qA tyF (qA ld_slips (qA sz_slips (qA zr_slips (qA el_slips (qA ln_slips ad_slips)))))
def rowS {α : Type} (c : α → List AC) (d : Array α) : List AC := d.toList.flatMap c
section
variable {α : Type} [Inhabited α] {c : α → List AC} (hc : ∀ x, (c x).length = 3)
include hc
omit [Inhabited α] in
theorem rowS_len (d : Array α) : (rowS c d).length = d.size * 3 := by
  unfold rowS
  rw [flat_len hc, Array.length_toList]
omit [Inhabited α] in
theorem rowS_set (d : Array α) (i : Nat) (x : α) : (rowS c (d.setIfInBounds i x)).length = (rowS c d).length := by
  rw [rowS_len hc, rowS_len hc, Array.size_setIfInBounds]
theorem rowS_at (d : Array α) {i : Nat} (h : i < d.size) : ((rowS c d).drop (i * 3)).take 3 = c d[i]! := by
  have e : d.toList[i]? = some d[i]! := by
    rw [Array.getElem?_toList, getElem!_pos d i h, Array.getElem?_eq_getElem h]
  exact flat_at hc d.toList i _ e
omit [Inhabited α] in
theorem rowS_le (d : Array α) {i : Nat} (h : i < d.size) : i * 3 + 3 ≤ (rowS c d).length := by
  rw [rowS_len hc]; omega
omit [Inhabited α] in
theorem flat_set : ∀ (l : List α) (i : Nat) (x : α), i < l.length → (l.flatMap c).take (i * 3) ++ (c x ++ (l.flatMap c).drop (i * 3 + 3)) = (l.set i x).flatMap c
  | [], i, _, h => absurd h (Nat.not_lt_zero i)
  | y :: l, 0, x, _ => by
    rw [Nat.zero_mul, List.take_zero, List.nil_append, List.flatMap_cons, List.set_cons_zero, List.flatMap_cons, Nat.zero_add, List.drop_append, hc, List.drop_of_length_le (Nat.le_of_eq (hc y)), Nat.sub_self, List.drop_zero, List.nil_append]
  | y :: l, i + 1, x, h => by
    have ih := flat_set l i x (Nat.lt_of_succ_lt_succ h)
    have e1 : (i + 1) * 3 = 3 + i * 3 := by omega
    have e2 : 3 + i * 3 + 3 = 3 + (i * 3 + 3) := by omega
    rw [List.flatMap_cons, List.set_cons_succ, List.flatMap_cons, ← ih, e1, e2, List.take_append, List.drop_append, hc, List.take_of_length_le (by rw [hc]; omega), List.drop_of_length_le (by rw [hc]; omega), List.nil_append, List.append_assoc, Nat.add_sub_cancel_left, Nat.add_sub_cancel_left]
omit [Inhabited α] in
theorem rowS_put (d : Array α) {i : Nat} (h : i < d.size) (x : α) : (rowS c d).take (i * 3) ++ (c x ++ (rowS c d).drop (i * 3 + 3)) = rowS c (d.setIfInBounds i x) := by
  unfold rowS
  rw [flat_set hc d.toList i x (by rw [Array.length_toList]; exact h), Array.toList_setIfInBounds]
theorem swQ {d : Array α} {i j : Nat} (hi : i < d.size) (hj : j < d.size) :
    (((rowS c d).drop (i * 3)).take 3 = c d[i]!) ∧ (((rowS c d).drop (j * 3)).take 3 = c d[j]!) ∧ i * 3 + 3 ≤ (rowS c d).length ∧ j * 3 + 3 ≤ (rowS c d).length ∧ (∀ (d : Array α) (i : Nat) (x : α), (rowS c (d.setIfInBounds i x)).length = (rowS c d).length) ∧
    (∀ x, (rowS c d).take (i * 3) ++ (c x ++ (rowS c d).drop (i * 3 + 3)) = rowS c (d.setIfInBounds i x)) ∧
    (∀ x y, (rowS c (d.setIfInBounds i x)).take (j * 3) ++ (c y ++ (rowS c (d.setIfInBounds i x)).drop (j * 3 + 3)) = rowS c ((d.setIfInBounds i x).setIfInBounds j y)) :=
  ⟨rowS_at hc d hi, rowS_at hc d hj, rowS_le hc d hi, rowS_le hc d hj, rowS_set hc, fun x => rowS_put hc d hi x, fun x y => rowS_put hc _ (by rw [Array.size_setIfInBounds]; exact hj) y⟩
theorem rdQ {d : Array α} {i j : Nat} (hi : i < d.size) (hj : j < d.size) :
    (((rowS c d).drop (i * 3)).take 3 = c d[i]!) ∧ (((rowS c d).drop (j * 3)).take 3 = c d[j]!) ∧ i * 3 + 3 ≤ (rowS c d).length ∧ j * 3 + 3 ≤ (rowS c d).length :=
  ⟨rowS_at hc d hi, rowS_at hc d hj, rowS_le hc d hi, rowS_le hc d hj⟩
end
theorem swp_size {α : Type} [Inhabited α] (d : Array α) (i j : Nat) : (Go.Sort.swp d i j).size = d.size := by
  unfold Go.Sort.swp
  rw [Array.size_setIfInBounds, Array.size_setIfInBounds]
def Srt {α : Type} (c : α → List AC) (H : Hp) (id gen n : Nat) (d : Array α) : Prop := d.size = n ∧ (∃ lo, lo ≤ gen ∧ H.get id = some (.arr (rowS c d) 75 lo gen)) ∧ id < H.nx
theorem Srt.sz {α : Type} {c : α → List AC} {H : Hp} {id gen n : Nat} {d : Array α} (h : Srt c H id gen n d) : d.size = n := h.1
theorem Srt.row {α : Type} {c : α → List AC} {H : Hp} {id gen n : Nat} {d : Array α} (h : Srt c H id gen n d) : ∃ lo, lo ≤ gen ∧ H.get id = some (.arr (rowS c d) 75 lo gen) := h.2.1
theorem Srt.lt {α : Type} {c : α → List AC} {H : Hp} {id gen n : Nat} {d : Array α} (h : Srt c H id gen n d) : id < H.nx := h.2.2
structure Cmp {α : Type} (c : α → List AC) (cf : α → α → Int) (cl : FuncId) (N : Nat) : Prop where
  len : ∀ x, (c x).length = 3
  lt : ∀ x, ltV (.agg (c x)) N
  bd : hasBody Tryz.prog cl = true
  con : ∀ (H : Hp) (x y : α), N ≤ H.nx → Con E2 cl [.agg (c x), .agg (c y)] H (fun _ => False) fun r _ => r = .one (.i .i64 (cf x y))
def ltF {α : Type} (cf : α → α → Int) (x y : α) : Bool := decide (cf x y < 0)
theorem Cmp.ltH {α : Type} {c : α → List AC} {cf : α → α → Int} {cl : FuncId} {N : Nat} (h : Cmp c cf cl N) {n : Nat} (hn : N ≤ n) : ∀ x, ltV (.agg (c x)) n := fun x i hi => Nat.lt_of_lt_of_le (h.lt x i hi) hn
theorem Srt.fr {α : Type} {c : α → List AC} {H H' : Hp} {id gen n : Nat} {d : Array α} {X : Nat → Prop} (h : Srt c H id gen n d) (hf : Fr X H H') (hx : ¬ X id) : Srt c H' id gen n d := by
  obtain ⟨lo, h1, h2⟩ := h.row
  exact ⟨h.sz, ⟨lo, h1, (hf.get _ h.lt hx).trans h2⟩, Nat.lt_of_lt_of_le h.lt hf.nx⟩
end Go.Proofs.YtekoajibckipkaaGreat
namespace Go.Proofs.YtekoajibckipkaaGreat
open Go Go.Eng
theorem bd_ins : hasBody Tryz.prog 149 = true := by kernel_rfl
section
variable {α : Type} [Inhabited α] {c : α → List AC} {cf : α → α → Int} {cl N : Nat}
set_option maxRecDepth 10000 in
set_option maxHeartbeats 8000000 in
theorem ins_con (hm : Cmp c cf cl N) (H : Hp) (id gen n : Nat) (d : Array α) (a b : Nat) (hs : Srt c H id gen n d) (hN : N ≤ H.nx) (hab : a ≤ b) (hb : b ≤ n) (hn : n ≤ 1099511627776) :
    Con E2 149 [.one (.o (.sl id gen 0 n 3)), .one (.i .i64 a), .one (.i .i64 b), .one (.o (.clo cl []))] H (fun k => k = id) fun r H' => r = .tup [] ∧ Srt c H' id gen n (Go.Sort.insertionSort (ltF cf) d a b) := by
  have hbd := hm.bd
  refine Con.of rfl fun lg => ?_
  have hs : Srt c ⟨H.t, H.nx, lg⟩ id gen n d := hs
  have hN : N ≤ (⟨H.t, H.nx, lg⟩ : Hp).nx := hN
  generalize (⟨H.t, H.nx, lg⟩ : Hp) = H at hs hN ⊢
  refine C1.body (E := E2) (nt := 53) (res := []) Tryz.func149 rfl rfl rfl rfl rfl fun tm hargs => ?_
  have h0 := hargs 0 _ rfl
  have h1 := hargs 1 _ rfl
  have h2 := hargs 2 _ rfl
  have h3 := hargs 3 _ rfl
  clear hargs
  unfold Go.Sort.insertionSort
  generalize hr0 : Go.Sort.insOuter (ltF cf) a b (a + 1) d = R
  have fin : ∀ (A : AAct) (H3 : Hp) (dc : Array α), A.dfr = [] → Fr (fun k => k = id) H H3 → Srt c H3 id gen n dc → dc = R → ∃ w H4, callEnd E2 [] (.normal, A, H3) = .ok [(w, H4)] ∧ Fr (fun k => k = id) H H4 ∧ ∀ lg' : List Nat, w = .tup [] ∧ Srt c ⟨H4.t, H4.nx, lg'⟩ id gen n R := fun A H3 dc h1 h2 h3 h4 => ⟨_, H3, callEnd_nil (.inl rfl) h1, h2, fun _ => ⟨rfl, by rw [← h4]; exact h3⟩⟩
  have hid := hs.lt
  have hw1 : IntKind.i64.wrap ((a : Int) + 1) = ((a + 1 : Nat) : Int) := by rw [wrapI (by omega) (by omega)]; omega
  replace hr0 : Hd _ := hr0
  refine zW tyS ?_
  refine R1.e_bl fun K k1 k2 k3 k4 => ?_
  refine R1.loop (fun z A H3 => ∃ (i : Nat) (dc : Array α), z = b - i ∧ a + 1 ≤ i ∧ i ≤ n + 1 ∧ Fr (fun k => k = id) H H3 ∧ Srt c H3 id gen n dc ∧ Hd (Go.Sort.insOuter (ltF cf) a b i dc = R) ∧ slot A.tm 0 = .one ((.o (.sl id gen 0 n 3))) ∧ slot A.tm 1 = .one (.i .i64 (a : Int)) ∧ slot A.tm 2 = .one (.i .i64 (b : Int)) ∧ slot A.tm 3 = .one ((.o (.clo cl []))) ∧ slot A.tm 8 = .one (.i .i64 (i : Int)) ∧ A.nt = 53 ∧ A.dfr = []) ?_ (b - (a + 1))
    ⟨a + 1, d, rfl, Nat.le_refl _, by omega, Fr.refl _, hs, hr0, zL⟩
  clear h0 h1 h2 h3 tm hs hr0 hid hw1 k3
  rintro z A H3 ⟨i, dc, rfl, hia, hin, f3, hs, hr, t0, t1, t2, t3, t8, hnt, hdf⟩
  have hid := hs.lt
  refine zW tyS ?_
  refine zI tyS (fun hc' => ?_) (fun hc' => ?_)
  · have hib : i < b := by omega
    have hr1 := hr.out
    rw [Go.Sort.insOuter, if_pos hib] at hr1
    clear hr
    replace hr1 : Hd _ := hr1
    have hwi : IntKind.i64.wrap ((i : Int) + 1) = ((i + 1 : Nat) : Int) := by rw [wrapI (by omega) (by omega)]; omega
    refine zW tyS ?_
    refine R1.s_bl fun K2 q1 q2 q3 q4 => ?_
    refine zW tyS ?_
    refine R1.e_bl fun K3 p1 p2 p3 p4 => ?_
    refine R1.loop (fun z A H4 => ∃ (j : Nat) (dj : Array α), z = j ∧ j ≤ i ∧ Fr (fun k => k = id) H H4 ∧ Srt c H4 id gen n dj ∧ Hd (Go.Sort.insOuter (ltF cf) a b (i + 1) (Go.Sort.insInner (ltF cf) a j dj) = R) ∧ slot A.tm 0 = .one ((.o (.sl id gen 0 n 3))) ∧ slot A.tm 1 = .one (.i .i64 (a : Int)) ∧ slot A.tm 2 = .one (.i .i64 (b : Int)) ∧ slot A.tm 3 = .one ((.o (.clo cl []))) ∧ slot A.tm 8 = .one (.i .i64 (i : Int)) ∧ slot A.tm 9 = .one (.i .i64 (j : Int)) ∧ A.nt = 53 ∧ A.dfr = []) ?_ i
      ⟨i, dc, rfl, Nat.le_refl _, f3, hs, hr1, zL⟩
    clear t0 t1 t2 t3 t8 hnt hdf A hr1 hs hid f3 p3 q3
    rintro j A H4 ⟨_, dj, rfl, hji, f4, hs, hr, t0, t1, t2, t3, t8, t9, hnt, hdf⟩
    have hid := hs.lt
    by_cases hja : a < j
    · obtain ⟨j, rfl⟩ : ∃ k, j = k + 1 := ⟨j - 1, by omega⟩
      have hja' : (a : Int) < ((j + 1 : Nat) : Int) := by omega
      have hwj : IntKind.i64.wrap (((j + 1 : Nat) : Int) - 1) = (j : Int) := by rw [wrapI (by omega) (by omega)]; omega
      obtain ⟨lo, hlo, hg⟩ := hs.row
      have hdz := hs.sz
      have hj1 : j + 1 < n := by omega
      have hj0 : j < n := by omega
      have lv := hm.ltH (Nat.le_trans hN f4.nx)
      have hcl := hm.len
      replace hdz : Hd _ := hdz
      refine zG (qA tyS (qA (ixC hj1) (qA (ixC hj0) (rdQ hm.len (d := dj) (i := j + 1) (j := j) (by have := hdz.out; omega) (by have := hdz.out; omega))))) fun K hK => ?_
      refine WE.con (hm.con H4 dj[j + 1]! dj[j]! (Nat.le_trans hN f4.nx)) fun w' H5 g5 hq => ?_
      subst hq
      have hg := (g5.get _ hid not_false).trans hg
      have hid := Nat.lt_of_lt_of_le hid g5.nx
      have lv := hm.ltH (Nat.le_trans hN (Nat.le_trans f4.nx g5.nx))
      have f5 := f4.then g5 fun _ h => h.elim
      have hrr := hr.out
      rw [Go.Sort.insInner] at hrr
      by_cases hcf : cf dj[j + 1]! dj[j]! < 0
      · have hcc : (decide (j + 1 > a) && ltF cf dj[j + 1]! dj[j]!) = true := by
          rw [decide_eq_true (by omega : j + 1 > a)]
          exact decide_eq_true hcf
        rw [if_pos hcc] at hrr
        clear hr hcc
        replace hrr : Hd _ := hrr
        refine zK tyS ?_
        refine R1.s_bl fun K4 u1 u2 u3 u4 => ?_
        refine zW (qA tyS (qA (ixC hj1) (qA (ixC hj0) (swQ hm.len (d := dj) (i := j + 1) (j := j) (by have := hdz.out; omega) (by have := hdz.out; omega))))) ?_
        refine u1.out _ _ ?_
        refine zW tyS ?_
        exact ⟨j, Nat.lt_succ_self _, j, Go.Sort.swp dj (j + 1) j, rfl, by omega, (f5.mod _ (.inr rfl)).mod _ (.inr rfl), ⟨by rw [swp_size]; exact hdz.out, ⟨gen, Nat.le_refl _, get_modE rfl⟩, hid⟩, hrr, zL⟩
      · have hcc : (decide (j + 1 > a) && ltF cf dj[j + 1]! dj[j]!) = false := by
          rw [decide_eq_true (by omega : j + 1 > a)]
          exact decide_eq_false hcf
        rw [if_neg (by rw [hcc]; decide)] at hrr
        clear hr hcc
        replace hrr : Hd _ := hrr
        refine zK tyS ?_
        refine p2.out _ _ ?_
        refine q1.out _ _ ?_
        refine zW tyS ?_
        exact ⟨b - (i + 1), by omega, i + 1, dj, rfl, by omega, by omega, f5, ⟨hdz.out, ⟨lo, hlo, hg⟩, hid⟩, hrr, zL⟩
    · have hja' : ¬ (a : Int) < (j : Int) := by omega
      have hrr := hr.out
      have hin : Go.Sort.insInner (ltF cf) a j dj = dj := by
        cases j with
        | zero => rfl
        | succ j => rw [Go.Sort.insInner, decide_eq_false (by omega : ¬ j + 1 > a), Bool.false_and, if_neg (by decide)]
      rw [hin] at hrr
      clear hr hin
      replace hrr : Hd _ := hrr
      refine zW tyS ?_
      refine p2.out _ _ ?_
      refine q1.out _ _ ?_
      refine zW tyS ?_
      exact ⟨b - (i + 1), by omega, i + 1, dj, rfl, by omega, by omega, f4, hs, hrr, zL⟩
  · have hib : ¬ i < b := by omega
    have hr1 := hr.out
    rw [Go.Sort.insOuter, if_neg hib] at hr1
    refine zW tyS ?_
    refine k2.out _ _ ?_
    exact fin _ _ _ qe f3 hs hr1
end
end Go.Proofs.YtekoajibckipkaaGreat
namespace Go.Proofs.YtekoajibckipkaaGreat
open Go Go.Eng
theorem bd_sift : hasBody Tryz.prog 175 = true := by kernel_rfl
theorem bd_heap : hasBody Tryz.prog 150 = true := by kernel_rfl
section
variable {α : Type} [Inhabited α] {c : α → List AC} {cf : α → α → Int} {cl N : Nat}
set_option maxRecDepth 10000 in
set_option maxHeartbeats 16000000 in
theorem sift_con (hm : Cmp c cf cl N) (H : Hp) (id gen n : Nat) (d : Array α) (root hi first : Nat) (hs : Srt c H id gen n d) (hN : N ≤ H.nx) (hf : first + hi ≤ n) (hr : root ≤ n) (hn : n ≤ 1099511627776) :
    Con E2 175 [.one (.o (.sl id gen 0 n 3)), .one (.i .i64 root), .one (.i .i64 hi), .one (.i .i64 first), .one (.o (.clo cl []))] H (fun k => k = id) fun r H' => r = .tup [] ∧ Srt c H' id gen n (Go.Sort.siftDown (ltF cf) hi first root d) := by
  have hbd := hm.bd
  refine Con.of rfl fun lg => ?_
  have hs : Srt c ⟨H.t, H.nx, lg⟩ id gen n d := hs
  have hN : N ≤ (⟨H.t, H.nx, lg⟩ : Hp).nx := hN
  generalize (⟨H.t, H.nx, lg⟩ : Hp) = H at hs hN ⊢
  refine C1.body (E := E2) (nt := 82) (res := []) Tryz.func175 rfl rfl rfl rfl rfl fun tm hargs => ?_
  have h0 := hargs 0 _ rfl
  have h1 := hargs 1 _ rfl
  have h2 := hargs 2 _ rfl
  have h3 := hargs 3 _ rfl
  have h4 := hargs 4 _ rfl
  clear hargs
  generalize hr0 : Go.Sort.siftDown (ltF cf) hi first root d = R
  have fin : ∀ (e : AExit) (A : AAct) (H3 : Hp) (dc : Array α), (e = .normal ∨ e = .ret) → A.dfr = [] → Fr (fun k => k = id) H H3 → Srt c H3 id gen n dc → dc = R → ∃ w H4, callEnd E2 [] (e, A, H3) = .ok [(w, H4)] ∧ Fr (fun k => k = id) H H4 ∧ ∀ lg' : List Nat, w = .tup [] ∧ Srt c ⟨H4.t, H4.nx, lg'⟩ id gen n R := fun e A H3 dc he h1 h2 h3 h4 => ⟨_, H3, callEnd_nil he h1, h2, fun _ => ⟨rfl, by rw [← h4]; exact h3⟩⟩
  have hid := hs.lt
  replace hr0 : Hd _ := hr0
  refine zW tyS ?_
  refine R1.e_bl fun K k1 k2 k3 k4 => ?_
  refine R1.loop (fun z A H3 => ∃ (ro : Nat) (dc : Array α), z = n + 1 - ro ∧ ro ≤ n ∧ Fr (fun k => k = id) H H3 ∧ Srt c H3 id gen n dc ∧ Hd (Go.Sort.siftDown (ltF cf) hi first ro dc = R) ∧ slot A.tm 0 = .one ((.o (.sl id gen 0 n 3))) ∧ slot A.tm 2 = .one (.i .i64 (hi : Int)) ∧ slot A.tm 3 = .one (.i .i64 (first : Int)) ∧ slot A.tm 4 = .one ((.o (.clo cl []))) ∧ slot A.tm 10 = .one (.i .i64 (ro : Int)) ∧ A.nt = 82 ∧ A.dfr = []) ?_ (n + 1 - root)
    ⟨root, d, rfl, hr, Fr.refl _, hs, hr0, zL⟩
  clear h0 h1 h2 h3 h4 tm hs hr0 hid k3
  rintro z A H3 ⟨ro, dc, rfl, hro, f3, hs, hr, t0, t2, t3, t4, t10, hnt, hdf⟩
  have hid := hs.lt
  have hdz := hs.sz
  obtain ⟨lo, hlo, hg⟩ := hs.row
  replace hdz : Hd _ := hdz
  have hwa : IntKind.i64.wrap (2 * (ro : Int)) = ((2 * ro : Nat) : Int) := by rw [wrapI (by omega) (by omega)]; omega
  have hwb : IntKind.i64.wrap (((2 * ro : Nat) : Int) + 1) = ((2 * ro + 1 : Nat) : Int) := by rw [wrapI (by omega) (by omega)]; omega
  have hr1 := hr.out
  rw [Go.Sort.siftDown] at hr1
  refine R1.e_bl fun K2 q1 q2 q3 q4 => ?_
  by_cases hch : hi ≤ 2 * ro + 1
  · rw [dif_pos hch] at hr1
    have hci : (hi : Int) ≤ ((2 * ro + 1 : Nat) : Int) := by omega
    replace hr1 : Hd _ := hr1
    clear hr
    refine zW tyS ?_
    refine q3.out _ _ _ (by decide) ?_
    refine k2.out _ _ ?_
    exact fin _ _ _ _ (.inl rfl) qe f3 hs hr1.out
  rw [dif_neg hch] at hr1
  have hci : ¬ (hi : Int) ≤ ((2 * ro + 1 : Nat) : Int) := by omega
  clear hr
  replace hr1 : Hd _ := hr1
  refine zW tyS ?_
  have lv := hm.ltH (Nat.le_trans hN f3.nx)
  have hcl := hm.len
  have hwc : IntKind.i64.wrap (((2 * ro + 1 : Nat) : Int) + 1) = ((2 * ro + 2 : Nat) : Int) := by rw [wrapI (by omega) (by omega)]; omega
  have hwd : IntKind.i64.wrap ((first : Int) + ((2 * ro + 1 : Nat) : Int)) = ((first + (2 * ro + 1) : Nat) : Int) := by rw [wrapI (by omega) (by omega)]; omega
  have hwe : IntKind.i64.wrap (((first + (2 * ro + 1) : Nat) : Int) + 1) = ((first + (2 * ro + 1) + 1 : Nat) : Int) := by rw [wrapI (by omega) (by omega)]; omega
  repeat refine R1.s_assoc ?_
  refine R1.s_h (by kernel_rfl) fun K3 hK3 => ?_
  have tail : Hd (∀ (bb : Bool) (A : AAct) (H4 : Hp), Fr (fun k => k = id) H H4 → Srt c H4 id gen n dc → (bb = true → 2 * ro + 2 < hi) → Hd ((if bb = true then (if (!ltF cf dc[first + ro]! dc[first + (2 * ro + 2)]!) = true then dc else if 2 * ro + 2 < hi then Go.Sort.siftDown (ltF cf) hi first (2 * ro + 2) (Go.Sort.swp dc (first + ro) (first + (2 * ro + 2))) else dc) else (if (!ltF cf dc[first + ro]! dc[first + (2 * ro + 1)]!) = true then dc else Go.Sort.siftDown (ltF cf) hi first (2 * ro + 1) (Go.Sort.swp dc (first + ro) (first + (2 * ro + 1))))) = R) → slot A.tm 40 = .one (.b bb) ∧ slot A.tm 0 = .one ((.o (.sl id gen 0 n 3))) ∧ slot A.tm 2 = .one (.i .i64 (hi : Int)) ∧ slot A.tm 3 = .one (.i .i64 (first : Int)) ∧ slot A.tm 4 = .one ((.o (.clo cl []))) ∧ slot A.tm 10 = .one (.i .i64 (ro : Int)) ∧ slot A.tm 11 = .one (.i .i64 ((2 * ro + 1 : Nat) : Int)) ∧ A.nt = 82 ∧ A.dfr = [] → K3 A H4) := by
    clear t0 t2 t3 t4 t10 hnt hdf A hs hg hid hr1 f3 lv hlo hwd hwe hci
    rintro bb A H4 f4 hs hbb hr ⟨t40, t0, t2, t3, t4, t10, t11, hnt, hdf⟩
    refine hK3.out _ _ ?_
    clear hK3 K3
    refine R1.s_mid (fun B H5 => ∃ ch : Nat, ro < ch ∧ ch < hi ∧ H4 = H5 ∧ Hd ((if (!ltF cf dc[first + ro]! dc[first + ch]!) = true then dc else Go.Sort.siftDown (ltF cf) hi first ch (Go.Sort.swp dc (first + ro) (first + ch))) = R) ∧ slot B.tm 0 = .one ((.o (.sl id gen 0 n 3))) ∧ slot B.tm 2 = .one (.i .i64 (hi : Int)) ∧ slot B.tm 3 = .one (.i .i64 (first : Int)) ∧ slot B.tm 4 = .one ((.o (.clo cl []))) ∧ slot B.tm 10 = .one (.i .i64 (ro : Int)) ∧ slot B.tm 11 = .one (.i .i64 (ch : Int)) ∧ B.nt = 82 ∧ B.dfr = []) (fun K4 m1 m2 m3 => ?_) ?_
    · cases bb with
      | true =>
        have h2 := hbb rfl
        have hr1 := hr.out
        rw [if_pos rfl, if_pos h2] at hr1
        clear hr hs hbb
        replace hr1 : Hd _ := hr1
        refine zW tyS ?_
        refine m1.out _ _ ?_
        exact ⟨2 * ro + 2, by omega, h2, rfl, hr1, zL⟩
      | false =>
        have hr1 := hr.out
        rw [if_neg (by decide)] at hr1
        clear hr hs hbb
        replace hr1 : Hd _ := hr1
        refine zW tyS ?_
        refine m1.out _ _ ?_
        exact ⟨2 * ro + 1, by omega, by omega, rfl, hr1, zL⟩
    clear t0 t2 t3 t4 t10 t11 t40 hnt hdf A hr hbb bb hwa hwb hwc hch
    rintro A _ ⟨ch, hrc, hch, rfl, hr, t0, t2, t3, t4, t10, t11, hnt, hdf⟩
    have hid := hs.lt
    obtain ⟨lo, hlo, hg⟩ := hs.row
    have lv := hm.ltH (Nat.le_trans hN f4.nx)
    have hw1 : IntKind.i64.wrap ((first : Int) + (ro : Int)) = ((first + ro : Nat) : Int) := by rw [wrapI (by omega) (by omega)]; omega
    have hw2 : IntKind.i64.wrap ((first : Int) + (ch : Int)) = ((first + ch : Nat) : Int) := by rw [wrapI (by omega) (by omega)]; omega
    have b1 : first + ro < n := by omega
    have b2 : first + ch < n := by omega
    have d1 : first + ro < dc.size := by have := hdz.out; omega
    have d2 : first + ch < dc.size := by have := hdz.out; omega
    replace d1 : Hd _ := d1
    replace d2 : Hd _ := d2
    refine zG (qA tyS (qA (ixC b1) (qA (ixC b2) (rdQ hm.len d1.out d2.out)))) fun K hK => ?_
    refine WE.con (hm.con H4 dc[first + ro]! dc[first + ch]! (Nat.le_trans hN f4.nx)) fun w' H5 g5 hq => ?_
    subst hq
    have hs5 := hs.fr g5 not_false
    have hg := (g5.get _ hid not_false).trans hg
    have hid := Nat.lt_of_lt_of_le hid g5.nx
    have lv := hm.ltH (Nat.le_trans hN (Nat.le_trans f4.nx g5.nx))
    have f5 := f4.then g5 fun _ h => h.elim
    have hr1 := hr.out
    clear hr hs f4 g5
    by_cases hcf : cf dc[first + ro]! dc[first + ch]! < 0
    · have hcc : (!ltF cf dc[first + ro]! dc[first + ch]!) = false := by
        unfold ltF; rw [decide_eq_true hcf]; rfl
      rw [hcc, if_neg (by decide)] at hr1
      clear hcc hs5
      replace hr1 : Hd _ := hr1
      refine zK (qA tyS (qA (ixC b1) (qA (ixC b2) (swQ hm.len d1.out d2.out)))) ?_
      refine q1.out _ _ ?_
      exact ⟨n + 1 - ch, by omega, ch, Go.Sort.swp dc (first + ro) (first + ch), rfl, by omega, (f5.mod _ (.inr rfl)).mod _ (.inr rfl), ⟨by rw [swp_size]; exact hdz.out, ⟨gen, Nat.le_refl _, get_modE rfl⟩, hid⟩, hr1, zL⟩
    · have hcc : (!ltF cf dc[first + ro]! dc[first + ch]!) = true := by
        unfold ltF; rw [decide_eq_false hcf]; rfl
      rw [hcc, if_pos rfl] at hr1
      clear hcc
      replace hr1 : Hd _ := hr1
      replace hs5 : Hd _ := hs5
      refine zK tyS ?_
      refine q4.out _ _ (k4.out _ _ ?_)
      exact fin _ _ _ _ (.inr rfl) qe f5 hs5.out hr1.out
  by_cases h2 : 2 * ro + 2 < hi
  · have h2i : ((2 * ro + 2 : Nat) : Int) < (hi : Int) := by omega
    have b1 : first + (2 * ro + 1) < n := by omega
    have b2 : first + (2 * ro + 1) + 1 < n := by omega
    have d1 : first + (2 * ro + 1) < dc.size := by have := hdz.out; omega
    have d2 : first + (2 * ro + 1) + 1 < dc.size := by have := hdz.out; omega
    replace d1 : Hd _ := d1
    replace d2 : Hd _ := d2
    refine zS (qA tyS (qA (ixC b1) (qA (ixC b2) (rdQ hm.len d1.out d2.out)))) ?_
    refine WE.con (hm.con H3 dc[first + (2 * ro + 1)]! dc[first + (2 * ro + 1) + 1]! (Nat.le_trans hN f3.nx)) fun w' H5 g5 hq => ?_
    subst hq
    have hs5 := hs.fr g5 not_false
    have f5 := f3.then g5 fun _ h => h.elim
    have hr2 := hr1.out
    have e0 : (decide (2 * ro + 1 + 1 < hi) && ltF cf dc[first + (2 * ro + 1)]! dc[first + (2 * ro + 1) + 1]!) = decide (cf dc[first + (2 * ro + 1)]! dc[first + (2 * ro + 1) + 1]! < 0) := by
      rw [decide_eq_true (by omega : 2 * ro + 1 + 1 < hi)]; rfl
    rw [e0] at hr2
    clear hr1 e0 hs g5
    replace hr2 : Hd _ := hr2
    replace hs5 : Hd _ := hs5
    replace f5 : Hd _ := f5
    refine zS tyS ?_
    exact tail.out (decide (cf dc[first + (2 * ro + 1)]! dc[first + (2 * ro + 1) + 1]! < 0)) _ _ f5.out hs5.out (fun _ => h2) hr2 zL
  · have h2i : ¬ ((2 * ro + 2 : Nat) : Int) < (hi : Int) := by omega
    have hr2 := hr1.out
    rw [decide_eq_false (by omega : ¬ 2 * ro + 1 + 1 < hi), Bool.false_and] at hr2
    clear hr1
    replace hr2 : Hd _ := hr2
    refine zS tyS ?_
    exact tail.out false _ _ f3 hs (fun h => by cases h) hr2 zL
set_option maxRecDepth 10000 in
set_option maxHeartbeats 16000000 in
theorem heap_con (hm : Cmp c cf cl N) (H : Hp) (id gen n : Nat) (d : Array α) (a b : Nat) (hs : Srt c H id gen n d) (hN : N ≤ H.nx) (hab : a ≤ b) (hb : b ≤ n) (hn : n ≤ 1099511627776) :
    Con E2 150 [.one (.o (.sl id gen 0 n 3)), .one (.i .i64 a), .one (.i .i64 b), .one (.o (.clo cl []))] H (fun k => k = id) fun r H' => r = .tup [] ∧ Srt c H' id gen n (Go.Sort.heapSort (ltF cf) d a b) := by
  have hbd := hm.bd
  refine Con.of rfl fun lg => ?_
  have hs : Srt c ⟨H.t, H.nx, lg⟩ id gen n d := hs
  have hN : N ≤ (⟨H.t, H.nx, lg⟩ : Hp).nx := hN
  generalize (⟨H.t, H.nx, lg⟩ : Hp) = H at hs hN ⊢
  refine C1.body (E := E2) (nt := 60) (res := []) Tryz.func150 rfl rfl rfl rfl rfl fun tm hargs => ?_
  have h0 := hargs 0 _ rfl
  have h1 := hargs 1 _ rfl
  have h2 := hargs 2 _ rfl
  have h3 := hargs 3 _ rfl
  clear hargs
  unfold Go.Sort.heapSort
  generalize hr0 : Go.Sort.heapPop (ltF cf) a (b - a) (Go.Sort.heapBuild (ltF cf) (b - a) a ((b - a - 1) / 2 + 1) d) = R
  have fin : ∀ (e : AExit) (A : AAct) (H3 : Hp) (dc : Array α), (e = .normal ∨ e = .ret) → A.dfr = [] → Fr (fun k => k = id) H H3 → Srt c H3 id gen n dc → dc = R → ∃ w H4, callEnd E2 [] (e, A, H3) = .ok [(w, H4)] ∧ Fr (fun k => k = id) H H4 ∧ ∀ lg' : List Nat, w = .tup [] ∧ Srt c ⟨H4.t, H4.nx, lg'⟩ id gen n R := fun e A H3 dc he h1 h2 h3 h4 => ⟨_, H3, callEnd_nil he h1, h2, fun _ => ⟨rfl, by rw [← h4]; exact h3⟩⟩
  have hid := hs.lt
  obtain ⟨w, hw⟩ : ∃ w, w = b - a := ⟨_, rfl⟩
  rw [← hw] at hr0
  have hw0 : IntKind.i64.wrap ((b : Int) - (a : Int)) = (w : Int) := by rw [wrapI (by omega) (by omega)]; omega
  have hw1 : IntKind.i64.wrap ((w : Int) - 1) = (w : Int) - 1 := by rw [wrapI (by omega) (by omega)]
  have hw2 : IntKind.i64.wrap (((w : Int) - 1).tdiv 2) = (((w - 1) / 2 : Nat) : Int) := by
    rcases Nat.eq_zero_or_pos w with h | h
    · rw [h]; decide
    · rw [Int.tdiv_eq_ediv_of_nonneg (by omega), wrapI (by omega) (by omega)]; omega
  replace hr0 : Hd _ := hr0
  replace hw : Hd _ := hw
  refine zW (qA tyS (qA arQ (quoI (show (2 : Int) ≠ 0 by decide)))) ?_
  refine R1.s_bl fun K k1 k2 k3 k4 => ?_
  refine R1.loop (fun z A H3 => ∃ (dc : Array α), z ≤ (w - 1) / 2 + 1 ∧ Fr (fun k => k = id) H H3 ∧ Srt c H3 id gen n dc ∧ Hd (Go.Sort.heapPop (ltF cf) a w (Go.Sort.heapBuild (ltF cf) w a z dc) = R) ∧ slot A.tm 0 = .one ((.o (.sl id gen 0 n 3))) ∧ slot A.tm 3 = .one ((.o (.clo cl []))) ∧ slot A.tm 8 = .one (.i .i64 (a : Int)) ∧ slot A.tm 9 = .one (.i .i64 (0 : Int)) ∧ slot A.tm 10 = .one (.i .i64 (w : Int)) ∧ slot A.tm 11 = .one (.i .i64 (((z : Int) - 1) : Int)) ∧ A.nt = 60 ∧ A.dfr = []) ?_ ((w - 1) / 2 + 1)
    ⟨d, Nat.le_refl _, Fr.refl _, hs, hr0, by rw [show ((((w - 1) / 2 + 1 : Nat) : Int) - 1) = (((w - 1) / 2 : Nat) : Int) from by omega]; exact zL⟩
  clear h0 h1 h2 h3 tm hs hr0 hid hw0 hw2 k3
  rintro z A H3 ⟨dc, hz, f3, hs, hr, t0, t3, t8, t9, t10, t11, hnt, hdf⟩
  have hid := hs.lt
  cases z with
  | succ k =>
    rw [show (((k + 1 : Nat) : Int) - 1) = (k : Int) from by omega] at t11
    have hk0 : (0 : Int) ≤ (k : Int) := by omega
    have hww := hw.out
    have hwk : IntKind.i64.wrap ((k : Int) - 1) = (k : Int) - 1 := by rw [wrapI (by omega) (by omega)]
    clear hww
    refine zW tyS ?_
    refine R1.s_bl fun K2 q1 q2 q3 q4 => ?_
    refine zG (qA tyS bd_sift) fun K5 hK5 => ?_
    have hww := hw.out
    refine WE.con (sift_con hm H3 id gen n dc k w a hs (Nat.le_trans hN f3.nx) (by omega) (by omega) hn) fun w' H4 g4 ⟨hq, hs4⟩ => ?_
    subst hq
    have hr1 := hr.out
    rw [Go.Sort.heapBuild] at hr1
    clear hr
    replace hr1 : Hd _ := hr1
    refine zK tyS ?_
    refine q1.out _ _ ?_
    refine zW tyS ?_
    exact ⟨k, Nat.lt_succ_self _, Go.Sort.siftDown (ltF cf) w a k dc, by omega, f3.then g4 (fun _ h => .inr h), hs4, hr1, zL⟩
  | zero =>
    replace t11 : slot A.tm 11 = .one (.i .i64 (-1)) := t11
    have hk0 : ¬ (0 : Int) ≤ -1 := by decide
    have hr1 : Hd (Go.Sort.heapPop (ltF cf) a w dc = R) := hr
    refine zW tyS ?_
    refine k2.out _ _ ?_
    refine zW tyS ?_
    refine R1.e_bl fun K2 q1 q2 q3 q4 => ?_
    refine R1.loop (fun z A H3 => ∃ (dc : Array α), z ≤ w ∧ Fr (fun k => k = id) H H3 ∧ Srt c H3 id gen n dc ∧ Hd (Go.Sort.heapPop (ltF cf) a z dc = R) ∧ slot A.tm 0 = .one ((.o (.sl id gen 0 n 3))) ∧ slot A.tm 3 = .one ((.o (.clo cl []))) ∧ slot A.tm 8 = .one (.i .i64 (a : Int)) ∧ slot A.tm 9 = .one (.i .i64 (0 : Int)) ∧ slot A.tm 12 = .one (.i .i64 (((z : Int) - 1) : Int)) ∧ A.nt = 60 ∧ A.dfr = []) ?_ w
      ⟨dc, Nat.le_refl _, f3, hs, hr1, zL⟩
    clear t0 t3 t8 t9 t10 t11 hnt hdf A hs f3 hid hr hr1 q3 hw1
    rintro z A H3 ⟨dc, hz, f3, hs, hr, t0, t3, t8, t9, t12, hnt, hdf⟩
    have hid := hs.lt
    cases z with
    | succ k =>
      rw [show (((k + 1 : Nat) : Int) - 1) = (k : Int) from by omega] at t12
      have hk0 : (0 : Int) ≤ (k : Int) := by omega
      have hww := hw.out
      have hwk : IntKind.i64.wrap ((k : Int) - 1) = (k : Int) - 1 := by rw [wrapI (by omega) (by omega)]
      have hwa : IntKind.i64.wrap ((a : Int) + (k : Int)) = ((a + k : Nat) : Int) := by rw [wrapI (by omega) (by omega)]; omega
      obtain ⟨lo, hlo, hg⟩ := hs.row
      have hdz := hs.sz
      have lv := hm.ltH (Nat.le_trans hN f3.nx)
      have hcl := hm.len
      have b1 : a < n := by omega
      have b2 : a + k < n := by omega
      have d1 : a < dc.size := by omega
      have d2 : a + k < dc.size := by omega
      have hn2 := Nat.le_trans hN f3.nx
      replace d1 : Hd _ := d1
      replace d2 : Hd _ := d2
      replace hdz : Hd _ := hdz
      replace hww : Hd _ := hww
      refine zW tyS ?_
      refine R1.s_bl fun K3 u1 u2 u3 u4 => ?_
      refine zW (qA tyS (qA (ixC b1) (qA (ixC b2) (swQ hm.len d1.out d2.out)))) ?_
      have f4 : Fr (fun k => k = id) H ((H3.mod id (.arr (rowS c (dc.setIfInBounds a dc[a + k]!)) 75 gen gen)).mod id (.arr (rowS c (Go.Sort.swp dc a (a + k))) 75 gen gen)) := (f3.mod _ (.inr rfl)).mod _ (.inr rfl)
      have hs4 : Srt c ((H3.mod id (.arr (rowS c (dc.setIfInBounds a dc[a + k]!)) 75 gen gen)).mod id (.arr (rowS c (Go.Sort.swp dc a (a + k))) 75 gen gen)) id gen n (Go.Sort.swp dc a (a + k)) := ⟨by rw [swp_size]; exact hdz.out, ⟨gen, Nat.le_refl _, get_modE rfl⟩, hid⟩
      clear hg hlo lo
      replace f4 : Hd _ := f4
      replace hs4 : Hd _ := hs4
      refine zG (qA tyS bd_sift) fun K5 hK5 => ?_
      refine WE.con (sift_con hm _ id gen n (Go.Sort.swp dc a (a + k)) 0 k a hs4.out hn2 (by have := hww.out; omega) (Nat.zero_le _) hn) fun w' H5 g5 ⟨hq, hs5⟩ => ?_
      subst hq
      have hr1 := hr.out
      rw [Go.Sort.heapPop] at hr1
      clear hr
      replace hr1 : Hd _ := hr1
      refine zK tyS ?_
      refine u1.out _ _ ?_
      refine zW tyS ?_
      exact ⟨k, Nat.lt_succ_self _, Go.Sort.siftDown (ltF cf) k a 0 (Go.Sort.swp dc a (a + k)), by omega, f4.out.then g5 (fun _ h => .inr h), hs5, hr1, zL⟩
    | zero =>
      replace t12 : slot A.tm 12 = .one (.i .i64 (-1)) := t12
      have hr1 : dc = R := hr
      refine zW tyS ?_
      refine q2.out _ _ ?_
      exact fin _ _ _ _ (.inl rfl) qe f3 hs hr1
end
end Go.Proofs.YtekoajibckipkaaGreat
namespace Go.Proofs.YtekoajibckipkaaGreat
open Go Go.Eng
theorem bd_ord2 : hasBody Tryz.prog 189 = true := by kernel_rfl
theorem bd_medi : hasBody Tryz.prog 179 = true := by kernel_rfl
theorem bd_mead : hasBody Tryz.prog 178 = true := by kernel_rfl
theorem bd_pivo : hasBody Tryz.prog 152 = true := by kernel_rfl
def Ctr (H : Hp) (q k : Nat) : Prop := H.get q = some (.arr [.i .i64 (k : Int)] 3 0 0) ∧ q < H.nx
section
variable {α : Type} [Inhabited α] {c : α → List AC} {cf : α → α → Int} {cl N : Nat}
set_option maxRecDepth 10000 in
set_option maxHeartbeats 8000000 in
theorem ord2_con (hm : Cmp c cf cl N) (H : Hp) (id gen n : Nat) (d : Array α) (a b q k : Nat) (hs : Srt c H id gen n d) (hq : Ctr H q k) (_ : q ≠ id) (hN : N ≤ H.nx) (ha : a < n) (hb : b < n) (_ : n ≤ 1099511627776) (hk : k ≤ 1000) :
    Con E2 189 [.one (.o (.sl id gen 0 n 3)), .one (.i .i64 a), .one (.i .i64 b), .one (.o (.ptr q 0 0 1)), .one (.o (.clo cl []))] H (fun j => j = q) fun r H' => r = .tup [(false, [.i .i64 ((Go.Sort.order2 (ltF cf) d a b k).1 : Int)]), (false, [.i .i64 ((Go.Sort.order2 (ltF cf) d a b k).2.1 : Int)])] ∧ Ctr H' q (Go.Sort.order2 (ltF cf) d a b k).2.2 := by
  have hbd := hm.bd
  refine Con.of rfl fun lg => ?_
  have hs : Srt c ⟨H.t, H.nx, lg⟩ id gen n d := hs
  have hN : N ≤ (⟨H.t, H.nx, lg⟩ : Hp).nx := hN
  have hq : Ctr ⟨H.t, H.nx, lg⟩ q k := hq
  generalize (⟨H.t, H.nx, lg⟩ : Hp) = H at hs hN hq ⊢
  refine C1.body (E := E2) (nt := 32) (res := [.tmp 10, .tmp 11]) Tryz.func189 rfl rfl rfl rfl rfl fun tm hargs => ?_
  have h0 := hargs 0 _ rfl
  have h1 := hargs 1 _ rfl
  have h2 := hargs 2 _ rfl
  have h3 := hargs 3 _ rfl
  have h4 := hargs 4 _ rfl
  clear hargs
  generalize hr0 : Go.Sort.order2 (ltF cf) d a b k = R
  have fin : ∀ (A : AAct) (H3 : Hp) (x y : Nat), slot A.tm 10 = .one (.i .i64 (x : Int)) → slot A.tm 11 = .one (.i .i64 (y : Int)) → A.dfr = [] → Fr (fun j => j = q) H H3 → Ctr H3 q R.2.2 → x = R.1 → y = R.2.1 → ∃ w H4, callEnd E2 [.tmp 10, .tmp 11] (.ret, A, H3) = .ok [(w, H4)] ∧ Fr (fun j => j = q) H H4 ∧ ∀ lg' : List Nat, w = .tup [(false, [.i .i64 (R.1 : Int)]), (false, [.i .i64 (R.2.1 : Int)])] ∧ Ctr ⟨H4.t, H4.nx, lg'⟩ q R.2.2 := fun A H3 x y h1 h2 hd h3 h4 h5 h6 => ⟨_, H3, callEnd_two (.i .i64 x) (.i .i64 y) (.inr rfl) hd h1 h2, h3, fun _ => ⟨by rw [h5, h6], h4⟩⟩
  have hid := hs.lt
  have hdz := hs.sz
  obtain ⟨lo, hlo, hg⟩ := hs.row
  obtain ⟨hq1, hq2⟩ := hq
  have lv := hm.ltH hN
  have hcl := hm.len
  have d1 : a < d.size := by omega
  have d2 : b < d.size := by omega
  replace hr0 : Hd _ := hr0
  replace hdz : Hd _ := hdz
  replace d1 : Hd _ := d1
  replace d2 : Hd _ := d2
  refine zW tyS ?_
  refine zG (qA tyS (qA (ixC ha) (qA (ixC hb) (rdQ hm.len d1.out d2.out)))) fun K hK => ?_
  refine WE.con (hm.con H d[b]! d[a]! hN) fun w' H5 g5 hq' => ?_
  subst hq'
  have hg := (g5.get _ hid not_false).trans hg
  have hid := Nat.lt_of_lt_of_le hid g5.nx
  have hq1 := (g5.get _ hq2 not_false).trans hq1
  have hq2 := Nat.lt_of_lt_of_le hq2 g5.nx
  have f5 : Fr (fun j => j = q) H H5 := (Fr.refl _).then g5 fun _ h => h.elim
  have hr1 := hr0.out
  unfold Go.Sort.order2 at hr1
  by_cases hcf : cf d[b]! d[a]! < 0
  · rw [if_pos (show ltF cf d[b]! d[a]! = true from decide_eq_true hcf)] at hr1
    have hwk : IntKind.i64.wrap ((k : Int) + 1) = ((k + 1 : Nat) : Int) := by rw [wrapI (by omega) (by omega)]; omega
    clear hr0
    replace hr1 : Hd _ := hr1
    refine zK tyS ?_
    exact fin _ _ b a qp qp qe (f5.mod _ (.inr rfl)) ⟨by rw [← hr1.out]; exact get_modE rfl, hq2⟩ (by rw [← hr1.out]) (by rw [← hr1.out])
  · rw [if_neg (by unfold ltF; rw [decide_eq_false hcf]; decide)] at hr1
    clear hr0
    replace hr1 : Hd _ := hr1
    refine zK tyS ?_
    exact fin _ _ a b qp qp qe f5 ⟨by rw [← hr1.out]; exact hq1, hq2⟩ (by rw [← hr1.out]) (by rw [← hr1.out])
theorem ord2_b {lt : α → α → Bool} {d : Array α} {a b k n : Nat} (ha : a < n) (hb : b < n) : (Go.Sort.order2 lt d a b k).1 < n ∧ (Go.Sort.order2 lt d a b k).2.1 < n ∧ (Go.Sort.order2 lt d a b k).2.2 ≤ k + 1 := by
  unfold Go.Sort.order2
  split
  · exact ⟨hb, ha, Nat.le_refl _⟩
  · exact ⟨ha, hb, Nat.le_succ _⟩
set_option maxRecDepth 10000 in
set_option maxHeartbeats 8000000 in
theorem medi_con (hm : Cmp c cf cl N) (H : Hp) (id gen n : Nat) (d : Array α) (a b e q k : Nat) (hs : Srt c H id gen n d) (hq : Ctr H q k) (hqi : q ≠ id) (hN : N ≤ H.nx) (ha : a < n) (hb : b < n) (he : e < n) (hn : n ≤ 1099511627776) (hk : k ≤ 100) :
    Con E2 179 [.one (.o (.sl id gen 0 n 3)), .one (.i .i64 a), .one (.i .i64 b), .one (.i .i64 e), .one (.o (.ptr q 0 0 1)), .one (.o (.clo cl []))] H (fun j => j = q) fun r H' => r = .one (.i .i64 ((Go.Sort.median (ltF cf) d a b e k).1 : Int)) ∧ Ctr H' q (Go.Sort.median (ltF cf) d a b e k).2 := by
  refine Con.of rfl fun lg => ?_
  have hs : Srt c ⟨H.t, H.nx, lg⟩ id gen n d := hs
  have hN : N ≤ (⟨H.t, H.nx, lg⟩ : Hp).nx := hN
  have hq : Ctr ⟨H.t, H.nx, lg⟩ q k := hq
  generalize (⟨H.t, H.nx, lg⟩ : Hp) = H at hs hN hq ⊢
  refine C1.body (E := E2) (nt := 41) (res := [.tmp 12]) Tryz.func179 rfl rfl rfl rfl rfl fun tm hargs => ?_
  have h0 := hargs 0 _ rfl
  have h1 := hargs 1 _ rfl
  have h2 := hargs 2 _ rfl
  have h3 := hargs 3 _ rfl
  have h4 := hargs 4 _ rfl
  have h5 := hargs 5 _ rfl
  clear hargs
  generalize hr0 : Go.Sort.median (ltF cf) d a b e k = R
  unfold Go.Sort.median at hr0
  have hid := hs.lt
  have hql := hq.2
  replace hr0 : Hd _ := hr0
  refine zW tyS ?_
  refine zG (qA tyS bd_ord2) fun K hK => ?_
  refine WE.con (ord2_con hm H id gen n d a b q k hs hq hqi hN ha hb hn (by omega)) fun w' H1 g1 ⟨hw, hq1⟩ => ?_
  subst hw
  obtain ⟨x1, x2, x3⟩ := @ord2_b α _ (ltF cf) d a b k n ha hb
  generalize Go.Sort.order2 (ltF cf) d a b k = r1 at hr0 hq1 x1 x2 x3 ⊢
  have hs1 := hs.fr g1 (fun h => hqi h.symm)
  have hid1 := hs1.lt
  have hql1 := hq1.2
  have hN1 := Nat.le_trans hN g1.nx
  refine zK tyS ?_
  refine zG (qA tyS bd_ord2) fun K hK => ?_
  refine WE.con (ord2_con hm H1 id gen n d r1.2.1 e q r1.2.2 hs1 hq1 hqi hN1 x2 he hn (by omega)) fun w' H2 g2 ⟨hw, hq2⟩ => ?_
  subst hw
  obtain ⟨y1, y2, y3⟩ := @ord2_b α _ (ltF cf) d r1.2.1 e r1.2.2 n x2 he
  have hr1 : (let r3 := Go.Sort.order2 (ltF cf) d r1.1 (Go.Sort.order2 (ltF cf) d r1.2.1 e r1.2.2).1 (Go.Sort.order2 (ltF cf) d r1.2.1 e r1.2.2).2.2; (r3.2.1, r3.2.2)) = R := hr0.out
  clear hr0
  generalize Go.Sort.order2 (ltF cf) d r1.2.1 e r1.2.2 = r2 at hr1 hq2 y1 y2 y3 ⊢
  have hs2 := hs1.fr g2 (fun h => hqi h.symm)
  have hid2 := hs2.lt
  have hql2 := hq2.2
  have hN2 := Nat.le_trans hN1 g2.nx
  replace hr1 : Hd _ := hr1
  refine zK tyS ?_
  refine zG (qA tyS bd_ord2) fun K hK => ?_
  refine WE.con (ord2_con hm H2 id gen n d r1.1 r2.1 q r2.2.2 hs2 hq2 hqi hN2 x1 y1 hn (by omega)) fun w' H3 g3 ⟨hw, hq3⟩ => ?_
  subst hw
  have hr2 := hr1.out
  clear hr1
  generalize Go.Sort.order2 (ltF cf) d r1.1 r2.1 r2.2.2 = r3 at hr2 hq3 ⊢
  replace hr2 : (r3.2.1, r3.2.2) = R := hr2
  replace hr2 : Hd _ := hr2
  refine zK tyS ?_
  exact ⟨_, _, callEnd_one (.i .i64 (r3.2.1 : Int)) (.inr rfl) qe qp, (g1.then g2 fun _ h => .inr h).then g3 (fun _ h => .inr h), fun _ => by rw [← hr2.out]; exact ⟨rfl, hq3⟩⟩
theorem medi_b {lt : α → α → Bool} {d : Array α} {a b e k n : Nat} (ha : a < n) (hb : b < n) (he : e < n) : (Go.Sort.median lt d a b e k).1 < n ∧ (Go.Sort.median lt d a b e k).2 ≤ k + 3 := by
  obtain ⟨x1, x2, x3⟩ := @ord2_b α _ lt d a b k n ha hb
  obtain ⟨y1, y2, y3⟩ := @ord2_b α _ lt d (Go.Sort.order2 lt d a b k).2.1 e (Go.Sort.order2 lt d a b k).2.2 n x2 he
  obtain ⟨z1, z2, z3⟩ := @ord2_b α _ lt d (Go.Sort.order2 lt d a b k).1 (Go.Sort.order2 lt d (Go.Sort.order2 lt d a b k).2.1 e (Go.Sort.order2 lt d a b k).2.2).1 (Go.Sort.order2 lt d (Go.Sort.order2 lt d a b k).2.1 e (Go.Sort.order2 lt d a b k).2.2).2.2 n x1 y1
  exact ⟨z2, by unfold Go.Sort.median; show _ ≤ _; dsimp only; omega⟩
set_option maxRecDepth 10000 in
theorem mead_con (hm : Cmp c cf cl N) (H : Hp) (id gen n : Nat) (d : Array α) (a q k : Nat) (hs : Srt c H id gen n d) (hq : Ctr H q k) (hqi : q ≠ id) (hN : N ≤ H.nx) (h1 : 1 ≤ a) (ha : a + 1 < n) (hn : n ≤ 1099511627776) (hk : k ≤ 100) :
    Con E2 178 [.one (.o (.sl id gen 0 n 3)), .one (.i .i64 a), .one (.o (.ptr q 0 0 1)), .one (.o (.clo cl []))] H (fun j => j = q) fun r H' => r = .one (.i .i64 ((Go.Sort.medianAdjacent (ltF cf) d a k).1 : Int)) ∧ Ctr H' q (Go.Sort.medianAdjacent (ltF cf) d a k).2 := by
  have h1a := h1
  clear h1
  refine Con.of rfl fun lg => ?_
  have hs : Srt c ⟨H.t, H.nx, lg⟩ id gen n d := hs
  have hN : N ≤ (⟨H.t, H.nx, lg⟩ : Hp).nx := hN
  have hq : Ctr ⟨H.t, H.nx, lg⟩ q k := hq
  generalize (⟨H.t, H.nx, lg⟩ : Hp) = H at hs hN hq ⊢
  refine C1.body (E := E2) (nt := 18) (res := [.tmp 8]) Tryz.func178 rfl rfl rfl rfl rfl fun tm hargs => ?_
  have h0 := hargs 0 _ rfl
  have h1 := hargs 1 _ rfl
  have h2 := hargs 2 _ rfl
  have h3 := hargs 3 _ rfl
  clear hargs
  unfold Go.Sort.medianAdjacent
  generalize hr0 : Go.Sort.median (ltF cf) d (a - 1) a (a + 1) k = R
  replace hr0 : Hd _ := hr0
  have hid := hs.lt
  have hql := hq.2
  have hw1 : IntKind.i64.wrap ((a : Int) - 1) = ((a - 1 : Nat) : Int) := by rw [wrapI (by omega) (by omega)]; omega
  have hw2 : IntKind.i64.wrap ((a : Int) + 1) = ((a + 1 : Nat) : Int) := by rw [wrapI (by omega) (by omega)]; omega
  refine zW tyS ?_
  refine zG (qA tyS bd_medi) fun K hK => ?_
  refine WE.con (medi_con hm H id gen n d (a - 1) a (a + 1) q k hs hq hqi hN (by omega) (by omega) ha hn hk) fun w' H1 g1 ⟨hw, hq1⟩ => ?_
  subst hw
  rw [hr0.out] at hq1 ⊢
  refine zK tyS ?_
  exact ⟨_, _, callEnd_one (.i .i64 (R.1 : Int)) (.inr rfl) qe qp, g1, fun _ => ⟨rfl, hq1⟩⟩
theorem mead_b {lt : α → α → Bool} {d : Array α} {a k n : Nat} (ha : a + 1 < n) : (Go.Sort.medianAdjacent lt d a k).1 < n ∧ (Go.Sort.medianAdjacent lt d a k).2 ≤ k + 3 := medi_b (by omega) (by omega) ha
def hintI : Go.Sort.Hint → Int
  | .unknown => 0
  | .increasing => 1
  | .decreasing => 2
set_option maxRecDepth 10000 in
set_option maxHeartbeats 16000000 in
theorem pivo_con (hm : Cmp c cf cl N) (H : Hp) (id gen n : Nat) (d : Array α) (a b : Nat) (hs : Srt c H id gen n d) (hN : N ≤ H.nx) (hab : a < b) (hb : b ≤ n) (hn : n ≤ 1099511627776) :
    Con E2 152 [.one (.o (.sl id gen 0 n 3)), .one (.i .i64 a), .one (.i .i64 b), .one (.o (.clo cl []))] H (fun _ => False) fun r _ => r = .tup [(false, [.i .i64 ((Go.Sort.choosePivot (ltF cf) d a b).1 : Int)]), (false, [.i .i64 (hintI (Go.Sort.choosePivot (ltF cf) d a b).2)])] := by
  refine Con.of rfl fun lg => ?_
  have hs : Srt c ⟨H.t, H.nx, lg⟩ id gen n d := hs
  have hN : N ≤ (⟨H.t, H.nx, lg⟩ : Hp).nx := hN
  generalize (⟨H.t, H.nx, lg⟩ : Hp) = H at hs hN ⊢
  refine C1.body (E := E2) (nt := 63) (res := [.tmp 8, .tmp 9]) Tryz.func152 rfl rfl rfl rfl rfl fun tm hargs => ?_
  have h0 := hargs 0 _ rfl
  have h1 := hargs 1 _ rfl
  have h2 := hargs 2 _ rfl
  have h3 := hargs 3 _ rfl
  clear hargs
  generalize hr0 : Go.Sort.choosePivot (ltF cf) d a b = R
  unfold Go.Sort.choosePivot at hr0
  dsimp only at hr0
  have fin : ∀ (A : AAct) (H3 : Hp) (x : Nat) (y : Int) (h : Go.Sort.Hint), slot A.tm 8 = .one (.i .i64 (x : Int)) → slot A.tm 9 = .one (.i .i64 y) → y = hintI h → A.dfr = [] → Gr H H3 → (x, h) = R → ∃ w H4, callEnd E2 [.tmp 8, .tmp 9] (.ret, A, H3) = .ok [(w, H4)] ∧ Gr H H4 ∧ ∀ lg' : List Nat, w = .tup [(false, [.i .i64 (R.1 : Int)]), (false, [.i .i64 (hintI R.2)])] := fun A H3 x y h h1 h2 hy hd h3 h4 => ⟨_, H3, callEnd_two (.i .i64 x) (.i .i64 y) (.inr rfl) hd h1 h2, h3, fun _ => by rw [← h4, hy]⟩
  have hid := hs.lt
  obtain ⟨w, hw⟩ : ∃ w, w = b - a := ⟨_, rfl⟩
  have hw0 : IntKind.i64.wrap ((b : Int) - (a : Int)) = (w : Int) := by rw [wrapI (by omega) (by omega)]; omega
  have hwq : IntKind.i64.wrap ((w : Int).tdiv 4) = ((w / 4 : Nat) : Int) := by rw [Int.tdiv_eq_ediv_of_nonneg (by omega), wrapI (by omega) (by omega)]; omega
  have hw1 : IntKind.i64.wrap (((w / 4 : Nat) : Int) * 1) = ((w / 4 * 1 : Nat) : Int) := by rw [wrapI (by omega) (by omega)]; omega
  have hw2 : IntKind.i64.wrap (((w / 4 : Nat) : Int) * 2) = ((w / 4 * 2 : Nat) : Int) := by rw [wrapI (by omega) (by omega)]; omega
  have hw3 : IntKind.i64.wrap (((w / 4 : Nat) : Int) * 3) = ((w / 4 * 3 : Nat) : Int) := by rw [wrapI (by omega) (by omega)]; omega
  have hv1 : IntKind.i64.wrap ((a : Int) + ((w / 4 * 1 : Nat) : Int)) = ((a + w / 4 * 1 : Nat) : Int) := by rw [wrapI (by omega) (by omega)]; omega
  have hv2 : IntKind.i64.wrap ((a : Int) + ((w / 4 * 2 : Nat) : Int)) = ((a + w / 4 * 2 : Nat) : Int) := by rw [wrapI (by omega) (by omega)]; omega
  have hv3 : IntKind.i64.wrap ((a : Int) + ((w / 4 * 3 : Nat) : Int)) = ((a + w / 4 * 3 : Nat) : Int) := by rw [wrapI (by omega) (by omega)]; omega
  rw [← hw] at hr0
  generalize hi1 : a + w / 4 * 1 = i1 at hr0 hv1
  generalize hi2 : a + w / 4 * 2 = i2 at hr0 hv2
  generalize hi3 : a + w / 4 * 3 = i3 at hr0 hv3
  have c1 : i1 < n := by omega
  have c2 : i2 < n := by omega
  have c3 : i3 < n := by omega
  replace hr0 : Hd _ := hr0
  replace hw : Hd _ := hw
  replace hi1 : Hd _ := hi1
  replace hi2 : Hd _ := hi2
  replace hi3 : Hd _ := hi3
  refine zW (qA tyS (qA arQ (quoI (show (4 : Int) ≠ 0 by decide)))) ?_
  have gA : Gr H (H.new (.arr [.i .i64 0] 3 0 0)) := (Fr.refl _).new _
  have hsA : Srt c (H.new (.arr [.i .i64 0] 3 0 0)) id gen n d := hs.fr gA not_false
  have hqA : Ctr (H.new (.arr [.i .i64 0] 3 0 0)) H.nx 0 := ⟨get_newE rfl, Nat.lt_succ_self _⟩
  have hqn : H.nx ≠ id := by omega
  have hqH : H.nx ≤ H.nx := Nat.le_refl _
  generalize hq0 : H.nx = q at hqA hqn ⊢
  replace hqH : H.nx ≤ q := by omega
  refine R1.gen (fun A1 H1 => Gr H H1 ∧ Srt c H1 id gen n d ∧ Ctr H1 q 0 ∧ slot A1.tm 0 = .one ((.o (.sl id gen 0 n 3))) ∧ slot A1.tm 3 = .one ((.o (.clo cl []))) ∧ slot A1.tm 10 = .one (.i .i64 (w : Int)) ∧ slot A1.tm 11 = .one ((.o (.ptr q 0 0 1))) ∧ slot A1.tm 12 = .one (.i .i64 (i1 : Int)) ∧ slot A1.tm 13 = .one (.i .i64 (i2 : Int)) ∧ slot A1.tm 14 = .one (.i .i64 (i3 : Int)) ∧ slot A1.tm 34 = .one (.b (decide ((8 : Int) ≤ (w : Int)))) ∧ A1.nt = 63 ∧ A1.dfr = []) ⟨gA, hsA, hqA, zL⟩ ?_
  clear h0 h1 h2 h3 tm hs hid hv1 hv2 hv3 hw0 hw1 hw2 hw3 hwq gA hsA hqA hq0
  rintro A H1 ⟨g1, hs, hq, t0, t3, t10, t11, t12, t13, t14, t34, hnt, hdf⟩
  have hN1 := Nat.le_trans hN g1.nx
  have hid := hs.lt
  have hql := hq.2
  refine R1.s_mid (fun B H3 => ∃ x k : Nat, Gr H H3 ∧ Ctr H3 q k ∧ k ≤ 100 ∧ Hd ((x, if k = 0 then Go.Sort.Hint.increasing else if k = 12 then Go.Sort.Hint.decreasing else Go.Sort.Hint.unknown) = R) ∧ slot B.tm 11 = .one ((.o (.ptr q 0 0 1))) ∧ slot B.tm 13 = .one (.i .i64 (x : Int)) ∧ B.nt = 63 ∧ B.dfr = []) (fun K m1 m2 m3 => ?_) ?_
  · have hr1 := hr0.out
    by_cases h8 : 8 ≤ w
    · rw [if_pos h8] at hr1
      have h8i : (8 : Int) ≤ (w : Int) := by omega
      by_cases h50 : 50 ≤ w
      · rw [if_pos h50] at hr1
        have h50i : (50 : Int) ≤ (w : Int) := by omega
        have e1 := hi1.out
        have e2 := hi2.out
        have e3 := hi3.out
        have ew := hw.out
        have p1 : 1 ≤ i1 ∧ i1 + 1 < n := by omega
        have p2 : 1 ≤ i2 ∧ i2 + 1 < n := by omega
        have p3 : 1 ≤ i3 ∧ i3 + 1 < n := by omega
        clear e1 e2 e3 ew hr0
        obtain ⟨x1, y1⟩ := @mead_b α _ (ltF cf) d i1 0 n p1.2
        have k1 := mead_con hm H1 id gen n d i1 q 0 hs hq hqn hN1 p1.1 p1.2 hn (by omega)
        generalize Go.Sort.medianAdjacent (ltF cf) d i1 0 = r1 at hr1 x1 y1 k1
        replace hr1 : Hd _ := hr1
        replace p1 : Hd _ := p1
        replace p2 : Hd _ := p2
        replace p3 : Hd _ := p3
        replace k1 : Hd (Con E2 _ _ _ _ _) := k1
        refine zW tyS ?_
        refine zG (qA tyS bd_mead) fun K5 hK5 => ?_
        refine WE.con k1.out fun w' H2 g2 ⟨hw', hq2⟩ => ?_
        subst hw'
        clear k1
        have hs2 := hs.fr g2 (fun h => hqn h.symm)
        have hid2 := hs2.lt
        have hql2 := hq2.2
        have hN2 := Nat.le_trans hN1 g2.nx
        obtain ⟨x2, y2⟩ := @mead_b α _ (ltF cf) d i2 r1.2 n p2.out.2
        have k2 := mead_con hm H2 id gen n d i2 q r1.2 hs2 hq2 hqn hN2 p2.out.1 p2.out.2 hn (by omega)
        have hr1 := hr1.out
        generalize Go.Sort.medianAdjacent (ltF cf) d i2 r1.2 = r2 at hr1 x2 y2 k2
        replace hr1 : Hd _ := hr1
        replace k2 : Hd (Con E2 _ _ _ _ _) := k2
        refine zK tyS ?_
        refine zG (qA tyS bd_mead) fun K5 hK5 => ?_
        refine WE.con k2.out fun w' H3 g3 ⟨hw', hq3⟩ => ?_
        subst hw'
        clear k2
        have hs3 := hs2.fr g3 (fun h => hqn h.symm)
        have hid3 := hs3.lt
        have hql3 := hq3.2
        have hN3 := Nat.le_trans hN2 g3.nx
        obtain ⟨x3, y3⟩ := @mead_b α _ (ltF cf) d i3 r2.2 n p3.out.2
        have k3 := mead_con hm H3 id gen n d i3 q r2.2 hs3 hq3 hqn hN3 p3.out.1 p3.out.2 hn (by omega)
        have hr1 := hr1.out
        generalize Go.Sort.medianAdjacent (ltF cf) d i3 r2.2 = r3 at hr1 x3 y3 k3
        replace hr1 : Hd _ := hr1
        replace k3 : Hd (Con E2 _ _ _ _ _) := k3
        refine zK tyS ?_
        refine zG (qA tyS bd_mead) fun K5 hK5 => ?_
        refine WE.con k3.out fun w' H4 g4 ⟨hw', hq4⟩ => ?_
        subst hw'
        clear k3
        have hs4 := hs3.fr g4 (fun h => hqn h.symm)
        have hid4 := hs4.lt
        have hql4 := hq4.2
        have hN4 := Nat.le_trans hN3 g4.nx
        obtain ⟨x4, y4⟩ := @medi_b α _ (ltF cf) d r1.1 r2.1 r3.1 r3.2 n x1 x2 x3
        have k4 := medi_con hm H4 id gen n d r1.1 r2.1 r3.1 q r3.2 hs4 hq4 hqn hN4 x1 x2 x3 hn (by omega)
        have hr1 := hr1.out
        generalize Go.Sort.median (ltF cf) d r1.1 r2.1 r3.1 r3.2 = r4 at hr1 x4 y4 k4
        replace hr1 : Hd _ := hr1
        replace k4 : Hd (Con E2 _ _ _ _ _) := k4
        refine zK tyS ?_
        refine zG (qA tyS bd_medi) fun K5 hK5 => ?_
        refine WE.con k4.out fun w' H5 g5 ⟨hw', hq5⟩ => ?_
        subst hw'
        clear k4
        refine zK tyS ?_
        refine m1.out _ _ ?_
        exact ⟨r4.1, r4.2, g1.then ((((g2.then g3 fun _ h => .inr h).then g4 fun _ h => .inr h).then g5 fun _ h => .inr h)) (fun j h => by subst h; exact .inl hqH), hq5, by omega, hr1, zL⟩
      · rw [if_neg h50] at hr1
        have h50i : ¬ (50 : Int) ≤ (w : Int) := by omega
        obtain ⟨x4, y4⟩ := @medi_b α _ (ltF cf) d i1 i2 i3 0 n c1 c2 c3
        have k4 := medi_con hm H1 id gen n d i1 i2 i3 q 0 hs hq hqn hN1 c1 c2 c3 hn (by omega)
        generalize Go.Sort.median (ltF cf) d i1 i2 i3 0 = r4 at hr1 x4 y4 k4
        clear hr0
        replace hr1 : Hd _ := hr1
        replace k4 : Hd (Con E2 _ _ _ _ _) := k4
        refine zW tyS ?_
        refine zG (qA tyS bd_medi) fun K5 hK5 => ?_
        refine WE.con k4.out fun w' H5 g5 ⟨hw', hq5⟩ => ?_
        subst hw'
        clear k4
        refine zK tyS ?_
        refine m1.out _ _ ?_
        exact ⟨r4.1, r4.2, g1.then g5 (fun j h => by subst h; exact .inl hqH), hq5, by omega, hr1, zL⟩
    · rw [if_neg h8] at hr1
      have h8i : ¬ (8 : Int) ≤ (w : Int) := by omega
      clear hr0
      replace hr1 : Hd _ := hr1
      refine zW tyS ?_
      refine m1.out _ _ ?_
      exact ⟨i2, 0, g1, hq, by omega, hr1, zL⟩
  clear t0 t3 t10 t11 t12 t13 t14 t34 hnt hdf A hr0 hs hq hid hql g1 H1 hN1
  rintro A H3 ⟨x, k, g3, hq, hk, hr, t11, t13, hnt, hdf⟩
  obtain ⟨q1, q2⟩ := hq
  have hr1 := hr.out
  clear hr
  by_cases k0 : k = 0
  · rw [if_pos k0] at hr1
    have kb : ((k : Int) == 0) = true := by rw [k0]; rfl
    replace hr1 : Hd _ := hr1
    replace k0 : Hd _ := k0
    refine zW tyS ?_
    refine R1.e_bl fun K2 u1 u2 u3 u4 => ?_
    refine zW tyS ?_
    refine u4.out _ _ ?_
    exact fin _ _ x 1 .increasing qp qp rfl qe g3 hr1.out
  rw [if_neg k0] at hr1
  have kb : ((k : Int) == 0) = false := beq_false_of_ne (by omega)
  replace k0 : Hd _ := k0
  by_cases k12 : k = 12
  · rw [if_pos k12] at hr1
    have kc : ((k : Int) == 12) = true := by rw [k12]; rfl
    replace hr1 : Hd _ := hr1
    replace k12 : Hd _ := k12
    refine zW tyS ?_
    refine R1.e_bl fun K2 u1 u2 u3 u4 => ?_
    refine zW tyS ?_
    refine u4.out _ _ ?_
    exact fin _ _ x 2 .decreasing qp qp rfl qe g3 hr1.out
  · rw [if_neg k12] at hr1
    have kc : ((k : Int) == 12) = false := beq_false_of_ne (by omega)
    replace hr1 : Hd _ := hr1
    replace k12 : Hd _ := k12
    refine zW tyS ?_
    refine R1.e_bl fun K2 u1 u2 u3 u4 => ?_
    refine zW tyS ?_
    refine u4.out _ _ ?_
    exact fin _ _ x 0 .unknown qp qp rfl qe g3 hr1.out
end
end Go.Proofs.YtekoajibckipkaaGreat
namespace Go.Proofs.YtekoajibckipkaaGreat
open Go Go.Eng
theorem bd_rev : hasBody Tryz.prog 153 = true := by kernel_rfl
theorem bd_len : hasBody Tryz.prog 113 = true := by kernel_rfl
theorem bd_len64 : hasBody Tryz.prog 158 = true := by kernel_rfl
theorem bd_npow : hasBody Tryz.prog 176 = true := by kernel_rfl
theorem bd_next : hasBody Tryz.prog 177 = true := by kernel_rfl
theorem bd_brk : hasBody Tryz.prog 151 = true := by kernel_rfl
theorem tyU : type_of% (qA tyS (qA ld_uin (qA sz_uin (qA zr_uin (qA ad_uin (qA ld_u64 (qA sz_u64 (qA zr_u64 (qA ad_u64 (qA ld_xors (qA sz_xors (qA zr_xors (qA ad_xors (qA ld_u8 (qA ad_u8 (qA arQ bitQ)))))))))))))))) := qA tyS (qA ld_uin (qA sz_uin (qA zr_uin (qA ad_uin (qA ld_u64 (qA sz_u64 (qA zr_u64 (qA ad_u64 (qA ld_xors (qA sz_xors (qA zr_xors (qA ad_xors (qA ld_u8 (qA ad_u8 (qA arQ bitQ)))))))))))))))
theorem cvQ {s t : TypeId} {ks kt : IntKind} (hs : Tryz.prog.underlying s = some (.int ks)) (ht : Tryz.prog.underlying t = some (.int kt)) : (∀ (tm : PT AV) (H : Hp) (d : Option Tmp) (ty : TypeId) (pos : String) (af : Array Edge) (g : Option (Nat × Bool)) (x : Operand), plainOp Tryz.prog tm H ⟨d, .convert s t x, ty, pos, af, g⟩ = int1 (fun _ a => .i kt (kt.wrap a)) H (plainAlt Tryz.prog tm H ⟨d, .convert s t x, ty, pos, af, g⟩) (ev tm x)) ∧
    (∀ (H : Hp) (alt : ANext) (k : IntKind) (a : Int), int1 (fun _ a => .i kt (kt.wrap a)) H alt (.one (.i k a)) = .val (.one (.i kt (kt.wrap a))) H) := ⟨fun _ _ _ _ _ _ _ _ => plain_conv hs ht, fun _ _ _ _ => rfl⟩
theorem ixS : (∀ {st : Bool} {E : Env} {A : AAct} {d : Option Tmp} {H : Hp} {next : AAct → Hp → Prop} {ty : TypeId} {pos : String} {af : Array Edge} {gd : Option (Nat × Bool)} {t : TypeId} {x i : Operand}, SK st E ⟨d, .index t x i, ty, pos, af, gd⟩ A H next = vN next A d (doIndex H (isStrT E.P t) (ev A.tm x) (ev A.tm i) (plainOp E.P A.tm H ⟨d, .index t x i, ty, pos, af, gd⟩))) ∧ isStrT Tryz.prog 9 = true ∧
    (∀ {st : Bool} {E : Env} {A : AAct} {d : Option Tmp} {H : Hp} {next : AAct → Hp → Prop} {ty : TypeId} {pos : String} {af : Array Edge} {gd : Option (Nat × Bool)} {a b : TypeId} {x : Operand}, SK st E ⟨d, .convert a b x, ty, pos, af, gd⟩ A H next = vN next A d (plainOp E.P A.tm H ⟨d, .convert a b x, ty, pos, af, gd⟩)) := ⟨SK_index, is_str, SK_convert⟩
section
variable {α : Type} [Inhabited α] {c : α → List AC} {cf : α → α → Int} {cl N : Nat}
set_option maxRecDepth 10000 in
set_option maxHeartbeats 8000000 in
theorem rev_con (hm : Cmp c cf cl N) (H : Hp) (id gen n : Nat) (d : Array α) (a b : Nat) (hs : Srt c H id gen n d) (hN : N ≤ H.nx) (hab : a < b) (hb : b ≤ n) (hn : n ≤ 1099511627776) :
    Con E2 153 [.one (.o (.sl id gen 0 n 3)), .one (.i .i64 a), .one (.i .i64 b), .one (.o (.clo cl []))] H (fun k => k = id) fun r H' => r = .tup [] ∧ Srt c H' id gen n (Go.Sort.reverseRange d a b) := by
  refine Con.of rfl fun lg => ?_
  have hs : Srt c ⟨H.t, H.nx, lg⟩ id gen n d := hs
  have hN : N ≤ (⟨H.t, H.nx, lg⟩ : Hp).nx := hN
  generalize (⟨H.t, H.nx, lg⟩ : Hp) = H at hs hN ⊢
  refine C1.body (E := E2) (nt := 34) (res := []) Tryz.func153 rfl rfl rfl rfl rfl fun tm hargs => ?_
  have h0 := hargs 0 _ rfl
  have h1 := hargs 1 _ rfl
  have h2 := hargs 2 _ rfl
  have h3 := hargs 3 _ rfl
  clear hargs
  unfold Go.Sort.reverseRange
  generalize hr0 : Go.Sort.reverseLoop a (b - 1) d = R
  have fin : ∀ (e : AExit) (A : AAct) (H3 : Hp) (dc : Array α), (e = .normal ∨ e = .ret) → A.dfr = [] → Fr (fun k => k = id) H H3 → Srt c H3 id gen n dc → dc = R → ∃ w H4, callEnd E2 [] (e, A, H3) = .ok [(w, H4)] ∧ Fr (fun k => k = id) H H4 ∧ ∀ lg' : List Nat, w = .tup [] ∧ Srt c ⟨H4.t, H4.nx, lg'⟩ id gen n R := fun e A H3 dc he h1 h2 h3 h4 => ⟨_, H3, callEnd_nil he h1, h2, fun _ => ⟨rfl, by rw [← h4]; exact h3⟩⟩
  have hid := hs.lt
  have hw1 : IntKind.i64.wrap ((b : Int) - 1) = ((b - 1 : Nat) : Int) := by rw [wrapI (by omega) (by omega)]; omega
  replace hr0 : Hd _ := hr0
  refine zW tyS ?_
  refine R1.e_bl fun K k1 k2 k3 k4 => ?_
  refine R1.loop (fun z A H3 => ∃ (i j : Nat) (dc : Array α), z = j - i ∧ i ≤ n ∧ j < n ∧ Fr (fun k => k = id) H H3 ∧ Srt c H3 id gen n dc ∧ Hd (Go.Sort.reverseLoop i j dc = R) ∧ slot A.tm 0 = .one ((.o (.sl id gen 0 n 3))) ∧ slot A.tm 8 = .one (.i .i64 (i : Int)) ∧ slot A.tm 9 = .one (.i .i64 (j : Int)) ∧ A.nt = 34 ∧ A.dfr = []) ?_ (b - 1 - a)
    ⟨a, b - 1, d, rfl, by omega, by omega, Fr.refl _, hs, hr0, zL⟩
  clear h0 h1 h2 h3 tm hs hr0 hid hw1 k3
  rintro z A H3 ⟨i, j, dc, rfl, hi, hj, f3, hs, hr, t0, t8, t9, hnt, hdf⟩
  have hid := hs.lt
  have hdz := hs.sz
  obtain ⟨lo, hlo, hg⟩ := hs.row
  have hr1 := hr.out
  rw [Go.Sort.reverseLoop] at hr1
  clear hr
  by_cases hij : i < j
  · rw [if_pos hij] at hr1
    have hiji : (i : Int) < (j : Int) := by omega
    have hi2 : i < n := by omega
    have hwi : IntKind.i64.wrap ((i : Int) + 1) = ((i + 1 : Nat) : Int) := by rw [wrapI (by omega) (by omega)]; omega
    have hwj : IntKind.i64.wrap ((j : Int) - 1) = ((j - 1 : Nat) : Int) := by rw [wrapI (by omega) (by omega)]; omega
    have lv := hm.ltH (Nat.le_trans hN f3.nx)
    have hcl := hm.len
    have d1 : i < dc.size := by omega
    have d2 : j < dc.size := by omega
    replace hr1 : Hd _ := hr1
    replace hdz : Hd _ := hdz
    replace d1 : Hd _ := d1
    replace d2 : Hd _ := d2
    refine zW tyS ?_
    refine R1.e_bl fun K2 q1 q2 q3 q4 => ?_
    refine zW (qA tyS (qA (ixC hi2) (qA (ixC hj) (swQ hm.len d1.out d2.out)))) ?_
    refine q1.out _ _ ?_
    exact ⟨j - 1 - (i + 1), by omega, i + 1, j - 1, Go.Sort.swp dc i j, rfl, by omega, by omega, (f3.mod _ (.inr rfl)).mod _ (.inr rfl), ⟨by rw [swp_size]; exact hdz.out, ⟨gen, Nat.le_refl _, get_modE rfl⟩, hid⟩, hr1, zL⟩
  · rw [if_neg hij] at hr1
    have hiji : ¬ (i : Int) < (j : Int) := by omega
    replace hr1 : Hd _ := hr1
    replace hdz : Hd _ := hdz
    refine zW tyS ?_
    refine k2.out _ _ ?_
    exact fin _ _ _ _ (.inl rfl) qe f3 hs hr1.out
end
def tabL : List UInt8 := (List.range 256).map fun m => UInt8.ofNat (Go.Sort.bitsLen m)
theorem vN_tab {next : AAct → Hp → Prop} {A : AAct} {d : Option Tmp} {H : Hp} {s : List UInt8} {k : IntKind} {m : Nat} {alt : ANext} (hs : s = tabL) (hm : m < 256) (hn : vN next A d (.val (.one (.i .u8 (Go.Sort.bitsLen m : Int))) H)) : vN next A d (doIndex H true (.one (.o (.str s))) (.one (.i k (m : Int))) alt) := by
  have h : s[m]? = some (UInt8.ofNat (Go.Sort.bitsLen m)) := by
    rw [hs]; unfold tabL
    rw [List.getElem?_map, List.getElem?_range hm]; rfl
  rw [str_at h]
  have e : ((UInt8.ofNat (Go.Sort.bitsLen m)).toNat : Int) = (Go.Sort.bitsLen m : Int) := by
    have : Go.Sort.bitsLen m ≤ 8 := (Go.Sort.bitsLen_le_iff m 8).2 (by omega)
    rw [UInt8.toNat_ofNat']; omega
  rw [e]
  exact hn
theorem bitsLen_256 {x : Nat} (h : 256 ≤ x) : Go.Sort.bitsLen x = 8 + Go.Sort.bitsLen (x / 256) := by
  have a : ∀ k, Go.Sort.bitsLen x ≤ 8 + k ↔ Go.Sort.bitsLen (x / 256) ≤ k := fun k => by
    rw [Go.Sort.bitsLen_le_iff, Go.Sort.bitsLen_le_iff, Nat.pow_add, Nat.div_lt_iff_lt_mul (by decide), Nat.mul_comm]
  have b := (a (Go.Sort.bitsLen (x / 256))).2 (Nat.le_refl _)
  have c : 8 ≤ Go.Sort.bitsLen x := by
    by_cases h8 : Go.Sort.bitsLen x ≤ 7
    · have := (Go.Sort.bitsLen_le_iff x 7).1 h8; omega
    · omega
  have d := (a (Go.Sort.bitsLen x - 8)).1 (by omega)
  omega
theorem bitsLen_le64 {x : Nat} (h : x ≤ 4096) : Go.Sort.bitsLen x ≤ 13 := (Go.Sort.bitsLen_le_iff x 13).2 (by omega)
set_option maxRecDepth 100000 in
set_option maxHeartbeats 8000000 in
theorem len64_con (H : Hp) (x : Nat) (hx : x ≤ 4096) : Con E2 158 [.one (.i .u64 x)] H (fun _ => False) fun r _ => r = .one (.i .i64 (Go.Sort.bitsLen x : Int)) := by
  refine Con.of rfl fun lg => ?_
  generalize (⟨H.t, H.nx, lg⟩ : Hp) = H
  refine C1.body (E := E2) (nt := 25) (res := [.tmp 2]) Tryz.func158 rfl rfl rfl rfl rfl fun tm hargs => ?_
  have h0 := hargs 0 _ rfl
  clear hargs
  have c1 : ¬ (4294967296 : Int) ≤ (x : Int) := by omega
  have c2 : ¬ (65536 : Int) ≤ (x : Int) := by omega
  have hb := bitsLen_le64 hx
  by_cases c3 : 256 ≤ x
  · have c3i : (256 : Int) ≤ (x : Int) := by omega
    have e1 : shF .shr .u64 (x : Int) 8 = ((x / 256 : Nat) : Int) := shr_u (k := 8) (by decide)
    have e2 : IntKind.i64.wrap (0 + 8) = 8 := by decide
    have e3 : IntKind.u8.wrap ((x / 256 : Nat) : Int) = ((x / 256 : Nat) : Int) := by rw [IntKind.wrap_u8]; omega
    have e4 : IntKind.i64.wrap (Go.Sort.bitsLen (x / 256) : Int) = (Go.Sort.bitsLen (x / 256) : Int) := wrapI (by omega) (by have := bitsLen_256 c3; omega)
    have e5 : IntKind.i64.wrap (8 + (Go.Sort.bitsLen (x / 256) : Int)) = (Go.Sort.bitsLen x : Int) := by
      have := bitsLen_256 c3
      rw [wrapI (by omega) (by omega)]; omega
    refine zW (qA tyU (shI (op := .shr) (show (0 : Int) ≤ 8 by decide))) ?_
    refine zG (qA tyU (qA ixS (qA (cvQ un_u64 un_u8) (cvQ un_u8 un_int)))) fun K hK => ?_
    refine vN_tab (by kernel_rfl) (by omega) ?_
    refine zK (qA tyU (qA ixS (qA (cvQ un_u64 un_u8) (cvQ un_u8 un_int)))) ?_
    exact ⟨_, _, callEnd_one (.i .i64 (Go.Sort.bitsLen x : Int)) (.inr rfl) qe qp, Fr.refl _, fun _ => rfl⟩
  · have c3i : ¬ (256 : Int) ≤ (x : Int) := by omega
    have e3 : IntKind.u8.wrap (x : Int) = (x : Int) := by rw [IntKind.wrap_u8]; omega
    have e4 : IntKind.i64.wrap (Go.Sort.bitsLen x : Int) = (Go.Sort.bitsLen x : Int) := wrapI (by omega) (by omega)
    have e5 : IntKind.i64.wrap (0 + (Go.Sort.bitsLen x : Int)) = (Go.Sort.bitsLen x : Int) := by
      rw [wrapI (by omega) (by omega)]; omega
    refine zW (qA tyU (shI (op := .shr) (show (0 : Int) ≤ 8 by decide))) ?_
    refine zG (qA tyU (qA ixS (qA (cvQ un_u64 un_u8) (cvQ un_u8 un_int)))) fun K hK => ?_
    refine vN_tab (by kernel_rfl) (by omega) ?_
    refine zK (qA tyU (qA ixS (qA (cvQ un_u64 un_u8) (cvQ un_u8 un_int)))) ?_
    exact ⟨_, _, callEnd_one (.i .i64 (Go.Sort.bitsLen x : Int)) (.inr rfl) qe qp, Fr.refl _, fun _ => rfl⟩
set_option maxRecDepth 10000 in
theorem len_con (H : Hp) (x : Nat) (hx : x ≤ 4096) : Con E2 113 [.one (.i .u64 x)] H (fun _ => False) fun r _ => r = .one (.i .i64 (Go.Sort.bitsLen x : Int)) := by
  refine Con.of rfl fun lg => ?_
  generalize (⟨H.t, H.nx, lg⟩ : Hp) = H
  refine C1.body (E := E2) (nt := 8) (res := [.tmp 2]) Tryz.func113 rfl rfl rfl rfl rfl fun tm hargs => ?_
  have h0 := hargs 0 _ rfl
  clear hargs
  refine zW tyS ?_
  refine zG (qA tyS bd_len64) fun K hK => ?_
  refine WE.con (len64_con H x hx) fun w' H1 g1 hw => ?_
  subst hw
  refine zK tyS ?_
  exact ⟨_, _, callEnd_one (.i .i64 (Go.Sort.bitsLen x : Int)) (.inr rfl) qe qp, g1, fun _ => rfl⟩
set_option maxRecDepth 10000 in
theorem npow_con (H : Hp) (x : Nat) (hx : x ≤ 4096) : Con E2 176 [.one (.i .i64 x)] H (fun _ => False) fun r _ => r = .one (.i .u64 ((1 <<< Go.Sort.bitsLen x : Nat) : Int)) := by
  refine Con.of rfl fun lg => ?_
  generalize (⟨H.t, H.nx, lg⟩ : Hp) = H
  refine C1.body (E := E2) (nt := 7) (res := [.tmp 2]) Tryz.func176 rfl rfl rfl rfl rfl fun tm hargs => ?_
  have h0 := hargs 0 _ rfl
  clear hargs
  have e1 : IntKind.u64.wrap (x : Int) = (x : Int) := wrapU (by omega)
  have hb := bitsLen_le64 hx
  have e2 : shF .shl .u64 1 (Go.Sort.bitsLen x : Int) = ((1 <<< Go.Sort.bitsLen x : Nat) : Int) := by
    have := shl_u (x := 1) (k := Go.Sort.bitsLen x) (by omega)
    rw [show ((1 : Nat) : Int) = 1 from rfl] at this
    rw [this, Nat.one_shiftLeft, Nat.one_mul, Nat.mod_eq_of_lt (Nat.lt_of_le_of_lt (Nat.pow_le_pow_right (by decide) hb) (by decide))]
  have e3 : (0 : Int) ≤ (Go.Sort.bitsLen x : Int) := by omega
  refine zW tyS ?_
  refine zG (qA tyU (qA ixS (qA (cvQ un_int un_uin) bd_len))) fun K hK => ?_
  refine WE.con (len_con H x hx) fun w' H1 g1 hw => ?_
  subst hw
  refine zK (qA tyU (shI (op := .shl) e3)) ?_
  exact ⟨_, _, callEnd_one (.i .u64 ((1 <<< Go.Sort.bitsLen x : Nat) : Int)) (.inr rfl) qe qp, g1, fun _ => rfl⟩
set_option maxRecDepth 10000 in
set_option maxHeartbeats 8000000 in
theorem next_con (H : Hp) (q x : Nat) (hx : x < 18446744073709551616) (hg : H.get q = some (.arr [.i .u64 (x : Int)] 257 0 0)) (hq : q < H.nx) :
    Con E2 177 [.one (.o (.ptr q 0 0 1))] H (fun k => k = q) fun r H' => r = .one (.i .u64 (Go.Sort.xorNextN x : Int)) ∧ H'.get q = some (.arr [.i .u64 (Go.Sort.xorNextN x : Int)] 257 0 0) := by
  refine Con.of rfl fun lg => ?_
  have hg : (⟨H.t, H.nx, lg⟩ : Hp).get q = some (.arr [.i .u64 (x : Int)] 257 0 0) := hg
  have hq : q < (⟨H.t, H.nx, lg⟩ : Hp).nx := hq
  generalize (⟨H.t, H.nx, lg⟩ : Hp) = H at hg hq ⊢
  refine C1.body (E := E2) (nt := 33) (res := [.tmp 2]) Tryz.func177 rfl rfl rfl rfl rfl fun tm hargs => ?_
  have h0 := hargs 0 _ rfl
  clear hargs
  have p64 : (18446744073709551616 : Nat) = 2 ^ 64 := by decide
  obtain ⟨y, hy⟩ : ∃ y, y = x ^^^ (x * 8192 % 18446744073709551616) := ⟨_, rfl⟩
  obtain ⟨z, hz⟩ : ∃ z, z = y ^^^ (y / 128) := ⟨_, rfl⟩
  obtain ⟨u, hu⟩ : ∃ u, u = z ^^^ (z * 131072 % 18446744073709551616) := ⟨_, rfl⟩
  have ly : y < 18446744073709551616 := by rw [hy, p64]; exact Nat.xor_lt_two_pow (by omega) (by omega)
  have lz : z < 18446744073709551616 := by rw [hz, p64]; exact Nat.xor_lt_two_pow (by omega) (by omega)
  have lu : u < 18446744073709551616 := by rw [hu, p64]; exact Nat.xor_lt_two_pow (by omega) (by omega)
  have hR : Go.Sort.xorNextN x = u := by
    unfold Go.Sort.xorNextN
    rw [hu, hz, hy]
  rw [hR]
  have a1 : shF .shl .u64 (x : Int) 13 = ((x * 8192 % 18446744073709551616 : Nat) : Int) := shl_u (k := 13) (by decide)
  have a2 : bitF .xor .u64 (x : Int) ((x * 8192 % 18446744073709551616 : Nat) : Int) = (y : Int) := by rw [xor_u hx (by omega), hy]
  have a3 : shF .shr .u64 (y : Int) 7 = ((y / 128 : Nat) : Int) := shr_u (k := 7) (by decide)
  have a4 : bitF .xor .u64 (y : Int) ((y / 128 : Nat) : Int) = (z : Int) := by rw [xor_u ly (by omega), hz]
  have a5 : shF .shl .u64 (z : Int) 17 = ((z * 131072 % 18446744073709551616 : Nat) : Int) := shl_u (k := 17) (by decide)
  have a6 : bitF .xor .u64 (z : Int) ((z * 131072 % 18446744073709551616 : Nat) : Int) = (u : Int) := by rw [xor_u lz (by omega), hu]
  clear hR hu hz hy p64
  refine zW (qA tyU (qA (shI (op := .shl) (show (0 : Int) ≤ 13 by decide)) (qA (shI (op := .shr) (show (0 : Int) ≤ 7 by decide)) (shI (op := .shl) (show (0 : Int) ≤ 17 by decide))))) ?_
  exact ⟨_, _, callEnd_one (.i .u64 (u : Int)) (.inr rfl) qe qp, (((Fr.refl (X := fun k => k = q) H).mod _ (.inr rfl)).mod _ (.inr rfl)).mod _ (.inr rfl), fun _ => ⟨rfl, get_modE rfl⟩⟩
section
variable {α : Type} [Inhabited α] {c : α → List AC} {cf : α → α → Int} {cl N : Nat}
def brkR (a L M : Nat) : Nat → Nat → UInt64 × Array α → Array α
  | 0, _, st => st.2
  | k + 1, i, st => brkR a L M k (i + 1) (Go.Sort.breakStep a L M st i)
theorem brk_eq (d : Array α) (a b : Nat) (h : 8 ≤ b - a) : Go.Sort.breakPatterns d a b = brkR a (b - a) (1 <<< Go.Sort.bitsLen (b - a)) 3 (a + (b - a) / 4 * 2 - 1) (UInt64.ofNat (b - a), d) := by
  unfold Go.Sort.breakPatterns
  rw [if_pos h]
  rfl
set_option maxRecDepth 10000 in
set_option maxHeartbeats 16000000 in
theorem brk_con (hm : Cmp c cf cl N) (H : Hp) (id gen n : Nat) (d : Array α) (a b : Nat) (hs : Srt c H id gen n d) (hN : N ≤ H.nx) (hab : a < b) (hb : b ≤ n) (hn : n ≤ 4096) :
    Con E2 151 [.one (.o (.sl id gen 0 n 3)), .one (.i .i64 a), .one (.i .i64 b), .one (.o (.clo cl []))] H (fun k => k = id) fun r H' => r = .tup [] ∧ Srt c H' id gen n (Go.Sort.breakPatterns d a b) := by
  refine Con.of rfl fun lg => ?_
  have hs : Srt c ⟨H.t, H.nx, lg⟩ id gen n d := hs
  have hN : N ≤ (⟨H.t, H.nx, lg⟩ : Hp).nx := hN
  generalize (⟨H.t, H.nx, lg⟩ : Hp) = H at hs hN ⊢
  refine C1.body (E := E2) (nt := 67) (res := []) Tryz.func151 rfl rfl rfl rfl rfl fun tm hargs => ?_
  have h0 := hargs 0 _ rfl
  have h1 := hargs 1 _ rfl
  have h2 := hargs 2 _ rfl
  have h3 := hargs 3 _ rfl
  clear hargs
  generalize hr0 : Go.Sort.breakPatterns d a b = R
  have fin : ∀ (e : AExit) (A : AAct) (H3 : Hp) (dc : Array α), (e = .normal ∨ e = .ret) → A.dfr = [] → Fr (fun k => k = id) H H3 → Srt c H3 id gen n dc → dc = R → ∃ w H4, callEnd E2 [] (e, A, H3) = .ok [(w, H4)] ∧ Fr (fun k => k = id) H H4 ∧ ∀ lg' : List Nat, w = .tup [] ∧ Srt c ⟨H4.t, H4.nx, lg'⟩ id gen n R := fun e A H3 dc he h1 h2 h3 h4 => ⟨_, H3, callEnd_nil he h1, h2, fun _ => ⟨rfl, by rw [← h4]; exact h3⟩⟩
  have hid := hs.lt
  obtain ⟨L, hL⟩ : ∃ L, L = b - a := ⟨_, rfl⟩
  have hw0 : IntKind.i64.wrap ((b : Int) - (a : Int)) = (L : Int) := by rw [wrapI (by omega) (by omega)]; omega
  by_cases h8 : 8 ≤ L
  case neg =>
    have h8i : ¬ (8 : Int) ≤ (L : Int) := by omega
    have hr1 : d = R := by
      rw [← hr0]; unfold Go.Sort.breakPatterns
      rw [if_neg (by omega)]
    clear hr0
    replace hr1 : Hd _ := hr1
    replace hL : Hd _ := hL
    refine zW tyS ?_
    exact fin _ _ _ _ (.inl rfl) qe (Fr.refl _) hs hr1.out
  have h8i : (8 : Int) ≤ (L : Int) := by omega
  rw [brk_eq d a b (by omega), ← hL] at hr0
  obtain ⟨M, hM⟩ : ∃ M : Nat, M = 1 <<< Go.Sort.bitsLen L := ⟨_, rfl⟩
  have hM1 : 1 ≤ M := by rw [hM, Nat.one_shiftLeft]; exact Nat.two_pow_pos _
  have hM2 : M ≤ 2 * L := by rw [hM, Nat.one_shiftLeft]; exact Go.Sort.two_pow_bitsLen_le (by omega)
  rw [← hM] at hr0
  have hLu : IntKind.u64.wrap (L : Int) = (L : Int) := wrapU (by omega)
  have hqq : IntKind.i64.wrap ((L : Int).tdiv 4) = ((L / 4 : Nat) : Int) := by rw [Int.tdiv_eq_ediv_of_nonneg (by omega), wrapI (by omega) (by omega)]; omega
  have hq2 : IntKind.i64.wrap (((L / 4 : Nat) : Int) * 2) = ((L / 4 * 2 : Nat) : Int) := by rw [wrapI (by omega) (by omega)]; omega
  have hq3 : IntKind.i64.wrap ((a : Int) + ((L / 4 * 2 : Nat) : Int)) = ((a + L / 4 * 2 : Nat) : Int) := by rw [wrapI (by omega) (by omega)]; omega
  have hq4 : IntKind.i64.wrap (((a + L / 4 * 2 : Nat) : Int) - 1) = ((a + L / 4 * 2 - 1 : Nat) : Int) := by rw [wrapI (by omega) (by omega)]; omega
  have hq5 : IntKind.i64.wrap (((a + L / 4 * 2 : Nat) : Int) + 1) = ((a + L / 4 * 2 + 1 : Nat) : Int) := by rw [wrapI (by omega) (by omega)]; omega
  replace hr0 : Hd _ := hr0
  replace hL : Hd _ := hL
  replace hM : Hd _ := hM
  refine zW (qA tyU (qA ixS (cvQ un_int un_xors))) ?_
  have gA : Gr H ((H.new (.arr [.i .u64 0] 257 0 0)).mod H.nx (.arr [.i .u64 (L : Int)] 257 0 0)) := ((Fr.refl _).new _).mod _ (.inl (Nat.le_refl _))
  have hsA := hs.fr gA not_false
  have hqA : ((H.new (.arr [.i .u64 0] 257 0 0)).mod H.nx (.arr [.i .u64 (L : Int)] 257 0 0)).get H.nx = some (.arr [.i .u64 (L : Int)] 257 0 0) := get_modE rfl
  have hqn : H.nx ≠ id := by omega
  have hqH : H.nx ≤ H.nx := Nat.le_refl _
  generalize hq0 : H.nx = q at hqA hqn ⊢
  have hqlt : q < ((H.new (.arr [.i .u64 0] 257 0 0)).mod q (.arr [.i .u64 (L : Int)] 257 0 0)).nx := by
    show q < H.nx + 1
    omega
  refine R1.gen (fun A1 H1 => Gr H H1 ∧ Srt c H1 id gen n d ∧ H1.get q = some (.arr [.i .u64 (L : Int)] 257 0 0) ∧ q < H1.nx ∧ slot A1.tm 0 = .one ((.o (.sl id gen 0 n 3))) ∧ slot A1.tm 1 = .one (.i .i64 (a : Int)) ∧ slot A1.tm 3 = .one ((.o (.clo cl []))) ∧ slot A1.tm 8 = .one (.i .i64 (L : Int)) ∧ slot A1.tm 9 = .one ((.o (.ptr q 0 0 1))) ∧ A1.nt = 67 ∧ A1.dfr = [])
    ⟨by rw [← hq0]; exact gA, by rw [← hq0]; exact hsA, hqA, hqlt, zL⟩ ?_
  replace hqH : H.nx ≤ q := by omega
  clear h0 h1 h2 h3 tm hs hid hw0 hLu gA hsA hqA hqlt hq0
  rintro A H1 ⟨g1, hs, hg, hql, t0, t1, t3, t8, t9, hnt, hdf⟩
  have hid := hs.lt
  refine zG (qA tyS bd_npow) fun K hK => ?_
  have hLL := hL.out
  refine WE.con (npow_con H1 L (by omega)) fun w' H2 g2 hw => ?_
  rw [← hM.out] at hw
  subst hw
  have hs2 := hs.fr g2 not_false
  have hid2 := hs2.lt
  have hg := (g2.get _ hql not_false).trans hg
  have hql := Nat.lt_of_lt_of_le hql g2.nx
  have f2 : Fr (fun k => k = id) H H2 := (Fr.refl _).then (g1.gr g2) fun _ h => h.elim
  clear g1 g2 hs hid
  replace hLL : Hd _ := hLL
  replace f2 : Hd _ := f2
  have h4 : (4 : Int) ≠ 0 := by decide
  refine zK (qA tyU (quoI h4)) ?_
  clear hq4 hq2 hq3
  refine R1.e_bl fun K2 k1 k2 k3 k4 => ?_
  refine R1.loop (fun z A H3 => ∃ (t : Nat) (x : UInt64) (dc : Array α), z = 3 - t ∧ t ≤ 3 ∧ Fr (fun k => k = id) H H3 ∧ Srt c H3 id gen n dc ∧ H3.get q = some (.arr [.i .u64 (x.toNat : Int)] 257 0 0) ∧ q < H3.nx ∧ Hd (brkR a L M (3 - t) (a + L / 4 * 2 - 1 + t) (x, dc) = R) ∧
      slot A.tm 0 = .one ((.o (.sl id gen 0 n 3))) ∧ slot A.tm 1 = .one (.i .i64 (a : Int)) ∧ slot A.tm 3 = .one ((.o (.clo cl []))) ∧ slot A.tm 8 = .one (.i .i64 (L : Int)) ∧ slot A.tm 9 = .one ((.o (.ptr q 0 0 1))) ∧ slot A.tm 10 = .one ((.i .u64 (M : Int))) ∧ slot A.tm 11 = .one (.i .i64 ((a + L / 4 * 2 - 1 + t : Nat) : Int)) ∧ A.nt = 67 ∧ A.dfr = []) ?_ 3
    ⟨0, UInt64.ofNat L, d, rfl, by decide, f2.out, hs2, by rw [hg, UInt64.toNat_ofNat']; rw [Nat.mod_eq_of_lt (by have := hLL.out; omega)], hql, hr0, zL⟩
  clear t0 t1 t3 t8 t9 hnt hdf A hs2 hid2 hg hql f2 hr0 k3 hK K
  rintro z A H3 ⟨t, x, dc, rfl, ht, f3, hs, hg, hql, hr, t0, t1, t3, t8, t9, t10, t11, hnt, hdf⟩
  have hid := hs.lt
  have hLL := hL.out
  have hq2 : IntKind.i64.wrap (((L / 4 : Nat) : Int) * 2) = ((L / 4 * 2 : Nat) : Int) := by rw [wrapI (by omega) (by omega)]; omega
  have hq3 : IntKind.i64.wrap ((a : Int) + ((L / 4 * 2 : Nat) : Int)) = ((a + L / 4 * 2 : Nat) : Int) := by rw [wrapI (by omega) (by omega)]; omega
  by_cases ht3 : t < 3
  case neg =>
    have hci : ¬ ((a + L / 4 * 2 - 1 + t : Nat) : Int) ≤ ((a + L / 4 * 2 + 1 : Nat) : Int) := by omega
    have ht4 : 3 - t = 0 := by omega
    have hr1 := hr.out
    rw [ht4, brkR] at hr1
    replace hr1 : dc = R := hr1
    clear hr ht4
    replace hr1 : Hd _ := hr1
    replace hLL : Hd _ := hLL
    refine zW (qA tyU (quoI h4)) ?_
    refine k2.out _ _ ?_
    exact fin _ _ _ _ (.inl rfl) qe f3 hs hr1.out
  have hci : ((a + L / 4 * 2 - 1 + t : Nat) : Int) ≤ ((a + L / 4 * 2 + 1 : Nat) : Int) := by omega
  have hr1 := hr.out
  rw [show 3 - t = (3 - (t + 1)) + 1 from by omega, brkR] at hr1
  unfold Go.Sort.breakStep at hr1
  dsimp only at hr1
  clear hr
  have hxn : Go.Sort.xorNextN x.toNat = (Go.Sort.xorNext x).toNat := (Go.Sort.xorNext_toNat x).symm
  have lx := x.toNat_lt
  have ly := (Go.Sort.xorNext x).toNat_lt
  generalize hy : Go.Sort.xorNext x = y at hr1 hxn ly
  obtain ⟨o, ho⟩ : ∃ o, o = y.toNat &&& (M - 1) := ⟨_, rfl⟩
  have ho2 : o ≤ M - 1 := by rw [ho]; exact Nat.and_le_right
  rw [← ho] at hr1
  have hMu : IntKind.u64.wrap ((M : Int) - 1) = ((M - 1 : Nat) : Int) := by
    rw [show ((M : Int) - 1) = ((M - 1 : Nat) : Int) from by omega]; exact wrapU (by omega)
  have hand : bitF .and .u64 (y.toNat : Int) ((M - 1 : Nat) : Int) = (o : Int) := by rw [and_u ly (by omega), ho]
  have hcv : IntKind.i64.wrap (o : Int) = (o : Int) := wrapI (by omega) (by omega)
  have hio : IntKind.i64.wrap ((o : Int) - (L : Int)) = ((o : Int) - (L : Int)) := wrapI (by omega) (by omega)
  have hwi : IntKind.i64.wrap (((a + L / 4 * 2 - 1 + t : Nat) : Int) + 1) = ((a + L / 4 * 2 - 1 + (t + 1) : Nat) : Int) := by rw [wrapI (by omega) (by omega)]; omega
  clear ho hy
  have hno := next_con H3 q x.toNat lx hg hql
  rw [hxn] at hno
  clear hxn
  have b1 : a + L / 4 * 2 - 1 + t < n := by omega
  generalize hix : a + L / 4 * 2 - 1 + t = ix at hci hwi b1 hr1 t11
  replace hr1 : Hd _ := hr1
  replace hLL : Hd _ := hLL
  replace hix : Hd _ := hix
  replace hno : Hd (Con E2 _ _ _ _ _) := hno
  refine zW (qA tyU (quoI h4)) ?_
  refine R1.s_bl fun K3 q1 q2 q3 q4 => ?_
  refine zG (qA tyS bd_next) fun K5 hK5 => ?_
  refine WE.con hno.out fun w' H4 g4 ⟨hw, hg4⟩ => ?_
  subst hw
  clear hno
  have hs4 := hs.fr g4 (fun h => hqn h.symm)
  have hid4 := hs4.lt
  have hql4 := Nat.lt_of_lt_of_le hql g4.nx
  have f4 : Fr (fun k => k = id) H H4 := f3.then g4 fun j h => by subst h; exact .inl hqH
  clear hs hg hql hid f3 g4
  refine zS (qA tyU (qA ixS (cvQ un_uin un_int))) ?_
  refine hK5.out _ _ ?_
  clear hK5 K5
  obtain ⟨o2, ho2e⟩ : ∃ o2, o2 = if o ≥ L then o - L else o := ⟨_, rfl⟩
  have hr2 := hr1.out
  rw [← ho2e] at hr2
  clear hr1
  have ho2L : o2 < L := by have := hLL.out; rw [ho2e]; split <;> omega
  replace hr2 : Hd _ := hr2
  refine R1.gen (fun A5 H5 => H4 = H5 ∧ slot A5.tm 0 = .one ((.o (.sl id gen 0 n 3))) ∧ slot A5.tm 1 = .one (.i .i64 (a : Int)) ∧ slot A5.tm 3 = .one ((.o (.clo cl []))) ∧ slot A5.tm 8 = .one (.i .i64 (L : Int)) ∧ slot A5.tm 9 = .one ((.o (.ptr q 0 0 1))) ∧ slot A5.tm 10 = .one ((.i .u64 (M : Int))) ∧ slot A5.tm 11 = .one (.i .i64 (ix : Int)) ∧ slot A5.tm 12 = .one (.i .i64 (o : Int)) ∧ A5.nt = 67 ∧ A5.dfr = []) ⟨rfl, zL⟩ ?_
  clear t0 t1 t3 t8 t9 t10 t11 hnt hdf A
  rintro A _ ⟨rfl, t0, t1, t3, t8, t9, t10, t11, t12, hnt, hdf⟩
  have hwa : IntKind.i64.wrap ((a : Int) + (o2 : Int)) = ((a + o2 : Nat) : Int) := by have := hLL.out; rw [wrapI (by omega) (by omega)]; omega
  refine zW tyS ?_
  refine R1.s_mid (fun B H5 => H4 = H5 ∧ slot B.tm 0 = .one ((.o (.sl id gen 0 n 3))) ∧ slot B.tm 1 = .one (.i .i64 (a : Int)) ∧ slot B.tm 3 = .one ((.o (.clo cl []))) ∧ slot B.tm 8 = .one (.i .i64 (L : Int)) ∧ slot B.tm 9 = .one ((.o (.ptr q 0 0 1))) ∧ slot B.tm 10 = .one ((.i .u64 (M : Int))) ∧ slot B.tm 11 = .one (.i .i64 (ix : Int)) ∧ slot B.tm 12 = .one (.i .i64 (o2 : Int)) ∧ B.nt = 67 ∧ B.dfr = []) (fun K4 m1 m2 m3 => ?_) ?_
  · by_cases hoL : L ≤ o
    · have hoi : (L : Int) ≤ (o : Int) := by omega
      clear hio
      have hio : IntKind.i64.wrap ((o : Int) - (L : Int)) = (o2 : Int) := by
        have := hLL.out
        rw [ho2e, if_pos hoL, wrapI (by omega) (by omega)]; omega
      replace ho2e : Hd _ := ho2e
      refine zW tyS ?_
      refine m1.out _ _ ?_
      exact ⟨rfl, zL⟩
    · have hoi : ¬ (L : Int) ≤ (o : Int) := by omega
      rw [if_neg hoL] at ho2e
      subst ho2e
      refine zW tyS ?_
      refine m1.out _ _ ?_
      exact ⟨rfl, zL⟩
  clear t0 t1 t3 t8 t9 t10 t11 t12 hnt hdf A hio ho2e hcv hand hMu hci
  rintro A _ ⟨rfl, t0, t1, t3, t8, t9, t10, t11, t12, hnt, hdf⟩
  have hdz := hs4.sz
  obtain ⟨lo, hlo, hg⟩ := hs4.row
  have lv := hm.ltH (Nat.le_trans hN f4.nx)
  have hcl := hm.len
  have b2 : a + o2 < n := by have := hLL.out; omega
  have d1 : ix < dc.size := by omega
  have d2 : a + o2 < dc.size := by omega
  replace hdz : Hd _ := hdz
  replace d1 : Hd _ := d1
  replace d2 : Hd _ := d2
  refine zW (qA tyS (qA (ixC b1) (qA (ixC b2) (swQ hm.len d1.out d2.out)))) ?_
  refine q1.out _ _ ?_
  refine zW tyS ?_
  exact ⟨3 - (t + 1), by omega, t + 1, y, Go.Sort.swp dc ix (a + o2), rfl, by omega, (f4.mod _ (.inr rfl)).mod _ (.inr rfl), ⟨by rw [swp_size]; exact hdz.out, ⟨gen, Nat.le_refl _, get_modE rfl⟩, hid4⟩, by rw [get_modN hqn, get_modN hqn]; exact hg4, hql4, by rw [show a + L / 4 * 2 - 1 + (t + 1) = ix + 1 from by have := hix.out; omega]; exact hr2, zL⟩
end
end Go.Proofs.YtekoajibckipkaaGreat
namespace Go.Proofs.YtekoajibckipkaaGreat
open Go Go.Eng
theorem bd_part : hasBody Tryz.prog 156 = true := by kernel_rfl
theorem bd_peq : hasBody Tryz.prog 155 = true := by kernel_rfl
section
variable {α : Type} [Inhabited α]
theorem scanUp_go {p : α → Bool} {d : Array α} {i j : Nat} (h : i ≤ j) (hp : p d[i]! = true) : Go.Sort.scanUp p d j i = Go.Sort.scanUp p d j (i + 1) := by
  rw [Go.Sort.scanUp, if_pos (by rw [decide_eq_true h, hp]; rfl)]
theorem scanUp_stop {p : α → Bool} {d : Array α} {i j : Nat} (h : ¬ i ≤ j ∨ p d[i]! = false) : Go.Sort.scanUp p d j i = i := by
  rw [Go.Sort.scanUp, if_neg]
  rcases h with h | h
  · rw [decide_eq_false h, Bool.false_and]; exact Bool.false_ne_true
  · rw [h, Bool.and_false]; decide
theorem scanDown_go {p : α → Bool} {d : Array α} {i j : Nat} (h : i ≤ j) (h0 : j ≠ 0) (hp : p d[j]! = true) : Go.Sort.scanDown p d i j = Go.Sort.scanDown p d i (j - 1) := by
  obtain ⟨k, rfl⟩ : ∃ k, j = k + 1 := ⟨j - 1, by omega⟩
  rw [Go.Sort.scanDown, if_pos (by rw [decide_eq_true h, hp]; rfl)]; rfl
theorem scanDown_stop {p : α → Bool} {d : Array α} {i j : Nat} (h : ¬ i ≤ j ∨ p d[j]! = false) : Go.Sort.scanDown p d i j = j := by
  cases j with
  | zero => rfl
  | succ k =>
    rw [Go.Sort.scanDown, if_neg]
    rcases h with h | h
    · rw [decide_eq_false h, Bool.false_and]; exact Bool.false_ne_true
    · rw [h, Bool.and_false]; decide
theorem scanUp_le {p : α → Bool} {d : Array α} {j : Nat} : ∀ {i : Nat}, i ≤ j + 1 → Go.Sort.scanUp p d j i ≤ j + 1 := by
  intro i h
  obtain ⟨m, hm⟩ : ∃ m, m = j + 1 - i := ⟨_, rfl⟩
  induction m generalizing i with
  | zero => rw [scanUp_stop (.inl (by omega))]; exact h
  | succ m ih =>
    by_cases hp : p d[i]! = true
    · rw [scanUp_go (by omega) hp]; exact ih (by omega) (by omega)
    · rw [scanUp_stop (.inr (by simpa using hp))]; exact h
theorem scanUp_le2 {p : α → Bool} {d : Array α} {i j : Nat} (h : i ≤ j + 2) : Go.Sort.scanUp p d j i ≤ j + 2 := by
  by_cases h1 : i ≤ j + 1
  · exact Nat.le_succ_of_le (scanUp_le h1)
  · rw [scanUp_stop (.inl (by omega))]; exact h
theorem scanDown_ge {p : α → Bool} {d : Array α} {i : Nat} : ∀ {j : Nat}, i ≤ j + 1 → i ≤ Go.Sort.scanDown p d i j + 1
  | 0, h => h
  | j + 1, h => by
    by_cases hp : i ≤ j + 1 ∧ p d[j + 1]! = true
    · rw [scanDown_go hp.1 (by omega) hp.2]; exact scanDown_ge (by omega)
    · rw [scanDown_stop (by
        by_cases hq : i ≤ j + 1
        · exact .inr (by have := fun h => hp ⟨hq, h⟩; simpa using this)
        · exact .inl hq)]
      exact h
theorem scanDown_ge2 {p : α → Bool} {d : Array α} {i j : Nat} (h : i ≤ j + 2) : i ≤ Go.Sort.scanDown p d i j + 2 := by
  by_cases h1 : i ≤ j + 1
  · exact Nat.le_succ_of_le (scanDown_ge h1)
  · rw [scanDown_stop (.inl (by omega))]; exact h
variable {c : α → List AC} {cf : α → α → Int} {cl N : Nat}
set_option maxRecDepth 10000 in
set_option maxHeartbeats 32000000 in
theorem part_con (hm : Cmp c cf cl N) (H : Hp) (id gen n : Nat) (d : Array α) (a b pv : Nat) (hs : Srt c H id gen n d) (hN : N ≤ H.nx) (hab : a < b) (hb : b ≤ n) (hp : pv < n) (hn : n ≤ 4096) :
    Con E2 156 [.one (.o (.sl id gen 0 n 3)), .one (.i .i64 a), .one (.i .i64 b), .one (.i .i64 pv), .one (.o (.clo cl []))] H (fun k => k = id) fun r H' => r = .tup [(false, [.i .i64 ((Go.Sort.partition (ltF cf) d a b pv).1 : Int)]), (false, [.b (Go.Sort.partition (ltF cf) d a b pv).2.1])] ∧ Srt c H' id gen n (Go.Sort.partition (ltF cf) d a b pv).2.2 := by
  have hbd := hm.bd
  refine Con.of rfl fun lg => ?_
  have hs : Srt c ⟨H.t, H.nx, lg⟩ id gen n d := hs
  have hN : N ≤ (⟨H.t, H.nx, lg⟩ : Hp).nx := hN
  generalize (⟨H.t, H.nx, lg⟩ : Hp) = H at hs hN ⊢
  refine C1.body (E := E2) (nt := 178) (res := [.tmp 10, .tmp 11]) Tryz.func156 rfl rfl rfl rfl rfl fun tm hargs => ?_
  have h0 := hargs 0 _ rfl
  have h1 := hargs 1 _ rfl
  have h2 := hargs 2 _ rfl
  have h3 := hargs 3 _ rfl
  have h4 := hargs 4 _ rfl
  clear hargs
  generalize hr0 : Go.Sort.partition (ltF cf) d a b pv = R
  unfold Go.Sort.partition at hr0
  dsimp only at hr0
  have fin : ∀ (A : AAct) (H3 : Hp) (x : Nat) (y : Bool) (dc : Array α), slot A.tm 10 = .one (.i .i64 (x : Int)) → slot A.tm 11 = .one (.b y) → A.dfr = [] → Fr (fun k => k = id) H H3 → Srt c H3 id gen n dc → (x, y, dc) = R → ∃ w H4, callEnd E2 [.tmp 10, .tmp 11] (.ret, A, H3) = .ok [(w, H4)] ∧ Fr (fun k => k = id) H H4 ∧ ∀ lg' : List Nat, w = .tup [(false, [.i .i64 (R.1 : Int)]), (false, [.b R.2.1])] ∧ Srt c ⟨H4.t, H4.nx, lg'⟩ id gen n R.2.2 := fun A H3 x y dc h1 h2 hd h3 h4 h5 => ⟨_, H3, callEnd_two (.i .i64 x) (.b y) (.inr rfl) hd h1 h2, h3, fun _ => by rw [← h5]; exact ⟨rfl, h4⟩⟩
  have hid := hs.lt
  have hdz := hs.sz
  obtain ⟨lo, hlo, hg⟩ := hs.row
  have lv := hm.ltH hN
  have hcl := hm.len
  have b2 : a < n := by omega
  have d1 : a < d.size := by omega
  have d2 : pv < d.size := by omega
  have hw1 : IntKind.i64.wrap ((a : Int) + 1) = ((a + 1 : Nat) : Int) := by rw [wrapI (by omega) (by omega)]; omega
  have hw2 : IntKind.i64.wrap ((b : Int) - 1) = ((b - 1 : Nat) : Int) := by rw [wrapI (by omega) (by omega)]; omega
  replace hr0 : Hd _ := hr0
  replace hdz : Hd _ := hdz
  replace d1 : Hd _ := d1
  replace d2 : Hd _ := d2
  refine zW (qA tyS (qA (ixC b2) (qA (ixC hp) (swQ hm.len d1.out d2.out)))) ?_
  refine R1.gen (fun A1 H1 => Fr (fun k => k = id) H H1 ∧ Srt c H1 id gen n (Go.Sort.swp d a pv) ∧ slot A1.tm 0 = .one ((.o (.sl id gen 0 n 3))) ∧ slot A1.tm 1 = .one (.i .i64 (a : Int)) ∧ slot A1.tm 4 = .one ((.o (.clo cl []))) ∧ slot A1.tm 12 = .one (.i .i64 ((a + 1 : Nat) : Int)) ∧ slot A1.tm 13 = .one (.i .i64 ((b - 1 : Nat) : Int)) ∧ A1.nt = 178 ∧ A1.dfr = [])
    ⟨((Fr.refl (X := fun k => k = id) H).mod _ (.inr rfl)).mod _ (.inr rfl), ⟨by rw [swp_size]; exact hdz.out, ⟨gen, Nat.le_refl _, get_modE rfl⟩, hid⟩, zL⟩ ?_
  clear h0 h1 h2 h3 h4 tm hs hid hw1 hw2 hg hlo lo lv hcl hdz d1 d2
  generalize hd1 : Go.Sort.swp d a pv = dd at hr0
  replace hd1 : Hd _ := hd1
  rintro A1 H1 ⟨f1, hs, t0, t1, t4, t12, t13, hnt, hdf⟩
  obtain ⟨i0, hi0⟩ : ∃ i, i = a + 1 := ⟨_, rfl⟩
  obtain ⟨j0, hj0⟩ : ∃ j, j = b - 1 := ⟨_, rfl⟩
  rw [← hi0] at t12 hr0
  rw [← hj0] at t13 hr0
  have hi1 : a + 1 ≤ i0 := by omega
  have hj1 : j0 < n := by omega
  have hij0 : i0 ≤ j0 + 1 := by omega
  clear hi0 hj0
  obtain ⟨I, hI⟩ : ∃ I, Hd (Go.Sort.scanUp (fun x => ltF cf x dd[a]!) dd j0 i0 = I) := ⟨_, rfl⟩
  obtain ⟨J, hJ⟩ : ∃ J, Hd (Go.Sort.scanDown (fun x => !ltF cf x dd[a]!) dd I j0 = J) := ⟨_, rfl⟩
  have hr1 := hr0.out
  rw [hI.out, hJ.out] at hr1
  clear hr0
  replace hr1 : Hd _ := hr1
  have hI1 : i0 ≤ I := by rw [← hI.out]; exact Go.Sort.scanUp_ge _ _ _ _
  have hI2 : I ≤ j0 + 1 := by rw [← hI.out]; exact scanUp_le hij0
  have hJ1 : J ≤ j0 := by rw [← hJ.out]; exact Go.Sort.scanDown_le _ _ _ _
  have hJ2 : I ≤ J + 1 := by rw [← hJ.out]; exact scanDown_ge hI2
  refine R1.s_mid (fun B H4 => Fr (fun k => k = id) H H4 ∧ Srt c H4 id gen n dd ∧ slot B.tm 0 = .one ((.o (.sl id gen 0 n 3))) ∧ slot B.tm 1 = .one (.i .i64 (a : Int)) ∧ slot B.tm 4 = .one ((.o (.clo cl []))) ∧ slot B.tm 12 = .one (.i .i64 (I : Int)) ∧ slot B.tm 13 = .one (.i .i64 (j0 : Int)) ∧ B.nt = 178 ∧ B.dfr = []) (fun K5 m1 m2 m3 => ?_) ?_
  · refine R1.e_bl fun K5b u1 u2 u3 u4 => ?_
    refine R1.loop (fun z A H4 => ∃ ii : Nat, z = j0 + 1 - ii ∧ i0 ≤ ii ∧ ii ≤ n + 2 ∧ Fr (fun k => k = id) H H4 ∧ Srt c H4 id gen n dd ∧ Hd (Go.Sort.scanUp (fun x => ltF cf x dd[a]!) dd j0 ii = I) ∧ slot A.tm 0 = .one ((.o (.sl id gen 0 n 3))) ∧ slot A.tm 1 = .one (.i .i64 (a : Int)) ∧ slot A.tm 4 = .one ((.o (.clo cl []))) ∧ slot A.tm 12 = .one (.i .i64 (ii : Int)) ∧ slot A.tm 13 = .one (.i .i64 (j0 : Int)) ∧ A.nt = 178 ∧ A.dfr = []) ?_ (j0 + 1 - i0)
      ⟨i0, rfl, Nat.le_refl _, by omega, f1, hs, hI, zL⟩
    clear t0 t1 t4 t12 t13 hnt hdf hs f1 A1 hI u3
    rintro z A H4 ⟨ii, rfl, hi1, hi2, f4, hs, hr, t0, t1, t4, t12, t13, hnt, hdf⟩
    have hid := hs.lt
    by_cases hij : ii ≤ j0
    · have hiji : (ii : Int) ≤ (j0 : Int) := by omega
      have hdz := hs.sz
      obtain ⟨lo, hlo, hg⟩ := hs.row
      have lv := hm.ltH (Nat.le_trans hN f4.nx)
      have hcl := hm.len
      have b1 : ii < n := by omega
      have b2 : a < n := by omega
      have d1 : ii < Array.size dd := by omega
      have d2 : a < Array.size dd := by omega
      replace hdz : Hd _ := hdz
      replace d1 : Hd _ := d1
      replace d2 : Hd _ := d2
      refine zG (qA tyS (qA (ixC b1) (qA (ixC b2) (rdQ hm.len d1.out d2.out)))) fun K hK => ?_
      refine WE.con (hm.con H4 dd[ii]! dd[a]! (Nat.le_trans hN f4.nx)) fun w' H5 g5 hq => ?_
      subst hq
      have hs5 := hs.fr g5 not_false
      have hg := (g5.get _ hid not_false).trans hg
      have hid := Nat.lt_of_lt_of_le hid g5.nx
      have f5 := f4.then g5 fun _ h => h.elim
      by_cases hcf : cf dd[ii]! dd[a]! < 0
      · have hrr := hr.out
        rw [scanUp_go hij (by show ltF cf _ _ = true; exact decide_eq_true hcf)] at hrr
        clear hr
        replace hrr : Hd _ := hrr
        have hwi : IntKind.i64.wrap ((ii : Int) + 1) = ((ii + 1 : Nat) : Int) := by rw [wrapI (by omega) (by omega)]; omega
        refine zK tyS ?_
        refine R1.e_bl fun K4 v1 v2 v3 v4 => ?_
        refine zW tyS ?_
        refine v1.out _ _ ?_
        exact ⟨j0 + 1 - (ii + 1), by omega, ii + 1, rfl, by omega, by omega, f5, hs5, hrr, zL⟩
      · have hrr := hr.out
        rw [scanUp_stop (.inr (by show ltF cf _ _ = false; exact decide_eq_false hcf))] at hrr
        clear hr
        subst hrr
        refine zK tyS ?_
        refine u2.out _ _ (m1.out _ _ ?_)
        exact ⟨f5, hs5, zL⟩
    · have hiji : ¬ (ii : Int) ≤ (j0 : Int) := by omega
      have hrr := hr.out
      rw [scanUp_stop (.inl hij)] at hrr
      clear hr
      subst hrr
      refine zW tyS ?_
      refine u2.out _ _ (m1.out _ _ ?_)
      exact ⟨f4, hs, zL⟩
  clear t0 t1 t4 t12 t13 hnt hdf hs f1 A1 H1 hI
  rintro A H1 ⟨f1, hs, t0, t1, t4, t12, t13, hnt, hdf⟩
  refine R1.s_mid (fun B H4 => Fr (fun k => k = id) H H4 ∧ Srt c H4 id gen n dd ∧ slot B.tm 0 = .one ((.o (.sl id gen 0 n 3))) ∧ slot B.tm 1 = .one (.i .i64 (a : Int)) ∧ slot B.tm 4 = .one ((.o (.clo cl []))) ∧ slot B.tm 12 = .one (.i .i64 (I : Int)) ∧ slot B.tm 13 = .one (.i .i64 (J : Int)) ∧ B.nt = 178 ∧ B.dfr = []) (fun K6 m1 m2 m3 => ?_) ?_
  · refine R1.e_bl fun K6b u1 u2 u3 u4 => ?_
    refine R1.loop (fun z A H4 => ∃ jj : Nat, z = jj ∧ jj ≤ j0 ∧ Fr (fun k => k = id) H H4 ∧ Srt c H4 id gen n dd ∧ Hd (Go.Sort.scanDown (fun x => !ltF cf x dd[a]!) dd I jj = J) ∧ slot A.tm 0 = .one ((.o (.sl id gen 0 n 3))) ∧ slot A.tm 1 = .one (.i .i64 (a : Int)) ∧ slot A.tm 4 = .one ((.o (.clo cl []))) ∧ slot A.tm 12 = .one (.i .i64 (I : Int)) ∧ slot A.tm 13 = .one (.i .i64 (jj : Int)) ∧ A.nt = 178 ∧ A.dfr = []) ?_ j0
      ⟨j0, rfl, Nat.le_refl _, f1, hs, hJ, zL⟩
    clear t0 t1 t4 t12 t13 hnt hdf hs f1 A hJ u3
    rintro jj A H4 ⟨_, rfl, hj1, f4, hs, hr, t0, t1, t4, t12, t13, hnt, hdf⟩
    have hid := hs.lt
    by_cases hij : I ≤ jj
    · have hiji : (I : Int) ≤ (jj : Int) := by omega
      have hdz := hs.sz
      obtain ⟨lo, hlo, hg⟩ := hs.row
      have lv := hm.ltH (Nat.le_trans hN f4.nx)
      have hcl := hm.len
      have b1 : jj < n := by omega
      have b2 : a < n := by omega
      have d1 : jj < Array.size dd := by omega
      have d2 : a < Array.size dd := by omega
      replace hdz : Hd _ := hdz
      replace d1 : Hd _ := d1
      replace d2 : Hd _ := d2
      refine zG (qA tyS (qA (ixC b1) (qA (ixC b2) (rdQ hm.len d1.out d2.out)))) fun K hK => ?_
      refine WE.con (hm.con H4 dd[jj]! dd[a]! (Nat.le_trans hN f4.nx)) fun w' H5 g5 hq => ?_
      subst hq
      have hs5 := hs.fr g5 not_false
      have hg := (g5.get _ hid not_false).trans hg
      have hid := Nat.lt_of_lt_of_le hid g5.nx
      have f5 := f4.then g5 fun _ h => h.elim
      have hjn : jj ≠ 0 := by omega
      by_cases hcf : cf dd[jj]! dd[a]! < 0
      · have hrr := hr.out
        rw [scanDown_stop (.inr (by show (!ltF cf _ _) = false; unfold ltF; rw [decide_eq_true hcf]; rfl))] at hrr
        clear hr
        subst hrr
        refine zK tyS ?_
        refine u2.out _ _ (m1.out _ _ ?_)
        exact ⟨f5, hs5, zL⟩
      · have hrr := hr.out
        rw [scanDown_go hij hjn (by show (!ltF cf _ _) = true; unfold ltF; rw [decide_eq_false hcf]; rfl)] at hrr
        clear hr
        replace hrr : Hd _ := hrr
        have hwj : IntKind.i64.wrap ((jj : Int) - 1) = ((jj - 1 : Nat) : Int) := by rw [wrapI (by omega) (by omega)]; omega
        refine zK tyS ?_
        refine R1.e_bl fun K4 v1 v2 v3 v4 => ?_
        refine zW tyS ?_
        refine v1.out _ _ ?_
        exact ⟨jj - 1, by omega, jj - 1, rfl, by omega, f5, hs5, hrr, zL⟩
    · have hiji : ¬ (I : Int) ≤ (jj : Int) := by omega
      have hrr := hr.out
      rw [scanDown_stop (.inl hij)] at hrr
      clear hr
      subst hrr
      refine zW tyS ?_
      refine u2.out _ _ (m1.out _ _ ?_)
      exact ⟨f4, hs, zL⟩
  clear t0 t1 t4 t12 t13 hnt hdf hs f1 A H1 hJ
  rintro A H1 ⟨f1, hs, t0, t1, t4, t12, t13, hnt, hdf⟩
  have hid := hs.lt
  have hdz := hs.sz
  obtain ⟨lo, hlo, hg⟩ := hs.row
  have lv := hm.ltH (Nat.le_trans hN f1.nx)
  have hcl := hm.len
  have hr2 := hr1.out
  clear hr1
  by_cases hIJ : J < I
  · rw [if_pos hIJ] at hr2
    have hIJi : (J : Int) < (I : Int) := by omega
    have b1 : J < n := by omega
    have d1 : J < dd.size := by omega
    have d2 : a < dd.size := by omega
    replace hr2 : Hd _ := hr2
    replace hdz : Hd _ := hdz
    replace d1 : Hd _ := d1
    replace d2 : Hd _ := d2
    refine zW (qA tyS (qA (ixC b1) (qA (ixC b2) (swQ hm.len d1.out d2.out)))) ?_
    exact fin _ _ J true (Go.Sort.swp dd J a) qp qp qe ((f1.mod _ (.inr rfl)).mod _ (.inr rfl)) ⟨by rw [swp_size]; exact hdz.out, ⟨gen, Nat.le_refl _, get_modE rfl⟩, hid⟩ hr2.out
  rw [if_neg hIJ] at hr2
  have hIJi : ¬ (J : Int) < (I : Int) := by omega
  have b1 : I < n := by omega
  have b3 : J < n := by omega
  have d1 : I < dd.size := by omega
  have d2 : J < dd.size := by omega
  have hwI : IntKind.i64.wrap ((I : Int) + 1) = ((I + 1 : Nat) : Int) := by rw [wrapI (by omega) (by omega)]; omega
  have hwJ : IntKind.i64.wrap ((J : Int) - 1) = ((J - 1 : Nat) : Int) := by rw [wrapI (by omega) (by omega)]; omega
  replace hr2 : Hd _ := hr2
  replace hdz : Hd _ := hdz
  replace d1 : Hd _ := d1
  replace d2 : Hd _ := d2
  refine zW (qA tyS (qA (ixC b1) (qA (ixC b3) (swQ hm.len d1.out d2.out)))) ?_
  refine R1.s_mid (fun B H4 => Fr (fun k => k = id) H H4 ∧ Srt c H4 id gen n (Go.Sort.partLoop (ltF cf) a (I + 1) (J - 1) (Go.Sort.swp dd I J)).2 ∧ (Go.Sort.partLoop (ltF cf) a (I + 1) (J - 1) (Go.Sort.swp dd I J)).1 < n ∧ slot B.tm 0 = .one ((.o (.sl id gen 0 n 3))) ∧ slot B.tm 1 = .one (.i .i64 (a : Int)) ∧ slot B.tm 13 = .one (.i .i64 ((Go.Sort.partLoop (ltF cf) a (I + 1) (J - 1) (Go.Sort.swp dd I J)).1 : Int)) ∧ B.nt = 178 ∧ B.dfr = []) (fun K7 m1 m2 m3 => ?_) ?_
  · generalize hr3 : Go.Sort.partLoop (ltF cf) a (I + 1) (J - 1) (Go.Sort.swp dd I J) = Z at m1
    replace hr3 : Hd _ := hr3
    refine R1.e_bl fun K8 k1 k2 k3 k4 => ?_
    refine R1.loop (fun z A H4 => ∃ (i j : Nat) (dc : Array α), z = j + 1 - i ∧ a + 1 ≤ i ∧ j < n ∧ i ≤ j + 2 ∧ Fr (fun k => k = id) H H4 ∧ Srt c H4 id gen n dc ∧ Hd (Go.Sort.partLoop (ltF cf) a i j dc = Z) ∧ slot A.tm 0 = .one ((.o (.sl id gen 0 n 3))) ∧ slot A.tm 1 = .one (.i .i64 (a : Int)) ∧ slot A.tm 4 = .one ((.o (.clo cl []))) ∧ slot A.tm 12 = .one (.i .i64 (i : Int)) ∧ slot A.tm 13 = .one (.i .i64 (j : Int)) ∧ A.nt = 178 ∧ A.dfr = []) ?_ (J - 1 + 1 - (I + 1))
      ⟨I + 1, J - 1, Go.Sort.swp dd I J, rfl, by omega, by omega, by omega, (f1.mod _ (.inr rfl)).mod _ (.inr rfl), ⟨by rw [swp_size]; exact hdz.out, ⟨gen, Nat.le_refl _, get_modE rfl⟩, hid⟩, hr3, zL⟩
    clear t0 t1 t4 t12 t13 hnt hdf hs f1 A hr3 k3 hg hid lv hlo d1 d2 hdz hIJi hwI hwJ hr2 b1 b3 hIJ hI1 hI2 hJ1 hJ2 hij0 hi1 hj1
    rintro z A1 H1 ⟨i0, j0, dd, rfl, hi1, hj1, hij0, f1, hs, hr, t0, t1, t4, t12, t13, hnt, hdf⟩
    obtain ⟨I, hI⟩ : ∃ I, Hd (Go.Sort.scanUp (fun x => ltF cf x dd[a]!) dd j0 i0 = I) := ⟨_, rfl⟩
    obtain ⟨J, hJ⟩ : ∃ J, Hd (Go.Sort.scanDown (fun x => !ltF cf x dd[a]!) dd I j0 = J) := ⟨_, rfl⟩
    have hr1 := hr.out
    rw [Go.Sort.partLoop] at hr1
    have hgd := @Go.Sort.partLoop_guard α _ (ltF cf) a i0 j0 dd
    rw [hI.out, hJ.out] at hgd
    rw [hI.out, hJ.out] at hr1
    clear hr
    replace hr1 : Hd _ := hr1
    have hI1 : i0 ≤ I := by rw [← hI.out]; exact Go.Sort.scanUp_ge _ _ _ _
    have hI2 : I ≤ j0 + 2 := by rw [← hI.out]; exact scanUp_le2 hij0
    have hJ1 : J ≤ j0 := by rw [← hJ.out]; exact Go.Sort.scanDown_le _ _ _ _
    have hJ2 : I ≤ J + 2 := by rw [← hJ.out]; exact scanDown_ge2 hI2
    replace hgd : Hd _ := hgd
    refine R1.e_bl fun K9 q1 q2 q3 q4 => ?_
    refine R1.s_mid (fun B H4 => Fr (fun k => k = id) H H4 ∧ Srt c H4 id gen n dd ∧ slot B.tm 0 = .one ((.o (.sl id gen 0 n 3))) ∧ slot B.tm 1 = .one (.i .i64 (a : Int)) ∧ slot B.tm 4 = .one ((.o (.clo cl []))) ∧ slot B.tm 12 = .one (.i .i64 (I : Int)) ∧ slot B.tm 13 = .one (.i .i64 (j0 : Int)) ∧ B.nt = 178 ∧ B.dfr = []) (fun Ka m1 m2 m3 => ?_) ?_
    · refine R1.e_bl fun Kab u1 u2 u3 u4 => ?_
      refine R1.loop (fun z A H4 => ∃ ii : Nat, z = j0 + 1 - ii ∧ i0 ≤ ii ∧ ii ≤ n + 2 ∧ Fr (fun k => k = id) H H4 ∧ Srt c H4 id gen n dd ∧ Hd (Go.Sort.scanUp (fun x => ltF cf x dd[a]!) dd j0 ii = I) ∧ slot A.tm 0 = .one ((.o (.sl id gen 0 n 3))) ∧ slot A.tm 1 = .one (.i .i64 (a : Int)) ∧ slot A.tm 4 = .one ((.o (.clo cl []))) ∧ slot A.tm 12 = .one (.i .i64 (ii : Int)) ∧ slot A.tm 13 = .one (.i .i64 (j0 : Int)) ∧ A.nt = 178 ∧ A.dfr = []) ?_ (j0 + 1 - i0)
        ⟨i0, rfl, Nat.le_refl _, by omega, f1, hs, hI, zL⟩
      clear t0 t1 t4 t12 t13 hnt hdf hs f1 A1 hI u3
      rintro z A H4 ⟨ii, rfl, hi1, hi2, f4, hs, hr, t0, t1, t4, t12, t13, hnt, hdf⟩
      have hid := hs.lt
      by_cases hij : ii ≤ j0
      · have hiji : (ii : Int) ≤ (j0 : Int) := by omega
        have hdz := hs.sz
        obtain ⟨lo, hlo, hg⟩ := hs.row
        have lv := hm.ltH (Nat.le_trans hN f4.nx)
        have hcl := hm.len
        have b1 : ii < n := by omega
        have b2 : a < n := by omega
        have d1 : ii < Array.size dd := by omega
        have d2 : a < Array.size dd := by omega
        replace hdz : Hd _ := hdz
        replace d1 : Hd _ := d1
        replace d2 : Hd _ := d2
        refine zG (qA tyS (qA (ixC b1) (qA (ixC b2) (rdQ hm.len d1.out d2.out)))) fun K hK => ?_
        refine WE.con (hm.con H4 dd[ii]! dd[a]! (Nat.le_trans hN f4.nx)) fun w' H5 g5 hq => ?_
        subst hq
        have hs5 := hs.fr g5 not_false
        have hg := (g5.get _ hid not_false).trans hg
        have hid := Nat.lt_of_lt_of_le hid g5.nx
        have f5 := f4.then g5 fun _ h => h.elim
        by_cases hcf : cf dd[ii]! dd[a]! < 0
        · have hrr := hr.out
          rw [scanUp_go hij (by show ltF cf _ _ = true; exact decide_eq_true hcf)] at hrr
          clear hr
          replace hrr : Hd _ := hrr
          have hwi : IntKind.i64.wrap ((ii : Int) + 1) = ((ii + 1 : Nat) : Int) := by rw [wrapI (by omega) (by omega)]; omega
          refine zK tyS ?_
          refine R1.e_bl fun K4 v1 v2 v3 v4 => ?_
          refine zW tyS ?_
          refine v1.out _ _ ?_
          exact ⟨j0 + 1 - (ii + 1), by omega, ii + 1, rfl, by omega, by omega, f5, hs5, hrr, zL⟩
        · have hrr := hr.out
          rw [scanUp_stop (.inr (by show ltF cf _ _ = false; exact decide_eq_false hcf))] at hrr
          clear hr
          subst hrr
          refine zK tyS ?_
          refine u2.out _ _ (m1.out _ _ ?_)
          exact ⟨f5, hs5, zL⟩
      · have hiji : ¬ (ii : Int) ≤ (j0 : Int) := by omega
        have hrr := hr.out
        rw [scanUp_stop (.inl hij)] at hrr
        clear hr
        subst hrr
        refine zW tyS ?_
        refine u2.out _ _ (m1.out _ _ ?_)
        exact ⟨f4, hs, zL⟩
    clear t0 t1 t4 t12 t13 hnt hdf hs f1 A1 H1 hI
    rintro A H1 ⟨f1, hs, t0, t1, t4, t12, t13, hnt, hdf⟩
    refine R1.s_mid (fun B H4 => Fr (fun k => k = id) H H4 ∧ Srt c H4 id gen n dd ∧ slot B.tm 0 = .one ((.o (.sl id gen 0 n 3))) ∧ slot B.tm 1 = .one (.i .i64 (a : Int)) ∧ slot B.tm 4 = .one ((.o (.clo cl []))) ∧ slot B.tm 12 = .one (.i .i64 (I : Int)) ∧ slot B.tm 13 = .one (.i .i64 (J : Int)) ∧ B.nt = 178 ∧ B.dfr = []) (fun Kb m1 m2 m3 => ?_) ?_
    · refine R1.e_bl fun Kbb u1 u2 u3 u4 => ?_
      refine R1.loop (fun z A H4 => ∃ jj : Nat, z = jj ∧ jj ≤ j0 ∧ Fr (fun k => k = id) H H4 ∧ Srt c H4 id gen n dd ∧ Hd (Go.Sort.scanDown (fun x => !ltF cf x dd[a]!) dd I jj = J) ∧ slot A.tm 0 = .one ((.o (.sl id gen 0 n 3))) ∧ slot A.tm 1 = .one (.i .i64 (a : Int)) ∧ slot A.tm 4 = .one ((.o (.clo cl []))) ∧ slot A.tm 12 = .one (.i .i64 (I : Int)) ∧ slot A.tm 13 = .one (.i .i64 (jj : Int)) ∧ A.nt = 178 ∧ A.dfr = []) ?_ j0
        ⟨j0, rfl, Nat.le_refl _, f1, hs, hJ, zL⟩
      clear t0 t1 t4 t12 t13 hnt hdf hs f1 A hJ u3
      rintro jj A H4 ⟨_, rfl, hj1, f4, hs, hr, t0, t1, t4, t12, t13, hnt, hdf⟩
      have hid := hs.lt
      by_cases hij : I ≤ jj
      · have hiji : (I : Int) ≤ (jj : Int) := by omega
        have hdz := hs.sz
        obtain ⟨lo, hlo, hg⟩ := hs.row
        have lv := hm.ltH (Nat.le_trans hN f4.nx)
        have hcl := hm.len
        have b1 : jj < n := by omega
        have b2 : a < n := by omega
        have d1 : jj < Array.size dd := by omega
        have d2 : a < Array.size dd := by omega
        replace hdz : Hd _ := hdz
        replace d1 : Hd _ := d1
        replace d2 : Hd _ := d2
        refine zG (qA tyS (qA (ixC b1) (qA (ixC b2) (rdQ hm.len d1.out d2.out)))) fun K hK => ?_
        refine WE.con (hm.con H4 dd[jj]! dd[a]! (Nat.le_trans hN f4.nx)) fun w' H5 g5 hq => ?_
        subst hq
        have hs5 := hs.fr g5 not_false
        have hg := (g5.get _ hid not_false).trans hg
        have hid := Nat.lt_of_lt_of_le hid g5.nx
        have f5 := f4.then g5 fun _ h => h.elim
        have hjn : jj ≠ 0 := by omega
        by_cases hcf : cf dd[jj]! dd[a]! < 0
        · have hrr := hr.out
          rw [scanDown_stop (.inr (by show (!ltF cf _ _) = false; unfold ltF; rw [decide_eq_true hcf]; rfl))] at hrr
          clear hr
          subst hrr
          refine zK tyS ?_
          refine u2.out _ _ (m1.out _ _ ?_)
          exact ⟨f5, hs5, zL⟩
        · have hrr := hr.out
          rw [scanDown_go hij hjn (by show (!ltF cf _ _) = true; unfold ltF; rw [decide_eq_false hcf]; rfl)] at hrr
          clear hr
          replace hrr : Hd _ := hrr
          have hwj : IntKind.i64.wrap ((jj : Int) - 1) = ((jj - 1 : Nat) : Int) := by rw [wrapI (by omega) (by omega)]; omega
          refine zK tyS ?_
          refine R1.e_bl fun K4 v1 v2 v3 v4 => ?_
          refine zW tyS ?_
          refine v1.out _ _ ?_
          exact ⟨jj - 1, by omega, jj - 1, rfl, by omega, f5, hs5, hrr, zL⟩
      · have hiji : ¬ (I : Int) ≤ (jj : Int) := by omega
        have hrr := hr.out
        rw [scanDown_stop (.inl hij)] at hrr
        clear hr
        subst hrr
        refine zW tyS ?_
        refine u2.out _ _ (m1.out _ _ ?_)
        exact ⟨f4, hs, zL⟩
    clear t0 t1 t4 t12 t13 hnt hdf hs f1 A H1 hJ
    rintro A H1 ⟨f1, hs, t0, t1, t4, t12, t13, hnt, hdf⟩
    have hid := hs.lt
    have hdz := hs.sz
    obtain ⟨lo, hlo, hg⟩ := hs.row
    have lv := hm.ltH (Nat.le_trans hN f1.nx)
    have hr2 := hr1.out
    clear hr1
    by_cases hIJ : J < I
    · rw [if_pos hIJ] at hr2
      have hIJi : (J : Int) < (I : Int) := by omega
      replace hr2 : Hd _ := hr2
      replace hs : Hd _ := hs
      refine zW tyS ?_
      refine q3.out _ _ _ (by decide) (k2.out _ _ (m1.out _ _ ?_))
      rw [← hr2.out]
      exact ⟨f1, hs.out, Nat.lt_of_le_of_lt hJ1 hj1, zL⟩
    · rw [if_neg hIJ, dif_pos (hgd.out hIJ)] at hr2
      have hIJi : ¬ (J : Int) < (I : Int) := by omega
      have b1 : I < n := by omega
      have b3 : J < n := by omega
      have d1 : I < dd.size := by omega
      have d2 : J < dd.size := by omega
      have hwI : IntKind.i64.wrap ((I : Int) + 1) = ((I + 1 : Nat) : Int) := by rw [wrapI (by omega) (by omega)]; omega
      have hwJ : IntKind.i64.wrap ((J : Int) - 1) = ((J - 1 : Nat) : Int) := by rw [wrapI (by omega) (by omega)]; omega
      replace hr2 : Hd _ := hr2
      replace hdz : Hd _ := hdz
      replace d1 : Hd _ := d1
      replace d2 : Hd _ := d2
      refine zW (qA tyS (qA (ixC b1) (qA (ixC b3) (swQ hm.len d1.out d2.out)))) ?_
      refine q1.out _ _ ?_
      exact ⟨J - 1 + 1 - (I + 1), by omega, I + 1, J - 1, Go.Sort.swp dd I J, rfl, by omega, by omega, by omega, (f1.mod _ (.inr rfl)).mod _ (.inr rfl), ⟨by rw [swp_size]; exact hdz.out, ⟨gen, Nat.le_refl _, get_modE rfl⟩, hid⟩, hr2, zL⟩
  generalize hr3 : Go.Sort.partLoop (ltF cf) a (I + 1) (J - 1) (Go.Sort.swp dd I J) = Z at hr2
  clear t0 t1 t4 t12 t13 hnt hdf hs f1 A hg hid lv hlo d1 d2 hdz hIJi hwI hwJ b1 b3 hr3
  rintro A H1 ⟨f1, hs, hZ, t0, t1, t13, hnt, hdf⟩
  have hid := hs.lt
  have hdz := hs.sz
  obtain ⟨lo, hlo, hg⟩ := hs.row
  have lv := hm.ltH (Nat.le_trans hN f1.nx)
  have d1 : Z.1 < Z.2.size := by omega
  have d2 : a < Z.2.size := by omega
  replace hdz : Hd _ := hdz
  replace d1 : Hd _ := d1
  replace d2 : Hd _ := d2
  refine zW (qA tyS (qA (ixC hZ) (qA (ixC b2) (swQ hm.len d1.out d2.out)))) ?_
  exact fin _ _ Z.1 false (Go.Sort.swp Z.2 Z.1 a) qp qp qe ((f1.mod _ (.inr rfl)).mod _ (.inr rfl)) ⟨by rw [swp_size]; exact hdz.out, ⟨gen, Nat.le_refl _, get_modE rfl⟩, hid⟩ hr2.out
end
end Go.Proofs.YtekoajibckipkaaGreat
