/- A part of the proof: EngDraw1, EngDraw2, EngDraw3, EngDraw4, EngChunk. No conditions. -/
import Derived.Test.YtekoajibckipkaaGreatQAc
namespace Go.Eng
open Go
theorem mem_wrOf {sub : PT AObj} {n : Nat} {i : Nat} : ∀ {l : List Nat}, i ∈ wrOf sub n l ↔ i ∈ l ∧ i < n ∧ ∃ o, sub.get i = some o
  | [] => ⟨fun h => (by cases h), fun h => (by cases h.1)⟩
  | x :: l => by
    show i ∈ ifE (Nat.blt x n) (optE (sub.get x) (wrOf sub n l) fun _ => x :: wrOf sub n l) (wrOf sub n l) ↔ _
    have ih := mem_wrOf (sub := sub) (n := n) (i := i) (l := l)
    rw [ifE_eq]
    split
    · rename_i hb
      have hx : x < n := Nat.le_of_ble_eq_true hb
      cases hg : sub.get x with
      | none =>
        rw [optE_none, ih]
        refine ⟨fun h => ⟨List.mem_cons_of_mem _ h.1, h.2⟩, fun h => ⟨?_, h.2⟩⟩
        rcases List.mem_cons.1 h.1 with rfl | h1
        · obtain ⟨o, ho⟩ := h.2.2; rw [hg] at ho; cases ho
        · exact h1
      | some o =>
        rw [optE_some, List.mem_cons, ih]
        refine ⟨fun h => ?_, fun h => ?_⟩
        · rcases h with rfl | h
          · exact ⟨List.mem_cons_self .., hx, o, hg⟩
          · exact ⟨List.mem_cons_of_mem _ h.1, h.2⟩
        · rcases List.mem_cons.1 h.1 with h1 | h1
          · exact .inl h1
          · exact .inr ⟨h1, h.2⟩
    · rename_i hb
      rw [ih]
      refine ⟨fun h => ⟨List.mem_cons_of_mem _ h.1, h.2⟩, fun h => ⟨?_, h.2⟩⟩
      rcases List.mem_cons.1 h.1 with rfl | h1
      · exact absurd (Nat.ble_eq_true_of_le h.2.1 : Nat.blt i n = true) hb
      · exact h1
theorem mem_rangeL {i : Nat} : ∀ {n a : Nat}, i ∈ rangeL a n ↔ a ≤ i ∧ i < a + n
  | 0, a => ⟨fun h => (by cases h), fun h => (by omega)⟩
  | n + 1, a => by
    show i ∈ a :: rangeL (Nat.add a 1) n ↔ _
    rw [List.mem_cons, mem_rangeL]
    have : Nat.add a 1 = a + 1 := rfl
    rw [this]
    omega
theorem memN_eq {i : Nat} : ∀ {l : List Nat}, memN l i = true ↔ i ∈ l
  | [] => ⟨fun h => (by cases h), fun h => (by cases h)⟩
  | x :: l => by
    unfold memN
    cases h : Nat.beq x i with
    | true =>
      have := Nat.eq_of_beq_eq_true h
      subst this
      simp
    | false =>
      have hne : x ≠ i := fun e => by subst e; rw [Nat.beq_refl] at h; cases h
      rw [List.mem_cons]
      simp only [cond_false, memN_eq]
      exact ⟨.inr, fun h => h.resolve_left fun e => hne e.symm⟩
theorem get_putAll {src : PT AObj} {id : Nat} : ∀ {l : List Nat} {t : PT AObj}, (∀ i ∈ l, i < i + 1) → (putAll t src l).get id = if id ∈ l then src.get id else t.get id
  | [], t, _ => by simp [putAll]
  | i :: l, t, h => by
    unfold putAll
    rw [get_putAll fun j hj => h j (List.mem_cons_of_mem _ hj)]
    by_cases hl : id ∈ l
    · rw [if_pos hl, if_pos (List.mem_cons_of_mem _ hl)]
    · rw [if_neg hl, PT.get_put _ _ _ _ (h i (List.mem_cons_self ..))]
      by_cases hi : id = i
      · subst hi; rw [if_pos rfl, if_pos (List.mem_cons_self ..)]
      · rw [if_neg hi, if_neg fun hh => (List.mem_cons.1 hh).elim hi hl]
theorem get_delAll {id : Nat} : ∀ {l : List Nat} {t : PT AObj}, (∀ i ∈ l, i < i + 1) → (delAll t l).get id = if id ∈ l then none else t.get id
  | [], t, _ => by simp [delAll]
  | i :: l, t, h => by
    unfold delAll
    rw [get_delAll fun j hj => h j (List.mem_cons_of_mem _ hj)]
    by_cases hl : id ∈ l
    · rw [if_pos hl, if_pos (List.mem_cons_of_mem _ hl)]
    · rw [if_neg hl]
      show (PT.put none t i).get id = _
      rw [PT.get_put _ _ _ _ (h i (List.mem_cons_self ..))]
      by_cases hi : id = i
      · subst hi; rw [if_pos rfl, if_pos (List.mem_cons_self ..)]
      · rw [if_neg hi, if_neg fun hh => (List.mem_cons.1 hh).elim hi hl]
theorem mem_unord {m : Nat} {u : Did} : ∀ {l : List Did}, u ∈ unord m l ↔ u ∈ l ∧ Nat.testBit m u.idx = false
  | [] => ⟨fun h => (by cases h), fun h => (by cases h.1)⟩
  | x :: l => by
    show u ∈ ifE (Nat.testBit m x.idx) (unord m l) (x :: unord m l) ↔ _
    rw [ifE_eq]
    split
    · rename_i hb
      rw [mem_unord]
      refine ⟨fun h => ⟨List.mem_cons_of_mem _ h.1, h.2⟩, fun h => ⟨?_, h.2⟩⟩
      rcases List.mem_cons.1 h.1 with rfl | h1
      · rw [hb] at h; cases h.2
      · exact h1
    · rename_i hb
      rw [List.mem_cons, mem_unord, List.mem_cons]
      refine ⟨fun h => ?_, fun h => ?_⟩
      · rcases h with rfl | h
        · exact ⟨.inl rfl, by simpa using hb⟩
        · exact ⟨.inr h.1, h.2⟩
      · rcases h.1 with rfl | h1
        · exact .inl rfl
        · exact .inr ⟨h1, h.2⟩
theorem free1_spec {hin : PT AObj} : ∀ {wr : List Nat}, free1 hin wr = true → ∀ i ∈ wr, hin.get i = none
  | [], _, i, hi => by cases hi
  | x :: wr, h, i, hi => by
    have h' : optE (hin.get x) (free1 hin wr) (fun _ => false) = true := h
    cases hg : hin.get x with
    | some o => rw [hg] at h'; cases h'
    | none =>
      rw [hg] at h'
      rcases List.mem_cons.1 hi with rfl | hi
      · exact hg
      · exact free1_spec (wr := wr) h' i hi
theorem freeAll_spec {wr : List Nat} : ∀ {us : List Did}, freeAll us wr = true → ∀ u ∈ us, ∀ i ∈ wr, u.hin.get i = none
  | [], _, u, hu => by cases hu
  | x :: us, h, u, hu => by
    have h' : both (free1 x.hin wr) (freeAll us wr) = true := h
    rw [both_eq, Bool.and_eq_true] at h'
    rcases List.mem_cons.1 hu with rfl | hu
    · exact free1_spec h'.1
    · exact freeAll_spec h'.2 u hu
theorem touched_eq {u : Did} {i : Nat} : touched u i = true ↔ i ∈ u.wr ∨ (u.c0 ≤ i ∧ i < u.c1) := by
  unfold touched
  rw [Bool.or_eq_true, memN_eq, Bool.and_eq_true]
  refine or_congr Iff.rfl (and_congr ?_ ?_)
  · exact ⟨Nat.le_of_ble_eq_true, Nat.ble_eq_true_of_le⟩
  · exact ⟨fun h => Nat.le_of_ble_eq_true h, fun h => Nat.ble_eq_true_of_le h⟩
theorem mem_didIds {u : Did} {i : Nat} (h : u.c0 ≤ u.c1) : i ∈ didIds u ↔ touched u i = true := by
  rw [touched_eq]
  show i ∈ u.wr ++ rangeL u.c0 (u.c1 - u.c0) ↔ _
  rw [List.mem_append, mem_rangeL]
  have : u.c0 + (u.c1 - u.c0) = u.c1 := by omega
  rw [this]
theorem maskOf_spec {acc : List Nat} {j i : Nat} : ∀ {es : List Edge}, Nat.testBit (maskOf acc j es) i = true → ∃ e ∈ es, uncond e = true ∧ e.on < j ∧ (i = e.on ∨ Nat.testBit (acc.getD e.on 0) i = true)
  | [], h => by simp [maskOf] at h
  | e :: es, h => by
    unfold maskOf at h
    cases hc : uncond e && Nat.blt e.on j with
    | false =>
      rw [hc] at h
      obtain ⟨e', he', r⟩ := maskOf_spec (es := es) h
      exact ⟨e', List.mem_cons_of_mem _ he', r⟩
    | true =>
      rw [hc] at h
      rw [Bool.and_eq_true] at hc
      have hlt : e.on < j := Nat.le_of_ble_eq_true hc.2
      have h' : Nat.testBit ((1 <<< e.on ||| acc.getD e.on 0) ||| maskOf acc j es) i = true := h
      rw [Nat.testBit_or, Nat.testBit_or, Bool.or_eq_true, Bool.or_eq_true] at h'
      rcases h' with (h' | h') | h'
      · rw [Nat.one_shiftLeft, Nat.testBit_two_pow] at h'
        exact ⟨e, List.mem_cons_self .., hc.1, hlt, .inl (by simpa using h'.symm : e.on = i).symm⟩
      · exact ⟨e, List.mem_cons_self .., hc.1, hlt, .inr h'⟩
      · obtain ⟨e', he', r⟩ := maskOf_spec (es := es) h'
        exact ⟨e', List.mem_cons_of_mem _ he', r⟩
theorem masks_pre : ∀ (l : List Oper) (acc : List Nat) (j k : Nat), k < acc.length → (masks acc j l).getD k 0 = acc.getD k 0
  | [], _, _, _, _ => rfl
  | o :: l, acc, j, k, h => by
    unfold masks
    rw [masks_pre l _ _ k (by simp; omega)]
    simp only [List.getD_eq_getElem?_getD]
    rw [List.getElem?_append_left h]
theorem masks_spec : ∀ (l : List Oper) (acc : List Nat) (j : Nat), acc.length = j → ∀ k o, l[k]? = some o → ∀ i, Nat.testBit ((masks acc j l).getD (j + k) 0) i = true →
    ∃ e ∈ o.after.toList, uncond e = true ∧ e.on < j + k ∧ (i = e.on ∨ Nat.testBit ((masks acc j l).getD e.on 0) i = true)
  | [], _, _, _, k, o, h, _, _ => by simp at h
  | x :: l, acc, j, hj, 0, o, h, i, hi => by
    simp at h
    subst h
    unfold masks at hi ⊢
    have hpre := fun k hk => masks_pre l (acc ++ [maskOf acc j x.after.toList]) (Nat.add j 1) k hk
    rw [hpre (j + 0) (by simp; omega)] at hi
    have he : (acc ++ [maskOf acc j x.after.toList]).getD (j + 0) 0 = maskOf acc j x.after.toList := by
      simp [← hj]
    rw [he] at hi
    obtain ⟨e, he, h1, h2, h3⟩ := maskOf_spec hi
    refine ⟨e, he, h1, h2, h3.imp id fun h3 => ?_⟩
    rw [hpre e.on (by simp; omega)]
    simp only [List.getD_eq_getElem?_getD] at h3 ⊢
    rw [List.getElem?_append_left (by omega)]
    exact h3
  | x :: l, acc, j, hj, k + 1, o, h, i, hi => by
    unfold masks at hi ⊢
    have ih := masks_spec l (acc ++ [maskOf acc j x.after.toList]) (Nat.add j 1) (by simp [hj]) k o (by simpa using h) i
    have e1 : Nat.add j 1 + k = j + (k + 1) := by show j + 1 + k = _; omega
    rw [e1] at ih
    exact ih hi
theorem statPair_spec {ops : Array Oper} {m : Nat} {y : Oper} : ∀ {l : List Oper} {i0 : Nat}, statPair ops m y i0 l = true → ∀ k x, l[k]? = some x → Nat.testBit m (i0 + k) = true ∨ clash ops x y = false
  | [], _, _, k, x, h => by simp at h
  | z :: l, i0, h, 0, x, hx => by
    simp at hx
    subst hx
    unfold statPair at h
    rw [Bool.and_eq_true, Bool.or_eq_true] at h
    exact h.1.imp id fun h => by simpa using h
  | z :: l, i0, h, k + 1, x, hx => by
    unfold statPair at h
    rw [Bool.and_eq_true] at h
    have := statPair_spec (l := l) (i0 := Nat.add i0 1) h.2 k x (by simpa using hx)
    have e1 : Nat.add i0 1 + k = i0 + (k + 1) := by show i0 + 1 + k = _; omega
    rw [e1] at this
    exact this
theorem statAll_spec {ops : Array Oper} : ∀ {l pre : List Oper} {ms : List Nat}, statAll ops pre l ms = true → ∀ k o, l[k]? = some o → ∀ i x, i < pre.length + k → (pre ++ l)[i]? = some x → Nat.testBit (ms.getD k 0) i = true ∨ clash ops x o = false
  | [], _, _, _, k, o, h, _, _, _, _ => by simp at h
  | o :: l, pre, [], h, _, _, _, _, _, _, _ => by unfold statAll at h; cases h
  | o :: l, pre, m :: ms, h, 0, o', ho, i, x, hi, hx => by
    simp at ho
    subst ho
    unfold statAll at h
    rw [Bool.and_eq_true] at h
    have hx' : pre[i]? = some x := by rw [List.getElem?_append_left (by simpa using hi)] at hx; exact hx
    have := statPair_spec h.1 i x hx'
    simpa using this
  | o :: l, pre, m :: ms, h, k + 1, o', ho, i, x, hi, hx => by
    unfold statAll at h
    rw [Bool.and_eq_true] at h
    have := statAll_spec h.2 k o' (by simpa using ho) i x (by simp; omega) (by simpa using hx)
    simpa using this
theorem edgesBack_spec : ∀ {l : List Oper} {j : Nat}, edgesBack j l = true → ∀ k o, l[k]? = some o → ∀ e ∈ o.after.toList, uncond e = true → e.on < j + k
  | [], _, _, k, o, h, _, _, _ => by simp at h
  | x :: l, j, h, 0, o, ho, e, he, hu => by
    simp at ho
    subst ho
    unfold edgesBack at h
    rw [Bool.and_eq_true, List.all_eq_true] at h
    have := h.1 e he
    rw [hu] at this
    simp at this
    exact this
  | x :: l, j, h, k + 1, o, ho, e, he, hu => by
    unfold edgesBack at h
    rw [Bool.and_eq_true] at h
    have := edgesBack_spec h.2 k o (by simpa using ho) e he hu
    have e1 : Nat.add j 1 + k = j + (k + 1) := by show j + 1 + k = _; omega
    rw [e1] at this
    exact this
theorem clash_spec {ops : Array Oper} {x y : Oper} (h : clash ops x y = false) : (∀ d, x.dst = some d → d ∉ slotsOf ops y ∧ y.dst ≠ some d) ∧ ∀ d, y.dst = some d → d ∉ slotsOf ops x := by
  unfold clash at h
  rw [Bool.or_eq_false_iff] at h
  refine ⟨fun d hd => ?_, fun d hd hm => ?_⟩
  · have h1 := h.1
    rw [hd] at h1
    simp only [Bool.or_eq_false_iff] at h1
    refine ⟨fun hm => ?_, fun hy => ?_⟩
    · rw [memN_eq.2 hm] at h1; cases h1.1
    · rw [hy] at h1
      have := h1.2
      simp only [Nat.beq_refl] at this
      cases this
  · have h2 := h.2
    rw [hd] at h2
    simp only at h2
    rw [memN_eq.2 hm] at h2
    cases h2
end Go.Eng
namespace Go.Eng
open Go
structure DS where
  A : AAct
  H : Hp
  did : List Did
structure DR where
  ran : Bool
  av : AV
  sub : PT AObj
  H' : Hp
noncomputable def DR.wr (r : DR) (s : DS) : List Nat := wrOf r.sub s.H.nx r.H'.log
noncomputable def putT (A : AAct) (d : Option Tmp) (v : AV) : AAct := match d with | none => A | some d => A.put d v
structure Link (E : Env) (rec : Rec) (ops : Array Oper) (j : Nat) (o : Oper) (m : Nat) (s s' : DS) (r : DR) : Prop where
  slot : ∀ d, o.dst = some d → d < s.A.nt
  act : s'.A = putT s.A o.dst r.av
  yes : r.ran = true → (∀ y n : R (AAct × Hp), wantK s.A.tm (gOf ops.toList o.guard) y n = y) ∧ r.sub = subHeap s.H.t s.H.nx s.A.tm o (unord m s.did) ∧
    evOp E rec s.A.tm ⟨r.sub, s.H.nx, []⟩ (stepF E.P o) = .ok [(r.av, r.H')] ∧ freeAll (unord m s.did) (r.wr s) = true ∧
    s'.H = ⟨mergeT (lookKind o) s.H r.H' (unord m s.did) (r.wr s), r.H'.nx, r.wr s ++ s.H.log⟩ ∧ s'.did = note (lookKind o) j r.sub s.H r.H' s.did (r.wr s)
  no : r.ran = false → (∀ y n : R (AAct × Hp), wantK s.A.tm (gOf ops.toList o.guard) y n = n) ∧ r.av = undefA ∧ r.sub = .leaf ∧ r.H' = ⟨.leaf, s.H.nx, []⟩ ∧ s'.H = s.H ∧ s'.did = s.did
theorem wantK_cases {tm : PT AV} {g : Option (Option Tmp × Bool)} {yes no : R (AAct × Hp)} {outs : List (AAct × Hp)} (h : wantK tm g yes no = .ok outs) :
    ((∀ y n : R (AAct × Hp), wantK tm g y n = y) ∧ yes = .ok outs) ∨ ((∀ y n : R (AAct × Hp), wantK tm g y n = n) ∧ no = .ok outs) := by
  cases g with
  | none => exact .inl ⟨fun _ _ => rfl, h⟩
  | some p =>
    obtain ⟨t, w⟩ := p
    cases t with
    | none => exact .inr ⟨fun _ _ => rfl, h⟩
    | some t =>
      cases hv : tm.get t with
      | none =>
        have e : ∀ y n : R (AAct × Hp), wantK tm (some (some t, w)) y n = n := fun y n => by simp [wantK, optE, hv]
        exact .inr ⟨e, by rw [e] at h; exact h⟩
      | some v =>
        have e : ∀ y n : R (AAct × Hp), wantK tm (some (some t, w)) y n = AV.rec (motive := fun _ => R (AAct × Hp)) (fun c => acE c (fun b => ifE b (ifE w y n) (ifE w n y)) (fun _ _ => n) (fun _ => .bad "guard")) (fun _ => n) (fun _ => n) (.bad "guard") v :=
          fun y n => by simp [wantK, optE, hv]
        rw [e] at h
        cases v with
        | one c =>
          cases c with
          | b b => cases b <;> cases w <;> first | exact .inl ⟨fun y n => e y n, h⟩ | exact .inr ⟨fun y n => e y n, h⟩
          | i k n => exact .inr ⟨fun y n => e y n, h⟩
          | o q => cases h
        | agg l => exact .inr ⟨fun y n => e y n, h⟩
        | tup l => exact .inr ⟨fun y n => e y n, h⟩
        | any => cases h
theorem putK_cases {a : AAct} {dst : Option Tmp} {v : AV} {h : Hp} {k : AAct → Hp → R (AAct × Hp)} {outs : List (AAct × Hp)} (hk : putK a dst v h k = .ok outs) : (∀ d, dst = some d → d < a.nt) ∧ k (putT a dst v) h = .ok outs := by
  cases dst with
  | none => exact ⟨fun d hd => (by cases hd), hk⟩
  | some d =>
    have hk' : ifE (Nat.blt d a.nt) (k (a.put d v) h) (.bad "slot") = .ok outs := hk
    rw [ifE_eq] at hk'
    split at hk'
    · rename_i hd
      exact ⟨fun d' hd' => by cases hd'; exact Nat.le_of_ble_eq_true hd, hk'⟩
    · cases hk'
theorem chain_of {E : Env} {rec : Rec} {ops : Array Oper} : ∀ (l : List Oper) (j : Nat) (ms : List Nat) (did : List Did) (A : AAct) (H : Hp) (outs : List (AAct × Hp)), evDraw E rec (prepL E.P ops.toList l) j ms did A H = .ok outs →
    ∃ (S : Nat → DS) (T : Nat → DR), S 0 = ⟨A, H, did⟩ ∧ (∀ k o, l[k]? = some o → Link E rec ops (j + k) o (ms.getD k 0) (S k) (S (k + 1)) (T k)) ∧ outs = [((S l.length).A, (S l.length).H)]
  | [], j, ms, did, A, H, outs, h => by
    cases h
    exact ⟨fun _ => ⟨A, H, did⟩, fun _ => ⟨false, undefA, .leaf, H⟩, rfl, fun k o h => by simp at h, rfl⟩
  | o :: l, j, [], did, A, H, outs, h => by cases h
  | o :: l, j, m :: ms, did, A, H, outs, h => by
    have h' : wantK A.tm (gOf ops.toList o.guard)
        (drawK (lookKind o) j A o.dst H (subHeap H.t H.nx A.tm o (unord m did)) (unord m did) did (evDraw E rec (prepL E.P ops.toList l) (Nat.add j 1) ms) (evOp E rec A.tm ⟨subHeap H.t H.nx A.tm o (unord m did), H.nx, []⟩ (stepF E.P o)))
        (putK A o.dst undefA H (evDraw E rec (prepL E.P ops.toList l) (Nat.add j 1) ms did)) = .ok outs := h
    have e1 : ∀ k, Nat.add j 1 + k = j + (k + 1) := fun k => by show j + 1 + k = _; omega
    have key : ∀ (s' : DS) (r : DR), Link E rec ops j o m ⟨A, H, did⟩ s' r → evDraw E rec (prepL E.P ops.toList l) (Nat.add j 1) ms s'.did s'.A s'.H = .ok outs →
        ∃ (S : Nat → DS) (T : Nat → DR), S 0 = ⟨A, H, did⟩ ∧ (∀ k o', (o :: l)[k]? = some o' → Link E rec ops (j + k) o' ((m :: ms).getD k 0) (S k) (S (k + 1)) (T k)) ∧ outs = [((S (o :: l).length).A, (S (o :: l).length).H)] := by
      intro s' r hl hr
      obtain ⟨S, T, h0, h1, h2⟩ := chain_of l (Nat.add j 1) ms s'.did s'.A s'.H outs hr
      refine ⟨fun k => match k with | 0 => ⟨A, H, did⟩ | k + 1 => S k, fun k => match k with | 0 => r | k + 1 => T k, rfl, fun k o' ho => ?_, h2⟩
      cases k with
      | zero =>
        simp at ho
        subst ho
        have : S 0 = s' := by rw [h0]
        simpa [this] using hl
      | succ k =>
        have := h1 k o' (by simpa using ho)
        rw [e1] at this
        simpa using this
    rcases wantK_cases h' with ⟨hw, hy⟩ | ⟨hw, hn⟩
    · cases hx : evOp E rec A.tm ⟨subHeap H.t H.nx A.tm o (unord m did), H.nx, []⟩ (stepF E.P o) with
      | bad s => rw [hx] at hy; cases hy
      | ok xs =>
        rw [hx] at hy
        cases xs with
        | nil => cases hy
        | cons x xs =>
          cases xs with
          | cons _ _ => cases hy
          | nil =>
            have hy' : ifE (freeAll (unord m did) (wrOf (subHeap H.t H.nx A.tm o (unord m did)) H.nx x.2.log))
              (putK A o.dst x.1 ⟨mergeT (lookKind o) H x.2 (unord m did) (wrOf (subHeap H.t H.nx A.tm o (unord m did)) H.nx x.2.log), x.2.nx, wrOf (subHeap H.t H.nx A.tm o (unord m did)) H.nx x.2.log ++ H.log⟩
                (evDraw E rec (prepL E.P ops.toList l) (Nat.add j 1) ms (note (lookKind o) j (subHeap H.t H.nx A.tm o (unord m did)) H x.2 did (wrOf (subHeap H.t H.nx A.tm o (unord m did)) H.nx x.2.log))))
              (.bad "draw - two operations that may change places touch one object") = .ok outs := hy
            rw [ifE_eq] at hy'
            split at hy'
            · rename_i hf
              obtain ⟨hs, hk⟩ := putK_cases hy'
              refine key ⟨putT A o.dst x.1, _, _⟩ ⟨true, x.1, subHeap H.t H.nx A.tm o (unord m did), x.2⟩ ⟨hs, rfl, fun _ => ⟨hw, rfl, ?_, hf, rfl, rfl⟩, fun h => (by cases h)⟩ hk
              exact hx
            · cases hy'
    · obtain ⟨hs, hk⟩ := putK_cases hn
      exact key ⟨putT A o.dst undefA, H, did⟩ ⟨false, undefA, .leaf, ⟨.leaf, H.nx, []⟩⟩ ⟨hs, rfl, fun h => (by cases h), fun _ => ⟨hw, rfl, rfl, rfl, rfl, rfl⟩⟩ hk
structure Chain (E : Env) (rec : Rec) (ops : Array Oper) (S : Nat → DS) (T : Nat → DR) : Prop where
  first : (S 0).did = []
  link : ∀ k o, ops[k]? = some o → Link E rec ops k o ((masks [] 0 ops.toList).getD k 0) (S k) (S (k + 1)) (T k)
  stat : statOK ops = true
def dst (ops : Array Oper) (k : Nat) : Option Tmp := match ops[k]? with | some o => o.dst | none => none
def mask (ops : Array Oper) (k : Nat) : Nat := (masks [] 0 ops.toList).getD k 0
def touch (S : Nat → DS) (T : Nat → DR) (k id : Nat) : Prop := id ∈ (T k).wr (S k) ∨ ((S k).H.nx ≤ id ∧ id < (T k).H'.nx)
structure Fact (S : Nat → DS) (T : Nat → DR) (k : Nat) : Prop where
  dom : ∀ id o, (T k).sub.get id = some o → ∃ o', (T k).H'.get id = some o'
  old : ∀ id o', (T k).H'.get id = some o' → (∃ o, (T k).sub.get id = some o) ∨ ((S k).H.nx ≤ id ∧ id < (T k).H'.nx)
  log : ∀ id, id < (S k).H.nx → id ∉ (T k).wr (S k) → (T k).H'.get id = (T k).sub.get id
open Classical in
noncomputable def ovH (S : Nat → DS) (T : Nat → DR) (D : Nat → Prop) : Nat → Nat → Option AObj
  | 0, id => (S 0).H.get id
  | k + 1, id => if D k ∧ touch S T k id then (T k).H'.get id else ovH S T D k id
open Classical in
noncomputable def ovT (ops : Array Oper) (S : Nat → DS) (T : Nat → DR) (D : Nat → Prop) : Nat → AAct
  | 0 => (S 0).A
  | k + 1 => if D k then putT (ovT ops S T D k) (dst ops k) (T k).av else ovT ops S T D k
section
variable {S : Nat → DS} {T : Nat → DR}
theorem ovH_pos {D : Nat → Prop} {k id : Nat} (h : D k) (h' : touch S T k id) : ovH S T D (k + 1) id = (T k).H'.get id := by
  unfold ovH; exact if_pos ⟨h, h'⟩
theorem ovH_neg {D : Nat → Prop} {k id : Nat} (h : D k → ¬ touch S T k id) : ovH S T D (k + 1) id = ovH S T D k id := by
  conv => lhs; unfold ovH
  exact if_neg fun hh => h hh.1 hh.2
theorem ovT_pos {ops : Array Oper} {D : Nat → Prop} {k : Nat} (h : D k) : ovT ops S T D (k + 1) = putT (ovT ops S T D k) (dst ops k) (T k).av := by
  conv => lhs; unfold ovT
  exact if_pos h
theorem ovT_neg {ops : Array Oper} {D : Nat → Prop} {k : Nat} (h : ¬ D k) : ovT ops S T D (k + 1) = ovT ops S T D k := by
  conv => lhs; unfold ovT
  exact if_neg h
theorem ovH_congr {D D' : Nat → Prop} {id : Nat} : ∀ {n : Nat}, (∀ i, i < n → touch S T i id → (D i ↔ D' i)) → ovH S T D n id = ovH S T D' n id
  | 0, _ => rfl
  | n + 1, h => by
    have ih := ovH_congr (D := D) (D' := D') (id := id) (n := n) fun i hi => h i (by omega)
    by_cases ht : touch S T n id
    · have := h n (by omega) ht
      by_cases hd : D n
      · rw [ovH_pos hd ht, ovH_pos (this.1 hd) ht]
      · rw [ovH_neg fun h => absurd h hd, ovH_neg fun h => absurd (this.2 h) hd, ih]
    · rw [ovH_neg fun _ => ht, ovH_neg fun _ => ht, ih]
theorem ovH_cut {D : Nat → Prop} {id k : Nat} : ∀ {n : Nat}, k ≤ n → (∀ i, k ≤ i → i < n → D i → ¬ touch S T i id) → ovH S T D n id = ovH S T D k id
  | 0, hk, _ => by have : k = 0 := by omega
                   subst this; rfl
  | n + 1, hk, h => by
    by_cases hkn : k = n + 1
    · subst hkn; rfl
    · rw [ovH_neg fun hd => h n (by omega) (by omega) hd]
      exact ovH_cut (by omega) fun i h1 h2 => h i h1 (by omega)
theorem ovH_add {D : Nat → Prop} {id j : Nat} : ∀ {n : Nat}, j < n → (touch S T j id → ∀ i, j < i → i < n → D i → ¬ touch S T i id) → (touch S T j id → ovH S T (fun i => D i ∨ i = j) n id = (T j).H'.get id) ∧ (¬ touch S T j id → ovH S T (fun i => D i ∨ i = j) n id = ovH S T D n id) := by
  intro n hj h
  refine ⟨fun ht => ?_, fun ht => ?_⟩
  · rw [ovH_cut (k := j + 1) (by omega) fun i h1 h2 hd => ?_]
    · exact ovH_pos (.inr rfl) ht
    · rcases hd with hd | rfl
      · exact h ht i (by omega) h2 hd
      · omega
  · refine ovH_congr fun i hi hti => ?_
    refine ⟨fun hd => hd.elim (fun h => h) fun he => ?_, .inl⟩
    subst he
    exact absurd hti ht
variable {ops : Array Oper}
theorem putT_nt (A : AAct) (d : Option Tmp) (v : AV) : (putT A d v).nt = A.nt := by cases d <;> rfl
theorem putT_dfr (A : AAct) (d : Option Tmp) (v : AV) : (putT A d v).dfr = A.dfr := by cases d <;> rfl
theorem putT_get {A : AAct} {d : Option Tmp} {v : AV} (hd : ∀ x, d = some x → x < x + 1) (t : Nat) : (putT A d v).tm.get t = if d = some t then some v else A.tm.get t := by
  cases d with
  | none => simp [putT]
  | some x =>
    show (A.tm.set x v).get t = _
    rw [PT.get_set _ _ _ _ (hd x rfl)]
    by_cases h : t = x
    · subst h; simp
    · rw [if_neg h, if_neg (by simpa using fun e => h e.symm)]
theorem ovT_nt {D : Nat → Prop} : ∀ n, (ovT ops S T D n).nt = (S 0).A.nt
  | 0 => rfl
  | n + 1 => by
    by_cases h : D n
    · rw [ovT_pos h, putT_nt, ovT_nt n]
    · rw [ovT_neg h, ovT_nt n]
theorem ovT_dfr {D : Nat → Prop} : ∀ n, (ovT ops S T D n).dfr = (S 0).A.dfr
  | 0 => rfl
  | n + 1 => by
    by_cases h : D n
    · rw [ovT_pos h, putT_dfr, ovT_dfr n]
    · rw [ovT_neg h, ovT_dfr n]
section
variable (hlt : ∀ k x, dst ops k = some x → x < x + 1)
include hlt
theorem ovT_congr {D D' : Nat → Prop} {t : Nat} : ∀ {n : Nat}, (∀ i, i < n → dst ops i = some t → (D i ↔ D' i)) → (ovT ops S T D n).tm.get t = (ovT ops S T D' n).tm.get t
  | 0, _ => rfl
  | n + 1, h => by
    have ih := ovT_congr (D := D) (D' := D') (t := t) (n := n) fun i hi => h i (by omega)
    by_cases ht : dst ops n = some t
    · have := h n (by omega) ht
      by_cases hd : D n
      · rw [ovT_pos hd, ovT_pos (this.1 hd), putT_get (hlt n), putT_get (hlt n), if_pos ht, if_pos ht]
      · rw [ovT_neg hd, ovT_neg fun h => hd (this.2 h), ih]
    · have e : ∀ (D : Nat → Prop), (ovT ops S T D (n + 1)).tm.get t = (ovT ops S T D n).tm.get t := fun D => by
        by_cases hd : D n
        · rw [ovT_pos hd, putT_get (hlt n), if_neg ht]
        · rw [ovT_neg hd]
      rw [e, e, ih]
theorem ovT_cut {D : Nat → Prop} {t k : Nat} : ∀ {n : Nat}, k ≤ n → (∀ i, k ≤ i → i < n → D i → dst ops i ≠ some t) → (ovT ops S T D n).tm.get t = (ovT ops S T D k).tm.get t
  | 0, hk, _ => by have : k = 0 := by omega
                   subst this; rfl
  | n + 1, hk, h => by
    by_cases hkn : k = n + 1
    · subst hkn; rfl
    · have ih := ovT_cut (D := D) (t := t) (k := k) (n := n) (by omega) fun i h1 h2 => h i h1 (by omega)
      by_cases hd : D n
      · rw [ovT_pos hd, putT_get (hlt n), if_neg (h n (by omega) (by omega) hd), ih]
      · rw [ovT_neg hd, ih]
theorem ovT_add {D : Nat → Prop} {j : Nat} {n : Nat} (hj : j < n) (h : ∀ t, dst ops j = some t → ∀ i, j < i → i < n → D i → dst ops i ≠ some t) (t : Nat) :
    (ovT ops S T (fun i => D i ∨ i = j) n).tm.get t = (putT (ovT ops S T D n) (dst ops j) (T j).av).tm.get t := by
  rw [putT_get (hlt j)]
  by_cases ht : dst ops j = some t
  · rw [if_pos ht, ovT_cut hlt (k := j + 1) (by omega) fun i h1 h2 hd => ?_]
    · rw [ovT_pos (.inr rfl), putT_get (hlt j), if_pos ht]
    · rcases hd with hd | rfl
      · exact h t ht i (by omega) h2 hd
      · omega
  · rw [if_neg ht]
    refine ovT_congr hlt fun i hi hti => ⟨fun hd => hd.elim (fun h => h) fun he => ?_, .inl⟩
    subst he
    exact absurd hti ht
end
end
end Go.Eng
namespace Go.Eng
open Go
section
variable {E : Env} {rec : Rec} {ops : Array Oper} {S : Nat → DS} {T : Nat → DR} (hc : Chain E rec ops S T) (hmon : RecM rec)
theorem ops_at {k : Nat} (hk : k < ops.size) : ∃ o, ops[k]? = some o := ⟨ops[k], by simp [hk]⟩
theorem dst_at {k : Nat} {o : Oper} (ho : ops[k]? = some o) : dst ops k = o.dst := by unfold dst; rw [ho]
theorem dst_some {k x : Nat} (h : dst ops k = some x) : ∃ o, ops[k]? = some o ∧ o.dst = some x := by
  unfold dst at h
  split at h
  · rename_i o ho; exact ⟨o, ho, h⟩
  · cases h
noncomputable def didOf (S : Nat → DS) (T : Nat → DR) (i : Nat) : Did := ⟨i, (T i).sub, (S i).H.nx, (T i).H'.nx, (T i).wr (S i)⟩
theorem touched_didOf {i id : Nat} : touched (didOf S T i) id = true ↔ touch S T i id := touched_eq
theorem wr_spec {i id : Nat} (h : id ∈ (T i).wr (S i)) : id < (S i).H.nx ∧ ∃ o, (T i).sub.get id = some o := (mem_wrOf.1 h).2
include hc
theorem link_no {k : Nat} {o : Oper} (ho : ops[k]? = some o) (hr : (T k).ran = false) : (T k).sub = .leaf ∧ (T k).H' = ⟨.leaf, (S k).H.nx, []⟩ ∧ (S (k + 1)).H = (S k).H ∧ (S (k + 1)).did = (S k).did :=
  let ⟨_, _, h1, h2, h3, h4⟩ := (hc.link k o ho).no hr
  ⟨h1, h2, h3, h4⟩
theorem no_touch {k : Nat} {o : Oper} (ho : ops[k]? = some o) (hr : (T k).ran = false) (id : Nat) : ¬ touch S T k id := by
  obtain ⟨h1, h2, _, _⟩ := link_no hc ho hr
  rintro (h | h)
  · obtain ⟨_, o', h'⟩ := wr_spec h
    rw [h1] at h'; cases h'
  · rw [h2] at h; exact absurd h (by simp)
include hmon
theorem nx_step {k : Nat} (hk : k < ops.size) : (S k).H.nx ≤ (T k).H'.nx ∧ (S (k + 1)).H.nx = (T k).H'.nx := by
  obtain ⟨o, ho⟩ := ops_at hk
  cases hr : (T k).ran with
  | false =>
    obtain ⟨h1, h2, h3, _⟩ := link_no hc ho hr
    rw [h2, h3]
    exact ⟨Nat.le_refl _, rfl⟩
  | true =>
    obtain ⟨_, h2, h3, _, h5, _⟩ := (hc.link k o ho).yes hr
    refine ⟨?_, by rw [h5]⟩
    have hn : NM ⟨(T k).sub, (S k).H.nx, []⟩ ((stepF E.P o).run (S k).A.tm ⟨(T k).sub, (S k).H.nx, []⟩) := step_nm o
    exact (evNext_rg hmon hn _ h3).2 _ (List.mem_singleton.2 rfl)
theorem nx_mono {i : Nat} : ∀ {k : Nat}, i ≤ k → k ≤ ops.size → (S i).H.nx ≤ (S k).H.nx
  | 0, h, _ => by have : i = 0 := by omega
                  subst this; exact Nat.le_refl _
  | k + 1, h, hk => by
    by_cases hik : i = k + 1
    · subst hik; exact Nat.le_refl _
    · have h1 := nx_mono (i := i) (k := k) (by omega) (by omega)
      have h2 := nx_step hc hmon (k := k) (by omega)
      omega
theorem c1_le {i k : Nat} (h : i < k) (hk : k ≤ ops.size) : (T i).H'.nx ≤ (S k).H.nx := by
  rw [← (nx_step hc hmon (k := i) (by omega)).2]
  exact nx_mono hc hmon (by omega) hk
theorem touch_lt {i id : Nat} (hi : i < ops.size) (h : touch S T i id) : id < (T i).H'.nx := by
  rcases h with h | h
  · exact Nat.lt_of_lt_of_le (wr_spec h).1 (nx_step hc hmon hi).1
  · exact h.2
omit hmon in
theorem did_mem : ∀ {k : Nat}, k ≤ ops.size → ∀ u ∈ (S k).did, ∃ i, i < k ∧ (T i).ran = true ∧ u = didOf S T i
  | 0, _, u, hu => by rw [hc.first] at hu; cases hu
  | k + 1, hk, u, hu => by
    obtain ⟨o, ho⟩ := ops_at (ops := ops) (k := k) (by omega)
    have ih := fun hu => did_mem (k := k) (by omega) u hu
    have ih' : u ∈ (S k).did → ∃ i, i < k + 1 ∧ (T i).ran = true ∧ u = didOf S T i := fun hu => by
      obtain ⟨i, h1, h2⟩ := ih hu
      exact ⟨i, by omega, h2⟩
    cases hr : (T k).ran with
    | false =>
      rw [(link_no hc ho hr).2.2.2] at hu
      exact ih' hu
    | true =>
      obtain ⟨_, _, _, _, _, h6⟩ := (hc.link k o ho).yes hr
      rw [h6] at hu
      unfold note at hu
      rw [ifE_eq] at hu
      split at hu
      · exact ih' hu
      · rcases List.mem_cons.1 hu with rfl | hu
        · exact ⟨k, by omega, hr, rfl⟩
        · exact ih' hu
omit hmon in
theorem did_in {i : Nat} {o : Oper} (ho : ops[i]? = some o) (hr : (T i).ran = true) (hn : lookKind o ≠ 0 ∨ (S i).H.nx ≠ (T i).H'.nx) : ∀ {k : Nat}, i < k → k ≤ ops.size → didOf S T i ∈ (S k).did
  | 0, h, _ => by omega
  | k + 1, h, hk => by
    by_cases hik : i = k
    · subst hik
      obtain ⟨_, _, _, _, _, h6⟩ := (hc.link i o ho).yes hr
      rw [h6]
      unfold note
      rw [ifE_eq, if_neg]
      · exact List.mem_cons_self ..
      · rw [both_eq, Bool.and_eq_true]
        rintro ⟨h1, h2⟩
        have h1' := Nat.eq_of_beq_eq_true h1
        have h2' := Nat.eq_of_beq_eq_true h2
        exact hn.elim (fun h => h h1') fun h => h h2'
    · have ih := did_in ho hr hn (k := k) (by omega) (by omega)
      obtain ⟨o', ho'⟩ := ops_at (ops := ops) (k := k) (by omega)
      cases hr' : (T k).ran with
      | false => rw [(link_no hc ho' hr').2.2.2]; exact ih
      | true =>
        obtain ⟨_, _, _, _, _, h6⟩ := (hc.link k o' ho').yes hr'
        rw [h6]
        unfold note
        rw [ifE_eq]
        split
        · exact ih
        · exact List.mem_cons_of_mem _ ih
variable (hbig : (S ops.size).H.nx ≤ (S ops.size).H.nx)
include hbig
theorem didIds_lt {k : Nat} (hk : k ≤ ops.size) {u : Did} (hu : u ∈ (S k).did) : u.c0 ≤ u.c1 ∧ ∀ id, touched u id = true → id < (S k).H.nx ∧ id < id + 1 := by
  have _hb := hbig
  obtain ⟨i, hi, _, rfl⟩ := did_mem hc hk u hu
  refine ⟨(nx_step hc hmon (k := i) (by omega)).1, fun id ht => ?_⟩
  have h1 := touch_lt hc hmon (i := i) (by omega) (touched_didOf.1 ht)
  have h2 := c1_le hc hmon hi hk
  have h3 := nx_mono hc hmon hk (Nat.le_refl _)
  omega
theorem sub_spec {k : Nat} (hk : k < ops.size) {o : Oper} (ho : ops[k]? = some o) {id : Nat} {x : AObj} (h : (T k).sub.get id = some x) :
    (T k).ran = true ∧ lookKind o ≠ 0 ∧ (S k).H.get id = some x ∧ ∀ u ∈ unord (mask ops k) (S k).did, touched u id = false := by
  cases hr : (T k).ran with
  | false =>
    rw [(link_no hc ho hr).1] at h
    cases h
  | true =>
    obtain ⟨_, h2, _⟩ := (hc.link k o ho).yes hr
    have h2' : (T k).sub = subHeap (S k).H.t (S k).H.nx (S k).A.tm o (unord (mask ops k) (S k).did) := h2
    rw [h2'] at h
    refine ⟨rfl, ?_⟩
    have hnx : (S k).H.nx ≤ (S k).H.nx := Nat.le_refl _
    unfold subHeap at h
    split at h
    · cases h
    · rename_i hl
      rw [get_putAll] at h
      · split at h
        · rename_i hm
          rw [List.mem_filter, Bool.and_eq_true] at hm
          refine ⟨by rw [hl]; decide, h, fun u hu => ?_⟩
          have := hm.2.2
          simp only [Bool.not_eq_true', List.any_eq_false, Bool.not_eq_true] at this
          exact this u hu
        · cases h
      · intro i hi
        rw [List.mem_filter, Bool.and_eq_true] at hi
        have : i < (S k).H.nx := Nat.le_of_ble_eq_true hi.2.1
        omega
    · rename_i hl1 hl2
      have hmem : ∀ i, i ∈ (unord (mask ops k) (S k).did).flatMap didIds → ∃ u ∈ unord (mask ops k) (S k).did, touched u i = true := fun i hi => by
        obtain ⟨u, hu, hi⟩ := List.mem_flatMap.1 hi
        exact ⟨u, hu, (mem_didIds (didIds_lt hc hmon hbig (by omega) (mem_unord.1 hu).1).1).1 hi⟩
      rw [get_delAll] at h
      · split at h
        · cases h
        · rename_i hm
          refine ⟨fun h0 => hl1 h0, h, fun u hu => ?_⟩
          cases htu : touched u id with
          | false => rfl
          | true =>
            exact absurd (List.mem_flatMap.2 ⟨u, hu, (mem_didIds (didIds_lt hc hmon hbig (by omega) (mem_unord.1 hu).1).1).2 htu⟩) hm
      · intro i hi
        obtain ⟨u, hu, ht⟩ := hmem i hi
        exact ((didIds_lt hc hmon hbig (k := k) (by omega) (mem_unord.1 hu).1).2 i ht).2
theorem law_step {k : Nat} (hk : k < ops.size) (hf : Fact S T k) (hwf : ∀ id, (S k).H.nx ≤ id → (S k).H.get id = none) (id : Nat) :
    (touch S T k id → (S (k + 1)).H.get id = (T k).H'.get id) ∧ (¬ touch S T k id → (S (k + 1)).H.get id = (S k).H.get id) := by
  obtain ⟨o, ho⟩ := ops_at hk
  cases hr : (T k).ran with
  | false =>
    refine ⟨fun h => absurd h (no_touch hc ho hr id), fun _ => ?_⟩
    rw [(link_no hc ho hr).2.2.1]
  | true =>
    have hnx : (T k).H'.nx ≤ (T k).H'.nx := Nat.le_refl _
    have hle := (nx_step hc hmon hk).1
    obtain ⟨_, h2, _, h4, h5, _⟩ := (hc.link k o ho).yes hr
    have hrange : ∀ i, i ∈ rangeL (S k).H.nx (Nat.sub (T k).H'.nx (S k).H.nx) ↔ (S k).H.nx ≤ i ∧ i < (T k).H'.nx := fun i => by
      rw [mem_rangeL]
      have e : (S k).H.nx + Nat.sub (T k).H'.nx (S k).H.nx = (T k).H'.nx := by
        show (S k).H.nx + ((T k).H'.nx - (S k).H.nx) = _
        omega
      rw [e]
    have e : (S (k + 1)).H.get id = (mergeT (lookKind o) (S k).H (T k).H' (unord (mask ops k) (S k).did) ((T k).wr (S k))).get id := by rw [h5]; rfl
    rw [e]
    have hwr : ∀ i ∈ (T k).wr (S k), i < i + 1 := fun i hi => by have := (wr_spec hi).1; omega
    have hrl : ∀ i ∈ rangeL (S k).H.nx (Nat.sub (T k).H'.nx (S k).H.nx), i < i + 1 := fun i hi => by have := (hrange i).1 hi; omega
    cases hl : lookKind o with
    | zero =>
      show (touch S T k id → (putAll (S k).H.t (T k).H'.t (rangeL (S k).H.nx (Nat.sub (T k).H'.nx (S k).H.nx))).get id = _) ∧ (_ → (putAll (S k).H.t (T k).H'.t (rangeL (S k).H.nx (Nat.sub (T k).H'.nx (S k).H.nx))).get id = _)
      rw [get_putAll hrl]
      have hnw : id ∉ (T k).wr (S k) := fun h => by
        obtain ⟨_, x, hx⟩ := wr_spec h
        exact (sub_spec hc hmon hbig hk ho hx).2.1 hl
      refine ⟨fun h => ?_, fun h => ?_⟩
      · rw [if_pos ((hrange id).2 (h.resolve_left hnw))]; rfl
      · rw [if_neg fun hh => h (.inr ((hrange id).1 hh))]; rfl
    | succ l =>
      cases l with
      | zero =>
        show (touch S T k id → (putAll (S k).H.t (T k).H'.t ((T k).wr (S k) ++ rangeL (S k).H.nx (Nat.sub (T k).H'.nx (S k).H.nx))).get id = _) ∧ (_ → (putAll (S k).H.t (T k).H'.t ((T k).wr (S k) ++ rangeL (S k).H.nx (Nat.sub (T k).H'.nx (S k).H.nx))).get id = _)
        rw [get_putAll fun i hi => (List.mem_append.1 hi).elim (hwr i) (hrl i)]
        refine ⟨fun h => ?_, fun h => ?_⟩
        · rw [if_pos (List.mem_append.2 (h.imp_right (hrange id).2))]; rfl
        · rw [if_neg fun hh => h ((List.mem_append.1 hh).imp_right (hrange id).1)]; rfl
      | succ l =>
        show (touch S T k id → (putAll (T k).H'.t (S k).H.t ((unord (mask ops k) (S k).did).flatMap didIds)).get id = _) ∧ (_ → (putAll (T k).H'.t (S k).H.t ((unord (mask ops k) (S k).did).flatMap didIds)).get id = _)
        have hmem : ∀ i, i ∈ (unord (mask ops k) (S k).did).flatMap didIds → ∃ u ∈ unord (mask ops k) (S k).did, touched u i = true := fun i hi => by
          obtain ⟨u, hu, hi⟩ := List.mem_flatMap.1 hi
          exact ⟨u, hu, (mem_didIds (didIds_lt hc hmon hbig (by omega) (mem_unord.1 hu).1).1).1 hi⟩
        rw [get_putAll fun i hi => by
          obtain ⟨u, hu, ht⟩ := hmem i hi
          exact ((didIds_lt hc hmon hbig (k := k) (by omega) (mem_unord.1 hu).1).2 i ht).2]
        refine ⟨fun h => ?_, fun h => ?_⟩
        · rw [if_neg fun hh => ?_]
          · rfl
          · obtain ⟨u, hu, ht⟩ := hmem id hh
            rcases h with h | h
            · obtain ⟨_, x, hx⟩ := wr_spec h
              have := (sub_spec hc hmon hbig hk ho hx).2.2.2 u hu
              rw [ht] at this; cases this
            · have := ((didIds_lt hc hmon hbig (k := k) (by omega) (mem_unord.1 hu).1).2 id ht).1
              omega
        · by_cases hm : id ∈ (unord (mask ops k) (S k).did).flatMap didIds
          · rw [if_pos hm]; rfl
          · rw [if_neg hm]
            show (T k).H'.get id = _
            by_cases hid : id < (S k).H.nx
            · rw [hf.log id hid fun hh => h (.inl hh)]
              have h2' : (T k).sub = subHeap (S k).H.t (S k).H.nx (S k).A.tm o (unord (mask ops k) (S k).did) := h2
              have e2 : (T k).sub = delAll (S k).H.t ((unord (mask ops k) (S k).did).flatMap didIds) := by
                rw [h2']
                unfold subHeap
                rw [hl]
                rfl
              rw [e2, get_delAll fun i hi => by
                obtain ⟨u, hu, ht⟩ := hmem i hi
                exact ((didIds_lt hc hmon hbig (k := k) (by omega) (mem_unord.1 hu).1).2 i ht).2]
              rw [if_neg hm]
              rfl
            · rw [hwf id (by omega)]
              cases hg : (T k).H'.get id with
              | none => rfl
              | some x =>
                rcases hf.old id x hg with ⟨y, hy⟩ | hh
                · have := (sub_spec hc hmon hbig hk ho hy).2.2.1
                  rw [hwf id (by omega)] at this; cases this
                · exact absurd (.inr hh) h
theorem law {h0 : ∀ id, (S 0).H.nx ≤ id → (S 0).H.get id = none} : ∀ {k : Nat}, k ≤ ops.size → (∀ i, i < k → Fact S T i) →
    (∀ id, (S k).H.nx ≤ id → (S k).H.get id = none) ∧ ∀ id, (S k).H.get id = ovH S T (fun _ => True) k id
  | 0, _, _ => ⟨h0, fun _ => rfl⟩
  | k + 1, hk, hf => by
    obtain ⟨hw, hl⟩ := law (h0 := h0) (k := k) (by omega) fun i hi => hf i (by omega)
    have hs := law_step hc hmon hbig (k := k) (by omega) (hf k (by omega)) hw
    have hn := nx_step hc hmon (k := k) (by omega)
    refine ⟨fun id hid => ?_, fun id => ?_⟩
    · rw [(hs id).2 fun ht => ?_]
      · exact hw id (by omega)
      · have := touch_lt hc hmon (by omega) ht
        omega
    · by_cases ht : touch S T k id
      · rw [(hs id).1 ht, ovH_pos trivial ht]
      · rw [(hs id).2 ht, hl, ovH_neg fun _ => ht]
variable {D : Nat → Prop}
omit hc hmon hbig in
theorem closed_of (he : ∀ i o, ops[i]? = some o → D i → ∀ e ∈ o.after.toList, uncond e = true → D e.on) : ∀ (k i : Nat), i < k → i < ops.size → D i → ∀ b, Nat.testBit (mask ops i) b = true → D b
  | 0, i, h, _, _, _, _ => by omega
  | k + 1, i, h, hi, hd, b, hb => by
    obtain ⟨o, ho⟩ := ops_at hi
    have hb' : Nat.testBit ((masks [] 0 ops.toList).getD (0 + i) 0) b = true := by rw [Nat.zero_add]; exact hb
    obtain ⟨e, he1, hu, hlt, hor⟩ := masks_spec ops.toList [] 0 rfl i o (by simpa using ho) b hb'
    have hde := he i o ho hd e he1 hu
    rcases hor with rfl | hor
    · exact hde
    · exact closed_of he k e.on (by omega) (by omega) hde b hor
omit hc hmon hbig in
theorem preds_of (he : ∀ i o, ops[i]? = some o → D i → ∀ e ∈ o.after.toList, uncond e = true → D e.on) {j : Nat} {o : Oper} (ho : ops[j]? = some o) (hj : ∀ e ∈ o.after.toList, uncond e = true → D e.on) (b : Nat) (hb : Nat.testBit (mask ops j) b = true) : D b := by
  have hlt : j < ops.size := getElem?_lt' ho
  have hb' : Nat.testBit ((masks [] 0 ops.toList).getD (0 + j) 0) b = true := by rw [Nat.zero_add]; exact hb
  obtain ⟨e, he1, hu, hl, hor⟩ := masks_spec ops.toList [] 0 rfl j o (by simpa using ho) b hb'
  have hde := hj e he1 hu
  rcases hor with rfl | hor
  · exact hde
  · exact closed_of he (e.on + 1) e.on (by omega) (by omega) hde b hor
where getElem?_lt' {j : Nat} {o : Oper} (h : ops[j]? = some o) : j < ops.size := (Array.getElem?_eq_some_iff.1 h).1
omit hmon hbig in
theorem apart_of {i j : Nat} (hij : i < j) {x y : Oper} (hx : ops[i]? = some x) (hy : ops[j]? = some y) (hb : Nat.testBit (mask ops j) i = false) : clash ops x y = false := by
  have hs := hc.stat
  unfold statOK at hs
  rw [Bool.and_eq_true] at hs
  have := statAll_spec (pre := []) hs.1 j y (by simpa using hy) i x (by simpa using hij) (by simpa using hx)
  exact this.resolve_left fun h => by rw [show (masks [] 0 ops.toList).getD j 0 = mask ops j from rfl, hb] at h; cases h
variable (hcl : ∀ i, i < ops.size → D i → ∀ b, Nat.testBit (mask ops i) b = true → D b) {j : Nat} (hj : j < ops.size) (hnd : ¬ D j)
include hcl hj hnd
theorem comm_H (id : Nat) (ht : touch S T j id) (i : Nat) (hji : j < i) (hi : i < ops.size) (hd : D i) : ¬ touch S T i id := by
  intro hti
  obtain ⟨o, ho⟩ := ops_at hj
  obtain ⟨oi, hoi⟩ := ops_at hi
  have hbit : Nat.testBit (mask ops i) j = false := by
    cases h : Nat.testBit (mask ops i) j with
    | false => rfl
    | true => exact absurd (hcl i hi hd j h) hnd
  have hran : (T j).ran = true := by
    cases h : (T j).ran with
    | false => exact absurd ht (no_touch hc ho h id)
    | true => rfl
  have hrani : (T i).ran = true := by
    cases h : (T i).ran with
    | false => exact absurd hti (no_touch hc hoi h id)
    | true => rfl
  have hnote : lookKind o ≠ 0 ∨ (S j).H.nx ≠ (T j).H'.nx := by
    rcases ht with ht | ht
    · obtain ⟨_, x, hx⟩ := wr_spec ht
      exact .inl (sub_spec hc hmon hbig hj ho hx).2.1
    · exact .inr (by omega)
  have hmem : didOf S T j ∈ unord (mask ops i) (S i).did := mem_unord.2 ⟨did_in hc ho hran hnote hji (by omega), hbit⟩
  rcases hti with hti | hti
  · obtain ⟨_, x, hx⟩ := wr_spec hti
    have := (sub_spec hc hmon hbig hi hoi hx).2.2.2 _ hmem
    rw [touched_didOf.2 ht] at this; cases this
  · have h1 := touch_lt hc hmon hj ht
    have h2 := c1_le hc hmon hji (k := i) (by omega)
    omega
omit hmon hbig hj in
theorem comm_T (t : Nat) (ht : dst ops j = some t) (i : Nat) (hji : j < i) (hi : i < ops.size) (hd : D i) : dst ops i ≠ some t := by
  intro hti
  obtain ⟨o, ho, hot⟩ := dst_some ht
  obtain ⟨oi, hoi, hoit⟩ := dst_some hti
  have hbit : Nat.testBit (mask ops i) j = false := by
    cases h : Nat.testBit (mask ops i) j with
    | false => rfl
    | true => exact absurd (hcl i hi hd j h) hnd
  exact ((clash_spec (apart_of hc hji ho hoi hbit)).1 t hot).2 hoit
variable (hp : ∀ b, Nat.testBit (mask ops j) b = true → D b)
include hp
theorem agree_H {h0 : ∀ id, (S 0).H.nx ≤ id → (S 0).H.get id = none} (hf : ∀ i, i < j → Fact S T i) (id : Nat) (x : AObj) (h : (T j).sub.get id = some x) : ovH S T D ops.size id = some x := by
  obtain ⟨o, ho⟩ := ops_at hj
  obtain ⟨hran, hlk, hg, hun⟩ := sub_spec hc hmon hbig hj ho h
  obtain ⟨hwf, hlaw⟩ := law hc hmon hbig (h0 := h0) (k := j) (by omega) hf
  have hid : id < (S j).H.nx := by
    rcases Nat.lt_or_ge id (S j).H.nx with hh | hh
    · exact hh
    · rw [hwf id hh] at hg; cases hg
  have e : ovH S T D ops.size id = ovH S T (fun i => i < j) ops.size id := by
    refine ovH_congr fun i hi hti => ⟨fun hd => ?_, fun hij => ?_⟩
    · rcases Nat.lt_or_ge i j with hh | hh
      · exact hh
      · exfalso
        have hne : i ≠ j := fun e => hnd (e ▸ hd)
        have hji : j < i := by omega
        obtain ⟨oi, hoi⟩ := ops_at hi
        have hbit : Nat.testBit (mask ops i) j = false := by
          cases h : Nat.testBit (mask ops i) j with
          | false => rfl
          | true => exact absurd (hcl i hi hd j h) hnd
        have hrani : (T i).ran = true := by
          cases h : (T i).ran with
          | false => exact absurd hti (no_touch hc hoi h id)
          | true => rfl
        have hmem : didOf S T j ∈ unord (mask ops i) (S i).did := mem_unord.2 ⟨did_in hc ho hran (.inl hlk) hji (by omega), hbit⟩
        rcases hti with hti | hti
        · obtain ⟨_, _, _, h4, _⟩ := (hc.link i oi hoi).yes hrani
          have := freeAll_spec h4 _ hmem id hti
          have h' : (didOf S T j).hin.get id = some x := h
          rw [h'] at this; cases this
        · have h2 := nx_mono hc hmon (i := j) (k := i) (by omega) (by omega)
          omega
    · obtain ⟨oi, hoi⟩ := ops_at hi
      have hrani : (T i).ran = true := by
        cases h : (T i).ran with
        | false => exact absurd hti (no_touch hc hoi h id)
        | true => rfl
      cases hb : Nat.testBit (mask ops j) i with
      | true => exact hp i hb
      | false =>
        exfalso
        have hnote : lookKind oi ≠ 0 ∨ (S i).H.nx ≠ (T i).H'.nx := by
          rcases hti with ht | ht
          · obtain ⟨_, x, hx⟩ := wr_spec ht
            exact .inl (sub_spec hc hmon hbig hi hoi hx).2.1
          · exact .inr (by omega)
        have := hun _ (mem_unord.2 ⟨did_in hc hoi hrani hnote hij (by omega), hb⟩)
        rw [touched_didOf.2 hti] at this; cases this
  rw [e, ovH_cut (k := j) (by omega) fun i h1 _ h2 => absurd h2 (by omega), ← hg, hlaw]
  exact ovH_congr fun i hi _ => ⟨fun _ => trivial, fun _ => hi⟩
end
section
variable {E : Env} {rec : Rec} {ops : Array Oper} {S : Nat → DS} {T : Nat → DR} (hc : Chain E rec ops S T)
include hc
theorem act_at : ∀ {k : Nat}, k ≤ ops.size → (S k).A = ovT ops S T (fun _ => True) k
  | 0, _ => rfl
  | k + 1, hk => by
    obtain ⟨o, ho⟩ := ops_at (ops := ops) (k := k) (by omega)
    rw [ovT_pos trivial, (hc.link k o ho).act, act_at (k := k) (by omega), dst_at ho]
theorem dst_lt {k x : Nat} (h : dst ops k = some x) : x < (S 0).A.nt := by
  obtain ⟨o, ho, hx⟩ := dst_some h
  have hlt : k < ops.size := (Array.getElem?_eq_some_iff.1 ho).1
  have := (hc.link k o ho).slot x hx
  rw [act_at hc (k := k) (by omega), ovT_nt] at this
  exact this
theorem agree_T (_ : (S 0).A.nt ≤ 1048576) {D : Nat → Prop} (hcl : ∀ i, i < ops.size → D i → ∀ b, Nat.testBit (mask ops i) b = true → D b) {j : Nat} (hj : j < ops.size) (hnd : ¬ D j) (hp : ∀ b, Nat.testBit (mask ops j) b = true → D b)
    {o : Oper} (ho : ops[j]? = some o) {t : Nat} (ht : t ∈ slotsOf ops o) : (ovT ops S T D ops.size).tm.get t = (S j).A.tm.get t := by
  have hlt : ∀ k x, dst ops k = some x → x < x + 1 := fun k x h => Nat.lt_succ_self _
  have e : (ovT ops S T D ops.size).tm.get t = (ovT ops S T (fun i => i < j) ops.size).tm.get t := by
    refine ovT_congr hlt fun i hi hti => ⟨fun hd => ?_, fun hij => ?_⟩
    · rcases Nat.lt_or_ge i j with hh | hh
      · exact hh
      · exfalso
        have hne : i ≠ j := fun e => hnd (e ▸ hd)
        have hji : j < i := by omega
        obtain ⟨oi, hoi, hoit⟩ := dst_some hti
        have hbit : Nat.testBit (mask ops i) j = false := by
          cases h : Nat.testBit (mask ops i) j with
          | false => rfl
          | true => exact absurd (hcl i hi hd j h) hnd
        exact (clash_spec (apart_of hc hji ho hoi hbit)).2 t hoit ht
    · obtain ⟨oi, hoi, hoit⟩ := dst_some hti
      cases hb : Nat.testBit (mask ops j) i with
      | true => exact hp i hb
      | false => exact absurd ht ((clash_spec (apart_of hc hij hoi ho hb)).1 t hoit).1
  rw [e, ovT_cut hlt (k := j) (by omega) fun i h1 _ h2 => absurd h2 (by omega), act_at hc (k := j) (by omega)]
  exact ovT_congr hlt fun i hi _ => ⟨fun _ => trivial, fun _ => hi⟩
omit hc in
theorem ev_agree {tm tm' : PT AV} {x : Operand} (h : ∀ t, x = .tmp t → tm.get t = tm'.get t) : ev tm x = ev tm' x := by
  cases x with
  | tmp t =>
    show optE (tm.get t) undefA (fun v => v) = optE (tm'.get t) undefA (fun v => v)
    rw [h t rfl]
  | _ => rfl
omit hc in
theorem wantK_agree {tm tm' : PT AV} {o : Oper} (h : ∀ t ∈ slotsOf ops o, tm.get t = tm'.get t) (y n : R (AAct × Hp)) : wantK tm (gOf ops.toList o.guard) y n = wantK tm' (gOf ops.toList o.guard) y n := by
  cases hg : o.guard with
  | none => rfl
  | some p =>
    obtain ⟨q, w⟩ := p
    unfold gOf
    simp only [Array.getElem?_toList]
    cases hq : ops[q]? with
    | none => rfl
    | some oq =>
      cases hd : oq.dst with
      | none => simp only [hd]; rfl
      | some t =>
        have ht : t ∈ slotsOf ops o := by
          unfold slotsOf
          refine List.mem_append_right _ ?_
          rw [hg]
          unfold guardSlot
          simp [hq, hd]
        simp only [hd]
        unfold wantK
        simp only [optE_some]
        rw [h t ht]
end
end Go.Eng
namespace Go.Eng
open Go
theorem TmR.ext {β : Pl} {tm tm' : PT AV} {nt : Nat} {tmps : Array Value} (h : TmR β tm nt tmps) (he : ∀ t, tm'.get t = tm.get t) : TmR β tm' nt tmps :=
  ⟨h.1, h.2.1, fun t => by rw [he]; exact h.2.2 t⟩
theorem ObjR.has {β : Pl} {w : World} {id : Nat} {o : AObj} (h : ObjR β w id o) : ∃ g p, β id g = some p := by
  cases o with
  | arr cells e lo gen =>
    obtain ⟨p, hp, _⟩ := h.2.1 lo (Nat.le_refl _) h.1
    exact ⟨lo, p, hp⟩
  | oth x =>
    obtain ⟨p, hp, _⟩ := h
    exact ⟨0, p, hp⟩
  | ro x =>
    obtain ⟨p, hp, _⟩ := h
    exact ⟨0, p, hp⟩
structure St (ops : Array Oper) (S : Nat → DS) (T : Nat → DR) (m : Nat) (β0 : Pl) (w0 : World) (D : Nat → Prop) (β : Pl) (a : Act) (w : World) : Prop where
  tm : TmR β (ovT ops S T D ops.size).tm (S 0).A.nt a.tmps
  df : MarkR β (S 0).A.dfr a.defers
  obj : ∀ id o, ovH S T D ops.size id = some o → ObjR β w id o
  sep : ∀ id id' o o' g g' p p', ovH S T D ops.size id = some o → ovH S T D ops.size id' = some o' → genOK o g → genOK o' g' → β id g = some p → β id' g' = some p' → p.b = p'.b → id = id' ∨ (o.isRo = true ∧ o'.isRo = true)
  fresh : ∀ j, j < ops.size → ¬ D j → ∀ id g, (S j).H.nx ≤ id → id < (T j).H'.nx → β id g = none
  free : ∀ id g, (S ops.size).H.nx ≤ id → id < m → β id g = none
  sub : Sub β0 β
  loc : ∀ id g p, β id g = some p → β0 id g = some p ∨ ((S 0).H.nx ≤ id ∧ id < (S ops.size).H.nx) ∨ ∃ o, (S 0).H.get id = some o
  size : w0.heap.size ≤ w.heap.size
  os : w.os = w0.os
  tape : w.tape = w0.tape
  output : w.output = w0.output
  frame : ∀ b, b < w0.heap.size → (∀ id o g p, (S 0).H.get id = some o → genW o g → β0 id g = some p → p.b ≠ b) → w.heap[b]? = w0.heap[b]?
  prov : ∀ id o g p, ovH S T D ops.size id = some o → genOK o g → β id g = some p → w0.heap.size ≤ p.b ∨ ∃ o0 g0 p0, (S 0).H.get id = some o0 ∧ genOK o0 g0 ∧ β0 id g0 = some p0 ∧ p0.b = p.b ∧ o0.isRo = o.isRo
  dom : ∀ id o, (S 0).H.get id = some o → ∃ o', ovH S T D ops.size id = some o'
  old : ∀ id o, ovH S T D ops.size id = some o → (∃ o, (S 0).H.get id = some o) ∨ ((S 0).H.nx ≤ id ∧ id < (S ops.size).H.nx)
  far : ∀ b, b < w0.heap.size → (∀ id o g p, (∃ i, i < ops.size ∧ D i ∧ id ∈ (T i).wr (S i)) → (S 0).H.get id = some o → genW o g → β0 id g = some p → p.b ≠ b) → w.heap[b]? = w0.heap[b]?
theorem St.congr {ops : Array Oper} {S : Nat → DS} {T : Nat → DR} {m : Nat} {β0 : Pl} {w0 : World} {D D' : Nat → Prop} {β : Pl} {a : Act} {w : World} (h : St ops S T m β0 w0 D β a w) (hlt : ∀ k x, dst ops k = some x → x < x + 1)
    (hd : ∀ i, i < ops.size → (D i ↔ D' i)) : St ops S T m β0 w0 D' β a w := by
  have e : ∀ id, ovH S T D' ops.size id = ovH S T D ops.size id := fun id => ovH_congr fun i hi _ => (hd i hi).symm
  have e' : ∀ t, (ovT ops S T D' ops.size).tm.get t = (ovT ops S T D ops.size).tm.get t := fun t => ovT_congr hlt fun i hi _ => (hd i hi).symm
  exact { tm := h.tm.ext e', df := h.df, obj := fun id o ho => h.obj id o (by rw [← e]; exact ho), sep := fun id id' o o' g g' p p' h1 h2 => h.sep id id' o o' g g' p p' (by rw [← e]; exact h1) (by rw [← e]; exact h2),
          fresh := fun j hj hn => h.fresh j hj fun hh => hn ((hd j hj).1 hh), free := h.free, sub := h.sub, loc := h.loc, size := h.size, os := h.os, tape := h.tape, output := h.output, frame := h.frame,
          prov := fun id o g p h1 => h.prov id o g p (by rw [← e]; exact h1), dom := fun id o ho => by rw [e]; exact h.dom id o ho, old := fun id o ho => h.old id o (by rw [← e]; exact ho),
          far := fun b hb hn => h.far b hb fun id o g p ⟨i, h1, h2, h3⟩ => hn id o g p ⟨i, h1, (hd i h1).1 h2, h3⟩ }
section
variable {E : Env} {rec : Rec} {ops : Array Oper} {S : Nat → DS} {T : Nat → DR} (hc : Chain E rec ops S T) (hmon : RecM rec) (hbig : (S ops.size).H.nx ≤ (S ops.size).H.nx)
variable {m : Nat} {β0 : Pl} {w0 : World} {D : Nat → Prop} {β : Pl} {a : Act} {w : World}
theorem St.rel (h : St ops S T m β0 w0 D β a w) {j : Nat} (hj : j < ops.size) (hnd : ¬ D j) (hag : ∀ id x, (T j).sub.get id = some x → ovH S T D ops.size id = some x) (hwf : ∀ id x, (T j).sub.get id = some x → id < (S j).H.nx) :
    Rel (T j).H'.nx β ⟨(T j).sub, (S j).H.nx, []⟩ w where
  obj := fun id o ho => h.obj id o (hag id o ho)
  sep := fun id id' o o' g g' p p' h1 h2 => h.sep id id' o o' g g' p p' (hag id o h1) (hag id' o' h2)
  wf := fun id hid => by
    cases hg : (T j).sub.get id with
    | none => exact hg
    | some x => exact absurd (hwf id x hg) (by have : (S j).H.nx ≤ id := hid; omega)
  free := fun id g h1 h2 => h.fresh j hj hnd id g h1 h2
theorem Fact.of {j : Nat} {β β' : Pl} {w w' : World} (hx : Ext β ⟨(T j).sub, (S j).H.nx, []⟩ w β' (T j).H' w') : Fact S T j where
  dom := fun id o ho => hx.dom id o ho
  old := fun id o ho => hx.old id o ho
  log := fun id hid hn => by
    obtain ⟨l, hl, hg⟩ := hx.log
    have hl' : (T j).H'.log = l := by rw [hl]; simp
    by_cases hm : id ∈ l
    · cases hs : (T j).sub.get id with
      | some x => exact absurd (mem_wrOf.2 ⟨by rw [hl']; exact hm, hid, x, hs⟩) hn
      | none =>
        cases hg' : (T j).H'.get id with
        | none => rfl
        | some y =>
          rcases hx.old id y hg' with ⟨z, hz⟩ | hz
          · have : (T j).sub.get id = some z := hz
            rw [hs] at this; cases this
          · have : (S j).H.nx ≤ id := hz.1
            omega
    · exact hg id hid hm
include hc hmon
theorem St.step (_ : (S 0).A.nt ≤ 1048576) (h : St ops S T m β0 w0 D β a w) {j : Nat} (hj : j < ops.size) (hnd : ¬ D j) (hag : ∀ id x, (T j).sub.get id = some x → ovH S T D ops.size id = some x) (hwf : ∀ id x, (T j).sub.get id = some x → id < (S j).H.nx)
    (hcoH : ∀ id, touch S T j id → ∀ i, j < i → i < ops.size → D i → ¬ touch S T i id) (hcoT : ∀ t, dst ops j = some t → ∀ i, j < i → i < ops.size → D i → dst ops i ≠ some t)
    {v : Value} {w' : World} (ho : Out (T j).H'.nx β ⟨(T j).sub, (S j).H.nx, []⟩ w [((T j).av, (T j).H')] v w') : Fact S T j ∧ ∃ β', St ops S T m β0 w0 (fun i => D i ∨ i = j) β' (a.put (dst ops j) v) w' := by
  obtain ⟨x, hx, β', hv, hR', hx'⟩ := ho
  rw [List.mem_singleton] at hx
  subst hx
  have hx : Ext β ⟨(T j).sub, (S j).H.nx, []⟩ w β' (T j).H' w' := hx'
  have hf : Fact S T j := Fact.of hx
  refine ⟨hf, β', ?_⟩
  have hlt : ∀ k x, dst ops k = some x → x < x + 1 := fun k x h => Nat.lt_succ_self _
  have hadd := fun id => ovH_add (S := S) (T := T) (D := D) (id := id) hj (hcoH id)
  have h0j : (S 0).H.nx ≤ (S j).H.nx := nx_mono hc hmon (Nat.zero_le _) (by omega)
  have hjn : (T j).H'.nx ≤ (S ops.size).H.nx := c1_le hc hmon hj (Nat.le_refl _)
  have split_ : ∀ id o, ovH S T (fun i => D i ∨ i = j) ops.size id = some o →
      ((T j).H'.get id = some o ∧ ((∃ y, (T j).sub.get id = some y) ∨ ((S j).H.nx ≤ id ∧ id < (T j).H'.nx))) ∨ (ovH S T D ops.size id = some o ∧ (T j).sub.get id = none ∧ ¬ touch S T j id) := by
    intro id o hg
    by_cases ht : touch S T j id
    · rw [(hadd id).1 ht] at hg
      refine .inl ⟨hg, ?_⟩
      rcases ht with ht | ht
      · exact .inl (wr_spec ht).2
      · exact .inr ht
    · rw [(hadd id).2 ht] at hg
      cases hs : (T j).sub.get id with
      | none => exact .inr ⟨hg, rfl, ht⟩
      | some y =>
        have := hag id y hs
        rw [hg] at this
        cases this
        refine .inl ⟨?_, .inl ⟨_, rfl⟩⟩
        rw [hf.log id (hwf id _ hs) fun hh => ht (.inl hh)]
        exact hs
  have hstay : ∀ id, (T j).sub.get id = none → ¬ touch S T j id → ∀ g, β' id g = β id g := by
    intro id hs ht g
    cases hb : β' id g with
    | some p =>
      rcases hx.loc id g p hb with h1 | h1 | ⟨o, h1⟩
      · exact h1.symm
      · exact absurd (.inr h1) ht
      · have : (T j).sub.get id = some o := h1
        rw [hs] at this; cases this
    | none =>
      cases hb' : β id g with
      | none => rfl
      | some p => rw [hx.sub id g p hb'] at hb; cases hb
  have hkeep : ∀ id o g p, ovH S T D ops.size id = some o → (T j).sub.get id = none → genOK o g → β id g = some p → w'.heap[p.b]? = w.heap[p.b]? := by
    intro id o g p hg hs hgk hp
    refine hx.frame p.b ((h.obj id o hg).lt hgk hp) fun id' o' g' p' h1 h2 h3 h4 => ?_
    have h1' : (T j).sub.get id' = some o' := h1
    rcases h.sep id' id o' o g' g p' p (hag id' o' h1') hg h2.1 hgk h3 hp h4 with this | ⟨this, _⟩
    · subst this
      rw [hs] at h1'; cases h1'
    · rw [h2.2] at this; cases this
  have hafter : ∀ id o g p, ((T j).H'.get id = some o ∧ ((∃ y, (T j).sub.get id = some y) ∨ ((S j).H.nx ≤ id ∧ id < (T j).H'.nx))) → genOK o g → β' id g = some p →
      w.heap.size ≤ p.b ∨ ∃ o0 g0 p0, ovH S T D ops.size id = some o0 ∧ genOK o0 g0 ∧ β id g0 = some p0 ∧ p0.b = p.b ∧ o0.isRo = o.isRo := by
    intro id o g p hg hgk hp
    rcases hx.prov id o g p hg.1 hgk hp with h1 | ⟨o0, g0, p0, h1, h2, h3, h4⟩
    · exact .inl h1
    · exact .inr ⟨o0, g0, p0, hag id o0 h1, h2, h3, h4⟩
  have hobj : ∀ id o, ovH S T (fun i => D i ∨ i = j) ops.size id = some o → ObjR β' w' id o := by
    intro id o hg
    rcases split_ id o hg with hl | ⟨hg', hs, ht⟩
    · exact hR'.obj id o hl.1
    · exact ObjR.mono hx.sub (h.obj id o hg') (hstay id hs ht) fun g p hgk hp => hkeep id o g p hg' hs hgk hp
  have hsubnone : ∀ id, (∀ g, β id g = none) → (T j).sub.get id = none := by
    intro id hn
    cases hs : (T j).sub.get id with
    | none => rfl
    | some y =>
      obtain ⟨g, p, hp⟩ := (h.obj id y (hag id y hs)).has
      rw [hn g] at hp; cases hp
  refine { tm := ?_, df := ?_, obj := hobj, sep := ?_, fresh := ?_, free := ?_, sub := fun id g p hp => hx.sub _ _ _ (h.sub _ _ _ hp), loc := ?_, size := Nat.le_trans h.size hx.size, os := hx.os.trans h.os, tape := hx.tape.trans h.tape,
           output := hx.output.trans h.output, frame := ?_, prov := ?_, dom := ?_, old := ?_, far := ?_ }
  · -- slots
    have h1 := h.tm.mono hx.sub
    have h2 : TmR β' (putT (ovT ops S T D ops.size) (dst ops j) (T j).av).tm (S 0).A.nt (a.put (dst ops j) v).tmps := by
      cases hd : dst ops j with
      | none => exact h1
      | some d => exact h1.put (dst_lt hc hd) hv
    exact h2.ext fun t => ovT_add hlt hj hcoT t
  · have h1 := MarkR.mono hx.sub h.df
    cases dst ops j with
    | none => exact h1
    | some d => exact h1
  · -- apart
    intro id id' o o' g g' p p' h1 h2 h3 h4 h5 h6 h7
    rcases split_ id o h1 with hl | ⟨hg1, hs1, ht1⟩
    · rcases split_ id' o' h2 with hl' | ⟨hg2, hs2, ht2⟩
      · exact hR'.sep id id' o o' g g' p p' hl.1 hl'.1 h3 h4 h5 h6 h7
      · rw [hstay id' hs2 ht2] at h6
        rcases hafter id o g p hl h3 h5 with h8 | ⟨o0, g0, p0, a1, a2, a3, a4, a5⟩
        · have := (h.obj id' o' hg2).lt h4 h6
          omega
        · rw [← a5]; exact h.sep id id' o0 o' g0 g' p0 p' a1 hg2 a2 h4 a3 h6 (a4.trans h7)
    · rw [hstay id hs1 ht1] at h5
      rcases split_ id' o' h2 with hl' | ⟨hg2, hs2, ht2⟩
      · rcases hafter id' o' g' p' hl' h4 h6 with h8 | ⟨o0, g0, p0, a1, a2, a3, a4, a5⟩
        · have := (h.obj id o hg1).lt h3 h5
          omega
        · rw [← a5]; exact h.sep id id' o o0 g g0 p p0 hg1 a1 h3 a2 h5 a3 (h7.trans a4.symm)
      · rw [hstay id' hs2 ht2] at h6
        exact h.sep id id' o o' g g' p p' hg1 hg2 h3 h4 h5 h6 h7
  · -- what others will make is free
    intro k hk hn id g h1 h2
    have hnk : ¬ D k := fun hh => hn (.inl hh)
    have hkj : k ≠ j := fun hh => hn (.inr hh)
    have hb : ∀ g, β id g = none := fun g => h.fresh k hk hnk id g h1 h2
    have hnt' : ¬ touch S T j id := by
      rintro (ht | ht)
      · obtain ⟨_, y, hy⟩ := wr_spec ht
        rw [hsubnone id hb] at hy; cases hy
      · rcases Nat.lt_or_ge k j with hh | hh
        · have := c1_le hc hmon hh (k := j) (by omega)
          omega
        · have hjk : j < k := by omega
          have := c1_le hc hmon hjk (k := k) (by omega)
          omega
    rw [hstay id (hsubnone id hb) hnt']
    exact hb g
  · -- what lies behind is free
    intro id g h1 h2
    have hb : ∀ g, β id g = none := fun g => h.free id g h1 h2
    have hnt' : ¬ touch S T j id := fun ht => by
      have := touch_lt hc hmon hj ht
      omega
    rw [hstay id (hsubnone id hb) hnt']
    exact hb g
  · intro id g p hp
    rcases hx.loc id g p hp with h1 | h1 | ⟨o, h1⟩
    · exact h.loc id g p h1
    · exact .inr (.inl ⟨Nat.le_trans h0j h1.1, Nat.lt_of_lt_of_le h1.2 hjn⟩)
    · rcases h.old id o (hag id o h1) with h2 | h2
      · exact .inr (.inr h2)
      · exact .inr (.inl h2)
  · intro b hb hn
    rw [hx.frame b (Nat.lt_of_lt_of_le hb h.size) ?_, h.frame b hb hn]
    intro id o g p h1 h2 h3 h4
    rcases h.prov id o g p (hag id o h1) h2.1 h3 with h5 | ⟨o0, g0, p0, a1, a2, a3, a4, a5⟩
    · omega
    · exact hn id o0 g0 p0 a1 ⟨a2, a5.trans h2.2⟩ a3 (a4.trans h4)
  · intro id o g p h1 h2 h3
    rcases split_ id o h1 with hl | ⟨hg1, hs1, ht1⟩
    · rcases hafter id o g p hl h2 h3 with h8 | ⟨o0, g0, p0, a1, a2, a3, a4, a5⟩
      · have := h.size
        exact .inl (by omega)
      · rcases h.prov id o0 g0 p0 a1 a2 a3 with h5 | ⟨o1, g1, p1, b1, b2, b3, b4, b5⟩
        · exact .inl (by omega)
        · exact .inr ⟨o1, g1, p1, b1, b2, b3, b4.trans a4, b5.trans a5⟩
    · rw [hstay id hs1 ht1] at h3
      exact h.prov id o g p hg1 h2 h3
  · intro id o h1
    by_cases ht : touch S T j id
    · rw [(hadd id).1 ht]
      rcases ht with ht | ht
      · obtain ⟨_, y, hy⟩ := wr_spec ht
        exact hf.dom id y hy
      · obtain ⟨o', ho'⟩ := h.dom id o h1
        obtain ⟨g, p, hp⟩ := (h.obj id o' ho').has
        rw [h.fresh j hj hnd id g ht.1 ht.2] at hp; cases hp
    · rw [(hadd id).2 ht]
      exact h.dom id o h1
  · intro id o h1
    rcases split_ id o h1 with ⟨_, ⟨y, hy⟩ | hl⟩ | ⟨hg1, _, _⟩
    · exact h.old id y (hag id y hy)
    · exact .inr ⟨Nat.le_trans h0j hl.1, Nat.lt_of_lt_of_le hl.2 hjn⟩
    · exact h.old id o hg1
  · intro b hb hn
    rw [hx.far (T j).H'.log (by simp) b (Nat.lt_of_lt_of_le hb h.size) ?_, h.far b hb fun id o g p ⟨i, h1, h2, h3⟩ => hn id o g p ⟨i, h1, .inl h2, h3⟩]
    intro id o g p hid h1 h2 h3 h4
    have h1' : (T j).sub.get id = some o := h1
    rcases h.prov id o g p (hag id o h1') h2.1 h3 with h5 | ⟨o0, g0, p0, a1, a2, a3, a4, a5⟩
    · omega
    · exact hn id o0 g0 p0 ⟨j, hj, .inr rfl, mem_wrOf.2 ⟨hid, hwf id o h1', o, h1'⟩⟩ a1 ⟨a2, a5.trans h2.2⟩ a3 (a4.trans h4)
end
theorem uponIn_out {F : Fence} {n : Nat} {P : Program} {o : Oper} {a : Act} {X : Prop} {r : Result Next} (hF : ∀ k, F.room k) (_ : World) (h : o.uponIn F n P a (fun _ _ => X) (fun _ _ _ => False) r) : X := by
  cases r with
  | halt x w' => cases x <;> exact False.elim h
  | ok x w' =>
    cases x with
    | value v => exact h
    | skip => exact h
    | defer d => exact h
    | enter f args =>
      obtain ⟨e, w'', fr, hr, _⟩ := h.2.2 [] (hF _)
      cases e with
      | returned v => exact hr
      | panicked c => exact False.elim hr
      | outgrown => obtain ⟨_, _, hr⟩ := hr; exact False.elim hr
    | row row args =>
      obtain ⟨v, w'', hr, _⟩ := h.2 (Frame.enter P 0 #[] .normal) [] (hF _)
      exact hr
    | round l f tmps assign body =>
      obtain ⟨e, w'', hr, _⟩ := h.2.2 (Frame.enter P 0 #[] .normal) [] (hF _)
      cases e with
      | returned v => exact hr
      | panicked c => exact False.elim hr
      | outgrown => obtain ⟨_, _, hr⟩ := hr; exact False.elim hr
    | _ => exact False.elim h
section
variable {E : Env} (hE : EnvS E) {N : Nat} {rec : Rec} (hrec : RecS E.P N rec) (hmon : RecM rec)
variable {ops : Array Oper} {S : Nat → DS} {T : Nat → DR} (hc : Chain E rec ops S T) (hbig : (S ops.size).H.nx ≤ (S ops.size).H.nx) (hnt : (S 0).A.nt ≤ 1048576) (h0 : ∀ id, (S 0).H.nx ≤ id → (S 0).H.get id = none)
variable {m : Nat} {β0 : Pl} {w0 : World}
include hE hrec hmon hc hbig hnt h0
theorem take {D : Nat → Prop} (hcl : ∀ i, i < ops.size → D i → ∀ b, Nat.testBit (mask ops i) b = true → D b) {j : Nat} (hj : j < ops.size) (hnd : ¬ D j) (hp : ∀ b, Nat.testBit (mask ops j) b = true → D b) (hf : ∀ i, i < j → Fact S T i)
    {β : Pl} {a : Act} {w : World} (h : St ops S T m β0 w0 D β a w) {rB : Option Nat} {Q : Exit → Act → World → Prop} {K : Act → World → Prop}
    (hK : ∀ v w', Fact S T j → (∃ β', St ops S T m β0 w0 (fun i => D i ∨ i = j) β' (a.put (dst ops j) v) w') → K (a.put (dst ops j) v) w') : wpOpIn (fen rB) 0 E.P ops Q j K a w := by
  obtain ⟨o, ho⟩ := ops_at hj
  obtain ⟨hwfj, _⟩ := law hc hmon hbig (h0 := h0) (k := j) (by omega) hf
  have hag := agree_H hc hmon hbig hcl hj hnd hp (h0 := h0) hf
  have hwf : ∀ id x, (T j).sub.get id = some x → id < (S j).H.nx := fun id x hx => by
    have := (sub_spec hc hmon hbig hj ho hx).2.2.1
    rcases Nat.lt_or_ge id (S j).H.nx with hh | hh
    · exact hh
    · rw [hwfj id hh] at this; cases this
  have hR := h.rel hj hnd hag hwf
  have hstep := fun {v w'} ho => St.step (v := v) (w' := w') hc hmon hnt h hj hnd hag hwf (comm_H hc hmon hbig hcl hj hnd) (comm_T hc hcl hnd) ho
  have hm1 : (T j).H'.nx ≤ (T j).H'.nx := Nat.le_refl _
  have hslots : ∀ t ∈ slotsOf ops o, (ovT ops S T D ops.size).tm.get t = (S j).A.tm.get t := fun t ht => agree_T hc hnt hcl hj hnd hp ho ht
  have hA : ActR β ⟨(ovT ops S T D ops.size).tm, (S 0).A.nt, (S 0).A.dfr⟩ a := ⟨h.tm, h.df⟩
  have hwk := wantK_agree hslots
  unfold wpOpIn
  rw [ho]
  simp only
  have hd := dst_at ho
  cases hr : (T j).ran with
  | true =>
    obtain ⟨h1, _, h3, _⟩ := (hc.link j o ho).yes hr
    have hw : Region.wanted o (yielded ops a.tmps) = true := by
      have hk := hwk (.ok []) (.bad "")
      rw [h1] at hk
      rcases wantK_ok h.tm hk with ⟨hw, _⟩ | ⟨_, hb⟩
      · exact hw
      · cases hb
    rw [if_pos hw]
    have hcong : (stepF E.P o).run (ovT ops S T D ops.size).tm ⟨(T j).sub, (S j).H.nx, []⟩ = (stepF E.P o).run (S j).A.tm ⟨(T j).sub, (S j).H.nx, []⟩ := by
      refine step_congr o fun x hx => ev_agree fun t ht => hslots t ?_
      unfold slotsOf
      subst ht
      exact List.mem_append_left _ (List.mem_filterMap.2 ⟨.tmp t, hx, rfl⟩)
    have h3' : evNext E rec ⟨(T j).sub, (S j).H.nx, []⟩ ((stepF E.P o).run (ovT ops S T D ops.size).tm ⟨(T j).sub, (S j).H.nx, []⟩) = .ok [((T j).av, (T j).H')] := by
      rw [hcong]; exact h3
    refine oper_ok (A := ⟨(ovT ops S T D ops.size).tm, (S 0).A.nt, (S 0).A.dfr⟩) hE hrec hmon hm1 hR hA h3' (fun x hx => by rw [List.mem_singleton.1 hx]; exact Nat.le_refl _) fun v w' hout => ?_
    rw [← hd]
    have := hstep hout
    exact hK v w' this.1 this.2
  | false =>
    obtain ⟨h1, h2, h3, h4, _⟩ := (hc.link j o ho).no hr
    have hw : Region.wanted o (yielded ops a.tmps) = false := by
      have hk := hwk (.bad "") (.ok [])
      rw [h1] at hk
      rcases wantK_ok h.tm hk with ⟨_, hb⟩ | ⟨hw, _⟩
      · cases hb
      · exact hw
    rw [if_neg (by rw [hw]; exact Bool.false_ne_true)]
    refine ⟨fun _ _ => trivial, ?_⟩
    rw [← hd]
    have hout : Out (T j).H'.nx β ⟨(T j).sub, (S j).H.nx, []⟩ w [((T j).av, (T j).H')] undef w := by
      refine ⟨_, List.mem_singleton.2 rfl, β, ?_, ?_, ?_⟩
      · show AR β (T j).av undef
        rw [h2]; exact AR_undef β
      · show Rel _ β (T j).H' w
        rw [h3] at hR
        have e : (T j).H' = ⟨.leaf, (S j).H.nx, []⟩ := h4
        rw [e]
        rw [e] at hR
        exact hR
      · show Ext β _ w β (T j).H' w
        rw [h3, h4]
        exact Ext.refl _ _ _
    have := hstep hout
    exact hK undef w this.1 this.2
theorem facts (hstart : ∃ a, St ops S T m β0 w0 (fun _ => False) β0 a w0) : ∀ k, k ≤ ops.size → (∀ i, i < k → Fact S T i) ∧ ∃ β a w, St ops S T m β0 w0 (fun i => i < k) β a w
  | 0, _ => by
    obtain ⟨a, h⟩ := hstart
    have hlt : ∀ k x, dst ops k = some x → x < x + 1 := fun k x h => Nat.lt_succ_self _
    exact ⟨fun i hi => by omega, β0, a, w0, h.congr hlt fun i _ => ⟨False.elim, fun h => by omega⟩⟩
  | k + 1, hk => by
    have hlt : ∀ k x, dst ops k = some x → x < x + 1 := fun k x h => Nat.lt_succ_self _
    obtain ⟨hf, β, a, w, h⟩ := facts hstart k (by omega)
    have hs := hc.stat
    unfold statOK at hs
    rw [Bool.and_eq_true] at hs
    have hback : ∀ i o, ops[i]? = some o → ∀ e ∈ o.after.toList, uncond e = true → e.on < i := fun i o ho e he hu => by
      have := edgesBack_spec hs.2 i o (by simpa using ho) e he hu
      omega
    obtain ⟨ok, hok⟩ := ops_at (ops := ops) (k := k) (by omega)
    have hcl : ∀ i, i < ops.size → i < k → ∀ b, Nat.testBit (mask ops i) b = true → b < k := fun i hi hik => closed_of (D := fun i => i < k) (fun i o ho hd e he hu => Nat.lt_trans (hback i o ho e he hu) hd) (i + 1) i (by omega) hi hik
    have hp : ∀ b, Nat.testBit (mask ops k) b = true → b < k := preds_of (D := fun i => i < k) (fun i o ho hd e he hu => Nat.lt_trans (hback i o ho e he hu) hd) hok fun e he hu => hback k ok hok e he hu
    have hwp := take hE hrec hmon hc hbig hnt h0 (D := fun i => i < k) hcl (j := k) (by omega) (by omega) hp hf h (rB := none) (Q := fun _ _ _ => False)
      (K := fun _ _ => Fact S T k ∧ ∃ β a w, St ops S T m β0 w0 (fun i => i < k + 1) β a w) fun v w' h1 ⟨β', h2⟩ => ⟨h1, β', _, _, h2.congr hlt fun i _ => by omega⟩
    have hX : Fact S T k ∧ ∃ β a w, St ops S T m β0 w0 (fun i => i < k + 1) β a w := by
      unfold wpOpIn at hwp
      rw [hok] at hwp
      simp only at hwp
      split at hwp
      · exact uponIn_out (fun k d hd => by simp [fen] at hd) w0 hwp.2
      · exact hwp.2
    refine ⟨fun i hi => ?_, hX.2⟩
    rcases Nat.lt_or_ge i k with hh | hh
    · exact hf i hh
    · have : i = k := by omega
      subst this
      exact hX.1
theorem any_order (hf : ∀ i, i < ops.size → Fact S T i) {rB : Option Nat} {Q : Exit → Act → World → Prop} (hQ : ∀ β a w, St ops S T m β0 w0 (fun _ => True) β a w → Q .normal a w) :
    ∀ (fuel : Nat) (listed : Array Bool) (β : Pl) (a : Act) (w : World), listed.size = ops.size → (∀ i o, ops[i]? = some o → listed.getD i false = true → ∀ e ∈ o.after.toList, uncond e = true → listed.getD e.on false = true) →
      ((List.range ops.size).filter fun i => !listed.getD i false).length ≤ fuel → St ops S T m β0 w0 (fun i => listed.getD i false = true) β a w → wpAnyIn (fen rB) 0 E.P .any ops Q fuel listed a w := by
  have hlt : ∀ k x, dst ops k = some x → x < x + 1 := fun k x h => Nat.lt_succ_self _
  have hbinds : ∀ e, Region.binds .any e = uncond e := fun e => by
    unfold Region.binds uncond
    cases e.ground <;> rfl
  have hs := hc.stat
  unfold statOK at hs
  rw [Bool.and_eq_true] at hs
  have hback : ∀ i o, ops[i]? = some o → ∀ e ∈ o.after.toList, uncond e = true → e.on < i := fun i o ho e he hu => by
    have := edgesBack_spec hs.2 i o (by simpa using ho) e he hu
    omega
  have hall : ∀ (listed : Array Bool), listed.size = ops.size → Region.ready .any ops listed = [] → ∀ k i, i < k → i < ops.size → listed.getD i false = true := by
    intro listed hsz hr k
    induction k with
    | zero => intro i hi; omega
    | succ k ih =>
      intro i hi hio
      cases hl : listed.getD i false with
      | true => rfl
      | false =>
        exfalso
        obtain ⟨o, ho⟩ := ops_at hio
        have hlt' : i < listed.size := by omega
        have : i ∈ Region.ready .any ops listed := mem_ready.2 ⟨by simp [hlt'] at hl ⊢; exact hl, o, ho, fun e he hb => by
          rw [hbinds] at hb
          have := hback i o ho e (by simpa using he) hb
          exact ih e.on (by omega) (by omega)⟩
        rw [hr] at this; cases this
  intro fuel
  induction fuel with
  | zero =>
    intro listed β a w hsz hcl hn h
    have hl0 : (List.range ops.size).filter (fun i => !listed.getD i false) = [] := List.eq_nil_of_length_eq_zero (by omega)
    have hD : ∀ i, i < ops.size → listed.getD i false = true := fun i hi => by
      cases hl : listed.getD i false with
      | true => rfl
      | false =>
        have : i ∈ (List.range ops.size).filter (fun i => !listed.getD i false) := List.mem_filter.2 ⟨List.mem_range.2 hi, by rw [hl]; rfl⟩
        rw [hl0] at this; cases this
    refine ⟨?_, hQ β a w (h.congr hlt fun i hi => ⟨fun _ => trivial, fun _ => hD i hi⟩)⟩
    cases hr : Region.ready .any ops listed with
    | nil => rfl
    | cons i l =>
      have hi : i ∈ Region.ready .any ops listed := by rw [hr]; exact List.mem_cons_self ..
      obtain ⟨h1, o, ho, _⟩ := mem_ready.1 hi
      have hio : i < ops.size := (Array.getElem?_eq_some_iff.1 ho).1
      have := hD i hio
      have hlt' : i < listed.size := by omega
      simp [hlt'] at h1 this
      rw [h1] at this; cases this
  | succ fuel ih =>
    intro listed β a w hsz hcl hn h
    refine ⟨fun hr => hQ β a w (h.congr hlt fun i hi => ⟨fun _ => trivial, fun _ => hall listed hsz hr (i + 1) i (by omega) hi⟩), fun i hi => ?_⟩
    obtain ⟨h1, o, ho, he⟩ := mem_ready.1 hi
    have hio : i < ops.size := (Array.getElem?_eq_some_iff.1 ho).1
    have hlt' : i < listed.size := by omega
    have hni : ¬ listed.getD i false = true := by
      simp [hlt'] at h1 ⊢
      exact h1
    have hedge : ∀ e ∈ o.after.toList, uncond e = true → listed.getD e.on false = true := fun e he' hu => he e (by simpa using he') (by rw [hbinds]; exact hu)
    have hclm : ∀ k, k < ops.size → listed.getD k false = true → ∀ b, Nat.testBit (mask ops k) b = true → listed.getD b false = true := fun k hk hd => closed_of (D := fun i => listed.getD i false = true) hcl (k + 1) k (by omega) hk hd
    have hpm := preds_of (D := fun i => listed.getD i false = true) hcl ho hedge
    refine take hE hrec hmon hc hbig hnt h0 (D := fun i => listed.getD i false = true) hclm hio hni hpm (fun k hk => hf k (by omega)) h fun v w' _ ⟨β', h2⟩ => ?_
    have hset : ∀ k, k < ops.size → ((listed.setIfInBounds i true).getD k false = true ↔ (listed.getD k false = true ∨ k = i)) := fun k hk => by
      by_cases hki : k = i
      · subst hki; simp [hlt']
      · rw [getD_set_ne false (fun hh => hki hh.symm)]
        simp [hki]
    refine ih (listed.setIfInBounds i true) β' _ w' (by simp [hsz]) (fun k ok hok hk e he' hu => ?_) ?_ (h2.congr hlt fun k hk => (hset k hk).symm)
    · have hko : k < ops.size := (Array.getElem?_eq_some_iff.1 hok).1
      rcases (hset k hko).1 hk with hk | rfl
      · exact getD_set_true (hcl k ok hok hk e he' hu)
      · rw [ho] at hok
        cases hok
        exact getD_set_true (hedge e he' hu)
    · -- one fewer
      have hlen : ((List.range ops.size).filter fun k => !(listed.setIfInBounds i true).getD k false).length < ((List.range ops.size).filter fun k => !listed.getD k false).length := by
        have hsub : (List.range ops.size).filter (fun k => !(listed.setIfInBounds i true).getD k false) = ((List.range ops.size).filter fun k => !listed.getD k false).filter fun k => !Nat.beq k i := by
          rw [List.filter_filter]
          refine List.filter_congr fun k hk => ?_
          have hk' := List.mem_range.1 hk
          have := hset k hk'
          cases h1 : (listed.setIfInBounds i true).getD k false <;> cases h2 : listed.getD k false <;> cases h3 : Nat.beq k i <;> simp_all
        rw [hsub]
        refine List.length_filter_lt_length_iff_exists.2 ⟨i, List.mem_filter.2 ⟨List.mem_range.2 hio, by simpa using hni⟩, by simp⟩
      omega
end
theorem drawS {E : Env} (hE : EnvS E) : DrawS E := by
  intro N rec hrec hmon m β H w A a id ops rB outs hm hR hA hstat h hb
  obtain ⟨l, hl, hk⟩ := R.bind_mem h
  obtain ⟨S, T, hs0, hlink, hend⟩ := chain_of ops.toList 0 _ _ _ _ _ hl
  have hsz : ops.toList.length = ops.size := by simp
  rw [hsz] at hend
  have hc : Chain E rec ops S T := ⟨by rw [hs0], fun k o ho => by
    have := hlink k o (by simpa using ho)
    rw [Nat.zero_add] at this
    exact this, hstat⟩
  subst hend
  obtain ⟨o', ho', hs'⟩ := hk _ (List.mem_singleton.2 rfl)
  cases ho'
  have hx := hs' _ (List.mem_singleton.2 rfl)
  have hnxm : (S ops.size).H.nx ≤ m := hb _ hx
  have hbig : (S ops.size).H.nx ≤ (S ops.size).H.nx := Nat.le_refl _
  have eA : (S 0).A = A := by rw [hs0]
  have eH : (S 0).H = H := by rw [hs0]
  have hnt : (S 0).A.nt ≤ 1048576 := by rw [eA]; exact hA.tm.2.1
  have h0 : ∀ id, (S 0).H.nx ≤ id → (S 0).H.get id = none := by rw [eH]; exact hR.wf
  have hlt : ∀ k x, dst ops k = some x → x < x + 1 := fun k x h => Nat.lt_succ_self _
  have hR1 : Rel m β H { w with drawn := w.drawn + 1 } := hR.drew _
  have hov : ∀ id, ovH S T (fun _ => False) ops.size id = H.get id := fun id => by
    rw [ovH_cut (k := 0) (by omega) fun i _ _ h => h.elim, ← eH]; rfl
  have hovT : ∀ t, (ovT ops S T (fun _ => False) ops.size).tm.get t = A.tm.get t := fun t => by
    rw [ovT_cut hlt (k := 0) (by omega) fun i _ _ h => h.elim, ← eA]; rfl
  have hstart : St ops S T m β { w with drawn := w.drawn + 1 } (fun _ => False) β a { w with drawn := w.drawn + 1 } := by
    refine { tm := ?_, df := by rw [eA]; exact hA.df, obj := fun id o ho => hR1.obj id o (by rw [← hov]; exact ho), sep := fun id id' o o' g g' p p' h1 h2 => hR1.sep id id' o o' g g' p p' (by rw [← hov]; exact h1) (by rw [← hov]; exact h2),
             fresh := fun j hj _ id g h1 h2 => ?_, free := fun id g h1 h2 => ?_, sub := fun _ _ _ h => h, loc := fun _ _ _ h => .inl h, size := Nat.le_refl _, os := rfl, tape := rfl, output := rfl, frame := fun _ _ _ => rfl,
             prov := fun id o g p h1 h2 h3 => ?_, dom := fun id o ho => ⟨o, by rw [hov, ← eH]; exact ho⟩, old := fun id o ho => .inl ⟨o, by rw [eH, ← hov]; exact ho⟩, far := fun _ _ _ => rfl }
    · rw [eA]; exact hA.tm.ext hovT
    · have h3 := nx_mono hc hmon (i := 0) (k := j) (by omega) (by omega)
      have h4 := c1_le hc hmon hj (Nat.le_refl _)
      rw [eH] at h3
      exact hR1.free id g (by omega) (by omega)
    · have h3 := nx_mono hc hmon (i := 0) (k := ops.size) (by omega) (Nat.le_refl _)
      rw [eH] at h3
      exact hR1.free id g (by omega) h2
    · rw [hov] at h1
      exact .inr ⟨o, g, p, by rw [eH]; exact h1, h2, h3, rfl, rfl⟩
  have hf := (facts hE hrec hmon hc hbig hnt h0 ⟨a, hstart⟩ ops.size (Nat.le_refl _)).1
  refine wpIn_region_any hE.mixed ?_
  refine any_order hE hrec hmon hc hbig hnt h0 hf (m := m) (β0 := β) (w0 := { w with drawn := w.drawn + 1 }) (fun β' a' w' hst => ?_) ops.size _ β a _ (by simp) (fun i o ho hl => ?_) ?_ (hstart.congr hlt fun i hi => ⟨False.elim, fun hh => ?_⟩)
  · obtain ⟨hwf, hlaw⟩ := law hc hmon hbig (h0 := h0) (k := ops.size) (Nat.le_refl _) hf
    have e : ∀ id, ovH S T (fun _ => True) ops.size id = (S ops.size).H.get id := fun id => (hlaw id).symm
    have hact := act_at hc (k := ops.size) (Nat.le_refl _)
    refine ⟨_, hx, trivial, β', ⟨?_, ?_⟩, ⟨fun id o ho => hst.obj id o (by rw [e]; exact ho), fun id id' o o' g g' p p' h1 h2 => hst.sep id id' o o' g g' p p' (by rw [e]; exact h1) (by rw [e]; exact h2), hwf, hst.free⟩, ?_⟩
    · show TmR β' (S ops.size).A.tm (S ops.size).A.nt a'.tmps
      rw [hact, ovT_nt]
      exact hst.tm
    · show MarkR β' (S ops.size).A.dfr a'.defers
      rw [hact, ovT_dfr]
      exact hst.df
    · have hmono := nx_mono hc hmon (i := 0) (k := ops.size) (by omega) (Nat.le_refl _)
      rw [← eH]
      have hlog : ∀ k, k ≤ ops.size → ∃ l, (S k).H.log = l ++ (S 0).H.log ∧ (∀ id, id < (S 0).H.nx → id ∉ l → (S k).H.get id = (S 0).H.get id) ∧ ∀ i, i < k → ∀ id, id ∈ (T i).wr (S i) → id ∈ l := by
        intro k
        induction k with
        | zero => intro _; exact ⟨[], rfl, fun _ _ _ => rfl, fun i hi => by omega⟩
        | succ k ih =>
          intro hk
          obtain ⟨l, hl1, hl2, hl3⟩ := ih (by omega)
          obtain ⟨o, ho⟩ := ops_at (ops := ops) (k := k) (by omega)
          have hls := law_step hc hmon hbig (k := k) (by omega) (hf k (by omega)) (law hc hmon hbig (h0 := h0) (k := k) (by omega) fun i hi => hf i (by omega)).1
          have hm0 := nx_mono hc hmon (i := 0) (k := k) (by omega) (by omega)
          cases hr : (T k).ran with
          | false =>
            rw [(link_no hc ho hr).2.2.1]
            refine ⟨l, hl1, hl2, fun i hi id hid => ?_⟩
            by_cases e : i = k
            · subst e; exact absurd (.inl hid) (no_touch hc ho hr id)
            · exact hl3 i (by omega) id hid
          | true =>
            obtain ⟨_, _, _, _, h5, _⟩ := (hc.link k o ho).yes hr
            refine ⟨(T k).wr (S k) ++ l, by rw [h5, List.append_assoc, ← hl1], fun id hid hn => ?_, fun i hi id hid => ?_⟩
            · rw [(hls id).2 ?_]
              · exact hl2 id hid fun hh => hn (List.mem_append_right _ hh)
              · rintro (ht | ht)
                · exact hn (List.mem_append_left _ ht)
                · omega
            · by_cases e : i = k
              · subst e; exact List.mem_append_left _ hid
              · exact List.mem_append_right _ (hl3 i (by omega) id hid)
      refine { sub := hst.sub, loc := hst.loc, size := hst.size, os := hst.os, tape := hst.tape, output := hst.output, frame := hst.frame, prov := fun id o g p h1 h2 h3 => hst.prov id o g p (by rw [e]; exact h1) h2 h3, nx := hmono, log := ?_, far := ?_,
               dom := fun id o ho => by obtain ⟨o', ho'⟩ := hst.dom id o ho; exact ⟨o', by rw [← e]; exact ho'⟩, old := fun id o ho => hst.old id o (by rw [e]; exact ho) }
      · obtain ⟨l0, e0, f0, g0⟩ := hlog ops.size (Nat.le_refl _)
        exact ⟨l0, e0, f0⟩
      · intro l hl b hb hn
        obtain ⟨l0, e0, f0, g0⟩ := hlog ops.size (Nat.le_refl _)
        have e : l = l0 := by
          have hl' : (S ops.size).H.log = l ++ (S 0).H.log := hl
          rw [e0] at hl'
          exact (List.append_cancel_right hl').symm
        subst e
        exact hst.far b hb fun id o g p ⟨i, h1, _, h3⟩ => hn id o g p (g0 i h1 id h3)
  · exfalso
    have hio : i < ops.size := (Array.getElem?_eq_some_iff.1 ho).1
    simp [hio] at hl
  · exact Nat.le_trans (List.length_filter_le _ _) (by simp)
  · simp [hi] at hh
end Go.Eng
namespace Go.Eng
open Go
noncomputable def eqBs : List UInt8 → List UInt8 → Bool :=
  fun l => List.rec (motive := fun _ => List UInt8 → Bool) (fun m => List.rec (motive := fun _ => Bool) true (fun _ _ _ => false) m)
    (fun x _ ih m => List.rec (motive := fun _ => Bool) false (fun y m' _ => both (bEq x y) (ih m')) m) l
theorem bEq_ok {a b : UInt8} (h : bEq a b = true) : a = b := UInt8.toNat_inj.1 (Nat.eq_of_beq_eq_true h)
theorem eqBs_ok : ∀ {l m : List UInt8}, eqBs l m = true → l = m
  | [], [], _ => rfl
  | [], _ :: _, h => by cases h
  | _ :: _, [], h => by cases h
  | x :: l, y :: m, h => by
    have h' : both (bEq x y) (eqBs l m) = true := h
    rw [both_eq, Bool.and_eq_true] at h'
    rw [bEq_ok h'.1, eqBs_ok h'.2]
def eqCaps : List (Nat × Nat × Nat × Nat) → List (Nat × Nat × Nat × Nat) → Bool
  | [], [] => true
  | (a, b, c, d) :: l, (a', b', c', d') :: m => Nat.beq a a' && (Nat.beq b b' && (Nat.beq c c' && (Nat.beq d d' && eqCaps l m)))
  | _, _ => false
theorem eqCaps_ok : ∀ {l m : List (Nat × Nat × Nat × Nat)}, eqCaps l m = true → l = m
  | [], [], _ => rfl
  | [], _ :: _, h => by cases h
  | _ :: _, [], h => by cases h
  | (a, b, c, d) :: l, (a', b', c', d') :: m, h => by
    unfold eqCaps at h
    simp only [Bool.and_eq_true] at h
    obtain ⟨h1, h2, h3, h4, h5⟩ := h
    rw [Nat.eq_of_beq_eq_true h1, Nat.eq_of_beq_eq_true h2, Nat.eq_of_beq_eq_true h3, Nat.eq_of_beq_eq_true h4, eqCaps_ok h5]
noncomputable def eqAO : AO → AO → Bool
  | .str s, .str t => eqBs s t
  | .nilP, .nilP => true
  | .nilS, .nilS => true
  | .nilM, .nilM => true
  | .nilF, .nilF => true
  | .ptr a b c d, .ptr a' b' c' d' => Nat.beq a a' && (Nat.beq b b' && (Nat.beq c c' && Nat.beq d d'))
  | .sl a b c d e, .sl a' b' c' d' e' => Nat.beq a a' && (Nat.beq b b' && (Nat.beq c c' && (Nat.beq d d' && Nat.beq e e')))
  | .mp a, .mp a' => Nat.beq a a'
  | .clo f l, .clo f' l' => Nat.beq f f' && eqCaps l l'
  | _, _ => false
theorem eqAO_ok {x y : AO} (h : eqAO x y = true) : x = y := by
  cases x <;> cases y <;> first | rfl | (simp only [eqAO] at h; cases h; done) | skip
  · simp only [eqAO] at h; rw [eqBs_ok h]
  · simp only [eqAO, Bool.and_eq_true] at h
    obtain ⟨h1, h2, h3, h4⟩ := h
    rw [Nat.eq_of_beq_eq_true h1, Nat.eq_of_beq_eq_true h2, Nat.eq_of_beq_eq_true h3, Nat.eq_of_beq_eq_true h4]
  · simp only [eqAO, Bool.and_eq_true] at h
    obtain ⟨h1, h2, h3, h4, h5⟩ := h
    rw [Nat.eq_of_beq_eq_true h1, Nat.eq_of_beq_eq_true h2, Nat.eq_of_beq_eq_true h3, Nat.eq_of_beq_eq_true h4, Nat.eq_of_beq_eq_true h5]
  · simp only [eqAO] at h; rw [Nat.eq_of_beq_eq_true h]
  · simp only [eqAO, Bool.and_eq_true] at h; rw [Nat.eq_of_beq_eq_true h.1, eqCaps_ok h.2]
noncomputable def eqAC : AC → AC → Bool
  | .b x, .b y => bif x then y else !y
  | .i k n, .i k' n' => sameKind k k' && iEq n n'
  | .o x, .o y => eqAO x y
  | _, _ => false
theorem eqAC_ok {x y : AC} (h : eqAC x y = true) : x = y := by
  cases x with
  | b x => cases y with
    | b y => cases x <;> cases y <;> first | rfl | (simp only [eqAC] at h; cases h)
    | i _ _ => cases h
    | o _ => cases h
  | i k n => cases y with
    | i k' n' =>
      simp only [eqAC, Bool.and_eq_true] at h
      have h2 := h.2; rw [iEq_eq] at h2; rw [sameKind_eq h.1, eq_of_beq h2]
    | b _ => cases h
    | o _ => cases h
  | o x => cases y with
    | o y => simp only [eqAC] at h; rw [eqAO_ok h]
    | b _ => cases h
    | i _ _ => cases h
noncomputable def eqACs : List AC → List AC → Bool
  | [], [] => true
  | x :: l, y :: m => eqAC x y && eqACs l m
  | _, _ => false
theorem eqACs_ok : ∀ {l m : List AC}, eqACs l m = true → l = m
  | [], [], _ => rfl
  | [], _ :: _, h => by cases h
  | _ :: _, [], h => by cases h
  | x :: l, y :: m, h => by
    simp only [eqACs, Bool.and_eq_true] at h
    rw [eqAC_ok h.1, eqACs_ok h.2]
noncomputable def eqTup : List (Bool × List AC) → List (Bool × List AC) → Bool
  | [], [] => true
  | (a, l) :: x, (b, m) :: y => (bif a then b else !b) && (eqACs l m && eqTup x y)
  | _, _ => false
theorem eqTup_ok : ∀ {l m : List (Bool × List AC)}, eqTup l m = true → l = m
  | [], [], _ => rfl
  | [], _ :: _, h => by cases h
  | _ :: _, [], h => by cases h
  | (a, l) :: x, (b, m) :: y, h => by
    simp only [eqTup, Bool.and_eq_true] at h
    have : a = b := by
      have h1 := h.1
      cases a <;> cases b <;> first | rfl | cases h1
    rw [this, eqACs_ok h.2.1, eqTup_ok h.2.2]
noncomputable def eqAV : AV → AV → Bool
  | .one x, .one y => eqAC x y
  | .agg l, .agg m => eqACs l m
  | .tup l, .tup m => eqTup l m
  | _, .any => true
  | _, _ => false
theorem eqAV_ok {x y : AV} (h : eqAV x y = true) : x = y ∨ y = .any := by
  cases x <;> cases y <;> first | exact .inr rfl | (simp only [eqAV] at h; cases h; done) | skip
  · simp only [eqAV] at h; exact .inl (by rw [eqAC_ok h])
  · simp only [eqAV] at h; exact .inl (by rw [eqACs_ok h])
  · simp only [eqAV] at h; exact .inl (by rw [eqTup_ok h])
noncomputable def eqAVx (x y : AV) : Bool := match y with | .any => false | _ => eqAV x y
theorem eqAVx_ok {x y : AV} (h : eqAVx x y = true) : x = y := by
  unfold eqAVx at h
  split at h
  · cases h
  · rename_i hn
    exact (eqAV_ok h).resolve_right hn
noncomputable def eqEs : List AEntry → List AEntry → Bool
  | [], [] => true
  | x :: l, y :: m => eqAVx x.key y.key && (eqAVx x.val y.val && (Nat.beq x.born y.born && eqEs l m))
  | _, _ => false
theorem eqEs_ok : ∀ {l m : List AEntry}, eqEs l m = true → l = m
  | [], [], _ => rfl
  | [], _ :: _, h => by cases h
  | _ :: _, [], h => by cases h
  | ⟨a, b, c⟩ :: l, ⟨a', b', c'⟩ :: m, h => by
    simp only [eqEs, Bool.and_eq_true] at h
    obtain ⟨h1, h2, h3, h4⟩ := h
    rw [eqAVx_ok h1, eqAVx_ok h2, Nat.eq_of_beq_eq_true h3, eqEs_ok h4]
noncomputable def eqObj : AObj → AObj → Bool
  | .arr c e lo gen, .arr c' e' lo' gen' => eqACs c c' && (Nat.beq e e' && (Nat.ble lo lo' && (Nat.ble lo' gen' && Nat.beq gen gen')))
  | .oth (.map es k), .oth (.map es' k') => eqEs es es' && Nat.beq k k'
  | .oth (.dfr b), .oth (.dfr b') => bif b then b' else !b'
  | _, _ => false
def Weak (x y : AObj) : Prop := x = y ∨ ∃ c e lo lo' gen, x = .arr c e lo gen ∧ y = .arr c e lo' gen ∧ lo ≤ lo' ∧ lo' ≤ gen
theorem eqObj_ok {x y : AObj} (h : eqObj x y = true) : Weak x y := by
  cases x with
  | arr c e lo gen => cases y with
    | arr c' e' lo' gen' =>
      simp only [eqObj, Bool.and_eq_true] at h
      obtain ⟨h1, h2, h3, h4, h5⟩ := h
      rw [eqACs_ok h1, Nat.eq_of_beq_eq_true h2, Nat.eq_of_beq_eq_true h5]
      exact .inr ⟨_, _, _, _, _, rfl, rfl, Nat.le_of_ble_eq_true h3, Nat.le_of_ble_eq_true h4⟩
    | oth _ => cases h
    | ro _ => cases h
  | ro _ => cases y <;> cases h
  | oth x => cases y with
    | arr _ _ _ _ => cases x <;> cases h
    | ro _ => cases x <;> cases h
    | oth y =>
      cases x <;> cases y <;> first | (simp only [eqObj] at h; cases h; done) | skip
      · simp only [eqObj, Bool.and_eq_true] at h
        rw [eqEs_ok h.1, Nat.eq_of_beq_eq_true h.2]
        exact .inl rfl
      · simp only [eqObj] at h
        rename_i a b
        cases a <;> cases b <;> first | exact .inl rfl | cases h
theorem Weak.ro {x y : AObj} (h : Weak x y) : x.isRo = y.isRo := by
  rcases h with rfl | ⟨c, e, lo, lo', gen, rfl, rfl, h1, h2⟩ <;> rfl
theorem Weak.gen {x y : AObj} (h : Weak x y) {g : Nat} (hg : genOK y g) : genOK x g := by
  rcases h with rfl | ⟨c, e, lo, lo', gen, rfl, rfl, h1, h2⟩
  · exact hg
  · have hg' : lo' ≤ g ∧ g ≤ gen := hg
    exact ⟨by omega, hg'.2⟩
theorem Weak.obj {x y : AObj} (h : Weak x y) {β : Pl} {w : World} {id : Nat} (ho : ObjR β w id x) : ObjR β w id y := by
  rcases h with rfl | ⟨c, e, lo, lo', gen, rfl, rfl, h1, h2⟩
  · exact ho
  · obtain ⟨a1, a2, a3, a4⟩ := ho
    exact ⟨h2, fun g b1 b2 => a2 g (by omega) b2, fun g g' p p' b1 b2 b3 => a3 g g' p p' (by omega) b2 b3, a4⟩
noncomputable def mkT {α : Type} (l : List (Nat × α)) : PT α := List.rec (motive := fun _ => PT α) .leaf (fun x _ ih => ih.set x.1 x.2) l
def small {α : Type} (n : Nat) : List (Nat × α) → Bool
  | [] => true
  | x :: l => Nat.blt x.1 n && small n l
theorem get_mkT {α : Type} {n : Nat} (hn : n ≤ 2 ^ 40) : ∀ {l : List (Nat × α)}, small n l = true → ∀ {k : Nat} {a : α}, (mkT l).get k = some a → k < n ∧ (k, a) ∈ l
  | [], _, k, a, h => by cases h
  | x :: l, hs, k, a, h => by
    simp only [small, Bool.and_eq_true] at hs
    have hx : x.1 < n := Nat.le_of_ble_eq_true hs.1
    have h' : ((mkT l).set x.1 x.2).get k = some a := h
    rw [PT.get_set _ _ _ _ (by omega)] at h'
    split at h'
    · rename_i hk
      cases h'
      subst hk
      exact ⟨hx, List.mem_cons_self ..⟩
    · obtain ⟨h1, h2⟩ := get_mkT hn hs.2 h'
      exact ⟨h1, List.mem_cons_of_mem _ h2⟩
noncomputable def slotV (tm : PT AV) (t : Nat) : AV := optE (tm.get t) undefA fun v => v
noncomputable def chkT (tm tm' : PT AV) (n : Nat) : Bool := Nat.rec (motive := fun _ => Bool) true (fun k ih => both (eqAV (slotV tm k) (slotV tm' k)) ih) n
theorem chkT_ok {tm tm' : PT AV} : ∀ {n : Nat}, chkT tm tm' n = true → ∀ k, k < n → slotV tm k = slotV tm' k ∨ slotV tm' k = .any
  | 0, _, k, h => by omega
  | n + 1, h, k, hk => by
    have h' : both (eqAV (slotV tm n) (slotV tm' n)) (chkT tm tm' n) = true := h
    rw [both_eq, Bool.and_eq_true] at h'
    by_cases e : k = n
    · subst e; exact eqAV_ok h'.1
    · exact chkT_ok h'.2 k (by omega)
noncomputable def chkO (t : PT AObj) (l : List (Nat × AObj)) : Bool := List.rec (motive := fun _ => Bool) true (fun x _ ih => both (optE (t.get x.1) false fun o => eqObj o x.2) ih) l
theorem chkO_ok {t : PT AObj} : ∀ {l : List (Nat × AObj)}, chkO t l = true → ∀ x ∈ l, ∃ o, t.get x.1 = some o ∧ Weak o x.2
  | [], _, x, h => by cases h
  | y :: l, h, x, hx => by
    have h' : both (optE (t.get y.1) false fun o => eqObj o y.2) (chkO t l) = true := h
    rw [both_eq, Bool.and_eq_true] at h'
    rcases List.mem_cons.1 hx with rfl | hx
    · cases hg : t.get x.1 with
      | none => rw [hg] at h'; cases h'.1
      | some o => rw [hg] at h'; exact ⟨o, rfl, eqObj_ok h'.1⟩
    · exact chkO_ok h'.2 x hx
def spine : Code → List Code
  | .seq a b => a :: spine b
  | c => [c]
def joined : List Code → Code
  | [] => .skip
  | [c] => c
  | c :: l => .seq c (joined l)
theorem spine_ne : ∀ (c : Code), spine c ≠ []
  | .seq a b => by simp [spine]
  | .skip | .region .. | .cond .. | .block .. | .loop .. | .rangeFunc .. | .exit .. | .scope .. | .label .. | .goto .. | .ret | .refuse .. => by simp [spine]
theorem joined_spine : ∀ (c : Code), joined (spine c) = c
  | .seq a b => by
    have h := joined_spine b
    have hn := spine_ne b
    show joined (a :: spine b) = _
    cases hs : spine b with
    | nil => exact absurd hs hn
    | cons x l =>
      rw [hs] at h
      show Code.seq a (joined (x :: l)) = _
      rw [h]
  | .skip | .region .. | .cond .. | .block .. | .loop .. | .rangeFunc .. | .exit .. | .scope .. | .label .. | .goto .. | .ret | .refuse .. => rfl
def bodyOf (P : Program) (f : FuncId) : List Code :=
  match P.funcs[f]? with
  | some fn => match fn.body with | some c => spine c | none => []
  | none => []
def ntOf (P : Program) (f : FuncId) : Nat := match P.funcs[f]? with | some fn => fn.ntmps | none => 0
def resOf (P : Program) (f : FuncId) : List ResultVar := match P.funcs[f]? with | some fn => fn.results.toList | none => []
noncomputable def segRun (E : Env) (rec : Rec) (l : List Code) : AAct → Hp → R (AExit × AAct × Hp) :=
  List.rec (motive := fun _ => AAct → Hp → R (AExit × AAct × Hp)) (fun a h => .ok [(.normal, a, h)])
    (fun c _ ih a h => ((codeF E c).run rec none a h).bind fun x => exE x.1 (ih x.2.1 x.2.2) (fun _ => .bad "piece - exit") (.bad "piece - return")) l
noncomputable def allR {α : Type} (p : α → Bool) (r : R α) : Bool := R.rec (motive := fun _ => Bool) (fun l => List.rec (motive := fun _ => Bool) true (fun x _ ih => both (p x) ih) l) (fun _ => false) r
theorem allR_ok {α : Type} {p : α → Bool} {r : R α} (h : allR p r = true) : ∃ l, r = .ok l ∧ ∀ x ∈ l, p x = true := by
  cases r with
  | bad s => cases h
  | ok l =>
    refine ⟨l, rfl, ?_⟩
    have h' : List.rec (motive := fun _ => Bool) true (fun x _ ih => both (p x) ih) l = true := h
    clear h
    induction l with
    | nil => intro x hx; cases hx
    | cons y l ih =>
      have h2 : both (p y) (List.rec (motive := fun _ => Bool) true (fun x _ ih => both (p x) ih) l) = true := h'
      rw [both_eq, Bool.and_eq_true] at h2
      intro x hx
      rcases List.mem_cons.1 hx with rfl | hx
      · exact h2.1
      · exact ih h2.2 x hx
structure Mark where
  slots : List (Nat × AV)
  objs : List (Nat × AObj)
  nx : Nat
noncomputable def Mark.hp (k : Mark) : Hp := ⟨mkT k.objs, k.nx, []⟩
noncomputable def Mark.act (k : Mark) (nt : Nat) : AAct := ⟨mkT k.slots, nt, []⟩
def Mark.fits (k : Mark) (nt : Nat) : Bool := Nat.ble nt 1048576 && (small nt k.slots && (small k.nx k.objs && Nat.ble k.nx 1099511627776))
noncomputable def nilL {α : Type} (l : List α) : Bool := List.rec (motive := fun _ => Bool) true (fun _ _ _ => false) l
noncomputable def chkEnd (k : Mark) (nt : Nat) (x : AExit × AAct × Hp) : Bool :=
  exE x.1 (both (Nat.beq x.2.1.nt nt) (both (Nat.ble x.2.2.nx k.nx) (both (chkT x.2.1.tm (mkT k.slots) nt) (both (chkO x.2.2.t k.objs) (nilL x.2.1.dfr))))) (fun _ => false) false
noncomputable def piece (E : Env) (n : Nat) (f : FuncId) (i d : Nat) (k k' : Mark) : Bool :=
  both (k'.fits (ntOf E.P f)) (allR (chkEnd k' (ntOf E.P f)) (segRun E (eval E n) (((bodyOf E.P f).drop i).take d) (k.act (ntOf E.P f)) k.hp))
noncomputable def lastPiece (E : Env) (n : Nat) (f : FuncId) (i : Nat) (k : Mark) : Bool :=
  allR (fun x : AV × Hp => both (boolE x.1 false fun b => b) (Nat.ble x.2.nx 1099511627776)) (((codeF E (joined ((bodyOf E.P f).drop i))).run (eval E n) none (k.act (ntOf E.P f)) k.hp).bind (callEnd E (resOf E.P f)))
def Grown (w w' : World) : Prop := w'.os = w.os ∧ w'.tape = w.tape ∧ w'.output = w.output ∧ w.heap.size ≤ w'.heap.size ∧ ∀ b, b < w.heap.size → w'.heap[b]? = w.heap[b]?
structure At (E : Env) (f : FuncId) (k : Mark) (w0 : World) (a : Act) (w : World) : Prop where
  grown : Grown w0 w
  here : ∃ β, ActR β (k.act (ntOf E.P f)) a ∧ Rel (2 ^ 40) β k.hp w ∧ ∀ id o g p, k.hp.get id = some o → genOK o g → β id g = some p → w0.heap.size ≤ p.b
theorem grown_of {β β' : Pl} {H H' : Hp} {w0 w w' : World} (h : Grown w0 w) (hp : ∀ id o g p, H.get id = some o → genOK o g → β id g = some p → w0.heap.size ≤ p.b) (hx : Ext β H w β' H' w') : Grown w0 w' := by
  obtain ⟨h1, h2, h3, h4, h5⟩ := h
  refine ⟨hx.os.trans h1, hx.tape.trans h2, hx.output.trans h3, Nat.le_trans h4 hx.size, fun b hb => ?_⟩
  rw [hx.frame b (by omega) fun id o g p a b' c d => ?_, h5 b hb]
  have := hp id o g p a b'.1 c
  omega
theorem At.next {E : Env} {f : FuncId} {k k' : Mark} {w0 w w' : World} {a' : Act} {β β' : Pl} (hg : Grown w0 w) (hp : ∀ id o g p, k.hp.get id = some o → genOK o g → β id g = some p → w0.heap.size ≤ p.b)
    (hfit : k'.fits (ntOf E.P f) = true) {x : AExit × AAct × Hp} (hchk : chkEnd k' (ntOf E.P f) x = true) (hA : ActR β' x.2.1 a') (hR : Rel (2 ^ 40) β' x.2.2 w') (hx : Ext β k.hp w β' x.2.2 w') : x.1 = .normal ∧ At E f k' w0 a' w' := by
  obtain ⟨e, A, H⟩ := x
  unfold chkEnd at hchk
  cases e with
  | exit i => cases hchk
  | ret => cases hchk
  | normal =>
    refine ⟨rfl, grown_of hg hp hx, β', ?_⟩
    have hchk' : both (Nat.beq A.nt (ntOf E.P f)) (both (Nat.ble H.nx k'.nx) (both (chkT A.tm (mkT k'.slots) (ntOf E.P f)) (both (chkO H.t k'.objs) (nilL A.dfr)))) = true := hchk
    simp only [both_eq, Bool.and_eq_true] at hchk'
    obtain ⟨h0, h1, h2, h3, h4⟩ := hchk'
    have hnt : A.nt = ntOf E.P f := Nat.eq_of_beq_eq_true h0
    simp only [Mark.fits, Bool.and_eq_true] at hfit
    obtain ⟨f1, f2, f3, f4⟩ := hfit
    have f1' : ntOf E.P f ≤ 1048576 := Nat.le_of_ble_eq_true f1
    have f4' : k'.nx ≤ 1099511627776 := Nat.le_of_ble_eq_true f4
    have hnx : H.nx ≤ k'.nx := Nat.le_of_ble_eq_true h1
    have hget : ∀ id o, k'.hp.get id = some o → (∃ o1, H.get id = some o1 ∧ Weak o1 o) ∧ id < k'.nx := fun id o ho => by
      obtain ⟨g1, g2⟩ := get_mkT (n := k'.nx) (by omega) f3 (k := id) (a := o) ho
      exact ⟨chkO_ok h3 _ g2, g1⟩
    refine ⟨⟨⟨?_, f1', fun t => ?_⟩, ?_⟩, ⟨fun id o ho => ?_, fun id id' o o' g g' p p' a b c d => ?_, fun id hid => ?_, fun id g a b => hR.free id g (Nat.le_trans hnx a) b⟩,
      fun id o g p a b c => ?_⟩
    · have := hA.tm.1
      rw [this]; exact hnt
    · have hAt := hA.tm.2.2 t
      show AR β' (slotV (mkT k'.slots) t) _
      rcases Nat.lt_or_ge t (ntOf E.P f) with ht | ht
      · rcases chkT_ok h2 t ht with e | e
        · rw [← e]; exact hAt
        · rw [e]; trivial
      · have hsz : a'.tmps.size = ntOf E.P f := by have := hA.tm.1; rw [this]; exact hnt
        have hu : a'.tmps.getD t undef = undef := by
          simp only [Array.getD_eq_getD_getElem?]
          rw [Array.getElem?_eq_none (by omega)]
          rfl
        rw [hu]
        unfold slotV
        cases hg' : (mkT k'.slots).get t with
        | none => exact AR_undef β'
        | some v =>
          have := (get_mkT (n := ntOf E.P f) (by omega) f2 hg').1
          omega
    · have hd : A.dfr = [] := by
        have h4' : nilL A.dfr = true := h4
        cases hdd : A.dfr with
        | nil => rfl
        | cons _ _ => rw [hdd] at h4'; cases h4'
      have := hA.df
      have e : (⟨mkT k'.slots, ntOf E.P f, []⟩ : AAct).dfr = A.dfr := hd.symm
      show MarkR β' (⟨mkT k'.slots, ntOf E.P f, []⟩ : AAct).dfr a'.defers
      rw [e]; exact this
    · obtain ⟨⟨o1, g1, g2⟩, _⟩ := hget id o ho
      exact g2.obj (hR.obj id o1 g1)
    · obtain ⟨⟨o1, g1, g2⟩, _⟩ := hget id o a
      obtain ⟨⟨o2, g3, g4⟩, _⟩ := hget id' o' b
      rw [← g2.ro, ← g4.ro]
      exact hR.sep id id' o1 o2 g g' p p' g1 g3 (g2.gen c) (g4.gen d)
    · cases hg' : k'.hp.get id with
      | none => rfl
      | some o =>
        have := (hget id o hg').2
        have hid' : k'.nx ≤ id := hid
        omega
    · obtain ⟨⟨o1, g1, g2⟩, _⟩ := hget id o a
      rcases hx.prov id o1 g p g1 (g2.gen b) c with h | ⟨o0, g0, p0, a1, a2, a3, a4⟩
      · have := hg.2.2.2.1; omega
      · have := hp id o0 g0 p0 a1 a2 a3; omega
section
variable {E : Env} (hE : EnvS E)
include hE
omit hE in
theorem segRun_rg {rec : Rec} (hrec : RecM rec) : ∀ (l : List Code) (a : AAct) (h : Hp), RG h.nx nE (segRun E rec l a h)
  | [], _, _ => RG.one (Nat.le_refl _)
  | c :: l, a, h => RG.bind (nx := nE) (codeF_rg hrec c none a h) fun _ hx => exE_rg ((segRun_rg hrec l _ _).le hx) (fun _ => RG.bad) RG.bad
omit hE in
theorem joined_cons (c : Code) {l : List Code} (h : l ≠ []) : joined (c :: l) = .seq c (joined l) := by
  cases l with
  | nil => exact absurd rfl h
  | cons x l => rfl
theorem seg_ok {n : Nat} {Q : Exit → Act → World → Prop} {t : List Code} (ht : t ≠ []) : ∀ (l : List Code) {β : Pl} {H : Hp} {w : World} {A : AAct} {a : Act} {outs : List (AExit × AAct × Hp)}, Rel (2 ^ 40) β H w → ActR β A a →
    segRun E (eval E n) l A H = .ok outs → (∀ x ∈ outs, nE x ≤ 2 ^ 40) → (∀ x ∈ outs, x.1 = .normal) → (∀ a' w', PostE (2 ^ 40) β H w outs .normal a' w' → (joined t).wpIn (fen none) 0 E.P Q a' w') → (joined (l ++ t)).wpIn (fen none) 0 E.P Q a w
  | [], β, H, w, A, a, outs, hR, hA, h, hb, hn, hQ => by
    cases h
    exact hQ a w ⟨_, List.mem_singleton.2 rfl, trivial, β, hA, hR, Ext.refl _ _ _⟩
  | c :: l, β, H, w, A, a, outs, hR, hA, h, hb, hn, hQ => by
    have h' : ((codeF E c).run (eval E n) none A H).bind (fun x => exE x.1 (segRun E (eval E n) l x.2.1 x.2.2) (fun _ => .bad "piece - exit") (.bad "piece - return")) = .ok outs := h
    obtain ⟨zs, hz, hk⟩ := R.bind_mem h'
    have hne : l ++ t ≠ [] := by simp [ht]
    show (joined (c :: (l ++ t))).wpIn (fen none) 0 E.P Q a w
    rw [joined_cons c hne]
    have hbz : ∀ z ∈ zs, nE z ≤ 2 ^ 40 := fun z hz => by
      obtain ⟨o, ho, hs⟩ := hk z hz
      exact RG.le_of (k := nE z) (nx := nE) (exE_rg (segRun_rg (eval_rm E n) l _ _) (fun _ => RG.bad) RG.bad) ho hs hb
    refine wpIn_seq (Go.wpIn_mono (codeF_ok hE (drawS hE) (eval_ok hE (drawS hE) n) (eval_rm E n) c (r := none) (rB := none) (Nat.le_refl _) hR hA rfl hz hbz).1 fun e a1 w1 hp => ?_)
    obtain ⟨z, hzm, hxr, β1, hA1, hR1, hext⟩ := hp
    obtain ⟨o, ho, hs⟩ := hk z hzm
    rcases exE_cases ho with ⟨hz1, h1⟩ | ⟨i, hz1, h1⟩ | ⟨hz1, h1⟩
    · rw [hxr.normal hz1]
      exact seg_ok ht l hR1 hA1 h1 (fun q hq => hb q (hs q hq)) (fun q hq => hn q (hs q hq)) fun a' w' hp2 => hQ a' w' (hp2.ext hext hs)
    · cases h1
    · cases h1
def True_ (w0 : World) (e : Ending) (w : World) : Prop := e = .returned (.bool true) ∧ Grown w0 w
def Good (E : Env) (f : FuncId) (fn : Func) (w0 : World) (i : Nat) (k : Mark) : Prop :=
  ∀ a w, At E f k w0 a w → (joined ((bodyOf E.P f).drop i)).wpIn (fen none) 0 E.P (bodyPostM Fence.wide 0 E.P fn (True_ w0)) a w
theorem piece_ok {n : Nat} {f : FuncId} {fn : Func} {w0 : World} {i d : Nat} {k k' : Mark} (h : piece E n f i d k k' = true) (hl : i + d < (bodyOf E.P f).length) (hg : Good E f fn w0 (i + d) k') : Good E f fn w0 i k := by
  intro a w hat
  unfold piece at h
  rw [both_eq, Bool.and_eq_true] at h
  obtain ⟨hfit, h⟩ := h
  obtain ⟨outs, hr, hchk⟩ := allR_ok h
  obtain ⟨hgr, β, hA, hR, hp⟩ := hat
  have hfit4 : k'.nx ≤ 1099511627776 := by
    simp only [Mark.fits, Bool.and_eq_true] at hfit
    exact Nat.le_of_ble_eq_true hfit.2.2.2
  have hnorm : ∀ x ∈ outs, x.1 = .normal ∧ nE x ≤ k'.nx := fun x hx => by
    have hc := hchk x hx
    unfold chkEnd at hc
    cases hx1 : x.1 with
    | exit i => rw [hx1] at hc; cases hc
    | ret => rw [hx1] at hc; cases hc
    | normal =>
      rw [hx1] at hc
      have hc' : both (Nat.beq x.2.1.nt (ntOf E.P f)) (both (Nat.ble x.2.2.nx k'.nx) (both (chkT x.2.1.tm (mkT k'.slots) (ntOf E.P f)) (both (chkO x.2.2.t k'.objs) (nilL x.2.1.dfr)))) = true := hc
      simp only [both_eq, Bool.and_eq_true] at hc'
      exact ⟨rfl, Nat.le_of_ble_eq_true hc'.2.1⟩
  have hsplit : (bodyOf E.P f).drop i = ((bodyOf E.P f).drop i).take d ++ (bodyOf E.P f).drop (i + d) := by
    rw [← List.drop_drop, List.take_append_drop]
  rw [hsplit]
  have hne : (bodyOf E.P f).drop (i + d) ≠ [] := by
    intro e
    have := congrArg List.length e
    simp at this
    omega
  refine seg_ok hE hne _ hR hA hr (fun x hx => Nat.le_trans (hnorm x hx).2 hfit4) (fun x hx => (hnorm x hx).1) fun a' w' hpost => ?_
  obtain ⟨x, hx, _, β', hA', hR', hext⟩ := hpost
  exact hg a' w' (At.next hgr hp hfit (hchk x hx) hA' hR' hext).2
theorem last_ok {n : Nat} {f : FuncId} {fn : Func} (hf : E.P.funcs[f]? = some fn) {w0 : World} {i : Nat} {k : Mark} (h : lastPiece E n f i k = true) : Good E f fn w0 i k := by
  intro a w hat
  obtain ⟨outs, hr, hchk⟩ := allR_ok h
  obtain ⟨hgr, β, hA, hR, hp⟩ := hat
  have hres : resOf E.P f = fn.results.toList := by unfold resOf; rw [hf]
  rw [hres] at hr
  obtain ⟨zs, hz, hk⟩ := R.bind_mem hr
  have hall : ∀ x ∈ outs, x.1 = .one (.b true) ∧ nV x ≤ 2 ^ 40 := fun x hx => by
    have hc := hchk x hx
    rw [both_eq, Bool.and_eq_true] at hc
    refine ⟨?_, Nat.le_of_ble_eq_true hc.2⟩
    have h1 := hc.1
    obtain ⟨v, H⟩ := x
    cases v with
    | one c => cases c with
      | b b => cases b with
        | true => rfl
        | false => cases h1
      | i _ _ => cases h1
      | o _ => cases h1
    | agg _ => cases h1
    | tup _ => cases h1
    | any => cases h1
  have hbz : ∀ z ∈ zs, nE z ≤ 2 ^ 40 := fun z hz => by
    obtain ⟨o, ho, hs⟩ := hk z hz
    exact RG.le_of (callEnd_rg (Nat.le_refl _)) ho hs fun x hx => (hall x hx).2
  refine Go.wpIn_mono (codeF_ok hE (drawS hE) (eval_ok hE (drawS hE) n) (eval_rm E n) _ (r := none) (rB := none) (Nat.le_refl _) hR hA rfl hz hbz).1 fun e a1 w1 hpost => ?_
  obtain ⟨z, hzm, hxr, β1, hA1, hR1, hext⟩ := hpost
  obtain ⟨o, ho, hs⟩ := hk z hzm
  have hmono : ∀ e w', CallR (2 ^ 40) β k.hp w outs e w' → True_ w0 e w' := by
    rintro e w' ⟨v, rfl, x, hx, β2, hv, _, hx2⟩
    rw [(hall x hx).1] at hv
    have hv' : v = .bool true := hv
    subst hv'
    exact ⟨rfl, grown_of hgr hp hx2⟩
  exact callEnd_ok (E := E) (Nat.le_refl _) hxr hA1 hR1 hext (hbz z hzm) ho hs hmono
omit hE in
theorem calls_of_good {f : FuncId} {fn : Func} (hf : E.P.funcs[f]? = some fn) (hb0 : fn.body.isSome = true) (hnt0 : Nat.ble fn.ntmps 1048576 = true) {w0 : World} (h : Good E f fn w0 0 ⟨[], [], 0⟩) : Calls E.P f #[] w0 (True_ w0) := by
  obtain ⟨c, hb⟩ := Option.isSome_iff_exists.1 hb0
  have hnt : fn.ntmps ≤ 1048576 := Nat.le_of_ble_eq_true hnt0
  have hbody : bodyOf E.P f = spine c := by unfold bodyOf; rw [hf]; simp only [hb]
  have hn : ntOf E.P f = fn.ntmps := by unfold ntOf; rw [hf]
  refine (callsIn_wide (n := 0)).1 (callsIn_of_wp_marks hf hb trivial ?_)
  have h0 := h { tmps := #[] ++ Array.replicate (fn.ntmps - (#[] : Array Value).size) undef, defers := [] } w0 ⟨⟨rfl, rfl, rfl, Nat.le_refl _, fun _ _ => rfl⟩, fun _ _ => none, ⟨?_, trivial⟩, ⟨fun id o ho => (by cases ho), fun id _ o _ _ _ _ _ ho => (by cases ho), fun _ _ => rfl, fun _ _ _ _ => rfl⟩, fun id o _ _ ho => (by cases ho)⟩
  · rw [List.drop_zero, hbody, joined_spine] at h0
    exact h0
  · have := args_ok (β := fun _ _ => none) (nt := fn.ntmps) hnt (args := []) (vs := []) trivial (Nat.zero_le _)
    show TmR _ (mkT []) (ntOf E.P f) _
    rw [hn]
    exact this
end
end Go.Eng
