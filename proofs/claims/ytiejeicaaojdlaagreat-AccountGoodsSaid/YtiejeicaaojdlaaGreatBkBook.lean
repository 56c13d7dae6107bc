/- A book: how it lies in memory, and how it is made. -/
import Derived.Test.YtiejeicaaojdlaaGreatBkCpy
namespace Go.Proofs.YtiejeicaaojdlaaGreat
open Go Go.Eng

abbrev Lad := List UInt8 × List Pr
/-- What the cells of a ladder mean. -/
def LadR (H : Hp) (c : List AC) (x : Lad) : Prop := ∃ u, c = [.o (.str x.1), u] ∧ SlP H u x.2
theorem LadR.gr {H H' : Hp} {c : List AC} {x : Lad} (h : LadR H c x) (hg : Gr H H') : LadR H' c x := let ⟨u, h1, h2⟩ := h; ⟨u, h1, h2.gr hg⟩
/-- A slice of ladders. -/
def SlLad (H : Hp) (v : AC) (ls : List Lad) : Prop := SlR LadR 2 H v ls
theorem SlLad.gr {H H' : Hp} {v : AC} {ls : List Lad} (h : SlLad H v ls) (hg : Gr H H') : SlLad H' v ls := SlR.of_get h hg.nx (fun i hi => hg.get i hi not_false) fun _ _ h => h.gr hg
theorem SlLad.len {H : Hp} {v : AC} {l : List Lad} (h : SlLad H v l) : doLen H 1 (.one v) = .val (.one (.i .i64 (l.length : Int))) H := SlR.len h
theorem SlLad.lt {H : Hp} {v : AC} {l : List Lad} (h : SlLad H v l) : ltV (.one v) H.nx := SlR.lt h

/-- Where a ladder of a slice lies. -/
theorem SlLad.open {H : Hp} {v : AC} {l : List Lad} (h : SlLad H v l) (hn : 0 < l.length) : ∃ id g off cells, v = .o (.sl id g off l.length 2) ∧ id < H.nx ∧ rowOf (H.get id) g = some cells ∧
    ∀ (i : Nat) (x : Lad), l[i]? = some x → ∃ u, SlP H u x.2 ∧ (cells.drop (off + i * 2)).take 2 = [.o (.str x.1), u] ∧ off + i * 2 + 2 ≤ cells.length ∧ off + i * 2 + 1 ≤ cells.length ∧ off + i * 2 + 1 + 1 ≤ cells.length ∧
      (cells.drop (off + i * 2)).headD (.b false) = .o (.str x.1) ∧ (cells.drop (off + i * 2 + 1)).headD (.b false) = u := by
  obtain ⟨id, g, off, cells, e1, hid, hg, hat⟩ := SlR.open h hn
  refine ⟨id, g, off, cells, e1, hid, hg, fun i x hx => ?_⟩
  obtain ⟨hle, c, hc, hcl, u, rfl, hu⟩ := hat i x hx
  refine ⟨u, hu, hc, hle, by omega, by omega, ?_, ?_⟩
  · cases hd : cells.drop (off + i * 2) with
    | nil => rw [hd] at hc; cases hc
    | cons a r =>
      rw [hd] at hc
      cases r with
      | nil => cases hc
      | cons b r => cases hc; rfl
  · rw [← List.drop_drop]
    cases hd : cells.drop (off + i * 2) with
    | nil => rw [hd] at hc; cases hc
    | cons a r =>
      rw [hd] at hc
      cases r with
      | nil => cases hc
      | cons b r => cases hc; rfl

/-- The places of the ladders, by name. -/
def plN : Nat → List Lad → List (List UInt8 × AC)
  | _, [] => []
  | n, x :: ls => (x.1, .i .i64 (n : Int)) :: plN (n + 1) ls
def idxN : Nat → List Lad → List UInt8 → Option Nat
  | _, [], _ => none
  | n, x :: ls, s => if x.1 = s then some n else idxN (n + 1) ls s
theorem atK_pl : ∀ (n : Nat) (ls : List Lad) (s : List UInt8), atK (plN n ls) s = (idxN n ls s).map fun i => .i .i64 (i : Int)
  | _, [], _ => rfl
  | n, x :: ls, s => by
    show (if x.1 = s then some (AC.i .i64 (n : Int)) else atK (plN (n + 1) ls) s) = Option.map _ (if x.1 = s then some n else idxN (n + 1) ls s)
    by_cases h : x.1 = s
    · rw [if_pos h, if_pos h]; rfl
    · rw [if_neg h, if_neg h]; exact atK_pl (n + 1) ls s
theorem plN_app : ∀ (n : Nat) (ls : List Lad) (x : Lad), plN n (ls ++ [x]) = plN n ls ++ [(x.1, .i .i64 ((n + ls.length : Nat) : Int))]
  | n, [], x => rfl
  | n, y :: ls, x => by
    show _ :: plN (n + 1) (ls ++ [x]) = _ :: (plN (n + 1) ls ++ _)
    rw [plN_app (n + 1) ls x]
    have : n + 1 + ls.length = n + (y :: ls).length := by rw [List.length_cons]; omega
    rw [this]
theorem look_pl {H : Hp} {m : Nat} {ls : List Lad} {s : List UInt8} (hg : H.get m = some (mapO (plN 0 ls))) :
    doLookup Tryz.prog H 9 (.one (.i .i64 0)) (.one (.o (.mp m))) (.one (.o (.str s))) true = .val (.tup [(false, [.i .i64 (((idxN 0 ls s).getD 0 : Nat) : Int)]), (false, [.b (idxN 0 ls s).isSome])]) H := by
  rw [lookup_str kk_mSI hg, atK_pl]
  cases idxN 0 ls s <;> rfl
theorem idxN_lt : ∀ (n : Nat) (ls : List Lad) (s : List UInt8) (i : Nat), idxN n ls s = some i → n ≤ i ∧ i < n + ls.length ∧ ∃ x, ls[i - n]? = some x ∧ x.1 = s
  | _, [], _, _, h => by cases h
  | n, x :: ls, s, i, h => by
    unfold idxN at h
    by_cases hx : x.1 = s
    · rw [if_pos hx] at h
      cases h
      refine ⟨Nat.le_refl _, by rw [List.length_cons]; omega, x, by rw [Nat.sub_self]; rfl, hx⟩
    · rw [if_neg hx] at h
      obtain ⟨h1, h2, y, h3, h4⟩ := idxN_lt (n + 1) ls s i h
      refine ⟨by omega, by rw [List.length_cons]; omega, y, ?_, h4⟩
      have : i - n = (i - (n + 1)) + 1 := by omega
      rw [this, List.getElem?_cons_succ]; exact h3
theorem idxN_app (n : Nat) (ls : List Lad) (x : Lad) (s : List UInt8) : idxN n (ls ++ [x]) s = match idxN n ls s with | some i => some i | none => if x.1 = s then some (n + ls.length) else none := by
  induction ls generalizing n with
  | nil => rfl
  | cons y ls ih =>
    show (if y.1 = s then some n else idxN (n + 1) (ls ++ [x]) s) = match (if y.1 = s then some n else idxN (n + 1) ls s) with | some i => some i | none => _
    by_cases h : y.1 = s
    · rw [if_pos h, if_pos h]
    · rw [if_neg h, if_neg h, ih]
      have : n + 1 + ls.length = n + (y :: ls).length := by rw [List.length_cons]; omega
      rw [this]

/-- The error of a book's making: behind some ladders. -/
def newG : List Lad → List Lad → Int
  | _, [] => 0
  | acc, x :: ls => if chkLad x.1 x.2 ≠ 0 then chkLad x.1 x.2 else if (idxN 0 acc x.1).isSome = true then 2 else newG (acc ++ [x]) ls
def newE (ls : List Lad) : Int := if (32 : Int) < ls.length then 3 else newG [] ls

/-- A book in memory. -/
def BookR (H : Hp) (p : AC) (ls : List Lad) : Prop :=
  ∃ kb m lad gr fc, p = .o (.ptr kb 0 0 4) ∧ kb < H.nx ∧ m < H.nx ∧ H.get kb = some (.arr [lad, .o (.mp m), gr, fc] 36 0 0) ∧ H.get m = some (mapO (plN 0 ls)) ∧ SlLad H lad ls
theorem BookR.gr {H H' : Hp} {p : AC} {ls : List Lad} (h : BookR H p ls) (hg : Gr H H') : BookR H' p ls := by
  obtain ⟨kb, m, lad, gr, fc, h1, h2, h3, h4, h5, h6⟩ := h
  exact ⟨kb, m, lad, gr, fc, h1, Nat.lt_of_lt_of_le h2 hg.nx, Nat.lt_of_lt_of_le h3 hg.nx, by rw [hg.get _ h2 not_false]; exact h4, by rw [hg.get _ h3 not_false]; exact h5, h6.gr hg⟩

theorem bd_newBook : hasBody Tryz.prog 29 = true := by kernel_rfl

/-- Where the making of a book stands: 'lm' are in the map, 'll' among the ladders; so many groups and factors. -/
structure NB (n0 kb m : Nat) (lm ll : List Lad) (k2 k3 : Nat) (H1 : Hp) (lad gr fc : AC) (r1 r2 r3 : Option Nat) : Prop where
  kbg : H1.get kb = some (.arr [lad, .o (.mp m), gr, fc] 36 0 0)
  mg : H1.get m = some (mapO (plN 0 lm))
  o1 : ∃ css : List (List AC), OwnR H1 lad 78 2 ll.length (css.flatMap id) r1 ∧ Al (fun c x => c.length = 2 ∧ ∃ u, c = [.o (.str x.1), u] ∧ SlP H1 u x.2 ∧ ∀ id ∈ (AV.one u).ids, id ≠ kb ∧ id ≠ m ∧ some id ≠ r1 ∧ some id ≠ r2 ∧ some id ≠ r3) css ll
  o2 : ∃ cg, OwnR H1 gr 3 1 k2 cg r2
  o3 : ∃ cf, OwnR H1 fc 127 2 k3 cf r3
  kn : n0 ≤ kb ∧ kb < H1.nx
  mn : n0 ≤ m ∧ m < H1.nx
  km : kb ≠ m
  n1 : ∀ q, r1 = some q → n0 ≤ q ∧ q < H1.nx ∧ q ≠ kb ∧ q ≠ m ∧ r2 ≠ some q ∧ r3 ≠ some q
  n2 : ∀ q, r2 = some q → n0 ≤ q ∧ q < H1.nx ∧ q ≠ kb ∧ q ≠ m ∧ r3 ≠ some q
  n3 : ∀ q, r3 = some q → n0 ≤ q ∧ q < H1.nx ∧ q ≠ kb ∧ q ≠ m

section
variable {n0 kb m k2 k3 : Nat} {lm ll : List Lad} {H1 H2 : Hp} {lad gr fc : AC} {r1 r2 r3 : Option Nat}
theorem NB.ofGr (h : NB n0 kb m lm ll k2 k3 H1 lad gr fc r1 r2 r3) (hg : Gr H1 H2) : NB n0 kb m lm ll k2 k3 H2 lad gr fc r1 r2 r3 where
  kbg := by rw [hg.get _ h.kn.2 not_false]; exact h.kbg
  mg := by rw [hg.get _ h.mn.2 not_false]; exact h.mg
  o1 := let ⟨css, a, b⟩ := h.o1; ⟨css, a.fr hg fun _ _ h => h, b.mono fun c x ⟨hc, u, e, hu, hi⟩ => ⟨hc, u, e, hu.gr hg, hi⟩⟩
  o2 := let ⟨c, a⟩ := h.o2; ⟨c, a.fr hg fun _ _ h => h⟩
  o3 := let ⟨c, a⟩ := h.o3; ⟨c, a.fr hg fun _ _ h => h⟩
  kn := ⟨h.kn.1, Nat.lt_of_lt_of_le h.kn.2 hg.nx⟩
  mn := ⟨h.mn.1, Nat.lt_of_lt_of_le h.mn.2 hg.nx⟩
  km := h.km
  n1 := fun q hq => let ⟨a, b, c⟩ := h.n1 q hq; ⟨a, Nat.lt_of_lt_of_le b hg.nx, c⟩
  n2 := fun q hq => let ⟨a, b, c⟩ := h.n2 q hq; ⟨a, Nat.lt_of_lt_of_le b hg.nx, c⟩
  n3 := fun q hq => let ⟨a, b, c⟩ := h.n3 q hq; ⟨a, Nat.lt_of_lt_of_le b hg.nx, c⟩

theorem mod_fr {H : Hp} {k : Nat} {o : AObj} : Fr (fun i => i = k) H (H.mod k o) := (Fr.refl _).mod _ (.inr rfl)

theorem NB.addM (h : NB n0 kb m lm ll k2 k3 H1 lad gr fc r1 r2 r3) (lm' : List Lad) : NB n0 kb m lm' ll k2 k3 (H1.mod m (mapO (plN 0 lm'))) lad gr fc r1 r2 r3 where
  kbg := by rw [get_modN h.km]; exact h.kbg
  mg := get_modE rfl
  o1 := let ⟨css, a, b⟩ := h.o1; ⟨css, a.fr mod_fr fun i hi e => (h.n1 i hi).2.2.2.1 e, b.mono fun c x ⟨hc, u, e, hu, hi⟩ => ⟨hc, u, e, SlC.fr hu mod_fr fun i hi' e => (hi i hi').2.1 e, hi⟩⟩
  o2 := let ⟨c, a⟩ := h.o2; ⟨c, a.fr mod_fr fun i hi e => (h.n2 i hi).2.2.2.1 e⟩
  o3 := let ⟨c, a⟩ := h.o3; ⟨c, a.fr mod_fr fun i hi e => (h.n3 i hi).2.2.2 e⟩
  kn := h.kn
  mn := h.mn
  km := h.km
  n1 := h.n1
  n2 := h.n2
  n3 := h.n3

/-- A ladder is added. -/
theorem NB.addL (h : NB n0 kb m lm ll k2 k3 H1 lad gr fc r1 r2 r3) {x : Lad} {u v5 : AC} {r5 : Nat} {H5 : Hp} (hu : SlP H1 u x.2) (hi : ∀ id ∈ (AV.one u).ids, id ≠ kb ∧ id ≠ m ∧ some id ≠ r1 ∧ some id ≠ r2 ∧ some id ≠ r3)
    {css : List (List AC)} (hal : Al (fun c x => c.length = 2 ∧ ∃ u, c = [.o (.str x.1), u] ∧ SlP H1 u x.2 ∧ ∀ id ∈ (AV.one u).ids, id ≠ kb ∧ id ≠ m ∧ some id ≠ r1 ∧ some id ≠ r2 ∧ some id ≠ r3) css ll)
    (ho : OwnR H5 v5 78 2 (ll.length + 1) (css.flatMap id ++ [.o (.str x.1), u]) (some r5)) (hf : Fr (fun i => r1 = some i) H1 H5) (hr : r1 = some r5 ∨ H1.nx ≤ r5) :
    NB n0 kb m lm (ll ++ [x]) k2 k3 (H5.mod kb (.arr [v5, .o (.mp m), gr, fc] 36 0 0)) v5 gr fc (some r5) r2 r3 := by
  have r5kb : r5 ≠ kb := by
    rcases hr with e | e
    · exact (h.n1 _ e).2.2.1
    · have := h.kn.2; omega
  have r5m : r5 ≠ m := by
    rcases hr with e | e
    · exact (h.n1 _ e).2.2.2.1
    · have := h.mn.2; omega
  have n0le : n0 ≤ H1.nx := Nat.le_trans h.kn.1 (Nat.le_of_lt h.kn.2)
  have lt5 : r5 < H5.nx := by
    rcases ho with ⟨_, _, _, e⟩ | ⟨id, lo, gen, e, _, _, _, _, hl⟩
    · cases e
    · cases e; exact hl
  have keep : ∀ {c : List AC} {x : Lad}, (c.length = 2 ∧ ∃ u, c = [.o (.str x.1), u] ∧ SlP H1 u x.2 ∧ ∀ id ∈ (AV.one u).ids, id ≠ kb ∧ id ≠ m ∧ some id ≠ r1 ∧ some id ≠ r2 ∧ some id ≠ r3) →
      c.length = 2 ∧ ∃ u, c = [.o (.str x.1), u] ∧ SlP (H5.mod kb (.arr [v5, .o (.mp m), gr, fc] 36 0 0)) u x.2 ∧ ∀ id ∈ (AV.one u).ids, id ≠ kb ∧ id ≠ m ∧ some id ≠ some r5 ∧ some id ≠ r2 ∧ some id ≠ r3 := by
    rintro c x ⟨hc, u, e, hu, hi⟩
    refine ⟨hc, u, e, SlC.fr (SlC.fr hu hf fun i h' e => (hi i h').2.2.1 e.symm) mod_fr fun i h' e => (hi i h').1 e, fun i h' => ⟨(hi i h').1, (hi i h').2.1, fun e => ?_, (hi i h').2.2.2.1, (hi i h').2.2.2.2⟩⟩
    cases e
    rcases hr with e | e
    · exact (hi _ h').2.2.1 e.symm
    · have := hu.lt _ h'; omega
  refine ⟨get_modE rfl, ?_, ⟨css ++ [[.o (.str x.1), u]], ?_, ?_⟩, ?_, ?_, ⟨h.kn.1, Nat.lt_of_lt_of_le h.kn.2 hf.nx⟩, ⟨h.mn.1, Nat.lt_of_lt_of_le h.mn.2 hf.nx⟩, h.km, ?_, ?_, ?_⟩
  · rw [get_modN (fun e => h.km e.symm), hf.get _ h.mn.2 fun e => (h.n1 _ e).2.2.2.1 rfl]; exact h.mg
  · rw [List.length_append, List.length_singleton, List.flatMap_append]
    exact ho.fr mod_fr fun i hi e => by cases hi; exact r5kb e
  · exact Al.app (hal.mono fun c x hc => keep hc) (keep ⟨rfl, u, rfl, hu, hi⟩)
  · obtain ⟨c, a⟩ := h.o2
    exact ⟨c, (a.fr hf fun i hi e => (h.n1 i e).2.2.2.2.1 hi).fr mod_fr fun i hi e => (h.n2 i hi).2.2.1 e⟩
  · obtain ⟨c, a⟩ := h.o3
    exact ⟨c, (a.fr hf fun i hi e => (h.n1 i e).2.2.2.2.2 hi).fr mod_fr fun i hi e => (h.n3 i hi).2.2.1 e⟩
  · intro q hq
    cases hq
    refine ⟨?_, lt5, r5kb, r5m, fun e => ?_, fun e => ?_⟩
    · rcases hr with e | e
      · exact (h.n1 _ e).1
      · omega
    · rcases hr with e' | e'
      · exact (h.n1 _ e').2.2.2.2.1 e
      · have := (h.n2 _ e).2.1; omega
    · rcases hr with e' | e'
      · exact (h.n1 _ e').2.2.2.2.2 e
      · have := (h.n3 _ e).2.1; omega
  · intro q hq
    obtain ⟨a, b, c⟩ := h.n2 q hq
    exact ⟨a, Nat.lt_of_lt_of_le b hf.nx, c⟩
  · intro q hq
    obtain ⟨a, b, c⟩ := h.n3 q hq
    exact ⟨a, Nat.lt_of_lt_of_le b hf.nx, c⟩

/-- A group is added. -/
theorem NB.grp (h : NB n0 kb m lm ll k2 k3 H1 lad gr fc r1 r2 r3) {v5 : AC} {r5 : Nat} {H5 : Hp} {c5 : List AC} (ho : OwnR H5 v5 3 1 (k2 + 1) c5 (some r5)) (hf : Fr (fun i => r2 = some i) H1 H5) (hr : r2 = some r5 ∨ H1.nx ≤ r5) :
    NB n0 kb m lm ll (k2 + 1) k3 (H5.mod kb (.arr [lad, .o (.mp m), v5, fc] 36 0 0)) lad v5 fc r1 (some r5) r3 := by
  have r5kb : r5 ≠ kb := by
    rcases hr with e | e
    · exact (h.n2 _ e).2.2.1
    · have := h.kn.2; omega
  have r5m : r5 ≠ m := by
    rcases hr with e | e
    · exact (h.n2 _ e).2.2.2.1
    · have := h.mn.2; omega
  have n0le : n0 ≤ H1.nx := Nat.le_trans h.kn.1 (Nat.le_of_lt h.kn.2)
  have lt5 : r5 < H5.nx := by
    rcases ho with ⟨_, _, _, e⟩ | ⟨id, lo, gen, e, _, _, _, _, hl⟩
    · cases e
    · cases e; exact hl
  refine ⟨get_modE rfl, ?_, ?_, ⟨c5, ?_⟩, ?_, ⟨h.kn.1, Nat.lt_of_lt_of_le h.kn.2 hf.nx⟩, ⟨h.mn.1, Nat.lt_of_lt_of_le h.mn.2 hf.nx⟩, h.km, ?_, ?_, ?_⟩
  · rw [get_modN (fun e => h.km e.symm), hf.get _ h.mn.2 fun e => (h.n2 _ e).2.2.2.1 rfl]; exact h.mg
  · obtain ⟨css, a, b⟩ := h.o1
    refine ⟨css, (a.fr hf fun i hi e => (h.n1 i hi).2.2.2.2.1 e).fr mod_fr fun i hi e => (h.n1 i hi).2.2.1 e, b.mono fun c x ⟨hc, u, e, hu, hi⟩ => ⟨hc, u, e, SlC.fr (SlC.fr hu hf fun i h' e => (hi i h').2.2.2.1 e.symm) mod_fr fun i h' e => (hi i h').1 e, fun i h' => ⟨(hi i h').1, (hi i h').2.1, (hi i h').2.2.1, fun e => ?_, (hi i h').2.2.2.2⟩⟩⟩
    cases e
    rcases hr with e | e
    · exact (hi _ h').2.2.2.1 e.symm
    · have := hu.lt _ h'; omega
  · exact ho.fr mod_fr fun i hi e => by cases hi; exact r5kb e
  · obtain ⟨c, a⟩ := h.o3
    exact ⟨c, (a.fr hf fun i hi e => (h.n2 i e).2.2.2.2 hi).fr mod_fr fun i hi e => (h.n3 i hi).2.2.1 e⟩
  · intro q hq
    obtain ⟨a, b, c, d, e, f⟩ := h.n1 q hq
    refine ⟨a, Nat.lt_of_lt_of_le b hf.nx, c, d, fun e' => ?_, f⟩
    cases e'
    rcases hr with e' | e'
    · exact e e'
    · omega
  · intro q hq
    cases hq
    refine ⟨?_, lt5, r5kb, r5m, fun e => ?_⟩
    · rcases hr with e | e
      · exact (h.n2 _ e).1
      · omega
    · rcases hr with e' | e'
      · exact (h.n2 _ e').2.2.2.2 e
      · have := (h.n3 _ e).2.1; omega
  · intro q hq
    obtain ⟨a, b, c⟩ := h.n3 q hq
    exact ⟨a, Nat.lt_of_lt_of_le b hf.nx, c⟩

/-- A factor is added. -/
theorem NB.fac (h : NB n0 kb m lm ll k2 k3 H1 lad gr fc r1 r2 r3) {v5 : AC} {r5 : Nat} {H5 : Hp} {c5 : List AC} (ho : OwnR H5 v5 127 2 (k3 + 1) c5 (some r5)) (hf : Fr (fun i => r3 = some i) H1 H5) (hr : r3 = some r5 ∨ H1.nx ≤ r5) :
    NB n0 kb m lm ll k2 (k3 + 1) (H5.mod kb (.arr [lad, .o (.mp m), gr, v5] 36 0 0)) lad gr v5 r1 r2 (some r5) := by
  have r5kb : r5 ≠ kb := by
    rcases hr with e | e
    · exact (h.n3 _ e).2.2.1
    · have := h.kn.2; omega
  have r5m : r5 ≠ m := by
    rcases hr with e | e
    · exact (h.n3 _ e).2.2.2
    · have := h.mn.2; omega
  have n0le : n0 ≤ H1.nx := Nat.le_trans h.kn.1 (Nat.le_of_lt h.kn.2)
  have lt5 : r5 < H5.nx := by
    rcases ho with ⟨_, _, _, e⟩ | ⟨id, lo, gen, e, _, _, _, _, hl⟩
    · cases e
    · cases e; exact hl
  refine ⟨get_modE rfl, ?_, ?_, ?_, ⟨c5, ?_⟩, ⟨h.kn.1, Nat.lt_of_lt_of_le h.kn.2 hf.nx⟩, ⟨h.mn.1, Nat.lt_of_lt_of_le h.mn.2 hf.nx⟩, h.km, ?_, ?_, ?_⟩
  · rw [get_modN (fun e => h.km e.symm), hf.get _ h.mn.2 fun e => (h.n3 _ e).2.2.2 rfl]; exact h.mg
  · obtain ⟨css, a, b⟩ := h.o1
    refine ⟨css, (a.fr hf fun i hi e => (h.n1 i hi).2.2.2.2.2 e).fr mod_fr fun i hi e => (h.n1 i hi).2.2.1 e, b.mono fun c x ⟨hc, u, e, hu, hi⟩ => ⟨hc, u, e, SlC.fr (SlC.fr hu hf fun i h' e => (hi i h').2.2.2.2 e.symm) mod_fr fun i h' e => (hi i h').1 e, fun i h' => ⟨(hi i h').1, (hi i h').2.1, (hi i h').2.2.1, (hi i h').2.2.2.1, fun e => ?_⟩⟩⟩
    cases e
    rcases hr with e | e
    · exact (hi _ h').2.2.2.2 e.symm
    · have := hu.lt _ h'; omega
  · obtain ⟨c, a⟩ := h.o2
    exact ⟨c, (a.fr hf fun i hi e => (h.n2 i hi).2.2.2.2 e).fr mod_fr fun i hi e => (h.n2 i hi).2.2.1 e⟩
  · exact ho.fr mod_fr fun i hi e => by cases hi; exact r5kb e
  · intro q hq
    obtain ⟨a, b, c, d, e, f⟩ := h.n1 q hq
    refine ⟨a, Nat.lt_of_lt_of_le b hf.nx, c, d, e, fun e' => ?_⟩
    cases e'
    rcases hr with e' | e'
    · exact f e'
    · omega
  · intro q hq
    obtain ⟨a, b, c, d, e⟩ := h.n2 q hq
    refine ⟨a, Nat.lt_of_lt_of_le b hf.nx, c, d, fun e' => ?_⟩
    cases e'
    rcases hr with e' | e'
    · exact e e'
    · omega
  · intro q hq
    cases hq
    refine ⟨?_, lt5, r5kb, r5m⟩
    rcases hr with e | e
    · exact (h.n3 _ e).1
    · omega

theorem NB.book (h : NB n0 kb m lm lm k2 k3 H1 lad gr fc r1 r2 r3) : BookR H1 (.o (.ptr kb 0 0 4)) lm := by
  obtain ⟨css, a, b⟩ := h.o1
  exact ⟨kb, m, lad, gr, fc, rfl, h.kn.2, h.mn.2, h.kbg, h.mg, css, a.slc, b.mono fun c x ⟨hc, u, e, hu, _⟩ => ⟨hc, u, e, hu⟩⟩
end
end Go.Proofs.YtiejeicaaojdlaaGreat
