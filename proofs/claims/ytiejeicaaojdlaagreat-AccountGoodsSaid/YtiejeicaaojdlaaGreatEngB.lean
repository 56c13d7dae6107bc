/- What the engine's heap says of the model's memory. No conditions. -/
import Derived.Test.YtiejeicaaojdlaaGreatEngA
/- What the engine's values and heap say of the model's: the relation, and what is kept of it. -/
namespace Go.Eng
open Go
structure Place where
  b : Nat
  o : Nat
  n : Nat
  hi : Nat

abbrev Pl := Nat → Nat → Option Place

def CRO (β : Pl) : AO → Value → Prop
  | .p v, x => x = v ∧ v.oneCell' = true
  | .str s, x => x = .string ⟨s.toArray⟩
  | .nilP, x => x = .pointer none
  | .nilS, x => x = .slice none 0 0
  | .nilM, x => x = .map none
  | .nilF, x => x = .nilFunc
  | .ptr id g off lim, x => ∃ p, β id g = some p ∧ off + lim ≤ p.hi ∧ x = .pointer (some ⟨p.b, p.o + off, none⟩)
  | .sl id g off len sz, x => ∃ p cap o', β id g = some p ∧ off + len * sz ≤ p.hi ∧ len ≤ cap ∧ x = .slice (some o') len cap ∧ (cap = 0 ∨ (o' = ⟨p.b, p.o + off, none⟩ ∧ p.o + off + cap * sz ≤ p.n))
  | .mp id, x => ∃ p, β id 0 = some p ∧ x = .map (some p.b)
  | .clo f caps, x => ∃ cs : List Value, x = .func (.func f) #[] cs.toArray ∧ cs.length = caps.length ∧
      ∀ (k : Nat) (c : Nat × Nat × Nat × Nat) (v : Value), caps[k]? = some c → cs[k]? = some v → ∃ p, β c.1 c.2.1 = some p ∧ c.2.2.1 + c.2.2.2 ≤ p.hi ∧ v = .pointer (some ⟨p.b, p.o + c.2.2.1, none⟩)
  | .yl id, x => ∃ p, β id 0 = some p ∧ x = .func (.yield p.b) #[] #[]
  | .it id, x => ∃ p, β id 0 = some p ∧ x = .pointer (some ⟨p.b, 0, none⟩)

def CR (β : Pl) : AC → Value → Prop
  | .b x, v => v = .bool x
  | .i k n, v => v = .int k n
  | .o x, v => CRO β x v

def CRs (β : Pl) : List AC → List Value → Prop
  | [], [] => True
  | c :: l, v :: vs => CR β c v ∧ CRs β l vs
  | _, _ => False
def TR (β : Pl) : Bool × List AC → Value → Prop
  | (true, l), v => ∃ vs, CRs β l vs ∧ v = .agg vs.toArray
  | (false, [c]), v => CR β c v
  | _, _ => False

def TRs (β : Pl) : List (Bool × List AC) → List Value → Prop
  | [], [] => True
  | c :: l, v :: vs => TR β c v ∧ TRs β l vs
  | _, _ => False

def AR (β : Pl) : AV → Value → Prop
  | .one c, v => CR β c v
  | .agg l, v => ∃ vs, CRs β l vs ∧ v = .agg vs.toArray
  | .tup l, v => ∃ vs, TRs β l vs ∧ v = .tuple vs.toArray
  | .any, _ => True

def ARs (β : Pl) : List AV → List Value → Prop
  | [], [] => True
  | c :: l, v :: vs => AR β c v ∧ ARs β l vs
  | _, _ => False

def ERs (β : Pl) : List AEntry → List MapEntry → Prop
  | [], [] => True
  | e :: l, m :: ms => (AR β e.key m.key ∧ e.key.noTup = true ∧ AR β e.val m.val ∧ e.val.noTup = true ∧ m.born = e.born) ∧ ERs β l ms
  | _, _ => False
def TmR (β : Pl) (tm : PT AV) (nt : Nat) (tmps : Array Value) : Prop :=
  tmps.size = nt ∧ nt ≤ 1048576 ∧ ∀ t, AR β (optE (tm.get t) undefA fun v => v) (tmps.getD t undef)

def genOK : AObj → Nat → Prop
  | .arr _ _ lo gen, g => lo ≤ g ∧ g ≤ gen
  | .oth _, g => g = 0
  | .ro _, g => g = 0
def AObj.isRo : AObj → Bool
  | .ro _ => true
  | _ => false
def genW (o : AObj) (g : Nat) : Prop := genOK o g ∧ o.isRo = false
def RowR (β : Pl) (w : World) (cells : List AC) (e : TypeId) (p : Place) : Prop :=
  ∃ c : Array Value, w.heap[p.b]? = some (.cells c e (0, 0)) ∧ c.size = p.n ∧ p.o + p.hi ≤ p.n ∧ p.hi ≤ cells.length ∧
    ∀ k x, k < p.hi → cells[k]? = some x → ∃ v, c[p.o + k]? = some v ∧ CR β x v
def RowD (β : Pl) (w : World) (cells : List AC) (p : Place) : Prop :=
  ∃ (c : Array Value) (e : TypeId) (f : Nat × Nat), w.heap[p.b]? = some (.cells c e f) ∧ c.size = p.n ∧ p.o + p.hi ≤ p.n ∧ p.hi ≤ cells.length ∧
    ∀ k x, k < p.hi → cells[k]? = some x → ∃ v, c[p.o + k]? = some v ∧ CR β x v

theorem RowR.d {β : Pl} {w : World} {cells : List AC} {e : TypeId} {p : Place} (h : RowR β w cells e p) : RowD β w cells p :=
  let ⟨c, h1, r⟩ := h; ⟨c, e, (0, 0), h1, r⟩

def OthR (β : Pl) (w : World) (p : Place) : AOth → Prop
  | .map es clock => ∃ ms : List MapEntry, w.heap[p.b]? = some (.map ms.toArray clock) ∧ ERs β es ms
  | .iter m since seen stepped =>
    match m with
    | none => w.heap[p.b]? = some (.mapIter none since seen.toArray stepped)
    | some i => ∃ q, β i 0 = some q ∧ w.heap[p.b]? = some (.mapIter (some q.b) since seen.toArray stepped)
  | .loop st pe tm nt ps as bo d => ∃ q fn tmps, β d 0 = some q ∧ TmR β tm nt tmps ∧
      w.heap[p.b]? = some (.loop { state := st, pending := pe, fn := fn, tmps := tmps, params := ps.toArray, assign := as, body := bo, defers := q.b })
  | .dfr b => w.heap[p.b]? = some (.deferred (if b = true then some [] else none))

def ObjR (β : Pl) (w : World) (id : Nat) : AObj → Prop
  | .arr cells e lo gen => lo ≤ gen ∧
      (∀ g, lo ≤ g → g ≤ gen → ∃ p, β id g = some p ∧ RowR β w cells e p ∧ (g = gen → p.hi = cells.length)) ∧
      (∀ g g' p p', lo ≤ g → g ≤ g' → g' ≤ gen → β id g = some p → β id g' = some p' → p.hi ≤ p'.hi ∧ (p.b = p'.b → p.o = p'.o)) ∧
      (∀ g, gen < g → β id g = none)
  | .oth x => ∃ p, β id 0 = some p ∧ OthR β w p x
  | .ro cells => ∃ p, β id 0 = some p ∧ RowD β w cells p

structure Rel (m : Nat) (β : Pl) (H : Hp) (w : World) : Prop where
  obj : ∀ id o, H.get id = some o → ObjR β w id o
  sep : ∀ id id' o o' g g' p p', H.get id = some o → H.get id' = some o' → genOK o g → genOK o' g' → β id g = some p → β id' g' = some p' → p.b = p'.b → id = id' ∨ (o.isRo = true ∧ o'.isRo = true)
  wf : ∀ id, H.nx ≤ id → H.get id = none
  free : ∀ id g, H.nx ≤ id → id < m → β id g = none
structure Ext (β : Pl) (H : Hp) (w : World) (β' : Pl) (H' : Hp) (w' : World) : Prop where
  sub : ∀ id g p, β id g = some p → β' id g = some p
  loc : ∀ id g p, β' id g = some p → β id g = some p ∨ (H.nx ≤ id ∧ id < H'.nx) ∨ ∃ o, H.get id = some o
  size : w.heap.size ≤ w'.heap.size
  os : w'.os = w.os
  tape : w'.tape = w.tape
  output : w'.output = w.output
  frame : ∀ b, b < w.heap.size → (∀ id o g p, H.get id = some o → genW o g → β id g = some p → p.b ≠ b) → w'.heap[b]? = w.heap[b]?
  prov : ∀ id o' g p, H'.get id = some o' → genOK o' g → β' id g = some p → w.heap.size ≤ p.b ∨ ∃ o g0 p0, H.get id = some o ∧ genOK o g0 ∧ β id g0 = some p0 ∧ p0.b = p.b ∧ o.isRo = o'.isRo
  nx : H.nx ≤ H'.nx
  log : ∃ l, H'.log = l ++ H.log ∧ ∀ id, id < H.nx → id ∉ l → H'.get id = H.get id
  dom : ∀ id o, H.get id = some o → ∃ o', H'.get id = some o'
  old : ∀ id o', H'.get id = some o' → (∃ o, H.get id = some o) ∨ (H.nx ≤ id ∧ id < H'.nx)
  far : ∀ l, H'.log = l ++ H.log → ∀ b, b < w.heap.size → (∀ id o g p, id ∈ l → H.get id = some o → genW o g → β id g = some p → p.b ≠ b) → w'.heap[b]? = w.heap[b]?

abbrev Sub (β β' : Pl) : Prop := ∀ id g p, β id g = some p → β' id g = some p

/-! ### Kept along more places -/
section mono
variable {β β' : Pl} (hs : Sub β β')
include hs

theorem CRO.mono {x : AO} {v : Value} (h : CRO β x v) : CRO β' x v := by
  cases x with
  | p v => exact h
  | str s => exact h
  | nilP => exact h
  | nilS => exact h
  | nilM => exact h
  | nilF => exact h
  | ptr id g off lim => obtain ⟨p, hp, r⟩ := h; exact ⟨p, hs _ _ _ hp, r⟩
  | sl id g off len sz => obtain ⟨p, cap, o', hp, r⟩ := h; exact ⟨p, cap, o', hs _ _ _ hp, r⟩
  | mp id => obtain ⟨p, hp, r⟩ := h; exact ⟨p, hs _ _ _ hp, r⟩
  | clo f caps =>
    obtain ⟨cs, h1, h2, h3⟩ := h
    refine ⟨cs, h1, h2, fun k c v hc hv => ?_⟩
    obtain ⟨p, hp, r⟩ := h3 k c v hc hv
    exact ⟨p, hs _ _ _ hp, r⟩
  | yl id => obtain ⟨p, hp, r⟩ := h; exact ⟨p, hs _ _ _ hp, r⟩
  | it id => obtain ⟨p, hp, r⟩ := h; exact ⟨p, hs _ _ _ hp, r⟩

theorem CR.mono {x : AC} {v : Value} (h : CR β x v) : CR β' x v := by
  cases x with
  | b x => exact h
  | i k n => exact h
  | o x => exact CRO.mono hs h

theorem CRs.mono : ∀ {l : List AC} {vs : List Value}, CRs β l vs → CRs β' l vs
  | [], [], _ => trivial
  | _ :: _, _ :: _, h => ⟨CR.mono hs h.1, CRs.mono h.2⟩
  | [], _ :: _, h => h.elim
  | _ :: _, [], h => h.elim

theorem TR.mono {x : Bool × List AC} {v : Value} (h : TR β x v) : TR β' x v := by
  obtain ⟨b, l⟩ := x
  cases b with
  | true => obtain ⟨vs, h1, h2⟩ := h; exact ⟨vs, CRs.mono hs h1, h2⟩
  | false =>
    match l, h with
    | [c], h => exact CR.mono hs h

theorem TRs.mono : ∀ {l : List (Bool × List AC)} {vs : List Value}, TRs β l vs → TRs β' l vs
  | [], [], _ => trivial
  | _ :: _, _ :: _, h => ⟨TR.mono hs h.1, TRs.mono h.2⟩
  | [], _ :: _, h => h.elim
  | _ :: _, [], h => h.elim

theorem AR.mono {x : AV} {v : Value} (h : AR β x v) : AR β' x v := by
  cases x with
  | one c => exact CR.mono hs h
  | agg l => obtain ⟨vs, h1, h2⟩ := h; exact ⟨vs, CRs.mono hs h1, h2⟩
  | tup l => obtain ⟨vs, h1, h2⟩ := h; exact ⟨vs, TRs.mono hs h1, h2⟩
  | any => trivial

theorem ARs.mono : ∀ {l : List AV} {vs : List Value}, ARs β l vs → ARs β' l vs
  | [], [], _ => trivial
  | _ :: _, _ :: _, h => ⟨AR.mono hs h.1, ARs.mono h.2⟩
  | [], _ :: _, h => h.elim
  | _ :: _, [], h => h.elim

theorem ERs.mono : ∀ {l : List AEntry} {ms : List MapEntry}, ERs β l ms → ERs β' l ms
  | [], [], _ => trivial
  | _ :: _, _ :: _, h => ⟨⟨AR.mono hs h.1.1, h.1.2.1, AR.mono hs h.1.2.2.1, h.1.2.2.2⟩, ERs.mono h.2⟩
  | [], _ :: _, h => h.elim
  | _ :: _, [], h => h.elim

theorem TmR.mono {tm : PT AV} {nt : Nat} {tmps : Array Value} (h : TmR β tm nt tmps) : TmR β' tm nt tmps := ⟨h.1, h.2.1, fun t => AR.mono hs (h.2.2 t)⟩

theorem RowR.mono {w w' : World} {cells : List AC} {e : TypeId} {p : Place} (h : RowR β w cells e p) (hw : w'.heap[p.b]? = w.heap[p.b]?) : RowR β' w' cells e p := by
  obtain ⟨c, h1, h2, h3, h4, h5⟩ := h
  refine ⟨c, hw.trans h1, h2, h3, h4, fun k x hk hx => ?_⟩
  obtain ⟨v, hv, hr⟩ := h5 k x hk hx
  exact ⟨v, hv, CR.mono hs hr⟩

theorem OthR.mono {w w' : World} {p : Place} {x : AOth} (h : OthR β w p x) (hw : w'.heap[p.b]? = w.heap[p.b]?) : OthR β' w' p x := by
  cases x with
  | map es clock => obtain ⟨ms, h1, h2⟩ := h; exact ⟨ms, hw.trans h1, ERs.mono hs h2⟩
  | iter m since seen stepped =>
    cases m with
    | none => exact hw.trans h
    | some i => obtain ⟨q, h1, h2⟩ := h; exact ⟨q, hs _ _ _ h1, hw.trans h2⟩
  | loop st pe tm nt ps as bo d =>
    obtain ⟨q, fn, tmps, h1, h2, h3⟩ := h
    exact ⟨q, fn, tmps, hs _ _ _ h1, TmR.mono hs h2, hw.trans h3⟩
  | dfr b => exact hw.trans h
theorem ObjR.mono {w w' : World} {id : Nat} {o : AObj} (h : ObjR β w id o) (hn : ∀ g, β' id g = β id g) (hw : ∀ g p, genOK o g → β id g = some p → w'.heap[p.b]? = w.heap[p.b]?) : ObjR β' w' id o := by
  cases o with
  | arr cells e lo gen =>
    obtain ⟨h0, h1, h2, h3⟩ := h
    refine ⟨h0, fun g hl hg => ?_, fun g g' p p' a b c d e => ?_, fun g hg => by rw [hn]; exact h3 g hg⟩
    · obtain ⟨p, hp, hr, hh⟩ := h1 g hl hg
      exact ⟨p, hs _ _ _ hp, RowR.mono hs hr (hw g p ⟨hl, hg⟩ hp), hh⟩
    · rw [hn] at d e; exact h2 g g' p p' a b c d e
  | oth x =>
    obtain ⟨p, hp, hx⟩ := h
    exact ⟨p, hs _ _ _ hp, OthR.mono hs hx (hw 0 p rfl hp)⟩
  | ro cells =>
    obtain ⟨p, hp, c, e, f, h1, h2, h3, h4, h5⟩ := h
    refine ⟨p, hs _ _ _ hp, c, e, f, (hw 0 p rfl hp).trans h1, h2, h3, h4, fun k x hk hx => ?_⟩
    obtain ⟨v, hv, hr⟩ := h5 k x hk hx
    exact ⟨v, hv, CR.mono hs hr⟩
end mono

theorem ERs.get {β : Pl} : ∀ {l : List AEntry} {ms : List MapEntry}, ERs β l ms → l.length = ms.length
  | [], [], _ => rfl
  | _ :: _, _ :: _, h => by simp [ERs.get h.2]
  | [], _ :: _, h => h.elim
  | _ :: _, [], h => h.elim

theorem CRs.length {β : Pl} : ∀ {l : List AC} {vs : List Value}, CRs β l vs → vs.length = l.length
  | [], [], _ => rfl
  | _ :: _, _ :: _, h => by simp [CRs.length h.2]
  | [], _ :: _, h => h.elim
  | _ :: _, [], h => h.elim

theorem ARs.length {β : Pl} : ∀ {l : List AV} {vs : List Value}, ARs β l vs → vs.length = l.length
  | [], [], _ => rfl
  | _ :: _, _ :: _, h => by simp [ARs.length h.2]
  | [], _ :: _, h => h.elim
  | _ :: _, [], h => h.elim

theorem CRs.get {β : Pl} : ∀ {l : List AC} {vs : List Value}, CRs β l vs → ∀ (k : Nat) (c : AC) (v : Value), l[k]? = some c → vs[k]? = some v → CR β c v
  | [], [], _, k, c, v, h, _ => by simp at h
  | _ :: _, _ :: _, h, 0, c, v, hc, hv => by simp at hc hv; subst hc hv; exact h.1
  | _ :: _, _ :: _, h, k + 1, c, v, hc, hv => CRs.get h.2 k c v (by simpa using hc) (by simpa using hv)
  | [], _ :: _, h, _, _, _, _, _ => h.elim
  | _ :: _, [], h, _, _, _, _, _ => h.elim

theorem CRs.of_get {β : Pl} : ∀ {l : List AC} {vs : List Value}, vs.length = l.length → (∀ (k : Nat) (c : AC) (v : Value), l[k]? = some c → vs[k]? = some v → CR β c v) → CRs β l vs
  | [], [], _, _ => trivial
  | c :: l, v :: vs, hl, h => ⟨h 0 c v rfl rfl, CRs.of_get (by simpa using hl) fun k c' v' hc hv => h (k + 1) c' v' (by simpa using hc) (by simpa using hv)⟩
  | [], _ :: _, hl, _ => by simp at hl
  | _ :: _, [], hl, _ => by simp at hl

theorem CRs.append {β : Pl} {l l' : List AC} {vs vs' : List Value} (h : CRs β l vs) (h' : CRs β l' vs') : CRs β (l ++ l') (vs ++ vs') := by
  induction l generalizing vs with
  | nil => cases vs with | nil => exact h' | cons => exact h.elim
  | cons c l ih => cases vs with | nil => exact h.elim | cons v vs => exact ⟨h.1, ih h.2⟩

theorem ARs.append {β : Pl} {l l' : List AV} {vs vs' : List Value} (h : ARs β l vs) (h' : ARs β l' vs') : ARs β (l ++ l') (vs ++ vs') := by
  induction l generalizing vs with
  | nil => cases vs with | nil => exact h' | cons => exact h.elim
  | cons c l ih => cases vs with | nil => exact h.elim | cons v vs => exact ⟨h.1, ih h.2⟩

theorem CRs.take {β : Pl} {l : List AC} {vs : List Value} (h : CRs β l vs) (n : Nat) : CRs β (l.take n) (vs.take n) :=
  CRs.of_get (by simp [h.length]) fun k c v hc hv => by
    rw [List.getElem?_take] at hc hv
    split at hc
    · rename_i hk; rw [if_pos hk] at hv; exact h.get k c v hc hv
    · cases hc
theorem CRs.drop {β : Pl} {l : List AC} {vs : List Value} (h : CRs β l vs) (n : Nat) : CRs β (l.drop n) (vs.drop n) :=
  CRs.of_get (by simp [h.length]) fun k c v hc hv => by
    rw [List.getElem?_drop] at hc hv
    exact h.get _ c v hc hv
theorem CR.oneCell {β : Pl} {c : AC} {v : Value} (h : CR β c v) : v.oneCell' = true := by
  cases c with
  | b x => cases h; rfl
  | i k n => cases h; rfl
  | o x =>
    cases x with
    | p u => obtain ⟨h1, h2⟩ := h; subst h1; exact h2
    | str s => cases h; rfl
    | nilP => cases h; rfl
    | nilS => cases h; rfl
    | nilM => cases h; rfl
    | nilF => cases h; rfl
    | ptr id g off lim => obtain ⟨p, _, _, rfl⟩ := h; rfl
    | sl id g off len sz => obtain ⟨p, cap, o', _, _, _, rfl, _⟩ := h; rfl
    | mp id => obtain ⟨p, _, rfl⟩ := h; rfl
    | clo f caps => obtain ⟨cs, rfl, _⟩ := h; rfl
    | yl id => obtain ⟨p, _, rfl⟩ := h; rfl
    | it id => obtain ⟨p, _, rfl⟩ := h; rfl

theorem CRs.oneCell {β : Pl} : ∀ {l : List AC} {vs : List Value}, CRs β l vs → ∀ v ∈ vs, v.oneCell' = true
  | [], [], _, v, hv => by cases hv
  | _ :: _, _ :: _, h, v, hv => by
    rcases List.mem_cons.1 hv with rfl | hv
    · exact h.1.oneCell
    · exact CRs.oneCell h.2 v hv
  | [], _ :: _, h, _, _ => h.elim
  | _ :: _, [], h, _, _ => h.elim
theorem AR.cells {β : Pl} {x : AV} {v : Value} (h : AR β x v) (hn : x.noTup = true) : CRs β x.cells v.cells.toList := by
  cases x with
  | one c =>
    have h1 := CR.oneCell h
    have : v.cells = #[v] := by cases v <;> first | rfl | (simp [Value.oneCell'] at h1)
    rw [this]
    exact ⟨h, trivial⟩
  | agg l => obtain ⟨vs, h1, rfl⟩ := h; exact h1
  | tup l => cases hn
  | any => cases hn

/-! ### Steps -/
theorem Ext.refl (β : Pl) (H : Hp) (w : World) : Ext β H w β H w :=
  ⟨fun _ _ _ h => h, fun _ _ _ h => .inl h, Nat.le_refl _, rfl, rfl, rfl, fun _ _ _ => rfl, fun id o g p h1 h2 h3 => .inr ⟨o, g, p, h1, h2, h3, rfl, rfl⟩, Nat.le_refl _, ⟨[], rfl, fun _ _ _ => rfl⟩, fun _ o h => ⟨o, h⟩, fun _ o h => .inl ⟨o, h⟩, fun _ _ _ _ _ => rfl⟩

theorem Ext.trans {β β1 β2 : Pl} {H H1 H2 : Hp} {w w1 w2 : World} (h : Ext β H w β1 H1 w1) (k : Ext β1 H1 w1 β2 H2 w2) : Ext β H w β2 H2 w2 where
  sub := fun id g p hp => k.sub _ _ _ (h.sub _ _ _ hp)
  loc := fun id g p hp => by
    rcases k.loc id g p hp with hp | hp | ⟨o, ho⟩
    · rcases h.loc id g p hp with hp | hp | hp
      · exact .inl hp
      · exact .inr (.inl ⟨hp.1, Nat.lt_of_lt_of_le hp.2 k.nx⟩)
      · exact .inr (.inr hp)
    · exact .inr (.inl ⟨Nat.le_trans h.nx hp.1, hp.2⟩)
    · rcases h.old id o ho with hq | hq
      · exact .inr (.inr hq)
      · exact .inr (.inl ⟨hq.1, Nat.lt_of_lt_of_le hq.2 k.nx⟩)
  size := Nat.le_trans h.size k.size
  os := k.os.trans h.os
  tape := k.tape.trans h.tape
  output := k.output.trans h.output
  frame := fun b hb hn => by
    rw [k.frame b (Nat.lt_of_lt_of_le hb h.size) ?_, h.frame b hb hn]
    intro id o g p ho hg hp hpb
    rcases h.prov id o g p ho hg.1 hp with hq | ⟨o0, g0, p0, a1, a2, a3, a4, a5⟩
    · omega
    · exact hn id o0 g0 p0 a1 ⟨a2, a5.trans hg.2⟩ a3 (a4.trans hpb)
  prov := fun id o' g p ho hg hp => by
    rcases k.prov id o' g p ho hg hp with hq | ⟨o0, g0, p0, a1, a2, a3, a4, a5⟩
    · exact .inl (Nat.le_trans h.size hq)
    · rcases h.prov id o0 g0 p0 a1 a2 a3 with hq | ⟨o1, g1, p1, b1, b2, b3, b4, b5⟩
      · exact .inl (by omega)
      · exact .inr ⟨o1, g1, p1, b1, b2, b3, b4.trans a4, b5.trans a5⟩
  nx := Nat.le_trans h.nx k.nx
  log := by
    obtain ⟨l, hl, hg⟩ := h.log
    obtain ⟨l2, hl2, hg2⟩ := k.log
    refine ⟨l2 ++ l, by rw [hl2, hl, List.append_assoc], fun id hid hm => ?_⟩
    rw [hg2 id (Nat.lt_of_lt_of_le hid h.nx) (fun hx => hm (List.mem_append_left _ hx)), hg id hid (fun hx => hm (List.mem_append_right _ hx))]
  dom := fun id o ho => by
    obtain ⟨o1, h1⟩ := h.dom id o ho
    exact k.dom id o1 h1
  old := fun id o' ho => by
    rcases k.old id o' ho with ⟨o1, h1⟩ | hq
    · rcases h.old id o1 h1 with hq | hq
      · exact .inl hq
      · exact .inr ⟨hq.1, Nat.lt_of_lt_of_le hq.2 k.nx⟩
    · exact .inr ⟨Nat.le_trans h.nx hq.1, hq.2⟩
  far := fun l hl b hb hn => by
    obtain ⟨l1, e1, _⟩ := h.log
    obtain ⟨l2, e2, _⟩ := k.log
    have e : l = l2 ++ l1 := by
      rw [e2, e1, ← List.append_assoc] at hl
      exact (List.append_cancel_right hl).symm
    subst e
    rw [k.far l2 e2 b (Nat.lt_of_lt_of_le hb h.size) ?_, h.far l1 e1 b hb fun id o g p hid => hn id o g p (List.mem_append_right _ hid)]
    intro id o g p hid ho hg hp hpb
    rcases h.prov id o g p ho hg.1 hp with hq | ⟨o0, g0, p0, a1, a2, a3, a4, a5⟩
    · omega
    · exact hn id o0 g0 p0 (List.mem_append_left _ hid) a1 ⟨a2, a5.trans hg.2⟩ a3 (a4.trans hpb)
end Go.Eng

/- The engine's heap: a new object, an object that is changed: the relation goes on. -/
namespace Go.Eng
open Go

theorem getElem?_lt {α : Type} {a : Array α} {i : Nat} {x : α} (h : a[i]? = some x) : i < a.size := (Array.getElem?_eq_some_iff.1 h).1

theorem OthR.lt {β : Pl} {w : World} {p : Place} {x : AOth} (h : OthR β w p x) : p.b < w.heap.size := by
  cases x with
  | map es clock => obtain ⟨ms, h1, _⟩ := h; exact getElem?_lt h1
  | iter m since seen stepped =>
    cases m with
    | none => exact getElem?_lt h
    | some i => obtain ⟨q, _, h1⟩ := h; exact getElem?_lt h1
  | loop st pe tm nt ps as bo d => obtain ⟨q, fn, tmps, _, _, h3⟩ := h; exact getElem?_lt h3
  | dfr b => exact getElem?_lt h

theorem ObjR.lt {β : Pl} {w : World} {id : Nat} {o : AObj} (h : ObjR β w id o) {g : Nat} {p : Place} (hg : genOK o g) (hp : β id g = some p) : p.b < w.heap.size := by
  cases o with
  | arr cells e lo gen =>
    obtain ⟨_, h1, _, _⟩ := h
    obtain ⟨q, hq, ⟨c, hc, _⟩, _⟩ := h1 g hg.1 hg.2
    rw [hp] at hq; cases hq
    exact getElem?_lt hc
  | oth x =>
    obtain ⟨q, hq, hx⟩ := h
    have : g = 0 := hg
    subst this
    rw [hp] at hq; cases hq
    exact hx.lt
  | ro cells =>
    obtain ⟨q, hq, c, e, f, hc, _⟩ := h
    have : g = 0 := hg
    subst this
    rw [hp] at hq; cases hq
    exact getElem?_lt hc

theorem get_new (H : Hp) (o : AObj) (h : H.nx < H.nx + 1) (i : Nat) : (H.new o).get i = if i = H.nx then some o else H.get i := PT.get_set _ _ _ _ h
theorem get_mod (H : Hp) (id : Nat) (o : AObj) (h : id < id + 1) (i : Nat) : (H.mod id o).get i = if i = id then some o else H.get i := PT.get_set _ _ _ _ h
def plus (β : Pl) (id g : Nat) (p : Place) : Pl := fun i k => if i = id ∧ k = g then some p else β i k

theorem plus_same (β : Pl) (id g : Nat) (p : Place) : plus β id g p id g = some p := by simp [plus]
theorem plus_other (β : Pl) (id g : Nat) (p : Place) {i k : Nat} (h : ¬ (i = id ∧ k = g)) : plus β id g p i k = β i k := by simp [plus, h]
theorem plus_sub {β : Pl} {id g : Nat} {p : Place} (h : β id g = none) : Sub β (plus β id g p) := by
  intro i k q hq
  by_cases e : i = id ∧ k = g
  · obtain ⟨rfl, rfl⟩ := e; rw [h] at hq; cases hq
  · rw [plus_other _ _ _ _ e]; exact hq

section
variable {m : Nat} {β : Pl} {H : Hp} {w : World} (hR : Rel m β H w)
include hR

theorem Rel.id_lt {id : Nat} {o : AObj} (ho : H.get id = some o) : id < H.nx := by
  rcases Nat.lt_or_ge id H.nx with h | h
  · exact h
  · rw [hR.wf id h] at ho; cases ho

theorem rel_mod (_hm : m ≤ m) (hnx : H.nx ≤ m) {id : Nat} {o : AObj} (ho : H.get id = some o) (o' : AObj) {β' : Pl} {w' : World} (hsub : Sub β β') (hoth : ∀ i, i ≠ id → ∀ g, β' i g = β i g)
    (hsz : w.heap.size ≤ w'.heap.size) (hos : w'.os = w.os) (htape : w'.tape = w.tape) (hout : w'.output = w.output)
    (hfr : ∀ b, b < w.heap.size → (∀ g p, genOK o g → β id g = some p → p.b ≠ b) → w'.heap[b]? = w.heap[b]?)
    (hobj : ObjR β' w' id o')
    (hprov : ∀ g p, genOK o' g → β' id g = some p → w.heap.size ≤ p.b ∨ ∃ g0 p0, genOK o g0 ∧ β id g0 = some p0 ∧ p0.b = p.b) (hro : o.isRo = false := by rfl) (hro' : o'.isRo = false := by rfl) :
    Rel m β' (H.mod id o') w' ∧ Ext β H w β' (H.mod id o') w' := by
  have hid := hR.id_lt ho
  have hid40 : id < id + 1 := by omega
  have hget := get_mod H id o' hid40
  refine ⟨⟨?_, ?_, ?_, ?_⟩, ?_⟩
  · intro i x hx
    rw [hget] at hx
    by_cases e : i = id
    · subst e; rw [if_pos rfl] at hx; cases hx; exact hobj
    · rw [if_neg e] at hx
      have hi := hR.obj i x hx
      refine ObjR.mono hsub hi (hoth i e) fun g p hg hp => ?_
      exact hfr p.b (hi.lt hg hp) fun g0 p0 hg0 hp0 hb => (hR.sep _ _ _ _ _ _ _ _ hx ho hg hg0 hp hp0 hb.symm).elim e fun hh => by rw [hro] at hh; cases hh.2
  · intro i j x y g g' p p' hx hy hg hg' hp hp' hb
    rw [hget] at hx hy
    by_cases e : i = id
    · by_cases f : j = id
      · exact .inl (by rw [e, f])
      · subst e
        rw [if_pos rfl] at hx; rw [if_neg f] at hy; cases hx
        rw [hoth j f] at hp'
        have hlt := (hR.obj j y hy).lt hg' hp'
        rcases hprov g p hg hp with hq | ⟨g0, p0, a1, a2, a3⟩
        · omega
        · exact (hR.sep _ _ _ _ _ _ _ _ ho hy a1 hg' a2 hp' (a3.trans hb)).imp (fun h => h) fun hh => by rw [hro] at hh; cases hh.1
    · by_cases f : j = id
      · subst f
        rw [if_neg e] at hx; rw [if_pos rfl] at hy; cases hy
        rw [hoth i e] at hp
        have hlt := (hR.obj i x hx).lt hg hp
        rcases hprov g' p' hg' hp' with hq | ⟨g0, p0, a1, a2, a3⟩
        · omega
        · exact (hR.sep _ _ _ _ _ _ _ _ hx ho hg a1 hp a2 (hb.trans a3.symm)).imp (fun h => h) fun hh => by rw [hro] at hh; cases hh.2
      · rw [if_neg e] at hx; rw [if_neg f] at hy
        rw [hoth i e] at hp; rw [hoth j f] at hp'
        exact hR.sep _ _ _ _ _ _ _ _ hx hy hg hg' hp hp' hb
  · intro i hi
    have hi' : H.nx ≤ i := hi
    rw [hget, if_neg (by omega)]
    exact hR.wf i hi'
  · intro i g hi him
    have hi' : H.nx ≤ i := hi
    rw [hoth i (by omega)]
    exact hR.free i g hi' him
  · refine ⟨hsub, ?_, hsz, hos, htape, hout, ?_, ?_, Nat.le_refl _, ⟨[id], rfl, ?_⟩, ?_, ?_, ?_⟩
    · intro i g p hp
      by_cases e : i = id
      · subst e; exact .inr (.inr ⟨o, ho⟩)
      · rw [hoth i e] at hp; exact .inl hp
    · exact fun b hb hn => hfr b hb fun g p hg hp => hn id o g p ho ⟨hg, hro⟩ hp
    · intro i x g p hx hg hp
      rw [hget] at hx
      by_cases e : i = id
      · subst e
        rw [if_pos rfl] at hx; cases hx
        rcases hprov g p hg hp with hq | ⟨g0, p0, a1, a2, a3⟩
        · exact .inl hq
        · exact .inr ⟨o, g0, p0, ho, a1, a2, a3, by rw [hro, hro']⟩
      · rw [if_neg e] at hx; rw [hoth i e] at hp
        exact .inr ⟨x, g, p, hx, hg, hp, rfl, rfl⟩
    · intro i hi hl
      rw [hget, if_neg (by simpa using hl)]
    · intro i x hx
      rw [hget]
      by_cases e : i = id
      · rw [if_pos e]; exact ⟨_, rfl⟩
      · rw [if_neg e]; exact ⟨x, hx⟩
    · intro i x hx
      rw [hget] at hx
      by_cases e : i = id
      · subst e; exact .inl ⟨o, ho⟩
      · rw [if_neg e] at hx; exact .inl ⟨x, hx⟩
    · intro l hl b hb hn
      have e : l = [id] := by
        have hl' : [id] ++ H.log = l ++ H.log := hl
        exact (List.append_cancel_right hl').symm
      subst e
      exact hfr b hb fun g p hg hp => hn id o g p (List.mem_singleton.2 rfl) ho ⟨hg, hro⟩ hp

theorem rel_new (_hm : m ≤ m) (hnx : H.nx < m) (o' : AObj) (p : Place) {w' : World} (hb : w.heap.size ≤ p.b)
    (hsz : w.heap.size ≤ w'.heap.size) (hos : w'.os = w.os) (htape : w'.tape = w.tape) (hout : w'.output = w.output)
    (hfr : ∀ b, b < w.heap.size → w'.heap[b]? = w.heap[b]?) (hgen : ∀ g, genOK o' g → g = 0)
    (hobj : ObjR (plus β H.nx 0 p) w' H.nx o') :
    Rel m (plus β H.nx 0 p) (H.new o') w' ∧ Ext β H w (plus β H.nx 0 p) (H.new o') w' := by
  have hget := get_new H o' (by omega)
  have hnone : β H.nx 0 = none := hR.free H.nx 0 (Nat.le_refl _) hnx
  have hsub : Sub β (plus β H.nx 0 p) := plus_sub hnone
  have hoth : ∀ i, i ≠ H.nx → ∀ g, plus β H.nx 0 p i g = β i g := fun i hi g => plus_other _ _ _ _ (fun h => hi h.1)
  have hat : ∀ g q, genOK o' g → plus β H.nx 0 p H.nx g = some q → q = p := by
    intro g q hg hq
    have := hgen g hg
    subst this
    rw [plus_same] at hq
    exact (Option.some.inj hq).symm
  refine ⟨⟨?_, ?_, ?_, ?_⟩, ?_⟩
  · intro i x hx
    rw [hget] at hx
    by_cases e : i = H.nx
    · subst e; rw [if_pos rfl] at hx; cases hx; exact hobj
    · rw [if_neg e] at hx
      have hi := hR.obj i x hx
      exact ObjR.mono hsub hi (hoth i e) fun g p hg hp => hfr p.b (hi.lt hg hp)
  · intro i j x y g g' q q' hx hy hg hg' hq hq' hb'
    rw [hget] at hx hy
    by_cases e : i = H.nx
    · by_cases f : j = H.nx
      · exact .inl (by rw [e, f])
      · subst e
        rw [if_pos rfl] at hx; rw [if_neg f] at hy; cases hx
        rw [hoth j f] at hq'
        have hlt := (hR.obj j y hy).lt hg' hq'
        rw [hat g q hg hq] at hb'
        omega
    · by_cases f : j = H.nx
      · subst f
        rw [if_neg e] at hx; rw [if_pos rfl] at hy; cases hy
        rw [hoth i e] at hq
        have hlt := (hR.obj i x hx).lt hg hq
        rw [hat g' q' hg' hq'] at hb'
        omega
      · rw [if_neg e] at hx; rw [if_neg f] at hy
        rw [hoth i e] at hq; rw [hoth j f] at hq'
        exact hR.sep _ _ _ _ _ _ _ _ hx hy hg hg' hq hq' hb'
  · intro i hi
    have hi' : H.nx + 1 ≤ i := hi
    rw [hget, if_neg (by omega)]
    exact hR.wf i (by omega)
  · intro i g hi him
    have hi' : H.nx + 1 ≤ i := hi
    rw [hoth i (by omega)]
    exact hR.free i g (by omega) him
  · refine ⟨hsub, ?_, hsz, hos, htape, hout, fun b hb' _ => hfr b hb', ?_, Nat.le_succ _, ⟨[], rfl, ?_⟩, ?_, ?_, fun _ _ b hb' _ => hfr b hb'⟩
    · intro i g q hq
      by_cases e : i = H.nx
      · subst e; exact .inr (.inl ⟨Nat.le_refl _, Nat.lt_succ_self _⟩)
      · rw [hoth i e] at hq; exact .inl hq
    · intro i x g q hx hg hq
      rw [hget] at hx
      by_cases e : i = H.nx
      · subst e
        rw [if_pos rfl] at hx; cases hx
        rw [hat g q hg hq]
        exact .inl hb
      · rw [if_neg e] at hx; rw [hoth i e] at hq
        exact .inr ⟨x, g, q, hx, hg, hq, rfl, rfl⟩
    · intro i hi _
      rw [hget, if_neg (by omega)]
    · intro i x hx
      rw [hget, if_neg (by have := hR.id_lt hx; omega)]
      exact ⟨x, hx⟩
    · intro i x hx
      rw [hget] at hx
      by_cases e : i = H.nx
      · subst e; exact .inr ⟨Nat.le_refl _, Nat.lt_succ_self _⟩
      · rw [if_neg e] at hx; exact .inl ⟨x, hx⟩
end
theorem Rel.drew {m : Nat} {β : Pl} {H : Hp} {w : World} (hR : Rel m β H w) (n : Nat) : Rel m β H { w with drawn := n } where
  obj := fun id o ho => ObjR.mono (fun _ _ _ h => h) (hR.obj id o ho) (fun _ => rfl) fun _ _ _ _ => rfl
  sep := hR.sep
  wf := hR.wf
  free := hR.free
theorem rel_row {m : Nat} {β : Pl} {H : Hp} {w : World} (hR : Rel m β H w) (hm : m ≤ m) (hnx : H.nx < m) (cells : List AC) (vs : Array Value) (e : TypeId) (hc : CRs β cells vs.toList) (w0 : World)
    (h0 : w0.heap = w.heap) (hos : w0.os = w.os) (htape : w0.tape = w.tape) (hout : w0.output = w.output) (extra : Array Value) :
    Rel m (plus β H.nx 0 ⟨w.heap.size, 0, vs.size + extra.size, cells.length⟩) (H.new (.arr cells e 0 0)) { w0 with heap := w0.heap.push (.cells (vs ++ extra) e) } ∧
    Ext β H w (plus β H.nx 0 ⟨w.heap.size, 0, vs.size + extra.size, cells.length⟩) (H.new (.arr cells e 0 0)) { w0 with heap := w0.heap.push (.cells (vs ++ extra) e) } := by
  have hlen : vs.size = cells.length := by simpa using hc.length
  refine rel_new hR hm hnx _ _ (Nat.le_refl _) (by rw [h0]; simp) hos htape hout ?_ ?_ ?_
  · intro b hb
    show (w0.heap.push _)[b]? = _
    rw [Array.getElem?_push, if_neg (by rw [h0]; omega), h0]
  · intro g hg
    have := hg.2
    omega
  · refine ⟨Nat.le_refl _, ?_, ?_, ?_⟩
    · intro g _ hg
      have hg0 : g = 0 := by omega
      subst hg0
      refine ⟨_, plus_same _ _ _ _, ⟨vs ++ extra, ?_, by simp, by simp; omega, Nat.le_refl _, ?_⟩, fun _ => rfl⟩
      · show (w0.heap.push _)[w.heap.size]? = _
        rw [← h0, Array.getElem?_push_size]
      · intro k x hk hx
        have hk' : k < cells.length := hk
        have hkv : k < vs.size := by omega
        refine ⟨vs[k], ?_, ?_⟩
        · show (vs ++ extra)[0 + k]? = _
          rw [Nat.zero_add, Array.getElem?_append_left hkv, Array.getElem?_eq_getElem hkv]
        · refine CR.mono (plus_sub (hR.free H.nx 0 (Nat.le_refl _) hnx)) (hc.get k x vs[k] hx ?_)
          simp [hkv]
    · intro g g' p p' _ h1 h2 hp hp'
      have e1 : g = 0 := by omega
      have e2 : g' = 0 := by omega
      subst e1 e2
      rw [hp] at hp'; cases hp'
      exact ⟨Nat.le_refl _, fun _ => rfl⟩
    · intro g hg
      rw [plus_other _ _ _ _ (by omega)]
      exact hR.free H.nx g (Nat.le_refl _) hnx
end Go.Eng

/- The engine alone: no operation and no run takes objects' numbers back, and what is answered is never empty. -/
namespace Go.Eng
open Go

def NM (H : Hp) : ANext → Prop
  | .val _ H' => H.nx ≤ H'.nx
  | .vals l => l ≠ [] ∧ ∀ x ∈ l, H.nx ≤ x.2.nx
  | _ => True

section
variable {P : Program} {H : Hp}

theorem NM.nd {α : Type} {o : Option α} {s : String} {f : α → ANext} (h : ∀ a, NM H (f a)) : NM H (nd o s f) := by cases o with | none => exact trivial | some a => exact h a
theorem NM.guard {b : Bool} {s : String} {n : ANext} (h : NM H n) : NM H (guardN b s n) := by cases b with | true => exact h | false => exact trivial
theorem NM.ifE {b : Bool} {x y : ANext} (hx : NM H x) (hy : NM H y) : NM H (ifE b x y) := by cases b with | true => exact hx | false => exact hy
theorem NM.optE {α : Type} {o : Option α} {e : ANext} {f : α → ANext} (he : NM H e) (h : ∀ a, NM H (f a)) : NM H (optE o e f) := by cases o with | none => exact he | some a => exact h a
theorem NM.ptrE {x : AV} {e : ANext} {f : Nat → Nat → Nat → Nat → ANext} (he : NM H e) (h : ∀ a b c d, NM H (f a b c d)) : NM H (ptrE x e f) := by
  cases x with
  | one c => cases c with
    | o q => cases q <;> first | exact he | exact h _ _ _ _
    | b _ => exact he
    | i _ _ => exact he
  | agg _ => exact he
  | tup _ => exact he
  | any => exact he
theorem NM.slE {x : AV} {e : ANext} {f : Nat → Nat → Nat → Nat → Nat → ANext} (he : NM H e) (h : ∀ a b c d g, NM H (f a b c d g)) : NM H (slE x e f) := by
  cases x with
  | one c => cases c with
    | o q => cases q <;> first | exact he | exact h _ _ _ _ _
    | b _ => exact he
    | i _ _ => exact he
  | agg _ => exact he
  | tup _ => exact he
  | any => exact he
theorem NM.intE {x : AV} {e : ANext} {f : IntKind → Int → ANext} (he : NM H e) (h : ∀ a b, NM H (f a b)) : NM H (intE x e f) := by
  cases x with
  | one c => cases c with
    | o q => exact he
    | b _ => exact he
    | i _ _ => exact h _ _
  | agg _ => exact he
  | tup _ => exact he
  | any => exact he
theorem NM.boolE {x : AV} {e : ANext} {f : Bool → ANext} (he : NM H e) (h : ∀ a, NM H (f a)) : NM H (boolE x e f) := by
  cases x with
  | one c => cases c with
    | o q => exact he
    | b _ => exact h _
    | i _ _ => exact he
  | agg _ => exact he
  | tup _ => exact he
  | any => exact he
theorem NM.strE {x : AV} {e : ANext} {f : List UInt8 → ANext} (he : NM H e) (h : ∀ a, NM H (f a)) : NM H (strE x e f) := by
  cases x with
  | one c => cases c with
    | o q => cases q <;> first | exact he | exact h _
    | b _ => exact he
    | i _ _ => exact he
  | agg _ => exact he
  | tup _ => exact he
  | any => exact he
theorem NM.arrE {o : Option AObj} {e : ANext} {f : List AC → TypeId → Nat → Nat → ANext} (he : NM H e) (h : ∀ a b c d, NM H (f a b c d)) : NM H (arrE o e f) := by
  cases o with
  | none => exact he
  | some o => cases o with
    | arr _ _ _ _ => exact h _ _ _ _
    | oth _ => exact he
    | ro _ => exact he

theorem NM.same {v : AV} : NM H (.val v H) := Nat.le_refl _
theorem NM.mod {v : AV} {i : Nat} {o : AObj} : NM H (.val v (H.mod i o)) := Nat.le_refl _
theorem NM.new {v : AV} {o : AObj} : NM H (.val v (H.new o)) := Nat.le_succ _
theorem NM.bad {s : String} : NM H (.bad s) := trivial

theorem load_nm {a : Bool} {n : Nat} {v : AV} : NM H (doLoad H a n v) :=
  NM.ptrE NM.bad fun _ _ _ _ => NM.nd fun c => NM.ifE NM.same (by cases c <;> first | exact NM.bad | exact NM.same)
theorem store_nm {n : Nat} {x v : AV} : NM H (doStore H n x v) := NM.ptrE NM.bad fun _ _ _ _ => NM.arrE NM.bad fun _ _ _ _ => NM.guard NM.mod
theorem rowNew_nm {c : List AC} {e : TypeId} : NM H (rowNew H c e) := NM.new
theorem lookOut_nm {ok : Bool} {v : AV} {b : Bool} : NM H (lookOut H ok v b) := by cases ok with | false => exact NM.same | true => exact NM.guard NM.same
theorem lookup_nm {kt : TypeId} {z m k : AV} {ok : Bool} : NM H (doLookup P H kt z m k ok) := by
  unfold doLookup
  split
  · exact NM.nd fun _ => lookOut_nm
  · split
    · refine NM.nd fun _ => ?_
      split
      · exact lookOut_nm
      · exact lookOut_nm
      · exact NM.bad
    · exact NM.bad
  · exact NM.bad
theorem mapUpdate_nm {kt : TypeId} {m k x : AV} : NM H (doMapUpdate P H kt m k x) := by
  unfold doMapUpdate
  split
  · split
    · exact NM.nd fun _ => NM.guard (NM.nd fun _ => NM.ifE NM.mod NM.mod)
    · exact NM.bad
  · exact NM.bad
theorem next_nm {x : AV} : NM H (doNext H x) := by
  unfold doNext
  split
  · split
    · exact NM.same
    · split
      · refine NM.guard ?_
        split
        · exact NM.same
        · refine NM.guard ⟨by simp, fun x hx => ?_⟩
          obtain ⟨e, _, rfl⟩ := List.mem_map.1 hx
          exact Nat.le_refl _
      · exact NM.bad
    · exact NM.bad
  · exact NM.bad
theorem entry_nm {x : AV} : NM H (doEntry H x) := by
  unfold doEntry
  split
  · split
    · split
      · split
        · refine NM.guard ?_
          split
          · exact NM.same
          · exact NM.bad
        · exact NM.bad
      · exact NM.bad
    · exact NM.bad
  · exact NM.bad
theorem append_nm {t : TypeId} {s x : AV} : NM H (doAppend P H t s x) := by
  refine NM.nd fun es => NM.nd fun by_ => NM.nd fun z => NM.guard (NM.nd fun nc => ?_)
  unfold appendTo
  split
  · exact NM.ifE NM.same (NM.guard NM.new)
  · exact NM.arrE NM.bad fun _ _ _ _ => NM.guard (NM.ifE NM.same (NM.ifE NM.mod NM.mod))
  · exact NM.bad
theorem copy_nm {t : TypeId} {s x : AV} : NM H (doCopy P H t s x) := by
  refine NM.nd fun es => ?_
  split
  · exact NM.guard (NM.nd fun _ => NM.arrE NM.bad fun _ _ _ _ => NM.guard NM.mod)
  · exact NM.same
  · exact NM.same
  · exact NM.same
  · exact NM.bad
theorem call_nm {f : AV} {l : List AV} : NM H (doCall P f l) := by
  cases f with
  | one c => cases c with
    | o q => cases q <;> first | exact trivial | exact NM.guard trivial
    | b _ => exact trivial
    | i _ _ => exact trivial
  | agg _ => exact trivial
  | tup _ => exact trivial
  | any => exact trivial
theorem plain_nm {tm : PT AV} {o : Oper} : NM H (plainOp P tm H o) := by
  unfold plainOp
  refine NM.guard ?_
  split
  · exact NM.guard NM.same
  · exact NM.bad
theorem extractL_nm (i : Nat) : ∀ l : List (Bool × List AC), NM H (Nat.rec (motive := fun _ => List (Bool × List AC) → ANext)
      (fun l => List.rec (motive := fun _ => ANext) (.bad "extract") (fun x _ _ =>
        ifE x.1 (.val (.agg x.2) H) (List.rec (motive := fun _ => ANext) (.bad "extract") (fun c m _ => List.rec (motive := fun _ => ANext) (.val (.one c) H) (fun _ _ _ => .bad "extract") m) x.2)) l)
      (fun _ ih l => List.rec (motive := fun _ => ANext) (.bad "extract") (fun _ l' _ => ih l') l) i l) := by
  induction i with
  | zero =>
    intro l
    cases l with
    | nil => exact NM.bad
    | cons x l =>
      refine NM.ifE NM.same ?_
      obtain ⟨b, c⟩ := x
      cases c with
      | nil => exact NM.bad
      | cons y c => cases c <;> first | exact NM.same | exact NM.bad
  | succ i ih =>
    intro l
    cases l with
    | nil => exact NM.bad
    | cons x l => exact ih l
theorem extract_nm {x : AV} {i : Nat} : NM H (doExtract H x i) := by
  cases x with
  | tup l => exact extractL_nm i l
  | one _ => exact NM.bad
  | agg _ => exact NM.bad
  | any => exact extractL_nm i []
theorem range_nm {x : AV} : NM H (doRange H x) := by
  unfold doRange
  split
  · exact NM.new
  · split
    · exact NM.new
    · exact NM.bad
  · exact NM.bad
theorem len_nm {k : Nat} {x : AV} : NM H (doLen H k x) := by
  match k with
  | 0 => exact NM.strE NM.bad fun _ => NM.same
  | 1 => exact NM.slE (NM.guard NM.same) fun _ _ _ _ _ => NM.same
  | k + 2 =>
    show NM H (doLenMap H x)
    unfold doLenMap
    split
    · exact NM.same
    · split
      · exact NM.same
      · exact NM.bad
    · exact NM.bad
theorem bin_nm {kd : Nat} {op : BinOp} {f : BF} {x y : AV} {alt : ANext} (ha : NM H alt) : NM H (doBin H kd op f x y alt) := by
  cases x with
  | one c => cases c with
    | o q =>
      show NM H (doBinStr H kd op (.one (.o q)) y alt)
      refine NM.strE ?_ fun _ => NM.strE ha fun _ => NM.optE ha fun _ => NM.same
      unfold doBinAddr
      split
      · split
        · exact NM.same
        · exact NM.same
        · exact NM.bad
      · exact ha
    | b _ => exact ha
    | i k a =>
      show NM H (Eng.intE y alt fun k' b => doBinInt H f k a k' b alt)
      exact NM.intE ha fun _ _ => NM.ifE (by cases f <;> first | exact NM.same | exact ha) ha
  | agg _ => exact ha
  | tup _ => exact ha
  | any => exact ha
theorem field_nm {fo n : Nat} {a : Bool} {x : AV} : NM H (doField H fo n a x) := by
  cases x with
  | agg l => exact NM.ifE (NM.guard NM.same) (NM.nd fun _ => NM.same)
  | one _ => exact NM.bad
  | tup _ => exact NM.bad
  | any => exact NM.bad
theorem nilCheck_nm {x : AV} : NM H (nilCheckV H x) := by
  cases x with
  | one c => cases c with
    | o q => cases q <;> first | exact NM.bad | exact NM.same
    | b _ => exact NM.bad
    | i _ _ => exact NM.bad
  | agg _ => exact NM.bad
  | tup _ => exact NM.bad
  | any => exact NM.bad

theorem SF.ndNM {α : Type} {o : Option α} {s : String} {f : α → SF} {tm : PT AV} (h : ∀ a, NM H ((f a).run tm H)) : NM H ((ndF o s f).run tm H) := by
  cases o with
  | none => exact trivial
  | some a => exact h a
theorem SF.ifNM {b : Bool} {s : String} {f : SF} {tm : PT AV} (h : NM H (f.run tm H)) : NM H ((Eng.ifE b f (badF s)).run tm H) := by
  cases b with
  | false => exact trivial
  | true => exact h

theorem step_nm {tm : PT AV} (o : Oper) : NM H ((stepF P o).run tm H) := by
  have hp : ∀ o, NM H (plainOp P tm H o) := fun _ => plain_nm
  obtain ⟨dst, op, type, pos, after, guard⟩ := o
  cases op with
  | move x => cases x <;> exact NM.same
  | assign x => cases x <;> exact NM.same
  | pick c x y => exact NM.boolE NM.bad fun _ => NM.same
  | alloc e => exact SF.ndNM fun _ => rowNew_nm
  | box e x => exact NM.guard rowNew_nm
  | build t parts => exact SF.ndNM fun _ => SF.ndNM fun _ => SF.ndNM fun _ => NM.nd fun _ => NM.same
  | buildSlice t len parts => exact SF.ndNM fun _ => SF.ndNM fun _ => SF.ifNM (SF.ndNM fun _ => NM.nd fun _ => NM.new)
  | load t x => exact SF.ndNM fun _ => load_nm
  | store t x y => exact SF.ndNM fun _ => store_nm
  | nilCheck x => exact nilCheck_nm
  | binOp op t x y c => exact bin_nm (hp _)
  | unOp op t x =>
    show NM H (doUn H op _ (plainOp P tm H _))
    unfold doUn
    split
    · exact NM.boolE plain_nm fun _ => NM.same
    · exact plain_nm
  | convert s d x => exact hp _
  | fieldAddr s x f => exact SF.ndNM fun _ => NM.ptrE NM.bad fun _ _ _ _ => NM.guard NM.same
  | field t x f => exact SF.ndNM fun _ => SF.ndNM fun _ => field_nm
  | indexAddr t x i => exact SF.ndNM fun _ => NM.slE NM.bad fun _ _ _ _ _ => NM.intE NM.bad fun _ _ => NM.nd fun _ => NM.guard NM.same
  | index t x i => exact NM.ifE (NM.strE (hp _) fun _ => NM.intE (hp _) fun _ _ => NM.nd fun _ => NM.nd fun _ => NM.same) (hp _)
  | slice t x lo hi mx =>
    cases mx with
    | some _ => exact trivial
    | none =>
      cases he : elemT P t with
      | none =>
        have : stepF P ⟨dst, .slice t x lo hi none, type, pos, after, guard⟩ = .mk fun tm h => plainOp P tm h ⟨dst, .slice t x lo hi none, type, pos, after, guard⟩ := by
          simp [stepF, he]
        rw [this]
        exact hp _
      | some p =>
        have : stepF P ⟨dst, .slice t x lo hi none, type, pos, after, guard⟩ = .mk fun tm h => doSlice h p.2 ((opF x).ev tm) (lo.map (ev tm)) (hi.map (ev tm)) (plainOp P tm h ⟨dst, .slice t x lo hi none, type, pos, after, guard⟩) := by
          simp [stepF, he]
        rw [this]
        exact NM.slE (hp _) fun _ _ _ _ _ => NM.nd fun _ => NM.nd fun _ => NM.guard NM.same
  | extract x i => exact extract_nm
  | makeFunc fn first caps =>
    cases fn with
    | func f => exact SF.ifNM (NM.nd fun _ => NM.same)
    | _ => exact trivial
  | makeMap t r =>
    cases r with
    | some _ => exact trivial
    | none => exact NM.new
  | makeSlice t l c => exact NM.nd fun _ => NM.nd fun _ => NM.nd fun _ => NM.intE NM.bad fun _ _ => NM.intE NM.bad fun _ _ => NM.nd fun _ => NM.nd fun _ => NM.guard NM.new
  | lookup t x k ok => exact SF.ndNM fun _ => SF.ndNM fun _ => lookup_nm
  | mapUpdate t x k y => exact SF.ndNM fun _ => mapUpdate_nm
  | insert t x k y => exact SF.ndNM fun _ => mapUpdate_nm
  | range t x => exact SF.ndNM fun _ => range_nm
  | next x b =>
    cases b with
    | true => exact trivial
    | false => exact next_nm
  | entry x => exact entry_nm
  | call c =>
    show NM H ((callF P _ c).run tm H)
    unfold callF
    split
    · exact call_nm
    · unfold builtinF
      split
      · exact SF.ifNM append_nm
      · exact SF.ifNM copy_nm
      · exact SF.ndNM fun _ => len_nm
      · exact hp _
      · exact hp _
      · exact trivial
    · exact trivial
  | _ => exact trivial
end
end Go.Eng

/- The engine alone: a run's answers: never none, and no object's number is taken back. -/
namespace Go.Eng
open Go

def RG {α : Type} (k : Nat) (nx : α → Nat) (r : R α) : Prop := ∀ outs, r = .ok outs → outs ≠ [] ∧ ∀ x ∈ outs, k ≤ nx x

section
variable {α γ : Type} {k : Nat} {nx : α → Nat} {nx' : γ → Nat}

theorem RG.bad {s : String} : RG k nx (.bad s : R α) := fun _ h => by cases h
theorem RG.one {x : α} (h : k ≤ nx x) : RG k nx (.ok [x]) := fun outs h' => by
  cases h'
  exact ⟨by simp, fun y hy => by rw [List.mem_singleton.1 hy]; exact h⟩

theorem RG.bindL {f : α → R γ} : ∀ (l : List α), (∀ x ∈ l, RG k nx' (f x)) → RG k nx' (Eng.bindL f l)
  | [], _ => RG.bad
  | [x], h => h x (List.mem_singleton.2 rfl)
  | x :: y :: l, h => by
    have h1 := h x (List.mem_cons_self ..)
    have h2 := RG.bindL (y :: l) fun z hz => h z (List.mem_cons_of_mem _ hz)
    intro outs ho
    have ho' : appR (f x) (Eng.bindL f (y :: l)) = .ok outs := ho
    cases ha : f x with
    | bad s => rw [ha] at ho'; cases ho'
    | ok oa =>
      cases hb : Eng.bindL f (y :: l) with
      | bad s => rw [ha, hb] at ho'; cases ho'
      | ok ob =>
        rw [ha, hb] at ho'
        have he : oa ++ ob = outs := by injection ho'
        subst he
        refine ⟨fun h0 => (h1 oa ha).1 (List.append_eq_nil_iff.1 h0).1, fun z hz => ?_⟩
        rcases List.mem_append.1 hz with hz | hz
        · exact (h1 oa ha).2 z hz
        · exact (h2 ob hb).2 z hz

theorem RG.bind {r : R α} {f : α → R γ} (hr : RG k nx r) (hf : ∀ x, k ≤ nx x → RG k nx' (f x)) : RG k nx' (r.bind f) := by
  cases r with
  | bad s => exact RG.bad
  | ok l => exact RG.bindL l fun x hx => hf x ((hr l rfl).2 x hx)

theorem RG.le {r : R α} {k' : Nat} (hr : RG k nx r) (h : k' ≤ k) : RG k' nx r := fun outs ho => ⟨(hr outs ho).1, fun x hx => Nat.le_trans h ((hr outs ho).2 x hx)⟩
theorem RG.ifE {b : Bool} {x y : R α} (hx : RG k nx x) (hy : RG k nx y) : RG k nx (Eng.ifE b x y) := by cases b with | true => exact hx | false => exact hy
theorem RG.optE {o : Option γ} {e : R α} {f : γ → R α} (he : RG k nx e) (h : ∀ a, RG k nx (f a)) : RG k nx (Eng.optE o e f) := by cases o with | none => exact he | some a => exact h a
end

abbrev nV (x : AV × Hp) : Nat := x.2.nx
abbrev nA (x : AAct × Hp) : Nat := x.2.nx
abbrev nE (x : AExit × AAct × Hp) : Nat := x.2.2.nx

theorem wantK_rg {k : Nat} {tm : PT AV} {g : Option (Option Tmp × Bool)} {yes no : R (AAct × Hp)} (hy : RG k nA yes) (hn : RG k nA no) : RG k nA (wantK tm g yes no) := by
  unfold wantK
  refine RG.optE hy fun p => RG.optE hn fun t => RG.optE hn fun v => ?_
  cases v with
  | one c => cases c with
    | b b => exact RG.ifE (RG.ifE hy hn) (RG.ifE hn hy)
    | i _ _ => exact hn
    | o _ => exact RG.bad
  | agg _ => exact hn
  | tup _ => exact hn
  | any => exact RG.bad

structure RecM (rec : Rec) : Prop where
  code : ∀ r c a h, RG h.nx nE (rec.code r c a h)
  call : ∀ f args h, RG h.nx nV (rec.call f args h)

section
variable {E : Env} {rec : Rec} (hrec : RecM rec)

theorem roundEnd_rg {k id : Nat} {x : AExit × AAct × Hp} (hk : k ≤ nE x) : RG k nV (roundEnd id x) := by
  unfold roundEnd
  split
  · split <;> exact RG.one hk
  · exact RG.bad

include hrec
theorem roundMid_rg {k id : Nat} {body : Code} {x : AExit × AAct × Hp} (hk : k ≤ nE x) : RG k nV (roundMid rec id body x) := by
  unfold roundMid
  split
  · refine RG.bind (nx := nE) (RG.le (hrec.code _ _ _ _) hk) fun y hy => roundEnd_rg hy
  · exact RG.bad

theorem evRound_rg {id : Nat} {args : List AV} {h : Hp} : RG h.nx nV (evRound rec id args h) := by
  unfold evRound
  split
  · exact RG.ifE (RG.bind (nx := nE) (hrec.code _ _ _ _) fun x hx => roundMid_rg hrec hx) RG.bad
  · exact RG.bad

theorem enterA_rg {f : FuncId} {args : List AV} {h : Hp} : RG h.nx nV (enterA E rec f args h) := by
  unfold enterA
  exact RG.optE (hrec.call _ _ _) fun _ => RG.one (Nat.le_refl _)

theorem evNext_rg {h : Hp} {n : ANext} (hn : NM h n) : RG h.nx nV (evNext E rec h n) := by
  cases n with
  | val v h' => exact RG.one hn
  | vals l => intro outs ho; cases ho; exact hn
  | enter f args => exact enterA_rg hrec
  | round id args => exact evRound_rg hrec
  | bad s => exact RG.bad

omit hrec in
theorem putK_rg {k0 : Nat} {a : AAct} {dst : Option Tmp} {v : AV} {h : Hp} {k : AAct → Hp → R (AAct × Hp)} (hk : ∀ a, RG k0 nA (k a h)) : RG k0 nA (putK a dst v h k) := by
  unfold putK
  exact RG.optE (hk _) fun d => RG.ifE (hk _) RG.bad

theorem thenK_rg {a : AAct} {dst : Option Tmp} {h : Hp} {k : AAct → Hp → R (AAct × Hp)} {n : ANext} (hn : NM h n) (hk : ∀ a h', RG h'.nx nA (k a h')) : RG h.nx nA (thenK E rec a dst h k n) := by
  cases n with
  | val v h' => exact putK_rg fun a => (hk a h').le hn
  | vals l => exact RG.bindL l fun x hx => putK_rg fun a => (hk a x.2).le (hn.2 x hx)
  | enter f args => exact RG.bind (nx := nV) (enterA_rg hrec) fun x hx => putK_rg fun a => (hk a x.2).le hx
  | round id args => exact RG.bind (nx := nV) (evRound_rg hrec) fun x hx => putK_rg fun a => (hk a x.2).le hx
  | bad s => exact RG.bad

theorem evOps_rg {P : Program} {ops : List Oper} : ∀ (l : List Oper) (a : AAct) (h : Hp), RG h.nx nA (evOps E rec (prepL P ops l) a h)
  | [], a, h => RG.one (Nat.le_refl _)
  | o :: l, a, h => by
    show RG h.nx nA (wantK a.tm (gOf ops o.guard) (thenK E rec a o.dst h (evOps E rec (prepL P ops l)) ((stepF P o).run a.tm h)) (putK a o.dst undefA h (evOps E rec (prepL P ops l))))
    exact wantK_rg (thenK_rg hrec (step_nm o) fun a h' => evOps_rg l a h') (putK_rg fun a => evOps_rg l a h)

omit hrec in
theorem drawK_rg {kk j : Nat} {a : AAct} {dst : Option Tmp} {h : Hp} {sub : PT AObj} {us did : List Did} {K : List Did → AAct → Hp → R (AAct × Hp)} {x : R (AV × Hp)} (hx : RG h.nx nV x) (hK : ∀ d a h', RG h'.nx nA (K d a h')) :
    RG h.nx nA (drawK kk j a dst h sub us did K x) := by
  cases x with
  | bad s => exact RG.bad
  | ok l =>
    cases l with
    | nil => exact RG.bad
    | cons y l =>
      cases l with
      | cons z l => exact RG.bad
      | nil =>
        have h1 := (hx [y] rfl).2 y (List.mem_singleton.2 rfl)
        exact RG.ifE (putK_rg fun a => RG.le (hK _ _ _) h1) RG.bad

theorem evDraw_rg {P : Program} {ops : List Oper} : ∀ (l : List Oper) (j : Nat) (ms : List Nat) (did : List Did) (a : AAct) (h : Hp), RG h.nx nA (evDraw E rec (prepL P ops l) j ms did a h)
  | [], j, ms, did, a, h => RG.one (Nat.le_refl _)
  | o :: l, j, ms, did, a, h => by
    cases ms with
    | nil => exact RG.bad
    | cons m ms =>
      show RG h.nx nA (wantK a.tm (gOf ops o.guard)
        (drawK (lookKind o) j a o.dst h (subHeap h.t h.nx a.tm o (unord m did)) (unord m did) did (evDraw E rec (prepL P ops l) (Nat.add j 1) ms) (evOp E rec a.tm ⟨subHeap h.t h.nx a.tm o (unord m did), h.nx, []⟩ (stepF P o)))
        (putK a o.dst undefA h (evDraw E rec (prepL P ops l) (Nat.add j 1) ms did)))
      refine wantK_rg (drawK_rg ?_ fun d a h' => evDraw_rg l _ ms d a h') (putK_rg fun a => evDraw_rg l _ ms did a h)
      have hn : NM ⟨subHeap h.t h.nx a.tm o (unord m did), h.nx, []⟩ ((stepF P o).run a.tm ⟨subHeap h.t h.nx a.tm o (unord m did), h.nx, []⟩) := step_nm o
      exact evNext_rg hrec hn

omit hrec in
theorem exE_rg {k : Nat} {e : AExit} {n r : R (AExit × AAct × Hp)} {x : Nat → R (AExit × AAct × Hp)} (hn : RG k nE n) (hx : ∀ i, RG k nE (x i)) (hr : RG k nE r) : RG k nE (exE e n x r) := by
  cases e with
  | normal => exact hn
  | exit i => exact hx i
  | ret => exact hr

omit hrec in
theorem rangeEnd_rg {k l : Nat} {a : AAct} {x : AV × Hp} (hk : k ≤ nV x) : RG k nE (rangeEnd l a x) := by
  unfold rangeEnd
  split
  · split
    · exact RG.bad
    · split
      · exact RG.one hk
      · exact RG.one hk
      · exact RG.one hk
      · exact RG.bad
  · exact RG.bad

theorem evRange_rg {r : Option Nat} {f : OpF} {ps : List Tmp} {as bo : Code} {a : AAct} {h : Hp} : RG h.nx nE (evRange E rec r f ps as bo a h) := by
  unfold evRange
  split
  · exact RG.bad
  · rename_i d h1 a1 hs
    have h0 : h.nx ≤ h1.nx := by
      unfold rangeStart at hs
      split at hs
      · cases hs; exact Nat.le_succ _
      · split at hs
        · cases hs; exact Nat.le_refl _
        · cases hs
    split
    · refine RG.ifE (RG.bind (nx := nV) (RG.le (hrec.call _ _ _) (Nat.le_trans h0 (Nat.le_succ _))) fun x hx => rangeEnd_rg hx) RG.bad
    · exact RG.bad

theorem codeF_rg : ∀ (c : Code) (r : Option Nat) (a : AAct) (h : Hp), RG h.nx nE ((codeF E c).run rec r a h) := by
  intro c
  induction c with
  | skip => intro r a h; exact RG.one (Nat.le_refl _)
  | region id ops draw =>
    intro r a h
    cases draw with
    | false => exact RG.bind (nx := nA) (evOps_rg hrec _ a h) fun x hx => RG.one hx
    | true =>
      show RG h.nx nE ((Eng.ifE (statOK ops) (CF.mk fun rec _ a h => (evDraw E rec (prep E.P ops) 0 (masks [] 0 ops.toList) [] a h).bind normalK) (CF.mk fun _ _ _ _ => .bad "draw - slots")).run rec r a h)
      cases statOK ops with
      | false => exact RG.bad
      | true => exact RG.bind (nx := nA) (evDraw_rg hrec _ _ _ _ a h) fun x hx => RG.one hx
  | seq x y hx hy =>
    intro r a h
    refine RG.bind (nx := nE) (hx r a h) fun z hz => exE_rg ((hy r _ _).le hz) (fun _ => RG.one hz) (RG.one hz)
  | cond c x y hx hy =>
    intro r a h
    show RG h.nx nE (boolE ((opF c).ev a.tm) (.bad "cond") fun b => Eng.ifE b ((codeF E x).run rec r a h) ((codeF E y).run rec r a h))
    cases (opF c).ev a.tm with
    | one q =>
      cases q with
      | b b => exact RG.ifE (hx r a h) (hy r a h)
      | i _ _ => exact RG.bad
      | o _ => exact RG.bad
    | agg _ => exact RG.bad
    | tup _ => exact RG.bad
    | any => exact RG.bad
  | block id x hx =>
    intro r a h
    refine RG.bind (nx := nE) (hx r a h) fun z hz => exE_rg (RG.one hz) (fun _ => RG.ifE (RG.one hz) (RG.one hz)) (RG.one hz)
  | loop x hx =>
    intro r a h
    refine RG.bind (nx := nE) (hx r a h) fun z hz => exE_rg (RG.le (hrec.code _ _ _ _) hz) (fun _ => RG.one hz) (RG.one hz)
  | rangeFunc f ps as bo _ _ => intro r a h; exact evRange_rg hrec
  | exit id => intro r a h; exact RG.one (Nat.le_refl _)
  | scope x hx => intro r a h; exact hx r a h
  | label l => intro r a h; exact RG.one (Nat.le_refl _)
  | goto l => intro r a h; exact RG.bad
  | ret => intro r a h; exact RG.one (Nat.le_refl _)
  | refuse x => intro r a h; exact RG.bad
end

theorem closeAll_nx : ∀ (l : List Nat) (h h' : Hp), closeAll h l = some h' → h'.nx = h.nx
  | [], h, h', e => by cases e; rfl
  | d :: l, h, h', e => by
    unfold closeAll at e
    split at e
    · have := closeAll_nx l _ h' e
      exact this
    · cases e

theorem callEnd_rg {E : Env} {k : Nat} {res : List ResultVar} {x : AExit × AAct × Hp} (hk : k ≤ nE x) : RG k nV (callEnd E res x) := by
  have key : RG k nV (optE (closeAll x.2.2 x.2.1.dfr) (.bad "marks") fun h2 => optE (resAll E.P res x.2.1.tm h2) (.bad "results") fun l => .ok [(tupOf l, h2)]) := by
    cases hc : closeAll x.2.2 x.2.1.dfr with
    | none => exact RG.bad
    | some h2 =>
      refine RG.optE (o := resAll E.P res x.2.1.tm h2) RG.bad fun l => RG.one ?_
      show k ≤ h2.nx
      rw [closeAll_nx _ _ _ hc]
      exact hk
  unfold callEnd
  cases x.1 with
  | normal => exact key
  | exit i => exact RG.bad
  | ret => exact key

theorem evCall_rg {E : Env} {rec : Rec} (hrec : RecM rec) {f : FuncId} {args : List AV} {h : Hp} : RG h.nx nV (evCall E rec f args h) := by
  unfold evCall funF
  split
  · split
    · exact RG.ifE (RG.bind (nx := nE) (codeF_rg hrec _ none _ h) fun x hx => callEnd_rg hx) RG.bad
    · exact RG.bad
  · exact RG.bad

theorem eval_rm (E : Env) : ∀ n, RecM (eval E n)
  | 0 => ⟨fun _ _ _ _ => RG.bad, fun _ _ _ => RG.bad⟩
  | n + 1 => ⟨fun r c a h => codeF_rg (eval_rm E n) c r a h, fun f args h => evCall_rg (eval_rm E n)⟩
end Go.Eng

