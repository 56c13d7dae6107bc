/- A part of the proof: EngAbs, EngAbs2, EngOps1, EngOps2, EngOps3, EngOps4, EngOps5. No conditions. -/
import Derived.Test.YtekoajibckipkaaGreatQAa
import Derived.Orders
namespace Go.Eng
open Go
def NM (H : Hp) : ANext → Prop
  | .val _ H' => H.nx ≤ H'.nx
  | .vals l => l ≠ [] ∧ ∀ x ∈ l, H.nx ≤ x.2.nx
  | _ => True
section
variable {P : Program} {H : Hp}
theorem NM.nd {α : Type} {o : Option α} {s : String} {f : α → ANext} (h : ∀ a, NM H (f a)) : NM H (nd o s f) := by cases o with | none => exact trivial | some a => exact h a
theorem NM.guard {b : Bool} {s : String} {n : ANext} (h : NM H n) : NM H (guardN b s n) := by cases b with | true => exact h | false => exact trivial
theorem NM.ifE {b : Bool} {x y : ANext} (hx : NM H x) (hy : NM H y) : NM H (ifE b x y) := by cases b with | true => exact hx | false => exact hy
theorem NM.optE {α : Type} {o : Option α} {e : ANext} {f : α → ANext} (he : NM H e) (h : ∀ a, NM H (f a)) : NM H (optE o e f) := by cases o with | none => exact he | some a => exact h a
theorem NM.ptrE {x : AV} {e : ANext} {f : Nat → Nat → Nat → Nat → ANext} (he : NM H e) (h : ∀ a b c d, NM H (f a b c d)) : NM H (ptrE x e f) := by
  cases x with
  | one c => cases c with
    | o q => cases q <;> first | exact he | exact h _ _ _ _
    | b _ => exact he
    | i _ _ => exact he
  | agg _ => exact he
  | tup _ => exact he
  | any => exact he
theorem NM.slE {x : AV} {e : ANext} {f : Nat → Nat → Nat → Nat → Nat → ANext} (he : NM H e) (h : ∀ a b c d g, NM H (f a b c d g)) : NM H (slE x e f) := by
  cases x with
  | one c => cases c with
    | o q => cases q <;> first | exact he | exact h _ _ _ _ _
    | b _ => exact he
    | i _ _ => exact he
  | agg _ => exact he
  | tup _ => exact he
  | any => exact he
theorem NM.intE {x : AV} {e : ANext} {f : IntKind → Int → ANext} (he : NM H e) (h : ∀ a b, NM H (f a b)) : NM H (intE x e f) := by
  cases x with
  | one c => cases c with
    | o q => exact he
    | b _ => exact he
    | i _ _ => exact h _ _
  | agg _ => exact he
  | tup _ => exact he
  | any => exact he
theorem NM.boolE {x : AV} {e : ANext} {f : Bool → ANext} (he : NM H e) (h : ∀ a, NM H (f a)) : NM H (boolE x e f) := by
  cases x with
  | one c => cases c with
    | o q => exact he
    | b _ => exact h _
    | i _ _ => exact he
  | agg _ => exact he
  | tup _ => exact he
  | any => exact he
theorem NM.strE {x : AV} {e : ANext} {f : List UInt8 → ANext} (he : NM H e) (h : ∀ a, NM H (f a)) : NM H (strE x e f) := by
  cases x with
  | one c => cases c with
    | o q => cases q <;> first | exact he | exact h _
    | b _ => exact he
    | i _ _ => exact he
  | agg _ => exact he
  | tup _ => exact he
  | any => exact he
theorem NM.arrE {o : Option AObj} {e : ANext} {f : List AC → TypeId → Nat → Nat → ANext} (he : NM H e) (h : ∀ a b c d, NM H (f a b c d)) : NM H (arrE o e f) := by
  cases o with
  | none => exact he
  | some o => cases o with
    | arr _ _ _ _ => exact h _ _ _ _
    | oth _ => exact he
    | ro _ => exact he
theorem NM.same {v : AV} : NM H (.val v H) := Nat.le_refl _
theorem NM.mod {v : AV} {i : Nat} {o : AObj} : NM H (.val v (H.mod i o)) := Nat.le_refl _
theorem NM.new {v : AV} {o : AObj} : NM H (.val v (H.new o)) := Nat.le_succ _
theorem NM.bad {s : String} : NM H (.bad s) := trivial
theorem load_nm {a : Bool} {n : Nat} {v : AV} : NM H (doLoad H a n v) :=
  NM.ptrE NM.bad fun _ _ _ _ => NM.nd fun c => NM.ifE NM.same (by cases c <;> first | exact NM.bad | exact NM.same)
theorem store_nm {n : Nat} {x v : AV} : NM H (doStore H n x v) := NM.ptrE NM.bad fun _ _ _ _ => NM.arrE NM.bad fun _ _ _ _ => NM.guard NM.mod
theorem rowNew_nm {c : List AC} {e : TypeId} : NM H (rowNew H c e) := NM.new
theorem lookOut_nm {ok : Bool} {v : AV} {b : Bool} : NM H (lookOut H ok v b) := by cases ok with | false => exact NM.same | true => exact NM.guard NM.same
theorem lookup_nm {kt : TypeId} {z m k : AV} {ok : Bool} : NM H (doLookup P H kt z m k ok) := by
  unfold doLookup
  split
  · exact NM.nd fun _ => lookOut_nm
  · split
    · refine NM.nd fun _ => ?_
      split
      · exact lookOut_nm
      · exact lookOut_nm
      · exact NM.bad
    · exact NM.bad
  · exact NM.bad
theorem mapUpdate_nm {kt : TypeId} {m k x : AV} : NM H (doMapUpdate P H kt m k x) := by
  unfold doMapUpdate
  split
  · split
    · exact NM.nd fun _ => NM.guard (NM.nd fun _ => NM.ifE NM.mod NM.mod)
    · exact NM.bad
  · exact NM.bad
theorem next_nm {x : AV} : NM H (doNext H x) := by
  unfold doNext
  split
  · split
    · exact NM.same
    · split
      · refine NM.guard ?_
        split
        · exact NM.same
        · refine NM.guard ⟨by simp, fun x hx => ?_⟩
          obtain ⟨e, _, rfl⟩ := List.mem_map.1 hx
          exact Nat.le_refl _
      · exact NM.bad
    · exact NM.bad
  · exact NM.bad
theorem entry_nm {x : AV} : NM H (doEntry H x) := by
  unfold doEntry
  split
  · split
    · split
      · split
        · refine NM.guard ?_
          split
          · exact NM.same
          · exact NM.bad
        · exact NM.bad
      · exact NM.bad
    · exact NM.bad
  · exact NM.bad
theorem append_nm {t : TypeId} {s x : AV} : NM H (doAppend P H t s x) := by
  refine NM.nd fun es => NM.nd fun by_ => NM.nd fun z => NM.guard (NM.nd fun nc => ?_)
  unfold appendTo
  split
  · exact NM.ifE NM.same (NM.guard NM.new)
  · exact NM.arrE NM.bad fun _ _ _ _ => NM.guard (NM.ifE NM.same (NM.ifE NM.mod NM.mod))
  · exact NM.bad
theorem copy_nm {t : TypeId} {s x : AV} : NM H (doCopy P H t s x) := by
  refine NM.nd fun es => ?_
  split
  · exact NM.guard (NM.nd fun _ => NM.arrE NM.bad fun _ _ _ _ => NM.guard NM.mod)
  · exact NM.same
  · exact NM.same
  · exact NM.same
  · exact NM.bad
theorem call_nm {f : AV} {l : List AV} : NM H (doCall P f l) := by
  cases f with
  | one c => cases c with
    | o q => cases q <;> first | exact trivial | exact NM.guard trivial
    | b _ => exact trivial
    | i _ _ => exact trivial
  | agg _ => exact trivial
  | tup _ => exact trivial
  | any => exact trivial
theorem plain_nm {tm : PT AV} {o : Oper} : NM H (plainOp P tm H o) := by
  unfold plainOp
  refine NM.guard ?_
  split
  · exact NM.guard NM.same
  · exact NM.bad
theorem extractL_nm (i : Nat) : ∀ l : List (Bool × List AC), NM H (Nat.rec (motive := fun _ => List (Bool × List AC) → ANext)
      (fun l => List.rec (motive := fun _ => ANext) (.bad "extract") (fun x _ _ =>
        ifE x.1 (.val (.agg x.2) H) (List.rec (motive := fun _ => ANext) (.bad "extract") (fun c m _ => List.rec (motive := fun _ => ANext) (.val (.one c) H) (fun _ _ _ => .bad "extract") m) x.2)) l)
      (fun _ ih l => List.rec (motive := fun _ => ANext) (.bad "extract") (fun _ l' _ => ih l') l) i l) := by
  induction i with
  | zero =>
    intro l
    cases l with
    | nil => exact NM.bad
    | cons x l =>
      refine NM.ifE NM.same ?_
      obtain ⟨b, c⟩ := x
      cases c with
      | nil => exact NM.bad
      | cons y c => cases c <;> first | exact NM.same | exact NM.bad
  | succ i ih =>
    intro l
    cases l with
    | nil => exact NM.bad
    | cons x l => exact ih l
theorem extract_nm {x : AV} {i : Nat} : NM H (doExtract H x i) := by
  cases x with
  | tup l => exact extractL_nm i l
  | one _ => exact NM.bad
  | agg _ => exact NM.bad
  | any => exact extractL_nm i []
theorem range_nm {x : AV} : NM H (doRange H x) := by
  unfold doRange
  split
  · exact NM.new
  · split
    · exact NM.new
    · exact NM.bad
  · exact NM.bad
theorem len_nm {k : Nat} {x : AV} : NM H (doLen H k x) := by
  match k with
  | 0 => exact NM.strE NM.bad fun _ => NM.same
  | 1 => exact NM.slE (NM.guard NM.same) fun _ _ _ _ _ => NM.same
  | k + 2 =>
    show NM H (doLenMap H x)
    unfold doLenMap
    split
    · exact NM.same
    · split
      · exact NM.same
      · exact NM.bad
    · exact NM.bad
theorem bin_nm {kd : Nat} {op : BinOp} {f : BF} {x y : AV} {alt : ANext} (ha : NM H alt) : NM H (doBin H kd op f x y alt) := by
  cases x with
  | one c => cases c with
    | o q =>
      show NM H (doBinStr H kd op (.one (.o q)) y alt)
      refine NM.strE ?_ fun _ => NM.strE ha fun _ => NM.optE ha fun _ => NM.same
      unfold doBinAddr
      split
      · split
        · exact NM.same
        · exact NM.same
        · exact NM.bad
      · exact ha
    | b _ => exact ha
    | i k a =>
      show NM H (Eng.intE y alt fun k' b => doBinInt H f k a k' b alt)
      exact NM.intE ha fun _ _ => NM.ifE (by cases f <;> first | exact NM.same | exact ha) ha
  | agg _ => exact ha
  | tup _ => exact ha
  | any => exact ha
theorem field_nm {fo n : Nat} {a : Bool} {x : AV} : NM H (doField H fo n a x) := by
  cases x with
  | agg l => exact NM.ifE (NM.guard NM.same) (NM.nd fun _ => NM.same)
  | one _ => exact NM.bad
  | tup _ => exact NM.bad
  | any => exact NM.bad
theorem nilCheck_nm {x : AV} : NM H (nilCheckV H x) := by
  cases x with
  | one c => cases c with
    | o q => cases q <;> first | exact NM.bad | exact NM.same
    | b _ => exact NM.bad
    | i _ _ => exact NM.bad
  | agg _ => exact NM.bad
  | tup _ => exact NM.bad
  | any => exact NM.bad
theorem SF.ndNM {α : Type} {o : Option α} {s : String} {f : α → SF} {tm : PT AV} (h : ∀ a, NM H ((f a).run tm H)) : NM H ((ndF o s f).run tm H) := by
  cases o with
  | none => exact trivial
  | some a => exact h a
theorem SF.ifNM {b : Bool} {s : String} {f : SF} {tm : PT AV} (h : NM H (f.run tm H)) : NM H ((Eng.ifE b f (badF s)).run tm H) := by
  cases b with
  | false => exact trivial
  | true => exact h
theorem step_nm {tm : PT AV} (o : Oper) : NM H ((stepF P o).run tm H) := by
  have hp : ∀ o, NM H (plainOp P tm H o) := fun _ => plain_nm
  obtain ⟨dst, op, type, pos, after, guard⟩ := o
  cases op with
  | move x => cases x <;> exact NM.same
  | assign x => cases x <;> exact NM.same
  | pick c x y => exact NM.boolE NM.bad fun _ => NM.same
  | alloc e => exact SF.ndNM fun _ => rowNew_nm
  | box e x => exact NM.guard rowNew_nm
  | build t parts => exact SF.ndNM fun _ => SF.ndNM fun _ => SF.ndNM fun _ => NM.nd fun _ => NM.same
  | buildSlice t len parts => exact SF.ndNM fun _ => SF.ndNM fun _ => SF.ifNM (SF.ndNM fun _ => NM.nd fun _ => NM.new)
  | load t x => exact SF.ndNM fun _ => load_nm
  | store t x y => exact SF.ndNM fun _ => store_nm
  | nilCheck x => exact nilCheck_nm
  | binOp op t x y c => exact bin_nm (hp _)
  | unOp op t x =>
    show NM H (doUn H op _ (plainOp P tm H _))
    unfold doUn
    split
    · exact NM.boolE plain_nm fun _ => NM.same
    · exact plain_nm
  | convert s d x => exact hp _
  | fieldAddr s x f => exact SF.ndNM fun _ => NM.ptrE NM.bad fun _ _ _ _ => NM.guard NM.same
  | field t x f => exact SF.ndNM fun _ => SF.ndNM fun _ => field_nm
  | indexAddr t x i => exact SF.ndNM fun _ => NM.slE NM.bad fun _ _ _ _ _ => NM.intE NM.bad fun _ _ => NM.nd fun _ => NM.guard NM.same
  | index t x i => exact NM.ifE (NM.strE (hp _) fun _ => NM.intE (hp _) fun _ _ => NM.nd fun _ => NM.nd fun _ => NM.same) (hp _)
  | slice t x lo hi mx =>
    cases mx with
    | some _ => exact trivial
    | none =>
      cases he : elemT P t with
      | none =>
        have : stepF P ⟨dst, .slice t x lo hi none, type, pos, after, guard⟩ = .mk fun tm h => plainOp P tm h ⟨dst, .slice t x lo hi none, type, pos, after, guard⟩ := by
          simp [stepF, he]
        rw [this]
        exact hp _
      | some p =>
        have : stepF P ⟨dst, .slice t x lo hi none, type, pos, after, guard⟩ = .mk fun tm h => doSlice h p.2 ((opF x).ev tm) (lo.map (ev tm)) (hi.map (ev tm)) (plainOp P tm h ⟨dst, .slice t x lo hi none, type, pos, after, guard⟩) := by
          simp [stepF, he]
        rw [this]
        exact NM.slE (hp _) fun _ _ _ _ _ => NM.nd fun _ => NM.nd fun _ => NM.guard NM.same
  | extract x i => exact extract_nm
  | makeFunc fn first caps =>
    cases fn with
    | func f => exact SF.ifNM (NM.nd fun _ => NM.same)
    | _ => exact trivial
  | makeMap t r =>
    cases r with
    | some _ => exact trivial
    | none => exact NM.new
  | makeSlice t l c => exact NM.nd fun _ => NM.nd fun _ => NM.nd fun _ => NM.intE NM.bad fun _ _ => NM.intE NM.bad fun _ _ => NM.nd fun _ => NM.nd fun _ => NM.guard NM.new
  | lookup t x k ok => exact SF.ndNM fun _ => SF.ndNM fun _ => lookup_nm
  | mapUpdate t x k y => exact SF.ndNM fun _ => mapUpdate_nm
  | insert t x k y => exact SF.ndNM fun _ => mapUpdate_nm
  | range t x => exact SF.ndNM fun _ => range_nm
  | next x b =>
    cases b with
    | true => exact trivial
    | false => exact next_nm
  | entry x => exact entry_nm
  | call c =>
    show NM H ((callF P _ c).run tm H)
    unfold callF
    split
    · exact call_nm
    · unfold builtinF
      split
      · exact SF.ifNM append_nm
      · exact SF.ifNM copy_nm
      · exact SF.ndNM fun _ => len_nm
      · exact hp _
      · exact hp _
      · exact trivial
    · exact trivial
  | _ => exact trivial
end
end Go.Eng
namespace Go.Eng
open Go
def RG {α : Type} (k : Nat) (nx : α → Nat) (r : R α) : Prop := ∀ outs, r = .ok outs → outs ≠ [] ∧ ∀ x ∈ outs, k ≤ nx x
section
variable {α γ : Type} {k : Nat} {nx : α → Nat} {nx' : γ → Nat}
theorem RG.bad {s : String} : RG k nx (.bad s : R α) := fun _ h => by cases h
theorem RG.one {x : α} (h : k ≤ nx x) : RG k nx (.ok [x]) := fun outs h' => by
  cases h'
  exact ⟨by simp, fun y hy => by rw [List.mem_singleton.1 hy]; exact h⟩
theorem RG.bindL {f : α → R γ} : ∀ (l : List α), (∀ x ∈ l, RG k nx' (f x)) → RG k nx' (Eng.bindL f l)
  | [], _ => RG.bad
  | [x], h => h x (List.mem_singleton.2 rfl)
  | x :: y :: l, h => by
    have h1 := h x (List.mem_cons_self ..)
    have h2 := RG.bindL (y :: l) fun z hz => h z (List.mem_cons_of_mem _ hz)
    intro outs ho
    have ho' : appR (f x) (Eng.bindL f (y :: l)) = .ok outs := ho
    cases ha : f x with
    | bad s => rw [ha] at ho'; cases ho'
    | ok oa =>
      cases hb : Eng.bindL f (y :: l) with
      | bad s => rw [ha, hb] at ho'; cases ho'
      | ok ob =>
        rw [ha, hb] at ho'
        have he : oa ++ ob = outs := by injection ho'
        subst he
        refine ⟨fun h0 => (h1 oa ha).1 (List.append_eq_nil_iff.1 h0).1, fun z hz => ?_⟩
        rcases List.mem_append.1 hz with hz | hz
        · exact (h1 oa ha).2 z hz
        · exact (h2 ob hb).2 z hz
theorem RG.bind {r : R α} {f : α → R γ} (hr : RG k nx r) (hf : ∀ x, k ≤ nx x → RG k nx' (f x)) : RG k nx' (r.bind f) := by
  cases r with
  | bad s => exact RG.bad
  | ok l => exact RG.bindL l fun x hx => hf x ((hr l rfl).2 x hx)
theorem RG.le {r : R α} {k' : Nat} (hr : RG k nx r) (h : k' ≤ k) : RG k' nx r := fun outs ho => ⟨(hr outs ho).1, fun x hx => Nat.le_trans h ((hr outs ho).2 x hx)⟩
theorem RG.ifE {b : Bool} {x y : R α} (hx : RG k nx x) (hy : RG k nx y) : RG k nx (Eng.ifE b x y) := by cases b with | true => exact hx | false => exact hy
theorem RG.optE {o : Option γ} {e : R α} {f : γ → R α} (he : RG k nx e) (h : ∀ a, RG k nx (f a)) : RG k nx (Eng.optE o e f) := by cases o with | none => exact he | some a => exact h a
end
abbrev nV (x : AV × Hp) : Nat := x.2.nx
abbrev nA (x : AAct × Hp) : Nat := x.2.nx
abbrev nE (x : AExit × AAct × Hp) : Nat := x.2.2.nx
theorem wantK_rg {k : Nat} {tm : PT AV} {g : Option (Option Tmp × Bool)} {yes no : R (AAct × Hp)} (hy : RG k nA yes) (hn : RG k nA no) : RG k nA (wantK tm g yes no) := by
  unfold wantK
  refine RG.optE hy fun p => RG.optE hn fun t => RG.optE hn fun v => ?_
  cases v with
  | one c => cases c with
    | b b => exact RG.ifE (RG.ifE hy hn) (RG.ifE hn hy)
    | i _ _ => exact hn
    | o _ => exact RG.bad
  | agg _ => exact hn
  | tup _ => exact hn
  | any => exact RG.bad
structure RecM (rec : Rec) : Prop where
  code : ∀ r c a h, RG h.nx nE (rec.code r c a h)
  call : ∀ f args h, RG h.nx nV (rec.call f args h)
section
variable {E : Env} {rec : Rec} (hrec : RecM rec)
theorem roundEnd_rg {k id : Nat} {x : AExit × AAct × Hp} (hk : k ≤ nE x) : RG k nV (roundEnd id x) := by
  unfold roundEnd
  split
  · split <;> exact RG.one hk
  · exact RG.bad
include hrec
theorem roundMid_rg {k id : Nat} {body : Code} {x : AExit × AAct × Hp} (hk : k ≤ nE x) : RG k nV (roundMid rec id body x) := by
  unfold roundMid
  split
  · refine RG.bind (nx := nE) (RG.le (hrec.code _ _ _ _) hk) fun y hy => roundEnd_rg hy
  · exact RG.bad
theorem evRound_rg {id : Nat} {args : List AV} {h : Hp} : RG h.nx nV (evRound rec id args h) := by
  unfold evRound
  split
  · exact RG.ifE (RG.bind (nx := nE) (hrec.code _ _ _ _) fun x hx => roundMid_rg hrec hx) RG.bad
  · exact RG.bad
theorem enterA_rg {f : FuncId} {args : List AV} {h : Hp} : RG h.nx nV (enterA E rec f args h) := by
  unfold enterA
  exact RG.optE (hrec.call _ _ _) fun _ => RG.one (Nat.le_refl _)
theorem evNext_rg {h : Hp} {n : ANext} (hn : NM h n) : RG h.nx nV (evNext E rec h n) := by
  cases n with
  | val v h' => exact RG.one hn
  | vals l => intro outs ho; cases ho; exact hn
  | enter f args => exact enterA_rg hrec
  | round id args => exact evRound_rg hrec
  | bad s => exact RG.bad
omit hrec in
theorem putK_rg {k0 : Nat} {a : AAct} {dst : Option Tmp} {v : AV} {h : Hp} {k : AAct → Hp → R (AAct × Hp)} (hk : ∀ a, RG k0 nA (k a h)) : RG k0 nA (putK a dst v h k) := by
  unfold putK
  exact RG.optE (hk _) fun d => RG.ifE (hk _) RG.bad
theorem thenK_rg {a : AAct} {dst : Option Tmp} {h : Hp} {k : AAct → Hp → R (AAct × Hp)} {n : ANext} (hn : NM h n) (hk : ∀ a h', RG h'.nx nA (k a h')) : RG h.nx nA (thenK E rec a dst h k n) := by
  cases n with
  | val v h' => exact putK_rg fun a => (hk a h').le hn
  | vals l => exact RG.bindL l fun x hx => putK_rg fun a => (hk a x.2).le (hn.2 x hx)
  | enter f args => exact RG.bind (nx := nV) (enterA_rg hrec) fun x hx => putK_rg fun a => (hk a x.2).le hx
  | round id args => exact RG.bind (nx := nV) (evRound_rg hrec) fun x hx => putK_rg fun a => (hk a x.2).le hx
  | bad s => exact RG.bad
theorem evOps_rg {P : Program} {ops : List Oper} : ∀ (l : List Oper) (a : AAct) (h : Hp), RG h.nx nA (evOps E rec (prepL P ops l) a h)
  | [], a, h => RG.one (Nat.le_refl _)
  | o :: l, a, h => by
    show RG h.nx nA (wantK a.tm (gOf ops o.guard) (thenK E rec a o.dst h (evOps E rec (prepL P ops l)) ((stepF P o).run a.tm h)) (putK a o.dst undefA h (evOps E rec (prepL P ops l))))
    exact wantK_rg (thenK_rg hrec (step_nm o) fun a h' => evOps_rg l a h') (putK_rg fun a => evOps_rg l a h)
omit hrec in
theorem drawK_rg {kk j : Nat} {a : AAct} {dst : Option Tmp} {h : Hp} {sub : PT AObj} {us did : List Did} {K : List Did → AAct → Hp → R (AAct × Hp)} {x : R (AV × Hp)} (hx : RG h.nx nV x) (hK : ∀ d a h', RG h'.nx nA (K d a h')) :
    RG h.nx nA (drawK kk j a dst h sub us did K x) := by
  cases x with
  | bad s => exact RG.bad
  | ok l =>
    cases l with
    | nil => exact RG.bad
    | cons y l =>
      cases l with
      | cons z l => exact RG.bad
      | nil =>
        have h1 := (hx [y] rfl).2 y (List.mem_singleton.2 rfl)
        exact RG.ifE (putK_rg fun a => RG.le (hK _ _ _) h1) RG.bad
theorem evDraw_rg {P : Program} {ops : List Oper} : ∀ (l : List Oper) (j : Nat) (ms : List Nat) (did : List Did) (a : AAct) (h : Hp), RG h.nx nA (evDraw E rec (prepL P ops l) j ms did a h)
  | [], j, ms, did, a, h => RG.one (Nat.le_refl _)
  | o :: l, j, ms, did, a, h => by
    cases ms with
    | nil => exact RG.bad
    | cons m ms =>
      show RG h.nx nA (wantK a.tm (gOf ops o.guard)
        (drawK (lookKind o) j a o.dst h (subHeap h.t h.nx a.tm o (unord m did)) (unord m did) did (evDraw E rec (prepL P ops l) (Nat.add j 1) ms) (evOp E rec a.tm ⟨subHeap h.t h.nx a.tm o (unord m did), h.nx, []⟩ (stepF P o)))
        (putK a o.dst undefA h (evDraw E rec (prepL P ops l) (Nat.add j 1) ms did)))
      refine wantK_rg (drawK_rg ?_ fun d a h' => evDraw_rg l _ ms d a h') (putK_rg fun a => evDraw_rg l _ ms did a h)
      have hn : NM ⟨subHeap h.t h.nx a.tm o (unord m did), h.nx, []⟩ ((stepF P o).run a.tm ⟨subHeap h.t h.nx a.tm o (unord m did), h.nx, []⟩) := step_nm o
      exact evNext_rg hrec hn
omit hrec in
theorem exE_rg {k : Nat} {e : AExit} {n r : R (AExit × AAct × Hp)} {x : Nat → R (AExit × AAct × Hp)} (hn : RG k nE n) (hx : ∀ i, RG k nE (x i)) (hr : RG k nE r) : RG k nE (exE e n x r) := by
  cases e with
  | normal => exact hn
  | exit i => exact hx i
  | ret => exact hr
omit hrec in
theorem rangeEnd_rg {k l : Nat} {a : AAct} {x : AV × Hp} (hk : k ≤ nV x) : RG k nE (rangeEnd l a x) := by
  unfold rangeEnd
  split
  · split
    · exact RG.bad
    · split
      · exact RG.one hk
      · exact RG.one hk
      · exact RG.one hk
      · exact RG.bad
  · exact RG.bad
theorem evRange_rg {r : Option Nat} {f : OpF} {ps : List Tmp} {as bo : Code} {a : AAct} {h : Hp} : RG h.nx nE (evRange E rec r f ps as bo a h) := by
  unfold evRange
  split
  · exact RG.bad
  · rename_i d h1 a1 hs
    have h0 : h.nx ≤ h1.nx := by
      unfold rangeStart at hs
      split at hs
      · cases hs; exact Nat.le_succ _
      · split at hs
        · cases hs; exact Nat.le_refl _
        · cases hs
    split
    · refine RG.ifE (RG.bind (nx := nV) (RG.le (hrec.call _ _ _) (Nat.le_trans h0 (Nat.le_succ _))) fun x hx => rangeEnd_rg hx) RG.bad
    · exact RG.bad
theorem codeF_rg : ∀ (c : Code) (r : Option Nat) (a : AAct) (h : Hp), RG h.nx nE ((codeF E c).run rec r a h) := by
  intro c
  induction c with
  | skip => intro r a h; exact RG.one (Nat.le_refl _)
  | region id ops draw =>
    intro r a h
    cases draw with
    | false => exact RG.bind (nx := nA) (evOps_rg hrec _ a h) fun x hx => RG.one hx
    | true =>
      show RG h.nx nE ((Eng.ifE (statOK ops) (CF.mk fun rec _ a h => (evDraw E rec (prep E.P ops) 0 (masks [] 0 ops.toList) [] a h).bind normalK) (CF.mk fun _ _ _ _ => .bad "draw - slots")).run rec r a h)
      cases statOK ops with
      | false => exact RG.bad
      | true => exact RG.bind (nx := nA) (evDraw_rg hrec _ _ _ _ a h) fun x hx => RG.one hx
  | seq x y hx hy =>
    intro r a h
    refine RG.bind (nx := nE) (hx r a h) fun z hz => exE_rg ((hy r _ _).le hz) (fun _ => RG.one hz) (RG.one hz)
  | cond c x y hx hy =>
    intro r a h
    show RG h.nx nE (boolE ((opF c).ev a.tm) (.bad "cond") fun b => Eng.ifE b ((codeF E x).run rec r a h) ((codeF E y).run rec r a h))
    cases (opF c).ev a.tm with
    | one q =>
      cases q with
      | b b => exact RG.ifE (hx r a h) (hy r a h)
      | i _ _ => exact RG.bad
      | o _ => exact RG.bad
    | agg _ => exact RG.bad
    | tup _ => exact RG.bad
    | any => exact RG.bad
  | block id x hx =>
    intro r a h
    refine RG.bind (nx := nE) (hx r a h) fun z hz => exE_rg (RG.one hz) (fun _ => RG.ifE (RG.one hz) (RG.one hz)) (RG.one hz)
  | loop x hx =>
    intro r a h
    refine RG.bind (nx := nE) (hx r a h) fun z hz => exE_rg (RG.le (hrec.code _ _ _ _) hz) (fun _ => RG.one hz) (RG.one hz)
  | rangeFunc f ps as bo _ _ => intro r a h; exact evRange_rg hrec
  | exit id => intro r a h; exact RG.one (Nat.le_refl _)
  | scope x hx => intro r a h; exact hx r a h
  | label l => intro r a h; exact RG.one (Nat.le_refl _)
  | goto l => intro r a h; exact RG.bad
  | ret => intro r a h; exact RG.one (Nat.le_refl _)
  | refuse x => intro r a h; exact RG.bad
end
theorem closeAll_nx : ∀ (l : List Nat) (h h' : Hp), closeAll h l = some h' → h'.nx = h.nx
  | [], h, h', e => by cases e; rfl
  | d :: l, h, h', e => by
    unfold closeAll at e
    split at e
    · have := closeAll_nx l _ h' e
      exact this
    · cases e
theorem callEnd_rg {E : Env} {k : Nat} {res : List ResultVar} {x : AExit × AAct × Hp} (hk : k ≤ nE x) : RG k nV (callEnd E res x) := by
  have key : RG k nV (optE (closeAll x.2.2 x.2.1.dfr) (.bad "marks") fun h2 => optE (resAll E.P res x.2.1.tm h2) (.bad "results") fun l => .ok [(tupOf l, h2)]) := by
    cases hc : closeAll x.2.2 x.2.1.dfr with
    | none => exact RG.bad
    | some h2 =>
      refine RG.optE (o := resAll E.P res x.2.1.tm h2) RG.bad fun l => RG.one ?_
      show k ≤ h2.nx
      rw [closeAll_nx _ _ _ hc]
      exact hk
  unfold callEnd
  cases x.1 with
  | normal => exact key
  | exit i => exact RG.bad
  | ret => exact key
theorem evCall_rg {E : Env} {rec : Rec} (hrec : RecM rec) {f : FuncId} {args : List AV} {h : Hp} : RG h.nx nV (evCall E rec f args h) := by
  unfold evCall funF
  split
  · split
    · exact RG.ifE (RG.bind (nx := nE) (codeF_rg hrec _ none _ h) fun x hx => callEnd_rg hx) RG.bad
    · exact RG.bad
  · exact RG.bad
theorem eval_rm (E : Env) : ∀ n, RecM (eval E n)
  | 0 => ⟨fun _ _ _ _ => RG.bad, fun _ _ _ => RG.bad⟩
  | n + 1 => ⟨fun r c a h => codeF_rg (eval_rm E n) c r a h, fun _ _ _ => evCall_rg (eval_rm E n)⟩
end Go.Eng
namespace Go.Eng
open Go
theorem CR_cOf {β : Pl} {v : Value} (h : v.oneCell' = true) : CR β (cOf v) v := by
  unfold cOf
  split
  · rfl
  · rfl
  · rfl
  · rfl
  · rfl
  · rfl
  · rfl
  · exact ⟨rfl, h⟩
theorem CRs_cOf {β : Pl} : ∀ (l : List Value), l.all Value.oneCell' = true → CRs β (l.map cOf) l
  | [], _ => trivial
  | v :: l, h => by
    simp only [List.all_cons, Bool.and_eq_true] at h
    exact ⟨CR_cOf h.1, CRs_cOf l h.2⟩
theorem AR_ofValue {β : Pl} {v : Value} (h : okV v = true) : AR β (ofValue v) v := by
  unfold ofValue
  split
  · rename_i cs
    exact ⟨cs.toList, CRs_cOf _ h, by simp⟩
  · rename_i vs
    have h' : vs.toList = [] := by simpa [okV] using h
    have : vs = #[] := by cases vs; simpa using h'
    subst this
    exact ⟨[], trivial, rfl⟩
  · rename_i h1 h2
    refine CR_cOf ?_
    cases v <;> first | rfl | exact absurd rfl (h1 _) | exact absurd rfl (h2 _)
theorem AR_noTup {v : Value} (h : ∀ vs, v ≠ .tuple vs) : (ofValue v).noTup = true := by
  unfold ofValue
  split
  · rfl
  · exact absurd rfl (h _)
  · rfl
theorem AC.val?_ok {β : Pl} {c : AC} {u v : Value} (h : c.val? = some u) (hr : CR β c v) : v = u := by
  cases c with
  | b x => cases h; exact hr
  | i k n => cases h; exact hr
  | o x => cases x <;> simp [AC.val?] at h <;> subst h <;> first | exact hr | exact hr.1
theorem cellVals_ok {β : Pl} : ∀ {l : List AC} {us vs : List Value}, cellVals l = some us → CRs β l vs → vs = us
  | [], us, vs, h, hr => by
    cases h
    cases vs with
    | nil => rfl
    | cons => exact hr.elim
  | c :: l, us, vs, h, hr => by
    cases vs with
    | nil => exact hr.elim
    | cons v vs =>
      unfold cellVals at h
      split at h
      · rename_i u us' hc hl
        cases h
        rw [AC.val?_ok hc hr.1, cellVals_ok hl hr.2]
      · cases h
theorem AV.val?_ok {β : Pl} {x : AV} {u v : Value} (h : x.val? = some u) (hr : AR β x v) : v = u := by
  cases x with
  | one c => exact AC.val?_ok h hr
  | agg l =>
    obtain ⟨vs, h1, rfl⟩ := hr
    unfold AV.val? at h
    simp only at h
    split at h
    · rename_i us hu
      cases h
      rw [cellVals_ok hu h1]
    · cases h
  | tup l =>
    obtain ⟨vs, h1, rfl⟩ := hr
    cases l with
    | nil =>
      cases h
      cases vs with
      | nil => rfl
      | cons => exact h1.elim
    | cons => cases h
  | any => cases h
theorem ev_ok {β : Pl} {tm : PT AV} {a : Act} (h : ∀ t, AR β (optE (tm.get t) undefA fun v => v) (a.tmps.getD t undef)) (x : Operand) : AR β (ev tm x) (a.eval x) := by
  cases x with
  | tmp t => exact h t
  | const v =>
    show AR β (bif okV v then ofValue v else .any) v
    cases ho : okV v with
    | true => exact AR_ofValue ho
    | false => trivial
  | global g => trivial
  | func f => exact ⟨[], rfl, rfl, fun k c v hc _ => by simp at hc⟩
theorem pureRun_ok {α : Type} {P : Program} : ∀ {s : Sem α} {a : α}, pureRun P s = some a → ∀ w, s.run P w = .ok a w := by
  intro s
  induction s with
  | pure a => intro b h w; cases h; rfl
  | program k ih => intro b h w; exact ih P h w
  | mark m k ih => intro b h w; exact ih h w
  | load m a k _ => intro b h; cases h
  | store m a v k _ => intro b h; cases h
  | new o k _ => intro b h; cases h
  | shape r k _ => intro b h; cases h
  | freeze a n k _ => intro b h; cases h
  | frozen a k _ => intro b h; cases h
  | getObj r k _ => intro b h; cases h
  | setObj r o k _ => intro b h; cases h
  | choose q k _ => intro b h; cases h
  | sys c k _ => intro b h; cases h
  | halt hl => intro b h; cases h
section tables
variable {P : Program} {t : TypeId} {w : World}
theorem run_isAgg_of {a : Bool} (h : isAggT P t = some a) : (isAgg t).run P w = .ok a w := by
  unfold isAggT at h
  split at h
  · rename_i fs hu; cases h; simp [isAgg, run_underlying hu]
  · rename_i n e hu; cases h; simp [isAgg, run_underlying hu]
  · rename_i d h1 h2 hu
    cases h
    simp only [isAgg, Sem.run_bind, run_underlying hu, Result.andThen_ok]
    cases d <;> first | rfl | exact absurd hu (h1 _) | exact absurd hu (h2 _ _)
  · cases h
theorem info_of_size {n : Nat} (h : sizeT P t = some n) : ∃ i, P.info? t = some i ∧ i.size = n := by
  unfold sizeT at h
  split at h
  · rename_i i hi; cases h; exact ⟨i, hi, rfl⟩
  · cases h
theorem run_sizeOf_of {n : Nat} (h : sizeT P t = some n) : (sizeOf t).run P w = .ok n w := by
  obtain ⟨i, hi, rfl⟩ := info_of_size h
  simp [sizeOf, typeInfo, hi]
theorem info_of_bytes {n : Nat} (h : bytesT P t = some n) : ∃ i, P.info? t = some i ∧ i.bytes = n := by
  unfold bytesT at h
  split at h
  · rename_i i hi; cases h; exact ⟨i, hi, rfl⟩
  · cases h
theorem zeroT_ok {z : Value} (h : zeroT P t = some z) : okV z = true ∧ (∀ vs, z ≠ .tuple vs) ∧ ∃ i, P.info? t = some i ∧ i.zero = some z := by
  unfold zeroT at h
  split at h
  · rename_i i hi
    split at h
    · rename_i y hy
      split at h
      · cases h
      · rename_i hne
        cases ho : okV y with
        | true => rw [ho] at h; cases h; exact ⟨ho, fun vs => hne vs, i, hi, hy⟩
        | false => rw [ho] at h; cases h
    · cases h
  · cases h
theorem run_zeroValue_of {z : Value} (h : zeroT P t = some z) : (zeroValue t).run P w = .ok z w := by
  obtain ⟨_, _, i, hi, hz⟩ := zeroT_ok h
  simp [zeroValue, typeInfo, hi, hz]
theorem sliceElem_ok {e : TypeId} (h : sliceElem P t = some e) : P.underlying t = some (.slice e) := by
  unfold sliceElem at h
  split at h
  · cases h; assumption
  · cases h
theorem elemT_ok {e : TypeId} {n : Nat} (h : elemT P t = some (e, n)) : P.underlying t = some (.slice e) ∧ sizeT P e = some n := by
  unfold elemT at h
  split at h
  · rename_i e' he
    split at h
    · rename_i n' hn; cases h; exact ⟨sliceElem_ok he, hn⟩
    · cases h
  · cases h
theorem mapT_ok {k e : TypeId} (h : mapT P t = some (k, e)) : P.underlying t = some (.map k e) := by
  unfold mapT at h
  split at h
  · cases h; assumption
  · cases h
theorem loadT_ok {a : Bool} {n : Nat} (h : loadT P t = some (a, n)) : isAggT P t = some a ∧ sizeT P t = some n := by
  unfold loadT at h
  split at h
  · rename_i a' n' h1 h2; cases h; exact ⟨h1, h2⟩
  · cases h
theorem fieldT_ok {f : Nat} {fo : Nat} {ft : TypeId} {n : Nat} (h : fieldT P t f = some (fo, ft, n)) :
    ∃ fs fd, P.underlying t = some (.struct fs) ∧ fs[f]? = some fd ∧ fd.offset = fo ∧ fd.type = ft ∧ sizeT P ft = some n := by
  unfold fieldT at h
  split at h
  · rename_i fs hu
    split at h
    · rename_i fd hf
      split at h
      · rename_i n' hn; cases h; exact ⟨fs, fd, hu, hf, rfl, rfl, hn⟩
      · cases h
    · cases h
  · cases h
end tables
def Out (m : Nat) (β : Pl) (H : Hp) (w : World) (l : List (AV × Hp)) (v : Value) (w' : World) : Prop :=
  ∃ x, x ∈ l ∧ ∃ β', AR β' x.1 v ∧ Rel m β' x.2 w' ∧ Ext β H w β' x.2 w'
def NextOK (P : Program) (m : Nat) (β : Pl) (H : Hp) (w : World) (n : ANext) (r : Result Next) : Prop :=
  match n with
  | .val av H' => H'.nx ≤ m → ∃ v w', (r = .ok (.value v) w' ∨ (r = .ok .skip w' ∧ v = undef)) ∧ Out m β H w [(av, H')] v w'
  | .vals l => (∀ x ∈ l, x.2.nx ≤ m) → ∃ v w', r = .ok (.value v) w' ∧ Out m β H w l v w'
  | .enter f args => ∃ vs : List Value, r = (callFunc f vs.toArray).run P w ∧ ARs β args vs ∧ hasBody P f = true
  | .round id args => ∃ p vs, β id 0 = some p ∧ ARs β args vs ∧ r = (Instr.yield p.b vs.toArray).run P w
  | .bad _ => True
section
variable {P : Program} {m : Nat} {β : Pl} {H : Hp} {w : World}
theorem NextOK.same (hR : Rel m β H w) {av : AV} {v : Value} {r : Result Next} (hr : r = .ok (.value v) w) (ha : AR β av v) : NextOK P m β H w (.val av H) r :=
  fun _ => ⟨v, w, .inl hr, _, List.mem_singleton.2 rfl, β, ha, hR, Ext.refl _ _ _⟩
theorem NextOK.guard {b : Bool} {s : String} {n : ANext} {r : Result Next} (h : b = true → NextOK P m β H w n r) : NextOK P m β H w (guardN b s n) r := by
  cases b with
  | true => exact h rfl
  | false => exact trivial
theorem NextOK.nd {α : Type} {o : Option α} {s : String} {f : α → ANext} {r : Result Next} (h : ∀ a, o = some a → NextOK P m β H w (f a) r) : NextOK P m β H w (nd o s f) r := by
  cases o with
  | none => exact trivial
  | some a => exact h a rfl
theorem both_true {a b : Bool} (h : both a b = true) : a = true ∧ b = true := by
  cases a <;> cases b <;> first | exact ⟨rfl, rfl⟩ | cases h
end
theorem ptrE_ok {P : Program} {m : Nat} {β : Pl} {H : Hp} {w : World} {x : AV} {v : Value} {e : ANext} {f : Nat → Nat → Nat → Nat → ANext} {r : Result Next} (hx : AR β x v) (he : ∃ s, e = .bad s)
    (h : ∀ id g off lim p, x = .one (.o (.ptr id g off lim)) → β id g = some p → off + lim ≤ p.hi → v = .pointer (some ⟨p.b, p.o + off, none⟩) → NextOK P m β H w (f id g off lim) r) :
    NextOK P m β H w (ptrE x e f) r := by
  obtain ⟨s, rfl⟩ := he
  cases x with
  | one c =>
    cases c with
    | b _ => exact trivial
    | i _ _ => exact trivial
    | o x =>
      cases x with
      | ptr id g off lim =>
        obtain ⟨p, h1, h2, h3⟩ := hx
        exact h id g off lim p rfl h1 h2 h3
      | _ => exact trivial
  | agg _ => exact trivial
  | tup _ => exact trivial
  | any => exact trivial
theorem slE_ok {P : Program} {m : Nat} {β : Pl} {H : Hp} {w : World} {x : AV} {v : Value} {e : ANext} {f : Nat → Nat → Nat → Nat → Nat → ANext} {r : Result Next} (hx : AR β x v) (he : NextOK P m β H w e r)
    (h : ∀ id g off len sz p cap o', x = .one (.o (.sl id g off len sz)) → β id g = some p → off + len * sz ≤ p.hi → len ≤ cap → v = .slice (some o') len cap →
      (cap = 0 ∨ (o' = ⟨p.b, p.o + off, none⟩ ∧ p.o + off + cap * sz ≤ p.n)) → NextOK P m β H w (f id g off len sz) r) :
    NextOK P m β H w (slE x e f) r := by
  cases x with
  | one c =>
    cases c with
    | b _ => exact he
    | i _ _ => exact he
    | o x =>
      cases x with
      | sl id g off len sz =>
        obtain ⟨p, cap, o', h1, h2, h3, h4, h5⟩ := hx
        exact h id g off len sz p cap o' rfl h1 h2 h3 h4 h5
      | _ => exact he
  | agg _ => exact he
  | tup _ => exact he
  | any => exact he
theorem intE_ok {P : Program} {m : Nat} {β : Pl} {H : Hp} {w : World} {x : AV} {v : Value} {e : ANext} {f : IntKind → Int → ANext} {r : Result Next} (hx : AR β x v) (he : NextOK P m β H w e r)
    (h : ∀ k n, v = .int k n → NextOK P m β H w (f k n) r) : NextOK P m β H w (intE x e f) r := by
  cases x with
  | one c =>
    cases c with
    | b _ => exact he
    | i k n => exact h k n hx
    | o x => exact he
  | agg _ => exact he
  | tup _ => exact he
  | any => exact he
theorem boolE_ok {P : Program} {m : Nat} {β : Pl} {H : Hp} {w : World} {x : AV} {v : Value} {e : ANext} {f : Bool → ANext} {r : Result Next} (hx : AR β x v) (he : NextOK P m β H w e r)
    (h : ∀ b, v = .bool b → NextOK P m β H w (f b) r) : NextOK P m β H w (boolE x e f) r := by
  cases x with
  | one c =>
    cases c with
    | b b => exact h b hx
    | i k n => exact he
    | o x => exact he
  | agg _ => exact he
  | tup _ => exact he
  | any => exact he
theorem strE_ok {P : Program} {m : Nat} {β : Pl} {H : Hp} {w : World} {x : AV} {v : Value} {e : ANext} {f : List UInt8 → ANext} {r : Result Next} (hx : AR β x v) (he : NextOK P m β H w e r)
    (h : ∀ s, v = .string ⟨s.toArray⟩ → NextOK P m β H w (f s) r) : NextOK P m β H w (strE x e f) r := by
  cases x with
  | one c =>
    cases c with
    | b b => exact he
    | i k n => exact he
    | o x =>
      cases x with
      | str s => exact h s hx
      | _ => exact he
  | agg _ => exact he
  | tup _ => exact he
  | any => exact he
theorem row_read {β : Pl} {w : World} {cells : List AC} {p : Place} (h : RowD β w cells p) (off n : Nat) (hn : off + n ≤ p.hi) :
    ∃ vs : List Value, vs.length = n ∧ CRs β ((cells.drop off).take n) vs ∧ ∀ j v, vs[j]? = some v → w.cell? ((⟨p.b, p.o + off, none⟩ : Addr).add j) = some v := by
  obtain ⟨c, e, f, h1, h2, h3, h4, h5⟩ := h
  refine ⟨(c.toList.drop (p.o + off)).take n, ?_, ?_, ?_⟩
  · simp only [List.length_take, List.length_drop, Array.length_toList]; omega
  · refine CRs.of_get (by simp only [List.length_take, List.length_drop, Array.length_toList]; omega) fun k x v hx hv => ?_
    rw [List.getElem?_take] at hx hv
    split at hx
    · rename_i hk
      rw [if_pos hk] at hv
      rw [List.getElem?_drop] at hx hv
      obtain ⟨v', hv', hr⟩ := h5 (off + k) x (by omega) hx
      have : v' = v := by
        rw [Array.getElem?_toList] at hv
        rw [show p.o + (off + k) = p.o + off + k from by omega, hv] at hv'
        exact (Option.some.inj hv').symm
      exact this ▸ hr
    · cases hx
  · intro j v hv
    rw [List.getElem?_take] at hv
    split at hv
    · rename_i hk
      rw [List.getElem?_drop, Array.getElem?_toList] at hv
      have : (⟨p.b, p.o + off, none⟩ : Addr).add j = ⟨p.b, p.o + off + j, none⟩ := by unfold Addr.add; split <;> simp_all
      rw [this]
      simp [World.cell?, h1, hv]
    · cases hv
theorem obj_row {m : Nat} {β : Pl} {H : Hp} {w : World} (hR : Rel m β H w) {id g : Nat} {cells : List AC} {e : TypeId} {lo gen : Nat} (ho : H.get id = some (.arr cells e lo gen)) (h1 : lo ≤ g) (h2 : g ≤ gen)
    {p : Place} (hp : β id g = some p) : RowR β w cells e p ∧ (g = gen → p.hi = cells.length) := by
  obtain ⟨_, hrow, _, _⟩ := hR.obj id _ ho
  obtain ⟨q, hq, hr, hh⟩ := hrow g h1 h2
  rw [hp] at hq; cases hq
  exact ⟨hr, hh⟩
theorem readAt_ok {H : Hp} {id g off lim n : Nat} {c : List AC} (h : readAt H id g off lim n = some c) :
    ∃ cells, (∀ {m : Nat} {β : Pl} {w : World}, Rel m β H w → ∀ {p : Place}, β id g = some p → RowD β w cells p) ∧ n ≤ lim ∧ off + n ≤ cells.length ∧ c = (cells.drop off).take n := by
  unfold readAt rdO at h
  cases ho : H.get id with
  | none => rw [ho] at h; cases h
  | some o =>
    cases o with
    | oth x => rw [ho] at h; cases h
    | arr cells e lo gen =>
      rw [ho] at h
      simp only [ifE_eq, both_eq, lenC_eq, cut_eq] at h
      split at h
      · rename_i hc
        simp only [Bool.and_eq_true, Nat.ble_eq] at hc
        cases h
        exact ⟨cells, fun hR _ hp => (obj_row hR ho hc.1 hc.2.1 hp).1.d, hc.2.2.1, hc.2.2.2, rfl⟩
      · cases h
    | ro cells =>
      rw [ho] at h
      simp only [ifE_eq, both_eq, lenC_eq, cut_eq] at h
      split at h
      · rename_i hc
        simp only [Bool.and_eq_true, Nat.ble_eq] at hc
        cases h
        have hg0 := Nat.eq_of_beq_eq_true hc.1
        refine ⟨cells, fun hR p hp => ?_, hc.2.1, hc.2.2, rfl⟩
        obtain ⟨q, hq, hr⟩ := hR.obj id _ ho
        rw [hg0, hq] at hp; cases hp
        exact hr
      · cases h
theorem load_ok {P : Program} {m : Nat} {β : Pl} {H : Hp} {w : World} (hR : Rel m β H w) {t : TypeId} {a : Bool} {n : Nat} (ht : loadT P t = some (a, n)) {x : AV} {v : Value} (hx : AR β x v) :
    NextOK P m β H w (doLoad H a n x) ((do let y ← Instr.loadAt t v; pure (Next.value y) : Sem Next).run P w) := by
  obtain ⟨ha, hn⟩ := loadT_ok ht
  unfold doLoad
  refine ptrE_ok hx ⟨_, rfl⟩ fun id g off lim p _ hp hlim hv => ?_
  subst hv
  refine NextOK.nd fun c hc => ?_
  obtain ⟨cells, hD, h3, h4, rfl⟩ := readAt_ok hc
  have hr := hD hR hp
  obtain ⟨vs, hvl, hvs, hcell⟩ := row_read hr off n (by omega)
  cases a with
  | true =>
    show NextOK P m β H w (.val (.agg _) H) _
    refine NextOK.same hR (v := .agg vs.toArray) ?_ ⟨vs, hvs, rfl⟩
    have hl := run_loadCells_list (P := P) w ⟨p.b, p.o + off, none⟩ vs hcell
    rw [hvl] at hl
    simp [Instr.loadAt, Instr.sureAddr, loadVar, run_isAgg_of ha, run_sizeOf_of hn, hl]
  | false =>
    cases hcs : (cells.drop off).take n with
    | nil => exact trivial
    | cons y l =>
      rw [hcs] at hvs
      cases vs with
      | nil => exact hvs.elim
      | cons u us =>
        show NextOK P m β H w (.val (.one y) H) _
        refine NextOK.same hR (v := u) ?_ hvs.1
        have h0 := hcell 0 u rfl
        have : (⟨p.b, p.o + off, none⟩ : Addr).add 0 = ⟨p.b, p.o + off, none⟩ := rfl
        rw [this] at h0
        simp [Instr.loadAt, Instr.sureAddr, loadVar, run_isAgg_of ha, run_load, h0]
end Go.Eng
namespace Go.Eng
open Go
theorem splice_get {α : Type} (l : List α) (off : Nat) (c : List α) (k : Nat) (h : off + c.length ≤ l.length) :
    (l.take off ++ (c ++ l.drop (off + c.length)))[k]? = if k < off then l[k]? else if k < off + c.length then c[k - off]? else l[k]? := by
  have ht : (l.take off).length = off := by simp; omega
  by_cases h1 : k < off
  · rw [if_pos h1, List.getElem?_append_left (by omega), List.getElem?_take, if_pos h1]
  · rw [if_neg h1, List.getElem?_append_right (by omega), ht]
    by_cases h2 : k < off + c.length
    · rw [if_pos h2, List.getElem?_append_left (by omega)]
    · rw [if_neg h2, List.getElem?_append_right (by omega), List.getElem?_drop]
      congr 1
      omega
theorem splice_len {α : Type} (l : List α) (off : Nat) (c : List α) (h : off + c.length ≤ l.length) : (l.take off ++ (c ++ l.drop (off + c.length))).length = l.length := by
  simp only [List.length_append, List.length_take, List.length_drop]; omega
theorem row_splice {β : Pl} {w : World} {cells : List AC} {e : TypeId} {p : Place} (h : RowR β w cells e p) (hp : p.hi = cells.length) {off : Nat} {c : List AC} {vs : List Value} (hc : CRs β c vs) (hoff : off + c.length ≤ cells.length) :
    ∃ cur : Array Value, w.heap[p.b]? = some (.cells cur e (0, 0)) ∧ p.o + off + 0 + vs.length ≤ cur.size ∧
      RowR β (w.setRow p.b (cur.toList.take (p.o + off + 0) ++ vs ++ cur.toList.drop (p.o + off + 0 + vs.length)).toArray) (cells.take off ++ (c ++ cells.drop (off + c.length))) e p := by
  obtain ⟨cur, h1, h2, h3, h4, h5⟩ := h
  have hl := hc.length
  refine ⟨cur, h1, by omega, ?_⟩
  have hfit : p.o + off + 0 + vs.length ≤ cur.toList.length := by simp; omega
  refine ⟨_, setRow_heap w p.b cur _ e _ h1, ?_, h3, by rw [splice_len _ _ _ hoff]; exact h4, ?_⟩
  · rw [List.append_assoc, List.size_toArray, splice_len _ _ _ hfit]; simpa using h2
  · intro k x hk hx
    rw [splice_get _ _ _ _ hoff] at hx
    rw [List.append_assoc, List.getElem?_toArray, splice_get _ _ _ _ hfit]
    by_cases a1 : k < off
    · rw [if_pos a1] at hx
      rw [if_pos (by omega)]
      simpa using h5 k x hk hx
    · rw [if_neg a1] at hx
      rw [if_neg (by omega)]
      by_cases a2 : k < off + c.length
      · rw [if_pos a2] at hx
        rw [if_pos (by omega)]
        have hlt : k - off < vs.length := by omega
        refine ⟨vs[k - off], ?_, hc.get (k - off) x _ hx (List.getElem?_eq_getElem hlt)⟩
        rw [show p.o + k - (p.o + off + 0) = k - off from by omega, List.getElem?_eq_getElem hlt]
      · rw [if_neg a2] at hx
        rw [if_neg (by omega)]
        simpa using h5 k x hk hx
theorem obj_top {β : Pl} {w w' : World} {id : Nat} {cells cells' : List AC} {e : TypeId} {lo gen : Nat} {p : Place} (h : ObjR β w id (.arr cells e lo gen)) (hp : β id gen = some p) (hr : RowR β w' cells' e p) (hl : p.hi = cells'.length) :
    ObjR β w' id (.arr cells' e gen gen) := by
  refine ⟨Nat.le_refl _, ?_, ?_, h.2.2.2⟩
  · intro g h1 h2
    have : g = gen := by omega
    subst this
    exact ⟨p, hp, hr, fun _ => hl⟩
  · intro g g' q q' h1 h2 h3 hq hq'
    have e1 : g = gen := by omega
    have e2 : g' = gen := by omega
    subst e1; subst e2
    rw [hq] at hq'; cases hq'
    exact ⟨Nat.le_refl _, fun _ => rfl⟩
theorem store_ok {P : Program} {m : Nat} {β : Pl} {H : Hp} {w : World} (hR : Rel m β H w) (hm : m ≤ m) {t : TypeId} {n : Nat} (ht : sizeT P t = some n) {x y : AV} {v u : Value} (hx : AR β x v) (hy : AR β y u) :
    NextOK P m β H w (doStore H n x y) ((do Instr.storeAt t u v; pure Next.skip : Sem Next).run P w) := by
  unfold doStore
  refine ptrE_ok hy ⟨_, rfl⟩ fun id g off lim p _ hp hlim hu => ?_
  subst hu
  unfold arrE
  cases ho : H.get id with
  | none => exact trivial
  | some o =>
    cases o with
    | oth x => exact trivial
    | ro x => exact trivial
    | arr cells e lo gen =>
      refine NextOK.guard fun hc => ?_
      have hnt : x.noTup = true := (both_true (both_true (both_true (both_true (both_true hc).2).2).2).2).2
      have hc1 : Nat.beq g gen = true := (both_true hc).1
      have hc2 : Nat.beq (lenC x.cells) n = true := (both_true (both_true hc).2).1
      have hc3 : Nat.ble n lim = true := (both_true (both_true (both_true hc).2).2).1
      have hc4 : Nat.ble (Nat.add off n) (lenC cells) = true := (both_true (both_true (both_true (both_true hc).2).2).2).1
      have hc5 : Nat.ble lo gen = true := (both_true (both_true (both_true (both_true (both_true hc).2).2).2).2).1
      have e1 : g = gen := Nat.eq_of_beq_eq_true hc1
      have e2 : (lenC x.cells) = n := Nat.eq_of_beq_eq_true hc2
      have e4 : off + n ≤ lenC cells := Nat.le_of_ble_eq_true hc4
      have e5 : lo ≤ gen := Nat.le_of_ble_eq_true hc5
      rw [lenC_eq] at e2 e4
      subst e1
      intro hnx
      have hcs := hx.cells hnt
      have hvl : v.cells.size = n := by rw [← e2]; simpa using hcs.length
      obtain ⟨hrow, hhi⟩ := obj_row hR ho e5 (Nat.le_refl _) hp
      obtain ⟨cur, hg, hfit, hrow'⟩ := row_splice hrow (hhi rfl) hcs (by rw [e2]; exact e4)
      have hst := run_storeCells_at P p.b (p.o + off) e v.cells.toList 0 cur w hg hfit hcs.oneCell
      have hmod := rel_mod hR hm hnx ho (.arr (splice cells off x.cells) e g g) (β' := β) (w' := w.setRow p.b (cur.toList.take (p.o + off + 0) ++ v.cells.toList ++ cur.toList.drop (p.o + off + 0 + v.cells.toList.length)).toArray)
        (fun _ _ _ h => h) (fun _ _ _ => rfl) (by simp) (by simp) (by simp) (by simp)
        (fun b _ hb => setRow_other w p.b b _ (fun hh => hb g p ⟨e5, Nat.le_refl _⟩ hp hh.symm))
        (by rw [splice_eq]; exact obj_top (hR.obj id _ ho) hp hrow' (by rw [splice_len _ _ _ (by rw [e2]; exact e4)]; exact hhi rfl))
        (fun g0 p0 hg0 hp0 => .inr ⟨g, p, ⟨e5, Nat.le_refl _⟩, hp, by
          have : g0 = g := by have := hg0.1; have := hg0.2; omega
          subst this; rw [hp] at hp0; cases hp0; rfl⟩)
      refine ⟨undef, _, .inr ⟨?_, rfl⟩, _, List.mem_singleton.2 rfl, β, ⟨[], trivial, rfl⟩, hmod.1, hmod.2⟩
      simp [Instr.storeAt, Instr.sureAddr, storeVar, run_sizeOf_of ht, hvl, hst]
theorem Out.one {m : Nat} {β β' : Pl} {H H' : Hp} {w w' : World} {av : AV} {v : Value} (ha : AR β' av v) (h : Rel m β' H' w' ∧ Ext β H w β' H' w') : Out m β H w [(av, H')] v w' :=
  ⟨_, List.mem_singleton.2 rfl, β', ha, h.1, h.2⟩
theorem rowNew_ok {P : Program} {m : Nat} {β : Pl} {H : Hp} {w : World} (hR : Rel m β H w) (hm : m ≤ m) {cells : List AC} {vs : Array Value} (e : TypeId) (hc : CRs β cells vs.toList) {r : Result Next}
    (hr : r = .ok (.value (.pointer (some ⟨w.heap.size, 0, none⟩))) (w.alloc (.cells vs e))) : NextOK P m β H w (rowNew H cells e) r := by
  intro hnx
  have hnx' : H.nx + 1 ≤ m := hnx
  have h := rel_row hR hm (by omega) cells vs e hc w rfl rfl rfl rfl #[]
  refine ⟨_, _, .inl hr, Out.one ?_ (by simpa using h)⟩
  refine ⟨_, plus_same _ _ _ _, ?_, rfl⟩
  show 0 + lenC cells ≤ cells.length
  rw [lenC_eq]; omega
theorem alloc_ok {P : Program} {m : Nat} {β : Pl} {H : Hp} {w : World} (hR : Rel m β H w) (hm : m ≤ m) {e : TypeId} {z : Value} (hz : zeroT P e = some z) :
    NextOK P m β H w (rowNew H (ofValue z).cells e) ((do let y ← Instr.alloc e true (.tuple #[]); pure (Next.value y) : Sem Next).run P w) := by
  obtain ⟨ho, hn, _⟩ := zeroT_ok hz
  refine rowNew_ok hR hm e (vs := z.cells) ((AR_ofValue ho).cells (AR_noTup hn)) ?_
  simp only [Instr.alloc, Sem.run_bind, run_zeroValue_of hz, Result.andThen_ok]
  rfl
theorem box_ok {P : Program} {m : Nat} {β : Pl} {H : Hp} {w : World} (hR : Rel m β H w) (hm : m ≤ m) (e : TypeId) {x : AV} {v : Value} (hx : AR β x v) :
    NextOK P m β H w (guardN x.noTup "box - a tuple" (rowNew H x.cells e)) ((do let y ← Instr.box e v; pure (Next.value y) : Sem Next).run P w) := by
  refine NextOK.guard fun hn => ?_
  refine rowNew_ok hR hm e (vs := v.cells) (hx.cells hn) ?_
  rfl
theorem foldl_set (off : Nat) : ∀ (vs : List Value) (i : Nat) (cs : Array Value), off + i + vs.length ≤ cs.size →
    ((vs.zipIdx i).foldl (fun cs (x : Value × Nat) => cs.setIfInBounds (off + x.2) x.1) cs).toList = cs.toList.take (off + i) ++ (vs ++ cs.toList.drop (off + i + vs.length)) := by
  intro vs
  induction vs with
  | nil => intro i cs _; simp
  | cons v vs ih =>
    intro i cs h
    simp only [List.length_cons] at h
    simp only [List.zipIdx_cons, List.foldl_cons]
    rw [ih (i + 1) _ (by simp; omega)]
    rw [Array.toList_setIfInBounds]
    apply List.ext_getElem?
    intro k
    have hlen : cs.toList.length = cs.size := by simp
    have e1 := splice_get (cs.toList.set (off + i) v) (off + (i + 1)) vs k (by simp; omega)
    have e2 := splice_get cs.toList (off + i) (v :: vs) k (by simp; omega)
    rw [e1]
    rw [e2]
    simp only [List.length_cons]
    by_cases a1 : k < off + i
    · rw [if_pos (by omega), if_pos a1, List.getElem?_set_ne (by omega)]
    · by_cases a2 : k = off + i
      · subst a2
        rw [if_pos (by omega), if_neg (by omega), if_pos (by omega), List.getElem?_set_self (by omega)]
        simp
      · rw [if_neg (by omega), if_neg a1]
        by_cases a3 : k < off + (i + 1) + vs.length
        · rw [if_pos a3, if_pos (by omega)]
          rw [show k - (off + i) = (k - (off + (i + 1))) + 1 from by omega, List.getElem?_cons_succ]
        · rw [if_neg a3, if_neg (by omega), List.getElem?_set_ne (by omega)]
theorem fill_ok {β : Pl} {tm : PT AV} {a : Act} (htm : ∀ t, AR β (optE (tm.get t) undefA fun v => v) (a.tmps.getD t undef)) {place : Nat → Option (Nat × Nat)} :
    ∀ {l : List (Nat × Operand)} {r : List (Nat × Nat × OpF)} {z : List AC} {c : List AC} {vs : Array Value}, partsF place l = some r → fillC tm r z = some c → CRs β z vs.toList →
      ∃ us : Array Value, Instr.fill place vs (l.map fun p => (p.1, a.eval p.2)) = some us ∧ CRs β c us.toList ∧ c.length = z.length := by
  intro l
  induction l with
  | nil =>
    intro r z c vs h hf hz
    cases h
    have : z = c := by injection hf
    subst this
    exact ⟨vs, rfl, hz, rfl⟩
  | cons q l ih =>
    intro r z c vs h hf hz
    obtain ⟨i, x⟩ := q
    unfold partsF at h
    split at h
    · rename_i p r' hp hr'
      cases h
      have hx := ev_ok htm x
      have hf' : ifE (both (Nat.beq (lenC ((opF x).ev tm).cells) p.2) (both (Nat.ble (Nat.add p.1 p.2) (lenC z)) ((opF x).ev tm).noTup)) (fillC tm r' (splice z p.1 ((opF x).ev tm).cells)) none = some c := hf
      rw [ifE_eq] at hf'
      split at hf'
      · rename_i hc
        have h1 : lenC ((opF x).ev tm).cells = p.2 := Nat.eq_of_beq_eq_true (both_true hc).1
        have h2 : p.1 + p.2 ≤ lenC z := Nat.le_of_ble_eq_true (both_true (both_true hc).2).1
        have h3 : ((opF x).ev tm).noTup = true := (both_true (both_true hc).2).2
        rw [lenC_eq] at h1 h2
        have hcs : CRs β ((opF x).ev tm).cells (a.eval x).cells.toList := AR.cells hx h3
        have hl := hcs.length
        have hzl := hz.length
        simp only [Array.length_toList] at hl hzl
        have hsz : ¬ ((a.eval x).cells.size ≠ p.2 ∨ p.1 + (a.eval x).cells.size > vs.size) := by omega
        have hfs := foldl_set p.1 (a.eval x).cells.toList 0 vs (by simp; omega)
        have hrel : CRs β (splice z p.1 ((opF x).ev tm).cells) (((a.eval x).cells.zipIdx.foldl (fun cs (x : Value × Nat) => cs.setIfInBounds (p.1 + x.2) x.1) vs)).toList := by
          rw [← Array.foldl_toList, Array.toList_zipIdx, hfs, splice_eq]
          refine CRs.append (by simpa using hz.take p.1) (CRs.append hcs ?_)
          have := hz.drop (p.1 + ((opF x).ev tm).cells.length)
          simpa [hl] using this
        obtain ⟨us, hu1, hu2, hu3⟩ := ih hr' hf' hrel
        refine ⟨us, ?_, hu2, by rw [hu3, splice_eq, splice_len _ _ _ (by omega)]⟩
        simp only [List.map_cons, Instr.fill, hp]
        rw [if_neg (by simpa using hsz)]
        exact hu1
      · cases hf'
    · cases h
theorem build_ok {P : Program} {m : Nat} {β : Pl} {H : Hp} {w : World} (hR : Rel m β H w) {tm : PT AV} {a : Act} (htm : ∀ t, AR β (optE (tm.get t) undefA fun v => v) (a.tmps.getD t undef))
    {t : TypeId} {z : Value} {pl : Nat → Option (Nat × Nat)} {parts : Array (Nat × Operand)} {ps : List (Nat × Nat × OpF)} (hz : zeroT P t = some z) (hpl : placeT P t = some pl) (hps : partsF pl parts.toList = some ps) :
    NextOK P m β H w (doBuild H (ofValue z).cells tm ps) ((do let y ← Instr.build t (parts.map fun (i, x) => (i, a.eval x)); pure (Next.value y) : Sem Next).run P w) := by
  refine NextOK.nd fun c hc => ?_
  obtain ⟨ho, hn, it, hit, hiz⟩ := zeroT_ok hz
  obtain ⟨us, hu, hcs, _⟩ := fill_ok htm hps hc (vs := z.cells) ((AR_ofValue ho).cells (AR_noTup hn))
  have hb : P.built t (parts.map fun (i, x) => (i, a.eval x)).toList = some us := by
    unfold placeT at hpl
    unfold Program.built
    rw [hit]
    split at hpl
    · rename_i fs hun
      split at hpl
      · rename_i places hp
        cases hpl
        simp only [hun, hiz, hp]
        rw [← hu]
        simp
      · cases hpl
    · rename_i n el hun
      split at hpl
      · rename_i ie hie
        cases hpl
        simp only [hun, hiz, hie]
        rw [← hu]
        simp
      · cases hpl
    · cases hpl
  refine NextOK.same hR (v := .agg us) ?_ ⟨us.toList, hcs, by simp⟩
  simp only [Sem.run_bind, run_build w t _ us hb, Result.andThen_ok]
  rfl
theorem repl_get (z : List AC) : ∀ (n k : Nat), (repl z n)[k]? = if k < n * z.length then z[k % z.length]? else none := by
  intro n
  induction n with
  | zero => intro k; show ([] : List AC)[k]? = _; simp
  | succ n ih =>
    intro k
    show (appC z (repl z n))[k]? = _
    rw [appC_eq]
    have e : (n + 1) * z.length = n * z.length + z.length := by rw [Nat.add_mul]; simp
    by_cases h : k < z.length
    · rw [List.getElem?_append_left h, if_pos (by omega), Nat.mod_eq_of_lt h]
    · rw [List.getElem?_append_right (by omega), ih]
      by_cases h2 : k < (n + 1) * z.length
      · rw [if_pos h2, if_pos (by omega)]
        congr 1
        exact (Nat.mod_eq_sub_mod (by omega)).symm
      · rw [if_neg h2, if_neg (by omega)]
theorem repl_len (z : List AC) (n : Nat) : (repl z n).length = n * z.length := by
  induction n with
  | zero => show ([] : List AC).length = _; simp
  | succ n ih =>
    show (appC z (repl z n)).length = _
    rw [appC_eq, List.length_append, ih, Nat.add_mul]; omega
theorem repl_ok {β : Pl} {z : List AC} {vs : Array Value} (h : CRs β z vs.toList) (n : Nat) : CRs β (repl z n) ((Array.range (n * vs.size)).map (vs[· % vs.size]!)).toList := by
  have hl : vs.size = z.length := by simpa using h.length
  refine CRs.of_get (by simp [repl_len, hl]) fun k c v hc hv => ?_
  rw [repl_get] at hc
  split at hc
  · rename_i hk
    have hk' : k < n * vs.size := by rw [hl]; exact hk
    have hpos : 0 < vs.size := by
      rcases Nat.eq_zero_or_pos vs.size with h0 | h0
      · rw [h0] at hk'; omega
      · exact h0
    have hm : k % vs.size < vs.size := Nat.mod_lt _ hpos
    have hv' : v = vs[k % vs.size] := by
      simp [hk'] at hv
      rw [← hv, getElem!_pos vs _ hm]
    rw [hv']
    refine h.get (k % vs.size) c _ ?_ ?_
    · rw [hl]; exact hc
    · simp [hm]
  · cases hc
theorem buildSlice_ok {P : Program} {m : Nat} {β : Pl} {H : Hp} {w : World} (hR : Rel m β H w) (hm : m ≤ m) {tm : PT AV} {a : Act} (htm : ∀ t, AR β (optE (tm.get t) undefA fun v => v) (a.tmps.getD t undef))
    {t e : TypeId} {sz len : Nat} {z : Value} {parts : Array (Nat × Operand)} {ps : List (Nat × Nat × OpF)} (he : elemT P t = some (e, sz)) (hz : zeroT P e = some z) (h24 : len * sz ≤ 16777216) (hzl : (ofValue z).cells.length = sz)
    (hps : partsF (fun i => some (i * sz, sz)) parts.toList = some ps) :
    NextOK P m β H w (doBuildSlice H (repl (ofValue z).cells len) tm e sz len ps) ((do let y ← Instr.buildSlice t len (parts.map fun (i, x) => (i, a.eval x)); pure (Next.value y) : Sem Next).run P w) := by
  refine NextOK.nd fun c hc => ?_
  intro hnx
  have hnx' : H.nx + 1 ≤ m := hnx
  obtain ⟨hu, hs⟩ := elemT_ok he
  obtain ⟨ho, hn, it, hit, hiz⟩ := zeroT_ok hz
  have hzc : CRs β (ofValue z).cells z.cells.toList := (AR_ofValue ho).cells (AR_noTup hn)
  have hzs : z.cells.size = sz := by rw [← hzl]; simpa using hzc.length
  have hrep := repl_ok hzc len
  rw [hzs] at hrep
  obtain ⟨us, hus, hcs, hclen⟩ := fill_ok htm hps hc hrep
  have hlen : c.length = len * sz := by rw [hclen, repl_len, hzl]
  have h := rel_row hR hm (by omega) c us e hcs w rfl rfl rfl rfl #[]
  have hus' : Instr.fill (fun i => some (i * sz, sz)) ((Array.range (len * sz)).map (z.cells[· % sz]!)) (parts.map fun (i, x) => (i, a.eval x)).toList = some us := by rw [← hus]; simp
  have hrun : (Instr.buildSlice t len (parts.map fun (i, x) => (i, a.eval x))).run P w = .ok (.slice (some ⟨w.heap.size, 0, none⟩) len len) (w.alloc (.cells us e)) := by
    have h24' : ¬ (len * sz > 2 ^ 24) := by omega
    by_cases h0 : len * sz = 0
    · rw [h0] at hus'
      simp only [Instr.buildSlice, Sem.run_bind, run_underlying hu, Result.andThen_ok, run_sizeOf_of hs, h0]
      rw [if_neg (by omega)]
      simp only [if_true, Sem.run_bind, Sem.run_pure, Result.andThen_ok]
      have hr : ∀ f : Nat → Value, (Array.range 0).map f = #[] := fun f => by apply Array.ext'; simp
      simp only [hr] at hus' ⊢
      rw [hus']
      rfl
    · simp only [Instr.buildSlice, Sem.run_bind, run_underlying hu, Result.andThen_ok, run_sizeOf_of hs, if_neg h24', if_neg h0, run_zeroValue_of hz, Sem.run_pure]
      rw [hzs, hus']
      rfl
  refine ⟨_, _, .inl (by simp only [Sem.run_bind, hrun, Result.andThen_ok]; rfl), Out.one ?_ (by simpa using h)⟩
  refine ⟨_, len, _, plus_same _ _ _ _, ?_, Nat.le_refl _, rfl, .inr ⟨rfl, ?_⟩⟩
  · show 0 + len * sz ≤ c.length
    omega
  · have := hcs.length
    simp at this
    show 0 + 0 + len * sz ≤ us.size + (#[] : Array Value).size
    simp
    omega
end Go.Eng
namespace Go.Eng
open Go
section
variable {P : Program} {m : Nat} {β : Pl} {H : Hp} {w : World}
theorem addr_add (b o n : Nat) : (⟨b, o, none⟩ : Addr).add n = ⟨b, o + n, none⟩ := by unfold Addr.add; split <;> simp_all
theorem fieldAddr_ok (hR : Rel m β H w) {s : TypeId} {f fo : Nat} {ft : TypeId} {n : Nat} (ht : fieldT P s f = some (fo, ft, n)) {x : AV} {v : Value} (hx : AR β x v) :
    NextOK P m β H w (doFieldAddr H fo n x) ((do let y ← Instr.fieldAt s v f; pure (Next.value y) : Sem Next).run P w) := by
  obtain ⟨fs, fd, hu, hf, rfl, rfl, hn⟩ := fieldT_ok ht
  unfold doFieldAddr
  refine ptrE_ok hx ⟨_, rfl⟩ fun id g off lim p _ hp hlim hv => ?_
  subst hv
  refine NextOK.guard fun hc => ?_
  have h1 : 1 ≤ n := Nat.le_of_ble_eq_true (both_true hc).1
  have h2 : fd.offset + n ≤ lim := Nat.le_of_ble_eq_true (both_true hc).2
  refine NextOK.same hR (v := .pointer (some ⟨p.b, p.o + off + fd.offset, none⟩)) ?_ ⟨p, hp, ?_, ?_⟩
  · have hn0 : ¬ n = 0 := by omega
    simp [Instr.fieldAt, run_underlying hu, hf, Instr.sureAddr, fieldPlace, run_sizeOf_of hn, hn0, addr_add]
  · show Nat.add off fd.offset + Nat.sub lim fd.offset ≤ p.hi
    have e1 : Nat.add off fd.offset = off + fd.offset := rfl
    have e2 : Nat.sub lim fd.offset = lim - fd.offset := rfl
    omega
  · show _ = Value.pointer (some ⟨p.b, p.o + (off + fd.offset), none⟩)
    rw [Nat.add_assoc]
theorem natOf_ok {n : Int} {k : Nat} (h : natOf n = some k) : n = (k : Int) := by
  cases n with
  | ofNat j => cases h; rfl
  | negSucc j => cases h
theorem indexAddr_ok (hR : Rel m β H w) {t e : TypeId} {sz' : Nat} (ht : elemT P t = some (e, sz')) {x i : AV} {v u : Value} (hx : AR β x v) (hi : AR β i u) :
    NextOK P m β H w (doIndexAddr H sz' x i) ((do let y ← Instr.indexAt t v u; pure (Next.value y) : Sem Next).run P w) := by
  obtain ⟨hu, hs⟩ := elemT_ok ht
  unfold doIndexAddr
  refine slE_ok hx trivial fun id g off len sz p cap o' _ hp hlen hcap hv hex => ?_
  subst hv
  refine intE_ok hi trivial fun k n hn => ?_
  subst hn
  refine NextOK.nd fun n' hn' => ?_
  rw [natOf_ok hn']
  refine NextOK.guard fun hc => ?_
  have h1 : sz = sz' := Nat.eq_of_beq_eq_true (both_true hc).1
  have h2 : n' < len := Nat.le_of_ble_eq_true (both_true hc).2
  subst h1
  have hex' : o' = ⟨p.b, p.o + off, none⟩ := by
    rcases hex with h | h
    · omega
    · exact h.1
  subst hex'
  have hmul : (n' + 1) * sz ≤ len * sz := Nat.mul_le_mul_right _ h2
  rw [Nat.add_mul] at hmul
  refine NextOK.same hR (v := .pointer (some ⟨p.b, p.o + off + n' * sz, none⟩)) ?_ ⟨p, hp, ?_, ?_⟩
  · simp [Instr.indexAt, asIntOf, run_underlying hu, run_sizeOf_of hs, addr_add]
    intro hge
    omega
  · show Nat.add off (Nat.mul n' sz) + sz ≤ p.hi
    have e1 : Nat.add off (Nat.mul n' sz) = off + n' * sz := rfl
    omega
  · show _ = Value.pointer (some ⟨p.b, p.o + (off + n' * sz), none⟩)
    rw [Nat.add_assoc]
theorem boundOf_ok {lo : Option Operand} {tm : PT AV} {a : Act} (htm : ∀ t, AR β (optE (tm.get t) undefA fun v => v) (a.tmps.getD t undef)) {d k : Nat} (h : boundOf (lo.map (ev tm)) d = some k) :
    match lo.map a.eval with
    | none => k = d
    | some v => ∃ kd, v = .int kd k := by
  cases lo with
  | none => exact (Option.some.inj h).symm
  | some x =>
    have hx := ev_ok htm x
    show ∃ kd, a.eval x = .int kd k
    have h' : intE (ev tm x) none (fun _ n => natOf n) = some k := h
    revert hx h'
    cases ev tm x with
    | one c =>
      cases c with
      | i kd n => intro hx h'; rw [natOf_ok h'] at hx; exact ⟨kd, hx⟩
      | b _ => intro _ h'; cases h'
      | o _ => intro _ h'; cases h'
    | agg _ => intro _ h'; cases h'
    | tup _ => intro _ h'; cases h'
    | any => intro _ h'; cases h'
theorem run_sliceBound (kd : IntKind) (k y : Nat) (code : BoundsCode) (h : k ≤ y) : (Instr.sliceBound (.int kd k) y code).run P w = .ok k w := by
  have h' : (k : Int) ≤ (y : Int) := by omega
  simp [Instr.sliceBound, asIntOf, h']
theorem slice_ok (hR : Rel m β H w) {tm : PT AV} {a : Act} (htm : ∀ t, AR β (optE (tm.get t) undefA fun v => v) (a.tmps.getD t undef)) {t e : TypeId} {sz' : Nat} (ht : elemT P t = some (e, sz')) {x : Operand} {lo hi : Option Operand}
    {alt : ANext} (halt : NextOK P m β H w alt ((do let y ← Instr.sliceAt t (a.eval x) (lo.map a.eval) (hi.map a.eval) none; pure (Next.value y) : Sem Next).run P w)) :
    NextOK P m β H w (doSlice H sz' (ev tm x) (lo.map (ev tm)) (hi.map (ev tm)) alt) ((do let y ← Instr.sliceAt t (a.eval x) (lo.map a.eval) (hi.map a.eval) none; pure (Next.value y) : Sem Next).run P w) := by
  obtain ⟨hu, hs⟩ := elemT_ok ht
  unfold doSlice
  refine slE_ok (ev_ok htm x) halt fun id g off len sz p cap o' _ hp hlen hcap hv hex => ?_
  rw [hv]
  refine NextOK.nd fun l hl => NextOK.nd fun r hr => NextOK.guard fun hc => ?_
  have h1 : sz = sz' := Nat.eq_of_beq_eq_true (both_true hc).1
  have h2 : l ≤ r := Nat.le_of_ble_eq_true (both_true (both_true hc).2).1
  have h3 : r ≤ len := Nat.le_of_ble_eq_true (both_true (both_true hc).2).2
  subst h1
  have bl := boundOf_ok htm hl
  have br := boundOf_ok htm hr
  have hb : (Instr.sliceBounds true len cap (lo.map a.eval) (hi.map a.eval) none).run P w = .ok (l, r, cap) w := by
    cases hi with
    | none =>
      have hr' : r = len := br
      cases lo with
      | none =>
        have hl' : l = 0 := bl
        rw [hr', hl']
        rfl
      | some y =>
        obtain ⟨kd, hk⟩ := (bl : ∃ kd, a.eval y = .int kd l)
        rw [hr']
        simp only [Instr.sliceBounds, Option.map_some, Option.map_none, hk, Sem.run_bind, Sem.run_pure, Result.andThen_ok, run_sliceBound kd l len _ (by omega)]
    | some z =>
      obtain ⟨kd2, hk2⟩ := (br : ∃ kd, a.eval z = .int kd r)
      cases lo with
      | none =>
        have hl' : l = 0 := bl
        rw [hl']
        simp only [Instr.sliceBounds, Option.map_some, Option.map_none, hk2, Sem.run_bind, Sem.run_pure, Result.andThen_ok, run_sliceBound kd2 r cap _ (by omega)]
      | some y =>
        obtain ⟨kd, hk⟩ := (bl : ∃ kd, a.eval y = .int kd l)
        simp only [Instr.sliceBounds, Option.map_some, hk, hk2, Sem.run_bind, Sem.run_pure, Result.andThen_ok, run_sliceBound kd2 r cap _ (by omega), run_sliceBound kd l r _ h2]
  have hmul : r * sz ≤ len * sz := Nat.mul_le_mul_right _ h3
  have hsub : (r - l) * sz = r * sz - l * sz := Nat.sub_mul _ _ _
  have hmul2 : l * sz ≤ r * sz := Nat.mul_le_mul_right _ h2
  refine NextOK.same hR (v := .slice (some (if cap = l then o' else o'.add (l * sz))) (r - l) (cap - l)) ?_ ⟨p, cap - l, _, hp, ?_, ?_, rfl, ?_⟩
  · simp only [Instr.sliceAt, Instr.slice, Sem.run_bind, run_underlying hu, Result.andThen_ok, hb, run_sizeOf_of hs]
    by_cases hcl : cap = l
    · simp [hcl]
    · simp [hcl]
  · show Nat.add off (Nat.mul l sz) + Nat.sub r l * sz ≤ p.hi
    have e1 : Nat.add off (Nat.mul l sz) = off + l * sz := rfl
    have e2 : Nat.sub r l = r - l := rfl
    rw [e1, e2, hsub]
    omega
  · show Nat.sub r l ≤ cap - l
    have e2 : Nat.sub r l = r - l := rfl
    omega
  · by_cases hcl : cap = l
    · exact .inl (by omega)
    · rw [if_neg hcl]
      have hcs : (cap - l) * sz = cap * sz - l * sz := Nat.sub_mul _ _ _
      have hcm : l * sz ≤ cap * sz := Nat.mul_le_mul_right _ (by omega)
      rcases hex with h | ⟨h, h'⟩
      · omega
      · refine .inr ⟨?_, ?_⟩
        · show o'.add (l * sz) = ⟨p.b, p.o + (off + l * sz), none⟩
          rw [h, addr_add, Nat.add_assoc]
        · show p.o + (off + l * sz) + (cap - l) * sz ≤ p.n
          omega
theorem extract_ok (hR : Rel m β H w) {x : AV} {v : Value} (hx : AR β x v) (i : Nat) : NextOK P m β H w (doExtract H x i) ((do let y ← Instr.extract v i; pure (Next.value y) : Sem Next).run P w) := by
  cases x with
  | one c => exact trivial
  | agg l => exact trivial
  | any => 
    show NextOK P m β H w (Nat.rec (motive := fun _ => List (Bool × List AC) → ANext) _ _ i []) _
    cases i <;> exact trivial
  | tup l =>
    obtain ⟨vs, hvs, rfl⟩ := hx
    have key : ∀ (l : List (Bool × List AC)) (vs : List Value) (i : Nat), TRs β l vs → ∀ r : Result Next, (∀ u, vs[i]? = some u → r = .ok (.value u) w) →
        NextOK P m β H w (doExtract H (.tup l) i) r := by
      intro l vs i
      induction i generalizing l vs with
      | zero =>
        intro h r hr
        cases l with
        | nil => exact trivial
        | cons c l =>
          cases vs with
          | nil => exact h.elim
          | cons u us =>
            obtain ⟨b, cs⟩ := c
            have h0 := hr u rfl
            cases b with
            | true => exact NextOK.same hR h0 h.1
            | false =>
              match cs, h.1 with
              | [c], hc => exact NextOK.same hR h0 hc
      | succ i ih =>
        intro h r hr
        cases l with
        | nil => exact trivial
        | cons c l =>
          cases vs with
          | nil => exact h.elim
          | cons u us => exact ih l us h.2 r (fun y hy => hr y (by simpa using hy))
    refine key l vs i hvs _ fun u hu => ?_
    simp [Instr.extract, hu]
theorem field_ok (hR : Rel m β H w) {t : TypeId} {f fo : Nat} {ft : TypeId} {n : Nat} {a : Bool} (ht : fieldT P t f = some (fo, ft, n)) (ha : isAggT P ft = some a) {x : AV} {v : Value} (hx : AR β x v) :
    NextOK P m β H w (doField H fo n a x) ((do let y ← Instr.field t v f; pure (Next.value y) : Sem Next).run P w) := by
  obtain ⟨fs, fd, hu, hf, rfl, rfl, hn⟩ := fieldT_ok ht
  cases x with
  | one c => exact trivial
  | tup l => exact trivial
  | any => exact trivial
  | agg l =>
    obtain ⟨vs, hvs, rfl⟩ := hx
    cases a with
    | true =>
      show NextOK P m β H w (guardN (Nat.ble (Nat.add fd.offset n) (lenC l)) "field - part" (.val (.agg (cut l fd.offset n)) H)) _
      refine NextOK.guard fun hc => ?_
      have h1 : fd.offset + n ≤ lenC l := Nat.le_of_ble_eq_true hc
      rw [lenC_eq] at h1
      refine NextOK.same hR (v := .agg ((vs.drop fd.offset).take n).toArray) ?_ ⟨_, ?_, rfl⟩
      · simp [Instr.field, run_underlying hu, hf, asAgg, part, run_isAgg_of ha, run_sizeOf_of hn]
      · rw [cut_eq]; exact (hvs.drop _).take _
    | false =>
      show NextOK P m β H w (nd (nthC fd.offset l) "field - part" fun c => .val (.one c) H) _
      refine NextOK.nd fun c hc => ?_
      rw [nthC_eq] at hc
      have hlt : fd.offset < vs.length := by rw [hvs.length]; exact (List.getElem?_eq_some_iff.1 hc).1
      have hv : vs[fd.offset]? = some vs[fd.offset] := List.getElem?_eq_getElem hlt
      refine NextOK.same hR (v := vs[fd.offset]) ?_ (hvs.get _ c _ hc hv)
      simp [Instr.field, run_underlying hu, hf, asAgg, part, run_isAgg_of ha, hlt]
end
end Go.Eng
namespace Go.Eng
open Go
section
variable {P : Program} {m : Nat} {β : Pl} {H : Hp} {w : World}
theorem src_ok (hR : Rel m β H w) {sz : Nat} {x : AV} {v : Value} (hx : AR β x v) {n : Nat} {c : List AC} (h : srcOf H sz x = some (n, c)) :
    (n = 0 ∧ c = [] ∧ v = .slice none 0 0) ∨ ∃ (o' : Addr) (cap : Nat) (vs : List Value), v = .slice (some o') n cap ∧ vs.length = n * sz ∧ CRs β c vs ∧
      ∀ w' : World, (∀ b, b < w.heap.size → w'.heap[b]? = w.heap[b]?) → ∀ j u, vs[j]? = some u → w'.cell? (o'.add j) = some u := by
  unfold srcOf at h
  split at h
  · rename_i id g off len sz'
    split at h
    · rename_i c' hsz hc'
      cases h
      have hs : sz' = sz := Nat.eq_of_beq_eq_true hsz
      subst hs
      obtain ⟨p, cap, o', hp, hlen, hcap, rfl, hex⟩ := hx
      obtain ⟨cells, hD, h3, h4, rfl⟩ := readAt_ok hc'
      have hr := hD hR hp
      obtain ⟨vs, hvl, hvs, hcell⟩ := row_read hr off (Nat.mul n sz') hlen
      refine .inr ⟨o', cap, vs, rfl, hvl, hvs, fun w' hw' j u hu => ?_⟩
      have hb : p.b < w.heap.size := by obtain ⟨cc, _, _, hcc, _⟩ := hr; exact getElem?_lt hcc
      have hlt := (List.getElem?_eq_some_iff.1 hu).1
      have hj : j < n * sz' := by rw [hvl] at hlt; exact hlt
      have hpos : 0 < n := by
        rcases Nat.eq_zero_or_pos n with h0 | h0
        · rw [h0] at hj; omega
        · exact h0
      have ho' : o' = ⟨p.b, p.o + off, none⟩ := by
        rcases hex with h | h
        · omega
        · exact h.1
      subst ho'
      have := hcell j u hu
      rw [← this]
      have e : ((⟨p.b, p.o + off, none⟩ : Addr).add j).block = p.b := by unfold Addr.add; split <;> rfl
      exact World.cell?_of_block (by rw [e]; exact hw' p.b hb)
    · cases h
  · cases h
    exact .inl ⟨rfl, rfl, hx⟩
  · cases h
theorem run_firstCells_of {sz n : Nat} {o' : Addr} {cap : Nat} {vs : List Value} {w' : World} (hl : vs.length = n * sz) (h : ∀ j u, vs[j]? = some u → w'.cell? (o'.add j) = some u) (len : Nat) :
    (Builtin.firstCells sz n (.slice (some o') len cap)).run P w' = .ok vs.toArray w' := run_firstCells_some (P := P) w' sz n o' len cap vs hl h
theorem row_extend {cells : List AC} {e : TypeId} {p : Place} (h : RowR β w cells e p) {c : List AC} {vs : List Value} (hc : CRs β c vs) {pre : List AC} (k0 : Nat) (hk0 : k0 + pre.length ≤ p.hi) (hpre : pre = (cells.drop k0).take pre.length)
    (hfit : p.o + k0 + pre.length + c.length ≤ p.n) :
    ∃ cur : Array Value, w.heap[p.b]? = some (.cells cur e (0, 0)) ∧ p.o + k0 + pre.length + vs.length ≤ cur.size ∧
      RowR β (w.setRow p.b (cur.toList.take (p.o + k0 + pre.length) ++ vs ++ cur.toList.drop (p.o + k0 + pre.length + vs.length)).toArray) (pre ++ c) e ⟨p.b, p.o + k0, p.n, pre.length + c.length⟩ := by
  obtain ⟨cur, h1, h2, h3, h4, h5⟩ := h
  have hl := hc.length
  refine ⟨cur, h1, by omega, ?_⟩
  have hfit' : p.o + k0 + pre.length + vs.length ≤ cur.toList.length := by simp; omega
  refine ⟨_, setRow_heap w p.b cur _ e _ h1, ?_, ?_, ?_, ?_⟩
  · rw [List.append_assoc, List.size_toArray, splice_len _ _ _ hfit']; simpa using h2
  · show p.o + k0 + (pre.length + c.length) ≤ p.n
    omega
  · show pre.length + c.length ≤ (pre ++ c).length
    simp
  · intro k x hk hx
    have hk' : k < pre.length + c.length := hk
    show ∃ v, (List.toArray (cur.toList.take (p.o + k0 + pre.length) ++ vs ++ cur.toList.drop (p.o + k0 + pre.length + vs.length)))[p.o + k0 + k]? = some v ∧ CR β x v
    rw [List.append_assoc, List.getElem?_toArray, splice_get _ _ _ _ hfit']
    by_cases a1 : k < pre.length
    · rw [List.getElem?_append_left a1] at hx
      rw [if_pos (by omega)]
      have hx' : cells[k0 + k]? = some x := by
        have e1 : ((cells.drop k0).take pre.length)[k]? = some x := by rw [← hpre]; exact hx
        rw [List.getElem?_take, if_pos a1, List.getElem?_drop] at e1
        exact e1
      obtain ⟨v, hv, hr⟩ := h5 (k0 + k) x (by omega) hx'
      exact ⟨v, by rw [Array.getElem?_toList, Nat.add_assoc]; exact hv, hr⟩
    · rw [List.getElem?_append_right (by omega)] at hx
      rw [if_neg (by omega), if_pos (by omega)]
      have hlt : k - pre.length < vs.length := by omega
      refine ⟨vs[k - pre.length], ?_, hc.get _ x _ hx (List.getElem?_eq_getElem hlt)⟩
      rw [show p.o + k0 + k - (p.o + k0 + pre.length) = k - pre.length from by omega, List.getElem?_eq_getElem hlt]
theorem row_fresh {pre c : List AC} {us vs : List Value} (hp : CRs β pre us) (hc : CRs β c vs) (e : TypeId) (tail : Array Value) (w0 : World) (hw : w0.heap = w.heap) :
    RowR β { w0 with heap := w0.heap.push (.cells (us.toArray ++ vs.toArray ++ tail) e) } (pre ++ c) e ⟨w.heap.size, 0, us.length + vs.length + tail.size, pre.length + c.length⟩ := by
  have h1 := hp.length
  have h2 := hc.length
  refine ⟨us.toArray ++ vs.toArray ++ tail, ?_, by simp, ?_, ?_, ?_⟩
  · show (w0.heap.push _)[w.heap.size]? = _
    rw [← hw, Array.getElem?_push_size]
  · show 0 + (pre.length + c.length) ≤ us.length + vs.length + tail.size
    omega
  · show pre.length + c.length ≤ (pre ++ c).length
    simp
  · intro k x hk hx
    have hk' : k < pre.length + c.length := hk
    have hcc := (hp.append hc)
    have hlt : k < (us ++ vs).length := by simp; omega
    refine ⟨(us ++ vs)[k], ?_, hcc.get k x _ hx (List.getElem?_eq_getElem hlt)⟩
    show (us.toArray ++ vs.toArray ++ tail)[0 + k]? = _
    rw [Nat.zero_add, Array.getElem?_append_left (by simp; simp at hlt; omega)]
    rw [← Array.getElem?_toList, Array.toList_append, List.getElem?_eq_getElem]
theorem run_append_at (t ty e : TypeId) (i : TypeInfo) (ht : P.underlying t = some (.slice e)) (hi : P.info? e = some i)
    (g o sLen sCap : Nat) (cur : Array Value) (hg : w.heap[g]? = some (.cells cur e (0, 0)))
    (v : Value) (m : Nat) (news : List Value) (hv : (Builtin.lenOf v).run P w = .ok m w) (hn : (Builtin.firstCells i.size m v).run P w = .ok news.toArray w) (h1 : ∀ u ∈ news, u.oneCell' = true)
    (hroom : sLen + m ≤ sCap) (hfit : o + sLen * i.size + news.length ≤ cur.size) :
    (Builtin.append_ #[t, t] ty #[.slice (some ⟨g, o, none⟩) sLen sCap, v]).run P w =
      .ok (.slice (some ⟨g, o, none⟩) (sLen + m) sCap) (w.setRow g (cur.toList.take (o + sLen * i.size) ++ news ++ cur.toList.drop (o + sLen * i.size + news.length)).toArray) := by
  have hst := run_storeCells_at P g (o + sLen * i.size) e news 0 cur w hg (by simpa using hfit) h1
  simp only [Nat.add_zero] at hst
  simp [Builtin.append_, run_underlying ht, sizeOf, typeInfo, hi, hv, hroom, hn, addr_add, hst]
theorem run_append_new (t ty e : TypeId) (i : TypeInfo) (z : Value) (ht : P.underlying t = some (.slice e)) (hi : P.info? e = some i) (hz : i.zero = some z)
    (s : Option Addr) (sLen sCap : Nat) (olds : List Value) (ho : (Builtin.firstCells i.size sLen (.slice s sLen sCap)).run P w.drew = .ok olds.toArray w.drew)
    (v : Value) (m : Nat) (news : List Value) (hv : (Builtin.lenOf v).run P w = .ok m w) (hn : (Builtin.firstCells i.size m v).run P w.drew = .ok news.toArray w.drew)
    (hg : sCap < sLen + m) (hb : (sLen + m) * i.bytes ≤ 140737488355328) (h63 : sLen + m ≤ 140737488355328) :
    (Builtin.append_ #[t, t] ty #[.slice s sLen sCap, v]).run P w =
      .ok (.slice (some ⟨w.heap.size, 0, none⟩) (sLen + m) (grownCap w (sLen + m) sCap e))
        (w.drew.alloc (.cells (olds.toArray ++ news.toArray ++ Builtin.zeroCells z.cells (grownCap w (sLen + m) sCap e - (sLen + m))) e)) := by
  have hn' : ¬ (sLen + m ≤ sCap) := by omega
  have h63' : ¬ (9223372036854775807 < ((sLen : Int) + (m : Int))) := by omega
  have h48' : ¬ (281474976710656 < Builtin.nextslicecap (sLen + m) sCap * i.bytes) := by have := growslice_fits hg hb; omega
  simp [Builtin.append_, run_underlying ht, sizeOf, typeInfo, zeroValue, hi, hz, hv, hn', h63', h48', Question.forced, hn, ho, Go.newRow, grownCap]
  congr 2
  apply Array.ext'
  simp [List.append_assoc]
theorem row_more {cells : List AC} {e : TypeId} {p : Place} (h : RowR β w cells e p) (c : List AC) : RowR β w (cells ++ c) e p := by
  obtain ⟨cc, r1, r2, r3, r4, r5⟩ := h
  refine ⟨cc, r1, r2, r3, by rw [List.length_append]; omega, fun j y hj hy => ?_⟩
  rw [List.getElem?_append_left (by omega)] at hy
  exact r5 j y hj hy
theorem row_aside {cells : List AC} {e : TypeId} {p q : Place} (h : RowR β w cells e q) {cur : Array Value} (hcur : w.heap[p.b]? = some (.cells cur e (0, 0))) (vs : List Value) (k : Nat) (hk : k + vs.length ≤ cur.size)
    (hq : q.b = p.b → q.o + q.hi ≤ k) : RowR β (w.setRow p.b (cur.toList.take k ++ vs ++ cur.toList.drop (k + vs.length)).toArray) cells e q := by
  obtain ⟨cc, r1, r2, r3, r4, r5⟩ := h
  by_cases hb : q.b = p.b
  · rw [hb, hcur] at r1; cases r1
    have hfit : k + vs.length ≤ cur.toList.length := by simpa using hk
    have hq' := hq hb
    refine ⟨_, by rw [hb]; exact setRow_heap w p.b cur _ e _ hcur, ?_, r3, r4, fun j y hj hy => ?_⟩
    · rw [List.append_assoc, List.size_toArray, splice_len _ _ _ hfit]; simpa using r2
    · obtain ⟨v', hv', hr'⟩ := r5 j y hj hy
      refine ⟨v', ?_, hr'⟩
      rw [List.append_assoc, List.getElem?_toArray, splice_get _ _ _ _ hfit, if_pos (by omega), Array.getElem?_toList]
      exact hv'
  · exact ⟨cc, by rw [setRow_other _ _ _ _ hb]; exact r1, r2, r3, r4, r5⟩
theorem obj_grow {w' : World} {id : Nat} {cells c : List AC} {e : TypeId} {lo gen : Nat} (h : ObjR β w id (.arr cells e lo gen)) {q : Place} (hr : RowR β w' (cells ++ c) e q) (hq : q.hi = (cells ++ c).length)
    (hold : ∀ k p, lo ≤ k → k ≤ gen → β id k = some p → RowR β w' cells e p ∧ (p.b = q.b → p.o = q.o)) : ObjR (plus β id (gen + 1) q) w' id (.arr (cells ++ c) e lo (gen + 1)) := by
  obtain ⟨h1, h2, h3, h4⟩ := h
  have hs : Sub β (plus β id (gen + 1) q) := plus_sub (h4 _ (by omega))
  refine ⟨by omega, ?_, ?_, ?_⟩
  · intro k hk1 hk2
    by_cases hk : k = gen + 1
    · subst hk
      exact ⟨_, plus_same _ _ _ _, RowR.mono hs hr rfl, fun _ => hq⟩
    · obtain ⟨p, hp, _, _⟩ := h2 k hk1 (by omega)
      exact ⟨p, hs _ _ _ hp, RowR.mono hs (row_more (hold k p hk1 (by omega) hp).1 c) rfl, fun h => absurd h hk⟩
  · intro k k' p p' hk1 hk2 hk3 hp hp'
    by_cases hk' : k' = gen + 1
    · subst hk'
      rw [plus_same] at hp'; cases hp'
      by_cases hk : k = gen + 1
      · subst hk; rw [plus_same] at hp; cases hp; exact ⟨Nat.le_refl _, fun _ => rfl⟩
      · rw [plus_other _ _ _ _ (by omega)] at hp
        obtain ⟨r, hr1⟩ := (hold k p hk1 (by omega) hp)
        obtain ⟨cc, _, _, _, r4, _⟩ := r
        exact ⟨by rw [hq, List.length_append]; omega, hr1⟩
    · rw [plus_other _ _ _ _ (by omega)] at hp hp'
      exact h3 k k' p p' hk1 hk2 (by omega) hp hp'
  · intro k hk
    rw [plus_other _ _ _ _ (by omega)]
    exact h4 k (by omega)
theorem obj_fresh {w' : World} {id : Nat} {cells cells' : List AC} {e : TypeId} {lo gen : Nat} (h : ObjR β w id (.arr cells e lo gen)) {q : Place} (hr : RowR β w' cells' e q) (hq : q.hi = cells'.length) :
    ObjR (plus β id (gen + 1) q) w' id (.arr cells' e (gen + 1) (gen + 1)) := by
  obtain ⟨h1, h2, h3, h4⟩ := h
  have hs : Sub β (plus β id (gen + 1) q) := plus_sub (h4 _ (by omega))
  refine ⟨by omega, ?_, ?_, ?_⟩
  · intro k hk1 hk2
    have hk : k = gen + 1 := by omega
    subst hk
    exact ⟨_, plus_same _ _ _ _, RowR.mono hs hr rfl, fun _ => hq⟩
  · intro k k' p p' hk1 hk2 hk3 hp hp'
    have hk : k = gen + 1 := by omega
    have hk' : k' = gen + 1 := by omega
    subst hk; subst hk'
    rw [hp] at hp'; cases hp'
    exact ⟨Nat.le_refl _, fun _ => rfl⟩
  · intro k hk
    rw [plus_other _ _ _ _ (by omega)]
    exact h4 k (by omega)
theorem cells_zero (z : Value) (n : Nat) : (Builtin.zeroCells z.cells n).size = n * z.cells.size := by simp [Builtin.zeroCells]
theorem append_ok (hR : Rel m β H w) (hm : m ≤ m) {t : TypeId} (ty : TypeId) {x y : AV} {v u : Value} (hx : AR β x v) (hy : AR β y u) :
    NextOK P m β H w (doAppend P H t x y) ((do let r ← Builtin.append_ #[t, t] ty #[v, u]; pure (Next.value r) : Sem Next).run P w) := by
  unfold doAppend
  refine NextOK.nd fun es hes => NextOK.nd fun by_ hby => NextOK.nd fun z hz => NextOK.guard fun hg0 => NextOK.nd fun nc hnc => ?_
  obtain ⟨e, sz⟩ := es
  obtain ⟨n, c⟩ := nc
  obtain ⟨hu, hs⟩ := elemT_ok hes
  obtain ⟨ho, hnt, it, hit, hiz⟩ := zeroT_ok hz
  obtain ⟨it2, hit2, hsz⟩ := info_of_size hs
  obtain ⟨it3, hit3, hbs⟩ := info_of_bytes hby
  simp only at hit hit2 hit3
  rw [hit] at hit2 hit3
  cases hit2; cases hit3
  have hzc : CRs β (ofValue z).cells z.cells.toList := (AR_ofValue ho).cells (AR_noTup hnt)
  have hz1 : lenC (ofValue z).cells = sz := Nat.eq_of_beq_eq_true (both_true hg0).2
  have hz2 : sz ≠ 0 := by
    have := (both_true hg0).1
    intro h0
    simp only at this
    rw [h0] at this
    cases this
  have hzs : z.cells.size = it.size := by rw [hsz, ← hz1, lenC_eq]; simpa using hzc.length
  have hsrc := src_ok hR hy hnc
  show NextOK P m β H w (appendTo H e sz by_ n c x) _
  have hun : (Builtin.lenOf u).run P w = .ok n w := by
    rcases hsrc with ⟨rfl, _, rfl⟩ | ⟨o', cap, vs, rfl, _⟩ <;> rfl
  obtain ⟨vs, hvl, hcs, hfirst⟩ : ∃ vs : List Value, vs.length = n * sz ∧ CRs β c vs ∧ ∀ w' : World, (∀ b, b < w.heap.size → w'.heap[b]? = w.heap[b]?) → (Builtin.firstCells it.size n u).run P w' = .ok vs.toArray w' := by
    rcases hsrc with ⟨rfl, rfl, rfl⟩ | ⟨o', cap, vs, rfl, h1, h2, h3⟩
    · exact ⟨[], by simp, trivial, fun w' _ => by simp [Builtin.firstCells]⟩
    · exact ⟨vs, h1, h2, fun w' hw' => run_firstCells_of (by rw [hsz]; exact h1) (h3 w' hw') _⟩
  have hcl : c.length = n * sz := by rw [← hvl]; exact hcs.length.symm
  unfold appendTo
  split
  · -- onto nil
    have hx' : v = .slice none 0 0 := hx
    subst hx'
    rw [ifE_eq]
    split
    · rename_i h0
      have hn0 : n = 0 := Nat.eq_of_beq_eq_true h0
      subst hn0
      have hz0 : (Builtin.firstCells it.size 0 u).run P w = .ok #[] w := by
        have := hfirst w (fun _ _ => rfl)
        have hv0 : vs = [] := List.eq_nil_of_length_eq_zero (by simpa using hvl)
        rw [hv0] at this
        exact this
      refine NextOK.same hR (v := .slice none 0 0) ?_ rfl
      simp [Builtin.append_, run_underlying hu, sizeOf, typeInfo, hit, hun, hz0]
    · rename_i h0
      have hn0 : n ≠ 0 := fun h => h0 (by rw [h]; rfl)
      refine NextOK.guard fun hb => ?_
      have hb1 : n ≤ 140737488355328 := Nat.le_of_ble_eq_true (both_true hb).1
      have hb2 : n * by_ ≤ 140737488355328 := Nat.le_of_ble_eq_true (both_true hb).2
      intro hnx
      have hnx' : H.nx + 1 ≤ m := hnx
      have hrun := run_append_new (P := P) (w := w) t ty e it z hu hit hiz none 0 0 [] (by simp [Builtin.firstCells]) u n vs hun (hfirst w.drew (fun _ _ => rfl)) (by omega) (by rw [hbs]; simpa using hb2) (by omega)
      simp only [Nat.zero_add, Array.empty_append] at hrun
      have hnew := rel_row hR hm (by omega) c vs.toArray e (by simpa using hcs) w.drew rfl rfl rfl rfl (Builtin.zeroCells z.cells (grownCap w n 0 e - n))
      refine ⟨_, _, .inl (by simp only [Sem.run_bind, hrun, Result.andThen_ok]; rfl), Out.one ?_ hnew⟩
      refine ⟨_, grownCap w n 0 e, _, plus_same _ _ _ _, ?_, grownCap_ge w n 0 e, rfl, .inr ⟨rfl, ?_⟩⟩
      · show 0 + n * sz ≤ c.length
        omega
      · show 0 + 0 + grownCap w n 0 e * sz ≤ vs.toArray.size + (Builtin.zeroCells z.cells _).size
        have hge := grownCap_ge w n 0 e
        rw [cells_zero, hzs, hsz, List.size_toArray, hvl, ← Nat.add_mul]
        have : n + (grownCap w n 0 e - n) = grownCap w n 0 e := by omega
        rw [this]
        omega
  · -- onto a row
    rename_i id g off len sz'
    obtain ⟨p, cap, o', hp, hlen, hcap, rfl, hex⟩ := hx
    unfold arrE
    cases hob : H.get id with
    | none => exact trivial
    | some ob =>
      cases ob with
      | oth q => exact trivial
      | ro q => exact trivial
      | arr cells e' lo gen =>
        refine NextOK.guard fun hc => ?_
        have c1 : sz' = sz := Nat.eq_of_beq_eq_true (both_true hc).1
        have c2 : e' = e := Nat.eq_of_beq_eq_true (both_true (both_true hc).2).1
        have c3 : lo ≤ g := Nat.le_of_ble_eq_true (both_true (both_true (both_true hc).2).2).1
        have c4 : g ≤ gen := Nat.le_of_ble_eq_true (both_true (both_true (both_true (both_true hc).2).2).2).1
        have c5 : off + len * sz ≤ lenC cells := Nat.le_of_ble_eq_true (both_true (both_true (both_true (both_true (both_true hc).2).2).2).2).1
        have c6 : len + n ≤ 140737488355328 := Nat.le_of_ble_eq_true (both_true (both_true (both_true (both_true (both_true (both_true hc).2).2).2).2).2).1
        have c7 : (len + n) * by_ ≤ 140737488355328 := Nat.le_of_ble_eq_true (both_true (both_true (both_true (both_true (both_true (both_true hc).2).2).2).2).2).2
        subst c1 c2
        rw [lenC_eq] at c5
        rw [ifE_eq]
        split
        · -- nothing is appended
          rename_i h0
          have hn0 : n = 0 := Nat.eq_of_beq_eq_true h0
          subst hn0
          have hz0 : (Builtin.firstCells it.size 0 u).run P w = .ok #[] w := by
            have := hfirst w (fun _ _ => rfl)
            have hv0 : vs = [] := List.eq_nil_of_length_eq_zero (by simpa using hvl)
            rw [hv0] at this
            exact this
          refine NextOK.same hR (v := .slice (some o') len cap) ?_ ⟨p, cap, o', hp, hlen, hcap, rfl, hex⟩
          simp [Builtin.append_, run_underlying hu, sizeOf, typeInfo, hit, hun, hcap, hz0, storeCells]
        · rename_i h0
          have hn0 : n ≠ 0 := fun h => h0 (by rw [h]; rfl)
          obtain ⟨hrow, hhi⟩ := obj_row hR hob c3 c4 hp
          have hgenp : ∃ pg, β id gen = some pg ∧ RowR β w cells e' pg ∧ pg.hi = cells.length := by
            obtain ⟨hle, hrows, _, _⟩ := hR.obj id _ hob
            obtain ⟨q, hq, hr, hh⟩ := hrows gen (by omega) (Nat.le_refl _)
            exact ⟨q, hq, hr, hh rfl⟩
          obtain ⟨us, hul, hus, hucell⟩ := row_read hrow.d off (len * sz') hlen
          have hpre : (cut cells off (Nat.mul len sz')).length = len * sz' := by rw [← hul, cut_eq]; exact hus.length.symm
          have hnew : β id (gen + 1) = none := (hR.obj id _ hob).2.2.2 (gen + 1) (by omega)
          have hsub : ∀ q, Sub β (plus β id (gen + 1) q) := fun q => plus_sub hnew
          have hways : (∃ cur : Array Value, len + n ≤ cap ∧ o' = ⟨p.b, p.o + off, none⟩ ∧ p.o + off + len * sz' + c.length ≤ p.n ∧ w.heap[p.b]? = some (.cells cur e' (0, 0)) ∧ p.o + off + len * sz' + vs.length ≤ cur.size ∧
              (Builtin.append_ #[t, t] ty #[.slice (some o') len cap, u]).run P w = .ok (.slice (some ⟨p.b, p.o + off, none⟩) (len + n) cap) (w.setRow p.b (cur.toList.take (p.o + off + len * sz') ++ vs ++ cur.toList.drop (p.o + off + len * sz' + vs.length)).toArray) ∧ p.o + off + cap * sz' ≤ p.n) ∨
              (cap < len + n ∧ ∃ (tail : Array Value) (ncap : Nat), len + n ≤ ncap ∧ us.length + vs.length + tail.size = ncap * sz' ∧
                (Builtin.append_ #[t, t] ty #[.slice (some o') len cap, u]).run P w = .ok (.slice (some ⟨w.heap.size, 0, none⟩) (len + n) ncap) (w.drew.alloc (.cells (us.toArray ++ vs.toArray ++ tail) e'))) := by
            by_cases hroom : len + n ≤ cap
            · left
              have hex' : o' = ⟨p.b, p.o + off, none⟩ ∧ p.o + off + cap * sz' ≤ p.n := by
                rcases hex with h | h
                · omega
                · exact h
              have hmul : (len + n) * sz' ≤ cap * sz' := Nat.mul_le_mul_right _ hroom
              rw [Nat.add_mul] at hmul
              obtain ⟨cur, h1, h2, h3, h4, h5⟩ := hrow
              have hfit : p.o + off + len * sz' + vs.length ≤ cur.size := by omega
              have hrun := run_append_at (P := P) (w := w) t ty e' it hu hit p.b (p.o + off) len cap cur h1 u n vs hun (hfirst w (fun _ _ => rfl)) hcs.oneCell hroom (by rw [hsz]; exact hfit)
              rw [hsz] at hrun
              rw [hex'.1]
              exact ⟨cur, hroom, rfl, by omega, h1, hfit, hrun, hex'.2⟩
            · right
              refine ⟨by omega, Builtin.zeroCells z.cells (grownCap w (len + n) cap e' - (len + n)), grownCap w (len + n) cap e', grownCap_ge w (len + n) cap e', ?_, ?_⟩
              · have hge := grownCap_ge w (len + n) cap e'
                rw [cells_zero, hzs, hsz, hul, hvl, ← Nat.add_mul, ← Nat.add_mul]
                congr 1
                omega
              · have hold : (Builtin.firstCells it.size len (.slice (some o') len cap)).run P w.drew = .ok us.toArray w.drew := by
                  refine run_firstCells_of (by rw [hsz]; exact hul) (fun j q hj => ?_) len
                  have hlt := (List.getElem?_eq_some_iff.1 hj).1
                  have ho' : o' = ⟨p.b, p.o + off, none⟩ := by
                    rcases hex with h | h
                    · have h0' : len = 0 := by omega
                      rw [hul, h0'] at hlt
                      omega
                    · exact h.1
                  rw [ho']
                  exact hucell j q hj
                exact run_append_new (P := P) (w := w) t ty e' it z hu hit hiz (some o') len cap us hold u n vs hun (hfirst w.drew (fun _ _ => rfl)) (by omega) (by rw [hbs]; exact c7) (by omega)
          have hcell' : cut cells off (Nat.mul len sz') = (cells.drop off).take (cut cells off (Nat.mul len sz')).length := by rw [hpre, cut_eq]; rfl
          rw [ifE_eq]
          split
          · -- at the row's end
            rename_i hend
            have d1 : g = gen := Nat.eq_of_beq_eq_true (both_true hend).1
            have d2 : off = 0 := Nat.eq_of_beq_eq_true (both_true (both_true hend).2).1
            have d3 : len * sz' = lenC cells := Nat.eq_of_beq_eq_true (both_true (both_true hend).2).2
            rw [lenC_eq] at d3
            subst d1 d2
            intro hnx
            have hcut : cut cells 0 (Nat.mul len sz') = cells := by
              rw [cut_eq, List.drop_zero]
              exact List.take_of_length_le (by show cells.length ≤ len * sz'; omega)
            rw [hcut] at hpre hcell'
            have hus' : CRs β cells us := by
              have := hus
              rw [List.drop_zero, List.take_of_length_le (by omega)] at this
              exact this
            rw [appC_eq]
            have hhi' := hhi rfl
            rcases hways with ⟨cur, w1, w2, w3, w4, w5, w6, w7⟩ | ⟨w1, tail, ncap, w2, w3, w4⟩
            · -- in place
              obtain ⟨cur', hcur', _, hrow'⟩ := row_extend hrow hcs (pre := cells) 0 (by omega) (by rw [List.drop_zero, List.take_length]) (by omega)
              rw [w4] at hcur'; cases hcur'
              simp only [Nat.add_zero] at hrow' w6 w2 w3 w7
              rw [show len * sz' = cells.length from d3] at w6
              have hmod := rel_mod hR hm hnx hob (.arr (cells ++ c) e' lo (g + 1)) (β' := plus β id (g + 1) ⟨p.b, p.o, p.n, cells.length + c.length⟩) (w' := w.setRow p.b (cur.toList.take (p.o + cells.length) ++ vs ++ cur.toList.drop (p.o + cells.length + vs.length)).toArray)
                (hsub _) (fun i hi k => plus_other _ _ _ _ (fun h => hi h.1)) (by simp) (by simp) (by simp) (by simp)
                (fun b _ hb => setRow_other w p.b b _ (fun hh => hb g p ⟨c3, Nat.le_refl _⟩ hp hh.symm))
                (obj_grow (hR.obj id _ hob) hrow' (by simp) fun k q hk1 hk2 hq => by
                  have hmono := (hR.obj id _ hob).2.2.1 k g q p hk1 hk2 (Nat.le_refl _) hq hp
                  obtain ⟨hr, _⟩ := obj_row hR hob hk1 hk2 hq
                  exact ⟨row_aside hr w4 vs _ (by omega) (fun hb => by rw [hmono.2 hb]; omega), hmono.2⟩)
                (fun k q hk hq => .inr (by
                  by_cases hk' : k = g + 1
                  · subst hk'; rw [plus_same] at hq; cases hq
                    exact ⟨g, p, ⟨c3, Nat.le_refl _⟩, hp, rfl⟩
                  · rw [plus_other _ _ _ _ (by omega)] at hq
                    exact ⟨k, q, ⟨hk.1, by have := hk.2; omega⟩, hq, rfl⟩))
              refine ⟨_, _, .inl (by simp only [Sem.run_bind, w6, Result.andThen_ok]; rfl), Out.one ?_ hmod⟩
              refine ⟨_, cap, _, plus_same _ _ _ _, ?_, w1, rfl, .inr ⟨rfl, ?_⟩⟩
              · show 0 + (len + n) * sz' ≤ cells.length + c.length
                rw [Nat.add_mul]; omega
              · show p.o + 0 + cap * sz' ≤ p.n
                omega
            · -- in new memory
              have hrow' := row_fresh (w := w) hus' hcs e' tail w.drew rfl
              have hmod := rel_mod hR hm hnx hob (.arr (cells ++ c) e' lo (g + 1)) (β' := plus β id (g + 1) ⟨w.heap.size, 0, us.length + vs.length + tail.size, cells.length + c.length⟩) (w' := w.drew.alloc (.cells (us.toArray ++ vs.toArray ++ tail) e'))
                (hsub _) (fun i hi k => plus_other _ _ _ _ (fun h => hi h.1)) (by simp) rfl rfl rfl
                (fun b hb _ => RowKit.Below.heap_alloc w.drew _ b hb)
                (obj_grow (hR.obj id _ hob) hrow' (by simp) fun k q hk1 hk2 hq => by
                  obtain ⟨hr, _⟩ := obj_row hR hob hk1 hk2 hq
                  have hlt : q.b < w.heap.size := by obtain ⟨cc, hcc, _⟩ := hr; exact getElem?_lt hcc
                  exact ⟨RowR.mono (fun _ _ _ h => h) hr (RowKit.Below.heap_alloc w.drew _ _ hlt), fun hb => by have hb' : q.b = w.heap.size := hb; omega⟩)
                (fun k q hk hq => by
                  by_cases hk' : k = g + 1
                  · subst hk'; rw [plus_same] at hq; cases hq
                    exact .inl (Nat.le_refl _)
                  · rw [plus_other _ _ _ _ (by omega)] at hq
                    exact .inr ⟨k, q, ⟨hk.1, by have := hk.2; omega⟩, hq, rfl⟩)
              refine ⟨_, _, .inl (by simp only [Sem.run_bind, w4, Result.andThen_ok]; rfl), Out.one ?_ hmod⟩
              refine ⟨_, ncap, _, plus_same _ _ _ _, ?_, w2, rfl, .inr ⟨rfl, ?_⟩⟩
              · show 0 + (len + n) * sz' ≤ cells.length + c.length
                rw [Nat.add_mul]; omega
              · show 0 + 0 + ncap * sz' ≤ us.length + vs.length + tail.size
                omega
          · -- elsewhere: the new slice alone is known
            intro hnx
            obtain ⟨pg, hpg, hrowg, hhig⟩ := hgenp
            have hus' : CRs β (cut cells off (Nat.mul len sz')) us := by rw [cut_eq]; exact hus
            rw [appC_eq]
            rcases hways with ⟨cur, w1, w2, w3, w4, w5, w6, w7⟩ | ⟨w1, tail, ncap, w2, w3, w4⟩
            · obtain ⟨cur', hcur', _, hrow'⟩ := row_extend hrow hcs (pre := cut cells off (Nat.mul len sz')) off (by omega) hcell' (by omega)
              rw [w4] at hcur'; cases hcur'
              rw [hpre] at hrow'
              have hmod := rel_mod hR hm hnx hob (.arr (cut cells off (Nat.mul len sz') ++ c) e' (gen + 1) (gen + 1)) (β' := plus β id (gen + 1) ⟨p.b, p.o + off, p.n, len * sz' + c.length⟩)
                (w' := w.setRow p.b (cur.toList.take (p.o + off + len * sz') ++ vs ++ cur.toList.drop (p.o + off + len * sz' + vs.length)).toArray)
                (hsub _) (fun i hi k => plus_other _ _ _ _ (fun h => hi h.1)) (by simp) (by simp) (by simp) (by simp)
                (fun b _ hb => setRow_other w p.b b _ (fun hh => hb g p ⟨c3, c4⟩ hp hh.symm))
                (obj_fresh (hR.obj id _ hob) hrow' (by rw [List.length_append, hpre]))
                (fun k q hk hq => .inr (by
                  have hk' : k = gen + 1 := by have := hk.1; have := hk.2; omega
                  subst hk'; rw [plus_same] at hq; cases hq
                  exact ⟨g, p, ⟨c3, c4⟩, hp, rfl⟩))
              refine ⟨_, _, .inl (by simp only [Sem.run_bind, w6, Result.andThen_ok]; rfl), Out.one ?_ hmod⟩
              refine ⟨_, cap, _, plus_same _ _ _ _, ?_, w1, rfl, .inr ⟨rfl, ?_⟩⟩
              · show 0 + (len + n) * sz' ≤ len * sz' + c.length
                rw [Nat.add_mul]; omega
              · show p.o + off + 0 + cap * sz' ≤ p.n
                omega
            · have hrow' := row_fresh (w := w) hus' hcs e' tail w.drew rfl
              have hmod := rel_mod hR hm hnx hob (.arr (cut cells off (Nat.mul len sz') ++ c) e' (gen + 1) (gen + 1)) (β' := plus β id (gen + 1) ⟨w.heap.size, 0, us.length + vs.length + tail.size, (cut cells off (Nat.mul len sz')).length + c.length⟩)
                (w' := w.drew.alloc (.cells (us.toArray ++ vs.toArray ++ tail) e'))
                (hsub _) (fun i hi k => plus_other _ _ _ _ (fun h => hi h.1)) (by simp) rfl rfl rfl
                (fun b hb _ => RowKit.Below.heap_alloc w.drew _ b hb)
                (obj_fresh (hR.obj id _ hob) hrow' (by rw [List.length_append]))
                (fun k q hk hq => .inl (by
                  have hk' : k = gen + 1 := by have := hk.1; have := hk.2; omega
                  subst hk'; rw [plus_same] at hq; cases hq
                  exact Nat.le_refl _))
              refine ⟨_, _, .inl (by simp only [Sem.run_bind, w4, Result.andThen_ok]; rfl), Out.one ?_ hmod⟩
              refine ⟨_, ncap, _, plus_same _ _ _ _, ?_, w2, rfl, .inr ⟨rfl, ?_⟩⟩
              · show 0 + (len + n) * sz' ≤ (cut cells off (Nat.mul len sz')).length + c.length
                rw [Nat.add_mul]; omega
              · show 0 + 0 + ncap * sz' ≤ us.length + vs.length + tail.size
                omega
  · exact trivial
end
end Go.Eng
namespace Go.Eng
open Go
section
variable {P : Program} {m : Nat} {β : Pl} {H : Hp} {w : World}
theorem plain_ok (hR : Rel m β H w) {tm : PT AV} {a : Act} (htm : ∀ t, AR β (optE (tm.get t) undefA fun v => v) (a.tmps.getD t undef)) (o : Oper) (hs : ∀ cs b, o.op ≠ .select cs b) :
    NextOK P m β H w (plainOp P tm H o) ((execOp a.eval o).run P w) := by
  unfold plainOp
  refine NextOK.guard fun hg => ?_
  have he : execOp (fun x => valD (ev tm x)) o = execOp a.eval o := by
    refine execOp_congr o hs fun x hx => ?_
    have h1 := List.all_eq_true.1 hg x (by simpa using hx)
    have h2 := ev_ok htm x
    cases hv : (ev tm x).val? with
    | none => rw [hv] at h1; cases h1
    | some v =>
      show valD (ev tm x) = _
      unfold valD
      rw [hv]
      exact (AV.val?_ok hv h2).symm
  rw [he]
  split
  · rename_i v hv
    refine NextOK.guard fun hk => ?_
    exact NextOK.same hR (pureRun_ok hv w) (AR_ofValue hk)
  · exact trivial
theorem iLe_eq (a b : Int) : iLe a b = decide (a ≤ b) := by
  cases a with
  | ofNat m =>
    cases b with
    | ofNat n =>
      show Nat.ble m n = _
      rw [Bool.eq_iff_iff]
      simp
    | negSucc n =>
      show false = _
      symm
      rw [decide_eq_false_iff_not, Int.ofNat_eq_natCast]
      omega
  | negSucc m =>
    cases b with
    | ofNat n =>
      show true = _
      symm
      rw [decide_eq_true_eq, Int.ofNat_eq_natCast]
      omega
    | negSucc n =>
      show Nat.ble n m = _
      rw [Bool.eq_iff_iff]
      simp
      omega
theorem iEq_eq (a b : Int) : iEq a b = (a == b) := by
  cases a with
  | ofNat m =>
    cases b with
    | ofNat n =>
      show Nat.beq m n = _
      rw [Bool.eq_iff_iff, Nat.beq_eq, beq_iff_eq]
      exact ⟨fun h => by rw [h], fun h => Int.ofNat.inj h⟩
    | negSucc n =>
      show false = _
      symm
      rw [beq_eq_false_iff_ne, Int.ofNat_eq_natCast]
      omega
  | negSucc m =>
    cases b with
    | ofNat n =>
      show false = _
      symm
      rw [beq_eq_false_iff_ne, Int.ofNat_eq_natCast]
      omega
    | negSucc n =>
      show Nat.beq m n = _
      rw [Bool.eq_iff_iff, Nat.beq_eq, beq_iff_eq]
      exact ⟨fun h => by rw [h], fun h => Int.negSucc.inj h⟩
theorem sameKind_eq {a b : IntKind} (h : sameKind a b = true) : a = b := by
  cases a <;> cases b <;> first | rfl | cases h
theorem wrapQ_eq (k : IntKind) (n : Int) : wrapQ k n = k.wrap n := by
  unfold wrapQ
  rw [ifE_eq]
  split
  · rename_i hk
    have hk' : k = .i64 := by cases k <;> first | rfl | cases hk
    subst hk'
    cases n with
    | ofNat m =>
      show ifE (Nat.ble 9223372036854775808 m) _ _ = _
      rw [ifE_eq]
      split
      · rfl
      · rename_i h
        have h' : m < 9223372036854775808 := by
          rcases Nat.lt_or_ge m 9223372036854775808 with h1 | h1
          · exact h1
          · exact absurd (Nat.ble_eq_true_of_le h1) h
        rw [IntKind.wrap_i64]
        have e : Int.ofNat m = (m : Int) := rfl
        rw [e]
        omega
    | negSucc m =>
      show ifE (Nat.ble 9223372036854775808 m) _ _ = _
      rw [ifE_eq]
      split
      · rfl
      · rename_i h
        have h' : m < 9223372036854775808 := by
          rcases Nat.lt_or_ge m 9223372036854775808 with h1 | h1
          · exact h1
          · exact absurd (Nat.ble_eq_true_of_le h1) h
        rw [IntKind.wrap_i64]
        omega
  · rfl
theorem bEq_eq (a b : UInt8) : bEq a b = (a == b) := by
  rw [Bool.eq_iff_iff, beq_iff_eq]
  unfold bEq
  rw [Nat.beq_eq]
  exact ⟨fun h => UInt8.toNat_inj.1 h, fun h => by rw [h]⟩
theorem lEq_eq : ∀ (x y : List UInt8), lEq x y = (x == y)
  | [], [] => rfl
  | [], _ :: _ => rfl
  | _ :: _, [] => rfl
  | a :: x, b :: y => by
    show both (bEq a b) (lEq x y) = _
    rw [both_eq, bEq_eq, lEq_eq x y]
    rfl
theorem lLess_eq : ∀ (x y : List UInt8), lLess x y = Op.bytesLess x y
  | [], [] => rfl
  | [], _ :: _ => rfl
  | _ :: _, [] => rfl
  | a :: x, b :: y => by
    show ifE (Nat.blt a.toNat b.toNat) true (both (bEq a b) (lLess x y)) = (decide (a < b) || (a == b && Op.bytesLess x y))
    rw [ifE_eq, both_eq, bEq_eq, lLess_eq x y]
    have : Nat.blt a.toNat b.toNat = decide (a < b) := by
      rw [Bool.eq_iff_iff, decide_eq_true_eq, UInt8.lt_iff_toNat_lt]
      exact ⟨fun h => Nat.le_of_ble_eq_true h, fun h => Nat.ble_eq_true_of_le h⟩
    rw [this]
    cases decide (a < b) <;> rfl
theorem run_eqGuard (op : BinOp) (t : TypeId) (x y : Operand) (a b : Value) (h1 : a ≠ .nilIface) (h2 : ∀ cs, a ≠ .agg cs) : (eqGuard op t x y a b).run P w = .ok () w := by
  unfold eqGuard
  cases a <;> first | exact absurd rfl h1 | exact absurd rfl (h2 _) | (cases op <;> rfl)
theorem not_le_dec (a b : Int) : decide (a < b) = !decide (b ≤ a) := by
  rw [Bool.eq_iff_iff]
  simp
theorem intBin_ok (hR : Rel m β H w) {op : BinOp} {t : TypeId} {x y : Operand} {k k' : IntKind} {a b : Int} {alt : ANext}
    (halt : NextOK P m β H w alt ((do let z ← (do eqGuard op t x y (.int k a) (.int k' b); binOp op t (.int k a) (.int k' b)); pure (Next.value z) : Sem Next).run P w)) :
    NextOK P m β H w (doBinInt H (binF op) k a k' b alt) ((do let z ← (do eqGuard op t x y (.int k a) (.int k' b); binOp op t (.int k a) (.int k' b)); pure (Next.value z) : Sem Next).run P w) := by
  unfold doBinInt
  rw [ifE_eq]
  split
  · rename_i hk
    have hk := sameKind_eq hk
    subst hk
    have hg := run_eqGuard (P := P) (w := w) op t x y (.int k a) (.int k b) (by simp) (by simp)
    cases op <;> first
      | exact halt
      | (refine NextOK.same hR (v := .int k (wrapQ k _)) ?_ rfl
         rw [wrapQ_eq]
         simp only [Sem.run_bind, hg, Result.andThen_ok]
         simp [binOp, Op.intArith]
         try rfl)
      | (refine NextOK.same hR (v := .bool _) ?_ rfl
         simp only [Sem.run_bind, hg, Result.andThen_ok]
         simp [binOp, Op.intCmp, iLe_eq, iEq_eq]
         try first | rfl | exact not_le_dec _ _)
  · exact halt
theorem strBin_ok (hR : Rel m β H w) {op : BinOp} {t : TypeId} {x y : Operand} {a b : List UInt8} {alt : ANext}
    (halt : NextOK P m β H w alt ((do let z ← (do eqGuard op t x y (.string ⟨a.toArray⟩) (.string ⟨b.toArray⟩); binOp op t (.string ⟨a.toArray⟩) (.string ⟨b.toArray⟩)); pure (Next.value z) : Sem Next).run P w)) :
    NextOK P m β H w (optE (strF op) alt fun f => .val (.one (.b (f a b))) H)
      ((do let z ← (do eqGuard op t x y (.string ⟨a.toArray⟩) (.string ⟨b.toArray⟩); binOp op t (.string ⟨a.toArray⟩) (.string ⟨b.toArray⟩)); pure (Next.value z) : Sem Next).run P w) := by
  have hg := run_eqGuard (P := P) (w := w) op t x y (.string ⟨a.toArray⟩) (.string ⟨b.toArray⟩) (by simp) (by simp)
  cases op <;> first
    | exact halt
    | (refine NextOK.same hR (v := .bool _) ?_ rfl
       simp only [Sem.run_bind, hg, Result.andThen_ok]
       simp [binOp, Op.stringOp, lEq_eq, lLess_eq]
       try rfl)
def Aof (k : Nat) (v : Value) : Prop :=
  match k with
  | 0 => ∃ a, v = .pointer (some a)
  | 1 => ∃ a n c, v = .slice (some a) n c
  | 2 => ∃ b, v = .map (some b)
  | 3 => ∃ f c, v = .func f #[] c
  | _ => True
def Nof (k : Nat) (v : Value) : Prop :=
  match k with
  | 0 => v = .pointer none
  | 1 => v = .slice none 0 0
  | 2 => v = .map none
  | 3 => v = .nilFunc
  | _ => True
theorem isAddr_ok {x : AO} {v : Value} (hx : CRO β x v) : Aof (isAddr x) v := by
  cases x <;> first
    | exact trivial
    | (obtain ⟨p, _, _, h⟩ := hx; exact ⟨_, h⟩)
    | (obtain ⟨p, _, _, _, _, _, h, _⟩ := hx; exact ⟨_, _, _, h⟩)
    | (obtain ⟨p, _, h⟩ := hx; exact ⟨_, h⟩)
    | (obtain ⟨cs, h, _⟩ := hx; exact ⟨_, _, h⟩)
theorem isNilP_ok {x : AO} {v : Value} (hx : CRO β x v) : Nof (isNilP x) v := by
  cases x <;> first | exact trivial | exact hx
theorem addrT_ok {t : TypeId} :
    match addrT P t with
    | 0 => ∃ e, P.underlying t = some (.pointer e)
    | 1 => ∃ e, P.underlying t = some (.slice e)
    | 2 => ∃ k e, P.underlying t = some (.map k e)
    | 3 => ∃ a b c, P.underlying t = some (.func a b c)
    | _ => True := by
  unfold addrT
  cases P.underlying t with
  | none => exact trivial
  | some d => cases d <;> first | exact trivial | exact ⟨_, rfl⟩ | exact ⟨_, _, rfl⟩ | exact ⟨_, _, _, rfl⟩
theorem run_equalIn_nil (d : Nat) {t : TypeId} {k : Nat} (hk : addrT P t = k) (h4 : k < 4) {v u : Value} (h : (Aof k v ∧ Nof k u) ∨ (Nof k v ∧ Aof k u)) : (Op.equalIn (d + 1) t v u).run P w = .ok false w := by
  have ht := addrT_ok (P := P) (t := t)
  rw [hk] at ht
  match k, h4 with
  | 0, _ =>
    obtain ⟨e, ht⟩ := ht
    rcases h with ⟨⟨a, rfl⟩, h⟩ | ⟨h, ⟨a, rfl⟩⟩ <;> cases h <;> simp [Op.equalIn, run_underlying ht]
  | 1, _ =>
    obtain ⟨e, ht⟩ := ht
    rcases h with ⟨⟨a, n, c, rfl⟩, h⟩ | ⟨h, ⟨a, n, c, rfl⟩⟩ <;> cases h <;> simp [Op.equalIn, run_underlying ht]
  | 2, _ =>
    obtain ⟨e, e', ht⟩ := ht
    rcases h with ⟨⟨a, rfl⟩, h⟩ | ⟨h, ⟨a, rfl⟩⟩ <;> cases h <;> simp [Op.equalIn, run_underlying ht]
  | 3, _ =>
    obtain ⟨e, e', e'', ht⟩ := ht
    rcases h with ⟨⟨a, c, rfl⟩, h⟩ | ⟨h, ⟨a, c, rfl⟩⟩ <;> cases h <;> simp [Op.equalIn, run_underlying ht]
theorem addr_plain {t : TypeId} {k : Nat} (h4 : k < 4) {v u : Value} (h : (Aof k v ∧ Nof k u) ∨ (Nof k v ∧ Aof k u)) :
    v ≠ .nilIface ∧ (∀ cs, v ≠ .agg cs) ∧ binOp .eql t v u = (do let z ← Op.equal t v u; pure (.bool z)) ∧ binOp .neq t v u = (do let z ← Op.equal t v u; pure (.bool (!z))) := by
  match k, h4 with
  | 0, _ => rcases h with ⟨⟨a, rfl⟩, h⟩ | ⟨h, ⟨a, rfl⟩⟩ <;> cases h <;> exact ⟨by simp, by simp, rfl, rfl⟩
  | 1, _ => rcases h with ⟨⟨a, n, c, rfl⟩, h⟩ | ⟨h, ⟨a, n, c, rfl⟩⟩ <;> cases h <;> exact ⟨by simp, by simp, rfl, rfl⟩
  | 2, _ => rcases h with ⟨⟨a, rfl⟩, h⟩ | ⟨h, ⟨a, rfl⟩⟩ <;> cases h <;> exact ⟨by simp, by simp, rfl, rfl⟩
  | 3, _ => rcases h with ⟨⟨a, c, rfl⟩, h⟩ | ⟨h, ⟨a, c, rfl⟩⟩ <;> cases h <;> exact ⟨by simp, by simp, rfl, rfl⟩
theorem nilEq_ok {t : TypeId} {x y : AV} {v u : Value} (hx : AR β x v) (hy : AR β y u) {b : Bool} (h : nilEq (addrT P t) x y = some b) :
    b = false ∧ addrT P t < 4 ∧ ((Aof (addrT P t) v ∧ Nof (addrT P t) u) ∨ (Nof (addrT P t) v ∧ Aof (addrT P t) u)) := by
  unfold nilEq at h
  split at h
  · rename_i a b'
    cases hc : (Nat.blt (addrT P t) 4 && ((Nat.beq (isAddr a) (addrT P t) && Nat.beq (isNilP b') (addrT P t)) || (Nat.beq (isNilP a) (addrT P t) && Nat.beq (isAddr b') (addrT P t)))) with
    | false => rw [hc] at h; cases h
    | true =>
      rw [hc] at h
      cases h
      simp only [Bool.and_eq_true, Bool.or_eq_true] at hc
      refine ⟨rfl, Nat.le_of_ble_eq_true hc.1, ?_⟩
      rcases hc.2 with ⟨h1, h2⟩ | ⟨h1, h2⟩
      · have a1 := Nat.eq_of_beq_eq_true h1
        have a2 := Nat.eq_of_beq_eq_true h2
        exact .inl ⟨by rw [← a1]; exact isAddr_ok hx, by rw [← a2]; exact isNilP_ok hy⟩
      · have a1 := Nat.eq_of_beq_eq_true h1
        have a2 := Nat.eq_of_beq_eq_true h2
        exact .inr ⟨by rw [← a1]; exact isNilP_ok hx, by rw [← a2]; exact isAddr_ok hy⟩
  · cases h
theorem bin_ok (hR : Rel m β H w) {op : BinOp} {t : TypeId} {x y : Operand} {a b : AV} {v u : Value} (hx : AR β a v) (hy : AR β b u) {alt : ANext}
    (halt : NextOK P m β H w alt ((do let z ← (do eqGuard op t x y v u; binOp op t v u); pure (Next.value z) : Sem Next).run P w)) :
    NextOK P m β H w (doBin H (addrT P t) op (binF op) a b alt) ((do let z ← (do eqGuard op t x y v u; binOp op t v u); pure (Next.value z) : Sem Next).run P w) := by
  cases a with
  | agg _ => exact halt
  | tup _ => exact halt
  | any => exact halt
  | one c =>
    cases c with
    | b _ => exact halt
    | i k n =>
      show NextOK P m β H w (intE b alt fun k' b' => doBinInt H (binF op) k n k' b' alt) _
      refine intE_ok hy halt fun k' n' hu => ?_
      have hv : v = .int k n := hx
      subst hu hv
      exact intBin_ok hR halt
    | o q =>
      show NextOK P m β H w (doBinStr H (addrT P t) op (.one (.o q)) b alt) _
      unfold doBinStr
      refine strE_ok hx ?_ fun s hs => ?_
      · unfold doBinAddr
        split
        · rename_i b' hn
          obtain ⟨rfl, h4, hh⟩ := nilEq_ok hx hy hn
          have h1 : (Op.equal t v u).run P w = .ok false w := run_equalIn_nil 9999 rfl h4 hh
          obtain ⟨h2, h3, h5, h6⟩ := addr_plain (t := t) h4 hh
          have hg := run_eqGuard (P := P) (w := w) op t x y v u h2 h3
          split
          · refine NextOK.same hR (v := .bool false) ?_ rfl
            simp [Sem.run_bind, hg, h5, h1]
          · refine NextOK.same hR (v := .bool true) ?_ rfl
            simp [Sem.run_bind, hg, h6, h1]
          · exact trivial
        · exact halt
      · refine strE_ok hy halt fun s' hs' => ?_
        subst hs hs'
        exact strBin_ok hR halt
theorem un_ok (hR : Rel m β H w) {op : UnOp} {x : AV} {v : Value} (hx : AR β x v) {alt : ANext} (halt : NextOK P m β H w alt ((do let z ← Op.unary op v; pure (Next.value z) : Sem Next).run P w)) :
    NextOK P m β H w (doUn H op x alt) ((do let z ← Op.unary op v; pure (Next.value z) : Sem Next).run P w) := by
  cases op <;> first
    | exact halt
    | (refine boolE_ok hx halt fun b hb => ?_
       subst hb
       exact NextOK.same hR (v := .bool (!b)) rfl rfl)
theorem index_ok (hR : Rel m β H w) {t : TypeId} {x i : AV} {v u : Value} (hx : AR β x v) (hi : AR β i u) {alt : ANext} (halt : NextOK P m β H w alt ((do let z ← Instr.index t v u; pure (Next.value z) : Sem Next).run P w)) :
    NextOK P m β H w (doIndex H (isStrT P t) x i alt) ((do let z ← Instr.index t v u; pure (Next.value z) : Sem Next).run P w) := by
  unfold doIndex
  rw [ifE_eq]
  split
  · rename_i ht
    have hu : P.underlying t = some .string := by
      unfold isStrT at ht
      split at ht
      · assumption
      · cases ht
    refine strE_ok hx halt fun s hs => intE_ok hi halt fun k n hn => NextOK.nd fun j hj => NextOK.nd fun b hb => ?_
    have hj := natOf_ok hj
    subst hs hn hj
    rw [nthB_eq] at hb
    refine NextOK.same hR (v := .int .u8 b.toNat) ?_ rfl
    have hlt : j < s.length := (List.getElem?_eq_some_iff.1 hb).1
    have hg : (ByteArray.mk s.toArray)[j]? = some b := by
      have h1 : j < (ByteArray.mk s.toArray).size := by show j < s.toArray.size; simpa using hlt
      rw [getElem?_pos (ByteArray.mk s.toArray) j h1]
      have : (ByteArray.mk s.toArray)[j] = s.toArray[j]'(by simpa using hlt) := rfl
      rw [this]
      rw [List.getElem?_eq_getElem hlt] at hb
      simpa using hb
    simp [Instr.index, asIntOf, run_underlying hu, hg]
  · exact halt
theorem lenT_ok {t : TypeId} :
    match lenT P t with
    | none => True
    | some 0 => P.underlying t = some .string
    | some 1 => ∃ e, P.underlying t = some (.slice e)
    | some (_ + 2) => ∃ k e, P.underlying t = some (.map k e) := by
  unfold lenT
  cases h : P.underlying t with
  | none => exact trivial
  | some d => cases d <;> first | exact trivial | exact ⟨_, rfl⟩ | exact ⟨_, _, rfl⟩ | rfl
theorem isNilS_ok {x : AV} {v : Value} (hx : AR β x v) (h : isNilS x = true) : v = .slice none 0 0 := by
  cases x with
  | one c =>
    cases c with
    | o q => cases q <;> first | exact hx | cases h
    | b _ => cases h
    | i _ _ => cases h
  | agg _ => cases h
  | tup _ => cases h
  | any => cases h
theorem ERs.length {l : List AEntry} {ms : List MapEntry} (h : ERs β l ms) : ms.length = l.length := (ERs.get h).symm
theorem map_get (hR : Rel m β H w) {id : Nat} {es : List AEntry} {clock : Nat} (h : H.get id = some (.oth (.map es clock))) {p : Place} (hp : β id 0 = some p) :
    ∃ ms : List MapEntry, w.heap[p.b]? = some (.map ms.toArray clock) ∧ ERs β es ms := by
  obtain ⟨q, hq, ms, h1, h2⟩ := hR.obj id _ h
  rw [hp] at hq; cases hq
  exact ⟨ms, h1, h2⟩
theorem run_getObj_of {b : Nat} {es : Array MapEntry} {c : Nat} (h : w.heap[b]? = some (.map es c)) : (getObj b).run P w = .ok (.map es c) w := by
  simp [getObj, Sem.run, h]
theorem run_getObj_iter {b : Nat} {m : Option Nat} {s t : Nat} {a : Array Nat} (h : w.heap[b]? = some (.mapIter m s a t)) : (getObj b).run P w = .ok (.mapIter m s a t) w := by
  simp [getObj, Sem.run, h]
theorem len_ok (hR : Rel m β H w) {t ty : TypeId} {k : Nat} (ht : lenT P t = some k) {x : AV} {v : Value} (hx : AR β x v) :
    NextOK P m β H w (doLen H k x) ((do let z ← Builtin.len_ #[t] ty #[v]; pure (Next.value z) : Sem Next).run P w) := by
  have hu := lenT_ok (P := P) (t := t)
  rw [ht] at hu
  match k with
  | 0 =>
    refine strE_ok hx ⟨⟩ fun s hs => ?_
    subst hs
    rw [lenB_eq]
    refine NextOK.same hR (v := .int .i64 s.length) ?_ rfl
    have : (ByteArray.mk s.toArray).size = s.length := by show s.toArray.size = _; simp
    simp [Builtin.len_, run_underlying hu, goInt, this]
  | 1 =>
    obtain ⟨e, hu⟩ := hu
    refine slE_ok hx (NextOK.guard fun hn => ?_) fun id g off len sz p cap o' _ _ _ _ hv _ => ?_
    · have := isNilS_ok hx hn
      subst this
      refine NextOK.same hR (v := .int .i64 0) ?_ rfl
      simp [Builtin.len_, run_underlying hu, goInt]
    · subst hv
      refine NextOK.same hR (v := .int .i64 len) ?_ rfl
      simp [Builtin.len_, run_underlying hu, goInt]
  | k + 2 =>
    obtain ⟨a, e, hu⟩ := hu
    show NextOK P m β H w (doLenMap H x) _
    unfold doLenMap
    split
    · have hv : v = .map none := hx
      subst hv
      refine NextOK.same hR (v := .int .i64 0) ?_ rfl
      simp [Builtin.len_, run_underlying hu, goInt]
    · rename_i id
      obtain ⟨p, hp, rfl⟩ := hx
      split
      · rename_i es clock hg
        obtain ⟨ms, h1, h2⟩ := map_get hR hg hp
        refine NextOK.same hR (v := .int .i64 es.length) ?_ rfl
        simp [Builtin.len_, run_underlying hu, goInt, run_getObj_of h1, h2.length]
      · exact trivial
    · exact trivial
theorem move_ok (hR : Rel m β H w) {tm : PT AV} {a : Act} (htm : ∀ t, AR β (optE (tm.get t) undefA fun v => v) (a.tmps.getD t undef)) (x : Operand) : NextOK P m β H w ((moveF (opF x)).run tm H) ((pure (Next.value (a.eval x)) : Sem Next).run P w) := by
  have h := ev_ok htm x
  cases x <;> exact NextOK.same hR rfl h
theorem pick_ok (hR : Rel m β H w) {tm : PT AV} {a : Act} (htm : ∀ t, AR β (optE (tm.get t) undefA fun v => v) (a.tmps.getD t undef)) (c x y : Operand) :
    NextOK P m β H w ((pickF (opF c) (opF x) (opF y)).run tm H) ((do pure (Next.value (if ← asBool (a.eval c) then a.eval x else a.eval y)) : Sem Next).run P w) := by
  refine boolE_ok (ev_ok htm c) trivial fun b hb => ?_
  refine NextOK.same hR (v := if b = true then a.eval x else a.eval y) ?_ ?_
  · simp [hb, asBool]
  · rw [ifE_eq]
    cases b
    · exact ev_ok htm y
    · exact ev_ok htm x
theorem nilCheck_ok (hR : Rel m β H w) {ρ : Operand → Value} {y : Operand} {x : AV} (hx : AR β x (ρ y)) (o : Oper) (ho : o.op = .nilCheck y) : NextOK P m β H w (nilCheckV H x) ((execOp ρ o).run P w) := by
  obtain ⟨dst, op, type, pos, after, guard⟩ := o
  cases ho
  generalize hv : ρ y = v at hx
  cases x with
  | one c =>
    cases c with
    | o q =>
      cases q <;> first
        | exact trivial
        | (obtain ⟨p, h1, h2, h3⟩ := hx
           subst h3
           exact NextOK.same hR (v := .pointer (some _)) (by simp only [execOp, hv]; rfl) ⟨p, h1, h2, rfl⟩)
        | (obtain ⟨cs, h1, h2⟩ := hx
           subst h1
           exact NextOK.same hR (v := .func _ #[] _) (by simp only [execOp, hv]; rfl) ⟨cs, rfl, h2⟩)
    | b _ => exact trivial
    | i _ _ => exact trivial
  | agg _ => exact trivial
  | tup _ => exact trivial
  | any => exact trivial
end
end Go.Eng
