/- What a law's proof ends in: a call that returns true and leaves all that was in memory as it was fits the law's row. And the engine with the function works known. -/
import Derived.Test.YtiejeicaaojdlaaGreatRows
import Derived.Test.YtiejeicaaojdlaaGreatWorks
import Derived.ChangeSame
import Derived.JoinedOf
import Derived.JoinedAt
import Derived.RowKit3
import Derived.Below
namespace Go.Proofs.YtiejeicaaojdlaaGreat
open Go.ChangeShapes Go.WideShapes Go.ChangeAt Go.RowKit Go.Eng

theorem grown_below {w w' : World} (h : Eng.Grown w w') : Below w.heap.size w w' := ⟨h.1, h.2.1, h.2.2.1, h.2.2.2.1, h.2.2.2.2⟩

section
variable {H : Type} {enc : TypeId × Value → H} {P : Program}

/-- A law's post: it returns true, its arguments read as they did, nothing else is otherwise. -/
theorem law_post {f : Func} {s : ChangeSpec} {apart fresh handsOn again : Bool} {W W' : World} {args : Array Value} {ds : List (DataW H)} {pa : List MemPlace} (hv : s.vars = [])
    (hW : DataW.Whole enc P f.params.toList s.vars apart W args.toList ds [] pa) {t : TypeId} (ht : f.resultTypes = #[t]) (hu : P.underlying t = some .bool)
    (hr : (s.fn H (ds ++ [])).results = [.lit (.bool true)]) (ha : (s.fn H (ds ++ [])).args = ds) (hvs : (s.fn H (ds ++ [])).vars = [])
    (hb : Below W.heap.size W W') (hargs : ∀ sp : Nat → Bool, (∀ p ∈ pa, sp p.block = true) → DataW.TrodAll enc P W' 0 sp true f.params.toList args.toList ds pa) :
    s.post enc P f apart fresh handsOn again W args (.bool true) W' := by
  have below : ∀ p ∈ pa, p.block < W.heap.size := fun p hp => hW.lt p hp
  have old : ∀ p ∈ pa, (fun b => decide (b < W.heap.size)) p.block = true := fun p hp => by simpa using below p hp
  have res : ∀ (b : Nat) (sp : Nat → Bool) (hd : Bool), DataW.TrodAll enc P W' b sp hd f.resultTypes.toList ((Value.bool true).resultList f.resultTypes.size) (s.fn H (ds ++ [])).results [] := fun b sp hd => by
    rw [hr, ht]; exact trodAll_mk1 (shut_bool hu true)
  have vars : ∀ sp : Nat → Bool, DataW.TrodVars enc P W' sp s.vars (s.fn H (ds ++ [])).vars [] := fun sp => by rw [hv, hvs]; rfl
  have okr : ∀ (j : Nat) (t : TypeId) (r : Value), f.resultTypes[j]? = some t → ((Value.bool true).resultList f.resultTypes.size)[j]? = some r → Value.okWide P W' .any 0 t r := by
    exact ok_one ht rfl (okWide_bool_mk hu true)
  have args' : ∀ sp : Nat → Bool, (∀ p ∈ pa, sp p.block = true) → DataW.TrodAll enc P W' 0 sp true f.params.toList args.toList (s.fn H (ds ++ [])).args pa := fun sp h => by rw [ha]; exact hargs sp h
  refine ⟨ds, [], pa, [], pa, [], hW, res _ _ _, args' _ old, vars _, World.keptBut_mono (fun p hp => ⟨hp, .inr (.inl hp)⟩) (hb.frame (· ∈ pa)), fun _ => ?_⟩
  obtain ⟨_, _, _, _, _, hz, hn⟩ := hW
  refine ⟨okr, _, _, ([] ++ pa) ++ [], ⟨[] ++ pa, [], trodAll_append (args' _ (fun _ _ => rfl)) (res _ _ _), vars _, rfl, ?_, ?_⟩, ?_⟩
  · intro b off hp
    have hin : MemPlace.cell b off ∈ pa := by simpa using hp
    rw [hb.frozen (below _ hin)]
    exact hz b off (by simpa using hin)
  · intro hh
    have := hn hh
    simpa using this
  · intro p hp _
    simpa using hp
end

/-- What is known: IsName, and the function works. -/
noncomputable def prim2 (f : FuncId) (args : List AV) : Option AV :=
  Bool.rec (motive := fun _ => Option AV) (prim1 f args) (Bool.rec (motive := fun _ => Option AV) none (some (.one (.b true))) (nilL args)) (Nat.beq f 11)

noncomputable def E2 : Env := { P := Tryz.prog, prim := prim2 }

theorem prim2_ok (f : FuncId) (args : List AV) (v : AV) (h : prim2 f args = some v) (β : Pl) (vs : List Value) (w : World) (ha : ARs β args vs) :
    CallsIn Fence.wide 0 Tryz.prog f vs.toArray w fun e w' => ∃ u, e = .returned u ∧ AR β v u ∧ w'.os = w.os ∧ w'.tape = w.tape ∧ w'.output = w.output ∧ w.heap.size ≤ w'.heap.size ∧ ∀ b, b < w.heap.size → w'.heap[b]? = w.heap[b]? := by
  unfold prim2 at h
  cases hf : Nat.beq f 11 with
  | false => rw [hf] at h; exact prim1_ok f args v h β vs w ha
  | true =>
    rw [hf] at h
    have := Nat.eq_of_beq_eq_true hf
    subst this
    cases args with
    | cons _ _ => cases h
    | nil =>
      cases h
      cases vs with
      | cons _ _ => exact ha.elim
      | nil =>
        refine (callsIn_wide (n := 0)).2 ((works_ok w).mono fun e w' he => ?_)
        obtain ⟨rfl, h1, h2, h3, h4, h5⟩ := he
        exact ⟨_, rfl, rfl, h1, h2, h3, h4, h5⟩

theorem envS2 : EnvS E2 := ⟨name_ok, mixed_ok, prim2_ok⟩
theorem Tryz.own : ownKnob Tryz.prog.godebug = none := by kernel_rfl
end Go.Proofs.YtiejeicaaojdlaaGreat
