/- Operations on integers that the engine leaves to the model's own text: minus, quotient, the greater one, conversions. -/
import Derived.Test.YtndipbefnipnpaaGreatEngH
namespace Go.Eng
open Go

theorem plain_of {P : Program} {tm : PT AV} {H : Hp} {o : Oper} {v : Value} (hx : (o.op.operands.toList.all fun x => (ev tm x).val?.isSome) = true) (he : pureRun P (execOp (fun x => valD (ev tm x)) o) = some (.value v)) (hok : okV v = true) :
    plainOp P tm H o = .val (ofValue v) H := by
  unfold plainOp
  rw [hx, he]
  show guardN true _ (guardN (okV v) _ _) = _
  rw [hok]; rfl

/-- One integer. -/
def int1 (f : IntKind → Int → AC) (H : Hp) (alt : ANext) (x : AV) : ANext := match x with | .one (.i k a) => .val (.one (f k a)) H | _ => alt
theorem int1_i {f : IntKind → Int → AC} {H : Hp} {alt : ANext} {k : IntKind} {a : Int} : int1 f H alt (.one (.i k a)) = .val (.one (f k a)) H := rfl
/-- Two integers of one kind. -/
def int2 (p : Int → Int → Prop) [∀ a b, Decidable (p a b)] (f : IntKind → Int → Int → AC) (H : Hp) (alt : ANext) (x y : AV) : ANext :=
  match x, y with | .one (.i k a), .one (.i k' b) => if k = k' ∧ p a b then .val (.one (f k a b)) H else alt | _, _ => alt
theorem int2_i {p : Int → Int → Prop} [∀ a b, Decidable (p a b)] {f : IntKind → Int → Int → AC} {H : Hp} {alt : ANext} {k : IntKind} {a b : Int} (h : p a b) : int2 p f H alt (.one (.i k a)) (.one (.i k b)) = .val (.one (f k a b)) H := if_pos ⟨rfl, h⟩

variable {P : Program} {tm : PT AV} {H : Hp} {d : Option Tmp} {ty : TypeId} {pos : String} {af : Array Edge} {g : Option (Nat × Bool)}

theorem valD_i {x : AV} {k : IntKind} {a : Int} (h : x = .one (.i k a)) : valD x = .int k a := by subst h; rfl

theorem plain_neg {t : TypeId} {x : Operand} : plainOp P tm H ⟨d, .unOp .neg t x, ty, pos, af, g⟩ = int1 (fun k a => .i k (k.wrap (0 - a))) H (plainAlt P tm H ⟨d, .unOp .neg t x, ty, pos, af, g⟩) (ev tm x) := by
  unfold int1
  split
  · rename_i k a hx
    refine plain_of (v := .int k (k.wrap (0 - a))) ?_ ?_ rfl
    · show ([x].all fun x => (ev tm x).val?.isSome) = true
      simp only [List.all_cons, List.all_nil, hx]; rfl
    · show pureRun P (Sem.bind (Op.unary .neg (valD (ev tm x))) fun v => Sem.pure (Next.value v)) = _
      rw [valD_i hx]; rfl
  · rfl

theorem plain_quo {t c : TypeId} {x y : Operand} : plainOp P tm H ⟨d, .binOp .quo t x y c, ty, pos, af, g⟩ = int2 (fun _ b => b ≠ 0) (fun k a b => .i k (k.wrap (a.tdiv b))) H (plainAlt P tm H ⟨d, .binOp .quo t x y c, ty, pos, af, g⟩) (ev tm x) (ev tm y) := by
  unfold int2
  split
  · rename_i k a k' b hx hy
    by_cases h : k = k' ∧ b ≠ 0
    · rw [if_pos h]
      obtain ⟨rfl, hb⟩ := h
      refine plain_of (v := .int k (k.wrap (a.tdiv b))) ?_ ?_ rfl
      · show ([x, y].all fun x => (ev tm x).val?.isSome) = true
        simp only [List.all_cons, List.all_nil, hx, hy]; rfl
      · show pureRun P (Sem.bind (Sem.bind (eqGuard .quo t x y (valD (ev tm x)) (valD (ev tm y))) fun _ => binOp .quo t (valD (ev tm x)) (valD (ev tm y))) fun v => Sem.pure (Next.value v)) = _
        rw [valD_i hx, valD_i hy]
        have e : binOp .quo t (.int k a) (.int k b) = pure (.int k (k.wrap (a.tdiv b))) := by
          show (if k ≠ k then _ else Op.intDiv .quo k a b) = _
          rw [if_neg (by simp)]
          unfold Op.intDiv
          rw [if_neg hb]
        show pureRun P (Sem.bind (binOp .quo t (.int k a) (.int k b)) fun v => Sem.pure (Next.value v)) = _
        rw [e]; rfl
    · rw [if_neg h]; rfl
  · rfl

theorem plain_max {ts : Array TypeId} {x y : Operand} : plainOp P tm H ⟨d, .call ⟨.builtin .max, #[x, y], ts⟩, ty, pos, af, g⟩ = int2 (fun _ _ => True) (fun k a b => .i k (if b > a then b else a)) H (plainAlt P tm H ⟨d, .call ⟨.builtin .max, #[x, y], ts⟩, ty, pos, af, g⟩) (ev tm x) (ev tm y) := by
  unfold int2
  split
  · rename_i k a k' b hx hy
    by_cases h : k = k' ∧ True
    · rw [if_pos h]
      obtain ⟨rfl, -⟩ := h
      refine plain_of (v := .int k (if b > a then b else a)) ?_ ?_ rfl
      · show ([x, y].all fun x => (ev tm x).val?.isSome) = true
        simp only [List.all_cons, List.all_nil, hx, hy]; rfl
      · have e : execOp (fun x => valD (ev tm x)) ⟨d, .call ⟨.builtin .max, #[x, y], ts⟩, ty, pos, af, g⟩ = Sem.bind (Builtin.max_ ts ty (#[x, y].map fun x => valD (ev tm x))) fun v => Sem.pure (Next.value v) := rfl
        have e2 : (#[x, y].map fun x => valD (ev tm x)) = #[valD (ev tm x), valD (ev tm y)] := by simp
        rw [e, e2, valD_i hx, valD_i hy]; rfl
    · rw [if_neg h]; rfl
  · rfl

theorem plain_conv {s t : TypeId} {ks kt : IntKind} {x : Operand} (hs : P.underlying s = some (.int ks)) (ht : P.underlying t = some (.int kt)) :
    plainOp P tm H ⟨d, .convert s t x, ty, pos, af, g⟩ = int1 (fun _ a => .i kt (kt.wrap a)) H (plainAlt P tm H ⟨d, .convert s t x, ty, pos, af, g⟩) (ev tm x) := by
  unfold int1
  split
  · rename_i k a hx
    refine plain_of (v := .int kt (kt.wrap a)) ?_ ?_ rfl
    · show ([x].all fun x => (ev tm x).val?.isSome) = true
      simp only [List.all_cons, List.all_nil, hx]; rfl
    · show pureRun P (Sem.bind (convert s t (valD (ev tm x))) fun v => Sem.pure (Next.value v)) = _
      rw [valD_i hx, pureRun_bind]
      unfold convert
      rw [pureRun_bind', pureRun_under hs]
      simp only [Option.bind_some]
      rw [pureRun_bind', pureRun_under ht]; rfl
  · rfl

theorem ii_quo {kd : Nat} {k k' : IntKind} {a b : Int} {alt : ANext} : doBin H kd .quo (binF .quo) (.one (.i k a)) (.one (.i k' b)) alt = alt := by cases k <;> cases k' <;> rfl
theorem SK_neg {st : Bool} {E : Env} {t : TypeId} {x : Operand} {A : AAct} {next : AAct → Hp → Prop} : SK st E ⟨d, .unOp .neg t x, ty, pos, af, g⟩ A H next = vN next A d (plainOp E.P A.tm H ⟨d, .unOp .neg t x, ty, pos, af, g⟩) := SK_plainU (by decide)
end Go.Eng
