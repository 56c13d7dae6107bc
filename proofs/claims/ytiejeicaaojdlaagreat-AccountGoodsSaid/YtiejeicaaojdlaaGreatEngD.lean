/- The engine's operations are sound, second part. No conditions. -/
import Derived.Test.YtiejeicaaojdlaaGreatEngC
import Derived.Orders
import Derived.Laws.MakeOwn
/- The engine's operations that make no row: operators, lengths, functions, and those that are run by the model's own text. -/
namespace Go.Eng
open Go

section
variable {P : Program} {m : Nat} {β : Pl} {H : Hp} {w : World}

theorem plain_ok (hR : Rel m β H w) {tm : PT AV} {a : Act} (htm : ∀ t, AR β (optE (tm.get t) undefA fun v => v) (a.tmps.getD t undef)) (o : Oper) (hs : ∀ cs b, o.op ≠ .select cs b) :
    NextOK P m β H w (plainOp P tm H o) ((execOp a.eval o).run P w) := by
  unfold plainOp
  refine NextOK.guard fun hg => ?_
  have he : execOp (fun x => valD (ev tm x)) o = execOp a.eval o := by
    refine execOp_congr o hs fun x hx => ?_
    have h1 := List.all_eq_true.1 hg x (by simpa using hx)
    have h2 := ev_ok htm x
    cases hv : (ev tm x).val? with
    | none => rw [hv] at h1; cases h1
    | some v =>
      show valD (ev tm x) = _
      unfold valD
      rw [hv]
      exact (AV.val?_ok hv h2).symm
  rw [he]
  split
  · rename_i v hv
    refine NextOK.guard fun hk => ?_
    exact NextOK.same hR (pureRun_ok hv w) (AR_ofValue hk)
  · exact trivial

/-! ### Integers -/
theorem iLe_eq (a b : Int) : iLe a b = decide (a ≤ b) := by
  cases a with
  | ofNat m =>
    cases b with
    | ofNat n =>
      show Nat.ble m n = _
      rw [Bool.eq_iff_iff]
      simp
    | negSucc n =>
      show false = _
      symm
      rw [decide_eq_false_iff_not, Int.ofNat_eq_natCast]
      omega
  | negSucc m =>
    cases b with
    | ofNat n =>
      show true = _
      symm
      rw [decide_eq_true_eq, Int.ofNat_eq_natCast]
      omega
    | negSucc n =>
      show Nat.ble n m = _
      rw [Bool.eq_iff_iff]
      simp
      omega

theorem iEq_eq (a b : Int) : iEq a b = (a == b) := by
  cases a with
  | ofNat m =>
    cases b with
    | ofNat n =>
      show Nat.beq m n = _
      rw [Bool.eq_iff_iff, Nat.beq_eq, beq_iff_eq]
      exact ⟨fun h => by rw [h], fun h => Int.ofNat.inj h⟩
    | negSucc n =>
      show false = _
      symm
      rw [beq_eq_false_iff_ne, Int.ofNat_eq_natCast]
      omega
  | negSucc m =>
    cases b with
    | ofNat n =>
      show false = _
      symm
      rw [beq_eq_false_iff_ne, Int.ofNat_eq_natCast]
      omega
    | negSucc n =>
      show Nat.beq m n = _
      rw [Bool.eq_iff_iff, Nat.beq_eq, beq_iff_eq]
      exact ⟨fun h => by rw [h], fun h => Int.negSucc.inj h⟩

theorem sameKind_eq {a b : IntKind} (h : sameKind a b = true) : a = b := by
  cases a <;> cases b <;> first | rfl | cases h

theorem sameKind_ne {a b : IntKind} (h : a ≠ b) : sameKind a b = false := by
  cases a <;> cases b <;> first | rfl | exact absurd rfl h

theorem wrapQ_eq (k : IntKind) (n : Int) : wrapQ k n = k.wrap n := by
  unfold wrapQ
  rw [ifE_eq]
  split
  · rename_i hk
    have hk' : k = .i64 := by cases k <;> first | rfl | cases hk
    subst hk'
    cases n with
    | ofNat m =>
      show ifE (Nat.ble 9223372036854775808 m) _ _ = _
      rw [ifE_eq]
      split
      · rfl
      · rename_i h
        have h' : m < 9223372036854775808 := by
          rcases Nat.lt_or_ge m 9223372036854775808 with h1 | h1
          · exact h1
          · exact absurd (Nat.ble_eq_true_of_le h1) h
        rw [IntKind.wrap_i64]
        have e : Int.ofNat m = (m : Int) := rfl
        rw [e]
        omega
    | negSucc m =>
      show ifE (Nat.ble 9223372036854775808 m) _ _ = _
      rw [ifE_eq]
      split
      · rfl
      · rename_i h
        have h' : m < 9223372036854775808 := by
          rcases Nat.lt_or_ge m 9223372036854775808 with h1 | h1
          · exact h1
          · exact absurd (Nat.ble_eq_true_of_le h1) h
        rw [IntKind.wrap_i64]
        omega
  · rfl

/-! ### Bytes -/
theorem bEq_eq (a b : UInt8) : bEq a b = (a == b) := by
  rw [Bool.eq_iff_iff, beq_iff_eq]
  unfold bEq
  rw [Nat.beq_eq]
  exact ⟨fun h => UInt8.toNat_inj.1 h, fun h => by rw [h]⟩

theorem lEq_eq : ∀ (x y : List UInt8), lEq x y = (x == y)
  | [], [] => rfl
  | [], _ :: _ => rfl
  | _ :: _, [] => rfl
  | a :: x, b :: y => by
    show both (bEq a b) (lEq x y) = _
    rw [both_eq, bEq_eq, lEq_eq x y]
    rfl

theorem lLess_eq : ∀ (x y : List UInt8), lLess x y = Op.bytesLess x y
  | [], [] => rfl
  | [], _ :: _ => rfl
  | _ :: _, [] => rfl
  | a :: x, b :: y => by
    show ifE (Nat.blt a.toNat b.toNat) true (both (bEq a b) (lLess x y)) = (decide (a < b) || (a == b && Op.bytesLess x y))
    rw [ifE_eq, both_eq, bEq_eq, lLess_eq x y]
    have : Nat.blt a.toNat b.toNat = decide (a < b) := by
      rw [Bool.eq_iff_iff, decide_eq_true_eq, UInt8.lt_iff_toNat_lt]
      exact ⟨fun h => Nat.le_of_ble_eq_true h, fun h => Nat.ble_eq_true_of_le h⟩
    rw [this]
    cases decide (a < b) <;> rfl

theorem toList_mk (s : List UInt8) : (ByteArray.mk s.toArray).toList = s := by rw [ByteArray.toList_eq]

/-! ### Operators -/
theorem run_eqGuard (op : BinOp) (t : TypeId) (x y : Operand) (a b : Value) (h1 : a ≠ .nilIface) (h2 : ∀ cs, a ≠ .agg cs) : (eqGuard op t x y a b).run P w = .ok () w := by
  unfold eqGuard
  cases a <;> first | exact absurd rfl h1 | exact absurd rfl (h2 _) | (cases op <;> rfl)

theorem not_le_dec (a b : Int) : decide (a < b) = !decide (b ≤ a) := by
  rw [Bool.eq_iff_iff]
  simp

theorem intBin_ok (hR : Rel m β H w) {op : BinOp} {t : TypeId} {x y : Operand} {k k' : IntKind} {a b : Int} {alt : ANext}
    (halt : NextOK P m β H w alt ((do let z ← (do eqGuard op t x y (.int k a) (.int k' b); binOp op t (.int k a) (.int k' b)); pure (Next.value z) : Sem Next).run P w)) :
    NextOK P m β H w (doBinInt H (binF op) k a k' b alt) ((do let z ← (do eqGuard op t x y (.int k a) (.int k' b); binOp op t (.int k a) (.int k' b)); pure (Next.value z) : Sem Next).run P w) := by
  unfold doBinInt
  rw [ifE_eq]
  split
  · rename_i hk
    have hk := sameKind_eq hk
    subst hk
    have hg := run_eqGuard (P := P) (w := w) op t x y (.int k a) (.int k b) (by simp) (by simp)
    cases op <;> first
      | exact halt
      | (refine NextOK.same hR (v := .int k (wrapQ k _)) ?_ rfl
         rw [wrapQ_eq]
         simp only [Sem.run_bind, hg, Result.andThen_ok]
         simp [binOp, Op.intArith]
         try rfl)
      | (refine NextOK.same hR (v := .bool _) ?_ rfl
         simp only [Sem.run_bind, hg, Result.andThen_ok]
         simp [binOp, Op.intCmp, iLe_eq, iEq_eq]
         try first | rfl | exact not_le_dec _ _)
  · exact halt

theorem strBin_ok (hR : Rel m β H w) {op : BinOp} {t : TypeId} {x y : Operand} {a b : List UInt8} {alt : ANext}
    (halt : NextOK P m β H w alt ((do let z ← (do eqGuard op t x y (.string ⟨a.toArray⟩) (.string ⟨b.toArray⟩); binOp op t (.string ⟨a.toArray⟩) (.string ⟨b.toArray⟩)); pure (Next.value z) : Sem Next).run P w)) :
    NextOK P m β H w (optE (strF op) alt fun f => .val (.one (.b (f a b))) H)
      ((do let z ← (do eqGuard op t x y (.string ⟨a.toArray⟩) (.string ⟨b.toArray⟩); binOp op t (.string ⟨a.toArray⟩) (.string ⟨b.toArray⟩)); pure (Next.value z) : Sem Next).run P w) := by
  have hg := run_eqGuard (P := P) (w := w) op t x y (.string ⟨a.toArray⟩) (.string ⟨b.toArray⟩) (by simp) (by simp)
  cases op <;> first
    | exact halt
    | (refine NextOK.same hR (v := .bool _) ?_ rfl
       simp only [Sem.run_bind, hg, Result.andThen_ok]
       simp [binOp, Op.stringOp, lEq_eq, lLess_eq]
       try rfl)
def Aof (k : Nat) (v : Value) : Prop :=
  match k with
  | 0 => ∃ a, v = .pointer (some a)
  | 1 => ∃ a n c, v = .slice (some a) n c
  | 2 => ∃ b, v = .map (some b)
  | 3 => ∃ f c, v = .func f #[] c
  | _ => True
def Nof (k : Nat) (v : Value) : Prop :=
  match k with
  | 0 => v = .pointer none
  | 1 => v = .slice none 0 0
  | 2 => v = .map none
  | 3 => v = .nilFunc
  | _ => True

theorem isAddr_ok {x : AO} {v : Value} (hx : CRO β x v) : Aof (isAddr x) v := by
  cases x <;> first
    | exact trivial
    | (obtain ⟨p, _, _, h⟩ := hx; exact ⟨_, h⟩)
    | (obtain ⟨p, _, _, _, _, _, h, _⟩ := hx; exact ⟨_, _, _, h⟩)
    | (obtain ⟨p, _, h⟩ := hx; exact ⟨_, h⟩)
    | (obtain ⟨cs, h, _⟩ := hx; exact ⟨_, _, h⟩)

theorem isNilP_ok {x : AO} {v : Value} (hx : CRO β x v) : Nof (isNilP x) v := by
  cases x <;> first | exact trivial | exact hx

theorem addrT_ok {t : TypeId} :
    match addrT P t with
    | 0 => ∃ e, P.underlying t = some (.pointer e)
    | 1 => ∃ e, P.underlying t = some (.slice e)
    | 2 => ∃ k e, P.underlying t = some (.map k e)
    | 3 => ∃ a b c, P.underlying t = some (.func a b c)
    | _ => True := by
  unfold addrT
  cases P.underlying t with
  | none => exact trivial
  | some d => cases d <;> first | exact trivial | exact ⟨_, rfl⟩ | exact ⟨_, _, rfl⟩ | exact ⟨_, _, _, rfl⟩

theorem run_equalIn_nil (d : Nat) {t : TypeId} {k : Nat} (hk : addrT P t = k) (h4 : k < 4) {v u : Value} (h : (Aof k v ∧ Nof k u) ∨ (Nof k v ∧ Aof k u)) : (Op.equalIn (d + 1) t v u).run P w = .ok false w := by
  have ht := addrT_ok (P := P) (t := t)
  rw [hk] at ht
  match k, h4 with
  | 0, _ =>
    obtain ⟨e, ht⟩ := ht
    rcases h with ⟨⟨a, rfl⟩, h⟩ | ⟨h, ⟨a, rfl⟩⟩ <;> cases h <;> simp [Op.equalIn, run_underlying ht]
  | 1, _ =>
    obtain ⟨e, ht⟩ := ht
    rcases h with ⟨⟨a, n, c, rfl⟩, h⟩ | ⟨h, ⟨a, n, c, rfl⟩⟩ <;> cases h <;> simp [Op.equalIn, run_underlying ht]
  | 2, _ =>
    obtain ⟨e, e', ht⟩ := ht
    rcases h with ⟨⟨a, rfl⟩, h⟩ | ⟨h, ⟨a, rfl⟩⟩ <;> cases h <;> simp [Op.equalIn, run_underlying ht]
  | 3, _ =>
    obtain ⟨e, e', e'', ht⟩ := ht
    rcases h with ⟨⟨a, c, rfl⟩, h⟩ | ⟨h, ⟨a, c, rfl⟩⟩ <;> cases h <;> simp [Op.equalIn, run_underlying ht]

theorem addr_plain {t : TypeId} {k : Nat} (h4 : k < 4) {v u : Value} (h : (Aof k v ∧ Nof k u) ∨ (Nof k v ∧ Aof k u)) :
    v ≠ .nilIface ∧ (∀ cs, v ≠ .agg cs) ∧ binOp .eql t v u = (do let z ← Op.equal t v u; pure (.bool z)) ∧ binOp .neq t v u = (do let z ← Op.equal t v u; pure (.bool (!z))) := by
  match k, h4 with
  | 0, _ => rcases h with ⟨⟨a, rfl⟩, h⟩ | ⟨h, ⟨a, rfl⟩⟩ <;> cases h <;> exact ⟨by simp, by simp, rfl, rfl⟩
  | 1, _ => rcases h with ⟨⟨a, n, c, rfl⟩, h⟩ | ⟨h, ⟨a, n, c, rfl⟩⟩ <;> cases h <;> exact ⟨by simp, by simp, rfl, rfl⟩
  | 2, _ => rcases h with ⟨⟨a, rfl⟩, h⟩ | ⟨h, ⟨a, rfl⟩⟩ <;> cases h <;> exact ⟨by simp, by simp, rfl, rfl⟩
  | 3, _ => rcases h with ⟨⟨a, c, rfl⟩, h⟩ | ⟨h, ⟨a, c, rfl⟩⟩ <;> cases h <;> exact ⟨by simp, by simp, rfl, rfl⟩

theorem nilEq_ok {t : TypeId} {x y : AV} {v u : Value} (hx : AR β x v) (hy : AR β y u) {b : Bool} (h : nilEq (addrT P t) x y = some b) :
    b = false ∧ addrT P t < 4 ∧ ((Aof (addrT P t) v ∧ Nof (addrT P t) u) ∨ (Nof (addrT P t) v ∧ Aof (addrT P t) u)) := by
  unfold nilEq at h
  split at h
  · rename_i a b'
    cases hc : (Nat.blt (addrT P t) 4 && ((Nat.beq (isAddr a) (addrT P t) && Nat.beq (isNilP b') (addrT P t)) || (Nat.beq (isNilP a) (addrT P t) && Nat.beq (isAddr b') (addrT P t)))) with
    | false => rw [hc] at h; cases h
    | true =>
      rw [hc] at h
      cases h
      simp only [Bool.and_eq_true, Bool.or_eq_true] at hc
      refine ⟨rfl, Nat.le_of_ble_eq_true hc.1, ?_⟩
      rcases hc.2 with ⟨h1, h2⟩ | ⟨h1, h2⟩
      · have a1 := Nat.eq_of_beq_eq_true h1
        have a2 := Nat.eq_of_beq_eq_true h2
        exact .inl ⟨by rw [← a1]; exact isAddr_ok hx, by rw [← a2]; exact isNilP_ok hy⟩
      · have a1 := Nat.eq_of_beq_eq_true h1
        have a2 := Nat.eq_of_beq_eq_true h2
        exact .inr ⟨by rw [← a1]; exact isNilP_ok hx, by rw [← a2]; exact isAddr_ok hy⟩
  · cases h

theorem bin_ok (hR : Rel m β H w) {op : BinOp} {t : TypeId} {x y : Operand} {a b : AV} {v u : Value} (hx : AR β a v) (hy : AR β b u) {alt : ANext}
    (halt : NextOK P m β H w alt ((do let z ← (do eqGuard op t x y v u; binOp op t v u); pure (Next.value z) : Sem Next).run P w)) :
    NextOK P m β H w (doBin H (addrT P t) op (binF op) a b alt) ((do let z ← (do eqGuard op t x y v u; binOp op t v u); pure (Next.value z) : Sem Next).run P w) := by
  cases a with
  | agg _ => exact halt
  | tup _ => exact halt
  | any => exact halt
  | one c =>
    cases c with
    | b _ => exact halt
    | i k n =>
      show NextOK P m β H w (intE b alt fun k' b' => doBinInt H (binF op) k n k' b' alt) _
      refine intE_ok hy halt fun k' n' hu => ?_
      have hv : v = .int k n := hx
      subst hu hv
      exact intBin_ok hR halt
    | o q =>
      show NextOK P m β H w (doBinStr H (addrT P t) op (.one (.o q)) b alt) _
      unfold doBinStr
      refine strE_ok hx ?_ fun s hs => ?_
      · unfold doBinAddr
        split
        · rename_i b' hn
          obtain ⟨rfl, h4, hh⟩ := nilEq_ok hx hy hn
          have h1 : (Op.equal t v u).run P w = .ok false w := run_equalIn_nil 9999 rfl h4 hh
          obtain ⟨h2, h3, h5, h6⟩ := addr_plain (t := t) h4 hh
          have hg := run_eqGuard (P := P) (w := w) op t x y v u h2 h3
          split
          · refine NextOK.same hR (v := .bool false) ?_ rfl
            simp [Sem.run_bind, hg, h5, h1]
          · refine NextOK.same hR (v := .bool true) ?_ rfl
            simp [Sem.run_bind, hg, h6, h1]
          · exact trivial
        · exact halt
      · refine strE_ok hy halt fun s' hs' => ?_
        subst hs hs'
        exact strBin_ok hR halt

theorem un_ok (hR : Rel m β H w) {op : UnOp} {x : AV} {v : Value} (hx : AR β x v) {alt : ANext} (halt : NextOK P m β H w alt ((do let z ← Op.unary op v; pure (Next.value z) : Sem Next).run P w)) :
    NextOK P m β H w (doUn H op x alt) ((do let z ← Op.unary op v; pure (Next.value z) : Sem Next).run P w) := by
  cases op <;> first
    | exact halt
    | (refine boolE_ok hx halt fun b hb => ?_
       subst hb
       exact NextOK.same hR (v := .bool (!b)) rfl rfl)

theorem index_ok (hR : Rel m β H w) {t : TypeId} {x i : AV} {v u : Value} (hx : AR β x v) (hi : AR β i u) {alt : ANext} (halt : NextOK P m β H w alt ((do let z ← Instr.index t v u; pure (Next.value z) : Sem Next).run P w)) :
    NextOK P m β H w (doIndex H (isStrT P t) x i alt) ((do let z ← Instr.index t v u; pure (Next.value z) : Sem Next).run P w) := by
  unfold doIndex
  rw [ifE_eq]
  split
  · rename_i ht
    have hu : P.underlying t = some .string := by
      unfold isStrT at ht
      split at ht
      · assumption
      · cases ht
    refine strE_ok hx halt fun s hs => intE_ok hi halt fun k n hn => NextOK.nd fun j hj => NextOK.nd fun b hb => ?_
    have hj := natOf_ok hj
    subst hs hn hj
    rw [nthB_eq] at hb
    refine NextOK.same hR (v := .int .u8 b.toNat) ?_ rfl
    have hlt : j < s.length := (List.getElem?_eq_some_iff.1 hb).1
    have hg : (ByteArray.mk s.toArray)[j]? = some b := by
      have h1 : j < (ByteArray.mk s.toArray).size := by show j < s.toArray.size; simpa using hlt
      rw [getElem?_pos (ByteArray.mk s.toArray) j h1]
      have : (ByteArray.mk s.toArray)[j] = s.toArray[j]'(by simpa using hlt) := rfl
      rw [this]
      rw [List.getElem?_eq_getElem hlt] at hb
      simpa using hb
    simp [Instr.index, asIntOf, run_underlying hu, hg]
  · exact halt

theorem lenT_ok {t : TypeId} :
    match lenT P t with
    | none => True
    | some 0 => P.underlying t = some .string
    | some 1 => ∃ e, P.underlying t = some (.slice e)
    | some (_ + 2) => ∃ k e, P.underlying t = some (.map k e) := by
  unfold lenT
  cases h : P.underlying t with
  | none => exact trivial
  | some d => cases d <;> first | exact trivial | exact ⟨_, rfl⟩ | exact ⟨_, _, rfl⟩ | rfl

theorem isNilS_ok {x : AV} {v : Value} (hx : AR β x v) (h : isNilS x = true) : v = .slice none 0 0 := by
  cases x with
  | one c =>
    cases c with
    | o q => cases q <;> first | exact hx | cases h
    | b _ => cases h
    | i _ _ => cases h
  | agg _ => cases h
  | tup _ => cases h
  | any => cases h

theorem ERs.length {l : List AEntry} {ms : List MapEntry} (h : ERs β l ms) : ms.length = l.length := (ERs.get h).symm

theorem map_get (hR : Rel m β H w) {id : Nat} {es : List AEntry} {clock : Nat} (h : H.get id = some (.oth (.map es clock))) {p : Place} (hp : β id 0 = some p) :
    ∃ ms : List MapEntry, w.heap[p.b]? = some (.map ms.toArray clock) ∧ ERs β es ms := by
  obtain ⟨q, hq, ms, h1, h2⟩ := hR.obj id _ h
  rw [hp] at hq; cases hq
  exact ⟨ms, h1, h2⟩

theorem run_getObj_of {b : Nat} {es : Array MapEntry} {c : Nat} (h : w.heap[b]? = some (.map es c)) : (getObj b).run P w = .ok (.map es c) w := by
  simp [getObj, Sem.run, h]

theorem run_getObj_iter {b : Nat} {m : Option Nat} {s t : Nat} {a : Array Nat} (h : w.heap[b]? = some (.mapIter m s a t)) : (getObj b).run P w = .ok (.mapIter m s a t) w := by
  simp [getObj, Sem.run, h]

theorem len_ok (hR : Rel m β H w) {t ty : TypeId} {k : Nat} (ht : lenT P t = some k) {x : AV} {v : Value} (hx : AR β x v) :
    NextOK P m β H w (doLen H k x) ((do let z ← Builtin.len_ #[t] ty #[v]; pure (Next.value z) : Sem Next).run P w) := by
  have hu := lenT_ok (P := P) (t := t)
  rw [ht] at hu
  match k with
  | 0 =>
    refine strE_ok hx ⟨⟩ fun s hs => ?_
    subst hs
    rw [lenB_eq]
    refine NextOK.same hR (v := .int .i64 s.length) ?_ rfl
    have : (ByteArray.mk s.toArray).size = s.length := by show s.toArray.size = _; simp
    simp [Builtin.len_, run_underlying hu, goInt, this]
  | 1 =>
    obtain ⟨e, hu⟩ := hu
    refine slE_ok hx (NextOK.guard fun hn => ?_) fun id g off len sz p cap o' _ _ _ _ hv _ => ?_
    · have := isNilS_ok hx hn
      subst this
      refine NextOK.same hR (v := .int .i64 0) ?_ rfl
      simp [Builtin.len_, run_underlying hu, goInt]
    · subst hv
      refine NextOK.same hR (v := .int .i64 len) ?_ rfl
      simp [Builtin.len_, run_underlying hu, goInt]
  | k + 2 =>
    obtain ⟨a, e, hu⟩ := hu
    show NextOK P m β H w (doLenMap H x) _
    unfold doLenMap
    split
    · have hv : v = .map none := hx
      subst hv
      refine NextOK.same hR (v := .int .i64 0) ?_ rfl
      simp [Builtin.len_, run_underlying hu, goInt]
    · rename_i id
      obtain ⟨p, hp, rfl⟩ := hx
      split
      · rename_i es clock hg
        obtain ⟨ms, h1, h2⟩ := map_get hR hg hp
        refine NextOK.same hR (v := .int .i64 es.length) ?_ rfl
        simp [Builtin.len_, run_underlying hu, goInt, run_getObj_of h1, h2.length]
      · exact trivial
    · exact trivial

theorem move_ok (hR : Rel m β H w) {tm : PT AV} {a : Act} (htm : ∀ t, AR β (optE (tm.get t) undefA fun v => v) (a.tmps.getD t undef)) (x : Operand) : NextOK P m β H w ((moveF (opF x)).run tm H) ((pure (Next.value (a.eval x)) : Sem Next).run P w) := by
  have h := ev_ok htm x
  cases x <;> exact NextOK.same hR rfl h

theorem pick_ok (hR : Rel m β H w) {tm : PT AV} {a : Act} (htm : ∀ t, AR β (optE (tm.get t) undefA fun v => v) (a.tmps.getD t undef)) (c x y : Operand) :
    NextOK P m β H w ((pickF (opF c) (opF x) (opF y)).run tm H) ((do pure (Next.value (if ← asBool (a.eval c) then a.eval x else a.eval y)) : Sem Next).run P w) := by
  refine boolE_ok (ev_ok htm c) trivial fun b hb => ?_
  refine NextOK.same hR (v := if b = true then a.eval x else a.eval y) ?_ ?_
  · simp [hb, asBool]
  · rw [ifE_eq]
    cases b
    · exact ev_ok htm y
    · exact ev_ok htm x

theorem nilCheck_ok (hR : Rel m β H w) {ρ : Operand → Value} {y : Operand} {x : AV} (hx : AR β x (ρ y)) (o : Oper) (ho : o.op = .nilCheck y) : NextOK P m β H w (nilCheckV H x) ((execOp ρ o).run P w) := by
  obtain ⟨dst, op, type, pos, after, guard⟩ := o
  cases ho
  generalize hv : ρ y = v at hx
  cases x with
  | one c =>
    cases c with
    | o q =>
      cases q <;> first
        | exact trivial
        | (obtain ⟨p, h1, h2, h3⟩ := hx
           subst h3
           exact NextOK.same hR (v := .pointer (some _)) (by simp only [execOp, hv]; rfl) ⟨p, h1, h2, rfl⟩)
        | (obtain ⟨cs, h1, h2⟩ := hx
           subst h1
           exact NextOK.same hR (v := .func _ #[] _) (by simp only [execOp, hv]; rfl) ⟨cs, rfl, h2⟩)
    | b _ => exact trivial
    | i _ _ => exact trivial
  | agg _ => exact trivial
  | tup _ => exact trivial
  | any => exact trivial
end
end Go.Eng

/- The engine's copies, made slices, functions and calls. -/
namespace Go.Eng
open Go

section
variable {P : Program} {m : Nat} {β : Pl} {H : Hp} {w : World}

theorem copy_min (a b : Nat) : ifE (Nat.ble a b) a b = Nat.min a b := by
  rw [ifE_eq]
  show _ = min a b
  by_cases h : a ≤ b
  · rw [if_pos (Nat.ble_eq_true_of_le h)]; omega
  · rw [if_neg (fun hh => h (Nat.le_of_ble_eq_true hh))]; omega

theorem copy_ok (hR : Rel m β H w) (hm : m ≤ m) {t ty : TypeId} {x y : AV} {v u : Value} (hx : AR β x v) (hy : AR β y u) :
    NextOK P m β H w (doCopy P H t x y) ((do let z ← Builtin.copy_ #[t, t] ty #[v, u]; pure (Next.value z) : Sem Next).run P w) := by
  unfold doCopy
  refine NextOK.nd fun es hes => ?_
  obtain ⟨e, sz⟩ := es
  obtain ⟨hu, hs⟩ := elemT_ok hes
  obtain ⟨it, hit, hsz⟩ := info_of_size hs
  split
  · rename_i id g off len sz1 id2 g2 off2 len2 sz2
    refine NextOK.guard fun hc => NextOK.nd fun c hcc => ?_
    have c1 : sz1 = sz := Nat.eq_of_beq_eq_true (both_true hc).1
    have c2 : sz2 = sz := Nat.eq_of_beq_eq_true (both_true hc).2
    subst c1 c2
    rw [copy_min] at hcc
    obtain ⟨p, cap, o1, hp, hlen, hcap, rfl, hex⟩ := hx
    obtain ⟨p2, cap2, o2, hp2, hlen2, hcap2, rfl, hex2⟩ := hy
    obtain ⟨cells2, hD2, a3, a4, rfl⟩ := readAt_ok hcc
    have hr2 := hD2 hR hp2
    have hmin1 : Nat.min len2 len ≤ len2 := Nat.min_le_left _ _
    have hmin2 : Nat.min len2 len ≤ len := Nat.min_le_right _ _
    have hmul2 : Nat.min len2 len * sz2 ≤ len2 * sz2 := Nat.mul_le_mul_right _ hmin1
    have hmul1 : Nat.min len2 len * sz2 ≤ len * sz2 := Nat.mul_le_mul_right _ hmin2
    obtain ⟨vs, hvl, hvs, hcell⟩ := row_read hr2 off2 (Nat.mul (Nat.min len2 len) sz2) (by show off2 + Nat.min len2 len * sz2 ≤ _; omega)
    have hvl' : vs.length = Nat.min len2 len * sz2 := hvl
    have hcl : ((cells2.drop off2).take (Nat.mul (Nat.min len2 len) sz2)).length = Nat.min len2 len * sz2 := by rw [← hvl']; exact hvs.length.symm
    unfold arrE
    cases hob : H.get id with
    | none => exact trivial
    | some ob =>
      cases ob with
      | oth q => exact trivial
      | ro q => exact trivial
      | arr cells e' lo gen =>
        refine NextOK.guard fun hd => ?_
        have d1 : g = gen := Nat.eq_of_beq_eq_true (both_true hd).1
        have d2 := Nat.le_of_ble_eq_true (both_true (both_true hd).2).1
        rw [copy_min, lenC_eq] at d2
        have d2' : off + Nat.min len2 len * sz2 ≤ cells.length := d2
        have d3 : lo ≤ gen := Nat.le_of_ble_eq_true (both_true (both_true hd).2).2
        subst d1
        rw [copy_min]
        intro hnx
        obtain ⟨hrow, hhi⟩ := obj_row hR hob d3 (Nat.le_refl _) hp
        obtain ⟨cur, hg, hfit, hrow'⟩ := row_splice hrow (hhi rfl) hvs (by rw [hcl]; exact d2')
        have hfirst : (Builtin.firstCells it.size (Nat.min len2 len) (.slice (some o2) len2 cap2)).run P w = .ok vs.toArray w := by
          refine run_firstCells_of (by rw [hsz]; exact hvl') (fun j q hj => ?_) len2
          have hlt := (List.getElem?_eq_some_iff.1 hj).1
          have ho' : o2 = ⟨p2.b, p2.o + off2, none⟩ := by
            rcases hex2 with h | h
            · have h0' : len2 = 0 := by omega
              rw [hvl', h0'] at hlt
              have : Nat.min 0 len = 0 := Nat.zero_min _
              rw [this] at hlt
              omega
            · exact h.1
          rw [ho']
          exact hcell j q hj
        have hst : (storeCells o1 vs).run P w = .ok () (w.setRow p.b (cur.toList.take (p.o + off + 0) ++ vs ++ cur.toList.drop (p.o + off + 0 + vs.length)).toArray) := by
          by_cases h0 : vs = []
          · subst h0
            simp only [List.append_nil, List.length_nil, Nat.add_zero, List.take_append_drop, Array.toArray_toList]
            rw [setRow_self w p.b cur e' (0, 0) hg]
            rfl
          · have ho' : o1 = ⟨p.b, p.o + off, none⟩ := by
              rcases hex with h | h
              · exfalso
                apply h0
                apply List.eq_nil_of_length_eq_zero
                rw [hvl']
                have h0' : len = 0 := by omega
                rw [h0']
                have : Nat.min len2 0 = 0 := Nat.min_zero _
                rw [this, Nat.zero_mul]
              · exact h.1
            rw [ho']
            exact run_storeCells_at P p.b (p.o + off) e' vs 0 cur w hg hfit hvs.oneCell
        have hmod := rel_mod hR hm hnx hob (.arr (splice cells off ((cells2.drop off2).take (Nat.mul (Nat.min len2 len) sz2))) e' g g) (β' := β)
          (w' := w.setRow p.b (cur.toList.take (p.o + off + 0) ++ vs ++ cur.toList.drop (p.o + off + 0 + vs.length)).toArray)
          (fun _ _ _ h => h) (fun _ _ _ => rfl) (by simp) (by simp) (by simp) (by simp)
          (fun b _ hb => setRow_other w p.b b _ (fun hh => hb g p ⟨d3, Nat.le_refl _⟩ hp hh.symm))
          (by rw [splice_eq]; exact obj_top (hR.obj id _ hob) hp hrow' (by rw [splice_len _ _ _ (by rw [hcl]; exact d2')]; exact hhi rfl))
          (fun g0 p0 hg0 hp0 => .inr ⟨g, p, ⟨d3, Nat.le_refl _⟩, hp, by
            have : g0 = g := by have := hg0.1; have := hg0.2; omega
            subst this; rw [hp] at hp0; cases hp0; rfl⟩)
        refine ⟨.int .i64 (Nat.min len2 len), _, .inl ?_, Out.one rfl hmod⟩
        simp [Builtin.copy_, run_underlying hu, Builtin.lenOf, sizeOf, typeInfo, hit, hfirst, hst, goInt]
  · rename_i id g off len sz1
    obtain ⟨p, cap, o1, hp, hlen, hcap, rfl, hex⟩ := hx
    have hv : u = .slice none 0 0 := hy
    subst hv
    refine NextOK.same hR (v := .int .i64 0) ?_ rfl
    simp [Builtin.copy_, run_underlying hu, Builtin.lenOf, Builtin.firstCells, sizeOf, typeInfo, hit, storeCells, goInt]
  · rename_i id2 g2 off2 len2 sz2
    obtain ⟨p2, cap2, o2, hp2, hlen2, hcap2, rfl, hex2⟩ := hy
    have hv : v = .slice none 0 0 := hx
    subst hv
    refine NextOK.same hR (v := .int .i64 0) ?_ rfl
    have h0 : Nat.min len2 0 = 0 := Nat.min_zero _
    simp [Builtin.copy_, run_underlying hu, Builtin.lenOf, Builtin.firstCells, sizeOf, typeInfo, hit, goInt, loadCells, loadCellsFrom]
  · have hv : v = .slice none 0 0 := hx
    have hv' : u = .slice none 0 0 := hy
    subst hv hv'
    refine NextOK.same hR (v := .int .i64 0) ?_ rfl
    simp [Builtin.copy_, run_underlying hu, Builtin.lenOf, Builtin.firstCells, sizeOf, typeInfo, hit, goInt]
  · exact trivial

theorem makeSlice_ok (hR : Rel m β H w) (hm : m ≤ m) {t : TypeId} {l c : AV} {v u : Value} (hl : AR β l v) (hc : AR β c u) :
    NextOK P m β H w (doMakeSlice P H t l c) ((do let z ← Instr.makeSlice t v u; pure (Next.value z) : Sem Next).run P w) := by
  unfold doMakeSlice
  refine NextOK.nd fun es hes => NextOK.nd fun by_ hby => NextOK.nd fun z hz => intE_ok hl trivial fun kl n hn => intE_ok hc trivial fun kc j hj => NextOK.nd fun n' hn' => NextOK.nd fun j' hj' => NextOK.guard fun hg => ?_
  obtain ⟨e, sz⟩ := es
  obtain ⟨hu, hs⟩ := elemT_ok hes
  obtain ⟨ho, hnt, it, hit, hiz⟩ := zeroT_ok hz
  obtain ⟨it2, hit2, hsz⟩ := info_of_size hs
  obtain ⟨it3, hit3, hbs⟩ := info_of_bytes hby
  simp only at hit hit2 hit3
  rw [hit] at hit2 hit3
  cases hit2; cases hit3
  have hn' := natOf_ok hn'
  have hj' := natOf_ok hj'
  subst hn hj hn' hj'
  have g1 : n' ≤ j' := Nat.le_of_ble_eq_true (both_true hg).1
  have g2 : j' ≤ 1073741824 := Nat.le_of_ble_eq_true (both_true (both_true hg).2).1
  have g3 : j' * by_ ≤ 140737488355328 := Nat.le_of_ble_eq_true (both_true (both_true (both_true hg).2).2).1
  have g4 : lenC (ofValue z).cells = sz := Nat.eq_of_beq_eq_true (both_true (both_true (both_true hg).2).2).2
  intro hnx
  have hnx' : H.nx + 1 ≤ m := hnx
  have hzc : CRs β (ofValue z).cells z.cells.toList := (AR_ofValue ho).cells (AR_noTup hnt)
  have hzs : z.cells.size = sz := by rw [← g4, lenC_eq]; simpa using hzc.length
  have hrun := run_make (P := P) w t e it z hu hit hiz kl kc n' j' (by omega) (by omega) (by rw [hbs, ← Int.natCast_mul, Nat.mul_comm]; omega) (by omega)
  have hcs : CRs β (repl (ofValue z).cells j') (madeCells z.cells (j' * it.size)).toList := by
    have := repl_ok hzc j'
    rw [hzs] at this
    unfold madeCells
    rw [hsz, hzs]
    exact this
  have hnew := rel_row hR hm (by omega) (repl (ofValue z).cells j') (madeCells z.cells (j' * it.size)) e hcs w rfl rfl rfl rfl #[]
  refine ⟨.slice (some ⟨w.heap.size, 0, none⟩) n' j', _, .inl ?_, Out.one ?_ (by simpa using hnew)⟩
  · simp only [Sem.run_bind, hrun, Result.andThen_ok, Int.toNat_natCast]
    rfl
  · refine ⟨_, j', _, plus_same _ _ _ _, ?_, g1, rfl, .inr ⟨rfl, ?_⟩⟩
    · show 0 + n' * sz ≤ (repl (ofValue z).cells j').length
      have : n' * sz ≤ j' * sz := Nat.mul_le_mul_right _ g1
      rw [repl_len, ← lenC_eq, g4]; omega
    · show 0 + 0 + j' * sz ≤ (madeCells z.cells (j' * it.size)).size + 0
      rw [size_madeCells, hsz]; omega

theorem capsOf_ok : ∀ {l : List AV} {vs : List Value} {cs : List (Nat × Nat × Nat × Nat)}, capsOf l = some cs → ARs β l vs →
    vs.length = cs.length ∧ ∀ (k : Nat) (c : Nat × Nat × Nat × Nat) (v : Value), cs[k]? = some c → vs[k]? = some v → ∃ p, β c.1 c.2.1 = some p ∧ c.2.2.1 + c.2.2.2 ≤ p.hi ∧ v = .pointer (some ⟨p.b, p.o + c.2.2.1, none⟩)
  | [], vs, cs, h, hr => by
    cases h
    cases vs with
    | nil => exact ⟨rfl, fun k c v hc _ => by simp at hc⟩
    | cons => exact hr.elim
  | x :: l, vs, cs, h, hr => by
    cases vs with
    | nil => exact hr.elim
    | cons v vs =>
      unfold capsOf at h
      split at h
      · rename_i heq
        cases heq
      · rename_i id g off lim l' heq
        cases heq
        split at h
        · rename_i r hr'
          cases h
          obtain ⟨h1, h2⟩ := capsOf_ok hr' hr.2
          refine ⟨by simp [h1], fun k c u hc hu => ?_⟩
          cases k with
          | zero =>
            simp at hc hu
            subst hc hu
            exact hr.1
          | succ k => exact h2 k c u (by simpa using hc) (by simpa using hu)
        · cases h
      · cases h

theorem evs_ok {tm : PT AV} {a : Act} (htm : ∀ t, AR β (optE (tm.get t) undefA fun v => v) (a.tmps.getD t undef)) : ∀ (l : List Operand), ARs β (evs l tm) (l.map a.eval)
  | [] => trivial
  | x :: l => ⟨ev_ok htm x, evs_ok htm l⟩

theorem capArgs_ok : ∀ {cs : List (Nat × Nat × Nat × Nat)} {vs : List Value}, vs.length = cs.length →
    (∀ (k : Nat) (c : Nat × Nat × Nat × Nat) (v : Value), cs[k]? = some c → vs[k]? = some v → ∃ p, β c.1 c.2.1 = some p ∧ c.2.2.1 + c.2.2.2 ≤ p.hi ∧ v = .pointer (some ⟨p.b, p.o + c.2.2.1, none⟩)) → ARs β (capArgs cs) vs
  | [], [], _, _ => trivial
  | (id, g, off, lim) :: cs, v :: vs, hl, h => ⟨h 0 _ _ rfl rfl, capArgs_ok (by simpa using hl) fun k c u hc hu => h (k + 1) c u (by simpa using hc) (by simpa using hu)⟩
  | [], _ :: _, hl, _ => by simp at hl
  | _ :: _, [], hl, _ => by simp at hl

theorem makeFunc_ok (hR : Rel m β H w) {tm : PT AV} {a : Act} (htm : ∀ t, AR β (optE (tm.get t) undefA fun v => v) (a.tmps.getD t undef)) (f : FuncId) (caps : Array Operand) :
    NextOK P m β H w (nd (capsOf (evs caps.toList tm)) "makeFunc - captured" fun cs => .val (.one (.o (.clo f cs))) H) ((do let z ← Instr.makeFunc (.func f) (#[].map a.eval) (caps.map a.eval); pure (Next.value z) : Sem Next).run P w) := by
  refine NextOK.nd fun cs hcs => ?_
  obtain ⟨h1, h2⟩ := capsOf_ok hcs (evs_ok htm caps.toList)
  refine NextOK.same hR (v := .func (.func f) #[] (caps.map a.eval)) (by simp [Instr.makeFunc]) ⟨caps.toList.map a.eval, by rw [← Array.toList_map, Array.toArray_toList], h1, h2⟩

theorem makeMap_ok (hR : Rel m β H w) (hm : m ≤ m) (t : TypeId) :
    NextOK P m β H w (.val (.one (.o (.mp H.nx))) (H.new (.oth (.map [] 0)))) ((do let z ← Instr.makeMap t none; pure (Next.value z) : Sem Next).run P w) := by
  intro hnx
  have hnx' : H.nx + 1 ≤ m := hnx
  have hnew := rel_new hR hm (by omega) (.oth (.map [] 0)) ⟨w.heap.size, 0, 0, 0⟩ (w' := w.alloc (.map #[] 0)) (Nat.le_refl _) (by simp) rfl rfl rfl
    (fun b hb => RowKit.Below.heap_alloc w _ b hb) (fun g hg => hg) ⟨_, plus_same _ _ _ _, [], heap_alloc_new w _, trivial⟩
  exact ⟨.map (some w.heap.size), _, .inl rfl, Out.one ⟨_, plus_same _ _ _ _, rfl⟩ hnew⟩

theorem call_ok {f : AV} {args : List AV} {v : Value} {vs : List Value} (hf : AR β f v) (hargs : ARs β args vs) :
    NextOK P m β H w (doCall P f args) ((do let d ← Deferred.ofValue v vs.toArray; invoke d.target d.args : Sem Next).run P w) := by
  cases f with
  | one c =>
    cases c with
    | o q =>
      cases q <;> first
        | exact trivial
        | skip
      · rename_i g caps
        obtain ⟨cs, rfl, hl, hc⟩ := hf
        refine NextOK.guard fun hb => ?_
        refine ⟨vs ++ cs, ?_, hargs.append (capArgs_ok hl hc), hb⟩
        simp [Deferred.ofValue, invoke]
      · rename_i id
        obtain ⟨p, hp, rfl⟩ := hf
        exact ⟨p, vs, hp, hargs, by simp [Deferred.ofValue, invoke]⟩
    | b _ => exact trivial
    | i _ _ => exact trivial
  | agg _ => exact trivial
  | tup _ => exact trivial
  | any => exact trivial
end
end Go.Eng

/- The engine's maps. -/
namespace Go.Eng
open Go

theorem strE_some {α : Type} {x : AV} {f : List UInt8 → Option α} {r : α} (h : strE x none f = some r) : ∃ s, x = .one (.o (.str s)) ∧ f s = some r := by
  cases x with
  | one c =>
    cases c with
    | o q => cases q <;> first | exact ⟨_, rfl, h⟩ | cases h
    | b _ => cases h
    | i _ _ => cases h
  | agg _ => cases h
  | tup _ => cases h
  | any => cases h

theorem strE_true {x : AV} {f : List UInt8 → Bool} (h : strE x false f = true) : ∃ s, x = .one (.o (.str s)) ∧ f s = true := by
  cases x with
  | one c =>
    cases c with
    | o q => cases q <;> first | exact ⟨_, rfl, h⟩ | cases h
    | b _ => cases h
    | i _ _ => cases h
  | agg _ => cases h
  | tup _ => cases h
  | any => cases h

theorem intE_some {α : Type} {x : AV} {f : IntKind → Int → Option α} {r : α} (h : intE x none f = some r) : ∃ k n, x = .one (.i k n) ∧ f k n = some r := by
  cases x with
  | one c =>
    cases c with
    | o q => cases h
    | b _ => cases h
    | i _ _ => exact ⟨_, _, rfl, h⟩
  | agg _ => cases h
  | tup _ => cases h
  | any => cases h

theorem intE_true {x : AV} {f : IntKind → Int → Bool} (h : intE x false f = true) : ∃ k n, x = .one (.i k n) ∧ f k n = true := by
  cases x with
  | one c =>
    cases c with
    | o q => cases h
    | b _ => cases h
    | i _ _ => exact ⟨_, _, rfl, h⟩
  | agg _ => cases h
  | tup _ => cases h
  | any => cases h

theorem optE_some' {α γ : Type} {x : Option α} {f : α → Option γ} {r : γ} (h : optE x none f = some r) : ∃ a, x = some a ∧ f a = some r := by
  cases x with
  | none => cases h
  | some a => exact ⟨a, rfl, h⟩

theorem optE_true {α : Type} {x : Option α} {f : α → Bool} (h : optE x false f = true) : ∃ a, x = some a ∧ f a = true := by
  cases x with
  | none => cases h
  | some a => exact ⟨a, rfl, h⟩

section
variable {P : Program} {m : Nat} {β : Pl} {H : Hp} {w : World}

theorem keyKind_ok (kt : TypeId) :
    match keyKind P kt with
    | 0 => P.underlying kt = some .string
    | 1 => ∃ k, P.underlying kt = some (.int k)
    | 2 => ∃ d, P.underlying kt = some d ∧ ∀ a b, Instr.sameNow d a b = none
    | _ => True := by
  unfold keyKind
  cases h : P.underlying kt with
  | none => exact trivial
  | some d => cases d <;> first | exact trivial | rfl | exact ⟨_, rfl⟩ | exact ⟨_, rfl, fun a b => by cases a <;> cases b <;> rfl⟩

theorem checkKey_plain (empty : Bool) (d : Nat) {t : TypeId} (v : Value) (h : P.underlying t = some .string ∨ ∃ k, P.underlying t = some (.int k)) : (Instr.checkKey empty (d + 1) t v).run P w = .ok () w := by
  rcases h with h | ⟨k, h⟩ <;> simp [Instr.checkKey, run_underlying h]

theorem okKey_ok {empty : Bool} {kt : TypeId} {k : AV} {v : Value} (hk : AR β k v) (h : okKey P empty kt k = some ()) : (Instr.checkKey empty 10000 kt v).run P w = .ok () w := by
  have hkk := keyKind_ok (P := P) kt
  unfold okKey at h
  match hn : keyKind P kt with
  | 0 => rw [hn] at hkk; exact checkKey_plain empty 9999 v (.inl hkk)
  | 1 => rw [hn] at hkk; exact checkKey_plain empty 9999 v (.inr hkk)
  | 2 =>
    rw [hn] at h
    obtain ⟨u, hu, hr⟩ := optE_some' h
    rw [AV.val?_ok hu hk]
    exact pureRun_ok hr w
  | n + 3 => rw [hn] at h; cases h
def EqR (P : Program) (kt : TypeId) (v u : Value) (b : Bool) : Prop :=
  match keyKind P kt with
  | 0 => ∃ x y, v = .string x ∧ u = .string y ∧ b = (x == y)
  | 1 => ∃ k x y, v = .int k x ∧ u = .int k y ∧ b = (x == y)
  | 2 => pureRun P (Op.equal kt v u) = some b
  | _ => False

theorem bytes_beq (x y : List UInt8) : (ByteArray.mk x.toArray == ByteArray.mk y.toArray) = (x == y) := by
  show (x.toArray == y.toArray) = _
  simp

theorem keyEq_ok {kt : TypeId} {a b : AV} {v u : Value} (ha : AR β a v) (hb : AR β b u) {r : Bool} (h : keyEq P kt a b = some r) : EqR P kt v u r := by
  unfold keyEq at h
  unfold EqR
  match hn : keyKind P kt with
  | 0 =>
    rw [hn] at h
    obtain ⟨x, hx, h1⟩ := strE_some h
    obtain ⟨y, hy, h2⟩ := strE_some h1
    subst hx hy
    cases h2
    exact ⟨_, _, ha, hb, by rw [lEq_eq, bytes_beq]⟩
  | 1 =>
    rw [hn] at h
    obtain ⟨k, x, hx, h1⟩ := intE_some h
    obtain ⟨k', y, hy, h2⟩ := intE_some h1
    subst hx hy
    rw [ifE_eq] at h2
    split at h2
    · rename_i hk
      have := sameKind_eq hk
      subst this
      cases h2
      exact ⟨k, x, y, ha, hb, iEq_eq _ _⟩
    · cases h2
  | 2 =>
    rw [hn] at h
    obtain ⟨x, hx, h1⟩ := optE_some' h
    obtain ⟨y, hy, h2⟩ := optE_some' h1
    rw [AV.val?_ok hx ha, AV.val?_ok hy hb]
    exact h2
  | n + 3 => rw [hn] at h; cases h
inductive Scan (P : Program) (kt : TypeId) (v : Value) : List MapEntry → Option Nat → Prop
  | nil : Scan P kt v [] none
  | hit {e : MapEntry} {es : List MapEntry} : EqR P kt v e.key true → Scan P kt v (e :: es) (some 0)
  | miss {e : MapEntry} {es : List MapEntry} {r : Option Nat} : EqR P kt v e.key false → Scan P kt v es r → Scan P kt v (e :: es) (r.map (· + 1))

theorem Scan.now {kt : TypeId} {v : Value} {d : TypeDesc} (hd : P.underlying kt = some d) (hk : keyKind P kt < 2) {ms : List MapEntry} {r : Option Nat} (h : Scan P kt v ms r) : ∀ j,
    match r with
    | none => Instr.findNow d v ms j = some none
    | some i => ∃ e, ms[i]? = some e ∧ Instr.findNow d v ms j = some (some (j + i, e.val)) := by
  have key : ∀ u b, EqR P kt v u b → Instr.sameNow d v u = some b := by
    intro u b hb
    have hkk := keyKind_ok (P := P) kt
    unfold EqR at hb
    match hn : keyKind P kt with
    | 0 =>
      rw [hn] at hb hkk
      rw [hd] at hkk; cases hkk
      obtain ⟨x, y, rfl, rfl, rfl⟩ := hb
      rfl
    | 1 =>
      rw [hn] at hb hkk
      obtain ⟨k, hkk⟩ := hkk
      rw [hd] at hkk; cases hkk
      obtain ⟨k, x, y, rfl, rfl, rfl⟩ := hb
      simp [Instr.sameNow]
    | n + 2 => omega
  induction h with
  | nil => intro j; rfl
  | hit he => intro j; exact ⟨_, rfl, by simp [Instr.findNow, key _ _ he]⟩
  | miss he _ ih =>
    rename_i e es r _
    intro j
    have := ih (j + 1)
    cases r with
    | none => simpa [Instr.findNow, key _ _ he] using this
    | some i =>
      obtain ⟨e', h1, h2⟩ := this
      refine ⟨e', by simpa using h1, ?_⟩
      simp only [Instr.findNow, key _ _ he, h2]
      congr 3
      omega

theorem Scan.asking {kt : TypeId} {v : Value} (hk : keyKind P kt = 2) {ms : List MapEntry} {r : Option Nat} (h : Scan P kt v ms r) : ∀ j,
    match r with
    | none => (Instr.findAsking kt v ms j).run P w = .ok none w
    | some i => ∃ e, ms[i]? = some e ∧ (Instr.findAsking kt v ms j).run P w = .ok (some (j + i, e.val)) w := by
  have key : ∀ u b, EqR P kt v u b → (Op.equal kt v u).run P w = .ok b w := by
    intro u b hb
    unfold EqR at hb
    rw [hk] at hb
    exact pureRun_ok hb w
  induction h with
  | nil => intro j; rfl
  | hit he => intro j; exact ⟨_, rfl, by simp [Instr.findAsking, key _ _ he]⟩
  | miss he _ ih =>
    rename_i e es r _
    intro j
    have := ih (j + 1)
    cases r with
    | none => simpa [Instr.findAsking, key _ _ he] using this
    | some i =>
      obtain ⟨e', h1, h2⟩ := this
      refine ⟨e', by simpa using h1, ?_⟩
      simp only [Instr.findAsking, Sem.run_bind, key _ _ he, Result.andThen_ok, h2, Bool.false_eq_true, if_false]
      congr 3
      omega

theorem Scan.run {kt : TypeId} {v : Value} {ms : List MapEntry} {r : Option Nat} (h : Scan P kt v ms r) (hk : keyKind P kt ≤ 2) :
    match r with
    | none => (Instr.findKey kt v ms).run P w = .ok none w
    | some i => ∃ e, ms[i]? = some e ∧ (Instr.findKey kt v ms).run P w = .ok (some (i, e.val)) w := by
  have hkk := keyKind_ok (P := P) kt
  obtain ⟨d, hd⟩ : ∃ d, P.underlying kt = some d := by
    match hn : keyKind P kt with
    | 0 => rw [hn] at hkk; exact ⟨_, hkk⟩
    | 1 => rw [hn] at hkk; obtain ⟨k, hkk⟩ := hkk; exact ⟨_, hkk⟩
    | 2 => rw [hn] at hkk; obtain ⟨d, hkk, _⟩ := hkk; exact ⟨_, hkk⟩
    | n + 3 => omega
  rcases Nat.lt_or_ge (keyKind P kt) 2 with h2 | h2
  · have := Scan.now hd h2 h 0
    cases r with
    | none => simp only at this ⊢; simp [Instr.findKey, run_underlying hd, this]
    | some i =>
      obtain ⟨e, h1, h3⟩ := this
      exact ⟨e, h1, by simp [Instr.findKey, run_underlying hd, h3]⟩
  · have hk2 : keyKind P kt = 2 := by omega
    rw [hk2] at hkk
    obtain ⟨d', hd', hnone⟩ := hkk
    rw [hd] at hd'; cases hd'
    cases ms with
    | nil =>
      cases h
      simp [Instr.findKey, run_underlying hd, Instr.findNow]
    | cons e es =>
      have hn : Instr.findNow d v (e :: es) 0 = none := by simp [Instr.findNow, hnone]
      have := Scan.asking (w := w) hk2 h 0
      cases r with
      | none => simp only at this ⊢; simp [Instr.findKey, run_underlying hd, hn, this]
      | some i =>
        obtain ⟨e, h1, h3⟩ := this
        exact ⟨e, h1, by simp [Instr.findKey, run_underlying hd, hn, h3]⟩

theorem keyKind_le {kt : TypeId} {empty : Bool} {k : AV} (h : okKey P empty kt k = some ()) : keyKind P kt ≤ 2 := by
  unfold okKey at h
  match hn : keyKind P kt with
  | 0 => omega
  | 1 => omega
  | 2 => omega
  | n + 3 => rw [hn] at h; cases h

theorem findE_ok {kt : TypeId} {k : AV} {v : Value} (hk : AR β k v) : ∀ {l : List AEntry} {ms : List MapEntry}, ERs β l ms → ∀ {r : Option AEntry}, findE P kt k l = some r →
    ∃ i, Scan P kt v ms i ∧ match r with
      | none => i = none
      | some e => ∃ j, i = some j ∧ l[j]? = some e
  | [], [], _, r, h => by cases h; exact ⟨none, .nil, rfl⟩
  | a :: l, b :: ms, hE, r, h => by
    have h' : optE (keyEq P kt k a.key) none (fun b => ifE b (some (some a)) (findE P kt k l)) = some r := h
    obtain ⟨q, hq, h'⟩ := optE_some' h'
    have he := keyEq_ok hk hE.1.1 hq
    rw [ifE_eq] at h'
    cases q with
    | true =>
      cases h'
      exact ⟨some 0, .hit he, 0, rfl, rfl⟩
    | false =>
      obtain ⟨i, hs, hi⟩ := findE_ok hk hE.2 h'
      refine ⟨_, .miss he hs, ?_⟩
      cases r with
      | none => simp only at hi ⊢; rw [hi]; rfl
      | some e =>
        obtain ⟨j, rfl, hj⟩ := hi
        exact ⟨j + 1, rfl, by simpa using hj⟩
  | [], _ :: _, hE, _, _ => hE.elim
  | _ :: _, [], hE, _, _ => hE.elim

theorem ERs.at {l : List AEntry} {ms : List MapEntry} (h : ERs β l ms) {i : Nat} {e : AEntry} {me : MapEntry} (h1 : l[i]? = some e) (h2 : ms[i]? = some me) :
    AR β e.key me.key ∧ e.key.noTup = true ∧ AR β e.val me.val ∧ e.val.noTup = true ∧ me.born = e.born := by
  induction l generalizing ms i with
  | nil => simp at h1
  | cons a l ih =>
    cases ms with
    | nil => exact h.elim
    | cons b ms =>
      cases i with
      | zero => simp at h1 h2; subst h1 h2; exact h.1
      | succ i => exact ih h.2 (by simpa using h1) (by simpa using h2)

theorem TR_cOfV {v : AV} {u : Value} (h : AR β v u) (hn : v.noTup = true) : TR β (cOfV v) u := by
  cases v with
  | one c => exact h
  | agg l => exact h
  | tup l => cases hn
  | any => cases hn

theorem lookOut_ok (hR : Rel m β H w) {ok : Bool} {v : AV} {u : Value} {b : Bool} (hv : AR β v u) {r : Result Next} (hr : r = .ok (.value (if ok then .tuple #[u, .bool b] else u)) w) : NextOK P m β H w (lookOut H ok v b) r := by
  cases ok with
  | false => exact NextOK.same hR hr hv
  | true =>
    refine NextOK.guard fun hn => NextOK.same hR hr ⟨[u, .bool b], ⟨TR_cOfV hv hn, rfl, trivial⟩, rfl⟩

theorem lookup_ok (hR : Rel m β H w) {t kt et : TypeId} (ht : mapT P t = some (kt, et)) {z : Value} (hz : zeroT P et = some z) {mp k : AV} {v u : Value} (hm : AR β mp v) (hk : AR β k u) (ok : Bool) :
    NextOK P m β H w (doLookup P H kt (ofValue z) mp k ok) ((do let y ← Instr.lookup t v u ok; pure (Next.value y) : Sem Next).run P w) := by
  have hu := mapT_ok ht
  obtain ⟨ho, hnt, it, hit, hiz⟩ := zeroT_ok hz
  unfold doLookup
  split
  · refine NextOK.nd fun _ hkey => ?_
    have hc := okKey_ok (P := P) (w := w) hk hkey
    have hv : v = .map none := hm
    subst hv
    have hf : (Instr.findKey kt u []).run P w = .ok none w := Scan.run .nil (keyKind_le hkey)
    refine lookOut_ok hR (u := z) (AR_ofValue ho) ?_
    simp [Instr.lookup, run_underlying hu, hc, hf, run_zeroValue_of hz]
  · rename_i id
    obtain ⟨p, hp, rfl⟩ := hm
    split
    · rename_i es clock hg
      obtain ⟨ms, h1, h2⟩ := map_get hR hg hp
      refine NextOK.nd fun _ hkey => ?_
      have hem : es.isEmpty = ms.isEmpty := by
        have := h2.length
        cases es <;> cases ms <;> first | rfl | simp at this
      have hc := okKey_ok (P := P) (w := w) hk hkey
      rw [hem] at hc
      split
      · rename_i e hf
        obtain ⟨i, hs, j, rfl, hj⟩ := findE_ok hk h2 hf
        obtain ⟨me, hme, hrun⟩ := Scan.run (w := w) hs (keyKind_le hkey)
        refine lookOut_ok hR (u := me.val) (h2.at hj hme).2.2.1 ?_
        simp [Instr.lookup, run_underlying hu, run_getObj_of h1, hc, hrun]
      · rename_i hf
        obtain ⟨i, hs, rfl⟩ := findE_ok hk h2 hf
        have hrun := Scan.run (w := w) hs (keyKind_le hkey)
        simp only at hrun
        refine lookOut_ok hR (u := z) (AR_ofValue ho) ?_
        simp [Instr.lookup, run_underlying hu, run_getObj_of h1, hc, hrun, run_zeroValue_of hz]
      · exact trivial
    · exact trivial
  · exact trivial
end
end Go.Eng

/- The engine's maps: changes and rounds. -/
namespace Go.Eng
open Go

section
variable {P : Program} {m : Nat} {β : Pl} {H : Hp} {w : World}
theorem rel_oth (hR : Rel m β H w) (hm : m ≤ m) (hnx : H.nx ≤ m) {id : Nat} {x : AOth} (ho : H.get id = some (.oth x)) (x' : AOth) {p : Place} (hp : β id 0 = some p) (w0 : World) (h0 : w0.heap = w.heap) (hos : w0.os = w.os) (htape : w0.tape = w.tape) (hout : w0.output = w.output)
    (o : Obj) (hx : ∀ w' : World, w'.heap[p.b]? = some o → OthR β w' p x') :
    Rel m β (H.mod id (.oth x')) { w0 with heap := w0.heap.setIfInBounds p.b o } ∧ Ext β H w β (H.mod id (.oth x')) { w0 with heap := w0.heap.setIfInBounds p.b o } := by
  have hlt : p.b < w.heap.size := by
    obtain ⟨q, hq, hqx⟩ := hR.obj id _ ho
    rw [hp] at hq; cases hq
    exact hqx.lt
  refine rel_mod hR hm hnx ho (.oth x') (fun _ _ _ h => h) (fun _ _ _ => rfl) (by simp [h0]) hos htape hout ?_ ?_ ?_
  · intro b hb hn
    have : p.b ≠ b := hn 0 p rfl hp
    show (w0.heap.setIfInBounds p.b o)[b]? = _
    rw [Array.getElem?_setIfInBounds_ne this, h0]
  · refine ⟨p, hp, hx _ ?_⟩
    show (w0.heap.setIfInBounds p.b o)[p.b]? = _
    rw [Array.getElem?_setIfInBounds_self, h0, if_pos hlt]
  · intro g q hg hq
    have hg' : g = 0 := hg
    subst hg'
    exact .inr ⟨0, p, rfl, hp, by rw [hp] at hq; cases hq; rfl⟩

theorem sameBits_str (n : Nat) (x y : ByteArray) : Instr.sameBits n (.string x) (.string y) = (x == y) := by cases n <;> rfl
theorem sameBits_int (n : Nat) (k k' : IntKind) (x y : Int) : Instr.sameBits n (.int k x) (.int k' y) = (k == k' && x == y) := by cases n <;> rfl

theorem sameKey_ok {kt : TypeId} {a b : AV} {v u : Value} (ha : AR β a v) (hb : AR β b u) (h : sameKey P kt a b = true) : Instr.sameBits 10000 v u = true := by
  unfold sameKey at h
  match hn : keyKind P kt with
  | 0 =>
    rw [hn] at h
    obtain ⟨x, hx, h1⟩ := strE_true h
    obtain ⟨y, hy, h2⟩ := strE_true h1
    subst hx hy
    have ha' : v = .string ⟨x.toArray⟩ := ha
    have hb' : u = .string ⟨y.toArray⟩ := hb
    subst ha' hb'
    rw [sameBits_str, bytes_beq, ← lEq_eq]
    exact h2
  | 1 =>
    rw [hn] at h
    obtain ⟨k, x, hx, h1⟩ := intE_true h
    obtain ⟨k', y, hy, h2⟩ := intE_true h1
    subst hx hy
    have ha' : v = .int k x := ha
    have hb' : u = .int k' y := hb
    subst ha' hb'
    obtain ⟨h3, h4⟩ := both_true h2
    have := sameKind_eq h3
    subst this
    rw [iEq_eq] at h4
    rw [sameBits_int]
    simpa using h4
  | n + 2 =>
    rw [hn] at h
    obtain ⟨x, hx, h1⟩ := optE_true h
    obtain ⟨y, hy, h2⟩ := optE_true h1
    rw [AV.val?_ok hx ha, AV.val?_ok hy hb]
    exact h2

theorem putE_ok {kt : TypeId} {k x : AV} {v u : Value} (hk : AR β k v) (hkn : k.noTup = true) (hx : AR β x u) (hxn : x.noTup = true) : ∀ {l : List AEntry} {ms : List MapEntry}, ERs β l ms → ∀ {r : Bool × List AEntry}, putE P kt k x l = some r →
    match r.1 with
    | false => Scan P kt v ms none
    | true => ∃ i me, Scan P kt v ms (some i) ∧ ms[i]? = some me ∧ Instr.sameBits 10000 me.key v = true ∧ ERs β r.2 (ms.modify i fun e => { e with key := v, val := u })
  | [], [], _, r, h => by cases h; exact .nil
  | a :: l, b :: ms, hE, r, h => by
    have h' : optE (keyEq P kt k a.key) none (fun b => ifE b (ifE (sameKey P kt a.key k) (some (true, ⟨k, x, a.born⟩ :: l)) none) (optE (putE P kt k x l) none fun r => some (r.1, a :: r.2))) = some r := h
    obtain ⟨q, hq, h1⟩ := optE_some' h'
    have he := keyEq_ok hk hE.1.1 hq
    rw [ifE_eq] at h1
    cases q with
    | true =>
      rw [if_pos rfl, ifE_eq] at h1
      split at h1
      · rename_i hs
        cases h1
        refine ⟨0, b, .hit he, rfl, sameKey_ok hE.1.1 hk hs, ?_⟩
        exact ⟨⟨hk, hkn, hx, hxn, hE.1.2.2.2.2⟩, hE.2⟩
      · cases h1
    | false =>
      obtain ⟨r', hr', h2⟩ := optE_some' h1
      cases h2
      have := putE_ok hk hkn hx hxn hE.2 hr'
      obtain ⟨b1, l1⟩ := r'
      cases b1 with
      | false => exact .miss he this
      | true =>
        obtain ⟨i, me, h3, h4, h5, h6⟩ := this
        refine ⟨i + 1, me, .miss he h3, by simpa using h4, h5, ?_⟩
        simp only [List.modify_succ_cons]
        exact ⟨hE.1, h6⟩
  | [], _ :: _, hE, _, _ => hE.elim
  | _ :: _, [], hE, _, _ => hE.elim

theorem ERs.append {l l' : List AEntry} {ms ms' : List MapEntry} (h : ERs β l ms) (h' : ERs β l' ms') : ERs β (l ++ l') (ms ++ ms') := by
  induction l generalizing ms with
  | nil => cases ms with | nil => exact h' | cons => exact h.elim
  | cons c l ih => cases ms with | nil => exact h.elim | cons v ms => exact ⟨h.1, ih h.2⟩

theorem mapUpdate_ok (hR : Rel m β H w) (hm : m ≤ m) {t kt et : TypeId} (ht : mapT P t = some (kt, et)) {mp k x : AV} {v u y : Value} (hmp : AR β mp v) (hk : AR β k u) (hx : AR β x y) :
    NextOK P m β H w (doMapUpdate P H kt mp k x) ((do Instr.mapUpdate t v u y; pure Next.skip : Sem Next).run P w) := by
  have hu := mapT_ok ht
  unfold doMapUpdate
  split
  · rename_i id
    obtain ⟨p, hp, rfl⟩ := hmp
    split
    · rename_i es clock hg
      obtain ⟨ms, h1, h2⟩ := map_get hR hg hp
      refine NextOK.nd fun _ hkey => NextOK.guard fun hnt => NextOK.nd fun r hr => ?_
      have hc := okKey_ok (P := P) (w := w) hk hkey
      have hput := putE_ok hk (both_true hnt).1 hx (both_true hnt).2 h2 hr
      obtain ⟨b, l⟩ := r
      cases b with
      | false =>
        have hrun := Scan.run (w := w) hput (keyKind_le hkey)
        simp only at hrun
        intro hnx
        have hset : ∀ o, (setObj p.b o).run P w = _ := fun o => MapKept.run_setObj_map o h1
        refine ⟨undef, _, .inr ⟨?_, rfl⟩, Out.one ⟨[], trivial, rfl⟩ (rel_oth hR hm hnx hg _ hp w rfl rfl rfl rfl (.map (ms.toArray.push { key := u, val := y, born := clock }) (clock + 1)) ?_)⟩
        · simp [Instr.mapUpdate, run_underlying hu, run_getObj_of h1, hc, hrun, hset]
        · intro w' hw'
          refine ⟨ms ++ [{ key := u, val := y, born := clock }], by rw [hw']; simp, ?_⟩
          exact h2.append ⟨⟨hk, (both_true hnt).1, hx, (both_true hnt).2, rfl⟩, trivial⟩
      | true =>
        obtain ⟨i, me, h3, h4, h5, h6⟩ := hput
        obtain ⟨me', hme', hrun⟩ := Scan.run (w := w) h3 (keyKind_le hkey)
        intro hnx
        have hset : ∀ o, (setObj p.b o).run P w = _ := fun o => MapKept.run_setObj_map o h1
        refine ⟨undef, _, .inr ⟨?_, rfl⟩, Out.one ⟨[], trivial, rfl⟩ (rel_oth hR hm hnx hg _ hp w rfl rfl rfl rfl (.map (ms.toArray.modify i fun e => { e with key := u, val := y }) clock) ?_)⟩
        · simp [Instr.mapUpdate, run_underlying hu, run_getObj_of h1, hc, hrun, h4, Instr.keyThatStays, h5, hset]
        · intro w' hw'
          exact ⟨ms.modify i fun e => { e with key := u, val := y }, by rw [hw']; simp, h6⟩
    · exact trivial
  · exact trivial

theorem range_ok (hR : Rel m β H w) (hm : m ≤ m) {t kt et : TypeId} (ht : mapT P t = some (kt, et)) {x : AV} {v : Value} (hx : AR β x v) :
    NextOK P m β H w (doRange H x) ((do let y ← Instr.range t v; pure (Next.value y) : Sem Next).run P w) := by
  have hu := mapT_ok ht
  unfold doRange
  split
  · have hv : v = .map none := hx
    subst hv
    intro hnx
    have hnx' : H.nx + 1 ≤ m := hnx
    have hnew := rel_new hR hm (by omega) (.oth (.iter none 0 [] 0)) ⟨w.heap.size, 0, 0, 0⟩ (w' := w.alloc (.mapIter none 0 #[] 0)) (Nat.le_refl _) (by simp) rfl rfl rfl
      (fun b hb => RowKit.Below.heap_alloc w _ b hb) (fun g hg => hg) ⟨_, plus_same _ _ _ _, heap_alloc_new w _⟩
    refine ⟨.pointer (some ⟨w.heap.size, 0, none⟩), _, .inl ?_, Out.one ⟨_, plus_same _ _ _ _, rfl⟩ hnew⟩
    simp only [Sem.run_bind, run_range_nilMap w t kt et hu, Result.andThen_ok]
    rfl
  · rename_i id
    obtain ⟨p, hp, rfl⟩ := hx
    split
    · rename_i es clock hg
      obtain ⟨ms, h1, h2⟩ := map_get hR hg hp
      intro hnx
      have hnx' : H.nx + 1 ≤ m := hnx
      have hne : ¬ (id = H.nx ∧ (0 : Nat) = 0) := by have := hR.id_lt hg; omega
      have hnew := rel_new hR hm (by omega) (.oth (.iter (some id) clock [] clock)) ⟨w.heap.size, 0, 0, 0⟩ (w' := w.alloc (.mapIter (some p.b) clock #[] clock)) (Nat.le_refl _) (by simp) rfl rfl rfl
        (fun b hb => RowKit.Below.heap_alloc w _ b hb) (fun g hg => hg) ⟨_, plus_same _ _ _ _, p, by rw [plus_other _ _ _ _ hne]; exact hp, heap_alloc_new w _⟩
      refine ⟨.pointer (some ⟨w.heap.size, 0, none⟩), _, .inl ?_, Out.one ⟨_, plus_same _ _ _ _, rfl⟩ hnew⟩
      simp only [Sem.run_bind, run_range_map w t kt et p.b ms.toArray clock hu h1, Result.andThen_ok]
      rfl
    · exact trivial
  · exact trivial

theorem ERs.filter {f : AEntry → Bool} {g : MapEntry → Bool} (hfg : ∀ e me, me.born = e.born → f e = g me) : ∀ {l : List AEntry} {ms : List MapEntry}, ERs β l ms → ERs β (l.filter f) (ms.filter g)
  | [], [], _ => trivial
  | a :: l, b :: ms, h => by
    have h1 := hfg a b h.1.2.2.2.2
    have ih := ERs.filter hfg h.2
    rw [List.filter_cons, List.filter_cons, h1]
    cases g b with
    | true => exact ⟨h.1, ih⟩
    | false => exact ih
  | [], _ :: _, h => h.elim
  | _ :: _, [], h => h.elim

theorem ERs.all {f : AEntry → Bool} {g : MapEntry → Bool} (hfg : ∀ e me, me.born = e.born → f e = g me) : ∀ {l : List AEntry} {ms : List MapEntry}, ERs β l ms → l.all f = ms.all g
  | [], [], _ => rfl
  | a :: l, b :: ms, h => by
    rw [List.all_cons, List.all_cons, hfg a b h.1.2.2.2.2, ERs.all hfg h.2]
  | [], _ :: _, h => h.elim
  | _ :: _, [], h => h.elim

theorem ERs.isEmpty {l : List AEntry} {ms : List MapEntry} (h : ERs β l ms) : l.isEmpty = ms.isEmpty := by
  have := h.length
  cases l <;> cases ms <;> first | rfl | simp at this

theorem iter_get (hR : Rel m β H w) {id : Nat} {mm : Option Nat} {since last : Nat} {seen : List Nat} (h : H.get id = some (.oth (.iter mm since seen last))) {p : Place} (hp : β id 0 = some p) :
    match mm with
    | none => w.heap[p.b]? = some (.mapIter none since seen.toArray last)
    | some i => ∃ q, β i 0 = some q ∧ w.heap[p.b]? = some (.mapIter (some q.b) since seen.toArray last) := by
  obtain ⟨q, hq, h1⟩ := hR.obj id _ h
  rw [hp] at hq; cases hq
  cases mm with
  | none => exact h1
  | some i => exact h1

theorem run_next_pick {r b since last clock : Nat} {seen : List Nat} {ms : List MapEntry} (ty : TypeId) (h1 : w.heap[r]? = some (.mapIter (some b) since seen.toArray last)) (h2 : w.heap[b]? = some (.map ms.toArray clock))
    (hc : (!seen.isEmpty && !ms.isEmpty && ms.all (fun e => decide (e.born ≥ last))) = false) (hold : ∀ e ∈ ms.filter (fun e => !seen.contains e.born), e.born < since) :
    (ms.filter (fun e => !seen.contains e.born) = [] → (Instr.next (.pointer (some ⟨r, 0, none⟩)) false ty).run P w = .ok (.tuple #[.bool false]) w) ∧
    (ms.filter (fun e => !seen.contains e.born) ≠ [] → ∃ (j : Nat) (e : MapEntry) (w1 : World), (ms.filter (fun e => !seen.contains e.born))[j]? = some e ∧ w1.heap = w.heap ∧ w1.os = w.os ∧ w1.tape = w.tape ∧ w1.output = w.output ∧
      (Instr.next (.pointer (some ⟨r, 0, none⟩)) false ty).run P w = .ok (.tuple #[.bool true, e.key, e.val]) { w1 with heap := w1.heap.setIfInBounds r (.mapIter (some b) since (seen.toArray.push e.born) clock) }) := by
  have hc' : (!seen.toArray.isEmpty && !ms.toArray.isEmpty && ms.toArray.all (fun e => decide (e.born ≥ last))) = false := by simpa using hc
  have hf : ms.toArray.filter (fun e => !seen.toArray.contains e.born) = (ms.filter (fun e => !seen.contains e.born)).toArray := by simp
  simp only [Instr.next, Sem.run_bind, run_getObj_iter h1, run_getObj_of h2, Result.andThen_ok, hc', Bool.false_eq_true, if_false, hf]
  generalize ms.filter (fun e => !seen.contains e.born) = L at hold
  have e1 : L.toArray.filter (fun x => decide (x.born < since)) = L.toArray := Array.filter_eq_self.2 (fun x hx => by simpa using hold x (by simpa using hx))
  have e2 : L.toArray.filter (fun x => decide (x.born ≥ since)) = #[] := by
    rw [Array.filter_eq_empty_iff]
    intro x hx
    have := hold x (by simpa using hx)
    simp
    omega
  simp only [e1, e2, Array.append_empty]
  refine ⟨fun h0 => ?_, fun h0 => ?_⟩
  · subst h0
    simp [choose, Sem.run, Question.forced]
  · have hne : L.toArray.isEmpty = false := by cases L with | nil => exact absurd rfl h0 | cons a l => rfl
    have hpos : 0 < L.length := by cases L with | nil => exact absurd rfl h0 | cons a l => simp
    simp only [hne, Bool.false_eq_true, if_false, Array.empty_append, Array.size_map]
    have hch : ∃ (j : Nat) (w1 : World), j < L.length ∧ w1.heap = w.heap ∧ w1.os = w.os ∧ w1.tape = w.tape ∧ w1.output = w.output ∧ (choose (Question.mapNext L.toArray.size)).run P w = .ok j w1 := by
      by_cases hf : L.length ≤ 1
      · exact ⟨0, w, hpos, rfl, rfl, rfl, rfl, by simp [choose, Sem.run, Question.forced, hf]⟩
      · exact ⟨_, w.drew, Nat.mod_lt _ hpos, rfl, rfl, rfl, rfl, by
          simp only [choose, Sem.run, Question.forced, List.size_toArray, decide_eq_true_eq, hf, if_false, Question.cut]
          rfl⟩
    obtain ⟨j, w1, hj, a1, a2, a3, a4, hrun⟩ := hch
    refine ⟨j, L[j], w1, List.getElem?_eq_getElem hj, a1, a2, a3, a4, ?_⟩
    have hset : ∀ o', (setObj r o').run P w1 = .ok () { w1 with heap := w1.heap.setIfInBounds r o' } := fun o' => by
      simp only [setObj, Sem.run, a1, h1]
    simp only [hrun, Result.andThen_ok]
    have hget : (L.toArray.map some)[j]? = some (some L[j]) := by simp [hj]
    simp only [hget, Sem.run_bind, hset, Result.andThen_ok]
    rfl

theorem next_ok (hR : Rel m β H w) (hm : m ≤ m) {x : AV} {v : Value} (hx : AR β x v) (ty : TypeId) :
    NextOK P m β H w (doNext H x) ((do let y ← Instr.next v false ty; pure (Next.value y) : Sem Next).run P w) := by
  unfold doNext
  split
  · rename_i r
    obtain ⟨p, hp, rfl⟩ := hx
    split
    · rename_i a b c hg
      have h1 := iter_get hR hg hp
      simp only at h1
      refine NextOK.same hR (v := .tuple #[.bool false]) ?_ ⟨[.bool false], ⟨rfl, trivial⟩, rfl⟩
      simp [Instr.next, run_getObj_iter h1]
    · rename_i mi since seen last hg
      obtain ⟨q, hq, h1⟩ := iter_get hR hg hp
      split
      · rename_i es clock hgm
        obtain ⟨ms, h2, hE⟩ := map_get hR hgm hq
        refine NextOK.guard fun hcond => ?_
        have hc : (!seen.isEmpty && !ms.isEmpty && ms.all (fun e => decide (e.born ≥ last))) = false := by
          rw [← hE.isEmpty, ← ERs.all (f := fun e => Nat.ble last e.born) (g := fun e => decide (e.born ≥ last)) (fun e me hb => by rw [hb, Bool.eq_iff_iff]; simp) hE]
          cases hq : (!seen.isEmpty && !es.isEmpty && es.all (fun e => Nat.ble last e.born)) with
          | false => rfl
          | true => rw [hq] at hcond; cases hcond
        have hfE : ERs β (es.filter fun e => !seen.contains e.born) (ms.filter fun e => !seen.contains e.born) := hE.filter fun e me hb => by rw [hb]
        split
        · rename_i hnil
          rw [hnil] at hfE
          have hnil' : ms.filter (fun e => !seen.contains e.born) = [] := by
            cases hms : ms.filter (fun e => !seen.contains e.born) with
            | nil => rfl
            | cons => rw [hms] at hfE; exact hfE.elim
          refine NextOK.same hR (v := .tuple #[.bool false]) ?_ ⟨[.bool false], ⟨rfl, trivial⟩, rfl⟩
          have := (run_next_pick (P := P) ty h1 h2 hc (by rw [hnil']; intro e he; cases he)).1 hnil'
          simp only [Sem.run_bind, this, Result.andThen_ok]
          rfl
        · rename_i e l hcons
          refine NextOK.guard fun hborn => ?_
          rw [← hcons] at hborn ⊢
          intro hnx
          have hold : ∀ e ∈ ms.filter (fun e => !seen.contains e.born), e.born < since := by
            have := ERs.all (f := fun e => Nat.blt e.born since) (g := fun e => decide (e.born < since)) (fun e me hb => by rw [hb, Bool.eq_iff_iff, decide_eq_true_eq]; exact ⟨fun h => Nat.le_of_ble_eq_true h, fun h => Nat.ble_eq_true_of_le h⟩) hfE
            rw [hborn] at this
            intro e he
            simpa using List.all_eq_true.1 this.symm e he
          have hne : ms.filter (fun e => !seen.contains e.born) ≠ [] := by
            intro h
            rw [h, hcons] at hfE
            exact hfE
          obtain ⟨j, me, w1, hj, a1, a2, a3, a4, hrun⟩ := (run_next_pick (P := P) ty h1 h2 hc hold).2 hne
          have hjl : j < (es.filter fun e => !seen.contains e.born).length := by rw [← hfE.length]; exact (List.getElem?_eq_some_iff.1 hj).1
          have hje := List.getElem?_eq_getElem hjl
          obtain ⟨b1, b2, b3, b4, b5⟩ := hfE.at hje hj
          have hmem : (tripleOf ((es.filter fun e => !seen.contains e.born)[j]).key ((es.filter fun e => !seen.contains e.born)[j]).val, H.mod r (.oth (.iter (some mi) since (seen ++ [((es.filter fun e => !seen.contains e.born)[j]).born]) clock))) ∈
              (es.filter fun e => !seen.contains e.born).map (fun e => (tripleOf e.key e.val, H.mod r (.oth (.iter (some mi) since (seen ++ [e.born]) clock)))) := List.mem_map.2 ⟨_, List.getElem_mem hjl, rfl⟩
          have hnx' : H.nx ≤ m := hnx _ hmem
          refine ⟨.tuple #[.bool true, me.key, me.val], _, by simp only [Sem.run_bind, hrun, Result.andThen_ok]; rfl, _, hmem, β, ⟨[.bool true, me.key, me.val], ⟨rfl, TR_cOfV b1 b2, TR_cOfV b3 b4, trivial⟩, rfl⟩, ?_⟩
          refine rel_oth hR hm hnx' hg _ hp w1 a1 a2 a3 a4 _ fun w' hw' => ⟨q, hq, ?_⟩
          rw [hw', b5]
          simp
      · exact trivial
    · exact trivial
  · exact trivial

theorem ERs.find {st : Nat} : ∀ {l : List AEntry} {ms : List MapEntry}, ERs β l ms → ∀ {e : AEntry}, l.find? (fun e => Nat.beq e.born st) = some e →
    ∃ me, ms.find? (fun e => e.born == st) = some me ∧ AR β e.key me.key ∧ e.key.noTup = true ∧ AR β e.val me.val ∧ e.val.noTup = true
  | [], [], _, e, h => by cases h
  | a :: l, b :: ms, hE, e, h => by
    rw [List.find?_cons] at h ⊢
    have hb : (b.born == st) = Nat.beq a.born st := by rw [hE.1.2.2.2.2, Bool.eq_iff_iff, beq_iff_eq, Nat.beq_eq]
    rw [hb]
    cases hq : Nat.beq a.born st with
    | true =>
      rw [hq] at h
      cases h
      exact ⟨b, rfl, hE.1.1, hE.1.2.1, hE.1.2.2.1, hE.1.2.2.2.1⟩
    | false =>
      rw [hq] at h
      exact ERs.find hE.2 h
  | [], _ :: _, hE, _, _ => hE.elim
  | _ :: _, [], hE, _, _ => hE.elim

theorem entry_ok (hR : Rel m β H w) {x : AV} {v : Value} (hx : AR β x v) :
    NextOK P m β H w (doEntry H x) ((do let y ← Instr.entry v; pure (Next.value y) : Sem Next).run P w) := by
  unfold doEntry
  split
  · rename_i r
    obtain ⟨p, hp, rfl⟩ := hx
    split
    · rename_i mi since seen stepped hg
      obtain ⟨q, hq, h1⟩ := iter_get hR hg hp
      split
      · rename_i es clock hgm
        obtain ⟨ms, h2, hE⟩ := map_get hR hgm hq
        split
        · rename_i st hst
          refine NextOK.guard fun hcl => ?_
          have hcl : clock = stepped := Nat.eq_of_beq_eq_true hcl
          subst hcl
          split
          · rename_i e hfe
            obtain ⟨me, hme, b1, b2, b3, b4⟩ := hE.find hfe
            refine NextOK.same hR (v := .tuple #[me.key, me.val]) ?_ ⟨[me.key, me.val], ⟨TR_cOfV b1 b2, TR_cOfV b3 b4, trivial⟩, rfl⟩
            simp [Instr.entry, run_getObj_iter h1, run_getObj_of h2, hst, hme]
          · exact trivial
        · exact trivial
      · exact trivial
    · exact trivial
  · exact trivial
end
end Go.Eng

/- The engine's step: what an operation comes to is what the model's comes to. -/
namespace Go.Eng
open Go

section
variable {P : Program} {m : Nat} {β : Pl} {H : Hp} {w : World} {tm : PT AV} {r : Result Next}

theorem SF.nd {α : Type} {o : Option α} {s : String} {f : α → SF} (h : ∀ a, o = some a → NextOK P m β H w ((f a).run tm H) r) : NextOK P m β H w ((ndF o s f).run tm H) r := by
  cases o with
  | none => exact trivial
  | some a => exact h a rfl

theorem SF.ifE {b : Bool} {s : String} {f : SF} (h : b = true → NextOK P m β H w (f.run tm H) r) : NextOK P m β H w ((ifE b f (badF s)).run tm H) r := by
  cases b with
  | false => exact trivial
  | true => exact h rfl

theorem toList_two {α : Type} {a : Array α} {x y : α} (h : a.toList = [x, y]) : a = #[x, y] := by
  apply Array.ext'
  simpa using h
theorem map_two {α γ : Type} (f : α → γ) (x y : α) : (#[x, y] : Array α).map f = #[f x, f y] := by simp
theorem map_one {α γ : Type} (f : α → γ) (x : α) : (#[x] : Array α).map f = #[f x] := by simp
theorem toList_one {α : Type} {a : Array α} {x : α} (h : a.toList = [x]) : a = #[x] := by
  apply Array.ext'
  simpa using h

theorem builtin_ok (hR : Rel m β H w) (hm : m ≤ m) {a : Act} (htm : ∀ t, AR β (optE (tm.get t) undefA fun v => v) (a.tmps.getD t undef)) (o : Oper) (c : Call) (b : Builtin) (ho : o.op = .call c) (hc : c.callee = .builtin b) :
    NextOK P m β H w ((builtinF P o b c.args.toList c.argTypes.toList).run tm H) ((execOp a.eval o).run P w) := by
  obtain ⟨cs, he⟩ : ∃ cs, execOp a.eval o = builtin b c.argTypes o.type cs (c.args.map a.eval) := by
    refine ⟨c.args.map fun | .const _ => true | _ => false, ?_⟩
    obtain ⟨dst, op, type, pos, after, guard⟩ := o
    cases ho
    cases c
    cases hc
    rfl
  have hp := plain_ok (P := P) hR htm o (by intro cs bb h; rw [ho] at h; cases h)
  unfold builtinF
  split
  · rename_i s x t t2 h1 h2
    refine SF.ifE fun hq => ?_
    have := Nat.eq_of_beq_eq_true hq
    subst this
    rw [he, toList_two h1, toList_two h2, map_two]
    exact append_ok (P := P) (t := t) hR hm o.type (ev_ok htm s) (ev_ok htm x)
  · rename_i d s t t2 h1 h2
    refine SF.ifE fun hq => ?_
    have := Nat.eq_of_beq_eq_true hq
    subst this
    rw [he, toList_two h1, toList_two h2, map_two]
    exact copy_ok (P := P) (t := t) (ty := o.type) hR hm (ev_ok htm d) (ev_ok htm s)
  · rename_i x t h1 h2
    refine SF.nd fun k hk => ?_
    rw [he, toList_one h1, toList_one h2, map_one]
    exact len_ok (P := P) (t := t) (ty := o.type) hR hk (ev_ok htm x)
  · exact hp
  · exact hp
  · exact trivial

theorem callF_ok (hR : Rel m β H w) (hm : m ≤ m) {a : Act} (htm : ∀ t, AR β (optE (tm.get t) undefA fun v => v) (a.tmps.getD t undef)) (o : Oper) (c : Call) (ho : o.op = .call c) :
    NextOK P m β H w ((callF P o c).run tm H) ((execOp a.eval o).run P w) := by
  unfold callF
  split
  · rename_i f hc
    have he : execOp a.eval o = (do let d ← Deferred.ofValue (a.eval f) (c.args.toList.map a.eval).toArray; invoke d.target d.args) := by
      obtain ⟨dst, op, type, pos, after, guard⟩ := o
      cases ho
      cases c
      cases hc
      rw [← Array.toList_map, Array.toArray_toList]
      rfl
    rw [he]
    exact call_ok (ev_ok htm f) (evs_ok htm c.args.toList)
  · rename_i b hc
    exact builtin_ok hR hm htm o c b ho hc
  · exact trivial

theorem step_ok (hR : Rel m β H w) (hm : m ≤ m) {a : Act} (htm : ∀ t, AR β (optE (tm.get t) undefA fun v => v) (a.tmps.getD t undef)) (o : Oper) :
    NextOK P m β H w (opStep P tm H o) ((execOp a.eval o).run P w) := by
  have hp := fun hs => plain_ok (P := P) hR htm o hs
  have hcl := fun c hc => callF_ok (P := P) hR hm htm o c hc
  obtain ⟨dst, op, type, pos, after, guard⟩ := o
  unfold opStep
  cases op with
  | move x => exact move_ok hR htm x
  | assign x => exact move_ok hR htm x
  | pick c x y => exact pick_ok hR htm c x y
  | alloc e => exact SF.nd fun z hz => alloc_ok hR hm hz
  | box e x => exact box_ok hR hm e (ev_ok htm x)
  | build t parts => exact SF.nd fun z hz => SF.nd fun pl hpl => SF.nd fun ps hps => build_ok hR htm hz hpl hps
  | buildSlice t len parts => exact SF.nd fun es hes => SF.nd fun z hz => SF.ifE fun hg => SF.nd fun ps hps => buildSlice_ok hR hm htm hes hz (Nat.le_of_ble_eq_true (both_true hg).1) (by rw [← lenC_eq]; exact Nat.eq_of_beq_eq_true (both_true hg).2) hps
  | load t x => exact SF.nd fun p hl => load_ok hR (a := p.1) (n := p.2) hl (ev_ok htm x)
  | store t x y => exact SF.nd fun n hn => store_ok hR hm hn (ev_ok htm y) (ev_ok htm x)
  | nilCheck x => exact nilCheck_ok hR (ev_ok htm x) _ rfl
  | binOp op t x y c => exact bin_ok hR (ev_ok htm x) (ev_ok htm y) (hp (by simp))
  | unOp op t x => exact un_ok hR (ev_ok htm x) (hp (by simp))
  | convert s d x => exact hp (by simp)
  | fieldAddr s x f => exact SF.nd fun p hf => fieldAddr_ok hR (ft := p.2.1) hf (ev_ok htm x)
  | field t x f => exact SF.nd fun p hf => SF.nd fun b hb => field_ok hR (ft := p.2.1) hf hb (ev_ok htm x)
  | indexAddr t x i => exact SF.nd fun p hf => indexAddr_ok hR (e := p.1) hf (ev_ok htm x) (ev_ok htm i)
  | index t x i => exact index_ok hR (ev_ok htm x) (ev_ok htm i) (hp (by simp))
  | slice t x lo hi mx =>
    cases mx with
    | some _ => exact trivial
    | none =>
      cases he : elemT P t with
      | none =>
        have : stepF P ⟨dst, .slice t x lo hi none, type, pos, after, guard⟩ = .mk fun tm h => plainOp P tm h ⟨dst, .slice t x lo hi none, type, pos, after, guard⟩ := by
          simp [stepF, he]
        rw [this]
        exact hp (by simp)
      | some p =>
        have : stepF P ⟨dst, .slice t x lo hi none, type, pos, after, guard⟩ = .mk fun tm h => doSlice h p.2 ((opF x).ev tm) (lo.map (ev tm)) (hi.map (ev tm)) (plainOp P tm h ⟨dst, .slice t x lo hi none, type, pos, after, guard⟩) := by
          simp [stepF, he]
        rw [this]
        exact slice_ok hR htm (e := p.1) he (hp (by simp))
  | extract x i => exact extract_ok hR (ev_ok htm x) i
  | makeFunc fn first caps =>
    cases fn with
    | func f =>
      refine SF.ifE fun hg => ?_
      have : first = #[] := by simpa using hg
      subst this
      exact makeFunc_ok hR htm f caps
    | _ => exact trivial
  | makeMap t r =>
    cases r with
    | some _ => exact trivial
    | none => exact makeMap_ok hR hm t
  | makeSlice t l c => exact makeSlice_ok hR hm (ev_ok htm l) (ev_ok htm c)
  | lookup t x k ok => exact SF.nd fun p ht => SF.nd fun z hz => lookup_ok hR (kt := p.1) (et := p.2) ht hz (ev_ok htm x) (ev_ok htm k) ok
  | mapUpdate t x k y => exact SF.nd fun p ht => mapUpdate_ok hR hm (kt := p.1) (et := p.2) ht (ev_ok htm x) (ev_ok htm k) (ev_ok htm y)
  | insert t x k y => exact SF.nd fun p ht => mapUpdate_ok hR hm (kt := p.1) (et := p.2) ht (ev_ok htm x) (ev_ok htm k) (ev_ok htm y)
  | range t x => exact SF.nd fun p ht => range_ok hR hm (kt := p.1) (et := p.2) ht (ev_ok htm x)
  | next x b =>
    cases b with
    | true => exact trivial
    | false => exact next_ok hR hm (ev_ok htm x) type
  | entry x => exact entry_ok hR (ev_ok htm x)
  | call c => exact hcl c rfl
  | _ => exact trivial
end
end Go.Eng

