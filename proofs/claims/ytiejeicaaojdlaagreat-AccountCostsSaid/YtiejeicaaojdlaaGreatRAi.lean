/- A part of the proof: EngApp. No conditions. -/
import Derived.Test.YtiejeicaaojdlaaGreatRAh
namespace Go.Eng
open Go
theorem srcOf_slc {H : Hp} {v : AC} {sz n : Nat} {cells : List AC} (hv : SlC H v sz n cells) : srcOf H sz (.one v) = some (n, cells) := by
 rcases hv with ⟨hc, ⟨rfl, rfl⟩ | ⟨id, g, off, rfl, hid, row, hg, hle, hcut⟩⟩
 ·rw [Nat.zero_mul] at hc
  have hc := List.eq_nil_of_length_eq_zero hc
  subst hc
  rfl
 ·rw [srcOf_row hg hle, hcut]
theorem app_own {P : Program} {H : Hp} {t e : TypeId} {sz by_ n : Nat} {z : Value} {v : AC} {cells : List AC} (he : elemT P t = some (e, sz)) (hb : bytesT P e = some by_) (hz : zeroT P e = some z) (hzl : (ofValue z).cells.length = sz) (hsz : sz ≠ 0)
  (hv : SlC H v sz n cells) (h2 : n ≤ 140737488355328 ∧ n * by_ ≤ 140737488355328) : ∃ v' H' r', doAppend P H t (.one (.o .nilS)) (.one v) = .val (.one v') H' ∧ OwnR H' v' e sz n cells r' ∧ Gr H H' ∧ ∀ i, r' = some i → H.nx ≤ i := by
 have ha := append_new he hb hz hzl hsz (srcOf_slc hv) h2.1 h2.2
 rcases Nat.eq_zero_or_pos n with h0 | h0
 ·refine ⟨.o .nilS, H, none, ha.trans (if_pos h0), .inl ⟨rfl, h0, ?_, rfl⟩, Fr.refl _, fun _ h => by cases h⟩
  have := hv.1
  rw [h0, Nat.zero_mul] at this
  exact List.eq_nil_of_length_eq_zero this
 ·exact ⟨.o (.sl H.nx 0 0 n sz), H.new (.arr cells e 0 0), some H.nx, ha.trans (if_neg (by omega)), .inr ⟨H.nx, 0, 0, rfl, rfl, get_newE rfl, Nat.le_refl _, hv.1, Nat.lt_succ_self _⟩, (Fr.refl _).new _, fun i h => by cases h; exact Nat.le_refl _⟩
theorem app_empty {P : Program} {H : Hp} {t e : TypeId} {sz by_ n id : Nat} {z : Value} {v : AC} {cells : List AC} (he : elemT P t = some (e, sz)) (hb : bytesT P e = some by_) (hz : zeroT P e = some z) (hzl : (ofValue z).cells.length = sz) (hsz : sz ≠ 0)
  (hg : H.get id = some (.arr [] e 0 0)) (hid : id < H.nx) (hv : SlC H v sz n cells) (h2 : n ≤ 140737488355328 ∧ n * by_ ≤ 140737488355328) : ∃ v' H', doAppend P H t (.one (.o (.sl id 0 0 0 sz))) (.one v) = .val (.one v') H' ∧ OwnR H' v' e sz n cells (some id) ∧ Fr (fun i => i = id) H H' := by
 have ho : OwnR H (.o (.sl id 0 0 0 sz)) e sz 0 [] (some id) := .inr ⟨id, 0, 0, rfl, rfl, hg, Nat.le_refl _, by rw [Nat.zero_mul]; rfl, hid⟩
 have hs := srcOf_slc hv
 rcases Nat.eq_zero_or_pos n with h0 | h0
 ·subst h0
  have hc : cells = [] := by
   have := hv.1
   rw [Nat.zero_mul] at this
   exact List.eq_nil_of_length_eq_zero this
  subst hc
  refine ⟨.o (.sl id 0 0 0 sz), H, ?_, ho, Fr.refl _⟩
  have e1 : Nat.beq sz 0 = false := by
   cases h : Nat.beq sz 0 with
   | false => rfl
   | true => exact absurd (Nat.eq_of_beq_eq_true h) hsz
  have e3 : both (!Nat.beq sz 0) (Nat.beq (lenC (ofValue z).cells) sz) = true := by rw [e1, lenC_eq, hzl, Nat.beq_refl]; rfl
  have step : doAppend P H t (.one (.o (.sl id 0 0 0 sz))) (.one v) = appendTo H e sz by_ 0 [] (.one (.o (.sl id 0 0 0 sz))) := by
   unfold doAppend
   simp only [he, hb, hz, nd, e3, guardN, hs]
  rw [step]
  show arrE (H.get id) _ _ = _
  rw [hg]
  show guardN (both (Nat.beq sz sz) (both (Nat.beq e e) (both (Nat.ble 0 0) (both (Nat.ble 0 0) (both (Nat.ble (Nat.add 0 (Nat.mul 0 sz)) (lenC ([] : List AC))) (both (Nat.ble (Nat.add 0 0) 140737488355328) (Nat.ble (Nat.mul (Nat.add 0 0) by_) 140737488355328))))))) _
   (Eng.ifE (Nat.beq 0 0) _ (Eng.ifE (both (Nat.beq 0 0) (both (Nat.beq 0 0) (Nat.beq (Nat.mul 0 sz) (lenC ([] : List AC))))) _ _)) = _
  have z1 : Nat.mul 0 sz = 0 := Nat.zero_mul sz
  have z2 : Nat.mul (Nat.add 0 0) by_ = 0 := Nat.zero_mul by_
  rw [Nat.beq_refl, Nat.beq_refl, z1, z2]
  rfl
 ·obtain ⟨v', H', r', h1, h3, h4, h5⟩ := append_own (n := 0) he hb hz hzl hsz ho hs (by omega) hv.1 (by omega) (by rw [Nat.zero_add]; exact h2.2)
  rw [Nat.zero_add, List.nil_append] at h3
  rcases h5 with h5 | ⟨h5, _⟩
  ·cases h5
   exact ⟨v', H', h1, h3, h4.mono fun i h => by cases h; rfl⟩
  ·cases h5
theorem eql_sl_nil {H : Hp} {id g off n sz : Nat} {alt : ANext} {f : BF} : doBin H 1 .eql f (.one (.o (.sl id g off n sz))) (.one (.o .nilS)) alt = .val (.one (.b false)) H := rfl
theorem eql_nilS {H : Hp} {alt : ANext} {f : BF} : doBin H 1 .eql f (.one (.o .nilS)) (.one (.o .nilS)) alt = alt := rfl
def nilS2 (r : Bool) (H : Hp) (alt : ANext) (x y : AV) : ANext :=
 match x, y with
 | .one (.o .nilS), .one (.o .nilS) => .val (.one (.b r)) H
 | _, _ => alt
theorem nilS2_n {r : Bool} {H : Hp} {alt : ANext} : nilS2 r H alt (.one (.o .nilS)) (.one (.o .nilS)) = .val (.one (.b r)) H := rfl
theorem plain_nilS {P : Program} {tm : PT AV} {H : Hp} {d : Option Tmp} {t c : TypeId} {et : TypeId} {x y : Operand} {ty : TypeId} {pos : String} {af : Array Edge} {g : Option (Nat × Bool)} (h : P.underlying t = some (.slice et)) :
  plainOp P tm H ⟨d, .binOp .eql t x y c, ty, pos, af, g⟩ = nilS2 true H (plainAlt P tm H ⟨d, .binOp .eql t x y c, ty, pos, af, g⟩) (ev tm x) (ev tm y) := by
 unfold nilS2
 split
 ·rename_i hx hy
  have vx : (ev tm x).val? = some (.slice none 0 0) := by rw [hx]; rfl
  have vy : (ev tm y).val? = some (.slice none 0 0) := by rw [hy]; rfl
  have dx : valD (ev tm x) = .slice none 0 0 := by unfold valD; rw [vx]
  have dy : valD (ev tm y) = .slice none 0 0 := by unfold valD; rw [vy]
  unfold plainOp
  have e1 : ((⟨d, .binOp .eql t x y c, ty, pos, af, g⟩ : Oper).op.operands.toList.all fun x => (ev tm x).val?.isSome) = true := by
   show ([x, y].all fun x => (ev tm x).val?.isSome) = true
   simp only [List.all_cons, List.all_nil, vx, vy]; rfl
  rw [e1]
  have e2 : pureRun P (execOp (fun x => valD (ev tm x)) ⟨d, .binOp .eql t x y c, ty, pos, af, g⟩) = some (.value (.bool true)) := by
   show pureRun P (Sem.bind (Sem.bind (eqGuard .eql t x y (valD (ev tm x)) (valD (ev tm y))) fun _ => binOp .eql t (valD (ev tm x)) (valD (ev tm y))) fun v => Sem.pure (Next.value v)) = _
   rw [dx, dy, pureRun_bind, pureRun_bind]
   have hg : eqGuard .eql t x y (.slice none 0 0) (.slice none 0 0) = pure () := rfl
   rw [hg]
   show ((pureRun P (Sem.bind (Op.equalIn 10000 t (.slice none 0 0) (.slice none 0 0)) fun r => Sem.pure (Value.bool r)))).bind _ = _
   have he : pureRun P (Op.equalIn 10000 t (.slice none 0 0) (.slice none 0 0)) = some true := by
    unfold Op.equalIn
    rw [pureRun_bind', pureRun_under h]; rfl
   rw [pureRun_bind, he]; rfl
  rw [e2]
  rfl
 ·rfl
theorem nilSQ {P : Program} {t e : TypeId} (h1 : addrT P t = 1) (h : P.underlying t = some (.slice e)) : addrT P t = 1 ∧ (∀ (H : Hp) (alt : ANext) (f : BF), doBin H 1 .eql f (.one (.o .nilS)) (.one (.o .nilS)) alt = alt) ∧
  (∀ (H : Hp) (id g off n sz : Nat) (alt : ANext) (f : BF), doBin H 1 .eql f (.one (.o (.sl id g off n sz))) (.one (.o .nilS)) alt = .val (.one (.b false)) H) ∧
  (∀ (tm : PT AV) (H : Hp) (d : Option Tmp) (x y : Operand) (c ty : TypeId) (pos : String) (af : Array Edge) (g : Option (Nat × Bool)), plainOp P tm H ⟨d, .binOp .eql t x y c, ty, pos, af, g⟩ = nilS2 true H (plainAlt P tm H ⟨d, .binOp .eql t x y c, ty, pos, af, g⟩) (ev tm x) (ev tm y)) ∧
  (∀ (H : Hp) (alt : ANext), nilS2 true H alt (.one (.o .nilS)) (.one (.o .nilS)) = .val (.one (.b true)) H) :=
 ⟨h1, fun _ _ _ => eql_nilS, fun _ _ _ _ _ _ _ _ => eql_sl_nil, fun _ _ _ _ _ _ _ _ _ _ => plain_nilS h, fun _ _ => nilS2_n⟩
end Go.Eng
