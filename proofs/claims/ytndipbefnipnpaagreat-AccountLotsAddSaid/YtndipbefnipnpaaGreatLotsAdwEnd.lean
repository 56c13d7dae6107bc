/- The law AccountLotsAdd: for every two lists of lots it returns true, and its arguments read as they did. -/
import Derived.Test.YtndipbefnipnpaaGreatLotsAdw
import Derived.Test.YtndipbefnipnpaaGreatLotsStay
import Derived.SizedLaws
namespace Go.Proofs.YtndipbefnipnpaaGreat
open Go.ChangeShapes Go.WideShapes Go.ChangeAt Go.RowKit Go.Eng

theorem bytesOf37 : Tryz.prog.bytesOf 37 = 24 := by kernel_rfl

/-- A list of lots that is an argument is not longer than its weight says. -/
theorem lots_weight {H : Type} {enc : TypeId × Value → H} {W : World} {v : Value} {d : DataW H} {p : List MemPlace} {l : List Lot} {x : Option ArgO} {B : Nat} (hd : DataW.Trod enc Tryz.prog W 0 (fun _ => true) true 22 v d p) (ha : ArgL W v l x)
    (hw : ∀ n ∈ d.weights Tryz.prog 22, n ≤ B) : l.length * 24 ≤ B := by
  rcases ha with ⟨_, _, rfl⟩ | ⟨a, _, _, _, _, cap, o', rfl, _, _⟩
  · simp
  · obtain ⟨fuel, hf⟩ := hd
    have hcells : (Value.slice (some ⟨a.p.b, o', none⟩) l.length cap).cells.toList = [.slice (some ⟨a.p.b, o', none⟩) l.length cap] := rfl
    rw [hcells] at hf
    rcases Deep.open_slice_pairs Tryz.underlying22 Tryz.underlying37 (by kernel_rfl) rfl rfl (by kernel_rfl) (by kernel_rfl) hf with ⟨hcs, _⟩ | ⟨a1, len', cap', m, n, V0, V1, D0, D1, P0, P1, hcs, _, hl, hm, hmm, hx, _⟩
    · cases hcs
    · cases hcs
      have hd' := congrArg Prod.fst hx
      simp only at hd'
      subst hd'
      have := hw ((l.length + (m - l.length)) * Tryz.prog.bytesOf 37) (by simp [DataW.weights, Tryz.underlying22])
      rw [bytesOf37] at this
      have h3 : l.length * 24 ≤ (l.length + (m - l.length)) * 24 := Nat.mul_le_mul_right _ (by omega)
      omega

theorem read4 : ∀ t ∈ [22, 22], Tryz.prog.readableRec t = true ∧ t < Tryz.prog.types.size := by
  intro t ht
  simp only [List.mem_cons, List.not_mem_nil, or_false, or_self] at ht
  subst ht
  exact read22 22 (by simp)

set_option maxRecDepth 100000 in
theorem add_lifted (os : Os) (started : os.Started) (H : Type) (enc : TypeId × Value → H) :
    ReturnsInHanded {} Tryz.checked os 4 .any (Rows.accountLotsAddSpec.pre6 enc Tryz.prog Tryz.f4 Rows.accountLotsAddRow.domain false) (Rows.accountLotsAddSpec.post enc Tryz.prog Tryz.f4 false true false false) := by
  refine returnsInHanded_of_change_sized (C := Tryz.checked) Tryz.own started (by kernel_rfl) Tryz.func4
    (ChangeSpec.witness6 (enc := enc) (C := Tryz.checked) false ⟨#[], #[.slice none 0 0, .slice none 0 0], []⟩ 8 (by kernel_rfl) (by kernel_rfl) (by kernel_rfl) (by kernel_rfl)) ?_
  intro W base args ds gs before hval0 hW hcnd0 hsz _
  clear hcnd0
  have hval : ∀ (j : Nat) t v, Tryz.f4.params[j]? = some t → args[j]? = some v → Value.okWide Tryz.prog W .any base t v := hval0
  have hW' := hW
  obtain ⟨p, q, hA0, hV, rfl, hfz, hnd⟩ := hW
  have hA : DataW.TrodAll enc Tryz.prog W 0 (fun _ => true) true Tryz.f4.params.toList args.toList ds p := hA0
  rw [Tryz.params4] at hA hval hsz
  have hAll := hA
  obtain ⟨v0, v1, d0, d1, p0, p1, rfl, rfl, rfl, h0, h1⟩ := trodAll_two hA
  obtain ⟨rfl, rfl⟩ := trodVars_none hV
  clear hA0 hval0
  simp only [List.append_nil] at hW' hfz
  obtain ⟨a, xa, ha⟩ := open_lots (hval 0 22 v0 rfl rfl) h0
  obtain ⟨b, xb, hb⟩ := open_lots (hval 1 22 v1 rfl rfl) h1
  have hlena : a.length * 24 ≤ 140737488355328 := Nat.le_trans (lots_weight h0 ha fun n hn => by
    have := List.all_eq_true.1 hsz n (DataW.weights_mem_each (j := 0) rfl rfl n hn)
    simpa using this) (by decide : reachBytes ≤ 140737488355328)
  have hlenb : b.length * 24 ≤ 140737488355328 := Nat.le_trans (lots_weight h1 hb fun n hn => by
    have := List.all_eq_true.1 hsz n (DataW.weights_mem_each (j := 1) rfl rfl n hn)
    simpa using this) (by decide : reachBytes ≤ 140737488355328)
  have hcall := calls_of_c1 (E := E2) envS2 (f := 4) (args := [.one (argV 0 xa a), .one (argV 1 xb b)]) (vs := [v0, v1]) (w := W) (l := [xa, xb])
    (fun i x hx => by
      match i, hx with
      | 0, hx => exact argL_row ha (by simpa using hx) _
      | 1, hx => exact argL_row hb (by simpa using hx) _
      | i + 2, hx => simp at hx)
    ⟨argL_rel rfl ha, argL_rel rfl hb, trivial⟩
    (addLaw_c1 _ a b _ _ (argL_sl rfl ha) (argL_sl rfl hb) hlena hlenb)
  refine hcall.mono fun e W' ⟨he, hw⟩ => ?_
  subst he
  have hlt : ∀ x ∈ p0 ++ p1, x.block < W.heap.size := fun x hx => hW'.lt x (by simpa using hx)
  exact ⟨_, rfl, law_post rfl hW' rfl (by kernel_rfl) rfl rfl rfl (grown_below hw) fun sp hsp => trodAll_stays Tryz.laidOut (grown_below hw) read4 (by simpa using hAll) (by simpa using hlt) hsp⟩
end Go.Proofs.YtndipbefnipnpaaGreat
