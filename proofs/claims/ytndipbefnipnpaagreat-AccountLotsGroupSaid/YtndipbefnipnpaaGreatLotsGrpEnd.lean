/- The law AccountLotsGroup: for every three lists of lots it returns true, and its arguments read as they did. -/
import Derived.Test.YtndipbefnipnpaaGreatLotsGrp
import Derived.Test.YtndipbefnipnpaaGreatLotsStay
namespace Go.Proofs.YtndipbefnipnpaaGreat
open Go.ChangeShapes Go.WideShapes Go.ChangeAt Go.RowKit Go.Eng

set_option maxRecDepth 100000 in
theorem group_lifted (os : Os) (started : os.Started) (H : Type) (enc : TypeId × Value → H) :
    ReturnsInHanded {} Tryz.checked os 5 .any (Rows.accountLotsGroupSpec.pre6 enc Tryz.prog Tryz.f5 Rows.accountLotsGroupRow.domain false) (Rows.accountLotsGroupSpec.post enc Tryz.prog Tryz.f5 false true false false) := by
  refine returnsInHanded_of_change (C := Tryz.checked) Tryz.own started (by kernel_rfl) Tryz.func5
    (ChangeSpec.witness6 (enc := enc) (C := Tryz.checked) false ⟨#[], #[.slice none 0 0, .slice none 0 0, .slice none 0 0], []⟩ 8 (by kernel_rfl) (by kernel_rfl) (by kernel_rfl) (by kernel_rfl)) ?_
  intro W base args ds gs before hval0 hW hcnd0 _
  clear hcnd0
  have hval : ∀ (j : Nat) t v, Tryz.f5.params[j]? = some t → args[j]? = some v → Value.okWide Tryz.prog W .any base t v := hval0
  have hW' := hW
  obtain ⟨p, q, hA0, hV, rfl, hfz, hnd⟩ := hW
  have hA : DataW.TrodAll enc Tryz.prog W 0 (fun _ => true) true Tryz.f5.params.toList args.toList ds p := hA0
  rw [Tryz.params5] at hA hval
  have hAll := hA
  obtain ⟨v0, v1, v2, d0, d1, d2, p0, p1, p2, rfl, rfl, rfl, h0, h1, h2⟩ := trodAll_three hA
  obtain ⟨rfl, rfl⟩ := trodVars_none hV
  clear hA0 hval0
  simp only [List.append_nil] at hW' hfz
  obtain ⟨a, xa, ha⟩ := open_lots (hval 0 22 v0 rfl rfl) h0
  obtain ⟨b, xb, hb⟩ := open_lots (hval 1 22 v1 rfl rfl) h1
  obtain ⟨c, xc, hc⟩ := open_lots (hval 2 22 v2 rfl rfl) h2
  have hcall := calls_of_c1 (E := E2) envS2 (f := 5) (args := [.one (argV 0 xa a), .one (argV 1 xb b), .one (argV 2 xc c)]) (vs := [v0, v1, v2]) (w := W) (l := [xa, xb, xc])
    (fun i x hx => by
      match i, hx with
      | 0, hx => exact argL_row ha (by simpa using hx) _
      | 1, hx => exact argL_row hb (by simpa using hx) _
      | 2, hx => exact argL_row hc (by simpa using hx) _
      | i + 3, hx => simp at hx)
    ⟨argL_rel rfl ha, argL_rel rfl hb, argL_rel rfl hc, trivial⟩
    (group_c1 _ a b c _ _ _ (argL_sl rfl ha) (argL_sl rfl hb) (argL_sl rfl hc))
  refine hcall.mono fun e W' ⟨he, hw⟩ => ?_
  subst he
  have hlt : ∀ x ∈ p0 ++ p1 ++ p2, x.block < W.heap.size := fun x hx => hW'.lt x (by simpa using hx)
  exact ⟨_, rfl, law_post rfl hW' rfl (by kernel_rfl) rfl rfl rfl (grown_below hw) fun sp hsp => trodAll_stays Tryz.laidOut (grown_below hw) read22 (by simpa using hAll) (by simpa using hlt) hsp⟩
end Go.Proofs.YtndipbefnipnpaaGreat
