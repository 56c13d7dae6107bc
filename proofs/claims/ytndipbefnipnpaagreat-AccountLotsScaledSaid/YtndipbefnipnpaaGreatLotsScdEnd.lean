/- The law AccountLotsScder: for every three lists of lots it returns true, and its arguments read as they did. -/
import Derived.Test.YtndipbefnipnpaaGreatLotsScd
import Derived.Test.YtndipbefnipnpaaGreatLotsStay
namespace Go.Proofs.YtndipbefnipnpaaGreat
open Go.ChangeShapes Go.WideShapes Go.ChangeAt Go.RowKit Go.Eng

theorem read7 : ∀ t ∈ [22, 21, 21], Tryz.prog.readableRec t = true ∧ t < Tryz.prog.types.size := by
  have h : (Tryz.prog.readableRec 21 && decide (21 < Tryz.prog.types.size)) = true := by kernel_rfl
  rw [Bool.and_eq_true, decide_eq_true_eq] at h
  intro t ht
  simp only [List.mem_cons, List.not_mem_nil, or_false] at ht
  rcases ht with rfl | rfl | rfl
  · exact read22 22 (by simp)
  · exact h
  · exact h

set_option maxRecDepth 100000 in
theorem scaled_lifted (os : Os) (started : os.Started) (H : Type) (enc : TypeId × Value → H) :
    ReturnsInHanded {} Tryz.checked os 7 .any (Rows.accountLotsScaledSpec.pre6 enc Tryz.prog Tryz.f7 Rows.accountLotsScaledRow.domain false) (Rows.accountLotsScaledSpec.post enc Tryz.prog Tryz.f7 false true false false) := by
  refine returnsInHanded_of_change (C := Tryz.checked) Tryz.own started (by kernel_rfl) Tryz.func7
    (ChangeSpec.witness6 (enc := enc) (C := Tryz.checked) false ⟨#[], #[.slice none 0 0, .int .i32 0, .int .i32 0], []⟩ 8 (by kernel_rfl) (by kernel_rfl) (by kernel_rfl) (by kernel_rfl)) ?_
  intro W base args ds gs before hval0 hW hcnd0 _
  clear hcnd0
  have hval : ∀ (j : Nat) t v, Tryz.f7.params[j]? = some t → args[j]? = some v → Value.okWide Tryz.prog W .any base t v := hval0
  have hW' := hW
  obtain ⟨p, q, hA0, hV, rfl, hfz, hnd⟩ := hW
  have hA : DataW.TrodAll enc Tryz.prog W 0 (fun _ => true) true Tryz.f7.params.toList args.toList ds p := hA0
  rw [Tryz.params7] at hA hval
  have hAll := hA
  obtain ⟨v0, v1, v2, d0, d1, d2, p0, p1, p2, rfl, rfl, rfl, h0, h1, h2⟩ := trodAll_three hA
  obtain ⟨rfl, rfl⟩ := trodVars_none hV
  clear hA0 hval0
  simp only [List.append_nil] at hW' hfz
  obtain ⟨a, xa, ha⟩ := open_lots (hval 0 22 v0 rfl rfl) h0
  obtain ⟨j, rfl, rfl, rfl, hwj⟩ := open_int und21 (hval 1 21 v1 rfl rfl) h1
  obtain ⟨k, rfl, rfl, rfl, hwk⟩ := open_int und21 (hval 2 21 v2 rfl rfl) h2
  have rj : -2147483648 ≤ j ∧ j ≤ 2147483647 := by
    have : (decide (IntKind.i32.min ≤ j) && decide (j ≤ IntKind.i32.max)) = true := hwj
    rw [Bool.and_eq_true, decide_eq_true_eq, decide_eq_true_eq] at this
    exact this
  have rk : -2147483648 ≤ k ∧ k ≤ 2147483647 := by
    have : (decide (IntKind.i32.min ≤ k) && decide (k ≤ IntKind.i32.max)) = true := hwk
    rw [Bool.and_eq_true, decide_eq_true_eq, decide_eq_true_eq] at this
    exact this
  have hcall := calls_of_c1 (E := E2) envS2 (f := 7) (args := [.one (argV 0 xa a), .one (.i .i32 j), .one (.i .i32 k)]) (vs := [v0, .int .i32 j, .int .i32 k]) (w := W) (l := [xa, none, none])
    (fun i x hx => by
      match i, hx with
      | 0, hx => exact argL_row ha (by simpa using hx) _
      | 1, hx => simp at hx
      | 2, hx => simp at hx
      | i + 3, hx => simp at hx)
    ⟨argL_rel rfl ha, rfl, rfl, trivial⟩
    (scaled_c1 _ a _ (argL_sl rfl ha) j k rj rk)
  refine hcall.mono fun e W' ⟨he, hw⟩ => ?_
  subst he
  have hlt : ∀ x ∈ p0, x.block < W.heap.size := fun x hx => hW'.lt x (by simpa using hx)
  exact ⟨_, rfl, law_post rfl hW' rfl (by kernel_rfl) rfl rfl rfl (grown_below hw) fun sp hsp => trodAll_stays Tryz.laidOut (grown_below hw) read7 (by simpa using hAll) (by simpa using hlt) hsp⟩
end Go.Proofs.YtndipbefnipnpaaGreat
