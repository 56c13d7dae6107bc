/- The law AccountGoods: for every ladders and goods it returns true, and its arguments read as they did. -/
import Derived.Test.YtiejeicaaojdlaaGreatBkBooks
import Derived.Test.YtiejeicaaojdlaaGreatBkStay
namespace Go.Proofs.YtiejeicaaojdlaaGreat
open Go.ChangeShapes Go.WideShapes Go.ChangeAt Go.RowKit Go.Eng

set_option maxRecDepth 100000 in
theorem goods_lifted (os : Os) (started : os.Started) (H : Type) (enc : TypeId × Value → H) :
    ReturnsInHanded {} Tryz.checked os 3 .any (Rows.accountGoodsSpec.pre6 enc Tryz.prog Tryz.f3 Rows.accountGoodsRow.domain false) (Rows.accountGoodsSpec.post enc Tryz.prog Tryz.f3 false true false false) := by
  refine returnsInHanded_of_change_sized (C := Tryz.checked) Tryz.own started (by kernel_rfl) Tryz.func3
    (ChangeSpec.witness6 (enc := enc) (C := Tryz.checked) false ⟨#[], #[.slice none 0 0, .slice none 0 0], []⟩ 8 (by kernel_rfl) (by kernel_rfl) (by kernel_rfl) (by kernel_rfl)) ?_
  intro W base args ds gs before hval0 hW hcnd0 hsz _
  clear hcnd0
  have hval : ∀ (j : Nat) t v, Tryz.f3.params[j]? = some t → args[j]? = some v → Value.okWide Tryz.prog W .any base t v := hval0
  have hW' := hW
  obtain ⟨p, q, hA0, hV, rfl, hfz, hnd⟩ := hW
  have hA : DataW.TrodAll enc Tryz.prog W 0 (fun _ => true) true Tryz.f3.params.toList args.toList ds p := hA0
  rw [Tryz.params3] at hA hval hsz
  have hAll := hA
  obtain ⟨v0, v1, d0, d1, p0, p1, rfl, rfl, rfl, h0, h1⟩ := trodAll_two hA
  obtain ⟨rfl, rfl⟩ := trodVars_none hV
  clear hA0 hval0
  simp only [List.append_nil] at hW' hfz
  have hw : ∀ (j : Nat) (t : TypeId) (d : DataW H), [22, 23][j]? = some t → [d0, d1][j]? = some d → ∀ n ∈ d.weights Tryz.prog t, n ≤ reachBytes := fun j t d ht hd n hn => by
    have := List.all_eq_true.1 hsz n (DataW.weights_mem_each (j := j) (by rw [List.getElem?_append_left (by have := (List.getElem?_eq_some_iff.1 ht).1; exact this)]; exact ht) (by rw [List.getElem?_append_left (by have := (List.getElem?_eq_some_iff.1 hd).1; exact this)]; exact hd) n hn)
    simpa using this
  obtain ⟨y0, u0, l0, a0, b0, c0⟩ := opn_top Tryz.underlying22 (fun hB => opn_lads hB) (hval 0 _ v0 rfl rfl) h0 (hw 0 _ _ rfl rfl) [] rows_nil
  obtain ⟨y1, u1, l1, a1, b1, c1⟩ := opn_top Tryz.underlying23 (fun hB => opn_goods hB) (hval 1 _ v1 rfl rfl) h1 (hw 1 _ _ rfl rfl) _ a0
  obtain ⟨e1, e2, e3⟩ := goods_of c1
  have hcall := calls_of_c1 (E := E2) envS2 (f := 3) (args := [.one u0, .one u1]) (vs := [v0, v1]) (w := W) (l := [] ++ y0 ++ y1) a1
    ⟨CR.mono (argB_sub _ _) b0, b1, trivial⟩
    (goodsLaw_c1 _ u0 u1 l0 l1 ((lads_of c0).1.gr (argH_gr _ _)) e1 (Nat.le_trans e2 reach_le) fun x hx => Nat.le_trans (e3 x hx) reach_le)
  refine hcall.mono fun e W' ⟨he, hw⟩ => ?_
  subst he
  have hlt : ∀ x ∈ p0 ++ p1, x.block < W.heap.size := fun x hx => hW'.lt x (by simpa using hx)
  exact ⟨_, rfl, law_post rfl hW' rfl (by kernel_rfl) rfl rfl rfl (grown_below hw) fun sp hsp => trodAll_stays Tryz.laidOut (grown_below hw) readsB (by simpa using hAll) (by simpa using hlt) hsp⟩
end Go.Proofs.YtiejeicaaojdlaaGreat
