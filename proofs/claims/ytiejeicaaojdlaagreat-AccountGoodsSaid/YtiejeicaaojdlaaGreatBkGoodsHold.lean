/- The law AccountGoods holds. -/
import Derived.Test.YtiejeicaaojdlaaGreatBkGoodsEnd
namespace Go.Proofs.YtiejeicaaojdlaaGreat
open Go.ChangeShapes Go.WideShapes Go.ChangeAt Go.RowKit Go.Eng
theorem goods_holds : Rows.AccountGoodsSaid :=
  OpenClaim.holds_of_wide 3 Tryz.f3 rfl rfl rfl rfl rfl rfl rfl ⟨rfl, rfl, rfl, rfl, rfl⟩ rfl rfl rfl rfl rfl (by kernel_rfl) Tryz.func3 (by kernel_rfl)
    (of_decide_eq_true (by kernel_rfl)) (by unfold Func.isWrapper; first | (rw [if_pos (by decide +kernel)]; kernel_rfl) | (rw [if_neg (by decide +kernel)]; exact ⟨rfl, rfl⟩))
    (fun os started H enc _ => goods_lifted os started H enc)
#print axioms goods_holds
end Go.Proofs.YtiejeicaaojdlaaGreat
