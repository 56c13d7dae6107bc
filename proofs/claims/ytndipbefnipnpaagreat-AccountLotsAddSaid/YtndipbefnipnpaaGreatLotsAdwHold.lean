/- The law AccountLotsAdd holds. -/
import Derived.Test.YtndipbefnipnpaaGreatLotsAdwEnd
namespace Go.Proofs.YtndipbefnipnpaaGreat
open Go.ChangeShapes Go.WideShapes Go.ChangeAt Go.RowKit Go.Eng
theorem add_holds : Rows.AccountLotsAddSaid :=
  OpenClaim.holds_of_wide 4 Tryz.f4 rfl rfl rfl rfl rfl rfl rfl ⟨rfl, rfl, rfl, rfl, rfl⟩ rfl rfl rfl rfl rfl (by kernel_rfl) Tryz.func4 (by kernel_rfl)
    (of_decide_eq_true (by kernel_rfl)) (by unfold Func.isWrapper; first | (rw [if_pos (by decide +kernel)]; kernel_rfl) | (rw [if_neg (by decide +kernel)]; exact ⟨rfl, rfl⟩))
    (fun os started H enc _ => add_lifted os started H enc)
#print axioms add_holds
end Go.Proofs.YtndipbefnipnpaaGreat
