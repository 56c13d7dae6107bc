/- Closed facts of the row. No conditions. -/
import Derived.Test.YtklknlngfdfcjaaGreatRows
import Derived.JoinedOf
import Derived.KernelRfl
namespace Go.Proofs.YtklknlngfdfcjaaGreat
open Go
theorem known_k10 : ((Rows.accountKnownRow.inPlace == Tryz.prog.inPlace 21)) = true := by kernel_rfl
theorem known_k11 : ((Rows.accountKnownRow.unfollowed == Tryz.prog.unfollowed 21)) = true := by kernel_rfl
end Go.Proofs.YtklknlngfdfcjaaGreat
