/- Closed facts of the row. No conditions. -/
import Derived.Test.YtklknlngfdfcjaaGreatRows
import Derived.JoinedOf
import Derived.KernelRfl
namespace Go.Proofs.YtklknlngfdfcjaaGreat
open Go
theorem known_k12 : ((Rows.accountKnownRow.recurses == Tryz.prog.recurses 21)) = true := by kernel_rfl
theorem known_k13 : ((Rows.accountKnownRow.named == Tryz.prog.varsNamed 21)) = true := by kernel_rfl
end Go.Proofs.YtklknlngfdfcjaaGreat
