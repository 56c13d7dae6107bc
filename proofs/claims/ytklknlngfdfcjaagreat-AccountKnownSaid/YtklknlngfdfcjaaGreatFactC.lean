/- Closed facts of the program, as every row of it asks them. No conditions. -/
import Derived.Test.YtklknlngfdfcjaaGreatRows
import Derived.JoinedOf
import Derived.KernelRfl
namespace Go.Proofs.YtklknlngfdfcjaaGreat
open Go
theorem seat_k28 : ((Tryz.prog.make == some Rows.accountKnownRow.make)) = true := by kernel_rfl
end Go.Proofs.YtklknlngfdfcjaaGreat
