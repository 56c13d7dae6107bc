/- Closed facts of the program, as every row of it asks them. No conditions. -/
import Derived.Test.YtklknlngfdfcjaaGreatRows
import Derived.JoinedOf
import Derived.KernelRfl
namespace Go.Proofs.YtklknlngfdfcjaaGreat
open Go
theorem seat_k2 : (laidOutB Tryz.prog) = true := by kernel_rfl
theorem seat_k3 : (mapsRowed Tryz.prog) = true := by kernel_rfl
theorem seat_k7 : ((Tryz.prog.stops == [])) = true := by kernel_rfl
theorem seat_k9 : ((Tryz.prog.stopKnobs == [])) = true := by kernel_rfl
theorem seat_k23 : ((Rows.accountKnownRow.plainKeys == Tryz.prog.plainKeys)) = true := by kernel_rfl
theorem seat_k25 : (Tryz.prog.stopsHeard) = true := by kernel_rfl
end Go.Proofs.YtklknlngfdfcjaaGreat
