/- The law AccountKnown - the function returns true. Part of its run. -/
import Derived.Test.YtklknlngfdfcjaaGreatKnown1
import Derived.KernelRfl
namespace Go.Proofs.YtklknlngfdfcjaaGreat
open Go.ChangeShapes Go.WideShapes Go.ChangeAt Go.RowKit Go.Eng

theorem kn_p4 : piece E2 3000 21 7 2 kn3 kn4 = true := by kernel_rfl
theorem kn_p5 : piece E2 3000 21 9 2 kn4 kn5 = true := by kernel_rfl
theorem kn_p6 : piece E2 3000 21 11 2 kn5 kn6 = true := by kernel_rfl
theorem kn_p7 : piece E2 3000 21 13 2 kn6 kn7 = true := by kernel_rfl
end Go.Proofs.YtklknlngfdfcjaaGreat
