/- The closed facts of the row, together. No conditions. -/
import Derived.Test.YtklknlngfdfcjaaGreatFactA
import Derived.Test.YtklknlngfdfcjaaGreatFactB
import Derived.Test.YtklknlngfdfcjaaGreatFactC
import Derived.Test.YtklknlngfdfcjaaGreatFactD
import Derived.Test.YtklknlngfdfcjaaGreatKnownFact1
import Derived.Test.YtklknlngfdfcjaaGreatKnownFact2
import Derived.Test.YtklknlngfdfcjaaGreatRows
import Derived.JoinedOf
import Derived.KernelRfl
namespace Go.Proofs.YtklknlngfdfcjaaGreat
open Go
theorem known_k1 : (Rows.accountKnownRow.wf (OpenSpec.ofChange Rows.accountKnownSpec)) = true := by kernel_rfl
theorem known_k4 : (Tryz.f21.params.all (Tryz.prog.readableRec ·)) = true := by kernel_rfl
theorem known_k5 : (namedTie Tryz.prog Rows.accountKnownRow.named Rows.accountKnownSpec.vars) = true := by kernel_rfl
theorem known_k6 : ((Rows.accountKnownRow.stops == [])) = true := by kernel_rfl
theorem known_k8 : ((Rows.accountKnownRow.knobs == [])) = true := by kernel_rfl
theorem known_k14 : ((Rows.accountKnownRow.maps == (Tryz.f21.params.toList ++ Rows.accountKnownSpec.plain.varTypes Tryz.prog).any (Tryz.prog.mapsRec ·))) = true := by kernel_rfl
theorem known_k15 : ((Rows.accountKnownRow.ifaces == (Tryz.f21.params.toList ++ Rows.accountKnownSpec.plain.varTypes Tryz.prog).any (Tryz.prog.ifacesRec ·))) = true := by kernel_rfl
theorem known_k16 : ((Rows.accountKnownRow.mapsOut == Tryz.prog.mapsAmong Tryz.f21.resultTypes.toList)) = true := by kernel_rfl
theorem known_k17 : ((Rows.accountKnownRow.loops == (Tryz.f21.params.toList ++ Rows.accountKnownSpec.plain.varTypes Tryz.prog).any (Tryz.prog.loopsFrom ·))) = true := by kernel_rfl
theorem known_k18 : ((Rows.accountKnownRow.wideKeys == (Tryz.f21.params.toList ++ Rows.accountKnownSpec.plain.varTypes Tryz.prog ++ Tryz.f21.resultTypes.toList).any (Tryz.prog.wideKeysFrom ·))) = true := by kernel_rfl
theorem known_k19 : (Rows.accountKnownSpec.vars.all (Tryz.prog.varReadable ·)) = true := by kernel_rfl
theorem known_k20 : (Tryz.f21.resultTypes.all (fun t => Tryz.prog.readableRec t && decide (t < Tryz.prog.types.size))) = true := by kernel_rfl
theorem known_k21 : ((Rows.accountKnownRow.ifacesOut == Tryz.f21.resultTypes.toList.any (Tryz.prog.ifacesRec ·))) = true := by kernel_rfl
theorem known_k22 : ((Rows.accountKnownRow.loopsOut == Tryz.f21.resultTypes.toList.any (Tryz.prog.loopsFrom ·))) = true := by kernel_rfl
theorem known_k24 : (Rows.accountKnownRow.shortTexts.isNone) = true := by kernel_rfl
theorem known_k29 : ((Rows.accountKnownRow.kinds == (if Rows.accountKnownRow.domain.isEmpty then [] else Tryz.f21.params.toList.map fun t => match Tryz.prog.underlying t with | some (.int k) => some k | _ => none))) = true := by kernel_rfl
theorem known_k30 : ((Rows.accountKnownRow.pinned == Rows.accountKnownRow.pinnedBy)) = true := by kernel_rfl
theorem known_k31 : ((Rows.accountKnownRow.veiled == (Tryz.f21.params.toList ++ Rows.accountKnownSpec.plain.varTypes Tryz.prog ++ Tryz.f21.resultTypes.toList).any (Tryz.prog.veiledRec ·))) = true := by kernel_rfl
theorem known_k32 : (Rows.accountKnownRow.veiledFits Tryz.prog Tryz.f21.params.toList (Tryz.f21.params.toList ++ Rows.accountKnownSpec.plain.varTypes Tryz.prog ++ Tryz.f21.resultTypes.toList)) = true := by kernel_rfl
theorem known_and2 {a b : Bool} (h : a = true) (k : b = true) : (a && b) = true := by rw [h, k]; rfl

set_option maxRecDepth 100000 in
theorem known_closed : joinedFacts Tryz.prog 21 Tryz.f21 Rows.accountKnownSpec Rows.accountKnownRow = true := by
  unfold joinedFacts
  exact (known_and2 (known_and2 (known_and2 (known_and2 (known_and2 (known_and2 (known_and2 (known_and2 (known_and2 (known_and2 (known_and2 (known_and2 (known_and2 (known_and2 (known_and2 (known_and2 (known_and2 (known_and2 (known_and2 (known_and2 (known_and2 (known_and2 (known_and2 (known_and2 (known_and2 (known_and2 (known_and2 (known_and2 (known_and2 (known_and2 (known_and2 known_k1 seat_k2) seat_k3) known_k4) known_k5) known_k6) seat_k7) known_k8) seat_k9) known_k10) known_k11) known_k12) known_k13) known_k14) known_k15) known_k16) known_k17) known_k18) known_k19) known_k20) known_k21) known_k22) seat_k23) known_k24) seat_k25) seat_k26) seat_k27) seat_k28) known_k29) known_k30) known_k31) known_k32)
end Go.Proofs.YtklknlngfdfcjaaGreat
