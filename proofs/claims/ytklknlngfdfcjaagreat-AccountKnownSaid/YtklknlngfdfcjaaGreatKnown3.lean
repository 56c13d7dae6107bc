/- The law AccountKnown - the function returns true. Part of its run. -/
import Derived.Test.YtklknlngfdfcjaaGreatKnown2
import Derived.KernelRfl
namespace Go.Proofs.YtklknlngfdfcjaaGreat
open Go.ChangeShapes Go.WideShapes Go.ChangeAt Go.RowKit Go.Eng

theorem kn_p8 : piece E2 3000 21 15 3 kn7 kn8 = true := by kernel_rfl
theorem kn_p9 : piece E2 3000 21 18 4 kn8 kn9 = true := by kernel_rfl
theorem kn_p10 : piece E2 3000 21 22 6 kn9 kn10 = true := by kernel_rfl
theorem kn_last : lastPiece E2 3000 21 28 kn10 = true := by kernel_rfl
theorem kn_len : (bodyOf E2.P 21).length = 31 := by kernel_rfl

/-- The law AccountKnown - the function returns true. -/
theorem known_ok (w : World) : Calls Tryz.prog 21 #[] w (True_ w) := by
  have hf : E2.P.funcs[21]? = some Tryz.f21 := Tryz.func21
  refine calls_of_good (E := E2) hf (by kernel_rfl) (by kernel_rfl) ?_
  refine piece_ok (E := E2) envS2 kn_p1 (by rw [kn_len]; decide) ?_
  refine piece_ok (E := E2) envS2 kn_p2 (by rw [kn_len]; decide) ?_
  refine piece_ok (E := E2) envS2 kn_p3 (by rw [kn_len]; decide) ?_
  refine piece_ok (E := E2) envS2 kn_p4 (by rw [kn_len]; decide) ?_
  refine piece_ok (E := E2) envS2 kn_p5 (by rw [kn_len]; decide) ?_
  refine piece_ok (E := E2) envS2 kn_p6 (by rw [kn_len]; decide) ?_
  refine piece_ok (E := E2) envS2 kn_p7 (by rw [kn_len]; decide) ?_
  refine piece_ok (E := E2) envS2 kn_p8 (by rw [kn_len]; decide) ?_
  refine piece_ok (E := E2) envS2 kn_p9 (by rw [kn_len]; decide) ?_
  refine piece_ok (E := E2) envS2 kn_p10 (by rw [kn_len]; decide) ?_
  exact last_ok (E := E2) envS2 hf kn_last
end Go.Proofs.YtklknlngfdfcjaaGreat
