/- The environment of the walks: what is known of the program's types and functions. -/
import Derived.Test.YtndipbefnipnpaaGreatEngH
import Derived.Test.YtndipbefnipnpaaGreatEnd
import Derived.KernelRfl
namespace Go.Proofs.YtndipbefnipnpaaGreat
open Go Go.Eng
theorem E2_P : E2.P = Tryz.prog := rfl
theorem load9 : loadT Tryz.prog 9 = some (false, 1) := by kernel_rfl
theorem load3 : loadT Tryz.prog 3 = some (false, 1) := by kernel_rfl
theorem load22 : loadT Tryz.prog 22 = some (false, 1) := by kernel_rfl
theorem load37 : loadT Tryz.prog 37 = some (true, 2) := by kernel_rfl
theorem size37 : sizeT Tryz.prog 37 = some 2 := by kernel_rfl
theorem size22 : sizeT Tryz.prog 22 = some 1 := by kernel_rfl
theorem elem22 : elemT Tryz.prog 22 = some (37, 2) := by kernel_rfl
theorem len22 : lenT Tryz.prog 22 = some 1 := by kernel_rfl
theorem field37_0 : fieldT Tryz.prog 37 0 = some (0, 9, 1) := by kernel_rfl
theorem field37_1 : fieldT Tryz.prog 37 1 = some (1, 3, 1) := by kernel_rfl
theorem zero37 : (zeroT Tryz.prog 37).map (fun z => (ofValue z).cells) = some [.o (.str []), .i .i64 0] := by kernel_rfl
theorem zero22 : (zeroT Tryz.prog 22).map (fun z => (ofValue z).cells) = some [.o .nilS] := by kernel_rfl
theorem eqK37 : eqK Tryz.prog 37 = some [.s, .i] := by kernel_rfl
theorem und4 : Tryz.prog.underlying 4 = some .bool := by kernel_rfl
theorem body22 : hasBody Tryz.prog 22 = true := by kernel_rfl
theorem body8 : hasBody Tryz.prog 8 = true := by kernel_rfl
theorem body9 : hasBody Tryz.prog 9 = true := by kernel_rfl
theorem isName_p (s : List UInt8) : E2.prim 22 [.one (.o (.str s))] = some (.one (.b (nmB s))) := by
  show some (AV.one (.b (nameT s))) = _
  rw [nameT_eq]
theorem works_p : E2.prim 9 [] = some (.one (.b true)) := rfl
theorem isName_con (s : List UInt8) (H : Hp) {X : Nat → Prop} : Con E2 22 [.one (.o (.str s))] H X fun v _ => v = .one (.b (nmB s)) :=
  Con.prim (v := .one (.b (nameT s))) rfl fun _ => by rw [nameT_eq]
theorem works_con (H : Hp) {X : Nat → Prop} : Con E2 9 [] H X fun v _ => v = .one (.b true) := Con.prim rfl fun _ => rfl
end Go.Proofs.YtndipbefnipnpaaGreat
