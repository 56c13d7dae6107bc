/- Facts about types. No conditions. -/
import Derived.Test.YtiejeicaaojdlaaGreatBkFacts
import Derived.KernelRfl
namespace Go.Proofs.YtiejeicaaojdlaaGreat
open Go Go.Eng
theorem ld_strs : loadT Tryz.prog 71 = some (false, 1) := by kernel_rfl
theorem sz_strs : sizeT Tryz.prog 71 = some 1 := by kernel_rfl
theorem by_strs : bytesT Tryz.prog 71 = some 24 := by kernel_rfl
theorem zr_strs : (zeroT Tryz.prog 71).map (fun z => (ofValue z).cells) = some [.o .nilS] := by kernel_rfl
theorem zx_strs : ∃ z, zeroT Tryz.prog 71 = some z ∧ (ofValue z).cells.length = 1 := by
  have h := zr_strs
  cases hz : zeroT Tryz.prog 71 with
  | none => rw [hz] at h; cases h
  | some z =>
    rw [hz] at h
    exact ⟨z, rfl, by have : (ofValue z).cells = _ := Option.some.inj h; rw [this]; rfl⟩
theorem el_strs : elemT Tryz.prog 71 = some (9, 1) := by kernel_rfl
theorem ln_strs : lenT Tryz.prog 71 = some 1 := by kernel_rfl
theorem ad_strs : addrT Tryz.prog 71 = 1 := by kernel_rfl
theorem ld_good : loadT Tryz.prog 73 = some (true, 3) := by kernel_rfl
theorem sz_good : sizeT Tryz.prog 73 = some 3 := by kernel_rfl
theorem by_good : bytesT Tryz.prog 73 = some 56 := by kernel_rfl
theorem zr_good : (zeroT Tryz.prog 73).map (fun z => (ofValue z).cells) = some [.o (.str []), .o (.str []), .o .nilS] := by kernel_rfl
theorem zx_good : ∃ z, zeroT Tryz.prog 73 = some z ∧ (ofValue z).cells.length = 3 := by
  have h := zr_good
  cases hz : zeroT Tryz.prog 73 with
  | none => rw [hz] at h; cases h
  | some z =>
    rw [hz] at h
    exact ⟨z, rfl, by have : (ofValue z).cells = _ := Option.some.inj h; rw [this]; rfl⟩
theorem ad_good : addrT Tryz.prog 73 = 4 := by kernel_rfl
theorem fd_good_0 : fieldT Tryz.prog 73 0 = some (0, 9, 1) := by kernel_rfl
theorem fd_good_1 : fieldT Tryz.prog 73 1 = some (1, 9, 1) := by kernel_rfl
theorem fd_good_2 : fieldT Tryz.prog 73 2 = some (2, 71, 1) := by kernel_rfl
def pl_good : Nat → Option (Nat × Nat) := fun i => (#[(0, 1), (1, 1), (2, 1)] : Array (Nat × Nat))[i]?
theorem pt_good : placeT Tryz.prog 73 = some pl_good := by kernel_rfl
theorem pl_good_0 : pl_good 0 = some (0, 1) := rfl
theorem pl_good_1 : pl_good 1 = some (1, 1) := rfl
theorem pl_good_2 : pl_good 2 = some (2, 1) := rfl
theorem ld_goods : loadT Tryz.prog 23 = some (false, 1) := by kernel_rfl
theorem sz_goods : sizeT Tryz.prog 23 = some 1 := by kernel_rfl
theorem by_goods : bytesT Tryz.prog 23 = some 24 := by kernel_rfl
theorem zr_goods : (zeroT Tryz.prog 23).map (fun z => (ofValue z).cells) = some [.o .nilS] := by kernel_rfl
theorem zx_goods : ∃ z, zeroT Tryz.prog 23 = some z ∧ (ofValue z).cells.length = 1 := by
  have h := zr_goods
  cases hz : zeroT Tryz.prog 23 with
  | none => rw [hz] at h; cases h
  | some z =>
    rw [hz] at h
    exact ⟨z, rfl, by have : (ofValue z).cells = _ := Option.some.inj h; rw [this]; rfl⟩
theorem el_goods : elemT Tryz.prog 23 = some (73, 3) := by kernel_rfl
theorem ln_goods : lenT Tryz.prog 23 = some 1 := by kernel_rfl
theorem ad_goods : addrT Tryz.prog 23 = 1 := by kernel_rfl
end Go.Proofs.YtiejeicaaojdlaaGreat
