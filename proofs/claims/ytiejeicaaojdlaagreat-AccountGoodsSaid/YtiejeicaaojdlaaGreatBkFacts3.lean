/- Facts about types. No conditions. -/
import Derived.Test.YtiejeicaaojdlaaGreatBkFacts
import Derived.KernelRfl
namespace Go.Proofs.YtiejeicaaojdlaaGreat
open Go Go.Eng
theorem ld_rbook : loadT Tryz.prog 134 = some (true, 2) := by kernel_rfl
theorem sz_rbook : sizeT Tryz.prog 134 = some 2 := by kernel_rfl
theorem by_rbook : bytesT Tryz.prog 134 = some 48 := by kernel_rfl
theorem zr_rbook : (zeroT Tryz.prog 134).map (fun z => (ofValue z).cells) = some [.o .nilS, .o .nilS] := by kernel_rfl
theorem zx_rbook : ∃ z, zeroT Tryz.prog 134 = some z ∧ (ofValue z).cells.length = 2 := by
  have h := zr_rbook
  cases hz : zeroT Tryz.prog 134 with
  | none => rw [hz] at h; cases h
  | some z =>
    rw [hz] at h
    exact ⟨z, rfl, by have : (ofValue z).cells = _ := Option.some.inj h; rw [this]; rfl⟩
theorem ad_rbook : addrT Tryz.prog 134 = 4 := by kernel_rfl
theorem fd_rbook_0 : fieldT Tryz.prog 134 0 = some (0, 22, 1) := by kernel_rfl
theorem fd_rbook_1 : fieldT Tryz.prog 134 1 = some (1, 121, 1) := by kernel_rfl
def pl_rbook : Nat → Option (Nat × Nat) := fun i => (#[(0, 1), (1, 1)] : Array (Nat × Nat))[i]?
theorem pt_rbook : placeT Tryz.prog 134 = some pl_rbook := by kernel_rfl
theorem pl_rbook_0 : pl_rbook 0 = some (0, 1) := rfl
theorem pl_rbook_1 : pl_rbook 1 = some (1, 1) := rfl
theorem ld_prbook : loadT Tryz.prog 25 = some (false, 1) := by kernel_rfl
theorem sz_prbook : sizeT Tryz.prog 25 = some 1 := by kernel_rfl
theorem by_prbook : bytesT Tryz.prog 25 = some 8 := by kernel_rfl
theorem zr_prbook : (zeroT Tryz.prog 25).map (fun z => (ofValue z).cells) = some [.o .nilP] := by kernel_rfl
theorem zx_prbook : ∃ z, zeroT Tryz.prog 25 = some z ∧ (ofValue z).cells.length = 1 := by
  have h := zr_prbook
  cases hz : zeroT Tryz.prog 25 with
  | none => rw [hz] at h; cases h
  | some z =>
    rw [hz] at h
    exact ⟨z, rfl, by have : (ofValue z).cells = _ := Option.some.inj h; rw [this]; rfl⟩
theorem ad_prbook : addrT Tryz.prog 25 = 0 := by kernel_rfl
end Go.Proofs.YtiejeicaaojdlaaGreat
