/- Facts about types. No conditions. -/
import Derived.Test.YtiejeicaaojdlaaGreatEngI
import Derived.Test.YtiejeicaaojdlaaGreatEnd
import Derived.KernelRfl
namespace Go.Proofs.YtiejeicaaojdlaaGreat
open Go Go.Eng
theorem ld_str : loadT Tryz.prog 9 = some (false, 1) := by kernel_rfl
theorem sz_str : sizeT Tryz.prog 9 = some 1 := by kernel_rfl
theorem by_str : bytesT Tryz.prog 9 = some 16 := by kernel_rfl
theorem zr_str : (zeroT Tryz.prog 9).map (fun z => (ofValue z).cells) = some [.o (.str [])] := by kernel_rfl
theorem zx_str : ∃ z, zeroT Tryz.prog 9 = some z ∧ (ofValue z).cells.length = 1 := by
  have h := zr_str
  cases hz : zeroT Tryz.prog 9 with
  | none => rw [hz] at h; cases h
  | some z =>
    rw [hz] at h
    exact ⟨z, rfl, by have : (ofValue z).cells = _ := Option.some.inj h; rw [this]; rfl⟩
theorem ln_str : lenT Tryz.prog 9 = some 0 := by kernel_rfl
theorem is_str : isStrT Tryz.prog 9 = true := by kernel_rfl
theorem ad_str : addrT Tryz.prog 9 = 4 := by kernel_rfl
theorem ld_int : loadT Tryz.prog 3 = some (false, 1) := by kernel_rfl
theorem sz_int : sizeT Tryz.prog 3 = some 1 := by kernel_rfl
theorem by_int : bytesT Tryz.prog 3 = some 8 := by kernel_rfl
theorem zr_int : (zeroT Tryz.prog 3).map (fun z => (ofValue z).cells) = some [.i .i64 0] := by kernel_rfl
theorem zx_int : ∃ z, zeroT Tryz.prog 3 = some z ∧ (ofValue z).cells.length = 1 := by
  have h := zr_int
  cases hz : zeroT Tryz.prog 3 with
  | none => rw [hz] at h; cases h
  | some z =>
    rw [hz] at h
    exact ⟨z, rfl, by have : (ofValue z).cells = _ := Option.some.inj h; rw [this]; rfl⟩
theorem zv_int : zeroT Tryz.prog 3 = some (.int .i64 0) := by kernel_rfl
theorem un_int : Tryz.prog.underlying 3 = some (.int .i64) := by kernel_rfl
theorem ad_int : addrT Tryz.prog 3 = 4 := by kernel_rfl
theorem ld_bool : loadT Tryz.prog 4 = some (false, 1) := by kernel_rfl
theorem sz_bool : sizeT Tryz.prog 4 = some 1 := by kernel_rfl
theorem by_bool : bytesT Tryz.prog 4 = some 1 := by kernel_rfl
theorem zr_bool : (zeroT Tryz.prog 4).map (fun z => (ofValue z).cells) = some [.b false] := by kernel_rfl
theorem zx_bool : ∃ z, zeroT Tryz.prog 4 = some z ∧ (ofValue z).cells.length = 1 := by
  have h := zr_bool
  cases hz : zeroT Tryz.prog 4 with
  | none => rw [hz] at h; cases h
  | some z =>
    rw [hz] at h
    exact ⟨z, rfl, by have : (ofValue z).cells = _ := Option.some.inj h; rw [this]; rfl⟩
theorem zv_bool : zeroT Tryz.prog 4 = some (.bool false) := by kernel_rfl
theorem un_bool : Tryz.prog.underlying 4 = some .bool := by kernel_rfl
theorem ad_bool : addrT Tryz.prog 4 = 4 := by kernel_rfl
theorem ld_errno : loadT Tryz.prog 28 = some (false, 1) := by kernel_rfl
theorem sz_errno : sizeT Tryz.prog 28 = some 1 := by kernel_rfl
theorem by_errno : bytesT Tryz.prog 28 = some 8 := by kernel_rfl
theorem zr_errno : (zeroT Tryz.prog 28).map (fun z => (ofValue z).cells) = some [.i .i64 0] := by kernel_rfl
theorem zx_errno : ∃ z, zeroT Tryz.prog 28 = some z ∧ (ofValue z).cells.length = 1 := by
  have h := zr_errno
  cases hz : zeroT Tryz.prog 28 with
  | none => rw [hz] at h; cases h
  | some z =>
    rw [hz] at h
    exact ⟨z, rfl, by have : (ofValue z).cells = _ := Option.some.inj h; rw [this]; rfl⟩
theorem zv_errno : zeroT Tryz.prog 28 = some (.int .i64 0) := by kernel_rfl
theorem un_errno : Tryz.prog.underlying 28 = some (.int .i64) := by kernel_rfl
theorem ad_errno : addrT Tryz.prog 28 = 4 := by kernel_rfl
theorem ld_unit : loadT Tryz.prog 140 = some (true, 2) := by kernel_rfl
theorem sz_unit : sizeT Tryz.prog 140 = some 2 := by kernel_rfl
theorem by_unit : bytesT Tryz.prog 140 = some 24 := by kernel_rfl
theorem zr_unit : (zeroT Tryz.prog 140).map (fun z => (ofValue z).cells) = some [.o (.str []), .i .i64 0] := by kernel_rfl
theorem zx_unit : ∃ z, zeroT Tryz.prog 140 = some z ∧ (ofValue z).cells.length = 2 := by
  have h := zr_unit
  cases hz : zeroT Tryz.prog 140 with
  | none => rw [hz] at h; cases h
  | some z =>
    rw [hz] at h
    exact ⟨z, rfl, by have : (ofValue z).cells = _ := Option.some.inj h; rw [this]; rfl⟩
theorem ad_unit : addrT Tryz.prog 140 = 4 := by kernel_rfl
theorem fd_unit_0 : fieldT Tryz.prog 140 0 = some (0, 9, 1) := by kernel_rfl
theorem fd_unit_1 : fieldT Tryz.prog 140 1 = some (1, 3, 1) := by kernel_rfl
def pl_unit : Nat → Option (Nat × Nat) := fun i => (#[(0, 1), (1, 1)] : Array (Nat × Nat))[i]?
theorem pt_unit : placeT Tryz.prog 140 = some pl_unit := by kernel_rfl
theorem pl_unit_0 : pl_unit 0 = some (0, 1) := rfl
theorem pl_unit_1 : pl_unit 1 = some (1, 1) := rfl
theorem eq_unit : eqK Tryz.prog 140 = some [.s, .i] := by kernel_rfl
theorem ld_units : loadT Tryz.prog 76 = some (false, 1) := by kernel_rfl
theorem sz_units : sizeT Tryz.prog 76 = some 1 := by kernel_rfl
theorem by_units : bytesT Tryz.prog 76 = some 24 := by kernel_rfl
theorem zr_units : (zeroT Tryz.prog 76).map (fun z => (ofValue z).cells) = some [.o .nilS] := by kernel_rfl
theorem zx_units : ∃ z, zeroT Tryz.prog 76 = some z ∧ (ofValue z).cells.length = 1 := by
  have h := zr_units
  cases hz : zeroT Tryz.prog 76 with
  | none => rw [hz] at h; cases h
  | some z =>
    rw [hz] at h
    exact ⟨z, rfl, by have : (ofValue z).cells = _ := Option.some.inj h; rw [this]; rfl⟩
theorem el_units : elemT Tryz.prog 76 = some (140, 2) := by kernel_rfl
theorem ln_units : lenT Tryz.prog 76 = some 1 := by kernel_rfl
theorem ad_units : addrT Tryz.prog 76 = 1 := by kernel_rfl
theorem ld_lad : loadT Tryz.prog 78 = some (true, 2) := by kernel_rfl
theorem sz_lad : sizeT Tryz.prog 78 = some 2 := by kernel_rfl
theorem by_lad : bytesT Tryz.prog 78 = some 40 := by kernel_rfl
theorem zr_lad : (zeroT Tryz.prog 78).map (fun z => (ofValue z).cells) = some [.o (.str []), .o .nilS] := by kernel_rfl
theorem zx_lad : ∃ z, zeroT Tryz.prog 78 = some z ∧ (ofValue z).cells.length = 2 := by
  have h := zr_lad
  cases hz : zeroT Tryz.prog 78 with
  | none => rw [hz] at h; cases h
  | some z =>
    rw [hz] at h
    exact ⟨z, rfl, by have : (ofValue z).cells = _ := Option.some.inj h; rw [this]; rfl⟩
theorem ad_lad : addrT Tryz.prog 78 = 4 := by kernel_rfl
theorem fd_lad_0 : fieldT Tryz.prog 78 0 = some (0, 9, 1) := by kernel_rfl
theorem fd_lad_1 : fieldT Tryz.prog 78 1 = some (1, 76, 1) := by kernel_rfl
def pl_lad : Nat → Option (Nat × Nat) := fun i => (#[(0, 1), (1, 1)] : Array (Nat × Nat))[i]?
theorem pt_lad : placeT Tryz.prog 78 = some pl_lad := by kernel_rfl
theorem pl_lad_0 : pl_lad 0 = some (0, 1) := rfl
theorem pl_lad_1 : pl_lad 1 = some (1, 1) := rfl
theorem ld_lads : loadT Tryz.prog 22 = some (false, 1) := by kernel_rfl
theorem sz_lads : sizeT Tryz.prog 22 = some 1 := by kernel_rfl
theorem by_lads : bytesT Tryz.prog 22 = some 24 := by kernel_rfl
theorem zr_lads : (zeroT Tryz.prog 22).map (fun z => (ofValue z).cells) = some [.o .nilS] := by kernel_rfl
theorem zx_lads : ∃ z, zeroT Tryz.prog 22 = some z ∧ (ofValue z).cells.length = 1 := by
  have h := zr_lads
  cases hz : zeroT Tryz.prog 22 with
  | none => rw [hz] at h; cases h
  | some z =>
    rw [hz] at h
    exact ⟨z, rfl, by have : (ofValue z).cells = _ := Option.some.inj h; rw [this]; rfl⟩
theorem el_lads : elemT Tryz.prog 22 = some (78, 2) := by kernel_rfl
theorem ln_lads : lenT Tryz.prog 22 = some 1 := by kernel_rfl
theorem ad_lads : addrT Tryz.prog 22 = 1 := by kernel_rfl
theorem ld_mSB : loadT Tryz.prog 167 = some (false, 1) := by kernel_rfl
theorem sz_mSB : sizeT Tryz.prog 167 = some 1 := by kernel_rfl
theorem by_mSB : bytesT Tryz.prog 167 = some 8 := by kernel_rfl
theorem zr_mSB : (zeroT Tryz.prog 167).map (fun z => (ofValue z).cells) = some [.o .nilM] := by kernel_rfl
theorem zx_mSB : ∃ z, zeroT Tryz.prog 167 = some z ∧ (ofValue z).cells.length = 1 := by
  have h := zr_mSB
  cases hz : zeroT Tryz.prog 167 with
  | none => rw [hz] at h; cases h
  | some z =>
    rw [hz] at h
    exact ⟨z, rfl, by have : (ofValue z).cells = _ := Option.some.inj h; rw [this]; rfl⟩
theorem ln_mSB : lenT Tryz.prog 167 = some 2 := by kernel_rfl
theorem mp_mSB : mapT Tryz.prog 167 = some (9, 4) := by kernel_rfl
theorem kk_mSB : keyKind Tryz.prog 9 = 0 := by kernel_rfl
theorem ad_mSB : addrT Tryz.prog 167 = 2 := by kernel_rfl
theorem ld_mSI : loadT Tryz.prog 32 = some (false, 1) := by kernel_rfl
theorem sz_mSI : sizeT Tryz.prog 32 = some 1 := by kernel_rfl
theorem by_mSI : bytesT Tryz.prog 32 = some 8 := by kernel_rfl
theorem zr_mSI : (zeroT Tryz.prog 32).map (fun z => (ofValue z).cells) = some [.o .nilM] := by kernel_rfl
theorem zx_mSI : ∃ z, zeroT Tryz.prog 32 = some z ∧ (ofValue z).cells.length = 1 := by
  have h := zr_mSI
  cases hz : zeroT Tryz.prog 32 with
  | none => rw [hz] at h; cases h
  | some z =>
    rw [hz] at h
    exact ⟨z, rfl, by have : (ofValue z).cells = _ := Option.some.inj h; rw [this]; rfl⟩
theorem ln_mSI : lenT Tryz.prog 32 = some 2 := by kernel_rfl
theorem mp_mSI : mapT Tryz.prog 32 = some (9, 3) := by kernel_rfl
theorem kk_mSI : keyKind Tryz.prog 9 = 0 := by kernel_rfl
theorem ad_mSI : addrT Tryz.prog 32 = 2 := by kernel_rfl
theorem ld_pbook : loadT Tryz.prog 24 = some (false, 1) := by kernel_rfl
theorem sz_pbook : sizeT Tryz.prog 24 = some 1 := by kernel_rfl
theorem by_pbook : bytesT Tryz.prog 24 = some 8 := by kernel_rfl
theorem zr_pbook : (zeroT Tryz.prog 24).map (fun z => (ofValue z).cells) = some [.o .nilP] := by kernel_rfl
theorem zx_pbook : ∃ z, zeroT Tryz.prog 24 = some z ∧ (ofValue z).cells.length = 1 := by
  have h := zr_pbook
  cases hz : zeroT Tryz.prog 24 with
  | none => rw [hz] at h; cases h
  | some z =>
    rw [hz] at h
    exact ⟨z, rfl, by have : (ofValue z).cells = _ := Option.some.inj h; rw [this]; rfl⟩
theorem ad_pbook : addrT Tryz.prog 24 = 0 := by kernel_rfl
theorem ld_book : loadT Tryz.prog 36 = some (true, 4) := by kernel_rfl
theorem sz_book : sizeT Tryz.prog 36 = some 4 := by kernel_rfl
theorem by_book : bytesT Tryz.prog 36 = some 80 := by kernel_rfl
theorem zr_book : (zeroT Tryz.prog 36).map (fun z => (ofValue z).cells) = some [.o .nilS, .o .nilM, .o .nilS, .o .nilS] := by kernel_rfl
theorem zx_book : ∃ z, zeroT Tryz.prog 36 = some z ∧ (ofValue z).cells.length = 4 := by
  have h := zr_book
  cases hz : zeroT Tryz.prog 36 with
  | none => rw [hz] at h; cases h
  | some z =>
    rw [hz] at h
    exact ⟨z, rfl, by have : (ofValue z).cells = _ := Option.some.inj h; rw [this]; rfl⟩
theorem ad_book : addrT Tryz.prog 36 = 4 := by kernel_rfl
theorem fd_book_0 : fieldT Tryz.prog 36 0 = some (0, 22, 1) := by kernel_rfl
theorem fd_book_1 : fieldT Tryz.prog 36 1 = some (1, 32, 1) := by kernel_rfl
theorem fd_book_2 : fieldT Tryz.prog 36 2 = some (2, 33, 1) := by kernel_rfl
theorem fd_book_3 : fieldT Tryz.prog 36 3 = some (3, 34, 1) := by kernel_rfl
def pl_book : Nat → Option (Nat × Nat) := fun i => (#[(0, 1), (1, 1), (2, 1), (3, 1)] : Array (Nat × Nat))[i]?
theorem pt_book : placeT Tryz.prog 36 = some pl_book := by kernel_rfl
theorem pl_book_0 : pl_book 0 = some (0, 1) := rfl
theorem pl_book_1 : pl_book 1 = some (1, 1) := rfl
theorem pl_book_2 : pl_book 2 = some (2, 1) := rfl
theorem pl_book_3 : pl_book 3 = some (3, 1) := rfl
theorem ld_ints : loadT Tryz.prog 33 = some (false, 1) := by kernel_rfl
theorem sz_ints : sizeT Tryz.prog 33 = some 1 := by kernel_rfl
theorem by_ints : bytesT Tryz.prog 33 = some 24 := by kernel_rfl
theorem zr_ints : (zeroT Tryz.prog 33).map (fun z => (ofValue z).cells) = some [.o .nilS] := by kernel_rfl
theorem zx_ints : ∃ z, zeroT Tryz.prog 33 = some z ∧ (ofValue z).cells.length = 1 := by
  have h := zr_ints
  cases hz : zeroT Tryz.prog 33 with
  | none => rw [hz] at h; cases h
  | some z =>
    rw [hz] at h
    exact ⟨z, rfl, by have : (ofValue z).cells = _ := Option.some.inj h; rw [this]; rfl⟩
theorem el_ints : elemT Tryz.prog 33 = some (3, 1) := by kernel_rfl
theorem ln_ints : lenT Tryz.prog 33 = some 1 := by kernel_rfl
theorem ad_ints : addrT Tryz.prog 33 = 1 := by kernel_rfl
theorem ld_prods : loadT Tryz.prog 34 = some (false, 1) := by kernel_rfl
theorem sz_prods : sizeT Tryz.prog 34 = some 1 := by kernel_rfl
theorem by_prods : bytesT Tryz.prog 34 = some 24 := by kernel_rfl
theorem zr_prods : (zeroT Tryz.prog 34).map (fun z => (ofValue z).cells) = some [.o .nilS] := by kernel_rfl
theorem zx_prods : ∃ z, zeroT Tryz.prog 34 = some z ∧ (ofValue z).cells.length = 1 := by
  have h := zr_prods
  cases hz : zeroT Tryz.prog 34 with
  | none => rw [hz] at h; cases h
  | some z =>
    rw [hz] at h
    exact ⟨z, rfl, by have : (ofValue z).cells = _ := Option.some.inj h; rw [this]; rfl⟩
theorem el_prods : elemT Tryz.prog 34 = some (127, 2) := by kernel_rfl
theorem ln_prods : lenT Tryz.prog 34 = some 1 := by kernel_rfl
theorem ad_prods : addrT Tryz.prog 34 = 1 := by kernel_rfl
theorem ld_prod : loadT Tryz.prog 127 = some (true, 2) := by kernel_rfl
theorem sz_prod : sizeT Tryz.prog 127 = some 2 := by kernel_rfl
theorem by_prod : bytesT Tryz.prog 127 = some 48 := by kernel_rfl
theorem zr_prod : (zeroT Tryz.prog 127).map (fun z => (ofValue z).cells) = some [.o .nilS, .o .nilS] := by kernel_rfl
theorem zx_prod : ∃ z, zeroT Tryz.prog 127 = some z ∧ (ofValue z).cells.length = 2 := by
  have h := zr_prod
  cases hz : zeroT Tryz.prog 127 with
  | none => rw [hz] at h; cases h
  | some z =>
    rw [hz] at h
    exact ⟨z, rfl, by have : (ofValue z).cells = _ := Option.some.inj h; rw [this]; rfl⟩
theorem ad_prod : addrT Tryz.prog 127 = 4 := by kernel_rfl
theorem fd_prod_0 : fieldT Tryz.prog 127 0 = some (0, 125, 1) := by kernel_rfl
theorem fd_prod_1 : fieldT Tryz.prog 127 1 = some (1, 125, 1) := by kernel_rfl
def pl_prod : Nat → Option (Nat × Nat) := fun i => (#[(0, 1), (1, 1)] : Array (Nat × Nat))[i]?
theorem pt_prod : placeT Tryz.prog 127 = some pl_prod := by kernel_rfl
theorem pl_prod_0 : pl_prod 0 = some (0, 1) := rfl
theorem pl_prod_1 : pl_prod 1 = some (1, 1) := rfl
end Go.Proofs.YtiejeicaaojdlaaGreat
