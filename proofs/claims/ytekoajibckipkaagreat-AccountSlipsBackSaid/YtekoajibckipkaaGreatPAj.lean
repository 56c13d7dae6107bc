/- A part of the proof: BkFacts5, BkFacts7, BkFacts8, BkAll, BkSl1, BkSl2, BkSl4, BkSl5, BkSl6, BkSl7, BkSl8, BkSl9. No conditions. -/
import Derived.Test.YtekoajibckipkaaGreatPAi
import Derived.KernelRfl
namespace Go.Proofs.YtekoajibckipkaaGreat
open Go Go.Eng
theorem ld_errnos : loadT Tryz.prog 238 = some (false, 1) := by kernel_rfl
theorem sz_errnos : sizeT Tryz.prog 238 = some 1 := by kernel_rfl
theorem zr_errnos : (zeroT Tryz.prog 238).map (fun z => (ofValue z).cells) = some [.o .nilS] := by kernel_rfl
theorem el_errnos : elemT Tryz.prog 238 = some (28, 1) := by kernel_rfl
theorem ln_errnos : lenT Tryz.prog 238 = some 1 := by kernel_rfl
theorem ad_errnos : addrT Tryz.prog 238 = 1 := by kernel_rfl
theorem ld_slip : loadT Tryz.prog 75 = some (true, 3) := by kernel_rfl
theorem sz_slip : sizeT Tryz.prog 75 = some 3 := by kernel_rfl
theorem by_slip : bytesT Tryz.prog 75 = some 32 := by kernel_rfl
theorem zr_slip : (zeroT Tryz.prog 75).map (fun z => (ofValue z).cells) = some [.i .i64 0, .o (.str []), .i .i64 0] := by kernel_rfl
theorem zx_slip : ∃ z, zeroT Tryz.prog 75 = some z ∧ (ofValue z).cells.length = 3 := by
  have h := zr_slip
  cases hz : zeroT Tryz.prog 75 with
  | none => rw [hz] at h; cases h
  | some z =>
    rw [hz] at h
    exact ⟨z, rfl, by have : (ofValue z).cells = _ := Option.some.inj h; rw [this]; rfl⟩
theorem ad_slip : addrT Tryz.prog 75 = 4 := by kernel_rfl
theorem fd_slip_0 : fieldT Tryz.prog 75 0 = some (0, 3, 1) := by kernel_rfl
theorem fd_slip_1 : fieldT Tryz.prog 75 1 = some (1, 9, 1) := by kernel_rfl
theorem fd_slip_2 : fieldT Tryz.prog 75 2 = some (2, 3, 1) := by kernel_rfl
def pl_slip : Nat → Option (Nat × Nat) := fun i => (#[(0, 1), (1, 1), (2, 1)] : Array (Nat × Nat))[i]?
theorem pt_slip : placeT Tryz.prog 75 = some pl_slip := by kernel_rfl
theorem pl_slip_0 : pl_slip 0 = some (0, 1) := rfl
theorem pl_slip_1 : pl_slip 1 = some (1, 1) := rfl
theorem pl_slip_2 : pl_slip 2 = some (2, 1) := rfl
theorem ld_fixes : loadT Tryz.prog 58 = some (false, 1) := by kernel_rfl
theorem sz_fixes : sizeT Tryz.prog 58 = some 1 := by kernel_rfl
theorem zr_fixes : (zeroT Tryz.prog 58).map (fun z => (ofValue z).cells) = some [.o .nilS] := by kernel_rfl
theorem el_fixes : elemT Tryz.prog 58 = some (112, 4) := by kernel_rfl
theorem ln_fixes : lenT Tryz.prog 58 = some 1 := by kernel_rfl
theorem ad_fixes : addrT Tryz.prog 58 = 1 := by kernel_rfl
theorem ld_fix : loadT Tryz.prog 112 = some (true, 4) := by kernel_rfl
theorem sz_fix : sizeT Tryz.prog 112 = some 4 := by kernel_rfl
theorem zr_fix : (zeroT Tryz.prog 112).map (fun z => (ofValue z).cells) = some [.i .i64 0, .i .i64 0, .i .i64 0, .i .i64 0] := by kernel_rfl
theorem ad_fix : addrT Tryz.prog 112 = 4 := by kernel_rfl
theorem fd_fix_0 : fieldT Tryz.prog 112 0 = some (0, 3, 1) := by kernel_rfl
theorem fd_fix_1 : fieldT Tryz.prog 112 1 = some (1, 3, 1) := by kernel_rfl
theorem fd_fix_2 : fieldT Tryz.prog 112 2 = some (2, 3, 1) := by kernel_rfl
theorem fd_fix_3 : fieldT Tryz.prog 112 3 = some (3, 3, 1) := by kernel_rfl
def pl_fix : Nat → Option (Nat × Nat) := fun i => (#[(0, 1), (1, 1), (2, 1), (3, 1)] : Array (Nat × Nat))[i]?
theorem pt_fix : placeT Tryz.prog 112 = some pl_fix := by kernel_rfl
theorem pl_fix_0 : pl_fix 0 = some (0, 1) := rfl
theorem pl_fix_1 : pl_fix 1 = some (1, 1) := rfl
theorem pl_fix_2 : pl_fix 2 = some (2, 1) := rfl
theorem pl_fix_3 : pl_fix 3 = some (3, 1) := rfl
theorem ld_case : loadT Tryz.prog 57 = some (true, 4) := by kernel_rfl
theorem sz_case : sizeT Tryz.prog 57 = some 4 := by kernel_rfl
theorem zr_case : (zeroT Tryz.prog 57).map (fun z => (ofValue z).cells) = some [.o .nilS, .o .nilS, .o .nilS, .o .nilS] := by kernel_rfl
theorem ad_case : addrT Tryz.prog 57 = 4 := by kernel_rfl
theorem fd_case_0 : fieldT Tryz.prog 57 0 = some (0, 22, 1) := by kernel_rfl
theorem fd_case_1 : fieldT Tryz.prog 57 1 = some (1, 42, 2) := by kernel_rfl
theorem fd_case_2 : fieldT Tryz.prog 57 2 = some (3, 33, 1) := by kernel_rfl
def pl_case : Nat → Option (Nat × Nat) := fun i => (#[(0, 1), (1, 2), (3, 1)] : Array (Nat × Nat))[i]?
theorem pt_case : placeT Tryz.prog 57 = some pl_case := by kernel_rfl
theorem pl_case_0 : pl_case 0 = some (0, 1) := rfl
theorem pl_case_1 : pl_case 1 = some (1, 2) := rfl
theorem pl_case_2 : pl_case 2 = some (3, 1) := rfl
theorem ld_yfn : loadT Tryz.prog 182 = some (false, 1) := by kernel_rfl
theorem sz_yfn : sizeT Tryz.prog 182 = some 1 := by kernel_rfl
theorem zr_yfn : (zeroT Tryz.prog 182).map (fun z => (ofValue z).cells) = some [.o .nilF] := by kernel_rfl
theorem ad_yfn : addrT Tryz.prog 182 = 3 := by kernel_rfl
end Go.Proofs.YtekoajibckipkaaGreat
namespace Go.Proofs.YtekoajibckipkaaGreat
open Go Go.Eng
theorem ld_uin : loadT Tryz.prog 189 = some (false, 1) := by kernel_rfl
theorem sz_uin : sizeT Tryz.prog 189 = some 1 := by kernel_rfl
theorem zr_uin : (zeroT Tryz.prog 189).map (fun z => (ofValue z).cells) = some [.i .u64 0] := by kernel_rfl
theorem un_uin : Tryz.prog.underlying 189 = some (.int .u64) := by kernel_rfl
theorem ad_uin : addrT Tryz.prog 189 = 4 := by kernel_rfl
theorem ld_u64 : loadT Tryz.prog 195 = some (false, 1) := by kernel_rfl
theorem sz_u64 : sizeT Tryz.prog 195 = some 1 := by kernel_rfl
theorem zr_u64 : (zeroT Tryz.prog 195).map (fun z => (ofValue z).cells) = some [.i .u64 0] := by kernel_rfl
theorem un_u64 : Tryz.prog.underlying 195 = some (.int .u64) := by kernel_rfl
theorem ad_u64 : addrT Tryz.prog 195 = 4 := by kernel_rfl
theorem ld_xors : loadT Tryz.prog 257 = some (false, 1) := by kernel_rfl
theorem sz_xors : sizeT Tryz.prog 257 = some 1 := by kernel_rfl
theorem zr_xors : (zeroT Tryz.prog 257).map (fun z => (ofValue z).cells) = some [.i .u64 0] := by kernel_rfl
theorem un_xors : Tryz.prog.underlying 257 = some (.int .u64) := by kernel_rfl
theorem ad_xors : addrT Tryz.prog 257 = 4 := by kernel_rfl
theorem ld_u8 : loadT Tryz.prog 5 = some (false, 1) := by kernel_rfl
theorem un_u8 : Tryz.prog.underlying 5 = some (.int .u8) := by kernel_rfl
theorem ad_u8 : addrT Tryz.prog 5 = 4 := by kernel_rfl
end Go.Proofs.YtekoajibckipkaaGreat
namespace Go.Proofs.YtekoajibckipkaaGreat
open Go Go.Eng
theorem ld_slips : loadT Tryz.prog 70 = some (false, 1) := by kernel_rfl
theorem sz_slips : sizeT Tryz.prog 70 = some 1 := by kernel_rfl
theorem zr_slips : (zeroT Tryz.prog 70).map (fun z => (ofValue z).cells) = some [.o .nilS] := by kernel_rfl
theorem el_slips : elemT Tryz.prog 70 = some (75, 3) := by kernel_rfl
theorem ln_slips : lenT Tryz.prog 70 = some 1 := by kernel_rfl
theorem ad_slips : addrT Tryz.prog 70 = 1 := by kernel_rfl
end Go.Proofs.YtekoajibckipkaaGreat
namespace Go.Proofs.YtekoajibckipkaaGreat
open Go Go.Eng
set_option maxRecDepth 10000 in
theorem tyF : type_of% (qA E2_P (qA ld_str (qA sz_str (qA zr_str (qA ln_str (qA ad_str (qA ld_int (qA sz_int (qA zr_int (qA ad_int (qA ld_bool (qA sz_bool (qA zr_bool (qA ad_bool (qA ld_errno (qA sz_errno (qA zr_errno (qA ad_errno (qA ld_unit (qA sz_unit (qA zr_unit (qA ad_unit (qA fd_unit_0 (qA fd_unit_1 (qA pt_unit (qA pl_unit_0 (qA pl_unit_1 (qA ld_units (qA sz_units (qA zr_units (qA el_units (qA ln_units (qA ad_units (qA ld_lad (qA sz_lad (qA zr_lad (qA ad_lad (qA fd_lad_0 (qA fd_lad_1 (qA pt_lad (qA pl_lad_0 (qA pl_lad_1 (qA ld_lads (qA sz_lads (qA zr_lads (qA el_lads (qA ln_lads (qA ad_lads (qA ld_mSB (qA sz_mSB (qA zr_mSB (qA ln_mSB (qA mp_mSB (qA kk_mSB (qA ad_mSB (qA ld_mSI (qA sz_mSI (qA zr_mSI (qA ln_mSI (qA mp_mSI (qA kk_mSI (qA ad_mSI (qA ld_pbook (qA sz_pbook (qA zr_pbook (qA ad_pbook (qA ld_book (qA sz_book (qA zr_book (qA ad_book (qA fd_book_0 (qA fd_book_1 (qA fd_book_2 (qA fd_book_3 (qA pt_book (qA pl_book_0 (qA pl_book_1 (qA pl_book_2 (qA pl_book_3 (qA ld_ints (qA sz_ints (qA zr_ints (qA el_ints (qA ln_ints (qA ad_ints (qA ld_prods (qA sz_prods (qA zr_prods (qA el_prods (qA ln_prods (qA ad_prods (qA ld_prod (qA sz_prod (qA zr_prod (qA ad_prod (qA fd_prod_0 (qA fd_prod_1 (qA pt_prod (qA pl_prod_0 (qA pl_prod_1 (qA ld_strs (qA sz_strs (qA zr_strs (qA el_strs (qA ln_strs (qA ad_strs (qA ld_good (qA sz_good (qA zr_good (qA ad_good (qA fd_good_0 (qA fd_good_1 (qA fd_good_2 (qA pt_good (qA pl_good_0 (qA pl_good_1 (qA pl_good_2 (qA ld_goods (qA sz_goods (qA zr_goods (qA el_goods (qA ln_goods (qA ad_goods (qA ld_rbook (qA sz_rbook (qA zr_rbook (qA ad_rbook (qA fd_rbook_0 (qA fd_rbook_1 (qA pt_rbook (qA pl_rbook_0 (qA pl_rbook_1 (qA ld_prbook (qA sz_prbook (qA zr_prbook (qA ad_prbook (qA ld_puzzle (qA sz_puzzle (qA zr_puzzle (qA ad_puzzle (qA fd_puzzle_0 (qA fd_puzzle_1 (qA pt_puzzle (qA pl_puzzle_0 (qA pl_puzzle_1 (qA ld_cells (qA sz_cells (qA zr_cells (qA el_cells (qA ln_cells (qA ad_cells (qA ld_cell (qA sz_cell (qA zr_cell (qA ad_cell (qA fd_cell_0 (qA fd_cell_1 (qA fd_cell_2 (qA fd_cell_3 (qA pt_cell (qA pl_cell_0 (qA pl_cell_1 (qA pl_cell_2 (qA pl_cell_3 (qA ld_rules (qA sz_rules (qA zr_rules (qA el_rules (qA ln_rules (qA ad_rules (qA ld_rule (qA sz_rule (qA zr_rule (qA ad_rule (qA fd_rule_0 (qA fd_rule_1 (qA pt_rule (qA pl_rule_0 (qA pl_rule_1 (qA ld_num (qA sz_num (qA zr_num (qA ad_num (qA fd_num_0 (qA fd_num_1 (qA pt_num (qA pl_num_0 (qA pl_num_1 (qA ld_grps (qA sz_grps (qA zr_grps (qA el_grps (qA ln_grps (qA ad_grps (qA ld_grp (qA sz_grp (qA zr_grp (qA ad_grp (qA fd_grp_0 (qA fd_grp_1 (qA fd_grp_2 (qA pt_grp (qA pl_grp_0 (qA pl_grp_1 (qA pl_grp_2 (qA ld_bools (qA sz_bools (qA zr_bools (qA el_bools (qA ln_bools (qA ad_bools (qA ld_errnos (qA sz_errnos (qA zr_errnos (qA el_errnos (qA ln_errnos (qA ad_errnos (qA ld_slip (qA sz_slip (qA zr_slip (qA ad_slip (qA fd_slip_0 (qA fd_slip_1 (qA fd_slip_2 (qA pt_slip (qA pl_slip_0 (qA pl_slip_1 (qA pl_slip_2 (qA ld_fixes (qA sz_fixes (qA zr_fixes (qA el_fixes (qA ln_fixes (qA ad_fixes (qA ld_fix (qA sz_fix (qA zr_fix (qA ad_fix (qA fd_fix_0 (qA fd_fix_1 (qA fd_fix_2 (qA fd_fix_3 (qA pt_fix (qA pl_fix_0 (qA pl_fix_1 (qA pl_fix_2 (qA pl_fix_3 (qA ld_case (qA sz_case (qA zr_case (qA ad_case (qA fd_case_0 (qA fd_case_1 (qA fd_case_2 (qA pt_case (qA pl_case_0 (qA pl_case_1 (qA pl_case_2 (qA ld_yfn (qA sz_yfn (qA zr_yfn ad_yfn))))))))))))))))))))))))))))))))))))))))))))))))))))))))))))))))))))))))))))))))))))))))))))))))))))))))))))))))))))))))))))))))))))))))))))))))))))))))))))))))))))))))))))))))))))))))))))))))))))))))))))))))))))))))))))))))))))))))))))))))))))))))))))))))))))) := qA E2_P (qA ld_str (qA sz_str (qA zr_str (qA ln_str (qA ad_str (qA ld_int (qA sz_int (qA zr_int (qA ad_int (qA ld_bool (qA sz_bool (qA zr_bool (qA ad_bool (qA ld_errno (qA sz_errno (qA zr_errno (qA ad_errno (qA ld_unit (qA sz_unit (qA zr_unit (qA ad_unit (qA fd_unit_0 (qA fd_unit_1 (qA pt_unit (qA pl_unit_0 (qA pl_unit_1 (qA ld_units (qA sz_units (qA zr_units (qA el_units (qA ln_units (qA ad_units (qA ld_lad (qA sz_lad (qA zr_lad (qA ad_lad (qA fd_lad_0 (qA fd_lad_1 (qA pt_lad (qA pl_lad_0 (qA pl_lad_1 (qA ld_lads (qA sz_lads (qA zr_lads (qA el_lads (qA ln_lads (qA ad_lads (qA ld_mSB (qA sz_mSB (qA zr_mSB (qA ln_mSB (qA mp_mSB (qA kk_mSB (qA ad_mSB (qA ld_mSI (qA sz_mSI (qA zr_mSI (qA ln_mSI (qA mp_mSI (qA kk_mSI (qA ad_mSI (qA ld_pbook (qA sz_pbook (qA zr_pbook (qA ad_pbook (qA ld_book (qA sz_book (qA zr_book (qA ad_book (qA fd_book_0 (qA fd_book_1 (qA fd_book_2 (qA fd_book_3 (qA pt_book (qA pl_book_0 (qA pl_book_1 (qA pl_book_2 (qA pl_book_3 (qA ld_ints (qA sz_ints (qA zr_ints (qA el_ints (qA ln_ints (qA ad_ints (qA ld_prods (qA sz_prods (qA zr_prods (qA el_prods (qA ln_prods (qA ad_prods (qA ld_prod (qA sz_prod (qA zr_prod (qA ad_prod (qA fd_prod_0 (qA fd_prod_1 (qA pt_prod (qA pl_prod_0 (qA pl_prod_1 (qA ld_strs (qA sz_strs (qA zr_strs (qA el_strs (qA ln_strs (qA ad_strs (qA ld_good (qA sz_good (qA zr_good (qA ad_good (qA fd_good_0 (qA fd_good_1 (qA fd_good_2 (qA pt_good (qA pl_good_0 (qA pl_good_1 (qA pl_good_2 (qA ld_goods (qA sz_goods (qA zr_goods (qA el_goods (qA ln_goods (qA ad_goods (qA ld_rbook (qA sz_rbook (qA zr_rbook (qA ad_rbook (qA fd_rbook_0 (qA fd_rbook_1 (qA pt_rbook (qA pl_rbook_0 (qA pl_rbook_1 (qA ld_prbook (qA sz_prbook (qA zr_prbook (qA ad_prbook (qA ld_puzzle (qA sz_puzzle (qA zr_puzzle (qA ad_puzzle (qA fd_puzzle_0 (qA fd_puzzle_1 (qA pt_puzzle (qA pl_puzzle_0 (qA pl_puzzle_1 (qA ld_cells (qA sz_cells (qA zr_cells (qA el_cells (qA ln_cells (qA ad_cells (qA ld_cell (qA sz_cell (qA zr_cell (qA ad_cell (qA fd_cell_0 (qA fd_cell_1 (qA fd_cell_2 (qA fd_cell_3 (qA pt_cell (qA pl_cell_0 (qA pl_cell_1 (qA pl_cell_2 (qA pl_cell_3 (qA ld_rules (qA sz_rules (qA zr_rules (qA el_rules (qA ln_rules (qA ad_rules (qA ld_rule (qA sz_rule (qA zr_rule (qA ad_rule (qA fd_rule_0 (qA fd_rule_1 (qA pt_rule (qA pl_rule_0 (qA pl_rule_1 (qA ld_num (qA sz_num (qA zr_num (qA ad_num (qA fd_num_0 (qA fd_num_1 (qA pt_num (qA pl_num_0 (qA pl_num_1 (qA ld_grps (qA sz_grps (qA zr_grps (qA el_grps (qA ln_grps (qA ad_grps (qA ld_grp (qA sz_grp (qA zr_grp (qA ad_grp (qA fd_grp_0 (qA fd_grp_1 (qA fd_grp_2 (qA pt_grp (qA pl_grp_0 (qA pl_grp_1 (qA pl_grp_2 (qA ld_bools (qA sz_bools (qA zr_bools (qA el_bools (qA ln_bools (qA ad_bools (qA ld_errnos (qA sz_errnos (qA zr_errnos (qA el_errnos (qA ln_errnos (qA ad_errnos (qA ld_slip (qA sz_slip (qA zr_slip (qA ad_slip (qA fd_slip_0 (qA fd_slip_1 (qA fd_slip_2 (qA pt_slip (qA pl_slip_0 (qA pl_slip_1 (qA pl_slip_2 (qA ld_fixes (qA sz_fixes (qA zr_fixes (qA el_fixes (qA ln_fixes (qA ad_fixes (qA ld_fix (qA sz_fix (qA zr_fix (qA ad_fix (qA fd_fix_0 (qA fd_fix_1 (qA fd_fix_2 (qA fd_fix_3 (qA pt_fix (qA pl_fix_0 (qA pl_fix_1 (qA pl_fix_2 (qA pl_fix_3 (qA ld_case (qA sz_case (qA zr_case (qA ad_case (qA fd_case_0 (qA fd_case_1 (qA fd_case_2 (qA pt_case (qA pl_case_0 (qA pl_case_1 (qA pl_case_2 (qA ld_yfn (qA sz_yfn (qA zr_yfn ad_yfn))))))))))))))))))))))))))))))))))))))))))))))))))))))))))))))))))))))))))))))))))))))))))))))))))))))))))))))))))))))))))))))))))))))))))))))))))))))))))))))))))))))))))))))))))))))))))))))))))))))))))))))))))))))))))))))))))))))))))))))))))))))))))))))))))))
end Go.Proofs.YtekoajibckipkaaGreat
namespace Go.Proofs.YtekoajibckipkaaGreat
open Go Go.Eng
theorem bd_split : hasBody Tryz.prog 148 = true := by kernel_rfl
theorem bd_Split : hasBody Tryz.prog 108 = true := by kernel_rfl
theorem bd_first : hasBody Tryz.prog 117 = true := by kernel_rfl
def splitA : List Pr → Int → List Int
  | [], _ => []
  | [_], n => [n]
  | _ :: y :: l, n => n % y.2 :: splitA (y :: l) (n / y.2)
theorem splitA_len : ∀ (us : List Pr) (n : Int), (splitA us n).length = us.length
  | [], _ => rfl
  | [_], _ => rfl
  | _ :: y :: l, n => by rw [splitA, List.length_cons, splitA_len (y :: l), List.length_cons]; rfl
theorem flatI (l : List Int) : l.flatMap intC = l.map (AC.i .i64) := by
  induction l with
  | nil => rfl
  | cons x l ih => rw [List.flatMap_cons, ih]; rfl
theorem slI_row {H : Hp} {q : Nat} {l : List Int} {lo gen : Nat} (hg : H.get q = some (.arr (l.map (AC.i .i64)) 3 lo gen)) (hl : lo ≤ gen) (hq : q < H.nx) : SlI H (.o (.sl q gen 0 l.length 1)) l :=
  ⟨by rw [flatI, List.length_map, Nat.mul_one], .inr ⟨q, gen, 0, rfl, hq, l.map (AC.i .i64), by rw [hg]; exact rowOf_arr hl (Nat.le_refl _), by rw [List.length_map]; omega, by rw [List.drop_zero, List.take_of_length_le (by rw [List.length_map]; omega), flatI]⟩⟩
theorem setMid {α : Type} (out : List α) (z a : α) (k : Nat) : (out ++ List.replicate (k + 1) z).set out.length a = (out ++ [a]) ++ List.replicate k z := by
  rw [List.set_append_right _ _ (Nat.le_refl _), Nat.sub_self, List.replicate_succ, List.set_cons_zero, List.append_assoc]; rfl
set_option maxRecDepth 10000 in
set_option maxHeartbeats 16000000 in
theorem split_con (H : Hp) (nm : List UInt8) (u : AC) (us : List Pr) (n : Int) (hu : SlP H u us) (hL : us.length ≤ 1000000) (hn0 : 0 ≤ n) (hn : n ≤ 1099511627776) (hf : ∀ x ∈ us, 1 ≤ x.2 ∧ x.2 ≤ 60) :
    Con E2 148 [.agg [.o (.str nm), u], .one (.i .i64 n)] H (fun _ => False) fun r H' => ∃ c, r = .one c ∧ SlI H' c (splitA us n) ∧ ∀ id ∈ (AV.one c).ids, H.nx ≤ id := by
  refine Con.of rfl fun lg => ?_
  have hu : SlP ⟨H.t, H.nx, lg⟩ u us := hu
  have e0 : H.nx = (⟨H.t, H.nx, lg⟩ : Hp).nx := rfl
  rw [e0]
  clear e0
  generalize (⟨H.t, H.nx, lg⟩ : Hp) = H at hu ⊢
  refine C1.body (E := E2) (nt := 48) (res := [.tmp 4]) Tryz.func148 rfl rfl rfl rfl rfl fun tm hargs => ?_
  have h0 := hargs 0 _ rfl
  have h1 := hargs 1 _ rfl
  clear hargs
  obtain ⟨z, hz, hzc⟩ : ∃ z, zeroT Tryz.prog 3 = some z ∧ (ofValue z).cells = [.i .i64 0] := ⟨.int .i64 0, zv_int, rfl⟩
  have mk : ∀ H, doMakeSlice Tryz.prog H 33 (.one (.i .i64 (us.length : Int))) (.one (.i .i64 (us.length : Int))) = .val (.one (.o (.sl H.nx 0 0 us.length 1))) (H.new (.arr ((List.replicate us.length (0 : Int)).map (AC.i .i64)) 3 0 0)) := fun H => by
    rw [make_slice el_ints by_int hz (by rw [hzc]; rfl) (by omega), hzc, repl_eq, List.map_replicate]
  clear hz hzc
  have hu0 := hu
  refine zG tyF fun K hK => ?_
  refine hK.out _ _ ?_
  refine R1.gen (fun A1 H1 => Gr H H1 ∧ H.nx + 1 = H1.nx ∧ H1.get H.nx = some (.arr [.o (.str nm), u] 68 0 0) ∧ slot A1.tm 1 = .one (.i .i64 (n : Int)) ∧ slot A1.tm 2 = .one ((.o (.ptr H.nx 0 0 2))) ∧ A1.nt = 48 ∧ A1.dfr = []) ⟨(Fr.refl _).new _, rfl, get_newE rfl, zL⟩ ?_
  rintro A1 H1 ⟨g1, n1, rx, t1, t2, hnt, hdf⟩
  clear h0 h1 tm hK K
  have m1 : H.nx < H1.nx := by omega
  obtain ⟨N, hN⟩ : ∃ N, N = H.nx := ⟨_, rfl⟩
  rw [← hN] at n1 rx t2 m1
  replace hN : Hd (N = H.nx) := hN
  replace n1 : Hd (N + 1 = H1.nx) := n1
  have hu := hu.gr g1
  have l1 := hu.len
  have l2 := hu.lt
  refine zG (qA tyF mk) fun K hK => ?_
  refine hK.out _ _ ?_
  refine R1.gen (fun A2 H2 => Gr H1 H2 ∧ N + 1 < H2.nx ∧ H2.get (N + 1) = some (.arr ((([] : List Int) ++ List.replicate us.length 0).map (AC.i .i64)) 3 0 0) ∧ slot A2.tm 1 = .one (.i .i64 (n : Int)) ∧ slot A2.tm 2 = .one ((.o (.ptr N 0 0 2))) ∧ slot A2.tm 5 = .one ((.o (.sl (N + 1) 0 0 us.length 1))) ∧ A2.nt = 48 ∧ A2.dfr = [])
    ⟨(Fr.refl _).new _, by have := n1.out; show _ < H1.nx + 1; omega, get_newE n1.out, ?_⟩ ?_
  · rw [n1.out]; exact zL
  clear t1 t2 hnt hdf A1 mk l1 l2 hK K
  rintro A2 H2 ⟨g2, m2, rs, t1, t2, t5, hnt, hdf⟩
  have rx := (g2.get _ m1 not_false).trans rx
  have m1 := Nat.lt_of_lt_of_le m1 g2.nx
  have hu := hu.gr g2
  have g2 := g1.gr g2
  clear g1 n1
  refine zW (qA tyF m2) ?_
  refine R1.s_bl fun K k1 k2 k3 k4 => ?_
  refine R1.loop (fun m A H3 => ∃ (i : Nat) (out : List Int) (k : Int), m = us.length - i ∧ i ≤ us.length ∧ out.length = i ∧ 0 ≤ k ∧ k ≤ 1099511627776 ∧ Gr H H3 ∧ N < H3.nx ∧ N + 1 < H3.nx ∧ H3.get N = some (.arr [.o (.str nm), u] 68 0 0) ∧ H3.get (N + 1) = some (.arr ((out ++ List.replicate (us.length - i) 0).map (AC.i .i64)) 3 0 0) ∧ out ++ splitA (us.drop i) k = splitA us n ∧
      slot A.tm 1 = .one (.i .i64 (k : Int)) ∧ slot A.tm 2 = .one ((.o (.ptr N 0 0 2))) ∧ slot A.tm 5 = .one ((.o (.sl (N + 1) 0 0 us.length 1))) ∧ slot A.tm 12 = .one (.i .i64 (us.length : Int)) ∧ slot A.tm 13 = .one (.i .i64 (i : Int)) ∧ A.nt = 48 ∧ A.dfr = []) ?_ us.length
    ⟨0, [], n, rfl, Nat.zero_le _, rfl, hn0, hn, g2, m1, m2, rx, rs, rfl, zL⟩
  clear t1 t2 t5 hnt hdf A2 rx rs hu m1 m2 k3 g2
  rintro m A H3 ⟨i, out, k, rfl, hi, hout, hk0, hk1, g3, m1, m2, rx, rs, hsp, t1, t2, t5, t12, t13, hnt, hdf⟩
  refine zW tyF ?_
  refine zI tyF (fun hc => ?_) (fun hc => ?_)
  · have hlt : i < us.length := by omega
    have hw2 : IntKind.i64.wrap ((i : Int) + 1) = ((i + 1 : Nat) : Int) := by rw [wrapI (by omega) (by omega)]; omega
    have hle : i + 1 ≤ ((out ++ List.replicate (us.length - i) (0 : Int)).map (AC.i .i64)).length := by rw [List.length_map, List.length_append, List.length_replicate]; omega
    have hput : ∀ a : Int, List.take i ((out ++ List.replicate (us.length - i) (0 : Int)).map (AC.i .i64)) ++ AC.i .i64 a :: List.drop (i + 1) ((out ++ List.replicate (us.length - i) (0 : Int)).map (AC.i .i64)) = ((out ++ [a]) ++ List.replicate (us.length - (i + 1)) 0).map (AC.i .i64) := fun a => by
      rw [setRow (AC.i .i64) _ _ a (by rw [List.length_append, List.length_replicate]; omega)]
      have e : us.length - i = (us.length - (i + 1)) + 1 := by omega
      rw [e, ← hout, setMid]
    refine zW tyF ?_
    refine R1.s_bl fun K2 q1 q2 q3 q4 => ?_
    have hsz : (splitA us n).length = us.length := splitA_len us n
    by_cases hlast : i + 1 = us.length
    · have ce : (((i + 1 : Nat) : Int) == (us.length : Int)) = true := by rw [hlast]; exact beq_self_eq_true _
      replace hlast : Hd (i + 1 = us.length) := hlast
      refine zW (qA tyF (qA (ixC hlt) (qA hput (qA Nat.mul_one hle)))) ?_
      refine q3.out 0 _ _ (by decide) ?_
      refine k2.out _ _ ?_
      refine zW tyF ?_
      have hdr : us.drop i = [us[i]] := by
        rw [List.drop_eq_getElem_cons hlt, List.drop_of_length_le (by have := hlast.out; omega)]
      rw [hdr, splitA] at hsp
      have e0 : us.length - (i + 1) = 0 := by have := hlast.out; omega
      have hsl := slI_row (H := H3.mod (N + 1) (.arr ((splitA us n).map (AC.i .i64)) 3 0 0)) (get_modE rfl) (Nat.le_refl _) m2
      rw [hsz] at hsl
      rw [e0, List.replicate_zero, List.append_nil, hsp]
      exact ⟨_, _, callEnd_one (.o (.sl (N + 1) 0 0 us.length 1)) (.inr rfl) qe qp, g3.mod _ (.inl (by have := hN.out; omega)), fun _ => ⟨_, rfl, hsl, fun k hk => by have := hN.out; rw [List.mem_singleton.1 hk]; omega⟩⟩
    · have ce : (((i + 1 : Nat) : Int) == (us.length : Int)) = false := beq_false_of_ne (by omega)
      have hlt2 : i + 1 < us.length := by omega
      have hdr : us.drop i = us[i] :: us[i + 1] :: us.drop (i + 2) := by
        rw [List.drop_eq_getElem_cons hlt, List.drop_eq_getElem_cons hlt2]
      have hdr2 : us.drop (i + 1) = us[i + 1] :: us.drop (i + 2) := List.drop_eq_getElem_cons hlt2
      have ey : us[i + 1]? = some us[i + 1] := List.getElem?_eq_getElem hlt2
      obtain ⟨hy1, hy2⟩ := hf us[i + 1] (List.getElem_mem hlt2)
      rw [hdr, splitA, ← hdr2] at hsp
      clear hdr hdr2
      generalize us[i + 1] = y at ey hy1 hy2 hsp
      obtain ⟨id, g, off, cells, rfl, hid0, hgr0, hat⟩ := hu0.open (by omega)
      have hidN : id < N := by have := hN.out; omega
      have hid : id < H3.nx := by omega
      have hgr : rowOf (H3.get id) g = some cells := by rw [g3.get _ hid0 not_false]; exact hgr0
      have hgm : ∀ X, rowOf ((H3.mod (N + 1) X).get id) g = some cells := fun X => by rw [get_modN (by omega)]; exact hgr
      have hgx : ∀ X, (H3.mod (N + 1) X).get N = some (.arr [.o (.str nm), .o (.sl id g off us.length 2)] 68 0 0) := fun X => (get_modN (by omega)).trans rx
      have hy := hat _ y ey
      have y1 := hy.snd
      have y2 := hy.le2
      clear hat hy hid0 hgr0
      have hy0 : y.2 ≠ 0 := by omega
      have e1 : k.tmod y.2 = k % y.2 := Int.tmod_eq_emod_of_nonneg hk0
      have e3 : k / y.2 ≤ k := Int.ediv_le_self _ hk0
      have e4 : 0 ≤ k / y.2 := Int.ediv_nonneg hk0 (by omega)
      have e2 : IntKind.i64.wrap (k.tdiv y.2) = k / y.2 := by rw [Int.tdiv_eq_ediv_of_nonneg hk0]; exact wrapI (by omega) (by omega)
      refine zW (qA tyF (qA (ixC hlt) (qA (ixC hlt2) (qA hput (qA Nat.mul_one (qA hle (qA arQ (qA (quoI hy0) (remI hy0))))))))) ?_
      refine q1.out _ _ ?_
      refine zW tyF ?_
      exact ⟨us.length - (i + 1), by omega, i + 1, out ++ [k % y.2], k / y.2, rfl, hlt, by rw [List.length_append, hout]; rfl, e4, by omega, g3.mod _ (.inl (by have := hN.out; omega)), m1, m2, (get_modN (by omega)).trans rx, get_modE rfl, by rw [List.append_assoc]; exact hsp, zL⟩
  · have hie : i = us.length := by omega
    refine zW tyF ?_
    refine k2.out _ _ ?_
    refine zW tyF ?_
    rw [hie, List.drop_length, splitA, List.append_nil] at hsp
    rw [hie, Nat.sub_self, List.replicate_zero, List.append_nil, hsp] at rs
    have hsl := slI_row rs (Nat.le_refl _) m2
    rw [splitA_len us n] at hsl
    exact ⟨_, _, callEnd_one (.o (.sl (N + 1) 0 0 us.length 1)) (.inr rfl) qe qp, g3, fun _ => ⟨_, rfl, hsl, fun k hk => by have := hN.out; rw [List.mem_singleton.1 hk]; omega⟩⟩
end Go.Proofs.YtekoajibckipkaaGreat
namespace Go.Proofs.YtekoajibckipkaaGreat
open Go Go.Eng
def firstE : List Int → Int
  | [] => 0
  | x :: l => if x = 0 then firstE l else x
set_option maxRecDepth 10000 in
set_option maxHeartbeats 4000000 in
theorem first_con (H : Hp) (w : AC) (l : List Int) (hw : SlI H w l) (hL : l.length ≤ 4611686018427387904) :
    Con E2 117 [.one w] H (fun _ => False) fun r _ => r = .one (.i .i64 (firstE l)) := by
  refine Con.of rfl fun lg => ?_
  have hw : SlI ⟨H.t, H.nx, lg⟩ w l := hw
  generalize (⟨H.t, H.nx, lg⟩ : Hp) = H at hw ⊢
  refine C1.body (E := E2) (nt := 15) (res := [.tmp 2]) Tryz.func117 rfl rfl rfl rfl rfl fun tm hargs => ?_
  have h0 := hargs 0 _ rfl
  clear hargs
  have fin : ∀ (e : Int) (A : AAct) (H3 : Hp), slot A.tm 2 = .one (.i .i64 e) → A.dfr = [] → Gr H H3 → e = firstE l → ∃ w H4, callEnd E2 [.tmp 2] (.ret, A, H3) = .ok [(w, H4)] ∧ Gr H H4 ∧ ∀ _ : List Nat, w = .one (.i .i64 (firstE l)) := fun e A H3 h1 h2 h3 h4 => ⟨_, H3, callEnd_one (.i .i64 e) (.inr rfl) h2 h1, h3, fun _ => by rw [h4]⟩
  generalize hr0 : firstE l = r0 at fin
  have l1 := hw.len
  have l2 := hw.lt
  refine zW tyF ?_
  refine R1.s_bl fun K k1 k2 k3 k4 => ?_
  refine R1.loop (fun m A H2 => ∃ i : Nat, m = l.length - i ∧ i ≤ l.length ∧ H2 = H ∧ firstE (l.drop i) = r0 ∧ slot A.tm 5 = .one (w) ∧ slot A.tm 6 = .one (.i .i64 (l.length : Int)) ∧ slot A.tm 7 = .one (.i .i64 (i : Int)) ∧ A.nt = 15 ∧ A.dfr = []) ?_ l.length ⟨0, rfl, Nat.zero_le _, rfl, hr0, zL⟩
  clear h0 tm hr0 l1 l2
  rintro m A H2 ⟨i, rfl, hil, rfl, hr, t5, t6, t7, hnt, hdf⟩
  refine zW tyF ?_
  refine zI tyF (fun hc => ?_) (fun hc => ?_)
  · have hlt : i < l.length := by omega
    have ex : l[i]? = some l[i] := List.getElem?_eq_getElem hlt
    have hdr : l.drop i = l[i] :: l.drop (i + 1) := List.drop_eq_getElem_cons hlt
    have htk : l.take (i + 1) = l.take i ++ [l[i]] := List.take_succ_eq_append_getElem hlt
    have hmem : l[i] ∈ l := List.getElem_mem hlt
    generalize l[i] = x at ex hdr htk hmem
    have hw2 : IntKind.i64.wrap ((i : Int) + 1) = ((i + 1 : Nat) : Int) := by rw [wrapI (by omega) (by omega)]; omega
    obtain ⟨id, g, off, cells, rfl, hid, hgr, hat⟩ := hw.open (by omega)
    obtain ⟨e1, e2⟩ := hat i x ex
    rw [hdr, firstE] at hr
    clear hat
    refine zW tyF ?_
    refine R1.s_bl fun K2 q1 q2 q3 q4 => ?_
    by_cases hx : x = 0
    · have ce : (x == 0) = true := beq_iff_eq.2 hx
      rw [if_pos hx] at hr
      replace hx : Hd (x = 0) := hx
      refine zW (qA tyF (ixC hlt)) ?_
      refine q1.out _ _ ?_
      refine zW tyF ?_
      exact ⟨l.length - (i + 1), by omega, i + 1, rfl, hlt, rfl, hr, zL⟩
    · have ce : (x == 0) = false := beq_false_of_ne hx
      refine zW (qA tyF (ixC hlt)) ?_
      exact q4.out _ _ (k4.out _ _ (fin (x) _ _ qp qe (Fr.refl _) ((by rw [if_neg hx] at hr; exact hr))))
  · have hie : i = l.length := by omega
    refine zW tyF ?_
    refine k2.out _ _ ?_
    refine zW tyF ?_
    rw [hie, List.drop_length, firstE] at hr
    exact fin (0) _ _ qp qe (Fr.refl _) (hr)
theorem slI_two {H : Hp} (a b : Int) {e : TypeId} : SlI (H.new (.arr [.i .i64 a, .i .i64 b] e 0 0)) (.o (.sl H.nx 0 0 2 1)) [a, b] :=
  ⟨rfl, .inr ⟨H.nx, 0, 0, rfl, Nat.lt_succ_self _, _, by rw [get_newE rfl]; exact rowOf_arr (Nat.le_refl _) (Nat.le_refl _), Nat.le_refl _, rfl⟩⟩
def splitE (nm : List UInt8) (us : List Pr) (n : Int) : List Int × Int := if chkLad nm us ≠ 0 then ([], chkLad nm us) else if 0 ≤ n ∧ n ≤ 1099511627776 then (splitA us n, 0) else ([], 8)
set_option maxRecDepth 10000 in
set_option maxHeartbeats 8000000 in
theorem splitE_con (H : Hp) (nm : List UInt8) (u : AC) (us : List Pr) (n : Int) (hu : SlP H u us) :
    Con E2 108 [.agg [.o (.str nm), u], .one (.i .i64 n)] H (fun _ => False) fun r H' => ∃ c, r = .tup [(false, [c]), (false, [.i .i64 (splitE nm us n).2])] ∧ SlI H' c (splitE nm us n).1 ∧ ∀ id ∈ (AV.one c).ids, H.nx ≤ id := by
  refine Con.of rfl fun lg => ?_
  have hu : SlP ⟨H.t, H.nx, lg⟩ u us := hu
  have e0 : H.nx = (⟨H.t, H.nx, lg⟩ : Hp).nx := rfl
  rw [e0]
  clear e0
  generalize (⟨H.t, H.nx, lg⟩ : Hp) = H at hu ⊢
  refine C1.body (E := E2) (nt := 24) (res := [.tmp 4, .tmp 5]) Tryz.func108 rfl rfl rfl rfl rfl fun tm hargs => ?_
  have h0 := hargs 0 _ rfl
  have h1 := hargs 1 _ rfl
  clear hargs
  generalize hr0 : splitE nm us n = r0
  have fin : ∀ (c : AC) (e : Int) (A : AAct) (H3 : Hp), slot A.tm 4 = .one c → slot A.tm 5 = .one (.i .i64 e) → A.dfr = [] → Gr H H3 → SlI H3 c r0.1 ∧ e = r0.2 ∧ (∀ id ∈ (AV.one c).ids, H.nx ≤ id) → ∃ w H4, callEnd E2 [.tmp 4, .tmp 5] (.ret, A, H3) = .ok [(w, H4)] ∧ Gr H H4 ∧ ∀ lg' : List Nat, ∃ c, w = .tup [(false, [c]), (false, [.i .i64 r0.2])] ∧ SlI ⟨H4.t, H4.nx, lg'⟩ c r0.1 ∧ ∀ id ∈ (AV.one c).ids, H.nx ≤ id := fun c e A H3 h1 h2 h3 h4 h5 => ⟨_, H3, callEnd_two c (.i .i64 e) (.inr rfl) h3 h1 h2, h4, fun _ => ⟨c, by rw [h5.2.1], h5.1, h5.2.2⟩⟩
  refine zG tyF fun K hK => ?_
  refine hK.out _ _ ?_
  refine R1.gen (fun A1 H1 => Gr H H1 ∧ H.nx < H1.nx ∧ H1.get H.nx = some (.arr [.o (.str nm), u] 68 0 0) ∧ slot A1.tm 1 = .one (.i .i64 (n : Int)) ∧ slot A1.tm 2 = .one ((.o (.ptr H.nx 0 0 2))) ∧ A1.nt = 24 ∧ A1.dfr = []) ⟨(Fr.refl _).new _, Nat.lt_succ_self _, get_newE rfl, zL⟩ ?_
  rintro A1 H1 ⟨g1, m1, rx, t1, t2, hnt, hdf⟩
  clear h0 h1 tm hK K
  have hu := hu.gr g1
  refine zG (qA tyF bd_check) fun K hK => ?_
  refine WE.con (check_con H1 nm u us hu) fun w H2 g2 hq => ?_
  subst hq
  have rx := (g2.get _ m1 not_false).trans rx
  have m1 := Nat.lt_of_lt_of_le m1 g2.nx
  have hu := hu.gr g2
  have g2 := g1.gr g2
  clear g1
  have r2 : repl [AC.i .i64 0] 2 = [.i .i64 0, .i .i64 0] := rfl
  have hok := @chkLad_ok nm us
  unfold splitE at hr0
  generalize chkLad nm us = e0 at hr0 hok
  by_cases c0 : 0 ≤ n
  case neg =>
    refine zS (qA tyF bd_need) ?_
    refine WE.con (need_con H2 false 8) fun w H3 g3 hq => ?_
    subst hq
    have rx := (g3.get _ m1 not_false).trans rx
    have m1 := Nat.lt_of_lt_of_le m1 g3.nx
    have hu := hu.gr g3
    have g3 := g2.gr g3
    refine zS (qA tyF bd_first) ?_
    refine WE.con (first_con _ _ [e0, 8] (slI_two _ _) (by show 2 ≤ _; omega)) fun w H4 g4 hq => ?_
    subst hq
    have g4 : Gr H3 H4 := ((Fr.refl _).new _).gr g4
    have rx := (g4.get _ m1 not_false).trans rx
    have m1 := Nat.lt_of_lt_of_le m1 g4.nx
    have hu := hu.gr g4
    have g4 := g3.gr g4
    by_cases he0 : e0 = 0
    case neg =>
      have ce : (firstE [e0, 8] == 0) = false := by rw [firstE, if_neg he0]; exact beq_false_of_ne he0
      have cf : firstE [e0, 8] = e0 := by rw [firstE, if_neg he0]
      rw [cf] at ce
      refine zK tyF ?_
      exact fin (.o .nilS) (e0) _ _ qp qp qe (g4) (⟨by rw [← hr0, if_pos he0]; exact SlI.nil, by rw [← hr0, if_pos he0], fun _ h => by cases h⟩)
    rw [if_neg (fun h => h he0)] at hr0
    have cf : firstE [e0, 8] = 8 := by rw [firstE, if_pos he0]; rfl
    replace he0 : Hd (e0 = 0) := he0
    refine zK tyF ?_
    exact fin (.o .nilS) (8) _ _ qp qp qe (g4) (⟨by rw [← hr0, if_neg (fun h => c0 h.1)]; exact SlI.nil, by rw [← hr0, if_neg (fun h => c0 h.1)], fun _ h => by cases h⟩)

  by_cases c1 : n ≤ 1099511627776
  case neg =>
    refine zS (qA tyF bd_need) ?_
    refine WE.con (need_con H2 false 8) fun w H3 g3 hq => ?_
    subst hq
    have rx := (g3.get _ m1 not_false).trans rx
    have m1 := Nat.lt_of_lt_of_le m1 g3.nx
    have hu := hu.gr g3
    have g3 := g2.gr g3
    refine zS (qA tyF bd_first) ?_
    refine WE.con (first_con _ _ [e0, 8] (slI_two _ _) (by show 2 ≤ _; omega)) fun w H4 g4 hq => ?_
    subst hq
    have g4 : Gr H3 H4 := ((Fr.refl _).new _).gr g4
    have rx := (g4.get _ m1 not_false).trans rx
    have m1 := Nat.lt_of_lt_of_le m1 g4.nx
    have hu := hu.gr g4
    have g4 := g3.gr g4
    by_cases he0 : e0 = 0
    case neg =>
      have ce : (firstE [e0, 8] == 0) = false := by rw [firstE, if_neg he0]; exact beq_false_of_ne he0
      have cf : firstE [e0, 8] = e0 := by rw [firstE, if_neg he0]
      rw [cf] at ce
      refine zK tyF ?_
      exact fin (.o .nilS) (e0) _ _ qp qp qe (g4) (⟨by rw [← hr0, if_pos he0]; exact SlI.nil, by rw [← hr0, if_pos he0], fun _ h => by cases h⟩)
    rw [if_neg (fun h => h he0)] at hr0
    have cf : firstE [e0, 8] = 8 := by rw [firstE, if_pos he0]; rfl
    replace he0 : Hd (e0 = 0) := he0
    refine zK tyF ?_
    exact fin (.o .nilS) (8) _ _ qp qp qe (g4) (⟨by rw [← hr0, if_neg (fun h => c1 h.2)]; exact SlI.nil, by rw [← hr0, if_neg (fun h => c1 h.2)], fun _ h => by cases h⟩)

  refine zS (qA tyF bd_need) ?_
  refine WE.con (need_con H2 true 8) fun w H3 g3 hq => ?_
  subst hq
  have rx := (g3.get _ m1 not_false).trans rx
  have m1 := Nat.lt_of_lt_of_le m1 g3.nx
  have hu := hu.gr g3
  have g3 := g2.gr g3
  refine zS (qA tyF bd_first) ?_
  refine WE.con (first_con _ _ [e0, 0] (slI_two _ _) (by show 2 ≤ _; omega)) fun w H4 g4 hq => ?_
  subst hq
  have g4 : Gr H3 H4 := ((Fr.refl _).new _).gr g4
  have rx := (g4.get _ m1 not_false).trans rx
  have m1 := Nat.lt_of_lt_of_le m1 g4.nx
  have hu := hu.gr g4
  have g4 := g3.gr g4
  by_cases he0 : e0 = 0
  case neg =>
    have ce : (firstE [e0, 0] == 0) = false := by rw [firstE, if_neg he0]; exact beq_false_of_ne he0
    have cf : firstE [e0, 0] = e0 := by rw [firstE, if_neg he0]
    rw [cf] at ce
    refine zK tyF ?_
    exact fin (.o .nilS) (e0) _ _ qp qp qe (g4) (⟨by rw [← hr0, if_pos he0]; exact SlI.nil, by rw [← hr0, if_pos he0], fun _ h => by cases h⟩)
  rw [if_neg (fun h => h he0)] at hr0
  have cf : firstE [e0, 0] = 0 := by rw [firstE, if_pos he0]; rfl
  obtain ⟨_, _, hf⟩ := hok he0
  have hul := (hok he0).1
  replace he0 : Hd (e0 = 0) := he0
  refine zK tyF ?_
  refine zG (qA tyF bd_split) fun K hK => ?_
  refine WE.con (split_con H4 nm u us n hu (by omega) c0 c1 hf) fun w H5 g5 ⟨c, hq, hc, hfr⟩ => ?_
  subst hq
  refine zK tyF ?_
  exact fin (c) (0) _ _ qp qp qe (g4.gr g5) (⟨by rw [← hr0, if_pos ⟨c0, c1⟩]; exact hc, by rw [← hr0, if_pos ⟨c0, c1⟩], fun id h => Nat.le_trans g4.nx (hfr id h)⟩)
end Go.Proofs.YtekoajibckipkaaGreat
namespace Go.Proofs.YtekoajibckipkaaGreat
open Go Go.Eng
theorem chkLad_first {nm : List UInt8} {us : List Pr} (h : chkLad nm us = 0) : ∃ x l, us = x :: l ∧ x.2 = 1 := by
  unfold chkLad at h
  cases hl : ladOK nm us with
  | false => rw [hl, if_neg Bool.false_ne_true] at h; cases h
  | true =>
    unfold ladOK at hl
    simp only [Bool.and_eq_true] at hl
    obtain ⟨⟨⟨⟨_, h1⟩, _⟩, _⟩, h2⟩ := hl
    cases us with
    | nil => simp at h1
    | cons x l =>
      refine ⟨x, l, rfl, ?_⟩
      have := List.all_eq_true.1 h2 0 (List.mem_range.2 (Nat.succ_pos _))
      unfold okU at this
      simp only [Bool.and_eq_true] at this
      have h3 := this.2
      simp at h3
      exact h3
end Go.Proofs.YtekoajibckipkaaGreat
namespace Go.Proofs.YtekoajibckipkaaGreat
open Go Go.Eng
theorem bd_slips : hasBody Tryz.prog 71 = true := by kernel_rfl
theorem bd_slips1 : hasBody Tryz.prog 107 = true := by kernel_rfl
theorem bd_room : hasBody Tryz.prog 110 = true := by kernel_rfl
theorem bd_pass : hasBody Tryz.prog 111 = true := by kernel_rfl
abbrev Sp := Int × List UInt8 × Int
def spC (x : Sp) : List AC := [.i .i64 x.1, .o (.str x.2.1), .i .i64 x.2.2]
def okN (m : Int) : Bool := decide (1 ≤ m) && decide (m ≤ 1099511627776)
def roomB (us : List Pr) (i : Nat) (k : Int) : Bool := ((i + 1 : Nat) : Int) == (us.length : Int) || decide (k < (us.getD (i + 1) ([], 0)).2)
def one (b : Bool) (x : Sp) : List Sp := if (b && okN x.2.2) = true then [x] else []
def slipsAt (us : List Pr) (cs vs : List Int) (n : Int) (i : Nat) : List Sp :=
  one (decide (0 < cs.getD i 0)) (1, (us.getD i ([], 0)).1, n - vs.getD i 0) ++ one (roomB us i (cs.getD i 0 + 1)) (2, (us.getD i ([], 0)).1, n + vs.getD i 0) ++
  (if i + 1 = us.length then [] else
    one (cs.getD i 0 == 0 && decide (0 < cs.getD (i + 1) 0) && roomB us i (cs.getD (i + 1) 0)) (3, (us.getD i ([], 0)).1, n - cs.getD (i + 1) 0 * vs.getD (i + 1) 0 + cs.getD (i + 1) 0 * vs.getD i 0) ++
    one (cs.getD (i + 1) 0 == 0 && decide (0 < cs.getD i 0) && roomB us (i + 1) (cs.getD i 0)) (4, (us.getD (i + 1) ([], 0)).1, n - cs.getD i 0 * vs.getD i 0 + cs.getD i 0 * vs.getD (i + 1) 0))
def slA (S : List Sp) (j : Nat) : List AV := match S[j]? with
  | some x => [.agg (spC x)]
  | none => [.any]
theorem slA_len (S : List Sp) (j : Nat) : (slA S j).length = 1 := by
  unfold slA
  split <;> rfl
theorem slA_at {S : List Sp} {j : Nat} {x : Sp} (h : S[j]? = some x) : slA S j = [.agg (spC x)] := by
  unfold slA
  rw [h]
set_option maxRecDepth 10000 in
set_option maxHeartbeats 8000000 in
theorem room_con (H : Hp) (us : List Pr) (cs : List Int) (nm : List UInt8) (u c : AC) (rc il : Nat) (i : Nat) (k : Int) (hu : SlP H u us) (hc : SlI H c cs) (hl : cs.length = us.length) (hi : i < us.length) (hL : us.length ≤ 1000000) (hrc : rc < H.nx) (hil : il < H.nx) (hgc : H.get rc = some (.arr [c] 33 0 0)) (hgl : H.get il = some (.arr [.o (.str nm), u] 68 0 0)) :
    Con E2 110 [.one (.i .i64 (i : Int)), .one (.i .i64 k), .one (.o (.ptr rc 0 0 1)), .one (.o (.ptr il 0 0 2))] H (fun _ => False) fun r _ => r = .one (.b (roomB us i k)) := by
  refine Con.of rfl fun lg => ?_
  have hu : SlP ⟨H.t, H.nx, lg⟩ u us := hu
  have hc : SlI ⟨H.t, H.nx, lg⟩ c cs := hc
  have hrc : rc < Hp.nx ⟨H.t, H.nx, lg⟩ := hrc
  have hil : il < Hp.nx ⟨H.t, H.nx, lg⟩ := hil
  have hgc : Hp.get ⟨H.t, H.nx, lg⟩ rc = some (.arr [c] 33 0 0) := hgc
  have hgl : Hp.get ⟨H.t, H.nx, lg⟩ il = some (.arr [.o (.str nm), u] 68 0 0) := hgl
  generalize (⟨H.t, H.nx, lg⟩ : Hp) = H at hu hc hrc hil hgc hgl ⊢
  refine C1.body (E := E2) (nt := 23) (res := [.tmp 6]) Tryz.func110 rfl rfl rfl rfl rfl fun tm hargs => ?_
  have h0 := hargs 0 _ rfl
  have h1 := hargs 1 _ rfl
  have h2 := hargs 2 _ rfl
  have h3 := hargs 3 _ rfl
  clear hargs
  have fin : ∀ (e : Bool) (A : AAct) (H3 : Hp), slot A.tm 6 = .one (.b e) → A.dfr = [] → Gr H H3 → e = roomB us i k → ∃ w H4, callEnd E2 [.tmp 6] (.ret, A, H3) = .ok [(w, H4)] ∧ Gr H H4 ∧ ∀ _ : List Nat, w = .one (.b (roomB us i k)) := fun e A H3 h1 h2 h3 h4 => ⟨_, H3, callEnd_one (.b e) (.inr rfl) h2 h1, h3, fun _ => by rw [h4]⟩
  generalize hr0 : roomB us i k = r0 at fin
  have l1 := hc.len
  have l2 := hc.lt
  rw [hl] at l1
  replace hl : Hd (cs.length = us.length) := hl
  have hw2 : IntKind.i64.wrap ((i : Int) + 1) = ((i + 1 : Nat) : Int) := by rw [wrapI (by omega) (by omega)]; omega
  unfold roomB at hr0
  cases hcc : (((i + 1 : Nat) : Int) == (us.length : Int)) with
  | true =>
    refine zW tyF ?_
    exact fin (true) _ _ qp qe (Fr.refl _) ((by rw [hcc, Bool.true_or] at hr0; exact hr0))
  | false =>
    have hlt : i + 1 < us.length := by have := ne_of_beq_false hcc; omega
    obtain ⟨id, g, off, cells, rfl, hid, hgr, hat⟩ := hu.open (by omega)
    have ey : us[i + 1]? = some (us.getD (i + 1) ([], 0)) := by rw [List.getD_eq_getElem?_getD, List.getElem?_eq_getElem hlt]; rfl
    have hy := hat _ _ ey
    have y1 := hy.snd
    have y2 := hy.le2
    clear hat
    refine zW (qA tyF (ixC hlt)) ?_
    exact fin ((decide (k < (us.getD (i + 1) ([], 0)).2))) _ _ qp qe (Fr.refl _) ((by rw [hcc, Bool.false_or] at hr0; exact hr0))
set_option maxRecDepth 10000 in
set_option maxHeartbeats 8000000 in
theorem pass_con {σ : Type} {L : Nat} {S : List Sp} {Dn : Nat → Prop} (B : YB E2 L S.length (slA S) Dn σ) (s : σ) (j : Nat) (H : Hp) (us : List Pr) (nm : List UInt8) (u : AC) (rb il : Nat) (kd : Int) (i : Nat) (m : Int) (hj : B.J j s H) (hu : SlP H u us) (hi : i < us.length) (hL : us.length ≤ 1000000) (hrb : rb < H.nx) (hil : il < H.nx)
    (hgb : H.get rb = some (.arr [.o (.yl L)] 182 0 0)) (hgl : H.get il = some (.arr [.o (.str nm), u] 68 0 0)) (hS : okN m = true → S[j]? = some (kd, (us.getD i ([], 0)).1, m)) :
    Con E2 111 [.one (.i .i64 kd), .one (.i .i64 (i : Int)), .one (.i .i64 m), .one (.o (.ptr rb 0 0 1)), .one (.o (.ptr il 0 0 2))] H (B.fp s) fun r H' => ∃ b s', r = .one (.b b) ∧ (b = true → B.J (if okN m = true then j + 1 else j) s' H') ∧ (b = false → B.F s' H') ∧ ∀ k, B.fp s' k → B.fp s k ∨ H.nx ≤ k := by
  refine Con.of rfl fun lg => ?_
  have hj : B.J j s ⟨H.t, H.nx, lg⟩ := B.hJ hj (Nat.le_refl _) fun _ _ => rfl
  have hu : SlP ⟨H.t, H.nx, lg⟩ u us := hu
  have hrb : rb < (⟨H.t, H.nx, lg⟩ : Hp).nx := hrb
  have hil : il < (⟨H.t, H.nx, lg⟩ : Hp).nx := hil
  have hgb : (⟨H.t, H.nx, lg⟩ : Hp).get rb = some (.arr [.o (.yl L)] 182 0 0) := hgb
  have hgl : (⟨H.t, H.nx, lg⟩ : Hp).get il = some (.arr [.o (.str nm), u] 68 0 0) := hgl
  have e0 : H.nx = (⟨H.t, H.nx, lg⟩ : Hp).nx := rfl
  rw [e0]
  clear e0
  generalize (⟨H.t, H.nx, lg⟩ : Hp) = H at hj hu hrb hil hgb hgl ⊢
  generalize hj' : (if okN m = true then j + 1 else j) = j'
  refine C1.body (E := E2) (nt := 28) (res := [.tmp 8]) Tryz.func111 rfl rfl rfl rfl rfl fun tm hargs => ?_
  have h0 := hargs 0 _ rfl
  have h1 := hargs 1 _ rfl
  have h2 := hargs 2 _ rfl
  have h3 := hargs 3 _ rfl
  have h4 := hargs 4 _ rfl
  clear hargs
  have fin : ∀ (b : Bool) (A : AAct) (H3 : Hp) (s' : σ), slot A.tm 8 = .one (.b b) → A.dfr = [] → Fr (B.fp s) H H3 → (b = true → B.J j' s' H3) → (b = false → B.F s' H3) → (∀ k, B.fp s' k → B.fp s k ∨ H.nx ≤ k) →
      ∃ w H4, callEnd E2 [.tmp 8] (.ret, A, H3) = .ok [(w, H4)] ∧ Fr (B.fp s) H H4 ∧ ∀ lg', ∃ b s', w = .one (.b b) ∧ (b = true → B.J j' s' ⟨H4.t, H4.nx, lg'⟩) ∧ (b = false → B.F s' ⟨H4.t, H4.nx, lg'⟩) ∧ ∀ k, B.fp s' k → B.fp s k ∨ H.nx ≤ k := fun b A H3 s' h1 h2 h3 h4 h5 h6 =>
    ⟨_, H3, callEnd_one (.b b) (.inr rfl) h2 h1, h3, fun _ => ⟨b, s', rfl, fun h => B.hJ (h4 h) (Nat.le_refl _) fun _ _ => rfl, fun h => B.hF (h5 h) (Nat.le_refl _) fun _ _ => rfl, h6⟩⟩
  by_cases c0 : m < 1
  · have hk : okN m = false := by unfold okN; rw [decide_eq_false (by omega)]; rfl
    rw [hk, if_neg Bool.false_ne_true] at hj'
    subst hj'
    refine zW tyF ?_
    exact fin true _ _ s qp qe (Fr.refl _) (fun _ => hj) (fun h => by cases h) fun _ h => .inl h
  by_cases c1 : 1099511627776 < m
  · have hk : okN m = false := by unfold okN; rw [decide_eq_false (show ¬ m ≤ 1099511627776 by omega), Bool.and_false]
    rw [hk, if_neg Bool.false_ne_true] at hj'
    subst hj'
    refine zW tyF ?_
    exact fin true _ _ s qp qe (Fr.refl _) (fun _ => hj) (fun h => by cases h) fun _ h => .inl h
  have hk : okN m = true := by unfold okN; rw [decide_eq_true (by omega), decide_eq_true (by omega)]; rfl
  rw [hk, if_pos rfl] at hj'
  subst hj'
  have hSj := hS hk
  have hjl : j < S.length := (List.getElem?_eq_some_iff.1 hSj).1
  have hp := B.pass j s H hjl hj
  rw [slA_at hSj, spC] at hp
  obtain ⟨id, g, off, cells, rfl, hid, hgr, hat⟩ := hu.open (by omega)
  have ey : us[i]? = some (us.getD i ([], 0)) := by rw [List.getD_eq_getElem?_getD, List.getElem?_eq_getElem hi]; rfl
  have hy := hat _ _ ey
  have y1 := hy.fst
  have y2 := hy.le1
  clear hat hS hSj hk ey
  generalize us.getD i ([], 0) = y at y1 hp
  refine zW tyF ?_
  refine zG (qA tyF (ixC hi)) fun K hK => ?_
  refine WE.conR hp fun v H4 hf4 ⟨b, s3, hv, hbt, hbf, hfp3⟩ => ?_
  subst hv
  refine zK tyF ?_
  exact fin b _ _ s3 qp qe hf4 hbt hbf hfp3
end Go.Proofs.YtekoajibckipkaaGreat
namespace Go.Proofs.YtekoajibckipkaaGreat
open Go Go.Eng
theorem drop_one {S R : List Sp} {j : Nat} {x : Sp} (h : S.drop j = one true x ++ R) : (okN x.2.2 = true → S[j]? = some x) ∧ S.drop (if okN x.2.2 = true then j + 1 else j) = R := by
  unfold one at h
  cases hk : okN x.2.2 with
  | true =>
    rw [hk, Bool.true_and, if_pos rfl] at h
    have h0 : (S.drop j)[0]? = some x := by rw [h]; rfl
    rw [List.getElem?_drop] at h0
    refine ⟨fun _ => h0, ?_⟩
    rw [if_pos rfl, ← List.drop_drop, h]; rfl
  | false =>
    rw [hk, Bool.true_and, if_neg Bool.false_ne_true, List.nil_append] at h
    exact ⟨fun h2 => absurd h2 Bool.false_ne_true, (if_neg Bool.false_ne_true).symm ▸ h⟩
theorem drop_none {S R : List Sp} {j : Nat} {x : Sp} (h : S.drop j = one false x ++ R) : S.drop j = R := by
  unfold one at h
  rw [Bool.false_and, if_neg Bool.false_ne_true, List.nil_append] at h
  exact h
def slipsL (us : List Pr) (cs vs : List Int) (n : Int) : List Sp := (List.range us.length).flatMap (slipsAt us cs vs n)
theorem headD_i (l : List Int) (i : Nat) (h : i < l.length) : ((l.map (AC.i .i64)).drop i).headD (.b false) = .i .i64 (l.getD i 0) := by
  rw [← List.map_drop, List.getD_eq_getElem?_getD, List.drop_eq_getElem_cons h, List.getElem?_eq_getElem h]; rfl
def valsS (nm : List UInt8) (us : List Pr) : List Int := us.map fun x => (valL nm us x.1).1
def SmallB (us : List Pr) (cs vs : List Int) : Prop := ∀ i, i < us.length → (0 ≤ cs.getD i 0 ∧ cs.getD i 0 ≤ 1099511627776) ∧ (0 ≤ vs.getD i 0 ∧ vs.getD i 0 ≤ 1099511627776) ∧
  (i + 1 < us.length → (0 ≤ cs.getD (i + 1) 0 * vs.getD (i + 1) 0 ∧ cs.getD (i + 1) 0 * vs.getD (i + 1) 0 ≤ 1099511627776) ∧ (0 ≤ cs.getD (i + 1) 0 * vs.getD i 0 ∧ cs.getD (i + 1) 0 * vs.getD i 0 ≤ 1125899906842624) ∧
    (0 ≤ cs.getD i 0 * vs.getD i 0 ∧ cs.getD i 0 * vs.getD i 0 ≤ 1099511627776) ∧ (0 ≤ cs.getD i 0 * vs.getD (i + 1) 0 ∧ cs.getD i 0 * vs.getD (i + 1) 0 ≤ 1125899906842624))
set_option maxRecDepth 10000 in
set_option maxHeartbeats 64000000 in
theorem slips1_it (H : Hp) (il rn : Nat) (nm : List UInt8) (u : AC) (us : List Pr) (n : Int) (hil : il < H.nx) (hgl : H.get il = some (.arr [.o (.str nm), u] 68 0 0)) (hrn : rn < H.nx) (hgn : H.get rn = some (.arr [.i .i64 n] 3 0 0)) (hu : SlP H u us) (hck : chkLad nm us = 0) (hn1 : 1 ≤ n) (hn2 : n ≤ 1099511627776)
    (cs vs : List Int) (hcs : splitA us n = cs) (hvs : valsS nm us = vs) (hSB : SmallB us cs vs) (S : List Sp) (hS : slipsL us cs vs n = S) :
    ItC E2 107 [(il, 0, 0, 2), (rn, 0, 0, 1)] S.length (slA S) (fun k => k = il ∨ k = rn ∨ k ∈ (AV.one u).ids) H := by
  intro σ L B s H1 hnx hs1 hj
  refine Con.of rfl fun lg => ?_
  have hj : B.J 0 s ⟨H1.t, H1.nx, lg⟩ := B.hJ hj (Nat.le_refl _) fun _ _ => rfl
  have hnx : H.nx ≤ (⟨H1.t, H1.nx, lg⟩ : Hp).nx := hnx
  have hs1 : ∀ k, k < H.nx → (⟨H1.t, H1.nx, lg⟩ : Hp).get k = H.get k := hs1
  have e0 : H1.nx = (⟨H1.t, H1.nx, lg⟩ : Hp).nx := rfl
  rw [e0]
  clear e0
  generalize (⟨H1.t, H1.nx, lg⟩ : Hp) = H1 at hj hnx hs1 ⊢
  have hgl1 : H1.get il = some (.arr [.o (.str nm), u] 68 0 0) := by rw [hs1 _ hil]; exact hgl
  have hgn1 : H1.get rn = some (.arr [.i .i64 n] 3 0 0) := by rw [hs1 _ hrn]; exact hgn
  have hil1 : il < H1.nx := Nat.lt_of_lt_of_le hil hnx
  have hrn1 : rn < H1.nx := Nat.lt_of_lt_of_le hrn hnx
  have hu1 : SlP H1 u us := SlC.of_get hu hnx hs1
  have hfpD : ∀ k, B.fp s k → k < H1.nx ∧ ¬ (k = il ∨ k = rn ∨ k ∈ (AV.one u).ids) := fun k hk => B.hl hj hk
  clear hgl hgn hs1 hu hil hrn hnx
  have hL := (chkLad_ok hck).1
  have hck' := hck
  have hsp : splitE nm us n = (cs, 0) := by unfold splitE; rw [if_neg (fun h => h hck), if_pos ⟨by omega, hn2⟩, hcs]
  have hcl : cs.length = us.length := by rw [← hcs]; exact splitA_len us n
  have hvl : vs.length = us.length := by rw [← hvs]; unfold valsS; exact List.length_map _
  refine C1.body (E := E2) (nt := 180) (res := []) Tryz.func107 rfl rfl rfl rfl rfl fun tm hargs => ?_
  have h0 := hargs 0 _ rfl
  have h1 := hargs 1 _ rfl
  have h2 := hargs 2 _ rfl
  clear hargs
  refine zG tyF fun K hK => ?_
  refine hK.out _ _ ?_
  refine R1.gen (fun A2 H2 => Gr H1 H2 ∧ H1.nx < H2.nx ∧ H2.get H1.nx = some (.arr [.o (.yl L)] 182 0 0) ∧ slot A2.tm 1 = .one ((.o (.ptr il 0 0 2))) ∧ slot A2.tm 2 = .one ((.o (.ptr rn 0 0 1))) ∧ slot A2.tm 3 = .one ((.o (.ptr H1.nx 0 0 1))) ∧ A2.nt = 180 ∧ A2.dfr = []) ⟨(Fr.refl _).new _, Nat.lt_succ_self _, get_newE rfl, zL⟩ ?_
  clear h0 h1 h2 tm hK K
  rintro A2 H2 ⟨g2, mb, rb, t1, t2, t3, hnt, hdf⟩
  obtain ⟨qb, hqb⟩ : ∃ q, q = H1.nx := ⟨_, rfl⟩
  rw [← hqb] at mb rb t3
  replace hqb : Hd (qb = H1.nx) := hqb
  have rl := (g2.get _ hil1 not_false).trans hgl1
  have ml := Nat.lt_of_lt_of_le hil1 g2.nx
  have rn2 := (g2.get _ hrn1 not_false).trans hgn1
  have mn := Nat.lt_of_lt_of_le hrn1 g2.nx
  refine zG (qA tyF bd_Split) fun K hK => ?_
  refine WE.con (splitE_con H2 nm u us n (hu1.gr g2)) fun w H3 g3 ⟨c, hq, hc, hcf⟩ => ?_
  rw [hsp] at hq hc
  subst hq
  have rb := (g3.get _ mb not_false).trans rb
  have mb := Nat.lt_of_lt_of_le mb g3.nx
  have rl := (g3.get _ ml not_false).trans rl
  have ml := Nat.lt_of_lt_of_le ml g3.nx
  have rn2 := (g3.get _ mn not_false).trans rn2
  have mn := Nat.lt_of_lt_of_le mn g3.nx
  have g3 := g2.gr g3
  refine zS tyF ?_
  refine hK.out _ _ ?_
  refine R1.gen (fun A4 H4 => Gr H1 H4 ∧ Gr H3 H4 ∧ H3.nx < H4.nx ∧ H4.get H3.nx = some (.arr [c] 33 0 0) ∧ slot A4.tm 1 = .one ((.o (.ptr il 0 0 2))) ∧ slot A4.tm 2 = .one ((.o (.ptr rn 0 0 1))) ∧ slot A4.tm 3 = .one ((.o (.ptr qb 0 0 1))) ∧ slot A4.tm 4 = .one ((.o (.ptr H3.nx 0 0 1))) ∧ A4.nt = 180 ∧ A4.dfr = [])
    ⟨(g3.new _).mod _ (.inl g3.nx), ((Fr.refl _).new _).mod _ (.inl (Nat.le_refl _)), Nat.lt_succ_self _, get_modE rfl, zL⟩ ?_
  clear t1 t2 t3 hnt hdf A2 hK K
  rintro A H4 ⟨g4, g34, mc, rc, t1, t2, t3, t4, hnt, hdf⟩
  have rb := (g34.get _ mb not_false).trans rb
  have mb := Nat.lt_of_lt_of_le mb g34.nx
  have rl := (g34.get _ ml not_false).trans rl
  have ml := Nat.lt_of_lt_of_le ml g34.nx
  have rn2 := (g34.get _ mn not_false).trans rn2
  have mn := Nat.lt_of_lt_of_le mn g34.nx
  have hqv1 : qb < H4.nx ∧ H3.nx < H4.nx ∧ il < H4.nx ∧ rn < H4.nx ∧ H1.nx ≤ H4.nx := ⟨mb, mc, ml, mn, g4.nx⟩
  have hc4 := hc.gr g34
  have hqc : H1.nx ≤ H3.nx := g3.nx
  obtain ⟨qc, hqc'⟩ : ∃ q, q = H3.nx := ⟨_, rfl⟩
  rw [← hqc'] at mc rc t4 hqc hqv1
  have hcf1 : ∀ k ∈ (AV.one c).ids, H1.nx ≤ k := fun k hk => Nat.le_trans g2.nx (hcf k hk)
  clear hqc' g3 g34 hc hcf
  obtain ⟨z, hz, hzc⟩ : ∃ z, zeroT Tryz.prog 3 = some z ∧ (ofValue z).cells = [.i .i64 0] := ⟨.int .i64 0, zv_int, rfl⟩
  have mk : ∀ H, doMakeSlice Tryz.prog H 33 (.one (.i .i64 (cs.length : Int))) (.one (.i .i64 (cs.length : Int))) = .val (.one (.o (.sl H.nx 0 0 cs.length 1))) (H.new (.arr ((List.replicate cs.length (0 : Int)).map (AC.i .i64)) 3 0 0)) := fun H => by
    rw [make_slice el_ints by_int hz (by rw [hzc]; rfl) (by omega), hzc, repl_eq, List.map_replicate]
  clear hz hzc
  have l1 := hc4.len
  have l2 := hc4.lt
  rw [hcl] at l1 mk
  replace hcl : Hd (cs.length = us.length) := hcl
  replace hvl : Hd (vs.length = us.length) := hvl
  replace hcs : Hd (splitA us n = cs) := hcs
  replace hsp : Hd (splitE nm us n = (cs, 0)) := hsp
  replace hvs : Hd (valsS nm us = vs) := hvs
  replace hck : Hd (chkLad nm us = 0) := hck
  clear hck'
  replace hS : Hd (slipsL us cs vs n = S) := hS
  refine zG (qA tyF mk) fun K hK => ?_
  refine hK.out _ _ ?_
  refine R1.gen (fun A5 H5 => Gr H1 H5 ∧ Gr H4 H5 ∧ H4.nx < H5.nx ∧ H5.get H4.nx = some (.arr ((List.replicate us.length (0 : Int)).map (AC.i .i64)) 3 0 0) ∧ slot A5.tm 1 = .one ((.o (.ptr il 0 0 2))) ∧ slot A5.tm 2 = .one ((.o (.ptr rn 0 0 1))) ∧ slot A5.tm 3 = .one ((.o (.ptr qb 0 0 1))) ∧ slot A5.tm 4 = .one ((.o (.ptr qc 0 0 1))) ∧ slot A5.tm 6 = .one ((.o (.sl H4.nx 0 0 us.length 1))) ∧ A5.nt = 180 ∧ A5.dfr = [])
    ⟨g4.new _, (Fr.refl _).new _, Nat.lt_succ_self _, get_newE rfl, zL⟩ ?_
  clear t1 t2 t3 t4 hnt hdf A hK K mk l1 l2
  rintro A H5 ⟨g5, g45, mv, rv, t1, t2, t3, t4, t6, hnt, hdf⟩
  have rb := (g45.get _ mb not_false).trans rb
  have mb := Nat.lt_of_lt_of_le mb g45.nx
  have rl := (g45.get _ ml not_false).trans rl
  have ml := Nat.lt_of_lt_of_le ml g45.nx
  have rn2 := (g45.get _ mn not_false).trans rn2
  have mn := Nat.lt_of_lt_of_le mn g45.nx
  have rc := (g45.get _ mc not_false).trans rc
  have mc := Nat.lt_of_lt_of_le mc g45.nx
  have hc5 := hc4.gr g45
  have hcv : ∀ k ∈ (AV.one c).ids, k < H4.nx := hc4.lt
  obtain ⟨qv, hqv⟩ : ∃ q, q = H4.nx := ⟨_, rfl⟩
  rw [← hqv] at mv rv t6 hcv hqv1
  clear hqv g45 hc4 g4
  have hu5 := hu1.gr g5
  have l1 := hu5.len
  have l2 := hu5.lt
  refine zW tyF ?_
  obtain ⟨hqb1, hqc1, hqi1, hqn1, hq1⟩ := hqv1
  have RF : ∀ H6, Fr (fun k => k = qv) H5 H6 → (H6.get qb = some (.arr [.o (.yl L)] 182 0 0) ∧ qb < H6.nx) ∧ (H6.get il = some (.arr [.o (.str nm), u] 68 0 0) ∧ il < H6.nx) ∧ (H6.get rn = some (.arr [.i .i64 n] 3 0 0) ∧ rn < H6.nx) ∧ (H6.get qc = some (.arr [c] 33 0 0) ∧ qc < H6.nx) ∧ qv < H6.nx := fun H6 f =>
    ⟨⟨(f.get _ mb (by omega)).trans rb, Nat.lt_of_lt_of_le mb f.nx⟩, ⟨(f.get _ ml (by omega)).trans rl, Nat.lt_of_lt_of_le ml f.nx⟩, ⟨(f.get _ mn (by omega)).trans rn2, Nat.lt_of_lt_of_le mn f.nx⟩, ⟨(f.get _ mc (by omega)).trans rc, Nat.lt_of_lt_of_le mc f.nx⟩, Nat.lt_of_lt_of_le mv f.nx⟩
  have hcne : ∀ k ∈ (AV.one c).ids, ¬ k = qv := fun k hk e => by have := hcv k hk; omega
  refine R1.s_bl fun K k1 k2 k3 k4 => ?_
  refine R1.loop (fun m A H6 => ∃ i : Nat, m = us.length - i ∧ i ≤ us.length ∧ Gr H1 H6 ∧ Fr (fun k => k = qv) H5 H6 ∧ H6.get qv = some (.arr ((vs.take i ++ List.replicate (us.length - i) (0 : Int)).map (AC.i .i64)) 3 0 0) ∧
      slot A.tm 1 = .one ((.o (.ptr il 0 0 2))) ∧ slot A.tm 2 = .one ((.o (.ptr rn 0 0 1))) ∧ slot A.tm 3 = .one ((.o (.ptr qb 0 0 1))) ∧ slot A.tm 4 = .one ((.o (.ptr qc 0 0 1))) ∧ slot A.tm 6 = .one ((.o (.sl qv 0 0 us.length 1))) ∧ slot A.tm 24 = .one (u) ∧ slot A.tm 25 = .one (.i .i64 (us.length : Int)) ∧ slot A.tm 26 = .one (.i .i64 (i : Int)) ∧ A.nt = 180 ∧ A.dfr = []) ?_ us.length
    ⟨0, rfl, Nat.zero_le _, g5, Fr.refl _, rv, zL⟩
  clear t1 t2 t3 t4 t6 hnt hdf A rb rl rn2 rc rv k3 l1 l2 hu5
  rintro m A H6 ⟨i, rfl, hi, g6, f6, rv, t1, t2, t3, t4, t6, t24, t25, t26, hnt, hdf⟩
  refine zW tyF ?_
  refine zI tyF (fun hc => ?_) (fun hc => ?_)
  · have hlt : i < us.length := by omega
    have ex : us[i]? = some us[i] := List.getElem?_eq_getElem hlt
    have hdr : us.drop i = us[i] :: us.drop (i + 1) := List.drop_eq_getElem_cons hlt
    have htk : us.take (i + 1) = us.take i ++ [us[i]] := List.take_succ_eq_append_getElem hlt
    have hmem : us[i] ∈ us := List.getElem_mem hlt
    generalize us[i] = x at ex hdr htk hmem
    have hw2 : IntKind.i64.wrap ((i : Int) + 1) = ((i + 1 : Nat) : Int) := by rw [wrapI (by omega) (by omega)]; omega
    obtain ⟨id, g, off, cells, rfl, hid, hgr, hat⟩ := (hu1.gr g6).open (by omega)
    have hy := hat _ _ ex
    have y1 := hy.all
    have y2 := hy.le
    have hvx : vs.take (i + 1) = vs.take i ++ [(valL nm us x.1).1] := by
      have e : vs[i]? = some (valL nm us x.1).1 := by rw [← hvs.out]; unfold valsS; rw [List.getElem?_map, ex]; rfl
      obtain ⟨h1, h2⟩ := List.getElem?_eq_some_iff.1 e
      rw [List.take_succ_eq_append_getElem h1, h2]
    clear hat hy hdr htk
    refine zW tyF ?_
    refine R1.s_bl fun K2 q1 q2 q3 q4 => ?_
    refine zG (qA tyF (qA (ixC hlt) prC_e)) fun K3 hK3 => ?_
    refine hK3.out _ _ ?_
    refine R1.gen (fun A7 H7 => Gr H1 H7 ∧ Gr H6 H7 ∧ H6.nx < H7.nx ∧ H7.get H6.nx = some (.arr [.o (.str x.1), .i .i64 x.2] 137 0 0) ∧ slot A7.tm 1 = .one ((.o (.ptr il 0 0 2))) ∧ slot A7.tm 2 = .one ((.o (.ptr rn 0 0 1))) ∧ slot A7.tm 3 = .one ((.o (.ptr qb 0 0 1))) ∧ slot A7.tm 4 = .one ((.o (.ptr qc 0 0 1))) ∧ slot A7.tm 6 = .one ((.o (.sl qv 0 0 us.length 1))) ∧ slot A7.tm 7 = .one (.i .i64 (i : Int)) ∧ slot A7.tm 8 = .one ((.o (.ptr H6.nx 0 0 2))) ∧ slot A7.tm 24 = .one ((.o (.sl id g off us.length 2))) ∧ slot A7.tm 25 = .one (.i .i64 (us.length : Int)) ∧ slot A7.tm 26 = .one (.i .i64 (i : Int)) ∧ A7.nt = 180 ∧ A7.dfr = [])
      ⟨(g6.new _).mod _ (.inl g6.nx), ((Fr.refl _).new _).mod _ (.inl (Nat.le_refl _)), Nat.lt_succ_self _, get_modE rfl, zL⟩ ?_
    clear t1 t2 t3 t4 t6 t24 t25 t26 hnt hdf A y1 y2 hgr hid hK3 K3
    rintro A H7 ⟨g7, g67, m8, r8, t1, t2, t3, t4, t6, t7, t8, t24, t25, t26, hnt, hdf⟩
    have f7 : Fr (fun k => k = qv) H5 H7 := f6.gr g67
    have rv7 := (g67.get _ (RF H6 f6).2.2.2.2 not_false).trans rv
    refine zG (qA tyF (qA (RF H7 f7) bd_value)) fun K3 hK3 => ?_
    refine WE.con (value_con H7 nm _ us x.1 (hu1.gr g7)) fun w H8 g8 hq => ?_
    subst hq
    have f8 : Fr (fun k => k = qv) H5 H8 := f7.gr g8
    have rv8 := (g8.get _ (RF H7 f7).2.2.2.2 not_false).trans rv7
    have g78 := g7.gr g8
    clear rv rv7 r8 m8
    have hlen : (vs.take i).length = i := by have := hvl.out; rw [List.length_take]; omega
    have hle : i + 1 ≤ ((vs.take i ++ List.replicate (us.length - i) (0 : Int)).map (AC.i .i64)).length := by rw [List.length_map, List.length_append, List.length_replicate, hlen]; omega
    have hput : List.take i ((vs.take i ++ List.replicate (us.length - i) (0 : Int)).map (AC.i .i64)) ++ AC.i .i64 (valL nm us x.1).1 :: List.drop (i + 1) ((vs.take i ++ List.replicate (us.length - i) (0 : Int)).map (AC.i .i64)) = (vs.take (i + 1) ++ List.replicate (us.length - (i + 1)) 0).map (AC.i .i64) := by
      rw [setRow (AC.i .i64) _ _ _ (by rw [List.length_append, List.length_replicate, hlen]; omega)]
      have e : us.length - i = (us.length - (i + 1)) + 1 := by omega
      rw [e]
      have e2 := setMid (vs.take i) 0 (valL nm us x.1).1 (us.length - (i + 1))
      rw [hlen] at e2
      rw [e2, hvx]
    replace hlen : Hd ((vs.take i).length = i) := hlen
    clear hvx
    generalize (valL nm us x.1).1 = vx at hput
    generalize (valL nm us x.1).2 = ve
    refine zS (qA tyF (qA (RF H8 f8) (qA (ixC hlt) (qA hput (qA Nat.mul_one hle))))) ?_
    refine hK3.out _ _ ?_
    refine q1.out _ _ ?_
    refine zW tyF ?_
    exact ⟨us.length - (i + 1), by omega, i + 1, rfl, hlt, g78.mod _ (.inl (by omega)), f8.mod _ (.inr rfl), get_modE rfl, zL⟩
  · have hie : i = us.length := by omega
    refine zW tyF ?_
    refine k2.out _ _ ?_
    clear k1 k2 k4
    have hvl2 : vs.take us.length = vs := by rw [← hvl.out, List.take_length]
    rw [hie, Nat.sub_self, List.replicate_zero, List.append_nil, hvl2] at rv
    replace hie : Hd (i = us.length) := hie
    clear t26 t24 t25 hvl2
    have hc6 : SlI H6 c cs := SlC.fr hc5 f6 hcne
    have l1 := hc6.len
    have l2 := hc6.lt
    rw [hcl.out] at l1
    refine zW (qA tyF (RF H6 f6)) ?_
    have hlp : 0 < us.length := by obtain ⟨x0, l0, e0, _⟩ := chkLad_first hck.out; rw [e0]; exact Nat.succ_pos _
    obtain ⟨idc, gc, offc, cellsc, hce, hidc, hgc, hatc⟩ := hc6.open (by have := hcl.out; omega)
    rw [hcl.out] at hce
    subst hce
    have ec : ∀ j, j < us.length → (cellsc.drop (offc + j)).headD (.b false) = .i .i64 (cs.getD j 0) ∧ offc + j + 1 ≤ cellsc.length := fun j hj => by
      have e : cs[j]? = some (cs.getD j 0) := by have := hcl.out; rw [List.getD_eq_getElem?_getD, List.getElem?_eq_getElem (by omega)]; rfl
      have h := hatc j _ e
      rwa [Nat.mul_one] at h
    have evv : ∀ j, j < us.length → ((vs.map (AC.i .i64)).drop j).headD (.b false) = .i .i64 (vs.getD j 0) ∧ j + 1 ≤ (vs.map (AC.i .i64)).length := fun j hj => by
      have := hvl.out
      exact ⟨headD_i vs j (by omega), by rw [List.length_map]; omega⟩
    have hnD : ∀ k, (H1.nx ≤ k ∨ (k = il ∨ k = rn ∨ k ∈ (AV.one u).ids)) → ¬ B.fp s k := fun k h hf => by
      have h2 := hfpD k hf
      rcases h with h | h
      · omega
      · exact h2.2 h
    have hqbn : ¬ B.fp s qb := hnD _ (.inl (by have := hqb.out; omega))
    have hidf : ¬ B.fp s idc := hnD _ (.inl (hcf1 idc (List.mem_singleton.2 rfl)))
    have hun : ∀ k ∈ (AV.one u).ids, ¬ B.fp s k := fun k hk => hnD k (.inr (.inr (.inr hk)))
    have hcn : ∀ k ∈ (AV.one (.o (.sl idc gc offc us.length 1))).ids, ¬ B.fp s k := fun k hk => by rw [List.mem_singleton.1 hk]; exact hidf
    have hu6 := hu1.gr g6
    have RG : ∀ H7, Fr (B.fp s) H6 H7 → (H7.get qb = some (.arr [.o (.yl L)] 182 0 0) ∧ qb < H7.nx) ∧ (H7.get il = some (.arr [.o (.str nm), u] 68 0 0) ∧ il < H7.nx) ∧ (H7.get rn = some (.arr [.i .i64 n] 3 0 0) ∧ rn < H7.nx) ∧ (H7.get qc = some (.arr [.o (.sl idc gc offc us.length 1)] 33 0 0) ∧ qc < H7.nx) ∧ (H7.get qv = some (.arr (vs.map (AC.i .i64)) 3 0 0) ∧ qv < H7.nx) ∧ (rowOf (H7.get idc) gc = some cellsc ∧ idc < H7.nx) := fun H7 f => by
      obtain ⟨⟨a1, a2⟩, ⟨b1, b2⟩, ⟨c1, c2⟩, ⟨d1, d2⟩, e2⟩ := RF H6 f6
      exact ⟨⟨(f.get _ a2 hqbn).trans a1, Nat.lt_of_lt_of_le a2 f.nx⟩, ⟨(f.get _ b2 (hnD _ (.inr (.inl rfl)))).trans b1, Nat.lt_of_lt_of_le b2 f.nx⟩, ⟨(f.get _ c2 (hnD _ (.inr (.inr (.inl rfl))))).trans c1, Nat.lt_of_lt_of_le c2 f.nx⟩, ⟨(f.get _ d2 (hnD _ (.inl hqc))).trans d1, Nat.lt_of_lt_of_le d2 f.nx⟩, ⟨(f.get _ e2 (hnD _ (.inl hq1))).trans rv, Nat.lt_of_lt_of_le e2 f.nx⟩, ⟨by rw [f.get _ hidc hidf]; exact hgc, Nat.lt_of_lt_of_le hidc f.nx⟩⟩
    have hcS : ∀ H7, Fr (B.fp s) H6 H7 → SlI H7 (.o (.sl idc gc offc us.length 1)) cs := fun H7 f => SlC.fr hc6 f hcn
    have huS : ∀ H7, Fr (B.fp s) H6 H7 → SlP H7 u us := fun H7 f => SlC.fr hu6 f hun
    have hj6 : B.J 0 s H6 := B.hJ hj g6.nx fun k hk => g6.get k hk not_false
    have fin : ∀ (e : AExit), e = .normal ∨ e = .ret → ∀ s3 H3 A3, B.J S.length s3 H3 ∨ B.F s3 H3 → Fr (B.fp s) H6 H3 → (∀ k, B.fp s3 k → B.fp s k ∨ H6.nx ≤ k) → A3.dfr = [] → ∃ v H4, callEnd E2 [] (e, A3, H3) = .ok [(v, H4)] ∧ Fr (B.fp s) H1 H4 ∧ ∀ lg', ∃ s', (B.J S.length s' ⟨H4.t, H4.nx, lg'⟩ ∨ B.F s' ⟨H4.t, H4.nx, lg'⟩) ∧ ∀ k, B.fp s' k → B.fp s k ∨ H1.nx ≤ k := fun e he s3 H3 A3 hjf hf hfp hd =>
      ⟨_, H3, callEnd_nil he hd, g6.none.then hf fun k hk => .inr hk, fun lg' => ⟨s3, hjf.imp (fun h => B.hJ (H := H3) h (Nat.le_refl _) fun _ _ => rfl) (fun h => B.hF (H := H3) h (Nat.le_refl _) fun _ _ => rfl), fun k hk => (hfp k hk).imp id fun h => Nat.le_trans g6.nx h⟩⟩
    have hS0 : S.drop 0 = ((List.range us.length).drop 0).flatMap (slipsAt us cs vs n) := by rw [List.drop_zero, List.drop_zero]; exact hS.out.symm
    have n16 := g6.nx
    replace hS0 : Hd _ := hS0
    clear RF hcne hc6 hc5 hu6 rv hatc hgc hj l1 l2 hu1 g5 mb ml mn mc mv hcv hcf1 hlp
    refine R1.e_bl fun K k1 k2 k3 k4 => ?_
    refine R1.loop (fun m A H7 => ∃ (i j : Nat) (s2 : σ), m = us.length - i ∧ i ≤ us.length ∧ j ≤ S.length ∧ B.J j s2 H7 ∧ Fr (B.fp s) H6 H7 ∧ (∀ k, B.fp s2 k → B.fp s k ∨ H6.nx ≤ k) ∧ Hd (S.drop j = ((List.range us.length).drop i).flatMap (slipsAt us cs vs n)) ∧ slot A.tm 2 = .one ((.o (.ptr rn 0 0 1))) ∧ slot A.tm 4 = .one ((.o (.ptr qc 0 0 1))) ∧ slot A.tm 6 = .one ((.o (.sl qv 0 0 us.length 1))) ∧ slot A.tm 9 = .one ((.o (.clo 110 [(qc, 0, 0, 1), (il, 0, 0, 2)]))) ∧ slot A.tm 10 = .one ((.o (.clo 111 [(qb, 0, 0, 1), (il, 0, 0, 2)]))) ∧ slot A.tm 45 = .one (.i .i64 (us.length : Int)) ∧ slot A.tm 46 = .one (.i .i64 (i : Int)) ∧ A.nt = 180 ∧ A.dfr = []) ?_ us.length
      ⟨0, 0, s, rfl, Nat.zero_le _, Nat.zero_le _, hj6, Fr.refl _, fun _ h => .inl h, hS0, zL⟩
    clear t1 t2 t3 t4 t6 hnt hdf A hj6 hS0
    rintro m A H7 ⟨i, j, s2, rfl, hi, hjS, hj7, f7, hfp, hSj, t2, t4, t6, t9, t10, t45, t46, hnt, hdf⟩
    refine zW tyF ?_
    refine zI tyF (fun hc => ?_) (fun hc => ?_)
    · have hlt : i < us.length := by omega
      have hw2 : IntKind.i64.wrap ((i : Int) + 1) = ((i + 1 : Nat) : Int) := by rw [wrapI (by omega) (by omega)]; omega
      have hfl : ((List.range us.length).drop i).flatMap (slipsAt us cs vs n) = slipsAt us cs vs n i ++ ((List.range us.length).drop (i + 1)).flatMap (slipsAt us cs vs n) := by
        rw [List.drop_eq_getElem_cons (by rw [List.length_range]; exact hlt), List.getElem_range, List.flatMap_cons]
      replace hSj := hSj.out
      rw [hfl] at hSj
      obtain ⟨⟨c0, c1⟩, ⟨v0, v1⟩, hmore⟩ := hSB i hlt
      obtain ⟨ec1, ec2⟩ := ec i hlt
      obtain ⟨ev1, ev2⟩ := evv i hlt
      generalize hR : ((List.range us.length).drop (i + 1)).flatMap (slipsAt us cs vs n) = R at hSj
      replace hR : Hd (((List.range us.length).drop (i + 1)).flatMap (slipsAt us cs vs n) = R) := hR
      clear hfl
      have w1 : IntKind.i64.wrap (n - vs.getD i 0) = n - vs.getD i 0 := wrapI (by omega) (by omega)
      have w2 : IntKind.i64.wrap (n + vs.getD i 0) = n + vs.getD i 0 := wrapI (by omega) (by omega)
      have w3 : IntKind.i64.wrap (cs.getD i 0 + 1) = cs.getD i 0 + 1 := wrapI (by omega) (by omega)
      refine zW tyF ?_
      refine R1.s_bl fun K2 q1 q2 q3 q4 => ?_
      refine zW tyF ?_
      have next : ∀ (s4 : σ) (j4 : Nat) (A8 : AAct) (H8 : Hp), j4 ≤ S.length → B.J j4 s4 H8 → Fr (B.fp s) H6 H8 → (∀ k, B.fp s4 k → B.fp s k ∨ H6.nx ≤ k) → S.drop j4 = R → slot A8.tm 2 = .one ((.o (.ptr rn 0 0 1))) ∧ slot A8.tm 4 = .one ((.o (.ptr qc 0 0 1))) ∧ slot A8.tm 6 = .one ((.o (.sl qv 0 0 us.length 1))) ∧ slot A8.tm 9 = .one ((.o (.clo 110 [(qc, 0, 0, 1), (il, 0, 0, 2)]))) ∧ slot A8.tm 10 = .one ((.o (.clo 111 [(qb, 0, 0, 1), (il, 0, 0, 2)]))) ∧ slot A8.tm 45 = .one (.i .i64 (us.length : Int)) ∧ slot A8.tm 46 = .one (.i .i64 (i : Int)) ∧ A8.nt = 180 ∧ A8.dfr = [] → K2 .normal A8 H8 ∧ K2 (.exit 3) A8 H8 := by
        clear t2 t4 t6 t9 t10 t45 t46 hnt hdf A
        rintro s4 j4 A H8 hjS8 hj8 f8 hfp8 hS8 ⟨t2, t4, t6, t9, t10, t45, t46, hnt, hdf⟩
        replace hS8 : Hd (S.drop j4 = ((List.range us.length).drop (i + 1)).flatMap (slipsAt us cs vs n)) := hS8.trans hR.out.symm
        refine ⟨q1.out _ _ ?_, q2.out _ _ ?_⟩
        · refine zW tyF ?_
          exact ⟨us.length - (i + 1), by omega, i + 1, j4, s4, rfl, hlt, hjS8, hj8, f8, hfp8, hS8, zL⟩
        · refine zW tyF ?_
          exact ⟨us.length - (i + 1), by omega, i + 1, j4, s4, rfl, hlt, hjS8, hj8, f8, hfp8, hS8, zL⟩
      have stop : ∀ (s4 : σ) (A8 : AAct) (H8 : Hp), B.F s4 H8 → Fr (B.fp s) H6 H8 → (∀ k, B.fp s4 k → B.fp s k ∨ H6.nx ≤ k) → A8.dfr = [] → K2 .ret A8 H8 := fun s4 A8 H8 h1 h2 h3 h4 => q4.out _ _ (k4.out _ _ (fin .ret (.inr rfl) s4 H8 A8 (.inr h1) h2 h3 h4))
      replace next : Hd (∀ (s4 : σ) (j4 : Nat) (A8 : AAct) (H8 : Hp), j4 ≤ S.length → B.J j4 s4 H8 → Fr (B.fp s) H6 H8 → (∀ k, B.fp s4 k → B.fp s k ∨ H6.nx ≤ k) → S.drop j4 = R → slot A8.tm 2 = .one ((.o (.ptr rn 0 0 1))) ∧ slot A8.tm 4 = .one ((.o (.ptr qc 0 0 1))) ∧ slot A8.tm 6 = .one ((.o (.sl qv 0 0 us.length 1))) ∧ slot A8.tm 9 = .one ((.o (.clo 110 [(qc, 0, 0, 1), (il, 0, 0, 2)]))) ∧ slot A8.tm 10 = .one ((.o (.clo 111 [(qb, 0, 0, 1), (il, 0, 0, 2)]))) ∧ slot A8.tm 45 = .one (.i .i64 (us.length : Int)) ∧ slot A8.tm 46 = .one (.i .i64 (i : Int)) ∧ A8.nt = 180 ∧ A8.dfr = [] → K2 .normal A8 H8 ∧ K2 (.exit 3) A8 H8) := next
      replace stop : Hd (∀ (s4 : σ) (A8 : AAct) (H8 : Hp), B.F s4 H8 → Fr (B.fp s) H6 H8 → (∀ k, B.fp s4 k → B.fp s k ∨ H6.nx ≤ k) → A8.dfr = [] → K2 .ret A8 H8) := stop
      unfold slipsAt at hSj
      rw [List.append_assoc, List.append_assoc] at hSj
      generalize hT : (if i + 1 = us.length then ([] : List Sp) else _) ++ R = T at hSj
      repeat refine R1.s_assoc ?_
      refine R1.s_h (by kernel_rfl) fun K3 hK3 => ?_
      have rest : Hd (∀ (s4 : σ) (j4 : Nat) (A8 : AAct) (H8 : Hp), j4 ≤ S.length → B.J j4 s4 H8 → Fr (B.fp s) H6 H8 → (∀ k, B.fp s4 k → B.fp s k ∨ H6.nx ≤ k) → S.drop j4 = T → (slot A8.tm 11 = .one (.i .i64 (i : Int))) ∧ (slot A8.tm 87 = .one (.b false)) ∧ (slot A8.tm 2 = .one ((.o (.ptr rn 0 0 1))) ∧ slot A8.tm 4 = .one ((.o (.ptr qc 0 0 1))) ∧ slot A8.tm 6 = .one ((.o (.sl qv 0 0 us.length 1))) ∧ slot A8.tm 9 = .one ((.o (.clo 110 [(qc, 0, 0, 1), (il, 0, 0, 2)]))) ∧ slot A8.tm 10 = .one ((.o (.clo 111 [(qb, 0, 0, 1), (il, 0, 0, 2)]))) ∧ slot A8.tm 45 = .one (.i .i64 (us.length : Int)) ∧ slot A8.tm 46 = .one (.i .i64 (i : Int)) ∧ A8.nt = 180 ∧ A8.dfr = []) → K3 A8 H8) := by
        clear t2 t4 t6 t9 t10 t45 t46 hnt hdf A hSj
        rintro s4 j4 A H8 hjS8 hj8 f8 hfp8 hS8 ⟨t11, t87, t2, t4, t6, t9, t10, t45, t46, hnt, hdf⟩
        refine hK3.out _ _ ?_
        clear hK3 K3
        by_cases hlast : i + 1 = us.length
        · have ce : (((i + 1 : Nat) : Int) == (us.length : Int)) = true := by rw [hlast]; exact beq_self_eq_true _
          rw [if_pos hlast, List.nil_append] at hT
          replace hlast : Hd _ := hlast
          refine zW (qA tyF (RG H8 f8)) ?_
          exact (next.out s4 j4 _ _ hjS8 hj8 f8 hfp8 (hS8.trans hT.symm) zL).2
        have ce : (((i + 1 : Nat) : Int) == (us.length : Int)) = false := beq_false_of_ne (by omega)
        have hlt2 : i + 1 < us.length := by omega
        rw [if_neg hlast, List.append_assoc] at hT
        rw [← hT] at hS8
        clear hT
        obtain ⟨⟨p1, p2⟩, ⟨p3, p4⟩, ⟨p5, p6⟩, ⟨p7, p8⟩⟩ := hmore hlt2
        obtain ⟨⟨c2, c3⟩, ⟨v2, v3⟩, _⟩ := hSB (i + 1) hlt2
        obtain ⟨ec3, ec4⟩ := ec (i + 1) hlt2
        obtain ⟨ev3, ev4⟩ := evv (i + 1) hlt2
        have hw4 : IntKind.i64.wrap (((i + 1 : Nat) : Int) + 1) = ((i + 1 + 1 : Nat) : Int) := by rw [wrapI (by omega) (by omega)]; omega
        have x1 : IntKind.i64.wrap (cs.getD (i + 1) 0 * vs.getD (i + 1) 0) = cs.getD (i + 1) 0 * vs.getD (i + 1) 0 := wrapI (by omega) (by omega)
        have x2 : IntKind.i64.wrap (cs.getD (i + 1) 0 * vs.getD i 0) = cs.getD (i + 1) 0 * vs.getD i 0 := wrapI (by omega) (by omega)
        have x3 : IntKind.i64.wrap (n - cs.getD (i + 1) 0 * vs.getD (i + 1) 0) = n - cs.getD (i + 1) 0 * vs.getD (i + 1) 0 := wrapI (by omega) (by omega)
        have x4 : IntKind.i64.wrap (n - cs.getD (i + 1) 0 * vs.getD (i + 1) 0 + cs.getD (i + 1) 0 * vs.getD i 0) = n - cs.getD (i + 1) 0 * vs.getD (i + 1) 0 + cs.getD (i + 1) 0 * vs.getD i 0 := wrapI (by omega) (by omega)
        have x5 : IntKind.i64.wrap (cs.getD i 0 * vs.getD i 0) = cs.getD i 0 * vs.getD i 0 := wrapI (by omega) (by omega)
        have x6 : IntKind.i64.wrap (cs.getD i 0 * vs.getD (i + 1) 0) = cs.getD i 0 * vs.getD (i + 1) 0 := wrapI (by omega) (by omega)
        have x7 : IntKind.i64.wrap (n - cs.getD i 0 * vs.getD i 0) = n - cs.getD i 0 * vs.getD i 0 := wrapI (by omega) (by omega)
        have x8 : IntKind.i64.wrap (n - cs.getD i 0 * vs.getD i 0 + cs.getD i 0 * vs.getD (i + 1) 0) = n - cs.getD i 0 * vs.getD i 0 + cs.getD i 0 * vs.getD (i + 1) 0 := wrapI (by omega) (by omega)
        refine zW (qA tyF (qA (RG H8 f8) (qA (ixC hlt) (qA (ixC hlt2) Nat.mul_one)))) ?_
        generalize hT2 : one (cs.getD (i + 1) 0 == 0 && decide (0 < cs.getD i 0) && roomB us (i + 1) (cs.getD i 0)) (4, (us.getD (i + 1) ([], 0)).1, n - cs.getD i 0 * vs.getD i 0 + cs.getD i 0 * vs.getD (i + 1) 0) ++ R = T2 at hS8
        repeat refine R1.s_assoc ?_
        refine R1.s_h (by kernel_rfl) fun K3 hK3 => ?_
        have rest : Hd (∀ (s4 : σ) (j4 : Nat) (A8 : AAct) (H8 : Hp), j4 ≤ S.length → B.J j4 s4 H8 → Fr (B.fp s) H6 H8 → (∀ k, B.fp s4 k → B.fp s k ∨ H6.nx ≤ k) → S.drop j4 = T2 → (slot A8.tm 134 = .one (.b false)) ∧ (slot A8.tm 2 = .one ((.o (.ptr rn 0 0 1))) ∧ slot A8.tm 4 = .one ((.o (.ptr qc 0 0 1))) ∧ slot A8.tm 6 = .one ((.o (.sl qv 0 0 us.length 1))) ∧ slot A8.tm 9 = .one ((.o (.clo 110 [(qc, 0, 0, 1), (il, 0, 0, 2)]))) ∧ slot A8.tm 10 = .one ((.o (.clo 111 [(qb, 0, 0, 1), (il, 0, 0, 2)]))) ∧ slot A8.tm 45 = .one (.i .i64 (us.length : Int)) ∧ slot A8.tm 46 = .one (.i .i64 (i : Int)) ∧ slot A8.tm 11 = .one (.i .i64 (i : Int)) ∧ A8.nt = 180 ∧ A8.dfr = []) → K3 A8 H8) := by
          clear t2 t4 t6 t9 t10 t11 t45 t46 t87 hnt hdf hS8 hj8 hjS8 hfp8 f8 A H8 s4 j4
          rintro s4 j4 A H8 hjS8 hj8 f8 hfp8 hS8 ⟨t134, t2, t4, t6, t9, t10, t45, t46, t11, hnt, hdf⟩
          refine hK3.out _ _ ?_
          clear hK3 K3
          refine zW (qA tyF (qA (RG H8 f8) (qA (ixC hlt) (qA (ixC hlt2) Nat.mul_one)))) ?_
          rw [← hT2] at hS8
          repeat refine R1.s_assoc ?_
          refine R1.s_h (by kernel_rfl) fun K3 hK3 => ?_
          have rest : Hd (∀ (s4 : σ) (j4 : Nat) (A8 : AAct) (H8 : Hp), j4 ≤ S.length → B.J j4 s4 H8 → Fr (B.fp s) H6 H8 → (∀ k, B.fp s4 k → B.fp s k ∨ H6.nx ≤ k) → S.drop j4 = R → (slot A8.tm 178 = .one (.b false)) ∧ (slot A8.tm 2 = .one ((.o (.ptr rn 0 0 1))) ∧ slot A8.tm 4 = .one ((.o (.ptr qc 0 0 1))) ∧ slot A8.tm 6 = .one ((.o (.sl qv 0 0 us.length 1))) ∧ slot A8.tm 9 = .one ((.o (.clo 110 [(qc, 0, 0, 1), (il, 0, 0, 2)]))) ∧ slot A8.tm 10 = .one ((.o (.clo 111 [(qb, 0, 0, 1), (il, 0, 0, 2)]))) ∧ slot A8.tm 45 = .one (.i .i64 (us.length : Int)) ∧ slot A8.tm 46 = .one (.i .i64 (i : Int)) ∧ slot A8.tm 11 = .one (.i .i64 (i : Int)) ∧ A8.nt = 180 ∧ A8.dfr = []) → K3 A8 H8) := by
            clear t2 t4 t6 t9 t10 t11 t45 t46 t134 hnt hdf hS8 hj8 hjS8 hfp8 f8 A H8 s4 j4
            rintro s4 j4 A H8 hjS8 hj8 f8 hfp8 hS8 ⟨t178, t2, t4, t6, t9, t10, t45, t46, t11, hnt, hdf⟩
            refine hK3.out _ _ ?_
            refine zW tyF ?_
            exact (next.out s4 j4 _ _ hjS8 hj8 f8 hfp8 hS8 zL).1
          have bad : Hd (∀ (s4 : σ) (A8 : AAct) (H8 : Hp), B.F s4 H8 → Fr (B.fp s) H6 H8 → (∀ k, B.fp s4 k → B.fp s k ∨ H6.nx ≤ k) → slot A8.tm 178 = .one (.b true) ∧ A8.nt = 180 ∧ A8.dfr = [] → K3 A8 H8) := by
            clear t2 t4 t6 t9 t10 t11 t45 t46 hnt hdf
            rintro s4 A8 H8 h1 h2 h3 ⟨t178, hnt, hdf⟩
            refine hK3.out _ _ ?_
            refine zW tyF ?_
            exact stop.out s4 _ _ h1 h2 h3 qe
          clear hK3
          by_cases hC1 : cs.getD (i + 1) 0 = 0
          case neg =>
            have eC1 : (cs.getD (i + 1) 0 == 0) = false := beq_false_of_ne hC1
            rw [eC1, Bool.false_and, Bool.false_and] at hS8
            refine zS (qA tyF (qA (RG H8 f8) (qA (ixC hlt) (qA (ixC hlt2) Nat.mul_one)))) ?_
            exact rest.out s4 j4 _ _ hjS8 hj8 f8 hfp8 (drop_none hS8) ⟨zL, zL⟩

          have eC1 : (cs.getD (i + 1) 0 == 0) = true := beq_iff_eq.2 hC1
          replace hC1 : Hd _ := hC1
          rw [eC1, Bool.true_and] at hS8
          by_cases hC2 : 0 < cs.getD i 0
          case neg =>
            rw [decide_eq_false hC2, Bool.false_and] at hS8
            refine zS (qA tyF (qA (RG H8 f8) (qA (ixC hlt) (qA (ixC hlt2) Nat.mul_one)))) ?_
            exact rest.out s4 j4 _ _ hjS8 hj8 f8 hfp8 (drop_none hS8) ⟨zL, zL⟩

          rw [decide_eq_true hC2, Bool.true_and] at hS8
          refine zS (qA bd_room (qA tyF (qA (RG H8 f8) (qA (ixC hlt) (qA (ixC hlt2) Nat.mul_one))))) ?_
          refine WE.con (room_con H8 us cs nm u _ qc il (i + 1) (cs.getD i 0) (huS H8 f8) (hcS H8 f8) hcl.out hlt2 (by omega) (RG H8 f8).2.2.2.1.2 (RG H8 f8).2.1.2 (RG H8 f8).2.2.2.1.1 (RG H8 f8).2.1.1) fun w' Hr gr hq => ?_
          subst hq
          have fR := f8.gr gr
          have hjR := B.hJ hj8 gr.nx fun k hk => gr.get k hk not_false
          cases hB : roomB us (i + 1) (cs.getD i 0) with
          | false =>
            rw [hB] at hS8
            refine zS (qA tyF (qA (RG Hr fR) (qA (ixC hlt) (qA (ixC hlt2) Nat.mul_one)))) ?_
            exact rest.out s4 j4 _ _ hjS8 hjR fR hfp8 (drop_none hS8) ⟨zL, zL⟩

          | true =>
            rw [hB] at hS8
            refine zS (qA bd_pass (qA tyF (qA (RG Hr fR) (qA (ixC hlt) (qA (ixC hlt2) Nat.mul_one))))) ?_
            obtain ⟨hk1, hk2⟩ := drop_one hS8
            refine WE.con (pass_con B s4 j4 Hr us nm u qb il 4 (i + 1) (n - cs.getD i 0 * vs.getD i 0 + cs.getD i 0 * vs.getD (i + 1) 0) hjR (huS Hr fR) hlt2 (by omega) (RG Hr fR).1.2 (RG Hr fR).2.1.2 (RG Hr fR).1.1 (RG Hr fR).2.1.1 hk1) fun w' Hp0 fp0 ⟨b, s3, hq, hbt, hbf, hfp3⟩ => ?_
            subst hq
            have fP := fR.then fp0 fun k hk => (hfp8 k hk).symm
            have hfpP : ∀ k, B.fp s3 k → B.fp s k ∨ H6.nx ≤ k := fun k hk => (hfp3 k hk).elim (fun h => hfp8 k h) fun h => .inr (Nat.le_trans fR.nx h)
            have hjSP : (if okN (n - cs.getD i 0 * vs.getD i 0 + cs.getD i 0 * vs.getD (i + 1) 0) = true then j4 + 1 else j4) ≤ S.length := by
              cases hok : okN (n - cs.getD i 0 * vs.getD i 0 + cs.getD i 0 * vs.getD (i + 1) 0) with
              | true => have := (List.getElem?_eq_some_iff.1 (hk1 hok)).1; rw [if_pos rfl]; exact this
              | false => rw [if_neg Bool.false_ne_true]; exact hjS8
            generalize (if okN (n - cs.getD i 0 * vs.getD i 0 + cs.getD i 0 * vs.getD (i + 1) 0) = true then j4 + 1 else j4) = jP at hk2 hbt hjSP
            cases b with
            | false =>
              refine zS (tyF) ?_
              exact bad.out s3 _ _ (hbf rfl) fP hfpP ⟨zL, zL, zL⟩
            | true =>
              replace hbt := hbt rfl
              clear hbf hk1
              refine zS (qA tyF (qA (RG Hp0 fP) (qA (ixC hlt) (qA (ixC hlt2) Nat.mul_one)))) ?_
              exact rest.out s3 jP _ _ hjSP hbt fP hfpP hk2 ⟨zL, zL⟩
        have bad : Hd (∀ (s4 : σ) (A8 : AAct) (H8 : Hp), B.F s4 H8 → Fr (B.fp s) H6 H8 → (∀ k, B.fp s4 k → B.fp s k ∨ H6.nx ≤ k) → slot A8.tm 134 = .one (.b true) ∧ A8.nt = 180 ∧ A8.dfr = [] → K3 A8 H8) := by
          clear t2 t4 t6 t9 t10 t11 t45 t46 hnt hdf
          rintro s4 A8 H8 h1 h2 h3 ⟨t134, hnt, hdf⟩
          refine hK3.out _ _ ?_
          refine zW tyF ?_
          exact stop.out s4 _ _ h1 h2 h3 qe
        clear hK3
        by_cases hC1 : cs.getD i 0 = 0
        case neg =>
          have eC1 : (cs.getD i 0 == 0) = false := beq_false_of_ne hC1
          rw [eC1, Bool.false_and, Bool.false_and] at hS8
          refine zS (qA tyF (qA (RG H8 f8) (qA (ixC hlt) (qA (ixC hlt2) Nat.mul_one)))) ?_
          exact rest.out s4 j4 _ _ hjS8 hj8 f8 hfp8 (drop_none hS8) ⟨zL, zL⟩

        have eC1 : (cs.getD i 0 == 0) = true := beq_iff_eq.2 hC1
        replace hC1 : Hd _ := hC1
        rw [eC1, Bool.true_and] at hS8
        by_cases hC2 : 0 < cs.getD (i + 1) 0
        case neg =>
          rw [decide_eq_false hC2, Bool.false_and] at hS8
          refine zS (qA tyF (qA (RG H8 f8) (qA (ixC hlt) (qA (ixC hlt2) Nat.mul_one)))) ?_
          exact rest.out s4 j4 _ _ hjS8 hj8 f8 hfp8 (drop_none hS8) ⟨zL, zL⟩

        rw [decide_eq_true hC2, Bool.true_and] at hS8
        refine zS (qA bd_room (qA tyF (qA (RG H8 f8) (qA (ixC hlt) (qA (ixC hlt2) Nat.mul_one))))) ?_
        refine WE.con (room_con H8 us cs nm u _ qc il i (cs.getD (i + 1) 0) (huS H8 f8) (hcS H8 f8) hcl.out hlt (by omega) (RG H8 f8).2.2.2.1.2 (RG H8 f8).2.1.2 (RG H8 f8).2.2.2.1.1 (RG H8 f8).2.1.1) fun w' Hr gr hq => ?_
        subst hq
        have fR := f8.gr gr
        have hjR := B.hJ hj8 gr.nx fun k hk => gr.get k hk not_false
        cases hB : roomB us i (cs.getD (i + 1) 0) with
        | false =>
          rw [hB] at hS8
          refine zS (qA tyF (qA (RG Hr fR) (qA (ixC hlt) (qA (ixC hlt2) Nat.mul_one)))) ?_
          exact rest.out s4 j4 _ _ hjS8 hjR fR hfp8 (drop_none hS8) ⟨zL, zL⟩

        | true =>
          rw [hB] at hS8
          refine zS (qA bd_pass (qA tyF (qA (RG Hr fR) (qA (ixC hlt) (qA (ixC hlt2) Nat.mul_one))))) ?_
          obtain ⟨hk1, hk2⟩ := drop_one hS8
          refine WE.con (pass_con B s4 j4 Hr us nm u qb il 3 i (n - cs.getD (i + 1) 0 * vs.getD (i + 1) 0 + cs.getD (i + 1) 0 * vs.getD i 0) hjR (huS Hr fR) hlt (by omega) (RG Hr fR).1.2 (RG Hr fR).2.1.2 (RG Hr fR).1.1 (RG Hr fR).2.1.1 hk1) fun w' Hp0 fp0 ⟨b, s3, hq, hbt, hbf, hfp3⟩ => ?_
          subst hq
          have fP := fR.then fp0 fun k hk => (hfp8 k hk).symm
          have hfpP : ∀ k, B.fp s3 k → B.fp s k ∨ H6.nx ≤ k := fun k hk => (hfp3 k hk).elim (fun h => hfp8 k h) fun h => .inr (Nat.le_trans fR.nx h)
          have hjSP : (if okN (n - cs.getD (i + 1) 0 * vs.getD (i + 1) 0 + cs.getD (i + 1) 0 * vs.getD i 0) = true then j4 + 1 else j4) ≤ S.length := by
            cases hok : okN (n - cs.getD (i + 1) 0 * vs.getD (i + 1) 0 + cs.getD (i + 1) 0 * vs.getD i 0) with
            | true => have := (List.getElem?_eq_some_iff.1 (hk1 hok)).1; rw [if_pos rfl]; exact this
            | false => rw [if_neg Bool.false_ne_true]; exact hjS8
          generalize (if okN (n - cs.getD (i + 1) 0 * vs.getD (i + 1) 0 + cs.getD (i + 1) 0 * vs.getD i 0) = true then j4 + 1 else j4) = jP at hk2 hbt hjSP
          cases b with
          | false =>
            refine zS (tyF) ?_
            exact bad.out s3 _ _ (hbf rfl) fP hfpP ⟨zL, zL, zL⟩
          | true =>
            replace hbt := hbt rfl
            clear hbf hk1
            refine zS (qA tyF (qA (RG Hp0 fP) (qA (ixC hlt) (qA (ixC hlt2) Nat.mul_one)))) ?_
            exact rest.out s3 jP _ _ hjSP hbt fP hfpP hk2 ⟨zL, zL⟩

      have bad : Hd (∀ (s4 : σ) (A8 : AAct) (H8 : Hp), B.F s4 H8 → Fr (B.fp s) H6 H8 → (∀ k, B.fp s4 k → B.fp s k ∨ H6.nx ≤ k) → slot A8.tm 87 = .one (.b true) ∧ A8.nt = 180 ∧ A8.dfr = [] → K3 A8 H8) := by
        clear t2 t4 t6 t9 t10 t45 t46 hnt hdf
        rintro s4 A8 H8 h1 h2 h3 ⟨t87, hnt, hdf⟩
        refine hK3.out _ _ ?_
        refine zW tyF ?_
        exact stop.out s4 _ _ h1 h2 h3 qe
      clear hK3
      by_cases hA : 0 < cs.getD i 0
      · have eA : decide (0 < cs.getD i 0) = true := decide_eq_true hA
        rw [eA] at hSj
        refine zS (qA tyF (qA (RG H7 f7) (qA bd_pass (qA (ixC hlt) Nat.mul_one)))) ?_
        obtain ⟨hk1, hk2⟩ := drop_one hSj
        refine WE.con (pass_con B s2 j H7 us nm u qb il 1 i (n - vs.getD i 0) hj7 (huS H7 f7) hlt (by omega) (RG H7 f7).1.2 (RG H7 f7).2.1.2 (RG H7 f7).1.1 (RG H7 f7).2.1.1 hk1) fun w' Hp0 fp0 ⟨b, s3, hq, hbt, hbf, hfp3⟩ => ?_
        subst hq
        have fP := f7.then fp0 fun k hk => (hfp k hk).symm
        have hfpP : ∀ k, B.fp s3 k → B.fp s k ∨ H6.nx ≤ k := fun k hk => (hfp3 k hk).elim (fun h => hfp k h) fun h => .inr (Nat.le_trans f7.nx h)
        have hjSP : (if okN (n - vs.getD i 0) = true then j + 1 else j) ≤ S.length := by
          cases hok : okN (n - vs.getD i 0) with
          | true => have := (List.getElem?_eq_some_iff.1 (hk1 hok)).1; rw [if_pos rfl]; exact this
          | false => rw [if_neg Bool.false_ne_true]; exact hjS
        generalize (if okN (n - vs.getD i 0) = true then j + 1 else j) = jP at hk2 hbt hjSP
        cases b with
        | false =>
          refine zS (tyF) ?_
          exact bad.out s3 _ _ (hbf rfl) fP hfpP ⟨zL, zL, zL⟩
        | true =>
          replace hbt := hbt rfl
          clear hbf hk1
          refine zS (qA tyF (qA (RG Hp0 fP) (qA bd_room (qA (ixC hlt) Nat.mul_one)))) ?_
          refine WE.con (room_con Hp0 us cs nm u _ qc il i (cs.getD i 0 + 1) (huS Hp0 fP) (hcS Hp0 fP) hcl.out hlt (by omega) (RG Hp0 fP).2.2.2.1.2 (RG Hp0 fP).2.1.2 (RG Hp0 fP).2.2.2.1.1 (RG Hp0 fP).2.1.1) fun w' Hr gr hq => ?_
          subst hq
          have fR := fP.gr gr
          have hjR := B.hJ hbt gr.nx fun k hk => gr.get k hk not_false
          cases hB : roomB us i (cs.getD i 0 + 1) with
          | false =>
            rw [hB] at hk2
            refine zS (qA tyF (RG Hr fR)) ?_
            exact rest.out s3 jP _ _ hjSP hjR fR hfpP (drop_none hk2) ⟨zL, zL, zL⟩
          | true =>
            rw [hB] at hk2
            refine zS (qA tyF (qA (RG Hr fR) (qA bd_pass (qA (ixC hlt) Nat.mul_one)))) ?_
            obtain ⟨hk1, hk2⟩ := drop_one hk2
            refine WE.con (pass_con B s3 jP Hr us nm u qb il 2 i (n + vs.getD i 0) hjR (huS Hr fR) hlt (by omega) (RG Hr fR).1.2 (RG Hr fR).2.1.2 (RG Hr fR).1.1 (RG Hr fR).2.1.1 hk1) fun w' Hp0 fp0 ⟨b, s3, hq, hbt, hbf, hfp3⟩ => ?_
            subst hq
            have fP := fR.then fp0 fun k hk => (hfpP k hk).symm
            have hfpP : ∀ k, B.fp s3 k → B.fp s k ∨ H6.nx ≤ k := fun k hk => (hfp3 k hk).elim (fun h => hfpP k h) fun h => .inr (Nat.le_trans fR.nx h)
            have hjSP : (if okN (n + vs.getD i 0) = true then jP + 1 else jP) ≤ S.length := by
              cases hok : okN (n + vs.getD i 0) with
              | true => have := (List.getElem?_eq_some_iff.1 (hk1 hok)).1; rw [if_pos rfl]; exact this
              | false => rw [if_neg Bool.false_ne_true]; exact hjSP
            generalize (if okN (n + vs.getD i 0) = true then jP + 1 else jP) = jP at hk2 hbt hjSP
            cases b with
            | false =>
              refine zS (tyF) ?_
              exact bad.out s3 _ _ (hbf rfl) fP hfpP ⟨zL, zL, zL⟩
            | true =>
              replace hbt := hbt rfl
              clear hbf hk1
              refine zS (qA tyF (RG Hp0 fP)) ?_
              exact rest.out s3 jP _ _ hjSP hbt fP hfpP hk2 ⟨zL, zL, zL⟩

      · have eA : decide (0 < cs.getD i 0) = false := decide_eq_false hA
        rw [eA] at hSj
        replace hSj := drop_none hSj
        refine zS (qA tyF (qA (RG H7 f7) (qA bd_room (qA (ixC hlt) Nat.mul_one)))) ?_
        refine WE.con (room_con H7 us cs nm u _ qc il i (cs.getD i 0 + 1) (huS H7 f7) (hcS H7 f7) hcl.out hlt (by omega) (RG H7 f7).2.2.2.1.2 (RG H7 f7).2.1.2 (RG H7 f7).2.2.2.1.1 (RG H7 f7).2.1.1) fun w' Hr gr hq => ?_
        subst hq
        have fR := f7.gr gr
        have hjR := B.hJ hj7 gr.nx fun k hk => gr.get k hk not_false
        cases hB : roomB us i (cs.getD i 0 + 1) with
        | false =>
          rw [hB] at hSj
          refine zS (qA tyF (RG Hr fR)) ?_
          exact rest.out s2 j _ _ hjS hjR fR hfp (drop_none hSj) ⟨zL, zL, zL⟩
        | true =>
          rw [hB] at hSj
          refine zS (qA tyF (qA (RG Hr fR) (qA bd_pass (qA (ixC hlt) Nat.mul_one)))) ?_
          obtain ⟨hk1, hk2⟩ := drop_one hSj
          refine WE.con (pass_con B s2 j Hr us nm u qb il 2 i (n + vs.getD i 0) hjR (huS Hr fR) hlt (by omega) (RG Hr fR).1.2 (RG Hr fR).2.1.2 (RG Hr fR).1.1 (RG Hr fR).2.1.1 hk1) fun w' Hp0 fp0 ⟨b, s3, hq, hbt, hbf, hfp3⟩ => ?_
          subst hq
          have fP := fR.then fp0 fun k hk => (hfp k hk).symm
          have hfpP : ∀ k, B.fp s3 k → B.fp s k ∨ H6.nx ≤ k := fun k hk => (hfp3 k hk).elim (fun h => hfp k h) fun h => .inr (Nat.le_trans fR.nx h)
          have hjSP : (if okN (n + vs.getD i 0) = true then j + 1 else j) ≤ S.length := by
            cases hok : okN (n + vs.getD i 0) with
            | true => have := (List.getElem?_eq_some_iff.1 (hk1 hok)).1; rw [if_pos rfl]; exact this
            | false => rw [if_neg Bool.false_ne_true]; exact hjS
          generalize (if okN (n + vs.getD i 0) = true then j + 1 else j) = jP at hk2 hbt hjSP
          cases b with
          | false =>
            refine zS (tyF) ?_
            exact bad.out s3 _ _ (hbf rfl) fP hfpP ⟨zL, zL, zL⟩
          | true =>
            replace hbt := hbt rfl
            clear hbf hk1
            refine zS (qA tyF (RG Hp0 fP)) ?_
            exact rest.out s3 jP _ _ hjSP hbt fP hfpP hk2 ⟨zL, zL, zL⟩

    · have hie : i = us.length := by omega
      refine zW tyF ?_
      refine k2.out _ _ ?_
      have hjl : B.J S.length s2 H7 := by
        have h := hSj.out
        have e : (List.range us.length).drop i = [] := List.drop_eq_nil_of_le (by rw [List.length_range]; omega)
        rw [e, List.flatMap_nil] at h
        have h2 := congrArg List.length h
        rw [List.length_drop, List.length_nil] at h2
        have h3 : j = S.length := by omega
        exact h3 ▸ hj7
      exact fin .normal (.inl rfl) s2 H7 _ (.inl hjl) f7 hfp qe
end Go.Proofs.YtekoajibckipkaaGreat
namespace Go.Proofs.YtekoajibckipkaaGreat
open Go Go.Eng
set_option maxRecDepth 10000 in
theorem slips_con (H : Hp) (n u : AC) (m : Int) (hu : ltV (.one u) H.nx) :
    Con E2 71 [.agg [n, u], .one (.i .i64 m)] H (fun _ => False) fun r H' => r = .one (.o (.clo 107 [(H.nx, 0, 0, 2), (H.nx + 1, 0, 0, 1)])) ∧ H'.get H.nx = some (.arr [n, u] 68 0 0) ∧ H'.get (H.nx + 1) = some (.arr [.i .i64 m] 3 0 0) ∧ H.nx + 1 < H'.nx := by
  refine Con.of rfl fun lg => ?_
  have hu : ltV (.one u) (⟨H.t, H.nx, lg⟩ : Hp).nx := hu
  have e0 : H.nx = (⟨H.t, H.nx, lg⟩ : Hp).nx := rfl
  rw [e0]
  clear e0
  generalize (⟨H.t, H.nx, lg⟩ : Hp) = H at hu ⊢
  refine C1.body (E := E2) (nt := 6) (res := [.tmp 4]) Tryz.func71 rfl rfl rfl rfl rfl fun tm hargs => ?_
  have h0 := hargs 0 _ rfl
  have h1 := hargs 1 _ rfl
  clear hargs
  refine zW tyF ?_
  refine ⟨_, _, callEnd_one (.o (.clo 107 [(H.nx, 0, 0, 2), (H.nx + 1, 0, 0, 1)])) (.inr rfl) qe qp, ((Fr.refl _).new _).new _, fun _ => ⟨rfl, ?_, ?_, ?_⟩⟩
  · show ((H.new _).new _).get H.nx = _
    rw [get_newL (by show H.nx < H.nx + 1; omega)]; exact get_newE rfl
  · show ((H.new _).new _).get (H.nx + 1) = _
    exact get_newE rfl
  · show H.nx + 1 < H.nx + 1 + 1
    omega
def kindL : List Sp → Int → Int
  | [], _ => 0
  | x :: S, m => if x.2.2 = m then x.1 else kindL S m
end Go.Proofs.YtekoajibckipkaaGreat
namespace Go.Proofs.YtekoajibckipkaaGreat
open Go Go.Eng
def evH : List Pr → List Int → Int
  | _ :: y :: l, d :: ds => d + y.2 * evH (y :: l) ds
  | _, d :: _ => d
  | _, [] => 0
def vW : List Pr → Nat → Int
  | _, 0 => 1
  | _ :: y :: l, i + 1 => y.2 * vW (y :: l) i
  | _, _ + 1 => 0
def DigB (us : List Pr) (ds : List Int) : Prop := ds.length = us.length ∧ ∀ i, i < us.length → 0 ≤ ds.getD i 0 ∧ (i + 1 < us.length → ds.getD i 0 < (us.getD (i + 1) ([], 0)).2)
theorem DigB.tl {x y : Pr} {l : List Pr} {d : Int} {ds : List Int} (h : DigB (x :: y :: l) (d :: ds)) : 0 ≤ d ∧ d < y.2 ∧ DigB (y :: l) ds := by
  obtain ⟨h1, h2⟩ := h
  have h0 := h2 0 (by simp)
  refine ⟨h0.1, h0.2 (by simp), by simpa using h1, fun i hi => ?_⟩
  have := h2 (i + 1) (by simp at hi ⊢; omega)
  refine ⟨this.1, fun h => this.2 (by simp at h ⊢; omega)⟩
theorem DigB.cons {x y : Pr} {l : List Pr} {d : Int} {ds : List Int} (h0 : 0 ≤ d) (h1 : d < y.2) (h : DigB (y :: l) ds) : DigB (x :: y :: l) (d :: ds) := by
  obtain ⟨h2, h3⟩ := h
  refine ⟨by simpa using h2, fun i hi => ?_⟩
  cases i with
  | zero => exact ⟨h0, fun _ => h1⟩
  | succ i =>
    have := h3 i (by simp at hi ⊢; omega)
    exact ⟨this.1, fun h => this.2 (by simp at h ⊢; omega)⟩
theorem split_ev : ∀ (us : List Pr) (ds : List Int), DigB us ds → splitA us (evH us ds) = ds
  | [], [], _ => rfl
  | [], _ :: _, h => by cases h.1
  | [_], [], h => by cases h.1
  | [_], [_], _ => rfl
  | [_], _ :: _ :: _, h => by cases h.1
  | _ :: _ :: _, [], h => by cases h.1
  | x :: y :: l, d :: ds, h => by
    obtain ⟨h0, h1, h2⟩ := h.tl
    have hy : y.2 ≠ 0 := by omega
    rw [evH, splitA, Int.add_mul_emod_self_left, Int.emod_eq_of_lt h0 h1, Int.add_mul_ediv_left _ _ hy, Int.ediv_eq_zero_of_lt h0 h1, Int.zero_add, split_ev (y :: l) ds h2]
theorem ev_split : ∀ (us : List Pr) (n : Int), us ≠ [] → evH us (splitA us n) = n
  | [], _, h => absurd rfl h
  | [_], _, _ => rfl
  | x :: y :: l, n, _ => by
    rw [splitA, evH, ev_split (y :: l) _ (by simp)]
    have := Int.emod_add_mul_ediv n y.2
    omega
theorem dig_split : ∀ (us : List Pr) (n : Int), 0 ≤ n → (∀ x ∈ us, 1 ≤ x.2) → DigB us (splitA us n)
  | [], _, _, _ => ⟨rfl, fun i hi => absurd hi (Nat.not_lt_zero i)⟩
  | [x], n, h, _ => ⟨rfl, fun i hi => by
    have : i = 0 := by simp at hi; omega
    subst this
    exact ⟨h, fun h => absurd h (by simp)⟩⟩
  | x :: y :: l, n, h, hf => by
    have hy := hf y (by simp)
    rw [splitA]
    exact DigB.cons (Int.emod_nonneg _ (by omega)) (Int.emod_lt_of_pos _ (by omega)) (dig_split (y :: l) _ (Int.ediv_nonneg h (by omega)) fun z hz => hf z (List.mem_cons_of_mem _ hz))
theorem ev_set : ∀ (us : List Pr) (ds : List Int) (i : Nat) (d : Int), ds.length = us.length → i < us.length → evH us (ds.set i d) = evH us ds + (d - ds.getD i 0) * vW us i
  | [], _, i, _, _, hi => absurd hi (Nat.not_lt_zero i)
  | _ :: _, [], _, _, h, _ => by cases h
  | [x], c :: ds, i, d, h, hi => by
    have : i = 0 := by simp at hi; omega
    subst this
    show d = c + (d - c) * 1
    omega
  | x :: y :: l, c :: ds, 0, d, h, hi => by
    show d + y.2 * evH (y :: l) ds = c + y.2 * evH (y :: l) ds + (d - c) * 1
    omega
  | x :: y :: l, c :: ds, i + 1, d, h, hi => by
    rw [List.set_cons_succ, evH, evH, ev_set (y :: l) ds i d (by simpa using h) (by simp at hi ⊢; omega), List.getD_cons_succ, vW, Int.mul_add, Int.add_assoc, Int.mul_left_comm]
theorem vW_step : ∀ (us : List Pr) (i : Nat), i + 1 < us.length → vW us (i + 1) = vW us i * (us.getD (i + 1) ([], 0)).2
  | [], i, h => absurd h (Nat.not_lt_zero _)
  | [_], i, h => absurd h (by simp)
  | x :: y :: l, 0, _ => by
    show y.2 * 1 = 1 * y.2
    omega
  | x :: y :: l, i + 1, h => by
    rw [vW, vW_step (y :: l) i (by simp at h ⊢; omega), vW, Int.mul_assoc]; rfl
theorem vW_pos : ∀ (us : List Pr) (i : Nat), i < us.length → (∀ x ∈ us, 1 ≤ x.2) → 1 ≤ vW us i
  | _, 0, _, _ => by rw [vW]; omega
  | [], i + 1, h, _ => absurd h (Nat.not_lt_zero _)
  | [_], i + 1, h, _ => absurd h (by simp)
  | x :: y :: l, i + 1, h, hf => by
    rw [vW]
    have h1 := vW_pos (y :: l) i (by simp at h ⊢; omega) fun z hz => hf z (List.mem_cons_of_mem _ hz)
    have h2 := hf y (by simp)
    have := Int.mul_le_mul h2 h1 (by omega) (by omega)
    omega
theorem ev_ge : ∀ (us : List Pr) (ds : List Int), DigB us ds → (∀ x ∈ us, 1 ≤ x.2) → 0 ≤ evH us ds ∧ ∀ i, i < us.length → ds.getD i 0 * vW us i ≤ evH us ds
  | [], [], _, _ => ⟨Int.le_refl _, fun i hi => absurd hi (Nat.not_lt_zero i)⟩
  | [], _ :: _, h, _ => by cases h.1
  | [_], [], h, _ => by cases h.1
  | [x], [d], h, _ => ⟨(h.2 0 (by simp)).1, fun i hi => by
    have : i = 0 := by simp at hi; omega
    subst this
    show d * 1 ≤ d
    omega⟩
  | [_], _ :: _ :: _, h, _ => by cases h.1
  | _ :: _ :: _, [], h, _ => by cases h.1
  | x :: y :: l, d :: ds, h, hf => by
    obtain ⟨h0, h1, h2⟩ := h.tl
    obtain ⟨e0, e1⟩ := ev_ge (y :: l) ds h2 fun z hz => hf z (List.mem_cons_of_mem _ hz)
    have hy := hf y (by simp)
    have e2 : 0 ≤ y.2 * evH (y :: l) ds := Int.mul_nonneg (by omega) e0
    rw [evH]
    refine ⟨by omega, fun i hi => ?_⟩
    cases i with
    | zero =>
      show d * 1 ≤ _
      omega
    | succ i =>
      have e3 := e1 i (by simp at hi ⊢; omega)
      rw [List.getD_cons_succ, vW, Int.mul_left_comm]
      have := Int.mul_le_mul_of_nonneg_left e3 (show 0 ≤ y.2 by omega)
      omega
theorem yv_vW : ∀ (v : Int) (x : Pr) (l : List Pr) (i : Nat) (y : Pr × Int), (yv v (x :: l)).length = (x :: l).length → (yv v (x :: l))[i]? = some y → y.2 = v * x.2 * vW (x :: l) i ∧ y.2 ≤ 1099511627776
  | v, x, l, i, y, h, hy => by
    rw [yv] at h hy
    by_cases hb : x.2 < 1 ∨ 60 < x.2 ∨ 1099511627776 < v * x.2
    · rw [if_pos hb] at hy; simp at hy
    · rw [if_neg hb] at h hy
      cases i with
      | zero =>
        rw [List.getElem?_cons_zero] at hy
        cases hy
        rw [vW]
        exact ⟨by show v * x.2 = _; omega, by show v * x.2 ≤ _; omega⟩
      | succ i =>
        rw [List.getElem?_cons_succ] at hy
        cases l with
        | nil => rw [yv] at hy; simp at hy
        | cons z l =>
          obtain ⟨e1, e2⟩ := yv_vW (v * x.2) z l i y (by simpa using h) hy
          exact ⟨by rw [e1, vW, Int.mul_assoc (v * x.2)], e2⟩
theorem valsS_at {nm : List UInt8} {us : List Pr} (hck : chkLad nm us = 0) {i : Nat} (hi : i < us.length) : (valsS nm us).getD i 0 = vW us i ∧ vW us i ≤ 1099511627776 := by
  obtain ⟨hL, hyl, hf⟩ := chkLad_ok hck
  have hx : us[i]? = some us[i] := List.getElem?_eq_getElem hi
  have hok : ladOK nm us = true := by
    unfold chkLad at hck
    by_cases h : ladOK nm us = true
    · exact h
    · rw [if_neg h] at hck; cases hck
  have hrl := hok
  rw [← refLad_eq] at hrl
  unfold refLad at hrl
  simp only [Bool.and_eq_true, List.all_eq_true, List.mem_range] at hrl
  have hr := hrl.1.2 i hi
  have eg : us.getD i ([], 0) = us[i] := by rw [List.getD_eq_getElem?_getD, hx]; rfl
  rw [eg] at hr
  unfold refU at hr
  simp only [Bool.and_eq_true, decide_eq_true_eq] at hr
  have hid := hr.2.1
  have e1 : (valsS nm us).getD i 0 = (valL nm us us[i].1).1 := by
    unfold valsS
    rw [List.getD_eq_getElem?_getD, List.getElem?_map, hx]; rfl
  rw [e1]
  unfold valL
  rw [if_neg (fun h => h hck)]
  obtain ⟨x, l, hxl, hx1⟩ := chkLad_first hck
  rcases valM_idx 0 1 us us[i].1 hyl with ⟨h1, _⟩ | ⟨j, y, hj, h1, h2, h3⟩
  · rw [hid] at h1; omega
  · have : j = i := by rw [hid] at h1; omega
    subst this
    rw [h3]
    subst hxl
    obtain ⟨a, b⟩ := yv_vW 1 x l j y hyl h2
    rw [hx1, Int.one_mul, Int.one_mul] at a
    exact ⟨a, a ▸ b⟩
theorem small_b {nm : List UInt8} {us : List Pr} (hck : chkLad nm us = 0) {n : Int} (hn1 : 0 ≤ n) (hn2 : n ≤ 1099511627776) : SmallB us (splitA us n) (valsS nm us) := by
  obtain ⟨hL, hyl, hf⟩ := chkLad_ok hck
  have hf1 : ∀ x ∈ us, 1 ≤ x.2 := fun x hx => (hf x hx).1
  obtain ⟨x, l, hxl, hx1⟩ := chkLad_first hck
  have hd := dig_split us n hn1 hf1
  have he := ev_split us n (by rw [hxl]; simp)
  have hg := (ev_ge us _ hd hf1).2
  rw [he] at hg
  have key : ∀ i, i < us.length → 0 ≤ (splitA us n).getD i 0 ∧ (splitA us n).getD i 0 ≤ 1099511627776 ∧ (splitA us n).getD i 0 * vW us i ≤ 1099511627776 ∧ 0 ≤ (splitA us n).getD i 0 * vW us i := fun i hi => by
    have a1 := (hd.2 i hi).1
    have a2 := hg i hi
    have a3 := vW_pos us i hi hf1
    have a4 := Int.mul_le_mul_of_nonneg_left a3 a1
    exact ⟨a1, by omega, by omega, by omega⟩
  intro i hi
  obtain ⟨k1, k2, k3, k4⟩ := key i hi
  obtain ⟨v1, v2⟩ := valsS_at hck hi
  have v3 := vW_pos us i hi hf1
  rw [v1]
  refine ⟨⟨k1, k2⟩, ⟨by omega, v2⟩, fun hi2 => ?_⟩
  obtain ⟨l1, l2, l3, l4⟩ := key (i + 1) hi2
  obtain ⟨w1, w2⟩ := valsS_at hck hi2
  rw [w1]
  have hy := hf (us.getD (i + 1) ([], 0)) (by rw [List.getD_eq_getElem?_getD, List.getElem?_eq_getElem hi2]; exact List.getElem_mem hi2)
  have ws := vW_step us i hi2
  have s1 : vW us i ≤ vW us (i + 1) := by
    rw [ws]
    have := Int.mul_le_mul_of_nonneg_left hy.1 (show 0 ≤ vW us i by omega)
    omega
  have s2 := Int.mul_le_mul_of_nonneg_left s1 l1
  have s3 : (splitA us n).getD i 0 * vW us (i + 1) = (splitA us n).getD i 0 * vW us i * (us.getD (i + 1) ([], 0)).2 := by rw [ws, Int.mul_assoc]
  have s4 := Int.mul_le_mul_of_nonneg_left hy.2 k4
  have s5 := Int.mul_nonneg k4 (show 0 ≤ (us.getD (i + 1) ([], 0)).2 by omega)
  have s6 := Int.mul_nonneg l1 (show 0 ≤ vW us i by omega)
  exact ⟨⟨l4, l3⟩, ⟨s6, by omega⟩, ⟨k4, k3⟩, by omega, by omega⟩
end Go.Proofs.YtekoajibckipkaaGreat
namespace Go.Proofs.YtekoajibckipkaaGreat
open Go Go.Eng
theorem flt0 (p : Nat → Bool) : ∀ n : Nat, (∀ j, j < n → p j = false) → (List.range n).filter p = []
  | 0, _ => rfl
  | n + 1, h => by
    rw [List.range_succ, List.filter_append, flt0 p n fun j hj => h j (by omega), List.filter_cons, h n (by omega)]; rfl
theorem flt1 (p : Nat → Bool) (i : Nat) : ∀ n : Nat, i < n → (∀ j, j < n → p j = decide (j = i)) → (List.range n).filter p = [i]
  | 0, h, _ => absurd h (Nat.not_lt_zero i)
  | n + 1, hi, h => by
    rw [List.range_succ, List.filter_append, List.filter_cons, h n (by omega)]
    by_cases he : n = i
    · subst he
      rw [flt0 p n fun j hj => by rw [h j (by omega)]; exact decide_eq_false (by omega), decide_eq_true rfl]; rfl
    · rw [flt1 p i n (by omega) fun j hj => h j (by omega), decide_eq_false he]; rfl
theorem flt2 (p : Nat → Bool) (i : Nat) : ∀ n : Nat, i + 1 < n → (∀ j, j < n → p j = (decide (j = i) || decide (j = i + 1))) → (List.range n).filter p = [i, i + 1]
  | 0, h, _ => absurd h (Nat.not_lt_zero _)
  | n + 1, hi, h => by
    rw [List.range_succ, List.filter_append, List.filter_cons, h n (by omega)]
    by_cases he : n = i + 1
    · subst he
      rw [flt1 p i (i + 1) (by omega) fun j hj => by rw [h j (by omega), decide_eq_false (show ¬ j = i + 1 by omega), Bool.or_false], decide_eq_true rfl, Bool.or_true]; rfl
    · rw [flt2 p i n (by omega) fun j hj => h j (by omega), decide_eq_false he, decide_eq_false (show ¬ n = i by omega)]; rfl
def difL (cs ds : List Int) (n : Nat) : List Nat := (List.range n).filter fun i => cs.getD i 0 != ds.getD i 0
def slipK (cs ds : List Int) : List Nat → Int
  | [a] => if cs.getD a 0 = ds.getD a 0 + 1 then 1 else if cs.getD a 0 + 1 = ds.getD a 0 then 2 else 0
  | [a, b] => if b = a + 1 then (if ds.getD b 0 = 0 ∧ 1 ≤ ds.getD a 0 ∧ cs.getD a 0 = 0 ∧ cs.getD b 0 = ds.getD a 0 then 3 else if ds.getD a 0 = 0 ∧ 1 ≤ ds.getD b 0 ∧ cs.getD b 0 = 0 ∧ cs.getD a 0 = ds.getD b 0 then 4 else 0) else 0
  | _ => 0
theorem getD_set (l : List Int) (i j : Nat) (d : Int) (hi : i < l.length) : (l.set i d).getD j 0 = if j = i then d else l.getD j 0 := by
  rw [List.getD_eq_getElem?_getD, List.getElem?_set]
  by_cases h : i = j
  · subst h; rw [if_pos rfl, if_pos hi, if_pos rfl]; rfl
  · rw [if_neg h, if_neg (fun e => h e.symm), List.getD_eq_getElem?_getD]
theorem extD {l k : List Int} (h : l.length = k.length) (he : ∀ j, j < l.length → l.getD j 0 = k.getD j 0) : l = k := by
  apply List.ext_getElem? 
  intro j
  rcases Nat.lt_or_ge j l.length with hj | hj
  · have := he j hj
    rw [List.getD_eq_getElem?_getD, List.getD_eq_getElem?_getD, List.getElem?_eq_getElem hj, List.getElem?_eq_getElem (h ▸ hj)] at this
    rw [List.getElem?_eq_getElem hj, List.getElem?_eq_getElem (h ▸ hj)]
    exact congrArg some this
  · rw [List.getElem?_eq_none hj, List.getElem?_eq_none (h ▸ hj)]
theorem DigB.set {us : List Pr} {ds : List Int} (h : DigB us ds) {i : Nat} {d : Int} (hi : i < us.length) (h0 : 0 ≤ d) (h1 : i + 1 < us.length → d < (us.getD (i + 1) ([], 0)).2) : DigB us (ds.set i d) := by
  have hl := h.1
  refine ⟨by rw [List.length_set]; exact hl, fun j hj => ?_⟩
  rw [getD_set _ _ _ _ (by omega)]
  by_cases e : j = i
  · subst e; rw [if_pos rfl]; exact ⟨h0, h1⟩
  · rw [if_neg e]; exact h.2 j hj
theorem roomB_iff {us : List Pr} {i : Nat} {k : Int} (hi : i < us.length) : roomB us i k = true ↔ (i + 1 < us.length → k < (us.getD (i + 1) ([], 0)).2) := by
  unfold roomB
  rw [Bool.or_eq_true, beq_iff_eq, decide_eq_true_eq]
  constructor
  · rintro (h | h) h2
    · omega
    · exact h
  · intro h
    rcases Nat.lt_or_ge (i + 1) us.length with h1 | h1
    · exact .inr (h h1)
    · exact .inl (by omega)
theorem mem_one {b : Bool} {x y : Sp} : y ∈ one b x ↔ b = true ∧ okN x.2.2 = true ∧ y = x := by
  unfold one
  cases b with
  | false => simp
  | true =>
    cases h : okN x.2.2 with
    | false => simp
    | true => simp
theorem kindL_of {m k : Int} : ∀ {S : List Sp}, (∀ x ∈ S, x.2.2 = m → x.1 = k) → (k = 0 ∨ ∃ x ∈ S, x.2.2 = m) → kindL S m = k
  | [], _, h => by
    rcases h with h | ⟨x, hx, _⟩
    · exact h.symm
    · cases hx
  | x :: S, h1, h2 => by
    rw [kindL]
    by_cases h : x.2.2 = m
    · rw [if_pos h]; exact h1 x (List.mem_cons_self ..) h
    · rw [if_neg h]
      refine kindL_of (fun y hy => h1 y (List.mem_cons_of_mem _ hy)) ?_
      rcases h2 with h2 | ⟨y, hy, e⟩
      · exact .inl h2
      · rcases List.mem_cons.1 hy with rfl | hy
        · exact absurd e h
        · exact .inr ⟨y, hy, e⟩
theorem dif1 {cs : List Int} {i n : Nat} {d : Int} (hl : cs.length = n) (hi : i < n) (hd : d ≠ cs.getD i 0) : difL cs (cs.set i d) n = [i] := by
  unfold difL
  refine flt1 _ i n hi fun j hj => ?_
  rw [getD_set _ _ _ _ (by omega)]
  by_cases e : j = i
  · subst e; rw [if_pos rfl, decide_eq_true rfl]; exact bne_iff_ne.2 fun h => hd h.symm
  · rw [if_neg e, decide_eq_false e]; exact bne_self_eq_false _
theorem dif2 {cs : List Int} {i n : Nat} {d e : Int} (hl : cs.length = n) (hi : i + 1 < n) (hd : d ≠ cs.getD i 0) (he : e ≠ cs.getD (i + 1) 0) : difL cs ((cs.set i d).set (i + 1) e) n = [i, i + 1] := by
  unfold difL
  refine flt2 _ i n hi fun j hj => ?_
  rw [getD_set _ _ _ _ (by rw [List.length_set]; omega), getD_set _ _ _ _ (by omega)]
  by_cases h1 : j = i + 1
  · subst h1; rw [if_pos rfl, decide_eq_true (show i + 1 = i + 1 from rfl), Bool.or_true]; exact bne_iff_ne.2 fun h => he h.symm
  · rw [if_neg h1, decide_eq_false h1, Bool.or_false]
    by_cases h : j = i
    · subst h; rw [if_pos rfl, decide_eq_true rfl]; exact bne_iff_ne.2 fun h => hd h.symm
    · rw [if_neg h, decide_eq_false h]; exact bne_self_eq_false _
theorem mem_dif {cs ds : List Int} {n j : Nat} : j ∈ difL cs ds n ↔ j < n ∧ cs.getD j 0 ≠ ds.getD j 0 := by
  unfold difL
  rw [List.mem_filter, List.mem_range, bne_iff_ne]
theorem kind_law {nm : List UInt8} {us : List Pr} (hck : chkLad nm us = 0) {n m : Int} (hn1 : 1 ≤ n) (hm1 : 1 ≤ m) (hm2 : m ≤ 1099511627776) :
    kindL (slipsL us (splitA us n) (valsS nm us) n) m = slipK (splitA us n) (splitA us m) (difL (splitA us n) (splitA us m) us.length) := by
  obtain ⟨hL, hyl, hf⟩ := chkLad_ok hck
  have hf1 : ∀ x ∈ us, 1 ≤ x.2 := fun x hx => (hf x hx).1
  obtain ⟨x0, l0, hxl, hx1⟩ := chkLad_first hck
  have hne : us ≠ [] := by rw [hxl]; simp
  have hdn := dig_split us n (by omega) hf1
  have hdm := dig_split us m (by omega) hf1
  have hen := ev_split us n hne
  have hem := ev_split us m hne
  have huq : ∀ ds, DigB us ds → evH us ds = m → splitA us m = ds := fun ds h1 h2 => by rw [← h2]; exact split_ev us ds h1
  have hv : ∀ i, i < us.length → (valsS nm us).getD i 0 = vW us i := fun i hi => (valsS_at hck hi).1
  clear hyl hf hxl hx1
  generalize valsS nm us = vs at hv ⊢
  generalize splitA us m = ds at hdm hem huq ⊢
  generalize splitA us n = cs at hdn hen ⊢
  have hl := hdn.1
  have hlm := hdm.1
  have e1 : ∀ i d, i < us.length → evH us (cs.set i d) = n + (d - cs.getD i 0) * vW us i := fun i d hi => by rw [ev_set us cs i d hl hi, hen]
  have e2 : ∀ i d e, i + 1 < us.length → evH us ((cs.set i d).set (i + 1) e) = n + (d - cs.getD i 0) * vW us i + (e - cs.getD (i + 1) 0) * vW us (i + 1) := fun i d e hi => by
    rw [ev_set us (cs.set i d) (i + 1) e (by rw [List.length_set]; exact hl) hi, e1 i d (by omega), getD_set _ _ _ _ (by omega), if_neg (by omega)]
  have g1 : ∀ i d, i < us.length → (cs.set i d).getD i 0 = d := fun i d hi => by rw [getD_set _ _ _ _ (by omega), if_pos rfl]
  have g2 : ∀ i d e, i + 1 < us.length → ((cs.set i d).set (i + 1) e).getD i 0 = d ∧ ((cs.set i d).set (i + 1) e).getD (i + 1) 0 = e := fun i d e hi => by
    exact ⟨by rw [getD_set _ _ _ _ (by rw [List.length_set]; omega), if_neg (by omega), g1 i d (by omega)], by rw [getD_set _ _ _ _ (by rw [List.length_set]; omega), if_pos rfl]⟩
  have okm : okN m = true := by unfold okN; rw [decide_eq_true hm1, decide_eq_true hm2]; rfl
  refine kindL_of (fun x hx hxm => ?_) ?_
  · unfold slipsL at hx
    obtain ⟨i, hi, hx⟩ := List.mem_flatMap.1 hx
    rw [List.mem_range] at hi
    obtain ⟨c0, c1⟩ := hdn.2 i hi
    unfold slipsAt at hx
    rw [List.mem_append, List.mem_append, mem_one, mem_one] at hx
    rcases hx with (⟨h1, _, rfl⟩ | ⟨h1, _, rfl⟩) | hx
    · replace hxm : n - vs.getD i 0 = m := hxm
      rw [hv i hi] at hxm
      have hc := of_decide_eq_true h1
      have := huq (cs.set i (cs.getD i 0 - 1)) (hdn.set hi (by omega) fun h => by have := c1 h; omega) (by rw [e1 i _ hi, ← hxm, show cs.getD i 0 - 1 - cs.getD i 0 = -1 by omega, Int.neg_mul, Int.one_mul]; omega)
      subst this
      rw [dif1 hl hi (by omega)]
      show 1 = (if _ then (1 : Int) else _)
      rw [g1 i _ hi, if_pos (by omega)]
    · replace hxm : n + vs.getD i 0 = m := hxm
      rw [hv i hi] at hxm
      have hc := (roomB_iff hi).1 h1
      have := huq (cs.set i (cs.getD i 0 + 1)) (hdn.set hi (by omega) hc) (by rw [e1 i _ hi, ← hxm, show cs.getD i 0 + 1 - cs.getD i 0 = 1 by omega, Int.one_mul])
      subst this
      rw [dif1 hl hi (by omega)]
      show 2 = (if _ then (1 : Int) else _)
      rw [g1 i _ hi, if_neg (by omega), if_pos rfl]
    · by_cases hlast : i + 1 = us.length
      · rw [if_pos hlast] at hx; cases hx
      · have hi2 : i + 1 < us.length := by omega
        obtain ⟨d0, d1⟩ := hdn.2 (i + 1) hi2
        rw [if_neg hlast, List.mem_append, mem_one, mem_one] at hx
        rcases hx with ⟨h1, _, rfl⟩ | ⟨h1, _, rfl⟩
        · rw [Bool.and_eq_true, Bool.and_eq_true, beq_iff_eq, decide_eq_true_eq] at h1
          obtain ⟨⟨h1, h2⟩, h3⟩ := h1
          replace hxm : n - cs.getD (i + 1) 0 * vs.getD (i + 1) 0 + cs.getD (i + 1) 0 * vs.getD i 0 = m := hxm
          rw [hv i hi, hv (i + 1) hi2] at hxm
          have := huq ((cs.set i (cs.getD (i + 1) 0)).set (i + 1) 0) ((hdn.set hi d0 ((roomB_iff hi).1 h3)).set hi2 (by omega) fun h => by have := d1 h; omega) (by rw [e2 i _ _ hi2, ← hxm, h1, Int.sub_zero, Int.zero_sub, Int.neg_mul]; omega)
          subst this
          rw [dif2 hl hi2 (by omega) (by omega)]
          show 3 = (if _ then (if _ then (3 : Int) else _) else _)
          rw [if_pos rfl, (g2 i _ _ hi2).1, (g2 i _ _ hi2).2, if_pos ⟨rfl, by omega, h1, rfl⟩]
        · rw [Bool.and_eq_true, Bool.and_eq_true, beq_iff_eq, decide_eq_true_eq] at h1
          obtain ⟨⟨h1, h2⟩, h3⟩ := h1
          replace hxm : n - cs.getD i 0 * vs.getD i 0 + cs.getD i 0 * vs.getD (i + 1) 0 = m := hxm
          rw [hv i hi, hv (i + 1) hi2] at hxm
          have := huq ((cs.set i 0).set (i + 1) (cs.getD i 0)) ((hdn.set hi (Int.le_refl 0) fun h => by have := c1 h; omega).set hi2 c0 ((roomB_iff hi2).1 h3)) (by rw [e2 i _ _ hi2, ← hxm, h1, Int.sub_zero, Int.zero_sub, Int.neg_mul]; omega)
          subst this
          rw [dif2 hl hi2 (by omega) (by omega)]
          show 4 = (if _ then (if _ then (3 : Int) else if _ then 4 else _) else _)
          rw [if_pos rfl, (g2 i _ _ hi2).1, (g2 i _ _ hi2).2, if_neg (fun h => by omega), if_pos ⟨rfl, by omega, h1, rfl⟩]
  · have md := @mem_dif cs ds us.length
    have found : ∀ (i : Nat) (x : Sp), i < us.length → x ∈ slipsAt us cs vs n i → x.2.2 = m → ∃ x ∈ slipsL us cs vs n, x.2.2 = m := fun i x hi hx he => ⟨x, List.mem_flatMap.2 ⟨i, List.mem_range.2 hi, hx⟩, he⟩
    generalize difL cs ds us.length = D at md ⊢
    rcases D with _ | ⟨a, _ | ⟨b, _ | ⟨c, D⟩⟩⟩
    · exact .inl rfl
    · have ha := (md.1 (List.mem_cons_self ..)).1
      have hds : ds = cs.set a (ds.getD a 0) := extD (by rw [List.length_set]; omega) fun j hj => by
        rw [getD_set _ _ _ _ (by omega)]
        by_cases e : j = a
        · subst e; rw [if_pos rfl]
        · rw [if_neg e]
          exact Classical.byContradiction fun h => e (List.mem_singleton.1 (md.2 ⟨by omega, fun h' => h h'.symm⟩))
      have hev : m = n + (ds.getD a 0 - cs.getD a 0) * vW us a := by rw [← e1 a _ ha, ← hds, hem]
      have hda := hdm.2 a ha
      show (if _ then (1 : Int) else if _ then 2 else 0) = 0 ∨ _
      by_cases k1 : cs.getD a 0 = ds.getD a 0 + 1
      · refine .inr (found a _ ha (List.mem_append_left _ (List.mem_append_left _ (mem_one.2 ⟨decide_eq_true (by omega), ?_, rfl⟩))) ?_)
        · show okN (n - vs.getD a 0) = true
          rw [hv a ha, show n - vW us a = m by rw [hev, k1, show ds.getD a 0 - (ds.getD a 0 + 1) = -1 by omega, Int.neg_mul, Int.one_mul]; omega]
          exact okm
        · show n - vs.getD a 0 = m
          rw [hv a ha, hev, k1, show ds.getD a 0 - (ds.getD a 0 + 1) = -1 by omega, Int.neg_mul, Int.one_mul]; omega
      · rw [if_neg k1]
        by_cases k2 : cs.getD a 0 + 1 = ds.getD a 0
        · have hm : n + vs.getD a 0 = m := by rw [hv a ha, hev, ← k2, show cs.getD a 0 + 1 - cs.getD a 0 = 1 by omega, Int.one_mul]
          exact .inr (found a (2, (us.getD a ([], 0)).1, n + vs.getD a 0) ha (List.mem_append_left _ (List.mem_append_right _ (mem_one.2 ⟨(roomB_iff ha).2 fun h => by rw [k2]; exact hda.2 h, by show okN (n + vs.getD a 0) = true; rw [hm]; exact okm, rfl⟩))) hm)
        · rw [if_neg k2]; exact .inl rfl
    · have ha := (md.1 (List.mem_cons_self ..)).1
      have hb := (md.1 (List.mem_cons_of_mem _ (List.mem_cons_self ..))).1
      show (if _ then (if _ then (3 : Int) else if _ then 4 else 0) else 0) = 0 ∨ _
      by_cases hba : b = a + 1
      case neg => rw [if_neg hba]; exact .inl rfl
      subst hba
      rw [if_pos rfl]
      have hds : ds = (cs.set a (ds.getD a 0)).set (a + 1) (ds.getD (a + 1) 0) := extD (by rw [List.length_set, List.length_set]; omega) fun j hj => by
        rw [getD_set _ _ _ _ (by rw [List.length_set]; omega), getD_set _ _ _ _ (by omega)]
        by_cases e : j = a + 1
        · subst e; rw [if_pos rfl]
        · rw [if_neg e]
          by_cases e' : j = a
          · subst e'; rw [if_pos rfl]
          · rw [if_neg e']
            refine Classical.byContradiction fun h => ?_
            have := md.2 ⟨show j < us.length by omega, fun h' => h h'.symm⟩
            rcases List.mem_cons.1 this with h | h
            · exact e' h
            · exact e (List.mem_singleton.1 h)
      have hev : m = n + (ds.getD a 0 - cs.getD a 0) * vW us a + (ds.getD (a + 1) 0 - cs.getD (a + 1) 0) * vW us (a + 1) := by rw [← e2 a _ _ hb, ← hds, hem]
      have hda := hdm.2 a ha
      have hdb := hdm.2 (a + 1) hb
      have hlast : ¬ a + 1 = us.length := by omega
      by_cases k1 : ds.getD (a + 1) 0 = 0 ∧ 1 ≤ ds.getD a 0 ∧ cs.getD a 0 = 0 ∧ cs.getD (a + 1) 0 = ds.getD a 0
      · obtain ⟨p1, p2, p3, p4⟩ := k1
        have hm : n - cs.getD (a + 1) 0 * vs.getD (a + 1) 0 + cs.getD (a + 1) 0 * vs.getD a 0 = m := by
          rw [hv a ha, hv (a + 1) hb, hev, p1, p3, p4, Int.sub_zero, Int.zero_sub, Int.neg_mul]; omega
        refine .inr (found a (3, (us.getD a ([], 0)).1, n - cs.getD (a + 1) 0 * vs.getD (a + 1) 0 + cs.getD (a + 1) 0 * vs.getD a 0) ha (List.mem_append_right _ ?_) hm)
        rw [if_neg hlast]
        exact List.mem_append_left _ (mem_one.2 ⟨by rw [beq_iff_eq.2 p3, decide_eq_true (show 0 < cs.getD (a + 1) 0 by omega), (roomB_iff ha).2 fun h => by rw [p4]; exact hda.2 h]; rfl, by show okN (n - cs.getD (a + 1) 0 * vs.getD (a + 1) 0 + cs.getD (a + 1) 0 * vs.getD a 0) = true; rw [hm]; exact okm, rfl⟩)
      · rw [if_neg k1]
        by_cases k2 : ds.getD a 0 = 0 ∧ 1 ≤ ds.getD (a + 1) 0 ∧ cs.getD (a + 1) 0 = 0 ∧ cs.getD a 0 = ds.getD (a + 1) 0
        · obtain ⟨p1, p2, p3, p4⟩ := k2
          have hm : n - cs.getD a 0 * vs.getD a 0 + cs.getD a 0 * vs.getD (a + 1) 0 = m := by
            rw [hv a ha, hv (a + 1) hb, hev, p1, p3, p4, Int.sub_zero, Int.zero_sub, Int.neg_mul]; omega
          refine .inr (found a (4, (us.getD (a + 1) ([], 0)).1, n - cs.getD a 0 * vs.getD a 0 + cs.getD a 0 * vs.getD (a + 1) 0) ha (List.mem_append_right _ ?_) hm)
          rw [if_neg hlast]
          exact List.mem_append_right _ (mem_one.2 ⟨by rw [beq_iff_eq.2 p3, decide_eq_true (show 0 < cs.getD a 0 by omega), (roomB_iff hb).2 fun h => by rw [p4]; exact hdb.2 h]; rfl, by show okN (n - cs.getD a 0 * vs.getD a 0 + cs.getD a 0 * vs.getD (a + 1) 0) = true; rw [hm]; exact okm, rfl⟩)
        · rw [if_neg k2]; exact .inl rfl
    · exact .inl rfl
end Go.Proofs.YtekoajibckipkaaGreat
