/- A part of the proof: BkFacts4, BkNum1, BkNum5, BkNum6, BkNum7, BkPz1, BkPz2, BkPz4, BkPz5, BkFacts5, BkFacts7, BkFacts8, BkAll, BkSl1, BkSl2, BkSl3, BkSl4, BkSl5. No conditions. -/
import Derived.Test.YtekoajibckipkaaGreatQAi
import Derived.KernelRfl
namespace Go.Proofs.YtekoajibckipkaaGreat
open Go Go.Eng
theorem ld_puzzle : loadT Tryz.prog 42 = some (true, 2) := by kernel_rfl
theorem sz_puzzle : sizeT Tryz.prog 42 = some 2 := by kernel_rfl
theorem zr_puzzle : (zeroT Tryz.prog 42).map (fun z => (ofValue z).cells) = some [.o .nilS, .o .nilS] := by kernel_rfl
theorem ad_puzzle : addrT Tryz.prog 42 = 4 := by kernel_rfl
theorem fd_puzzle_0 : fieldT Tryz.prog 42 0 = some (0, 39, 1) := by kernel_rfl
theorem fd_puzzle_1 : fieldT Tryz.prog 42 1 = some (1, 40, 1) := by kernel_rfl
def pl_puzzle : Nat → Option (Nat × Nat) := fun i => (#[(0, 1), (1, 1)] : Array (Nat × Nat))[i]?
theorem pt_puzzle : placeT Tryz.prog 42 = some pl_puzzle := by kernel_rfl
theorem pl_puzzle_0 : pl_puzzle 0 = some (0, 1) := rfl
theorem pl_puzzle_1 : pl_puzzle 1 = some (1, 1) := rfl
theorem ld_cells : loadT Tryz.prog 39 = some (false, 1) := by kernel_rfl
theorem sz_cells : sizeT Tryz.prog 39 = some 1 := by kernel_rfl
theorem zr_cells : (zeroT Tryz.prog 39).map (fun z => (ofValue z).cells) = some [.o .nilS] := by kernel_rfl
theorem el_cells : elemT Tryz.prog 39 = some (117, 5) := by kernel_rfl
theorem ln_cells : lenT Tryz.prog 39 = some 1 := by kernel_rfl
theorem ad_cells : addrT Tryz.prog 39 = 1 := by kernel_rfl
theorem ld_cell : loadT Tryz.prog 117 = some (true, 5) := by kernel_rfl
theorem sz_cell : sizeT Tryz.prog 117 = some 5 := by kernel_rfl
theorem zr_cell : (zeroT Tryz.prog 117).map (fun z => (ofValue z).cells) = some [.i .i64 0, .o (.str []), .o (.str []), .o .nilS, .o .nilS] := by kernel_rfl
theorem ad_cell : addrT Tryz.prog 117 = 4 := by kernel_rfl
theorem fd_cell_0 : fieldT Tryz.prog 117 0 = some (0, 3, 1) := by kernel_rfl
theorem fd_cell_1 : fieldT Tryz.prog 117 1 = some (1, 9, 1) := by kernel_rfl
theorem fd_cell_2 : fieldT Tryz.prog 117 2 = some (2, 9, 1) := by kernel_rfl
theorem fd_cell_3 : fieldT Tryz.prog 117 3 = some (3, 115, 2) := by kernel_rfl
def pl_cell : Nat → Option (Nat × Nat) := fun i => (#[(0, 1), (1, 1), (2, 1), (3, 2)] : Array (Nat × Nat))[i]?
theorem pt_cell : placeT Tryz.prog 117 = some pl_cell := by kernel_rfl
theorem pl_cell_0 : pl_cell 0 = some (0, 1) := rfl
theorem pl_cell_1 : pl_cell 1 = some (1, 1) := rfl
theorem pl_cell_2 : pl_cell 2 = some (2, 1) := rfl
theorem pl_cell_3 : pl_cell 3 = some (3, 2) := rfl
theorem ld_rules : loadT Tryz.prog 40 = some (false, 1) := by kernel_rfl
theorem sz_rules : sizeT Tryz.prog 40 = some 1 := by kernel_rfl
theorem zr_rules : (zeroT Tryz.prog 40).map (fun z => (ofValue z).cells) = some [.o .nilS] := by kernel_rfl
theorem el_rules : elemT Tryz.prog 40 = some (101, 2) := by kernel_rfl
theorem ln_rules : lenT Tryz.prog 40 = some 1 := by kernel_rfl
theorem ad_rules : addrT Tryz.prog 40 = 1 := by kernel_rfl
theorem ld_rule : loadT Tryz.prog 101 = some (true, 2) := by kernel_rfl
theorem sz_rule : sizeT Tryz.prog 101 = some 2 := by kernel_rfl
theorem zr_rule : (zeroT Tryz.prog 101).map (fun z => (ofValue z).cells) = some [.i .i64 0, .o .nilS] := by kernel_rfl
theorem ad_rule : addrT Tryz.prog 101 = 4 := by kernel_rfl
theorem fd_rule_0 : fieldT Tryz.prog 101 0 = some (0, 3, 1) := by kernel_rfl
theorem fd_rule_1 : fieldT Tryz.prog 101 1 = some (1, 33, 1) := by kernel_rfl
def pl_rule : Nat → Option (Nat × Nat) := fun i => (#[(0, 1), (1, 1)] : Array (Nat × Nat))[i]?
theorem pt_rule : placeT Tryz.prog 101 = some pl_rule := by kernel_rfl
theorem pl_rule_0 : pl_rule 0 = some (0, 1) := rfl
theorem pl_rule_1 : pl_rule 1 = some (1, 1) := rfl
theorem ld_num : loadT Tryz.prog 115 = some (true, 2) := by kernel_rfl
theorem sz_num : sizeT Tryz.prog 115 = some 2 := by kernel_rfl
theorem zr_num : (zeroT Tryz.prog 115).map (fun z => (ofValue z).cells) = some [.o .nilS, .o .nilS] := by kernel_rfl
theorem ad_num : addrT Tryz.prog 115 = 4 := by kernel_rfl
theorem fd_num_0 : fieldT Tryz.prog 115 0 = some (0, 113, 1) := by kernel_rfl
theorem fd_num_1 : fieldT Tryz.prog 115 1 = some (1, 113, 1) := by kernel_rfl
def pl_num : Nat → Option (Nat × Nat) := fun i => (#[(0, 1), (1, 1)] : Array (Nat × Nat))[i]?
theorem pt_num : placeT Tryz.prog 115 = some pl_num := by kernel_rfl
theorem pl_num_0 : pl_num 0 = some (0, 1) := rfl
theorem pl_num_1 : pl_num 1 = some (1, 1) := rfl
theorem ld_grps : loadT Tryz.prog 113 = some (false, 1) := by kernel_rfl
theorem sz_grps : sizeT Tryz.prog 113 = some 1 := by kernel_rfl
theorem zr_grps : (zeroT Tryz.prog 113).map (fun z => (ofValue z).cells) = some [.o .nilS] := by kernel_rfl
theorem el_grps : elemT Tryz.prog 113 = some (214, 3) := by kernel_rfl
theorem ln_grps : lenT Tryz.prog 113 = some 1 := by kernel_rfl
theorem ad_grps : addrT Tryz.prog 113 = 1 := by kernel_rfl
theorem ld_grp : loadT Tryz.prog 214 = some (true, 3) := by kernel_rfl
theorem sz_grp : sizeT Tryz.prog 214 = some 3 := by kernel_rfl
theorem zr_grp : (zeroT Tryz.prog 214).map (fun z => (ofValue z).cells) = some [.i .i64 0, .o (.str []), .b false] := by kernel_rfl
theorem ad_grp : addrT Tryz.prog 214 = 4 := by kernel_rfl
theorem fd_grp_0 : fieldT Tryz.prog 214 0 = some (0, 3, 1) := by kernel_rfl
theorem fd_grp_1 : fieldT Tryz.prog 214 1 = some (1, 9, 1) := by kernel_rfl
theorem fd_grp_2 : fieldT Tryz.prog 214 2 = some (2, 4, 1) := by kernel_rfl
def pl_grp : Nat → Option (Nat × Nat) := fun i => (#[(0, 1), (1, 1), (2, 1)] : Array (Nat × Nat))[i]?
theorem pt_grp : placeT Tryz.prog 214 = some pl_grp := by kernel_rfl
theorem pl_grp_0 : pl_grp 0 = some (0, 1) := rfl
theorem pl_grp_1 : pl_grp 1 = some (1, 1) := rfl
theorem pl_grp_2 : pl_grp 2 = some (2, 1) := rfl
theorem ld_bools : loadT Tryz.prog 169 = some (false, 1) := by kernel_rfl
theorem sz_bools : sizeT Tryz.prog 169 = some 1 := by kernel_rfl
theorem zr_bools : (zeroT Tryz.prog 169).map (fun z => (ofValue z).cells) = some [.o .nilS] := by kernel_rfl
theorem el_bools : elemT Tryz.prog 169 = some (4, 1) := by kernel_rfl
theorem ln_bools : lenT Tryz.prog 169 = some 1 := by kernel_rfl
theorem ad_bools : addrT Tryz.prog 169 = 1 := by kernel_rfl
end Go.Proofs.YtekoajibckipkaaGreat
namespace Go.Proofs.YtekoajibckipkaaGreat
open Go Go.Eng
abbrev Gp := Int × List UInt8 × Bool
def gpC (x : Gp) : List AC := [.i .i64 x.1, .o (.str x.2.1), .b x.2.2]
theorem gpC_len (x : Gp) : (gpC x).length = 3 := rfl
def SlGp (H : Hp) (v : AC) (l : List Gp) : Prop := SlC H v 3 l.length (l.flatMap gpC)
theorem SlGp.gr {H H' : Hp} {v : AC} {l : List Gp} (h : SlGp H v l) (hg : Gr H H') : SlGp H' v l := SlC.gr h hg
theorem SlGp.len {H : Hp} {v : AC} {l : List Gp} (h : SlGp H v l) : doLen H 1 (.one v) = .val (.one (.i .i64 (l.length : Int))) H := SlC.len h
theorem SlGp.lt {H : Hp} {v : AC} {l : List Gp} (h : SlGp H v l) : ltV (.one v) H.nx := ltV_slc h
theorem SlGp.nil {H : Hp} : SlGp H (.o .nilS) [] := ⟨by simp, .inl ⟨rfl, rfl⟩⟩
structure GpAt (cells : List AC) (o : Nat) (x : Gp) : Prop where
  all : (cells.drop o).take 3 = gpC x
  le : o + 3 ≤ cells.length
  le1 : o + 1 ≤ cells.length
  le2 : o + 1 + 1 ≤ cells.length
  le3 : o + 2 + 1 ≤ cells.length
  f1 : (cells.drop o).headD (.b false) = .i .i64 x.1
  f2 : (cells.drop (o + 1)).headD (.b false) = .o (.str x.2.1)
  f3 : (cells.drop (o + 2)).headD (.b false) = .b x.2.2
theorem SlGp.open {H : Hp} {v : AC} {l : List Gp} (h : SlGp H v l) (hn : 0 < l.length) : ∃ id g off cells, v = .o (.sl id g off l.length 3) ∧ id < H.nx ∧ rowOf (H.get id) g = some cells ∧ ∀ (i : Nat) (x : Gp), l[i]? = some x → GpAt cells (off + i * 3) x := by
  obtain ⟨id, g, off, h1, h2, hr⟩ := SlC.pos h hn
  have hr' := hr
  obtain ⟨cells, h3, h6, h7⟩ := hr
  refine ⟨id, g, off, cells, h1, h2, h3, fun i x hx => ?_⟩
  obtain ⟨cells', k3, k6, k7⟩ := Rd.at (c := gpC) gpC_len hr' hx
  rw [h3] at k3
  cases k3
  obtain ⟨a, b, c⟩ := drop3 k7
  exact ⟨k7, k6, by omega, by omega, by omega, a, b, c⟩
theorem SlGp.take {H : Hp} {id g off : Nat} {l : List Gp} (h : SlGp H (.o (.sl id g off l.length 3)) l) {n : Nat} (hn : n ≤ l.length) : SlGp H (.o (.sl id g off n 3)) (l.take n) := by
  have hl : (l.take n).length = n := by rw [List.length_take]; omega
  refine ⟨by rw [flat_len gpC_len], ?_⟩
  rcases h.2 with ⟨e, _⟩ | ⟨id', g', off', e, hid, hr⟩
  · cases e
  · cases e
    refine .inr ⟨id, g, off, by rw [hl], hid, ?_⟩
    have := hr.part 0 (n * 3) (by omega)
    rw [List.drop_zero, Nat.add_zero] at this
    rw [hl]
    have e : (l.take n).flatMap gpC = (l.flatMap gpC).take (n * 3) := by
      have h1 : l.flatMap gpC = (l.take n).flatMap gpC ++ (l.drop n).flatMap gpC := by rw [← List.flatMap_append, List.take_append_drop]
      exact ((congrArg (List.take (n * 3)) h1).trans (by rw [List.take_append_of_le_length (by rw [flat_len gpC_len, hl]; exact Nat.le_refl _), List.take_of_length_le (by rw [flat_len gpC_len, hl]; exact Nat.le_refl _)])).symm
    rw [e]
    exact this
end Go.Proofs.YtekoajibckipkaaGreat
namespace Go.Proofs.YtekoajibckipkaaGreat
open Go Go.Eng
abbrev Nm := List Gp × List Gp
end Go.Proofs.YtekoajibckipkaaGreat
namespace Go.Proofs.YtekoajibckipkaaGreat
open Go Go.Eng
theorem bd_value : hasBody Tryz.prog 109 = true := by kernel_rfl
theorem callEnd_two_cells {E : Env} {s s' : Tmp} {t t' : TypeId} {A : AAct} {H H2 : Hp} {e : AExit} {id id' g g' : Nat} {c c' : AC} (ht : loadT E.P t = some (false, 1)) (ht' : loadT E.P t' = some (false, 1)) (he : e = .normal ∨ e = .ret) (hd : closeAll H A.dfr = some H2)
    (hs : slot A.tm s = .one (.o (.ptr id g 0 1))) (hs' : slot A.tm s' = .one (.o (.ptr id' g' 0 1))) (hg : rowOf (H2.get id) g = some [c]) (hg' : rowOf (H2.get id') g' = some [c']) :
    callEnd E [.cell s t, .cell s' t'] (e, A, H) = .ok [(.tup [(false, [c]), (false, [c'])], H2)] := by
  have one : ∀ (s : Tmp) (t : TypeId) (id g : Nat) (c : AC), loadT E.P t = some (false, 1) → slot A.tm s = .one (.o (.ptr id g 0 1)) → rowOf (H2.get id) g = some [c] → resF E.P (.cell s t) A.tm H2 = some (false, [c]) := fun s t id g c ht hs hg => by
    have e0 : resF E.P (.cell s t) = match loadT E.P t with
        | some p => fun tm h => optE (tm.get s) none fun v => ANext.rec (motive := fun _ => Option (Bool × List AC)) (fun v _ => resV v) (fun _ => none) (fun _ _ => none) (fun _ _ => none) (fun _ => none) (doLoad h p.1 p.2 v)
        | none => fun _ _ => none := rfl
    rw [e0, ht]
    show optE (A.tm.get s) none (fun v => ANext.rec (motive := fun _ => Option (Bool × List AC)) (fun v _ => resV v) (fun _ => none) (fun _ _ => none) (fun _ _ => none) (fun _ => none) (doLoad H2 false 1 v)) = _
    rw [getS hs]
    show ANext.rec (motive := fun _ => Option (Bool × List AC)) (fun v _ => resV v) (fun _ => none) (fun _ _ => none) (fun _ _ => none) (fun _ => none) (doLoad H2 false 1 (.one (.o (.ptr id g 0 1)))) = _
    rw [doLoad_ptr, hg, ldO_one (Nat.le_refl _) (by simp)]; rfl
  have key : (optE (closeAll H A.dfr) (R.bad "marks") fun h2 => optE (resAll E.P [.cell s t, .cell s' t'] A.tm h2) (.bad "results") fun l => .ok [(tupOf l, h2)]) = .ok [(.tup [(false, [c]), (false, [c'])], H2)] := by
    rw [hd]
    have hr : resAll E.P [.cell s t, .cell s' t'] A.tm H2 = some [(false, [c]), (false, [c'])] := by
      show optE (resF E.P (.cell s t) A.tm H2) none (fun x => optE (optE (resF E.P (.cell s' t') A.tm H2) none fun x => optE (some []) none fun l => some (x :: l)) none fun l => some (x :: l)) = _
      rw [one s t id g c ht hs hg, one s' t' id' g' c' ht' hs' hg']; rfl
    show optE (resAll E.P [.cell s t, .cell s' t'] A.tm H2) (R.bad "results") (fun l => R.ok [(tupOf l, H2)]) = _
    rw [hr]; rfl
  rcases he with rfl | rfl
  · exact key
  · exact key
def valM : List (Pr × Int) → List UInt8 → Int × Int
  | [], _ => (0, 11)
  | y :: ys, s => if y.1.1 = s then (y.2, 0) else valM ys s
def valL (n : List UInt8) (us : List Pr) (s : List UInt8) : Int × Int := if chkLad n us ≠ 0 then (0, chkLad n us) else valM (yv 1 us) s
set_option maxRecDepth 10000 in
set_option maxHeartbeats 8000000 in
theorem value_con (H : Hp) (n : List UInt8) (u : AC) (us : List Pr) (s : List UInt8) (hu : SlP H u us) :
    Con E2 109 [.agg [.o (.str n), u], .one (.o (.str s))] H (fun _ => False) fun r _ => r = .tup [(false, [.i .i64 (valL n us s).1]), (false, [.i .i64 (valL n us s).2])] := by
  refine Con.of rfl fun lg => ?_
  have hu : SlP ⟨H.t, H.nx, lg⟩ u us := hu
  generalize (⟨H.t, H.nx, lg⟩ : Hp) = H at hu ⊢
  refine C1.body (E := E2) (nt := 23) (res := [.cell 4 3, .cell 5 28]) Tryz.func109 rfl rfl rfl rfl rfl fun tm hargs => ?_
  have h0 := hargs 0 _ rfl
  have h1 := hargs 1 _ rfl
  clear hargs
  refine qG (qA E2_P (qA h0 (qA h1 (qA zr_errno zr_int)))) fun K hK => ?_
  refine hK _ _ ?_
  clear hK K
  have hid0 : ∀ id ∈ (AV.one u).ids, id < H.nx := hu.lt
  refine R1.gen (fun A1 H1 => Gr H H1 ∧ H.nx + 3 < H1.nx ∧ H1.get H.nx = some (.arr [.o (.str n), u] 68 0 0) ∧ H1.get (H.nx + 1) = some (.arr [.o (.str s)] 9 0 0) ∧ H1.get (H.nx + 1 + 1) = some (.arr [.i .i64 0] 3 0 0) ∧ H1.get (H.nx + 1 + 1 + 1) = some (.arr [.i .i64 0] 28 0 0) ∧ slot A1.tm 2 = .one (.o (.ptr H.nx 0 0 2)) ∧ slot A1.tm 3 = .one (.o (.ptr (H.nx + 1) 0 0 1)) ∧ slot A1.tm 4 = .one (.o (.ptr (H.nx + 1 + 1) 0 0 1)) ∧ slot A1.tm 5 = .one (.o (.ptr (H.nx + 1 + 1 + 1) 0 0 1)) ∧ A1.nt = 23 ∧ A1.dfr = [])
    ⟨((((Fr.refl _).new _).new _).new _).new _, ?_⟩ ?_
  · refine qT ?_
    rw [get_newL (by show H.nx < H.nx + 1 + 1 + 1; omega), get_newL (by show H.nx < H.nx + 1 + 1; omega), get_newL (by show H.nx < H.nx + 1; omega)]
    exact get_newE rfl
  rintro A1 H1 ⟨g1, n1, r1, r2, r4, r5, t2, t3, t4, t5, hnt, hdf⟩
  clear h0 h1 tm
  have hu1 : SlP H1 u us := hu.gr g1
  obtain ⟨c1, hc1⟩ : ∃ c, c = H.nx := ⟨_, rfl⟩
  obtain ⟨c2, hc2⟩ : ∃ c, c = H.nx + 1 := ⟨_, rfl⟩
  obtain ⟨c4, hc4⟩ : ∃ c, c = H.nx + 1 + 1 := ⟨_, rfl⟩
  obtain ⟨c5, hc5⟩ : ∃ c, c = H.nx + 1 + 1 + 1 := ⟨_, rfl⟩
  rw [← hc5] at r5 t5
  rw [← hc4] at r4 t4
  rw [← hc2] at r2 t3
  rw [← hc1] at r1 t2 hid0
  have o12 : c1 < c2 := by omega
  have o24 : c2 < c4 := by omega
  have o45 : c4 < c5 := by omega
  have o5 : c5 < H1.nx := by omega
  have hcc : H.nx ≤ c1 := by omega
  clear hc5 hc4 hc2 n1
  have l1 : c1 < H1.nx := by omega
  have l2 : c2 < H1.nx := by omega
  have l4 : c4 < H1.nx := by omega
  have fin : ∀ (e : AExit) (A : AAct) (H2 H3 : Hp) (v w : Int), (e = .normal ∨ e = .ret) → closeAll H2 A.dfr = some H3 → Gr H H3 → slot A.tm 4 = .one (.o (.ptr c4 0 0 1)) → slot A.tm 5 = .one (.o (.ptr c5 0 0 1)) → H3.get c4 = some (.arr [.i .i64 v] 3 0 0) → H3.get c5 = some (.arr [.i .i64 w] 28 0 0) → (v, w) = valL n us s →
      ∃ w H4, callEnd E2 [.cell 4 3, .cell 5 28] (e, A, H2) = .ok [(w, H4)] ∧ Gr H H4 ∧ ∀ _ : List Nat, w = .tup [(false, [.i .i64 (valL n us s).1]), (false, [.i .i64 (valL n us s).2])] := fun e A H2 H3 v w he hd hg hs hs' hr hr' hv =>
    ⟨_, H3, callEnd_two_cells (c := .i .i64 v) (c' := .i .i64 w) ld_int ld_errno he hd hs hs' (by rw [hr]; exact rowOf_arr (Nat.le_refl _) (Nat.le_refl _)) (by rw [hr']; exact rowOf_arr (Nat.le_refl _) (Nat.le_refl _)), hg, fun _ => by rw [← hv]⟩
  generalize hr0 : valL n us s = r0 at fin
  unfold valL at hr0
  repeat refine R1.s_assoc ?_
  refine qG (qA E2_P (qA t2 (qA hnt (qA r1 (qA l1 (qA ld_lad bd_check)))))) fun K hK => ?_
  refine WE.con (check_con H1 n u us hu1) fun v H2 g2 hv => ?_
  subst hv
  have r1 : H2.get c1 = some (.arr [.o (.str n), u] 68 0 0) := by rw [g2.get _ l1 not_false]; exact r1
  have r2 : H2.get c2 = some (.arr [.o (.str s)] 9 0 0) := by rw [g2.get _ l2 not_false]; exact r2
  have r4 : H2.get c4 = some (.arr [.i .i64 0] 3 0 0) := by rw [g2.get _ l4 not_false]; exact r4
  have r5 : H2.get c5 = some (.arr [.i .i64 0] 28 0 0) := by rw [g2.get _ o5 not_false]; exact r5
  have o5 : c5 < H2.nx := Nat.lt_of_lt_of_le o5 g2.nx
  have l1 : c1 < H2.nx := by omega
  have l2 : c2 < H2.nx := by omega
  have l4 : c4 < H2.nx := by omega
  have hu2 := hu1.gr g2
  have g2 := g1.gr g2
  have hlen := @chkLad_len n us
  refine qS (qA E2_P hnt) ?_
  refine hK _ _ ?_
  clear hK K
  generalize chkLad n us = e0 at hr0 hlen ⊢
  by_cases he0 : e0 = 0
  case neg =>
    have ce : (e0 != 0) = true := bne_iff_ne.2 he0
    rw [if_pos he0] at hr0
    refine qW (qA E2_P (qA hnt ce)) ?_
    refine qE fun Kx Ky hx hy => ?_
    refine iteI (fun _ => hx ?_) (fun h => absurd ce (by simpa using h))
    clear hx hy Kx Ky
    repeat' first | refine R1.ret ?_ | refine R1.exit ?_ | refine R1.skip ?_ | refine R1.s_ret ?_ | refine R1.s_exit ?_ | refine R1.s_assoc ?_ | refine R1.s_skip ?_ | refine R1.s_scope ?_ | ((first | refine R1.e_rg fun K hK => ?_ | refine R1.s_rg fun K hK => ?_ | refine R1.e_sq (by kernel_rfl) fun K hK => ?_ | refine R1.s_sq (by kernel_rfl) fun K hK => ?_); simp only [qB, slotOk, Nat.reduceLT, E2_P, t4, t5, hnt, sz_int, sz_errno, r4, r5, l4, o5, get_modN (Nat.ne_of_gt o45)]; refine hK _ _ ?_; clear hK K)
    exact fin .ret _ _ _ 0 e0 (.inr rfl) (by simp only [putD_dfr, hdf]; rfl) ((g2.mod _ (.inl (by omega))).mod _ (.inl (by omega))) (by simp only [slot_put, Nat.reduceEqDiff, reduceIte, t4]) (by simp only [slot_put, Nat.reduceEqDiff, reduceIte, t5]) (by rw [get_modN (by omega)]; exact get_modE rfl) (get_modE rfl) hr0
  rw [if_neg (fun h => h he0)] at hr0
  have hlen := hlen he0
  refine qW (qA E2_P (qA hnt he0)) ?_
  refine qY ?_
  refine R1.s_skip ?_
  repeat refine R1.s_assoc ?_
  refine qG (qA E2_P (qA t2 (qA hnt (qA r1 (qA l1 (qA ld_lad bd_units)))))) fun K hK => ?_
  refine WE.con (units_con H2 (.o (.str n)) u hu2.lt) fun v H5 g5 ⟨hv, hil, hln⟩ => ?_
  subst hv
  refine qS (qA E2_P hnt) ?_
  refine hK _ _ ?_
  clear hK K
  refine R1.genA (fun A4 => slot A4.tm 3 = .one (.o (.ptr c2 0 0 1)) ∧ slot A4.tm 4 = .one (.o (.ptr c4 0 0 1)) ∧ slot A4.tm 5 = .one (.o (.ptr c5 0 0 1)) ∧ slot A4.tm 15 = .one (.o (.clo 147 [(H2.nx, 0, 0, 2)])) ∧ A4.nt = 23 ∧ A4.dfr = [])
    ⟨by simp only [slot_put, Nat.reduceEqDiff, reduceIte, t3], by simp only [slot_put, Nat.reduceEqDiff, reduceIte, t4], by simp only [slot_put, Nat.reduceEqDiff, reduceIte, t5], by simp only [slot_put, Nat.reduceEqDiff, reduceIte], by simp only [putD_nt, hnt], by simp only [putD_dfr, hdf]⟩ ?_
  clear t2 t3 t4 t5 hnt hdf A1
  rintro A ⟨t3, t4, t5, t15, hnt, hdf⟩
  have gg : Gr H H5 := g2.gr g5
  have r2 : H5.get c2 = some (.arr [.o (.str s)] 9 0 0) := by rw [g5.get _ l2 not_false]; exact r2
  have r4 : H5.get c4 = some (.arr [.i .i64 0] 3 0 0) := by rw [g5.get _ l4 not_false]; exact r4
  have r5 : H5.get c5 = some (.arr [.i .i64 0] 28 0 0) := by rw [g5.get _ o5 not_false]; exact r5
  have hu5 : SlP H5 u us := hu2.gr g5
  obtain ⟨il, hild⟩ : ∃ i, i = H2.nx := ⟨_, rfl⟩
  rw [← hild] at hil hln t15 o5 l1 l2 l4
  clear hild
  generalize hys : yv 1 us = ys at hr0
  have hyl : ys.length ≤ us.length := by rw [← hys]; exact yv_len 1 us
  refine R1.s_block fun K k1 k2 k3 k4 => ?_
  refine R1.range (σ := Unit) (g := 147) (caps := [(il, 0, 0, 2)]) (n := ys.length) (ar := yA ys) (D := DL il u) (by simp only [evTmp, t15]) bd_units1 (fun _ => rfl)
    (units1_it H5 il (.o (.str n)) u us hln hil hu5 (by omega) ys hys) (fun k hk => by
      rcases hk with h | h
      · omega
      · exact Nat.lt_trans (hid0 k h) (by omega)) (by rw [hnt]; rfl) (fun i _ => yA_len ys i)
    (fun i _ H6 => H6.get c2 = some (.arr [.o (.str s)] 9 0 0) ∧ H6.get c4 = some (.arr [.i .i64 0] 3 0 0) ∧ H6.get c5 = some (.arr [.i .i64 0] 28 0 0) ∧ valM (ys.drop i) s = r0 ∧ H5.nx ≤ H6.nx)
    (fun e _ H6 => e = .ret ∧ H6.get c4 = some (.arr [.i .i64 r0.1] 3 0 0) ∧ H6.get c5 = some (.arr [.i .i64 r0.2] 28 0 0) ∧ H5.nx ≤ H6.nx)
    (fun _ k => k = c4 ∨ k = c5) ?_ ?_ ?_ () ?_ ?_ ?_ ?_
  · rintro i _ H6 H7 ⟨a1, a2, a3, a4, a5⟩ hs
    exact ⟨by rw [hs.get _ (by omega) (by omega)]; exact a1, by rw [hs.get _ (by omega) (by omega)]; exact a2, by rw [hs.get _ (by omega) (by omega)]; exact a3, a4, Nat.le_trans a5 hs.nx⟩
  · rintro e _ H6 H7 ⟨a1, a2, a3, a5⟩ hs
    exact ⟨a1, by rw [hs.get _ (by omega) (by omega)]; exact a2, by rw [hs.get _ (by omega) (by omega)]; exact a3, Nat.le_trans a5 hs.nx⟩
  · rintro i _ H6 k ⟨a1, a2, a3, a4, a5⟩ hk
    have : k < H5.nx ∧ c1 < k ∧ k < il := by rcases hk with rfl | rfl <;> omega
    refine ⟨by omega, by omega, by omega, fun h => ?_⟩
    rcases h with h | h
    · omega
    · have := hid0 k h; omega
  · intro H6 g6 n6
    exact ⟨by rw [g6.get _ (by omega) not_false]; exact r2, by rw [g6.get _ (by omega) not_false]; exact r4, by rw [g6.get _ (by omega) not_false]; exact r5, by rw [List.drop_zero]; exact hr0, g6.nx⟩
  · rintro i _ H6 hi ⟨a1, a2, a3, a4, a5⟩ n6
    have hy : ys[i]? = some ys[i] := List.getElem?_eq_getElem hi
    have hdr : ys.drop i = ys[i] :: ys.drop (i + 1) := List.drop_eq_getElem_cons hi
    generalize ys[i] = y at hy hdr
    rw [hdr, valM] at a4
    rw [yA_at hy]
    obtain ⟨x, yval⟩ := y
    refine R1.genA (fun A7 => slot A7.tm 3 = .one (.o (.ptr c2 0 0 1)) ∧ slot A7.tm 4 = .one (.o (.ptr c4 0 0 1)) ∧ slot A7.tm 5 = .one (.o (.ptr c5 0 0 1)) ∧ slot A7.tm 16 = .agg (prC x) ∧ slot A7.tm 17 = .one (.i .i64 yval) ∧ A7.nt = 23 ∧ A7.dfr = []) ⟨?_, ?_, ?_, ?_, ?_, hnt, rfl⟩ ?_
    · show slot ((A.tm.set 16 _).set 17 _) 3 = _
      simp only [slot_set, Nat.reduceEqDiff, reduceIte, t3]
    · show slot ((A.tm.set 16 _).set 17 _) 4 = _
      simp only [slot_set, Nat.reduceEqDiff, reduceIte, t4]
    · show slot ((A.tm.set 16 _).set 17 _) 5 = _
      simp only [slot_set, Nat.reduceEqDiff, reduceIte, t5]
    · show slot ((A.tm.set 16 _).set 17 _) 16 = _
      simp only [slot_set, Nat.reduceEqDiff, reduceIte]
    · show slot ((A.tm.set 16 _).set 17 _) 17 = _
      simp only [slot_set, Nat.reduceEqDiff, reduceIte]
    rintro A7 ⟨u3, u4, u5, u16, u17, unt, udf⟩
    refine qW (qA E2_P (qA u16 (qA u17 (qA unt (qA zr_unit (qA sz_unit prC_e)))))) ?_
    refine ⟨rfl, ((Fr.refl _).new _).mod _ (.inl (Nat.le_refl _)), fun H8 n8 s8 => ?_⟩
    have gu : H8.get H6.nx = some (.arr (prC x) 137 0 0) := by
      rw [s8.get _ (by show H6.nx < H6.nx + 1; omega) (by omega)]
      exact get_modE rfl
    have keep : ∀ k, k < H5.nx → H8.get k = H6.get k := fun k hk => by
      rw [s8.get _ (by show k < H6.nx + 1; omega) (by omega), get_modN (by omega), get_newL (by omega)]
    have n8' : H8.nx = H6.nx + 1 := n8
    have b2 : H8.get c2 = some (.arr [.o (.str s)] 9 0 0) := (keep c2 (by omega)).trans a1
    have b4 : H8.get c4 = some (.arr [.i .i64 0] 3 0 0) := (keep c4 (by omega)).trans a2
    have b5 : H8.get c5 = some (.arr [.i .i64 0] 28 0 0) := (keep c5 (by omega)).trans a3
    have lu : H6.nx < H8.nx := by omega
    have m2 : c2 < H8.nx := by omega
    have m4 : c4 < H8.nx := by omega
    have m5 : c5 < H8.nx := by omega
    refine R1.e_block fun K2 p1 p2 p3 p4 => ?_
    repeat refine R1.s_assoc ?_
    by_cases hxs : x.1 = s
    · rw [if_pos hxs] at a4
      have cs : (x.1 == s) = true := beq_iff_eq.2 hxs
      refine qW (qA E2_P (qA u3 (qA unt (qA gu (qA lu (qA b2 (qA m2 (qA fd_unit_0 (qA ld_str prC_e))))))))) ?_
      refine qE fun Kx Ky hx hy => ?_
      rw [lEq_eq, cs]
      refine hx ?_
      clear hx hy Kx Ky
      repeat' first | refine R1.ret ?_ | refine R1.exit ?_ | refine R1.skip ?_ | refine R1.s_ret ?_ | refine R1.s_exit ?_ | refine R1.s_assoc ?_ | refine R1.s_skip ?_ | refine R1.s_scope ?_ | ((first | refine R1.e_rg fun K hK => ?_ | refine R1.s_rg fun K hK => ?_ | refine R1.e_sq (by kernel_rfl) fun K hK => ?_ | refine R1.s_sq (by kernel_rfl) fun K hK => ?_); simp only [qB, slotOk, Nat.reduceLT, E2_P, u4, u5, unt, sz_int, sz_errno, b4, b5, m4, m5, get_modN (Nat.ne_of_gt o45)]; refine hK _ _ ?_; clear hK K)
      refine p4 _ _ ⟨by simp only [putD_dfr, udf], ((Fr.refl _).mod _ (.inr (.inl (.inl rfl)))).mod _ (.inr (.inl (.inr rfl))), (), fun h => (by cases h), fun _ => ⟨rfl, ?_, ?_, by show H5.nx ≤ H8.nx; omega⟩, fun k hk => .inl hk⟩
      · rw [get_modN (by omega), ← a4]; exact get_modE rfl
      · rw [← a4]; exact get_modE rfl
    · rw [if_neg hxs] at a4
      have cs : (x.1 == s) = false := beq_false_of_ne hxs
      refine qW (qA E2_P (qA u3 (qA unt (qA gu (qA lu (qA b2 (qA m2 (qA fd_unit_0 (qA ld_str prC_e))))))))) ?_
      refine qE fun Kx Ky hx hy => ?_
      rw [lEq_eq, cs]
      refine hy ?_
      clear hx hy Kx Ky
      refine qV ?_
      refine p1 _ _ ⟨by simp only [putD_dfr, udf], Fr.refl _, (), fun _ => ⟨b2, b4, b5, a4, by omega⟩, fun h => absurd rfl h, fun k hk => .inl hk⟩
  · rintro s' H6 ⟨a1, a2, a3, a4, a5⟩ n6 hd6 hf6 hfp
    have g6 : Gr H H6 := gg.then hf6 fun k hk => .inl (by rcases hk with rfl | rfl <;> omega)
    have m4 : c4 < H6.nx := by omega
    have m5 : c5 < H6.nx := by omega
    rw [List.drop_length, valM] at a4
    refine k1 _ _ ?_
    refine R1.genA (fun A7 => slot A7.tm 4 = .one (.o (.ptr c4 0 0 1)) ∧ slot A7.tm 5 = .one (.o (.ptr c5 0 0 1)) ∧ A7.nt = 23 ∧ A7.dfr = [H5.nx]) ⟨t4, t5, hnt, by show H5.nx :: A.dfr = _; rw [hdf]⟩ ?_
    rintro A7 ⟨u4, u5, unt, udf⟩
    repeat' first | refine R1.ret ?_ | refine R1.exit ?_ | refine R1.skip ?_ | refine R1.s_ret ?_ | refine R1.s_exit ?_ | refine R1.s_assoc ?_ | refine R1.s_skip ?_ | refine R1.s_scope ?_ | ((first | refine R1.e_rg fun K hK => ?_ | refine R1.s_rg fun K hK => ?_ | refine R1.e_sq (by kernel_rfl) fun K hK => ?_ | refine R1.s_sq (by kernel_rfl) fun K hK => ?_); simp only [qB, slotOk, E2_P, u4, u5, sz_int, sz_errno, a2, a3, m4, m5, get_modN (Nat.ne_of_gt o45)]; refine hK _ _ ?_; clear hK K)
    refine fin .ret _ _ _ 0 11 (.inr rfl) (by simp only [udf]; exact closeAll_one (by rw [get_modN (by omega), get_modN (by omega)]; exact hd6)) (((g6.mod _ (.inl (by omega))).mod _ (.inl (by omega))).mod _ (.inl (by have := gg.nx; omega))) (by simp only [u4]) (by simp only [u5]) (by rw [get_modN (by omega), get_modN (by omega)]; exact get_modE rfl) (by rw [get_modN (by omega)]; exact get_modE rfl) a4
  · rintro e s' H6 hne ⟨rfl, a2, a3, a5⟩ n6 hd6 hf6 hfp
    have g6 : Gr H H6 := gg.then hf6 fun k hk => .inl (by rcases hk with rfl | rfl <;> omega)
    exact k4 _ _ (fin .ret _ _ _ _ _ (.inr rfl) (by show closeAll H6 (H5.nx :: A.dfr) = _; rw [hdf]; exact closeAll_one hd6) (g6.mod _ (.inl (by have := gg.nx; omega))) t4 t5 (by rw [get_modN (by omega)]; exact a2) (by rw [get_modN (by omega)]; exact a3) rfl)
end Go.Proofs.YtekoajibckipkaaGreat
namespace Go.Proofs.YtekoajibckipkaaGreat
open Go Go.Eng
theorem chkLad_ok {n : List UInt8} {us : List Pr} (h : chkLad n us = 0) : us.length ≤ 12 ∧ (yv 1 us).length = us.length ∧ ∀ x ∈ us, 1 ≤ x.2 ∧ x.2 ≤ 60 := by
  have hl := chkLad_len h
  unfold chkLad at h
  by_cases hk : ladOK n us = true
  · unfold ladOK at hk
    simp only [Bool.and_eq_true, decide_eq_true_eq] at hk
    have hy := hk.1.2
    exact ⟨hl, hy, ((yv_full 1 us).1 hy).1⟩
  · rw [if_neg hk] at h; cases h
theorem vals_yv : ∀ (v : Int) (us : List Pr), (yv v us).length = us.length → valsU v us = some ((yv v us).map (·.2))
  | _, [], _ => rfl
  | v, x :: us, h => by
    unfold yv at h ⊢
    unfold valsU
    by_cases hb : x.2 < 1 ∨ 60 < x.2 ∨ 1099511627776 < v * x.2
    · rw [if_pos hb] at h; simp at h
    · rw [if_neg hb] at h ⊢
      rw [if_neg (fun h => hb (.inr (.inr h))), vals_yv _ us (by simpa using h)]
      rfl
theorem valM_idx : ∀ (k : Nat) (v : Int) (us : List Pr) (s : List UInt8), (yv v us).length = us.length →
    (idxU k us s < 0 ∧ valM (yv v us) s = (0, 11)) ∨ ∃ j y, j < us.length ∧ idxU k us s = ((k + j : Nat) : Int) ∧ (yv v us)[j]? = some y ∧ valM (yv v us) s = (y.2, 0)
  | _, _, [], _, _ => .inl ⟨by unfold idxU; omega, rfl⟩
  | k, v, x :: us, s, h => by
    unfold yv at h ⊢
    by_cases hb : x.2 < 1 ∨ 60 < x.2 ∨ 1099511627776 < v * x.2
    · rw [if_pos hb] at h; simp at h
    · rw [if_neg hb] at h ⊢
      rw [valM, idxU]
      by_cases hs : x.1 = s
      · right
        refine ⟨0, (x, v * x.2), by simp, ?_, rfl, ?_⟩
        · rw [if_pos hs]; rfl
        · rw [if_pos hs]
      · rw [if_neg hs, if_neg hs]
        rcases valM_idx (k + 1) (v * x.2) us s (by simpa using h) with ⟨h1, h2⟩ | ⟨j, y, h0, h1, h2, h3⟩
        · exact .inl ⟨h1, h2⟩
        · refine .inr ⟨j + 1, y, by rw [List.length_cons]; omega, ?_, by rw [List.getElem?_cons_succ]; exact h2, h3⟩
          rw [h1]; omega
theorem SlI.at {H : Hp} {v : AC} {l : List Int} (h : SlI H v l) {j : Nat} {z : Int} (hz : l[j]? = some z) : ∃ id g off cells, v = .o (.sl id g off l.length 1) ∧ id < H.nx ∧ rowOf (H.get id) g = some cells ∧ (cells.drop (off + j * 1)).headD (.b false) = .i .i64 z ∧ off + j * 1 + 1 ≤ cells.length ∧ j < l.length := by
  have hj := (List.getElem?_eq_some_iff.1 hz).1
  obtain ⟨id, g, off, h1, h2, hr⟩ := SlC.pos h (by omega)
  have hr' := hr
  obtain ⟨cells, h3, h6, h7⟩ := hr
  obtain ⟨cells', k3, k6, k7⟩ := Rd.at (c := intC) intC_len hr' hz
  rw [h3] at k3
  cases k3
  refine ⟨id, g, off, cells, h1, h2, h3, ?_, k6, hj⟩
  cases hd : cells.drop (off + j * 1) with
  | nil => have := congrArg List.length hd; simp at this; omega
  | cons a r =>
    rw [hd] at k7
    have := (List.cons.inj k7).1
    rw [this]; rfl
end Go.Proofs.YtekoajibckipkaaGreat
namespace Go.Proofs.YtekoajibckipkaaGreat
open Go Go.Eng
theorem SlI.gr {H H' : Hp} {v : AC} {l : List Int} (h : SlI H v l) (hg : Gr H H') : SlI H' v l := SlC.gr h hg
theorem SlI.len {H : Hp} {v : AC} {l : List Int} (h : SlI H v l) : doLen H 1 (.one v) = .val (.one (.i .i64 (l.length : Int))) H := SlC.len h
theorem SlI.lt {H : Hp} {v : AC} {l : List Int} (h : SlI H v l) : ltV (.one v) H.nx := ltV_slc h
theorem SlI.nil {H : Hp} : SlI H (.o .nilS) [] := ⟨by simp, .inl ⟨rfl, rfl⟩⟩
theorem SlI.open {H : Hp} {v : AC} {l : List Int} (h : SlI H v l) (hn : 0 < l.length) : ∃ id g off cells, v = .o (.sl id g off l.length 1) ∧ id < H.nx ∧ rowOf (H.get id) g = some cells ∧ ∀ (i : Nat) (x : Int), l[i]? = some x → (cells.drop (off + i * 1)).headD (.b false) = .i .i64 x ∧ off + i * 1 + 1 ≤ cells.length := by
  obtain ⟨id, g, off, h1, h2, hr⟩ := SlC.pos h hn
  have hr' := hr
  obtain ⟨cells, h3, h6, h7⟩ := hr
  refine ⟨id, g, off, cells, h1, h2, h3, fun i x hx => ?_⟩
  obtain ⟨cells', k3, k6, k7⟩ := Rd.at (c := intC) intC_len hr' hx
  rw [h3] at k3
  cases k3
  refine ⟨?_, k6⟩
  cases hd : cells.drop (off + i * 1) with
  | nil => have := congrArg List.length hd; simp at this; omega
  | cons a r =>
    rw [hd] at k7
    have := (List.cons.inj k7).1
    rw [this]; rfl
end Go.Proofs.YtekoajibckipkaaGreat
namespace Go.Proofs.YtekoajibckipkaaGreat
open Go Go.Eng
abbrev Cl := Int × List UInt8 × List UInt8 × Nm
def ClR (H : Hp) (c : List AC) (x : Cl) : Prop := ∃ p q, c = [.i .i64 x.1, .o (.str x.2.1), .o (.str x.2.2.1), p, q] ∧ SlGp H p x.2.2.2.1 ∧ SlGp H q x.2.2.2.2
theorem ClR.gr {H H' : Hp} {c : List AC} {x : Cl} (h : ClR H c x) (hg : Gr H H') : ClR H' c x := let ⟨p, q, h1, h2, h3⟩ := h; ⟨p, q, h1, h2.gr hg, h3.gr hg⟩
def SlCl (H : Hp) (v : AC) (l : List Cl) : Prop := SlR ClR 5 H v l
theorem SlCl.gr {H H' : Hp} {v : AC} {l : List Cl} (h : SlCl H v l) (hg : Gr H H') : SlCl H' v l := SlR.of_get h hg.nx (fun i hi => hg.get i hi not_false) fun _ _ h => h.gr hg
theorem SlCl.len {H : Hp} {v : AC} {l : List Cl} (h : SlCl H v l) : doLen H 1 (.one v) = .val (.one (.i .i64 (l.length : Int))) H := SlR.len h
theorem SlCl.lt {H : Hp} {v : AC} {l : List Cl} (h : SlCl H v l) : ltV (.one v) H.nx := SlR.lt h
structure ClAt (H : Hp) (cells : List AC) (o : Nat) (x : Cl) (p q : AC) : Prop where
  of1 : SlGp H p x.2.2.2.1
  of2 : SlGp H q x.2.2.2.2
  all : (cells.drop o).take 5 = [.i .i64 x.1, .o (.str x.2.1), .o (.str x.2.2.1), p, q]
  le : o + 5 ≤ cells.length
  le1 : o + 1 ≤ cells.length
  le2 : o + 1 + 1 ≤ cells.length
  le3 : o + 2 + 1 ≤ cells.length
  le4 : o + 3 + 2 ≤ cells.length
  f1 : (cells.drop o).headD (.b false) = .i .i64 x.1
  f2 : (cells.drop (o + 1)).headD (.b false) = .o (.str x.2.1)
  f3 : (cells.drop (o + 2)).headD (.b false) = .o (.str x.2.2.1)
  f4 : (cells.drop (o + 3)).take 2 = [p, q]
theorem drop5 {cells : List AC} {o : Nat} {a b c d e : AC} (h : (cells.drop o).take 5 = [a, b, c, d, e]) : (cells.drop o).headD (.b false) = a ∧ (cells.drop (o + 1)).headD (.b false) = b ∧ (cells.drop (o + 2)).headD (.b false) = c ∧ (cells.drop (o + 3)).take 2 = [d, e] := by
  rw [← List.drop_drop, ← List.drop_drop, ← List.drop_drop]
  match hd : cells.drop o, h with
  | x0 :: x1 :: x2 :: x3 :: x4 :: r, h =>
    simp only [List.take_succ_cons, List.take_zero, List.cons.injEq, and_true] at h
    obtain ⟨rfl, rfl, rfl, rfl, rfl⟩ := h
    exact ⟨rfl, rfl, rfl, rfl⟩
theorem SlCl.open {H : Hp} {v : AC} {l : List Cl} (h : SlCl H v l) (hn : 0 < l.length) : ∃ id g off cells, v = .o (.sl id g off l.length 5) ∧ id < H.nx ∧ rowOf (H.get id) g = some cells ∧ ∀ (i : Nat) (x : Cl), l[i]? = some x → ∃ p q, ClAt H cells (off + i * 5) x p q := by
  obtain ⟨id, g, off, cells, h1, h2, h3, h4⟩ := SlR.open h hn
  refine ⟨id, g, off, cells, h1, h2, h3, fun i x hx => ?_⟩
  obtain ⟨h5, c, h6, h7, p, q, rfl, h8, h9⟩ := h4 i x hx
  obtain ⟨d1, d2, d3, d4⟩ := drop5 h6
  exact ⟨p, q, h8, h9, h6, h5, by omega, by omega, by omega, by omega, d1, d2, d3, d4⟩
abbrev Rl := Int × List Int
def RlR (H : Hp) (c : List AC) (x : Rl) : Prop := ∃ u, c = [.i .i64 x.1, u] ∧ SlI H u x.2
theorem RlR.gr {H H' : Hp} {c : List AC} {x : Rl} (h : RlR H c x) (hg : Gr H H') : RlR H' c x := let ⟨u, h1, h2⟩ := h; ⟨u, h1, h2.gr hg⟩
def SlRl (H : Hp) (v : AC) (l : List Rl) : Prop := SlR RlR 2 H v l
theorem SlRl.gr {H H' : Hp} {v : AC} {l : List Rl} (h : SlRl H v l) (hg : Gr H H') : SlRl H' v l := SlR.of_get h hg.nx (fun i hi => hg.get i hi not_false) fun _ _ h => h.gr hg
theorem SlRl.len {H : Hp} {v : AC} {l : List Rl} (h : SlRl H v l) : doLen H 1 (.one v) = .val (.one (.i .i64 (l.length : Int))) H := SlR.len h
theorem SlRl.lt {H : Hp} {v : AC} {l : List Rl} (h : SlRl H v l) : ltV (.one v) H.nx := SlR.lt h
structure RlAt (H : Hp) (cells : List AC) (o : Nat) (x : Rl) (u : AC) : Prop where
  of : SlI H u x.2
  all : (cells.drop o).take 2 = [.i .i64 x.1, u]
  le : o + 2 ≤ cells.length
  le1 : o + 1 ≤ cells.length
  le2 : o + 1 + 1 ≤ cells.length
  f1 : (cells.drop o).headD (.b false) = .i .i64 x.1
  f2 : (cells.drop (o + 1)).headD (.b false) = u
theorem drop2 {cells : List AC} {o : Nat} {a b : AC} (h : (cells.drop o).take 2 = [a, b]) : (cells.drop o).headD (.b false) = a ∧ (cells.drop (o + 1)).headD (.b false) = b := by
  rw [← List.drop_drop]
  match hd : cells.drop o, h with
  | x0 :: x1 :: r, h =>
    simp only [List.take_succ_cons, List.take_zero, List.cons.injEq, and_true] at h
    obtain ⟨rfl, rfl⟩ := h
    exact ⟨rfl, rfl⟩
theorem SlRl.open {H : Hp} {v : AC} {l : List Rl} (h : SlRl H v l) (hn : 0 < l.length) : ∃ id g off cells, v = .o (.sl id g off l.length 2) ∧ id < H.nx ∧ rowOf (H.get id) g = some cells ∧ ∀ (i : Nat) (x : Rl), l[i]? = some x → ∃ u, RlAt H cells (off + i * 2) x u := by
  obtain ⟨id, g, off, cells, h1, h2, h3, h4⟩ := SlR.open h hn
  refine ⟨id, g, off, cells, h1, h2, h3, fun i x hx => ?_⟩
  obtain ⟨h5, c, h6, h7, u, rfl, h8⟩ := h4 i x hx
  obtain ⟨d1, d2⟩ := drop2 h6
  exact ⟨u, h8, h6, h5, by omega, by omega, d1, d2⟩
end Go.Proofs.YtekoajibckipkaaGreat
namespace Go.Proofs.YtekoajibckipkaaGreat
open Go Go.Eng
theorem lEq_self (s : List UInt8) : lEq s s = true := by rw [lEq_eq, beq_self_eq_true]
end Go.Proofs.YtekoajibckipkaaGreat
namespace Go.Proofs.YtekoajibckipkaaGreat
open Go Go.Eng
def ladOf (o : Option (List Lad)) (s : List UInt8) : Lad := match o with
  | none => ([], [])
  | some ls => (idxN 0 ls s).elim ([], []) fun i => ls.getD i ([], [])
theorem LadA.of {H : Hp} {c : List AC} {o : Option (List Lad)} {s : List UInt8} (h : LadA H c o s) : ∃ u, c = [.o (.str (ladOf o s).1), u] ∧ SlP H u (ladOf o s).2 := by
  obtain ⟨h1, h2⟩ := h
  cases o with
  | none => exact ⟨_, h1 (by rw [ladE_none]; decide), SlP.nil⟩
  | some ls =>
    rw [ladE_some] at h1
    cases hi : idxN 0 ls s with
    | none =>
      rw [hi] at h1
      have e : ladOf (some ls) s = ([], []) := by unfold ladOf; simp only [hi, Option.elim_none]
      rw [e]
      exact ⟨_, h1 (by decide), SlP.nil⟩
    | some i =>
      obtain ⟨x, hx, _⟩ := idx_at hi
      have e : ladOf (some ls) s = x := by unfold ladOf; simp only [hi, Option.elim_some]; rw [List.getD_eq_getElem?_getD, hx]; rfl
      rw [e]
      exact h2 ls i x rfl hi hx
end Go.Proofs.YtekoajibckipkaaGreat
namespace Go.Proofs.YtekoajibckipkaaGreat
open Go Go.Eng
theorem ld_errnos : loadT Tryz.prog 238 = some (false, 1) := by kernel_rfl
theorem sz_errnos : sizeT Tryz.prog 238 = some 1 := by kernel_rfl
theorem zr_errnos : (zeroT Tryz.prog 238).map (fun z => (ofValue z).cells) = some [.o .nilS] := by kernel_rfl
theorem el_errnos : elemT Tryz.prog 238 = some (28, 1) := by kernel_rfl
theorem ln_errnos : lenT Tryz.prog 238 = some 1 := by kernel_rfl
theorem ad_errnos : addrT Tryz.prog 238 = 1 := by kernel_rfl
theorem ld_slip : loadT Tryz.prog 75 = some (true, 3) := by kernel_rfl
theorem sz_slip : sizeT Tryz.prog 75 = some 3 := by kernel_rfl
theorem by_slip : bytesT Tryz.prog 75 = some 32 := by kernel_rfl
theorem zr_slip : (zeroT Tryz.prog 75).map (fun z => (ofValue z).cells) = some [.i .i64 0, .o (.str []), .i .i64 0] := by kernel_rfl
theorem zx_slip : ∃ z, zeroT Tryz.prog 75 = some z ∧ (ofValue z).cells.length = 3 := by
  have h := zr_slip
  cases hz : zeroT Tryz.prog 75 with
  | none => rw [hz] at h; cases h
  | some z =>
    rw [hz] at h
    exact ⟨z, rfl, by have : (ofValue z).cells = _ := Option.some.inj h; rw [this]; rfl⟩
theorem ad_slip : addrT Tryz.prog 75 = 4 := by kernel_rfl
theorem fd_slip_0 : fieldT Tryz.prog 75 0 = some (0, 3, 1) := by kernel_rfl
theorem fd_slip_1 : fieldT Tryz.prog 75 1 = some (1, 9, 1) := by kernel_rfl
theorem fd_slip_2 : fieldT Tryz.prog 75 2 = some (2, 3, 1) := by kernel_rfl
def pl_slip : Nat → Option (Nat × Nat) := fun i => (#[(0, 1), (1, 1), (2, 1)] : Array (Nat × Nat))[i]?
theorem pt_slip : placeT Tryz.prog 75 = some pl_slip := by kernel_rfl
theorem pl_slip_0 : pl_slip 0 = some (0, 1) := rfl
theorem pl_slip_1 : pl_slip 1 = some (1, 1) := rfl
theorem pl_slip_2 : pl_slip 2 = some (2, 1) := rfl
theorem eq_slip : eqK Tryz.prog 75 = some [.i, .s, .i] := by kernel_rfl
theorem ld_fixes : loadT Tryz.prog 58 = some (false, 1) := by kernel_rfl
theorem sz_fixes : sizeT Tryz.prog 58 = some 1 := by kernel_rfl
theorem zr_fixes : (zeroT Tryz.prog 58).map (fun z => (ofValue z).cells) = some [.o .nilS] := by kernel_rfl
theorem el_fixes : elemT Tryz.prog 58 = some (112, 4) := by kernel_rfl
theorem ln_fixes : lenT Tryz.prog 58 = some 1 := by kernel_rfl
theorem ad_fixes : addrT Tryz.prog 58 = 1 := by kernel_rfl
theorem ld_fix : loadT Tryz.prog 112 = some (true, 4) := by kernel_rfl
theorem sz_fix : sizeT Tryz.prog 112 = some 4 := by kernel_rfl
theorem zr_fix : (zeroT Tryz.prog 112).map (fun z => (ofValue z).cells) = some [.i .i64 0, .i .i64 0, .i .i64 0, .i .i64 0] := by kernel_rfl
theorem ad_fix : addrT Tryz.prog 112 = 4 := by kernel_rfl
theorem fd_fix_0 : fieldT Tryz.prog 112 0 = some (0, 3, 1) := by kernel_rfl
theorem fd_fix_1 : fieldT Tryz.prog 112 1 = some (1, 3, 1) := by kernel_rfl
theorem fd_fix_2 : fieldT Tryz.prog 112 2 = some (2, 3, 1) := by kernel_rfl
theorem fd_fix_3 : fieldT Tryz.prog 112 3 = some (3, 3, 1) := by kernel_rfl
def pl_fix : Nat → Option (Nat × Nat) := fun i => (#[(0, 1), (1, 1), (2, 1), (3, 1)] : Array (Nat × Nat))[i]?
theorem pt_fix : placeT Tryz.prog 112 = some pl_fix := by kernel_rfl
theorem pl_fix_0 : pl_fix 0 = some (0, 1) := rfl
theorem pl_fix_1 : pl_fix 1 = some (1, 1) := rfl
theorem pl_fix_2 : pl_fix 2 = some (2, 1) := rfl
theorem pl_fix_3 : pl_fix 3 = some (3, 1) := rfl
theorem ld_case : loadT Tryz.prog 57 = some (true, 4) := by kernel_rfl
theorem sz_case : sizeT Tryz.prog 57 = some 4 := by kernel_rfl
theorem zr_case : (zeroT Tryz.prog 57).map (fun z => (ofValue z).cells) = some [.o .nilS, .o .nilS, .o .nilS, .o .nilS] := by kernel_rfl
theorem ad_case : addrT Tryz.prog 57 = 4 := by kernel_rfl
theorem fd_case_0 : fieldT Tryz.prog 57 0 = some (0, 22, 1) := by kernel_rfl
theorem fd_case_1 : fieldT Tryz.prog 57 1 = some (1, 42, 2) := by kernel_rfl
theorem fd_case_2 : fieldT Tryz.prog 57 2 = some (3, 33, 1) := by kernel_rfl
def pl_case : Nat → Option (Nat × Nat) := fun i => (#[(0, 1), (1, 2), (3, 1)] : Array (Nat × Nat))[i]?
theorem pt_case : placeT Tryz.prog 57 = some pl_case := by kernel_rfl
theorem pl_case_0 : pl_case 0 = some (0, 1) := rfl
theorem pl_case_1 : pl_case 1 = some (1, 2) := rfl
theorem pl_case_2 : pl_case 2 = some (3, 1) := rfl
theorem ld_yfn : loadT Tryz.prog 182 = some (false, 1) := by kernel_rfl
theorem sz_yfn : sizeT Tryz.prog 182 = some 1 := by kernel_rfl
theorem zr_yfn : (zeroT Tryz.prog 182).map (fun z => (ofValue z).cells) = some [.o .nilF] := by kernel_rfl
theorem ad_yfn : addrT Tryz.prog 182 = 3 := by kernel_rfl
end Go.Proofs.YtekoajibckipkaaGreat
namespace Go.Proofs.YtekoajibckipkaaGreat
open Go Go.Eng
theorem ld_uin : loadT Tryz.prog 189 = some (false, 1) := by kernel_rfl
theorem sz_uin : sizeT Tryz.prog 189 = some 1 := by kernel_rfl
theorem zr_uin : (zeroT Tryz.prog 189).map (fun z => (ofValue z).cells) = some [.i .u64 0] := by kernel_rfl
theorem un_uin : Tryz.prog.underlying 189 = some (.int .u64) := by kernel_rfl
theorem ad_uin : addrT Tryz.prog 189 = 4 := by kernel_rfl
theorem ld_u64 : loadT Tryz.prog 195 = some (false, 1) := by kernel_rfl
theorem sz_u64 : sizeT Tryz.prog 195 = some 1 := by kernel_rfl
theorem zr_u64 : (zeroT Tryz.prog 195).map (fun z => (ofValue z).cells) = some [.i .u64 0] := by kernel_rfl
theorem un_u64 : Tryz.prog.underlying 195 = some (.int .u64) := by kernel_rfl
theorem ad_u64 : addrT Tryz.prog 195 = 4 := by kernel_rfl
theorem ld_xors : loadT Tryz.prog 257 = some (false, 1) := by kernel_rfl
theorem sz_xors : sizeT Tryz.prog 257 = some 1 := by kernel_rfl
theorem zr_xors : (zeroT Tryz.prog 257).map (fun z => (ofValue z).cells) = some [.i .u64 0] := by kernel_rfl
theorem un_xors : Tryz.prog.underlying 257 = some (.int .u64) := by kernel_rfl
theorem ad_xors : addrT Tryz.prog 257 = 4 := by kernel_rfl
theorem ld_u8 : loadT Tryz.prog 5 = some (false, 1) := by kernel_rfl
theorem un_u8 : Tryz.prog.underlying 5 = some (.int .u8) := by kernel_rfl
theorem ad_u8 : addrT Tryz.prog 5 = 4 := by kernel_rfl
end Go.Proofs.YtekoajibckipkaaGreat
namespace Go.Proofs.YtekoajibckipkaaGreat
open Go Go.Eng
theorem ld_slips : loadT Tryz.prog 70 = some (false, 1) := by kernel_rfl
theorem sz_slips : sizeT Tryz.prog 70 = some 1 := by kernel_rfl
theorem zr_slips : (zeroT Tryz.prog 70).map (fun z => (ofValue z).cells) = some [.o .nilS] := by kernel_rfl
theorem el_slips : elemT Tryz.prog 70 = some (75, 3) := by kernel_rfl
theorem ln_slips : lenT Tryz.prog 70 = some 1 := by kernel_rfl
theorem ad_slips : addrT Tryz.prog 70 = 1 := by kernel_rfl
end Go.Proofs.YtekoajibckipkaaGreat
namespace Go.Proofs.YtekoajibckipkaaGreat
open Go Go.Eng
set_option maxRecDepth 10000 in
theorem tyF : type_of% (qA E2_P (qA ld_str (qA sz_str (qA zr_str (qA ln_str (qA ad_str (qA ld_int (qA sz_int (qA zr_int (qA ad_int (qA ld_bool (qA sz_bool (qA zr_bool (qA ad_bool (qA ld_errno (qA sz_errno (qA zr_errno (qA ad_errno (qA ld_unit (qA sz_unit (qA zr_unit (qA ad_unit (qA fd_unit_0 (qA fd_unit_1 (qA pt_unit (qA pl_unit_0 (qA pl_unit_1 (qA ld_units (qA sz_units (qA zr_units (qA el_units (qA ln_units (qA ad_units (qA ld_lad (qA sz_lad (qA zr_lad (qA ad_lad (qA fd_lad_0 (qA fd_lad_1 (qA pt_lad (qA pl_lad_0 (qA pl_lad_1 (qA ld_lads (qA sz_lads (qA zr_lads (qA el_lads (qA ln_lads (qA ad_lads (qA ld_mSB (qA sz_mSB (qA zr_mSB (qA ln_mSB (qA mp_mSB (qA kk_mSB (qA ad_mSB (qA ld_mSI (qA sz_mSI (qA zr_mSI (qA ln_mSI (qA mp_mSI (qA kk_mSI (qA ad_mSI (qA ld_pbook (qA sz_pbook (qA zr_pbook (qA ad_pbook (qA ld_book (qA sz_book (qA zr_book (qA ad_book (qA fd_book_0 (qA fd_book_1 (qA fd_book_2 (qA fd_book_3 (qA pt_book (qA pl_book_0 (qA pl_book_1 (qA pl_book_2 (qA pl_book_3 (qA ld_ints (qA sz_ints (qA zr_ints (qA el_ints (qA ln_ints (qA ad_ints (qA ld_prods (qA sz_prods (qA zr_prods (qA el_prods (qA ln_prods (qA ad_prods (qA ld_prod (qA sz_prod (qA zr_prod (qA ad_prod (qA fd_prod_0 (qA fd_prod_1 (qA pt_prod (qA pl_prod_0 (qA pl_prod_1 (qA ld_strs (qA sz_strs (qA zr_strs (qA el_strs (qA ln_strs (qA ad_strs (qA ld_good (qA sz_good (qA zr_good (qA ad_good (qA fd_good_0 (qA fd_good_1 (qA fd_good_2 (qA pt_good (qA pl_good_0 (qA pl_good_1 (qA pl_good_2 (qA ld_goods (qA sz_goods (qA zr_goods (qA el_goods (qA ln_goods (qA ad_goods (qA ld_rbook (qA sz_rbook (qA zr_rbook (qA ad_rbook (qA fd_rbook_0 (qA fd_rbook_1 (qA pt_rbook (qA pl_rbook_0 (qA pl_rbook_1 (qA ld_prbook (qA sz_prbook (qA zr_prbook (qA ad_prbook (qA ld_puzzle (qA sz_puzzle (qA zr_puzzle (qA ad_puzzle (qA fd_puzzle_0 (qA fd_puzzle_1 (qA pt_puzzle (qA pl_puzzle_0 (qA pl_puzzle_1 (qA ld_cells (qA sz_cells (qA zr_cells (qA el_cells (qA ln_cells (qA ad_cells (qA ld_cell (qA sz_cell (qA zr_cell (qA ad_cell (qA fd_cell_0 (qA fd_cell_1 (qA fd_cell_2 (qA fd_cell_3 (qA pt_cell (qA pl_cell_0 (qA pl_cell_1 (qA pl_cell_2 (qA pl_cell_3 (qA ld_rules (qA sz_rules (qA zr_rules (qA el_rules (qA ln_rules (qA ad_rules (qA ld_rule (qA sz_rule (qA zr_rule (qA ad_rule (qA fd_rule_0 (qA fd_rule_1 (qA pt_rule (qA pl_rule_0 (qA pl_rule_1 (qA ld_num (qA sz_num (qA zr_num (qA ad_num (qA fd_num_0 (qA fd_num_1 (qA pt_num (qA pl_num_0 (qA pl_num_1 (qA ld_grps (qA sz_grps (qA zr_grps (qA el_grps (qA ln_grps (qA ad_grps (qA ld_grp (qA sz_grp (qA zr_grp (qA ad_grp (qA fd_grp_0 (qA fd_grp_1 (qA fd_grp_2 (qA pt_grp (qA pl_grp_0 (qA pl_grp_1 (qA pl_grp_2 (qA ld_bools (qA sz_bools (qA zr_bools (qA el_bools (qA ln_bools (qA ad_bools (qA ld_errnos (qA sz_errnos (qA zr_errnos (qA el_errnos (qA ln_errnos (qA ad_errnos (qA ld_slip (qA sz_slip (qA zr_slip (qA ad_slip (qA fd_slip_0 (qA fd_slip_1 (qA fd_slip_2 (qA pt_slip (qA pl_slip_0 (qA pl_slip_1 (qA pl_slip_2 (qA ld_fixes (qA sz_fixes (qA zr_fixes (qA el_fixes (qA ln_fixes (qA ad_fixes (qA ld_fix (qA sz_fix (qA zr_fix (qA ad_fix (qA fd_fix_0 (qA fd_fix_1 (qA fd_fix_2 (qA fd_fix_3 (qA pt_fix (qA pl_fix_0 (qA pl_fix_1 (qA pl_fix_2 (qA pl_fix_3 (qA ld_case (qA sz_case (qA zr_case (qA ad_case (qA fd_case_0 (qA fd_case_1 (qA fd_case_2 (qA pt_case (qA pl_case_0 (qA pl_case_1 (qA pl_case_2 (qA ld_yfn (qA sz_yfn (qA zr_yfn ad_yfn))))))))))))))))))))))))))))))))))))))))))))))))))))))))))))))))))))))))))))))))))))))))))))))))))))))))))))))))))))))))))))))))))))))))))))))))))))))))))))))))))))))))))))))))))))))))))))))))))))))))))))))))))))))))))))))))))))))))))))))))))))))))))))))))))))) := qA E2_P (qA ld_str (qA sz_str (qA zr_str (qA ln_str (qA ad_str (qA ld_int (qA sz_int (qA zr_int (qA ad_int (qA ld_bool (qA sz_bool (qA zr_bool (qA ad_bool (qA ld_errno (qA sz_errno (qA zr_errno (qA ad_errno (qA ld_unit (qA sz_unit (qA zr_unit (qA ad_unit (qA fd_unit_0 (qA fd_unit_1 (qA pt_unit (qA pl_unit_0 (qA pl_unit_1 (qA ld_units (qA sz_units (qA zr_units (qA el_units (qA ln_units (qA ad_units (qA ld_lad (qA sz_lad (qA zr_lad (qA ad_lad (qA fd_lad_0 (qA fd_lad_1 (qA pt_lad (qA pl_lad_0 (qA pl_lad_1 (qA ld_lads (qA sz_lads (qA zr_lads (qA el_lads (qA ln_lads (qA ad_lads (qA ld_mSB (qA sz_mSB (qA zr_mSB (qA ln_mSB (qA mp_mSB (qA kk_mSB (qA ad_mSB (qA ld_mSI (qA sz_mSI (qA zr_mSI (qA ln_mSI (qA mp_mSI (qA kk_mSI (qA ad_mSI (qA ld_pbook (qA sz_pbook (qA zr_pbook (qA ad_pbook (qA ld_book (qA sz_book (qA zr_book (qA ad_book (qA fd_book_0 (qA fd_book_1 (qA fd_book_2 (qA fd_book_3 (qA pt_book (qA pl_book_0 (qA pl_book_1 (qA pl_book_2 (qA pl_book_3 (qA ld_ints (qA sz_ints (qA zr_ints (qA el_ints (qA ln_ints (qA ad_ints (qA ld_prods (qA sz_prods (qA zr_prods (qA el_prods (qA ln_prods (qA ad_prods (qA ld_prod (qA sz_prod (qA zr_prod (qA ad_prod (qA fd_prod_0 (qA fd_prod_1 (qA pt_prod (qA pl_prod_0 (qA pl_prod_1 (qA ld_strs (qA sz_strs (qA zr_strs (qA el_strs (qA ln_strs (qA ad_strs (qA ld_good (qA sz_good (qA zr_good (qA ad_good (qA fd_good_0 (qA fd_good_1 (qA fd_good_2 (qA pt_good (qA pl_good_0 (qA pl_good_1 (qA pl_good_2 (qA ld_goods (qA sz_goods (qA zr_goods (qA el_goods (qA ln_goods (qA ad_goods (qA ld_rbook (qA sz_rbook (qA zr_rbook (qA ad_rbook (qA fd_rbook_0 (qA fd_rbook_1 (qA pt_rbook (qA pl_rbook_0 (qA pl_rbook_1 (qA ld_prbook (qA sz_prbook (qA zr_prbook (qA ad_prbook (qA ld_puzzle (qA sz_puzzle (qA zr_puzzle (qA ad_puzzle (qA fd_puzzle_0 (qA fd_puzzle_1 (qA pt_puzzle (qA pl_puzzle_0 (qA pl_puzzle_1 (qA ld_cells (qA sz_cells (qA zr_cells (qA el_cells (qA ln_cells (qA ad_cells (qA ld_cell (qA sz_cell (qA zr_cell (qA ad_cell (qA fd_cell_0 (qA fd_cell_1 (qA fd_cell_2 (qA fd_cell_3 (qA pt_cell (qA pl_cell_0 (qA pl_cell_1 (qA pl_cell_2 (qA pl_cell_3 (qA ld_rules (qA sz_rules (qA zr_rules (qA el_rules (qA ln_rules (qA ad_rules (qA ld_rule (qA sz_rule (qA zr_rule (qA ad_rule (qA fd_rule_0 (qA fd_rule_1 (qA pt_rule (qA pl_rule_0 (qA pl_rule_1 (qA ld_num (qA sz_num (qA zr_num (qA ad_num (qA fd_num_0 (qA fd_num_1 (qA pt_num (qA pl_num_0 (qA pl_num_1 (qA ld_grps (qA sz_grps (qA zr_grps (qA el_grps (qA ln_grps (qA ad_grps (qA ld_grp (qA sz_grp (qA zr_grp (qA ad_grp (qA fd_grp_0 (qA fd_grp_1 (qA fd_grp_2 (qA pt_grp (qA pl_grp_0 (qA pl_grp_1 (qA pl_grp_2 (qA ld_bools (qA sz_bools (qA zr_bools (qA el_bools (qA ln_bools (qA ad_bools (qA ld_errnos (qA sz_errnos (qA zr_errnos (qA el_errnos (qA ln_errnos (qA ad_errnos (qA ld_slip (qA sz_slip (qA zr_slip (qA ad_slip (qA fd_slip_0 (qA fd_slip_1 (qA fd_slip_2 (qA pt_slip (qA pl_slip_0 (qA pl_slip_1 (qA pl_slip_2 (qA ld_fixes (qA sz_fixes (qA zr_fixes (qA el_fixes (qA ln_fixes (qA ad_fixes (qA ld_fix (qA sz_fix (qA zr_fix (qA ad_fix (qA fd_fix_0 (qA fd_fix_1 (qA fd_fix_2 (qA fd_fix_3 (qA pt_fix (qA pl_fix_0 (qA pl_fix_1 (qA pl_fix_2 (qA pl_fix_3 (qA ld_case (qA sz_case (qA zr_case (qA ad_case (qA fd_case_0 (qA fd_case_1 (qA fd_case_2 (qA pt_case (qA pl_case_0 (qA pl_case_1 (qA pl_case_2 (qA ld_yfn (qA sz_yfn (qA zr_yfn ad_yfn))))))))))))))))))))))))))))))))))))))))))))))))))))))))))))))))))))))))))))))))))))))))))))))))))))))))))))))))))))))))))))))))))))))))))))))))))))))))))))))))))))))))))))))))))))))))))))))))))))))))))))))))))))))))))))))))))))))))))))))))))))))))))))))))))))
end Go.Proofs.YtekoajibckipkaaGreat
namespace Go.Proofs.YtekoajibckipkaaGreat
open Go Go.Eng
theorem bd_split : hasBody Tryz.prog 148 = true := by kernel_rfl
theorem bd_Split : hasBody Tryz.prog 108 = true := by kernel_rfl
theorem bd_first : hasBody Tryz.prog 117 = true := by kernel_rfl
def splitA : List Pr → Int → List Int
  | [], _ => []
  | [_], n => [n]
  | _ :: y :: l, n => n % y.2 :: splitA (y :: l) (n / y.2)
theorem splitA_len : ∀ (us : List Pr) (n : Int), (splitA us n).length = us.length
  | [], _ => rfl
  | [_], _ => rfl
  | _ :: y :: l, n => by rw [splitA, List.length_cons, splitA_len (y :: l), List.length_cons]; rfl
theorem flatI (l : List Int) : l.flatMap intC = l.map (AC.i .i64) := by
  induction l with
  | nil => rfl
  | cons x l ih => rw [List.flatMap_cons, ih]; rfl
theorem slI_row {H : Hp} {q : Nat} {l : List Int} {lo gen : Nat} (hg : H.get q = some (.arr (l.map (AC.i .i64)) 3 lo gen)) (hl : lo ≤ gen) (hq : q < H.nx) : SlI H (.o (.sl q gen 0 l.length 1)) l :=
  ⟨by rw [flatI, List.length_map, Nat.mul_one], .inr ⟨q, gen, 0, rfl, hq, l.map (AC.i .i64), by rw [hg]; exact rowOf_arr hl (Nat.le_refl _), by rw [List.length_map]; omega, by rw [List.drop_zero, List.take_of_length_le (by rw [List.length_map]; omega), flatI]⟩⟩
theorem setMid {α : Type} (out : List α) (z a : α) (k : Nat) : (out ++ List.replicate (k + 1) z).set out.length a = (out ++ [a]) ++ List.replicate k z := by
  rw [List.set_append_right _ _ (Nat.le_refl _), Nat.sub_self, List.replicate_succ, List.set_cons_zero, List.append_assoc]; rfl
set_option maxRecDepth 10000 in
set_option maxHeartbeats 16000000 in
theorem split_con (H : Hp) (nm : List UInt8) (u : AC) (us : List Pr) (n : Int) (hu : SlP H u us) (hL : us.length ≤ 1000000) (hn0 : 0 ≤ n) (hn : n ≤ 1099511627776) (hf : ∀ x ∈ us, 1 ≤ x.2 ∧ x.2 ≤ 60) :
    Con E2 148 [.agg [.o (.str nm), u], .one (.i .i64 n)] H (fun _ => False) fun r H' => ∃ c, r = .one c ∧ SlI H' c (splitA us n) ∧ ∀ id ∈ (AV.one c).ids, H.nx ≤ id := by
  refine Con.of rfl fun lg => ?_
  have hu : SlP ⟨H.t, H.nx, lg⟩ u us := hu
  have e0 : H.nx = (⟨H.t, H.nx, lg⟩ : Hp).nx := rfl
  rw [e0]
  clear e0
  generalize (⟨H.t, H.nx, lg⟩ : Hp) = H at hu ⊢
  refine C1.body (E := E2) (nt := 48) (res := [.tmp 4]) Tryz.func148 rfl rfl rfl rfl rfl fun tm hargs => ?_
  have h0 := hargs 0 _ rfl
  have h1 := hargs 1 _ rfl
  clear hargs
  obtain ⟨z, hz, hzc⟩ : ∃ z, zeroT Tryz.prog 3 = some z ∧ (ofValue z).cells = [.i .i64 0] := ⟨.int .i64 0, zv_int, rfl⟩
  have mk : ∀ H, doMakeSlice Tryz.prog H 33 (.one (.i .i64 (us.length : Int))) (.one (.i .i64 (us.length : Int))) = .val (.one (.o (.sl H.nx 0 0 us.length 1))) (H.new (.arr ((List.replicate us.length (0 : Int)).map (AC.i .i64)) 3 0 0)) := fun H => by
    rw [make_slice el_ints by_int hz (by rw [hzc]; rfl) (by omega), hzc, repl_eq, List.map_replicate]
  clear hz hzc
  have hu0 := hu
  refine zG tyF fun K hK => ?_
  refine hK.out _ _ ?_
  refine R1.gen (fun A1 H1 => Gr H H1 ∧ H.nx + 1 = H1.nx ∧ H1.get H.nx = some (.arr [.o (.str nm), u] 68 0 0) ∧ slot A1.tm 1 = .one (.i .i64 (n : Int)) ∧ slot A1.tm 2 = .one ((.o (.ptr H.nx 0 0 2))) ∧ A1.nt = 48 ∧ A1.dfr = []) ⟨(Fr.refl _).new _, rfl, get_newE rfl, zL⟩ ?_
  rintro A1 H1 ⟨g1, n1, rx, t1, t2, hnt, hdf⟩
  clear h0 h1 tm hK K
  have m1 : H.nx < H1.nx := by omega
  obtain ⟨N, hN⟩ : ∃ N, N = H.nx := ⟨_, rfl⟩
  rw [← hN] at n1 rx t2 m1
  replace hN : Hd (N = H.nx) := hN
  replace n1 : Hd (N + 1 = H1.nx) := n1
  have hu := hu.gr g1
  have l1 := hu.len
  have l2 := hu.lt
  refine zG (qA tyF mk) fun K hK => ?_
  refine hK.out _ _ ?_
  refine R1.gen (fun A2 H2 => Gr H1 H2 ∧ N + 1 < H2.nx ∧ H2.get (N + 1) = some (.arr ((([] : List Int) ++ List.replicate us.length 0).map (AC.i .i64)) 3 0 0) ∧ slot A2.tm 1 = .one (.i .i64 (n : Int)) ∧ slot A2.tm 2 = .one ((.o (.ptr N 0 0 2))) ∧ slot A2.tm 5 = .one ((.o (.sl (N + 1) 0 0 us.length 1))) ∧ A2.nt = 48 ∧ A2.dfr = [])
    ⟨(Fr.refl _).new _, by have := n1.out; show _ < H1.nx + 1; omega, get_newE n1.out, ?_⟩ ?_
  · rw [n1.out]; exact zL
  clear t1 t2 hnt hdf A1 mk l1 l2 hK K
  rintro A2 H2 ⟨g2, m2, rs, t1, t2, t5, hnt, hdf⟩
  have rx := (g2.get _ m1 not_false).trans rx
  have m1 := Nat.lt_of_lt_of_le m1 g2.nx
  have hu := hu.gr g2
  have g2 := g1.gr g2
  clear g1 n1
  refine zW (qA tyF m2) ?_
  refine R1.s_bl fun K k1 k2 k3 k4 => ?_
  refine R1.loop (fun m A H3 => ∃ (i : Nat) (out : List Int) (k : Int), m = us.length - i ∧ i ≤ us.length ∧ out.length = i ∧ 0 ≤ k ∧ k ≤ 1099511627776 ∧ Gr H H3 ∧ N < H3.nx ∧ N + 1 < H3.nx ∧ H3.get N = some (.arr [.o (.str nm), u] 68 0 0) ∧ H3.get (N + 1) = some (.arr ((out ++ List.replicate (us.length - i) 0).map (AC.i .i64)) 3 0 0) ∧ out ++ splitA (us.drop i) k = splitA us n ∧
      slot A.tm 1 = .one (.i .i64 (k : Int)) ∧ slot A.tm 2 = .one ((.o (.ptr N 0 0 2))) ∧ slot A.tm 5 = .one ((.o (.sl (N + 1) 0 0 us.length 1))) ∧ slot A.tm 12 = .one (.i .i64 (us.length : Int)) ∧ slot A.tm 13 = .one (.i .i64 (i : Int)) ∧ A.nt = 48 ∧ A.dfr = []) ?_ us.length
    ⟨0, [], n, rfl, Nat.zero_le _, rfl, hn0, hn, g2, m1, m2, rx, rs, rfl, zL⟩
  clear t1 t2 t5 hnt hdf A2 rx rs hu m1 m2 k3 g2
  rintro m A H3 ⟨i, out, k, rfl, hi, hout, hk0, hk1, g3, m1, m2, rx, rs, hsp, t1, t2, t5, t12, t13, hnt, hdf⟩
  refine zW tyF ?_
  refine zI tyF (fun hc => ?_) (fun hc => ?_)
  · have hlt : i < us.length := by omega
    have hw2 : IntKind.i64.wrap ((i : Int) + 1) = ((i + 1 : Nat) : Int) := by rw [wrapI (by omega) (by omega)]; omega
    have hle : i + 1 ≤ ((out ++ List.replicate (us.length - i) (0 : Int)).map (AC.i .i64)).length := by rw [List.length_map, List.length_append, List.length_replicate]; omega
    have hput : ∀ a : Int, List.take i ((out ++ List.replicate (us.length - i) (0 : Int)).map (AC.i .i64)) ++ AC.i .i64 a :: List.drop (i + 1) ((out ++ List.replicate (us.length - i) (0 : Int)).map (AC.i .i64)) = ((out ++ [a]) ++ List.replicate (us.length - (i + 1)) 0).map (AC.i .i64) := fun a => by
      rw [setRow (AC.i .i64) _ _ a (by rw [List.length_append, List.length_replicate]; omega)]
      have e : us.length - i = (us.length - (i + 1)) + 1 := by omega
      rw [e, ← hout, setMid]
    refine zW tyF ?_
    refine R1.s_bl fun K2 q1 q2 q3 q4 => ?_
    have hsz : (splitA us n).length = us.length := splitA_len us n
    by_cases hlast : i + 1 = us.length
    · have ce : (((i + 1 : Nat) : Int) == (us.length : Int)) = true := by rw [hlast]; exact beq_self_eq_true _
      replace hlast : Hd (i + 1 = us.length) := hlast
      refine zW (qA tyF (qA (ixC hlt) (qA hput (qA Nat.mul_one hle)))) ?_
      refine q3.out 0 _ _ (by decide) ?_
      refine k2.out _ _ ?_
      refine zW tyF ?_
      have hdr : us.drop i = [us[i]] := by
        rw [List.drop_eq_getElem_cons hlt, List.drop_of_length_le (by have := hlast.out; omega)]
      rw [hdr, splitA] at hsp
      have e0 : us.length - (i + 1) = 0 := by have := hlast.out; omega
      have hsl := slI_row (H := H3.mod (N + 1) (.arr ((splitA us n).map (AC.i .i64)) 3 0 0)) (get_modE rfl) (Nat.le_refl _) m2
      rw [hsz] at hsl
      rw [e0, List.replicate_zero, List.append_nil, hsp]
      exact ⟨_, _, callEnd_one (.o (.sl (N + 1) 0 0 us.length 1)) (.inr rfl) qe qp, g3.mod _ (.inl (by have := hN.out; omega)), fun _ => ⟨_, rfl, hsl, fun k hk => by have := hN.out; rw [List.mem_singleton.1 hk]; omega⟩⟩
    · have ce : (((i + 1 : Nat) : Int) == (us.length : Int)) = false := beq_false_of_ne (by omega)
      have hlt2 : i + 1 < us.length := by omega
      have hdr : us.drop i = us[i] :: us[i + 1] :: us.drop (i + 2) := by
        rw [List.drop_eq_getElem_cons hlt, List.drop_eq_getElem_cons hlt2]
      have hdr2 : us.drop (i + 1) = us[i + 1] :: us.drop (i + 2) := List.drop_eq_getElem_cons hlt2
      have ey : us[i + 1]? = some us[i + 1] := List.getElem?_eq_getElem hlt2
      obtain ⟨hy1, hy2⟩ := hf us[i + 1] (List.getElem_mem hlt2)
      rw [hdr, splitA, ← hdr2] at hsp
      clear hdr hdr2
      generalize us[i + 1] = y at ey hy1 hy2 hsp
      obtain ⟨id, g, off, cells, rfl, hid0, hgr0, hat⟩ := hu0.open (by omega)
      have hidN : id < N := by have := hN.out; omega
      have hid : id < H3.nx := by omega
      have hgr : rowOf (H3.get id) g = some cells := by rw [g3.get _ hid0 not_false]; exact hgr0
      have hgm : ∀ X, rowOf ((H3.mod (N + 1) X).get id) g = some cells := fun X => by rw [get_modN (by omega)]; exact hgr
      have hgx : ∀ X, (H3.mod (N + 1) X).get N = some (.arr [.o (.str nm), .o (.sl id g off us.length 2)] 68 0 0) := fun X => (get_modN (by omega)).trans rx
      have hy := hat _ y ey
      have y1 := hy.snd
      have y2 := hy.le2
      clear hat hy hid0 hgr0
      have hy0 : y.2 ≠ 0 := by omega
      have e1 : k.tmod y.2 = k % y.2 := Int.tmod_eq_emod_of_nonneg hk0
      have e3 : k / y.2 ≤ k := Int.ediv_le_self _ hk0
      have e4 : 0 ≤ k / y.2 := Int.ediv_nonneg hk0 (by omega)
      have e2 : IntKind.i64.wrap (k.tdiv y.2) = k / y.2 := by rw [Int.tdiv_eq_ediv_of_nonneg hk0]; exact wrapI (by omega) (by omega)
      refine zW (qA tyF (qA (ixC hlt) (qA (ixC hlt2) (qA hput (qA Nat.mul_one (qA hle (qA arQ (qA (quoI hy0) (remI hy0))))))))) ?_
      refine q1.out _ _ ?_
      refine zW tyF ?_
      exact ⟨us.length - (i + 1), by omega, i + 1, out ++ [k % y.2], k / y.2, rfl, hlt, by rw [List.length_append, hout]; rfl, e4, by omega, g3.mod _ (.inl (by have := hN.out; omega)), m1, m2, (get_modN (by omega)).trans rx, get_modE rfl, by rw [List.append_assoc]; exact hsp, zL⟩
  · have hie : i = us.length := by omega
    refine zW tyF ?_
    refine k2.out _ _ ?_
    refine zW tyF ?_
    rw [hie, List.drop_length, splitA, List.append_nil] at hsp
    rw [hie, Nat.sub_self, List.replicate_zero, List.append_nil, hsp] at rs
    have hsl := slI_row rs (Nat.le_refl _) m2
    rw [splitA_len us n] at hsl
    exact ⟨_, _, callEnd_one (.o (.sl (N + 1) 0 0 us.length 1)) (.inr rfl) qe qp, g3, fun _ => ⟨_, rfl, hsl, fun k hk => by have := hN.out; rw [List.mem_singleton.1 hk]; omega⟩⟩
end Go.Proofs.YtekoajibckipkaaGreat
namespace Go.Proofs.YtekoajibckipkaaGreat
open Go Go.Eng
theorem bd_rSplit : hasBody Tryz.prog 116 = true := by kernel_rfl
def firstE : List Int → Int
  | [] => 0
  | x :: l => if x = 0 then firstE l else x
set_option maxRecDepth 10000 in
set_option maxHeartbeats 4000000 in
theorem first_con (H : Hp) (w : AC) (l : List Int) (hw : SlI H w l) (hL : l.length ≤ 4611686018427387904) :
    Con E2 117 [.one w] H (fun _ => False) fun r _ => r = .one (.i .i64 (firstE l)) := by
  refine Con.of rfl fun lg => ?_
  have hw : SlI ⟨H.t, H.nx, lg⟩ w l := hw
  generalize (⟨H.t, H.nx, lg⟩ : Hp) = H at hw ⊢
  refine C1.body (E := E2) (nt := 15) (res := [.tmp 2]) Tryz.func117 rfl rfl rfl rfl rfl fun tm hargs => ?_
  have h0 := hargs 0 _ rfl
  clear hargs
  have fin : ∀ (e : Int) (A : AAct) (H3 : Hp), slot A.tm 2 = .one (.i .i64 e) → A.dfr = [] → Gr H H3 → e = firstE l → ∃ w H4, callEnd E2 [.tmp 2] (.ret, A, H3) = .ok [(w, H4)] ∧ Gr H H4 ∧ ∀ _ : List Nat, w = .one (.i .i64 (firstE l)) := fun e A H3 h1 h2 h3 h4 => ⟨_, H3, callEnd_one (.i .i64 e) (.inr rfl) h2 h1, h3, fun _ => by rw [h4]⟩
  generalize hr0 : firstE l = r0 at fin
  have l1 := hw.len
  have l2 := hw.lt
  refine zW tyF ?_
  refine R1.s_bl fun K k1 k2 k3 k4 => ?_
  refine R1.loop (fun m A H2 => ∃ i : Nat, m = l.length - i ∧ i ≤ l.length ∧ H2 = H ∧ firstE (l.drop i) = r0 ∧ slot A.tm 5 = .one (w) ∧ slot A.tm 6 = .one (.i .i64 (l.length : Int)) ∧ slot A.tm 7 = .one (.i .i64 (i : Int)) ∧ A.nt = 15 ∧ A.dfr = []) ?_ l.length ⟨0, rfl, Nat.zero_le _, rfl, hr0, zL⟩
  clear h0 tm hr0 l1 l2
  rintro m A H2 ⟨i, rfl, hil, rfl, hr, t5, t6, t7, hnt, hdf⟩
  refine zW tyF ?_
  refine zI tyF (fun hc => ?_) (fun hc => ?_)
  · have hlt : i < l.length := by omega
    have ex : l[i]? = some l[i] := List.getElem?_eq_getElem hlt
    have hdr : l.drop i = l[i] :: l.drop (i + 1) := List.drop_eq_getElem_cons hlt
    have htk : l.take (i + 1) = l.take i ++ [l[i]] := List.take_succ_eq_append_getElem hlt
    have hmem : l[i] ∈ l := List.getElem_mem hlt
    generalize l[i] = x at ex hdr htk hmem
    have hw2 : IntKind.i64.wrap ((i : Int) + 1) = ((i + 1 : Nat) : Int) := by rw [wrapI (by omega) (by omega)]; omega
    obtain ⟨id, g, off, cells, rfl, hid, hgr, hat⟩ := hw.open (by omega)
    obtain ⟨e1, e2⟩ := hat i x ex
    rw [hdr, firstE] at hr
    clear hat
    refine zW tyF ?_
    refine R1.s_bl fun K2 q1 q2 q3 q4 => ?_
    by_cases hx : x = 0
    · have ce : (x == 0) = true := beq_iff_eq.2 hx
      rw [if_pos hx] at hr
      replace hx : Hd (x = 0) := hx
      refine zW (qA tyF (ixC hlt)) ?_
      refine q1.out _ _ ?_
      refine zW tyF ?_
      exact ⟨l.length - (i + 1), by omega, i + 1, rfl, hlt, rfl, hr, zL⟩
    · have ce : (x == 0) = false := beq_false_of_ne hx
      refine zW (qA tyF (ixC hlt)) ?_
      exact q4.out _ _ (k4.out _ _ (fin (x) _ _ qp qe (Fr.refl _) ((by rw [if_neg hx] at hr; exact hr))))
  · have hie : i = l.length := by omega
    refine zW tyF ?_
    refine k2.out _ _ ?_
    refine zW tyF ?_
    rw [hie, List.drop_length, firstE] at hr
    exact fin (0) _ _ qp qe (Fr.refl _) (hr)
theorem slI_two {H : Hp} (a b : Int) {e : TypeId} : SlI (H.new (.arr [.i .i64 a, .i .i64 b] e 0 0)) (.o (.sl H.nx 0 0 2 1)) [a, b] :=
  ⟨rfl, .inr ⟨H.nx, 0, 0, rfl, Nat.lt_succ_self _, _, by rw [get_newE rfl]; exact rowOf_arr (Nat.le_refl _) (Nat.le_refl _), Nat.le_refl _, rfl⟩⟩
def splitE (nm : List UInt8) (us : List Pr) (n : Int) : List Int × Int := if chkLad nm us ≠ 0 then ([], chkLad nm us) else if 0 ≤ n ∧ n ≤ 1099511627776 then (splitA us n, 0) else ([], 8)
set_option maxRecDepth 10000 in
set_option maxHeartbeats 8000000 in
theorem splitE_con (H : Hp) (nm : List UInt8) (u : AC) (us : List Pr) (n : Int) (hu : SlP H u us) :
    Con E2 108 [.agg [.o (.str nm), u], .one (.i .i64 n)] H (fun _ => False) fun r H' => ∃ c, r = .tup [(false, [c]), (false, [.i .i64 (splitE nm us n).2])] ∧ SlI H' c (splitE nm us n).1 ∧ ∀ id ∈ (AV.one c).ids, H.nx ≤ id := by
  refine Con.of rfl fun lg => ?_
  have hu : SlP ⟨H.t, H.nx, lg⟩ u us := hu
  have e0 : H.nx = (⟨H.t, H.nx, lg⟩ : Hp).nx := rfl
  rw [e0]
  clear e0
  generalize (⟨H.t, H.nx, lg⟩ : Hp) = H at hu ⊢
  refine C1.body (E := E2) (nt := 24) (res := [.tmp 4, .tmp 5]) Tryz.func108 rfl rfl rfl rfl rfl fun tm hargs => ?_
  have h0 := hargs 0 _ rfl
  have h1 := hargs 1 _ rfl
  clear hargs
  generalize hr0 : splitE nm us n = r0
  have fin : ∀ (c : AC) (e : Int) (A : AAct) (H3 : Hp), slot A.tm 4 = .one c → slot A.tm 5 = .one (.i .i64 e) → A.dfr = [] → Gr H H3 → SlI H3 c r0.1 ∧ e = r0.2 ∧ (∀ id ∈ (AV.one c).ids, H.nx ≤ id) → ∃ w H4, callEnd E2 [.tmp 4, .tmp 5] (.ret, A, H3) = .ok [(w, H4)] ∧ Gr H H4 ∧ ∀ lg' : List Nat, ∃ c, w = .tup [(false, [c]), (false, [.i .i64 r0.2])] ∧ SlI ⟨H4.t, H4.nx, lg'⟩ c r0.1 ∧ ∀ id ∈ (AV.one c).ids, H.nx ≤ id := fun c e A H3 h1 h2 h3 h4 h5 => ⟨_, H3, callEnd_two c (.i .i64 e) (.inr rfl) h3 h1 h2, h4, fun _ => ⟨c, by rw [h5.2.1], h5.1, h5.2.2⟩⟩
  refine zG tyF fun K hK => ?_
  refine hK.out _ _ ?_
  refine R1.gen (fun A1 H1 => Gr H H1 ∧ H.nx < H1.nx ∧ H1.get H.nx = some (.arr [.o (.str nm), u] 68 0 0) ∧ slot A1.tm 1 = .one (.i .i64 (n : Int)) ∧ slot A1.tm 2 = .one ((.o (.ptr H.nx 0 0 2))) ∧ A1.nt = 24 ∧ A1.dfr = []) ⟨(Fr.refl _).new _, Nat.lt_succ_self _, get_newE rfl, zL⟩ ?_
  rintro A1 H1 ⟨g1, m1, rx, t1, t2, hnt, hdf⟩
  clear h0 h1 tm hK K
  have hu := hu.gr g1
  refine zG (qA tyF bd_check) fun K hK => ?_
  refine WE.con (check_con H1 nm u us hu) fun w H2 g2 hq => ?_
  subst hq
  have rx := (g2.get _ m1 not_false).trans rx
  have m1 := Nat.lt_of_lt_of_le m1 g2.nx
  have hu := hu.gr g2
  have g2 := g1.gr g2
  clear g1
  have r2 : repl [AC.i .i64 0] 2 = [.i .i64 0, .i .i64 0] := rfl
  have hok := @chkLad_ok nm us
  unfold splitE at hr0
  generalize chkLad nm us = e0 at hr0 hok
  by_cases c0 : 0 ≤ n
  case neg =>
    refine zS (qA tyF bd_need) ?_
    refine WE.con (need_con H2 false 8) fun w H3 g3 hq => ?_
    subst hq
    have rx := (g3.get _ m1 not_false).trans rx
    have m1 := Nat.lt_of_lt_of_le m1 g3.nx
    have hu := hu.gr g3
    have g3 := g2.gr g3
    refine zS (qA tyF bd_first) ?_
    refine WE.con (first_con _ _ [e0, 8] (slI_two _ _) (by show 2 ≤ _; omega)) fun w H4 g4 hq => ?_
    subst hq
    have g4 : Gr H3 H4 := ((Fr.refl _).new _).gr g4
    have rx := (g4.get _ m1 not_false).trans rx
    have m1 := Nat.lt_of_lt_of_le m1 g4.nx
    have hu := hu.gr g4
    have g4 := g3.gr g4
    by_cases he0 : e0 = 0
    case neg =>
      have ce : (firstE [e0, 8] == 0) = false := by rw [firstE, if_neg he0]; exact beq_false_of_ne he0
      have cf : firstE [e0, 8] = e0 := by rw [firstE, if_neg he0]
      rw [cf] at ce
      refine zK tyF ?_
      exact fin (.o .nilS) (e0) _ _ qp qp qe (g4) (⟨by rw [← hr0, if_pos he0]; exact SlI.nil, by rw [← hr0, if_pos he0], fun _ h => by cases h⟩)
    rw [if_neg (fun h => h he0)] at hr0
    have cf : firstE [e0, 8] = 8 := by rw [firstE, if_pos he0]; rfl
    replace he0 : Hd (e0 = 0) := he0
    refine zK tyF ?_
    exact fin (.o .nilS) (8) _ _ qp qp qe (g4) (⟨by rw [← hr0, if_neg (fun h => c0 h.1)]; exact SlI.nil, by rw [← hr0, if_neg (fun h => c0 h.1)], fun _ h => by cases h⟩)

  by_cases c1 : n ≤ 1099511627776
  case neg =>
    refine zS (qA tyF bd_need) ?_
    refine WE.con (need_con H2 false 8) fun w H3 g3 hq => ?_
    subst hq
    have rx := (g3.get _ m1 not_false).trans rx
    have m1 := Nat.lt_of_lt_of_le m1 g3.nx
    have hu := hu.gr g3
    have g3 := g2.gr g3
    refine zS (qA tyF bd_first) ?_
    refine WE.con (first_con _ _ [e0, 8] (slI_two _ _) (by show 2 ≤ _; omega)) fun w H4 g4 hq => ?_
    subst hq
    have g4 : Gr H3 H4 := ((Fr.refl _).new _).gr g4
    have rx := (g4.get _ m1 not_false).trans rx
    have m1 := Nat.lt_of_lt_of_le m1 g4.nx
    have hu := hu.gr g4
    have g4 := g3.gr g4
    by_cases he0 : e0 = 0
    case neg =>
      have ce : (firstE [e0, 8] == 0) = false := by rw [firstE, if_neg he0]; exact beq_false_of_ne he0
      have cf : firstE [e0, 8] = e0 := by rw [firstE, if_neg he0]
      rw [cf] at ce
      refine zK tyF ?_
      exact fin (.o .nilS) (e0) _ _ qp qp qe (g4) (⟨by rw [← hr0, if_pos he0]; exact SlI.nil, by rw [← hr0, if_pos he0], fun _ h => by cases h⟩)
    rw [if_neg (fun h => h he0)] at hr0
    have cf : firstE [e0, 8] = 8 := by rw [firstE, if_pos he0]; rfl
    replace he0 : Hd (e0 = 0) := he0
    refine zK tyF ?_
    exact fin (.o .nilS) (8) _ _ qp qp qe (g4) (⟨by rw [← hr0, if_neg (fun h => c1 h.2)]; exact SlI.nil, by rw [← hr0, if_neg (fun h => c1 h.2)], fun _ h => by cases h⟩)

  refine zS (qA tyF bd_need) ?_
  refine WE.con (need_con H2 true 8) fun w H3 g3 hq => ?_
  subst hq
  have rx := (g3.get _ m1 not_false).trans rx
  have m1 := Nat.lt_of_lt_of_le m1 g3.nx
  have hu := hu.gr g3
  have g3 := g2.gr g3
  refine zS (qA tyF bd_first) ?_
  refine WE.con (first_con _ _ [e0, 0] (slI_two _ _) (by show 2 ≤ _; omega)) fun w H4 g4 hq => ?_
  subst hq
  have g4 : Gr H3 H4 := ((Fr.refl _).new _).gr g4
  have rx := (g4.get _ m1 not_false).trans rx
  have m1 := Nat.lt_of_lt_of_le m1 g4.nx
  have hu := hu.gr g4
  have g4 := g3.gr g4
  by_cases he0 : e0 = 0
  case neg =>
    have ce : (firstE [e0, 0] == 0) = false := by rw [firstE, if_neg he0]; exact beq_false_of_ne he0
    have cf : firstE [e0, 0] = e0 := by rw [firstE, if_neg he0]
    rw [cf] at ce
    refine zK tyF ?_
    exact fin (.o .nilS) (e0) _ _ qp qp qe (g4) (⟨by rw [← hr0, if_pos he0]; exact SlI.nil, by rw [← hr0, if_pos he0], fun _ h => by cases h⟩)
  rw [if_neg (fun h => h he0)] at hr0
  have cf : firstE [e0, 0] = 0 := by rw [firstE, if_pos he0]; rfl
  obtain ⟨_, _, hf⟩ := hok he0
  have hul := (hok he0).1
  replace he0 : Hd (e0 = 0) := he0
  refine zK tyF ?_
  refine zG (qA tyF bd_split) fun K hK => ?_
  refine WE.con (split_con H4 nm u us n hu (by omega) c0 c1 hf) fun w H5 g5 ⟨c, hq, hc, hfr⟩ => ?_
  subst hq
  refine zK tyF ?_
  exact fin (c) (0) _ _ qp qp qe (g4.gr g5) (⟨by rw [← hr0, if_pos ⟨c0, c1⟩]; exact hc, by rw [← hr0, if_pos ⟨c0, c1⟩], fun id h => Nat.le_trans g4.nx (hfr id h)⟩)
end Go.Proofs.YtekoajibckipkaaGreat
namespace Go.Proofs.YtekoajibckipkaaGreat
open Go Go.Eng
def topV : List Int → Int → List Int
  | [], _ => []
  | w :: l, n => (l.head?.elim n fun y => n % y) / w :: topV l n
theorem topV_len : ∀ (vs : List Int) (n : Int), (topV vs n).length = vs.length
  | [], _ => rfl
  | _ :: l, n => by rw [topV, List.length_cons, topV_len l, List.length_cons]
theorem valsU_cons {v : Int} {x : Pr} {l : List Pr} {vs : List Int} (h : valsU v (x :: l) = some vs) : ∃ ws, vs = v * x.2 :: ws ∧ valsU (v * x.2) l = some ws := by
  rw [valsU] at h
  by_cases hb : 1099511627776 < v * x.2
  · rw [if_pos hb] at h; cases h
  · rw [if_neg hb] at h
    cases hw : valsU (v * x.2) l with
    | none => rw [hw] at h; cases h
    | some ws => rw [hw] at h; cases h; exact ⟨ws, rfl, rfl⟩
theorem valsU_len : ∀ {us : List Pr} {v : Int} {vs : List Int}, valsU v us = some vs → vs.length = us.length
  | [], _, _, h => by cases h; rfl
  | x :: l, v, vs, h => by
    obtain ⟨ws, rfl, hw⟩ := valsU_cons h
    rw [List.length_cons, List.length_cons, valsU_len hw]
theorem valsU_pos : ∀ {us : List Pr} {v : Int} {vs : List Int}, valsU v us = some vs → 1 ≤ v → (∀ x ∈ us, 1 ≤ x.2 ∧ x.2 ≤ 60) → ∀ w ∈ vs, 1 ≤ w ∧ v ∣ w
  | [], _, _, h, _, _, w, hw => by cases h; cases hw
  | x :: l, v, vs, h, hv, hf, w, hw => by
    obtain ⟨ws, rfl, hws⟩ := valsU_cons h
    have h1 := (hf x (List.mem_cons_self ..)).1
    have h2 : 1 ≤ v * x.2 := by have := Int.mul_le_mul hv h1 (by omega) (by omega); omega
    rcases List.mem_cons.1 hw with rfl | hw
    · exact ⟨h2, Int.dvd_mul_right _ _⟩
    · obtain ⟨a, b⟩ := valsU_pos hws h2 (fun y hy => hf y (List.mem_cons_of_mem _ hy)) w hw
      exact ⟨a, Int.dvd_trans (Int.dvd_mul_right _ _) b⟩
theorem valsU_dvd : ∀ {us : List Pr} {v : Int} {vs : List Int}, valsU v us = some vs → 1 ≤ v → (∀ x ∈ us, 1 ≤ x.2 ∧ x.2 ≤ 60) → ∀ i a b, vs[i]? = some a → vs[i + 1]? = some b → a ∣ b
  | [], _, _, h, _, _, i, a, b, ha, _ => by cases h; simp at ha
  | x :: l, v, vs, h, hv, hf, i, a, b, ha, hb => by
    obtain ⟨ws, rfl, hws⟩ := valsU_cons h
    have h1 := (hf x (List.mem_cons_self ..)).1
    have h2 : 1 ≤ v * x.2 := by have := Int.mul_le_mul hv h1 (by omega) (by omega); omega
    have hf' : ∀ y ∈ l, 1 ≤ y.2 ∧ y.2 ≤ 60 := fun y hy => hf y (List.mem_cons_of_mem _ hy)
    rw [List.getElem?_cons_succ] at hb
    cases i with
    | zero =>
      rw [List.getElem?_cons_zero] at ha
      cases ha
      exact (valsU_pos hws h2 hf' b (List.mem_of_getElem? hb)).2
    | succ i =>
      rw [List.getElem?_cons_succ] at ha
      exact valsU_dvd hws h2 hf' i a b ha hb
theorem mod_div (n a b : Int) (hn : 0 ≤ n) (ha : 1 ≤ a) (hb : 1 ≤ b) : n % (a * b) / a = n / a % b := by
  obtain ⟨m, rfl⟩ := Int.eq_ofNat_of_zero_le hn
  obtain ⟨x, rfl⟩ := Int.eq_ofNat_of_zero_le (show 0 ≤ a by omega)
  obtain ⟨y, rfl⟩ := Int.eq_ofNat_of_zero_le (show 0 ≤ b by omega)
  have := Nat.mod_mul_right_div_self m x y
  exact_mod_cast this
theorem div_div' (n a b : Int) (hn : 0 ≤ n) (ha : 1 ≤ a) (hb : 1 ≤ b) : n / a / b = n / (a * b) := by
  obtain ⟨m, rfl⟩ := Int.eq_ofNat_of_zero_le hn
  obtain ⟨x, rfl⟩ := Int.eq_ofNat_of_zero_le (show 0 ≤ a by omega)
  obtain ⟨y, rfl⟩ := Int.eq_ofNat_of_zero_le (show 0 ≤ b by omega)
  have := Nat.div_div_eq_div_mul m x y
  exact_mod_cast this
theorem topV_split : ∀ (l : List Pr) (x : Pr) (v : Int) (vs : List Int) (n : Int), valsU v (x :: l) = some vs → 0 ≤ n → 1 ≤ v → (∀ y ∈ x :: l, 1 ≤ y.2 ∧ y.2 ≤ 60) → topV vs n = splitA (x :: l) (n / (v * x.2))
  | [], x, v, vs, n, h, _, _, _ => by
    obtain ⟨ws, rfl, hw⟩ := valsU_cons h
    cases hw
    rfl
  | y :: l, x, v, vs, n, h, hn, hv, hf => by
    obtain ⟨ws, rfl, hw⟩ := valsU_cons h
    have h1 := (hf x (List.mem_cons_self ..)).1
    have hy := (hf y (List.mem_cons_of_mem _ (List.mem_cons_self ..))).1
    have h2 : 1 ≤ v * x.2 := by have := Int.mul_le_mul hv h1 (by omega) (by omega); omega
    have ih := topV_split l y (v * x.2) ws n hw hn h2 fun z hz => hf z (List.mem_cons_of_mem _ hz)
    obtain ⟨zs, rfl, _⟩ := valsU_cons hw
    rw [topV, splitA, ih, List.head?_cons, Option.elim_some, mod_div n _ _ hn h2 hy, div_div' n _ _ hn h2 hy]
theorem setFill {α : Type} (z a : α) (l : List α) : ∀ i : Nat, (List.replicate (i + 1) z ++ l).set i a = List.replicate i z ++ a :: l
  | 0 => rfl
  | i + 1 => by
    rw [List.replicate_succ, List.cons_append, List.set_cons_succ, setFill z a l i, List.replicate_succ, List.cons_append]
end Go.Proofs.YtekoajibckipkaaGreat
namespace Go.Proofs.YtekoajibckipkaaGreat
open Go Go.Eng
theorem chkLad_first {nm : List UInt8} {us : List Pr} (h : chkLad nm us = 0) : ∃ x l, us = x :: l ∧ x.2 = 1 := by
  unfold chkLad at h
  cases hl : ladOK nm us with
  | false => rw [hl, if_neg Bool.false_ne_true] at h; cases h
  | true =>
    unfold ladOK at hl
    simp only [Bool.and_eq_true] at hl
    obtain ⟨⟨⟨⟨_, h1⟩, _⟩, _⟩, h2⟩ := hl
    cases us with
    | nil => simp at h1
    | cons x l =>
      refine ⟨x, l, rfl, ?_⟩
      have := List.all_eq_true.1 h2 0 (List.mem_range.2 (Nat.succ_pos _))
      unfold okU at this
      simp only [Bool.and_eq_true] at this
      have h3 := this.2
      simp at h3
      exact h3
set_option maxRecDepth 10000 in
set_option maxHeartbeats 16000000 in
theorem rSplit_con (H : Hp) (nm : List UInt8) (u : AC) (us : List Pr) (n : Int) (hu : SlP H u us) :
    Con E2 116 [.agg [.o (.str nm), u], .one (.i .i64 n)] H (fun _ => False) fun r H' => ∃ c, r = .tup [(false, [c]), (false, [.i .i64 (splitE nm us n).2])] ∧ SlI H' c (splitE nm us n).1 := by
  refine Con.of rfl fun lg => ?_
  have hu : SlP ⟨H.t, H.nx, lg⟩ u us := hu
  generalize (⟨H.t, H.nx, lg⟩ : Hp) = H at hu ⊢
  refine C1.body (E := E2) (nt := 53) (res := [.tmp 4, .tmp 5]) Tryz.func116 rfl rfl rfl rfl rfl fun tm hargs => ?_
  have h0 := hargs 0 _ rfl
  have h1 := hargs 1 _ rfl
  clear hargs
  generalize hr0 : splitE nm us n = r0
  have fin : ∀ (c : AC) (e : Int) (A : AAct) (H3 : Hp), slot A.tm 4 = .one c → slot A.tm 5 = .one (.i .i64 e) → A.dfr = [] → Gr H H3 → SlI H3 c r0.1 ∧ e = r0.2 → ∃ w H4, callEnd E2 [.tmp 4, .tmp 5] (.ret, A, H3) = .ok [(w, H4)] ∧ Gr H H4 ∧ ∀ lg' : List Nat, ∃ c, w = .tup [(false, [c]), (false, [.i .i64 r0.2])] ∧ SlI ⟨H4.t, H4.nx, lg'⟩ c r0.1 := fun c e A H3 h1 h2 h3 h4 h5 => ⟨_, H3, callEnd_two c (.i .i64 e) (.inr rfl) h3 h1 h2, h4, fun _ => ⟨c, by rw [h5.2], h5.1⟩⟩
  refine zG tyF fun K hK => ?_
  refine hK.out _ _ ?_
  refine R1.gen (fun A1 H1 => Gr H H1 ∧ H.nx < H1.nx ∧ H1.get H.nx = some (.arr [.o (.str nm), u] 68 0 0) ∧ slot A1.tm 1 = .one (.i .i64 (n : Int)) ∧ slot A1.tm 2 = .one ((.o (.ptr H.nx 0 0 2))) ∧ A1.nt = 53 ∧ A1.dfr = []) ⟨(Fr.refl _).new _, Nat.lt_succ_self _, get_newE rfl, zL⟩ ?_
  rintro A1 H1 ⟨g1, m1, rx, t1, t2, hnt, hdf⟩
  clear h0 h1 tm hK K
  have hu := hu.gr g1
  refine zG (qA tyF bd_refCheck) fun K hK => ?_
  refine WE.con (refCheck_con H1 nm u us hu) fun w H2 g2 hq => ?_
  subst hq
  have rx := (g2.get _ m1 not_false).trans rx
  have m1 := Nat.lt_of_lt_of_le m1 g2.nx
  have hu := hu.gr g2
  have g2 := g1.gr g2
  clear g1
  have hok := @chkLad_ok nm us
  have hfirst := @chkLad_first nm us
  unfold splitE at hr0
  generalize chkLad nm us = e0 at hr0 hok hfirst
  by_cases he0 : e0 = 0
  case neg =>
    have ce : (e0 == 0) = false := beq_false_of_ne he0
    refine zK tyF ?_
    exact fin (.o .nilS) (e0) _ _ qp qp qe (g2) (⟨by rw [← hr0, if_pos he0]; exact SlI.nil, by rw [← hr0, if_pos he0]⟩)
  rw [if_neg (fun h => h he0)] at hr0
  obtain ⟨hul, hyl, hf⟩ := hok he0
  obtain ⟨x0, us', hus, hx0⟩ := hfirst he0
  clear hok hfirst
  have ce : (e0 == 0) = true := by rw [he0]; rfl
  replace he0 : Hd (e0 = 0) := he0
  by_cases c0 : n < 0
  · refine zK tyF ?_
    exact fin (.o .nilS) (8) _ _ qp qp qe (g2) (⟨by rw [← hr0, if_neg (fun h => absurd h.1 (by omega))]; exact SlI.nil, by rw [← hr0, if_neg (fun h => absurd h.1 (by omega))]⟩)
  by_cases c1 : 1099511627776 < n
  · refine zK tyF ?_
    exact fin (.o .nilS) (8) _ _ qp qp qe (g2) (⟨by rw [← hr0, if_neg (fun h => absurd h.2 (by omega))]; exact SlI.nil, by rw [← hr0, if_neg (fun h => absurd h.2 (by omega))]⟩)
  rw [if_pos ⟨by omega, by omega⟩] at hr0
  refine zK tyF ?_
  refine zG (qA tyF bd_values) fun K hK => ?_
  refine WE.con (values_con H2 nm u us hu (by omega) hf) fun w H3 g3 ⟨c, hq, hc⟩ => ?_
  subst hq
  obtain ⟨vs, hvs⟩ : ∃ vs, valsU 1 us = some vs := ⟨_, vals_yv 1 us hyl⟩
  rw [hvs, Option.getD_some] at hc
  have hvl : vs.length ≤ 12 := by rw [valsU_len hvs]; exact hul
  have hvp := fun w hw => (valsU_pos hvs (by omega) hf w hw).1
  have hvd := valsU_dvd hvs (by omega) hf
  have htop : topV vs n = splitA us n := by
    have := topV_split us' x0 1 vs n (by rw [← hus]; exact hvs) (by omega) (by omega) (by rw [← hus]; exact hf)
    rw [this, ← hus, hx0, Int.one_mul, Int.ediv_one]
  rw [← htop] at hr0
  have hvs1 : (valsU 1 us).isSome = true := by rw [hvs]; rfl
  have g3 := g2.gr g3
  clear g2 hyl hus htop hvs
  obtain ⟨z, hz, hzc⟩ : ∃ z, zeroT Tryz.prog 3 = some z ∧ (ofValue z).cells = [.i .i64 0] := ⟨.int .i64 0, zv_int, rfl⟩
  have mk : ∀ H, doMakeSlice Tryz.prog H 33 (.one (.i .i64 (vs.length : Int))) (.one (.i .i64 (vs.length : Int))) = .val (.one (.o (.sl H.nx 0 0 vs.length 1))) (H.new (.arr ((List.replicate vs.length (0 : Int)).map (AC.i .i64)) 3 0 0)) := fun H => by
    rw [make_slice el_ints by_int hz (by rw [hzc]; rfl) (by omega), hzc, repl_eq, List.map_replicate]
  clear hz hzc
  have l1 := hc.len
  have l2 := hc.lt
  have hcl : ∀ k ∈ (AV.one c).ids, k < H3.nx := hc.lt
  refine zK tyF ?_
  refine R1.gen (fun A4 H4 => Gr H H4 ∧ SlI H4 c vs ∧ H3.nx < H4.nx ∧ H4.get H3.nx = some (.arr ((List.replicate vs.length (0 : Int) ++ topV (vs.drop vs.length) n).map (AC.i .i64)) 3 0 0) ∧ slot A4.tm 1 = .one (.i .i64 (n : Int)) ∧ slot A4.tm 7 = .one (c) ∧ slot A4.tm 9 = .one ((.o (.sl H3.nx 0 0 vs.length 1))) ∧ A4.nt = 53 ∧ A4.dfr = [])
    ⟨g3.new _, hc.gr ((Fr.refl _).new _), Nat.lt_succ_self _, by rw [get_newE rfl, List.drop_length, topV, List.append_nil], zL⟩ ?_
  clear t1 t2 hnt hdf A1 mk l1 l2 hK K rx m1 hvs1
  rintro A H4 ⟨g4, hc, m2, rs, t1, t7, t9, hnt, hdf⟩
  obtain ⟨M, hM⟩ : ∃ M, M = H3.nx := ⟨_, rfl⟩
  rw [← hM] at m2 rs t9 hcl
  have hMH : H.nx ≤ M := by have := g3.nx; omega
  clear hM
  have hw0 : IntKind.i64.wrap ((vs.length : Int) - 1) = (vs.length : Int) - 1 := wrapI (by omega) (by omega)
  refine zW (qA tyF (qA hc.len hc.lt)) ?_
  refine R1.s_bl fun K k1 k2 k3 k4 => ?_
  refine R1.loop (fun m A H5 => ∃ i : Nat, m = i ∧ i ≤ vs.length ∧ Gr H H5 ∧ Fr (fun k => k = M) H4 H5 ∧ H5.get M = some (.arr ((List.replicate i (0 : Int) ++ topV (vs.drop i) n).map (AC.i .i64)) 3 0 0) ∧ slot A.tm 1 = .one (.i .i64 (((vs[i]?).elim n fun w => n % w) : Int)) ∧ slot A.tm 7 = .one (c) ∧ slot A.tm 9 = .one ((.o (.sl M 0 0 vs.length 1))) ∧ slot A.tm 10 = .one (.i .i64 (((i : Int) - 1) : Int)) ∧ A.nt = 53 ∧ A.dfr = []) ?_ vs.length
    ⟨vs.length, rfl, Nat.le_refl _, g4, Fr.refl _, rs, by rw [List.getElem?_eq_none (Nat.le_refl _), Option.elim_none]; exact zL⟩
  clear t1 t7 t9 hnt hdf A rs hw0 k3
  rintro m A H5 ⟨i, hmi, hi, g5, f5, rs, t1, t7, t9, t10, hnt, hdf⟩
  have hcn : ∀ k ∈ (AV.one c).ids, ¬ k = M := fun k hk e => by have := hcl k hk; omega
  have hc5 : SlI H5 c vs := SlC.fr hc f5 hcn
  have m5 : M < H5.nx := Nat.lt_of_lt_of_le m2 f5.nx
  refine zW tyF ?_
  refine zI tyF (fun hq => ?_) (fun hq => ?_)
  · obtain ⟨j, rfl⟩ : ∃ j, i = j + 1 := ⟨i - 1, by omega⟩
    have hlt : j < vs.length := by omega
    have ew : vs[j]? = some vs[j] := List.getElem?_eq_getElem hlt
    have hdj : vs.drop j = vs[j] :: vs.drop (j + 1) := List.drop_eq_getElem_cons hlt
    have hwp := hvp vs[j] (List.getElem_mem hlt)
    have hdv := fun b => hvd j vs[j] b ew
    generalize vs[j] = w at ew hdj hwp hdv
    generalize hk : (vs[j + 1]?.elim n fun w => n % w) = k at t1
    have hkw : k % w = (vs[j]?).elim n fun w => n % w := by
      rw [ew, Option.elim_some, ← hk]
      cases hb : vs[j + 1]? with
      | none => rfl
      | some b => rw [Option.elim_some]; exact Int.emod_emod_of_dvd n (hdv b hb)
    have htv : topV (vs.drop j) n = k / w :: topV (vs.drop (j + 1)) n := by
      rw [hdj, topV, ← hk, List.head?_drop]
    have hk0 : 0 ≤ k := by
      rw [← hk]
      cases hb : vs[j + 1]? with
      | none => exact (by omega : 0 ≤ n)
      | some b => exact Int.emod_nonneg _ (by have := hvp b (List.mem_of_getElem? hb); omega)
    have hkn : k ≤ 1099511627776 := by
      rw [← hk]
      cases hb : vs[j + 1]? with
      | none => exact (by omega : n ≤ 1099511627776)
      | some b =>
        have h1 := Int.emod_nonneg n (show b ≠ 0 by have := hvp b (List.mem_of_getElem? hb); omega)
        have h2 := Int.emod_lt_of_pos n (show 0 < b by have := hvp b (List.mem_of_getElem? hb); omega)
        have h3 : n % b ≤ n := by
          obtain ⟨x, rfl⟩ := Int.eq_ofNat_of_zero_le (show 0 ≤ n by omega)
          obtain ⟨y, rfl⟩ := Int.eq_ofNat_of_zero_le (show 0 ≤ b by omega)
          have := Nat.mod_le x y
          exact_mod_cast this
        show n % b ≤ _
        omega
    clear hk hdj hdv
    obtain ⟨id, g, off, cells, rfl, hid, hgr, hat⟩ := hc5.open (by omega)
    have hne : id ≠ M := hcn id (List.mem_singleton.2 rfl)
    obtain ⟨y1, y2⟩ := hat j w ew
    rw [Nat.mul_one] at y1 y2
    have hgm : ∀ X, rowOf ((H5.mod M X).get id) g = some cells := fun X => by rw [get_modN hne]; exact hgr
    have hw0 : w ≠ 0 := by omega
    have e1 : k.tmod w = k % w := Int.tmod_eq_emod_of_nonneg hk0
    have e3 : k / w ≤ k := Int.ediv_le_self _ hk0
    have e4 : 0 ≤ k / w := Int.ediv_nonneg hk0 (by omega)
    have e2 : IntKind.i64.wrap (k.tdiv w) = k / w := by rw [Int.tdiv_eq_ediv_of_nonneg hk0]; exact wrapI (by omega) (by omega)
    have ej : (((j + 1 : Nat) : Int) - 1) = (j : Int) := by omega
    have ej2 : IntKind.i64.wrap ((j : Int) - 1) = (j : Int) - 1 := wrapI (by omega) (by omega)
    rw [ej] at t10
    have hle : j + 1 ≤ ((List.replicate (j + 1) (0 : Int) ++ topV (vs.drop (j + 1)) n).map (AC.i .i64)).length := by rw [List.length_map, List.length_append, List.length_replicate]; omega
    have hput : List.take j ((List.replicate (j + 1) (0 : Int) ++ topV (vs.drop (j + 1)) n).map (AC.i .i64)) ++ AC.i .i64 (k / w) :: List.drop (j + 1) ((List.replicate (j + 1) (0 : Int) ++ topV (vs.drop (j + 1)) n).map (AC.i .i64)) = (List.replicate j (0 : Int) ++ topV (vs.drop j) n).map (AC.i .i64) := by
      rw [setRow (AC.i .i64) _ _ (k / w) (by rw [List.length_append, List.length_replicate]; omega), setFill, ← htv]
    clear htv hat hq
    refine zW tyF ?_
    refine R1.s_bl fun K2 q1 q2 q3 q4 => ?_
    refine zW (qA tyF (qA (ixC hlt) (qA hput (qA Nat.mul_one (qA hle (qA arQ (qA (quoI hw0) (remI hw0)))))))) ?_
    refine q1.out _ _ ?_
    refine zW tyF ?_
    exact ⟨j, by omega, j, rfl, by omega, g5.mod _ (.inl hMH), f5.mod _ (.inr rfl), get_modE rfl, zL⟩
  · have hie : i = 0 := by omega
    refine zW tyF ?_
    refine k2.out _ _ ?_
    refine zW tyF ?_
    rw [hie, List.drop_zero, List.replicate_zero, List.nil_append] at rs
    have hsl := slI_row rs (Nat.le_refl _) m5
    rw [topV_len] at hsl
    exact fin (.o (.sl M 0 0 vs.length 1)) (0) _ _ qp qp qe (g5) (⟨by rw [← hr0]; exact hsl, by rw [← hr0]⟩)
end Go.Proofs.YtekoajibckipkaaGreat
namespace Go.Proofs.YtekoajibckipkaaGreat
open Go Go.Eng
theorem bd_slips : hasBody Tryz.prog 71 = true := by kernel_rfl
theorem bd_slips1 : hasBody Tryz.prog 107 = true := by kernel_rfl
theorem bd_room : hasBody Tryz.prog 110 = true := by kernel_rfl
theorem bd_pass : hasBody Tryz.prog 111 = true := by kernel_rfl
abbrev Sp := Int × List UInt8 × Int
def spC (x : Sp) : List AC := [.i .i64 x.1, .o (.str x.2.1), .i .i64 x.2.2]
def okN (m : Int) : Bool := decide (1 ≤ m) && decide (m ≤ 1099511627776)
def roomB (us : List Pr) (i : Nat) (k : Int) : Bool := ((i + 1 : Nat) : Int) == (us.length : Int) || decide (k < (us.getD (i + 1) ([], 0)).2)
def one (b : Bool) (x : Sp) : List Sp := if (b && okN x.2.2) = true then [x] else []
def slipsAt (us : List Pr) (cs vs : List Int) (n : Int) (i : Nat) : List Sp :=
  one (decide (0 < cs.getD i 0)) (1, (us.getD i ([], 0)).1, n - vs.getD i 0) ++ one (roomB us i (cs.getD i 0 + 1)) (2, (us.getD i ([], 0)).1, n + vs.getD i 0) ++
  (if i + 1 = us.length then [] else
    one (cs.getD i 0 == 0 && decide (0 < cs.getD (i + 1) 0) && roomB us i (cs.getD (i + 1) 0)) (3, (us.getD i ([], 0)).1, n - cs.getD (i + 1) 0 * vs.getD (i + 1) 0 + cs.getD (i + 1) 0 * vs.getD i 0) ++
    one (cs.getD (i + 1) 0 == 0 && decide (0 < cs.getD i 0) && roomB us (i + 1) (cs.getD i 0)) (4, (us.getD (i + 1) ([], 0)).1, n - cs.getD i 0 * vs.getD i 0 + cs.getD i 0 * vs.getD (i + 1) 0))
def slA (S : List Sp) (j : Nat) : List AV := match S[j]? with
  | some x => [.agg (spC x)]
  | none => [.any]
theorem slA_len (S : List Sp) (j : Nat) : (slA S j).length = 1 := by
  unfold slA
  split <;> rfl
theorem slA_at {S : List Sp} {j : Nat} {x : Sp} (h : S[j]? = some x) : slA S j = [.agg (spC x)] := by
  unfold slA
  rw [h]
set_option maxRecDepth 10000 in
set_option maxHeartbeats 8000000 in
theorem room_con (H : Hp) (us : List Pr) (cs : List Int) (nm : List UInt8) (u c : AC) (rc il : Nat) (i : Nat) (k : Int) (hu : SlP H u us) (hc : SlI H c cs) (hl : cs.length = us.length) (hi : i < us.length) (hL : us.length ≤ 1000000) (hrc : rc < H.nx) (hil : il < H.nx) (hgc : H.get rc = some (.arr [c] 33 0 0)) (hgl : H.get il = some (.arr [.o (.str nm), u] 68 0 0)) :
    Con E2 110 [.one (.i .i64 (i : Int)), .one (.i .i64 k), .one (.o (.ptr rc 0 0 1)), .one (.o (.ptr il 0 0 2))] H (fun _ => False) fun r _ => r = .one (.b (roomB us i k)) := by
  refine Con.of rfl fun lg => ?_
  have hu : SlP ⟨H.t, H.nx, lg⟩ u us := hu
  have hc : SlI ⟨H.t, H.nx, lg⟩ c cs := hc
  have hrc : rc < Hp.nx ⟨H.t, H.nx, lg⟩ := hrc
  have hil : il < Hp.nx ⟨H.t, H.nx, lg⟩ := hil
  have hgc : Hp.get ⟨H.t, H.nx, lg⟩ rc = some (.arr [c] 33 0 0) := hgc
  have hgl : Hp.get ⟨H.t, H.nx, lg⟩ il = some (.arr [.o (.str nm), u] 68 0 0) := hgl
  generalize (⟨H.t, H.nx, lg⟩ : Hp) = H at hu hc hrc hil hgc hgl ⊢
  refine C1.body (E := E2) (nt := 23) (res := [.tmp 6]) Tryz.func110 rfl rfl rfl rfl rfl fun tm hargs => ?_
  have h0 := hargs 0 _ rfl
  have h1 := hargs 1 _ rfl
  have h2 := hargs 2 _ rfl
  have h3 := hargs 3 _ rfl
  clear hargs
  have fin : ∀ (e : Bool) (A : AAct) (H3 : Hp), slot A.tm 6 = .one (.b e) → A.dfr = [] → Gr H H3 → e = roomB us i k → ∃ w H4, callEnd E2 [.tmp 6] (.ret, A, H3) = .ok [(w, H4)] ∧ Gr H H4 ∧ ∀ _ : List Nat, w = .one (.b (roomB us i k)) := fun e A H3 h1 h2 h3 h4 => ⟨_, H3, callEnd_one (.b e) (.inr rfl) h2 h1, h3, fun _ => by rw [h4]⟩
  generalize hr0 : roomB us i k = r0 at fin
  have l1 := hc.len
  have l2 := hc.lt
  rw [hl] at l1
  replace hl : Hd (cs.length = us.length) := hl
  have hw2 : IntKind.i64.wrap ((i : Int) + 1) = ((i + 1 : Nat) : Int) := by rw [wrapI (by omega) (by omega)]; omega
  unfold roomB at hr0
  cases hcc : (((i + 1 : Nat) : Int) == (us.length : Int)) with
  | true =>
    refine zW tyF ?_
    exact fin (true) _ _ qp qe (Fr.refl _) ((by rw [hcc, Bool.true_or] at hr0; exact hr0))
  | false =>
    have hlt : i + 1 < us.length := by have := ne_of_beq_false hcc; omega
    obtain ⟨id, g, off, cells, rfl, hid, hgr, hat⟩ := hu.open (by omega)
    have ey : us[i + 1]? = some (us.getD (i + 1) ([], 0)) := by rw [List.getD_eq_getElem?_getD, List.getElem?_eq_getElem hlt]; rfl
    have hy := hat _ _ ey
    have y1 := hy.snd
    have y2 := hy.le2
    clear hat
    refine zW (qA tyF (ixC hlt)) ?_
    exact fin ((decide (k < (us.getD (i + 1) ([], 0)).2))) _ _ qp qe (Fr.refl _) ((by rw [hcc, Bool.false_or] at hr0; exact hr0))
set_option maxRecDepth 10000 in
set_option maxHeartbeats 8000000 in
theorem pass_con {σ : Type} {L : Nat} {S : List Sp} {Dn : Nat → Prop} (B : YB E2 L S.length (slA S) Dn σ) (s : σ) (j : Nat) (H : Hp) (us : List Pr) (nm : List UInt8) (u : AC) (rb il : Nat) (kd : Int) (i : Nat) (m : Int) (hj : B.J j s H) (hu : SlP H u us) (hi : i < us.length) (hL : us.length ≤ 1000000) (hrb : rb < H.nx) (hil : il < H.nx)
    (hgb : H.get rb = some (.arr [.o (.yl L)] 182 0 0)) (hgl : H.get il = some (.arr [.o (.str nm), u] 68 0 0)) (hS : okN m = true → S[j]? = some (kd, (us.getD i ([], 0)).1, m)) :
    Con E2 111 [.one (.i .i64 kd), .one (.i .i64 (i : Int)), .one (.i .i64 m), .one (.o (.ptr rb 0 0 1)), .one (.o (.ptr il 0 0 2))] H (B.fp s) fun r H' => ∃ b s', r = .one (.b b) ∧ (b = true → B.J (if okN m = true then j + 1 else j) s' H') ∧ (b = false → B.F s' H') ∧ ∀ k, B.fp s' k → B.fp s k ∨ H.nx ≤ k := by
  refine Con.of rfl fun lg => ?_
  have hj : B.J j s ⟨H.t, H.nx, lg⟩ := B.hJ hj (Nat.le_refl _) fun _ _ => rfl
  have hu : SlP ⟨H.t, H.nx, lg⟩ u us := hu
  have hrb : rb < (⟨H.t, H.nx, lg⟩ : Hp).nx := hrb
  have hil : il < (⟨H.t, H.nx, lg⟩ : Hp).nx := hil
  have hgb : (⟨H.t, H.nx, lg⟩ : Hp).get rb = some (.arr [.o (.yl L)] 182 0 0) := hgb
  have hgl : (⟨H.t, H.nx, lg⟩ : Hp).get il = some (.arr [.o (.str nm), u] 68 0 0) := hgl
  have e0 : H.nx = (⟨H.t, H.nx, lg⟩ : Hp).nx := rfl
  rw [e0]
  clear e0
  generalize (⟨H.t, H.nx, lg⟩ : Hp) = H at hj hu hrb hil hgb hgl ⊢
  generalize hj' : (if okN m = true then j + 1 else j) = j'
  refine C1.body (E := E2) (nt := 28) (res := [.tmp 8]) Tryz.func111 rfl rfl rfl rfl rfl fun tm hargs => ?_
  have h0 := hargs 0 _ rfl
  have h1 := hargs 1 _ rfl
  have h2 := hargs 2 _ rfl
  have h3 := hargs 3 _ rfl
  have h4 := hargs 4 _ rfl
  clear hargs
  have fin : ∀ (b : Bool) (A : AAct) (H3 : Hp) (s' : σ), slot A.tm 8 = .one (.b b) → A.dfr = [] → Fr (B.fp s) H H3 → (b = true → B.J j' s' H3) → (b = false → B.F s' H3) → (∀ k, B.fp s' k → B.fp s k ∨ H.nx ≤ k) →
      ∃ w H4, callEnd E2 [.tmp 8] (.ret, A, H3) = .ok [(w, H4)] ∧ Fr (B.fp s) H H4 ∧ ∀ lg', ∃ b s', w = .one (.b b) ∧ (b = true → B.J j' s' ⟨H4.t, H4.nx, lg'⟩) ∧ (b = false → B.F s' ⟨H4.t, H4.nx, lg'⟩) ∧ ∀ k, B.fp s' k → B.fp s k ∨ H.nx ≤ k := fun b A H3 s' h1 h2 h3 h4 h5 h6 =>
    ⟨_, H3, callEnd_one (.b b) (.inr rfl) h2 h1, h3, fun _ => ⟨b, s', rfl, fun h => B.hJ (h4 h) (Nat.le_refl _) fun _ _ => rfl, fun h => B.hF (h5 h) (Nat.le_refl _) fun _ _ => rfl, h6⟩⟩
  by_cases c0 : m < 1
  · have hk : okN m = false := by unfold okN; rw [decide_eq_false (by omega)]; rfl
    rw [hk, if_neg Bool.false_ne_true] at hj'
    subst hj'
    refine zW tyF ?_
    exact fin true _ _ s qp qe (Fr.refl _) (fun _ => hj) (fun h => by cases h) fun _ h => .inl h
  by_cases c1 : 1099511627776 < m
  · have hk : okN m = false := by unfold okN; rw [decide_eq_false (show ¬ m ≤ 1099511627776 by omega), Bool.and_false]
    rw [hk, if_neg Bool.false_ne_true] at hj'
    subst hj'
    refine zW tyF ?_
    exact fin true _ _ s qp qe (Fr.refl _) (fun _ => hj) (fun h => by cases h) fun _ h => .inl h
  have hk : okN m = true := by unfold okN; rw [decide_eq_true (by omega), decide_eq_true (by omega)]; rfl
  rw [hk, if_pos rfl] at hj'
  subst hj'
  have hSj := hS hk
  have hjl : j < S.length := (List.getElem?_eq_some_iff.1 hSj).1
  have hp := B.pass j s H hjl hj
  rw [slA_at hSj, spC] at hp
  obtain ⟨id, g, off, cells, rfl, hid, hgr, hat⟩ := hu.open (by omega)
  have ey : us[i]? = some (us.getD i ([], 0)) := by rw [List.getD_eq_getElem?_getD, List.getElem?_eq_getElem hi]; rfl
  have hy := hat _ _ ey
  have y1 := hy.fst
  have y2 := hy.le1
  clear hat hS hSj hk ey
  generalize us.getD i ([], 0) = y at y1 hp
  refine zW tyF ?_
  refine zG (qA tyF (ixC hi)) fun K hK => ?_
  refine WE.conR hp fun v H4 hf4 ⟨b, s3, hv, hbt, hbf, hfp3⟩ => ?_
  subst hv
  refine zK tyF ?_
  exact fin b _ _ s3 qp qe hf4 hbt hbf hfp3
end Go.Proofs.YtekoajibckipkaaGreat
