/- A part of the proof: BkFacts, BkTy, BkUn, BkChk, BkCpy, BkBook, BkNew, BkLad, BkFacts2, BkGood, BkRef1, BkRef2, BkFacts3, BkRef3, BkRef6, BkBooks, BkArg, BkStay. No conditions. -/
import Derived.Test.YtekoajibckipkaaGreatQAh
import Derived.Test.YtekoajibckipkaaGreatQAe
import Derived.KernelRfl
import Derived.Carry
namespace Go.Proofs.YtekoajibckipkaaGreat
open Go Go.Eng
theorem ld_str : loadT Tryz.prog 9 = some (false, 1) := by kernel_rfl
theorem sz_str : sizeT Tryz.prog 9 = some 1 := by kernel_rfl
theorem zr_str : (zeroT Tryz.prog 9).map (fun z => (ofValue z).cells) = some [.o (.str [])] := by kernel_rfl
theorem ln_str : lenT Tryz.prog 9 = some 0 := by kernel_rfl
theorem is_str : isStrT Tryz.prog 9 = true := by kernel_rfl
theorem ad_str : addrT Tryz.prog 9 = 4 := by kernel_rfl
theorem ld_int : loadT Tryz.prog 3 = some (false, 1) := by kernel_rfl
theorem sz_int : sizeT Tryz.prog 3 = some 1 := by kernel_rfl
theorem by_int : bytesT Tryz.prog 3 = some 8 := by kernel_rfl
theorem zr_int : (zeroT Tryz.prog 3).map (fun z => (ofValue z).cells) = some [.i .i64 0] := by kernel_rfl
theorem zx_int : ∃ z, zeroT Tryz.prog 3 = some z ∧ (ofValue z).cells.length = 1 := by
  have h := zr_int
  cases hz : zeroT Tryz.prog 3 with
  | none => rw [hz] at h; cases h
  | some z =>
    rw [hz] at h
    exact ⟨z, rfl, by have : (ofValue z).cells = _ := Option.some.inj h; rw [this]; rfl⟩
theorem zv_int : zeroT Tryz.prog 3 = some (.int .i64 0) := by kernel_rfl
theorem un_int : Tryz.prog.underlying 3 = some (.int .i64) := by kernel_rfl
theorem ad_int : addrT Tryz.prog 3 = 4 := by kernel_rfl
theorem ld_bool : loadT Tryz.prog 4 = some (false, 1) := by kernel_rfl
theorem sz_bool : sizeT Tryz.prog 4 = some 1 := by kernel_rfl
theorem zr_bool : (zeroT Tryz.prog 4).map (fun z => (ofValue z).cells) = some [.b false] := by kernel_rfl
theorem zv_bool : zeroT Tryz.prog 4 = some (.bool false) := by kernel_rfl
theorem un_bool : Tryz.prog.underlying 4 = some .bool := by kernel_rfl
theorem ad_bool : addrT Tryz.prog 4 = 4 := by kernel_rfl
theorem ld_errno : loadT Tryz.prog 28 = some (false, 1) := by kernel_rfl
theorem sz_errno : sizeT Tryz.prog 28 = some 1 := by kernel_rfl
theorem zr_errno : (zeroT Tryz.prog 28).map (fun z => (ofValue z).cells) = some [.i .i64 0] := by kernel_rfl
theorem ad_errno : addrT Tryz.prog 28 = 4 := by kernel_rfl
theorem ld_unit : loadT Tryz.prog 137 = some (true, 2) := by kernel_rfl
theorem sz_unit : sizeT Tryz.prog 137 = some 2 := by kernel_rfl
theorem by_unit : bytesT Tryz.prog 137 = some 24 := by kernel_rfl
theorem zr_unit : (zeroT Tryz.prog 137).map (fun z => (ofValue z).cells) = some [.o (.str []), .i .i64 0] := by kernel_rfl
theorem zx_unit : ∃ z, zeroT Tryz.prog 137 = some z ∧ (ofValue z).cells.length = 2 := by
  have h := zr_unit
  cases hz : zeroT Tryz.prog 137 with
  | none => rw [hz] at h; cases h
  | some z =>
    rw [hz] at h
    exact ⟨z, rfl, by have : (ofValue z).cells = _ := Option.some.inj h; rw [this]; rfl⟩
theorem ad_unit : addrT Tryz.prog 137 = 4 := by kernel_rfl
theorem fd_unit_0 : fieldT Tryz.prog 137 0 = some (0, 9, 1) := by kernel_rfl
theorem fd_unit_1 : fieldT Tryz.prog 137 1 = some (1, 3, 1) := by kernel_rfl
def pl_unit : Nat → Option (Nat × Nat) := fun i => (#[(0, 1), (1, 1)] : Array (Nat × Nat))[i]?
theorem pt_unit : placeT Tryz.prog 137 = some pl_unit := by kernel_rfl
theorem pl_unit_0 : pl_unit 0 = some (0, 1) := rfl
theorem pl_unit_1 : pl_unit 1 = some (1, 1) := rfl
theorem eq_unit : eqK Tryz.prog 137 = some [.s, .i] := by kernel_rfl
theorem ld_units : loadT Tryz.prog 66 = some (false, 1) := by kernel_rfl
theorem sz_units : sizeT Tryz.prog 66 = some 1 := by kernel_rfl
theorem zr_units : (zeroT Tryz.prog 66).map (fun z => (ofValue z).cells) = some [.o .nilS] := by kernel_rfl
theorem el_units : elemT Tryz.prog 66 = some (137, 2) := by kernel_rfl
theorem ln_units : lenT Tryz.prog 66 = some 1 := by kernel_rfl
theorem ad_units : addrT Tryz.prog 66 = 1 := by kernel_rfl
theorem ld_lad : loadT Tryz.prog 68 = some (true, 2) := by kernel_rfl
theorem sz_lad : sizeT Tryz.prog 68 = some 2 := by kernel_rfl
theorem zr_lad : (zeroT Tryz.prog 68).map (fun z => (ofValue z).cells) = some [.o (.str []), .o .nilS] := by kernel_rfl
theorem ad_lad : addrT Tryz.prog 68 = 4 := by kernel_rfl
theorem fd_lad_0 : fieldT Tryz.prog 68 0 = some (0, 9, 1) := by kernel_rfl
theorem fd_lad_1 : fieldT Tryz.prog 68 1 = some (1, 66, 1) := by kernel_rfl
def pl_lad : Nat → Option (Nat × Nat) := fun i => (#[(0, 1), (1, 1)] : Array (Nat × Nat))[i]?
theorem pt_lad : placeT Tryz.prog 68 = some pl_lad := by kernel_rfl
theorem pl_lad_0 : pl_lad 0 = some (0, 1) := rfl
theorem pl_lad_1 : pl_lad 1 = some (1, 1) := rfl
theorem ld_lads : loadT Tryz.prog 22 = some (false, 1) := by kernel_rfl
theorem sz_lads : sizeT Tryz.prog 22 = some 1 := by kernel_rfl
theorem zr_lads : (zeroT Tryz.prog 22).map (fun z => (ofValue z).cells) = some [.o .nilS] := by kernel_rfl
theorem el_lads : elemT Tryz.prog 22 = some (68, 2) := by kernel_rfl
theorem ln_lads : lenT Tryz.prog 22 = some 1 := by kernel_rfl
theorem ad_lads : addrT Tryz.prog 22 = 1 := by kernel_rfl
theorem ld_mSB : loadT Tryz.prog 178 = some (false, 1) := by kernel_rfl
theorem sz_mSB : sizeT Tryz.prog 178 = some 1 := by kernel_rfl
theorem zr_mSB : (zeroT Tryz.prog 178).map (fun z => (ofValue z).cells) = some [.o .nilM] := by kernel_rfl
theorem ln_mSB : lenT Tryz.prog 178 = some 2 := by kernel_rfl
theorem mp_mSB : mapT Tryz.prog 178 = some (9, 4) := by kernel_rfl
theorem kk_mSB : keyKind Tryz.prog 9 = 0 := by kernel_rfl
theorem ad_mSB : addrT Tryz.prog 178 = 2 := by kernel_rfl
theorem ld_mSI : loadT Tryz.prog 32 = some (false, 1) := by kernel_rfl
theorem sz_mSI : sizeT Tryz.prog 32 = some 1 := by kernel_rfl
theorem zr_mSI : (zeroT Tryz.prog 32).map (fun z => (ofValue z).cells) = some [.o .nilM] := by kernel_rfl
theorem ln_mSI : lenT Tryz.prog 32 = some 2 := by kernel_rfl
theorem mp_mSI : mapT Tryz.prog 32 = some (9, 3) := by kernel_rfl
theorem kk_mSI : keyKind Tryz.prog 9 = 0 := by kernel_rfl
theorem ad_mSI : addrT Tryz.prog 32 = 2 := by kernel_rfl
theorem ld_pbook : loadT Tryz.prog 24 = some (false, 1) := by kernel_rfl
theorem sz_pbook : sizeT Tryz.prog 24 = some 1 := by kernel_rfl
theorem zr_pbook : (zeroT Tryz.prog 24).map (fun z => (ofValue z).cells) = some [.o .nilP] := by kernel_rfl
theorem ad_pbook : addrT Tryz.prog 24 = 0 := by kernel_rfl
theorem ld_book : loadT Tryz.prog 36 = some (true, 4) := by kernel_rfl
theorem sz_book : sizeT Tryz.prog 36 = some 4 := by kernel_rfl
theorem zr_book : (zeroT Tryz.prog 36).map (fun z => (ofValue z).cells) = some [.o .nilS, .o .nilM, .o .nilS, .o .nilS] := by kernel_rfl
theorem ad_book : addrT Tryz.prog 36 = 4 := by kernel_rfl
theorem fd_book_0 : fieldT Tryz.prog 36 0 = some (0, 22, 1) := by kernel_rfl
theorem fd_book_1 : fieldT Tryz.prog 36 1 = some (1, 32, 1) := by kernel_rfl
theorem fd_book_2 : fieldT Tryz.prog 36 2 = some (2, 33, 1) := by kernel_rfl
theorem fd_book_3 : fieldT Tryz.prog 36 3 = some (3, 34, 1) := by kernel_rfl
def pl_book : Nat → Option (Nat × Nat) := fun i => (#[(0, 1), (1, 1), (2, 1), (3, 1)] : Array (Nat × Nat))[i]?
theorem pt_book : placeT Tryz.prog 36 = some pl_book := by kernel_rfl
theorem pl_book_0 : pl_book 0 = some (0, 1) := rfl
theorem pl_book_1 : pl_book 1 = some (1, 1) := rfl
theorem pl_book_2 : pl_book 2 = some (2, 1) := rfl
theorem pl_book_3 : pl_book 3 = some (3, 1) := rfl
theorem ld_ints : loadT Tryz.prog 33 = some (false, 1) := by kernel_rfl
theorem sz_ints : sizeT Tryz.prog 33 = some 1 := by kernel_rfl
theorem zr_ints : (zeroT Tryz.prog 33).map (fun z => (ofValue z).cells) = some [.o .nilS] := by kernel_rfl
theorem el_ints : elemT Tryz.prog 33 = some (3, 1) := by kernel_rfl
theorem ln_ints : lenT Tryz.prog 33 = some 1 := by kernel_rfl
theorem ad_ints : addrT Tryz.prog 33 = 1 := by kernel_rfl
theorem ld_prods : loadT Tryz.prog 34 = some (false, 1) := by kernel_rfl
theorem sz_prods : sizeT Tryz.prog 34 = some 1 := by kernel_rfl
theorem zr_prods : (zeroT Tryz.prog 34).map (fun z => (ofValue z).cells) = some [.o .nilS] := by kernel_rfl
theorem el_prods : elemT Tryz.prog 34 = some (142, 2) := by kernel_rfl
theorem ln_prods : lenT Tryz.prog 34 = some 1 := by kernel_rfl
theorem ad_prods : addrT Tryz.prog 34 = 1 := by kernel_rfl
theorem ld_prod : loadT Tryz.prog 142 = some (true, 2) := by kernel_rfl
theorem sz_prod : sizeT Tryz.prog 142 = some 2 := by kernel_rfl
theorem zr_prod : (zeroT Tryz.prog 142).map (fun z => (ofValue z).cells) = some [.o .nilS, .o .nilS] := by kernel_rfl
theorem ad_prod : addrT Tryz.prog 142 = 4 := by kernel_rfl
theorem fd_prod_0 : fieldT Tryz.prog 142 0 = some (0, 140, 1) := by kernel_rfl
theorem fd_prod_1 : fieldT Tryz.prog 142 1 = some (1, 140, 1) := by kernel_rfl
def pl_prod : Nat → Option (Nat × Nat) := fun i => (#[(0, 1), (1, 1)] : Array (Nat × Nat))[i]?
theorem pt_prod : placeT Tryz.prog 142 = some pl_prod := by kernel_rfl
theorem pl_prod_0 : pl_prod 0 = some (0, 1) := rfl
theorem pl_prod_1 : pl_prod 1 = some (1, 1) := rfl
end Go.Proofs.YtekoajibckipkaaGreat
namespace Go.Proofs.YtekoajibckipkaaGreat
open Go Go.Eng
theorem E2_P : E2.P = Tryz.prog := rfl
theorem bd_isName : hasBody Tryz.prog 38 = true := by kernel_rfl
theorem bd_works : hasBody Tryz.prog 13 = true := by kernel_rfl
theorem bd_units : hasBody Tryz.prog 105 = true := by kernel_rfl
theorem bd_units1 : hasBody Tryz.prog 147 = true := by kernel_rfl
theorem bd_check : hasBody Tryz.prog 70 = true := by kernel_rfl
theorem bd_need : hasBody Tryz.prog 106 = true := by kernel_rfl
theorem isName_p (s : List UInt8) : E2.prim 38 [.one (.o (.str s))] = some (.one (.b (nmB s))) := by
  show some (AV.one (.b (nameT s))) = _
  rw [nameT_eq]
theorem works_p : E2.prim 13 [] = some (.one (.b true)) := rfl
theorem getS {A : AAct} {k : Tmp} {c : AC} (h : slot A.tm k = .one c) : A.tm.get k = some (.one c) := by
  unfold slot at h
  cases hk : A.tm.get k with
  | none => rw [hk] at h; cases h
  | some u => rw [hk] at h; exact congrArg some h
theorem callEnd_two {E : Env} {s t : Tmp} {A : AAct} {H : Hp} {e : AExit} (c d : AC) (he : e = .normal ∨ e = .ret) (hd : A.dfr = []) (hs : slot A.tm s = .one c) (ht : slot A.tm t = .one d) : callEnd E [.tmp s, .tmp t] (e, A, H) = .ok [(.tup [(false, [c]), (false, [d])], H)] := by
  have key : (optE (closeAll H A.dfr) (R.bad "marks") fun h2 => optE (resAll E.P [.tmp s, .tmp t] A.tm h2) (.bad "results") fun l => .ok [(tupOf l, h2)]) = .ok [(.tup [(false, [c]), (false, [d])], H)] := by
    rw [hd]
    have hr : resAll E.P [.tmp s, .tmp t] A.tm H = some [(false, [c]), (false, [d])] := by
      show optE (optE (A.tm.get s) none resV) none (fun x => optE (optE (optE (A.tm.get t) none resV) none fun x => optE (some []) none fun l => some (x :: l)) none fun l => some (x :: l)) = _
      rw [getS hs, getS ht]; rfl
    show optE (resAll E.P [.tmp s, .tmp t] A.tm H) (R.bad "results") (fun l => R.ok [(tupOf l, H)]) = _
    rw [hr]; rfl
  rcases he with rfl | rfl
  · exact key
  · exact key
theorem callEnd_nil {E : Env} {A : AAct} {H : Hp} {e : AExit} (he : e = .normal ∨ e = .ret) (hd : A.dfr = []) : callEnd E [] (e, A, H) = .ok [(.tup [], H)] := by
  have key : (optE (closeAll H A.dfr) (R.bad "marks") fun h2 => optE (resAll E.P [] A.tm h2) (.bad "results") fun l => .ok [(tupOf l, h2)]) = .ok [(.tup [], H)] := by rw [hd]; rfl
  rcases he with rfl | rfl
  · exact key
  · exact key
theorem callEnd_cell {E : Env} {s : Tmp} {t : TypeId} {A : AAct} {H H2 : Hp} {e : AExit} {id g off lim : Nat} {cells : List AC} {c : AC} (ht : loadT E.P t = some (false, 1)) (he : e = .normal ∨ e = .ret) (hd : closeAll H A.dfr = some H2) (hs : slot A.tm s = .one (.o (.ptr id g off lim)))
    (hg : rowOf (H2.get id) g = some cells) (hl : 1 ≤ lim) (ho : off + 1 ≤ cells.length) (hc : (cells.drop off).headD (.b false) = c) : callEnd E [.cell s t] (e, A, H) = .ok [(.one c, H2)] := by
  have key : (optE (closeAll H A.dfr) (R.bad "marks") fun h2 => optE (resAll E.P [.cell s t] A.tm h2) (.bad "results") fun l => .ok [(tupOf l, h2)]) = .ok [(.one c, H2)] := by
    rw [hd]
    have hr : resAll E.P [.cell s t] A.tm H2 = some [(false, [c])] := by
      have e1 : resF E.P (.cell s t) A.tm H2 = some (false, [c]) := by
        have e0 : resF E.P (.cell s t) = match loadT E.P t with
            | some p => fun tm h => optE (tm.get s) none fun v => ANext.rec (motive := fun _ => Option (Bool × List AC)) (fun v _ => resV v) (fun _ => none) (fun _ _ => none) (fun _ _ => none) (fun _ => none) (doLoad h p.1 p.2 v)
            | none => fun _ _ => none := rfl
        rw [e0, ht]
        show optE (A.tm.get s) none (fun v => ANext.rec (motive := fun _ => Option (Bool × List AC)) (fun v _ => resV v) (fun _ => none) (fun _ _ => none) (fun _ _ => none) (fun _ => none) (doLoad H2 false 1 v)) = _
        rw [getS hs]
        show ANext.rec (motive := fun _ => Option (Bool × List AC)) (fun v _ => resV v) (fun _ => none) (fun _ _ => none) (fun _ _ => none) (fun _ => none) (doLoad H2 false 1 (.one (.o (.ptr id g off lim)))) = _
        rw [doLoad_ptr, hg, ldO_one hl ho, hc]; rfl
      show optE (resF E.P (.cell s t) A.tm H2) none (fun x => optE (some []) none fun l => some (x :: l)) = _
      rw [e1]; rfl
    show optE (resAll E.P [.cell s t] A.tm H2) (R.bad "results") (fun l => R.ok [(tupOf l, H2)]) = _
    rw [hr]; rfl
  rcases he with rfl | rfl
  · exact key
  · exact key
theorem closeAll_one {H : Hp} {d : Nat} (h : H.get d = some (.oth (.dfr true))) : closeAll H [d] = some (H.mod d (.oth (.dfr false))) := by
  show (match H.get d with | some (.oth (.dfr true)) => closeAll (H.mod d (.oth (.dfr false))) [] | _ => none) = _
  rw [h]; rfl
theorem SlC.fr {H H' : Hp} {v : AC} {sz n : Nat} {c : List AC} {X : Nat → Prop} (h : SlC H v sz n c) (hf : Fr X H H') (hx : ∀ id ∈ (AV.one v).ids, ¬ X id) : SlC H' v sz n c := by
  refine ⟨h.1, h.2.imp id ?_⟩
  rintro ⟨id, g, off, h1, h2, h3⟩
  subst h1
  exact ⟨id, g, off, rfl, Nat.lt_of_lt_of_le h2 hf.nx, h3.of_get (hf.get _ h2 (hx id (List.mem_singleton.2 rfl)))⟩
abbrev Pr := List UInt8 × Int
def prC (x : Pr) : List AC := [.o (.str x.1), .i .i64 x.2]
theorem prC_e (x : Pr) : prC x = [.o (.str x.1), .i .i64 x.2] := by unfold prC; rfl
theorem prC_len (x : Pr) : (prC x).length = 2 := rfl
def SlP (H : Hp) (v : AC) (l : List Pr) : Prop := SlC H v 2 l.length (l.flatMap prC)
theorem SlP.gr {H H' : Hp} {v : AC} {l : List Pr} (h : SlP H v l) (hg : Gr H H') : SlP H' v l := SlC.gr h hg
theorem SlP.len {H : Hp} {v : AC} {l : List Pr} (h : SlP H v l) : doLen H 1 (.one v) = .val (.one (.i .i64 (l.length : Int))) H := SlC.len h
theorem SlP.lt {H : Hp} {v : AC} {l : List Pr} (h : SlP H v l) : ltV (.one v) H.nx := ltV_slc h
theorem SlP.nil {H : Hp} : SlP H (.o .nilS) [] := ⟨by simp, .inl ⟨rfl, rfl⟩⟩
structure PrAt (cells : List AC) (o : Nat) (x : Pr) : Prop where
  all : (cells.drop o).take 2 = prC x
  le : o + 2 ≤ cells.length
  le1 : o + 1 ≤ cells.length
  le2 : o + 1 + 1 ≤ cells.length
  fst : (cells.drop o).headD (.b false) = .o (.str x.1)
  snd : (cells.drop (o + 1)).headD (.b false) = .i .i64 x.2
theorem prAt_of {cells : List AC} {o : Nat} {x : Pr} (h : (cells.drop o).take 2 = prC x) (hl : o + 2 ≤ cells.length) : PrAt cells o x := by
  refine ⟨h, hl, by omega, by omega, ?_, ?_⟩
  · cases hd : cells.drop o with
    | nil => have := congrArg List.length hd; simp at this; omega
    | cons a r =>
      rw [hd] at h
      cases r with
      | nil => cases h
      | cons b r => cases h; rfl
  · rw [← List.drop_drop]
    cases hd : cells.drop o with
    | nil => have := congrArg List.length hd; simp at this; omega
    | cons a r =>
      rw [hd] at h
      cases r with
      | nil => cases h
      | cons b r => cases h; rfl
theorem SlP.open {H : Hp} {v : AC} {l : List Pr} (h : SlP H v l) (hn : 0 < l.length) : ∃ id g off cells, v = .o (.sl id g off l.length 2) ∧ id < H.nx ∧ rowOf (H.get id) g = some cells ∧ ∀ (i : Nat) (x : Pr), l[i]? = some x → PrAt cells (off + i * 2) x := by
  obtain ⟨id, g, off, h1, h2, hr⟩ := SlC.pos h hn
  have hr' := hr
  obtain ⟨cells, h3, h6, h7⟩ := hr
  refine ⟨id, g, off, cells, h1, h2, h3, fun i x hx => ?_⟩
  obtain ⟨cells', k3, k6, k7⟩ := Rd.at (c := prC) prC_len hr' hx
  rw [h3] at k3
  cases k3
  exact prAt_of k7 k6
end Go.Proofs.YtekoajibckipkaaGreat
namespace Go.Proofs.YtekoajibckipkaaGreat
open Go Go.Eng
def yv : Int → List Pr → List (Pr × Int)
  | _, [] => []
  | v, u :: us => if u.2 < 1 ∨ 60 < u.2 ∨ 1099511627776 < v * u.2 then [] else (u, v * u.2) :: yv (v * u.2) us
theorem yv_len : ∀ (v : Int) (us : List Pr), (yv v us).length ≤ us.length
  | _, [] => Nat.le_refl _
  | v, u :: us => by
    unfold yv
    split
    · exact Nat.zero_le _
    · exact Nat.succ_le_succ (yv_len _ us)
theorem yv_fst : ∀ (v : Int) (us : List Pr) (i : Nat) (y : Pr × Int), (yv v us)[i]? = some y → us[i]? = some y.1
  | _, [], _, _, h => by simp [yv] at h
  | v, u :: us, i, y, h => by
    unfold yv at h
    split at h
    · simp at h
    · cases i with
      | zero =>
        simp only [List.getElem?_cons_zero, Option.some.injEq] at h ⊢
        rw [← h]
      | succ i =>
        rw [List.getElem?_cons_succ] at h ⊢
        exact yv_fst _ us i y h
def yA (ys : List (Pr × Int)) (i : Nat) : List AV :=
  match ys[i]? with
  | some y => [.agg (prC y.1), .one (.i .i64 y.2)]
  | none => [.any, .any]
theorem yA_len (ys : List (Pr × Int)) (i : Nat) : (yA ys i).length = 2 := by
  unfold yA
  split <;> rfl
theorem yA_at {ys : List (Pr × Int)} {i : Nat} {y : Pr × Int} (h : ys[i]? = some y) : yA ys i = [.agg (prC y.1), .one (.i .i64 y.2)] := by
  unfold yA
  rw [h]
def DL (il : Nat) (u : AC) (k : Nat) : Prop := k = il ∨ k ∈ (AV.one u).ids
set_option maxRecDepth 10000 in
set_option maxHeartbeats 4000000 in
theorem units1_it (H : Hp) (il : Nat) (n : AC) (u : AC) (us : List Pr) (hil : il < H.nx) (hg : H.get il = some (.arr [n, u] 68 0 0)) (hu : SlP H u us) (hL : us.length ≤ 1000000) (ys : List (Pr × Int)) (hys : yv 1 us = ys) :
    ItC E2 147 [(il, 0, 0, 2)] ys.length (yA ys) (DL il u) H := by
  intro σ L B s H1 hn1 hs1 hj
  refine Con.of rfl fun lg => ?_
  have hj : B.J 0 s ⟨H1.t, H1.nx, lg⟩ := B.hJ hj (Nat.le_refl _) fun _ _ => rfl
  have hn1 : H.nx ≤ (⟨H1.t, H1.nx, lg⟩ : Hp).nx := hn1
  have hs1 : ∀ k, k < H.nx → (⟨H1.t, H1.nx, lg⟩ : Hp).get k = H.get k := hs1
  have e0 : H1.nx = (⟨H1.t, H1.nx, lg⟩ : Hp).nx := rfl
  rw [e0]
  clear e0
  generalize (⟨H1.t, H1.nx, lg⟩ : Hp) = H1 at hj hn1 hs1 ⊢
  have hg1 : H1.get il = some (.arr [n, u] 68 0 0) := by rw [hs1 _ hil]; exact hg
  have hil1 : il < H1.nx := Nat.lt_of_lt_of_le hil hn1
  have hu1 : SlP H1 u us := SlC.of_get hu hn1 hs1
  have hnu : ∀ id ∈ (AV.one u).ids, ¬ B.fp s id := fun id h hf => (B.hl hj hf).2 (.inr h)
  have jend : ∀ (j : Nat) (s3 : σ) (H3 : Hp), j = ys.length → B.J j s3 H3 → B.J ys.length s3 H3 := fun j s3 H3 e h => by subst e; exact h
  refine C1.body (E := E2) (nt := 35) (res := []) Tryz.func147 rfl rfl rfl rfl rfl fun tm hargs => ?_
  have h0 := hargs 0 _ rfl
  have h1 := hargs 1 _ rfl
  clear hargs
  refine qW (qA E2_P (qA h0 (qA h1 (qA fd_lad_1 (qA ld_units (qA hg1 (qA hil1 (qA ln_units (qA hu1.len hu1.lt))))))))) ?_
  refine R1.e_block fun K k1 k2 k3 k4 => ?_
  refine R1.loop (fun k A H2 => ∃ (i : Nat) (s2 : σ) (val : Int), k = us.length - i ∧ i ≤ us.length ∧ i ≤ ys.length ∧ ys.drop i = yv val (us.drop i) ∧ 1 ≤ val ∧ val ≤ 1099511627776 ∧ B.J i s2 H2 ∧ Fr (B.fp s) H1 H2 ∧ (∀ k, B.fp s2 k → B.fp s k ∨ H1.nx ≤ k) ∧
    slot A.tm 0 = .one (.o (.yl L)) ∧ slot A.tm 3 = .one (.i .i64 val) ∧ slot A.tm 7 = .one u ∧ slot A.tm 8 = .one (.i .i64 (us.length : Int)) ∧ slot A.tm 9 = .one (.i .i64 (i : Int)) ∧ A.nt = 35 ∧ A.dfr = []) ?_ us.length
    ⟨0, s, 1, rfl, Nat.zero_le _, Nat.zero_le _, hys.symm, by omega, by omega, hj, Fr.refl _, fun _ h => .inl h, ?_⟩
  · clear h0 h1 tm
    rintro k A H2 ⟨i, s2, val, rfl, hi, hiy, hdy, hv1, hv2, hj2, hf2, hfp, t0, t3, t7, t8, t9, hnt, hdf⟩
    have hu2 : SlP H2 u us := SlC.fr hu1 hf2 hnu
    have fin : ∀ (e : AExit), e = .normal ∨ e = .ret → ∀ s3 H3 A3, B.J ys.length s3 H3 ∨ B.F s3 H3 → Fr (B.fp s) H1 H3 → (∀ k, B.fp s3 k → B.fp s k ∨ H1.nx ≤ k) → A3.dfr = [] → ∃ v H4, callEnd E2 [] (e, A3, H3) = .ok [(v, H4)] ∧ Fr (B.fp s) H1 H4 ∧ ∀ lg', ∃ s', (B.J ys.length s' ⟨H4.t, H4.nx, lg'⟩ ∨ B.F s' ⟨H4.t, H4.nx, lg'⟩) ∧ ∀ k, B.fp s' k → B.fp s k ∨ H1.nx ≤ k := fun e he s3 H3 A3 hjf hf hfp hd =>
      ⟨_, H3, callEnd_nil he hd, hf, fun lg' => ⟨s3, hjf.imp (fun h => B.hJ (H := H3) h (Nat.le_refl _) fun _ _ => rfl) (fun h => B.hF (H := H3) h (Nat.le_refl _) fun _ _ => rfl), hfp⟩⟩
    have stop : ys.drop i = [] → i = ys.length := fun h => by
      have := congrArg List.length h
      rw [List.length_drop, List.length_nil] at this
      omega
    refine qW (qA E2_P (qA t8 (qA t9 hnt))) ?_
    refine qE fun Kx Ky hx hy => ?_
    refine iteI (fun hc => hx ?_) (fun hc => hy ?_)
    · clear hx hy Kx Ky
      have hlt : i < us.length := by omega
      obtain ⟨id, g, off, cells, rfl, hid, hg, hat⟩ := hu2.open (by omega)
      have ex : us[i]? = some us[i] := List.getElem?_eq_getElem hlt
      have hdr : us.drop i = us[i] :: us.drop (i + 1) := List.drop_eq_getElem_cons hlt
      generalize us[i] = x at ex hdr
      have hx1 := hat i x ex
      rw [hdr, yv] at hdy
      refine qV ?_
      refine R1.s_block fun K2 q1 q2 q3 q4 => ?_
      repeat refine R1.s_assoc ?_
      refine qG (qA E2_P (qA t7 (qA t9 (qA hnt (qA el_units (qA ld_unit (qA sz_unit (qA zr_unit (qA (ixC hlt) (qA hid (qA hg (qA hx1.all (qA hx1.le prC_e))))))))))))) fun K hK => ?_
      refine hK _ _ ?_
      clear hK K
      refine R1.gen (fun A3 H3 => Gr H2 H3 ∧ H2.nx < H3.nx ∧ H3.get H2.nx = some (.arr (prC x) 137 0 0) ∧ slot A3.tm 0 = .one (.o (.yl L)) ∧ slot A3.tm 3 = .one (.i .i64 val) ∧ slot A3.tm 5 = .one (.o (.ptr H2.nx 0 0 2)) ∧ slot A3.tm 7 = .one (.o (.sl id g off us.length 2)) ∧ slot A3.tm 8 = .one (.i .i64 (us.length : Int)) ∧ slot A3.tm 9 = .one (.i .i64 (i : Int)) ∧ A3.nt = 35 ∧ A3.dfr = [])
        ⟨((Fr.refl _).new _).mod _ (.inl (Nat.le_refl _)), ?_⟩ ?_
      · exact qZ (qA t0 (qA t3 (qA t7 (qA t8 (qA t9 (qA hnt (qA hdf prC_e)))))))
      clear t0 t3 t7 t8 t9 hnt hdf A
      rintro A H3 ⟨g3, n3, gx, t0, t3, t5, t7, t8, t9, hnt, hdf⟩
      have hj3 : B.J i s2 H3 := B.hJ hj2 g3.nx fun k hk => g3.get k hk not_false
      have hf3 : Fr (B.fp s) H1 H3 := hf2.gr g3
      have hw2 : IntKind.i64.wrap ((i : Int) + 1) = ((i + 1 : Nat) : Int) := by rw [wrapI (by omega) (by omega)]; omega
      repeat refine R1.s_assoc ?_
      by_cases hb1 : x.2 < 1
      · have c1 : (x.2 < 1) = True := eq_true hb1
        rw [if_pos (.inl hb1)] at hdy
        refine qG (qA E2_P (qA t5 (qA hnt (qA gx (qA n3 (qA fd_unit_1 (qA ld_int (qA prC_e c1)))))))) fun K hK => ?_
        refine hK _ _ ?_
        clear hK K
        refine qY ?_
        refine qW hnt ?_
        refine q4 _ _ (k4 _ _ (fin .ret (.inr rfl) s2 H3 _ (.inl (jend _ _ _ (stop hdy) hj3)) hf3 hfp (qd hdf)))
      · have c1 : (x.2 < 1) = False := eq_false hb1
        by_cases hb2 : 60 < x.2
        · have c2 : (60 < x.2) = True := eq_true hb2
          rw [if_pos (.inr (.inl hb2))] at hdy
          refine qG (qA E2_P (qA t5 (qA hnt (qA gx (qA n3 (qA fd_unit_1 (qA ld_int (qA prC_e (qA c1 c2))))))))) fun K hK => ?_
          refine hK _ _ ?_
          clear hK K
          refine qY ?_
          refine qW hnt ?_
          refine q4 _ _ (k4 _ _ (fin .ret (.inr rfl) s2 H3 _ (.inl (jend _ _ _ (stop hdy) hj3)) hf3 hfp (qd hdf)))
        · have c2 : (60 < x.2) = False := eq_false hb2
          have hmul1 : 1 ≤ val * x.2 := by
            have := Int.mul_le_mul hv1 (by omega : 1 ≤ x.2) (by omega) (by omega)
            omega
          have hmul2 : val * x.2 ≤ 1099511627776 * 60 := Int.mul_le_mul hv2 (by omega) (by omega) (by omega)
          have hwm : IntKind.i64.wrap (val * x.2) = val * x.2 := wrapI (by omega) (by omega)
          refine qG (qA E2_P (qA t5 (qA hnt (qA gx (qA n3 (qA fd_unit_1 (qA ld_int (qA prC_e (qA c1 c2))))))))) fun K hK => ?_
          refine hK _ _ ?_
          clear hK K
          refine qY ?_
          refine R1.s_skip ?_
          repeat refine R1.s_assoc ?_
          refine qG (qA E2_P (qA t3 (qA t5 (qA hnt (qA gx (qA n3 (qA fd_unit_1 (qA ld_int (qA prC_e hwm))))))))) fun K hK => ?_
          refine hK _ _ ?_
          clear hK K
          repeat refine R1.s_assoc ?_
          by_cases hb3 : 1099511627776 < val * x.2
          · have c3 : (1099511627776 < val * x.2) = True := eq_true hb3
            rw [if_pos (.inr (.inr hb3))] at hdy
            refine qG (qA E2_P (qA hnt c3)) fun K hK => ?_
            refine hK _ _ ?_
            clear hK K
            refine qY ?_
            refine qW hnt ?_
            refine q4 _ _ (k4 _ _ (fin .ret (.inr rfl) s2 H3 _ (.inl (jend _ _ _ (stop hdy) hj3)) hf3 hfp (qd hdf)))
          · have c3 : (1099511627776 < val * x.2) = False := eq_false hb3
            rw [if_neg (by omega)] at hdy
            have hiy2 : i < ys.length := by
              rcases Nat.lt_or_ge i ys.length with h | h
              · exact h
              · rw [List.drop_eq_nil_of_le h] at hdy; cases hdy
            have hey : ys[i]? = some (x, val * x.2) := by
              rw [List.drop_eq_getElem_cons hiy2] at hdy
              rw [List.getElem?_eq_getElem hiy2, (List.cons.inj hdy).1]
            have hdy2 : ys.drop (i + 1) = yv (val * x.2) (us.drop (i + 1)) := by
              rw [List.drop_eq_getElem_cons hiy2] at hdy
              exact (List.cons.inj hdy).2
            have hp := B.pass i s2 H3 hiy2 hj3
            rw [yA_at hey] at hp
            refine qG (qA E2_P (qA t0 (qA t5 (qA hnt (qA gx (qA n3 (qA ld_unit (qA c3 prC_e)))))))) fun K hK => ?_
            refine WE.conR hp fun v H4 hf4 ⟨b, s3, hv, hbt, hbf, hfp3⟩ => ?_
            subst hv
            have hf34 : Fr (B.fp s) H1 H4 := hf3.then hf4 fun k hk => (hfp k hk).symm
            have hfp4 : ∀ k, B.fp s3 k → B.fp s k ∨ H1.nx ≤ k := fun k hk => by
              rcases hfp3 k hk with h | h
              · exact hfp k h
              · exact .inr (Nat.le_trans hf3.nx h)
            cases b with
            | false =>
              refine qS (qA E2_P hnt) ?_
              refine hK _ _ ?_
              clear hK K
              refine qY ?_
              refine qW hnt ?_
              refine q4 _ _ (k4 _ _ (fin .ret (.inr rfl) s3 H4 _ (.inr (hbf rfl)) hf34 hfp4 (qd hdf)))
            | true =>
              refine qS (qA E2_P hnt) ?_
              refine hK _ _ ?_
              clear hK K
              refine qY ?_
              refine qW hnt ?_
              refine q1 _ _ ?_
              refine qW (qA hnt (qA t9 hw2)) ?_
              refine ⟨us.length - (i + 1), by omega, i + 1, s3, val * x.2, rfl, hlt, hiy2, hdy2, hmul1, by omega, hbt rfl, hf34, hfp4, ?_, ?_, ?_, ?_, ?_, ?_, ?_⟩
              · simp only [slot_put, Nat.reduceEqDiff, reduceIte, t0]
              · simp only [slot_put, Nat.reduceEqDiff, reduceIte]
              · simp only [slot_put, Nat.reduceEqDiff, reduceIte, t7]
              · simp only [slot_put, Nat.reduceEqDiff, reduceIte, t8]
              · simp only [slot_put, Nat.reduceEqDiff, reduceIte]
              · simp only [putD_nt, hnt]
              · simp only [putD_dfr, hdf]
    · clear hx hy Kx Ky
      have hie : i = us.length := by omega
      rw [hie, List.drop_length, yv] at hdy
      refine qW hnt ?_
      refine k2 _ _ ?_
      refine fin .normal (.inl rfl) s2 H2 _ (.inl (jend _ _ _ (stop (by rw [hie]; exact hdy)) hj2)) hf2 hfp (qd hdf)
  all_goals simp only [slot_put, Nat.reduceEqDiff, reduceIte, h0, putD_nt, putD_dfr, and_self, true_and]
  all_goals first | rfl | exact ⟨rfl, trivial⟩
set_option maxRecDepth 10000 in
theorem units_con (H : Hp) (n u : AC) (hu : ltV (.one u) H.nx) :
    Con E2 105 [.agg [n, u]] H (fun _ => False) fun r H' => r = .one (.o (.clo 147 [(H.nx, 0, 0, 2)])) ∧ H'.get H.nx = some (.arr [n, u] 68 0 0) ∧ H.nx < H'.nx := by
  refine Con.of rfl fun lg => ?_
  have e0 : H.nx = (⟨H.t, H.nx, lg⟩ : Hp).nx := rfl
  rw [e0]
  clear e0
  generalize (⟨H.t, H.nx, lg⟩ : Hp) = H at hu ⊢
  refine C1.body (E := E2) (nt := 4) (res := [.tmp 2]) Tryz.func105 rfl rfl rfl rfl rfl fun tm hargs => ?_
  have h0 := hargs 0 _ rfl
  clear hargs
  refine qW (qA E2_P h0) ?_
  refine ⟨_, _, callEnd_one (.o (.clo 147 [(H.nx, 0, 0, 2)])) (.inr rfl) rfl qp, (Fr.refl _).new _, fun _ => ⟨rfl, ?_, ?_⟩⟩
  · exact get_newE (H := H) (o := .arr [n, u] 68 0 0) rfl
  · exact Nat.lt_succ_self _
end Go.Proofs.YtekoajibckipkaaGreat
namespace Go.Proofs.YtekoajibckipkaaGreat
open Go Go.Eng
def okU (us : List Pr) (i : Nat) (x : Pr) : Bool := nmB x.1 && !((us.take i).any fun y => y.1 == x.1) && ((x.2 == 1) == ((i : Int) == 0))
def ladOK (n : List UInt8) (us : List Pr) : Bool :=
  nmB n && !((us.length : Int) == 0) && decide ((us.length : Int) ≤ 12) && decide ((yv 1 us).length = us.length) && (List.range us.length).all fun i => okU us i (us.getD i ([], 0))
def chkLad (n : List UInt8) (us : List Pr) : Int := if ladOK n us = true then 0 else 10
theorem ladOK_no {n : List UInt8} {us : List Pr} {i : Nat} {x : Pr} (hx : us[i]? = some x) (h : okU us i x = false) : ladOK n us = false := by
  have hlt : i < us.length := by
    rcases Nat.lt_or_ge i us.length with h | h
    · exact h
    · rw [List.getElem?_eq_none h] at hx; cases hx
  have : ((List.range us.length).all fun i => okU us i (us.getD i ([], 0))) = false := List.all_eq_false.2 ⟨i, List.mem_range.2 hlt, by rw [List.getD_eq_getElem?_getD, hx]; show ¬ okU us i x = true; rw [h]; decide⟩
  unfold ladOK
  rw [this, Bool.and_false]
def seenL (us : List Pr) (i : Nat) : List (List UInt8 × AC) := (us.take i).map fun x => (x.1, .b true)
theorem seenL_len {us : List Pr} {i : Nat} (h : i ≤ us.length) : (seenL us i).length = i := by
  unfold seenL
  rw [List.length_map, List.length_take]; omega
theorem seenL_at (us : List Pr) (i : Nat) (s : List UInt8) : atK (seenL us i) s = if (us.take i).any (fun y => y.1 == s) = true then some (.b true) else none := by
  unfold seenL
  induction us.take i with
  | nil => rfl
  | cons x l ih =>
    show (if x.1 = s then some (AC.b true) else atK (l.map fun x => (x.1, AC.b true)) s) = _
    rw [ih, List.any_cons]
    by_cases h : x.1 = s
    · rw [if_pos h, h, beq_self_eq_true, Bool.true_or, if_pos rfl]
    · rw [if_neg h, beq_false_of_ne h, Bool.false_or]
theorem seenL_succ {us : List Pr} {i : Nat} {x : Pr} (hx : us[i]? = some x) : seenL us (i + 1) = seenL us i ++ [(x.1, .b true)] := by
  obtain ⟨hlt, rfl⟩ := List.getElem?_eq_some_iff.1 hx
  unfold seenL
  rw [List.take_succ_eq_append_getElem hlt, List.map_append]; rfl
theorem upd_seen {H : Hp} {m : Nat} {us : List Pr} {i : Nat} {x : Pr} (hg : H.get m = some (mapO (seenL us i))) (hx : us[i]? = some x) (hs : ((us.take i).any fun y => y.1 == x.1) = false) :
    doMapUpdate Tryz.prog H 9 (.one (.o (.mp m))) (.one (.o (.str x.1))) (.one (.b true)) = .val undefA (H.mod m (mapO (seenL us (i + 1)))) := by
  rw [seenL_succ hx]
  exact update_str kk_mSB hg (by rw [seenL_at, hs]; rfl)
theorem slot_set (t : PT AV) (d i : Nat) (v : AV) : slot (t.set d v) i = if i = d then v else slot t i := by
  unfold slot
  rw [PT.get_set']
  by_cases h : i = d
  · rw [if_pos h, if_pos h]; rfl
  · rw [if_neg h, if_neg h]
theorem look_seen {H : Hp} {m : Nat} {us : List Pr} {i : Nat} {s : List UInt8} (hg : H.get m = some (mapO (seenL us i))) :
    doLookup Tryz.prog H 9 (.one (.b false)) (.one (.o (.mp m))) (.one (.o (.str s))) false = .val (.one (.b ((us.take i).any fun y => y.1 == s))) H := by
  rw [lookup_str kk_mSB hg, seenL_at]
  cases (us.take i).any (fun y => y.1 == s) <;> rfl
set_option maxRecDepth 10000 in
theorem need_con (H : Hp) (b : Bool) (e : Int) : Con E2 106 [.one (.b b), .one (.i .i64 e)] H (fun _ => False) fun r _ => r = .one (.i .i64 (if b = true then 0 else e)) := by
  refine Con.of rfl fun lg => ?_
  generalize (⟨H.t, H.nx, lg⟩ : Hp) = H
  refine C1.body (E := E2) (nt := 7) (res := [.tmp 4]) Tryz.func106 rfl rfl rfl rfl rfl fun tm hargs => ?_
  have h0 := hargs 0 _ rfl
  have h1 := hargs 1 _ rfl
  clear hargs
  cases b with
  | true =>
    refine qW (qA E2_P (qA h0 h1)) ?_
    refine qY ?_
    refine qV ?_
    exact ⟨_, _, callEnd_one (.i .i64 0) (.inr rfl) rfl qp, Fr.refl _, fun _ => rfl⟩
  | false =>
    refine qW (qA E2_P (qA h0 h1)) ?_
    refine qY ?_
    refine qW h1 ?_
    exact ⟨_, _, callEnd_one (.i .i64 e) (.inr rfl) rfl qp, Fr.refl _, fun _ => rfl⟩
set_option maxRecDepth 10000 in
set_option maxHeartbeats 4000000 in
theorem check_con (H : Hp) (n : List UInt8) (u : AC) (us : List Pr) (hu : SlP H u us) :
    Con E2 70 [.agg [.o (.str n), u]] H (fun _ => False) fun r _ => r = .one (.i .i64 (chkLad n us)) := by
  refine Con.of rfl fun lg => ?_
  have hu : SlP ⟨H.t, H.nx, lg⟩ u us := hu
  generalize (⟨H.t, H.nx, lg⟩ : Hp) = H at hu ⊢
  refine C1.body (E := E2) (nt := 55) (res := [.cell 2 28]) Tryz.func70 rfl rfl rfl rfl rfl fun tm hargs => ?_
  have h0 := hargs 0 _ rfl
  clear hargs
  refine qG (qA E2_P (qA h0 zr_errno)) fun K hK => ?_
  refine hK _ _ ?_
  clear hK K
  have hid0 : ∀ id ∈ (AV.one u).ids, id < H.nx := hu.lt
  refine R1.gen (fun A1 H1 => Gr H H1 ∧ H.nx + 1 < H1.nx ∧ H1.get H.nx = some (.arr [.o (.str n), u] 68 0 0) ∧ H1.get (H.nx + 1) = some (.arr [.i .i64 0] 28 0 0) ∧ slot A1.tm 1 = .one (.o (.ptr H.nx 0 0 2)) ∧ slot A1.tm 2 = .one (.o (.ptr (H.nx + 1) 0 0 1)) ∧ A1.nt = 55 ∧ A1.dfr = [])
    ⟨((Fr.refl _).new _).new _, ?_⟩ ?_
  · exact qU
  rintro A1 H1 ⟨g1, n1, r1, r2, t1, t2, hnt, hdf⟩
  clear h0 tm
  have hu1 : SlP H1 u us := hu.gr g1
  obtain ⟨c1, hc1⟩ : ∃ c, c = H.nx := ⟨_, rfl⟩
  obtain ⟨c2, hc2⟩ : ∃ c, c = H.nx + 1 := ⟨_, rfl⟩
  have h12 : c1 < c2 := by omega
  have hcc : H.nx ≤ c1 := by omega
  rw [← hc1] at r1 t1 hid0
  rw [← hc2] at r2 t2 n1
  have l1 : c1 < H1.nx := by omega
  have fin : ∀ (e : AExit) (A : AAct) (H2 H3 : Hp) (v : Int), (e = .normal ∨ e = .ret) → closeAll H2 A.dfr = some H3 → Gr H H3 → slot A.tm 2 = .one (.o (.ptr c2 0 0 1)) → H3.get c2 = some (.arr [.i .i64 v] 28 0 0) → v = chkLad n us →
      ∃ w H4, callEnd E2 [.cell 2 28] (e, A, H2) = .ok [(w, H4)] ∧ Gr H H4 ∧ ∀ _ : List Nat, w = .one (.i .i64 (chkLad n us)) := fun e A H2 H3 v he hd hg hs hr hv =>
    ⟨_, H3, callEnd_cell (c := .i .i64 v) ld_errno he hd hs (by rw [hr]; exact rowOf_arr (Nat.le_refl _) (Nat.le_refl _)) (Nat.le_refl _) (Nat.le_refl _) rfl, hg, fun _ => by rw [hv]⟩
  repeat refine R1.s_assoc ?_
  refine qG (qA E2_P (qA t1 (qA hnt (qA r1 (qA l1 (qA fd_lad_0 (qA ld_str bd_isName))))))) fun K hK => ?_
  refine WE.prim (isName_p n) fun H2 g2 n2 e2 => ?_
  have r1 : H2.get c1 = some (.arr [.o (.str n), u] 68 0 0) := (e2 c1).trans r1
  have r2 : H2.get c2 = some (.arr [.i .i64 0] 28 0 0) := (e2 c2).trans r2
  rw [← n2] at l1 n1
  have hu2 : SlP H2 u us := hu1.gr g2
  have g2 : Gr H H2 := g1.gr g2
  clear g1 e2 n2 hu1
  have bad : ∀ (A : AAct), slot A.tm 2 = .one (.o (.ptr c2 0 0 1)) → A.nt = 55 → A.dfr = [] → chkLad n us = 10 → ∃ w H4, callEnd E2 [.cell 2 28] (.ret, A, H2.mod c2 (.arr [.i .i64 10] 28 0 0)) = .ok [(w, H4)] ∧ Gr H H4 ∧ ∀ _ : List Nat, w = .one (.i .i64 (chkLad n us)) := fun A hs hn hd hv =>
    fin .ret A _ _ 10 (.inr rfl) (by rw [hd]; rfl) (g2.mod _ (.inl (by omega))) hs (get_modE rfl) hv.symm
  cases hnm : nmB n with
  | false =>
    refine qS (qA E2_P (qA t1 hnt)) ?_
    refine hK _ _ ?_
    clear hK K
    refine qY ?_
    refine qW (qA E2_P (qA t2 (qA hnt (qA sz_errno (qA r2 n1))))) ?_
    exact bad _ (by simp only [slot_put, Nat.reduceEqDiff, reduceIte, t2]) (by simp only [putD_nt, hnt]) (qd hdf) (by unfold chkLad ladOK; rw [hnm]; rfl)
  | true =>
    cases hz : ((us.length : Int) == 0) with
    | true =>
      refine qS (qA E2_P (qA t1 (qA hnt (qA r1 (qA l1 (qA fd_lad_1 (qA ld_units (qA ln_units (qA hu2.len (qA hu2.lt hz)))))))))) ?_
      refine hK _ _ ?_
      clear hK K
      refine qY ?_
      refine qW (qA E2_P (qA t2 (qA hnt (qA sz_errno (qA r2 n1))))) ?_
      exact bad _ (by simp only [slot_put, Nat.reduceEqDiff, reduceIte, t2]) (by simp only [putD_nt, hnt]) (qd hdf) (by unfold chkLad ladOK; rw [hz]; simp only [Bool.not_true, Bool.and_false, Bool.false_and, Bool.false_eq_true, if_false])
    | false =>
      by_cases h12' : (12 : Int) < us.length
      · have c12 : ((12 : Int) < us.length) = True := eq_true h12'
        refine qS (qA E2_P (qA t1 (qA hnt (qA r1 (qA l1 (qA fd_lad_1 (qA ld_units (qA ln_units (qA hu2.len (qA hu2.lt (qA hz c12))))))))))) ?_
        refine hK _ _ ?_
        clear hK K
        refine qY ?_
        refine qW (qA E2_P (qA t2 (qA hnt (qA sz_errno (qA r2 n1))))) ?_
        exact bad _ (by simp only [slot_put, Nat.reduceEqDiff, reduceIte, t2]) (by simp only [putD_nt, hnt]) (qd hdf) (by unfold chkLad ladOK; rw [decide_eq_false (by omega : ¬ (us.length : Int) ≤ 12)]; simp only [Bool.and_false, Bool.false_and, Bool.false_eq_true, if_false])
      · have c12 : ((12 : Int) < us.length) = False := eq_false h12'
        refine qS (qA E2_P (qA t1 (qA hnt (qA r1 (qA l1 (qA fd_lad_1 (qA ld_units (qA ln_units (qA hu2.len (qA hu2.lt (qA hz c12))))))))))) ?_
        refine hK _ _ ?_
        clear hK K
        refine qE fun Kx Ky hx hy => ?_
        refine hy ?_
        clear hx hy Kx Ky bad
        refine R1.s_skip ?_
        repeat refine R1.s_assoc ?_
        refine qG (qA E2_P (qA hnt (qA zr_mSB sz_mSB))) fun K hK => ?_
        refine hK _ _ ?_
        clear hK K
        refine R1.gen (fun A3 H3 => Gr H H3 ∧ H3.nx = H2.nx + 2 ∧ H3.get c1 = some (.arr [.o (.str n), u] 68 0 0) ∧ H3.get c2 = some (.arr [.i .i64 0] 28 0 0) ∧ H3.get H2.nx = some (mapO (seenL us 0)) ∧ H3.get (H2.nx + 1) = some (.arr [.o (.mp H2.nx)] 178 0 0) ∧
          slot A3.tm 1 = .one (.o (.ptr c1 0 0 2)) ∧ slot A3.tm 2 = .one (.o (.ptr c2 0 0 1)) ∧ slot A3.tm 3 = .one (.o (.ptr (H2.nx + 1) 0 0 1)) ∧ A3.nt = 55 ∧ A3.dfr = [])
          ⟨((g2.new _).new _).mod _ (.inl (by have := g2.nx; omega)), rfl, ?_, ?_, ?_, ?_, ?_⟩ ?_
        · rw [get_modN (by omega), get_newL (by rw [nxNew]; omega), get_newL l1]; exact r1
        · rw [get_modN (by omega), get_newL (by rw [nxNew]; omega), get_newL n1]; exact r2
        · rw [get_modN (by omega), get_newL (by rw [nxNew]; omega), get_newE rfl]; rfl
        · exact get_modE rfl
        · simp only [qB, Nat.reduceLT, t1, t2, hnt, hdf, and_self]
        rintro A H3 ⟨g3, n3, q1, q2, qm, q3, t1, t2, t3, hnt, hdf⟩
        have hu3 : SlP H3 u us := hu.gr g3
        obtain ⟨m, hm⟩ : ∃ m, m = H2.nx := ⟨_, rfl⟩
        obtain ⟨c3, hc3⟩ : ∃ c, c = H2.nx + 1 := ⟨_, rfl⟩
        rw [← hc3] at q3 t3
        rw [← hm] at qm q3
        have o1 : c2 < m := by omega
        have o2 : m < c3 := by omega
        have o3 : c3 < H3.nx := by omega
        clear hm hc3 n3 r1 r2 hu2 l1 n1
        have l1 : c1 < H3.nx := by omega
        repeat refine R1.s_assoc ?_
        refine qG (qA E2_P (qA t1 (qA hnt (qA q1 (qA l1 (qA ld_lad bd_units)))))) fun K hK => ?_
        refine WE.con (units_con H3 (.o (.str n)) u hu3.lt) fun v H5 g5 ⟨hv, hil, hln⟩ => ?_
        subst hv
        refine qS (qA E2_P hnt) ?_
        refine hK _ _ ?_
        clear hK K
        refine R1.genA (fun A4 => slot A4.tm 1 = .one (.o (.ptr c1 0 0 2)) ∧ slot A4.tm 2 = .one (.o (.ptr c2 0 0 1)) ∧ slot A4.tm 3 = .one (.o (.ptr c3 0 0 1)) ∧ slot A4.tm 23 = .one (.o (.clo 147 [(H3.nx, 0, 0, 2)])) ∧ A4.nt = 55 ∧ A4.dfr = [])
          ⟨by simp only [slot_put, Nat.reduceEqDiff, reduceIte, t1], by simp only [slot_put, Nat.reduceEqDiff, reduceIte, t2], by simp only [slot_put, Nat.reduceEqDiff, reduceIte, t3], by simp only [slot_put, Nat.reduceEqDiff, reduceIte], by simp only [putD_nt, hnt], by simp only [putD_dfr, hdf]⟩ ?_
        clear t1 t2 t3 hnt hdf A
        rintro A ⟨t1, t2, t3, t23, hnt, hdf⟩
        have gg : Gr H H5 := g3.gr g5
        have q1 : H5.get c1 = some (.arr [.o (.str n), u] 68 0 0) := by rw [g5.get _ l1 not_false]; exact q1
        have q2 : H5.get c2 = some (.arr [.i .i64 0] 28 0 0) := by rw [g5.get _ (by omega) not_false]; exact q2
        have q3 : H5.get c3 = some (.arr [.o (.mp m)] 178 0 0) := by rw [g5.get _ o3 not_false]; exact q3
        have qm : H5.get m = some (mapO (seenL us 0)) := by rw [g5.get _ (by omega) not_false]; exact qm
        have hu5 : SlP H5 u us := hu3.gr g5
        have o4 : c3 < H5.nx := Nat.lt_of_lt_of_le o3 g5.nx
        have l3 : c1 < H3.nx := l1
        obtain ⟨il, hild⟩ : ∃ i, i = H3.nx := ⟨_, rfl⟩
        rw [← hild] at hil hln t23 o3 l3
        clear hild l1
        generalize hys : yv 1 us = ys
        have hyl : ys.length ≤ us.length := by rw [← hys]; exact yv_len 1 us
        have husL : us.length ≤ 12 := by omega
        refine R1.s_block fun K k1 k2 k3 k4 => ?_
        refine R1.range (σ := Unit) (g := 147) (caps := [(il, 0, 0, 2)]) (n := ys.length) (ar := yA ys) (D := DL il u) (by simp only [evTmp, t23]) bd_units1 (fun _ => rfl)
          (units1_it H5 il (.o (.str n)) u us hln hil hu5 (by omega) ys hys) (fun k hk => by
            rcases hk with h | h
            · omega
            · exact Nat.lt_trans (hid0 k h) (by omega)) (by rw [hnt]; rfl) (fun i _ => yA_len ys i)
          (fun i _ H6 => H6.get m = some (mapO (seenL us i)) ∧ H6.get c3 = some (.arr [.o (.mp m)] 178 0 0) ∧ H6.get c2 = some (.arr [.i .i64 0] 28 0 0) ∧ (∀ j, j < i → okU us j (us.getD j ([], 0)) = true) ∧ H5.nx ≤ H6.nx)
          (fun e _ H6 => e = .ret ∧ H6.get c2 = some (.arr [.i .i64 10] 28 0 0) ∧ ladOK n us = false ∧ H5.nx ≤ H6.nx)
          (fun _ k => k = m ∨ k = c2) ?_ ?_ ?_ () ?_ ?_ ?_ ?_
        · rintro i s H6 H7 ⟨a1, a2, a3, a4, a5⟩ hs
          exact ⟨by rw [hs.get _ (by omega) (by omega)]; exact a1, by rw [hs.get _ (by omega) (by omega)]; exact a2, by rw [hs.get _ (by omega) (by omega)]; exact a3, a4, Nat.le_trans a5 hs.nx⟩
        · rintro e s H6 H7 ⟨a1, a2, a3, a5⟩ hs
          exact ⟨a1, by rw [hs.get _ (by omega) (by omega)]; exact a2, a3, Nat.le_trans a5 hs.nx⟩
        · rintro i s H6 k ⟨a1, a2, a3, a4, a5⟩ hk
          have : k < H5.nx ∧ c1 < k ∧ k < il := by rcases hk with rfl | rfl <;> omega
          refine ⟨by omega, by omega, by omega, fun h => ?_⟩
          rcases h with h | h
          · omega
          · have := hid0 k h; omega
        · intro H6 g6 n6
          exact ⟨by rw [g6.get _ (by omega) not_false]; exact qm, by rw [g6.get _ o4 not_false]; exact q3, by rw [g6.get _ (by omega) not_false]; exact q2, fun j hj => absurd hj (Nat.not_lt_zero j), g6.nx⟩
        · rintro i _ H6 hi ⟨a1, a2, a3, a4, a5⟩ n6
          have hy : ys[i]? = some ys[i] := List.getElem?_eq_getElem hi
          generalize ys[i] = y at hy
          have hx0 : us[i]? = some y.1 := yv_fst 1 us i y (by rw [hys]; exact hy)
          rw [yA_at hy]
          obtain ⟨x, yval⟩ := y
          have hx0 : us[i]? = some x := hx0
          refine R1.genA (fun A7 => slot A7.tm 1 = .one (.o (.ptr c1 0 0 2)) ∧ slot A7.tm 2 = .one (.o (.ptr c2 0 0 1)) ∧ slot A7.tm 3 = .one (.o (.ptr c3 0 0 1)) ∧ slot A7.tm 24 = .agg (prC x) ∧ A7.nt = 55 ∧ A7.dfr = []) ⟨?_, ?_, ?_, ?_, hnt, rfl⟩ ?_
          · show slot ((A.tm.set 24 _).set 25 _) 1 = _
            simp only [slot_set, Nat.reduceEqDiff, reduceIte, t1]
          · show slot ((A.tm.set 24 _).set 25 _) 2 = _
            simp only [slot_set, Nat.reduceEqDiff, reduceIte, t2]
          · show slot ((A.tm.set 24 _).set 25 _) 3 = _
            simp only [slot_set, Nat.reduceEqDiff, reduceIte, t3]
          · show slot ((A.tm.set 24 _).set 25 _) 24 = _
            simp only [slot_set, Nat.reduceEqDiff, reduceIte]
          rintro A7 ⟨u1, u2, u3, u24, unt, udf⟩
          refine qG (qA E2_P (qA u24 (qA unt (qA zr_unit (qA sz_unit prC_e))))) fun K hK => ?_
          refine hK _ _ ?_
          clear hK K
          refine ⟨rfl, ((Fr.refl _).new _).mod _ (.inl (Nat.le_refl _)), fun H8 n8 s8 => ?_⟩
          have gu : H8.get H6.nx = some (.arr (prC x) 137 0 0) := by
            rw [s8.get _ (by show H6.nx < H6.nx + 1; omega) (by omega)]
            exact get_modE rfl
          have keep : ∀ k, k < H5.nx → H8.get k = H6.get k := fun k hk => by
            rw [s8.get _ (by show k < H6.nx + 1; omega) (by omega), get_modN (by omega), get_newL (by omega)]
          have n8' : H8.nx = H6.nx + 1 := n8
          have b1 : H8.get m = some (mapO (seenL us i)) := (keep m (by omega)).trans a1
          have b3 : H8.get c3 = some (.arr [.o (.mp m)] 178 0 0) := (keep c3 o4).trans a2
          have b2 : H8.get c2 = some (.arr [.i .i64 0] 28 0 0) := (keep c2 (by omega)).trans a3
          have lu : H6.nx < H8.nx := by omega
          clear keep n8 n8' s8 a1 a2 a3
          refine R1.e_block fun K2 p1 p2 p3 p4 => ?_
          repeat refine R1.s_assoc ?_
          refine qG (qA E2_P (qA unt (qA gu (qA lu (qA fd_unit_0 (qA ld_str (qA prC_e bd_isName))))))) fun K hK => ?_
          refine WE.prim (isName_p x.1) fun H9 g9 n9 e9 => ?_
          have gu : H9.get H6.nx = some (.arr (prC x) 137 0 0) := (e9 _).trans gu
          have b1 : H9.get m = some (mapO (seenL us i)) := (e9 m).trans b1
          have b3 : H9.get c3 = some (.arr [.o (.mp m)] 178 0 0) := (e9 c3).trans b3
          have b2 : H9.get c2 = some (.arr [.i .i64 0] 28 0 0) := (e9 c2).trans b2
          rw [← n9] at lu
          have n59 : H5.nx ≤ H9.nx := by omega
          have lc2 : c2 < H9.nx := by omega
          have lc3 : c3 < H9.nx := by omega
          have lm : m < H9.nx := by omega
          have bad : ∀ (e : AExit) (A2 : AAct), e = .ret → A2.dfr = [] → okU us i x = false → A2.dfr = [] ∧ Fr (fun k => (k = m ∨ k = c2) ∨ H6.nx ≤ k) H8 (H9.mod c2 (.arr [.i .i64 10] 28 0 0)) ∧ ∃ s' : Unit,
              (e = AExit.normal → (H9.mod c2 (.arr [.i .i64 10] 28 0 0)).get m = some (mapO (seenL us (i + 1))) ∧ (H9.mod c2 (.arr [.i .i64 10] 28 0 0)).get c3 = some (.arr [.o (.mp m)] 178 0 0) ∧ (H9.mod c2 (.arr [.i .i64 10] 28 0 0)).get c2 = some (.arr [.i .i64 0] 28 0 0) ∧ (∀ (j : Nat), j < i + 1 → okU us j (us.getD j ([], 0)) = true) ∧ H5.nx ≤ (H9.mod c2 (.arr [.i .i64 10] 28 0 0)).nx) ∧
              (e ≠ AExit.normal → e = AExit.ret ∧ (H9.mod c2 (.arr [.i .i64 10] 28 0 0)).get c2 = some (.arr [.i .i64 10] 28 0 0) ∧ ladOK n us = false ∧ H5.nx ≤ (H9.mod c2 (.arr [.i .i64 10] 28 0 0)).nx) ∧
              ∀ (k : Nat), k = m ∨ k = c2 → (k = m ∨ k = c2) ∨ H6.nx ≤ k := fun e A2 he hd hb =>
            ⟨hd, (g9.none).mod _ (.inr (.inl (.inr rfl))), (), fun h => (by rw [he] at h; cases h), fun _ => ⟨he, get_modE rfl, ladOK_no hx0 hb, n59⟩, fun k hk => .inl hk⟩
          cases hq : nmB x.1 with
          | false =>
            refine qS (qA E2_P unt) ?_
            refine hK _ _ ?_
            clear hK K
            refine qY ?_
            refine qW (qA E2_P (qA u2 (qA unt (qA sz_errno (qA b2 lc2))))) ?_
            exact p4 _ _ (bad _ _ rfl (by simp only [putD_dfr, udf]) (by unfold okU; rw [hq]; rfl))
          | true =>
            cases hseen : ((us.take i).any fun y => y.1 == x.1) with
            | true =>
              simp only [qB, slotOk, Nat.reduceLT, Nat.reduceLeDiff, Nat.reduceAdd, Nat.reduceSub, E2_P, u3, unt, b3, lc3, gu, lu, ld_mSB, mp_mSB, zv_bool, look_seen b1, lm, fd_unit_0, ld_str, prC, hseen]
              refine hK _ _ ?_
              clear hK K
              refine qY ?_
              refine qW (qA E2_P (qA u2 (qA unt (qA sz_errno (qA b2 lc2))))) ?_
              exact p4 _ _ (bad _ _ rfl (by simp only [putD_dfr, udf]) (by unfold okU; rw [hseen, Bool.not_true, Bool.and_false, Bool.false_and]))
            | false =>
              have hlm : doLen H9 2 (.one (.o (.mp m))) = .val (.one (.i .i64 (i : Int))) H9 := by
                rw [lenMap b1, seenL_len (by have := yv_len 1 us; rw [hys] at this; omega)]
              simp only [qB, slotOk, Nat.reduceLT, Nat.reduceLeDiff, Nat.reduceAdd, Nat.reduceSub, E2_P, u3, unt, b3, lc3, gu, lu, ld_mSB, mp_mSB, zv_bool, look_seen b1, lm, fd_unit_0, fd_unit_1, ld_str, ld_int, prC, hseen, ln_mSB, hlm, plain_bneq un_bool]
              refine hK _ _ ?_
              clear hK K
              refine qE fun Kx Ky hx hy => ?_
              refine iteI (fun hd => hx ?_) (fun hd => hy ?_)
              · clear hx hy Kx Ky
                refine qW (qA E2_P (qA u2 (qA unt (qA sz_errno (qA b2 lc2))))) ?_
                exact p4 _ _ (bad _ _ rfl (by simp only [putD_dfr, udf]) (by unfold okU; rw [hq, hseen]; simpa using hd))
              · clear hx hy Kx Ky bad
                have hok : okU us i x = true := by unfold okU; rw [hq, hseen]; simpa using hd
                refine R1.s_skip ?_
                refine R1.e_rg fun K hK => ?_
                simp only [qB, slotOk, Nat.reduceLT, Nat.reduceLeDiff, Nat.reduceAdd, Nat.reduceSub, E2_P, u3, unt, b3, lc3, gu, lu, ld_mSB, mp_mSB, fd_unit_0, ld_str, prC, lm, upd_seen b1 hx0 hseen]
                refine hK _ _ ?_
                clear hK K
                refine p1 _ _ ⟨by simp only [putD_dfr, udf], (g9.none).mod _ (.inr (.inl (.inl rfl))), (), fun _ => ⟨get_modE rfl, ?_, ?_, fun j hj => ?_, n59⟩, fun h => absurd rfl h, fun k hk => .inl hk⟩
                · rw [get_modN (by omega)]; exact b3
                · rw [get_modN (by omega)]; exact b2
                · rcases Nat.lt_or_ge j i with h | h
                  · exact a4 j h
                  · have : j = i := by omega
                    subst this
                    rw [List.getD_eq_getElem?_getD, hx0]; exact hok
        · rintro s' H6 ⟨a1, a2, a3, a4, a5⟩ n6 hd6 hf6 hfp
          have g6 : Gr H H6 := gg.then hf6 fun k hk => .inl (by rcases hk with rfl | rfl <;> omega)
          have q1 : H6.get c1 = some (.arr [.o (.str n), u] 68 0 0) := by rw [hf6.get _ (by omega) (fun h => by rcases h with h | h <;> omega)]; exact q1
          have hu6 : SlP H6 u us := hu.gr g6
          have hlm : doLen H6 2 (.one (.o (.mp m))) = .val (.one (.i .i64 (ys.length : Int))) H6 := by
            rw [lenMap a1, seenL_len hyl]
          have lc1 : c1 < H6.nx := by omega
          have lc2 : c2 < H6.nx := by omega
          have lc3 : c3 < H6.nx := by omega
          have lm : m < H6.nx := by omega
          refine k1 _ _ ?_
          refine R1.genA (fun A7 => slot A7.tm 1 = .one (.o (.ptr c1 0 0 2)) ∧ slot A7.tm 2 = .one (.o (.ptr c2 0 0 1)) ∧ slot A7.tm 3 = .one (.o (.ptr c3 0 0 1)) ∧ A7.nt = 55 ∧ A7.dfr = [H5.nx]) ⟨t1, t2, t3, hnt, by show H5.nx :: A.dfr = _; rw [hdf]⟩ ?_
          rintro A7 ⟨u1, u2, u3, unt, udf⟩
          refine qG (qA E2_P (qA u1 (qA u3 (qA unt (qA a2 (qA lc3 (qA lc1 (qA lm (qA q1 (qA fd_lad_1 (qA ld_units (qA ln_units (qA ld_mSB (qA ln_mSB (qA hlm (qA hu6.len (qA hu6.lt bd_need))))))))))))))))) fun K hK => ?_
          refine WE.con (need_con H6 _ 10) fun v H7 g7 hv => ?_
          subst hv
          have b2 : H7.get c2 = some (.arr [.i .i64 0] 28 0 0) := by rw [g7.get _ lc2 not_false]; exact a3
          have lc2 : c2 < H7.nx := Nat.lt_of_lt_of_le lc2 g7.nx
          have hd7 : H7.get H5.nx = some (.oth (.dfr true)) := by rw [g7.get _ (by omega) not_false]; exact hd6
          have g67 : Gr H H7 := g6.gr g7
          refine qS (qA E2_P (qA u2 (qA unt (qA sz_errno (qA b2 lc2))))) ?_
          refine hK _ _ ?_
          clear hK K
          refine qV ?_
          refine fin .ret _ _ _ _ (.inr rfl) (by simp only [putD_dfr, udf]; exact closeAll_one (by rw [get_modN (by omega)]; exact hd7)) ((g67.mod _ (.inl (by omega))).mod _ (.inl (by have := gg.nx; omega))) (by simp only [slot_put, Nat.reduceEqDiff, reduceIte, u2]) (by rw [get_modN (by omega)]; exact get_modE rfl) ?_
          unfold chkLad
          by_cases hlen : (ys.length : Int) = us.length
          · have hall : ladOK n us = true := by
              unfold ladOK
              rw [hnm, hz, hys, decide_eq_true (by omega : (us.length : Int) ≤ 12), decide_eq_true (by omega : ys.length = us.length)]
              simp only [Bool.not_false, Bool.true_and, List.all_eq_true]
              intro j hj
              exact a4 j (by have := List.mem_range.1 hj; omega)
            rw [hall, hlen, beq_self_eq_true]
          · have hall : ladOK n us = false := by
              unfold ladOK
              rw [hys, decide_eq_false (by omega : ¬ ys.length = us.length), Bool.and_false, Bool.false_and]
            rw [hall, beq_false_of_ne hlen]
        · rintro e s' H6 hne ⟨rfl, a2, a3, a5⟩ n6 hd6 hf6 hfp
          have g6 : Gr H H6 := gg.then hf6 fun k hk => .inl (by rcases hk with rfl | rfl <;> omega)
          refine k4 _ _ (fin .ret _ _ _ 10 (.inr rfl) (by show closeAll H6 (H5.nx :: A.dfr) = _; rw [hdf]; exact closeAll_one hd6) (g6.mod _ (.inl (by have := gg.nx; omega))) t2 (by rw [get_modN (by omega)]; exact a2) ?_)
          unfold chkLad
          rw [a3]; rfl
end Go.Proofs.YtekoajibckipkaaGreat
namespace Go.Proofs.YtekoajibckipkaaGreat
open Go Go.Eng
theorem callEnd_cells {E : Env} {s : Tmp} {t : TypeId} {n : Nat} {A : AAct} {H H2 : Hp} {e : AExit} {id g lim : Nat} {cells : List AC} (ht : loadT E.P t = some (true, n)) (he : e = .normal ∨ e = .ret) (hd : closeAll H A.dfr = some H2) (hs : slot A.tm s = .one (.o (.ptr id g 0 lim)))
    (hg : rowOf (H2.get id) g = some cells) (hl : n ≤ lim) (ho : cells.length = n) : callEnd E [.cell s t] (e, A, H) = .ok [(.agg cells, H2)] := by
  have key : (optE (closeAll H A.dfr) (R.bad "marks") fun h2 => optE (resAll E.P [.cell s t] A.tm h2) (.bad "results") fun l => .ok [(tupOf l, h2)]) = .ok [(.agg cells, H2)] := by
    rw [hd]
    have e1 : resF E.P (.cell s t) A.tm H2 = some (true, cells) := by
      have e0 : resF E.P (.cell s t) = match loadT E.P t with
          | some p => fun tm h => optE (tm.get s) none fun v => ANext.rec (motive := fun _ => Option (Bool × List AC)) (fun v _ => resV v) (fun _ => none) (fun _ _ => none) (fun _ _ => none) (fun _ => none) (doLoad h p.1 p.2 v)
          | none => fun _ _ => none := rfl
      rw [e0, ht]
      show optE (A.tm.get s) none (fun v => ANext.rec (motive := fun _ => Option (Bool × List AC)) (fun v _ => resV v) (fun _ => none) (fun _ _ => none) (fun _ _ => none) (fun _ => none) (doLoad H2 true n v)) = _
      rw [getS hs]
      show ANext.rec (motive := fun _ => Option (Bool × List AC)) (fun v _ => resV v) (fun _ => none) (fun _ _ => none) (fun _ _ => none) (fun _ => none) (doLoad H2 true n (.one (.o (.ptr id g 0 lim)))) = _
      rw [doLoad_ptr, hg, ldO_agg hl (by omega), List.drop_zero, List.take_of_length_le (by omega)]; rfl
    have hr : resAll E.P [.cell s t] A.tm H2 = some [(true, cells)] := by
      show optE (resF E.P (.cell s t) A.tm H2) none (fun x => optE (some []) none fun l => some (x :: l)) = _
      rw [e1]; rfl
    show optE (resAll E.P [.cell s t] A.tm H2) (R.bad "results") (fun l => R.ok [(tupOf l, H2)]) = _
    rw [hr]; rfl
  rcases he with rfl | rfl
  · exact key
  · exact key
end Go.Proofs.YtekoajibckipkaaGreat
namespace Go.Proofs.YtekoajibckipkaaGreat
open Go Go.Eng
abbrev Lad := List UInt8 × List Pr
def LadR (H : Hp) (c : List AC) (x : Lad) : Prop := ∃ u, c = [.o (.str x.1), u] ∧ SlP H u x.2
theorem LadR.gr {H H' : Hp} {c : List AC} {x : Lad} (h : LadR H c x) (hg : Gr H H') : LadR H' c x := let ⟨u, h1, h2⟩ := h; ⟨u, h1, h2.gr hg⟩
def SlLad (H : Hp) (v : AC) (ls : List Lad) : Prop := SlR LadR 2 H v ls
theorem SlLad.gr {H H' : Hp} {v : AC} {ls : List Lad} (h : SlLad H v ls) (hg : Gr H H') : SlLad H' v ls := SlR.of_get h hg.nx (fun i hi => hg.get i hi not_false) fun _ _ h => h.gr hg
theorem SlLad.len {H : Hp} {v : AC} {l : List Lad} (h : SlLad H v l) : doLen H 1 (.one v) = .val (.one (.i .i64 (l.length : Int))) H := SlR.len h
theorem SlLad.lt {H : Hp} {v : AC} {l : List Lad} (h : SlLad H v l) : ltV (.one v) H.nx := SlR.lt h
theorem SlLad.open {H : Hp} {v : AC} {l : List Lad} (h : SlLad H v l) (hn : 0 < l.length) : ∃ id g off cells, v = .o (.sl id g off l.length 2) ∧ id < H.nx ∧ rowOf (H.get id) g = some cells ∧
    ∀ (i : Nat) (x : Lad), l[i]? = some x → ∃ u, SlP H u x.2 ∧ (cells.drop (off + i * 2)).take 2 = [.o (.str x.1), u] ∧ off + i * 2 + 2 ≤ cells.length ∧ off + i * 2 + 1 ≤ cells.length ∧ off + i * 2 + 1 + 1 ≤ cells.length ∧
      (cells.drop (off + i * 2)).headD (.b false) = .o (.str x.1) ∧ (cells.drop (off + i * 2 + 1)).headD (.b false) = u := by
  obtain ⟨id, g, off, cells, e1, hid, hg, hat⟩ := SlR.open h hn
  refine ⟨id, g, off, cells, e1, hid, hg, fun i x hx => ?_⟩
  obtain ⟨hle, c, hc, hcl, u, rfl, hu⟩ := hat i x hx
  refine ⟨u, hu, hc, hle, by omega, by omega, ?_, ?_⟩
  · cases hd : cells.drop (off + i * 2) with
    | nil => rw [hd] at hc; cases hc
    | cons a r =>
      rw [hd] at hc
      cases r with
      | nil => cases hc
      | cons b r => cases hc; rfl
  · rw [← List.drop_drop]
    cases hd : cells.drop (off + i * 2) with
    | nil => rw [hd] at hc; cases hc
    | cons a r =>
      rw [hd] at hc
      cases r with
      | nil => cases hc
      | cons b r => cases hc; rfl
def plN : Nat → List Lad → List (List UInt8 × AC)
  | _, [] => []
  | n, x :: ls => (x.1, .i .i64 (n : Int)) :: plN (n + 1) ls
def idxN : Nat → List Lad → List UInt8 → Option Nat
  | _, [], _ => none
  | n, x :: ls, s => if x.1 = s then some n else idxN (n + 1) ls s
theorem idxN_lt : ∀ (n : Nat) (ls : List Lad) (s : List UInt8) (i : Nat), idxN n ls s = some i → n ≤ i ∧ i < n + ls.length ∧ ∃ x, ls[i - n]? = some x ∧ x.1 = s
  | _, [], _, _, h => by cases h
  | n, x :: ls, s, i, h => by
    unfold idxN at h
    by_cases hx : x.1 = s
    · rw [if_pos hx] at h
      cases h
      refine ⟨Nat.le_refl _, by rw [List.length_cons]; omega, x, by rw [Nat.sub_self]; rfl, hx⟩
    · rw [if_neg hx] at h
      obtain ⟨h1, h2, y, h3, h4⟩ := idxN_lt (n + 1) ls s i h
      refine ⟨by omega, by rw [List.length_cons]; omega, y, ?_, h4⟩
      have : i - n = (i - (n + 1)) + 1 := by omega
      rw [this, List.getElem?_cons_succ]; exact h3
def BookR (H : Hp) (p : AC) (ls : List Lad) : Prop :=
  ∃ kb m lad gr fc, p = .o (.ptr kb 0 0 4) ∧ kb < H.nx ∧ m < H.nx ∧ H.get kb = some (.arr [lad, .o (.mp m), gr, fc] 36 0 0) ∧ H.get m = some (mapO (plN 0 ls)) ∧ SlLad H lad ls
theorem BookR.gr {H H' : Hp} {p : AC} {ls : List Lad} (h : BookR H p ls) (hg : Gr H H') : BookR H' p ls := by
  obtain ⟨kb, m, lad, gr, fc, h1, h2, h3, h4, h5, h6⟩ := h
  exact ⟨kb, m, lad, gr, fc, h1, Nat.lt_of_lt_of_le h2 hg.nx, Nat.lt_of_lt_of_le h3 hg.nx, by rw [hg.get _ h2 not_false]; exact h4, by rw [hg.get _ h3 not_false]; exact h5, h6.gr hg⟩
structure NB (n0 kb m : Nat) (lm ll : List Lad) (k2 k3 : Nat) (H1 : Hp) (lad gr fc : AC) (r1 r2 r3 : Option Nat) : Prop where
  kbg : H1.get kb = some (.arr [lad, .o (.mp m), gr, fc] 36 0 0)
  mg : H1.get m = some (mapO (plN 0 lm))
  o1 : ∃ css : List (List AC), OwnR H1 lad 68 2 ll.length (css.flatMap id) r1 ∧ Al (fun c x => c.length = 2 ∧ ∃ u, c = [.o (.str x.1), u] ∧ SlP H1 u x.2 ∧ ∀ id ∈ (AV.one u).ids, id ≠ kb ∧ id ≠ m ∧ some id ≠ r1 ∧ some id ≠ r2 ∧ some id ≠ r3) css ll
  o2 : ∃ cg, OwnR H1 gr 3 1 k2 cg r2
  o3 : ∃ cf, OwnR H1 fc 142 2 k3 cf r3
  kn : n0 ≤ kb ∧ kb < H1.nx
  mn : n0 ≤ m ∧ m < H1.nx
  km : kb ≠ m
  n1 : ∀ q, r1 = some q → n0 ≤ q ∧ q < H1.nx ∧ q ≠ kb ∧ q ≠ m ∧ r2 ≠ some q ∧ r3 ≠ some q
  n2 : ∀ q, r2 = some q → n0 ≤ q ∧ q < H1.nx ∧ q ≠ kb ∧ q ≠ m ∧ r3 ≠ some q
  n3 : ∀ q, r3 = some q → n0 ≤ q ∧ q < H1.nx ∧ q ≠ kb ∧ q ≠ m
section
variable {n0 kb m k2 k3 : Nat} {lm ll : List Lad} {H1 H2 : Hp} {lad gr fc : AC} {r1 r2 r3 : Option Nat}
theorem mod_fr {H : Hp} {k : Nat} {o : AObj} : Fr (fun i => i = k) H (H.mod k o) := (Fr.refl _).mod _ (.inr rfl)
theorem NB.fac (h : NB n0 kb m lm ll k2 k3 H1 lad gr fc r1 r2 r3) {v5 : AC} {r5 : Nat} {H5 : Hp} {c5 : List AC} (ho : OwnR H5 v5 142 2 (k3 + 1) c5 (some r5)) (hf : Fr (fun i => r3 = some i) H1 H5) (hr : r3 = some r5 ∨ H1.nx ≤ r5) :
    NB n0 kb m lm ll k2 (k3 + 1) (H5.mod kb (.arr [lad, .o (.mp m), gr, v5] 36 0 0)) lad gr v5 r1 r2 (some r5) := by
  have r5kb : r5 ≠ kb := by
    rcases hr with e | e
    · exact (h.n3 _ e).2.2.1
    · have := h.kn.2; omega
  have r5m : r5 ≠ m := by
    rcases hr with e | e
    · exact (h.n3 _ e).2.2.2
    · have := h.mn.2; omega
  have n0le : n0 ≤ H1.nx := Nat.le_trans h.kn.1 (Nat.le_of_lt h.kn.2)
  have lt5 : r5 < H5.nx := by
    rcases ho with ⟨_, _, _, e⟩ | ⟨id, lo, gen, e, _, _, _, _, hl⟩
    · cases e
    · cases e; exact hl
  refine ⟨get_modE rfl, ?_, ?_, ?_, ⟨c5, ?_⟩, ⟨h.kn.1, Nat.lt_of_lt_of_le h.kn.2 hf.nx⟩, ⟨h.mn.1, Nat.lt_of_lt_of_le h.mn.2 hf.nx⟩, h.km, ?_, ?_, ?_⟩
  · rw [get_modN (fun e => h.km e.symm), hf.get _ h.mn.2 fun e => (h.n3 _ e).2.2.2 rfl]; exact h.mg
  · obtain ⟨css, a, b⟩ := h.o1
    refine ⟨css, (a.fr hf fun i hi e => (h.n1 i hi).2.2.2.2.2 e).fr mod_fr fun i hi e => (h.n1 i hi).2.2.1 e, b.mono fun c x ⟨hc, u, e, hu, hi⟩ => ⟨hc, u, e, SlC.fr (SlC.fr hu hf fun i h' e => (hi i h').2.2.2.2 e.symm) mod_fr fun i h' e => (hi i h').1 e, fun i h' => ⟨(hi i h').1, (hi i h').2.1, (hi i h').2.2.1, (hi i h').2.2.2.1, fun e => ?_⟩⟩⟩
    cases e
    rcases hr with e | e
    · exact (hi _ h').2.2.2.2 e.symm
    · have := hu.lt _ h'; omega
  · obtain ⟨c, a⟩ := h.o2
    exact ⟨c, (a.fr hf fun i hi e => (h.n2 i hi).2.2.2.2 e).fr mod_fr fun i hi e => (h.n2 i hi).2.2.1 e⟩
  · exact ho.fr mod_fr fun i hi e => by cases hi; exact r5kb e
  · intro q hq
    obtain ⟨a, b, c, d, e, f⟩ := h.n1 q hq
    refine ⟨a, Nat.lt_of_lt_of_le b hf.nx, c, d, e, fun e' => ?_⟩
    cases e'
    rcases hr with e' | e'
    · exact f e'
    · omega
  · intro q hq
    obtain ⟨a, b, c, d, e⟩ := h.n2 q hq
    refine ⟨a, Nat.lt_of_lt_of_le b hf.nx, c, d, fun e' => ?_⟩
    cases e'
    rcases hr with e' | e'
    · exact e e'
    · omega
  · intro q hq
    cases hq
    refine ⟨?_, lt5, r5kb, r5m⟩
    rcases hr with e | e
    · exact (h.n3 _ e).1
    · omega
end
end Go.Proofs.YtekoajibckipkaaGreat
namespace Go.Proofs.YtekoajibckipkaaGreat
open Go Go.Eng
theorem chkLad_len {n : List UInt8} {us : List Pr} (h : chkLad n us = 0) : us.length ≤ 12 := by
  unfold chkLad at h
  by_cases hl : ladOK n us = true
  · unfold ladOK at hl
    simp only [Bool.and_eq_true, decide_eq_true_eq] at hl
    omega
  · rw [if_neg hl] at h; cases h
end Go.Proofs.YtekoajibckipkaaGreat
namespace Go.Proofs.YtekoajibckipkaaGreat
open Go Go.Eng
def BookO (H : Hp) (p : AC) : Option (List Lad) → Prop
  | some ls => BookR H p ls
  | none => p = .o .nilP ∨ ∃ kb, p = .o (.ptr kb 0 0 4) ∧ kb < H.nx ∧ H.get kb = some (.arr [.o .nilS, .o .nilM, .o .nilS, .o .nilS] 36 0 0)
theorem BookO.gr {H H' : Hp} {p : AC} {o : Option (List Lad)} (h : BookO H p o) (hg : Gr H H') : BookO H' p o := by
  cases o with
  | some ls => exact BookR.gr h hg
  | none =>
    refine Or.imp id ?_ h
    rintro ⟨kb, h1, h2, h3⟩
    exact ⟨kb, h1, Nat.lt_of_lt_of_le h2 hg.nx, by rw [hg.get _ h2 not_false]; exact h3⟩
theorem BookO.same {H H' : Hp} {p : AC} {o : Option (List Lad)} (ht : H'.t = H.t) (hn : H'.nx = H.nx) (h : BookO H p o) : BookO H' p o :=
  by
    obtain ⟨t, nx, l⟩ := H
    obtain ⟨t', nx', l'⟩ := H'
    cases ht; cases hn
    exact h
def ladE : Option (List Lad) → List UInt8 → Int
  | none, _ => 1
  | some ls, s => if (idxN 0 ls s).isSome = true then 0 else 4
def LadA (H : Hp) (c : List AC) (o : Option (List Lad)) (s : List UInt8) : Prop :=
  (ladE o s ≠ 0 → c = [.o (.str []), .o .nilS]) ∧ ∀ ls i x, o = some ls → idxN 0 ls s = some i → ls[i]? = some x → LadR H c x
theorem ladE_none (s : List UInt8) : ladE none s = 1 := rfl
theorem ladE_some (ls : List Lad) (s : List UInt8) : ladE (some ls) s = if (idxN 0 ls s).isSome = true then 0 else 4 := rfl
theorem idx_at {ls : List Lad} {s : List UInt8} {i : Nat} (h : idxN 0 ls s = some i) : ∃ x, ls[i]? = some x ∧ x.1 = s := by
  obtain ⟨_, _, x, h3, h4⟩ := idxN_lt 0 ls s i h
  exact ⟨x, h3, h4⟩
end Go.Proofs.YtekoajibckipkaaGreat
namespace Go.Proofs.YtekoajibckipkaaGreat
open Go Go.Eng
theorem ld_strs : loadT Tryz.prog 83 = some (false, 1) := by kernel_rfl
theorem sz_strs : sizeT Tryz.prog 83 = some 1 := by kernel_rfl
theorem zr_strs : (zeroT Tryz.prog 83).map (fun z => (ofValue z).cells) = some [.o .nilS] := by kernel_rfl
theorem el_strs : elemT Tryz.prog 83 = some (9, 1) := by kernel_rfl
theorem ln_strs : lenT Tryz.prog 83 = some 1 := by kernel_rfl
theorem ad_strs : addrT Tryz.prog 83 = 1 := by kernel_rfl
theorem ld_good : loadT Tryz.prog 85 = some (true, 3) := by kernel_rfl
theorem sz_good : sizeT Tryz.prog 85 = some 3 := by kernel_rfl
theorem zr_good : (zeroT Tryz.prog 85).map (fun z => (ofValue z).cells) = some [.o (.str []), .o (.str []), .o .nilS] := by kernel_rfl
theorem ad_good : addrT Tryz.prog 85 = 4 := by kernel_rfl
theorem fd_good_0 : fieldT Tryz.prog 85 0 = some (0, 9, 1) := by kernel_rfl
theorem fd_good_1 : fieldT Tryz.prog 85 1 = some (1, 9, 1) := by kernel_rfl
theorem fd_good_2 : fieldT Tryz.prog 85 2 = some (2, 83, 1) := by kernel_rfl
def pl_good : Nat → Option (Nat × Nat) := fun i => (#[(0, 1), (1, 1), (2, 1)] : Array (Nat × Nat))[i]?
theorem pt_good : placeT Tryz.prog 85 = some pl_good := by kernel_rfl
theorem pl_good_0 : pl_good 0 = some (0, 1) := rfl
theorem pl_good_1 : pl_good 1 = some (1, 1) := rfl
theorem pl_good_2 : pl_good 2 = some (2, 1) := rfl
theorem ld_goods : loadT Tryz.prog 23 = some (false, 1) := by kernel_rfl
theorem sz_goods : sizeT Tryz.prog 23 = some 1 := by kernel_rfl
theorem zr_goods : (zeroT Tryz.prog 23).map (fun z => (ofValue z).cells) = some [.o .nilS] := by kernel_rfl
theorem el_goods : elemT Tryz.prog 23 = some (85, 3) := by kernel_rfl
theorem ln_goods : lenT Tryz.prog 23 = some 1 := by kernel_rfl
theorem ad_goods : addrT Tryz.prog 23 = 1 := by kernel_rfl
end Go.Proofs.YtekoajibckipkaaGreat
namespace Go.Proofs.YtekoajibckipkaaGreat
open Go Go.Eng
def strC (s : List UInt8) : List AC := [.o (.str s)]
theorem strC_len (s : List UInt8) : (strC s).length = 1 := rfl
def SlS (H : Hp) (v : AC) (l : List (List UInt8)) : Prop := SlC H v 1 l.length (l.flatMap strC)
theorem SlS.gr {H H' : Hp} {v : AC} {l : List (List UInt8)} (h : SlS H v l) (hg : Gr H H') : SlS H' v l := SlC.gr h hg
theorem SlS.len {H : Hp} {v : AC} {l : List (List UInt8)} (h : SlS H v l) : doLen H 1 (.one v) = .val (.one (.i .i64 (l.length : Int))) H := SlC.len h
theorem SlS.lt {H : Hp} {v : AC} {l : List (List UInt8)} (h : SlS H v l) : ltV (.one v) H.nx := ltV_slc h
theorem SlS.open {H : Hp} {v : AC} {l : List (List UInt8)} (h : SlS H v l) (hn : 0 < l.length) : ∃ id g off cells, v = .o (.sl id g off l.length 1) ∧ id < H.nx ∧ rowOf (H.get id) g = some cells ∧ ∀ (i : Nat) (x : List UInt8), l[i]? = some x → (cells.drop (off + i * 1)).headD (.b false) = .o (.str x) ∧ off + i * 1 + 1 ≤ cells.length := by
  obtain ⟨id, g, off, h1, h2, hr⟩ := SlC.pos h hn
  have hr' := hr
  obtain ⟨cells, h3, h6, h7⟩ := hr
  refine ⟨id, g, off, cells, h1, h2, h3, fun i x hx => ?_⟩
  obtain ⟨cells', k3, k6, k7⟩ := Rd.at (c := strC) strC_len hr' hx
  rw [h3] at k3
  cases k3
  refine ⟨?_, k6⟩
  cases hd : cells.drop (off + i * 1) with
  | nil => have := congrArg List.length hd; simp at this; omega
  | cons a r =>
    rw [hd] at k7
    have := (List.cons.inj k7).1
    rw [this]; rfl
abbrev Gd := List UInt8 × List UInt8 × List (List UInt8)
def GdR (H : Hp) (c : List AC) (x : Gd) : Prop := ∃ u, c = [.o (.str x.1), .o (.str x.2.1), u] ∧ SlS H u x.2.2
theorem GdR.gr {H H' : Hp} {c : List AC} {x : Gd} (h : GdR H c x) (hg : Gr H H') : GdR H' c x := let ⟨u, h1, h2⟩ := h; ⟨u, h1, h2.gr hg⟩
def SlG (H : Hp) (v : AC) (gs : List Gd) : Prop := SlR GdR 3 H v gs
theorem SlG.gr {H H' : Hp} {v : AC} {ls : List Gd} (h : SlG H v ls) (hg : Gr H H') : SlG H' v ls := SlR.of_get h hg.nx (fun i hi => hg.get i hi not_false) fun _ _ h => h.gr hg
theorem SlG.len {H : Hp} {v : AC} {l : List Gd} (h : SlG H v l) : doLen H 1 (.one v) = .val (.one (.i .i64 (l.length : Int))) H := SlR.len h
theorem SlG.lt {H : Hp} {v : AC} {l : List Gd} (h : SlG H v l) : ltV (.one v) H.nx := SlR.lt h
structure GdAt (H : Hp) (cells : List AC) (o : Nat) (x : Gd) (u : AC) : Prop where
  of : SlS H u x.2.2
  all : (cells.drop o).take 3 = [.o (.str x.1), .o (.str x.2.1), u]
  le : o + 3 ≤ cells.length
  le1 : o + 1 ≤ cells.length
  le2 : o + 1 + 1 ≤ cells.length
  le3 : o + 2 + 1 ≤ cells.length
  f1 : (cells.drop o).headD (.b false) = .o (.str x.1)
  f2 : (cells.drop (o + 1)).headD (.b false) = .o (.str x.2.1)
  f3 : (cells.drop (o + 2)).headD (.b false) = u
theorem drop3 {cells : List AC} {o : Nat} {a b c : AC} (h : (cells.drop o).take 3 = [a, b, c]) : (cells.drop o).headD (.b false) = a ∧ (cells.drop (o + 1)).headD (.b false) = b ∧ (cells.drop (o + 2)).headD (.b false) = c := by
  rw [← List.drop_drop, ← List.drop_drop]
  cases hd : cells.drop o with
  | nil => rw [hd] at h; cases h
  | cons x r =>
    rw [hd] at h
    cases r with
    | nil => cases h
    | cons y r =>
      cases r with
      | nil => cases h
      | cons z r => cases h; exact ⟨rfl, rfl, rfl⟩
theorem SlG.open {H : Hp} {v : AC} {l : List Gd} (h : SlG H v l) (hn : 0 < l.length) : ∃ id g off cells, v = .o (.sl id g off l.length 3) ∧ id < H.nx ∧ rowOf (H.get id) g = some cells ∧
    ∀ (i : Nat) (x : Gd), l[i]? = some x → ∃ u, GdAt H cells (off + i * 3) x u := by
  obtain ⟨id, g, off, cells, e1, hid, hg, hat⟩ := SlR.open h hn
  refine ⟨id, g, off, cells, e1, hid, hg, fun i x hx => ?_⟩
  obtain ⟨hle, c, hc, hcl, u, rfl, hu⟩ := hat i x hx
  obtain ⟨a, b, c⟩ := drop3 hc
  exact ⟨u, hu, hc, hle, by omega, by omega, by omega, a, b, c⟩
theorem alTake {α β : Type} {R : β → α → Prop} : ∀ {cs : List β} {xs : List α} (n : Nat), Al R cs xs → Al R (cs.take n) (xs.take n)
  | _, _, 0, _ => trivial
  | [], [], _ + 1, _ => trivial
  | _ :: _, _ :: _, n + 1, h => ⟨h.1, alTake n h.2⟩
  | [], _ :: _, _ + 1, h => h.elim
  | _ :: _, [], _ + 1, h => h.elim
theorem flatM_take {sz : Nat} : ∀ {css : List (List AC)} (n : Nat), (∀ c ∈ css, c.length = sz) → (css.take n).flatMap id = (css.flatMap id).take (n * sz)
  | [], n, _ => by simp
  | c :: css, 0, _ => by simp
  | c :: css, n + 1, h => by
    have hc : c.length = sz := h c (List.mem_cons_self ..)
    rw [List.take_succ_cons, List.flatMap_cons, List.flatMap_cons, flatM_take n fun x hx => h x (List.mem_cons_of_mem _ hx), Nat.succ_mul]
    show c ++ _ = (c ++ css.flatMap id).take (n * sz + sz)
    have : n * sz + sz - sz = n * sz := by omega
    rw [List.take_append, hc, this, List.take_of_length_le (l := c) (by omega)]
theorem SlR.take {α : Type} {R : Hp → List AC → α → Prop} {sz : Nat} {H : Hp} {id g off : Nat} {l : List α} (h : SlR R sz H (.o (.sl id g off l.length sz)) l) {n : Nat} (hn : n ≤ l.length) : SlR R sz H (.o (.sl id g off n sz)) (l.take n) := by
  obtain ⟨css, h1, h2⟩ := h
  have hl : (l.take n).length = n := by rw [List.length_take]; omega
  have hcl : css.length = l.length := h2.len
  have hcn : (css.take n).length = n := by rw [List.length_take]; omega
  refine ⟨css.take n, ⟨?_, ?_⟩, alTake n h2⟩
  · rw [flatM_len fun c hc => h2.lens c (List.mem_of_mem_take hc), hcn, hl]
  · rcases h1.2 with ⟨e, h0⟩ | ⟨id', g', off', e, hid, hr⟩
    · cases e
    · cases e
      right
      refine ⟨id, g, off, by rw [hl], hid, ?_⟩
      rw [hl, flatM_take n h2.lens]
      have := hr.part 0 (n * sz) (by have := Nat.mul_le_mul_right sz hn; omega)
      rwa [List.drop_zero, Nat.add_zero] at this
end Go.Proofs.YtekoajibckipkaaGreat
namespace Go.Proofs.YtekoajibckipkaaGreat
open Go Go.Eng
section
variable {st : Bool} {E : Env} {A : AAct} {H : Hp} {next : AAct → Hp → Prop} {d : Option Tmp} {ty : TypeId} {pos : String} {af : Array Edge} {gd : Option (Nat × Bool)}
theorem SK_index {t : TypeId} {x i : Operand} : SK st E ⟨d, .index t x i, ty, pos, af, gd⟩ A H next = vN next A d (doIndex H (isStrT E.P t) (ev A.tm x) (ev A.tm i) (plainOp E.P A.tm H ⟨d, .index t x i, ty, pos, af, gd⟩)) := tand
theorem str_at {s : List UInt8} {n : Nat} {b : UInt8} {k : IntKind} {alt : ANext} (h : s[n]? = some b) : doIndex H true (.one (.o (.str s))) (.one (.i k (n : Int))) alt = .val (.one (.i .u8 (b.toNat : Int))) H := by
  show nd (nthB n s) _ _ = _
  rw [nthB_eq, h]; rfl
theorem str_0 {c : UInt8} {s : List UInt8} {k : IntKind} {alt : ANext} : doIndex H true (.one (.o (.str (c :: s)))) (.one (.i k 0)) alt = .val (.one (.i .u8 (c.toNat : Int))) H := rfl
end
theorem bd_refName : hasBody Tryz.prog 43 = true := by kernel_rfl
theorem okB_dec (c : UInt8) : okB c = (decide ((c.toNat : Int) = 95) || (decide (97 ≤ (c.toNat : Int)) && decide ((c.toNat : Int) ≤ 122)) || (decide (48 ≤ (c.toNat : Int)) && decide ((c.toNat : Int) ≤ 57))) := by
  rw [Bool.eq_iff_iff, okB_iff]
  simp only [Bool.or_eq_true, Bool.and_eq_true, decide_eq_true_eq, or_assoc]
theorem nmB_cons (c : UInt8) (l : List UInt8) : nmB (c :: l) = (decide (l.length + 1 ≤ 16) && (decide (97 ≤ (c.toNat : Int)) && decide ((c.toNat : Int) ≤ 122)) && (c :: l).all okB) := by
  unfold nmB
  have e1 : decide (97 ≤ (c.toNat : Int)) = decide ((97 : UInt8) ≤ c) := by
    rw [decide_eq_decide, UInt8.le_iff_toNat_le]
    show (97 : Int) ≤ c.toNat ↔ 97 ≤ c.toNat
    omega
  have e2 : decide ((c.toNat : Int) ≤ 122) = decide (c ≤ (122 : UInt8)) := by
    rw [decide_eq_decide, UInt8.le_iff_toNat_le]
    show (c.toNat : Int) ≤ 122 ↔ c.toNat ≤ 122
    omega
  rw [e1, e2]
  simp only [List.isEmpty_cons, Bool.not_false, Bool.true_and, List.length_cons, Bool.and_assoc]
set_option maxRecDepth 10000 in
set_option maxHeartbeats 4000000 in
theorem refName_con (H : Hp) (s : List UInt8) : Con E2 43 [.one (.o (.str s))] H (fun _ => False) fun v _ => v = .one (.b (nmB s)) := by
  refine Con.of rfl fun lg => ?_
  generalize (⟨H.t, H.nx, lg⟩ : Hp) = H
  refine C1.body (E := E2) (nt := 52) (res := [.tmp 2]) Tryz.func43 rfl rfl rfl rfl rfl fun tm hargs => ?_
  have h0 := hargs 0 _ rfl
  clear hargs
  cases s with
  | nil =>
    refine qW E2_P ?_
    repeat refine R1.s_assoc ?_
    refine R1.s_rg fun K hK => ?_
    simp only [qB, slotOk, Nat.reduceLT, Int.reduceLT, E2_P, h0, ln_str]
    refine hK _ _ ?_
    clear hK K
    refine qY ?_
    refine qV ?_
    exact ⟨_, _, callEnd_one (.b false) (.inr rfl) rfl qp, Fr.refl _, fun _ => rfl⟩
  | cons c l =>
    have hl1 : (((l.length + 1 : Nat) : Int) < 1) = False := eq_false (by omega)
    refine qW E2_P ?_
    repeat refine R1.s_assoc ?_
    refine R1.s_rg fun K hK => ?_
    simp only [qB, slotOk, Nat.reduceLT, E2_P, h0, ln_str, hl1]
    repeat' (refine SU_iteI (fun hc => ?_) (fun hc => ?_) <;> (try simp only [Classical.not_not] at hc) <;> simp only [hc, qB, slotOk, Nat.reduceLT, E2_P, h0, SK_index, is_str, str_0])
    all_goals refine hK _ _ ?_
    all_goals clear hK K
    all_goals refine qE fun Kx Ky hx hy => ?_
    all_goals first | refine hx ?_ | refine hy ?_ | refine iteI (fun hd => hx ?_) (fun hd => hy ?_)
    all_goals clear hx hy Kx Ky
    all_goals refine qV ?_
    all_goals first
      | (refine ⟨_, _, callEnd_one (.b false) (.inr rfl) rfl qp, Fr.refl _, fun _ => ?_⟩
         have : nmB (c :: l) = false := Bool.eq_false_iff.2 fun h => by
           rw [nmB_cons] at h
           simp only [Bool.and_eq_true, decide_eq_true_eq] at h
           omega
         rw [this]; done)
      | skip
    rename_i hl16
    have hnm : nmB (c :: l) = (c :: l).all okB := by
      rw [nmB_cons, decide_eq_true (by omega : l.length + 1 ≤ 16), decide_eq_true (by omega : 97 ≤ (c.toNat : Int)), decide_eq_true (by omega : (c.toNat : Int) ≤ 122)]; rfl
    rw [hnm]
    clear hnm hl1 hc hd
    generalize hs : c :: l = s at h0 ⊢
    have hlen : s.length ≤ 16 := by rw [← hs, List.length_cons]; omega
    clear hl16 hs
    refine R1.s_block fun K k1 k2 k3 k4 => ?_
    refine R1.loop (fun m A1 H1 => ∃ i : Nat, m = s.length - i ∧ i ≤ s.length ∧ H1 = H ∧ (s.take i).all okB = true ∧ slot A1.tm 0 = .one (.o (.str s)) ∧ slot A1.tm 3 = .one (.i .i64 (i : Int)) ∧ A1.nt = 52 ∧ A1.dfr = []) ?_ s.length
      ⟨0, rfl, Nat.zero_le _, rfl, rfl, ?_, ?_, rfl, rfl⟩
    · clear h0 tm
      rintro m A1 H1 ⟨i, rfl, hi, rfl, hall, t0, t3, hnt, hdf⟩
      refine qW (qA E2_P (qA t0 (qA t3 (qA hnt ln_str)))) ?_
      refine qE fun Kx Ky hx hy => ?_
      refine iteI (fun hc => hx ?_) (fun hc => hy ?_)
      · clear hx hy Kx Ky
        have hlt : i < s.length := by omega
        have hb : s[i]? = some s[i] := List.getElem?_eq_getElem hlt
        have htk : s.take (i + 1) = s.take i ++ [s[i]] := List.take_succ_eq_append_getElem hlt
        have hmem : s[i] ∈ s := List.getElem_mem hlt
        generalize s[i] = b at hb htk hmem
        refine R1.s_skip (R1.s_block fun K2 q1 q2 q3 q4 => ?_)
        repeat refine R1.s_assoc ?_
        refine R1.s_rg fun K hK => ?_
        simp only [qB, slotOk, Nat.reduceLT, E2_P, t0, t3, hnt, SK_index, is_str, str_at hb]
        refine hK _ _ ?_
        clear hK K
        refine qG (qA E2_P hnt) fun K hK => ?_
        repeat' (refine SU_iteI (fun hc => ?_) (fun hc => ?_) <;> (try simp only [Classical.not_not] at hc) <;> simp only [hc, qB, slotOk, Nat.reduceLT, E2_P, hnt])
        all_goals refine hK _ _ ?_
        all_goals clear hK K
        all_goals refine qE fun Kx Ky hx hy => ?_
        all_goals first | refine hx ?_ | refine hy ?_ | refine iteI (fun hd => hx ?_) (fun hd => hy ?_)
        all_goals clear hx hy Kx Ky
        all_goals (try simp only [beq_eq_false_iff_ne, ne_eq, Classical.not_not] at hd)
        all_goals refine qW (qA t3 hnt) ?_
        all_goals first
          | (refine q4 _ _ (k4 _ _ ⟨_, _, callEnd_one (.b false) (.inr rfl) (qd hdf) qp, Fr.refl _, fun _ => ?_⟩)
             have hno : okB b = false := Bool.eq_false_iff.2 fun h => by
               rw [okB_dec] at h
               simp only [Bool.or_eq_true, Bool.and_eq_true, decide_eq_true_eq] at h
               omega
             have : s.all okB = false := List.all_eq_false.2 ⟨b, hmem, by rw [hno]; decide⟩
             rw [this]; done)
          | (refine q1 _ _ ?_
             have hok : okB b = true := by
               rw [okB_dec]
               simp only [Bool.or_eq_true, Bool.and_eq_true, decide_eq_true_eq]
               omega
             have hw2 : IntKind.i64.wrap ((i : Int) + 1) = ((i + 1 : Nat) : Int) := by rw [wrapI (by omega) (by omega)]; omega
             refine qW (qA t3 (qA hnt hw2)) ?_
             refine ⟨s.length - (i + 1), by omega, i + 1, rfl, hlt, rfl, by rw [htk, List.all_append, hall, List.all_cons, hok]; rfl, ?_, ?_, ?_, ?_⟩
             · simp only [slot_put, Nat.reduceEqDiff, reduceIte, t0]
             · simp only [slot_put, Nat.reduceEqDiff, reduceIte]
             · simp only [putD_nt, hnt]
             · simp only [putD_dfr, hdf])
      · clear hx hy Kx Ky
        have hie : i = s.length := by omega
        refine qW hnt ?_
        refine k2 _ _ ?_
        refine qW hnt ?_
        refine ⟨_, _, callEnd_one (.b true) (.inr rfl) (qd hdf) qp, Fr.refl _, fun _ => ?_⟩
        rw [hie, List.take_length] at hall
        rw [hall]
    all_goals simp only [slot_put, Nat.reduceEqDiff, reduceIte, h0]
    all_goals rfl
theorem bd_signAt : hasBody Tryz.prog 114 = true := by kernel_rfl
theorem bd_values : hasBody Tryz.prog 115 = true := by kernel_rfl
theorem bd_refCheck : hasBody Tryz.prog 74 = true := by kernel_rfl
def idxU : Nat → List Pr → List UInt8 → Int
  | _, [], _ => -1
  | n, x :: l, s => if x.1 = s then (n : Int) else idxU (n + 1) l s
set_option maxRecDepth 10000 in
set_option maxHeartbeats 4000000 in
theorem signAt_con (H : Hp) (n : List UInt8) (u : AC) (us : List Pr) (s : List UInt8) (hu : SlP H u us) (hL : us.length ≤ 1000000) :
    Con E2 114 [.agg [.o (.str n), u], .one (.o (.str s))] H (fun _ => False) fun r _ => r = .one (.i .i64 (idxU 0 us s)) := by
  refine Con.of rfl fun lg => ?_
  have hu : SlP ⟨H.t, H.nx, lg⟩ u us := hu
  generalize (⟨H.t, H.nx, lg⟩ : Hp) = H at hu ⊢
  refine C1.body (E := E2) (nt := 22) (res := [.tmp 4]) Tryz.func114 rfl rfl rfl rfl rfl fun tm hargs => ?_
  have h0 := hargs 0 _ rfl
  have h1 := hargs 1 _ rfl
  clear hargs
  generalize hr0 : idxU 0 us s = r0
  refine qG (qA E2_P h0) fun K hK => ?_
  refine hK _ _ ?_
  clear hK K
  refine R1.gen (fun A1 H1 => Gr H H1 ∧ H.nx < H1.nx ∧ H1.get H.nx = some (.arr [.o (.str n), u] 68 0 0) ∧ slot A1.tm 1 = .one (.o (.str s)) ∧ slot A1.tm 2 = .one (.o (.ptr H.nx 0 0 2)) ∧ A1.nt = 22 ∧ A1.dfr = [])
    ⟨(Fr.refl _).new _, ?_⟩ ?_
  · exact qZ h1
  rintro A1 H1 ⟨g1, lb, rb, t1, t2, hnt, hdf⟩
  clear h0 h1 tm
  have hu1 := hu.gr g1
  refine qW hnt ?_
  refine R1.s_block fun K k1 k2 k3 k4 => ?_
  refine R1.loop (fun k A H2 => ∃ i : Nat, k = us.length - i ∧ i ≤ us.length ∧ H2 = H1 ∧ idxU i (us.drop i) s = r0 ∧ slot A.tm 1 = .one (.o (.str s)) ∧ slot A.tm 2 = .one (.o (.ptr H.nx 0 0 2)) ∧ slot A.tm 5 = .one (.i .i64 (i : Int)) ∧ A.nt = 22 ∧ A.dfr = []) ?_ us.length
    ⟨0, rfl, Nat.zero_le _, rfl, hr0, ?_⟩
  · clear t1 t2 hnt hdf A1
    rintro k A H2 ⟨i, rfl, hi, rfl, hr, t1, t2, t5, hnt, hdf⟩
    refine qW (qA E2_P (qA t2 (qA t5 (qA hnt (qA rb (qA lb (qA fd_lad_1 (qA ld_units (qA ln_units (qA hu1.len hu1.lt)))))))))) ?_
    refine qE fun Kx Ky hx hy => ?_
    refine iteI (fun hc => hx ?_) (fun hc => hy ?_)
    · clear hx hy Kx Ky
      have hlt : i < us.length := by omega
      obtain ⟨id, g, off, cells, rfl, hid, hgr, hat⟩ := hu1.open (by omega)
      have ex : us[i]? = some us[i] := List.getElem?_eq_getElem hlt
      have hdr : us.drop i = us[i] :: us.drop (i + 1) := List.drop_eq_getElem_cons hlt
      generalize us[i] = x at ex hdr
      have hx1 := hat i x ex
      have hw2 : IntKind.i64.wrap ((i : Int) + 1) = ((i + 1 : Nat) : Int) := by rw [wrapI (by omega) (by omega)]; omega
      rw [hdr, idxU] at hr
      refine qV ?_
      refine R1.s_block fun K2 q1 q2 q3 q4 => ?_
      refine qG (qA E2_P (qA t1 (qA t2 (qA t5 (qA hnt (qA rb (qA lb (qA fd_lad_1 (qA ld_units (qA el_units (qA fd_unit_0 (qA ld_str (qA (ixC hlt) (qA hid (qA hgr (qA hx1.fst hx1.le1)))))))))))))))) fun K hK => ?_
      refine hK _ _ ?_
      clear hK K
      by_cases hxs : x.1 = s
      · rw [if_pos hxs] at hr
        have ce : lEq x.1 s = true := by rw [lEq_eq, hxs, beq_self_eq_true]
        refine qX ce ?_
        refine qW (qA hnt t5) ?_
        exact q4 _ _ (k4 _ _ ⟨_, _, callEnd_one (.i .i64 (i : Int)) (.inr rfl) (qd hdf) qp, g1, fun _ => by rw [← hr]⟩)
      · rw [if_neg hxs] at hr
        have ce : lEq x.1 s = false := by rw [lEq_eq]; exact beq_false_of_ne hxs
        refine qX ce ?_
        refine qW hnt ?_
        refine q1 _ _ ?_
        refine qW (qA hnt (qA t5 hw2)) ?_
        refine ⟨us.length - (i + 1), by omega, i + 1, rfl, hlt, rfl, hr, ?_, ?_, ?_, ?_, ?_⟩
        · simp only [slot_put, Nat.reduceEqDiff, reduceIte, t1]
        · simp only [slot_put, Nat.reduceEqDiff, reduceIte, t2]
        · simp only [slot_put, Nat.reduceEqDiff, reduceIte]
        · simp only [putD_nt, hnt]
        · simp only [putD_dfr, hdf]
    · clear hx hy Kx Ky
      have hie : i = us.length := by omega
      rw [hie, List.drop_length, idxU] at hr
      refine qW hnt ?_
      refine k2 _ _ ?_
      refine qW hnt ?_
      exact ⟨_, _, callEnd_one (.i .i64 (-1)) (.inr rfl) (qd hdf) qp, g1, fun _ => by rw [← hr]⟩
  · simp only [slot_put, Nat.reduceEqDiff, reduceIte, putD_nt, putD_dfr, t1, t2, hnt, hdf, and_self, true_and]
    exact ⟨rfl, trivial⟩
def valsU : Int → List Pr → Option (List Int)
  | _, [] => some []
  | v, x :: l => if 1099511627776 < v * x.2 then none else (valsU (v * x.2) l).map (v * x.2 :: ·)
def intC (n : Int) : List AC := [.i .i64 n]
theorem intC_len (n : Int) : (intC n).length = 1 := rfl
def SlI (H : Hp) (v : AC) (l : List Int) : Prop := SlC H v 1 l.length (l.flatMap intC)
set_option maxRecDepth 10000 in
set_option maxHeartbeats 4000000 in
theorem values_con (H : Hp) (n : List UInt8) (u : AC) (us : List Pr) (hu : SlP H u us) (hL : us.length ≤ 1000000) (hf : ∀ x ∈ us, 1 ≤ x.2 ∧ x.2 ≤ 60) :
    Con E2 115 [.agg [.o (.str n), u]] H (fun _ => False) fun r H' => ∃ c, r = .tup [(false, [c]), (false, [.b (valsU 1 us).isSome])] ∧ SlI H' c ((valsU 1 us).getD []) := by
  refine Con.of rfl fun lg => ?_
  have hu : SlP ⟨H.t, H.nx, lg⟩ u us := hu
  generalize (⟨H.t, H.nx, lg⟩ : Hp) = H at hu ⊢
  refine C1.body (E := E2) (nt := 29) (res := [.tmp 2, .tmp 3]) Tryz.func115 rfl rfl rfl rfl rfl fun tm hargs => ?_
  have h0 := hargs 0 _ rfl
  clear hargs
  generalize hr0 : valsU 1 us = r0
  refine qG (qA E2_P h0) fun K hK => ?_
  refine hK _ _ ?_
  clear hK K
  refine R1.gen (fun A1 H1 => Gr H H1 ∧ H.nx < H1.nx ∧ H1.get H.nx = some (.arr [.o (.str n), u] 68 0 0) ∧ slot A1.tm 1 = .one (.o (.ptr H.nx 0 0 2)) ∧ A1.nt = 29 ∧ A1.dfr = [])
    ⟨(Fr.refl _).new _, ?_⟩ ?_
  · exact qU
  rintro A1 H1 ⟨g1, lb, rb, t1, hnt, hdf⟩
  clear h0 tm
  obtain ⟨zi, hzi, hzil⟩ := zx_int
  refine qW hnt ?_
  refine R1.s_block fun K k1 k2 k3 k4 => ?_
  refine R1.loop (fun k A H2 => ∃ (i : Nat) (out : List Int) (v : Int) (v4 : AC) (r : Option Nat), k = us.length - i ∧ i ≤ us.length ∧ out.length = i ∧ Gr H1 H2 ∧ 1 ≤ v ∧ v ≤ 1099511627776 ∧ (valsU v (us.drop i)).map (out ++ ·) = r0 ∧ OwnR H2 v4 3 1 out.length (out.flatMap intC) r ∧ (∀ q, r = some q → H1.nx ≤ q) ∧
    slot A.tm 1 = .one (.o (.ptr H.nx 0 0 2)) ∧ slot A.tm 4 = .one v4 ∧ slot A.tm 5 = .one (.i .i64 v) ∧ slot A.tm 6 = .one (.i .i64 (i : Int)) ∧ A.nt = 29 ∧ A.dfr = []) ?_ us.length
    ⟨0, [], 1, .o .nilS, none, rfl, Nat.zero_le _, rfl, Fr.refl _, by omega, by omega, ?_, .inl ⟨rfl, rfl, rfl, rfl⟩, fun q hq => (by cases hq), ?_⟩
  · clear t1 hnt hdf A1
    rintro k A H2 ⟨i, out, v, v4, r, rfl, hi, hout, g2, hv1, hv2, hr, hown, hrow, t1, t4, t5, t6, hnt, hdf⟩
    have rb2 : H2.get H.nx = some (.arr [.o (.str n), u] 68 0 0) := by rw [g2.get _ lb not_false]; exact rb
    have lb2 : H.nx < H2.nx := Nat.lt_of_lt_of_le lb g2.nx
    have hu2 := (hu.gr g1).gr g2
    refine qW (qA E2_P (qA t1 (qA t6 (qA hnt (qA rb2 (qA lb2 (qA fd_lad_1 (qA ld_units (qA ln_units (qA hu2.len hu2.lt)))))))))) ?_
    refine qE fun Kx Ky hx hy => ?_
    refine iteI (fun hc => hx ?_) (fun hc => hy ?_)
    · clear hx hy Kx Ky
      have hlt : i < us.length := by omega
      obtain ⟨id, g, off, cells, rfl, hid, hgr, hat⟩ := hu2.open (by omega)
      have ex : us[i]? = some us[i] := List.getElem?_eq_getElem hlt
      have hdr : us.drop i = us[i] :: us.drop (i + 1) := List.drop_eq_getElem_cons hlt
      have hff := hf us[i] (List.getElem_mem hlt)
      generalize us[i] = x at ex hdr hff
      have hx1 := hat i x ex
      have hw2 : IntKind.i64.wrap ((i : Int) + 1) = ((i + 1 : Nat) : Int) := by rw [wrapI (by omega) (by omega)]; omega
      have hmul1 : 1 ≤ v * x.2 := by
        have := Int.mul_le_mul hv1 hff.1 (by omega) (by omega)
        omega
      have hmul2 : v * x.2 ≤ 1099511627776 * 60 := Int.mul_le_mul hv2 hff.2 (by omega) (by omega)
      have hwm : IntKind.i64.wrap (v * x.2) = v * x.2 := wrapI (by omega) (by omega)
      rw [hdr, valsU] at hr
      refine qV ?_
      refine R1.s_block fun K2 q1 q2 q3 q4 => ?_
      refine qG (qA E2_P (qA t1 (qA t5 (qA t6 (qA hnt (qA rb2 (qA lb2 (qA fd_lad_1 (qA ld_units (qA el_units (qA fd_unit_1 (qA ld_int (qA (ixC hlt) (qA hid (qA hgr (qA hx1.snd (qA hx1.le2 hwm))))))))))))))))) fun K hK => ?_
      refine hK _ _ ?_
      clear hK K
      refine qW hnt ?_
      by_cases hbig : 1099511627776 < v * x.2
      · have cb : (1099511627776 < v * x.2) = True := eq_true hbig
        rw [if_pos hbig] at hr
        refine qX cb ?_
        refine qW hnt ?_
        refine q4 _ _ (k4 _ _ ⟨_, _, callEnd_two (.o .nilS) (.b false) (.inr rfl) (qd hdf) qp qp, g1.gr g2, fun _ => ?_⟩)
        rw [← hr]
        exact ⟨_, rfl, by simp [SlI], .inl ⟨rfl, rfl⟩⟩
      · have cb : (1099511627776 < v * x.2) = False := eq_false hbig
        rw [if_neg hbig] at hr
        obtain ⟨hlt5, v6, H6, r6, happ, ho6, hf6, hr6⟩ := push_own el_ints by_int hzi hzil (by decide) hown [.i .i64 (v * x.2)] rfl (by omega)
        refine qX cb ?_
        refine R1.s_skip ?_
        refine qG (qA E2_P (qA t4 (qA hnt (qA el_ints (qA zr_int (qA repl1 (qA happ hlt5))))))) fun K hK => ?_
        refine ⟨hlt5, ?_⟩
        refine hK _ _ ?_
        clear hK K
        refine q1 _ _ ?_
        refine qW (qA hnt (qA t6 hw2)) ?_
        refine ⟨us.length - (i + 1), by omega, i + 1, out ++ [v * x.2], v * x.2, v6, some r6, rfl, hlt, by rw [List.length_append, hout]; rfl, g2.then hf6 fun q hq => .inl (hrow q hq), hmul1, by omega, ?_, ?_, fun q hq => ?_, ?_, ?_, ?_, ?_, ?_, ?_⟩
        · rw [← hr, Option.map_map]
          congr 1
          funext l
          simp
        · have e2 : (out ++ [v * x.2]).flatMap intC = out.flatMap intC ++ [.i .i64 (v * x.2)] := by rw [List.flatMap_append]; rfl
          rw [List.length_append, e2]; exact ho6
        · cases hq
          rcases hr6 with h | h
          · exact hrow _ h
          · exact Nat.le_trans g2.nx h
        · simp only [slot_put, Nat.reduceEqDiff, reduceIte, t1]
        · simp only [slot_put, Nat.reduceEqDiff, reduceIte]
        · simp only [slot_put, Nat.reduceEqDiff, reduceIte]
        · simp only [slot_put, Nat.reduceEqDiff, reduceIte]
        · simp only [putD_nt, hnt]
        · simp only [putD_dfr, hdf]
    · clear hx hy Kx Ky
      have hie : i = us.length := by omega
      rw [hie, List.drop_length, valsU] at hr
      refine qW hnt ?_
      refine k2 _ _ ?_
      refine qW (qA hnt t4) ?_
      refine ⟨_, _, callEnd_two v4 (.b true) (.inr rfl) (qd hdf) qp qp, g1.gr g2, fun _ => ?_⟩
      rw [← hr]
      refine ⟨_, rfl, ?_⟩
      have e : ((Option.map (fun x => out ++ x) (some [])).getD []) = out := by simp
      rw [e]; exact hown.slc
  · rw [List.drop_zero, hr0]
    cases r0 <;> simp
  · simp only [slot_put, Nat.reduceEqDiff, reduceIte, putD_nt, putD_dfr, t1, hnt, hdf, and_self, true_and]
    exact ⟨rfl, trivial⟩
end Go.Proofs.YtekoajibckipkaaGreat
namespace Go.Proofs.YtekoajibckipkaaGreat
open Go Go.Eng
def refU (us : List Pr) (i : Nat) (x : Pr) : Bool := nmB x.1 && (decide (idxU 0 us x.1 = (i : Int)) && (if i = 0 then x.2 == 1 else decide (2 ≤ x.2) && decide (x.2 ≤ 60)))
def refLad (n : List UInt8) (us : List Pr) : Bool := nmB n && decide (1 ≤ us.length) && decide (us.length ≤ 12) && ((List.range us.length).all fun i => refU us i (us.getD i ([], 0))) && (valsU 1 us).isSome
theorem refLad_no {n : List UInt8} {us : List Pr} {i : Nat} {x : Pr} (hx : us[i]? = some x) (h : refU us i x = false) : (if refLad n us = true then 0 else 10) = (10 : Int) := by
  have hlt : i < us.length := (List.getElem?_eq_some_iff.1 hx).1
  have : ((List.range us.length).all fun i => refU us i (us.getD i ([], 0))) = false := List.all_eq_false.2 ⟨i, List.mem_range.2 hlt, by rw [List.getD_eq_getElem?_getD, hx]; show ¬ refU us i x = true; rw [h]; decide⟩
  unfold refLad
  rw [this, Bool.and_false, Bool.false_and]; rfl
theorem yv_full : ∀ (v : Int) (us : List Pr), (yv v us).length = us.length ↔ (∀ x ∈ us, 1 ≤ x.2 ∧ x.2 ≤ 60) ∧ (valsU v us).isSome = true
  | _, [] => ⟨fun _ => ⟨fun x hx => (by cases hx), rfl⟩, fun _ => rfl⟩
  | v, u :: us => by
    unfold yv valsU
    have ih := yv_full (v * u.2) us
    by_cases h : u.2 < 1 ∨ 60 < u.2 ∨ 1099511627776 < v * u.2
    · rw [if_pos h]
      refine ⟨fun h' => (by simp at h'), fun ⟨h1, h2⟩ => ?_⟩
      have h3 := h1 u (List.mem_cons_self ..)
      have h4 : 1099511627776 < v * u.2 := by omega
      rw [if_pos h4] at h2
      cases h2
    · rw [if_neg h, if_neg (by omega), List.length_cons, List.length_cons, List.forall_mem_cons, Option.isSome_map]
      constructor
      · intro h'
        obtain ⟨a, b⟩ := ih.1 (by omega)
        exact ⟨⟨by omega, a⟩, b⟩
      · rintro ⟨⟨_, a⟩, b⟩
        have := ih.2 ⟨a, b⟩
        omega
theorem idxU_at : ∀ (n : Nat) (us : List Pr) (i : Nat) (x : Pr), us[i]? = some x → (idxU n us x.1 = ((n + i : Nat) : Int) ↔ ((us.take i).any fun y => y.1 == x.1) = false)
  | _, [], _, _, h => by simp at h
  | n, u :: us, 0, x, h => by
    simp only [List.getElem?_cons_zero, Option.some.injEq] at h
    subst h
    unfold idxU
    rw [if_pos rfl]
    exact ⟨fun _ => rfl, fun _ => rfl⟩
  | n, u :: us, i + 1, x, h => by
    rw [List.getElem?_cons_succ] at h
    unfold idxU
    rw [List.take_succ_cons, List.any_cons]
    by_cases hu : u.1 = x.1
    · rw [if_pos hu, hu, beq_self_eq_true, Bool.true_or]
      exact ⟨fun h => by omega, fun h => by cases h⟩
    · rw [if_neg hu, beq_false_of_ne hu, Bool.false_or]
      have := idxU_at (n + 1) us i x h
      have e : n + 1 + i = n + (i + 1) := by omega
      rw [e] at this
      exact this
theorem refLad_eq (n : List UInt8) (us : List Pr) : refLad n us = ladOK n us := by
  rw [Bool.eq_iff_iff]
  unfold refLad ladOK
  simp only [Bool.and_eq_true, decide_eq_true_eq, List.all_eq_true, List.mem_range, Bool.not_eq_true', beq_eq_false_iff_ne]
  have hat : ∀ i, i < us.length → ∃ x, us[i]? = some x ∧ us.getD i ([], 0) = x := fun i hi => ⟨us[i], List.getElem?_eq_getElem hi, by rw [List.getD_eq_getElem?_getD, List.getElem?_eq_getElem hi]; rfl⟩
  constructor
  · rintro ⟨⟨⟨⟨h1, h2⟩, h3⟩, h4⟩, h5⟩
    have fac : ∀ x ∈ us, 1 ≤ x.2 ∧ x.2 ≤ 60 := fun x hx => by
      obtain ⟨i, hi, rfl⟩ := List.getElem_of_mem hx
      have := h4 i hi
      rw [List.getD_eq_getElem?_getD, List.getElem?_eq_getElem hi] at this
      unfold refU at this
      simp only [Option.getD_some, Bool.and_eq_true] at this
      have h6 := this.2.2
      split at h6
      · have := eq_of_beq h6; omega
      · simp only [Bool.and_eq_true, decide_eq_true_eq] at h6; omega
    refine ⟨⟨⟨⟨h1, by omega⟩, by omega⟩, (yv_full 1 us).2 ⟨fac, h5⟩⟩, fun i hi => ?_⟩
    obtain ⟨x, hx, hxd⟩ := hat i hi
    have h6 := h4 i hi
    rw [hxd] at h6 ⊢
    unfold refU at h6
    unfold okU
    simp only [Bool.and_eq_true, decide_eq_true_eq] at h6
    have h7 := (idxU_at 0 us i x hx).1 (by rw [Nat.zero_add]; exact h6.2.1)
    rw [h6.1, h7]
    have h8 := h6.2.2
    by_cases hi0 : i = 0
    · rw [if_pos hi0] at h8
      rw [h8, hi0]; rfl
    · rw [if_neg hi0] at h8
      simp only [Bool.and_eq_true, decide_eq_true_eq] at h8
      rw [beq_false_of_ne (by omega : x.2 ≠ 1), beq_false_of_ne (by omega : (i : Int) ≠ 0)]; rfl
  · rintro ⟨⟨⟨⟨h1, h2⟩, h3⟩, h4⟩, h5⟩
    obtain ⟨fac, hv⟩ := (yv_full 1 us).1 h4
    refine ⟨⟨⟨⟨h1, by omega⟩, by omega⟩, fun i hi => ?_⟩, hv⟩
    obtain ⟨x, hx, hxd⟩ := hat i hi
    have h6 := h5 i hi
    rw [hxd] at h6 ⊢
    unfold okU at h6
    unfold refU
    simp only [Bool.and_eq_true, Bool.not_eq_true'] at h6
    have h7 := (idxU_at 0 us i x hx).2 h6.1.2
    rw [Nat.zero_add] at h7
    have hfx := fac x (List.mem_of_getElem? hx)
    rw [h6.1.1, h7, decide_eq_true rfl]
    have h8 := eq_of_beq h6.2
    by_cases hi0 : i = 0
    · rw [if_pos hi0, h8, hi0]; rfl
    · rw [if_neg hi0]
      rw [beq_false_of_ne (by omega : (i : Int) ≠ 0)] at h8
      have : x.2 ≠ 1 := fun h => by rw [h] at h8; cases h8
      rw [decide_eq_true (by omega : 2 ≤ x.2), decide_eq_true (by omega : x.2 ≤ 60)]; rfl
set_option maxRecDepth 10000 in
set_option maxHeartbeats 8000000 in
theorem refCheck_con (H : Hp) (n : List UInt8) (u : AC) (us : List Pr) (hu : SlP H u us) :
    Con E2 74 [.agg [.o (.str n), u]] H (fun _ => False) fun r _ => r = .one (.i .i64 (chkLad n us)) := by
  refine Con.of rfl fun lg => ?_
  have hu : SlP ⟨H.t, H.nx, lg⟩ u us := hu
  generalize (⟨H.t, H.nx, lg⟩ : Hp) = H at hu ⊢
  unfold chkLad
  rw [← refLad_eq]
  refine C1.body (E := E2) (nt := 77) (res := [.tmp 2]) Tryz.func74 rfl rfl rfl rfl rfl fun tm hargs => ?_
  have h0 := hargs 0 _ rfl
  clear hargs
  have fin : ∀ (e : Int) (A : AAct) (H3 : Hp), slot A.tm 2 = .one (.i .i64 e) → A.dfr = [] → Gr H H3 → e = (if refLad n us = true then 0 else 10) → ∃ w H4, callEnd E2 [.tmp 2] (.ret, A, H3) = .ok [(w, H4)] ∧ Gr H H4 ∧ ∀ _ : List Nat, w = .one (.i .i64 (if refLad n us = true then 0 else 10)) := fun e A H3 h1 h2 h3 h4 => ⟨_, H3, callEnd_one (.i .i64 e) (.inr rfl) h2 h1, h3, fun _ => by rw [h4]⟩
  refine qG (qA E2_P h0) fun K hK => ?_
  refine hK _ _ ?_
  clear hK K
  refine R1.gen (fun A1 H1 => Gr H H1 ∧ H.nx < H1.nx ∧ H1.get H.nx = some (.arr [.o (.str n), u] 68 0 0) ∧ slot A1.tm 1 = .one (.o (.ptr H.nx 0 0 2)) ∧ A1.nt = 77 ∧ A1.dfr = [])
    ⟨(Fr.refl _).new _, ?_⟩ ?_
  · exact qU
  rintro A1 H1 ⟨g1, lb, rb, t1, hnt, hdf⟩
  clear h0 tm
  refine qG (qA E2_P (qA t1 (qA hnt (qA rb (qA lb (qA fd_lad_0 (qA ld_str bd_refName))))))) fun K hK => ?_
  refine WE.con (refName_con H1 n) fun w H2 g2 hw => ?_
  subst hw
  have g2' := g1.gr g2
  have hu2 := hu.gr g2'
  have rb : H2.get H.nx = some (.arr [.o (.str n), u] 68 0 0) := by rw [g2.get _ lb not_false]; exact rb
  have lb : H.nx < H2.nx := Nat.lt_of_lt_of_le lb g2.nx
  cases hnm : nmB n with
  | false =>
    refine qS (qA E2_P hnt) ?_
    refine hK _ _ ?_
    clear hK K
    refine qY ?_
    refine qW hnt ?_
    exact fin 10 _ _ qp (qd hdf) g2' (by unfold refLad; rw [hnm]; rfl)
  | true =>
    by_cases h1 : (us.length : Int) < 1
    · have c1 : ((us.length : Int) < 1) = True := eq_true h1
      refine qS (qA E2_P (qA t1 (qA hnt (qA rb (qA lb (qA fd_lad_1 (qA ld_units (qA ln_units (qA hu2.len (qA hu2.lt c1)))))))))) ?_
      refine hK _ _ ?_
      clear hK K
      refine qY ?_
      refine qW hnt ?_
      exact fin 10 _ _ qp (qd hdf) g2' (by unfold refLad; rw [decide_eq_false (by omega : ¬ 1 ≤ us.length)]; simp)
    · have c1 : ((us.length : Int) < 1) = False := eq_false h1
      by_cases h12 : (12 : Int) < us.length
      · have c12 : ((12 : Int) < us.length) = True := eq_true h12
        refine qS (qA E2_P (qA t1 (qA hnt (qA rb (qA lb (qA fd_lad_1 (qA ld_units (qA ln_units (qA hu2.len (qA hu2.lt (qA c1 c12))))))))))) ?_
        refine hK _ _ ?_
        clear hK K
        refine qY ?_
        refine qW hnt ?_
        exact fin 10 _ _ qp (qd hdf) g2' (by unfold refLad; rw [decide_eq_false (by omega : ¬ us.length ≤ 12)]; simp)
      · have c12 : ((12 : Int) < us.length) = False := eq_false h12
        refine qS (qA E2_P (qA t1 (qA hnt (qA rb (qA lb (qA fd_lad_1 (qA ld_units (qA ln_units (qA hu2.len (qA hu2.lt (qA c1 c12))))))))))) ?_
        refine hK _ _ ?_
        clear hK K
        refine qY ?_
        refine qW hnt ?_
        refine R1.s_block fun K k1 k2 k3 k4 => ?_
        refine R1.loop (fun k A H3 => ∃ i : Nat, k = us.length - i ∧ i ≤ us.length ∧ Gr H2 H3 ∧ (∀ j, j < i → refU us j (us.getD j ([], 0)) = true) ∧ slot A.tm 1 = .one (.o (.ptr H.nx 0 0 2)) ∧ slot A.tm 3 = .one (.i .i64 (i : Int)) ∧ A.nt = 77 ∧ A.dfr = []) ?_ us.length
          ⟨0, rfl, Nat.zero_le _, Fr.refl _, fun j hj => absurd hj (Nat.not_lt_zero j), ?_⟩
        · clear t1 hnt hdf A1
          rintro k A H3 ⟨i, rfl, hi, g3, hall, t1, t3, hnt, hdf⟩
          have hu3 := hu2.gr g3
          have rb : H3.get H.nx = some (.arr [.o (.str n), u] 68 0 0) := by rw [g3.get _ lb not_false]; exact rb
          have lb : H.nx < H3.nx := Nat.lt_of_lt_of_le lb g3.nx
          refine qW (qA E2_P (qA t1 (qA t3 (qA hnt (qA rb (qA lb (qA fd_lad_1 (qA ld_units (qA ln_units (qA hu3.len hu3.lt)))))))))) ?_
          refine qE fun Kx Ky hx hy => ?_
          refine iteI (fun hc => hx ?_) (fun hc => hy ?_)
          · clear hx hy Kx Ky
            have hlt : i < us.length := by omega
            have hw2 : IntKind.i64.wrap ((i : Int) + 1) = ((i + 1 : Nat) : Int) := by rw [wrapI (by omega) (by omega)]; omega
            obtain ⟨id, g, off, cells, rfl, hid, hgr, hat⟩ := hu3.open (by omega)
            have ex : us[i]? = some us[i] := List.getElem?_eq_getElem hlt
            generalize us[i] = x at ex
            have hx1 := hat i x ex
            refine qV ?_
            refine R1.s_block fun K2 q1 q2 q3 q4 => ?_
            refine qG (qA E2_P (qA t1 (qA t3 (qA hnt (qA rb (qA lb (qA fd_lad_1 (qA ld_units (qA el_units (qA ld_unit (qA sz_unit (qA zr_unit (qA (ixC hlt) (qA hid (qA hgr (qA hx1.all (qA hx1.le prC_e))))))))))))))))) fun K hK => ?_
            refine hK _ _ ?_
            clear hK K
            refine R1.gen (fun A4 H4 => Gr H3 H4 ∧ H3.nx < H4.nx ∧ H4.get H3.nx = some (.arr (prC x) 137 0 0) ∧ slot A4.tm 1 = .one (.o (.ptr H.nx 0 0 2)) ∧ slot A4.tm 3 = .one (.i .i64 (i : Int)) ∧ slot A4.tm 4 = .one (.o (.ptr H3.nx 0 0 2)) ∧ A4.nt = 77 ∧ A4.dfr = [])
              ⟨((Fr.refl _).new _).mod _ (.inl (Nat.le_refl _)), ?_⟩ ?_
            · exact qZ (qA t1 (qA t3 (qA hnt (qA hdf prC_e))))
            clear t1 t3 hnt hdf A
            rintro A H4 ⟨g4, lx, rx, t1, t3, t4, hnt, hdf⟩
            have rb : H4.get H.nx = some (.arr [.o (.str n), .o (.sl id g off us.length 2)] 68 0 0) := by rw [g4.get _ lb not_false]; exact rb
            have lb : H.nx < H4.nx := Nat.lt_of_lt_of_le lb g4.nx
            refine qG (qA E2_P (qA t4 (qA hnt (qA rx (qA lx (qA fd_unit_0 (qA ld_str (qA prC_e bd_refName)))))))) fun K hK => ?_
            refine WE.con (refName_con H4 x.1) fun w H5 g5 hw => ?_
            subst hw
            have rb : H5.get H.nx = some (.arr [.o (.str n), .o (.sl id g off us.length 2)] 68 0 0) := by rw [g5.get _ lb not_false]; exact rb
            have lb : H.nx < H5.nx := Nat.lt_of_lt_of_le lb g5.nx
            have rx : H5.get H3.nx = some (.arr (prC x) 137 0 0) := by rw [g5.get _ lx not_false]; exact rx
            have lx : H3.nx < H5.nx := Nat.lt_of_lt_of_le lx g5.nx
            have g25 : Gr H2 H5 := (g3.gr g4).gr g5
            cases hnx : nmB x.1 with
            | false =>
              refine qS (qA E2_P (qA t1 (qA t3 (qA t4 (qA hnt (qA rx (qA lx (qA rb (qA lb (qA fd_unit_0 (qA fd_unit_1 (qA ld_str (qA ld_int (qA prC_e hnx)))))))))))))) ?_
              refine hK _ _ ?_
              clear hK K
              refine qY ?_
              refine qW hnt ?_
              exact q4 _ _ (k4 _ _ (fin 10 _ _ qp (qd hdf) (g2'.gr g25) (by rw [refLad_no ex (by unfold refU; rw [hnx]; rfl)])))
            | true =>
              have hu5 := hu2.gr g25
              refine qS (qA E2_P (qA t1 (qA t3 (qA t4 (qA hnt (qA rx (qA lx (qA rb (qA lb (qA fd_unit_0 (qA fd_unit_1 (qA ld_str (qA ld_int (qA prC_e (qA ld_lad bd_signAt))))))))))))))) ?_
              refine WE.con (signAt_con H5 n _ us x.1 hu5 (by omega)) fun w H6 g6 hw => ?_
              subst hw
              have rx : H6.get H3.nx = some (.arr (prC x) 137 0 0) := by rw [g6.get _ lx not_false]; exact rx
              have lx : H3.nx < H6.nx := Nat.lt_of_lt_of_le lx g6.nx
              have g26 := g25.gr g6
              by_cases hix : idxU 0 us x.1 = (i : Int)
              · have cix : (idxU 0 us x.1 == (i : Int)) = true := by rw [beq_iff_eq]; exact hix
                by_cases hi0 : i = 0
                · have ci0 : ((i : Int) == 0) = true := by rw [beq_iff_eq]; omega
                  have ci1 : (0 < (i : Int)) = False := eq_false (by omega)
                  cases hf1 : (x.2 == 1) with
                  | false =>
                    refine qS (qA E2_P (qA t1 (qA t3 (qA t4 (qA hnt (qA rx (qA lx (qA rb (qA lb (qA fd_unit_0 (qA fd_unit_1 (qA ld_str (qA ld_int (qA prC_e (qA cix (qA ci0 hf1)))))))))))))))) ?_
                    refine hK _ _ ?_
                    clear hK K
                    refine qY ?_
                    refine qW hnt ?_
                    exact q4 _ _ (k4 _ _ (fin 10 _ _ qp (qd hdf) (g2'.gr g26) (by rw [refLad_no ex (by unfold refU; rw [if_pos hi0, hf1, Bool.and_false, Bool.and_false])])))
                  | true =>
                    have hok : refU us i x = true := by unfold refU; rw [hnx, decide_eq_true hix, if_pos hi0, hf1]; rfl
                    refine qS (qA E2_P (qA t1 (qA t3 (qA t4 (qA hnt (qA rx (qA lx (qA rb (qA lb (qA fd_unit_0 (qA fd_unit_1 (qA ld_str (qA ld_int (qA prC_e (qA cix (qA ci0 (qA hf1 ci1))))))))))))))))) ?_
                    refine hK _ _ ?_
                    clear hK K
                    refine qY ?_
                    refine qW hnt ?_
                    refine q1 _ _ ?_
                    refine qW (qA hnt (qA t3 hw2)) ?_
                    refine ⟨us.length - (i + 1), by omega, i + 1, rfl, hlt, g26, fun j hj => ?_, ?_, ?_, ?_, ?_⟩
                    · rcases Nat.lt_or_ge j i with h | h
                      · exact hall j h
                      · have : j = i := by omega
                        subst this
                        rw [List.getD_eq_getElem?_getD, ex]; exact hok
                    · simp only [slot_put, Nat.reduceEqDiff, reduceIte, t1]
                    · simp only [slot_put, Nat.reduceEqDiff, reduceIte]
                    · simp only [putD_nt, hnt]
                    · simp only [putD_dfr, hdf]
                · have ci0 : ((i : Int) == 0) = false := beq_false_of_ne (by omega)
                  have ci1 : (0 < (i : Int)) = True := eq_true (by omega)
                  by_cases hf2 : x.2 < 2
                  · have cf2 : (x.2 < 2) = True := eq_true hf2
                    refine qS (qA E2_P (qA t1 (qA t3 (qA t4 (qA hnt (qA rx (qA lx (qA rb (qA lb (qA fd_unit_0 (qA fd_unit_1 (qA ld_str (qA ld_int (qA prC_e (qA cix (qA ci0 (qA ci1 cf2))))))))))))))))) ?_
                    refine hK _ _ ?_
                    clear hK K
                    refine qY ?_
                    refine qW hnt ?_
                    exact q4 _ _ (k4 _ _ (fin 10 _ _ qp (qd hdf) (g2'.gr g26) (by rw [refLad_no ex (by unfold refU; rw [if_neg hi0, decide_eq_false (by omega : ¬ 2 ≤ x.2), Bool.false_and, Bool.and_false, Bool.and_false])])))
                  · have cf2 : (x.2 < 2) = False := eq_false hf2
                    by_cases hf60 : 60 < x.2
                    · have cf60 : (60 < x.2) = True := eq_true hf60
                      refine qS (qA E2_P (qA t1 (qA t3 (qA t4 (qA hnt (qA rx (qA lx (qA rb (qA lb (qA fd_unit_0 (qA fd_unit_1 (qA ld_str (qA ld_int (qA prC_e (qA cix (qA ci0 (qA ci1 (qA cf2 cf60)))))))))))))))))) ?_
                      refine hK _ _ ?_
                      clear hK K
                      refine qY ?_
                      refine qW hnt ?_
                      exact q4 _ _ (k4 _ _ (fin 10 _ _ qp (qd hdf) (g2'.gr g26) (by rw [refLad_no ex (by unfold refU; rw [if_neg hi0, decide_eq_false (by omega : ¬ x.2 ≤ 60), Bool.and_false, Bool.and_false, Bool.and_false])])))
                    · have cf60 : (60 < x.2) = False := eq_false hf60
                      have hok : refU us i x = true := by unfold refU; rw [hnx, decide_eq_true hix, if_neg hi0, decide_eq_true (by omega : 2 ≤ x.2), decide_eq_true (by omega : x.2 ≤ 60)]; rfl
                      refine qS (qA E2_P (qA t1 (qA t3 (qA t4 (qA hnt (qA rx (qA lx (qA rb (qA lb (qA fd_unit_0 (qA fd_unit_1 (qA ld_str (qA ld_int (qA prC_e (qA cix (qA ci0 (qA ci1 (qA cf2 cf60)))))))))))))))))) ?_
                      refine hK _ _ ?_
                      clear hK K
                      refine qY ?_
                      refine qW hnt ?_
                      refine q1 _ _ ?_
                      refine qW (qA hnt (qA t3 hw2)) ?_
                      refine ⟨us.length - (i + 1), by omega, i + 1, rfl, hlt, g26, fun j hj => ?_, ?_, ?_, ?_, ?_⟩
                      · rcases Nat.lt_or_ge j i with h | h
                        · exact hall j h
                        · have : j = i := by omega
                          subst this
                          rw [List.getD_eq_getElem?_getD, ex]; exact hok
                      · simp only [slot_put, Nat.reduceEqDiff, reduceIte, t1]
                      · simp only [slot_put, Nat.reduceEqDiff, reduceIte]
                      · simp only [putD_nt, hnt]
                      · simp only [putD_dfr, hdf]
              · have cix : (idxU 0 us x.1 == (i : Int)) = false := beq_false_of_ne hix
                refine qS (qA E2_P (qA t1 (qA t3 (qA t4 (qA hnt (qA rx (qA lx (qA rb (qA lb (qA fd_unit_0 (qA fd_unit_1 (qA ld_str (qA ld_int (qA prC_e cix)))))))))))))) ?_
                refine hK _ _ ?_
                clear hK K
                refine qY ?_
                refine qW hnt ?_
                exact q4 _ _ (k4 _ _ (fin 10 _ _ qp (qd hdf) (g2'.gr g26) (by rw [refLad_no ex (by unfold refU; rw [decide_eq_false hix, Bool.false_and, Bool.and_false])])))
          · clear hx hy Kx Ky
            have hie : i = us.length := by omega
            have hall' : ((List.range us.length).all fun i => refU us i (us.getD i ([], 0))) = true := List.all_eq_true.2 fun j hj => hall j (by have := List.mem_range.1 hj; omega)
            have fac : ∀ x ∈ us, 1 ≤ x.2 ∧ x.2 ≤ 60 := fun x hx => by
              obtain ⟨j, hj, rfl⟩ := List.getElem_of_mem hx
              have := hall j (by omega)
              rw [List.getD_eq_getElem?_getD, List.getElem?_eq_getElem hj] at this
              unfold refU at this
              simp only [Option.getD_some, Bool.and_eq_true] at this
              have h6 := this.2.2
              split at h6
              · have := eq_of_beq h6; omega
              · simp only [Bool.and_eq_true, decide_eq_true_eq] at h6; omega
            refine qW hnt ?_
            refine k2 _ _ ?_
            refine qG (qA E2_P (qA t1 (qA hnt (qA rb (qA lb (qA ld_lad bd_values)))))) fun K hK => ?_
            refine WE.con (values_con H3 n u us hu3 (by omega) fac) fun w H5 g5 ⟨c, hw, _⟩ => ?_
            subst hw
            refine qS (qA E2_P hnt) ?_
            refine hK _ _ ?_
            clear hK K
            have g5' := (g2'.gr g3).gr g5
            cases hvs : (valsU 1 us).isSome with
            | true =>
              refine qW hnt ?_
              refine qY ?_
              refine qW hnt ?_
              refine fin 0 _ _ qp (qd hdf) g5' ?_
              have : refLad n us = true := by
                unfold refLad
                rw [hnm, hall', hvs, decide_eq_true (by omega : 1 ≤ us.length), decide_eq_true (by omega : us.length ≤ 12)]; rfl
              rw [this]; rfl
            | false =>
              refine qW hnt ?_
              refine qY ?_
              refine qW hnt ?_
              refine fin 10 _ _ qp (qd hdf) g5' ?_
              have : refLad n us = false := by
                unfold refLad
                rw [hvs, Bool.and_false]
              rw [this]; rfl
        · simp only [slot_put, Nat.reduceEqDiff, reduceIte, putD_nt, putD_dfr, t1, hnt, hdf, and_self, true_and]
          exact ⟨rfl, trivial⟩
end Go.Proofs.YtekoajibckipkaaGreat
namespace Go.Proofs.YtekoajibckipkaaGreat
open Go Go.Eng
theorem ld_rbook : loadT Tryz.prog 149 = some (true, 2) := by kernel_rfl
theorem sz_rbook : sizeT Tryz.prog 149 = some 2 := by kernel_rfl
theorem zr_rbook : (zeroT Tryz.prog 149).map (fun z => (ofValue z).cells) = some [.o .nilS, .o .nilS] := by kernel_rfl
theorem ad_rbook : addrT Tryz.prog 149 = 4 := by kernel_rfl
theorem fd_rbook_0 : fieldT Tryz.prog 149 0 = some (0, 22, 1) := by kernel_rfl
theorem fd_rbook_1 : fieldT Tryz.prog 149 1 = some (1, 138, 1) := by kernel_rfl
def pl_rbook : Nat → Option (Nat × Nat) := fun i => (#[(0, 1), (1, 1)] : Array (Nat × Nat))[i]?
theorem pt_rbook : placeT Tryz.prog 149 = some pl_rbook := by kernel_rfl
theorem pl_rbook_0 : pl_rbook 0 = some (0, 1) := rfl
theorem pl_rbook_1 : pl_rbook 1 = some (1, 1) := rfl
theorem ld_prbook : loadT Tryz.prog 25 = some (false, 1) := by kernel_rfl
theorem sz_prbook : sizeT Tryz.prog 25 = some 1 := by kernel_rfl
theorem zr_prbook : (zeroT Tryz.prog 25).map (fun z => (ofValue z).cells) = some [.o .nilP] := by kernel_rfl
theorem ad_prbook : addrT Tryz.prog 25 = 0 := by kernel_rfl
end Go.Proofs.YtekoajibckipkaaGreat
namespace Go.Proofs.YtekoajibckipkaaGreat
open Go Go.Eng
def RBk (H : Hp) (p : AC) (ls : List Lad) : Prop := ∃ kb lad, p = .o (.ptr kb 0 0 2) ∧ kb < H.nx ∧ H.get kb = some (.arr [lad, .o .nilS] 149 0 0) ∧ SlLad H lad ls
theorem RBk.gr {H H' : Hp} {p : AC} {ls : List Lad} (h : RBk H p ls) (hg : Gr H H') : RBk H' p ls := by
  obtain ⟨kb, lad, h1, h2, h3, h4⟩ := h
  exact ⟨kb, lad, h1, Nat.lt_of_lt_of_le h2 hg.nx, by rw [hg.get _ h2 not_false]; exact h3, h4.gr hg⟩
end Go.Proofs.YtekoajibckipkaaGreat
namespace Go.Proofs.YtekoajibckipkaaGreat
open Go Go.Eng
def RBkO (H : Hp) (p : AC) : Option (List Lad) → Prop
  | some ls => RBk H p ls
  | none => p = .o .nilP
end Go.Proofs.YtekoajibckipkaaGreat
namespace Go.Proofs.YtekoajibckipkaaGreat
open Go Go.Eng
theorem RBkO.same {H H' : Hp} {p : AC} {o : Option (List Lad)} (ht : H'.t = H.t) (hn : H'.nx = H.nx) (h : RBkO H p o) : RBkO H' p o := by
  obtain ⟨t, nx, l⟩ := H
  obtain ⟨t', nx', l'⟩ := H'
  cases ht; cases hn
  cases o <;> exact h
theorem RBkO.gr {H H' : Hp} {p : AC} {o : Option (List Lad)} (h : RBkO H p o) (hg : Gr H H') : RBkO H' p o := by
  cases o with
  | some ls => exact RBk.gr h hg
  | none => exact h
end Go.Proofs.YtekoajibckipkaaGreat
namespace Go.Proofs.YtekoajibckipkaaGreat
open Go Go.Eng Go.ChangeShapes Go.WideShapes
abbrev unitR := pairR strR (intR .i64)
abbrev unitsR := sliR Tryz.prog 137 2 unitR
abbrev ladR := pairR strR unitsR
theorem opn_unit {W : World} : Opn Tryz.prog W 2 unitR 137 := opn_struct Tryz.underlying137 (by kernel_rfl) rfl (opnF_cons (opn_str Tryz.underlying9) mon_str (opnF_one (opn_int Tryz.underlying3)))
theorem opn_units {W : World} (hB : HasB W) : Opn Tryz.prog W 1 unitsR 66 := opn_slice Tryz.underlying66 (by kernel_rfl) (by decide) (mon_pair mon_str mon_int) hB opn_unit
theorem opn_lad {W : World} (hB : HasB W) : Opn Tryz.prog W 2 ladR 68 := opn_struct Tryz.underlying68 (by kernel_rfl) rfl (opnF_cons (opn_str Tryz.underlying9) mon_str (opnF_one (opn_units hB)))
theorem units_of {B : Nat} {H : Hp} {c : List AC} {us : List Pr} (h : unitsR B H c us) : ∃ u, c = [u] ∧ SlP H u us := by
  obtain ⟨u, rfl, ⟨css, h1, h2⟩, _⟩ := h
  refine ⟨u, rfl, ?_⟩
  have := al_flat (f := prC) (h2.mono fun c x ⟨_, c1, c2, e, a, b⟩ => by rw [e, a.1, b.1]; rfl)
  rw [this] at h1
  exact h1
end Go.Proofs.YtekoajibckipkaaGreat
namespace Go.Proofs.YtekoajibckipkaaGreat
open Go.ChangeShapes Go.WideShapes Go.ChangeAt Go.RowKit Go.Eng
theorem trodAll_stays {H : Type} {enc : TypeId × Value → H} {P : Program} (hl : laidOutB P = true) {W W' : World} (hb : Below W.heap.size W W') {sp : Nat → Bool} : ∀ {ts : List TypeId} {vs : List Value} {ds : List (DataW H)} {ps : List MemPlace}, (∀ t ∈ ts, P.readableRec t = true ∧ t < P.types.size) →
    DataW.TrodAll enc P W 0 (fun _ => true) true ts vs ds ps → (∀ p ∈ ps, p.block < W.heap.size) → (∀ p ∈ ps, sp p.block = true) → DataW.TrodAll enc P W' 0 sp true ts vs ds ps
  | [], vs, ds, ps, _, h, _, _ => by
    obtain ⟨rfl, rfl, rfl⟩ := trodAll_nil h
    exact trodAll_mk0
  | t :: ts, vs, ds, ps, hr, h, hlt, hsp => by
    obtain ⟨v, vs1, d, ds1, a, b, rfl, rfl, rfl, h1, h2⟩ := trodAll_cons h
    refine ⟨a, b, ?_, trodAll_stays hl hb (fun t ht => hr t (List.mem_cons_of_mem _ ht)) h2 (fun p hp => hlt p (List.mem_append_right _ hp)) (fun p hp => hsp p (List.mem_append_right _ hp)), rfl⟩
    exact WideElems.Trod_stays hl (hr t (List.mem_cons_self ..)).1 (hr t (List.mem_cons_self ..)).2 h1 (fun x hx => hb.same (hlt x (List.mem_append_left _ hx))) (fun x hx => hsp x (List.mem_append_left _ hx))
theorem Tryz.laidOut : laidOutB Tryz.prog = true := by kernel_rfl
theorem reach_le : reachBytes ≤ 140737488355328 := by decide
end Go.Proofs.YtekoajibckipkaaGreat
