/- The environment of the walks: what is known of functions. -/
import Derived.Test.YtiejeicaaojdlaaGreatBkFacts
namespace Go.Proofs.YtiejeicaaojdlaaGreat
open Go Go.Eng
theorem E2_P : E2.P = Tryz.prog := rfl
theorem bd_isName : hasBody Tryz.prog 32 = true := by kernel_rfl
theorem bd_works : hasBody Tryz.prog 11 = true := by kernel_rfl
theorem bd_units : hasBody Tryz.prog 96 = true := by kernel_rfl
theorem bd_units1 : hasBody Tryz.prog 133 = true := by kernel_rfl
theorem bd_check : hasBody Tryz.prog 64 = true := by kernel_rfl
theorem bd_need : hasBody Tryz.prog 97 = true := by kernel_rfl
theorem isName_p (s : List UInt8) : E2.prim 32 [.one (.o (.str s))] = some (.one (.b (nmB s))) := by
  show some (AV.one (.b (nameT s))) = _
  rw [nameT_eq]
theorem works_p : E2.prim 11 [] = some (.one (.b true)) := rfl
theorem isName_con (s : List UInt8) (H : Hp) {X : Nat → Prop} : Con E2 32 [.one (.o (.str s))] H X fun v _ => v = .one (.b (nmB s)) :=
  Con.prim (v := .one (.b (nameT s))) rfl fun _ => by rw [nameT_eq]
theorem works_con (H : Hp) {X : Nat → Prop} : Con E2 11 [] H X fun v _ => v = .one (.b true) := Con.prim rfl fun _ => rfl

theorem getS {A : AAct} {k : Tmp} {c : AC} (h : slot A.tm k = .one c) : A.tm.get k = some (.one c) := by
  unfold slot at h
  cases hk : A.tm.get k with
  | none => rw [hk] at h; cases h
  | some u => rw [hk] at h; exact congrArg some h
theorem callEnd_two {E : Env} {s t : Tmp} {A : AAct} {H : Hp} {e : AExit} (c d : AC) (he : e = .normal ∨ e = .ret) (hd : A.dfr = []) (hs : slot A.tm s = .one c) (ht : slot A.tm t = .one d) : callEnd E [.tmp s, .tmp t] (e, A, H) = .ok [(.tup [(false, [c]), (false, [d])], H)] := by
  have key : (optE (closeAll H A.dfr) (R.bad "marks") fun h2 => optE (resAll E.P [.tmp s, .tmp t] A.tm h2) (.bad "results") fun l => .ok [(tupOf l, h2)]) = .ok [(.tup [(false, [c]), (false, [d])], H)] := by
    rw [hd]
    have hr : resAll E.P [.tmp s, .tmp t] A.tm H = some [(false, [c]), (false, [d])] := by
      show optE (optE (A.tm.get s) none resV) none (fun x => optE (optE (optE (A.tm.get t) none resV) none fun x => optE (some []) none fun l => some (x :: l)) none fun l => some (x :: l)) = _
      rw [getS hs, getS ht]; rfl
    show optE (resAll E.P [.tmp s, .tmp t] A.tm H) (R.bad "results") (fun l => R.ok [(tupOf l, H)]) = _
    rw [hr]; rfl
  rcases he with rfl | rfl
  · exact key
  · exact key
theorem callEnd_nil {E : Env} {A : AAct} {H : Hp} {e : AExit} (he : e = .normal ∨ e = .ret) (hd : A.dfr = []) : callEnd E [] (e, A, H) = .ok [(.tup [], H)] := by
  have key : (optE (closeAll H A.dfr) (R.bad "marks") fun h2 => optE (resAll E.P [] A.tm h2) (.bad "results") fun l => .ok [(tupOf l, h2)]) = .ok [(.tup [], H)] := by rw [hd]; rfl
  rcases he with rfl | rfl
  · exact key
  · exact key
/-- A result that lies in a cell of its own. -/
theorem callEnd_cell {E : Env} {s : Tmp} {t : TypeId} {A : AAct} {H H2 : Hp} {e : AExit} {id g off lim : Nat} {cells : List AC} {c : AC} (ht : loadT E.P t = some (false, 1)) (he : e = .normal ∨ e = .ret) (hd : closeAll H A.dfr = some H2) (hs : slot A.tm s = .one (.o (.ptr id g off lim)))
    (hg : rowOf (H2.get id) g = some cells) (hl : 1 ≤ lim) (ho : off + 1 ≤ cells.length) (hc : (cells.drop off).headD (.b false) = c) : callEnd E [.cell s t] (e, A, H) = .ok [(.one c, H2)] := by
  have key : (optE (closeAll H A.dfr) (R.bad "marks") fun h2 => optE (resAll E.P [.cell s t] A.tm h2) (.bad "results") fun l => .ok [(tupOf l, h2)]) = .ok [(.one c, H2)] := by
    rw [hd]
    have hr : resAll E.P [.cell s t] A.tm H2 = some [(false, [c])] := by
      have e1 : resF E.P (.cell s t) A.tm H2 = some (false, [c]) := by
        have e0 : resF E.P (.cell s t) = match loadT E.P t with
            | some p => fun tm h => optE (tm.get s) none fun v => ANext.rec (motive := fun _ => Option (Bool × List AC)) (fun v _ => resV v) (fun _ => none) (fun _ _ => none) (fun _ _ => none) (fun _ => none) (doLoad h p.1 p.2 v)
            | none => fun _ _ => none := rfl
        rw [e0, ht]
        show optE (A.tm.get s) none (fun v => ANext.rec (motive := fun _ => Option (Bool × List AC)) (fun v _ => resV v) (fun _ => none) (fun _ _ => none) (fun _ _ => none) (fun _ => none) (doLoad H2 false 1 v)) = _
        rw [getS hs]
        show ANext.rec (motive := fun _ => Option (Bool × List AC)) (fun v _ => resV v) (fun _ => none) (fun _ _ => none) (fun _ _ => none) (fun _ => none) (doLoad H2 false 1 (.one (.o (.ptr id g off lim)))) = _
        rw [doLoad_ptr, hg, ldO_one hl ho, hc]; rfl
      show optE (resF E.P (.cell s t) A.tm H2) none (fun x => optE (some []) none fun l => some (x :: l)) = _
      rw [e1]; rfl
    show optE (resAll E.P [.cell s t] A.tm H2) (R.bad "results") (fun l => R.ok [(tupOf l, H2)]) = _
    rw [hr]; rfl
  rcases he with rfl | rfl
  · exact key
  · exact key
theorem closeAll_nil {H : Hp} : closeAll H [] = some H := rfl
theorem closeAll_one {H : Hp} {d : Nat} (h : H.get d = some (.oth (.dfr true))) : closeAll H [d] = some (H.mod d (.oth (.dfr false))) := by
  show (match H.get d with | some (.oth (.dfr true)) => closeAll (H.mod d (.oth (.dfr false))) [] | _ => none) = _
  rw [h]; rfl
theorem SlC.fr {H H' : Hp} {v : AC} {sz n : Nat} {c : List AC} {X : Nat → Prop} (h : SlC H v sz n c) (hf : Fr X H H') (hx : ∀ id ∈ (AV.one v).ids, ¬ X id) : SlC H' v sz n c := by
  refine ⟨h.1, h.2.imp id ?_⟩
  rintro ⟨id, g, off, h1, h2, h3⟩
  subst h1
  exact ⟨id, g, off, rfl, Nat.lt_of_lt_of_le h2 hf.nx, h3.of_get (hf.get _ h2 (hx id (List.mem_singleton.2 rfl)))⟩

abbrev Pr := List UInt8 × Int
def prC (x : Pr) : List AC := [.o (.str x.1), .i .i64 x.2]
theorem prC_len (x : Pr) : (prC x).length = 2 := rfl
/-- A slice of a string and a number each. -/
def SlP (H : Hp) (v : AC) (l : List Pr) : Prop := SlC H v 2 l.length (l.flatMap prC)
theorem SlP.gr {H H' : Hp} {v : AC} {l : List Pr} (h : SlP H v l) (hg : Gr H H') : SlP H' v l := SlC.gr h hg
theorem SlP.len {H : Hp} {v : AC} {l : List Pr} (h : SlP H v l) : doLen H 1 (.one v) = .val (.one (.i .i64 (l.length : Int))) H := SlC.len h
theorem SlP.lt {H : Hp} {v : AC} {l : List Pr} (h : SlP H v l) : ltV (.one v) H.nx := ltV_slc h
theorem SlP.nil {H : Hp} : SlP H (.o .nilS) [] := ⟨by simp, .inl ⟨rfl, rfl⟩⟩

structure PrAt (cells : List AC) (o : Nat) (x : Pr) : Prop where
  all : (cells.drop o).take 2 = prC x
  le : o + 2 ≤ cells.length
  le1 : o + 1 ≤ cells.length
  le2 : o + 1 + 1 ≤ cells.length
  fst : (cells.drop o).headD (.b false) = .o (.str x.1)
  snd : (cells.drop (o + 1)).headD (.b false) = .i .i64 x.2

theorem prAt_of {cells : List AC} {o : Nat} {x : Pr} (h : (cells.drop o).take 2 = prC x) (hl : o + 2 ≤ cells.length) : PrAt cells o x := by
  refine ⟨h, hl, by omega, by omega, ?_, ?_⟩
  · cases hd : cells.drop o with
    | nil => have := congrArg List.length hd; simp at this; omega
    | cons a r =>
      rw [hd] at h
      cases r with
      | nil => cases h
      | cons b r => cases h; rfl
  · rw [← List.drop_drop]
    cases hd : cells.drop o with
    | nil => have := congrArg List.length hd; simp at this; omega
    | cons a r =>
      rw [hd] at h
      cases r with
      | nil => cases h
      | cons b r => cases h; rfl

theorem SlP.open {H : Hp} {v : AC} {l : List Pr} (h : SlP H v l) (hn : 0 < l.length) : ∃ id g off cells, v = .o (.sl id g off l.length 2) ∧ id < H.nx ∧ rowOf (H.get id) g = some cells ∧ ∀ (i : Nat) (x : Pr), l[i]? = some x → PrAt cells (off + i * 2) x := by
  obtain ⟨id, g, off, h1, h2, hr⟩ := SlC.pos h hn
  have hr' := hr
  obtain ⟨cells, h3, h6, h7⟩ := hr
  refine ⟨id, g, off, cells, h1, h2, h3, fun i x hx => ?_⟩
  obtain ⟨cells', k3, k6, k7⟩ := Rd.at (c := prC) prC_len hr' hx
  rw [h3] at k3
  cases k3
  exact prAt_of k7 k6
end Go.Proofs.YtiejeicaaojdlaaGreat
