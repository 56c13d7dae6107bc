/- Slices of lots. -/
import Derived.Test.YtndipbefnipnpaaGreatLotsTy
namespace Go.Proofs.YtndipbefnipnpaaGreat
open Go Go.Eng

abbrev Lot := List UInt8 × Int
def lotC (x : Lot) : List AC := [.o (.str x.1), .i .i64 x.2]
theorem lotC_len (x : Lot) : (lotC x).length = 2 := rfl

/-- A slice of lots. -/
def SlL (H : Hp) (v : AC) (l : List Lot) : Prop := SlC H v 2 l.length (l.flatMap lotC)

theorem SlL.gr {H H' : Hp} {v : AC} {l : List Lot} (h : SlL H v l) (hg : Gr H H') : SlL H' v l := SlC.gr h hg
theorem SlL.len {H : Hp} {v : AC} {l : List Lot} (h : SlL H v l) : doLen H 1 (.one v) = .val (.one (.i .i64 (l.length : Int))) H := SlC.len h
theorem SlL.lt {H : Hp} {v : AC} {l : List Lot} (h : SlL H v l) : ltV (.one v) H.nx := ltV_slc h

/-- Where the lot 'x' lies. -/
structure LotAt (cells : List AC) (o : Nat) (x : Lot) : Prop where
  all : (cells.drop o).take 2 = lotC x
  le : o + 2 ≤ cells.length
  le1 : o + 1 ≤ cells.length
  le2 : o + 1 + 1 ≤ cells.length
  fst : (cells.drop o).headD (.b false) = .o (.str x.1)
  snd : (cells.drop (o + 1)).headD (.b false) = .i .i64 x.2

theorem lotAt_of {cells : List AC} {o : Nat} {x : Lot} (h : (cells.drop o).take 2 = lotC x) (hl : o + 2 ≤ cells.length) : LotAt cells o x := by
  refine ⟨h, hl, by omega, by omega, ?_, ?_⟩
  · cases hd : cells.drop o with
    | nil => have := congrArg List.length hd; simp at this; omega
    | cons a r =>
      rw [hd] at h
      cases r with
      | nil => cases h
      | cons b r => cases h; rfl
  · rw [← List.drop_drop]
    cases hd : cells.drop o with
    | nil => have := congrArg List.length hd; simp at this; omega
    | cons a r =>
      rw [hd] at h
      cases r with
      | nil => cases h
      | cons b r => cases h; rfl

theorem SlL.open {H : Hp} {v : AC} {l : List Lot} (h : SlL H v l) (hn : 0 < l.length) : ∃ id g off cells, v = .o (.sl id g off l.length 2) ∧ id < H.nx ∧ rowOf (H.get id) g = some cells ∧ ∀ (i : Nat) (x : Lot), l[i]? = some x → LotAt cells (off + i * 2) x := by
  obtain ⟨id, g, off, h1, h2, hr⟩ := SlC.pos h hn
  have hr' := hr
  obtain ⟨cells, h3, h6, h7⟩ := hr
  refine ⟨id, g, off, cells, h1, h2, h3, fun i x hx => ?_⟩
  obtain ⟨cells', k3, k6, k7⟩ := Rd.at (c := lotC) lotC_len hr' hx
  rw [h3] at k3
  cases k3
  exact lotAt_of k7 k6

theorem SlL.openC {H : Hp} {v : AC} {x : Lot} {l : List Lot} (h : SlL H v (x :: l)) : ∃ id g off cells, v = .o (.sl id g off (l.length + 1) 2) ∧ id < H.nx ∧ rowOf (H.get id) g = some cells ∧ LotAt cells off x := by
  obtain ⟨id, g, off, cells, h1, h2, h3, h6⟩ := h.open (by simp)
  have := h6 0 x rfl
  rw [Nat.zero_mul, Nat.add_zero] at this
  exact ⟨id, g, off, cells, h1, h2, h3, this⟩

/-- The slice behind its first lot. -/
theorem SlL.tail {H : Hp} {id g off n : Nat} {x : Lot} {l : List Lot} (h : SlL H (.o (.sl id g off n 2)) (x :: l)) : n = l.length + 1 ∧ SlL H (.o (.sl id g (off + 1 * 2) (n - 1) 2)) l := by
  obtain ⟨id', g', off', h1, h2, hr⟩ := SlC.pos h (by simp)
  cases h1
  refine ⟨by simp, ?_, .inr ⟨id, g, off + 1 * 2, by simp, h2, ?_⟩⟩
  · exact flat_len lotC_len l
  · have := hr.part 2 (l.length * 2) (by simp only [List.length_cons]; omega)
    have e : (((x :: l).flatMap lotC).drop 2).take (l.length * 2) = l.flatMap lotC := by
      rw [List.flatMap_cons, show lotC x = [.o (.str x.1), .i .i64 x.2] from rfl]
      show (l.flatMap lotC).take (l.length * 2) = _
      rw [List.take_of_length_le (by rw [flat_len lotC_len]; exact Nat.le_refl _)]
    rw [e] at this
    exact this
theorem SlL.tailC {H : Hp} {id g off : Nat} {x : Lot} {l : List Lot} (h : SlL H (.o (.sl id g off (l.length + 1) 2)) (x :: l)) : SlL H (.o (.sl id g (off + 2) l.length 2)) l := h.tail.2
end Go.Proofs.YtndipbefnipnpaaGreat
