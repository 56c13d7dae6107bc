/- The arguments of the laws of the books: ladders, goods. -/
import Derived.Test.YtiejeicaaojdlaaGreatBkGood
import Derived.Test.YtiejeicaaojdlaaGreatEngI
namespace Go.Proofs.YtiejeicaaojdlaaGreat
open Go Go.Eng Go.ChangeShapes Go.WideShapes

abbrev unitR := pairR strR (intR .i64)
abbrev unitsR := sliR Tryz.prog 140 2 unitR
abbrev ladR := pairR strR unitsR
abbrev ladsR := sliR Tryz.prog 78 2 ladR
abbrev textsR := sliR Tryz.prog 9 1 strR
abbrev goodR := pairR strR (pairR strR textsR)
abbrev goodsR := sliR Tryz.prog 73 3 goodR
theorem mon_units : MonR unitsR := mon_sli (mon_pair mon_str mon_int)
theorem mon_texts : MonR textsR := mon_sli mon_str

theorem opn_unit {W : World} : Opn Tryz.prog W 2 unitR 140 := opn_struct Tryz.underlying140 (by kernel_rfl) rfl (opnF_cons (opn_str Tryz.underlying9) mon_str (opnF_one (opn_int Tryz.underlying3)))
theorem opn_units {W : World} (hB : HasB W) : Opn Tryz.prog W 1 unitsR 76 := opn_slice Tryz.underlying76 (by kernel_rfl) (by decide) (mon_pair mon_str mon_int) hB opn_unit
theorem opn_lad {W : World} (hB : HasB W) : Opn Tryz.prog W 2 ladR 78 := opn_struct Tryz.underlying78 (by kernel_rfl) rfl (opnF_cons (opn_str Tryz.underlying9) mon_str (opnF_one (opn_units hB)))
theorem opn_lads {W : World} (hB : HasB W) : Opn Tryz.prog W 1 ladsR 22 := opn_slice Tryz.underlying22 (by kernel_rfl) (by decide) (mon_pair mon_str mon_units) hB (opn_lad hB)
theorem opn_texts {W : World} (hB : HasB W) : Opn Tryz.prog W 1 textsR 71 := opn_slice Tryz.underlying71 (by kernel_rfl) (by decide) mon_str hB (opn_str Tryz.underlying9)
theorem opn_good {W : World} (hB : HasB W) : Opn Tryz.prog W 3 goodR 73 := opn_struct Tryz.underlying73 (by kernel_rfl) rfl (opnF_cons (opn_str Tryz.underlying9) mon_str (opnF_cons (opn_str Tryz.underlying9) mon_str (opnF_one (opn_texts hB))))
theorem opn_goods {W : World} (hB : HasB W) : Opn Tryz.prog W 1 goodsR 23 := opn_slice Tryz.underlying23 (by kernel_rfl) (by decide) (mon_pair mon_str (mon_pair mon_str mon_texts)) hB (opn_good hB)

theorem bytesOf_str : Tryz.prog.bytesOf 9 = 16 := by kernel_rfl
theorem bytesOf_good : Tryz.prog.bytesOf 73 = 56 := by kernel_rfl
theorem bytesOf_lad : Tryz.prog.bytesOf 78 = 40 := by kernel_rfl

theorem units_of {B : Nat} {H : Hp} {c : List AC} {us : List Pr} (h : unitsR B H c us) : ∃ u, c = [u] ∧ SlP H u us := by
  obtain ⟨u, rfl, ⟨css, h1, h2⟩, _⟩ := h
  refine ⟨u, rfl, ?_⟩
  have := al_flat (f := prC) (h2.mono fun c x ⟨_, c1, c2, e, a, b⟩ => by rw [e, a.1, b.1]; rfl)
  rw [this] at h1
  exact h1
theorem texts_of {B : Nat} {H : Hp} {c : List AC} {us : List (List UInt8)} (h : textsR B H c us) : ∃ u, c = [u] ∧ SlS H u us ∧ us.length * 16 ≤ B := by
  obtain ⟨u, rfl, ⟨css, h1, h2⟩, h3⟩ := h
  refine ⟨u, rfl, ?_, by rwa [bytesOf_str] at h3⟩
  have := al_flat (f := strC) (h2.mono fun c x ⟨_, e, _⟩ => e)
  rw [this] at h1
  exact h1
theorem lads_of {B : Nat} {H : Hp} {u : AC} {ls : List Lad} (h : ladsR B H [u] ls) : SlLad H u ls ∧ ls.length * 40 ≤ B := by
  obtain ⟨u, e, ⟨css, h1, h2⟩, h3⟩ := h
  cases e
  refine ⟨⟨css, h1, h2.mono fun c x ⟨hl, c1, c2, e, a, b⟩ => ⟨hl, ?_⟩⟩, by rwa [bytesOf_lad] at h3⟩
  obtain ⟨u, rfl, hu⟩ := units_of b
  exact ⟨u, by rw [e, a.1]; rfl, hu⟩
theorem goods_of {B : Nat} {H : Hp} {u : AC} {gs : List Gd} (h : goodsR B H [u] gs) : SlG H u gs ∧ gs.length * 56 ≤ B ∧ ∀ x ∈ gs, x.2.2.length * 16 ≤ B := by
  obtain ⟨u, e, ⟨css, h1, h2⟩, h3⟩ := h
  cases e
  refine ⟨⟨css, h1, h2.mono fun c x ⟨hl, c1, c2, e, a, c3, c4, e2, b, d⟩ => ⟨hl, ?_⟩⟩, by rwa [bytesOf_good] at h3, Al.all (fun c x ⟨hl, c1, c2, e, a, c3, c4, e2, b, d⟩ => ?_) h2⟩
  · obtain ⟨u, rfl, hu, _⟩ := texts_of d
    exact ⟨u, by rw [e, a.1, e2, b.1]; rfl, hu⟩
  · obtain ⟨u, rfl, _, hu⟩ := texts_of d
    exact hu
end Go.Proofs.YtiejeicaaojdlaaGreat
