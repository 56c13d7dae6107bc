/- Arguments that are lists of lots: opened. -/
import Derived.Test.YtndipbefnipnpaaGreatLotsCov
import Derived.Test.YtndipbefnipnpaaGreatEngH
import Derived.Deep.SlicePairs
namespace Go.Proofs.YtndipbefnipnpaaGreat
open Go Go.Eng Go.ChangeShapes Go.WideShapes

/-- What a value says as a list of lots: no row, or a row. -/
def ArgL (W : World) (v : Value) (l : List Lot) (x : Option ArgO) : Prop :=
  (x = none ∧ v = .slice none 0 0 ∧ l = []) ∨
  ∃ a : ArgO, x = some a ∧ a.cells = l.flatMap lotC ∧ (∀ β, RowD β W a.cells a.p) ∧ a.p.hi = l.length * 2 ∧ ∃ cap o', v = .slice (some ⟨a.p.b, o', none⟩) l.length cap ∧ l.length ≤ cap ∧ (cap = 0 ∨ (o' = a.p.o ∧ a.p.o + cap * 2 ≤ a.p.n))

theorem addr_add (b o k : Nat) : (⟨b, o, none⟩ : Addr).add k = ⟨b, o + k, none⟩ := by unfold Addr.add; split <;> simp_all

set_option maxRecDepth 100000 in
theorem open_lots {H : Type} {enc : TypeId × Value → H} {W : World} {base : Nat} {v : Value} {d : DataW H} {p : List MemPlace} (hval : Value.okWide Tryz.prog W .any base 22 v) (hd : DataW.Trod enc Tryz.prog W 0 (fun _ => true) true 22 v d p) :
    ∃ l x, ArgL W v l x := by
  obtain ⟨fuel, hf⟩ := hd
  have hval' := hval
  obtain ⟨a0, len, cap, rfl⟩ := okWide_slice Tryz.underlying22 hval
  have hcells : (Value.slice a0 len cap).cells.toList = [.slice a0 len cap] := rfl
  rw [hcells] at hf
  rcases Deep.open_slice_pairs Tryz.underlying22 Tryz.underlying37 (by kernel_rfl) rfl rfl (by kernel_rfl) (by kernel_rfl) hf with ⟨hcs, _⟩ | ⟨a, len', cap', m, n, V0, V1, D0, D1, P0, P1, hcs, _, hl, hm, hmm, _, hcell⟩
  · cases hcs
    exact ⟨[], none, .inl ⟨rfl, rfl, rfl⟩⟩
  · cases hcs
    have hm' : m = cap := by rw [hmm]; rfl
    subst hm'
    have hok : len ≤ m ∧ (m : Int) ≤ IntKind.i64.max ∧ W.has Tryz.prog .any base a 37 m := by
      simp only [Value.okWide, Tryz.underlying22, Cell.okWide, Cell.ok] at hval'
      exact hval'
    obtain ⟨_, hspot, row, cells, hshape, _⟩ := hok.2.2
    obtain ⟨b, o, sp⟩ := a
    have hsp : sp = none := hspot
    subst hsp
    have hblk : ∃ c e f, W.heap[b]? = some (.cells c e f) := by
      unfold World.shape? at hshape
      split at hshape
      · rename_i c e f hh; exact ⟨c, e, f, hh⟩
      · cases hshape
    obtain ⟨c, e, f, hc⟩ := hblk
    have hcl : ∀ k u, W.cell? (⟨b, o + k, none⟩ : Addr) = some u → c[o + k]? = some u := fun k u hu => by
      unfold World.cell? at hu
      rw [hc] at hu
      exact hu
    have each : ∀ i, i < m → ∃ s : List UInt8 × Int, c[o + i * 2]? = some (.string ⟨s.1.toArray⟩) ∧ c[o + (i * 2 + 1)]? = some (.int .i64 s.2) := fun i hi => by
      obtain ⟨h0, h1, h2, h3⟩ := hcell i hi
      obtain ⟨s, e1, _, _⟩ := DataW.trod_string Tryz.underlying9 h2
      obtain ⟨z, e2, _, _⟩ := DataW.trod_int (k := .i64) Tryz.underlying3 h3
      rw [addr_add, (List.cons.inj e1).1] at h0
      rw [addr_add, (List.cons.inj e2).1] at h1
      exact ⟨(s.data.toList, z), hcl _ _ h0, hcl _ _ h1⟩
    obtain ⟨g, hg⟩ := Deep.choose_lt each
    have hlen : ((List.range len).map g).length = len := by simp
    have hsize : m = 0 ∨ o + m * 2 ≤ c.size := by
      rcases Nat.eq_zero_or_pos m with h | h
      · exact .inl h
      · right
        obtain ⟨_, h1⟩ := hg (m - 1) (by omega)
        have := (Array.getElem?_eq_some_iff.1 h1).1
        omega
    refine ⟨(List.range len).map g, some ⟨((List.range len).map g).flatMap lotC, ⟨b, if m = 0 then 0 else o, c.size, len * 2⟩⟩, .inr ⟨_, rfl, rfl, fun β => ?_, by rw [hlen], m, o, by rw [hlen], by rw [hlen]; exact hl, ?_⟩⟩
    · refine ⟨c, e, f, hc, rfl, ?_, ?_, fun k x hk hx => ?_⟩
      · show (if m = 0 then 0 else o) + len * 2 ≤ c.size
        split
        · have : len = 0 := by omega
          subst this; omega
        · rcases hsize with h | h
          · omega
          · have : len * 2 ≤ m * 2 := Nat.mul_le_mul_right _ hl
            omega
      · show len * 2 ≤ _
        rw [flat_len lotC_len, hlen]; exact Nat.le_refl _
      · have hk' : k < len * 2 := hk
        have hm0 : m ≠ 0 := by omega
        have hi : k / 2 < len := by omega
        have hx' : (((List.range len).map g).flatMap lotC)[k]? = some x := hx
        have hgi : ((List.range len).map g)[k / 2]? = some (g (k / 2)) := by simp [hi]
        have hat := flat_at lotC_len _ _ _ hgi
        show ∃ u, c[(if m = 0 then 0 else o) + k]? = some u ∧ CR β x u
        rw [if_neg hm0]
        obtain ⟨q0, q1⟩ := hg (k / 2) (by omega)
        have key : ∀ j, j < 2 → (((List.range len).map g).flatMap lotC)[k / 2 * 2 + j]? = (lotC (g (k / 2)))[j]? := fun j hj => by
          rw [← hat, List.getElem?_take, if_pos hj, List.getElem?_drop]
        rcases Nat.mod_two_eq_zero_or_one k with h | h
        · have e0 : k = k / 2 * 2 + 0 := by omega
          rw [e0, key 0 (by decide)] at hx'
          cases hx'
          refine ⟨_, ?_, rfl⟩
          have : o + k = o + k / 2 * 2 := by omega
          rw [this]; exact q0
        · have e0 : k = k / 2 * 2 + 1 := by omega
          rw [e0, key 1 (by decide)] at hx'
          cases hx'
          refine ⟨_, ?_, rfl⟩
          have : o + k = o + (k / 2 * 2 + 1) := by omega
          rw [this]; exact q1
    · rcases Nat.eq_zero_or_pos m with h | h
      · exact .inl h
      · right
        show o = (if m = 0 then 0 else o) ∧ (if m = 0 then 0 else o) + m * 2 ≤ c.size
        rw [if_neg (by omega)]
        exact ⟨rfl, hsize.resolve_left (by omega)⟩

/-- The engine's value of an argument. -/
def argV (k : Nat) (x : Option ArgO) (l : List Lot) : AC := match x with | none => .o .nilS | some _ => .o (.sl k 0 0 l.length 2)

theorem argL_row {W : World} {v : Value} {l : List Lot} {x : Option ArgO} (h : ArgL W v l x) {a : ArgO} (ha : x = some a) (β : Pl) : RowD β W a.cells a.p := by
  rcases h with ⟨h1, _⟩ | ⟨a', h1, _, h3, _⟩
  · rw [h1] at ha; cases ha
  · rw [h1] at ha; cases ha; exact h3 β

theorem argL_rel {W : World} {v : Value} {l : List Lot} {xs : List (Option ArgO)} {k : Nat} {x : Option ArgO} (hk : xs[k]? = some x) (h : ArgL W v l x) : AR (argB xs) (.one (argV k x l)) v := by
  rcases h with ⟨rfl, rfl, _⟩ | ⟨a, rfl, h2, h3, h4, cap, o', rfl, h6, h7⟩
  · rfl
  · refine ⟨a.p, cap, o', ?_, ?_, h6, rfl, ?_⟩
    · show (if (0 : Nat) = 0 then ((xs[k]?).join).map ArgO.p else none) = _
      rw [if_pos rfl, hk]; rfl
    · rw [h4]; omega
    · simpa using h7

theorem argL_sl {W : World} {v : Value} {l : List Lot} {xs : List (Option ArgO)} {k : Nat} {x : Option ArgO} (hk : xs[k]? = some x) (h : ArgL W v l x) : SlL (argH xs) (argV k x l) l := by
  rcases h with ⟨rfl, _, rfl⟩ | ⟨a, rfl, h2, _⟩
  · exact ⟨rfl, .inl ⟨rfl, rfl⟩⟩
  · refine ⟨flat_len lotC_len l, .inr ⟨k, 0, 0, rfl, (List.getElem?_eq_some_iff.1 hk).1, a.cells, ?_, ?_, ?_⟩⟩
    · rw [get_argH, hk]; rfl
    · rw [h2, flat_len lotC_len]; omega
    · rw [h2, List.drop_zero, List.take_of_length_le (by rw [flat_len lotC_len]; exact Nat.le_refl _)]
end Go.Proofs.YtndipbefnipnpaaGreat
