/- Arguments of a law are read again: they stay. -/
import Derived.Test.YtiejeicaaojdlaaGreatBkArg
import Derived.Test.YtiejeicaaojdlaaGreatEnd
import Derived.Carry
namespace Go.Proofs.YtiejeicaaojdlaaGreat
open Go.ChangeShapes Go.WideShapes Go.ChangeAt Go.RowKit Go.Eng

theorem trodAll_stays {H : Type} {enc : TypeId × Value → H} {P : Program} (hl : laidOutB P = true) {W W' : World} (hb : Below W.heap.size W W') {sp : Nat → Bool} : ∀ {ts : List TypeId} {vs : List Value} {ds : List (DataW H)} {ps : List MemPlace}, (∀ t ∈ ts, P.readableRec t = true ∧ t < P.types.size) →
    DataW.TrodAll enc P W 0 (fun _ => true) true ts vs ds ps → (∀ p ∈ ps, p.block < W.heap.size) → (∀ p ∈ ps, sp p.block = true) → DataW.TrodAll enc P W' 0 sp true ts vs ds ps
  | [], vs, ds, ps, _, h, _, _ => by
    obtain ⟨rfl, rfl, rfl⟩ := trodAll_nil h
    exact trodAll_mk0
  | t :: ts, vs, ds, ps, hr, h, hlt, hsp => by
    obtain ⟨v, vs1, d, ds1, a, b, rfl, rfl, rfl, h1, h2⟩ := trodAll_cons h
    refine ⟨a, b, ?_, trodAll_stays hl hb (fun t ht => hr t (List.mem_cons_of_mem _ ht)) h2 (fun p hp => hlt p (List.mem_append_right _ hp)) (fun p hp => hsp p (List.mem_append_right _ hp)), rfl⟩
    exact WideElems.Trod_stays hl (hr t (List.mem_cons_self ..)).1 (hr t (List.mem_cons_self ..)).2 h1 (fun x hx => hb.same (hlt x (List.mem_append_left _ hx))) (fun x hx => hsp x (List.mem_append_left _ hx))

theorem Tryz.laidOut : laidOutB Tryz.prog = true := by kernel_rfl
theorem readsB : ∀ t ∈ [22, 23], Tryz.prog.readableRec t = true ∧ t < Tryz.prog.types.size := by
  have h1 : Tryz.prog.readableRec 22 = true := by kernel_rfl
  have h2 : Tryz.prog.readableRec 23 = true := by kernel_rfl
  have k1 : decide (22 < Tryz.prog.types.size) = true := by kernel_rfl
  have k2 : decide (23 < Tryz.prog.types.size) = true := by kernel_rfl
  intro t ht
  simp only [List.mem_cons, List.not_mem_nil, or_false] at ht
  rcases ht with rfl | rfl
  · exact ⟨h1, of_decide_eq_true k1⟩
  · exact ⟨h2, of_decide_eq_true k2⟩
theorem reach_le : reachBytes ≤ 140737488355328 := by decide
end Go.Proofs.YtiejeicaaojdlaaGreat
