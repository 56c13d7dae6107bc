/- IsName of package metro: what it answers, for every string. -/
import Derived.Test.YtiejeicaaojdlaaGreatProg
import Derived.WalkKit
import Derived.IntWalk
import Derived.KernelRfl
import Derived.Lib.Hide
namespace Go.Proofs.YtiejeicaaojdlaaGreat
open Go Go.RowKit

/-- May a byte stand in a name? -/
def okB (c : UInt8) : Bool := c == 95 || (97 ≤ c && c ≤ 122) || (48 ≤ c && c ≤ 57)
def nmB (l : List UInt8) : Bool := !l.isEmpty && (l.length ≤ 16 && (match l with | [] => false | c :: _ => 97 ≤ c && c ≤ 122) && l.all okB)

theorem retb {a b : Bool} (h : a = b) : Ending.returned (.bool a) = .returned (.bool b) := by rw [h]

theorem take_snoc (s : ByteArray) (k : Nat) (h : k < s.size) : s.data.toList.take (k + 1) = s.data.toList.take k ++ [s[k]] := by
  rw [List.take_succ_eq_append_getElem (by simpa using h)]; rfl

theorem okB_iff (c : UInt8) : okB c = true ↔ ((c.toNat : Int) = 95 ∨ (97 ≤ (c.toNat : Int) ∧ (c.toNat : Int) ≤ 122) ∨ (48 ≤ (c.toNat : Int) ∧ (c.toNat : Int) ≤ 57)) := by
  unfold okB
  simp [UInt8.le_iff_toNat_le, ← UInt8.toNat_inj]
  omega

theorem head_of {s : ByteArray} (h0 : 0 < s.size) : ∃ l, s.data.toList = s[0] :: l ∧ l.length + 1 = s.size := by
  have h0' : 0 < s.data.toList.length := by simpa using h0
  have hlen : s.data.toList.length = s.size := by simp
  have hg : s.data.toList[0] = s[0] := rfl
  cases hl : s.data.toList with
  | nil => rw [hl] at h0'; cases h0'
  | cons c l =>
    simp only [hl, List.getElem_cons_zero] at hg
    rw [hl] at hlen
    exact ⟨l, by rw [hg], by simpa using hlen⟩

theorem nmB_head {s : ByteArray} (h0 : 0 < s.size) (h : (s[0].toNat : Int) < 97 ∨ 122 < (s[0].toNat : Int)) : nmB s.data.toList = false := by
  obtain ⟨l, hl, _⟩ := head_of h0
  rw [hl]
  unfold nmB
  simp [UInt8.le_iff_toNat_le]
  omega

theorem nmB_all {s : ByteArray} (h0 : 0 < s.size) (h16 : s.size ≤ 16) (h : 97 ≤ (s[0].toNat : Int) ∧ (s[0].toNat : Int) ≤ 122) : nmB s.data.toList = s.data.toList.all okB := by
  obtain ⟨l, hl, hlen⟩ := head_of h0
  rw [hl]
  unfold nmB
  have h1 : (97 : UInt8) ≤ s[0] := by rw [UInt8.le_iff_toNat_le]; show 97 ≤ s[0].toNat; omega
  have h2 : s[0] ≤ (122 : UInt8) := by rw [UInt8.le_iff_toNat_le]; show s[0].toNat ≤ 122; omega
  simp [h1, h2, List.length_cons]
  omega

theorem all_bad {s : ByteArray} {k : Nat} (hk : k < s.size) (h : okB s[k] = false) : s.data.toList.all okB = false := by
  rw [List.all_eq_false]
  exact ⟨s[k], by
    have hk' : k < s.data.toList.length := by simpa using hk
    exact List.mem_of_getElem (h := hk') rfl, by simp [h]⟩

theorem all_snoc {s : ByteArray} {k : Nat} (hk : k < s.size) (h : (s.data.toList.take k).all okB = true) (h' : okB s[k] = true) : (s.data.toList.take (k + 1)).all okB = true := by
  rw [take_snoc s k hk, List.all_append, h]
  simp [h']

theorem all_end {s : ByteArray} (h : (s.data.toList.take s.size).all okB = true) : s.data.toList.all okB = true := by
  rw [List.take_of_length_le (by simp)] at h
  exact h

def nmAll (s : ByteArray) : Bool := s.data.toList.all okB

set_option maxRecDepth 100000 in
set_option maxHeartbeats 1000000 in
theorem isName_any (s : ByteArray) (w : World) : Calls Tryz.prog 32 #[.string s] w fun e w' => e = .returned (.bool (nmB s.data.toList)) ∧ w' = w := by
  by_cases h0 : s.size = 0
  · have hb : nmB s.data.toList = false := by
      have : s.data.toList.length = 0 := by simpa using h0
      rw [List.eq_nil_of_length_eq_zero this]; rfl
    have h0' : ((s.size : Int) == 0) = true := beq_iff_eq.2 (by omega)
    rw [hb]
    clear hb
    go_enter Tryz.func32, Tryz.ntmps32
    go_wp2
    go_ret
    exact ⟨rfl, rfl⟩
  · by_cases h16 : 16 < s.size
    · have hb : nmB s.data.toList = false := by
        unfold nmB
        have : s.data.toList.length = s.size := by simp
        rw [this]
        simp
        omega
      have h0' : ((s.size : Int) == 0) = false := beq_eq_false_iff_ne.2 (by omega)
      have h16' : decide ((16 : Int) < s.size) = true := by simp; omega
      rw [hb]
      clear hb
      go_enter Tryz.func32, Tryz.ntmps32
      go_wp2
      go_ret
      exact ⟨rfl, rfl⟩
    · have hpos : 0 < s.size := by omega
      by_cases hlo : (s[0].toNat : Int) < 97 ∨ 122 < (s[0].toNat : Int)
      · have hb := nmB_head hpos hlo
        have h0' : ((s.size : Int) == 0) = false := beq_eq_false_iff_ne.2 (by omega)
        have h16' : decide ((16 : Int) < s.size) = false := by simp; omega
        rw [hb]
        clear hb
        rcases hlo with hlo | hlo
        all_goals
          go_enter Tryz.func32, Tryz.ntmps32
          go_wp2
          go_ret
          exact ⟨rfl, rfl⟩
      · have hb : nmB s.data.toList = nmAll s := nmB_all hpos (by omega) (by omega)
        have h0' : ((s.size : Int) == 0) = false := beq_eq_false_iff_ne.2 (by omega)
        have h16' : decide ((16 : Int) < s.size) = false := by simp; omega
        have h1 : ¬ (s[0].toNat : Int) < 97 := by omega
        have h2 : ¬ 122 < (s[0].toNat : Int) := by omega
        rw [hb]
        clear hb hlo
        go_enter Tryz.func32, Tryz.ntmps32
        go_wp2
        go_loop [25] (fun i => ∃ k : Nat, k ≤ s.size ∧ i = .int .i64 k ∧ Hid ((s.data.toList.take k).all okB = true)) (fun i => s.size - (intOf i).toNat)
        case atStart => exact ⟨0, Nat.zero_le _, rfl, rfl⟩
        case round =>
          obtain ⟨k, hk, rfl, HS⟩ := hrel
          by_cases hlt : k < s.size
          · obtain ⟨cv, hcv⟩ : ∃ cv : Int, cv = (s[k].toNat : Int) := ⟨_, rfl⟩
            have hok := okB_iff s[k]
            rw [← hcv] at hok
            have HC : Hid (okB s[k] = true ↔ (cv = 95 ∨ (97 ≤ cv ∧ cv ≤ 122) ∨ (48 ≤ cv ∧ cv ≤ 57))) := Lib.hid hok
            clear hok
            go_wp2
            all_goals first
              | (go_round
                 case rel =>
                   have hgood : okB s[k] = true := HC.out.2 (by rw [hcv] at *; (try simp only [bne_iff_ne, ne_eq, bne_eq_false_iff_eq] at *); omega)
                   exact ⟨k + 1, by omega, by go_num, all_snoc hlt HS.out hgood⟩
                 case measure => simp [intOf]; omega)
              | (go_ret
                 have hbad : okB s[k] = false := by
                   cases h : okB s[k] with
                   | false => rfl
                   | true => exfalso; have := HC.out.1 h; rw [hcv] at *; (try simp only [bne_iff_ne, ne_eq, bne_eq_false_iff_eq] at *); omega
                 exact ⟨retb (all_bad hlt hbad).symm, rfl⟩)
          · go_wp2
            go_ret
            have : k = s.size := by omega
            subst this
            exact ⟨retb (all_end HS.out).symm, rfl⟩
end Go.Proofs.YtiejeicaaojdlaaGreat
