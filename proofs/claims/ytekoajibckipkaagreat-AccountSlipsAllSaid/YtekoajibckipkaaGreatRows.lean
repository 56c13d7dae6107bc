/-
  No cell of these rows narrows 'for every input' (looked for: loops, veiled, ifaces, maps, wideKeys, modest, calm, conditions, laid).
  DERIVED. THE GIVEN ROWS OF THIS SEAT. 6 by the template 'for every input the law returns true; each argument reads behind the call as it read before'; 0 by the template 'total and deterministic' (their statements: YtekoajibckipkaaGreatTotals.lean).
  GIVEN WITH THE SEED: the statements are not yours to turn. If you find one false, say at which input.
  Laid BY PROGRAM, IN A SANDBOX (cutbox-rows.mjs): the forced cells as the released guide's own fill.sh prints them over the translation 9d206aa0f7dd947d… (all of the seat's roots in one cut). By AI agents, Wed Nov 11 2026. No macro, syntax, notation, axiom, sorry.
-/
import Derived.Test.YtekoajibckipkaaGreatChecked
import GoSem.Claim
import GoSem.ClaimJoined
import GoSem.ClaimMapViews
import Derived.JoinedTies
import Derived.KernelRfl
namespace Go.Proofs.YtekoajibckipkaaGreat
/- THE CELL 'sum', in the pinned program and in every row, IS THE sha256 OF THE DUMP (.gsa) THAT YtekoajibckipkaaGreatProg.lean LOADS. Nothing in Lean hashes anything: it is a label: what it is worth is what the hold of that sum in a sandbox is worth. -/
noncomputable def Tryz.pinned : Pinned := { name := "ytekoajibckipkaagreat", sum := "9d206aa0f7dd947df8df3e75822a8d1c443d48828bcddf9bb89c5b63dc9b1f08", checked := Tryz.checked }
namespace Rows
def none {H : Type} : Left H := { results := [], args := [] }

/-- 'bullalaw05.AccountGoods': WHATEVER THE INPUT: true; the input reads as it did. -/
def accountGoodsSpec : ChangeSpec := { name := "accountGoods", fn := fun _ => fun
  | [d1, d2] => { results := [.lit (.bool true)], args := [d1, d2] }
  | _ => none }
def accountGoodsRow : OpenClaim := { program := "ytekoajibckipkaagreat", sum := "9d206aa0f7dd947df8df3e75822a8d1c443d48828bcddf9bb89c5b63dc9b1f08", func := "bulla/bullalaw05.AccountGoods", spec := "accountGoods", inPlace := ["slices.overlaps[[]bulla/api.Fix]"], unfollowed := true, recurses := true, plainKeys := false, apart := false }
def AccountGoodsSaid : Prop := accountGoodsRow.holds Tryz.pinned (OpenSpec.ofChange accountGoodsSpec)

/-- ITS FALSE NEIGHBOUR: 'it returns false'. Refute it at one input. -/
def accountGoodsWrong : ChangeSpec := { name := "accountGoods", fn := fun _ => fun
  | [d1, d2] => { results := [.lit (.bool false)], args := [d1, d2] }
  | _ => none }
def AccountGoodsWrongFalsely : Prop := accountGoodsRow.holds Tryz.pinned (OpenSpec.ofChange accountGoodsWrong)

/-- 'bullalaw05.AccountReads': WHATEVER THE INPUT: true; the input reads as it did. -/
def accountReadsSpec : ChangeSpec := { name := "accountReads", fn := fun _ => fun
  | [d1, d2] => { results := [.lit (.bool true)], args := [d1, d2] }
  | _ => none }
def accountReadsRow : OpenClaim := { program := "ytekoajibckipkaagreat", sum := "9d206aa0f7dd947df8df3e75822a8d1c443d48828bcddf9bb89c5b63dc9b1f08", func := "bulla/bullalaw05.AccountReads", spec := "accountReads", inPlace := ["slices.overlaps[[]bulla/api.Fix]"], unfollowed := true, recurses := true, plainKeys := false, apart := false }
def AccountReadsSaid : Prop := accountReadsRow.holds Tryz.pinned (OpenSpec.ofChange accountReadsSpec)

/-- ITS FALSE NEIGHBOUR: 'it returns false'. Refute it at one input. -/
def accountReadsWrong : ChangeSpec := { name := "accountReads", fn := fun _ => fun
  | [d1, d2] => { results := [.lit (.bool false)], args := [d1, d2] }
  | _ => none }
def AccountReadsWrongFalsely : Prop := accountReadsRow.holds Tryz.pinned (OpenSpec.ofChange accountReadsWrong)

/-- 'bullalaw05.AccountSums': WHATEVER THE INPUT: true; the input reads as it did. -/
def accountSumsSpec : ChangeSpec := { name := "accountSums", fn := fun _ => fun
  | [d1, d2, d3] => { results := [.lit (.bool true)], args := [d1, d2, d3] }
  | _ => none }
def accountSumsRow : OpenClaim := { program := "ytekoajibckipkaagreat", sum := "9d206aa0f7dd947df8df3e75822a8d1c443d48828bcddf9bb89c5b63dc9b1f08", func := "bulla/bullalaw05.AccountSums", spec := "accountSums", inPlace := ["slices.overlaps[[]bulla/api.Fix]"], unfollowed := true, recurses := true, plainKeys := false, apart := false }
def AccountSumsSaid : Prop := accountSumsRow.holds Tryz.pinned (OpenSpec.ofChange accountSumsSpec)

/-- ITS FALSE NEIGHBOUR: 'it returns false'. Refute it at one input. -/
def accountSumsWrong : ChangeSpec := { name := "accountSums", fn := fun _ => fun
  | [d1, d2, d3] => { results := [.lit (.bool false)], args := [d1, d2, d3] }
  | _ => none }
def AccountSumsWrongFalsely : Prop := accountSumsRow.holds Tryz.pinned (OpenSpec.ofChange accountSumsWrong)

/-- 'bullalaw05.AccountCosts': WHATEVER THE INPUT: true; the input reads as it did. -/
def accountCostsSpec : ChangeSpec := { name := "accountCosts", fn := fun _ => fun
  | [d1, d2] => { results := [.lit (.bool true)], args := [d1, d2] }
  | _ => none }
def accountCostsRow : OpenClaim := { program := "ytekoajibckipkaagreat", sum := "9d206aa0f7dd947df8df3e75822a8d1c443d48828bcddf9bb89c5b63dc9b1f08", func := "bulla/bullalaw05.AccountCosts", spec := "accountCosts", inPlace := ["slices.overlaps[[]bulla/api.Fix]"], unfollowed := true, recurses := true, plainKeys := false, apart := false }
def AccountCostsSaid : Prop := accountCostsRow.holds Tryz.pinned (OpenSpec.ofChange accountCostsSpec)

/-- ITS FALSE NEIGHBOUR: 'it returns false'. Refute it at one input. -/
def accountCostsWrong : ChangeSpec := { name := "accountCosts", fn := fun _ => fun
  | [d1, d2] => { results := [.lit (.bool false)], args := [d1, d2] }
  | _ => none }
def AccountCostsWrongFalsely : Prop := accountCostsRow.holds Tryz.pinned (OpenSpec.ofChange accountCostsWrong)

/-- 'bullalaw05.AccountSlipsAll': WHATEVER THE INPUT: true; the input reads as it did. -/
def accountSlipsAllSpec : ChangeSpec := { name := "accountSlipsAll", fn := fun _ => fun
  | [d1, d2] => { results := [.lit (.bool true)], args := [d1, d2] }
  | _ => none }
def accountSlipsAllRow : OpenClaim := { program := "ytekoajibckipkaagreat", sum := "9d206aa0f7dd947df8df3e75822a8d1c443d48828bcddf9bb89c5b63dc9b1f08", func := "bulla/bullalaw05.AccountSlipsAll", spec := "accountSlipsAll", inPlace := ["slices.overlaps[[]bulla/api.Fix]"], unfollowed := true, recurses := true, plainKeys := false, apart := false }
def AccountSlipsAllSaid : Prop := accountSlipsAllRow.holds Tryz.pinned (OpenSpec.ofChange accountSlipsAllSpec)

/-- ITS FALSE NEIGHBOUR: 'it returns false'. Refute it at one input. -/
def accountSlipsAllWrong : ChangeSpec := { name := "accountSlipsAll", fn := fun _ => fun
  | [d1, d2] => { results := [.lit (.bool false)], args := [d1, d2] }
  | _ => none }
def AccountSlipsAllWrongFalsely : Prop := accountSlipsAllRow.holds Tryz.pinned (OpenSpec.ofChange accountSlipsAllWrong)

/-- 'bullalaw05.AccountSlipsBack': WHATEVER THE INPUT: true; the input reads as it did. -/
def accountSlipsBackSpec : ChangeSpec := { name := "accountSlipsBack", fn := fun _ => fun
  | [d1, d2] => { results := [.lit (.bool true)], args := [d1, d2] }
  | _ => none }
def accountSlipsBackRow : OpenClaim := { program := "ytekoajibckipkaagreat", sum := "9d206aa0f7dd947df8df3e75822a8d1c443d48828bcddf9bb89c5b63dc9b1f08", func := "bulla/bullalaw05.AccountSlipsBack", spec := "accountSlipsBack", inPlace := ["slices.overlaps[[]bulla/api.Fix]"], unfollowed := true, recurses := true, plainKeys := false, apart := false }
def AccountSlipsBackSaid : Prop := accountSlipsBackRow.holds Tryz.pinned (OpenSpec.ofChange accountSlipsBackSpec)

/-- ITS FALSE NEIGHBOUR: 'it returns false'. Refute it at one input. -/
def accountSlipsBackWrong : ChangeSpec := { name := "accountSlipsBack", fn := fun _ => fun
  | [d1, d2] => { results := [.lit (.bool false)], args := [d1, d2] }
  | _ => none }
def AccountSlipsBackWrongFalsely : Prop := accountSlipsBackRow.holds Tryz.pinned (OpenSpec.ofChange accountSlipsBackWrong)

/- THE SECOND FORM. 'bulk': how many values and letters a reading holds, each counted each time it is reached (what is shared counts as often as it is met; a slice's spare places count too). A statement '..UptoSaid' is the law's where the arguments, and the package variables that the reading takes, are together of bulk at most 1048576: NARROWER than '..Said'. Prove '..Said' where nothing that the law and all that it calls make is longer than what came in: it says more and counts as full. Else prove '..UptoSaid'. A law counts once. -/
mutual
def uptoBulk {H : Type} : DataW H → Nat
  | .lit (.string bytes) => bytes.length + 1
  | .lit _ => 1
  | .nil => 1
  | .ptr d => uptoBulk d + 1
  | .slice elems spare => uptoBulkAll elems + uptoBulkAll spare + 1
  | .agg parts => uptoBulkAll parts + 1
  | .iface _ d => uptoBulk d + 1
  | .map entries => uptoBulkEntries entries + 1
  | .held _ => 1
def uptoBulkAll {H : Type} : List (DataW H) → Nat
  | [] => 0
  | d :: r => uptoBulk d + uptoBulkAll r
def uptoBulkEntries {H : Type} : List (Lit × DataW H) → Nat
  | [] => 0
  | x :: r => uptoBulkEntry x + uptoBulkEntries r
def uptoBulkEntry {H : Type} : Lit × DataW H → Nat
  | (.string bytes, d) => bytes.length + uptoBulk d + 1
  | (_, d) => uptoBulk d + 1
 end
def uptoSmall : (H : Type) → List (DataW H) → Bool := fun _ ds => decide (uptoBulkAll ds ≤ 1048576)
def OpenSpec.upto (s : _root_.Go.ChangeSpec) : _root_.Go.OpenSpec := { _root_.Go.OpenSpec.ofChange s with cond := some uptoSmall }

/-- 'bullalaw05.AccountGoods', WHERE WHAT IT READS IS OF BULK AT MOST 1048576: true; the input reads as it did. -/
def accountGoodsUptoRow : OpenClaim := { program := "ytekoajibckipkaagreat", sum := "9d206aa0f7dd947df8df3e75822a8d1c443d48828bcddf9bb89c5b63dc9b1f08", func := "bulla/bullalaw05.AccountGoods", spec := "accountGoods", inPlace := ["slices.overlaps[[]bulla/api.Fix]"], unfollowed := true, recurses := true, plainKeys := false, apart := false, narrowed := true }
def AccountGoodsUptoSaid : Prop := accountGoodsUptoRow.holds Tryz.pinned (OpenSpec.upto accountGoodsSpec)

/-- 'bullalaw05.AccountReads', WHERE WHAT IT READS IS OF BULK AT MOST 1048576: true; the input reads as it did. -/
def accountReadsUptoRow : OpenClaim := { program := "ytekoajibckipkaagreat", sum := "9d206aa0f7dd947df8df3e75822a8d1c443d48828bcddf9bb89c5b63dc9b1f08", func := "bulla/bullalaw05.AccountReads", spec := "accountReads", inPlace := ["slices.overlaps[[]bulla/api.Fix]"], unfollowed := true, recurses := true, plainKeys := false, apart := false, narrowed := true }
def AccountReadsUptoSaid : Prop := accountReadsUptoRow.holds Tryz.pinned (OpenSpec.upto accountReadsSpec)

/-- 'bullalaw05.AccountSums', WHERE WHAT IT READS IS OF BULK AT MOST 1048576: true; the input reads as it did. -/
def accountSumsUptoRow : OpenClaim := { program := "ytekoajibckipkaagreat", sum := "9d206aa0f7dd947df8df3e75822a8d1c443d48828bcddf9bb89c5b63dc9b1f08", func := "bulla/bullalaw05.AccountSums", spec := "accountSums", inPlace := ["slices.overlaps[[]bulla/api.Fix]"], unfollowed := true, recurses := true, plainKeys := false, apart := false, narrowed := true }
def AccountSumsUptoSaid : Prop := accountSumsUptoRow.holds Tryz.pinned (OpenSpec.upto accountSumsSpec)

/-- 'bullalaw05.AccountCosts', WHERE WHAT IT READS IS OF BULK AT MOST 1048576: true; the input reads as it did. -/
def accountCostsUptoRow : OpenClaim := { program := "ytekoajibckipkaagreat", sum := "9d206aa0f7dd947df8df3e75822a8d1c443d48828bcddf9bb89c5b63dc9b1f08", func := "bulla/bullalaw05.AccountCosts", spec := "accountCosts", inPlace := ["slices.overlaps[[]bulla/api.Fix]"], unfollowed := true, recurses := true, plainKeys := false, apart := false, narrowed := true }
def AccountCostsUptoSaid : Prop := accountCostsUptoRow.holds Tryz.pinned (OpenSpec.upto accountCostsSpec)

/-- 'bullalaw05.AccountSlipsAll', WHERE WHAT IT READS IS OF BULK AT MOST 1048576: true; the input reads as it did. -/
def accountSlipsAllUptoRow : OpenClaim := { program := "ytekoajibckipkaagreat", sum := "9d206aa0f7dd947df8df3e75822a8d1c443d48828bcddf9bb89c5b63dc9b1f08", func := "bulla/bullalaw05.AccountSlipsAll", spec := "accountSlipsAll", inPlace := ["slices.overlaps[[]bulla/api.Fix]"], unfollowed := true, recurses := true, plainKeys := false, apart := false, narrowed := true }
def AccountSlipsAllUptoSaid : Prop := accountSlipsAllUptoRow.holds Tryz.pinned (OpenSpec.upto accountSlipsAllSpec)

/-- 'bullalaw05.AccountSlipsBack', WHERE WHAT IT READS IS OF BULK AT MOST 1048576: true; the input reads as it did. -/
def accountSlipsBackUptoRow : OpenClaim := { program := "ytekoajibckipkaagreat", sum := "9d206aa0f7dd947df8df3e75822a8d1c443d48828bcddf9bb89c5b63dc9b1f08", func := "bulla/bullalaw05.AccountSlipsBack", spec := "accountSlipsBack", inPlace := ["slices.overlaps[[]bulla/api.Fix]"], unfollowed := true, recurses := true, plainKeys := false, apart := false, narrowed := true }
def AccountSlipsBackUptoSaid : Prop := accountSlipsBackUptoRow.holds Tryz.pinned (OpenSpec.upto accountSlipsBackSpec)

end Rows
end Go.Proofs.YtekoajibckipkaaGreat
