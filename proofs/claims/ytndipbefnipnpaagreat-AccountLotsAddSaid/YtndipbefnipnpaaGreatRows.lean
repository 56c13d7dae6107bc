/-
  No cell of these rows narrows 'for every input' (looked for: loops, veiled, ifaces, maps, wideKeys, modest, calm, conditions, laid).
  DERIVED. THE GIVEN ROWS OF THIS SEAT. 5 by the template 'for every input the law returns true; each argument reads behind the call as it read before'; 0 by the template 'total and deterministic' (their statements: YtndipbefnipnpaaGreatTotals.lean).
  GIVEN WITH THE SEED: the statements are not yours to turn. If you find one false, say at which input.
  Laid BY PROGRAM, IN A SANDBOX (cutbox-rows.mjs): the forced cells as the released guide's own fill.sh prints them over the translation c8da8413f665076a… (all of the seat's roots in one cut). By AI agents, Wed Nov 11 2026. No macro, syntax, notation, axiom, sorry.
-/
import Derived.Test.YtndipbefnipnpaaGreatChecked
import GoSem.Claim
import GoSem.ClaimJoined
import GoSem.ClaimMapViews
import Derived.JoinedTies
import Derived.KernelRfl
namespace Go.Proofs.YtndipbefnipnpaaGreat
/- THE CELL 'sum', in the pinned program and in every row, IS THE sha256 OF THE DUMP (.gsa) THAT YtndipbefnipnpaaGreatProg.lean LOADS. Nothing in Lean hashes anything: it is a label: what it is worth is what the hold of that sum in a sandbox is worth. -/
noncomputable def Tryz.pinned : Pinned := { name := "ytndipbefnipnpaagreat", sum := "c8da8413f665076a0dbe444fe22f2c3e49bbaeee55f2ff99d6f1d0037190de92", checked := Tryz.checked }
namespace Rows
def none {H : Type} : Left H := { results := [], args := [] }

/-- 'bullalaw05.AccountLotsOrder': WHATEVER THE INPUT: true; the input reads as it did. -/
def accountLotsOrderSpec : ChangeSpec := { name := "accountLotsOrder", fn := fun _ => fun
  | [d1, d2, d3] => { results := [.lit (.bool true)], args := [d1, d2, d3] }
  | _ => none }
def accountLotsOrderRow : OpenClaim := { program := "ytndipbefnipnpaagreat", sum := "c8da8413f665076a0dbe444fe22f2c3e49bbaeee55f2ff99d6f1d0037190de92", func := "bulla/bullalaw05.AccountLotsOrder", spec := "accountLotsOrder", inPlace := ["slices.overlaps[[]bulla/api.Fix]"], unfollowed := true, recurses := true, plainKeys := false, apart := false }
def AccountLotsOrderSaid : Prop := accountLotsOrderRow.holds Tryz.pinned (OpenSpec.ofChange accountLotsOrderSpec)

/-- ITS FALSE NEIGHBOUR: 'it returns false'. Refute it at one input. -/
def accountLotsOrderWrong : ChangeSpec := { name := "accountLotsOrder", fn := fun _ => fun
  | [d1, d2, d3] => { results := [.lit (.bool false)], args := [d1, d2, d3] }
  | _ => none }
def AccountLotsOrderWrongFalsely : Prop := accountLotsOrderRow.holds Tryz.pinned (OpenSpec.ofChange accountLotsOrderWrong)

/-- 'bullalaw05.AccountLotsAdd': WHATEVER THE INPUT: true; the input reads as it did. -/
def accountLotsAddSpec : ChangeSpec := { name := "accountLotsAdd", fn := fun _ => fun
  | [d1, d2] => { results := [.lit (.bool true)], args := [d1, d2] }
  | _ => none }
def accountLotsAddRow : OpenClaim := { program := "ytndipbefnipnpaagreat", sum := "c8da8413f665076a0dbe444fe22f2c3e49bbaeee55f2ff99d6f1d0037190de92", func := "bulla/bullalaw05.AccountLotsAdd", spec := "accountLotsAdd", inPlace := ["slices.overlaps[[]bulla/api.Fix]"], unfollowed := true, recurses := true, plainKeys := false, apart := false }
def AccountLotsAddSaid : Prop := accountLotsAddRow.holds Tryz.pinned (OpenSpec.ofChange accountLotsAddSpec)

/-- ITS FALSE NEIGHBOUR: 'it returns false'. Refute it at one input. -/
def accountLotsAddWrong : ChangeSpec := { name := "accountLotsAdd", fn := fun _ => fun
  | [d1, d2] => { results := [.lit (.bool false)], args := [d1, d2] }
  | _ => none }
def AccountLotsAddWrongFalsely : Prop := accountLotsAddRow.holds Tryz.pinned (OpenSpec.ofChange accountLotsAddWrong)

/-- 'bullalaw05.AccountLotsGroup': WHATEVER THE INPUT: true; the input reads as it did. -/
def accountLotsGroupSpec : ChangeSpec := { name := "accountLotsGroup", fn := fun _ => fun
  | [d1, d2, d3] => { results := [.lit (.bool true)], args := [d1, d2, d3] }
  | _ => none }
def accountLotsGroupRow : OpenClaim := { program := "ytndipbefnipnpaagreat", sum := "c8da8413f665076a0dbe444fe22f2c3e49bbaeee55f2ff99d6f1d0037190de92", func := "bulla/bullalaw05.AccountLotsGroup", spec := "accountLotsGroup", inPlace := ["slices.overlaps[[]bulla/api.Fix]"], unfollowed := true, recurses := true, plainKeys := false, apart := false }
def AccountLotsGroupSaid : Prop := accountLotsGroupRow.holds Tryz.pinned (OpenSpec.ofChange accountLotsGroupSpec)

/-- ITS FALSE NEIGHBOUR: 'it returns false'. Refute it at one input. -/
def accountLotsGroupWrong : ChangeSpec := { name := "accountLotsGroup", fn := fun _ => fun
  | [d1, d2, d3] => { results := [.lit (.bool false)], args := [d1, d2, d3] }
  | _ => none }
def AccountLotsGroupWrongFalsely : Prop := accountLotsGroupRow.holds Tryz.pinned (OpenSpec.ofChange accountLotsGroupWrong)

/-- 'bullalaw05.AccountLotsScale': WHATEVER THE INPUT: true; the input reads as it did. -/
def accountLotsScaleSpec : ChangeSpec := { name := "accountLotsScale", fn := fun _ => fun
  | [d1, d2] => { results := [.lit (.bool true)], args := [d1, d2] }
  | _ => none }
def accountLotsScaleRow : OpenClaim := { program := "ytndipbefnipnpaagreat", sum := "c8da8413f665076a0dbe444fe22f2c3e49bbaeee55f2ff99d6f1d0037190de92", func := "bulla/bullalaw05.AccountLotsScale", spec := "accountLotsScale", inPlace := ["slices.overlaps[[]bulla/api.Fix]"], unfollowed := true, recurses := true, plainKeys := false, apart := false }
def AccountLotsScaleSaid : Prop := accountLotsScaleRow.holds Tryz.pinned (OpenSpec.ofChange accountLotsScaleSpec)

/-- ITS FALSE NEIGHBOUR: 'it returns false'. Refute it at one input. -/
def accountLotsScaleWrong : ChangeSpec := { name := "accountLotsScale", fn := fun _ => fun
  | [d1, d2] => { results := [.lit (.bool false)], args := [d1, d2] }
  | _ => none }
def AccountLotsScaleWrongFalsely : Prop := accountLotsScaleRow.holds Tryz.pinned (OpenSpec.ofChange accountLotsScaleWrong)

/-- 'bullalaw05.AccountLotsScaled': WHATEVER THE INPUT: true; the input reads as it did. -/
def accountLotsScaledSpec : ChangeSpec := { name := "accountLotsScaled", fn := fun _ => fun
  | [d1, d2, d3] => { results := [.lit (.bool true)], args := [d1, d2, d3] }
  | _ => none }
def accountLotsScaledRow : OpenClaim := { program := "ytndipbefnipnpaagreat", sum := "c8da8413f665076a0dbe444fe22f2c3e49bbaeee55f2ff99d6f1d0037190de92", func := "bulla/bullalaw05.AccountLotsScaled", spec := "accountLotsScaled", inPlace := ["slices.overlaps[[]bulla/api.Fix]"], unfollowed := true, recurses := true, plainKeys := false, apart := false }
def AccountLotsScaledSaid : Prop := accountLotsScaledRow.holds Tryz.pinned (OpenSpec.ofChange accountLotsScaledSpec)

/-- ITS FALSE NEIGHBOUR: 'it returns false'. Refute it at one input. -/
def accountLotsScaledWrong : ChangeSpec := { name := "accountLotsScaled", fn := fun _ => fun
  | [d1, d2, d3] => { results := [.lit (.bool false)], args := [d1, d2, d3] }
  | _ => none }
def AccountLotsScaledWrongFalsely : Prop := accountLotsScaledRow.holds Tryz.pinned (OpenSpec.ofChange accountLotsScaledWrong)

/- THE SECOND FORM. 'bulk': how many values and letters a reading holds, each counted each time it is reached (what is shared counts as often as it is met; a slice's spare places count too). A statement '..UptoSaid' is the law's where the arguments, and the package variables that the reading takes, are together of bulk at most 1048576: NARROWER than '..Said'. Prove '..Said' where nothing that the law and all that it calls make is longer than what came in: it says more and counts as full. Else prove '..UptoSaid'. A law counts once. -/
mutual
def uptoBulk {H : Type} : DataW H → Nat
  | .lit (.string bytes) => bytes.length + 1
  | .lit _ => 1
  | .nil => 1
  | .ptr d => uptoBulk d + 1
  | .slice elems spare => uptoBulkAll elems + uptoBulkAll spare + 1
  | .agg parts => uptoBulkAll parts + 1
  | .iface _ d => uptoBulk d + 1
  | .map entries => uptoBulkEntries entries + 1
  | .held _ => 1
def uptoBulkAll {H : Type} : List (DataW H) → Nat
  | [] => 0
  | d :: r => uptoBulk d + uptoBulkAll r
def uptoBulkEntries {H : Type} : List (Lit × DataW H) → Nat
  | [] => 0
  | x :: r => uptoBulkEntry x + uptoBulkEntries r
def uptoBulkEntry {H : Type} : Lit × DataW H → Nat
  | (.string bytes, d) => bytes.length + uptoBulk d + 1
  | (_, d) => uptoBulk d + 1
 end
def uptoSmall : (H : Type) → List (DataW H) → Bool := fun _ ds => decide (uptoBulkAll ds ≤ 1048576)
def OpenSpec.upto (s : _root_.Go.ChangeSpec) : _root_.Go.OpenSpec := { _root_.Go.OpenSpec.ofChange s with cond := some uptoSmall }

/-- 'bullalaw05.AccountLotsOrder', WHERE WHAT IT READS IS OF BULK AT MOST 1048576: true; the input reads as it did. -/
def accountLotsOrderUptoRow : OpenClaim := { program := "ytndipbefnipnpaagreat", sum := "c8da8413f665076a0dbe444fe22f2c3e49bbaeee55f2ff99d6f1d0037190de92", func := "bulla/bullalaw05.AccountLotsOrder", spec := "accountLotsOrder", inPlace := ["slices.overlaps[[]bulla/api.Fix]"], unfollowed := true, recurses := true, plainKeys := false, apart := false, narrowed := true }
def AccountLotsOrderUptoSaid : Prop := accountLotsOrderUptoRow.holds Tryz.pinned (OpenSpec.upto accountLotsOrderSpec)

/-- 'bullalaw05.AccountLotsAdd', WHERE WHAT IT READS IS OF BULK AT MOST 1048576: true; the input reads as it did. -/
def accountLotsAddUptoRow : OpenClaim := { program := "ytndipbefnipnpaagreat", sum := "c8da8413f665076a0dbe444fe22f2c3e49bbaeee55f2ff99d6f1d0037190de92", func := "bulla/bullalaw05.AccountLotsAdd", spec := "accountLotsAdd", inPlace := ["slices.overlaps[[]bulla/api.Fix]"], unfollowed := true, recurses := true, plainKeys := false, apart := false, narrowed := true }
def AccountLotsAddUptoSaid : Prop := accountLotsAddUptoRow.holds Tryz.pinned (OpenSpec.upto accountLotsAddSpec)

/-- 'bullalaw05.AccountLotsGroup', WHERE WHAT IT READS IS OF BULK AT MOST 1048576: true; the input reads as it did. -/
def accountLotsGroupUptoRow : OpenClaim := { program := "ytndipbefnipnpaagreat", sum := "c8da8413f665076a0dbe444fe22f2c3e49bbaeee55f2ff99d6f1d0037190de92", func := "bulla/bullalaw05.AccountLotsGroup", spec := "accountLotsGroup", inPlace := ["slices.overlaps[[]bulla/api.Fix]"], unfollowed := true, recurses := true, plainKeys := false, apart := false, narrowed := true }
def AccountLotsGroupUptoSaid : Prop := accountLotsGroupUptoRow.holds Tryz.pinned (OpenSpec.upto accountLotsGroupSpec)

/-- 'bullalaw05.AccountLotsScale', WHERE WHAT IT READS IS OF BULK AT MOST 1048576: true; the input reads as it did. -/
def accountLotsScaleUptoRow : OpenClaim := { program := "ytndipbefnipnpaagreat", sum := "c8da8413f665076a0dbe444fe22f2c3e49bbaeee55f2ff99d6f1d0037190de92", func := "bulla/bullalaw05.AccountLotsScale", spec := "accountLotsScale", inPlace := ["slices.overlaps[[]bulla/api.Fix]"], unfollowed := true, recurses := true, plainKeys := false, apart := false, narrowed := true }
def AccountLotsScaleUptoSaid : Prop := accountLotsScaleUptoRow.holds Tryz.pinned (OpenSpec.upto accountLotsScaleSpec)

/-- 'bullalaw05.AccountLotsScaled', WHERE WHAT IT READS IS OF BULK AT MOST 1048576: true; the input reads as it did. -/
def accountLotsScaledUptoRow : OpenClaim := { program := "ytndipbefnipnpaagreat", sum := "c8da8413f665076a0dbe444fe22f2c3e49bbaeee55f2ff99d6f1d0037190de92", func := "bulla/bullalaw05.AccountLotsScaled", spec := "accountLotsScaled", inPlace := ["slices.overlaps[[]bulla/api.Fix]"], unfollowed := true, recurses := true, plainKeys := false, apart := false, narrowed := true }
def AccountLotsScaledUptoSaid : Prop := accountLotsScaledUptoRow.holds Tryz.pinned (OpenSpec.upto accountLotsScaledSpec)

end Rows
end Go.Proofs.YtndipbefnipnpaaGreat
