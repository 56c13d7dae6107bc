/-
  No cell of these rows narrows 'for every input' (looked for: loops, veiled, ifaces, maps, wideKeys, modest, calm, conditions, laid).
  DERIVED. THE GIVEN ROWS OF THIS SEAT. 4 by the template 'for every input the law returns true; each argument reads behind the call as it read before'; 0 by the template 'total and deterministic' (their statements: YtnhbkodnmkojpaaGreatTotals.lean).
  GIVEN WITH THE SEED: the statements are not yours to turn. If you find one false, say at which input.
  Laid BY PROGRAM, IN A SANDBOX (cutbox-rows.mjs): the forced cells as the released guide's own fill.sh prints them over the translation bbc06b7f094e8f03… (all of the seat's roots in one cut). By AI agents, Wed Nov 11 2026. No macro, syntax, notation, axiom, sorry.
-/
import Derived.Test.YtnhbkodnmkojpaaGreatChecked
import GoSem.Claim
import GoSem.ClaimJoined
import GoSem.ClaimMapViews
import Derived.JoinedTies
import Derived.KernelRfl
namespace Go.Proofs.YtnhbkodnmkojpaaGreat
/- THE CELL 'sum', in the pinned program and in every row, IS THE sha256 OF THE DUMP (.gsa) THAT YtnhbkodnmkojpaaGreatProg.lean LOADS. Nothing in Lean hashes anything: it is a label: what it is worth is what the hold of that sum in a sandbox is worth. -/
noncomputable def Tryz.pinned : Pinned := { name := "ytnhbkodnmkojpaagreat", sum := "bbc06b7f094e8f03e2691341bf4063ceed1e1956200cccea21f20026e5338a50", checked := Tryz.checked }
namespace Rows
def none {H : Type} : Left H := { results := [], args := [] }

/-- 'bullalaw05.AccountBuilds': WHATEVER THE INPUT: true; the input reads as it did. -/
def accountBuildsSpec : ChangeSpec := { name := "accountBuilds", fn := fun _ => fun
  | [d] => { results := [.lit (.bool true)], args := [d] }
  | _ => none }
def accountBuildsRow : OpenClaim := { program := "ytnhbkodnmkojpaagreat", sum := "bbc06b7f094e8f03e2691341bf4063ceed1e1956200cccea21f20026e5338a50", func := "bulla/bullalaw05.AccountBuilds", spec := "accountBuilds", inPlace := ["slices.overlaps[[]bulla/api.Fix]"], unfollowed := true, recurses := true, plainKeys := false, apart := false }
def AccountBuildsSaid : Prop := accountBuildsRow.holds Tryz.pinned (OpenSpec.ofChange accountBuildsSpec)

/-- ITS FALSE NEIGHBOUR: 'it returns false'. Refute it at one input. -/
def accountBuildsWrong : ChangeSpec := { name := "accountBuilds", fn := fun _ => fun
  | [d] => { results := [.lit (.bool false)], args := [d] }
  | _ => none }
def AccountBuildsWrongFalsely : Prop := accountBuildsRow.holds Tryz.pinned (OpenSpec.ofChange accountBuildsWrong)

/-- 'bullalaw05.AccountEntriesKeep': WHATEVER THE INPUT: true; the input reads as it did. -/
def accountEntriesKeepSpec : ChangeSpec := { name := "accountEntriesKeep", fn := fun _ => fun
  | [d1, d2] => { results := [.lit (.bool true)], args := [d1, d2] }
  | _ => none }
def accountEntriesKeepRow : OpenClaim := { program := "ytnhbkodnmkojpaagreat", sum := "bbc06b7f094e8f03e2691341bf4063ceed1e1956200cccea21f20026e5338a50", func := "bulla/bullalaw05.AccountEntriesKeep", spec := "accountEntriesKeep", inPlace := ["slices.overlaps[[]bulla/api.Fix]"], unfollowed := true, recurses := true, plainKeys := false, apart := false }
def AccountEntriesKeepSaid : Prop := accountEntriesKeepRow.holds Tryz.pinned (OpenSpec.ofChange accountEntriesKeepSpec)

/-- ITS FALSE NEIGHBOUR: 'it returns false'. Refute it at one input. -/
def accountEntriesKeepWrong : ChangeSpec := { name := "accountEntriesKeep", fn := fun _ => fun
  | [d1, d2] => { results := [.lit (.bool false)], args := [d1, d2] }
  | _ => none }
def AccountEntriesKeepWrongFalsely : Prop := accountEntriesKeepRow.holds Tryz.pinned (OpenSpec.ofChange accountEntriesKeepWrong)

/-- 'bullalaw05.AccountCorrects': WHATEVER THE INPUT: true; the input reads as it did. -/
def accountCorrectsSpec : ChangeSpec := { name := "accountCorrects", fn := fun _ => fun
  | [d1, d2] => { results := [.lit (.bool true)], args := [d1, d2] }
  | _ => none }
def accountCorrectsRow : OpenClaim := { program := "ytnhbkodnmkojpaagreat", sum := "bbc06b7f094e8f03e2691341bf4063ceed1e1956200cccea21f20026e5338a50", func := "bulla/bullalaw05.AccountCorrects", spec := "accountCorrects", inPlace := ["slices.overlaps[[]bulla/api.Fix]"], unfollowed := true, recurses := true, plainKeys := false, apart := false }
def AccountCorrectsSaid : Prop := accountCorrectsRow.holds Tryz.pinned (OpenSpec.ofChange accountCorrectsSpec)

/-- ITS FALSE NEIGHBOUR: 'it returns false'. Refute it at one input. -/
def accountCorrectsWrong : ChangeSpec := { name := "accountCorrects", fn := fun _ => fun
  | [d1, d2] => { results := [.lit (.bool false)], args := [d1, d2] }
  | _ => none }
def AccountCorrectsWrongFalsely : Prop := accountCorrectsRow.holds Tryz.pinned (OpenSpec.ofChange accountCorrectsWrong)

/-- 'bullalaw05.AccountCorrectReads': WHATEVER THE INPUT: true; the input reads as it did. -/
def accountCorrectReadsSpec : ChangeSpec := { name := "accountCorrectReads", fn := fun _ => fun
  | [d1, d2] => { results := [.lit (.bool true)], args := [d1, d2] }
  | _ => none }
def accountCorrectReadsRow : OpenClaim := { program := "ytnhbkodnmkojpaagreat", sum := "bbc06b7f094e8f03e2691341bf4063ceed1e1956200cccea21f20026e5338a50", func := "bulla/bullalaw05.AccountCorrectReads", spec := "accountCorrectReads", inPlace := ["slices.overlaps[[]bulla/api.Fix]"], unfollowed := true, recurses := true, plainKeys := false, apart := false }
def AccountCorrectReadsSaid : Prop := accountCorrectReadsRow.holds Tryz.pinned (OpenSpec.ofChange accountCorrectReadsSpec)

/-- ITS FALSE NEIGHBOUR: 'it returns false'. Refute it at one input. -/
def accountCorrectReadsWrong : ChangeSpec := { name := "accountCorrectReads", fn := fun _ => fun
  | [d1, d2] => { results := [.lit (.bool false)], args := [d1, d2] }
  | _ => none }
def AccountCorrectReadsWrongFalsely : Prop := accountCorrectReadsRow.holds Tryz.pinned (OpenSpec.ofChange accountCorrectReadsWrong)

/- THE SECOND FORM. 'bulk': how many values and letters a reading holds, each counted each time it is reached (what is shared counts as often as it is met; a slice's spare places count too). A statement '..UptoSaid' is the law's where the arguments, and the package variables that the reading takes, are together of bulk at most 1048576: NARROWER than '..Said'. Prove '..Said' where nothing that the law and all that it calls make is longer than what came in: it says more and counts as full. Else prove '..UptoSaid'. A law counts once. -/
mutual
def uptoBulk {H : Type} : DataW H → Nat
  | .lit (.string bytes) => bytes.length + 1
  | .lit _ => 1
  | .nil => 1
  | .ptr d => uptoBulk d + 1
  | .slice elems spare => uptoBulkAll elems + uptoBulkAll spare + 1
  | .agg parts => uptoBulkAll parts + 1
  | .iface _ d => uptoBulk d + 1
  | .map entries => uptoBulkEntries entries + 1
  | .held _ => 1
def uptoBulkAll {H : Type} : List (DataW H) → Nat
  | [] => 0
  | d :: r => uptoBulk d + uptoBulkAll r
def uptoBulkEntries {H : Type} : List (Lit × DataW H) → Nat
  | [] => 0
  | x :: r => uptoBulkEntry x + uptoBulkEntries r
def uptoBulkEntry {H : Type} : Lit × DataW H → Nat
  | (.string bytes, d) => bytes.length + uptoBulk d + 1
  | (_, d) => uptoBulk d + 1
 end
def uptoSmall : (H : Type) → List (DataW H) → Bool := fun _ ds => decide (uptoBulkAll ds ≤ 1048576)
def OpenSpec.upto (s : _root_.Go.ChangeSpec) : _root_.Go.OpenSpec := { _root_.Go.OpenSpec.ofChange s with cond := some uptoSmall }

/-- 'bullalaw05.AccountBuilds', WHERE WHAT IT READS IS OF BULK AT MOST 1048576: true; the input reads as it did. -/
def accountBuildsUptoRow : OpenClaim := { program := "ytnhbkodnmkojpaagreat", sum := "bbc06b7f094e8f03e2691341bf4063ceed1e1956200cccea21f20026e5338a50", func := "bulla/bullalaw05.AccountBuilds", spec := "accountBuilds", inPlace := ["slices.overlaps[[]bulla/api.Fix]"], unfollowed := true, recurses := true, plainKeys := false, apart := false, narrowed := true }
def AccountBuildsUptoSaid : Prop := accountBuildsUptoRow.holds Tryz.pinned (OpenSpec.upto accountBuildsSpec)

/-- 'bullalaw05.AccountEntriesKeep', WHERE WHAT IT READS IS OF BULK AT MOST 1048576: true; the input reads as it did. -/
def accountEntriesKeepUptoRow : OpenClaim := { program := "ytnhbkodnmkojpaagreat", sum := "bbc06b7f094e8f03e2691341bf4063ceed1e1956200cccea21f20026e5338a50", func := "bulla/bullalaw05.AccountEntriesKeep", spec := "accountEntriesKeep", inPlace := ["slices.overlaps[[]bulla/api.Fix]"], unfollowed := true, recurses := true, plainKeys := false, apart := false, narrowed := true }
def AccountEntriesKeepUptoSaid : Prop := accountEntriesKeepUptoRow.holds Tryz.pinned (OpenSpec.upto accountEntriesKeepSpec)

/-- 'bullalaw05.AccountCorrects', WHERE WHAT IT READS IS OF BULK AT MOST 1048576: true; the input reads as it did. -/
def accountCorrectsUptoRow : OpenClaim := { program := "ytnhbkodnmkojpaagreat", sum := "bbc06b7f094e8f03e2691341bf4063ceed1e1956200cccea21f20026e5338a50", func := "bulla/bullalaw05.AccountCorrects", spec := "accountCorrects", inPlace := ["slices.overlaps[[]bulla/api.Fix]"], unfollowed := true, recurses := true, plainKeys := false, apart := false, narrowed := true }
def AccountCorrectsUptoSaid : Prop := accountCorrectsUptoRow.holds Tryz.pinned (OpenSpec.upto accountCorrectsSpec)

/-- 'bullalaw05.AccountCorrectReads', WHERE WHAT IT READS IS OF BULK AT MOST 1048576: true; the input reads as it did. -/
def accountCorrectReadsUptoRow : OpenClaim := { program := "ytnhbkodnmkojpaagreat", sum := "bbc06b7f094e8f03e2691341bf4063ceed1e1956200cccea21f20026e5338a50", func := "bulla/bullalaw05.AccountCorrectReads", spec := "accountCorrectReads", inPlace := ["slices.overlaps[[]bulla/api.Fix]"], unfollowed := true, recurses := true, plainKeys := false, apart := false, narrowed := true }
def AccountCorrectReadsUptoSaid : Prop := accountCorrectReadsUptoRow.holds Tryz.pinned (OpenSpec.upto accountCorrectReadsSpec)

end Rows
end Go.Proofs.YtnhbkodnmkojpaaGreat
