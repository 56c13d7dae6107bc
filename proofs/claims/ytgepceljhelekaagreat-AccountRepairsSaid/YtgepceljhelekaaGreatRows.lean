/-
  No cell of these rows narrows 'for every input' (looked for: loops, veiled, ifaces, maps, wideKeys, modest, calm, conditions, laid).
  DERIVED. THE GIVEN ROWS OF THIS SEAT. 3 by the template 'for every input the law returns true; each argument reads behind the call as it read before'; 0 by the template 'total and deterministic' (their statements: YtgepceljhelekaaGreatTotals.lean).
  GIVEN WITH THE SEED: the statements are not yours to turn. If you find one false, say at which input.
  Laid BY PROGRAM, IN A SANDBOX (cutbox-rows.mjs): the forced cells as the released guide's own fill.sh prints them over the translation 71e8b9805284edb5… (all of the seat's roots in one cut). By AI agents, Wed Nov 11 2026. No macro, syntax, notation, axiom, sorry.
-/
import Derived.Test.YtgepceljhelekaaGreatChecked
import GoSem.Claim
import GoSem.ClaimJoined
import GoSem.ClaimMapViews
import Derived.JoinedTies
import Derived.KernelRfl
namespace Go.Proofs.YtgepceljhelekaaGreat
/- THE CELL 'sum', in the pinned program and in every row, IS THE sha256 OF THE DUMP (.gsa) THAT YtgepceljhelekaaGreatProg.lean LOADS. Nothing in Lean hashes anything: it is a label: what it is worth is what the hold of that sum in a sandbox is worth. -/
noncomputable def Tryz.pinned : Pinned := { name := "ytgepceljhelekaagreat", sum := "71e8b9805284edb5cc9e30da9b26bab20080352dc150c1bb0d677d382a9ca919", checked := Tryz.checked }
namespace Rows
def none {H : Type} : Left H := { results := [], args := [] }

/-- 'bullalaw05.AccountRepairFewest': WHATEVER THE INPUT: true; the input reads as it did. -/
def accountRepairFewestSpec : ChangeSpec := { name := "accountRepairFewest", fn := fun _ => fun
  | [d1, d2, d3] => { results := [.lit (.bool true)], args := [d1, d2, d3] }
  | _ => none }
def accountRepairFewestRow : OpenClaim := { program := "ytgepceljhelekaagreat", sum := "71e8b9805284edb5cc9e30da9b26bab20080352dc150c1bb0d677d382a9ca919", func := "bulla/bullalaw05.AccountRepairFewest", spec := "accountRepairFewest", inPlace := ["slices.overlaps[[]bulla/api.Fix]"], unfollowed := true, recurses := true, plainKeys := false, apart := false }
def AccountRepairFewestSaid : Prop := accountRepairFewestRow.holds Tryz.pinned (OpenSpec.ofChange accountRepairFewestSpec)

/-- ITS FALSE NEIGHBOUR: 'it returns false'. Refute it at one input. -/
def accountRepairFewestWrong : ChangeSpec := { name := "accountRepairFewest", fn := fun _ => fun
  | [d1, d2, d3] => { results := [.lit (.bool false)], args := [d1, d2, d3] }
  | _ => none }
def AccountRepairFewestWrongFalsely : Prop := accountRepairFewestRow.holds Tryz.pinned (OpenSpec.ofChange accountRepairFewestWrong)

/-- 'bullalaw05.AccountSlipsFound': WHATEVER THE INPUT: true; the input reads as it did. -/
def accountSlipsFoundSpec : ChangeSpec := { name := "accountSlipsFound", fn := fun _ => fun
  | [d1, d2] => { results := [.lit (.bool true)], args := [d1, d2] }
  | _ => none }
def accountSlipsFoundRow : OpenClaim := { program := "ytgepceljhelekaagreat", sum := "71e8b9805284edb5cc9e30da9b26bab20080352dc150c1bb0d677d382a9ca919", func := "bulla/bullalaw05.AccountSlipsFound", spec := "accountSlipsFound", inPlace := ["slices.overlaps[[]bulla/api.Fix]"], unfollowed := true, recurses := true, plainKeys := false, apart := false }
def AccountSlipsFoundSaid : Prop := accountSlipsFoundRow.holds Tryz.pinned (OpenSpec.ofChange accountSlipsFoundSpec)

/-- ITS FALSE NEIGHBOUR: 'it returns false'. Refute it at one input. -/
def accountSlipsFoundWrong : ChangeSpec := { name := "accountSlipsFound", fn := fun _ => fun
  | [d1, d2] => { results := [.lit (.bool false)], args := [d1, d2] }
  | _ => none }
def AccountSlipsFoundWrongFalsely : Prop := accountSlipsFoundRow.holds Tryz.pinned (OpenSpec.ofChange accountSlipsFoundWrong)

/-- 'bullalaw05.AccountRepairs': WHATEVER THE INPUT: true; the input reads as it did. -/
def accountRepairsSpec : ChangeSpec := { name := "accountRepairs", fn := fun _ => fun
  | [d1, d2, d3] => { results := [.lit (.bool true)], args := [d1, d2, d3] }
  | _ => none }
def accountRepairsRow : OpenClaim := { program := "ytgepceljhelekaagreat", sum := "71e8b9805284edb5cc9e30da9b26bab20080352dc150c1bb0d677d382a9ca919", func := "bulla/bullalaw05.AccountRepairs", spec := "accountRepairs", inPlace := ["slices.overlaps[[]bulla/api.Fix]"], unfollowed := true, recurses := true, plainKeys := false, apart := false }
def AccountRepairsSaid : Prop := accountRepairsRow.holds Tryz.pinned (OpenSpec.ofChange accountRepairsSpec)

/-- ITS FALSE NEIGHBOUR: 'it returns false'. Refute it at one input. -/
def accountRepairsWrong : ChangeSpec := { name := "accountRepairs", fn := fun _ => fun
  | [d1, d2, d3] => { results := [.lit (.bool false)], args := [d1, d2, d3] }
  | _ => none }
def AccountRepairsWrongFalsely : Prop := accountRepairsRow.holds Tryz.pinned (OpenSpec.ofChange accountRepairsWrong)

/- THE SECOND FORM. 'bulk': how many values and letters a reading holds, each counted each time it is reached (what is shared counts as often as it is met; a slice's spare places count too). A statement '..UptoSaid' is the law's where the arguments, and the package variables that the reading takes, are together of bulk at most 1048576: NARROWER than '..Said'. Prove '..Said' where nothing that the law and all that it calls make is longer than what came in: it says more and counts as full. Else prove '..UptoSaid'. A law counts once. -/
mutual
def uptoBulk {H : Type} : DataW H → Nat
  | .lit (.string bytes) => bytes.length + 1
  | .lit _ => 1
  | .nil => 1
  | .ptr d => uptoBulk d + 1
  | .slice elems spare => uptoBulkAll elems + uptoBulkAll spare + 1
  | .agg parts => uptoBulkAll parts + 1
  | .iface _ d => uptoBulk d + 1
  | .map entries => uptoBulkEntries entries + 1
  | .held _ => 1
def uptoBulkAll {H : Type} : List (DataW H) → Nat
  | [] => 0
  | d :: r => uptoBulk d + uptoBulkAll r
def uptoBulkEntries {H : Type} : List (Lit × DataW H) → Nat
  | [] => 0
  | x :: r => uptoBulkEntry x + uptoBulkEntries r
def uptoBulkEntry {H : Type} : Lit × DataW H → Nat
  | (.string bytes, d) => bytes.length + uptoBulk d + 1
  | (_, d) => uptoBulk d + 1
 end
def uptoSmall : (H : Type) → List (DataW H) → Bool := fun _ ds => decide (uptoBulkAll ds ≤ 1048576)
def OpenSpec.upto (s : _root_.Go.ChangeSpec) : _root_.Go.OpenSpec := { _root_.Go.OpenSpec.ofChange s with cond := some uptoSmall }

/-- 'bullalaw05.AccountRepairFewest', WHERE WHAT IT READS IS OF BULK AT MOST 1048576: true; the input reads as it did. -/
def accountRepairFewestUptoRow : OpenClaim := { program := "ytgepceljhelekaagreat", sum := "71e8b9805284edb5cc9e30da9b26bab20080352dc150c1bb0d677d382a9ca919", func := "bulla/bullalaw05.AccountRepairFewest", spec := "accountRepairFewest", inPlace := ["slices.overlaps[[]bulla/api.Fix]"], unfollowed := true, recurses := true, plainKeys := false, apart := false, narrowed := true }
def AccountRepairFewestUptoSaid : Prop := accountRepairFewestUptoRow.holds Tryz.pinned (OpenSpec.upto accountRepairFewestSpec)

/-- 'bullalaw05.AccountSlipsFound', WHERE WHAT IT READS IS OF BULK AT MOST 1048576: true; the input reads as it did. -/
def accountSlipsFoundUptoRow : OpenClaim := { program := "ytgepceljhelekaagreat", sum := "71e8b9805284edb5cc9e30da9b26bab20080352dc150c1bb0d677d382a9ca919", func := "bulla/bullalaw05.AccountSlipsFound", spec := "accountSlipsFound", inPlace := ["slices.overlaps[[]bulla/api.Fix]"], unfollowed := true, recurses := true, plainKeys := false, apart := false, narrowed := true }
def AccountSlipsFoundUptoSaid : Prop := accountSlipsFoundUptoRow.holds Tryz.pinned (OpenSpec.upto accountSlipsFoundSpec)

/-- 'bullalaw05.AccountRepairs', WHERE WHAT IT READS IS OF BULK AT MOST 1048576: true; the input reads as it did. -/
def accountRepairsUptoRow : OpenClaim := { program := "ytgepceljhelekaagreat", sum := "71e8b9805284edb5cc9e30da9b26bab20080352dc150c1bb0d677d382a9ca919", func := "bulla/bullalaw05.AccountRepairs", spec := "accountRepairs", inPlace := ["slices.overlaps[[]bulla/api.Fix]"], unfollowed := true, recurses := true, plainKeys := false, apart := false, narrowed := true }
def AccountRepairsUptoSaid : Prop := accountRepairsUptoRow.holds Tryz.pinned (OpenSpec.upto accountRepairsSpec)

end Rows
end Go.Proofs.YtgepceljhelekaaGreat
