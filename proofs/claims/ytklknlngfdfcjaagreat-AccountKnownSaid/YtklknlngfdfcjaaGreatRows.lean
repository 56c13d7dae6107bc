/-
  No cell of these rows narrows 'for every input' (looked for: loops, veiled, ifaces, maps, wideKeys, modest, calm, conditions, laid).
  DERIVED. THE GIVEN ROWS OF THIS SEAT. 19 by the template 'for every input the law returns true; each argument reads behind the call as it read before'; 0 by the template 'total and deterministic' (their statements: YtklknlngfdfcjaaGreatTotals.lean).
  GIVEN WITH THE SEED: the statements are not yours to turn. If you find one false, say at which input.
  Laid BY PROGRAM, IN A SANDBOX (cutbox-rows.mjs): the forced cells as the released guide's own fill.sh prints them over the translation f5c5b26e5c5c51b7… (all of the seat's roots in one cut). By AI agents, Wed Nov 11 2026. No macro, syntax, notation, axiom, sorry.
-/
import Derived.Test.YtklknlngfdfcjaaGreatChecked
import GoSem.Claim
import GoSem.ClaimJoined
import GoSem.ClaimMapViews
import Derived.JoinedTies
import Derived.KernelRfl
namespace Go.Proofs.YtklknlngfdfcjaaGreat
/- THE CELL 'sum', in the pinned program and in every row, IS THE sha256 OF THE DUMP (.gsa) THAT YtklknlngfdfcjaaGreatProg.lean LOADS. Nothing in Lean hashes anything: it is a label: what it is worth is what the hold of that sum in a sandbox is worth. -/
noncomputable def Tryz.pinned : Pinned := { name := "ytklknlngfdfcjaagreat", sum := "f5c5b26e5c5c51b788a5da4ab664e8e5701dabd7ee3c643459855bf5ebe82fe8", checked := Tryz.checked }
namespace Rows
def none {H : Type} : Left H := { results := [], args := [] }

/-- 'bullalaw05.AccountGoods': WHATEVER THE INPUT: true; the input reads as it did. -/
def accountGoodsSpec : ChangeSpec := { name := "accountGoods", fn := fun _ => fun
  | [d1, d2] => { results := [.lit (.bool true)], args := [d1, d2] }
  | _ => none }
def accountGoodsRow : OpenClaim := { program := "ytklknlngfdfcjaagreat", sum := "f5c5b26e5c5c51b788a5da4ab664e8e5701dabd7ee3c643459855bf5ebe82fe8", func := "bulla/bullalaw05.AccountGoods", spec := "accountGoods", inPlace := ["slices.overlaps[[]bulla/api.Fix]"], unfollowed := true, recurses := true, plainKeys := false, apart := false }
def AccountGoodsSaid : Prop := accountGoodsRow.holds Tryz.pinned (OpenSpec.ofChange accountGoodsSpec)

/-- ITS FALSE NEIGHBOUR: 'it returns false'. Refute it at one input. -/
def accountGoodsWrong : ChangeSpec := { name := "accountGoods", fn := fun _ => fun
  | [d1, d2] => { results := [.lit (.bool false)], args := [d1, d2] }
  | _ => none }
def AccountGoodsWrongFalsely : Prop := accountGoodsRow.holds Tryz.pinned (OpenSpec.ofChange accountGoodsWrong)

/-- 'bullalaw05.AccountReads': WHATEVER THE INPUT: true; the input reads as it did. -/
def accountReadsSpec : ChangeSpec := { name := "accountReads", fn := fun _ => fun
  | [d1, d2] => { results := [.lit (.bool true)], args := [d1, d2] }
  | _ => none }
def accountReadsRow : OpenClaim := { program := "ytklknlngfdfcjaagreat", sum := "f5c5b26e5c5c51b788a5da4ab664e8e5701dabd7ee3c643459855bf5ebe82fe8", func := "bulla/bullalaw05.AccountReads", spec := "accountReads", inPlace := ["slices.overlaps[[]bulla/api.Fix]"], unfollowed := true, recurses := true, plainKeys := false, apart := false }
def AccountReadsSaid : Prop := accountReadsRow.holds Tryz.pinned (OpenSpec.ofChange accountReadsSpec)

/-- ITS FALSE NEIGHBOUR: 'it returns false'. Refute it at one input. -/
def accountReadsWrong : ChangeSpec := { name := "accountReads", fn := fun _ => fun
  | [d1, d2] => { results := [.lit (.bool false)], args := [d1, d2] }
  | _ => none }
def AccountReadsWrongFalsely : Prop := accountReadsRow.holds Tryz.pinned (OpenSpec.ofChange accountReadsWrong)

/-- 'bullalaw05.AccountSums': WHATEVER THE INPUT: true; the input reads as it did. -/
def accountSumsSpec : ChangeSpec := { name := "accountSums", fn := fun _ => fun
  | [d1, d2, d3] => { results := [.lit (.bool true)], args := [d1, d2, d3] }
  | _ => none }
def accountSumsRow : OpenClaim := { program := "ytklknlngfdfcjaagreat", sum := "f5c5b26e5c5c51b788a5da4ab664e8e5701dabd7ee3c643459855bf5ebe82fe8", func := "bulla/bullalaw05.AccountSums", spec := "accountSums", inPlace := ["slices.overlaps[[]bulla/api.Fix]"], unfollowed := true, recurses := true, plainKeys := false, apart := false }
def AccountSumsSaid : Prop := accountSumsRow.holds Tryz.pinned (OpenSpec.ofChange accountSumsSpec)

/-- ITS FALSE NEIGHBOUR: 'it returns false'. Refute it at one input. -/
def accountSumsWrong : ChangeSpec := { name := "accountSums", fn := fun _ => fun
  | [d1, d2, d3] => { results := [.lit (.bool false)], args := [d1, d2, d3] }
  | _ => none }
def AccountSumsWrongFalsely : Prop := accountSumsRow.holds Tryz.pinned (OpenSpec.ofChange accountSumsWrong)

/-- 'bullalaw05.AccountLotsOrder': WHATEVER THE INPUT: true; the input reads as it did. -/
def accountLotsOrderSpec : ChangeSpec := { name := "accountLotsOrder", fn := fun _ => fun
  | [d1, d2, d3] => { results := [.lit (.bool true)], args := [d1, d2, d3] }
  | _ => none }
def accountLotsOrderRow : OpenClaim := { program := "ytklknlngfdfcjaagreat", sum := "f5c5b26e5c5c51b788a5da4ab664e8e5701dabd7ee3c643459855bf5ebe82fe8", func := "bulla/bullalaw05.AccountLotsOrder", spec := "accountLotsOrder", inPlace := ["slices.overlaps[[]bulla/api.Fix]"], unfollowed := true, recurses := true, plainKeys := false, apart := false }
def AccountLotsOrderSaid : Prop := accountLotsOrderRow.holds Tryz.pinned (OpenSpec.ofChange accountLotsOrderSpec)

/-- ITS FALSE NEIGHBOUR: 'it returns false'. Refute it at one input. -/
def accountLotsOrderWrong : ChangeSpec := { name := "accountLotsOrder", fn := fun _ => fun
  | [d1, d2, d3] => { results := [.lit (.bool false)], args := [d1, d2, d3] }
  | _ => none }
def AccountLotsOrderWrongFalsely : Prop := accountLotsOrderRow.holds Tryz.pinned (OpenSpec.ofChange accountLotsOrderWrong)

/-- 'bullalaw05.AccountLotsAdd': WHATEVER THE INPUT: true; the input reads as it did. -/
def accountLotsAddSpec : ChangeSpec := { name := "accountLotsAdd", fn := fun _ => fun
  | [d1, d2] => { results := [.lit (.bool true)], args := [d1, d2] }
  | _ => none }
def accountLotsAddRow : OpenClaim := { program := "ytklknlngfdfcjaagreat", sum := "f5c5b26e5c5c51b788a5da4ab664e8e5701dabd7ee3c643459855bf5ebe82fe8", func := "bulla/bullalaw05.AccountLotsAdd", spec := "accountLotsAdd", inPlace := ["slices.overlaps[[]bulla/api.Fix]"], unfollowed := true, recurses := true, plainKeys := false, apart := false }
def AccountLotsAddSaid : Prop := accountLotsAddRow.holds Tryz.pinned (OpenSpec.ofChange accountLotsAddSpec)

/-- ITS FALSE NEIGHBOUR: 'it returns false'. Refute it at one input. -/
def accountLotsAddWrong : ChangeSpec := { name := "accountLotsAdd", fn := fun _ => fun
  | [d1, d2] => { results := [.lit (.bool false)], args := [d1, d2] }
  | _ => none }
def AccountLotsAddWrongFalsely : Prop := accountLotsAddRow.holds Tryz.pinned (OpenSpec.ofChange accountLotsAddWrong)

/-- 'bullalaw05.AccountLotsGroup': WHATEVER THE INPUT: true; the input reads as it did. -/
def accountLotsGroupSpec : ChangeSpec := { name := "accountLotsGroup", fn := fun _ => fun
  | [d1, d2, d3] => { results := [.lit (.bool true)], args := [d1, d2, d3] }
  | _ => none }
def accountLotsGroupRow : OpenClaim := { program := "ytklknlngfdfcjaagreat", sum := "f5c5b26e5c5c51b788a5da4ab664e8e5701dabd7ee3c643459855bf5ebe82fe8", func := "bulla/bullalaw05.AccountLotsGroup", spec := "accountLotsGroup", inPlace := ["slices.overlaps[[]bulla/api.Fix]"], unfollowed := true, recurses := true, plainKeys := false, apart := false }
def AccountLotsGroupSaid : Prop := accountLotsGroupRow.holds Tryz.pinned (OpenSpec.ofChange accountLotsGroupSpec)

/-- ITS FALSE NEIGHBOUR: 'it returns false'. Refute it at one input. -/
def accountLotsGroupWrong : ChangeSpec := { name := "accountLotsGroup", fn := fun _ => fun
  | [d1, d2, d3] => { results := [.lit (.bool false)], args := [d1, d2, d3] }
  | _ => none }
def AccountLotsGroupWrongFalsely : Prop := accountLotsGroupRow.holds Tryz.pinned (OpenSpec.ofChange accountLotsGroupWrong)

/-- 'bullalaw05.AccountCosts': WHATEVER THE INPUT: true; the input reads as it did. -/
def accountCostsSpec : ChangeSpec := { name := "accountCosts", fn := fun _ => fun
  | [d1, d2] => { results := [.lit (.bool true)], args := [d1, d2] }
  | _ => none }
def accountCostsRow : OpenClaim := { program := "ytklknlngfdfcjaagreat", sum := "f5c5b26e5c5c51b788a5da4ab664e8e5701dabd7ee3c643459855bf5ebe82fe8", func := "bulla/bullalaw05.AccountCosts", spec := "accountCosts", inPlace := ["slices.overlaps[[]bulla/api.Fix]"], unfollowed := true, recurses := true, plainKeys := false, apart := false }
def AccountCostsSaid : Prop := accountCostsRow.holds Tryz.pinned (OpenSpec.ofChange accountCostsSpec)

/-- ITS FALSE NEIGHBOUR: 'it returns false'. Refute it at one input. -/
def accountCostsWrong : ChangeSpec := { name := "accountCosts", fn := fun _ => fun
  | [d1, d2] => { results := [.lit (.bool false)], args := [d1, d2] }
  | _ => none }
def AccountCostsWrongFalsely : Prop := accountCostsRow.holds Tryz.pinned (OpenSpec.ofChange accountCostsWrong)

/-- 'bullalaw05.AccountRepairFewest': WHATEVER THE INPUT: true; the input reads as it did. -/
def accountRepairFewestSpec : ChangeSpec := { name := "accountRepairFewest", fn := fun _ => fun
  | [d1, d2, d3] => { results := [.lit (.bool true)], args := [d1, d2, d3] }
  | _ => none }
def accountRepairFewestRow : OpenClaim := { program := "ytklknlngfdfcjaagreat", sum := "f5c5b26e5c5c51b788a5da4ab664e8e5701dabd7ee3c643459855bf5ebe82fe8", func := "bulla/bullalaw05.AccountRepairFewest", spec := "accountRepairFewest", inPlace := ["slices.overlaps[[]bulla/api.Fix]"], unfollowed := true, recurses := true, plainKeys := false, apart := false }
def AccountRepairFewestSaid : Prop := accountRepairFewestRow.holds Tryz.pinned (OpenSpec.ofChange accountRepairFewestSpec)

/-- ITS FALSE NEIGHBOUR: 'it returns false'. Refute it at one input. -/
def accountRepairFewestWrong : ChangeSpec := { name := "accountRepairFewest", fn := fun _ => fun
  | [d1, d2, d3] => { results := [.lit (.bool false)], args := [d1, d2, d3] }
  | _ => none }
def AccountRepairFewestWrongFalsely : Prop := accountRepairFewestRow.holds Tryz.pinned (OpenSpec.ofChange accountRepairFewestWrong)

/-- 'bullalaw05.AccountSlipsAll': WHATEVER THE INPUT: true; the input reads as it did. -/
def accountSlipsAllSpec : ChangeSpec := { name := "accountSlipsAll", fn := fun _ => fun
  | [d1, d2] => { results := [.lit (.bool true)], args := [d1, d2] }
  | _ => none }
def accountSlipsAllRow : OpenClaim := { program := "ytklknlngfdfcjaagreat", sum := "f5c5b26e5c5c51b788a5da4ab664e8e5701dabd7ee3c643459855bf5ebe82fe8", func := "bulla/bullalaw05.AccountSlipsAll", spec := "accountSlipsAll", inPlace := ["slices.overlaps[[]bulla/api.Fix]"], unfollowed := true, recurses := true, plainKeys := false, apart := false }
def AccountSlipsAllSaid : Prop := accountSlipsAllRow.holds Tryz.pinned (OpenSpec.ofChange accountSlipsAllSpec)

/-- ITS FALSE NEIGHBOUR: 'it returns false'. Refute it at one input. -/
def accountSlipsAllWrong : ChangeSpec := { name := "accountSlipsAll", fn := fun _ => fun
  | [d1, d2] => { results := [.lit (.bool false)], args := [d1, d2] }
  | _ => none }
def AccountSlipsAllWrongFalsely : Prop := accountSlipsAllRow.holds Tryz.pinned (OpenSpec.ofChange accountSlipsAllWrong)

/-- 'bullalaw05.AccountSlipsBack': WHATEVER THE INPUT: true; the input reads as it did. -/
def accountSlipsBackSpec : ChangeSpec := { name := "accountSlipsBack", fn := fun _ => fun
  | [d1, d2] => { results := [.lit (.bool true)], args := [d1, d2] }
  | _ => none }
def accountSlipsBackRow : OpenClaim := { program := "ytklknlngfdfcjaagreat", sum := "f5c5b26e5c5c51b788a5da4ab664e8e5701dabd7ee3c643459855bf5ebe82fe8", func := "bulla/bullalaw05.AccountSlipsBack", spec := "accountSlipsBack", inPlace := ["slices.overlaps[[]bulla/api.Fix]"], unfollowed := true, recurses := true, plainKeys := false, apart := false }
def AccountSlipsBackSaid : Prop := accountSlipsBackRow.holds Tryz.pinned (OpenSpec.ofChange accountSlipsBackSpec)

/-- ITS FALSE NEIGHBOUR: 'it returns false'. Refute it at one input. -/
def accountSlipsBackWrong : ChangeSpec := { name := "accountSlipsBack", fn := fun _ => fun
  | [d1, d2] => { results := [.lit (.bool false)], args := [d1, d2] }
  | _ => none }
def AccountSlipsBackWrongFalsely : Prop := accountSlipsBackRow.holds Tryz.pinned (OpenSpec.ofChange accountSlipsBackWrong)

/-- 'bullalaw05.AccountSlipsFound': WHATEVER THE INPUT: true; the input reads as it did. -/
def accountSlipsFoundSpec : ChangeSpec := { name := "accountSlipsFound", fn := fun _ => fun
  | [d1, d2] => { results := [.lit (.bool true)], args := [d1, d2] }
  | _ => none }
def accountSlipsFoundRow : OpenClaim := { program := "ytklknlngfdfcjaagreat", sum := "f5c5b26e5c5c51b788a5da4ab664e8e5701dabd7ee3c643459855bf5ebe82fe8", func := "bulla/bullalaw05.AccountSlipsFound", spec := "accountSlipsFound", inPlace := ["slices.overlaps[[]bulla/api.Fix]"], unfollowed := true, recurses := true, plainKeys := false, apart := false }
def AccountSlipsFoundSaid : Prop := accountSlipsFoundRow.holds Tryz.pinned (OpenSpec.ofChange accountSlipsFoundSpec)

/-- ITS FALSE NEIGHBOUR: 'it returns false'. Refute it at one input. -/
def accountSlipsFoundWrong : ChangeSpec := { name := "accountSlipsFound", fn := fun _ => fun
  | [d1, d2] => { results := [.lit (.bool false)], args := [d1, d2] }
  | _ => none }
def AccountSlipsFoundWrongFalsely : Prop := accountSlipsFoundRow.holds Tryz.pinned (OpenSpec.ofChange accountSlipsFoundWrong)

/-- 'bullalaw05.AccountRepairs': WHATEVER THE INPUT: true; the input reads as it did. -/
def accountRepairsSpec : ChangeSpec := { name := "accountRepairs", fn := fun _ => fun
  | [d1, d2, d3] => { results := [.lit (.bool true)], args := [d1, d2, d3] }
  | _ => none }
def accountRepairsRow : OpenClaim := { program := "ytklknlngfdfcjaagreat", sum := "f5c5b26e5c5c51b788a5da4ab664e8e5701dabd7ee3c643459855bf5ebe82fe8", func := "bulla/bullalaw05.AccountRepairs", spec := "accountRepairs", inPlace := ["slices.overlaps[[]bulla/api.Fix]"], unfollowed := true, recurses := true, plainKeys := false, apart := false }
def AccountRepairsSaid : Prop := accountRepairsRow.holds Tryz.pinned (OpenSpec.ofChange accountRepairsSpec)

/-- ITS FALSE NEIGHBOUR: 'it returns false'. Refute it at one input. -/
def accountRepairsWrong : ChangeSpec := { name := "accountRepairs", fn := fun _ => fun
  | [d1, d2, d3] => { results := [.lit (.bool false)], args := [d1, d2, d3] }
  | _ => none }
def AccountRepairsWrongFalsely : Prop := accountRepairsRow.holds Tryz.pinned (OpenSpec.ofChange accountRepairsWrong)

/-- 'bullalaw05.AccountLotsScale': WHATEVER THE INPUT: true; the input reads as it did. -/
def accountLotsScaleSpec : ChangeSpec := { name := "accountLotsScale", fn := fun _ => fun
  | [d1, d2] => { results := [.lit (.bool true)], args := [d1, d2] }
  | _ => none }
def accountLotsScaleRow : OpenClaim := { program := "ytklknlngfdfcjaagreat", sum := "f5c5b26e5c5c51b788a5da4ab664e8e5701dabd7ee3c643459855bf5ebe82fe8", func := "bulla/bullalaw05.AccountLotsScale", spec := "accountLotsScale", inPlace := ["slices.overlaps[[]bulla/api.Fix]"], unfollowed := true, recurses := true, plainKeys := false, apart := false }
def AccountLotsScaleSaid : Prop := accountLotsScaleRow.holds Tryz.pinned (OpenSpec.ofChange accountLotsScaleSpec)

/-- ITS FALSE NEIGHBOUR: 'it returns false'. Refute it at one input. -/
def accountLotsScaleWrong : ChangeSpec := { name := "accountLotsScale", fn := fun _ => fun
  | [d1, d2] => { results := [.lit (.bool false)], args := [d1, d2] }
  | _ => none }
def AccountLotsScaleWrongFalsely : Prop := accountLotsScaleRow.holds Tryz.pinned (OpenSpec.ofChange accountLotsScaleWrong)

/-- 'bullalaw05.AccountLotsScaled': WHATEVER THE INPUT: true; the input reads as it did. -/
def accountLotsScaledSpec : ChangeSpec := { name := "accountLotsScaled", fn := fun _ => fun
  | [d1, d2, d3] => { results := [.lit (.bool true)], args := [d1, d2, d3] }
  | _ => none }
def accountLotsScaledRow : OpenClaim := { program := "ytklknlngfdfcjaagreat", sum := "f5c5b26e5c5c51b788a5da4ab664e8e5701dabd7ee3c643459855bf5ebe82fe8", func := "bulla/bullalaw05.AccountLotsScaled", spec := "accountLotsScaled", inPlace := ["slices.overlaps[[]bulla/api.Fix]"], unfollowed := true, recurses := true, plainKeys := false, apart := false }
def AccountLotsScaledSaid : Prop := accountLotsScaledRow.holds Tryz.pinned (OpenSpec.ofChange accountLotsScaledSpec)

/-- ITS FALSE NEIGHBOUR: 'it returns false'. Refute it at one input. -/
def accountLotsScaledWrong : ChangeSpec := { name := "accountLotsScaled", fn := fun _ => fun
  | [d1, d2, d3] => { results := [.lit (.bool false)], args := [d1, d2, d3] }
  | _ => none }
def AccountLotsScaledWrongFalsely : Prop := accountLotsScaledRow.holds Tryz.pinned (OpenSpec.ofChange accountLotsScaledWrong)

/-- 'bullalaw05.AccountBuilds': WHATEVER THE INPUT: true; the input reads as it did. -/
def accountBuildsSpec : ChangeSpec := { name := "accountBuilds", fn := fun _ => fun
  | [d] => { results := [.lit (.bool true)], args := [d] }
  | _ => none }
def accountBuildsRow : OpenClaim := { program := "ytklknlngfdfcjaagreat", sum := "f5c5b26e5c5c51b788a5da4ab664e8e5701dabd7ee3c643459855bf5ebe82fe8", func := "bulla/bullalaw05.AccountBuilds", spec := "accountBuilds", inPlace := ["slices.overlaps[[]bulla/api.Fix]"], unfollowed := true, recurses := true, plainKeys := false, apart := false }
def AccountBuildsSaid : Prop := accountBuildsRow.holds Tryz.pinned (OpenSpec.ofChange accountBuildsSpec)

/-- ITS FALSE NEIGHBOUR: 'it returns false'. Refute it at one input. -/
def accountBuildsWrong : ChangeSpec := { name := "accountBuilds", fn := fun _ => fun
  | [d] => { results := [.lit (.bool false)], args := [d] }
  | _ => none }
def AccountBuildsWrongFalsely : Prop := accountBuildsRow.holds Tryz.pinned (OpenSpec.ofChange accountBuildsWrong)

/-- 'bullalaw05.AccountEntriesKeep': WHATEVER THE INPUT: true; the input reads as it did. -/
def accountEntriesKeepSpec : ChangeSpec := { name := "accountEntriesKeep", fn := fun _ => fun
  | [d1, d2] => { results := [.lit (.bool true)], args := [d1, d2] }
  | _ => none }
def accountEntriesKeepRow : OpenClaim := { program := "ytklknlngfdfcjaagreat", sum := "f5c5b26e5c5c51b788a5da4ab664e8e5701dabd7ee3c643459855bf5ebe82fe8", func := "bulla/bullalaw05.AccountEntriesKeep", spec := "accountEntriesKeep", inPlace := ["slices.overlaps[[]bulla/api.Fix]"], unfollowed := true, recurses := true, plainKeys := false, apart := false }
def AccountEntriesKeepSaid : Prop := accountEntriesKeepRow.holds Tryz.pinned (OpenSpec.ofChange accountEntriesKeepSpec)

/-- ITS FALSE NEIGHBOUR: 'it returns false'. Refute it at one input. -/
def accountEntriesKeepWrong : ChangeSpec := { name := "accountEntriesKeep", fn := fun _ => fun
  | [d1, d2] => { results := [.lit (.bool false)], args := [d1, d2] }
  | _ => none }
def AccountEntriesKeepWrongFalsely : Prop := accountEntriesKeepRow.holds Tryz.pinned (OpenSpec.ofChange accountEntriesKeepWrong)

/-- 'bullalaw05.AccountCorrects': WHATEVER THE INPUT: true; the input reads as it did. -/
def accountCorrectsSpec : ChangeSpec := { name := "accountCorrects", fn := fun _ => fun
  | [d1, d2] => { results := [.lit (.bool true)], args := [d1, d2] }
  | _ => none }
def accountCorrectsRow : OpenClaim := { program := "ytklknlngfdfcjaagreat", sum := "f5c5b26e5c5c51b788a5da4ab664e8e5701dabd7ee3c643459855bf5ebe82fe8", func := "bulla/bullalaw05.AccountCorrects", spec := "accountCorrects", inPlace := ["slices.overlaps[[]bulla/api.Fix]"], unfollowed := true, recurses := true, plainKeys := false, apart := false }
def AccountCorrectsSaid : Prop := accountCorrectsRow.holds Tryz.pinned (OpenSpec.ofChange accountCorrectsSpec)

/-- ITS FALSE NEIGHBOUR: 'it returns false'. Refute it at one input. -/
def accountCorrectsWrong : ChangeSpec := { name := "accountCorrects", fn := fun _ => fun
  | [d1, d2] => { results := [.lit (.bool false)], args := [d1, d2] }
  | _ => none }
def AccountCorrectsWrongFalsely : Prop := accountCorrectsRow.holds Tryz.pinned (OpenSpec.ofChange accountCorrectsWrong)

/-- 'bullalaw05.AccountCorrectReads': WHATEVER THE INPUT: true; the input reads as it did. -/
def accountCorrectReadsSpec : ChangeSpec := { name := "accountCorrectReads", fn := fun _ => fun
  | [d1, d2] => { results := [.lit (.bool true)], args := [d1, d2] }
  | _ => none }
def accountCorrectReadsRow : OpenClaim := { program := "ytklknlngfdfcjaagreat", sum := "f5c5b26e5c5c51b788a5da4ab664e8e5701dabd7ee3c643459855bf5ebe82fe8", func := "bulla/bullalaw05.AccountCorrectReads", spec := "accountCorrectReads", inPlace := ["slices.overlaps[[]bulla/api.Fix]"], unfollowed := true, recurses := true, plainKeys := false, apart := false }
def AccountCorrectReadsSaid : Prop := accountCorrectReadsRow.holds Tryz.pinned (OpenSpec.ofChange accountCorrectReadsSpec)

/-- ITS FALSE NEIGHBOUR: 'it returns false'. Refute it at one input. -/
def accountCorrectReadsWrong : ChangeSpec := { name := "accountCorrectReads", fn := fun _ => fun
  | [d1, d2] => { results := [.lit (.bool false)], args := [d1, d2] }
  | _ => none }
def AccountCorrectReadsWrongFalsely : Prop := accountCorrectReadsRow.holds Tryz.pinned (OpenSpec.ofChange accountCorrectReadsWrong)

/-- 'bullalaw05.AccountKnown': WHATEVER THE INPUT: true; the input reads as it did. -/
def accountKnownSpec : ChangeSpec := { name := "accountKnown", fn := fun _ => fun
  | [] => { results := [.lit (.bool true)], args := [] }
  | _ => none }
def accountKnownRow : OpenClaim := { program := "ytklknlngfdfcjaagreat", sum := "f5c5b26e5c5c51b788a5da4ab664e8e5701dabd7ee3c643459855bf5ebe82fe8", func := "bulla/bullalaw05.AccountKnown", spec := "accountKnown", inPlace := ["slices.overlaps[[]bulla/api.Fix]"], unfollowed := true, recurses := true, plainKeys := false, apart := false }
def AccountKnownSaid : Prop := accountKnownRow.holds Tryz.pinned (OpenSpec.ofChange accountKnownSpec)

/-- ITS FALSE NEIGHBOUR: 'it returns false'. Refute it at one input. -/
def accountKnownWrong : ChangeSpec := { name := "accountKnown", fn := fun _ => fun
  | [] => { results := [.lit (.bool false)], args := [] }
  | _ => none }
def AccountKnownWrongFalsely : Prop := accountKnownRow.holds Tryz.pinned (OpenSpec.ofChange accountKnownWrong)

/- THE SECOND FORM. 'bulk': how many values and letters a reading holds, each counted each time it is reached (what is shared counts as often as it is met; a slice's spare places count too). A statement '..UptoSaid' is the law's where the arguments, and the package variables that the reading takes, are together of bulk at most 1048576: NARROWER than '..Said'. Prove '..Said' where nothing that the law and all that it calls make is longer than what came in: it says more and counts as full. Else prove '..UptoSaid'. A law counts once. -/
mutual
def uptoBulk {H : Type} : DataW H → Nat
  | .lit (.string bytes) => bytes.length + 1
  | .lit _ => 1
  | .nil => 1
  | .ptr d => uptoBulk d + 1
  | .slice elems spare => uptoBulkAll elems + uptoBulkAll spare + 1
  | .agg parts => uptoBulkAll parts + 1
  | .iface _ d => uptoBulk d + 1
  | .map entries => uptoBulkEntries entries + 1
  | .held _ => 1
def uptoBulkAll {H : Type} : List (DataW H) → Nat
  | [] => 0
  | d :: r => uptoBulk d + uptoBulkAll r
def uptoBulkEntries {H : Type} : List (Lit × DataW H) → Nat
  | [] => 0
  | x :: r => uptoBulkEntry x + uptoBulkEntries r
def uptoBulkEntry {H : Type} : Lit × DataW H → Nat
  | (.string bytes, d) => bytes.length + uptoBulk d + 1
  | (_, d) => uptoBulk d + 1
 end
def uptoSmall : (H : Type) → List (DataW H) → Bool := fun _ ds => decide (uptoBulkAll ds ≤ 1048576)
def OpenSpec.upto (s : _root_.Go.ChangeSpec) : _root_.Go.OpenSpec := { _root_.Go.OpenSpec.ofChange s with cond := some uptoSmall }

/-- 'bullalaw05.AccountGoods', WHERE WHAT IT READS IS OF BULK AT MOST 1048576: true; the input reads as it did. -/
def accountGoodsUptoRow : OpenClaim := { program := "ytklknlngfdfcjaagreat", sum := "f5c5b26e5c5c51b788a5da4ab664e8e5701dabd7ee3c643459855bf5ebe82fe8", func := "bulla/bullalaw05.AccountGoods", spec := "accountGoods", inPlace := ["slices.overlaps[[]bulla/api.Fix]"], unfollowed := true, recurses := true, plainKeys := false, apart := false, narrowed := true }
def AccountGoodsUptoSaid : Prop := accountGoodsUptoRow.holds Tryz.pinned (OpenSpec.upto accountGoodsSpec)

/-- 'bullalaw05.AccountReads', WHERE WHAT IT READS IS OF BULK AT MOST 1048576: true; the input reads as it did. -/
def accountReadsUptoRow : OpenClaim := { program := "ytklknlngfdfcjaagreat", sum := "f5c5b26e5c5c51b788a5da4ab664e8e5701dabd7ee3c643459855bf5ebe82fe8", func := "bulla/bullalaw05.AccountReads", spec := "accountReads", inPlace := ["slices.overlaps[[]bulla/api.Fix]"], unfollowed := true, recurses := true, plainKeys := false, apart := false, narrowed := true }
def AccountReadsUptoSaid : Prop := accountReadsUptoRow.holds Tryz.pinned (OpenSpec.upto accountReadsSpec)

/-- 'bullalaw05.AccountSums', WHERE WHAT IT READS IS OF BULK AT MOST 1048576: true; the input reads as it did. -/
def accountSumsUptoRow : OpenClaim := { program := "ytklknlngfdfcjaagreat", sum := "f5c5b26e5c5c51b788a5da4ab664e8e5701dabd7ee3c643459855bf5ebe82fe8", func := "bulla/bullalaw05.AccountSums", spec := "accountSums", inPlace := ["slices.overlaps[[]bulla/api.Fix]"], unfollowed := true, recurses := true, plainKeys := false, apart := false, narrowed := true }
def AccountSumsUptoSaid : Prop := accountSumsUptoRow.holds Tryz.pinned (OpenSpec.upto accountSumsSpec)

/-- 'bullalaw05.AccountLotsOrder', WHERE WHAT IT READS IS OF BULK AT MOST 1048576: true; the input reads as it did. -/
def accountLotsOrderUptoRow : OpenClaim := { program := "ytklknlngfdfcjaagreat", sum := "f5c5b26e5c5c51b788a5da4ab664e8e5701dabd7ee3c643459855bf5ebe82fe8", func := "bulla/bullalaw05.AccountLotsOrder", spec := "accountLotsOrder", inPlace := ["slices.overlaps[[]bulla/api.Fix]"], unfollowed := true, recurses := true, plainKeys := false, apart := false, narrowed := true }
def AccountLotsOrderUptoSaid : Prop := accountLotsOrderUptoRow.holds Tryz.pinned (OpenSpec.upto accountLotsOrderSpec)

/-- 'bullalaw05.AccountLotsAdd', WHERE WHAT IT READS IS OF BULK AT MOST 1048576: true; the input reads as it did. -/
def accountLotsAddUptoRow : OpenClaim := { program := "ytklknlngfdfcjaagreat", sum := "f5c5b26e5c5c51b788a5da4ab664e8e5701dabd7ee3c643459855bf5ebe82fe8", func := "bulla/bullalaw05.AccountLotsAdd", spec := "accountLotsAdd", inPlace := ["slices.overlaps[[]bulla/api.Fix]"], unfollowed := true, recurses := true, plainKeys := false, apart := false, narrowed := true }
def AccountLotsAddUptoSaid : Prop := accountLotsAddUptoRow.holds Tryz.pinned (OpenSpec.upto accountLotsAddSpec)

/-- 'bullalaw05.AccountLotsGroup', WHERE WHAT IT READS IS OF BULK AT MOST 1048576: true; the input reads as it did. -/
def accountLotsGroupUptoRow : OpenClaim := { program := "ytklknlngfdfcjaagreat", sum := "f5c5b26e5c5c51b788a5da4ab664e8e5701dabd7ee3c643459855bf5ebe82fe8", func := "bulla/bullalaw05.AccountLotsGroup", spec := "accountLotsGroup", inPlace := ["slices.overlaps[[]bulla/api.Fix]"], unfollowed := true, recurses := true, plainKeys := false, apart := false, narrowed := true }
def AccountLotsGroupUptoSaid : Prop := accountLotsGroupUptoRow.holds Tryz.pinned (OpenSpec.upto accountLotsGroupSpec)

/-- 'bullalaw05.AccountCosts', WHERE WHAT IT READS IS OF BULK AT MOST 1048576: true; the input reads as it did. -/
def accountCostsUptoRow : OpenClaim := { program := "ytklknlngfdfcjaagreat", sum := "f5c5b26e5c5c51b788a5da4ab664e8e5701dabd7ee3c643459855bf5ebe82fe8", func := "bulla/bullalaw05.AccountCosts", spec := "accountCosts", inPlace := ["slices.overlaps[[]bulla/api.Fix]"], unfollowed := true, recurses := true, plainKeys := false, apart := false, narrowed := true }
def AccountCostsUptoSaid : Prop := accountCostsUptoRow.holds Tryz.pinned (OpenSpec.upto accountCostsSpec)

/-- 'bullalaw05.AccountRepairFewest', WHERE WHAT IT READS IS OF BULK AT MOST 1048576: true; the input reads as it did. -/
def accountRepairFewestUptoRow : OpenClaim := { program := "ytklknlngfdfcjaagreat", sum := "f5c5b26e5c5c51b788a5da4ab664e8e5701dabd7ee3c643459855bf5ebe82fe8", func := "bulla/bullalaw05.AccountRepairFewest", spec := "accountRepairFewest", inPlace := ["slices.overlaps[[]bulla/api.Fix]"], unfollowed := true, recurses := true, plainKeys := false, apart := false, narrowed := true }
def AccountRepairFewestUptoSaid : Prop := accountRepairFewestUptoRow.holds Tryz.pinned (OpenSpec.upto accountRepairFewestSpec)

/-- 'bullalaw05.AccountSlipsAll', WHERE WHAT IT READS IS OF BULK AT MOST 1048576: true; the input reads as it did. -/
def accountSlipsAllUptoRow : OpenClaim := { program := "ytklknlngfdfcjaagreat", sum := "f5c5b26e5c5c51b788a5da4ab664e8e5701dabd7ee3c643459855bf5ebe82fe8", func := "bulla/bullalaw05.AccountSlipsAll", spec := "accountSlipsAll", inPlace := ["slices.overlaps[[]bulla/api.Fix]"], unfollowed := true, recurses := true, plainKeys := false, apart := false, narrowed := true }
def AccountSlipsAllUptoSaid : Prop := accountSlipsAllUptoRow.holds Tryz.pinned (OpenSpec.upto accountSlipsAllSpec)

/-- 'bullalaw05.AccountSlipsBack', WHERE WHAT IT READS IS OF BULK AT MOST 1048576: true; the input reads as it did. -/
def accountSlipsBackUptoRow : OpenClaim := { program := "ytklknlngfdfcjaagreat", sum := "f5c5b26e5c5c51b788a5da4ab664e8e5701dabd7ee3c643459855bf5ebe82fe8", func := "bulla/bullalaw05.AccountSlipsBack", spec := "accountSlipsBack", inPlace := ["slices.overlaps[[]bulla/api.Fix]"], unfollowed := true, recurses := true, plainKeys := false, apart := false, narrowed := true }
def AccountSlipsBackUptoSaid : Prop := accountSlipsBackUptoRow.holds Tryz.pinned (OpenSpec.upto accountSlipsBackSpec)

/-- 'bullalaw05.AccountSlipsFound', WHERE WHAT IT READS IS OF BULK AT MOST 1048576: true; the input reads as it did. -/
def accountSlipsFoundUptoRow : OpenClaim := { program := "ytklknlngfdfcjaagreat", sum := "f5c5b26e5c5c51b788a5da4ab664e8e5701dabd7ee3c643459855bf5ebe82fe8", func := "bulla/bullalaw05.AccountSlipsFound", spec := "accountSlipsFound", inPlace := ["slices.overlaps[[]bulla/api.Fix]"], unfollowed := true, recurses := true, plainKeys := false, apart := false, narrowed := true }
def AccountSlipsFoundUptoSaid : Prop := accountSlipsFoundUptoRow.holds Tryz.pinned (OpenSpec.upto accountSlipsFoundSpec)

/-- 'bullalaw05.AccountRepairs', WHERE WHAT IT READS IS OF BULK AT MOST 1048576: true; the input reads as it did. -/
def accountRepairsUptoRow : OpenClaim := { program := "ytklknlngfdfcjaagreat", sum := "f5c5b26e5c5c51b788a5da4ab664e8e5701dabd7ee3c643459855bf5ebe82fe8", func := "bulla/bullalaw05.AccountRepairs", spec := "accountRepairs", inPlace := ["slices.overlaps[[]bulla/api.Fix]"], unfollowed := true, recurses := true, plainKeys := false, apart := false, narrowed := true }
def AccountRepairsUptoSaid : Prop := accountRepairsUptoRow.holds Tryz.pinned (OpenSpec.upto accountRepairsSpec)

/-- 'bullalaw05.AccountLotsScale', WHERE WHAT IT READS IS OF BULK AT MOST 1048576: true; the input reads as it did. -/
def accountLotsScaleUptoRow : OpenClaim := { program := "ytklknlngfdfcjaagreat", sum := "f5c5b26e5c5c51b788a5da4ab664e8e5701dabd7ee3c643459855bf5ebe82fe8", func := "bulla/bullalaw05.AccountLotsScale", spec := "accountLotsScale", inPlace := ["slices.overlaps[[]bulla/api.Fix]"], unfollowed := true, recurses := true, plainKeys := false, apart := false, narrowed := true }
def AccountLotsScaleUptoSaid : Prop := accountLotsScaleUptoRow.holds Tryz.pinned (OpenSpec.upto accountLotsScaleSpec)

/-- 'bullalaw05.AccountLotsScaled', WHERE WHAT IT READS IS OF BULK AT MOST 1048576: true; the input reads as it did. -/
def accountLotsScaledUptoRow : OpenClaim := { program := "ytklknlngfdfcjaagreat", sum := "f5c5b26e5c5c51b788a5da4ab664e8e5701dabd7ee3c643459855bf5ebe82fe8", func := "bulla/bullalaw05.AccountLotsScaled", spec := "accountLotsScaled", inPlace := ["slices.overlaps[[]bulla/api.Fix]"], unfollowed := true, recurses := true, plainKeys := false, apart := false, narrowed := true }
def AccountLotsScaledUptoSaid : Prop := accountLotsScaledUptoRow.holds Tryz.pinned (OpenSpec.upto accountLotsScaledSpec)

/-- 'bullalaw05.AccountBuilds', WHERE WHAT IT READS IS OF BULK AT MOST 1048576: true; the input reads as it did. -/
def accountBuildsUptoRow : OpenClaim := { program := "ytklknlngfdfcjaagreat", sum := "f5c5b26e5c5c51b788a5da4ab664e8e5701dabd7ee3c643459855bf5ebe82fe8", func := "bulla/bullalaw05.AccountBuilds", spec := "accountBuilds", inPlace := ["slices.overlaps[[]bulla/api.Fix]"], unfollowed := true, recurses := true, plainKeys := false, apart := false, narrowed := true }
def AccountBuildsUptoSaid : Prop := accountBuildsUptoRow.holds Tryz.pinned (OpenSpec.upto accountBuildsSpec)

/-- 'bullalaw05.AccountEntriesKeep', WHERE WHAT IT READS IS OF BULK AT MOST 1048576: true; the input reads as it did. -/
def accountEntriesKeepUptoRow : OpenClaim := { program := "ytklknlngfdfcjaagreat", sum := "f5c5b26e5c5c51b788a5da4ab664e8e5701dabd7ee3c643459855bf5ebe82fe8", func := "bulla/bullalaw05.AccountEntriesKeep", spec := "accountEntriesKeep", inPlace := ["slices.overlaps[[]bulla/api.Fix]"], unfollowed := true, recurses := true, plainKeys := false, apart := false, narrowed := true }
def AccountEntriesKeepUptoSaid : Prop := accountEntriesKeepUptoRow.holds Tryz.pinned (OpenSpec.upto accountEntriesKeepSpec)

/-- 'bullalaw05.AccountCorrects', WHERE WHAT IT READS IS OF BULK AT MOST 1048576: true; the input reads as it did. -/
def accountCorrectsUptoRow : OpenClaim := { program := "ytklknlngfdfcjaagreat", sum := "f5c5b26e5c5c51b788a5da4ab664e8e5701dabd7ee3c643459855bf5ebe82fe8", func := "bulla/bullalaw05.AccountCorrects", spec := "accountCorrects", inPlace := ["slices.overlaps[[]bulla/api.Fix]"], unfollowed := true, recurses := true, plainKeys := false, apart := false, narrowed := true }
def AccountCorrectsUptoSaid : Prop := accountCorrectsUptoRow.holds Tryz.pinned (OpenSpec.upto accountCorrectsSpec)

/-- 'bullalaw05.AccountCorrectReads', WHERE WHAT IT READS IS OF BULK AT MOST 1048576: true; the input reads as it did. -/
def accountCorrectReadsUptoRow : OpenClaim := { program := "ytklknlngfdfcjaagreat", sum := "f5c5b26e5c5c51b788a5da4ab664e8e5701dabd7ee3c643459855bf5ebe82fe8", func := "bulla/bullalaw05.AccountCorrectReads", spec := "accountCorrectReads", inPlace := ["slices.overlaps[[]bulla/api.Fix]"], unfollowed := true, recurses := true, plainKeys := false, apart := false, narrowed := true }
def AccountCorrectReadsUptoSaid : Prop := accountCorrectReadsUptoRow.holds Tryz.pinned (OpenSpec.upto accountCorrectReadsSpec)

/-- 'bullalaw05.AccountKnown', WHERE WHAT IT READS IS OF BULK AT MOST 1048576: true; the input reads as it did. -/
def accountKnownUptoRow : OpenClaim := { program := "ytklknlngfdfcjaagreat", sum := "f5c5b26e5c5c51b788a5da4ab664e8e5701dabd7ee3c643459855bf5ebe82fe8", func := "bulla/bullalaw05.AccountKnown", spec := "accountKnown", inPlace := ["slices.overlaps[[]bulla/api.Fix]"], unfollowed := true, recurses := true, plainKeys := false, apart := false, narrowed := true }
def AccountKnownUptoSaid : Prop := accountKnownUptoRow.holds Tryz.pinned (OpenSpec.upto accountKnownSpec)

end Rows
end Go.Proofs.YtklknlngfdfcjaaGreat
