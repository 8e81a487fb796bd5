/-
  No cell of these rows narrows 'for every input' (looked for: loops, veiled, ifaces, maps, wideKeys, modest, calm, conditions, laid).
  DERIVED. THE GIVEN ROWS OF THIS SEAT. 6 by the template 'for every input the law returns true; each argument reads behind the call as it read before'; 0 by the template 'total and deterministic' (their statements: YtgdhfdkdbfeagaaTotals.lean).
  GIVEN WITH THE SEED: the statements are not yours to turn. If you find one false, say at which input.
  Laid BY PROGRAM, IN A SANDBOX (cutbox-rows.mjs): the forced cells as the released guide's own fill.sh prints them over the translation aff7e53b9f023266… (all of the seat's roots in one cut). By AI agents, Wed Nov 11 2026. No macro, syntax, notation, axiom, sorry.
-/
import Derived.Test.YtgdhfdkdbfeagaaChecked
import GoSem.Claim
import GoSem.ClaimJoined
import GoSem.ClaimMapViews
import Derived.JoinedTies
import Derived.KernelRfl
namespace Go.Proofs.Ytgdhfdkdbfeagaa
/- THE CELL 'sum', in the pinned program and in every row, IS THE sha256 OF THE DUMP (.gsa) THAT YtgdhfdkdbfeagaaProg.lean LOADS. Nothing in Lean hashes anything: it is a label: what it is worth is what the hold of that sum in a sandbox is worth. -/
noncomputable def Try.pinned : Pinned := { name := "ytgdhfdkdbfeagaa", sum := "aff7e53b9f0232664e2eafec75f7e30e46ac2c1647c4ef87b516d361524d9ff9", checked := Try.checked }
namespace Rows
def none {H : Type} : Left H := { results := [], args := [] }

/-- 'laws.FnExactPlanMembers': WHATEVER THE INPUT: true; the input reads as it did. -/
def fnExactPlanMembersSpec : ChangeSpec := { name := "fnExactPlanMembers", fn := fun _ => fun
  | [d1, d2, d3, d4] => { results := [.lit (.bool true)], args := [d1, d2, d3, d4] }
  | _ => none }
def fnExactPlanMembersRow : OpenClaim := { program := "ytgdhfdkdbfeagaa", sum := "aff7e53b9f0232664e2eafec75f7e30e46ac2c1647c4ef87b516d361524d9ff9", func := "loop.example/g01926/laws.FnExactPlanMembers", spec := "fnExactPlanMembers", unfollowed := true, recurses := true, apart := false }
def FnExactPlanMembersSaid : Prop := fnExactPlanMembersRow.holds Try.pinned (OpenSpec.ofChange fnExactPlanMembersSpec)

/-- ITS FALSE NEIGHBOUR: 'it returns false'. Refute it at one input. -/
def fnExactPlanMembersWrong : ChangeSpec := { name := "fnExactPlanMembers", fn := fun _ => fun
  | [d1, d2, d3, d4] => { results := [.lit (.bool false)], args := [d1, d2, d3, d4] }
  | _ => none }
def FnExactPlanMembersWrongFalsely : Prop := fnExactPlanMembersRow.holds Try.pinned (OpenSpec.ofChange fnExactPlanMembersWrong)

/-- 'laws.FnPlacement': WHATEVER THE INPUT: true; the input reads as it did. -/
def fnPlacementSpec : ChangeSpec := { name := "fnPlacement", fn := fun _ => fun
  | [d] => { results := [.lit (.bool true)], args := [d] }
  | _ => none }
def fnPlacementRow : OpenClaim := { program := "ytgdhfdkdbfeagaa", sum := "aff7e53b9f0232664e2eafec75f7e30e46ac2c1647c4ef87b516d361524d9ff9", func := "loop.example/g01926/laws.FnPlacement", spec := "fnPlacement", unfollowed := true, recurses := true, apart := false }
def FnPlacementSaid : Prop := fnPlacementRow.holds Try.pinned (OpenSpec.ofChange fnPlacementSpec)

/-- ITS FALSE NEIGHBOUR: 'it returns false'. Refute it at one input. -/
def fnPlacementWrong : ChangeSpec := { name := "fnPlacement", fn := fun _ => fun
  | [d] => { results := [.lit (.bool false)], args := [d] }
  | _ => none }
def FnPlacementWrongFalsely : Prop := fnPlacementRow.holds Try.pinned (OpenSpec.ofChange fnPlacementWrong)

/-- 'laws.FnExactChosenValue': WHATEVER THE INPUT: true; the input reads as it did. -/
def fnExactChosenValueSpec : ChangeSpec := { name := "fnExactChosenValue", fn := fun _ => fun
  | [d] => { results := [.lit (.bool true)], args := [d] }
  | _ => none }
def fnExactChosenValueRow : OpenClaim := { program := "ytgdhfdkdbfeagaa", sum := "aff7e53b9f0232664e2eafec75f7e30e46ac2c1647c4ef87b516d361524d9ff9", func := "loop.example/g01926/laws.FnExactChosenValue", spec := "fnExactChosenValue", unfollowed := true, recurses := true, apart := false }
def FnExactChosenValueSaid : Prop := fnExactChosenValueRow.holds Try.pinned (OpenSpec.ofChange fnExactChosenValueSpec)

/-- ITS FALSE NEIGHBOUR: 'it returns false'. Refute it at one input. -/
def fnExactChosenValueWrong : ChangeSpec := { name := "fnExactChosenValue", fn := fun _ => fun
  | [d] => { results := [.lit (.bool false)], args := [d] }
  | _ => none }
def FnExactChosenValueWrongFalsely : Prop := fnExactChosenValueRow.holds Try.pinned (OpenSpec.ofChange fnExactChosenValueWrong)

/-- 'laws.FnExactIsValidServer': WHATEVER THE INPUT: true; the input reads as it did. -/
def fnExactIsValidServerSpec : ChangeSpec := { name := "fnExactIsValidServer", fn := fun _ => fun
  | [d1, d2] => { results := [.lit (.bool true)], args := [d1, d2] }
  | _ => none }
def fnExactIsValidServerRow : OpenClaim := { program := "ytgdhfdkdbfeagaa", sum := "aff7e53b9f0232664e2eafec75f7e30e46ac2c1647c4ef87b516d361524d9ff9", func := "loop.example/g01926/laws.FnExactIsValidServer", spec := "fnExactIsValidServer", unfollowed := true, recurses := true, apart := false }
def FnExactIsValidServerSaid : Prop := fnExactIsValidServerRow.holds Try.pinned (OpenSpec.ofChange fnExactIsValidServerSpec)

/-- ITS FALSE NEIGHBOUR: 'it returns false'. Refute it at one input. -/
def fnExactIsValidServerWrong : ChangeSpec := { name := "fnExactIsValidServer", fn := fun _ => fun
  | [d1, d2] => { results := [.lit (.bool false)], args := [d1, d2] }
  | _ => none }
def FnExactIsValidServerWrongFalsely : Prop := fnExactIsValidServerRow.holds Try.pinned (OpenSpec.ofChange fnExactIsValidServerWrong)

/-- 'laws.FnExactIsPrimaryNow': WHATEVER THE INPUT: true; the input reads as it did. -/
def fnExactIsPrimaryNowSpec : ChangeSpec := { name := "fnExactIsPrimaryNow", fn := fun _ => fun
  | [d1, d2] => { results := [.lit (.bool true)], args := [d1, d2] }
  | _ => none }
def fnExactIsPrimaryNowRow : OpenClaim := { program := "ytgdhfdkdbfeagaa", sum := "aff7e53b9f0232664e2eafec75f7e30e46ac2c1647c4ef87b516d361524d9ff9", func := "loop.example/g01926/laws.FnExactIsPrimaryNow", spec := "fnExactIsPrimaryNow", unfollowed := true, recurses := true, apart := false }
def FnExactIsPrimaryNowSaid : Prop := fnExactIsPrimaryNowRow.holds Try.pinned (OpenSpec.ofChange fnExactIsPrimaryNowSpec)

/-- ITS FALSE NEIGHBOUR: 'it returns false'. Refute it at one input. -/
def fnExactIsPrimaryNowWrong : ChangeSpec := { name := "fnExactIsPrimaryNow", fn := fun _ => fun
  | [d1, d2] => { results := [.lit (.bool false)], args := [d1, d2] }
  | _ => none }
def FnExactIsPrimaryNowWrongFalsely : Prop := fnExactIsPrimaryNowRow.holds Try.pinned (OpenSpec.ofChange fnExactIsPrimaryNowWrong)

/-- 'laws.FnExactRunProposal': WHATEVER THE INPUT: true; the input reads as it did. -/
def fnExactRunProposalSpec : ChangeSpec := { name := "fnExactRunProposal", fn := fun _ => fun
  | [d1, d2] => { results := [.lit (.bool true)], args := [d1, d2] }
  | _ => none }
def fnExactRunProposalRow : OpenClaim := { program := "ytgdhfdkdbfeagaa", sum := "aff7e53b9f0232664e2eafec75f7e30e46ac2c1647c4ef87b516d361524d9ff9", func := "loop.example/g01926/laws.FnExactRunProposal", spec := "fnExactRunProposal", unfollowed := true, recurses := true, apart := false }
def FnExactRunProposalSaid : Prop := fnExactRunProposalRow.holds Try.pinned (OpenSpec.ofChange fnExactRunProposalSpec)

/-- ITS FALSE NEIGHBOUR: 'it returns false'. Refute it at one input. -/
def fnExactRunProposalWrong : ChangeSpec := { name := "fnExactRunProposal", fn := fun _ => fun
  | [d1, d2] => { results := [.lit (.bool false)], args := [d1, d2] }
  | _ => none }
def FnExactRunProposalWrongFalsely : Prop := fnExactRunProposalRow.holds Try.pinned (OpenSpec.ofChange fnExactRunProposalWrong)

/- THE SECOND FORM. 'bulk': how many values and letters a reading holds, each counted each time it is reached (what is shared counts as often as it is met; a slice's spare places count too). A statement '..UptoSaid' is the law's where the arguments, and the package variables that the reading takes, are together of bulk at most 1048576: NARROWER than '..Said'. Prove '..Said' where nothing that the law and all that it calls make is longer than what came in: it says more and counts as full. Else prove '..UptoSaid'. A law counts once. -/
mutual
def uptoBulk {H : Type} : DataW H → Nat
  | .lit (.string bytes) => bytes.length + 1
  | .lit _ => 1
  | .nil => 1
  | .ptr d => uptoBulk d + 1
  | .slice elems spare => uptoBulkAll elems + uptoBulkAll spare + 1
  | .agg parts => uptoBulkAll parts + 1
  | .iface _ d => uptoBulk d + 1
  | .map entries => uptoBulkEntries entries + 1
  | .held _ => 1
def uptoBulkAll {H : Type} : List (DataW H) → Nat
  | [] => 0
  | d :: r => uptoBulk d + uptoBulkAll r
def uptoBulkEntries {H : Type} : List (Lit × DataW H) → Nat
  | [] => 0
  | x :: r => uptoBulkEntry x + uptoBulkEntries r
def uptoBulkEntry {H : Type} : Lit × DataW H → Nat
  | (.string bytes, d) => bytes.length + uptoBulk d + 1
  | (_, d) => uptoBulk d + 1
 end
def uptoSmall : (H : Type) → List (DataW H) → Bool := fun _ ds => decide (uptoBulkAll ds ≤ 1048576)
def OpenSpec.upto (s : _root_.Go.ChangeSpec) : _root_.Go.OpenSpec := { _root_.Go.OpenSpec.ofChange s with cond := some uptoSmall }

/-- 'laws.FnExactPlanMembers', WHERE WHAT IT READS IS OF BULK AT MOST 1048576: true; the input reads as it did. -/
def fnExactPlanMembersUptoRow : OpenClaim := { program := "ytgdhfdkdbfeagaa", sum := "aff7e53b9f0232664e2eafec75f7e30e46ac2c1647c4ef87b516d361524d9ff9", func := "loop.example/g01926/laws.FnExactPlanMembers", spec := "fnExactPlanMembers", unfollowed := true, recurses := true, apart := false, narrowed := true }
def FnExactPlanMembersUptoSaid : Prop := fnExactPlanMembersUptoRow.holds Try.pinned (OpenSpec.upto fnExactPlanMembersSpec)

/-- 'laws.FnPlacement', WHERE WHAT IT READS IS OF BULK AT MOST 1048576: true; the input reads as it did. -/
def fnPlacementUptoRow : OpenClaim := { program := "ytgdhfdkdbfeagaa", sum := "aff7e53b9f0232664e2eafec75f7e30e46ac2c1647c4ef87b516d361524d9ff9", func := "loop.example/g01926/laws.FnPlacement", spec := "fnPlacement", unfollowed := true, recurses := true, apart := false, narrowed := true }
def FnPlacementUptoSaid : Prop := fnPlacementUptoRow.holds Try.pinned (OpenSpec.upto fnPlacementSpec)

/-- 'laws.FnExactChosenValue', WHERE WHAT IT READS IS OF BULK AT MOST 1048576: true; the input reads as it did. -/
def fnExactChosenValueUptoRow : OpenClaim := { program := "ytgdhfdkdbfeagaa", sum := "aff7e53b9f0232664e2eafec75f7e30e46ac2c1647c4ef87b516d361524d9ff9", func := "loop.example/g01926/laws.FnExactChosenValue", spec := "fnExactChosenValue", unfollowed := true, recurses := true, apart := false, narrowed := true }
def FnExactChosenValueUptoSaid : Prop := fnExactChosenValueUptoRow.holds Try.pinned (OpenSpec.upto fnExactChosenValueSpec)

/-- 'laws.FnExactIsValidServer', WHERE WHAT IT READS IS OF BULK AT MOST 1048576: true; the input reads as it did. -/
def fnExactIsValidServerUptoRow : OpenClaim := { program := "ytgdhfdkdbfeagaa", sum := "aff7e53b9f0232664e2eafec75f7e30e46ac2c1647c4ef87b516d361524d9ff9", func := "loop.example/g01926/laws.FnExactIsValidServer", spec := "fnExactIsValidServer", unfollowed := true, recurses := true, apart := false, narrowed := true }
def FnExactIsValidServerUptoSaid : Prop := fnExactIsValidServerUptoRow.holds Try.pinned (OpenSpec.upto fnExactIsValidServerSpec)

/-- 'laws.FnExactIsPrimaryNow', WHERE WHAT IT READS IS OF BULK AT MOST 1048576: true; the input reads as it did. -/
def fnExactIsPrimaryNowUptoRow : OpenClaim := { program := "ytgdhfdkdbfeagaa", sum := "aff7e53b9f0232664e2eafec75f7e30e46ac2c1647c4ef87b516d361524d9ff9", func := "loop.example/g01926/laws.FnExactIsPrimaryNow", spec := "fnExactIsPrimaryNow", unfollowed := true, recurses := true, apart := false, narrowed := true }
def FnExactIsPrimaryNowUptoSaid : Prop := fnExactIsPrimaryNowUptoRow.holds Try.pinned (OpenSpec.upto fnExactIsPrimaryNowSpec)

/-- 'laws.FnExactRunProposal', WHERE WHAT IT READS IS OF BULK AT MOST 1048576: true; the input reads as it did. -/
def fnExactRunProposalUptoRow : OpenClaim := { program := "ytgdhfdkdbfeagaa", sum := "aff7e53b9f0232664e2eafec75f7e30e46ac2c1647c4ef87b516d361524d9ff9", func := "loop.example/g01926/laws.FnExactRunProposal", spec := "fnExactRunProposal", unfollowed := true, recurses := true, apart := false, narrowed := true }
def FnExactRunProposalUptoSaid : Prop := fnExactRunProposalUptoRow.holds Try.pinned (OpenSpec.upto fnExactRunProposalSpec)

end Rows
end Go.Proofs.Ytgdhfdkdbfeagaa
