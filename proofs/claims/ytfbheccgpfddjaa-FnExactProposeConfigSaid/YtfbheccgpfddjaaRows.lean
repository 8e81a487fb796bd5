/-
  No cell of these rows narrows 'for every input' (looked for: loops, veiled, ifaces, maps, wideKeys, modest, calm, conditions, laid).
  DERIVED. THE GIVEN ROWS OF THIS SEAT. 12 by the template 'for every input the law returns true; each argument reads behind the call as it read before'; 0 by the template 'total and deterministic' (their statements: YtfbheccgpfddjaaTotals.lean).
  GIVEN WITH THE SEED: the statements are not yours to turn. If you find one false, say at which input.
  Laid BY PROGRAM, IN A SANDBOX (cutbox-rows.mjs): the forced cells as the released guide's own fill.sh prints them over the translation b633c9626280522e… (all of the seat's roots in one cut). By AI agents, Wed Nov 11 2026. No macro, syntax, notation, axiom, sorry.
-/
import Derived.Test.YtfbheccgpfddjaaChecked
import GoSem.Claim
import GoSem.ClaimJoined
import GoSem.ClaimMapViews
import Derived.JoinedTies
import Derived.KernelRfl
namespace Go.Proofs.Ytfbheccgpfddjaa
/- THE CELL 'sum', in the pinned program and in every row, IS THE sha256 OF THE DUMP (.gsa) THAT YtfbheccgpfddjaaProg.lean LOADS. Nothing in Lean hashes anything: it is a label: what it is worth is what the hold of that sum in a sandbox is worth. -/
noncomputable def Try.pinned : Pinned := { name := "ytfbheccgpfddjaa", sum := "b633c9626280522e886d1cf8eddc071c059cb5910105582705a54d1967179e7d", checked := Try.checked }
namespace Rows
def none {H : Type} : Left H := { results := [], args := [] }

/-- 'laws.FnExactMembersOf': WHATEVER THE INPUT: true; the input reads as it did. -/
def fnExactMembersOfSpec : ChangeSpec := { name := "fnExactMembersOf", fn := fun _ => fun
  | [d] => { results := [.lit (.bool true)], args := [d] }
  | _ => none }
def fnExactMembersOfRow : OpenClaim := { program := "ytfbheccgpfddjaa", sum := "b633c9626280522e886d1cf8eddc071c059cb5910105582705a54d1967179e7d", func := "loop.example/g01926/laws.FnExactMembersOf", spec := "fnExactMembersOf", unfollowed := true, recurses := true, apart := false }
def FnExactMembersOfSaid : Prop := fnExactMembersOfRow.holds Try.pinned (OpenSpec.ofChange fnExactMembersOfSpec)

/-- ITS FALSE NEIGHBOUR: 'it returns false'. Refute it at one input. -/
def fnExactMembersOfWrong : ChangeSpec := { name := "fnExactMembersOf", fn := fun _ => fun
  | [d] => { results := [.lit (.bool false)], args := [d] }
  | _ => none }
def FnExactMembersOfWrongFalsely : Prop := fnExactMembersOfRow.holds Try.pinned (OpenSpec.ofChange fnExactMembersOfWrong)

/-- 'laws.FnExactAreAcceptors': WHATEVER THE INPUT: true; the input reads as it did. -/
def fnExactAreAcceptorsSpec : ChangeSpec := { name := "fnExactAreAcceptors", fn := fun _ => fun
  | [d] => { results := [.lit (.bool true)], args := [d] }
  | _ => none }
def fnExactAreAcceptorsRow : OpenClaim := { program := "ytfbheccgpfddjaa", sum := "b633c9626280522e886d1cf8eddc071c059cb5910105582705a54d1967179e7d", func := "loop.example/g01926/laws.FnExactAreAcceptors", spec := "fnExactAreAcceptors", unfollowed := true, recurses := true, apart := false }
def FnExactAreAcceptorsSaid : Prop := fnExactAreAcceptorsRow.holds Try.pinned (OpenSpec.ofChange fnExactAreAcceptorsSpec)

/-- ITS FALSE NEIGHBOUR: 'it returns false'. Refute it at one input. -/
def fnExactAreAcceptorsWrong : ChangeSpec := { name := "fnExactAreAcceptors", fn := fun _ => fun
  | [d] => { results := [.lit (.bool false)], args := [d] }
  | _ => none }
def FnExactAreAcceptorsWrongFalsely : Prop := fnExactAreAcceptorsRow.holds Try.pinned (OpenSpec.ofChange fnExactAreAcceptorsWrong)

/-- 'laws.FnExactAccept': WHATEVER THE INPUT: true; the input reads as it did. -/
def fnExactAcceptSpec : ChangeSpec := { name := "fnExactAccept", fn := fun _ => fun
  | [d1, d2, d3] => { results := [.lit (.bool true)], args := [d1, d2, d3] }
  | _ => none }
def fnExactAcceptRow : OpenClaim := { program := "ytfbheccgpfddjaa", sum := "b633c9626280522e886d1cf8eddc071c059cb5910105582705a54d1967179e7d", func := "loop.example/g01926/laws.FnExactAccept", spec := "fnExactAccept", unfollowed := true, recurses := true, apart := false }
def FnExactAcceptSaid : Prop := fnExactAcceptRow.holds Try.pinned (OpenSpec.ofChange fnExactAcceptSpec)

/-- ITS FALSE NEIGHBOUR: 'it returns false'. Refute it at one input. -/
def fnExactAcceptWrong : ChangeSpec := { name := "fnExactAccept", fn := fun _ => fun
  | [d1, d2, d3] => { results := [.lit (.bool false)], args := [d1, d2, d3] }
  | _ => none }
def FnExactAcceptWrongFalsely : Prop := fnExactAcceptRow.holds Try.pinned (OpenSpec.ofChange fnExactAcceptWrong)

/-- 'laws.FnExactConfigAt': WHATEVER THE INPUT: true; the input reads as it did. -/
def fnExactConfigAtSpec : ChangeSpec := { name := "fnExactConfigAt", fn := fun _ => fun
  | [d1, d2] => { results := [.lit (.bool true)], args := [d1, d2] }
  | _ => none }
def fnExactConfigAtRow : OpenClaim := { program := "ytfbheccgpfddjaa", sum := "b633c9626280522e886d1cf8eddc071c059cb5910105582705a54d1967179e7d", func := "loop.example/g01926/laws.FnExactConfigAt", spec := "fnExactConfigAt", unfollowed := true, recurses := true, apart := false }
def FnExactConfigAtSaid : Prop := fnExactConfigAtRow.holds Try.pinned (OpenSpec.ofChange fnExactConfigAtSpec)

/-- ITS FALSE NEIGHBOUR: 'it returns false'. Refute it at one input. -/
def fnExactConfigAtWrong : ChangeSpec := { name := "fnExactConfigAt", fn := fun _ => fun
  | [d1, d2] => { results := [.lit (.bool false)], args := [d1, d2] }
  | _ => none }
def FnExactConfigAtWrongFalsely : Prop := fnExactConfigAtRow.holds Try.pinned (OpenSpec.ofChange fnExactConfigAtWrong)

/-- 'laws.FnExactPrepare': WHATEVER THE INPUT: true; the input reads as it did. -/
def fnExactPrepareSpec : ChangeSpec := { name := "fnExactPrepare", fn := fun _ => fun
  | [d1, d2] => { results := [.lit (.bool true)], args := [d1, d2] }
  | _ => none }
def fnExactPrepareRow : OpenClaim := { program := "ytfbheccgpfddjaa", sum := "b633c9626280522e886d1cf8eddc071c059cb5910105582705a54d1967179e7d", func := "loop.example/g01926/laws.FnExactPrepare", spec := "fnExactPrepare", unfollowed := true, recurses := true, apart := false }
def FnExactPrepareSaid : Prop := fnExactPrepareRow.holds Try.pinned (OpenSpec.ofChange fnExactPrepareSpec)

/-- ITS FALSE NEIGHBOUR: 'it returns false'. Refute it at one input. -/
def fnExactPrepareWrong : ChangeSpec := { name := "fnExactPrepare", fn := fun _ => fun
  | [d1, d2] => { results := [.lit (.bool false)], args := [d1, d2] }
  | _ => none }
def FnExactPrepareWrongFalsely : Prop := fnExactPrepareRow.holds Try.pinned (OpenSpec.ofChange fnExactPrepareWrong)

/-- 'laws.FnAcceptors': WHATEVER THE INPUT: true; the input reads as it did. -/
def fnAcceptorsSpec : ChangeSpec := { name := "fnAcceptors", fn := fun _ => fun
  | [d] => { results := [.lit (.bool true)], args := [d] }
  | _ => none }
def fnAcceptorsRow : OpenClaim := { program := "ytfbheccgpfddjaa", sum := "b633c9626280522e886d1cf8eddc071c059cb5910105582705a54d1967179e7d", func := "loop.example/g01926/laws.FnAcceptors", spec := "fnAcceptors", unfollowed := true, recurses := true, apart := false }
def FnAcceptorsSaid : Prop := fnAcceptorsRow.holds Try.pinned (OpenSpec.ofChange fnAcceptorsSpec)

/-- ITS FALSE NEIGHBOUR: 'it returns false'. Refute it at one input. -/
def fnAcceptorsWrong : ChangeSpec := { name := "fnAcceptors", fn := fun _ => fun
  | [d] => { results := [.lit (.bool false)], args := [d] }
  | _ => none }
def FnAcceptorsWrongFalsely : Prop := fnAcceptorsRow.holds Try.pinned (OpenSpec.ofChange fnAcceptorsWrong)

/-- 'laws.FnConfigs': WHATEVER THE INPUT: true; the input reads as it did. -/
def fnConfigsSpec : ChangeSpec := { name := "fnConfigs", fn := fun _ => fun
  | [d] => { results := [.lit (.bool true)], args := [d] }
  | _ => none }
def fnConfigsRow : OpenClaim := { program := "ytfbheccgpfddjaa", sum := "b633c9626280522e886d1cf8eddc071c059cb5910105582705a54d1967179e7d", func := "loop.example/g01926/laws.FnConfigs", spec := "fnConfigs", unfollowed := true, recurses := true, apart := false }
def FnConfigsSaid : Prop := fnConfigsRow.holds Try.pinned (OpenSpec.ofChange fnConfigsSpec)

/-- ITS FALSE NEIGHBOUR: 'it returns false'. Refute it at one input. -/
def fnConfigsWrong : ChangeSpec := { name := "fnConfigs", fn := fun _ => fun
  | [d] => { results := [.lit (.bool false)], args := [d] }
  | _ => none }
def FnConfigsWrongFalsely : Prop := fnConfigsRow.holds Try.pinned (OpenSpec.ofChange fnConfigsWrong)

/-- 'laws.FnExactLastActivated': WHATEVER THE INPUT: true; the input reads as it did. -/
def fnExactLastActivatedSpec : ChangeSpec := { name := "fnExactLastActivated", fn := fun _ => fun
  | [d] => { results := [.lit (.bool true)], args := [d] }
  | _ => none }
def fnExactLastActivatedRow : OpenClaim := { program := "ytfbheccgpfddjaa", sum := "b633c9626280522e886d1cf8eddc071c059cb5910105582705a54d1967179e7d", func := "loop.example/g01926/laws.FnExactLastActivated", spec := "fnExactLastActivated", unfollowed := true, recurses := true, apart := false }
def FnExactLastActivatedSaid : Prop := fnExactLastActivatedRow.holds Try.pinned (OpenSpec.ofChange fnExactLastActivatedSpec)

/-- ITS FALSE NEIGHBOUR: 'it returns false'. Refute it at one input. -/
def fnExactLastActivatedWrong : ChangeSpec := { name := "fnExactLastActivated", fn := fun _ => fun
  | [d] => { results := [.lit (.bool false)], args := [d] }
  | _ => none }
def FnExactLastActivatedWrongFalsely : Prop := fnExactLastActivatedRow.holds Try.pinned (OpenSpec.ofChange fnExactLastActivatedWrong)

/-- 'laws.FnExactLastChosen': WHATEVER THE INPUT: true; the input reads as it did. -/
def fnExactLastChosenSpec : ChangeSpec := { name := "fnExactLastChosen", fn := fun _ => fun
  | [d] => { results := [.lit (.bool true)], args := [d] }
  | _ => none }
def fnExactLastChosenRow : OpenClaim := { program := "ytfbheccgpfddjaa", sum := "b633c9626280522e886d1cf8eddc071c059cb5910105582705a54d1967179e7d", func := "loop.example/g01926/laws.FnExactLastChosen", spec := "fnExactLastChosen", unfollowed := true, recurses := true, apart := false }
def FnExactLastChosenSaid : Prop := fnExactLastChosenRow.holds Try.pinned (OpenSpec.ofChange fnExactLastChosenSpec)

/-- ITS FALSE NEIGHBOUR: 'it returns false'. Refute it at one input. -/
def fnExactLastChosenWrong : ChangeSpec := { name := "fnExactLastChosen", fn := fun _ => fun
  | [d] => { results := [.lit (.bool false)], args := [d] }
  | _ => none }
def FnExactLastChosenWrongFalsely : Prop := fnExactLastChosenRow.holds Try.pinned (OpenSpec.ofChange fnExactLastChosenWrong)

/-- 'laws.FnExactActivateConfig': WHATEVER THE INPUT: true; the input reads as it did. -/
def fnExactActivateConfigSpec : ChangeSpec := { name := "fnExactActivateConfig", fn := fun _ => fun
  | [d1, d2] => { results := [.lit (.bool true)], args := [d1, d2] }
  | _ => none }
def fnExactActivateConfigRow : OpenClaim := { program := "ytfbheccgpfddjaa", sum := "b633c9626280522e886d1cf8eddc071c059cb5910105582705a54d1967179e7d", func := "loop.example/g01926/laws.FnExactActivateConfig", spec := "fnExactActivateConfig", unfollowed := true, recurses := true, apart := false }
def FnExactActivateConfigSaid : Prop := fnExactActivateConfigRow.holds Try.pinned (OpenSpec.ofChange fnExactActivateConfigSpec)

/-- ITS FALSE NEIGHBOUR: 'it returns false'. Refute it at one input. -/
def fnExactActivateConfigWrong : ChangeSpec := { name := "fnExactActivateConfig", fn := fun _ => fun
  | [d1, d2] => { results := [.lit (.bool false)], args := [d1, d2] }
  | _ => none }
def FnExactActivateConfigWrongFalsely : Prop := fnExactActivateConfigRow.holds Try.pinned (OpenSpec.ofChange fnExactActivateConfigWrong)

/-- 'laws.FnExactProposeConfig': WHATEVER THE INPUT: true; the input reads as it did. -/
def fnExactProposeConfigSpec : ChangeSpec := { name := "fnExactProposeConfig", fn := fun _ => fun
  | [d1, d2] => { results := [.lit (.bool true)], args := [d1, d2] }
  | _ => none }
def fnExactProposeConfigRow : OpenClaim := { program := "ytfbheccgpfddjaa", sum := "b633c9626280522e886d1cf8eddc071c059cb5910105582705a54d1967179e7d", func := "loop.example/g01926/laws.FnExactProposeConfig", spec := "fnExactProposeConfig", unfollowed := true, recurses := true, apart := false }
def FnExactProposeConfigSaid : Prop := fnExactProposeConfigRow.holds Try.pinned (OpenSpec.ofChange fnExactProposeConfigSpec)

/-- ITS FALSE NEIGHBOUR: 'it returns false'. Refute it at one input. -/
def fnExactProposeConfigWrong : ChangeSpec := { name := "fnExactProposeConfig", fn := fun _ => fun
  | [d1, d2] => { results := [.lit (.bool false)], args := [d1, d2] }
  | _ => none }
def FnExactProposeConfigWrongFalsely : Prop := fnExactProposeConfigRow.holds Try.pinned (OpenSpec.ofChange fnExactProposeConfigWrong)

/-- 'laws.FnMasters': WHATEVER THE INPUT: true; the input reads as it did. -/
def fnMastersSpec : ChangeSpec := { name := "fnMasters", fn := fun _ => fun
  | [d] => { results := [.lit (.bool true)], args := [d] }
  | _ => none }
def fnMastersRow : OpenClaim := { program := "ytfbheccgpfddjaa", sum := "b633c9626280522e886d1cf8eddc071c059cb5910105582705a54d1967179e7d", func := "loop.example/g01926/laws.FnMasters", spec := "fnMasters", unfollowed := true, recurses := true, apart := false }
def FnMastersSaid : Prop := fnMastersRow.holds Try.pinned (OpenSpec.ofChange fnMastersSpec)

/-- ITS FALSE NEIGHBOUR: 'it returns false'. Refute it at one input. -/
def fnMastersWrong : ChangeSpec := { name := "fnMasters", fn := fun _ => fun
  | [d] => { results := [.lit (.bool false)], args := [d] }
  | _ => none }
def FnMastersWrongFalsely : Prop := fnMastersRow.holds Try.pinned (OpenSpec.ofChange fnMastersWrong)

/- THE SECOND FORM. 'bulk': how many values and letters a reading holds, each counted each time it is reached (what is shared counts as often as it is met; a slice's spare places count too). A statement '..UptoSaid' is the law's where the arguments, and the package variables that the reading takes, are together of bulk at most 1048576: NARROWER than '..Said'. Prove '..Said' where nothing that the law and all that it calls make is longer than what came in: it says more and counts as full. Else prove '..UptoSaid'. A law counts once. -/
mutual
def uptoBulk {H : Type} : DataW H → Nat
  | .lit (.string bytes) => bytes.length + 1
  | .lit _ => 1
  | .nil => 1
  | .ptr d => uptoBulk d + 1
  | .slice elems spare => uptoBulkAll elems + uptoBulkAll spare + 1
  | .agg parts => uptoBulkAll parts + 1
  | .iface _ d => uptoBulk d + 1
  | .map entries => uptoBulkEntries entries + 1
  | .held _ => 1
def uptoBulkAll {H : Type} : List (DataW H) → Nat
  | [] => 0
  | d :: r => uptoBulk d + uptoBulkAll r
def uptoBulkEntries {H : Type} : List (Lit × DataW H) → Nat
  | [] => 0
  | x :: r => uptoBulkEntry x + uptoBulkEntries r
def uptoBulkEntry {H : Type} : Lit × DataW H → Nat
  | (.string bytes, d) => bytes.length + uptoBulk d + 1
  | (_, d) => uptoBulk d + 1
 end
def uptoSmall : (H : Type) → List (DataW H) → Bool := fun _ ds => decide (uptoBulkAll ds ≤ 1048576)
def OpenSpec.upto (s : _root_.Go.ChangeSpec) : _root_.Go.OpenSpec := { _root_.Go.OpenSpec.ofChange s with cond := some uptoSmall }

/-- 'laws.FnExactMembersOf', WHERE WHAT IT READS IS OF BULK AT MOST 1048576: true; the input reads as it did. -/
def fnExactMembersOfUptoRow : OpenClaim := { program := "ytfbheccgpfddjaa", sum := "b633c9626280522e886d1cf8eddc071c059cb5910105582705a54d1967179e7d", func := "loop.example/g01926/laws.FnExactMembersOf", spec := "fnExactMembersOf", unfollowed := true, recurses := true, apart := false, narrowed := true }
def FnExactMembersOfUptoSaid : Prop := fnExactMembersOfUptoRow.holds Try.pinned (OpenSpec.upto fnExactMembersOfSpec)

/-- 'laws.FnExactAreAcceptors', WHERE WHAT IT READS IS OF BULK AT MOST 1048576: true; the input reads as it did. -/
def fnExactAreAcceptorsUptoRow : OpenClaim := { program := "ytfbheccgpfddjaa", sum := "b633c9626280522e886d1cf8eddc071c059cb5910105582705a54d1967179e7d", func := "loop.example/g01926/laws.FnExactAreAcceptors", spec := "fnExactAreAcceptors", unfollowed := true, recurses := true, apart := false, narrowed := true }
def FnExactAreAcceptorsUptoSaid : Prop := fnExactAreAcceptorsUptoRow.holds Try.pinned (OpenSpec.upto fnExactAreAcceptorsSpec)

/-- 'laws.FnExactAccept', WHERE WHAT IT READS IS OF BULK AT MOST 1048576: true; the input reads as it did. -/
def fnExactAcceptUptoRow : OpenClaim := { program := "ytfbheccgpfddjaa", sum := "b633c9626280522e886d1cf8eddc071c059cb5910105582705a54d1967179e7d", func := "loop.example/g01926/laws.FnExactAccept", spec := "fnExactAccept", unfollowed := true, recurses := true, apart := false, narrowed := true }
def FnExactAcceptUptoSaid : Prop := fnExactAcceptUptoRow.holds Try.pinned (OpenSpec.upto fnExactAcceptSpec)

/-- 'laws.FnExactConfigAt', WHERE WHAT IT READS IS OF BULK AT MOST 1048576: true; the input reads as it did. -/
def fnExactConfigAtUptoRow : OpenClaim := { program := "ytfbheccgpfddjaa", sum := "b633c9626280522e886d1cf8eddc071c059cb5910105582705a54d1967179e7d", func := "loop.example/g01926/laws.FnExactConfigAt", spec := "fnExactConfigAt", unfollowed := true, recurses := true, apart := false, narrowed := true }
def FnExactConfigAtUptoSaid : Prop := fnExactConfigAtUptoRow.holds Try.pinned (OpenSpec.upto fnExactConfigAtSpec)

/-- 'laws.FnExactPrepare', WHERE WHAT IT READS IS OF BULK AT MOST 1048576: true; the input reads as it did. -/
def fnExactPrepareUptoRow : OpenClaim := { program := "ytfbheccgpfddjaa", sum := "b633c9626280522e886d1cf8eddc071c059cb5910105582705a54d1967179e7d", func := "loop.example/g01926/laws.FnExactPrepare", spec := "fnExactPrepare", unfollowed := true, recurses := true, apart := false, narrowed := true }
def FnExactPrepareUptoSaid : Prop := fnExactPrepareUptoRow.holds Try.pinned (OpenSpec.upto fnExactPrepareSpec)

/-- 'laws.FnAcceptors', WHERE WHAT IT READS IS OF BULK AT MOST 1048576: true; the input reads as it did. -/
def fnAcceptorsUptoRow : OpenClaim := { program := "ytfbheccgpfddjaa", sum := "b633c9626280522e886d1cf8eddc071c059cb5910105582705a54d1967179e7d", func := "loop.example/g01926/laws.FnAcceptors", spec := "fnAcceptors", unfollowed := true, recurses := true, apart := false, narrowed := true }
def FnAcceptorsUptoSaid : Prop := fnAcceptorsUptoRow.holds Try.pinned (OpenSpec.upto fnAcceptorsSpec)

/-- 'laws.FnConfigs', WHERE WHAT IT READS IS OF BULK AT MOST 1048576: true; the input reads as it did. -/
def fnConfigsUptoRow : OpenClaim := { program := "ytfbheccgpfddjaa", sum := "b633c9626280522e886d1cf8eddc071c059cb5910105582705a54d1967179e7d", func := "loop.example/g01926/laws.FnConfigs", spec := "fnConfigs", unfollowed := true, recurses := true, apart := false, narrowed := true }
def FnConfigsUptoSaid : Prop := fnConfigsUptoRow.holds Try.pinned (OpenSpec.upto fnConfigsSpec)

/-- 'laws.FnExactLastActivated', WHERE WHAT IT READS IS OF BULK AT MOST 1048576: true; the input reads as it did. -/
def fnExactLastActivatedUptoRow : OpenClaim := { program := "ytfbheccgpfddjaa", sum := "b633c9626280522e886d1cf8eddc071c059cb5910105582705a54d1967179e7d", func := "loop.example/g01926/laws.FnExactLastActivated", spec := "fnExactLastActivated", unfollowed := true, recurses := true, apart := false, narrowed := true }
def FnExactLastActivatedUptoSaid : Prop := fnExactLastActivatedUptoRow.holds Try.pinned (OpenSpec.upto fnExactLastActivatedSpec)

/-- 'laws.FnExactLastChosen', WHERE WHAT IT READS IS OF BULK AT MOST 1048576: true; the input reads as it did. -/
def fnExactLastChosenUptoRow : OpenClaim := { program := "ytfbheccgpfddjaa", sum := "b633c9626280522e886d1cf8eddc071c059cb5910105582705a54d1967179e7d", func := "loop.example/g01926/laws.FnExactLastChosen", spec := "fnExactLastChosen", unfollowed := true, recurses := true, apart := false, narrowed := true }
def FnExactLastChosenUptoSaid : Prop := fnExactLastChosenUptoRow.holds Try.pinned (OpenSpec.upto fnExactLastChosenSpec)

/-- 'laws.FnExactActivateConfig', WHERE WHAT IT READS IS OF BULK AT MOST 1048576: true; the input reads as it did. -/
def fnExactActivateConfigUptoRow : OpenClaim := { program := "ytfbheccgpfddjaa", sum := "b633c9626280522e886d1cf8eddc071c059cb5910105582705a54d1967179e7d", func := "loop.example/g01926/laws.FnExactActivateConfig", spec := "fnExactActivateConfig", unfollowed := true, recurses := true, apart := false, narrowed := true }
def FnExactActivateConfigUptoSaid : Prop := fnExactActivateConfigUptoRow.holds Try.pinned (OpenSpec.upto fnExactActivateConfigSpec)

/-- 'laws.FnExactProposeConfig', WHERE WHAT IT READS IS OF BULK AT MOST 1048576: true; the input reads as it did. -/
def fnExactProposeConfigUptoRow : OpenClaim := { program := "ytfbheccgpfddjaa", sum := "b633c9626280522e886d1cf8eddc071c059cb5910105582705a54d1967179e7d", func := "loop.example/g01926/laws.FnExactProposeConfig", spec := "fnExactProposeConfig", unfollowed := true, recurses := true, apart := false, narrowed := true }
def FnExactProposeConfigUptoSaid : Prop := fnExactProposeConfigUptoRow.holds Try.pinned (OpenSpec.upto fnExactProposeConfigSpec)

/-- 'laws.FnMasters', WHERE WHAT IT READS IS OF BULK AT MOST 1048576: true; the input reads as it did. -/
def fnMastersUptoRow : OpenClaim := { program := "ytfbheccgpfddjaa", sum := "b633c9626280522e886d1cf8eddc071c059cb5910105582705a54d1967179e7d", func := "loop.example/g01926/laws.FnMasters", spec := "fnMasters", unfollowed := true, recurses := true, apart := false, narrowed := true }
def FnMastersUptoSaid : Prop := fnMastersUptoRow.holds Try.pinned (OpenSpec.upto fnMastersSpec)

end Rows
end Go.Proofs.Ytfbheccgpfddjaa
