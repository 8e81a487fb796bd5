/-
  No cell of these rows narrows 'for every input' (looked for: loops, veiled, ifaces, maps, wideKeys, modest, calm, conditions, laid).
  DERIVED. THE GIVEN ROWS OF THIS SEAT. 12 by the template 'for every input the law returns true; each argument reads behind the call as it read before'; 0 by the template 'total and deterministic' (their statements: YtiamffhoiajgnaaTotals.lean).
  GIVEN WITH THE SEED: the statements are not yours to turn. If you find one false, say at which input.
  Laid BY PROGRAM, IN A SANDBOX (cutbox-rows.mjs): the forced cells as the released guide's own fill.sh prints them over the translation ba662b9ec9e92bfd… (all of the seat's roots in one cut). By AI agents, Wed Nov 11 2026. No macro, syntax, notation, axiom, sorry.
-/
import Derived.Test.YtiamffhoiajgnaaChecked
import GoSem.Claim
import GoSem.ClaimJoined
import GoSem.ClaimMapViews
import Derived.JoinedTies
import Derived.KernelRfl
namespace Go.Proofs.Ytiamffhoiajgnaa
/- THE CELL 'sum', in the pinned program and in every row, IS THE sha256 OF THE DUMP (.gsa) THAT YtiamffhoiajgnaaProg.lean LOADS. Nothing in Lean hashes anything: it is a label: what it is worth is what the hold of that sum in a sandbox is worth. -/
noncomputable def Try.pinned : Pinned := { name := "ytiamffhoiajgnaa", sum := "ba662b9ec9e92bfd2dcc6fb92c26a5dc391e8981b12967c127fc8011877d172e", checked := Try.checked }
namespace Rows
def none {H : Type} : Left H := { results := [], args := [] }

/-- 'laws.FnExactGrantLease': WHATEVER THE INPUT: true; the input reads as it did. -/
def fnExactGrantLeaseSpec : ChangeSpec := { name := "fnExactGrantLease", fn := fun _ => fun
  | [d1, d2, d3, d4, d5] => { results := [.lit (.bool true)], args := [d1, d2, d3, d4, d5] }
  | _ => none }
def fnExactGrantLeaseRow : OpenClaim := { program := "ytiamffhoiajgnaa", sum := "ba662b9ec9e92bfd2dcc6fb92c26a5dc391e8981b12967c127fc8011877d172e", func := "loop.example/g01926/laws.FnExactGrantLease", spec := "fnExactGrantLease", apart := false }
def FnExactGrantLeaseSaid : Prop := fnExactGrantLeaseRow.holds Try.pinned (OpenSpec.ofChange fnExactGrantLeaseSpec)

/-- ITS FALSE NEIGHBOUR: 'it returns false'. Refute it at one input. -/
def fnExactGrantLeaseWrong : ChangeSpec := { name := "fnExactGrantLease", fn := fun _ => fun
  | [d1, d2, d3, d4, d5] => { results := [.lit (.bool false)], args := [d1, d2, d3, d4, d5] }
  | _ => none }
def FnExactGrantLeaseWrongFalsely : Prop := fnExactGrantLeaseRow.holds Try.pinned (OpenSpec.ofChange fnExactGrantLeaseWrong)

/-- 'laws.FnExactHasRoom': WHATEVER THE INPUT: true; the input reads as it did. -/
def fnExactHasRoomSpec : ChangeSpec := { name := "fnExactHasRoom", fn := fun _ => fun
  | [d1, d2] => { results := [.lit (.bool true)], args := [d1, d2] }
  | _ => none }
def fnExactHasRoomRow : OpenClaim := { program := "ytiamffhoiajgnaa", sum := "ba662b9ec9e92bfd2dcc6fb92c26a5dc391e8981b12967c127fc8011877d172e", func := "loop.example/g01926/laws.FnExactHasRoom", spec := "fnExactHasRoom", unfollowed := true, recurses := true, apart := false }
def FnExactHasRoomSaid : Prop := fnExactHasRoomRow.holds Try.pinned (OpenSpec.ofChange fnExactHasRoomSpec)

/-- ITS FALSE NEIGHBOUR: 'it returns false'. Refute it at one input. -/
def fnExactHasRoomWrong : ChangeSpec := { name := "fnExactHasRoom", fn := fun _ => fun
  | [d1, d2] => { results := [.lit (.bool false)], args := [d1, d2] }
  | _ => none }
def FnExactHasRoomWrongFalsely : Prop := fnExactHasRoomRow.holds Try.pinned (OpenSpec.ofChange fnExactHasRoomWrong)

/-- 'laws.FnExactEqualConfigs': WHATEVER THE INPUT: true; the input reads as it did. -/
def fnExactEqualConfigsSpec : ChangeSpec := { name := "fnExactEqualConfigs", fn := fun _ => fun
  | [d1, d2] => { results := [.lit (.bool true)], args := [d1, d2] }
  | _ => none }
def fnExactEqualConfigsRow : OpenClaim := { program := "ytiamffhoiajgnaa", sum := "ba662b9ec9e92bfd2dcc6fb92c26a5dc391e8981b12967c127fc8011877d172e", func := "loop.example/g01926/laws.FnExactEqualConfigs", spec := "fnExactEqualConfigs", apart := false }
def FnExactEqualConfigsSaid : Prop := fnExactEqualConfigsRow.holds Try.pinned (OpenSpec.ofChange fnExactEqualConfigsSpec)

/-- ITS FALSE NEIGHBOUR: 'it returns false'. Refute it at one input. -/
def fnExactEqualConfigsWrong : ChangeSpec := { name := "fnExactEqualConfigs", fn := fun _ => fun
  | [d1, d2] => { results := [.lit (.bool false)], args := [d1, d2] }
  | _ => none }
def FnExactEqualConfigsWrongFalsely : Prop := fnExactEqualConfigsRow.holds Try.pinned (OpenSpec.ofChange fnExactEqualConfigsWrong)

/-- 'laws.FnExactNewAcceptors': WHATEVER THE INPUT: true; the input reads as it did. -/
def fnExactNewAcceptorsSpec : ChangeSpec := { name := "fnExactNewAcceptors", fn := fun _ => fun
  | [] => { results := [.lit (.bool true)], args := [] }
  | _ => none }
def fnExactNewAcceptorsRow : OpenClaim := { program := "ytiamffhoiajgnaa", sum := "ba662b9ec9e92bfd2dcc6fb92c26a5dc391e8981b12967c127fc8011877d172e", func := "loop.example/g01926/laws.FnExactNewAcceptors", spec := "fnExactNewAcceptors", apart := false }
def FnExactNewAcceptorsSaid : Prop := fnExactNewAcceptorsRow.holds Try.pinned (OpenSpec.ofChange fnExactNewAcceptorsSpec)

/-- ITS FALSE NEIGHBOUR: 'it returns false'. Refute it at one input. -/
def fnExactNewAcceptorsWrong : ChangeSpec := { name := "fnExactNewAcceptors", fn := fun _ => fun
  | [] => { results := [.lit (.bool false)], args := [] }
  | _ => none }
def FnExactNewAcceptorsWrongFalsely : Prop := fnExactNewAcceptorsRow.holds Try.pinned (OpenSpec.ofChange fnExactNewAcceptorsWrong)

/-- 'laws.FnExactTailCovers': WHATEVER THE INPUT: true; the input reads as it did. -/
def fnExactTailCoversSpec : ChangeSpec := { name := "fnExactTailCovers", fn := fun _ => fun
  | [d1, d2, d3] => { results := [.lit (.bool true)], args := [d1, d2, d3] }
  | _ => none }
def fnExactTailCoversRow : OpenClaim := { program := "ytiamffhoiajgnaa", sum := "ba662b9ec9e92bfd2dcc6fb92c26a5dc391e8981b12967c127fc8011877d172e", func := "loop.example/g01926/laws.FnExactTailCovers", spec := "fnExactTailCovers", apart := false }
def FnExactTailCoversSaid : Prop := fnExactTailCoversRow.holds Try.pinned (OpenSpec.ofChange fnExactTailCoversSpec)

/-- ITS FALSE NEIGHBOUR: 'it returns false'. Refute it at one input. -/
def fnExactTailCoversWrong : ChangeSpec := { name := "fnExactTailCovers", fn := fun _ => fun
  | [d1, d2, d3] => { results := [.lit (.bool false)], args := [d1, d2, d3] }
  | _ => none }
def FnExactTailCoversWrongFalsely : Prop := fnExactTailCoversRow.holds Try.pinned (OpenSpec.ofChange fnExactTailCoversWrong)

/-- 'laws.FnExactEqualAcceptors': WHATEVER THE INPUT: true; the input reads as it did. -/
def fnExactEqualAcceptorsSpec : ChangeSpec := { name := "fnExactEqualAcceptors", fn := fun _ => fun
  | [d1, d2] => { results := [.lit (.bool true)], args := [d1, d2] }
  | _ => none }
def fnExactEqualAcceptorsRow : OpenClaim := { program := "ytiamffhoiajgnaa", sum := "ba662b9ec9e92bfd2dcc6fb92c26a5dc391e8981b12967c127fc8011877d172e", func := "loop.example/g01926/laws.FnExactEqualAcceptors", spec := "fnExactEqualAcceptors", apart := false }
def FnExactEqualAcceptorsSaid : Prop := fnExactEqualAcceptorsRow.holds Try.pinned (OpenSpec.ofChange fnExactEqualAcceptorsSpec)

/-- ITS FALSE NEIGHBOUR: 'it returns false'. Refute it at one input. -/
def fnExactEqualAcceptorsWrong : ChangeSpec := { name := "fnExactEqualAcceptors", fn := fun _ => fun
  | [d1, d2] => { results := [.lit (.bool false)], args := [d1, d2] }
  | _ => none }
def FnExactEqualAcceptorsWrongFalsely : Prop := fnExactEqualAcceptorsRow.holds Try.pinned (OpenSpec.ofChange fnExactEqualAcceptorsWrong)

/-- 'laws.FnExactEqualMasterLogs': WHATEVER THE INPUT: true; the input reads as it did. -/
def fnExactEqualMasterLogsSpec : ChangeSpec := { name := "fnExactEqualMasterLogs", fn := fun _ => fun
  | [d1, d2] => { results := [.lit (.bool true)], args := [d1, d2] }
  | _ => none }
def fnExactEqualMasterLogsRow : OpenClaim := { program := "ytiamffhoiajgnaa", sum := "ba662b9ec9e92bfd2dcc6fb92c26a5dc391e8981b12967c127fc8011877d172e", func := "loop.example/g01926/laws.FnExactEqualMasterLogs", spec := "fnExactEqualMasterLogs", unfollowed := true, recurses := true, apart := false }
def FnExactEqualMasterLogsSaid : Prop := fnExactEqualMasterLogsRow.holds Try.pinned (OpenSpec.ofChange fnExactEqualMasterLogsSpec)

/-- ITS FALSE NEIGHBOUR: 'it returns false'. Refute it at one input. -/
def fnExactEqualMasterLogsWrong : ChangeSpec := { name := "fnExactEqualMasterLogs", fn := fun _ => fun
  | [d1, d2] => { results := [.lit (.bool false)], args := [d1, d2] }
  | _ => none }
def FnExactEqualMasterLogsWrongFalsely : Prop := fnExactEqualMasterLogsRow.holds Try.pinned (OpenSpec.ofChange fnExactEqualMasterLogsWrong)

/-- 'laws.FnExactCutTail': WHATEVER THE INPUT: true; the input reads as it did. -/
def fnExactCutTailSpec : ChangeSpec := { name := "fnExactCutTail", fn := fun _ => fun
  | [d] => { results := [.lit (.bool true)], args := [d] }
  | _ => none }
def fnExactCutTailRow : OpenClaim := { program := "ytiamffhoiajgnaa", sum := "ba662b9ec9e92bfd2dcc6fb92c26a5dc391e8981b12967c127fc8011877d172e", func := "loop.example/g01926/laws.FnExactCutTail", spec := "fnExactCutTail", apart := false }
def FnExactCutTailSaid : Prop := fnExactCutTailRow.holds Try.pinned (OpenSpec.ofChange fnExactCutTailSpec)

/-- ITS FALSE NEIGHBOUR: 'it returns false'. Refute it at one input. -/
def fnExactCutTailWrong : ChangeSpec := { name := "fnExactCutTail", fn := fun _ => fun
  | [d] => { results := [.lit (.bool false)], args := [d] }
  | _ => none }
def FnExactCutTailWrongFalsely : Prop := fnExactCutTailRow.holds Try.pinned (OpenSpec.ofChange fnExactCutTailWrong)

/-- 'laws.FnExactPushTail': WHATEVER THE INPUT: true; the input reads as it did. -/
def fnExactPushTailSpec : ChangeSpec := { name := "fnExactPushTail", fn := fun _ => fun
  | [d1, d2, d3] => { results := [.lit (.bool true)], args := [d1, d2, d3] }
  | _ => none }
def fnExactPushTailRow : OpenClaim := { program := "ytiamffhoiajgnaa", sum := "ba662b9ec9e92bfd2dcc6fb92c26a5dc391e8981b12967c127fc8011877d172e", func := "loop.example/g01926/laws.FnExactPushTail", spec := "fnExactPushTail", apart := false }
def FnExactPushTailSaid : Prop := fnExactPushTailRow.holds Try.pinned (OpenSpec.ofChange fnExactPushTailSpec)

/-- ITS FALSE NEIGHBOUR: 'it returns false'. Refute it at one input. -/
def fnExactPushTailWrong : ChangeSpec := { name := "fnExactPushTail", fn := fun _ => fun
  | [d1, d2, d3] => { results := [.lit (.bool false)], args := [d1, d2, d3] }
  | _ => none }
def FnExactPushTailWrongFalsely : Prop := fnExactPushTailRow.holds Try.pinned (OpenSpec.ofChange fnExactPushTailWrong)

/-- 'laws.FnExactNewServer': WHATEVER THE INPUT: true; the input reads as it did. -/
def fnExactNewServerSpec : ChangeSpec := { name := "fnExactNewServer", fn := fun _ => fun
  | [d] => { results := [.lit (.bool true)], args := [d] }
  | _ => none }
def fnExactNewServerRow : OpenClaim := { program := "ytiamffhoiajgnaa", sum := "ba662b9ec9e92bfd2dcc6fb92c26a5dc391e8981b12967c127fc8011877d172e", func := "loop.example/g01926/laws.FnExactNewServer", spec := "fnExactNewServer", apart := false }
def FnExactNewServerSaid : Prop := fnExactNewServerRow.holds Try.pinned (OpenSpec.ofChange fnExactNewServerSpec)

/-- ITS FALSE NEIGHBOUR: 'it returns false'. Refute it at one input. -/
def fnExactNewServerWrong : ChangeSpec := { name := "fnExactNewServer", fn := fun _ => fun
  | [d] => { results := [.lit (.bool false)], args := [d] }
  | _ => none }
def FnExactNewServerWrongFalsely : Prop := fnExactNewServerRow.holds Try.pinned (OpenSpec.ofChange fnExactNewServerWrong)

/-- 'laws.FnExactJoinTail': WHATEVER THE INPUT: true; the input reads as it did. -/
def fnExactJoinTailSpec : ChangeSpec := { name := "fnExactJoinTail", fn := fun _ => fun
  | [d1, d2, d3] => { results := [.lit (.bool true)], args := [d1, d2, d3] }
  | _ => none }
def fnExactJoinTailRow : OpenClaim := { program := "ytiamffhoiajgnaa", sum := "ba662b9ec9e92bfd2dcc6fb92c26a5dc391e8981b12967c127fc8011877d172e", func := "loop.example/g01926/laws.FnExactJoinTail", spec := "fnExactJoinTail", apart := false }
def FnExactJoinTailSaid : Prop := fnExactJoinTailRow.holds Try.pinned (OpenSpec.ofChange fnExactJoinTailSpec)

/-- ITS FALSE NEIGHBOUR: 'it returns false'. Refute it at one input. -/
def fnExactJoinTailWrong : ChangeSpec := { name := "fnExactJoinTail", fn := fun _ => fun
  | [d1, d2, d3] => { results := [.lit (.bool false)], args := [d1, d2, d3] }
  | _ => none }
def FnExactJoinTailWrongFalsely : Prop := fnExactJoinTailRow.holds Try.pinned (OpenSpec.ofChange fnExactJoinTailWrong)

/-- 'laws.FnExactEqualServerStates': WHATEVER THE INPUT: true; the input reads as it did. -/
def fnExactEqualServerStatesSpec : ChangeSpec := { name := "fnExactEqualServerStates", fn := fun _ => fun
  | [d1, d2] => { results := [.lit (.bool true)], args := [d1, d2] }
  | _ => none }
def fnExactEqualServerStatesRow : OpenClaim := { program := "ytiamffhoiajgnaa", sum := "ba662b9ec9e92bfd2dcc6fb92c26a5dc391e8981b12967c127fc8011877d172e", func := "loop.example/g01926/laws.FnExactEqualServerStates", spec := "fnExactEqualServerStates", apart := false }
def FnExactEqualServerStatesSaid : Prop := fnExactEqualServerStatesRow.holds Try.pinned (OpenSpec.ofChange fnExactEqualServerStatesSpec)

/-- ITS FALSE NEIGHBOUR: 'it returns false'. Refute it at one input. -/
def fnExactEqualServerStatesWrong : ChangeSpec := { name := "fnExactEqualServerStates", fn := fun _ => fun
  | [d1, d2] => { results := [.lit (.bool false)], args := [d1, d2] }
  | _ => none }
def FnExactEqualServerStatesWrongFalsely : Prop := fnExactEqualServerStatesRow.holds Try.pinned (OpenSpec.ofChange fnExactEqualServerStatesWrong)

/- THE SECOND FORM. 'bulk': how many values and letters a reading holds, each counted each time it is reached (what is shared counts as often as it is met; a slice's spare places count too). A statement '..UptoSaid' is the law's where the arguments, and the package variables that the reading takes, are together of bulk at most 1048576: NARROWER than '..Said'. Prove '..Said' where nothing that the law and all that it calls make is longer than what came in: it says more and counts as full. Else prove '..UptoSaid'. A law counts once. -/
mutual
def uptoBulk {H : Type} : DataW H → Nat
  | .lit (.string bytes) => bytes.length + 1
  | .lit _ => 1
  | .nil => 1
  | .ptr d => uptoBulk d + 1
  | .slice elems spare => uptoBulkAll elems + uptoBulkAll spare + 1
  | .agg parts => uptoBulkAll parts + 1
  | .iface _ d => uptoBulk d + 1
  | .map entries => uptoBulkEntries entries + 1
  | .held _ => 1
def uptoBulkAll {H : Type} : List (DataW H) → Nat
  | [] => 0
  | d :: r => uptoBulk d + uptoBulkAll r
def uptoBulkEntries {H : Type} : List (Lit × DataW H) → Nat
  | [] => 0
  | x :: r => uptoBulkEntry x + uptoBulkEntries r
def uptoBulkEntry {H : Type} : Lit × DataW H → Nat
  | (.string bytes, d) => bytes.length + uptoBulk d + 1
  | (_, d) => uptoBulk d + 1
 end
def uptoSmall : (H : Type) → List (DataW H) → Bool := fun _ ds => decide (uptoBulkAll ds ≤ 1048576)
def OpenSpec.upto (s : _root_.Go.ChangeSpec) : _root_.Go.OpenSpec := { _root_.Go.OpenSpec.ofChange s with cond := some uptoSmall }

/-- 'laws.FnExactGrantLease', WHERE WHAT IT READS IS OF BULK AT MOST 1048576: true; the input reads as it did. -/
def fnExactGrantLeaseUptoRow : OpenClaim := { program := "ytiamffhoiajgnaa", sum := "ba662b9ec9e92bfd2dcc6fb92c26a5dc391e8981b12967c127fc8011877d172e", func := "loop.example/g01926/laws.FnExactGrantLease", spec := "fnExactGrantLease", apart := false, narrowed := true }
def FnExactGrantLeaseUptoSaid : Prop := fnExactGrantLeaseUptoRow.holds Try.pinned (OpenSpec.upto fnExactGrantLeaseSpec)

/-- 'laws.FnExactHasRoom', WHERE WHAT IT READS IS OF BULK AT MOST 1048576: true; the input reads as it did. -/
def fnExactHasRoomUptoRow : OpenClaim := { program := "ytiamffhoiajgnaa", sum := "ba662b9ec9e92bfd2dcc6fb92c26a5dc391e8981b12967c127fc8011877d172e", func := "loop.example/g01926/laws.FnExactHasRoom", spec := "fnExactHasRoom", unfollowed := true, recurses := true, apart := false, narrowed := true }
def FnExactHasRoomUptoSaid : Prop := fnExactHasRoomUptoRow.holds Try.pinned (OpenSpec.upto fnExactHasRoomSpec)

/-- 'laws.FnExactEqualConfigs', WHERE WHAT IT READS IS OF BULK AT MOST 1048576: true; the input reads as it did. -/
def fnExactEqualConfigsUptoRow : OpenClaim := { program := "ytiamffhoiajgnaa", sum := "ba662b9ec9e92bfd2dcc6fb92c26a5dc391e8981b12967c127fc8011877d172e", func := "loop.example/g01926/laws.FnExactEqualConfigs", spec := "fnExactEqualConfigs", apart := false, narrowed := true }
def FnExactEqualConfigsUptoSaid : Prop := fnExactEqualConfigsUptoRow.holds Try.pinned (OpenSpec.upto fnExactEqualConfigsSpec)

/-- 'laws.FnExactNewAcceptors', WHERE WHAT IT READS IS OF BULK AT MOST 1048576: true; the input reads as it did. -/
def fnExactNewAcceptorsUptoRow : OpenClaim := { program := "ytiamffhoiajgnaa", sum := "ba662b9ec9e92bfd2dcc6fb92c26a5dc391e8981b12967c127fc8011877d172e", func := "loop.example/g01926/laws.FnExactNewAcceptors", spec := "fnExactNewAcceptors", apart := false, narrowed := true }
def FnExactNewAcceptorsUptoSaid : Prop := fnExactNewAcceptorsUptoRow.holds Try.pinned (OpenSpec.upto fnExactNewAcceptorsSpec)

/-- 'laws.FnExactTailCovers', WHERE WHAT IT READS IS OF BULK AT MOST 1048576: true; the input reads as it did. -/
def fnExactTailCoversUptoRow : OpenClaim := { program := "ytiamffhoiajgnaa", sum := "ba662b9ec9e92bfd2dcc6fb92c26a5dc391e8981b12967c127fc8011877d172e", func := "loop.example/g01926/laws.FnExactTailCovers", spec := "fnExactTailCovers", apart := false, narrowed := true }
def FnExactTailCoversUptoSaid : Prop := fnExactTailCoversUptoRow.holds Try.pinned (OpenSpec.upto fnExactTailCoversSpec)

/-- 'laws.FnExactEqualAcceptors', WHERE WHAT IT READS IS OF BULK AT MOST 1048576: true; the input reads as it did. -/
def fnExactEqualAcceptorsUptoRow : OpenClaim := { program := "ytiamffhoiajgnaa", sum := "ba662b9ec9e92bfd2dcc6fb92c26a5dc391e8981b12967c127fc8011877d172e", func := "loop.example/g01926/laws.FnExactEqualAcceptors", spec := "fnExactEqualAcceptors", apart := false, narrowed := true }
def FnExactEqualAcceptorsUptoSaid : Prop := fnExactEqualAcceptorsUptoRow.holds Try.pinned (OpenSpec.upto fnExactEqualAcceptorsSpec)

/-- 'laws.FnExactEqualMasterLogs', WHERE WHAT IT READS IS OF BULK AT MOST 1048576: true; the input reads as it did. -/
def fnExactEqualMasterLogsUptoRow : OpenClaim := { program := "ytiamffhoiajgnaa", sum := "ba662b9ec9e92bfd2dcc6fb92c26a5dc391e8981b12967c127fc8011877d172e", func := "loop.example/g01926/laws.FnExactEqualMasterLogs", spec := "fnExactEqualMasterLogs", unfollowed := true, recurses := true, apart := false, narrowed := true }
def FnExactEqualMasterLogsUptoSaid : Prop := fnExactEqualMasterLogsUptoRow.holds Try.pinned (OpenSpec.upto fnExactEqualMasterLogsSpec)

/-- 'laws.FnExactCutTail', WHERE WHAT IT READS IS OF BULK AT MOST 1048576: true; the input reads as it did. -/
def fnExactCutTailUptoRow : OpenClaim := { program := "ytiamffhoiajgnaa", sum := "ba662b9ec9e92bfd2dcc6fb92c26a5dc391e8981b12967c127fc8011877d172e", func := "loop.example/g01926/laws.FnExactCutTail", spec := "fnExactCutTail", apart := false, narrowed := true }
def FnExactCutTailUptoSaid : Prop := fnExactCutTailUptoRow.holds Try.pinned (OpenSpec.upto fnExactCutTailSpec)

/-- 'laws.FnExactPushTail', WHERE WHAT IT READS IS OF BULK AT MOST 1048576: true; the input reads as it did. -/
def fnExactPushTailUptoRow : OpenClaim := { program := "ytiamffhoiajgnaa", sum := "ba662b9ec9e92bfd2dcc6fb92c26a5dc391e8981b12967c127fc8011877d172e", func := "loop.example/g01926/laws.FnExactPushTail", spec := "fnExactPushTail", apart := false, narrowed := true }
def FnExactPushTailUptoSaid : Prop := fnExactPushTailUptoRow.holds Try.pinned (OpenSpec.upto fnExactPushTailSpec)

/-- 'laws.FnExactNewServer', WHERE WHAT IT READS IS OF BULK AT MOST 1048576: true; the input reads as it did. -/
def fnExactNewServerUptoRow : OpenClaim := { program := "ytiamffhoiajgnaa", sum := "ba662b9ec9e92bfd2dcc6fb92c26a5dc391e8981b12967c127fc8011877d172e", func := "loop.example/g01926/laws.FnExactNewServer", spec := "fnExactNewServer", apart := false, narrowed := true }
def FnExactNewServerUptoSaid : Prop := fnExactNewServerUptoRow.holds Try.pinned (OpenSpec.upto fnExactNewServerSpec)

/-- 'laws.FnExactJoinTail', WHERE WHAT IT READS IS OF BULK AT MOST 1048576: true; the input reads as it did. -/
def fnExactJoinTailUptoRow : OpenClaim := { program := "ytiamffhoiajgnaa", sum := "ba662b9ec9e92bfd2dcc6fb92c26a5dc391e8981b12967c127fc8011877d172e", func := "loop.example/g01926/laws.FnExactJoinTail", spec := "fnExactJoinTail", apart := false, narrowed := true }
def FnExactJoinTailUptoSaid : Prop := fnExactJoinTailUptoRow.holds Try.pinned (OpenSpec.upto fnExactJoinTailSpec)

/-- 'laws.FnExactEqualServerStates', WHERE WHAT IT READS IS OF BULK AT MOST 1048576: true; the input reads as it did. -/
def fnExactEqualServerStatesUptoRow : OpenClaim := { program := "ytiamffhoiajgnaa", sum := "ba662b9ec9e92bfd2dcc6fb92c26a5dc391e8981b12967c127fc8011877d172e", func := "loop.example/g01926/laws.FnExactEqualServerStates", spec := "fnExactEqualServerStates", apart := false, narrowed := true }
def FnExactEqualServerStatesUptoSaid : Prop := fnExactEqualServerStatesUptoRow.holds Try.pinned (OpenSpec.upto fnExactEqualServerStatesSpec)

end Rows
end Go.Proofs.Ytiamffhoiajgnaa
