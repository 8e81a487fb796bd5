/-
  No cell of these rows narrows 'for every input' (looked for: loops, veiled, ifaces, maps, wideKeys, modest, calm, conditions, laid).
  DERIVED. THE GIVEN ROWS OF THIS SEAT. 4 by the template 'for every input the law returns true; each argument reads behind the call as it read before'; 0 by the template 'total and deterministic' (their statements: YtmimpgleknffgaaTotals.lean).
  GIVEN WITH THE SEED: the statements are not yours to turn. If you find one false, say at which input.
  Laid BY PROGRAM, IN A SANDBOX (cutbox-rows.mjs): the forced cells as the released guide's own fill.sh prints them over the translation 01901f08abd812e8… (all of the seat's roots in one cut). By AI agents, Wed Nov 11 2026. No macro, syntax, notation, axiom, sorry.
-/
import Derived.Test.YtmimpgleknffgaaChecked
import GoSem.Claim
import GoSem.ClaimJoined
import GoSem.ClaimMapViews
import Derived.JoinedTies
import Derived.KernelRfl
namespace Go.Proofs.Ytmimpgleknffgaa
/- THE CELL 'sum', in the pinned program and in every row, IS THE sha256 OF THE DUMP (.gsa) THAT YtmimpgleknffgaaProg.lean LOADS. Nothing in Lean hashes anything: it is a label: what it is worth is what the hold of that sum in a sandbox is worth. -/
noncomputable def Try.pinned : Pinned := { name := "ytmimpgleknffgaa", sum := "01901f08abd812e89018d410d2854ad42a6a580233cbfddb723af16ed7d50fd5", checked := Try.checked }
namespace Rows
def none {H : Type} : Left H := { results := [], args := [] }

/-- 'laws.FnSynod': WHATEVER THE INPUT: true; the input reads as it did. -/
def fnSynodSpec : ChangeSpec := { name := "fnSynod", fn := fun _ => fun
  | [d] => { results := [.lit (.bool true)], args := [d] }
  | _ => none }
def fnSynodRow : OpenClaim := { program := "ytmimpgleknffgaa", sum := "01901f08abd812e89018d410d2854ad42a6a580233cbfddb723af16ed7d50fd5", func := "loop.example/g01926/laws.FnSynod", spec := "fnSynod", unfollowed := true, recurses := true, apart := false }
def FnSynodSaid : Prop := fnSynodRow.holds Try.pinned (OpenSpec.ofChange fnSynodSpec)

/-- ITS FALSE NEIGHBOUR: 'it returns false'. Refute it at one input. -/
def fnSynodWrong : ChangeSpec := { name := "fnSynod", fn := fun _ => fun
  | [d] => { results := [.lit (.bool false)], args := [d] }
  | _ => none }
def FnSynodWrongFalsely : Prop := fnSynodRow.holds Try.pinned (OpenSpec.ofChange fnSynodWrong)

/-- 'laws.FnAcceptors': WHATEVER THE INPUT: true; the input reads as it did. -/
def fnAcceptorsSpec : ChangeSpec := { name := "fnAcceptors", fn := fun _ => fun
  | [d] => { results := [.lit (.bool true)], args := [d] }
  | _ => none }
def fnAcceptorsRow : OpenClaim := { program := "ytmimpgleknffgaa", sum := "01901f08abd812e89018d410d2854ad42a6a580233cbfddb723af16ed7d50fd5", func := "loop.example/g01926/laws.FnAcceptors", spec := "fnAcceptors", unfollowed := true, recurses := true, apart := false }
def FnAcceptorsSaid : Prop := fnAcceptorsRow.holds Try.pinned (OpenSpec.ofChange fnAcceptorsSpec)

/-- ITS FALSE NEIGHBOUR: 'it returns false'. Refute it at one input. -/
def fnAcceptorsWrong : ChangeSpec := { name := "fnAcceptors", fn := fun _ => fun
  | [d] => { results := [.lit (.bool false)], args := [d] }
  | _ => none }
def FnAcceptorsWrongFalsely : Prop := fnAcceptorsRow.holds Try.pinned (OpenSpec.ofChange fnAcceptorsWrong)

/-- 'laws.FnConfigs': WHATEVER THE INPUT: true; the input reads as it did. -/
def fnConfigsSpec : ChangeSpec := { name := "fnConfigs", fn := fun _ => fun
  | [d] => { results := [.lit (.bool true)], args := [d] }
  | _ => none }
def fnConfigsRow : OpenClaim := { program := "ytmimpgleknffgaa", sum := "01901f08abd812e89018d410d2854ad42a6a580233cbfddb723af16ed7d50fd5", func := "loop.example/g01926/laws.FnConfigs", spec := "fnConfigs", unfollowed := true, recurses := true, apart := false }
def FnConfigsSaid : Prop := fnConfigsRow.holds Try.pinned (OpenSpec.ofChange fnConfigsSpec)

/-- ITS FALSE NEIGHBOUR: 'it returns false'. Refute it at one input. -/
def fnConfigsWrong : ChangeSpec := { name := "fnConfigs", fn := fun _ => fun
  | [d] => { results := [.lit (.bool false)], args := [d] }
  | _ => none }
def FnConfigsWrongFalsely : Prop := fnConfigsRow.holds Try.pinned (OpenSpec.ofChange fnConfigsWrong)

/-- 'laws.FnMasters': WHATEVER THE INPUT: true; the input reads as it did. -/
def fnMastersSpec : ChangeSpec := { name := "fnMasters", fn := fun _ => fun
  | [d] => { results := [.lit (.bool true)], args := [d] }
  | _ => none }
def fnMastersRow : OpenClaim := { program := "ytmimpgleknffgaa", sum := "01901f08abd812e89018d410d2854ad42a6a580233cbfddb723af16ed7d50fd5", func := "loop.example/g01926/laws.FnMasters", spec := "fnMasters", unfollowed := true, recurses := true, apart := false }
def FnMastersSaid : Prop := fnMastersRow.holds Try.pinned (OpenSpec.ofChange fnMastersSpec)

/-- ITS FALSE NEIGHBOUR: 'it returns false'. Refute it at one input. -/
def fnMastersWrong : ChangeSpec := { name := "fnMasters", fn := fun _ => fun
  | [d] => { results := [.lit (.bool false)], args := [d] }
  | _ => none }
def FnMastersWrongFalsely : Prop := fnMastersRow.holds Try.pinned (OpenSpec.ofChange fnMastersWrong)

/- THE SECOND FORM. 'bulk': how many values and letters a reading holds, each counted each time it is reached (what is shared counts as often as it is met; a slice's spare places count too). A statement '..UptoSaid' is the law's where the arguments, and the package variables that the reading takes, are together of bulk at most 1048576: NARROWER than '..Said'. Prove '..Said' where nothing that the law and all that it calls make is longer than what came in: it says more and counts as full. Else prove '..UptoSaid'. A law counts once. -/
mutual
def uptoBulk {H : Type} : DataW H → Nat
  | .lit (.string bytes) => bytes.length + 1
  | .lit _ => 1
  | .nil => 1
  | .ptr d => uptoBulk d + 1
  | .slice elems spare => uptoBulkAll elems + uptoBulkAll spare + 1
  | .agg parts => uptoBulkAll parts + 1
  | .iface _ d => uptoBulk d + 1
  | .map entries => uptoBulkEntries entries + 1
  | .held _ => 1
def uptoBulkAll {H : Type} : List (DataW H) → Nat
  | [] => 0
  | d :: r => uptoBulk d + uptoBulkAll r
def uptoBulkEntries {H : Type} : List (Lit × DataW H) → Nat
  | [] => 0
  | x :: r => uptoBulkEntry x + uptoBulkEntries r
def uptoBulkEntry {H : Type} : Lit × DataW H → Nat
  | (.string bytes, d) => bytes.length + uptoBulk d + 1
  | (_, d) => uptoBulk d + 1
 end
def uptoSmall : (H : Type) → List (DataW H) → Bool := fun _ ds => decide (uptoBulkAll ds ≤ 1048576)
def OpenSpec.upto (s : _root_.Go.ChangeSpec) : _root_.Go.OpenSpec := { _root_.Go.OpenSpec.ofChange s with cond := some uptoSmall }

/-- 'laws.FnSynod', WHERE WHAT IT READS IS OF BULK AT MOST 1048576: true; the input reads as it did. -/
def fnSynodUptoRow : OpenClaim := { program := "ytmimpgleknffgaa", sum := "01901f08abd812e89018d410d2854ad42a6a580233cbfddb723af16ed7d50fd5", func := "loop.example/g01926/laws.FnSynod", spec := "fnSynod", unfollowed := true, recurses := true, apart := false, narrowed := true }
def FnSynodUptoSaid : Prop := fnSynodUptoRow.holds Try.pinned (OpenSpec.upto fnSynodSpec)

/-- 'laws.FnAcceptors', WHERE WHAT IT READS IS OF BULK AT MOST 1048576: true; the input reads as it did. -/
def fnAcceptorsUptoRow : OpenClaim := { program := "ytmimpgleknffgaa", sum := "01901f08abd812e89018d410d2854ad42a6a580233cbfddb723af16ed7d50fd5", func := "loop.example/g01926/laws.FnAcceptors", spec := "fnAcceptors", unfollowed := true, recurses := true, apart := false, narrowed := true }
def FnAcceptorsUptoSaid : Prop := fnAcceptorsUptoRow.holds Try.pinned (OpenSpec.upto fnAcceptorsSpec)

/-- 'laws.FnConfigs', WHERE WHAT IT READS IS OF BULK AT MOST 1048576: true; the input reads as it did. -/
def fnConfigsUptoRow : OpenClaim := { program := "ytmimpgleknffgaa", sum := "01901f08abd812e89018d410d2854ad42a6a580233cbfddb723af16ed7d50fd5", func := "loop.example/g01926/laws.FnConfigs", spec := "fnConfigs", unfollowed := true, recurses := true, apart := false, narrowed := true }
def FnConfigsUptoSaid : Prop := fnConfigsUptoRow.holds Try.pinned (OpenSpec.upto fnConfigsSpec)

/-- 'laws.FnMasters', WHERE WHAT IT READS IS OF BULK AT MOST 1048576: true; the input reads as it did. -/
def fnMastersUptoRow : OpenClaim := { program := "ytmimpgleknffgaa", sum := "01901f08abd812e89018d410d2854ad42a6a580233cbfddb723af16ed7d50fd5", func := "loop.example/g01926/laws.FnMasters", spec := "fnMasters", unfollowed := true, recurses := true, apart := false, narrowed := true }
def FnMastersUptoSaid : Prop := fnMastersUptoRow.holds Try.pinned (OpenSpec.upto fnMastersSpec)

end Rows
end Go.Proofs.Ytmimpgleknffgaa
