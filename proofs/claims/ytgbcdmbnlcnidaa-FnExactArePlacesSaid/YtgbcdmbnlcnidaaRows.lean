/-
  No cell of these rows narrows 'for every input' (looked for: loops, veiled, ifaces, maps, wideKeys, modest, calm, conditions, laid).
  DERIVED. THE GIVEN ROWS OF THIS SEAT. 6 by the template 'for every input the law returns true; each argument reads behind the call as it read before'; 0 by the template 'total and deterministic' (their statements: YtgbcdmbnlcnidaaTotals.lean).
  GIVEN WITH THE SEED: the statements are not yours to turn. If you find one false, say at which input.
  Laid BY PROGRAM, IN A SANDBOX (cutbox-rows.mjs): the forced cells as the released guide's own fill.sh prints them over the translation 338bea7515c20901… (all of the seat's roots in one cut). By AI agents, Wed Nov 11 2026. No macro, syntax, notation, axiom, sorry.
-/
import Derived.Test.YtgbcdmbnlcnidaaChecked
import GoSem.Claim
import GoSem.ClaimJoined
import GoSem.ClaimMapViews
import Derived.JoinedTies
import Derived.KernelRfl
namespace Go.Proofs.Ytgbcdmbnlcnidaa
/- THE CELL 'sum', in the pinned program and in every row, IS THE sha256 OF THE DUMP (.gsa) THAT YtgbcdmbnlcnidaaProg.lean LOADS. Nothing in Lean hashes anything: it is a label: what it is worth is what the hold of that sum in a sandbox is worth. -/
noncomputable def Try.pinned : Pinned := { name := "ytgbcdmbnlcnidaa", sum := "338bea7515c209011bb007fdefb81a4c3ea8783f0d37a4a9d994c7deb1427ba0", checked := Try.checked }
namespace Rows
def none {H : Type} : Left H := { results := [], args := [] }

/-- 'laws.FnExactRoleName': WHATEVER THE INPUT: true; the input reads as it did. -/
def fnExactRoleNameSpec : ChangeSpec := { name := "fnExactRoleName", fn := fun _ => fun
  | [d] => { results := [.lit (.bool true)], args := [d] }
  | _ => none }
def fnExactRoleNameRow : OpenClaim := { program := "ytgbcdmbnlcnidaa", sum := "338bea7515c209011bb007fdefb81a4c3ea8783f0d37a4a9d994c7deb1427ba0", func := "loop.example/g01926/laws.FnExactRoleName", spec := "fnExactRoleName", apart := false }
def FnExactRoleNameSaid : Prop := fnExactRoleNameRow.holds Try.pinned (OpenSpec.ofChange fnExactRoleNameSpec)

/-- ITS FALSE NEIGHBOUR: 'it returns false'. Refute it at one input. -/
def fnExactRoleNameWrong : ChangeSpec := { name := "fnExactRoleName", fn := fun _ => fun
  | [d] => { results := [.lit (.bool false)], args := [d] }
  | _ => none }
def FnExactRoleNameWrongFalsely : Prop := fnExactRoleNameRow.holds Try.pinned (OpenSpec.ofChange fnExactRoleNameWrong)

/-- 'laws.FnExactIsLease': WHATEVER THE INPUT: true; the input reads as it did. -/
def fnExactIsLeaseSpec : ChangeSpec := { name := "fnExactIsLease", fn := fun _ => fun
  | [d] => { results := [.lit (.bool true)], args := [d] }
  | _ => none }
def fnExactIsLeaseRow : OpenClaim := { program := "ytgbcdmbnlcnidaa", sum := "338bea7515c209011bb007fdefb81a4c3ea8783f0d37a4a9d994c7deb1427ba0", func := "loop.example/g01926/laws.FnExactIsLease", spec := "fnExactIsLease", apart := false }
def FnExactIsLeaseSaid : Prop := fnExactIsLeaseRow.holds Try.pinned (OpenSpec.ofChange fnExactIsLeaseSpec)

/-- ITS FALSE NEIGHBOUR: 'it returns false'. Refute it at one input. -/
def fnExactIsLeaseWrong : ChangeSpec := { name := "fnExactIsLease", fn := fun _ => fun
  | [d] => { results := [.lit (.bool false)], args := [d] }
  | _ => none }
def FnExactIsLeaseWrongFalsely : Prop := fnExactIsLeaseRow.holds Try.pinned (OpenSpec.ofChange fnExactIsLeaseWrong)

/-- 'laws.FnExactHoldsLease': WHATEVER THE INPUT: true; the input reads as it did. -/
def fnExactHoldsLeaseSpec : ChangeSpec := { name := "fnExactHoldsLease", fn := fun _ => fun
  | [d1, d2, d3, d4] => { results := [.lit (.bool true)], args := [d1, d2, d3, d4] }
  | _ => none }
def fnExactHoldsLeaseRow : OpenClaim := { program := "ytgbcdmbnlcnidaa", sum := "338bea7515c209011bb007fdefb81a4c3ea8783f0d37a4a9d994c7deb1427ba0", func := "loop.example/g01926/laws.FnExactHoldsLease", spec := "fnExactHoldsLease", apart := false }
def FnExactHoldsLeaseSaid : Prop := fnExactHoldsLeaseRow.holds Try.pinned (OpenSpec.ofChange fnExactHoldsLeaseSpec)

/-- ITS FALSE NEIGHBOUR: 'it returns false'. Refute it at one input. -/
def fnExactHoldsLeaseWrong : ChangeSpec := { name := "fnExactHoldsLease", fn := fun _ => fun
  | [d1, d2, d3, d4] => { results := [.lit (.bool false)], args := [d1, d2, d3, d4] }
  | _ => none }
def FnExactHoldsLeaseWrongFalsely : Prop := fnExactHoldsLeaseRow.holds Try.pinned (OpenSpec.ofChange fnExactHoldsLeaseWrong)

/-- 'laws.FnExactSafeTime': WHATEVER THE INPUT: true; the input reads as it did. -/
def fnExactSafeTimeSpec : ChangeSpec := { name := "fnExactSafeTime", fn := fun _ => fun
  | [d] => { results := [.lit (.bool true)], args := [d] }
  | _ => none }
def fnExactSafeTimeRow : OpenClaim := { program := "ytgbcdmbnlcnidaa", sum := "338bea7515c209011bb007fdefb81a4c3ea8783f0d37a4a9d994c7deb1427ba0", func := "loop.example/g01926/laws.FnExactSafeTime", spec := "fnExactSafeTime", apart := false }
def FnExactSafeTimeSaid : Prop := fnExactSafeTimeRow.holds Try.pinned (OpenSpec.ofChange fnExactSafeTimeSpec)

/-- ITS FALSE NEIGHBOUR: 'it returns false'. Refute it at one input. -/
def fnExactSafeTimeWrong : ChangeSpec := { name := "fnExactSafeTime", fn := fun _ => fun
  | [d] => { results := [.lit (.bool false)], args := [d] }
  | _ => none }
def FnExactSafeTimeWrongFalsely : Prop := fnExactSafeTimeRow.holds Try.pinned (OpenSpec.ofChange fnExactSafeTimeWrong)

/-- 'laws.FnExactLeaseIsOver': WHATEVER THE INPUT: true; the input reads as it did. -/
def fnExactLeaseIsOverSpec : ChangeSpec := { name := "fnExactLeaseIsOver", fn := fun _ => fun
  | [d1, d2] => { results := [.lit (.bool true)], args := [d1, d2] }
  | _ => none }
def fnExactLeaseIsOverRow : OpenClaim := { program := "ytgbcdmbnlcnidaa", sum := "338bea7515c209011bb007fdefb81a4c3ea8783f0d37a4a9d994c7deb1427ba0", func := "loop.example/g01926/laws.FnExactLeaseIsOver", spec := "fnExactLeaseIsOver", apart := false }
def FnExactLeaseIsOverSaid : Prop := fnExactLeaseIsOverRow.holds Try.pinned (OpenSpec.ofChange fnExactLeaseIsOverSpec)

/-- ITS FALSE NEIGHBOUR: 'it returns false'. Refute it at one input. -/
def fnExactLeaseIsOverWrong : ChangeSpec := { name := "fnExactLeaseIsOver", fn := fun _ => fun
  | [d1, d2] => { results := [.lit (.bool false)], args := [d1, d2] }
  | _ => none }
def FnExactLeaseIsOverWrongFalsely : Prop := fnExactLeaseIsOverRow.holds Try.pinned (OpenSpec.ofChange fnExactLeaseIsOverWrong)

/-- 'laws.FnExactArePlaces': WHATEVER THE INPUT: true; the input reads as it did. -/
def fnExactArePlacesSpec : ChangeSpec := { name := "fnExactArePlaces", fn := fun _ => fun
  | [d] => { results := [.lit (.bool true)], args := [d] }
  | _ => none }
def fnExactArePlacesRow : OpenClaim := { program := "ytgbcdmbnlcnidaa", sum := "338bea7515c209011bb007fdefb81a4c3ea8783f0d37a4a9d994c7deb1427ba0", func := "loop.example/g01926/laws.FnExactArePlaces", spec := "fnExactArePlaces", unfollowed := true, recurses := true, apart := false }
def FnExactArePlacesSaid : Prop := fnExactArePlacesRow.holds Try.pinned (OpenSpec.ofChange fnExactArePlacesSpec)

/-- ITS FALSE NEIGHBOUR: 'it returns false'. Refute it at one input. -/
def fnExactArePlacesWrong : ChangeSpec := { name := "fnExactArePlaces", fn := fun _ => fun
  | [d] => { results := [.lit (.bool false)], args := [d] }
  | _ => none }
def FnExactArePlacesWrongFalsely : Prop := fnExactArePlacesRow.holds Try.pinned (OpenSpec.ofChange fnExactArePlacesWrong)

/- THE SECOND FORM. 'bulk': how many values and letters a reading holds, each counted each time it is reached (what is shared counts as often as it is met; a slice's spare places count too). A statement '..UptoSaid' is the law's where the arguments, and the package variables that the reading takes, are together of bulk at most 1048576: NARROWER than '..Said'. Prove '..Said' where nothing that the law and all that it calls make is longer than what came in: it says more and counts as full. Else prove '..UptoSaid'. A law counts once. -/
mutual
def uptoBulk {H : Type} : DataW H → Nat
  | .lit (.string bytes) => bytes.length + 1
  | .lit _ => 1
  | .nil => 1
  | .ptr d => uptoBulk d + 1
  | .slice elems spare => uptoBulkAll elems + uptoBulkAll spare + 1
  | .agg parts => uptoBulkAll parts + 1
  | .iface _ d => uptoBulk d + 1
  | .map entries => uptoBulkEntries entries + 1
  | .held _ => 1
def uptoBulkAll {H : Type} : List (DataW H) → Nat
  | [] => 0
  | d :: r => uptoBulk d + uptoBulkAll r
def uptoBulkEntries {H : Type} : List (Lit × DataW H) → Nat
  | [] => 0
  | x :: r => uptoBulkEntry x + uptoBulkEntries r
def uptoBulkEntry {H : Type} : Lit × DataW H → Nat
  | (.string bytes, d) => bytes.length + uptoBulk d + 1
  | (_, d) => uptoBulk d + 1
 end
def uptoSmall : (H : Type) → List (DataW H) → Bool := fun _ ds => decide (uptoBulkAll ds ≤ 1048576)
def OpenSpec.upto (s : _root_.Go.ChangeSpec) : _root_.Go.OpenSpec := { _root_.Go.OpenSpec.ofChange s with cond := some uptoSmall }

/-- 'laws.FnExactRoleName', WHERE WHAT IT READS IS OF BULK AT MOST 1048576: true; the input reads as it did. -/
def fnExactRoleNameUptoRow : OpenClaim := { program := "ytgbcdmbnlcnidaa", sum := "338bea7515c209011bb007fdefb81a4c3ea8783f0d37a4a9d994c7deb1427ba0", func := "loop.example/g01926/laws.FnExactRoleName", spec := "fnExactRoleName", apart := false, narrowed := true }
def FnExactRoleNameUptoSaid : Prop := fnExactRoleNameUptoRow.holds Try.pinned (OpenSpec.upto fnExactRoleNameSpec)

/-- 'laws.FnExactIsLease', WHERE WHAT IT READS IS OF BULK AT MOST 1048576: true; the input reads as it did. -/
def fnExactIsLeaseUptoRow : OpenClaim := { program := "ytgbcdmbnlcnidaa", sum := "338bea7515c209011bb007fdefb81a4c3ea8783f0d37a4a9d994c7deb1427ba0", func := "loop.example/g01926/laws.FnExactIsLease", spec := "fnExactIsLease", apart := false, narrowed := true }
def FnExactIsLeaseUptoSaid : Prop := fnExactIsLeaseUptoRow.holds Try.pinned (OpenSpec.upto fnExactIsLeaseSpec)

/-- 'laws.FnExactHoldsLease', WHERE WHAT IT READS IS OF BULK AT MOST 1048576: true; the input reads as it did. -/
def fnExactHoldsLeaseUptoRow : OpenClaim := { program := "ytgbcdmbnlcnidaa", sum := "338bea7515c209011bb007fdefb81a4c3ea8783f0d37a4a9d994c7deb1427ba0", func := "loop.example/g01926/laws.FnExactHoldsLease", spec := "fnExactHoldsLease", apart := false, narrowed := true }
def FnExactHoldsLeaseUptoSaid : Prop := fnExactHoldsLeaseUptoRow.holds Try.pinned (OpenSpec.upto fnExactHoldsLeaseSpec)

/-- 'laws.FnExactSafeTime', WHERE WHAT IT READS IS OF BULK AT MOST 1048576: true; the input reads as it did. -/
def fnExactSafeTimeUptoRow : OpenClaim := { program := "ytgbcdmbnlcnidaa", sum := "338bea7515c209011bb007fdefb81a4c3ea8783f0d37a4a9d994c7deb1427ba0", func := "loop.example/g01926/laws.FnExactSafeTime", spec := "fnExactSafeTime", apart := false, narrowed := true }
def FnExactSafeTimeUptoSaid : Prop := fnExactSafeTimeUptoRow.holds Try.pinned (OpenSpec.upto fnExactSafeTimeSpec)

/-- 'laws.FnExactLeaseIsOver', WHERE WHAT IT READS IS OF BULK AT MOST 1048576: true; the input reads as it did. -/
def fnExactLeaseIsOverUptoRow : OpenClaim := { program := "ytgbcdmbnlcnidaa", sum := "338bea7515c209011bb007fdefb81a4c3ea8783f0d37a4a9d994c7deb1427ba0", func := "loop.example/g01926/laws.FnExactLeaseIsOver", spec := "fnExactLeaseIsOver", apart := false, narrowed := true }
def FnExactLeaseIsOverUptoSaid : Prop := fnExactLeaseIsOverUptoRow.holds Try.pinned (OpenSpec.upto fnExactLeaseIsOverSpec)

/-- 'laws.FnExactArePlaces', WHERE WHAT IT READS IS OF BULK AT MOST 1048576: true; the input reads as it did. -/
def fnExactArePlacesUptoRow : OpenClaim := { program := "ytgbcdmbnlcnidaa", sum := "338bea7515c209011bb007fdefb81a4c3ea8783f0d37a4a9d994c7deb1427ba0", func := "loop.example/g01926/laws.FnExactArePlaces", spec := "fnExactArePlaces", unfollowed := true, recurses := true, apart := false, narrowed := true }
def FnExactArePlacesUptoSaid : Prop := fnExactArePlacesUptoRow.holds Try.pinned (OpenSpec.upto fnExactArePlacesSpec)

end Rows
end Go.Proofs.Ytgbcdmbnlcnidaa
