/-
  No cell of these rows narrows 'for every input' (looked for: loops, veiled, ifaces, maps, wideKeys, modest, calm, conditions, laid).
  DERIVED. THE GIVEN ROWS OF THIS SEAT. 12 by the template 'for every input the law returns true; each argument reads behind the call as it read before'; 0 by the template 'total and deterministic' (their statements: YtmllbaclcecliaaTotals.lean).
  GIVEN WITH THE SEED: the statements are not yours to turn. If you find one false, say at which input.
  Laid BY PROGRAM, IN A SANDBOX (cutbox-rows.mjs): the forced cells as the released guide's own fill.sh prints them over the translation fd00424594a93e52… (all of the seat's roots in one cut). By AI agents, Wed Nov 11 2026. No macro, syntax, notation, axiom, sorry.
-/
import Derived.Test.YtmllbaclcecliaaChecked
import GoSem.Claim
import GoSem.ClaimJoined
import GoSem.ClaimMapViews
import Derived.JoinedTies
import Derived.KernelRfl
namespace Go.Proofs.Ytmllbaclcecliaa
/- THE CELL 'sum', in the pinned program and in every row, IS THE sha256 OF THE DUMP (.gsa) THAT YtmllbaclcecliaaProg.lean LOADS. Nothing in Lean hashes anything: it is a label: what it is worth is what the hold of that sum in a sandbox is worth. -/
noncomputable def Try.pinned : Pinned := { name := "ytmllbaclcecliaa", sum := "fd00424594a93e52ea93d1ea904fe77d8741bf5ca03ecb5e46446c15079815f0", checked := Try.checked }
namespace Rows
def none {H : Type} : Left H := { results := [], args := [] }

/-- 'laws.FnExactCommittedPart': WHATEVER THE INPUT: true; the input reads as it did. -/
def fnExactCommittedPartSpec : ChangeSpec := { name := "fnExactCommittedPart", fn := fun _ => fun
  | [d] => { results := [.lit (.bool true)], args := [d] }
  | _ => none }
def fnExactCommittedPartRow : OpenClaim := { program := "ytmllbaclcecliaa", sum := "fd00424594a93e52ea93d1ea904fe77d8741bf5ca03ecb5e46446c15079815f0", func := "loop.example/g01926/laws.FnExactCommittedPart", spec := "fnExactCommittedPart", apart := false }
def FnExactCommittedPartSaid : Prop := fnExactCommittedPartRow.holds Try.pinned (OpenSpec.ofChange fnExactCommittedPartSpec)

/-- ITS FALSE NEIGHBOUR: 'it returns false'. Refute it at one input. -/
def fnExactCommittedPartWrong : ChangeSpec := { name := "fnExactCommittedPart", fn := fun _ => fun
  | [d] => { results := [.lit (.bool false)], args := [d] }
  | _ => none }
def FnExactCommittedPartWrongFalsely : Prop := fnExactCommittedPartRow.holds Try.pinned (OpenSpec.ofChange fnExactCommittedPartWrong)

/-- 'laws.FnTails': WHATEVER THE INPUT: true; the input reads as it did. -/
def fnTailsSpec : ChangeSpec := { name := "fnTails", fn := fun _ => fun
  | [d] => { results := [.lit (.bool true)], args := [d] }
  | _ => none }
def fnTailsRow : OpenClaim := { program := "ytmllbaclcecliaa", sum := "fd00424594a93e52ea93d1ea904fe77d8741bf5ca03ecb5e46446c15079815f0", func := "loop.example/g01926/laws.FnTails", spec := "fnTails", apart := false }
def FnTailsSaid : Prop := fnTailsRow.holds Try.pinned (OpenSpec.ofChange fnTailsSpec)

/-- ITS FALSE NEIGHBOUR: 'it returns false'. Refute it at one input. -/
def fnTailsWrong : ChangeSpec := { name := "fnTails", fn := fun _ => fun
  | [d] => { results := [.lit (.bool false)], args := [d] }
  | _ => none }
def FnTailsWrongFalsely : Prop := fnTailsRow.holds Try.pinned (OpenSpec.ofChange fnTailsWrong)

/-- 'laws.FnExactWipeServer': WHATEVER THE INPUT: true; the input reads as it did. -/
def fnExactWipeServerSpec : ChangeSpec := { name := "fnExactWipeServer", fn := fun _ => fun
  | [d] => { results := [.lit (.bool true)], args := [d] }
  | _ => none }
def fnExactWipeServerRow : OpenClaim := { program := "ytmllbaclcecliaa", sum := "fd00424594a93e52ea93d1ea904fe77d8741bf5ca03ecb5e46446c15079815f0", func := "loop.example/g01926/laws.FnExactWipeServer", spec := "fnExactWipeServer", apart := false }
def FnExactWipeServerSaid : Prop := fnExactWipeServerRow.holds Try.pinned (OpenSpec.ofChange fnExactWipeServerSpec)

/-- ITS FALSE NEIGHBOUR: 'it returns false'. Refute it at one input. -/
def fnExactWipeServerWrong : ChangeSpec := { name := "fnExactWipeServer", fn := fun _ => fun
  | [d] => { results := [.lit (.bool false)], args := [d] }
  | _ => none }
def FnExactWipeServerWrongFalsely : Prop := fnExactWipeServerRow.holds Try.pinned (OpenSpec.ofChange fnExactWipeServerWrong)

/-- 'laws.FnExactSealServer': WHATEVER THE INPUT: true; the input reads as it did. -/
def fnExactSealServerSpec : ChangeSpec := { name := "fnExactSealServer", fn := fun _ => fun
  | [d1, d2] => { results := [.lit (.bool true)], args := [d1, d2] }
  | _ => none }
def fnExactSealServerRow : OpenClaim := { program := "ytmllbaclcecliaa", sum := "fd00424594a93e52ea93d1ea904fe77d8741bf5ca03ecb5e46446c15079815f0", func := "loop.example/g01926/laws.FnExactSealServer", spec := "fnExactSealServer", apart := false }
def FnExactSealServerSaid : Prop := fnExactSealServerRow.holds Try.pinned (OpenSpec.ofChange fnExactSealServerSpec)

/-- ITS FALSE NEIGHBOUR: 'it returns false'. Refute it at one input. -/
def fnExactSealServerWrong : ChangeSpec := { name := "fnExactSealServer", fn := fun _ => fun
  | [d1, d2] => { results := [.lit (.bool false)], args := [d1, d2] }
  | _ => none }
def FnExactSealServerWrongFalsely : Prop := fnExactSealServerRow.holds Try.pinned (OpenSpec.ofChange fnExactSealServerWrong)

/-- 'laws.FnExactCountMoves': WHATEVER THE INPUT: true; the input reads as it did. -/
def fnExactCountMovesSpec : ChangeSpec := { name := "fnExactCountMoves", fn := fun _ => fun
  | [d1, d2] => { results := [.lit (.bool true)], args := [d1, d2] }
  | _ => none }
def fnExactCountMovesRow : OpenClaim := { program := "ytmllbaclcecliaa", sum := "fd00424594a93e52ea93d1ea904fe77d8741bf5ca03ecb5e46446c15079815f0", func := "loop.example/g01926/laws.FnExactCountMoves", spec := "fnExactCountMoves", unfollowed := true, recurses := true, apart := false }
def FnExactCountMovesSaid : Prop := fnExactCountMovesRow.holds Try.pinned (OpenSpec.ofChange fnExactCountMovesSpec)

/-- ITS FALSE NEIGHBOUR: 'it returns false'. Refute it at one input. -/
def fnExactCountMovesWrong : ChangeSpec := { name := "fnExactCountMoves", fn := fun _ => fun
  | [d1, d2] => { results := [.lit (.bool false)], args := [d1, d2] }
  | _ => none }
def FnExactCountMovesWrongFalsely : Prop := fnExactCountMovesRow.holds Try.pinned (OpenSpec.ofChange fnExactCountMovesWrong)

/-- 'laws.FnExactIsSpread': WHATEVER THE INPUT: true; the input reads as it did. -/
def fnExactIsSpreadSpec : ChangeSpec := { name := "fnExactIsSpread", fn := fun _ => fun
  | [d1, d2] => { results := [.lit (.bool true)], args := [d1, d2] }
  | _ => none }
def fnExactIsSpreadRow : OpenClaim := { program := "ytmllbaclcecliaa", sum := "fd00424594a93e52ea93d1ea904fe77d8741bf5ca03ecb5e46446c15079815f0", func := "loop.example/g01926/laws.FnExactIsSpread", spec := "fnExactIsSpread", unfollowed := true, recurses := true, apart := false }
def FnExactIsSpreadSaid : Prop := fnExactIsSpreadRow.holds Try.pinned (OpenSpec.ofChange fnExactIsSpreadSpec)

/-- ITS FALSE NEIGHBOUR: 'it returns false'. Refute it at one input. -/
def fnExactIsSpreadWrong : ChangeSpec := { name := "fnExactIsSpread", fn := fun _ => fun
  | [d1, d2] => { results := [.lit (.bool false)], args := [d1, d2] }
  | _ => none }
def FnExactIsSpreadWrongFalsely : Prop := fnExactIsSpreadRow.holds Try.pinned (OpenSpec.ofChange fnExactIsSpreadWrong)

/-- 'laws.FnExactIsValidConfig': WHATEVER THE INPUT: true; the input reads as it did. -/
def fnExactIsValidConfigSpec : ChangeSpec := { name := "fnExactIsValidConfig", fn := fun _ => fun
  | [d] => { results := [.lit (.bool true)], args := [d] }
  | _ => none }
def fnExactIsValidConfigRow : OpenClaim := { program := "ytmllbaclcecliaa", sum := "fd00424594a93e52ea93d1ea904fe77d8741bf5ca03ecb5e46446c15079815f0", func := "loop.example/g01926/laws.FnExactIsValidConfig", spec := "fnExactIsValidConfig", unfollowed := true, recurses := true, apart := false }
def FnExactIsValidConfigSaid : Prop := fnExactIsValidConfigRow.holds Try.pinned (OpenSpec.ofChange fnExactIsValidConfigSpec)

/-- ITS FALSE NEIGHBOUR: 'it returns false'. Refute it at one input. -/
def fnExactIsValidConfigWrong : ChangeSpec := { name := "fnExactIsValidConfig", fn := fun _ => fun
  | [d] => { results := [.lit (.bool false)], args := [d] }
  | _ => none }
def FnExactIsValidConfigWrongFalsely : Prop := fnExactIsValidConfigRow.holds Try.pinned (OpenSpec.ofChange fnExactIsValidConfigWrong)

/-- 'laws.FnExactRacksOf': WHATEVER THE INPUT: true; the input reads as it did. -/
def fnExactRacksOfSpec : ChangeSpec := { name := "fnExactRacksOf", fn := fun _ => fun
  | [d1, d2] => { results := [.lit (.bool true)], args := [d1, d2] }
  | _ => none }
def fnExactRacksOfRow : OpenClaim := { program := "ytmllbaclcecliaa", sum := "fd00424594a93e52ea93d1ea904fe77d8741bf5ca03ecb5e46446c15079815f0", func := "loop.example/g01926/laws.FnExactRacksOf", spec := "fnExactRacksOf", unfollowed := true, recurses := true, apart := false }
def FnExactRacksOfSaid : Prop := fnExactRacksOfRow.holds Try.pinned (OpenSpec.ofChange fnExactRacksOfSpec)

/-- ITS FALSE NEIGHBOUR: 'it returns false'. Refute it at one input. -/
def fnExactRacksOfWrong : ChangeSpec := { name := "fnExactRacksOf", fn := fun _ => fun
  | [d1, d2] => { results := [.lit (.bool false)], args := [d1, d2] }
  | _ => none }
def FnExactRacksOfWrongFalsely : Prop := fnExactRacksOfRow.holds Try.pinned (OpenSpec.ofChange fnExactRacksOfWrong)

/-- 'laws.FnExactRoleOf': WHATEVER THE INPUT: true; the input reads as it did. -/
def fnExactRoleOfSpec : ChangeSpec := { name := "fnExactRoleOf", fn := fun _ => fun
  | [d1, d2] => { results := [.lit (.bool true)], args := [d1, d2] }
  | _ => none }
def fnExactRoleOfRow : OpenClaim := { program := "ytmllbaclcecliaa", sum := "fd00424594a93e52ea93d1ea904fe77d8741bf5ca03ecb5e46446c15079815f0", func := "loop.example/g01926/laws.FnExactRoleOf", spec := "fnExactRoleOf", unfollowed := true, recurses := true, apart := false }
def FnExactRoleOfSaid : Prop := fnExactRoleOfRow.holds Try.pinned (OpenSpec.ofChange fnExactRoleOfSpec)

/-- ITS FALSE NEIGHBOUR: 'it returns false'. Refute it at one input. -/
def fnExactRoleOfWrong : ChangeSpec := { name := "fnExactRoleOf", fn := fun _ => fun
  | [d1, d2] => { results := [.lit (.bool false)], args := [d1, d2] }
  | _ => none }
def FnExactRoleOfWrongFalsely : Prop := fnExactRoleOfRow.holds Try.pinned (OpenSpec.ofChange fnExactRoleOfWrong)

/-- 'laws.FnExactPickSpare': WHATEVER THE INPUT: true; the input reads as it did. -/
def fnExactPickSpareSpec : ChangeSpec := { name := "fnExactPickSpare", fn := fun _ => fun
  | [d1, d2, d3] => { results := [.lit (.bool true)], args := [d1, d2, d3] }
  | _ => none }
def fnExactPickSpareRow : OpenClaim := { program := "ytmllbaclcecliaa", sum := "fd00424594a93e52ea93d1ea904fe77d8741bf5ca03ecb5e46446c15079815f0", func := "loop.example/g01926/laws.FnExactPickSpare", spec := "fnExactPickSpare", unfollowed := true, recurses := true, apart := false }
def FnExactPickSpareSaid : Prop := fnExactPickSpareRow.holds Try.pinned (OpenSpec.ofChange fnExactPickSpareSpec)

/-- ITS FALSE NEIGHBOUR: 'it returns false'. Refute it at one input. -/
def fnExactPickSpareWrong : ChangeSpec := { name := "fnExactPickSpare", fn := fun _ => fun
  | [d1, d2, d3] => { results := [.lit (.bool false)], args := [d1, d2, d3] }
  | _ => none }
def FnExactPickSpareWrongFalsely : Prop := fnExactPickSpareRow.holds Try.pinned (OpenSpec.ofChange fnExactPickSpareWrong)

/-- 'laws.FnExactIsValidAcceptor': WHATEVER THE INPUT: true; the input reads as it did. -/
def fnExactIsValidAcceptorSpec : ChangeSpec := { name := "fnExactIsValidAcceptor", fn := fun _ => fun
  | [d] => { results := [.lit (.bool true)], args := [d] }
  | _ => none }
def fnExactIsValidAcceptorRow : OpenClaim := { program := "ytmllbaclcecliaa", sum := "fd00424594a93e52ea93d1ea904fe77d8741bf5ca03ecb5e46446c15079815f0", func := "loop.example/g01926/laws.FnExactIsValidAcceptor", spec := "fnExactIsValidAcceptor", unfollowed := true, recurses := true, apart := false }
def FnExactIsValidAcceptorSaid : Prop := fnExactIsValidAcceptorRow.holds Try.pinned (OpenSpec.ofChange fnExactIsValidAcceptorSpec)

/-- ITS FALSE NEIGHBOUR: 'it returns false'. Refute it at one input. -/
def fnExactIsValidAcceptorWrong : ChangeSpec := { name := "fnExactIsValidAcceptor", fn := fun _ => fun
  | [d] => { results := [.lit (.bool false)], args := [d] }
  | _ => none }
def FnExactIsValidAcceptorWrongFalsely : Prop := fnExactIsValidAcceptorRow.holds Try.pinned (OpenSpec.ofChange fnExactIsValidAcceptorWrong)

/-- 'laws.FnExactIsMasterLog': WHATEVER THE INPUT: true; the input reads as it did. -/
def fnExactIsMasterLogSpec : ChangeSpec := { name := "fnExactIsMasterLog", fn := fun _ => fun
  | [d] => { results := [.lit (.bool true)], args := [d] }
  | _ => none }
def fnExactIsMasterLogRow : OpenClaim := { program := "ytmllbaclcecliaa", sum := "fd00424594a93e52ea93d1ea904fe77d8741bf5ca03ecb5e46446c15079815f0", func := "loop.example/g01926/laws.FnExactIsMasterLog", spec := "fnExactIsMasterLog", unfollowed := true, recurses := true, apart := false }
def FnExactIsMasterLogSaid : Prop := fnExactIsMasterLogRow.holds Try.pinned (OpenSpec.ofChange fnExactIsMasterLogSpec)

/-- ITS FALSE NEIGHBOUR: 'it returns false'. Refute it at one input. -/
def fnExactIsMasterLogWrong : ChangeSpec := { name := "fnExactIsMasterLog", fn := fun _ => fun
  | [d] => { results := [.lit (.bool false)], args := [d] }
  | _ => none }
def FnExactIsMasterLogWrongFalsely : Prop := fnExactIsMasterLogRow.holds Try.pinned (OpenSpec.ofChange fnExactIsMasterLogWrong)

/- THE SECOND FORM. 'bulk': how many values and letters a reading holds, each counted each time it is reached (what is shared counts as often as it is met; a slice's spare places count too). A statement '..UptoSaid' is the law's where the arguments, and the package variables that the reading takes, are together of bulk at most 1048576: NARROWER than '..Said'. Prove '..Said' where nothing that the law and all that it calls make is longer than what came in: it says more and counts as full. Else prove '..UptoSaid'. A law counts once. -/
mutual
def uptoBulk {H : Type} : DataW H → Nat
  | .lit (.string bytes) => bytes.length + 1
  | .lit _ => 1
  | .nil => 1
  | .ptr d => uptoBulk d + 1
  | .slice elems spare => uptoBulkAll elems + uptoBulkAll spare + 1
  | .agg parts => uptoBulkAll parts + 1
  | .iface _ d => uptoBulk d + 1
  | .map entries => uptoBulkEntries entries + 1
  | .held _ => 1
def uptoBulkAll {H : Type} : List (DataW H) → Nat
  | [] => 0
  | d :: r => uptoBulk d + uptoBulkAll r
def uptoBulkEntries {H : Type} : List (Lit × DataW H) → Nat
  | [] => 0
  | x :: r => uptoBulkEntry x + uptoBulkEntries r
def uptoBulkEntry {H : Type} : Lit × DataW H → Nat
  | (.string bytes, d) => bytes.length + uptoBulk d + 1
  | (_, d) => uptoBulk d + 1
 end
def uptoSmall : (H : Type) → List (DataW H) → Bool := fun _ ds => decide (uptoBulkAll ds ≤ 1048576)
def OpenSpec.upto (s : _root_.Go.ChangeSpec) : _root_.Go.OpenSpec := { _root_.Go.OpenSpec.ofChange s with cond := some uptoSmall }

/-- 'laws.FnExactCommittedPart', WHERE WHAT IT READS IS OF BULK AT MOST 1048576: true; the input reads as it did. -/
def fnExactCommittedPartUptoRow : OpenClaim := { program := "ytmllbaclcecliaa", sum := "fd00424594a93e52ea93d1ea904fe77d8741bf5ca03ecb5e46446c15079815f0", func := "loop.example/g01926/laws.FnExactCommittedPart", spec := "fnExactCommittedPart", apart := false, narrowed := true }
def FnExactCommittedPartUptoSaid : Prop := fnExactCommittedPartUptoRow.holds Try.pinned (OpenSpec.upto fnExactCommittedPartSpec)

/-- 'laws.FnTails', WHERE WHAT IT READS IS OF BULK AT MOST 1048576: true; the input reads as it did. -/
def fnTailsUptoRow : OpenClaim := { program := "ytmllbaclcecliaa", sum := "fd00424594a93e52ea93d1ea904fe77d8741bf5ca03ecb5e46446c15079815f0", func := "loop.example/g01926/laws.FnTails", spec := "fnTails", apart := false, narrowed := true }
def FnTailsUptoSaid : Prop := fnTailsUptoRow.holds Try.pinned (OpenSpec.upto fnTailsSpec)

/-- 'laws.FnExactWipeServer', WHERE WHAT IT READS IS OF BULK AT MOST 1048576: true; the input reads as it did. -/
def fnExactWipeServerUptoRow : OpenClaim := { program := "ytmllbaclcecliaa", sum := "fd00424594a93e52ea93d1ea904fe77d8741bf5ca03ecb5e46446c15079815f0", func := "loop.example/g01926/laws.FnExactWipeServer", spec := "fnExactWipeServer", apart := false, narrowed := true }
def FnExactWipeServerUptoSaid : Prop := fnExactWipeServerUptoRow.holds Try.pinned (OpenSpec.upto fnExactWipeServerSpec)

/-- 'laws.FnExactSealServer', WHERE WHAT IT READS IS OF BULK AT MOST 1048576: true; the input reads as it did. -/
def fnExactSealServerUptoRow : OpenClaim := { program := "ytmllbaclcecliaa", sum := "fd00424594a93e52ea93d1ea904fe77d8741bf5ca03ecb5e46446c15079815f0", func := "loop.example/g01926/laws.FnExactSealServer", spec := "fnExactSealServer", apart := false, narrowed := true }
def FnExactSealServerUptoSaid : Prop := fnExactSealServerUptoRow.holds Try.pinned (OpenSpec.upto fnExactSealServerSpec)

/-- 'laws.FnExactCountMoves', WHERE WHAT IT READS IS OF BULK AT MOST 1048576: true; the input reads as it did. -/
def fnExactCountMovesUptoRow : OpenClaim := { program := "ytmllbaclcecliaa", sum := "fd00424594a93e52ea93d1ea904fe77d8741bf5ca03ecb5e46446c15079815f0", func := "loop.example/g01926/laws.FnExactCountMoves", spec := "fnExactCountMoves", unfollowed := true, recurses := true, apart := false, narrowed := true }
def FnExactCountMovesUptoSaid : Prop := fnExactCountMovesUptoRow.holds Try.pinned (OpenSpec.upto fnExactCountMovesSpec)

/-- 'laws.FnExactIsSpread', WHERE WHAT IT READS IS OF BULK AT MOST 1048576: true; the input reads as it did. -/
def fnExactIsSpreadUptoRow : OpenClaim := { program := "ytmllbaclcecliaa", sum := "fd00424594a93e52ea93d1ea904fe77d8741bf5ca03ecb5e46446c15079815f0", func := "loop.example/g01926/laws.FnExactIsSpread", spec := "fnExactIsSpread", unfollowed := true, recurses := true, apart := false, narrowed := true }
def FnExactIsSpreadUptoSaid : Prop := fnExactIsSpreadUptoRow.holds Try.pinned (OpenSpec.upto fnExactIsSpreadSpec)

/-- 'laws.FnExactIsValidConfig', WHERE WHAT IT READS IS OF BULK AT MOST 1048576: true; the input reads as it did. -/
def fnExactIsValidConfigUptoRow : OpenClaim := { program := "ytmllbaclcecliaa", sum := "fd00424594a93e52ea93d1ea904fe77d8741bf5ca03ecb5e46446c15079815f0", func := "loop.example/g01926/laws.FnExactIsValidConfig", spec := "fnExactIsValidConfig", unfollowed := true, recurses := true, apart := false, narrowed := true }
def FnExactIsValidConfigUptoSaid : Prop := fnExactIsValidConfigUptoRow.holds Try.pinned (OpenSpec.upto fnExactIsValidConfigSpec)

/-- 'laws.FnExactRacksOf', WHERE WHAT IT READS IS OF BULK AT MOST 1048576: true; the input reads as it did. -/
def fnExactRacksOfUptoRow : OpenClaim := { program := "ytmllbaclcecliaa", sum := "fd00424594a93e52ea93d1ea904fe77d8741bf5ca03ecb5e46446c15079815f0", func := "loop.example/g01926/laws.FnExactRacksOf", spec := "fnExactRacksOf", unfollowed := true, recurses := true, apart := false, narrowed := true }
def FnExactRacksOfUptoSaid : Prop := fnExactRacksOfUptoRow.holds Try.pinned (OpenSpec.upto fnExactRacksOfSpec)

/-- 'laws.FnExactRoleOf', WHERE WHAT IT READS IS OF BULK AT MOST 1048576: true; the input reads as it did. -/
def fnExactRoleOfUptoRow : OpenClaim := { program := "ytmllbaclcecliaa", sum := "fd00424594a93e52ea93d1ea904fe77d8741bf5ca03ecb5e46446c15079815f0", func := "loop.example/g01926/laws.FnExactRoleOf", spec := "fnExactRoleOf", unfollowed := true, recurses := true, apart := false, narrowed := true }
def FnExactRoleOfUptoSaid : Prop := fnExactRoleOfUptoRow.holds Try.pinned (OpenSpec.upto fnExactRoleOfSpec)

/-- 'laws.FnExactPickSpare', WHERE WHAT IT READS IS OF BULK AT MOST 1048576: true; the input reads as it did. -/
def fnExactPickSpareUptoRow : OpenClaim := { program := "ytmllbaclcecliaa", sum := "fd00424594a93e52ea93d1ea904fe77d8741bf5ca03ecb5e46446c15079815f0", func := "loop.example/g01926/laws.FnExactPickSpare", spec := "fnExactPickSpare", unfollowed := true, recurses := true, apart := false, narrowed := true }
def FnExactPickSpareUptoSaid : Prop := fnExactPickSpareUptoRow.holds Try.pinned (OpenSpec.upto fnExactPickSpareSpec)

/-- 'laws.FnExactIsValidAcceptor', WHERE WHAT IT READS IS OF BULK AT MOST 1048576: true; the input reads as it did. -/
def fnExactIsValidAcceptorUptoRow : OpenClaim := { program := "ytmllbaclcecliaa", sum := "fd00424594a93e52ea93d1ea904fe77d8741bf5ca03ecb5e46446c15079815f0", func := "loop.example/g01926/laws.FnExactIsValidAcceptor", spec := "fnExactIsValidAcceptor", unfollowed := true, recurses := true, apart := false, narrowed := true }
def FnExactIsValidAcceptorUptoSaid : Prop := fnExactIsValidAcceptorUptoRow.holds Try.pinned (OpenSpec.upto fnExactIsValidAcceptorSpec)

/-- 'laws.FnExactIsMasterLog', WHERE WHAT IT READS IS OF BULK AT MOST 1048576: true; the input reads as it did. -/
def fnExactIsMasterLogUptoRow : OpenClaim := { program := "ytmllbaclcecliaa", sum := "fd00424594a93e52ea93d1ea904fe77d8741bf5ca03ecb5e46446c15079815f0", func := "loop.example/g01926/laws.FnExactIsMasterLog", spec := "fnExactIsMasterLog", unfollowed := true, recurses := true, apart := false, narrowed := true }
def FnExactIsMasterLogUptoSaid : Prop := fnExactIsMasterLogUptoRow.holds Try.pinned (OpenSpec.upto fnExactIsMasterLogSpec)

end Rows
end Go.Proofs.Ytmllbaclcecliaa
