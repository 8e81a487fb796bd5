/-
  DERIVED. GIVEN WITH THE SEED: THE CARDS: each row of YtimhfljclimjeaaDoorRows.lean that lists a variable, with what it lists TIED to the program's text (the seventh form; the later family's looks); each row that meets fmt, with fmt's text TOLD by the authors' own Lean function (tested against real Go, not proved from fmt's source: count such statements apart). THE CARD IS WHAT COUNTS. Prove the row's statement (the work); the ties are given (YtimhfljclimjeaaDoorTie.lean); close each card by the builder's one call (the guide's Derived/Test/ToyasCard.lean, 'card_holds'). Laid BY PROGRAM, IN A SANDBOX (cutbox-door.mjs). By AI agents, Wed Nov 11 2026. No macro, syntax, notation, axiom, sorry.
-/
import Derived.Test.YtimhfljclimjeaaDoorRows
import GoSem.ClaimSeven
namespace Go.Proofs.YtimhfljclimjeaaDoor
namespace Rows

/-- THE TIED CARD OF 'laws.FnExactParseSnapshot'. -/
def fnExactParseSnapshotCard : Claim7 := { stood := { row := fnExactParseSnapshotRow, standIns := [], harness := (true, "005a3fc789c53a9caf35907026791831e1c76087cbc7fd885f5e401f2c7f8aae"), looks := false }, kinds := [], alts := [], laidByText := true, laidKinds := [.data, .data, .data, .data, .pinned], laidTests := true, laidLooks := .later }
def FnExactParseSnapshotCardSaid : Prop := Claim7.holds Tryd.pinned (.plain (OpenSpec.ofChange fnExactParseSnapshotSpec)) fnExactParseSnapshotCard

/-- THE SECOND FORM's CARD OF 'laws.FnExactParseSnapshot'. -/
def fnExactParseSnapshotUptoCard : Claim7 := { stood := { row := fnExactParseSnapshotUptoRow, standIns := [], harness := (true, "005a3fc789c53a9caf35907026791831e1c76087cbc7fd885f5e401f2c7f8aae"), looks := false }, kinds := [], alts := [], laidByText := true, laidKinds := [.data, .data, .data, .data, .pinned], laidTests := true, laidLooks := .later }
def FnExactParseSnapshotUptoCardSaid : Prop := Claim7.holds Tryd.pinned (.plain (OpenSpec.upto fnExactParseSnapshotSpec)) fnExactParseSnapshotUptoCard
end Rows
end Go.Proofs.YtimhfljclimjeaaDoor
