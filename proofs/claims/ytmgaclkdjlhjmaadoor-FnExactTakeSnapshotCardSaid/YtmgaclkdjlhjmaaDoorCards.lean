/-
  DERIVED. GIVEN WITH THE SEED: THE CARDS: each row of YtmgaclkdjlhjmaaDoorRows.lean that lists a variable, with what it lists TIED to the program's text (the seventh form; the later family's looks); each row that meets fmt, with fmt's text TOLD by the authors' own Lean function (tested against real Go, not proved from fmt's source: count such statements apart). THE CARD IS WHAT COUNTS. Prove the row's statement (the work); the ties are given (YtmgaclkdjlhjmaaDoorTie.lean); close each card by the builder's one call (the guide's Derived/Test/ToyasCard.lean, 'card_holds'). Laid BY PROGRAM, IN A SANDBOX (cutbox-door.mjs). By AI agents, Wed Nov 11 2026. No macro, syntax, notation, axiom, sorry.
-/
import Derived.Test.YtmgaclkdjlhjmaaDoorRows
import GoSem.ClaimSeven
namespace Go.Proofs.YtmgaclkdjlhjmaaDoor
namespace Rows

/-- THE TIED CARD OF 'laws.FnExactTakeSnapshot'. -/
def fnExactTakeSnapshotCard : Claim7 := { stood := { row := fnExactTakeSnapshotRow, standIns := [], harness := (true, "0936846ce5635e944196f6012eaa72a3b99d957597a7e041170393bd1cdc5796"), looks := false }, kinds := [], alts := [], laidByText := true, laidKinds := [.data, .data, .data], laidTests := true, laidLooks := .later }
def FnExactTakeSnapshotCardSaid : Prop := Claim7.holds Tryd.pinned (.plain (OpenSpec.ofChange fnExactTakeSnapshotSpec)) fnExactTakeSnapshotCard

/-- THE SECOND FORM's CARD OF 'laws.FnExactTakeSnapshot'. -/
def fnExactTakeSnapshotUptoCard : Claim7 := { stood := { row := fnExactTakeSnapshotUptoRow, standIns := [], harness := (true, "0936846ce5635e944196f6012eaa72a3b99d957597a7e041170393bd1cdc5796"), looks := false }, kinds := [], alts := [], laidByText := true, laidKinds := [.data, .data, .data], laidTests := true, laidLooks := .later }
def FnExactTakeSnapshotUptoCardSaid : Prop := Claim7.holds Tryd.pinned (.plain (OpenSpec.upto fnExactTakeSnapshotSpec)) fnExactTakeSnapshotUptoCard
end Rows
end Go.Proofs.YtmgaclkdjlhjmaaDoor
