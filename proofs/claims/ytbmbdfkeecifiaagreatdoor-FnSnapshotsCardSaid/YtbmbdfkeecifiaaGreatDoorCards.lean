/-
  DERIVED. GIVEN WITH THE SEED: THE CARDS: each row of YtbmbdfkeecifiaaGreatDoorRows.lean that lists a variable, with what it lists TIED to the program's text (the seventh form; the later family's looks); each row that meets fmt, with fmt's text TOLD by the authors' own Lean function (tested against real Go, not proved from fmt's source: count such statements apart). THE CARD IS WHAT COUNTS. Prove the row's statement (the work); the ties are given (YtbmbdfkeecifiaaGreatDoorTie.lean); close each card by the builder's one call (the guide's Derived/Test/ToyasCard.lean, 'card_holds'). Laid BY PROGRAM, IN A SANDBOX (cutbox-door.mjs). By AI agents, Wed Nov 11 2026. No macro, syntax, notation, axiom, sorry.
-/
import Derived.Test.YtbmbdfkeecifiaaGreatDoorRows
import GoSem.ClaimSeven
namespace Go.Proofs.YtbmbdfkeecifiaaGreatDoor
namespace Rows

/-- THE TIED CARD OF 'laws.FnSnapshots'. -/
def fnSnapshotsCard : Claim7 := { stood := { row := fnSnapshotsRow, standIns := [], harness := (true, "9130a70b13311de1588d0d0aa543b8b0f16cb8e1fdb669900dd450ac0ebb81f0"), looks := false }, kinds := [], alts := [], laidByText := true, laidKinds := [.data, .data, .data, .data, .pinned], laidTests := true, laidLooks := .later }
def FnSnapshotsCardSaid : Prop := Claim7.holds Tryz.pinned (.plain (OpenSpec.ofChange fnSnapshotsSpec)) fnSnapshotsCard

/-- THE SECOND FORM's CARD OF 'laws.FnSnapshots'. -/
def fnSnapshotsUptoCard : Claim7 := { stood := { row := fnSnapshotsUptoRow, standIns := [], harness := (true, "9130a70b13311de1588d0d0aa543b8b0f16cb8e1fdb669900dd450ac0ebb81f0"), looks := false }, kinds := [], alts := [], laidByText := true, laidKinds := [.data, .data, .data, .data, .pinned], laidTests := true, laidLooks := .later }
def FnSnapshotsUptoCardSaid : Prop := Claim7.holds Tryz.pinned (.plain (OpenSpec.upto fnSnapshotsSpec)) fnSnapshotsUptoCard
end Rows
end Go.Proofs.YtbmbdfkeecifiaaGreatDoor
