/-
  DERIVED. GIVEN WITH THE SEED: THE CARDS: each row of YtgjnigpoemkkaaaGreatDoorRows.lean that lists a variable, with what it lists TIED to the program's text (the seventh form; the later family's looks); each row that meets fmt, with fmt's text TOLD by the authors' own Lean function (tested against real Go, not proved from fmt's source: count such statements apart). THE CARD IS WHAT COUNTS. Prove the row's statement (the work); the ties are given (YtgjnigpoemkkaaaGreatDoorTie.lean); close each card by the builder's one call (the guide's Derived/Test/ToyasCard.lean, 'card_holds'). Laid BY PROGRAM, IN A SANDBOX (cutbox-door.mjs). By AI agents, Wed Nov 11 2026. No macro, syntax, notation, axiom, sorry.
-/
import Derived.Test.YtgjnigpoemkkaaaGreatDoorRows
import GoSem.ClaimSeven
namespace Go.Proofs.YtgjnigpoemkkaaaGreatDoor
namespace Rows

/-- THE TIED CARD OF 'laws.FnOps'. -/
def fnOpsCard : Claim7 := { stood := { row := fnOpsRow, standIns := [], harness := (true, "5fdcbf0764ccd22f7750e8ebda455af8a03f5660e1fea1765bc5656be81a9091"), looks := false }, kinds := [], alts := [], laidByText := true, laidKinds := [.data, .data, .data, .data, .pinned], laidTests := true, laidLooks := .later }
def FnOpsCardSaid : Prop := Claim7.holds Tryz.pinned (.plain (OpenSpec.ofChange fnOpsSpec)) fnOpsCard

/-- THE SECOND FORM's CARD OF 'laws.FnOps'. -/
def fnOpsUptoCard : Claim7 := { stood := { row := fnOpsUptoRow, standIns := [], harness := (true, "5fdcbf0764ccd22f7750e8ebda455af8a03f5660e1fea1765bc5656be81a9091"), looks := false }, kinds := [], alts := [], laidByText := true, laidKinds := [.data, .data, .data, .data, .pinned], laidTests := true, laidLooks := .later }
def FnOpsUptoCardSaid : Prop := Claim7.holds Tryz.pinned (.plain (OpenSpec.upto fnOpsSpec)) fnOpsUptoCard
end Rows
end Go.Proofs.YtgjnigpoemkkaaaGreatDoor
