/-
  DERIVED. GIVEN WITH THE SEED: THE CARDS: each row of YtijbkmealfjnaaaGreatDoorRows.lean that lists a variable, with what it lists TIED to the program's text (the seventh form; the later family's looks); each row that meets fmt, with fmt's text TOLD by the authors' own Lean function (tested against real Go, not proved from fmt's source: count such statements apart). THE CARD IS WHAT COUNTS. Prove the row's statement (the work); the ties are given (YtijbkmealfjnaaaGreatDoorTie.lean); close each card by the builder's one call (the guide's Derived/Test/ToyasCard.lean, 'card_holds'). Laid BY PROGRAM, IN A SANDBOX (cutbox-door.mjs). By AI agents, Wed Nov 11 2026. No macro, syntax, notation, axiom, sorry.
-/
import Derived.Test.YtijbkmealfjnaaaGreatDoorRows
import GoSem.ClaimSeven
namespace Go.Proofs.YtijbkmealfjnaaaGreatDoor
namespace Rows

/-- THE TIED CARD OF 'laws.FnExactParseConfig'. -/
def fnExactParseConfigCard : Claim7 := { stood := { row := fnExactParseConfigRow, standIns := [], harness := (true, "c56f3dabc6dbf3dce28d7b8eb897a6e2f729c4568bfd09b4ddfd57b2004e6691"), looks := false }, kinds := [], alts := [], laidByText := true, laidKinds := [.data, .data, .data, .data, .pinned], laidTests := true, laidLooks := .later }
def FnExactParseConfigCardSaid : Prop := Claim7.holds Tryz.pinned (.plain (OpenSpec.ofChange fnExactParseConfigSpec)) fnExactParseConfigCard

/-- THE SECOND FORM's CARD OF 'laws.FnExactParseConfig'. -/
def fnExactParseConfigUptoCard : Claim7 := { stood := { row := fnExactParseConfigUptoRow, standIns := [], harness := (true, "c56f3dabc6dbf3dce28d7b8eb897a6e2f729c4568bfd09b4ddfd57b2004e6691"), looks := false }, kinds := [], alts := [], laidByText := true, laidKinds := [.data, .data, .data, .data, .pinned], laidTests := true, laidLooks := .later }
def FnExactParseConfigUptoCardSaid : Prop := Claim7.holds Tryz.pinned (.plain (OpenSpec.upto fnExactParseConfigSpec)) fnExactParseConfigUptoCard
end Rows
end Go.Proofs.YtijbkmealfjnaaaGreatDoor
