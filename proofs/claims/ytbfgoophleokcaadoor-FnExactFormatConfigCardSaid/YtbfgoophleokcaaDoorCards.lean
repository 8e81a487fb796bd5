/-
  DERIVED. GIVEN WITH THE SEED: THE CARDS: each row of YtbfgoophleokcaaDoorRows.lean that lists a variable, with what it lists TIED to the program's text (the seventh form; the later family's looks); each row that meets fmt, with fmt's text TOLD by the authors' own Lean function (tested against real Go, not proved from fmt's source: count such statements apart). THE CARD IS WHAT COUNTS. Prove the row's statement (the work); the ties are given (YtbfgoophleokcaaDoorTie.lean); close each card by the builder's one call (the guide's Derived/Test/ToyasCard.lean, 'card_holds'). Laid BY PROGRAM, IN A SANDBOX (cutbox-door.mjs). By AI agents, Wed Nov 11 2026. No macro, syntax, notation, axiom, sorry.
-/
import Derived.Test.YtbfgoophleokcaaDoorRows
import GoSem.ClaimSeven
namespace Go.Proofs.YtbfgoophleokcaaDoor
namespace Rows

/-- THE TIED CARD OF 'laws.FnExactFormatConfig'. -/
def fnExactFormatConfigCard : Claim7 := { stood := { row := fnExactFormatConfigRow, standIns := [], harness := (true, "9583d89e652d6e01188ce81ab670cf7e325b49292edc76d9cffd25de014a3f7a"), looks := false }, kinds := [], alts := [], laidByText := true, laidKinds := [.data, .data, .data], laidTests := true, laidLooks := .later }
def FnExactFormatConfigCardSaid : Prop := Claim7.holds Tryd.pinned (.plain (OpenSpec.ofChange fnExactFormatConfigSpec)) fnExactFormatConfigCard

/-- THE SECOND FORM's CARD OF 'laws.FnExactFormatConfig'. -/
def fnExactFormatConfigUptoCard : Claim7 := { stood := { row := fnExactFormatConfigUptoRow, standIns := [], harness := (true, "9583d89e652d6e01188ce81ab670cf7e325b49292edc76d9cffd25de014a3f7a"), looks := false }, kinds := [], alts := [], laidByText := true, laidKinds := [.data, .data, .data], laidTests := true, laidLooks := .later }
def FnExactFormatConfigUptoCardSaid : Prop := Claim7.holds Tryd.pinned (.plain (OpenSpec.upto fnExactFormatConfigSpec)) fnExactFormatConfigUptoCard
end Rows
end Go.Proofs.YtbfgoophleokcaaDoor
