/- The law FnExactCountMoves: for every input it returns true, and the arguments read as they did. Conditions: none. -/
import Derived.Test.YtchomdljabhkdabWXCountMoves
import Derived.JoinedOf
import Derived.Test.YtchomdljabhkdabRows
set_option maxRecDepth 100000
set_option linter.unusedVariables false
namespace Go.V.T
open Go Go.V Go.RowKit
theorem o_3 {H : Type} (enc : TypeId × Value → H) : Opens enc Pr 3 1 (encI .i64) (fun x => (Lit.int .i64 x).wf = true) := opens_int Go.Proofs.Try.underlying3 (by kernel_rfl)
theorem o_22 {H : Type} (enc : TypeId × Value → H) : Opens enc Pr 22 1 (encL 1 (encI .i64)) (fun l => l.length ≤ maxLen ∧ l.length * 8 ≤ 140737488351232 ∧ ∀ x ∈ l, (Lit.int .i64 x).wf = true) := opens_slice Go.Proofs.Try.underlying22 (by kernel_rfl) (by kernel_rfl) (by decide) (o_3 enc)
end Go.V.T
namespace Go.Proofs.Ytchomdljabhkdab.fnExactCountMoves
open Go Go.V Go.V.T Go.ChangeShapes Go.WideShapes Go.RowKit
theorem own : ownKnob Go.Proofs.Try.prog.godebug = none := by kernel_rfl
theorem laidOut : laidOutB Go.Proofs.Try.prog = true := by kernel_rfl
theorem lifted (os : Os) (started : os.Started) (H : Type) (enc : TypeId × Value → H) :
    ReturnsInHanded {} Go.Proofs.Try.checked os 3 .any (Rows.fnExactCountMovesSpec.pre6 enc Go.Proofs.Try.prog Go.Proofs.Try.f3 Rows.fnExactCountMovesRow.domain false) (Rows.fnExactCountMovesSpec.post enc Go.Proofs.Try.prog Go.Proofs.Try.f3 false true false false) :=
  lifted_of (C := Go.Proofs.Try.checked) own laidOut (by kernel_rfl) Go.Proofs.Try.func3 rfl (by kernel_rfl) Go.Proofs.Try.underlying4 rfl (ts := [22, 22]) rfl (fun H ds h => by
      match ds, h with
      | [d0, d1], _ => rfl)
    (fun H enc => takes_slice Go.Proofs.Try.underlying22 (o_22 enc) (takes_slice Go.Proofs.Try.underlying22 (o_22 enc) takes_nil))
    (fun x hx => w_laws_FnExactCountMoves x.1 x.2.1 hx) os started H enc
    (ChangeSpec.witness6 (enc := enc) (C := Go.Proofs.Try.checked) false ⟨#[], #[.slice none 0 0, .slice none 0 0], []⟩ 8 (by kernel_rfl) (by kernel_rfl) (by kernel_rfl) (by kernel_rfl))
theorem over : Rows.fnExactCountMovesRow.holds Try.pinned (OpenSpec.ofChange Rows.fnExactCountMovesSpec) :=
  OpenClaim.holds_of_wide 3 Go.Proofs.Try.f3 rfl rfl rfl rfl rfl rfl rfl ⟨rfl, rfl, rfl, rfl, rfl⟩ rfl rfl rfl rfl rfl (by kernel_rfl) Go.Proofs.Try.func3 (by kernel_rfl)
    (of_decide_eq_true (by kernel_rfl)) (by unfold Func.isWrapper; first | (rw [if_pos (by decide +kernel)]; kernel_rfl) | (rw [if_neg (by decide +kernel)]; exact ⟨rfl, rfl⟩))
    (fun os started H enc _ => lifted os started H enc)
end Go.Proofs.Ytchomdljabhkdab.fnExactCountMoves
namespace Go.Proofs.Ytchomdljabhkdab
/-- The law, for every input. -/
theorem fnExactCountMoves_holds : Rows.FnExactCountMovesSaid := fnExactCountMoves.over
end Go.Proofs.Ytchomdljabhkdab
