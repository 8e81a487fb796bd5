/- The law FnExactNewAcceptors: for every input it returns true, and the arguments read as they did. Conditions: none. -/
import Derived.Test.YtiamffhoiajgnaaWXNewAcceptors
import Derived.JoinedOf
import Derived.Test.YtiamffhoiajgnaaRows
set_option maxRecDepth 100000
set_option linter.unusedVariables false
namespace Go.V.T
open Go Go.V Go.RowKit

end Go.V.T
namespace Go.Proofs.Ytiamffhoiajgnaa.fnExactNewAcceptors
open Go Go.V Go.V.T Go.ChangeShapes Go.WideShapes Go.RowKit
theorem own : ownKnob Go.Proofs.Try.prog.godebug = none := by kernel_rfl
theorem laidOut : laidOutB Go.Proofs.Try.prog = true := by kernel_rfl
theorem lifted (os : Os) (started : os.Started) (H : Type) (enc : TypeId × Value → H) :
    ReturnsInHanded {} Go.Proofs.Try.checked os 6 .any (Rows.fnExactNewAcceptorsSpec.pre6 enc Go.Proofs.Try.prog Go.Proofs.Try.f6 Rows.fnExactNewAcceptorsRow.domain false) (Rows.fnExactNewAcceptorsSpec.post enc Go.Proofs.Try.prog Go.Proofs.Try.f6 false true false false) :=
  lifted_of (C := Go.Proofs.Try.checked) own laidOut (by kernel_rfl) Go.Proofs.Try.func6 rfl (by kernel_rfl) Go.Proofs.Try.underlying4 rfl (ts := []) rfl (fun H ds h => by
      match ds, h with
      | [], _ => rfl)
    (fun H enc => takes_nil)
    (fun x hx => w_laws_FnExactNewAcceptors  hx) os started H enc
    (ChangeSpec.witness6 (enc := enc) (C := Go.Proofs.Try.checked) false ⟨#[], #[], []⟩ 8 (by kernel_rfl) (by kernel_rfl) (by kernel_rfl) (by kernel_rfl))
theorem over : Rows.fnExactNewAcceptorsRow.holds Try.pinned (OpenSpec.ofChange Rows.fnExactNewAcceptorsSpec) :=
  OpenClaim.holds_of_wide 6 Go.Proofs.Try.f6 rfl rfl rfl rfl rfl rfl rfl ⟨rfl, rfl, rfl, rfl, rfl⟩ rfl rfl rfl rfl rfl (by kernel_rfl) Go.Proofs.Try.func6 (by kernel_rfl)
    (of_decide_eq_true (by kernel_rfl)) (by unfold Func.isWrapper; first | (rw [if_pos (by decide +kernel)]; kernel_rfl) | (rw [if_neg (by decide +kernel)]; exact ⟨rfl, rfl⟩))
    (fun os started H enc _ => lifted os started H enc)
end Go.Proofs.Ytiamffhoiajgnaa.fnExactNewAcceptors
namespace Go.Proofs.Ytiamffhoiajgnaa
/-- The law, for every input. -/
theorem fnExactNewAcceptors_holds : Rows.FnExactNewAcceptorsSaid := fnExactNewAcceptors.over
end Go.Proofs.Ytiamffhoiajgnaa
