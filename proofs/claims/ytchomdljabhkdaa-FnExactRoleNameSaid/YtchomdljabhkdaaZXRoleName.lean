/- The law FnExactRoleName: for every input it returns true, and the arguments read as they did. Conditions: none. -/
import Derived.Test.YtchomdljabhkdaaWXRoleName
import Derived.JoinedOf
import Derived.Test.YtchomdljabhkdaaRows
set_option maxRecDepth 100000
set_option linter.unusedVariables false
namespace Go.V.T
open Go Go.V Go.RowKit
theorem o_3 {H : Type} (enc : TypeId × Value → H) : Opens enc Pr 3 1 (encI .i64) (fun x => (Lit.int .i64 x).wf = true) := opens_int Go.Proofs.Try.underlying3 (by kernel_rfl)
end Go.V.T
namespace Go.Proofs.Ytchomdljabhkdaa.fnExactRoleName
open Go Go.V Go.V.T Go.ChangeShapes Go.WideShapes Go.RowKit
theorem own : ownKnob Go.Proofs.Try.prog.godebug = none := by kernel_rfl
theorem laidOut : laidOutB Go.Proofs.Try.prog = true := by kernel_rfl
theorem lifted (os : Os) (started : os.Started) (H : Type) (enc : TypeId × Value → H) :
    ReturnsInHanded {} Go.Proofs.Try.checked os 3 .any (Rows.fnExactRoleNameSpec.pre6 enc Go.Proofs.Try.prog Go.Proofs.Try.f3 Rows.fnExactRoleNameRow.domain false) (Rows.fnExactRoleNameSpec.post enc Go.Proofs.Try.prog Go.Proofs.Try.f3 false true false false) :=
  lifted_of (C := Go.Proofs.Try.checked) own laidOut (by kernel_rfl) Go.Proofs.Try.func3 rfl (by kernel_rfl) Go.Proofs.Try.underlying4 rfl (ts := [3]) rfl (fun H ds h => by
      match ds, h with
      | [d0], _ => rfl)
    (fun H enc => takes_int Go.Proofs.Try.underlying3 takes_nil)
    (fun x hx => w_laws_FnExactRoleName x.1 hx) os started H enc
    (ChangeSpec.witness6 (enc := enc) (C := Go.Proofs.Try.checked) false ⟨#[], #[.int .i64 0], []⟩ 8 (by kernel_rfl) (by kernel_rfl) (by kernel_rfl) (by kernel_rfl))
theorem over : Rows.fnExactRoleNameRow.holds Try.pinned (OpenSpec.ofChange Rows.fnExactRoleNameSpec) :=
  OpenClaim.holds_of_wide 3 Go.Proofs.Try.f3 rfl rfl rfl rfl rfl rfl rfl ⟨rfl, rfl, rfl, rfl, rfl⟩ rfl rfl rfl rfl rfl (by kernel_rfl) Go.Proofs.Try.func3 (by kernel_rfl)
    (of_decide_eq_true (by kernel_rfl)) (by unfold Func.isWrapper; first | (rw [if_pos (by decide +kernel)]; kernel_rfl) | (rw [if_neg (by decide +kernel)]; exact ⟨rfl, rfl⟩))
    (fun os started H enc _ => lifted os started H enc)
end Go.Proofs.Ytchomdljabhkdaa.fnExactRoleName
namespace Go.Proofs.Ytchomdljabhkdaa
/-- The law, for every input. -/
theorem fnExactRoleName_holds : Rows.FnExactRoleNameSaid := fnExactRoleName.over
end Go.Proofs.Ytchomdljabhkdaa
