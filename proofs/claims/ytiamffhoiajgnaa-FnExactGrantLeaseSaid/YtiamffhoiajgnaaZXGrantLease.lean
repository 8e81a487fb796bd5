/- The law FnExactGrantLease: for every input it returns true, and the arguments read as they did. Conditions: none. -/
import Derived.Test.YtiamffhoiajgnaaWXGrantLease
import Derived.JoinedOf
import Derived.Test.YtiamffhoiajgnaaRows
set_option maxRecDepth 100000
set_option linter.unusedVariables false
namespace Go.V.T
open Go Go.V Go.RowKit
theorem o_3 {H : Type} (enc : TypeId × Value → H) : Opens enc Pr 3 1 (encI .i64) (fun x => (Lit.int .i64 x).wf = true) := opens_int Go.Proofs.Try.underlying3 (by kernel_rfl)
theorem o_23 {H : Type} (enc : TypeId × Value → H) : Opens enc Pr 23 3 eGLease (fun x => ((Lit.int .i64 x.Epoch).wf = true ∧ (Lit.int .i64 x.Holder).wf = true ∧ (Lit.int .i64 x.Until).wf = true)) := by
  have o := opens_struct (sz := (1 + (1 + 1))) (ea := (encP 1 (encI .i64) (encP 1 (encI .i64) (encI .i64)))) (α := Int × Int × Int) (β := GLease) (eb := eGLease) Go.Proofs.Try.underlying23 (by kernel_rfl) (ofields_cons rfl rfl (o_3 enc) (ofields_cons rfl rfl (o_3 enc) (ofields_one rfl (o_3 enc)))) (fun x : GLease => (x.Epoch, x.Holder, x.Until)) (fun x : Int × Int × Int => { Epoch := x.1, Holder := x.2.1, Until := x.2.2 }) (fun _ => rfl) (fun x j hj => by match j, hj with | 0, _ => rfl | 1, _ => rfl | 2, _ => rfl | j + 3, h => omega)
  exact o
end Go.V.T
namespace Go.Proofs.Ytiamffhoiajgnaa.fnExactGrantLease
open Go Go.V Go.V.T Go.ChangeShapes Go.WideShapes Go.RowKit
theorem own : ownKnob Go.Proofs.Try.prog.godebug = none := by kernel_rfl
theorem laidOut : laidOutB Go.Proofs.Try.prog = true := by kernel_rfl
theorem lifted (os : Os) (started : os.Started) (H : Type) (enc : TypeId × Value → H) :
    ReturnsInHanded {} Go.Proofs.Try.checked os 3 .any (Rows.fnExactGrantLeaseSpec.pre6 enc Go.Proofs.Try.prog Go.Proofs.Try.f3 Rows.fnExactGrantLeaseRow.domain false) (Rows.fnExactGrantLeaseSpec.post enc Go.Proofs.Try.prog Go.Proofs.Try.f3 false true false false) :=
  lifted_of (C := Go.Proofs.Try.checked) own laidOut (by kernel_rfl) Go.Proofs.Try.func3 rfl (by kernel_rfl) Go.Proofs.Try.underlying4 rfl (ts := [23, 3, 3, 3, 3]) rfl (fun H ds h => by
      match ds, h with
      | [d0, d1, d2, d3, d4], _ => rfl)
    (fun H enc => takes_agg Go.Proofs.Try.underlying23 (o_23 enc) (takes_int Go.Proofs.Try.underlying3 (takes_int Go.Proofs.Try.underlying3 (takes_int Go.Proofs.Try.underlying3 (takes_int Go.Proofs.Try.underlying3 takes_nil)))))
    (fun x hx => w_laws_FnExactGrantLease x.1 x.2.1 x.2.2.1 x.2.2.2.1 x.2.2.2.2.1 hx) os started H enc
    (ChangeSpec.witness6 (enc := enc) (C := Go.Proofs.Try.checked) false ⟨#[], #[.agg #[.int .i64 0, .int .i64 0, .int .i64 0], .int .i64 0, .int .i64 0, .int .i64 0, .int .i64 0], []⟩ 8 (by kernel_rfl) (by kernel_rfl) (by kernel_rfl) (by kernel_rfl))
theorem over : Rows.fnExactGrantLeaseRow.holds Try.pinned (OpenSpec.ofChange Rows.fnExactGrantLeaseSpec) :=
  OpenClaim.holds_of_wide 3 Go.Proofs.Try.f3 rfl rfl rfl rfl rfl rfl rfl ⟨rfl, rfl, rfl, rfl, rfl⟩ rfl rfl rfl rfl rfl (by kernel_rfl) Go.Proofs.Try.func3 (by kernel_rfl)
    (of_decide_eq_true (by kernel_rfl)) (by unfold Func.isWrapper; first | (rw [if_pos (by decide +kernel)]; kernel_rfl) | (rw [if_neg (by decide +kernel)]; exact ⟨rfl, rfl⟩))
    (fun os started H enc _ => lifted os started H enc)
end Go.Proofs.Ytiamffhoiajgnaa.fnExactGrantLease
namespace Go.Proofs.Ytiamffhoiajgnaa
/-- The law, for every input. -/
theorem fnExactGrantLease_holds : Rows.FnExactGrantLeaseSaid := fnExactGrantLease.over
end Go.Proofs.Ytiamffhoiajgnaa
