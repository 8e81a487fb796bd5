/- The law FnExactJoinTail: for every input it returns true, and the arguments read as they did. Conditions: none. -/
import Derived.Test.YtiamffhoiajgnaaWXJoinTail1
import Derived.JoinedOf
import Derived.Test.YtiamffhoiajgnaaRows
set_option maxRecDepth 100000
set_option linter.unusedVariables false
namespace Go.V.T
open Go Go.V Go.RowKit
theorem o_3 {H : Type} (enc : TypeId × Value → H) : Opens enc Pr 3 1 (encI .i64) (fun x => (Lit.int .i64 x).wf = true) := opens_int Go.Proofs.Try.underlying3 (by kernel_rfl)
theorem o_80 {H : Type} (enc : TypeId × Value → H) : Opens enc Pr 80 6 eGOp (fun x => ((Lit.int .i64 x.Client).wf = true ∧ (Lit.int .i64 x.Seq).wf = true ∧ (Lit.int .i64 x.Kind).wf = true ∧ (Lit.int .i64 x.Object).wf = true ∧ (Lit.int .i64 x.Old).wf = true ∧ (Lit.int .i64 x.Value).wf = true)) := by
  have o := opens_struct (sz := (1 + (1 + (1 + (1 + (1 + 1)))))) (ea := (encP 1 (encI .i64) (encP 1 (encI .i64) (encP 1 (encI .i64) (encP 1 (encI .i64) (encP 1 (encI .i64) (encI .i64))))))) (α := Int × Int × Int × Int × Int × Int) (β := GOp) (eb := eGOp) Go.Proofs.Try.underlying80 (by kernel_rfl) (ofields_cons rfl rfl (o_3 enc) (ofields_cons rfl rfl (o_3 enc) (ofields_cons rfl rfl (o_3 enc) (ofields_cons rfl rfl (o_3 enc) (ofields_cons rfl rfl (o_3 enc) (ofields_one rfl (o_3 enc))))))) (fun x : GOp => (x.Client, x.Seq, x.Kind, x.Object, x.Old, x.Value)) (fun x : Int × Int × Int × Int × Int × Int => { Client := x.1, Seq := x.2.1, Kind := x.2.2.1, Object := x.2.2.2.1, Old := x.2.2.2.2.1, Value := x.2.2.2.2.2 }) (fun _ => rfl) (fun x j hj => by match j, hj with | 0, _ => rfl | 1, _ => rfl | 2, _ => rfl | 3, _ => rfl | 4, _ => rfl | 5, _ => rfl | j + 6, h => omega)
  exact o
theorem o_82 {H : Type} (enc : TypeId × Value → H) : Opens enc Pr 82 7 eGEntry (fun x => ((Lit.int .i64 x.Epoch).wf = true ∧ ((Lit.int .i64 x.Op.Client).wf = true ∧ (Lit.int .i64 x.Op.Seq).wf = true ∧ (Lit.int .i64 x.Op.Kind).wf = true ∧ (Lit.int .i64 x.Op.Object).wf = true ∧ (Lit.int .i64 x.Op.Old).wf = true ∧ (Lit.int .i64 x.Op.Value).wf = true))) := by
  have o := opens_struct (sz := (1 + 6)) (ea := (encP 1 (encI .i64) eGOp)) (α := Int × GOp) (β := GEntry) (eb := eGEntry) Go.Proofs.Try.underlying82 (by kernel_rfl) (ofields_cons rfl rfl (o_3 enc) (ofields_one rfl (o_80 enc))) (fun x : GEntry => (x.Epoch, x.Op)) (fun x : Int × GOp => { Epoch := x.1, Op := x.2 }) (fun _ => rfl) (fun x j hj => by match j, hj with | 0, _ => rfl | 1, _ => rfl | 2, _ => rfl | 3, _ => rfl | 4, _ => rfl | 5, _ => rfl | 6, _ => rfl | j + 7, h => omega)
  exact o
theorem o_50 {H : Type} (enc : TypeId × Value → H) : Opens enc Pr 50 1 (encL 7 eGEntry) (fun l => l.length ≤ maxLen ∧ l.length * 56 ≤ 140737488351232 ∧ ∀ x ∈ l, ((Lit.int .i64 x.Epoch).wf = true ∧ ((Lit.int .i64 x.Op.Client).wf = true ∧ (Lit.int .i64 x.Op.Seq).wf = true ∧ (Lit.int .i64 x.Op.Kind).wf = true ∧ (Lit.int .i64 x.Op.Object).wf = true ∧ (Lit.int .i64 x.Op.Old).wf = true ∧ (Lit.int .i64 x.Op.Value).wf = true))) := opens_slice Go.Proofs.Try.underlying50 (by kernel_rfl) (by kernel_rfl) (by decide) (o_82 enc)
end Go.V.T
namespace Go.Proofs.Ytiamffhoiajgnaa.fnExactJoinTail
open Go Go.V Go.V.T Go.ChangeShapes Go.WideShapes Go.RowKit
theorem own : ownKnob Go.Proofs.Try.prog.godebug = none := by kernel_rfl
theorem laidOut : laidOutB Go.Proofs.Try.prog = true := by kernel_rfl
theorem lifted (os : Os) (started : os.Started) (H : Type) (enc : TypeId × Value → H) :
    ReturnsInHanded {} Go.Proofs.Try.checked os 13 .any (Rows.fnExactJoinTailSpec.pre6 enc Go.Proofs.Try.prog Go.Proofs.Try.f13 Rows.fnExactJoinTailRow.domain false) (Rows.fnExactJoinTailSpec.post enc Go.Proofs.Try.prog Go.Proofs.Try.f13 false true false false) :=
  lifted_of (C := Go.Proofs.Try.checked) own laidOut (by kernel_rfl) Go.Proofs.Try.func13 rfl (by kernel_rfl) Go.Proofs.Try.underlying4 rfl (ts := [50, 3, 50]) rfl (fun H ds h => by
      match ds, h with
      | [d0, d1, d2], _ => rfl)
    (fun H enc => takes_slice Go.Proofs.Try.underlying50 (o_50 enc) (takes_int Go.Proofs.Try.underlying3 (takes_slice Go.Proofs.Try.underlying50 (o_50 enc) takes_nil)))
    (fun x hx => w_laws_FnExactJoinTail x.1 x.2.1 x.2.2.1 hx) os started H enc
    (ChangeSpec.witness6 (enc := enc) (C := Go.Proofs.Try.checked) false ⟨#[], #[.slice none 0 0, .int .i64 0, .slice none 0 0], []⟩ 8 (by kernel_rfl) (by kernel_rfl) (by kernel_rfl) (by kernel_rfl))
theorem over : Rows.fnExactJoinTailRow.holds Try.pinned (OpenSpec.ofChange Rows.fnExactJoinTailSpec) :=
  OpenClaim.holds_of_wide 13 Go.Proofs.Try.f13 rfl rfl rfl rfl rfl rfl rfl ⟨rfl, rfl, rfl, rfl, rfl⟩ rfl rfl rfl rfl rfl (by kernel_rfl) Go.Proofs.Try.func13 (by kernel_rfl)
    (of_decide_eq_true (by kernel_rfl)) (by unfold Func.isWrapper; first | (rw [if_pos (by decide +kernel)]; kernel_rfl) | (rw [if_neg (by decide +kernel)]; exact ⟨rfl, rfl⟩))
    (fun os started H enc _ => lifted os started H enc)
end Go.Proofs.Ytiamffhoiajgnaa.fnExactJoinTail
namespace Go.Proofs.Ytiamffhoiajgnaa
/-- The law, for every input. -/
theorem fnExactJoinTail_holds : Rows.FnExactJoinTailSaid := fnExactJoinTail.over
end Go.Proofs.Ytiamffhoiajgnaa
