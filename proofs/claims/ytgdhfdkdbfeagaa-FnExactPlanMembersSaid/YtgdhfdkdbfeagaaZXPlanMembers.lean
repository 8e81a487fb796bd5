/- The law FnExactPlanMembers: for every input it returns true, and the arguments read as they did. Conditions: none. -/
import Derived.Test.YtgdhfdkdbfeagaaWXPlanMembers3
import Derived.JoinedOf
import Derived.Test.YtgdhfdkdbfeagaaRows
set_option maxRecDepth 100000
set_option linter.unusedVariables false
namespace Go.V.T
open Go Go.V Go.RowKit
theorem o_3 {H : Type} (enc : TypeId × Value → H) : Opens enc Pr 3 1 (encI .i64) (fun x => (Lit.int .i64 x).wf = true) := opens_int Go.Proofs.Try.underlying3 (by kernel_rfl)
theorem o_90 {H : Type} (enc : TypeId × Value → H) : Opens enc Pr 90 3 eGPlace (fun x => ((Lit.int .i64 x.Rack).wf = true ∧ (Lit.int .i64 x.Capacity).wf = true ∧ (Lit.int .i64 x.Load).wf = true)) := by
  have o := opens_struct (sz := (1 + (1 + 1))) (ea := (encP 1 (encI .i64) (encP 1 (encI .i64) (encI .i64)))) (α := Int × Int × Int) (β := GPlace) (eb := eGPlace) Go.Proofs.Try.underlying90 (by kernel_rfl) (ofields_cons rfl rfl (o_3 enc) (ofields_cons rfl rfl (o_3 enc) (ofields_one rfl (o_3 enc)))) (fun x : GPlace => (x.Rack, x.Capacity, x.Load)) (fun x : Int × Int × Int => { Rack := x.1, Capacity := x.2.1, Load := x.2.2 }) (fun _ => rfl) (fun x j hj => by match j, hj with | 0, _ => rfl | 1, _ => rfl | 2, _ => rfl | j + 3, h => omega)
  exact o
theorem o_22 {H : Type} (enc : TypeId × Value → H) : Opens enc Pr 22 1 (encL 3 eGPlace) (fun l => l.length ≤ maxLen ∧ l.length * 24 ≤ 140737488351232 ∧ ∀ x ∈ l, ((Lit.int .i64 x.Rack).wf = true ∧ (Lit.int .i64 x.Capacity).wf = true ∧ (Lit.int .i64 x.Load).wf = true)) := opens_slice Go.Proofs.Try.underlying22 (by kernel_rfl) (by kernel_rfl) (by decide) (o_90 enc)
theorem o_23 {H : Type} (enc : TypeId × Value → H) : Opens enc Pr 23 1 (encL 1 (encI .i64)) (fun l => l.length ≤ maxLen ∧ l.length * 8 ≤ 140737488351232 ∧ ∀ x ∈ l, (Lit.int .i64 x).wf = true) := opens_slice Go.Proofs.Try.underlying23 (by kernel_rfl) (by kernel_rfl) (by decide) (o_3 enc)
end Go.V.T
namespace Go.Proofs.Ytgdhfdkdbfeagaa.fnExactPlanMembers
open Go Go.V Go.V.T Go.ChangeShapes Go.WideShapes Go.RowKit
theorem own : ownKnob Go.Proofs.Try.prog.godebug = none := by kernel_rfl
theorem laidOut : laidOutB Go.Proofs.Try.prog = true := by kernel_rfl
theorem lifted (os : Os) (started : os.Started) (H : Type) (enc : TypeId × Value → H) :
    ReturnsInHanded {} Go.Proofs.Try.checked os 3 .any (Rows.fnExactPlanMembersSpec.pre6 enc Go.Proofs.Try.prog Go.Proofs.Try.f3 Rows.fnExactPlanMembersRow.domain false) (Rows.fnExactPlanMembersSpec.post enc Go.Proofs.Try.prog Go.Proofs.Try.f3 false true false false) :=
  lifted_of (C := Go.Proofs.Try.checked) own laidOut (by kernel_rfl) Go.Proofs.Try.func3 rfl (by kernel_rfl) Go.Proofs.Try.underlying4 rfl (ts := [22, 23, 23, 3]) rfl (fun H ds h => by
      match ds, h with
      | [d0, d1, d2, d3], _ => rfl)
    (fun H enc => takes_slice Go.Proofs.Try.underlying22 (o_22 enc) (takes_slice Go.Proofs.Try.underlying23 (o_23 enc) (takes_slice Go.Proofs.Try.underlying23 (o_23 enc) (takes_int Go.Proofs.Try.underlying3 takes_nil))))
    (fun x hx => w_laws_FnExactPlanMembers x.1 x.2.1 x.2.2.1 x.2.2.2.1 hx) os started H enc
    (ChangeSpec.witness6 (enc := enc) (C := Go.Proofs.Try.checked) false ⟨#[], #[.slice none 0 0, .slice none 0 0, .slice none 0 0, .int .i64 0], []⟩ 8 (by kernel_rfl) (by kernel_rfl) (by kernel_rfl) (by kernel_rfl))
theorem over : Rows.fnExactPlanMembersRow.holds Try.pinned (OpenSpec.ofChange Rows.fnExactPlanMembersSpec) :=
  OpenClaim.holds_of_wide 3 Go.Proofs.Try.f3 rfl rfl rfl rfl rfl rfl rfl ⟨rfl, rfl, rfl, rfl, rfl⟩ rfl rfl rfl rfl rfl (by kernel_rfl) Go.Proofs.Try.func3 (by kernel_rfl)
    (of_decide_eq_true (by kernel_rfl)) (by unfold Func.isWrapper; first | (rw [if_pos (by decide +kernel)]; kernel_rfl) | (rw [if_neg (by decide +kernel)]; exact ⟨rfl, rfl⟩))
    (fun os started H enc _ => lifted os started H enc)
end Go.Proofs.Ytgdhfdkdbfeagaa.fnExactPlanMembers
namespace Go.Proofs.Ytgdhfdkdbfeagaa
/-- The law, for every input. -/
theorem fnExactPlanMembers_holds : Rows.FnExactPlanMembersSaid := fnExactPlanMembers.over
end Go.Proofs.Ytgdhfdkdbfeagaa
