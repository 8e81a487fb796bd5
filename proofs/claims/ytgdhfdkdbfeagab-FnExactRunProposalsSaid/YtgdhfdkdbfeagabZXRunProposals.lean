/- The law FnExactRunProposals: for every input it returns true, and the arguments read as they did. Conditions: none. -/
import Derived.Test.YtgdhfdkdbfeagabWXRunProposals2
import Derived.JoinedOf
import Derived.Test.YtgdhfdkdbfeagabRows
set_option maxRecDepth 100000
set_option linter.unusedVariables false
namespace Go.V.T
open Go Go.V Go.RowKit
theorem o_3 {H : Type} (enc : TypeId × Value → H) : Opens enc Pr 3 1 (encI .i64) (fun x => (Lit.int .i64 x).wf = true) := opens_int Go.Proofs.Try.underlying3 (by kernel_rfl)
theorem o_38 {H : Type} (enc : TypeId × Value → H) : Opens enc Pr 38 1 (encL 1 (encI .i64)) (fun l => l.length ≤ maxLen ∧ l.length * 8 ≤ 140737488351232 ∧ ∀ x ∈ l, (Lit.int .i64 x).wf = true) := opens_slice Go.Proofs.Try.underlying38 (by kernel_rfl) (by kernel_rfl) (by decide) (o_3 enc)
theorem o_40 {H : Type} (enc : TypeId × Value → H) : Opens enc Pr 40 4 eGConfig (fun x => ((Lit.int .i64 x.Epoch).wf = true ∧ (Lit.int .i64 x.Primary).wf = true ∧ (x.Replicas.length ≤ maxLen ∧ x.Replicas.length * 8 ≤ 140737488351232 ∧ ∀ y ∈ x.Replicas, (Lit.int .i64 y).wf = true) ∧ (x.Witnesses.length ≤ maxLen ∧ x.Witnesses.length * 8 ≤ 140737488351232 ∧ ∀ y ∈ x.Witnesses, (Lit.int .i64 y).wf = true))) := by
  have o := opens_struct (sz := (1 + (1 + (1 + 1)))) (ea := (encP 1 (encI .i64) (encP 1 (encI .i64) (encP 1 (encL 1 (encI .i64)) (encL 1 (encI .i64)))))) (α := Int × Int × (List Int) × (List Int)) (β := GConfig) (eb := eGConfig) Go.Proofs.Try.underlying40 (by kernel_rfl) (ofields_cons rfl rfl (o_3 enc) (ofields_cons rfl rfl (o_3 enc) (ofields_cons rfl rfl (o_38 enc) (ofields_one rfl (o_38 enc))))) (fun x : GConfig => (x.Epoch, x.Primary, x.Replicas, x.Witnesses)) (fun x : Int × Int × (List Int) × (List Int) => { Epoch := x.1, Primary := x.2.1, Replicas := x.2.2.1, Witnesses := x.2.2.2 }) (fun _ => rfl) (fun x j hj => by match j, hj with | 0, _ => rfl | 1, _ => rfl | 2, _ => rfl | 3, _ => rfl | j + 4, h => omega)
  exact o
theorem o_42 {H : Type} (enc : TypeId × Value → H) : Opens enc Pr 42 7 eGProposal (fun x => ((Lit.int .i64 x.Ballot).wf = true ∧ (x.First.length ≤ maxLen ∧ x.First.length * 8 ≤ 140737488351232 ∧ ∀ y ∈ x.First, (Lit.int .i64 y).wf = true) ∧ (x.Second.length ≤ maxLen ∧ x.Second.length * 8 ≤ 140737488351232 ∧ ∀ y ∈ x.Second, (Lit.int .i64 y).wf = true) ∧ ((Lit.int .i64 x.Value.Epoch).wf = true ∧ (Lit.int .i64 x.Value.Primary).wf = true ∧ (x.Value.Replicas.length ≤ maxLen ∧ x.Value.Replicas.length * 8 ≤ 140737488351232 ∧ ∀ y ∈ x.Value.Replicas, (Lit.int .i64 y).wf = true) ∧ (x.Value.Witnesses.length ≤ maxLen ∧ x.Value.Witnesses.length * 8 ≤ 140737488351232 ∧ ∀ y ∈ x.Value.Witnesses, (Lit.int .i64 y).wf = true)))) := by
  have o := opens_struct (sz := (1 + (1 + (1 + 4)))) (ea := (encP 1 (encI .i64) (encP 1 (encL 1 (encI .i64)) (encP 1 (encL 1 (encI .i64)) eGConfig)))) (α := Int × (List Int) × (List Int) × GConfig) (β := GProposal) (eb := eGProposal) Go.Proofs.Try.underlying42 (by kernel_rfl) (ofields_cons rfl rfl (o_3 enc) (ofields_cons rfl rfl (o_38 enc) (ofields_cons rfl rfl (o_38 enc) (ofields_one rfl (o_40 enc))))) (fun x : GProposal => (x.Ballot, x.First, x.Second, x.Value)) (fun x : Int × (List Int) × (List Int) × GConfig => { Ballot := x.1, First := x.2.1, Second := x.2.2.1, Value := x.2.2.2 }) (fun _ => rfl) (fun x j hj => by match j, hj with | 0, _ => rfl | 1, _ => rfl | 2, _ => rfl | 3, _ => rfl | 4, _ => rfl | 5, _ => rfl | 6, _ => rfl | j + 7, h => omega)
  exact o
theorem o_22 {H : Type} (enc : TypeId × Value → H) : Opens enc Pr 22 1 (encL 7 eGProposal) (fun l => l.length ≤ maxLen ∧ l.length * 120 ≤ 140737488351232 ∧ ∀ x ∈ l, ((Lit.int .i64 x.Ballot).wf = true ∧ (x.First.length ≤ maxLen ∧ x.First.length * 8 ≤ 140737488351232 ∧ ∀ y ∈ x.First, (Lit.int .i64 y).wf = true) ∧ (x.Second.length ≤ maxLen ∧ x.Second.length * 8 ≤ 140737488351232 ∧ ∀ y ∈ x.Second, (Lit.int .i64 y).wf = true) ∧ ((Lit.int .i64 x.Value.Epoch).wf = true ∧ (Lit.int .i64 x.Value.Primary).wf = true ∧ (x.Value.Replicas.length ≤ maxLen ∧ x.Value.Replicas.length * 8 ≤ 140737488351232 ∧ ∀ y ∈ x.Value.Replicas, (Lit.int .i64 y).wf = true) ∧ (x.Value.Witnesses.length ≤ maxLen ∧ x.Value.Witnesses.length * 8 ≤ 140737488351232 ∧ ∀ y ∈ x.Value.Witnesses, (Lit.int .i64 y).wf = true)))) := opens_slice Go.Proofs.Try.underlying22 (by kernel_rfl) (by kernel_rfl) (by decide) (o_42 enc)
end Go.V.T
namespace Go.Proofs.Ytgdhfdkdbfeagab.fnExactRunProposals
open Go Go.V Go.V.T Go.ChangeShapes Go.WideShapes Go.RowKit
theorem own : ownKnob Go.Proofs.Try.prog.godebug = none := by kernel_rfl
theorem laidOut : laidOutB Go.Proofs.Try.prog = true := by kernel_rfl
theorem lifted (os : Os) (started : os.Started) (H : Type) (enc : TypeId × Value → H) :
    ReturnsInHanded {} Go.Proofs.Try.checked os 3 .any (Rows.fnExactRunProposalsSpec.pre6 enc Go.Proofs.Try.prog Go.Proofs.Try.f3 Rows.fnExactRunProposalsRow.domain false) (Rows.fnExactRunProposalsSpec.post enc Go.Proofs.Try.prog Go.Proofs.Try.f3 false true false false) :=
  lifted_of (C := Go.Proofs.Try.checked) own laidOut (by kernel_rfl) Go.Proofs.Try.func3 rfl (by kernel_rfl) Go.Proofs.Try.underlying4 rfl (ts := [22]) rfl (fun H ds h => by
      match ds, h with
      | [d0], _ => rfl)
    (fun H enc => takes_slice Go.Proofs.Try.underlying22 (o_22 enc) takes_nil)
    (fun x hx => w_laws_FnExactRunProposals x.1 hx) os started H enc
    (ChangeSpec.witness6 (enc := enc) (C := Go.Proofs.Try.checked) false ⟨#[], #[.slice none 0 0], []⟩ 8 (by kernel_rfl) (by kernel_rfl) (by kernel_rfl) (by kernel_rfl))
theorem over : Rows.fnExactRunProposalsRow.holds Try.pinned (OpenSpec.ofChange Rows.fnExactRunProposalsSpec) :=
  OpenClaim.holds_of_wide 3 Go.Proofs.Try.f3 rfl rfl rfl rfl rfl rfl rfl ⟨rfl, rfl, rfl, rfl, rfl⟩ rfl rfl rfl rfl rfl (by kernel_rfl) Go.Proofs.Try.func3 (by kernel_rfl)
    (of_decide_eq_true (by kernel_rfl)) (by unfold Func.isWrapper; first | (rw [if_pos (by decide +kernel)]; kernel_rfl) | (rw [if_neg (by decide +kernel)]; exact ⟨rfl, rfl⟩))
    (fun os started H enc _ => lifted os started H enc)
end Go.Proofs.Ytgdhfdkdbfeagab.fnExactRunProposals
namespace Go.Proofs.Ytgdhfdkdbfeagab
/-- The law, for every input. -/
theorem fnExactRunProposals_holds : Rows.FnExactRunProposalsSaid := fnExactRunProposals.over
end Go.Proofs.Ytgdhfdkdbfeagab
