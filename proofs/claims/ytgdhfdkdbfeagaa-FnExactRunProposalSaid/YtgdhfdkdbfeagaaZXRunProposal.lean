/- The law FnExactRunProposal: for every input it returns true, and the arguments read as they did. Conditions: none. -/
import Derived.Test.YtgdhfdkdbfeagaaWXRunProposal1
import Derived.JoinedOf
import Derived.Test.YtgdhfdkdbfeagaaRows
set_option maxRecDepth 100000
set_option linter.unusedVariables false
namespace Go.V.T
open Go Go.V Go.RowKit
theorem o_3 {H : Type} (enc : TypeId × Value → H) : Opens enc Pr 3 1 (encI .i64) (fun x => (Lit.int .i64 x).wf = true) := opens_int Go.Proofs.Try.underlying3 (by kernel_rfl)
theorem o_23 {H : Type} (enc : TypeId × Value → H) : Opens enc Pr 23 1 (encL 1 (encI .i64)) (fun l => l.length ≤ maxLen ∧ l.length * 8 ≤ 140737488351232 ∧ ∀ x ∈ l, (Lit.int .i64 x).wf = true) := opens_slice Go.Proofs.Try.underlying23 (by kernel_rfl) (by kernel_rfl) (by decide) (o_3 enc)
theorem o_62 {H : Type} (enc : TypeId × Value → H) : Opens enc Pr 62 4 eGConfig (fun x => ((Lit.int .i64 x.Epoch).wf = true ∧ (Lit.int .i64 x.Primary).wf = true ∧ (x.Replicas.length ≤ maxLen ∧ x.Replicas.length * 8 ≤ 140737488351232 ∧ ∀ y ∈ x.Replicas, (Lit.int .i64 y).wf = true) ∧ (x.Witnesses.length ≤ maxLen ∧ x.Witnesses.length * 8 ≤ 140737488351232 ∧ ∀ y ∈ x.Witnesses, (Lit.int .i64 y).wf = true))) := by
  have o := opens_struct (sz := (1 + (1 + (1 + 1)))) (ea := (encP 1 (encI .i64) (encP 1 (encI .i64) (encP 1 (encL 1 (encI .i64)) (encL 1 (encI .i64)))))) (α := Int × Int × (List Int) × (List Int)) (β := GConfig) (eb := eGConfig) Go.Proofs.Try.underlying62 (by kernel_rfl) (ofields_cons rfl rfl (o_3 enc) (ofields_cons rfl rfl (o_3 enc) (ofields_cons rfl rfl (o_23 enc) (ofields_one rfl (o_23 enc))))) (fun x : GConfig => (x.Epoch, x.Primary, x.Replicas, x.Witnesses)) (fun x : Int × Int × (List Int) × (List Int) => { Epoch := x.1, Primary := x.2.1, Replicas := x.2.2.1, Witnesses := x.2.2.2 }) (fun _ => rfl) (fun x j hj => by match j, hj with | 0, _ => rfl | 1, _ => rfl | 2, _ => rfl | 3, _ => rfl | j + 4, h => omega)
  exact o
theorem o_101 {H : Type} (enc : TypeId × Value → H) : Opens enc Pr 101 6 eGAcceptor (fun x => ((Lit.int .i64 x.Promised).wf = true ∧ (Lit.int .i64 x.Ballot).wf = true ∧ ((Lit.int .i64 x.Value.Epoch).wf = true ∧ (Lit.int .i64 x.Value.Primary).wf = true ∧ (x.Value.Replicas.length ≤ maxLen ∧ x.Value.Replicas.length * 8 ≤ 140737488351232 ∧ ∀ y ∈ x.Value.Replicas, (Lit.int .i64 y).wf = true) ∧ (x.Value.Witnesses.length ≤ maxLen ∧ x.Value.Witnesses.length * 8 ≤ 140737488351232 ∧ ∀ y ∈ x.Value.Witnesses, (Lit.int .i64 y).wf = true)))) := by
  have o := opens_struct (sz := (1 + (1 + 4))) (ea := (encP 1 (encI .i64) (encP 1 (encI .i64) eGConfig))) (α := Int × Int × GConfig) (β := GAcceptor) (eb := eGAcceptor) Go.Proofs.Try.underlying101 (by kernel_rfl) (ofields_cons rfl rfl (o_3 enc) (ofields_cons rfl rfl (o_3 enc) (ofields_one rfl (o_62 enc)))) (fun x : GAcceptor => (x.Promised, x.Ballot, x.Value)) (fun x : Int × Int × GConfig => { Promised := x.1, Ballot := x.2.1, Value := x.2.2 }) (fun _ => rfl) (fun x j hj => by match j, hj with | 0, _ => rfl | 1, _ => rfl | 2, _ => rfl | 3, _ => rfl | 4, _ => rfl | 5, _ => rfl | j + 6, h => omega)
  exact o
theorem o_49 {H : Type} (enc : TypeId × Value → H) : Opens enc Pr 49 1 (encL 6 eGAcceptor) (fun l => l.length ≤ maxLen ∧ l.length * 80 ≤ 140737488351232 ∧ ∀ x ∈ l, ((Lit.int .i64 x.Promised).wf = true ∧ (Lit.int .i64 x.Ballot).wf = true ∧ ((Lit.int .i64 x.Value.Epoch).wf = true ∧ (Lit.int .i64 x.Value.Primary).wf = true ∧ (x.Value.Replicas.length ≤ maxLen ∧ x.Value.Replicas.length * 8 ≤ 140737488351232 ∧ ∀ y ∈ x.Value.Replicas, (Lit.int .i64 y).wf = true) ∧ (x.Value.Witnesses.length ≤ maxLen ∧ x.Value.Witnesses.length * 8 ≤ 140737488351232 ∧ ∀ y ∈ x.Value.Witnesses, (Lit.int .i64 y).wf = true)))) := opens_slice Go.Proofs.Try.underlying49 (by kernel_rfl) (by kernel_rfl) (by decide) (o_101 enc)
theorem o_75 {H : Type} (enc : TypeId × Value → H) : Opens enc Pr 75 7 eGProposal (fun x => ((Lit.int .i64 x.Ballot).wf = true ∧ (x.First.length ≤ maxLen ∧ x.First.length * 8 ≤ 140737488351232 ∧ ∀ y ∈ x.First, (Lit.int .i64 y).wf = true) ∧ (x.Second.length ≤ maxLen ∧ x.Second.length * 8 ≤ 140737488351232 ∧ ∀ y ∈ x.Second, (Lit.int .i64 y).wf = true) ∧ ((Lit.int .i64 x.Value.Epoch).wf = true ∧ (Lit.int .i64 x.Value.Primary).wf = true ∧ (x.Value.Replicas.length ≤ maxLen ∧ x.Value.Replicas.length * 8 ≤ 140737488351232 ∧ ∀ y ∈ x.Value.Replicas, (Lit.int .i64 y).wf = true) ∧ (x.Value.Witnesses.length ≤ maxLen ∧ x.Value.Witnesses.length * 8 ≤ 140737488351232 ∧ ∀ y ∈ x.Value.Witnesses, (Lit.int .i64 y).wf = true)))) := by
  have o := opens_struct (sz := (1 + (1 + (1 + 4)))) (ea := (encP 1 (encI .i64) (encP 1 (encL 1 (encI .i64)) (encP 1 (encL 1 (encI .i64)) eGConfig)))) (α := Int × (List Int) × (List Int) × GConfig) (β := GProposal) (eb := eGProposal) Go.Proofs.Try.underlying75 (by kernel_rfl) (ofields_cons rfl rfl (o_3 enc) (ofields_cons rfl rfl (o_23 enc) (ofields_cons rfl rfl (o_23 enc) (ofields_one rfl (o_62 enc))))) (fun x : GProposal => (x.Ballot, x.First, x.Second, x.Value)) (fun x : Int × (List Int) × (List Int) × GConfig => { Ballot := x.1, First := x.2.1, Second := x.2.2.1, Value := x.2.2.2 }) (fun _ => rfl) (fun x j hj => by match j, hj with | 0, _ => rfl | 1, _ => rfl | 2, _ => rfl | 3, _ => rfl | 4, _ => rfl | 5, _ => rfl | 6, _ => rfl | j + 7, h => omega)
  exact o
end Go.V.T
namespace Go.Proofs.Ytgdhfdkdbfeagaa.fnExactRunProposal
open Go Go.V Go.V.T Go.ChangeShapes Go.WideShapes Go.RowKit
theorem own : ownKnob Go.Proofs.Try.prog.godebug = none := by kernel_rfl
theorem laidOut : laidOutB Go.Proofs.Try.prog = true := by kernel_rfl
theorem lifted (os : Os) (started : os.Started) (H : Type) (enc : TypeId × Value → H) :
    ReturnsInHanded {} Go.Proofs.Try.checked os 8 .any (Rows.fnExactRunProposalSpec.pre6 enc Go.Proofs.Try.prog Go.Proofs.Try.f8 Rows.fnExactRunProposalRow.domain false) (Rows.fnExactRunProposalSpec.post enc Go.Proofs.Try.prog Go.Proofs.Try.f8 false true false false) :=
  lifted_of (C := Go.Proofs.Try.checked) own laidOut (by kernel_rfl) Go.Proofs.Try.func8 rfl (by kernel_rfl) Go.Proofs.Try.underlying4 rfl (ts := [49, 75]) rfl (fun H ds h => by
      match ds, h with
      | [d0, d1], _ => rfl)
    (fun H enc => takes_slice Go.Proofs.Try.underlying49 (o_49 enc) (takes_agg Go.Proofs.Try.underlying75 (o_75 enc) takes_nil))
    (fun x hx => w_laws_FnExactRunProposal x.1 x.2.1 hx) os started H enc
    (ChangeSpec.witness6 (enc := enc) (C := Go.Proofs.Try.checked) false ⟨#[], #[.slice none 0 0, .agg #[.int .i64 0, .slice none 0 0, .slice none 0 0, .int .i64 0, .int .i64 0, .slice none 0 0, .slice none 0 0]], []⟩ 8 (by kernel_rfl) (by kernel_rfl) (by kernel_rfl) (by kernel_rfl))
theorem over : Rows.fnExactRunProposalRow.holds Try.pinned (OpenSpec.ofChange Rows.fnExactRunProposalSpec) :=
  OpenClaim.holds_of_wide 8 Go.Proofs.Try.f8 rfl rfl rfl rfl rfl rfl rfl ⟨rfl, rfl, rfl, rfl, rfl⟩ rfl rfl rfl rfl rfl (by kernel_rfl) Go.Proofs.Try.func8 (by kernel_rfl)
    (of_decide_eq_true (by kernel_rfl)) (by unfold Func.isWrapper; first | (rw [if_pos (by decide +kernel)]; kernel_rfl) | (rw [if_neg (by decide +kernel)]; exact ⟨rfl, rfl⟩))
    (fun os started H enc _ => lifted os started H enc)
end Go.Proofs.Ytgdhfdkdbfeagaa.fnExactRunProposal
namespace Go.Proofs.Ytgdhfdkdbfeagaa
/-- The law, for every input. -/
theorem fnExactRunProposal_holds : Rows.FnExactRunProposalSaid := fnExactRunProposal.over
end Go.Proofs.Ytgdhfdkdbfeagaa
