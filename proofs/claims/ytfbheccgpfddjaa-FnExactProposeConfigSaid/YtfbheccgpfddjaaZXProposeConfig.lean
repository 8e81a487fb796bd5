/- The law FnExactProposeConfig: for every input it returns true, and the arguments read as they did. Conditions: none. -/
import Derived.Test.YtfbheccgpfddjaaWXProposeConfig2
import Derived.JoinedOf
import Derived.Test.YtfbheccgpfddjaaRows
set_option maxRecDepth 100000
set_option linter.unusedVariables false
namespace Go.V.T
open Go Go.V Go.RowKit
theorem o_3 {H : Type} (enc : TypeId × Value → H) : Opens enc Pr 3 1 (encI .i64) (fun x => (Lit.int .i64 x).wf = true) := opens_int Go.Proofs.Try.underlying3 (by kernel_rfl)
theorem o_22 {H : Type} (enc : TypeId × Value → H) : Opens enc Pr 22 1 (encL 1 (encI .i64)) (fun l => l.length ≤ maxLen ∧ l.length * 8 ≤ 140737488351232 ∧ ∀ x ∈ l, (Lit.int .i64 x).wf = true) := opens_slice Go.Proofs.Try.underlying22 (by kernel_rfl) (by kernel_rfl) (by decide) (o_3 enc)
theorem o_24 {H : Type} (enc : TypeId × Value → H) : Opens enc Pr 24 4 eGConfig (fun x => ((Lit.int .i64 x.Epoch).wf = true ∧ (Lit.int .i64 x.Primary).wf = true ∧ (x.Replicas.length ≤ maxLen ∧ x.Replicas.length * 8 ≤ 140737488351232 ∧ ∀ y ∈ x.Replicas, (Lit.int .i64 y).wf = true) ∧ (x.Witnesses.length ≤ maxLen ∧ x.Witnesses.length * 8 ≤ 140737488351232 ∧ ∀ y ∈ x.Witnesses, (Lit.int .i64 y).wf = true))) := by
  have o := opens_struct (sz := (1 + (1 + (1 + 1)))) (ea := (encP 1 (encI .i64) (encP 1 (encI .i64) (encP 1 (encL 1 (encI .i64)) (encL 1 (encI .i64)))))) (α := Int × Int × (List Int) × (List Int)) (β := GConfig) (eb := eGConfig) Go.Proofs.Try.underlying24 (by kernel_rfl) (ofields_cons rfl rfl (o_3 enc) (ofields_cons rfl rfl (o_3 enc) (ofields_cons rfl rfl (o_22 enc) (ofields_one rfl (o_22 enc))))) (fun x : GConfig => (x.Epoch, x.Primary, x.Replicas, x.Witnesses)) (fun x : Int × Int × (List Int) × (List Int) => { Epoch := x.1, Primary := x.2.1, Replicas := x.2.2.1, Witnesses := x.2.2.2 }) (fun _ => rfl) (fun x j hj => by match j, hj with | 0, _ => rfl | 1, _ => rfl | 2, _ => rfl | 3, _ => rfl | j + 4, h => omega)
  exact o
theorem o_52 {H : Type} (enc : TypeId × Value → H) : Opens enc Pr 52 1 (encL 4 eGConfig) (fun l => l.length ≤ maxLen ∧ l.length * 64 ≤ 140737488351232 ∧ ∀ x ∈ l, ((Lit.int .i64 x.Epoch).wf = true ∧ (Lit.int .i64 x.Primary).wf = true ∧ (x.Replicas.length ≤ maxLen ∧ x.Replicas.length * 8 ≤ 140737488351232 ∧ ∀ y ∈ x.Replicas, (Lit.int .i64 y).wf = true) ∧ (x.Witnesses.length ≤ maxLen ∧ x.Witnesses.length * 8 ≤ 140737488351232 ∧ ∀ y ∈ x.Witnesses, (Lit.int .i64 y).wf = true))) := opens_slice Go.Proofs.Try.underlying52 (by kernel_rfl) (by kernel_rfl) (by decide) (o_24 enc)
theorem o_54 {H : Type} (enc : TypeId × Value → H) : Opens enc Pr 54 2 eGMasterLog (fun x => ((x.Configs.length ≤ maxLen ∧ x.Configs.length * 64 ≤ 140737488351232 ∧ ∀ y ∈ x.Configs, ((Lit.int .i64 y.Epoch).wf = true ∧ (Lit.int .i64 y.Primary).wf = true ∧ (y.Replicas.length ≤ maxLen ∧ y.Replicas.length * 8 ≤ 140737488351232 ∧ ∀ z ∈ y.Replicas, (Lit.int .i64 z).wf = true) ∧ (y.Witnesses.length ≤ maxLen ∧ y.Witnesses.length * 8 ≤ 140737488351232 ∧ ∀ z ∈ y.Witnesses, (Lit.int .i64 z).wf = true))) ∧ (Lit.int .i64 x.Activated).wf = true)) := by
  have o := opens_struct (sz := (1 + 1)) (ea := (encP 1 (encL 4 eGConfig) (encI .i64))) (α := (List GConfig) × Int) (β := GMasterLog) (eb := eGMasterLog) Go.Proofs.Try.underlying54 (by kernel_rfl) (ofields_cons rfl rfl (o_52 enc) (ofields_one rfl (o_3 enc))) (fun x : GMasterLog => (x.Configs, x.Activated)) (fun x : (List GConfig) × Int => { Configs := x.1, Activated := x.2 }) (fun _ => rfl) (fun x j hj => by match j, hj with | 0, _ => rfl | 1, _ => rfl | j + 2, h => omega)
  exact o
end Go.V.T
namespace Go.Proofs.Ytfbheccgpfddjaa.fnExactProposeConfig
open Go Go.V Go.V.T Go.ChangeShapes Go.WideShapes Go.RowKit
theorem own : ownKnob Go.Proofs.Try.prog.godebug = none := by kernel_rfl
theorem laidOut : laidOutB Go.Proofs.Try.prog = true := by kernel_rfl
theorem lifted (os : Os) (started : os.Started) (H : Type) (enc : TypeId × Value → H) :
    ReturnsInHanded {} Go.Proofs.Try.checked os 13 .any (Rows.fnExactProposeConfigSpec.pre6 enc Go.Proofs.Try.prog Go.Proofs.Try.f13 Rows.fnExactProposeConfigRow.domain false) (Rows.fnExactProposeConfigSpec.post enc Go.Proofs.Try.prog Go.Proofs.Try.f13 false true false false) :=
  lifted_of (C := Go.Proofs.Try.checked) own laidOut (by kernel_rfl) Go.Proofs.Try.func13 rfl (by kernel_rfl) Go.Proofs.Try.underlying4 rfl (ts := [54, 24]) rfl (fun H ds h => by
      match ds, h with
      | [d0, d1], _ => rfl)
    (fun H enc => takes_agg Go.Proofs.Try.underlying54 (o_54 enc) (takes_agg Go.Proofs.Try.underlying24 (o_24 enc) takes_nil))
    (fun x hx => w_laws_FnExactProposeConfig x.1 x.2.1 hx) os started H enc
    (ChangeSpec.witness6 (enc := enc) (C := Go.Proofs.Try.checked) false ⟨#[], #[.agg #[.slice none 0 0, .int .i64 0], .agg #[.int .i64 0, .int .i64 0, .slice none 0 0, .slice none 0 0]], []⟩ 8 (by kernel_rfl) (by kernel_rfl) (by kernel_rfl) (by kernel_rfl))
theorem over : Rows.fnExactProposeConfigRow.holds Try.pinned (OpenSpec.ofChange Rows.fnExactProposeConfigSpec) :=
  OpenClaim.holds_of_wide 13 Go.Proofs.Try.f13 rfl rfl rfl rfl rfl rfl rfl ⟨rfl, rfl, rfl, rfl, rfl⟩ rfl rfl rfl rfl rfl (by kernel_rfl) Go.Proofs.Try.func13 (by kernel_rfl)
    (of_decide_eq_true (by kernel_rfl)) (by unfold Func.isWrapper; first | (rw [if_pos (by decide +kernel)]; kernel_rfl) | (rw [if_neg (by decide +kernel)]; exact ⟨rfl, rfl⟩))
    (fun os started H enc _ => lifted os started H enc)
end Go.Proofs.Ytfbheccgpfddjaa.fnExactProposeConfig
namespace Go.Proofs.Ytfbheccgpfddjaa
/-- The law, for every input. -/
theorem fnExactProposeConfig_holds : Rows.FnExactProposeConfigSaid := fnExactProposeConfig.over
end Go.Proofs.Ytfbheccgpfddjaa
