/- The law FnExactFormatConfig: for every input it returns true, and the arguments read as they did. Conditions: none. -/
import Derived.Test.YtbfgoophleokcaaDoorWXFormatConfig1
import Derived.JoinedOf
import Derived.Test.YtbfgoophleokcaaDoorRows
import Derived.Test.YtbfgoophleokcaaDoorCards
import Derived.Test.YtbfgoophleokcaaDoorTie
set_option maxRecDepth 100000
set_option linter.unusedVariables false
namespace Go.V.T
open Go Go.V Go.RowKit
theorem o_3 {H : Type} (enc : TypeId × Value → H) : Opens enc Pr 3 1 (encI .i64) (fun x => (Lit.int .i64 x).wf = true) := opens_int Go.Proofs.Tryd.underlying3 (by kernel_rfl)
theorem o_22 {H : Type} (enc : TypeId × Value → H) : Opens enc Pr 22 1 (encL 1 (encI .i64)) (fun l => l.length ≤ maxLen ∧ l.length * 8 ≤ 140737488351232 ∧ ∀ x ∈ l, (Lit.int .i64 x).wf = true) := opens_slice Go.Proofs.Tryd.underlying22 (by kernel_rfl) (by kernel_rfl) (by decide) (o_3 enc)
theorem o_24 {H : Type} (enc : TypeId × Value → H) : Opens enc Pr 24 4 eGConfig (fun x => ((Lit.int .i64 x.Epoch).wf = true ∧ (Lit.int .i64 x.Primary).wf = true ∧ (x.Replicas.length ≤ maxLen ∧ x.Replicas.length * 8 ≤ 140737488351232 ∧ ∀ y ∈ x.Replicas, (Lit.int .i64 y).wf = true) ∧ (x.Witnesses.length ≤ maxLen ∧ x.Witnesses.length * 8 ≤ 140737488351232 ∧ ∀ y ∈ x.Witnesses, (Lit.int .i64 y).wf = true))) := by
  have o := opens_struct (sz := (1 + (1 + (1 + 1)))) (ea := (encP 1 (encI .i64) (encP 1 (encI .i64) (encP 1 (encL 1 (encI .i64)) (encL 1 (encI .i64)))))) (α := Int × Int × (List Int) × (List Int)) (β := GConfig) (eb := eGConfig) Go.Proofs.Tryd.underlying24 (by kernel_rfl) (ofields_cons rfl rfl (o_3 enc) (ofields_cons rfl rfl (o_3 enc) (ofields_cons rfl rfl (o_22 enc) (ofields_one rfl (o_22 enc))))) (fun x : GConfig => (x.Epoch, x.Primary, x.Replicas, x.Witnesses)) (fun x : Int × Int × (List Int) × (List Int) => { Epoch := x.1, Primary := x.2.1, Replicas := x.2.2.1, Witnesses := x.2.2.2 }) (fun _ => rfl) (fun x j hj => by match j, hj with | 0, _ => rfl | 1, _ => rfl | 2, _ => rfl | 3, _ => rfl | j + 4, h => omega)
  exact o
end Go.V.T
namespace Go.Proofs.YtbfgoophleokcaaDoor.fnExactFormatConfig
open Go Go.V Go.V.T Go.ChangeShapes Go.WideShapes Go.RowKit
theorem own : ownKnob Go.Proofs.Tryd.prog.godebug = none := by kernel_rfl
theorem laidOut : laidOutB Go.Proofs.Tryd.prog = true := by kernel_rfl
theorem lifted (os : Os) (started : os.Started) (H : Type) (enc : TypeId × Value → H) :
    ReturnsInHanded {} Go.Proofs.Tryd.checked os 3 .any (fun w args => (Rows.fnExactFormatConfigSpec.pre enc Go.Proofs.Tryd.prog Go.Proofs.Tryd.f3 Rows.fnExactFormatConfigRow.domain false w args ∧ laidMetH Go.Proofs.Tryd.prog Rows.fnExactFormatConfigRow.laid w) ∧ sizedMet enc Go.Proofs.Tryd.prog Go.Proofs.Tryd.f3 (OpenSpec.ofChange Rows.fnExactFormatConfigSpec) false w args) (Rows.fnExactFormatConfigSpec.post enc Go.Proofs.Tryd.prog Go.Proofs.Tryd.f3 false true false false) :=
  lifted_laid (C := Go.Proofs.Tryd.checked) own laidOut (by kernel_rfl) Go.Proofs.Tryd.func3 rfl (by kernel_rfl) Go.Proofs.Tryd.underlying4 rfl (ts := [24]) rfl (fun H ds h => by
      match ds, h with
      | [d0], _ => rfl)
    (fun H enc => takes_agg Go.Proofs.Tryd.underlying24 (o_24 enc) takes_nil)
    (fun x hx => w_laws_FnExactFormatConfig x.1 hx) os started H enc
    (ChangeSpec.witness_shaped (enc := enc) (C := Go.Proofs.Tryd.checked) (X := fun w _ => laidMetH Go.Proofs.Tryd.prog Rows.fnExactFormatConfigRow.laid w) false (World.laidAll Go.Proofs.Tryd.prog os Rows.fnExactFormatConfigRow.laid) #[.agg #[.int .i64 0, .int .i64 0, .slice none 0 0, .slice none 0 0]] 8 (World.laidAll_os _ _ _) (World.shaped_of_ZipB (by kernel_rfl) (by kernel_rfl)) (by kernel_rfl) (by kernel_rfl) (by kernel_rfl) (laidMet_laidAll _ (by kernel_rfl) (by kernel_rfl)))
theorem over : Rows.fnExactFormatConfigRow.holds Tryd.pinned (OpenSpec.ofChange Rows.fnExactFormatConfigSpec) :=
  OpenClaim.holds_of_wide 3 Go.Proofs.Tryd.f3 rfl rfl rfl rfl rfl rfl rfl ⟨rfl, rfl, rfl, rfl, rfl⟩ rfl rfl rfl rfl rfl (by kernel_rfl) Go.Proofs.Tryd.func3 (by kernel_rfl)
    (of_decide_eq_true (by kernel_rfl)) (by unfold Func.isWrapper; first | (rw [if_pos (by decide +kernel)]; kernel_rfl) | (rw [if_neg (by decide +kernel)]; exact ⟨rfl, rfl⟩))
    (fun os started H enc _ => lifted os started H enc)
theorem card : Rows.FnExactFormatConfigCardSaid :=
  Claim7.holds_tied_plain_at .later [] [.data, .data, .data] true (true, "9583d89e652d6e01188ce81ab670cf7e325b49292edc76d9cffd25de014a3f7a") false over (fun _ h => by cases h) (by kernel_rfl) (fun _ h => by cases h) fnExactFormatConfig_row_tie rfl ⟨rfl, rfl⟩ (by kernel_rfl) rfl
    (fun f fn hf hfn => by
      obtain rfl : f = 3 := Option.some.inj ((show Go.Proofs.Tryd.prog.funcNamed Rows.fnExactFormatConfigRow.func = some 3 by kernel_rfl).symm.trans hf) |>.symm
      obtain rfl : fn = Go.Proofs.Tryd.f3 := (Option.some.inj (Go.Proofs.Tryd.func3.symm.trans hfn)).symm
      exact ⟨by kernel_rfl, noStand (by kernel_rfl)⟩)
    (by kernel_rfl)
end Go.Proofs.YtbfgoophleokcaaDoor.fnExactFormatConfig
namespace Go.Proofs.YtbfgoophleokcaaDoor
/-- The law, for every input. -/
theorem fnExactFormatConfig_holds : Rows.FnExactFormatConfigCardSaid := fnExactFormatConfig.card
end Go.Proofs.YtbfgoophleokcaaDoor
