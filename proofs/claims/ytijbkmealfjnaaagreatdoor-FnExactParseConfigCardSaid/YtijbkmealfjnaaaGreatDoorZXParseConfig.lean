/- The law FnExactParseConfig: for every input it returns true, and the arguments read as they did. Conditions: none. -/
import Derived.Test.YtijbkmealfjnaaaGreatDoorWXParseConfig1
import Derived.JoinedOf
import Derived.Test.YtijbkmealfjnaaaGreatDoorRows
import Derived.Test.YtijbkmealfjnaaaGreatDoorCards
import Derived.Test.YtijbkmealfjnaaaGreatDoorTie
set_option maxRecDepth 100000
set_option linter.unusedVariables false
namespace Go.V.T
open Go Go.V Go.RowKit
theorem o_9 {H : Type} (enc : TypeId × Value → H) : Opens enc Pr 9 1 encS (fun s => s.size ≤ 140737488351232) := opens_string Go.Proofs.Tryz.underlying9 (by kernel_rfl)
end Go.V.T
namespace Go.Proofs.YtijbkmealfjnaaaGreatDoor.fnExactParseConfig
open Go Go.V Go.V.T Go.ChangeShapes Go.WideShapes Go.RowKit
theorem own : ownKnob Go.Proofs.Tryz.prog.godebug = none := by kernel_rfl
theorem laidOut : laidOutB Go.Proofs.Tryz.prog = true := by kernel_rfl
theorem lifted (os : Os) (started : os.Started) (H : Type) (enc : TypeId × Value → H) :
    ReturnsInHanded {} Go.Proofs.Tryz.checked os 3 .any (fun w args => (Rows.fnExactParseConfigSpec.pre enc Go.Proofs.Tryz.prog Go.Proofs.Tryz.f3 Rows.fnExactParseConfigRow.domain false w args ∧ laidMetH Go.Proofs.Tryz.prog Rows.fnExactParseConfigRow.laid w) ∧ sizedMet enc Go.Proofs.Tryz.prog Go.Proofs.Tryz.f3 (OpenSpec.ofChange Rows.fnExactParseConfigSpec) false w args) (Rows.fnExactParseConfigSpec.post enc Go.Proofs.Tryz.prog Go.Proofs.Tryz.f3 false true false false) :=
  lifted_laid (C := Go.Proofs.Tryz.checked) own laidOut (by kernel_rfl) Go.Proofs.Tryz.func3 rfl
    (fun W hl hs => ⟨(fun g hg => tab_of_laid (g := 3) (t := 94) (e := 86) (n := 20) (by kernel_rfl) (by kernel_rfl) (by kernel_rfl) (by kernel_rfl) (by kernel_rfl) (by kernel_rfl) (by kernel_rfl) 2 (by kernel_rfl) hl), (fun g hg => by
      obtain rfl : 0 = g := Option.some.inj ((show Go.Proofs.Tryz.prog.globalNamed lenN = some 0 by kernel_rfl).symm.trans hg)
      exact cell_of_shapedOpen_int (t := 3) (zero := #[.int .i64 0]) (k := .i64) hs (of_decide_eq_true (by kernel_rfl)) (by kernel_rfl) (by kernel_rfl) (by kernel_rfl) (by kernel_rfl) (by kernel_rfl))⟩) (by kernel_rfl) Go.Proofs.Tryz.underlying4 rfl (ts := [9]) rfl (fun H ds h => by
      match ds, h with
      | [d0], _ => rfl)
    (fun H enc => takes_string Go.Proofs.Tryz.underlying9 (by kernel_rfl) takes_nil)
    (fun x hx => w_laws_FnExactParseConfig x.1 hx) os started H enc
    (ChangeSpec.witness_shaped (enc := enc) (C := Go.Proofs.Tryz.checked) (X := fun w _ => laidMetH Go.Proofs.Tryz.prog Rows.fnExactParseConfigRow.laid w) false (World.laidAll Go.Proofs.Tryz.prog os Rows.fnExactParseConfigRow.laid) #[.string ⟨#[]⟩] 8 (World.laidAll_os _ _ _) (World.shaped_of_ZipB (by kernel_rfl) (by kernel_rfl)) (by kernel_rfl) (by kernel_rfl) (by kernel_rfl) (laidMet_laidAll _ (by kernel_rfl) (by kernel_rfl)))
theorem over : Rows.fnExactParseConfigRow.holds Tryz.pinned (OpenSpec.ofChange Rows.fnExactParseConfigSpec) :=
  OpenClaim.holds_of_wide 3 Go.Proofs.Tryz.f3 rfl rfl rfl rfl rfl rfl rfl ⟨rfl, rfl, rfl, rfl, rfl⟩ rfl rfl rfl rfl rfl (by kernel_rfl) Go.Proofs.Tryz.func3 (by kernel_rfl)
    (of_decide_eq_true (by kernel_rfl)) (by unfold Func.isWrapper; first | (rw [if_pos (by decide +kernel)]; kernel_rfl) | (rw [if_neg (by decide +kernel)]; exact ⟨rfl, rfl⟩))
    (fun os started H enc _ => lifted os started H enc)
theorem card : Rows.FnExactParseConfigCardSaid :=
  Claim7.holds_tied_plain_at .later [] [.data, .data, .data, .data, .pinned] true (true, "c56f3dabc6dbf3dce28d7b8eb897a6e2f729c4568bfd09b4ddfd57b2004e6691") false over (fun _ h => by cases h) (by kernel_rfl) (fun _ h => by cases h) fnExactParseConfig_row_tie rfl ⟨rfl, rfl⟩ (by kernel_rfl) rfl
    (fun f fn hf hfn => by
      obtain rfl : f = 3 := Option.some.inj ((show Go.Proofs.Tryz.prog.funcNamed Rows.fnExactParseConfigRow.func = some 3 by kernel_rfl).symm.trans hf) |>.symm
      obtain rfl : fn = Go.Proofs.Tryz.f3 := (Option.some.inj (Go.Proofs.Tryz.func3.symm.trans hfn)).symm
      exact ⟨by kernel_rfl, noStand (by kernel_rfl)⟩)
    (by kernel_rfl)
end Go.Proofs.YtijbkmealfjnaaaGreatDoor.fnExactParseConfig
namespace Go.Proofs.YtijbkmealfjnaaaGreatDoor
/-- The law, for every input. -/
theorem fnExactParseConfig_holds : Rows.FnExactParseConfigCardSaid := fnExactParseConfig.card
end Go.Proofs.YtijbkmealfjnaaaGreatDoor
