/- The law FnExactParseSnapshot: for every input it returns true, and the arguments read as they did. Conditions: none. -/
import Derived.Test.YtimhfljclimjeaaDoorWXParseSnapshot2
import Derived.JoinedOf
import Derived.Test.YtimhfljclimjeaaDoorRows
import Derived.Test.YtimhfljclimjeaaDoorCards
import Derived.Test.YtimhfljclimjeaaDoorTie
set_option maxRecDepth 100000
set_option linter.unusedVariables false
namespace Go.V.T
open Go Go.V Go.RowKit
theorem o_9 {H : Type} (enc : TypeId × Value → H) : Opens enc Pr 9 1 encS (fun s => s.size ≤ 140737488351232) := opens_string Go.Proofs.Tryd.underlying9 (by kernel_rfl)
end Go.V.T
namespace Go.Proofs.YtimhfljclimjeaaDoor.fnExactParseSnapshot
open Go Go.V Go.V.T Go.ChangeShapes Go.WideShapes Go.RowKit
theorem own : ownKnob Go.Proofs.Tryd.prog.godebug = none := by kernel_rfl
theorem laidOut : laidOutB Go.Proofs.Tryd.prog = true := by kernel_rfl
theorem lifted (os : Os) (started : os.Started) (H : Type) (enc : TypeId × Value → H) :
    ReturnsInHanded {} Go.Proofs.Tryd.checked os 3 .any (fun w args => (Rows.fnExactParseSnapshotSpec.pre enc Go.Proofs.Tryd.prog Go.Proofs.Tryd.f3 Rows.fnExactParseSnapshotRow.domain false w args ∧ laidMetH Go.Proofs.Tryd.prog Rows.fnExactParseSnapshotRow.laid w) ∧ sizedMet enc Go.Proofs.Tryd.prog Go.Proofs.Tryd.f3 (OpenSpec.ofChange Rows.fnExactParseSnapshotSpec) false w args) (Rows.fnExactParseSnapshotSpec.post enc Go.Proofs.Tryd.prog Go.Proofs.Tryd.f3 false true false false) :=
  lifted_laid (C := Go.Proofs.Tryd.checked) own laidOut (by kernel_rfl) Go.Proofs.Tryd.func3 rfl
    (fun W hl hs => ⟨(fun g hg => tab_of_laid (g := 3) (t := 98) (e := 92) (n := 20) (by kernel_rfl) (by kernel_rfl) (by kernel_rfl) (by kernel_rfl) (by kernel_rfl) (by kernel_rfl) (by kernel_rfl) 2 (by kernel_rfl) hl), (fun g hg => by
      obtain rfl : 0 = g := Option.some.inj ((show Go.Proofs.Tryd.prog.globalNamed lenN = some 0 by kernel_rfl).symm.trans hg)
      exact cell_of_shapedOpen_int (t := 3) (zero := #[.int .i64 0]) (k := .i64) hs (of_decide_eq_true (by kernel_rfl)) (by kernel_rfl) (by kernel_rfl) (by kernel_rfl) (by kernel_rfl) (by kernel_rfl))⟩) (by kernel_rfl) Go.Proofs.Tryd.underlying4 rfl (ts := [9]) rfl (fun H ds h => by
      match ds, h with
      | [d0], _ => rfl)
    (fun H enc => takes_string Go.Proofs.Tryd.underlying9 (by kernel_rfl) takes_nil)
    (fun x hx => w_laws_FnExactParseSnapshot x.1 hx) os started H enc
    (ChangeSpec.witness_shaped (enc := enc) (C := Go.Proofs.Tryd.checked) (X := fun w _ => laidMetH Go.Proofs.Tryd.prog Rows.fnExactParseSnapshotRow.laid w) false (World.laidAll Go.Proofs.Tryd.prog os Rows.fnExactParseSnapshotRow.laid) #[.string ⟨#[]⟩] 8 (World.laidAll_os _ _ _) (World.shaped_of_ZipB (by kernel_rfl) (by kernel_rfl)) (by kernel_rfl) (by kernel_rfl) (by kernel_rfl) (laidMet_laidAll _ (by kernel_rfl) (by kernel_rfl)))
theorem over : Rows.fnExactParseSnapshotRow.holds Tryd.pinned (OpenSpec.ofChange Rows.fnExactParseSnapshotSpec) :=
  OpenClaim.holds_of_wide 3 Go.Proofs.Tryd.f3 rfl rfl rfl rfl rfl rfl rfl ⟨rfl, rfl, rfl, rfl, rfl⟩ rfl rfl rfl rfl rfl (by kernel_rfl) Go.Proofs.Tryd.func3 (by kernel_rfl)
    (of_decide_eq_true (by kernel_rfl)) (by unfold Func.isWrapper; first | (rw [if_pos (by decide +kernel)]; kernel_rfl) | (rw [if_neg (by decide +kernel)]; exact ⟨rfl, rfl⟩))
    (fun os started H enc _ => lifted os started H enc)
theorem card : Rows.FnExactParseSnapshotCardSaid :=
  Claim7.holds_tied_plain_at .later [] [.data, .data, .data, .data, .pinned] true (true, "005a3fc789c53a9caf35907026791831e1c76087cbc7fd885f5e401f2c7f8aae") false over (fun _ h => by cases h) (by kernel_rfl) (fun _ h => by cases h) fnExactParseSnapshot_row_tie rfl ⟨rfl, rfl⟩ (by kernel_rfl) rfl
    (fun f fn hf hfn => by
      obtain rfl : f = 3 := Option.some.inj ((show Go.Proofs.Tryd.prog.funcNamed Rows.fnExactParseSnapshotRow.func = some 3 by kernel_rfl).symm.trans hf) |>.symm
      obtain rfl : fn = Go.Proofs.Tryd.f3 := (Option.some.inj (Go.Proofs.Tryd.func3.symm.trans hfn)).symm
      exact ⟨by kernel_rfl, noStand (by kernel_rfl)⟩)
    (by kernel_rfl)
end Go.Proofs.YtimhfljclimjeaaDoor.fnExactParseSnapshot
namespace Go.Proofs.YtimhfljclimjeaaDoor
/-- The law, for every input. -/
theorem fnExactParseSnapshot_holds : Rows.FnExactParseSnapshotCardSaid := fnExactParseSnapshot.card
end Go.Proofs.YtimhfljclimjeaaDoor
