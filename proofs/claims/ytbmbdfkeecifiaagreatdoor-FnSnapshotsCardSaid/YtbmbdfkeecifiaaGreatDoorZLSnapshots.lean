/- The law FnSnapshots: for every input it returns true, and the arguments read as they did. Conditions: none. -/
import Derived.Test.YtbmbdfkeecifiaaGreatDoorWLSnapshots3
import Derived.JoinedOf
import Derived.Test.YtbmbdfkeecifiaaGreatDoorRows
import Derived.Test.YtbmbdfkeecifiaaGreatDoorCards
import Derived.Test.YtbmbdfkeecifiaaGreatDoorTie
set_option maxRecDepth 100000
set_option linter.unusedVariables false
namespace Go.V.T
open Go Go.V Go.RowKit
theorem o_5 {H : Type} (enc : TypeId × Value → H) : Opens enc Pr 5 1 (encI .u8) (fun x => (Lit.int .u8 x).wf = true) := opens_int Go.Proofs.Tryz.underlying5 (by kernel_rfl)
theorem o_22 {H : Type} (enc : TypeId × Value → H) : Opens enc Pr 22 1 (encL 1 (encI .u8)) (fun l => l.length ≤ maxLen ∧ l.length * 1 ≤ 140737488351232 ∧ ∀ x ∈ l, (Lit.int .u8 x).wf = true) := opens_slice Go.Proofs.Tryz.underlying22 (by kernel_rfl) (by kernel_rfl) (by decide) (o_5 enc)
end Go.V.T
namespace Go.Proofs.YtbmbdfkeecifiaaGreatDoor.fnSnapshots
open Go Go.V Go.V.T Go.ChangeShapes Go.WideShapes Go.RowKit
theorem own : ownKnob Go.Proofs.Tryz.prog.godebug = none := by kernel_rfl
theorem laidOut : laidOutB Go.Proofs.Tryz.prog = true := by kernel_rfl
theorem lifted (os : Os) (started : os.Started) (H : Type) (enc : TypeId × Value → H) :
 ReturnsInHanded {} Go.Proofs.Tryz.checked os 3 .any (fun w args => (Rows.fnSnapshotsSpec.pre enc Go.Proofs.Tryz.prog Go.Proofs.Tryz.f3 Rows.fnSnapshotsRow.domain false w args ∧ laidMetH Go.Proofs.Tryz.prog Rows.fnSnapshotsRow.laid w) ∧ sizedMet enc Go.Proofs.Tryz.prog Go.Proofs.Tryz.f3 (OpenSpec.ofChange Rows.fnSnapshotsSpec) false w args) (Rows.fnSnapshotsSpec.post enc Go.Proofs.Tryz.prog Go.Proofs.Tryz.f3 false true false false) :=
 lifted_laid (C := Go.Proofs.Tryz.checked) own laidOut (by kernel_rfl) Go.Proofs.Tryz.func3 rfl
  (fun W hl hs => ⟨(fun g hg => tab_of_laid (g := 1) (t := 144) (e := 136) (n := 20) (by kernel_rfl) (by kernel_rfl) (by kernel_rfl) (by kernel_rfl) (by kernel_rfl) (by kernel_rfl) (by kernel_rfl) 2 (by kernel_rfl) hl), (fun g hg => by
    obtain rfl : 0 = g := Option.some.inj ((show Go.Proofs.Tryz.prog.globalNamed lenN = some 0 by kernel_rfl).symm.trans hg)
    exact cell_of_shapedOpen_int (t := 3) (zero := #[.int .i64 0]) (k := .i64) hs (of_decide_eq_true (by kernel_rfl)) (by kernel_rfl) (by kernel_rfl) (by kernel_rfl) (by kernel_rfl) (by kernel_rfl))⟩) (by kernel_rfl) Go.Proofs.Tryz.underlying4 rfl (ts := [22]) rfl (fun H ds h => by
    match ds, h with
    | [d0], _ => rfl)
  (fun H enc => takes_slice Go.Proofs.Tryz.underlying22 (o_22 enc) takes_nil)
  (fun x hx => w_laws_FnSnapshots x.1 hx) os started H enc
  (ChangeSpec.witness_shaped (enc := enc) (C := Go.Proofs.Tryz.checked) (X := fun w _ => laidMetH Go.Proofs.Tryz.prog Rows.fnSnapshotsRow.laid w) false (World.laidAll Go.Proofs.Tryz.prog os Rows.fnSnapshotsRow.laid) #[.slice none 0 0] 8 (World.laidAll_os _ _ _) (World.shaped_of_ZipB (by kernel_rfl) (by kernel_rfl)) (by kernel_rfl) (by kernel_rfl) (by kernel_rfl) (laidMet_laidAll _ (by kernel_rfl) (by kernel_rfl)))
theorem over : Rows.fnSnapshotsRow.holds Tryz.pinned (OpenSpec.ofChange Rows.fnSnapshotsSpec) :=
 OpenClaim.holds_of_wide 3 Go.Proofs.Tryz.f3 rfl rfl rfl rfl rfl rfl rfl ⟨rfl, rfl, rfl, rfl, rfl⟩ rfl rfl rfl rfl rfl (by kernel_rfl) Go.Proofs.Tryz.func3 (by kernel_rfl)
  (of_decide_eq_true (by kernel_rfl)) (by unfold Func.isWrapper; first | (rw [if_pos (by decide +kernel)]; kernel_rfl) | (rw [if_neg (by decide +kernel)]; exact ⟨rfl, rfl⟩))
  (fun os started H enc _ => lifted os started H enc)
theorem card : Rows.FnSnapshotsCardSaid :=
 Claim7.holds_tied_plain_at .later [] [.data, .data, .data, .data, .pinned] true (true, "9130a70b13311de1588d0d0aa543b8b0f16cb8e1fdb669900dd450ac0ebb81f0") false over (fun _ h => by cases h) (by kernel_rfl) (fun _ h => by cases h) fnSnapshots_row_tie rfl ⟨rfl, rfl⟩ (by kernel_rfl) rfl
  (fun f fn hf hfn => by
    obtain rfl : f = 3 := Option.some.inj ((show Go.Proofs.Tryz.prog.funcNamed Rows.fnSnapshotsRow.func = some 3 by kernel_rfl).symm.trans hf) |>.symm
    obtain rfl : fn = Go.Proofs.Tryz.f3 := (Option.some.inj (Go.Proofs.Tryz.func3.symm.trans hfn)).symm
    exact ⟨by kernel_rfl, noStand (by kernel_rfl)⟩)
  (by kernel_rfl)
end Go.Proofs.YtbmbdfkeecifiaaGreatDoor.fnSnapshots
namespace Go.Proofs.YtbmbdfkeecifiaaGreatDoor
theorem fnSnapshots_holds : Rows.FnSnapshotsCardSaid := fnSnapshots.card
end Go.Proofs.YtbmbdfkeecifiaaGreatDoor