/- The law FnExactTakeSnapshot: for every input it returns true, and the arguments read as they did. Conditions: none. -/
import Derived.Test.YtmgaclkdjlhjmaaDoorWXTakeSnapshot2
import Derived.JoinedOf
import Derived.Test.YtmgaclkdjlhjmaaDoorRows
import Derived.Test.YtmgaclkdjlhjmaaDoorCards
import Derived.Test.YtmgaclkdjlhjmaaDoorTie
set_option maxRecDepth 100000
set_option linter.unusedVariables false
namespace Go.V.T
open Go Go.V Go.RowKit
theorem o_3 {H : Type} (enc : TypeId × Value → H) : Opens enc Pr 3 1 (encI .i64) (fun x => (Lit.int .i64 x).wf = true) := opens_int Go.Proofs.Tryd.underlying3 (by kernel_rfl)
theorem o_48 {H : Type} (enc : TypeId × Value → H) : Opens enc Pr 48 6 eGOp (fun x => ((Lit.int .i64 x.Client).wf = true ∧ (Lit.int .i64 x.Seq).wf = true ∧ (Lit.int .i64 x.Kind).wf = true ∧ (Lit.int .i64 x.Object).wf = true ∧ (Lit.int .i64 x.Old).wf = true ∧ (Lit.int .i64 x.Value).wf = true)) := by
 have o := opens_struct (sz := (1 + (1 + (1 + (1 + (1 + 1)))))) (ea := (encP 1 (encI .i64) (encP 1 (encI .i64) (encP 1 (encI .i64) (encP 1 (encI .i64) (encP 1 (encI .i64) (encI .i64))))))) (α := Int × Int × Int × Int × Int × Int) (β := GOp) (eb := eGOp) Go.Proofs.Tryd.underlying48 (by kernel_rfl) (ofields_cons rfl rfl (o_3 enc) (ofields_cons rfl rfl (o_3 enc) (ofields_cons rfl rfl (o_3 enc) (ofields_cons rfl rfl (o_3 enc) (ofields_cons rfl rfl (o_3 enc) (ofields_one rfl (o_3 enc))))))) (fun x : GOp => (x.Client, x.Seq, x.Kind, x.Object, x.Old, x.Value)) (fun x : Int × Int × Int × Int × Int × Int => { Client := x.1, Seq := x.2.1, Kind := x.2.2.1, Object := x.2.2.2.1, Old := x.2.2.2.2.1, Value := x.2.2.2.2.2 }) (fun _ => rfl) (fun x j hj => by match j, hj with | 0, _ => rfl | 1, _ => rfl | 2, _ => rfl | 3, _ => rfl | 4, _ => rfl | 5, _ => rfl | j + 6, h => omega)
 exact o
theorem o_50 {H : Type} (enc : TypeId × Value → H) : Opens enc Pr 50 7 eGEntry (fun x => ((Lit.int .i64 x.Epoch).wf = true ∧ ((Lit.int .i64 x.Op.Client).wf = true ∧ (Lit.int .i64 x.Op.Seq).wf = true ∧ (Lit.int .i64 x.Op.Kind).wf = true ∧ (Lit.int .i64 x.Op.Object).wf = true ∧ (Lit.int .i64 x.Op.Old).wf = true ∧ (Lit.int .i64 x.Op.Value).wf = true))) := by
 have o := opens_struct (sz := (1 + 6)) (ea := (encP 1 (encI .i64) eGOp)) (α := Int × GOp) (β := GEntry) (eb := eGEntry) Go.Proofs.Tryd.underlying50 (by kernel_rfl) (ofields_cons rfl rfl (o_3 enc) (ofields_one rfl (o_48 enc))) (fun x : GEntry => (x.Epoch, x.Op)) (fun x : Int × GOp => { Epoch := x.1, Op := x.2 }) (fun _ => rfl) (fun x j hj => by match j, hj with | 0, _ => rfl | 1, _ => rfl | 2, _ => rfl | 3, _ => rfl | 4, _ => rfl | 5, _ => rfl | 6, _ => rfl | j + 7, h => omega)
 exact o
theorem o_22 {H : Type} (enc : TypeId × Value → H) : Opens enc Pr 22 1 (encL 7 eGEntry) (fun l => l.length ≤ maxLen ∧ l.length * 56 ≤ 140737488351232 ∧ ∀ x ∈ l, ((Lit.int .i64 x.Epoch).wf = true ∧ ((Lit.int .i64 x.Op.Client).wf = true ∧ (Lit.int .i64 x.Op.Seq).wf = true ∧ (Lit.int .i64 x.Op.Kind).wf = true ∧ (Lit.int .i64 x.Op.Object).wf = true ∧ (Lit.int .i64 x.Op.Old).wf = true ∧ (Lit.int .i64 x.Op.Value).wf = true))) := opens_slice Go.Proofs.Tryd.underlying22 (by kernel_rfl) (by kernel_rfl) (by decide) (o_50 enc)
end Go.V.T
namespace Go.Proofs.YtmgaclkdjlhjmaaDoor.fnExactTakeSnapshot
open Go Go.V Go.V.T Go.ChangeShapes Go.WideShapes Go.RowKit
theorem own : ownKnob Go.Proofs.Tryd.prog.godebug = none := by kernel_rfl
theorem laidOut : laidOutB Go.Proofs.Tryd.prog = true := by kernel_rfl
theorem lifted (os : Os) (started : os.Started) (H : Type) (enc : TypeId × Value → H) :
 ReturnsInHanded {} Go.Proofs.Tryd.checked os 3 .any (fun w args => (Rows.fnExactTakeSnapshotSpec.pre enc Go.Proofs.Tryd.prog Go.Proofs.Tryd.f3 Rows.fnExactTakeSnapshotRow.domain false w args ∧ laidMetH Go.Proofs.Tryd.prog Rows.fnExactTakeSnapshotRow.laid w) ∧ sizedMet enc Go.Proofs.Tryd.prog Go.Proofs.Tryd.f3 (OpenSpec.ofChange Rows.fnExactTakeSnapshotSpec) false w args) (Rows.fnExactTakeSnapshotSpec.post enc Go.Proofs.Tryd.prog Go.Proofs.Tryd.f3 false true false false) :=
 lifted_laid (C := Go.Proofs.Tryd.checked) own laidOut (by kernel_rfl) Go.Proofs.Tryd.func3 rfl
  (fun W hl hs => ⟨(fun g hg => tab_of_laid (g := 1) (t := 112) (e := 105) (n := 20) (by kernel_rfl) (by kernel_rfl) (by kernel_rfl) (by kernel_rfl) (by kernel_rfl) (by kernel_rfl) (by kernel_rfl) 2 (by kernel_rfl) hl), (fun g hg => by
    obtain rfl : 0 = g := Option.some.inj ((show Go.Proofs.Tryd.prog.globalNamed lenN = some 0 by kernel_rfl).symm.trans hg)
    exact cell_of_shapedOpen_int (t := 3) (zero := #[.int .i64 0]) (k := .i64) hs (of_decide_eq_true (by kernel_rfl)) (by kernel_rfl) (by kernel_rfl) (by kernel_rfl) (by kernel_rfl) (by kernel_rfl))⟩) (by kernel_rfl) Go.Proofs.Tryd.underlying4 rfl (ts := [22, 3]) rfl (fun H ds h => by
    match ds, h with
    | [d0, d1], _ => rfl)
  (fun H enc => takes_slice Go.Proofs.Tryd.underlying22 (o_22 enc) (takes_int Go.Proofs.Tryd.underlying3 takes_nil))
  (fun x hx => w_laws_FnExactTakeSnapshot x.1 x.2.1 hx) os started H enc
  (ChangeSpec.witness_shaped (enc := enc) (C := Go.Proofs.Tryd.checked) (X := fun w _ => laidMetH Go.Proofs.Tryd.prog Rows.fnExactTakeSnapshotRow.laid w) false (World.laidAll Go.Proofs.Tryd.prog os Rows.fnExactTakeSnapshotRow.laid) #[.slice none 0 0, .int .i64 0] 8 (World.laidAll_os _ _ _) (World.shaped_of_ZipB (by kernel_rfl) (by kernel_rfl)) (by kernel_rfl) (by kernel_rfl) (by kernel_rfl) (laidMet_laidAll _ (by kernel_rfl) (by kernel_rfl)))
theorem over : Rows.fnExactTakeSnapshotRow.holds Tryd.pinned (OpenSpec.ofChange Rows.fnExactTakeSnapshotSpec) :=
 OpenClaim.holds_of_wide 3 Go.Proofs.Tryd.f3 rfl rfl rfl rfl rfl rfl rfl ⟨rfl, rfl, rfl, rfl, rfl⟩ rfl rfl rfl rfl rfl (by kernel_rfl) Go.Proofs.Tryd.func3 (by kernel_rfl)
  (of_decide_eq_true (by kernel_rfl)) (by unfold Func.isWrapper; first | (rw [if_pos (by decide +kernel)]; kernel_rfl) | (rw [if_neg (by decide +kernel)]; exact ⟨rfl, rfl⟩))
  (fun os started H enc _ => lifted os started H enc)
theorem card : Rows.FnExactTakeSnapshotCardSaid :=
 Claim7.holds_tied_plain_at .later [] [.data, .data, .data] true (true, "0936846ce5635e944196f6012eaa72a3b99d957597a7e041170393bd1cdc5796") false over (fun _ h => by cases h) (by kernel_rfl) (fun _ h => by cases h) fnExactTakeSnapshot_row_tie rfl ⟨rfl, rfl⟩ (by kernel_rfl) rfl
  (fun f fn hf hfn => by
    obtain rfl : f = 3 := Option.some.inj ((show Go.Proofs.Tryd.prog.funcNamed Rows.fnExactTakeSnapshotRow.func = some 3 by kernel_rfl).symm.trans hf) |>.symm
    obtain rfl : fn = Go.Proofs.Tryd.f3 := (Option.some.inj (Go.Proofs.Tryd.func3.symm.trans hfn)).symm
    exact ⟨by kernel_rfl, noStand (by kernel_rfl)⟩)
  (by kernel_rfl)
end Go.Proofs.YtmgaclkdjlhjmaaDoor.fnExactTakeSnapshot
namespace Go.Proofs.YtmgaclkdjlhjmaaDoor
theorem fnExactTakeSnapshot_holds : Rows.FnExactTakeSnapshotCardSaid := fnExactTakeSnapshot.card
end Go.Proofs.YtmgaclkdjlhjmaaDoor