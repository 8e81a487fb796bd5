/- Contracts of the functions that FnExactHoldsLease reaches: what each returns. Conditions: those that each theorem states. -/
import Derived.Test.YtgbcdmbnlcnidaaMXHoldsLease
namespace Go.V.T
open Go Go.V Go.RowKit
set_option maxRecDepth 100000
set_option linter.unusedVariables false
set_option linter.unusedSimpArgs false
structure GLease where
  Epoch : Int
  Holder : Int
  Until : Int
def eGLease (x : GLease) : Nat → AV
  | 0 => .int .i64 (fun _ => x.Epoch)
  | 1 => .int .i64 (fun _ => x.Holder)
  | 2 => .int .i64 (fun _ => x.Until)
  | _ => .any
abbrev cGLease (x : GLease) : List AV := [.int .i64 (fun _ => x.Epoch), .int .i64 (fun _ => x.Holder), .int .i64 (fun _ => x.Until)]
abbrev aGLease (x : GLease) : AV := .agg [.int .i64 (fun _ => x.Epoch), .int .i64 (fun _ => x.Holder), .int .i64 (fun _ => x.Until)]

theorem w_spec_l1In (n a b : Int) : Fn Pr n_spec_l1In [.int .i64 (fun _ => n), .int .i64 (fun _ => a), .int .i64 (fun _ => b)] (.bo (decide (a ≤ n ∧ n ≤ b))) := by
  refine k_spec_l1In.fn (by kernel_rfl) ?_
  conv => arg 4; cbv
  repeat' first
    | (refine Sat.cmp (fun h => ?_) (fun h => ?_) <;> simp only [Cmp.holds] at h <;> (conv => arg 4; cbv))
    | (refine Sat.ari64 (by dsimp only; omega) (by dsimp only; omega) ?_; conv => arg 4; cbv)
    | refine Sat.done ?_
  all_goals refine led_bo ?_ <;> simp <;> omega

theorem w_impl_within (n a b : Int) : Fn Pr n_impl_within [.int .i64 (fun _ => n), .int .i64 (fun _ => a), .int .i64 (fun _ => b)] (.bo (decide (a ≤ n ∧ n ≤ b))) := by
  refine k_impl_within.fn (by kernel_rfl) ?_
  conv => arg 4; cbv
  repeat' first
    | (refine Sat.cmp (fun h => ?_) (fun h => ?_) <;> simp only [Cmp.holds] at h <;> (conv => arg 4; cbv))
    | (refine Sat.ari64 (by dsimp only; omega) (by dsimp only; omega) ?_; conv => arg 4; cbv)
    | refine Sat.done ?_
  all_goals refine led_bo ?_ <;> simp <;> omega

def isLease (x : GLease) : Bool := decide ((x.Epoch = 0 ∧ x.Holder = 0 ∧ x.Until = 0) ∨ (1 ≤ x.Epoch ∧ x.Epoch ≤ 20) ∧ (0 ≤ x.Holder ∧ x.Holder ≤ 4) ∧ (1 ≤ x.Until ∧ x.Until ≤ 1049))

theorem w_impl_IsLease (x : GLease) : Fn Pr n_impl_IsLease [aGLease x] (.bo (isLease x)) := by
  refine k_impl_IsLease.fn (by kernel_rfl) ?_
  conv => arg 4; cbv
  repeat' first
    | (refine Sat.cmp (fun h => ?_) (fun h => ?_) <;> simp only [Cmp.holds] at h <;> (conv => arg 4; cbv))
    | (refine Sat.callb (w_impl_within _ _ _) rfl (by (repeat' first | exact led_nil | refine led_cons ?_ ?_) <;> first | exact .same _ | exact .int rfl | exact .sl rfl | exact .str rfl | (refine .agg rfl ?_; repeat' first | exact led_nil | refine led_cons ?_ ?_ | exact .same _ | exact .int rfl | exact .sl rfl | exact .str rfl)) (fun h => ?_) (fun h => ?_) <;> (try simp only [decide_eq_true_eq, decide_eq_false_iff_not] at h) <;> (conv => arg 4; cbv))
    | (refine Sat.call (w_impl_within _ _ _) rfl (by (repeat' first | exact led_nil | refine led_cons ?_ ?_) <;> first | exact .same _ | exact .int rfl | exact .sl rfl | exact .str rfl | (refine .agg rfl ?_; repeat' first | exact led_nil | refine led_cons ?_ ?_ | exact .same _ | exact .int rfl | exact .sl rfl | exact .str rfl)) ?_; conv => arg 4; cbv)
    | (refine Sat.ari64 (by dsimp only; omega) (by dsimp only; omega) ?_; conv => arg 4; cbv)
    | refine Sat.done ?_
  all_goals refine led_bo ?_ <;> simp [isLease] <;> omega

theorem w_spec_IsLease (x : GLease) : Fn Pr n_spec_IsLease [aGLease x] (.bo (isLease x)) := by
  refine k_spec_IsLease.fn (by kernel_rfl) ?_
  conv => arg 4; cbv
  repeat' first
    | (refine Sat.cmp (fun h => ?_) (fun h => ?_) <;> simp only [Cmp.holds] at h <;> (conv => arg 4; cbv))
    | (refine Sat.callb (w_spec_l1In _ _ _) rfl (by (repeat' first | exact led_nil | refine led_cons ?_ ?_) <;> first | exact .same _ | exact .int rfl | exact .sl rfl | exact .str rfl | (refine .agg rfl ?_; repeat' first | exact led_nil | refine led_cons ?_ ?_ | exact .same _ | exact .int rfl | exact .sl rfl | exact .str rfl)) (fun h => ?_) (fun h => ?_) <;> (try simp only [decide_eq_true_eq, decide_eq_false_iff_not] at h) <;> (conv => arg 4; cbv))
    | (refine Sat.call (w_spec_l1In _ _ _) rfl (by (repeat' first | exact led_nil | refine led_cons ?_ ?_) <;> first | exact .same _ | exact .int rfl | exact .sl rfl | exact .str rfl | (refine .agg rfl ?_; repeat' first | exact led_nil | refine led_cons ?_ ?_ | exact .same _ | exact .int rfl | exact .sl rfl | exact .str rfl)) ?_; conv => arg 4; cbv)
    | (refine Sat.ari64 (by dsimp only; omega) (by dsimp only; omega) ?_; conv => arg 4; cbv)
    | refine Sat.done ?_
  all_goals refine led_bo ?_ <;> simp [isLease] <;> omega

theorem w_laws_toLease (x : GLease) : Fn Pr n_laws_toLease [aGLease x] (aGLease x) := by
  refine k_laws_toLease.fn (by kernel_rfl) ?_
  cbv
  exact Sat.done (.same _)

def holdsLease (x : GLease) (e h n : Int) : Bool := decide ((1 ≤ x.Epoch ∧ x.Epoch ≤ 20) ∧ (0 ≤ x.Holder ∧ x.Holder ≤ 4) ∧ (1 ≤ x.Until ∧ x.Until ≤ 1049) ∧ x.Epoch = e ∧ x.Holder = h ∧ (0 ≤ n ∧ n ≤ 999) ∧ n + 3 < x.Until)

theorem w_impl_HoldsLease (x : GLease) (e h n : Int) : Fn Pr n_impl_HoldsLease [aGLease x, .int .i64 (fun _ => e), .int .i64 (fun _ => h), .int .i64 (fun _ => n)] (.bo (holdsLease x e h n)) := by
  refine k_impl_HoldsLease.fn (by kernel_rfl) ?_
  conv => arg 4; cbv
  repeat' first
    | (refine Sat.cmp (fun h => ?_) (fun h => ?_) <;> simp only [Cmp.holds] at h <;> (conv => arg 4; cbv))
    | (refine Sat.callb (w_impl_IsLease x) rfl (by (repeat' first | exact led_nil | refine led_cons ?_ ?_) <;> first | exact .same _ | exact .int rfl | exact .sl rfl | exact .str rfl | (refine .agg rfl ?_; repeat' first | exact led_nil | refine led_cons ?_ ?_ | exact .same _ | exact .int rfl | exact .sl rfl | exact .str rfl)) (fun h => ?_) (fun h => ?_) <;> (try simp only [isLease, decide_eq_true_eq, decide_eq_false_iff_not] at h) <;> (conv => arg 4; cbv))
    | (refine Sat.call (w_impl_IsLease x) rfl (by (repeat' first | exact led_nil | refine led_cons ?_ ?_) <;> first | exact .same _ | exact .int rfl | exact .sl rfl | exact .str rfl | (refine .agg rfl ?_; repeat' first | exact led_nil | refine led_cons ?_ ?_ | exact .same _ | exact .int rfl | exact .sl rfl | exact .str rfl)) ?_; conv => arg 4; cbv)
    | (refine Sat.callb (w_impl_within _ _ _) rfl (by (repeat' first | exact led_nil | refine led_cons ?_ ?_) <;> first | exact .same _ | exact .int rfl | exact .sl rfl | exact .str rfl | (refine .agg rfl ?_; repeat' first | exact led_nil | refine led_cons ?_ ?_ | exact .same _ | exact .int rfl | exact .sl rfl | exact .str rfl)) (fun h => ?_) (fun h => ?_) <;> (try simp only [decide_eq_true_eq, decide_eq_false_iff_not] at h) <;> (conv => arg 4; cbv))
    | (refine Sat.call (w_impl_within _ _ _) rfl (by (repeat' first | exact led_nil | refine led_cons ?_ ?_) <;> first | exact .same _ | exact .int rfl | exact .sl rfl | exact .str rfl | (refine .agg rfl ?_; repeat' first | exact led_nil | refine led_cons ?_ ?_ | exact .same _ | exact .int rfl | exact .sl rfl | exact .str rfl)) ?_; conv => arg 4; cbv)
    | (refine Sat.ari64 (by dsimp only; omega) (by dsimp only; omega) ?_; conv => arg 4; cbv)
    | refine Sat.done ?_
  all_goals refine led_bo ?_ <;> simp [holdsLease] <;> omega

theorem w_spec_HoldsLease (x : GLease) (e h n : Int) : Fn Pr n_spec_HoldsLease [aGLease x, .int .i64 (fun _ => e), .int .i64 (fun _ => h), .int .i64 (fun _ => n)] (.bo (holdsLease x e h n)) := by
  refine k_spec_HoldsLease.fn (by kernel_rfl) ?_
  conv => arg 4; cbv
  repeat' first
    | (refine Sat.cmp (fun h => ?_) (fun h => ?_) <;> simp only [Cmp.holds] at h <;> (conv => arg 4; cbv))
    | (refine Sat.callb (w_spec_IsLease x) rfl (by (repeat' first | exact led_nil | refine led_cons ?_ ?_) <;> first | exact .same _ | exact .int rfl | exact .sl rfl | exact .str rfl | (refine .agg rfl ?_; repeat' first | exact led_nil | refine led_cons ?_ ?_ | exact .same _ | exact .int rfl | exact .sl rfl | exact .str rfl)) (fun h => ?_) (fun h => ?_) <;> (try simp only [isLease, decide_eq_true_eq, decide_eq_false_iff_not] at h) <;> (conv => arg 4; cbv))
    | (refine Sat.call (w_spec_IsLease x) rfl (by (repeat' first | exact led_nil | refine led_cons ?_ ?_) <;> first | exact .same _ | exact .int rfl | exact .sl rfl | exact .str rfl | (refine .agg rfl ?_; repeat' first | exact led_nil | refine led_cons ?_ ?_ | exact .same _ | exact .int rfl | exact .sl rfl | exact .str rfl)) ?_; conv => arg 4; cbv)
    | (refine Sat.callb (w_spec_l1In _ _ _) rfl (by (repeat' first | exact led_nil | refine led_cons ?_ ?_) <;> first | exact .same _ | exact .int rfl | exact .sl rfl | exact .str rfl | (refine .agg rfl ?_; repeat' first | exact led_nil | refine led_cons ?_ ?_ | exact .same _ | exact .int rfl | exact .sl rfl | exact .str rfl)) (fun h => ?_) (fun h => ?_) <;> (try simp only [decide_eq_true_eq, decide_eq_false_iff_not] at h) <;> (conv => arg 4; cbv))
    | (refine Sat.call (w_spec_l1In _ _ _) rfl (by (repeat' first | exact led_nil | refine led_cons ?_ ?_) <;> first | exact .same _ | exact .int rfl | exact .sl rfl | exact .str rfl | (refine .agg rfl ?_; repeat' first | exact led_nil | refine led_cons ?_ ?_ | exact .same _ | exact .int rfl | exact .sl rfl | exact .str rfl)) ?_; conv => arg 4; cbv)
    | (refine Sat.ari64 (by dsimp only; omega) (by dsimp only; omega) ?_; conv => arg 4; cbv)
    | refine Sat.done ?_
  all_goals refine led_bo ?_ <;> simp [holdsLease] <;> omega

theorem w_laws_FnExactHoldsLease (x : GLease) (e h n : Int) {F : Prop} (_ : F) : Fn Pr n_laws_FnExactHoldsLease [aGLease x, .int .i64 (fun _ => e), .int .i64 (fun _ => h), .int .i64 (fun _ => n)] (.bo true) := by
  refine k_laws_FnExactHoldsLease.fn (by kernel_rfl) ?_
  conv => arg 4; cbv
  repeat' first
    | (refine Sat.cmp (fun h => ?_) (fun h => ?_) <;> simp only [Cmp.holds] at h <;> (conv => arg 4; cbv))
    | (refine Sat.callb (w_laws_toLease x) rfl (by (repeat' first | exact led_nil | refine led_cons ?_ ?_) <;> first | exact .same _ | exact .int rfl | exact .sl rfl | exact .str rfl | (refine .agg rfl ?_; repeat' first | exact led_nil | refine led_cons ?_ ?_ | exact .same _ | exact .int rfl | exact .sl rfl | exact .str rfl)) (fun h => ?_) (fun h => ?_) <;> (try simp only [decide_eq_true_eq, decide_eq_false_iff_not] at h) <;> (conv => arg 4; cbv))
    | (refine Sat.call (w_laws_toLease x) rfl (by (repeat' first | exact led_nil | refine led_cons ?_ ?_) <;> first | exact .same _ | exact .int rfl | exact .sl rfl | exact .str rfl | (refine .agg rfl ?_; repeat' first | exact led_nil | refine led_cons ?_ ?_ | exact .same _ | exact .int rfl | exact .sl rfl | exact .str rfl)) ?_; conv => arg 4; cbv)
    | (refine Sat.callb (w_spec_HoldsLease x _ _ _) rfl (by (repeat' first | exact led_nil | refine led_cons ?_ ?_) <;> first | exact .same _ | exact .int rfl | exact .sl rfl | exact .str rfl | (refine .agg rfl ?_; repeat' first | exact led_nil | refine led_cons ?_ ?_ | exact .same _ | exact .int rfl | exact .sl rfl | exact .str rfl)) (fun h => ?_) (fun h => ?_) <;> (try simp only [decide_eq_true_eq, decide_eq_false_iff_not] at h) <;> (conv => arg 4; cbv))
    | (refine Sat.call (w_spec_HoldsLease x _ _ _) rfl (by (repeat' first | exact led_nil | refine led_cons ?_ ?_) <;> first | exact .same _ | exact .int rfl | exact .sl rfl | exact .str rfl | (refine .agg rfl ?_; repeat' first | exact led_nil | refine led_cons ?_ ?_ | exact .same _ | exact .int rfl | exact .sl rfl | exact .str rfl)) ?_; conv => arg 4; cbv)
    | (refine Sat.callb (w_impl_HoldsLease x _ _ _) rfl (by (repeat' first | exact led_nil | refine led_cons ?_ ?_) <;> first | exact .same _ | exact .int rfl | exact .sl rfl | exact .str rfl | (refine .agg rfl ?_; repeat' first | exact led_nil | refine led_cons ?_ ?_ | exact .same _ | exact .int rfl | exact .sl rfl | exact .str rfl)) (fun h => ?_) (fun h => ?_) <;> (try simp only [decide_eq_true_eq, decide_eq_false_iff_not] at h) <;> (conv => arg 4; cbv))
    | (refine Sat.call (w_impl_HoldsLease x _ _ _) rfl (by (repeat' first | exact led_nil | refine led_cons ?_ ?_) <;> first | exact .same _ | exact .int rfl | exact .sl rfl | exact .str rfl | (refine .agg rfl ?_; repeat' first | exact led_nil | refine led_cons ?_ ?_ | exact .same _ | exact .int rfl | exact .sl rfl | exact .str rfl)) ?_; conv => arg 4; cbv)
    | (refine Sat.ari64 (by dsimp only; omega) (by dsimp only; omega) ?_; conv => arg 4; cbv)
    | refine Sat.done ?_
  all_goals refine led_bo ?_
  all_goals first | rfl | simp_all

end Go.V.T
