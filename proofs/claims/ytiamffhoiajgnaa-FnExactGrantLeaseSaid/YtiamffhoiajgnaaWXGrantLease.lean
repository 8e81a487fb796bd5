/- Contracts of the functions that FnExactGrantLease reaches: what each returns. Conditions: those that each theorem states. -/
import Derived.Test.YtiamffhoiajgnaaMXGrantLease
namespace Go.V.T
open Go Go.V Go.RowKit
set_option maxRecDepth 100000
set_option linter.unusedVariables false
set_option linter.unusedSimpArgs false
structure GLease where
  Epoch : Int
  Holder : Int
  Until : Int
  deriving DecidableEq
def eGLease (x : GLease) : Nat → AV
  | 0 => .int .i64 (fun _ => x.Epoch)
  | 1 => .int .i64 (fun _ => x.Holder)
  | 2 => .int .i64 (fun _ => x.Until)
  | _ => .any
abbrev cGLease (x : GLease) : List AV := [.int .i64 (fun _ => x.Epoch), .int .i64 (fun _ => x.Holder), .int .i64 (fun _ => x.Until)]
abbrev aGLease (x : GLease) : AV := .agg [.int .i64 (fun _ => x.Epoch), .int .i64 (fun _ => x.Holder), .int .i64 (fun _ => x.Until)]

theorem w_spec_l1In (n a b : Int) : Fn Pr n_spec_l1In [.int .i64 (fun _ => n), .int .i64 (fun _ => a), .int .i64 (fun _ => b)] (.bo (decide (a ≤ n ∧ n ≤ b))) := by
  refine k_spec_l1In.fn (by kernel_rfl) ?_
  conv => arg 4; cbv
  repeat' first
    | (refine Sat.cmp (fun h => ?_) (fun h => ?_) <;> simp only [Cmp.holds] at h <;> (conv => arg 4; cbv))
    | (refine Sat.ari64 (by dsimp only; omega) (by dsimp only; omega) ?_; conv => arg 4; cbv)
    | refine Sat.done ?_
  all_goals refine led_bo ?_ <;> simp <;> omega

theorem w_impl_within (n a b : Int) : Fn Pr n_impl_within [.int .i64 (fun _ => n), .int .i64 (fun _ => a), .int .i64 (fun _ => b)] (.bo (decide (a ≤ n ∧ n ≤ b))) := by
  refine k_impl_within.fn (by kernel_rfl) ?_
  conv => arg 4; cbv
  repeat' first
    | (refine Sat.cmp (fun h => ?_) (fun h => ?_) <;> simp only [Cmp.holds] at h <;> (conv => arg 4; cbv))
    | (refine Sat.ari64 (by dsimp only; omega) (by dsimp only; omega) ?_; conv => arg 4; cbv)
    | refine Sat.done ?_
  all_goals refine led_bo ?_ <;> simp <;> omega

def isLease (x : GLease) : Bool := decide ((x.Epoch = 0 ∧ x.Holder = 0 ∧ x.Until = 0) ∨ (1 ≤ x.Epoch ∧ x.Epoch ≤ 20) ∧ (0 ≤ x.Holder ∧ x.Holder ≤ 4) ∧ (1 ≤ x.Until ∧ x.Until ≤ 1049))

theorem w_impl_IsLease (x : GLease) : Fn Pr n_impl_IsLease [aGLease x] (.bo (isLease x)) := by
  refine k_impl_IsLease.fn (by kernel_rfl) ?_
  conv => arg 4; cbv
  repeat' first
    | (refine Sat.cmp (fun h => ?_) (fun h => ?_) <;> simp only [Cmp.holds] at h <;> (conv => arg 4; cbv))
    | (refine Sat.callb (w_impl_within _ _ _) rfl (by (repeat' first | exact led_nil | refine led_cons ?_ ?_) <;> first | exact .same _ | exact .int rfl | exact .sl rfl | exact .str rfl | (refine .agg rfl ?_; repeat' first | exact led_nil | refine led_cons ?_ ?_ | exact .same _ | exact .int rfl | exact .sl rfl | exact .str rfl)) (fun h => ?_) (fun h => ?_) <;> (try simp only [decide_eq_true_eq, decide_eq_false_iff_not] at h) <;> (conv => arg 4; cbv))
    | (refine Sat.call (w_impl_within _ _ _) rfl (by (repeat' first | exact led_nil | refine led_cons ?_ ?_) <;> first | exact .same _ | exact .int rfl | exact .sl rfl | exact .str rfl | (refine .agg rfl ?_; repeat' first | exact led_nil | refine led_cons ?_ ?_ | exact .same _ | exact .int rfl | exact .sl rfl | exact .str rfl)) ?_; conv => arg 4; cbv)
    | (refine Sat.ari64 (by dsimp only; omega) (by dsimp only; omega) ?_; conv => arg 4; cbv)
    | refine Sat.done ?_
  all_goals refine led_bo ?_ <;> simp [isLease] <;> omega

theorem w_spec_IsLease (x : GLease) : Fn Pr n_spec_IsLease [aGLease x] (.bo (isLease x)) := by
  refine k_spec_IsLease.fn (by kernel_rfl) ?_
  conv => arg 4; cbv
  repeat' first
    | (refine Sat.cmp (fun h => ?_) (fun h => ?_) <;> simp only [Cmp.holds] at h <;> (conv => arg 4; cbv))
    | (refine Sat.callb (w_spec_l1In _ _ _) rfl (by (repeat' first | exact led_nil | refine led_cons ?_ ?_) <;> first | exact .same _ | exact .int rfl | exact .sl rfl | exact .str rfl | (refine .agg rfl ?_; repeat' first | exact led_nil | refine led_cons ?_ ?_ | exact .same _ | exact .int rfl | exact .sl rfl | exact .str rfl)) (fun h => ?_) (fun h => ?_) <;> (try simp only [decide_eq_true_eq, decide_eq_false_iff_not] at h) <;> (conv => arg 4; cbv))
    | (refine Sat.call (w_spec_l1In _ _ _) rfl (by (repeat' first | exact led_nil | refine led_cons ?_ ?_) <;> first | exact .same _ | exact .int rfl | exact .sl rfl | exact .str rfl | (refine .agg rfl ?_; repeat' first | exact led_nil | refine led_cons ?_ ?_ | exact .same _ | exact .int rfl | exact .sl rfl | exact .str rfl)) ?_; conv => arg 4; cbv)
    | (refine Sat.ari64 (by dsimp only; omega) (by dsimp only; omega) ?_; conv => arg 4; cbv)
    | refine Sat.done ?_
  all_goals refine led_bo ?_ <;> simp [isLease] <;> omega

theorem w_laws_toLease (x : GLease) : Fn Pr n_laws_toLease [aGLease x] (aGLease x) := by
  refine k_laws_toLease.fn (by kernel_rfl) ?_
  cbv
  exact Sat.done (.same _)

def safeTime (x : GLease) : Int := if (1 ≤ x.Epoch ∧ x.Epoch ≤ 20) ∧ (0 ≤ x.Holder ∧ x.Holder ≤ 4) ∧ (1 ≤ x.Until ∧ x.Until ≤ 1049) then x.Until + 3 else 0
theorem safeTime_bd (x : GLease) : 0 ≤ safeTime x ∧ safeTime x ≤ 1052 := by unfold safeTime; split <;> omega

theorem w_impl_SafeTime (x : GLease) : Fn Pr n_impl_SafeTime [aGLease x] (.int .i64 (fun _ => safeTime x)) := by
  refine k_impl_SafeTime.fn (by kernel_rfl) ?_
  conv => arg 4; cbv
  repeat' first
    | (refine Sat.cmp (fun h => ?_) (fun h => ?_) <;> simp only [Cmp.holds] at h <;> (conv => arg 4; cbv))
    | (refine Sat.callb (w_impl_IsLease x) rfl (by (repeat' first | exact led_nil | refine led_cons ?_ ?_) <;> first | exact .same _ | exact .int rfl | exact .sl rfl | exact .str rfl | (refine .agg rfl ?_; repeat' first | exact led_nil | refine led_cons ?_ ?_ | exact .same _ | exact .int rfl | exact .sl rfl | exact .str rfl)) (fun h => ?_) (fun h => ?_) <;> (try simp only [isLease, decide_eq_true_eq, decide_eq_false_iff_not] at h) <;> (conv => arg 4; cbv))
    | (refine Sat.call (w_impl_IsLease x) rfl (by (repeat' first | exact led_nil | refine led_cons ?_ ?_) <;> first | exact .same _ | exact .int rfl | exact .sl rfl | exact .str rfl | (refine .agg rfl ?_; repeat' first | exact led_nil | refine led_cons ?_ ?_ | exact .same _ | exact .int rfl | exact .sl rfl | exact .str rfl)) ?_; conv => arg 4; cbv)
    | (refine Sat.ari64 (by dsimp only; omega) (by dsimp only; omega) ?_; conv => arg 4; cbv)
    | refine Sat.done ?_
  all_goals refine .int ?_ <;> simp only [safeTime] <;> split <;> omega

theorem w_spec_SafeTime (x : GLease) : Fn Pr n_spec_SafeTime [aGLease x] (.int .i64 (fun _ => safeTime x)) := by
  refine k_spec_SafeTime.fn (by kernel_rfl) ?_
  conv => arg 4; cbv
  repeat' first
    | (refine Sat.cmp (fun h => ?_) (fun h => ?_) <;> simp only [Cmp.holds] at h <;> (conv => arg 4; cbv))
    | (refine Sat.callb (w_spec_IsLease x) rfl (by (repeat' first | exact led_nil | refine led_cons ?_ ?_) <;> first | exact .same _ | exact .int rfl | exact .sl rfl | exact .str rfl | (refine .agg rfl ?_; repeat' first | exact led_nil | refine led_cons ?_ ?_ | exact .same _ | exact .int rfl | exact .sl rfl | exact .str rfl)) (fun h => ?_) (fun h => ?_) <;> (try simp only [isLease, decide_eq_true_eq, decide_eq_false_iff_not] at h) <;> (conv => arg 4; cbv))
    | (refine Sat.call (w_spec_IsLease x) rfl (by (repeat' first | exact led_nil | refine led_cons ?_ ?_) <;> first | exact .same _ | exact .int rfl | exact .sl rfl | exact .str rfl | (refine .agg rfl ?_; repeat' first | exact led_nil | refine led_cons ?_ ?_ | exact .same _ | exact .int rfl | exact .sl rfl | exact .str rfl)) ?_; conv => arg 4; cbv)
    | (refine Sat.ari64 (by dsimp only; omega) (by dsimp only; omega) ?_; conv => arg 4; cbv)
    | refine Sat.done ?_
  all_goals refine .int ?_ <;> simp only [safeTime] <;> split <;> omega

def leaseIsOver (x : GLease) (n : Int) : Bool := isLease x && decide (0 ≤ n ∧ n ≤ 999) && decide (safeTime x ≤ n)

theorem w_impl_LeaseIsOver (x : GLease) (n : Int) : Fn Pr n_impl_LeaseIsOver [aGLease x, .int .i64 (fun _ => n)] (.bo (leaseIsOver x n)) := by
  refine k_impl_LeaseIsOver.fn (by kernel_rfl) ?_
  conv => arg 4; cbv
  repeat' first
    | (refine Sat.cmp (fun h => ?_) (fun h => ?_) <;> simp only [Cmp.holds] at h <;> (conv => arg 4; cbv))
    | (refine Sat.callb (w_impl_IsLease x) rfl (by (repeat' first | exact led_nil | refine led_cons ?_ ?_) <;> first | exact .same _ | exact .int rfl | exact .sl rfl | exact .str rfl | (refine .agg rfl ?_; repeat' first | exact led_nil | refine led_cons ?_ ?_ | exact .same _ | exact .int rfl | exact .sl rfl | exact .str rfl)) (fun h => ?_) (fun h => ?_) <;> (try simp only [decide_eq_true_eq, decide_eq_false_iff_not] at h) <;> (conv => arg 4; cbv))
    | (refine Sat.call (w_impl_IsLease x) rfl (by (repeat' first | exact led_nil | refine led_cons ?_ ?_) <;> first | exact .same _ | exact .int rfl | exact .sl rfl | exact .str rfl | (refine .agg rfl ?_; repeat' first | exact led_nil | refine led_cons ?_ ?_ | exact .same _ | exact .int rfl | exact .sl rfl | exact .str rfl)) ?_; conv => arg 4; cbv)
    | (refine Sat.callb (w_impl_within _ _ _) rfl (by (repeat' first | exact led_nil | refine led_cons ?_ ?_) <;> first | exact .same _ | exact .int rfl | exact .sl rfl | exact .str rfl | (refine .agg rfl ?_; repeat' first | exact led_nil | refine led_cons ?_ ?_ | exact .same _ | exact .int rfl | exact .sl rfl | exact .str rfl)) (fun h => ?_) (fun h => ?_) <;> (try simp only [decide_eq_true_eq, decide_eq_false_iff_not] at h) <;> (conv => arg 4; cbv))
    | (refine Sat.call (w_impl_within _ _ _) rfl (by (repeat' first | exact led_nil | refine led_cons ?_ ?_) <;> first | exact .same _ | exact .int rfl | exact .sl rfl | exact .str rfl | (refine .agg rfl ?_; repeat' first | exact led_nil | refine led_cons ?_ ?_ | exact .same _ | exact .int rfl | exact .sl rfl | exact .str rfl)) ?_; conv => arg 4; cbv)
    | (refine Sat.callb (w_impl_SafeTime x) rfl (by (repeat' first | exact led_nil | refine led_cons ?_ ?_) <;> first | exact .same _ | exact .int rfl | exact .sl rfl | exact .str rfl | (refine .agg rfl ?_; repeat' first | exact led_nil | refine led_cons ?_ ?_ | exact .same _ | exact .int rfl | exact .sl rfl | exact .str rfl)) (fun h => ?_) (fun h => ?_) <;> (try simp only [decide_eq_true_eq, decide_eq_false_iff_not] at h) <;> (conv => arg 4; cbv))
    | (refine Sat.call (w_impl_SafeTime x) rfl (by (repeat' first | exact led_nil | refine led_cons ?_ ?_) <;> first | exact .same _ | exact .int rfl | exact .sl rfl | exact .str rfl | (refine .agg rfl ?_; repeat' first | exact led_nil | refine led_cons ?_ ?_ | exact .same _ | exact .int rfl | exact .sl rfl | exact .str rfl)) ?_; conv => arg 4; cbv)
    | (refine Sat.ari64 (by dsimp only; omega) (by dsimp only; omega) ?_; conv => arg 4; cbv)
    | refine Sat.done ?_
  all_goals refine led_bo ?_ <;> simp_all [leaseIsOver] <;> omega

theorem w_spec_LeaseIsOver (x : GLease) (n : Int) : Fn Pr n_spec_LeaseIsOver [aGLease x, .int .i64 (fun _ => n)] (.bo (leaseIsOver x n)) := by
  refine k_spec_LeaseIsOver.fn (by kernel_rfl) ?_
  conv => arg 4; cbv
  repeat' first
    | (refine Sat.cmp (fun h => ?_) (fun h => ?_) <;> simp only [Cmp.holds] at h <;> (conv => arg 4; cbv))
    | (refine Sat.callb (w_spec_IsLease x) rfl (by (repeat' first | exact led_nil | refine led_cons ?_ ?_) <;> first | exact .same _ | exact .int rfl | exact .sl rfl | exact .str rfl | (refine .agg rfl ?_; repeat' first | exact led_nil | refine led_cons ?_ ?_ | exact .same _ | exact .int rfl | exact .sl rfl | exact .str rfl)) (fun h => ?_) (fun h => ?_) <;> (try simp only [decide_eq_true_eq, decide_eq_false_iff_not] at h) <;> (conv => arg 4; cbv))
    | (refine Sat.call (w_spec_IsLease x) rfl (by (repeat' first | exact led_nil | refine led_cons ?_ ?_) <;> first | exact .same _ | exact .int rfl | exact .sl rfl | exact .str rfl | (refine .agg rfl ?_; repeat' first | exact led_nil | refine led_cons ?_ ?_ | exact .same _ | exact .int rfl | exact .sl rfl | exact .str rfl)) ?_; conv => arg 4; cbv)
    | (refine Sat.callb (w_spec_l1In _ _ _) rfl (by (repeat' first | exact led_nil | refine led_cons ?_ ?_) <;> first | exact .same _ | exact .int rfl | exact .sl rfl | exact .str rfl | (refine .agg rfl ?_; repeat' first | exact led_nil | refine led_cons ?_ ?_ | exact .same _ | exact .int rfl | exact .sl rfl | exact .str rfl)) (fun h => ?_) (fun h => ?_) <;> (try simp only [decide_eq_true_eq, decide_eq_false_iff_not] at h) <;> (conv => arg 4; cbv))
    | (refine Sat.call (w_spec_l1In _ _ _) rfl (by (repeat' first | exact led_nil | refine led_cons ?_ ?_) <;> first | exact .same _ | exact .int rfl | exact .sl rfl | exact .str rfl | (refine .agg rfl ?_; repeat' first | exact led_nil | refine led_cons ?_ ?_ | exact .same _ | exact .int rfl | exact .sl rfl | exact .str rfl)) ?_; conv => arg 4; cbv)
    | (refine Sat.callb (w_spec_SafeTime x) rfl (by (repeat' first | exact led_nil | refine led_cons ?_ ?_) <;> first | exact .same _ | exact .int rfl | exact .sl rfl | exact .str rfl | (refine .agg rfl ?_; repeat' first | exact led_nil | refine led_cons ?_ ?_ | exact .same _ | exact .int rfl | exact .sl rfl | exact .str rfl)) (fun h => ?_) (fun h => ?_) <;> (try simp only [decide_eq_true_eq, decide_eq_false_iff_not] at h) <;> (conv => arg 4; cbv))
    | (refine Sat.call (w_spec_SafeTime x) rfl (by (repeat' first | exact led_nil | refine led_cons ?_ ?_) <;> first | exact .same _ | exact .int rfl | exact .sl rfl | exact .str rfl | (refine .agg rfl ?_; repeat' first | exact led_nil | refine led_cons ?_ ?_ | exact .same _ | exact .int rfl | exact .sl rfl | exact .str rfl)) ?_; conv => arg 4; cbv)
    | (refine Sat.ari64 (by dsimp only; omega) (by dsimp only; omega) ?_; conv => arg 4; cbv)
    | refine Sat.done ?_
  all_goals refine led_bo ?_ <;> simp_all [leaseIsOver] <;> omega

def grantLease (x : GLease) (e h n t : Int) : GLease × Bool :=
  if (isLease x = true ∧ (1 ≤ e ∧ e ≤ 20) ∧ (0 ≤ h ∧ h ≤ 4) ∧ (0 ≤ n ∧ n ≤ 999) ∧ (1 ≤ t ∧ t ≤ 50)) ∧ ((x.Epoch = e ∧ x.Holder = h) ∨ leaseIsOver x n = true) then (⟨e, h, if x.Epoch = e ∧ x.Holder = h then max (n + t) x.Until else n + t⟩, true) else (x, false)
theorem led_lease {a b : GLease} (h1 : a.Epoch = b.Epoch) (h2 : a.Holder = b.Holder) (h3 : a.Until = b.Until) : LeD (aGLease a) (aGLease b) := .agg rfl (led_cons (.int h1) (led_cons (.int h2) (led_cons (.int h3) led_nil)))

theorem w_impl_GrantLease (x : GLease) (e h n t : Int) : Fn Pr n_impl_GrantLease [aGLease x, .int .i64 (fun _ => e), .int .i64 (fun _ => h), .int .i64 (fun _ => n), .int .i64 (fun _ => t)] (.tup [aGLease (grantLease x e h n t).1, .bo (grantLease x e h n t).2]) := by
  refine k_impl_GrantLease.fn (by kernel_rfl) ?_
  conv => arg 4; cbv
  repeat' first
    | (refine Sat.cmp (fun h => ?_) (fun h => ?_) <;> simp only [Cmp.holds] at h <;> (conv => arg 4; cbv))
    | (refine Sat.callb (w_impl_IsLease x) rfl (by (repeat' first | exact led_nil | refine led_cons ?_ ?_) <;> first | exact .same _ | exact .int rfl | exact .sl rfl | exact .str rfl | (refine .agg rfl ?_; repeat' first | exact led_nil | refine led_cons ?_ ?_ | exact .same _ | exact .int rfl | exact .sl rfl | exact .str rfl)) (fun h => ?_) (fun h => ?_) <;> (try simp only [decide_eq_true_eq, decide_eq_false_iff_not] at h) <;> (conv => arg 4; cbv))
    | (refine Sat.call (w_impl_IsLease x) rfl (by (repeat' first | exact led_nil | refine led_cons ?_ ?_) <;> first | exact .same _ | exact .int rfl | exact .sl rfl | exact .str rfl | (refine .agg rfl ?_; repeat' first | exact led_nil | refine led_cons ?_ ?_ | exact .same _ | exact .int rfl | exact .sl rfl | exact .str rfl)) ?_; conv => arg 4; cbv)
    | (refine Sat.callb (w_impl_within _ _ _) rfl (by (repeat' first | exact led_nil | refine led_cons ?_ ?_) <;> first | exact .same _ | exact .int rfl | exact .sl rfl | exact .str rfl | (refine .agg rfl ?_; repeat' first | exact led_nil | refine led_cons ?_ ?_ | exact .same _ | exact .int rfl | exact .sl rfl | exact .str rfl)) (fun h => ?_) (fun h => ?_) <;> (try simp only [decide_eq_true_eq, decide_eq_false_iff_not] at h) <;> (conv => arg 4; cbv))
    | (refine Sat.call (w_impl_within _ _ _) rfl (by (repeat' first | exact led_nil | refine led_cons ?_ ?_) <;> first | exact .same _ | exact .int rfl | exact .sl rfl | exact .str rfl | (refine .agg rfl ?_; repeat' first | exact led_nil | refine led_cons ?_ ?_ | exact .same _ | exact .int rfl | exact .sl rfl | exact .str rfl)) ?_; conv => arg 4; cbv)
    | (refine Sat.callb (w_impl_LeaseIsOver x _) rfl (by (repeat' first | exact led_nil | refine led_cons ?_ ?_) <;> first | exact .same _ | exact .int rfl | exact .sl rfl | exact .str rfl | (refine .agg rfl ?_; repeat' first | exact led_nil | refine led_cons ?_ ?_ | exact .same _ | exact .int rfl | exact .sl rfl | exact .str rfl)) (fun h => ?_) (fun h => ?_) <;> (try simp only [decide_eq_true_eq, decide_eq_false_iff_not] at h) <;> (conv => arg 4; cbv))
    | (refine Sat.call (w_impl_LeaseIsOver x _) rfl (by (repeat' first | exact led_nil | refine led_cons ?_ ?_) <;> first | exact .same _ | exact .int rfl | exact .sl rfl | exact .str rfl | (refine .agg rfl ?_; repeat' first | exact led_nil | refine led_cons ?_ ?_ | exact .same _ | exact .int rfl | exact .sl rfl | exact .str rfl)) ?_; conv => arg 4; cbv)
    | (refine Sat.ari64 (by dsimp only; omega) (by dsimp only; omega) ?_; conv => arg 4; cbv)
    | refine Sat.done ?_
  all_goals refine .tup rfl (led_cons (.agg rfl (led_cons (.int ?_) (led_cons (.int ?_) (led_cons (.int ?_) led_nil)))) (led_cons (led_bo ?_) led_nil))
  all_goals (simp only [grantLease]; split <;> simp_all <;> omega)

theorem w_spec_GrantLease (x : GLease) (e h n t : Int) : Fn Pr n_spec_GrantLease [aGLease x, .int .i64 (fun _ => e), .int .i64 (fun _ => h), .int .i64 (fun _ => n), .int .i64 (fun _ => t)] (.tup [aGLease (grantLease x e h n t).1, .bo (grantLease x e h n t).2]) := by
  refine k_spec_GrantLease.fn (by kernel_rfl) ?_
  conv => arg 4; cbv
  repeat' first
    | (refine Sat.cmp (fun h => ?_) (fun h => ?_) <;> simp only [Cmp.holds] at h <;> (conv => arg 4; cbv))
    | (refine Sat.callb (w_spec_IsLease x) rfl (by (repeat' first | exact led_nil | refine led_cons ?_ ?_) <;> first | exact .same _ | exact .int rfl | exact .sl rfl | exact .str rfl | (refine .agg rfl ?_; repeat' first | exact led_nil | refine led_cons ?_ ?_ | exact .same _ | exact .int rfl | exact .sl rfl | exact .str rfl)) (fun h => ?_) (fun h => ?_) <;> (try simp only [decide_eq_true_eq, decide_eq_false_iff_not] at h) <;> (conv => arg 4; cbv))
    | (refine Sat.call (w_spec_IsLease x) rfl (by (repeat' first | exact led_nil | refine led_cons ?_ ?_) <;> first | exact .same _ | exact .int rfl | exact .sl rfl | exact .str rfl | (refine .agg rfl ?_; repeat' first | exact led_nil | refine led_cons ?_ ?_ | exact .same _ | exact .int rfl | exact .sl rfl | exact .str rfl)) ?_; conv => arg 4; cbv)
    | (refine Sat.callb (w_spec_l1In _ _ _) rfl (by (repeat' first | exact led_nil | refine led_cons ?_ ?_) <;> first | exact .same _ | exact .int rfl | exact .sl rfl | exact .str rfl | (refine .agg rfl ?_; repeat' first | exact led_nil | refine led_cons ?_ ?_ | exact .same _ | exact .int rfl | exact .sl rfl | exact .str rfl)) (fun h => ?_) (fun h => ?_) <;> (try simp only [decide_eq_true_eq, decide_eq_false_iff_not] at h) <;> (conv => arg 4; cbv))
    | (refine Sat.call (w_spec_l1In _ _ _) rfl (by (repeat' first | exact led_nil | refine led_cons ?_ ?_) <;> first | exact .same _ | exact .int rfl | exact .sl rfl | exact .str rfl | (refine .agg rfl ?_; repeat' first | exact led_nil | refine led_cons ?_ ?_ | exact .same _ | exact .int rfl | exact .sl rfl | exact .str rfl)) ?_; conv => arg 4; cbv)
    | (refine Sat.callb (w_spec_LeaseIsOver x _) rfl (by (repeat' first | exact led_nil | refine led_cons ?_ ?_) <;> first | exact .same _ | exact .int rfl | exact .sl rfl | exact .str rfl | (refine .agg rfl ?_; repeat' first | exact led_nil | refine led_cons ?_ ?_ | exact .same _ | exact .int rfl | exact .sl rfl | exact .str rfl)) (fun h => ?_) (fun h => ?_) <;> (try simp only [decide_eq_true_eq, decide_eq_false_iff_not] at h) <;> (conv => arg 4; cbv))
    | (refine Sat.call (w_spec_LeaseIsOver x _) rfl (by (repeat' first | exact led_nil | refine led_cons ?_ ?_) <;> first | exact .same _ | exact .int rfl | exact .sl rfl | exact .str rfl | (refine .agg rfl ?_; repeat' first | exact led_nil | refine led_cons ?_ ?_ | exact .same _ | exact .int rfl | exact .sl rfl | exact .str rfl)) ?_; conv => arg 4; cbv)
    | (refine Sat.ari64 (by dsimp only; omega) (by dsimp only; omega) ?_; conv => arg 4; cbv)
    | refine Sat.done ?_
  all_goals refine .tup rfl (led_cons (.agg rfl (led_cons (.int ?_) (led_cons (.int ?_) (led_cons (.int ?_) led_nil)))) (led_cons (led_bo ?_) led_nil))
  all_goals (simp only [grantLease]; split <;> simp_all <;> omega)

theorem eqLease_ok (a b : GLease) : Fn Pr n_laws_eqLease [aGLease a, aGLease b] (.bo (decide (a = b))) := by
  refine k_laws_eqLease.fn (by kernel_rfl) ?_
  conv => arg 4; cbv
  repeat' first
    | (refine Sat.cmp (fun h => ?_) (fun h => ?_) <;> simp only [Cmp.holds] at h <;> (conv => arg 4; cbv))
    | (refine Sat.ari64 (by dsimp only; omega) (by dsimp only; omega) ?_; conv => arg 4; cbv)
    | refine Sat.done ?_
  all_goals refine led_bo ?_ <;> cases a <;> cases b <;> simp_all

theorem w_laws_FnExactGrantLease (x : GLease) (e h n t : Int) {F : Prop} (_ : F) : Fn Pr n_laws_FnExactGrantLease [aGLease x, .int .i64 (fun _ => e), .int .i64 (fun _ => h), .int .i64 (fun _ => n), .int .i64 (fun _ => t)] (.bo true) := by
  have h1 := w_spec_GrantLease x e h n t
  have h2 := w_impl_GrantLease x e h n t
  rcases hg : grantLease x e h n t with ⟨l, b⟩
  rw [hg] at h1 h2
  cases b
  · refine k_laws_FnExactGrantLease.fn (by kernel_rfl) ?_
    conv => arg 4; cbv
    repeat' first
      | (refine Sat.cmp (fun h => ?_) (fun h => ?_) <;> simp only [Cmp.holds] at h <;> (conv => arg 4; cbv))
      | (refine Sat.callb (w_laws_toLease x) rfl (by (repeat' first | exact led_nil | refine led_cons ?_ ?_) <;> first | exact .same _ | exact .int rfl | exact .sl rfl | exact .str rfl | (refine .agg rfl ?_; repeat' first | exact led_nil | refine led_cons ?_ ?_ | exact .same _ | exact .int rfl | exact .sl rfl | exact .str rfl)) (fun h => ?_) (fun h => ?_) <;> (try simp only [decide_eq_true_eq, decide_eq_false_iff_not] at h) <;> (conv => arg 4; cbv))
      | (refine Sat.call (w_laws_toLease x) rfl (by (repeat' first | exact led_nil | refine led_cons ?_ ?_) <;> first | exact .same _ | exact .int rfl | exact .sl rfl | exact .str rfl | (refine .agg rfl ?_; repeat' first | exact led_nil | refine led_cons ?_ ?_ | exact .same _ | exact .int rfl | exact .sl rfl | exact .str rfl)) ?_; conv => arg 4; cbv)
      | (refine Sat.callb (h1) rfl (by (repeat' first | exact led_nil | refine led_cons ?_ ?_) <;> first | exact .same _ | exact .int rfl | exact .sl rfl | exact .str rfl | (refine .agg rfl ?_; repeat' first | exact led_nil | refine led_cons ?_ ?_ | exact .same _ | exact .int rfl | exact .sl rfl | exact .str rfl)) (fun h => ?_) (fun h => ?_) <;> (try simp only [decide_eq_true_eq, decide_eq_false_iff_not] at h) <;> (conv => arg 4; cbv))
      | (refine Sat.call (h1) rfl (by (repeat' first | exact led_nil | refine led_cons ?_ ?_) <;> first | exact .same _ | exact .int rfl | exact .sl rfl | exact .str rfl | (refine .agg rfl ?_; repeat' first | exact led_nil | refine led_cons ?_ ?_ | exact .same _ | exact .int rfl | exact .sl rfl | exact .str rfl)) ?_; conv => arg 4; cbv)
      | (refine Sat.callb (h2) rfl (by (repeat' first | exact led_nil | refine led_cons ?_ ?_) <;> first | exact .same _ | exact .int rfl | exact .sl rfl | exact .str rfl | (refine .agg rfl ?_; repeat' first | exact led_nil | refine led_cons ?_ ?_ | exact .same _ | exact .int rfl | exact .sl rfl | exact .str rfl)) (fun h => ?_) (fun h => ?_) <;> (try simp only [decide_eq_true_eq, decide_eq_false_iff_not] at h) <;> (conv => arg 4; cbv))
      | (refine Sat.call (h2) rfl (by (repeat' first | exact led_nil | refine led_cons ?_ ?_) <;> first | exact .same _ | exact .int rfl | exact .sl rfl | exact .str rfl | (refine .agg rfl ?_; repeat' first | exact led_nil | refine led_cons ?_ ?_ | exact .same _ | exact .int rfl | exact .sl rfl | exact .str rfl)) ?_; conv => arg 4; cbv)
      | (refine Sat.callb (eqLease_ok l l) rfl (by (repeat' first | exact led_nil | refine led_cons ?_ ?_) <;> first | exact .same _ | exact .int rfl | exact .sl rfl | exact .str rfl | (refine .agg rfl ?_; repeat' first | exact led_nil | refine led_cons ?_ ?_ | exact .same _ | exact .int rfl | exact .sl rfl | exact .str rfl)) (fun h => ?_) (fun h => ?_) <;> (try simp only [decide_eq_true_eq, decide_eq_false_iff_not] at h) <;> (conv => arg 4; cbv))
      | (refine Sat.call (eqLease_ok l l) rfl (by (repeat' first | exact led_nil | refine led_cons ?_ ?_) <;> first | exact .same _ | exact .int rfl | exact .sl rfl | exact .str rfl | (refine .agg rfl ?_; repeat' first | exact led_nil | refine led_cons ?_ ?_ | exact .same _ | exact .int rfl | exact .sl rfl | exact .str rfl)) ?_; conv => arg 4; cbv)
      | (refine Sat.ari64 (by dsimp only; omega) (by dsimp only; omega) ?_; conv => arg 4; cbv)
      | refine Sat.done ?_
    all_goals refine led_bo ?_
    all_goals first | rfl | (simp_all; done)
  · refine k_laws_FnExactGrantLease.fn (by kernel_rfl) ?_
    conv => arg 4; cbv
    repeat' first
      | (refine Sat.cmp (fun h => ?_) (fun h => ?_) <;> simp only [Cmp.holds] at h <;> (conv => arg 4; cbv))
      | (refine Sat.callb (w_laws_toLease x) rfl (by (repeat' first | exact led_nil | refine led_cons ?_ ?_) <;> first | exact .same _ | exact .int rfl | exact .sl rfl | exact .str rfl | (refine .agg rfl ?_; repeat' first | exact led_nil | refine led_cons ?_ ?_ | exact .same _ | exact .int rfl | exact .sl rfl | exact .str rfl)) (fun h => ?_) (fun h => ?_) <;> (try simp only [decide_eq_true_eq, decide_eq_false_iff_not] at h) <;> (conv => arg 4; cbv))
      | (refine Sat.call (w_laws_toLease x) rfl (by (repeat' first | exact led_nil | refine led_cons ?_ ?_) <;> first | exact .same _ | exact .int rfl | exact .sl rfl | exact .str rfl | (refine .agg rfl ?_; repeat' first | exact led_nil | refine led_cons ?_ ?_ | exact .same _ | exact .int rfl | exact .sl rfl | exact .str rfl)) ?_; conv => arg 4; cbv)
      | (refine Sat.callb (h1) rfl (by (repeat' first | exact led_nil | refine led_cons ?_ ?_) <;> first | exact .same _ | exact .int rfl | exact .sl rfl | exact .str rfl | (refine .agg rfl ?_; repeat' first | exact led_nil | refine led_cons ?_ ?_ | exact .same _ | exact .int rfl | exact .sl rfl | exact .str rfl)) (fun h => ?_) (fun h => ?_) <;> (try simp only [decide_eq_true_eq, decide_eq_false_iff_not] at h) <;> (conv => arg 4; cbv))
      | (refine Sat.call (h1) rfl (by (repeat' first | exact led_nil | refine led_cons ?_ ?_) <;> first | exact .same _ | exact .int rfl | exact .sl rfl | exact .str rfl | (refine .agg rfl ?_; repeat' first | exact led_nil | refine led_cons ?_ ?_ | exact .same _ | exact .int rfl | exact .sl rfl | exact .str rfl)) ?_; conv => arg 4; cbv)
      | (refine Sat.callb (h2) rfl (by (repeat' first | exact led_nil | refine led_cons ?_ ?_) <;> first | exact .same _ | exact .int rfl | exact .sl rfl | exact .str rfl | (refine .agg rfl ?_; repeat' first | exact led_nil | refine led_cons ?_ ?_ | exact .same _ | exact .int rfl | exact .sl rfl | exact .str rfl)) (fun h => ?_) (fun h => ?_) <;> (try simp only [decide_eq_true_eq, decide_eq_false_iff_not] at h) <;> (conv => arg 4; cbv))
      | (refine Sat.call (h2) rfl (by (repeat' first | exact led_nil | refine led_cons ?_ ?_) <;> first | exact .same _ | exact .int rfl | exact .sl rfl | exact .str rfl | (refine .agg rfl ?_; repeat' first | exact led_nil | refine led_cons ?_ ?_ | exact .same _ | exact .int rfl | exact .sl rfl | exact .str rfl)) ?_; conv => arg 4; cbv)
      | (refine Sat.callb (eqLease_ok l l) rfl (by (repeat' first | exact led_nil | refine led_cons ?_ ?_) <;> first | exact .same _ | exact .int rfl | exact .sl rfl | exact .str rfl | (refine .agg rfl ?_; repeat' first | exact led_nil | refine led_cons ?_ ?_ | exact .same _ | exact .int rfl | exact .sl rfl | exact .str rfl)) (fun h => ?_) (fun h => ?_) <;> (try simp only [decide_eq_true_eq, decide_eq_false_iff_not] at h) <;> (conv => arg 4; cbv))
      | (refine Sat.call (eqLease_ok l l) rfl (by (repeat' first | exact led_nil | refine led_cons ?_ ?_) <;> first | exact .same _ | exact .int rfl | exact .sl rfl | exact .str rfl | (refine .agg rfl ?_; repeat' first | exact led_nil | refine led_cons ?_ ?_ | exact .same _ | exact .int rfl | exact .sl rfl | exact .str rfl)) ?_; conv => arg 4; cbv)
      | (refine Sat.ari64 (by dsimp only; omega) (by dsimp only; omega) ?_; conv => arg 4; cbv)
      | refine Sat.done ?_
    all_goals refine led_bo ?_
    all_goals first | rfl | (simp_all; done)

end Go.V.T
