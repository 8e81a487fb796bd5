/- Contracts of the functions that FnExactIsLease reaches: what each returns. Conditions: those that each theorem states. -/
import Derived.Test.YtgbcdmbnlcnidaaMXIsLease
namespace Go.V.T
open Go Go.V Go.RowKit
set_option maxRecDepth 100000
set_option linter.unusedVariables false
set_option linter.unusedSimpArgs false
structure GLease where
  Epoch : Int
  Holder : Int
  Until : Int
def eGLease (x : GLease) : Nat → AV
  | 0 => .int .i64 (fun _ => x.Epoch)
  | 1 => .int .i64 (fun _ => x.Holder)
  | 2 => .int .i64 (fun _ => x.Until)
  | _ => .any
abbrev cGLease (x : GLease) : List AV := [.int .i64 (fun _ => x.Epoch), .int .i64 (fun _ => x.Holder), .int .i64 (fun _ => x.Until)]
abbrev aGLease (x : GLease) : AV := .agg [.int .i64 (fun _ => x.Epoch), .int .i64 (fun _ => x.Holder), .int .i64 (fun _ => x.Until)]

theorem w_spec_l1In (n a b : Int) : Fn Pr n_spec_l1In [.int .i64 (fun _ => n), .int .i64 (fun _ => a), .int .i64 (fun _ => b)] (.bo (decide (a ≤ n ∧ n ≤ b))) := by
  refine k_spec_l1In.fn (by kernel_rfl) ?_
  cbv
  repeat' first
    | (refine Sat.cmp (fun h => ?_) (fun h => ?_) <;> simp only [Cmp.holds] at h <;> cbv)
    | refine Sat.done (led_bo ?_)
  all_goals simp <;> omega

theorem w_impl_within (n a b : Int) : Fn Pr n_impl_within [.int .i64 (fun _ => n), .int .i64 (fun _ => a), .int .i64 (fun _ => b)] (.bo (decide (a ≤ n ∧ n ≤ b))) := by
  refine k_impl_within.fn (by kernel_rfl) ?_
  cbv
  repeat' first
    | (refine Sat.cmp (fun h => ?_) (fun h => ?_) <;> simp only [Cmp.holds] at h <;> cbv)
    | refine Sat.done (led_bo ?_)
  all_goals simp <;> omega
def isLease (x : GLease) : Bool := decide ((x.Epoch = 0 ∧ x.Holder = 0 ∧ x.Until = 0) ∨ (1 ≤ x.Epoch ∧ x.Epoch ≤ 20) ∧ (0 ≤ x.Holder ∧ x.Holder ≤ 4) ∧ (1 ≤ x.Until ∧ x.Until ≤ 1049))

theorem w_impl_IsLease (x : GLease) : Fn Pr n_impl_IsLease [aGLease x] (.bo (isLease x)) := by
  refine k_impl_IsLease.fn (by kernel_rfl) ?_
  cbv
  repeat' first
    | (refine Sat.cmp (fun h => ?_) (fun h => ?_) <;> simp only [Cmp.holds] at h <;> cbv)
    | (refine Sat.callb (w_impl_within _ _ _) rfl (led_cons (.int rfl) (led_cons (.int rfl) (led_cons (.int rfl) led_nil))) (fun h => ?_) (fun h => ?_) <;> simp at h <;> cbv)
    | refine Sat.done (led_bo ?_)
  all_goals simp [isLease] <;> omega

theorem w_spec_IsLease (x : GLease) : Fn Pr n_spec_IsLease [aGLease x] (.bo (isLease x)) := by
  refine k_spec_IsLease.fn (by kernel_rfl) ?_
  cbv
  repeat' first
    | (refine Sat.cmp (fun h => ?_) (fun h => ?_) <;> simp only [Cmp.holds] at h <;> cbv)
    | (refine Sat.callb (w_spec_l1In _ _ _) rfl (led_cons (.int rfl) (led_cons (.int rfl) (led_cons (.int rfl) led_nil))) (fun h => ?_) (fun h => ?_) <;> simp at h <;> cbv)
    | refine Sat.done (led_bo ?_)
  all_goals simp [isLease] <;> omega

theorem w_laws_toLease (x : GLease) : Fn Pr n_laws_toLease [aGLease x] (aGLease x) := by
  refine k_laws_toLease.fn (by kernel_rfl) ?_
  cbv
  exact Sat.done (.same _)

theorem w_laws_FnExactIsLease (x : GLease) {F : Prop} (_ : F) : Fn Pr n_laws_FnExactIsLease [aGLease x] (.bo true) := by
  refine k_laws_FnExactIsLease.fn (by kernel_rfl) ?_
  cbv
  repeat' first
    | (refine Sat.call (w_laws_toLease x) rfl (led_cons (.same _) led_nil) ?_; cbv)
    | (refine Sat.callb (w_spec_IsLease x) rfl (led_cons (.same _) led_nil) (fun h => ?_) (fun h => ?_) <;> cbv)
    | (refine Sat.callb (w_impl_IsLease x) rfl (led_cons (.same _) led_nil) (fun h => ?_) (fun h => ?_) <;> cbv)
    | refine Sat.done (led_bo ?_)
  all_goals first | rfl | simp_all

end Go.V.T
