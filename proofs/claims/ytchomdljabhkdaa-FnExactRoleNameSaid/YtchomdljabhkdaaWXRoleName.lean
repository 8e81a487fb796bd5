/- Contracts of the functions that FnExactRoleName reaches: what each returns. Conditions: those that each theorem states. -/
import Derived.Test.YtchomdljabhkdaaMXRoleName
namespace Go.V.T
open Go Go.V Go.RowKit
set_option maxRecDepth 100000
set_option linter.unusedVariables false
set_option linter.unusedSimpArgs false


theorem w_spec_l1In (n a b : Int) : Fn Pr n_spec_l1In [.int .i64 (fun _ => n), .int .i64 (fun _ => a), .int .i64 (fun _ => b)] (.bo (decide (a ≤ n ∧ n ≤ b))) := by
  refine k_spec_l1In.fn (by kernel_rfl) ?_
  conv => arg 4; cbv
  repeat' first
    | (refine Sat.cmp (fun h => ?_) (fun h => ?_) <;> simp only [Cmp.holds] at h <;> (conv => arg 4; cbv))
    | (refine Sat.need ndA ?_; conv => arg 4; cbv)
    | (refine Sat.idxk (by assumption) ?_; conv => arg 4; cbv) | (refine Sat.idx ndA (fun v_ hv_ => ?_); conv => arg 4; cbv)
    | (refine Sat.ari64 ndA ndA ?_; conv => arg 4; cbv)
    | (refine Sat.pop ?_; conv => arg 4; cbv)
    | refine Sat.done ?_
  all_goals refine led_bo ?_ <;> simp <;> omega

theorem w_impl_within (n a b : Int) : Fn Pr n_impl_within [.int .i64 (fun _ => n), .int .i64 (fun _ => a), .int .i64 (fun _ => b)] (.bo (decide (a ≤ n ∧ n ≤ b))) := by
  refine k_impl_within.fn (by kernel_rfl) ?_
  conv => arg 4; cbv
  repeat' first
    | (refine Sat.cmp (fun h => ?_) (fun h => ?_) <;> simp only [Cmp.holds] at h <;> (conv => arg 4; cbv))
    | (refine Sat.need ndA ?_; conv => arg 4; cbv)
    | (refine Sat.idxk (by assumption) ?_; conv => arg 4; cbv) | (refine Sat.idx ndA (fun v_ hv_ => ?_); conv => arg 4; cbv)
    | (refine Sat.ari64 ndA ndA ?_; conv => arg 4; cbv)
    | (refine Sat.pop ?_; conv => arg 4; cbv)
    | refine Sat.done ?_
  all_goals refine led_bo ?_ <;> simp <;> omega

def roleName (r : Int) : ByteArray := if r = 0 then ⟨#[110, 111, 110, 101]⟩ else if r = 1 then ⟨#[112, 114, 105, 109, 97, 114, 121]⟩ else if r = 2 then ⟨#[98, 97, 99, 107, 117, 112]⟩ else if r = 3 then ⟨#[119, 105, 116, 110, 101, 115, 115]⟩ else ⟨#[]⟩
theorem roleName_off {r : Int} (h : ¬ (0 ≤ r ∧ r ≤ 3)) : roleName r = ⟨#[]⟩ := by
  unfold roleName
  rw [if_neg (by omega), if_neg (by omega), if_neg (by omega), if_neg (by omega)]

theorem w_impl_RoleName (r : Int) : Fn Pr n_impl_RoleName [.int .i64 (fun _ => r)] (.str (fun _ => roleName r)) := by
  refine k_impl_RoleName.fn (by kernel_rfl) ?_
  conv => arg 4; cbv
  refine Sat.callb (w_impl_within r 0 3) rfl ledA (fun h => ?_) (fun h => ?_) <;> (conv => arg 4; cbv)
  · rw [decide_eq_true_eq] at h
    repeat' first
      | (refine Sat.cmp (fun h => ?_) (fun h => ?_) <;> simp only [Cmp.holds] at h <;> (conv => arg 4; cbv))
      | (exfalso; (try simp only [ncast] at *); omega)
      | (refine Sat.done (.str ?_); subst r; rfl)
  · rw [decide_eq_false_iff_not] at h
    exact Sat.done (.str (roleName_off h).symm)

theorem w_spec_RoleName (r : Int) : Fn Pr n_spec_RoleName [.int .i64 (fun _ => r)] (.str (fun _ => roleName r)) := by
  refine k_spec_RoleName.fn (by kernel_rfl) ?_
  conv => arg 4; cbv
  refine Sat.callb (w_spec_l1In r 0 3) rfl ledA (fun h => ?_) (fun h => ?_) <;> (conv => arg 4; cbv)
  · rw [decide_eq_true_eq] at h
    have hr : r = 0 ∨ r = 1 ∨ r = 2 ∨ r = 3 := by omega
    rcases hr with rfl | rfl | rfl | rfl
    all_goals repeat' first
      | (refine Sat.need ndA ?_; conv => arg 4; cbv)
      | (refine Sat.idxk (by assumption) ?_; conv => arg 4; cbv) | (refine Sat.idx ndA (fun v_ hv_ => ?_); conv => arg 4; cbv)
    all_goals cases hv_
    all_goals exact Sat.done (.str rfl)
  · rw [decide_eq_false_iff_not] at h
    exact Sat.done (.str (roleName_off h).symm)

theorem w_laws_FnExactRoleName (role_ : Int) {A G : Prop} (F : A ∧ G) : Fn Pr n_laws_FnExactRoleName [.int .i64 (fun _ => role_)] (.bo true) := by
  refine k_laws_FnExactRoleName.fn (by kernel_rfl) ?_
  conv => arg 4; cbv
  refine Sat.call (w_spec_RoleName role_) rfl ledA ?_
  conv => arg 4; cbv
  refine Sat.call (w_impl_RoleName role_) rfl ledA ?_
  conv => arg 4; cbv
  refine Sat.test (fun h => ?_) (fun h => ?_) <;> (conv => arg 4; cbv)
  · exact Sat.done (.same _)
  · exact absurd rfl (of_decide_eq_false h)

end Go.V.T
