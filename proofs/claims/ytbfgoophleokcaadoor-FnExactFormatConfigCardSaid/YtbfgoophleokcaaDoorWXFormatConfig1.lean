/- Contracts of the functions that FnExactFormatConfig reaches: what each returns. Conditions: those that each theorem states. -/
import Derived.Test.YtbfgoophleokcaaDoorWXFormatConfig
namespace Go.V.T
open Go Go.V Go.RowKit
set_option maxRecDepth 100000
set_option linter.unusedVariables false
set_option linter.unusedSimpArgs false
theorem w_impl_FormatConfig (c : GConfig) (hb : bConfig c) : Fn Pr n_impl_FormatConfig [aGConfig c] (.str (fun _ => cfgT c)) := by
  refine k_impl_FormatConfig.fn (by kernel_rfl) ?_
  conv => arg 4; cbv
  refine Sat.callb (w_impl_IsValidConfig c hb) rfl ledA (fun hV => ?_) (fun hV => ?_) <;> (conv => arg 4; cbv)
  rotate_left
  · refine Sat.done (.str ?_)
    rw [cfgT, if_neg (by rw [hV]; exact Bool.false_ne_true)]
  have h1 := (validC_spec hV).1
  have h2 := validC_prim hV
  have s1 := sI_size (n := c.Epoch) (by omega) (by omega)
  have s2 := sI_size (n := c.Primary) (by omega) (by omega)
  have s3 := srvT_size (l := c.Replicas)
  have s4 := srvT_size (l := c.Witnesses)
  have ej := join4b (sI c.Epoch) (sI c.Primary) (srvT c.Replicas) (srvT c.Witnesses)
  have hz := join4n (sI c.Epoch) (sI c.Primary) (srvT c.Replicas) (srvT c.Witnesses)
  repeat' first
    | (refine Sat.call (w_impl_FormatInt c.Epoch (by omega) (by omega)) rfl ledA ?_; conv => arg 4; cbv)
    | (refine Sat.call (w_impl_FormatInt c.Primary (by omega) (by omega)) rfl ledA ?_; conv => arg 4; cbv)
    | (refine Sat.call (w_impl_FormatServers c.Replicas hb.1) rfl ledA ?_; conv => arg 4; cbv)
    | (refine Sat.call (w_impl_FormatServers c.Witnesses hb.2) rfl ledA ?_; conv => arg 4; cbv)
    | (refine Sat.call (w_strings_Join [sI c.Epoch, sI c.Primary, srvT c.Replicas, srvT c.Witnesses] ⟨#[32]⟩ (by simp) (by omega)) rfl ledA ?_; conv => arg 4; cbv)
    | refine Sat.done ?_
  refine .str (ej.trans ?_)
  rw [cfgT, if_pos hV]

theorem w_laws_FnExactFormatConfig (c_ : GConfig) {G : Prop} (F : fConfig c_ ∧ G) : Fn Pr n_laws_FnExactFormatConfig [aGConfig c_] (.bo true) := by
  have hb_c : bConfig c_ := fConfig_b F.1
  have q0 := sConfig_rng (x := c_) (n := 1048576)
  refine k_laws_FnExactFormatConfig.fn (by kernel_rfl) ?_
  conv => arg 4; cbv
  repeat' first
    | (refine Sat.cmp (fun h => ?_) (fun h => ?_) <;> simp only [Cmp.holds] at h <;> (conv => arg 4; cbv))
    | (refine Sat.call (w_laws_szConfig c_ 1048576 hb_c (by exact arA)) rfl ledA ?_; conv => arg 4; cbv)
    | (refine Sat.call (w_laws_toConfig c_ hb_c) rfl ledA ?_; conv => arg 4; cbv)
    | (refine Sat.call (w_spec_FormatConfig c_ hb_c) rfl ledA ?_; conv => arg 4; cbv)
    | (refine Sat.call (w_impl_FormatConfig c_ hb_c) rfl ledA ?_; conv => arg 4; cbv)
    | (refine Sat.callb (w_laws_eqConfig c_ c_ hb_c) rfl ledA (fun h => ?_) (fun h => ?_) <;> (try simp only [decide_eq_true_eq, decide_eq_false_iff_not] at h) <;> (conv => arg 4; cbv))
    | (refine Sat.test (fun h => ?_) (fun h => ?_) <;> (conv => arg 4; cbv))
    | (refine Sat.need ndA ?_; conv => arg 4; cbv)
    | (refine Sat.idxk (by assumption) ?_; conv => arg 4; cbv) | (refine Sat.idx ndA (fun v_ hv_ => ?_); conv => arg 4; cbv)
    | (refine Sat.ari64 ndA ndA ?_; conv => arg 4; cbv)
    | (refine Sat.pop ?_; conv => arg 4; cbv)
    | refine Sat.done ?_
  all_goals refine led_bo ?_
  all_goals first | rfl | contradiction | (exfalso; (try simp only [ncast] at *); omega) | (exfalso; exact absurd rfl (of_decide_eq_false (by assumption))) | (exfalso; simp_all; done)

end Go.V.T
