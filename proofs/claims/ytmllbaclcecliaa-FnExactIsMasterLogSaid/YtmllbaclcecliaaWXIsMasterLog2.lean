/- Contracts of the functions that FnExactIsMasterLog reaches: what each returns. Conditions: those that each theorem states. -/
import Derived.Test.YtmllbaclcecliaaWXIsMasterLog1
namespace Go.V.T
open Go Go.V Go.RowKit
set_option maxRecDepth 100000
set_option linter.unusedVariables false
set_option linter.unusedSimpArgs false
theorem w_laws_FnExactIsMasterLog (m_ : GMasterLog) {G : Prop} (F : fMasterLog m_ ∧ G) : Fn Pr n_laws_FnExactIsMasterLog [aGMasterLog m_] (.bo true) := by
  have hb_m : bMasterLog m_ := fMasterLog_b F.1
  have q0 := sMasterLog_rng (x := m_) (n := 1048576)
  refine k_laws_FnExactIsMasterLog.fn (by kernel_rfl) ?_
  conv => arg 4; cbv
  repeat' first
    | (refine Sat.cmp (fun h => ?_) (fun h => ?_) <;> simp only [Cmp.holds] at h <;> (conv => arg 4; cbv))
    | (refine Sat.callb (w_laws_szMasterLog m_ 1048576 hb_m (by (first | omega | (simp only [ncast, true_and, List.length_append, List.length_take, List.length_drop, List.length_replicate, List.length_cons, List.length_nil] at *; omega)))) rfl (by (repeat' (first | exact led_nil | refine led_cons ?_ ?_ | exact .same _ | exact .int rfl | exact .sl rfl | exact .str rfl | exact .nil rfl | exact .emp rfl | refine .agg rfl ?_ | refine .tup rfl ?_ | (refine .sl ?_; simp; done))); (first | done | fail)) (fun h => ?_) (fun h => ?_) <;> (try simp only [decide_eq_true_eq, decide_eq_false_iff_not] at h) <;> (conv => arg 4; cbv))
    | (refine Sat.call (w_laws_szMasterLog m_ 1048576 hb_m (by (first | omega | (simp only [ncast, true_and, List.length_append, List.length_take, List.length_drop, List.length_replicate, List.length_cons, List.length_nil] at *; omega)))) rfl (by (repeat' (first | exact led_nil | refine led_cons ?_ ?_ | exact .same _ | exact .int rfl | exact .sl rfl | exact .str rfl | exact .nil rfl | exact .emp rfl | refine .agg rfl ?_ | refine .tup rfl ?_ | (refine .sl ?_; simp; done))); (first | done | fail)) ?_; conv => arg 4; cbv)
    | (refine Sat.callb (w_laws_toMasterLog m_ hb_m) rfl (by (repeat' (first | exact led_nil | refine led_cons ?_ ?_ | exact .same _ | exact .int rfl | exact .sl rfl | exact .str rfl | exact .nil rfl | exact .emp rfl | refine .agg rfl ?_ | refine .tup rfl ?_ | (refine .sl ?_; simp; done))); (first | done | fail)) (fun h => ?_) (fun h => ?_) <;> (try simp only [decide_eq_true_eq, decide_eq_false_iff_not] at h) <;> (conv => arg 4; cbv))
    | (refine Sat.call (w_laws_toMasterLog m_ hb_m) rfl (by (repeat' (first | exact led_nil | refine led_cons ?_ ?_ | exact .same _ | exact .int rfl | exact .sl rfl | exact .str rfl | exact .nil rfl | exact .emp rfl | refine .agg rfl ?_ | refine .tup rfl ?_ | (refine .sl ?_; simp; done))); (first | done | fail)) ?_; conv => arg 4; cbv)
    | (refine Sat.callb (w_spec_IsMasterLog m_ hb_m) rfl (by (repeat' (first | exact led_nil | refine led_cons ?_ ?_ | exact .same _ | exact .int rfl | exact .sl rfl | exact .str rfl | exact .nil rfl | exact .emp rfl | refine .agg rfl ?_ | refine .tup rfl ?_ | (refine .sl ?_; simp; done))); (first | done | fail)) (fun h => ?_) (fun h => ?_) <;> (try simp only [decide_eq_true_eq, decide_eq_false_iff_not] at h) <;> (conv => arg 4; cbv))
    | (refine Sat.call (w_spec_IsMasterLog m_ hb_m) rfl (by (repeat' (first | exact led_nil | refine led_cons ?_ ?_ | exact .same _ | exact .int rfl | exact .sl rfl | exact .str rfl | exact .nil rfl | exact .emp rfl | refine .agg rfl ?_ | refine .tup rfl ?_ | (refine .sl ?_; simp; done))); (first | done | fail)) ?_; conv => arg 4; cbv)
    | (refine Sat.callb (w_impl_IsMasterLog m_ hb_m) rfl (by (repeat' (first | exact led_nil | refine led_cons ?_ ?_ | exact .same _ | exact .int rfl | exact .sl rfl | exact .str rfl | exact .nil rfl | exact .emp rfl | refine .agg rfl ?_ | refine .tup rfl ?_ | (refine .sl ?_; simp; done))); (first | done | fail)) (fun h => ?_) (fun h => ?_) <;> (try simp only [decide_eq_true_eq, decide_eq_false_iff_not] at h) <;> (conv => arg 4; cbv))
    | (refine Sat.call (w_impl_IsMasterLog m_ hb_m) rfl (by (repeat' (first | exact led_nil | refine led_cons ?_ ?_ | exact .same _ | exact .int rfl | exact .sl rfl | exact .str rfl | exact .nil rfl | exact .emp rfl | refine .agg rfl ?_ | refine .tup rfl ?_ | (refine .sl ?_; simp; done))); (first | done | fail)) ?_; conv => arg 4; cbv)
    | (refine Sat.callb (w_laws_eqMasterLog m_ m_ hb_m) rfl (by (repeat' (first | exact led_nil | refine led_cons ?_ ?_ | exact .same _ | exact .int rfl | exact .sl rfl | exact .str rfl | exact .nil rfl | exact .emp rfl | refine .agg rfl ?_ | refine .tup rfl ?_ | (refine .sl ?_; simp; done))); (first | done | fail)) (fun h => ?_) (fun h => ?_) <;> (try simp only [decide_eq_true_eq, decide_eq_false_iff_not] at h) <;> (conv => arg 4; cbv))
    | (refine Sat.call (w_laws_eqMasterLog m_ m_ hb_m) rfl (by (repeat' (first | exact led_nil | refine led_cons ?_ ?_ | exact .same _ | exact .int rfl | exact .sl rfl | exact .str rfl | exact .nil rfl | exact .emp rfl | refine .agg rfl ?_ | refine .tup rfl ?_ | (refine .sl ?_; simp; done))); (first | done | fail)) ?_; conv => arg 4; cbv)
    | (refine Sat.need (by (try dsimp only); (first | omega | (simp only [ncast, true_and, List.length_append, List.length_take, List.length_drop, List.length_replicate, List.length_cons, List.length_nil] at *; omega))) ?_; conv => arg 4; cbv)
    | (refine Sat.idxk (by assumption) ?_; conv => arg 4; cbv) | (refine Sat.idx (by (try dsimp only); (first | omega | (simp only [ncast, true_and, List.length_append, List.length_take, List.length_drop, List.length_replicate, List.length_cons, List.length_nil] at *; omega))) (fun v_ hv_ => ?_); conv => arg 4; cbv)
    | (refine Sat.ari64 (by (try dsimp only); (first | omega | (simp only [ncast, true_and, List.length_append, List.length_take, List.length_drop, List.length_replicate, List.length_cons, List.length_nil] at *; omega))) (by (try dsimp only); (first | omega | (simp only [ncast, true_and, List.length_append, List.length_take, List.length_drop, List.length_replicate, List.length_cons, List.length_nil] at *; omega))) ?_; conv => arg 4; cbv)
    | (refine Sat.pop ?_; conv => arg 4; cbv)
    | refine Sat.done ?_
  all_goals refine led_bo ?_
  all_goals first | rfl | contradiction | (exfalso; (try simp only [ncast] at *); omega) | (exfalso; simp_all; done)

end Go.V.T
