/- Contracts of the functions that FnExactCommittedPart reaches: what each returns. Conditions: those that each theorem states. -/
import Derived.Test.YtmllbaclcecliaaWXCommittedPart
namespace Go.V.T
open Go Go.V Go.RowKit
set_option maxRecDepth 100000
set_option linter.unusedVariables false
set_option linter.unusedSimpArgs false
theorem w_spec_CommittedPart (s : GServer) (hb : bServer s) (F : fServer s) : Fn Pr n_spec_CommittedPart [aGServer s] (.sl 7 eGEntry (fun _ => committed s)) := by
  have h0 : s.Log.length * 56 ≤ 140737488351232 := hb.2.1
  have hF := wf64 F.2.2.2.2.2.1
  have hC := wf64 F.2.2.2.2.2.2.2.1
  have hd : bEntryS (s.Log.take (s.Commit - s.First).toNat) := by show (s.Log.take _).length * 56 ≤ _; simp; omega
  by_cases ho : s.First + s.Log.length ≤ 9223372036854775807
  · refine k_spec_CommittedPart.fn (by kernel_rfl) ?_
    conv => arg 4; cbv
    repeat' first
      | (refine Sat.cmp (fun h => ?_) (fun h => ?_) <;> simp only [Cmp.holds] at h <;> (conv => arg 4; cbv))
      | (refine Sat.callb (w_spec_l1In _ _ _) rfl (by (repeat' (first | exact led_nil | refine led_cons ?_ ?_ | exact .same _ | exact .int rfl | exact .sl rfl | exact .str rfl | exact .nil rfl | exact .emp rfl | refine .agg rfl ?_ | refine .tup rfl ?_ | (refine .sl ?_; simp; done))); (first | done | fail)) (fun h => ?_) (fun h => ?_) <;> (try simp only [decide_eq_true_eq, decide_eq_false_iff_not] at h) <;> (conv => arg 4; cbv))
      | (refine Sat.call (w_spec_l1In _ _ _) rfl (by (repeat' (first | exact led_nil | refine led_cons ?_ ?_ | exact .same _ | exact .int rfl | exact .sl rfl | exact .str rfl | exact .nil rfl | exact .emp rfl | refine .agg rfl ?_ | refine .tup rfl ?_ | (refine .sl ?_; simp; done))); (first | done | fail)) ?_; conv => arg 4; cbv)
      | (refine Sat.callb (w_spec_l5Copy (s.Log.take (s.Commit - s.First).toNat) hd) rfl (by (repeat' (first | exact led_nil | refine led_cons ?_ ?_ | exact .same _ | exact .int rfl | exact .sl rfl | exact .str rfl | exact .nil rfl | exact .emp rfl | refine .agg rfl ?_ | refine .tup rfl ?_ | (refine .sl ?_; simp; done))); (first | done | fail)) (fun h => ?_) (fun h => ?_) <;> (try simp only [decide_eq_true_eq, decide_eq_false_iff_not] at h) <;> (conv => arg 4; cbv))
      | (refine Sat.call (w_spec_l5Copy (s.Log.take (s.Commit - s.First).toNat) hd) rfl (by (repeat' (first | exact led_nil | refine led_cons ?_ ?_ | exact .same _ | exact .int rfl | exact .sl rfl | exact .str rfl | exact .nil rfl | exact .emp rfl | refine .agg rfl ?_ | refine .tup rfl ?_ | (refine .sl ?_; simp; done))); (first | done | fail)) ?_; conv => arg 4; cbv)
      | (refine Sat.need (by (try dsimp only); (first | omega | (simp only [ncast, true_and, List.length_append, List.length_take, List.length_drop, List.length_replicate, List.length_cons, List.length_nil] at *; omega))) ?_; conv => arg 4; cbv)
      | (refine Sat.idxk (by assumption) ?_; conv => arg 4; cbv) | (refine Sat.idx (by (try dsimp only); (first | omega | (simp only [ncast, true_and, List.length_append, List.length_take, List.length_drop, List.length_replicate, List.length_cons, List.length_nil] at *; omega))) (fun v_ hv_ => ?_); conv => arg 4; cbv)
      | (refine Sat.ari64 (by (try dsimp only); (first | omega | (simp only [ncast, true_and, List.length_append, List.length_take, List.length_drop, List.length_replicate, List.length_cons, List.length_nil] at *; omega))) (by (try dsimp only); (first | omega | (simp only [ncast, true_and, List.length_append, List.length_take, List.length_drop, List.length_replicate, List.length_cons, List.length_nil] at *; omega))) ?_; conv => arg 4; cbv)
      | (refine Sat.pop ?_; conv => arg 4; cbv)
      | refine Sat.done ?_
    all_goals first | refine .sl ?_ | refine .emp ?_
    all_goals simp only [committed]
    all_goals split
    all_goals first | rfl | (simp; done) | omega | (simp only [ncast] at *; omega)
  · have hw := wrap_over (n := s.First + s.Log.length) (by omega) (by omega)
    have hc : committed s = [] := by rw [committed, if_neg (by omega)]
    refine k_spec_CommittedPart.fn (by kernel_rfl) ?_
    conv => arg 4; cbv
    repeat' first
      | (refine Sat.cmp (fun h => ?_) (fun h => ?_) <;> simp only [Cmp.holds] at h <;> (conv => arg 4; cbv))
      | (refine Sat.callb (w_spec_l1In _ _ _) rfl (by (repeat' (first | exact led_nil | refine led_cons ?_ ?_ | exact .same _ | exact .int rfl | exact .sl rfl | exact .str rfl | exact .nil rfl | exact .emp rfl | refine .agg rfl ?_ | refine .tup rfl ?_ | (refine .sl ?_; simp; done))); (first | done | fail)) (fun h => ?_) (fun h => ?_) <;> (try simp only [decide_eq_true_eq, decide_eq_false_iff_not] at h) <;> (conv => arg 4; cbv))
      | (refine Sat.call (w_spec_l1In _ _ _) rfl (by (repeat' (first | exact led_nil | refine led_cons ?_ ?_ | exact .same _ | exact .int rfl | exact .sl rfl | exact .str rfl | exact .nil rfl | exact .emp rfl | refine .agg rfl ?_ | refine .tup rfl ?_ | (refine .sl ?_; simp; done))); (first | done | fail)) ?_; conv => arg 4; cbv)
      | (refine Sat.ariw ?_; conv => arg 4; cbv)
      | (refine Sat.need (by (try dsimp only); (first | omega | (simp only [ncast, true_and, List.length_append, List.length_take, List.length_drop, List.length_replicate, List.length_cons, List.length_nil] at *; omega))) ?_; conv => arg 4; cbv)
      | (refine Sat.idxk (by assumption) ?_; conv => arg 4; cbv) | (refine Sat.idx (by (try dsimp only); (first | omega | (simp only [ncast, true_and, List.length_append, List.length_take, List.length_drop, List.length_replicate, List.length_cons, List.length_nil] at *; omega))) (fun v_ hv_ => ?_); conv => arg 4; cbv)
      | (refine Sat.ari64 (by (try dsimp only); (first | omega | (simp only [ncast, true_and, List.length_append, List.length_take, List.length_drop, List.length_replicate, List.length_cons, List.length_nil] at *; omega))) (by (try dsimp only); (first | omega | (simp only [ncast, true_and, List.length_append, List.length_take, List.length_drop, List.length_replicate, List.length_cons, List.length_nil] at *; omega))) ?_; conv => arg 4; cbv)
      | (refine Sat.pop ?_; conv => arg 4; cbv)
      | refine Sat.done ?_
    all_goals first | exact .emp hc | (exfalso; simp only [ncast] at *; omega)

set_option maxHeartbeats 4000000 in
theorem w_laws_FnExactCommittedPart (s_ : GServer) {G : Prop} (F : fServer s_ ∧ G) : Fn Pr n_laws_FnExactCommittedPart [aGServer s_] (.bo true) := by
  have hb_s : bServer s_ := fServer_b F.1
  have h1_s := nServer_rng hb_s
  have q0 := sServer_rng (x := s_) (n := 1048576)
  have HS := w_spec_CommittedPart s_ hb_s F.1
  have HI := w_impl_CommittedPart s_ hb_s F.1
  have hc0 : bEntryS (committed s_) := by have := committed_len (x := s_); have := hb_s.2.1; unfold bEntryS at *; omega
  generalize committed s_ = g0 at *
  have hd0 : g0.length * 56 ≤ 140737488351232 := hc0
  have hm0 : bEntryS (mkEntryS 1 g0.length) := by show (mkEntryS _ _).length * 56 ≤ _; rw [mkEntryS_length]; exact hc0
  refine k_laws_FnExactCommittedPart.fn (by kernel_rfl) ?_
  (conv => arg 4; cbv)
  repeat' first
    | (refine Sat.cmp (fun h => ?_) (fun h => ?_) <;> simp only [Cmp.holds] at h <;> (conv => arg 4; cbv))
    | (refine Sat.callb (w_laws_szServer s_ 1048576 hb_s (by (first | omega | (simp only [ncast, true_and, List.length_append, List.length_take, List.length_drop, List.length_replicate, List.length_cons, List.length_nil] at *; omega)))) rfl (by (repeat' (first | exact led_nil | refine led_cons ?_ ?_ | exact .same _ | exact .int rfl | exact .sl rfl | exact .str rfl | exact .nil rfl | exact .emp rfl | refine .agg rfl ?_ | refine .tup rfl ?_ | (refine .sl ?_; simp; done))); (first | done | fail)) (fun h => ?_) (fun h => ?_) <;> (try simp only [decide_eq_true_eq, decide_eq_false_iff_not] at h) <;> (conv => arg 4; cbv))
    | (refine Sat.call (w_laws_szServer s_ 1048576 hb_s (by (first | omega | (simp only [ncast, true_and, List.length_append, List.length_take, List.length_drop, List.length_replicate, List.length_cons, List.length_nil] at *; omega)))) rfl (by (repeat' (first | exact led_nil | refine led_cons ?_ ?_ | exact .same _ | exact .int rfl | exact .sl rfl | exact .str rfl | exact .nil rfl | exact .emp rfl | refine .agg rfl ?_ | refine .tup rfl ?_ | (refine .sl ?_; simp; done))); (first | done | fail)) ?_; conv => arg 4; cbv)
    | (refine Sat.callb (w_laws_toServer s_ hb_s) rfl (by (repeat' (first | exact led_nil | refine led_cons ?_ ?_ | exact .same _ | exact .int rfl | exact .sl rfl | exact .str rfl | exact .nil rfl | exact .emp rfl | refine .agg rfl ?_ | refine .tup rfl ?_ | (refine .sl ?_; simp; done))); (first | done | fail)) (fun h => ?_) (fun h => ?_) <;> (try simp only [decide_eq_true_eq, decide_eq_false_iff_not] at h) <;> (conv => arg 4; cbv))
    | (refine Sat.call (w_laws_toServer s_ hb_s) rfl (by (repeat' (first | exact led_nil | refine led_cons ?_ ?_ | exact .same _ | exact .int rfl | exact .sl rfl | exact .str rfl | exact .nil rfl | exact .emp rfl | refine .agg rfl ?_ | refine .tup rfl ?_ | (refine .sl ?_; simp; done))); (first | done | fail)) ?_; conv => arg 4; cbv)
    | (refine Sat.callb (HS) rfl (by (repeat' (first | exact led_nil | refine led_cons ?_ ?_ | exact .same _ | exact .int rfl | exact .sl rfl | exact .str rfl | exact .nil rfl | exact .emp rfl | refine .agg rfl ?_ | refine .tup rfl ?_ | (refine .sl ?_; simp; done))); (first | done | fail)) (fun h => ?_) (fun h => ?_) <;> (try simp only [decide_eq_true_eq, decide_eq_false_iff_not] at h) <;> (conv => arg 4; cbv))
    | (refine Sat.call (HS) rfl (by (repeat' (first | exact led_nil | refine led_cons ?_ ?_ | exact .same _ | exact .int rfl | exact .sl rfl | exact .str rfl | exact .nil rfl | exact .emp rfl | refine .agg rfl ?_ | refine .tup rfl ?_ | (refine .sl ?_; simp; done))); (first | done | fail)) ?_; conv => arg 4; cbv)
    | (refine Sat.callb (HI) rfl (by (repeat' (first | exact led_nil | refine led_cons ?_ ?_ | exact .same _ | exact .int rfl | exact .sl rfl | exact .str rfl | exact .nil rfl | exact .emp rfl | refine .agg rfl ?_ | refine .tup rfl ?_ | (refine .sl ?_; simp; done))); (first | done | fail)) (fun h => ?_) (fun h => ?_) <;> (try simp only [decide_eq_true_eq, decide_eq_false_iff_not] at h) <;> (conv => arg 4; cbv))
    | (refine Sat.call (HI) rfl (by (repeat' (first | exact led_nil | refine led_cons ?_ ?_ | exact .same _ | exact .int rfl | exact .sl rfl | exact .str rfl | exact .nil rfl | exact .emp rfl | refine .agg rfl ?_ | refine .tup rfl ?_ | (refine .sl ?_; simp; done))); (first | done | fail)) ?_; conv => arg 4; cbv)
    | (refine Sat.callb (w_laws_eqEntryS g0 g0 hc0) rfl (by (repeat' (first | exact led_nil | refine led_cons ?_ ?_ | exact .same _ | exact .int rfl | exact .sl rfl | exact .str rfl | exact .nil rfl | exact .emp rfl | refine .agg rfl ?_ | refine .tup rfl ?_ | (refine .sl ?_; simp; done))); (first | done | fail)) (fun h => ?_) (fun h => ?_) <;> (try simp only [decide_eq_true_eq, decide_eq_false_iff_not] at h) <;> (conv => arg 4; cbv))
    | (refine Sat.call (w_laws_eqEntryS g0 g0 hc0) rfl (by (repeat' (first | exact led_nil | refine led_cons ?_ ?_ | exact .same _ | exact .int rfl | exact .sl rfl | exact .str rfl | exact .nil rfl | exact .emp rfl | refine .agg rfl ?_ | refine .tup rfl ?_ | (refine .sl ?_; simp; done))); (first | done | fail)) ?_; conv => arg 4; cbv)
    | (refine Sat.callb (w_laws_eqServer s_ s_ hb_s) rfl (by (repeat' (first | exact led_nil | refine led_cons ?_ ?_ | exact .same _ | exact .int rfl | exact .sl rfl | exact .str rfl | exact .nil rfl | exact .emp rfl | refine .agg rfl ?_ | refine .tup rfl ?_ | (refine .sl ?_; simp; done))); (first | done | fail)) (fun h => ?_) (fun h => ?_) <;> (try simp only [decide_eq_true_eq, decide_eq_false_iff_not] at h) <;> (conv => arg 4; cbv))
    | (refine Sat.call (w_laws_eqServer s_ s_ hb_s) rfl (by (repeat' (first | exact led_nil | refine led_cons ?_ ?_ | exact .same _ | exact .int rfl | exact .sl rfl | exact .str rfl | exact .nil rfl | exact .emp rfl | refine .agg rfl ?_ | refine .tup rfl ?_ | (refine .sl ?_; simp; done))); (first | done | fail)) ?_; conv => arg 4; cbv)
    | (refine Sat.callm (w_laws_markServer s_ (1) hb_s (by (first | omega | (simp only [ncast, true_and, List.length_append, List.length_take, List.length_drop, List.length_replicate, List.length_cons, List.length_nil] at *; omega)))) rfl (by (repeat' (first | exact led_nil | refine led_cons ?_ ?_ | exact .same _ | exact .int rfl | exact .sl rfl | exact .str rfl | exact .nil rfl | exact .emp rfl | refine .agg rfl ?_ | refine .tup rfl ?_ | (refine .sl ?_; simp; done))); (first | done | fail)) rfl (by (repeat' (first | exact led_nil | refine led_cons ?_ ?_ | exact .same _ | exact .int rfl | exact .sl rfl | exact .str rfl | exact .nil rfl | exact .emp rfl | refine .agg rfl ?_ | refine .tup rfl ?_ | (refine .sl ?_; simp; done))); (first | done | fail)) ?_; conv => arg 4; cbv)
    | (refine Sat.callm (w_laws_markEntryS g0 1 hc0 (by (first | omega | (simp only [ncast, true_and, List.length_append, List.length_take, List.length_drop, List.length_replicate, List.length_cons, List.length_nil] at *; omega)))) rfl (by (repeat' (first | exact led_nil | refine led_cons ?_ ?_ | exact .same _ | exact .int rfl | exact .sl rfl | exact .str rfl | exact .nil rfl | exact .emp rfl | refine .agg rfl ?_ | refine .tup rfl ?_ | (refine .sl ?_; simp; done))); (first | done | fail)) rfl (by (repeat' (first | exact led_nil | refine led_cons ?_ ?_ | exact .same _ | exact .int rfl | exact .sl rfl | exact .str rfl | exact .nil rfl | exact .emp rfl | refine .agg rfl ?_ | refine .tup rfl ?_ | (refine .sl ?_; simp; done))); (first | done | fail)) ?_; conv => arg 4; cbv)
    | (refine Sat.callb (w_laws_heldEntryS_mk 1 g0.length hm0 (by (first | omega | (simp only [ncast, true_and, List.length_append, List.length_take, List.length_drop, List.length_replicate, List.length_cons, List.length_nil] at *; omega)))) rfl (by (repeat' (first | exact led_nil | refine led_cons ?_ ?_ | exact .same _ | exact .int rfl | exact .sl rfl | exact .str rfl | exact .nil rfl | exact .emp rfl | refine .agg rfl ?_ | refine .tup rfl ?_ | (refine .sl ?_; simp; done))); (first | done | fail)) (fun h => ?_) (fun h => ?_) <;> (try simp only [decide_eq_true_eq, decide_eq_false_iff_not] at h) <;> (conv => arg 4; cbv))
    | (refine Sat.call (w_laws_heldEntryS_mk 1 g0.length hm0 (by (first | omega | (simp only [ncast, true_and, List.length_append, List.length_take, List.length_drop, List.length_replicate, List.length_cons, List.length_nil] at *; omega)))) rfl (by (repeat' (first | exact led_nil | refine led_cons ?_ ?_ | exact .same _ | exact .int rfl | exact .sl rfl | exact .str rfl | exact .nil rfl | exact .emp rfl | refine .agg rfl ?_ | refine .tup rfl ?_ | (refine .sl ?_; simp; done))); (first | done | fail)) ?_; conv => arg 4; cbv)
    | (refine Sat.need (by (try dsimp only); (first | omega | (simp only [ncast, true_and, List.length_append, List.length_take, List.length_drop, List.length_replicate, List.length_cons, List.length_nil] at *; omega))) ?_; conv => arg 4; cbv)
    | (refine Sat.need (by (repeat' (first | exact trivial | refine And.intro ?_ ?_ | rfl | (dsimp only; simp [genL_length]; done))); (first | done | fail)) ?_; conv => arg 4; cbv)
    | (refine Sat.idxk (by assumption) ?_; conv => arg 4; cbv) | (refine Sat.idx (by (try dsimp only); (first | omega | (simp only [ncast, true_and, List.length_append, List.length_take, List.length_drop, List.length_replicate, List.length_cons, List.length_nil] at *; omega))) (fun v_ hv_ => ?_); conv => arg 4; cbv)
    | (refine Sat.ari64 (by (try dsimp only); (first | omega | (simp only [ncast, true_and, List.length_append, List.length_take, List.length_drop, List.length_replicate, List.length_cons, List.length_nil] at *; omega))) (by (try dsimp only); (first | omega | (simp only [ncast, true_and, List.length_append, List.length_take, List.length_drop, List.length_replicate, List.length_cons, List.length_nil] at *; omega))) ?_; conv => arg 4; cbv)
    | (refine Sat.pop ?_; conv => arg 4; cbv)
    | refine Sat.done ?_
  all_goals refine led_bo ?_
  all_goals first | rfl | contradiction | (exfalso; (try simp only [ncast] at *); omega) | (exfalso; simp_all; done)

end Go.V.T
