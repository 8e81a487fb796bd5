/- Contracts of the functions that FnExactAreAcceptors reaches: what each returns. Conditions: those that each theorem states. -/
import Derived.Test.YtfbheccgpfddjaaWXAreAcceptors1
namespace Go.V.T
open Go Go.V Go.RowKit
set_option maxRecDepth 100000
set_option linter.unusedVariables false
set_option linter.unusedSimpArgs false
theorem w_impl_IsValidAcceptor (a : GAcceptor) (hb : bAcceptor a) : Fn Pr n_impl_IsValidAcceptor [aGAcceptor a] (.bo (validA a)) := by
  refine k_impl_IsValidAcceptor.fn (by kernel_rfl) ?_
  conv => arg 4; cbv
  repeat' first
    | (refine Sat.cmp (fun h => ?_) (fun h => ?_) <;> simp only [Cmp.holds] at h <;> (conv => arg 4; cbv))
    | (refine Sat.callb (w_impl_within _ _ _) rfl (by (repeat' (first | exact led_nil | refine led_cons ?_ ?_ | exact .same _ | exact .int rfl | exact .sl rfl | exact .str rfl | exact .nil rfl | exact .emp rfl | refine .agg rfl ?_ | refine .tup rfl ?_ | (refine .sl ?_; simp; done))); (first | done | fail)) (fun h => ?_) (fun h => ?_) <;> (try simp only [decide_eq_true_eq, decide_eq_false_iff_not] at h) <;> (conv => arg 4; cbv))
    | (refine Sat.call (w_impl_within _ _ _) rfl (by (repeat' (first | exact led_nil | refine led_cons ?_ ?_ | exact .same _ | exact .int rfl | exact .sl rfl | exact .str rfl | exact .nil rfl | exact .emp rfl | refine .agg rfl ?_ | refine .tup rfl ?_ | (refine .sl ?_; simp; done))); (first | done | fail)) ?_; conv => arg 4; cbv)
    | (refine Sat.callb (w_impl_EqualConfigs a.Value noConfig hb) rfl (by (repeat' (first | exact led_nil | refine led_cons ?_ ?_ | exact .same _ | exact .int rfl | exact .sl rfl | exact .str rfl | exact .nil rfl | exact .emp rfl | refine .agg rfl ?_ | refine .tup rfl ?_ | (refine .sl ?_; simp; done))); (first | done | fail)) (fun h => ?_) (fun h => ?_) <;> (try simp only [decide_eq_true_eq, decide_eq_false_iff_not] at h) <;> (conv => arg 4; cbv))
    | (refine Sat.call (w_impl_EqualConfigs a.Value noConfig hb) rfl (by (repeat' (first | exact led_nil | refine led_cons ?_ ?_ | exact .same _ | exact .int rfl | exact .sl rfl | exact .str rfl | exact .nil rfl | exact .emp rfl | refine .agg rfl ?_ | refine .tup rfl ?_ | (refine .sl ?_; simp; done))); (first | done | fail)) ?_; conv => arg 4; cbv)
    | (refine Sat.callb (w_impl_IsValidConfig a.Value hb) rfl (by (repeat' (first | exact led_nil | refine led_cons ?_ ?_ | exact .same _ | exact .int rfl | exact .sl rfl | exact .str rfl | exact .nil rfl | exact .emp rfl | refine .agg rfl ?_ | refine .tup rfl ?_ | (refine .sl ?_; simp; done))); (first | done | fail)) (fun h => ?_) (fun h => ?_) <;> (try simp only [decide_eq_true_eq, decide_eq_false_iff_not] at h) <;> (conv => arg 4; cbv))
    | (refine Sat.call (w_impl_IsValidConfig a.Value hb) rfl (by (repeat' (first | exact led_nil | refine led_cons ?_ ?_ | exact .same _ | exact .int rfl | exact .sl rfl | exact .str rfl | exact .nil rfl | exact .emp rfl | refine .agg rfl ?_ | refine .tup rfl ?_ | (refine .sl ?_; simp; done))); (first | done | fail)) ?_; conv => arg 4; cbv)
    | (refine Sat.need (by (try dsimp only); (first | omega | (simp only [ncast, true_and, List.length_append, List.length_take, List.length_drop, List.length_replicate, List.length_cons, List.length_nil] at *; omega))) ?_; conv => arg 4; cbv)
    | (refine Sat.idxk (by assumption) ?_; conv => arg 4; cbv) | (refine Sat.idx (by (try dsimp only); (first | omega | (simp only [ncast, true_and, List.length_append, List.length_take, List.length_drop, List.length_replicate, List.length_cons, List.length_nil] at *; omega))) (fun v_ hv_ => ?_); conv => arg 4; cbv)
    | (refine Sat.ari64 (by (try dsimp only); (first | omega | (simp only [ncast, true_and, List.length_append, List.length_take, List.length_drop, List.length_replicate, List.length_cons, List.length_nil] at *; omega))) (by (try dsimp only); (first | omega | (simp only [ncast, true_and, List.length_append, List.length_take, List.length_drop, List.length_replicate, List.length_cons, List.length_nil] at *; omega))) ?_; conv => arg 4; cbv)
    | (refine Sat.pop ?_; conv => arg 4; cbv)
    | refine Sat.done ?_
  all_goals refine led_bo ?_
  all_goals first | (simp_all [validA]; done) | (simp_all [validA]; omega)

theorem w_spec_IsValidAcceptor (a : GAcceptor) (hb : bAcceptor a) : Fn Pr n_spec_IsValidAcceptor [aGAcceptor a] (.bo (validA a)) := by
  refine k_spec_IsValidAcceptor.fn (by kernel_rfl) ?_
  conv => arg 4; cbv
  repeat' first
    | (refine Sat.cmp (fun h => ?_) (fun h => ?_) <;> simp only [Cmp.holds] at h <;> (conv => arg 4; cbv))
    | (refine Sat.callb (w_spec_l1In _ _ _) rfl (by (repeat' (first | exact led_nil | refine led_cons ?_ ?_ | exact .same _ | exact .int rfl | exact .sl rfl | exact .str rfl | exact .nil rfl | exact .emp rfl | refine .agg rfl ?_ | refine .tup rfl ?_ | (refine .sl ?_; simp; done))); (first | done | fail)) (fun h => ?_) (fun h => ?_) <;> (try simp only [decide_eq_true_eq, decide_eq_false_iff_not] at h) <;> (conv => arg 4; cbv))
    | (refine Sat.call (w_spec_l1In _ _ _) rfl (by (repeat' (first | exact led_nil | refine led_cons ?_ ?_ | exact .same _ | exact .int rfl | exact .sl rfl | exact .str rfl | exact .nil rfl | exact .emp rfl | refine .agg rfl ?_ | refine .tup rfl ?_ | (refine .sl ?_; simp; done))); (first | done | fail)) ?_; conv => arg 4; cbv)
    | (refine Sat.callb (w_spec_EqualConfigs a.Value noConfig hb) rfl (by (repeat' (first | exact led_nil | refine led_cons ?_ ?_ | exact .same _ | exact .int rfl | exact .sl rfl | exact .str rfl | exact .nil rfl | exact .emp rfl | refine .agg rfl ?_ | refine .tup rfl ?_ | (refine .sl ?_; simp; done))); (first | done | fail)) (fun h => ?_) (fun h => ?_) <;> (try simp only [decide_eq_true_eq, decide_eq_false_iff_not] at h) <;> (conv => arg 4; cbv))
    | (refine Sat.call (w_spec_EqualConfigs a.Value noConfig hb) rfl (by (repeat' (first | exact led_nil | refine led_cons ?_ ?_ | exact .same _ | exact .int rfl | exact .sl rfl | exact .str rfl | exact .nil rfl | exact .emp rfl | refine .agg rfl ?_ | refine .tup rfl ?_ | (refine .sl ?_; simp; done))); (first | done | fail)) ?_; conv => arg 4; cbv)
    | (refine Sat.callb (w_spec_IsValidConfig a.Value hb) rfl (by (repeat' (first | exact led_nil | refine led_cons ?_ ?_ | exact .same _ | exact .int rfl | exact .sl rfl | exact .str rfl | exact .nil rfl | exact .emp rfl | refine .agg rfl ?_ | refine .tup rfl ?_ | (refine .sl ?_; simp; done))); (first | done | fail)) (fun h => ?_) (fun h => ?_) <;> (try simp only [decide_eq_true_eq, decide_eq_false_iff_not] at h) <;> (conv => arg 4; cbv))
    | (refine Sat.call (w_spec_IsValidConfig a.Value hb) rfl (by (repeat' (first | exact led_nil | refine led_cons ?_ ?_ | exact .same _ | exact .int rfl | exact .sl rfl | exact .str rfl | exact .nil rfl | exact .emp rfl | refine .agg rfl ?_ | refine .tup rfl ?_ | (refine .sl ?_; simp; done))); (first | done | fail)) ?_; conv => arg 4; cbv)
    | (refine Sat.need (by (try dsimp only); (first | omega | (simp only [ncast, true_and, List.length_append, List.length_take, List.length_drop, List.length_replicate, List.length_cons, List.length_nil] at *; omega))) ?_; conv => arg 4; cbv)
    | (refine Sat.idxk (by assumption) ?_; conv => arg 4; cbv) | (refine Sat.idx (by (try dsimp only); (first | omega | (simp only [ncast, true_and, List.length_append, List.length_take, List.length_drop, List.length_replicate, List.length_cons, List.length_nil] at *; omega))) (fun v_ hv_ => ?_); conv => arg 4; cbv)
    | (refine Sat.ari64 (by (try dsimp only); (first | omega | (simp only [ncast, true_and, List.length_append, List.length_take, List.length_drop, List.length_replicate, List.length_cons, List.length_nil] at *; omega))) (by (try dsimp only); (first | omega | (simp only [ncast, true_and, List.length_append, List.length_take, List.length_drop, List.length_replicate, List.length_cons, List.length_nil] at *; omega))) ?_; conv => arg 4; cbv)
    | (refine Sat.pop ?_; conv => arg 4; cbv)
    | refine Sat.done ?_
  all_goals refine led_bo ?_
  all_goals first | (simp_all [validA]; done) | (simp_all [validA]; omega)

theorem w_slices_IndexFunc_implAcceptorimplAcceptor (l : List GAcceptor) (f : Nat) (p : GAcceptor → Bool) (hf : ∀ x, bAcceptor x → Fn Pr f [aGAcceptor x] (.bo (p x))) (hb : bAcceptorS l) : Fn Pr n_slices_IndexFunc_implAcceptorimplAcceptor [.sl 6 eGAcceptor (fun _ => l), .clo f []] (.int .i64 (fun _ => idxF p l)) := by
  refine k_slices_IndexFunc_implAcceptorimplAcceptor.fn (by kernel_rfl) ?_
  have h0 : l.length * 80 ≤ 140737488351232 := hb.1
  conv => arg 4; cbv
  refine Sat.loopP (ι := Nat) (fun i => [(8, .int .i64 (fun _ => (i : Int)))]) (fun i => []) (fun i => i ≤ l.length ∧ idxF p l = if idxF p (l.drop i) < 0 then -1 else idxF p (l.drop i) + i) (fun i => l.length - i) 0 ?_ ⟨by omega, by have := (idxF_any (p := p) (l := l)).2; simp; omega⟩ (fun i hi => ?_)
  · refine les_of ?_ ?_ rfl
    · repeat' (first | exact trivial | refine And.intro ?_ ?_ | exact .any _ | exact .undef | exact .bo _ | exact .nil | exact .emp | exact .int rfl | exact .sl rfl | exact .str rfl | exact .ptr (fun h => nomatch h) | exact .rptr _ | exact .clo rfl (fun i x y h => by simp at h) | exact .ref (fun h => nomatch h) (fun h => nomatch h) rfl rfl | exact lev_nil | refine lev_cons ?_ ?_ | refine LeV.agg rfl ?_)
    · repeat' (first | exact trivial | refine And.intro ?_ ?_ | exact Nat.le_of_ble_eq_true rfl | exact Or.inl ⟨_, rfl, .row rfl⟩ | refine Or.inl ⟨_, rfl, .row ?_⟩ | refine Or.inl ⟨_, rfl, .lit rfl ?_⟩ | exact Or.inr ⟨rfl, rfl⟩ | exact .any _ | exact .undef | exact .bo _ | exact .nil | exact .emp | exact .int rfl | exact .sl rfl | exact .str rfl | exact .ptr (fun h => nomatch h) | exact .rptr _ | exact .clo rfl (fun i x y h => by simp at h) | exact .ref (fun h => nomatch h) (fun h => nomatch h) rfl rfl | exact lev_nil | refine lev_cons ?_ ?_ | refine LeV.agg rfl ?_)
  conv => arg 4; cbv
  repeat' first
    | (refine Sat.cmp (fun h => ?_) (fun h => ?_) <;> simp only [Cmp.holds] at h <;> (conv => arg 4; cbv))
    | (refine Sat.need (by (try dsimp only); (first | omega | (simp only [ncast, true_and, List.length_append, List.length_take, List.length_drop, List.length_replicate, List.length_cons, List.length_nil] at *; omega))) ?_; conv => arg 4; cbv)
    | (refine Sat.idxk (by assumption) ?_; conv => arg 4; cbv) | (refine Sat.idx (by (try dsimp only); (first | omega | (simp only [ncast, true_and, List.length_append, List.length_take, List.length_drop, List.length_replicate, List.length_cons, List.length_nil] at *; omega))) (fun v_ hv_ => ?_); conv => arg 4; cbv)
    | (refine Sat.callb (hf _ (hb.2 _ (List.mem_of_getElem? (by assumption)))) rfl (by (repeat' (first | exact led_nil | refine led_cons ?_ ?_ | exact .same _ | exact .int rfl | exact .sl rfl | exact .str rfl | exact .nil rfl | exact .emp rfl | refine .agg rfl ?_ | refine .tup rfl ?_ | (refine .sl ?_; simp; done))); (first | done | fail)) (fun h => ?_) (fun h => ?_) <;> (conv => arg 4; cbv))
    | (refine Sat.ari64 (by (try dsimp only); (first | omega | (simp only [ncast, true_and, List.length_append, List.length_take, List.length_drop, List.length_replicate, List.length_cons, List.length_nil] at *; omega))) (by (try dsimp only); (first | omega | (simp only [ncast, true_and, List.length_append, List.length_take, List.length_drop, List.length_replicate, List.length_cons, List.length_nil] at *; omega))) ?_; conv => arg 4; cbv)
    | (refine Sat.pop ?_; conv => arg 4; cbv)
    | refine Sat.next (i + 1) ?_ ?_ (by (try dsimp only); (first | omega | (simp only [ncast, true_and, List.length_append, List.length_take, List.length_drop, List.length_replicate, List.length_cons, List.length_nil] at *; omega)))
    | refine Sat.done ?_
  · refine .int ?_
    exact idxF_hit (by assumption) hi.2 h
  · refine les_of ?_ ?_ rfl
    · repeat' (first | exact trivial | refine And.intro ?_ ?_ | exact .any _ | exact .undef | exact .bo _ | exact .nil | exact .emp | exact .int rfl | exact .sl rfl | exact .str rfl | exact .ptr (fun h => nomatch h) | exact .rptr _ | exact .clo rfl (fun i x y h => by simp at h) | exact .ref (fun h => nomatch h) (fun h => nomatch h) rfl rfl | exact lev_nil | refine lev_cons ?_ ?_ | refine LeV.agg rfl ?_)
    · repeat' (first | exact trivial | refine And.intro ?_ ?_ | exact Nat.le_of_ble_eq_true rfl | exact Or.inl ⟨_, rfl, .row rfl⟩ | refine Or.inl ⟨_, rfl, .row ?_⟩ | refine Or.inl ⟨_, rfl, .lit rfl ?_⟩ | exact Or.inr ⟨rfl, rfl⟩ | exact .any _ | exact .undef | exact .bo _ | exact .nil | exact .emp | exact .int rfl | exact .sl rfl | exact .str rfl | exact .ptr (fun h => nomatch h) | exact .rptr _ | exact .clo rfl (fun i x y h => by simp at h) | exact .ref (fun h => nomatch h) (fun h => nomatch h) rfl rfl | exact lev_nil | refine lev_cons ?_ ?_ | refine LeV.agg rfl ?_)
  · exact ⟨by (first | omega | (simp only [ncast, true_and, List.length_append, List.length_take, List.length_drop, List.length_replicate, List.length_cons, List.length_nil] at *; omega)), idxF_step (by assumption) hi.2 h⟩
  · refine .int ?_
    have e1 : i = l.length := by (first | omega | (simp only [ncast, true_and, List.length_append, List.length_take, List.length_drop, List.length_replicate, List.length_cons, List.length_nil] at *; omega))
    rw [hi.2, e1, List.drop_length, idxF]
    simp

theorem w_slices_ContainsFunc_implAcceptorimplAcceptor (l : List GAcceptor) (f : Nat) (p : GAcceptor → Bool) (hf : ∀ x, bAcceptor x → Fn Pr f [aGAcceptor x] (.bo (p x))) (hb : bAcceptorS l) : Fn Pr n_slices_ContainsFunc_implAcceptorimplAcceptor [.sl 6 eGAcceptor (fun _ => l), .clo f []] (.bo (l.any p)) := by
  refine k_slices_ContainsFunc_implAcceptorimplAcceptor.fn (by kernel_rfl) ?_
  conv => arg 4; cbv
  repeat' first
    | (refine Sat.cmp (fun h => ?_) (fun h => ?_) <;> simp only [Cmp.holds] at h <;> (conv => arg 4; cbv))
    | (refine Sat.callb (w_slices_IndexFunc_implAcceptorimplAcceptor l f p hf hb) rfl (by (repeat' (first | exact led_nil | refine led_cons ?_ ?_ | exact .same _ | exact .int rfl | exact .sl rfl | exact .str rfl | exact .nil rfl | exact .emp rfl | refine .agg rfl ?_ | refine .tup rfl ?_ | (refine .sl ?_; simp; done))); (first | done | fail)) (fun h => ?_) (fun h => ?_) <;> (try simp only [decide_eq_true_eq, decide_eq_false_iff_not] at h) <;> (conv => arg 4; cbv))
    | (refine Sat.call (w_slices_IndexFunc_implAcceptorimplAcceptor l f p hf hb) rfl (by (repeat' (first | exact led_nil | refine led_cons ?_ ?_ | exact .same _ | exact .int rfl | exact .sl rfl | exact .str rfl | exact .nil rfl | exact .emp rfl | refine .agg rfl ?_ | refine .tup rfl ?_ | (refine .sl ?_; simp; done))); (first | done | fail)) ?_; conv => arg 4; cbv)
    | (refine Sat.need (by (try dsimp only); (first | omega | (simp only [ncast, true_and, List.length_append, List.length_take, List.length_drop, List.length_replicate, List.length_cons, List.length_nil] at *; omega))) ?_; conv => arg 4; cbv)
    | (refine Sat.idxk (by assumption) ?_; conv => arg 4; cbv) | (refine Sat.idx (by (try dsimp only); (first | omega | (simp only [ncast, true_and, List.length_append, List.length_take, List.length_drop, List.length_replicate, List.length_cons, List.length_nil] at *; omega))) (fun v_ hv_ => ?_); conv => arg 4; cbv)
    | (refine Sat.ari64 (by (try dsimp only); (first | omega | (simp only [ncast, true_and, List.length_append, List.length_take, List.length_drop, List.length_replicate, List.length_cons, List.length_nil] at *; omega))) (by (try dsimp only); (first | omega | (simp only [ncast, true_and, List.length_append, List.length_take, List.length_drop, List.length_replicate, List.length_cons, List.length_nil] at *; omega))) ?_; conv => arg 4; cbv)
    | (refine Sat.pop ?_; conv => arg 4; cbv)
    | refine Sat.done ?_
  all_goals refine led_bo ?_
  all_goals have := (idxF_any (p := p) (l := l)).1
  · exact (this.1 h).symm
  · cases e : l.any p with
    | false => rfl
    | true => exact absurd (this.2 e) h

def areAcc (l : List GAcceptor) : Bool := decide (l.length = 3) && l.all validA

theorem w_impl_AreAcceptors_c1 (x : GAcceptor) (hb : bAcceptor x) : Fn Pr n_impl_AreAcceptors_c1 [aGAcceptor x] (.bo (!validA x)) := by
  refine k_impl_AreAcceptors_c1.fn (by kernel_rfl) ?_
  conv => arg 4; cbv
  repeat' first
    | (refine Sat.cmp (fun h => ?_) (fun h => ?_) <;> simp only [Cmp.holds] at h <;> (conv => arg 4; cbv))
    | (refine Sat.callb (w_impl_IsValidAcceptor x hb) rfl (by (repeat' (first | exact led_nil | refine led_cons ?_ ?_ | exact .same _ | exact .int rfl | exact .sl rfl | exact .str rfl | exact .nil rfl | exact .emp rfl | refine .agg rfl ?_ | refine .tup rfl ?_ | (refine .sl ?_; simp; done))); (first | done | fail)) (fun h => ?_) (fun h => ?_) <;> (try simp only [decide_eq_true_eq, decide_eq_false_iff_not] at h) <;> (conv => arg 4; cbv))
    | (refine Sat.call (w_impl_IsValidAcceptor x hb) rfl (by (repeat' (first | exact led_nil | refine led_cons ?_ ?_ | exact .same _ | exact .int rfl | exact .sl rfl | exact .str rfl | exact .nil rfl | exact .emp rfl | refine .agg rfl ?_ | refine .tup rfl ?_ | (refine .sl ?_; simp; done))); (first | done | fail)) ?_; conv => arg 4; cbv)
    | (refine Sat.need (by (try dsimp only); (first | omega | (simp only [ncast, true_and, List.length_append, List.length_take, List.length_drop, List.length_replicate, List.length_cons, List.length_nil] at *; omega))) ?_; conv => arg 4; cbv)
    | (refine Sat.idxk (by assumption) ?_; conv => arg 4; cbv) | (refine Sat.idx (by (try dsimp only); (first | omega | (simp only [ncast, true_and, List.length_append, List.length_take, List.length_drop, List.length_replicate, List.length_cons, List.length_nil] at *; omega))) (fun v_ hv_ => ?_); conv => arg 4; cbv)
    | (refine Sat.ari64 (by (try dsimp only); (first | omega | (simp only [ncast, true_and, List.length_append, List.length_take, List.length_drop, List.length_replicate, List.length_cons, List.length_nil] at *; omega))) (by (try dsimp only); (first | omega | (simp only [ncast, true_and, List.length_append, List.length_take, List.length_drop, List.length_replicate, List.length_cons, List.length_nil] at *; omega))) ?_; conv => arg 4; cbv)
    | (refine Sat.pop ?_; conv => arg 4; cbv)
    | refine Sat.done ?_
  all_goals refine led_bo ?_ <;> simp_all

theorem w_impl_AreAcceptors (l : List GAcceptor) (hb : bAcceptorS l) : Fn Pr n_impl_AreAcceptors [.sl 6 eGAcceptor (fun _ => l)] (.bo (areAcc l)) := by
  refine k_impl_AreAcceptors.fn (by kernel_rfl) ?_
  conv => arg 4; cbv
  repeat' first
    | (refine Sat.cmp (fun h => ?_) (fun h => ?_) <;> simp only [Cmp.holds] at h <;> (conv => arg 4; cbv))
    | (refine Sat.callb (w_slices_ContainsFunc_implAcceptorimplAcceptor l n_impl_AreAcceptors_c1 _ w_impl_AreAcceptors_c1 hb) rfl (by (repeat' (first | exact led_nil | refine led_cons ?_ ?_ | exact .same _ | exact .int rfl | exact .sl rfl | exact .str rfl | exact .nil rfl | exact .emp rfl | refine .agg rfl ?_ | refine .tup rfl ?_ | (refine .sl ?_; simp; done))); (first | done | fail)) (fun h => ?_) (fun h => ?_) <;> (try simp only [decide_eq_true_eq, decide_eq_false_iff_not] at h) <;> (conv => arg 4; cbv))
    | (refine Sat.call (w_slices_ContainsFunc_implAcceptorimplAcceptor l n_impl_AreAcceptors_c1 _ w_impl_AreAcceptors_c1 hb) rfl (by (repeat' (first | exact led_nil | refine led_cons ?_ ?_ | exact .same _ | exact .int rfl | exact .sl rfl | exact .str rfl | exact .nil rfl | exact .emp rfl | refine .agg rfl ?_ | refine .tup rfl ?_ | (refine .sl ?_; simp; done))); (first | done | fail)) ?_; conv => arg 4; cbv)
    | (refine Sat.need (by (try dsimp only); (first | omega | (simp only [ncast, true_and, List.length_append, List.length_take, List.length_drop, List.length_replicate, List.length_cons, List.length_nil] at *; omega))) ?_; conv => arg 4; cbv)
    | (refine Sat.idxk (by assumption) ?_; conv => arg 4; cbv) | (refine Sat.idx (by (try dsimp only); (first | omega | (simp only [ncast, true_and, List.length_append, List.length_take, List.length_drop, List.length_replicate, List.length_cons, List.length_nil] at *; omega))) (fun v_ hv_ => ?_); conv => arg 4; cbv)
    | (refine Sat.ari64 (by (try dsimp only); (first | omega | (simp only [ncast, true_and, List.length_append, List.length_take, List.length_drop, List.length_replicate, List.length_cons, List.length_nil] at *; omega))) (by (try dsimp only); (first | omega | (simp only [ncast, true_and, List.length_append, List.length_take, List.length_drop, List.length_replicate, List.length_cons, List.length_nil] at *; omega))) ?_; conv => arg 4; cbv)
    | (refine Sat.pop ?_; conv => arg 4; cbv)
    | refine Sat.done ?_
  all_goals refine led_bo ?_
  all_goals simp only [ncast] at *
  all_goals simp_all [areAcc]
  all_goals omega

theorem w_spec_AreAcceptors (l : List GAcceptor) (hb : bAcceptorS l) : Fn Pr n_spec_AreAcceptors [.sl 6 eGAcceptor (fun _ => l)] (.bo (areAcc l)) := by
  refine k_spec_AreAcceptors.fn (by kernel_rfl) ?_
  have h0 : l.length * 80 ≤ 140737488351232 := hb.1
  conv => arg 4; cbv
  refine Sat.loopP (ι := Nat) (fun i => [(3, .int .i64 (fun _ => (i : Int)))]) (fun i => []) (fun i => i ≤ l.length ∧ l.all validA = (l.drop i).all validA) (fun i => l.length - i) 0 ?_ ⟨by omega, by simp⟩ (fun i hi => ?_)
  · refine les_of ?_ ?_ rfl
    · repeat' (first | exact trivial | refine And.intro ?_ ?_ | exact .any _ | exact .undef | exact .bo _ | exact .nil | exact .emp | exact .int rfl | exact .sl rfl | exact .str rfl | exact .ptr (fun h => nomatch h) | exact .rptr _ | exact .clo rfl (fun i x y h => by simp at h) | exact .ref (fun h => nomatch h) (fun h => nomatch h) rfl rfl | exact lev_nil | refine lev_cons ?_ ?_ | refine LeV.agg rfl ?_)
    · repeat' (first | exact trivial | refine And.intro ?_ ?_ | exact Nat.le_of_ble_eq_true rfl | exact Or.inl ⟨_, rfl, .row rfl⟩ | refine Or.inl ⟨_, rfl, .row ?_⟩ | refine Or.inl ⟨_, rfl, .lit rfl ?_⟩ | exact Or.inr ⟨rfl, rfl⟩ | exact .any _ | exact .undef | exact .bo _ | exact .nil | exact .emp | exact .int rfl | exact .sl rfl | exact .str rfl | exact .ptr (fun h => nomatch h) | exact .rptr _ | exact .clo rfl (fun i x y h => by simp at h) | exact .ref (fun h => nomatch h) (fun h => nomatch h) rfl rfl | exact lev_nil | refine lev_cons ?_ ?_ | refine LeV.agg rfl ?_)
  conv => arg 4; cbv
  repeat' first
    | (refine Sat.cmp (fun h => ?_) (fun h => ?_) <;> simp only [Cmp.holds] at h <;> (conv => arg 4; cbv))
    | (refine Sat.need (by (try dsimp only); (first | omega | (simp only [ncast, true_and, List.length_append, List.length_take, List.length_drop, List.length_replicate, List.length_cons, List.length_nil] at *; omega))) ?_; conv => arg 4; cbv)
    | (refine Sat.idxk (by assumption) ?_; conv => arg 4; cbv) | (refine Sat.idx (by (try dsimp only); (first | omega | (simp only [ncast, true_and, List.length_append, List.length_take, List.length_drop, List.length_replicate, List.length_cons, List.length_nil] at *; omega))) (fun v_ hv_ => ?_); conv => arg 4; cbv)
    | (refine Sat.callb (w_spec_IsValidAcceptor _ (hb.2 _ (List.mem_of_getElem? (by assumption)))) rfl (by (repeat' (first | exact led_nil | refine led_cons ?_ ?_ | exact .same _ | exact .int rfl | exact .sl rfl | exact .str rfl | exact .nil rfl | exact .emp rfl | refine .agg rfl ?_ | refine .tup rfl ?_ | (refine .sl ?_; simp; done))); (first | done | fail)) (fun h => ?_) (fun h => ?_) <;> (conv => arg 4; cbv))
    | (refine Sat.ari64 (by (try dsimp only); (first | omega | (simp only [ncast, true_and, List.length_append, List.length_take, List.length_drop, List.length_replicate, List.length_cons, List.length_nil] at *; omega))) (by (try dsimp only); (first | omega | (simp only [ncast, true_and, List.length_append, List.length_take, List.length_drop, List.length_replicate, List.length_cons, List.length_nil] at *; omega))) ?_; conv => arg 4; cbv)
    | (refine Sat.pop ?_; conv => arg 4; cbv)
    | refine Sat.next (i + 1) ?_ ?_ (by (try dsimp only); (first | omega | (simp only [ncast, true_and, List.length_append, List.length_take, List.length_drop, List.length_replicate, List.length_cons, List.length_nil] at *; omega)))
    | refine Sat.done ?_
  all_goals first
    | (refine les_of ?_ ?_ rfl <;> (repeat' (first | exact trivial | refine And.intro ?_ ?_ | exact .any _ | exact .undef | exact .bo _ | exact .nil | exact .emp | exact .int rfl | exact .sl rfl | exact .str rfl | exact .ptr (fun h => nomatch h) | exact .rptr _ | exact .clo rfl (fun i x y h => by simp at h) | exact .ref (fun h => nomatch h) (fun h => nomatch h) rfl rfl | exact lev_nil | refine lev_cons ?_ ?_ | refine LeV.agg rfl ?_ | exact Nat.le_of_ble_eq_true rfl | exact Or.inl ⟨_, rfl, .row rfl⟩ | refine Or.inl ⟨_, rfl, .row ?_⟩ | refine Or.inl ⟨_, rfl, .lit rfl ?_⟩ | exact Or.inr ⟨rfl, rfl⟩)) <;> done)
    | exact ⟨by (first | omega | (simp only [ncast, true_and, List.length_append, List.length_take, List.length_drop, List.length_replicate, List.length_cons, List.length_nil] at *; omega)), by rw [hi.2, drop_get (i := i) hv_, List.all_cons, h, Bool.true_and]⟩
    | (refine led_bo ?_; rw [areAcc, hi.2, drop_get (i := i) hv_, List.all_cons, h]; simp; done)
    | (refine led_bo ?_; have e1 : i = l.length := by (first | omega | (simp only [ncast, true_and, List.length_append, List.length_take, List.length_drop, List.length_replicate, List.length_cons, List.length_nil] at *; omega))
       rw [areAcc, hi.2, e1, List.drop_length]; simp only [ncast] at *; simp; omega)
    | (refine led_bo ?_; rw [areAcc]; simp only [ncast] at *; simp; omega)

def fAcceptorS (l : List GAcceptor) : Prop := l.length ≤ maxLen ∧ l.length * 80 ≤ 140737488351232 ∧ ∀ y ∈ l, fAcceptor y
theorem fAcceptorS_b {l : List GAcceptor} (h : fAcceptorS l) : bAcceptorS l := ⟨h.2.1, fun y hy => fAcceptor_b (h.2.2 y hy)⟩

theorem w_laws_FnExactAreAcceptors (l_ : List GAcceptor) {G : Prop} (F : fAcceptorS l_ ∧ G) : Fn Pr n_laws_FnExactAreAcceptors [.sl 6 eGAcceptor (fun _ => l_)] (.bo true) := by
  have hb_l : bAcceptorS l_ := fAcceptorS_b F.1
  have q0 := sAcceptorS_rng (x := l_) (n := 1048576)
  refine k_laws_FnExactAreAcceptors.fn (by kernel_rfl) ?_
  conv => arg 4; cbv
  repeat' first
    | (refine Sat.cmp (fun h => ?_) (fun h => ?_) <;> simp only [Cmp.holds] at h <;> (conv => arg 4; cbv))
    | (refine Sat.callb (w_laws_szAcceptorS l_ 1048576 hb_l (by (first | omega | (simp only [ncast, true_and, List.length_append, List.length_take, List.length_drop, List.length_replicate, List.length_cons, List.length_nil] at *; omega)))) rfl (by (repeat' (first | exact led_nil | refine led_cons ?_ ?_ | exact .same _ | exact .int rfl | exact .sl rfl | exact .str rfl | exact .nil rfl | exact .emp rfl | refine .agg rfl ?_ | refine .tup rfl ?_ | (refine .sl ?_; simp; done))); (first | done | fail)) (fun h => ?_) (fun h => ?_) <;> (try simp only [decide_eq_true_eq, decide_eq_false_iff_not] at h) <;> (conv => arg 4; cbv))
    | (refine Sat.call (w_laws_szAcceptorS l_ 1048576 hb_l (by (first | omega | (simp only [ncast, true_and, List.length_append, List.length_take, List.length_drop, List.length_replicate, List.length_cons, List.length_nil] at *; omega)))) rfl (by (repeat' (first | exact led_nil | refine led_cons ?_ ?_ | exact .same _ | exact .int rfl | exact .sl rfl | exact .str rfl | exact .nil rfl | exact .emp rfl | refine .agg rfl ?_ | refine .tup rfl ?_ | (refine .sl ?_; simp; done))); (first | done | fail)) ?_; conv => arg 4; cbv)
    | (refine Sat.callb (w_laws_toAcceptorS l_ hb_l) rfl (by (repeat' (first | exact led_nil | refine led_cons ?_ ?_ | exact .same _ | exact .int rfl | exact .sl rfl | exact .str rfl | exact .nil rfl | exact .emp rfl | refine .agg rfl ?_ | refine .tup rfl ?_ | (refine .sl ?_; simp; done))); (first | done | fail)) (fun h => ?_) (fun h => ?_) <;> (try simp only [decide_eq_true_eq, decide_eq_false_iff_not] at h) <;> (conv => arg 4; cbv))
    | (refine Sat.call (w_laws_toAcceptorS l_ hb_l) rfl (by (repeat' (first | exact led_nil | refine led_cons ?_ ?_ | exact .same _ | exact .int rfl | exact .sl rfl | exact .str rfl | exact .nil rfl | exact .emp rfl | refine .agg rfl ?_ | refine .tup rfl ?_ | (refine .sl ?_; simp; done))); (first | done | fail)) ?_; conv => arg 4; cbv)
    | (refine Sat.callb (w_spec_AreAcceptors l_ hb_l) rfl (by (repeat' (first | exact led_nil | refine led_cons ?_ ?_ | exact .same _ | exact .int rfl | exact .sl rfl | exact .str rfl | exact .nil rfl | exact .emp rfl | refine .agg rfl ?_ | refine .tup rfl ?_ | (refine .sl ?_; simp; done))); (first | done | fail)) (fun h => ?_) (fun h => ?_) <;> (try simp only [decide_eq_true_eq, decide_eq_false_iff_not] at h) <;> (conv => arg 4; cbv))
    | (refine Sat.call (w_spec_AreAcceptors l_ hb_l) rfl (by (repeat' (first | exact led_nil | refine led_cons ?_ ?_ | exact .same _ | exact .int rfl | exact .sl rfl | exact .str rfl | exact .nil rfl | exact .emp rfl | refine .agg rfl ?_ | refine .tup rfl ?_ | (refine .sl ?_; simp; done))); (first | done | fail)) ?_; conv => arg 4; cbv)
    | (refine Sat.callb (w_impl_AreAcceptors l_ hb_l) rfl (by (repeat' (first | exact led_nil | refine led_cons ?_ ?_ | exact .same _ | exact .int rfl | exact .sl rfl | exact .str rfl | exact .nil rfl | exact .emp rfl | refine .agg rfl ?_ | refine .tup rfl ?_ | (refine .sl ?_; simp; done))); (first | done | fail)) (fun h => ?_) (fun h => ?_) <;> (try simp only [decide_eq_true_eq, decide_eq_false_iff_not] at h) <;> (conv => arg 4; cbv))
    | (refine Sat.call (w_impl_AreAcceptors l_ hb_l) rfl (by (repeat' (first | exact led_nil | refine led_cons ?_ ?_ | exact .same _ | exact .int rfl | exact .sl rfl | exact .str rfl | exact .nil rfl | exact .emp rfl | refine .agg rfl ?_ | refine .tup rfl ?_ | (refine .sl ?_; simp; done))); (first | done | fail)) ?_; conv => arg 4; cbv)
    | (refine Sat.callb (w_laws_eqAcceptorS l_ l_ hb_l) rfl (by (repeat' (first | exact led_nil | refine led_cons ?_ ?_ | exact .same _ | exact .int rfl | exact .sl rfl | exact .str rfl | exact .nil rfl | exact .emp rfl | refine .agg rfl ?_ | refine .tup rfl ?_ | (refine .sl ?_; simp; done))); (first | done | fail)) (fun h => ?_) (fun h => ?_) <;> (try simp only [decide_eq_true_eq, decide_eq_false_iff_not] at h) <;> (conv => arg 4; cbv))
    | (refine Sat.call (w_laws_eqAcceptorS l_ l_ hb_l) rfl (by (repeat' (first | exact led_nil | refine led_cons ?_ ?_ | exact .same _ | exact .int rfl | exact .sl rfl | exact .str rfl | exact .nil rfl | exact .emp rfl | refine .agg rfl ?_ | refine .tup rfl ?_ | (refine .sl ?_; simp; done))); (first | done | fail)) ?_; conv => arg 4; cbv)
    | (refine Sat.need (by (try dsimp only); (first | omega | (simp only [ncast, true_and, List.length_append, List.length_take, List.length_drop, List.length_replicate, List.length_cons, List.length_nil] at *; omega))) ?_; conv => arg 4; cbv)
    | (refine Sat.idxk (by assumption) ?_; conv => arg 4; cbv) | (refine Sat.idx (by (try dsimp only); (first | omega | (simp only [ncast, true_and, List.length_append, List.length_take, List.length_drop, List.length_replicate, List.length_cons, List.length_nil] at *; omega))) (fun v_ hv_ => ?_); conv => arg 4; cbv)
    | (refine Sat.ari64 (by (try dsimp only); (first | omega | (simp only [ncast, true_and, List.length_append, List.length_take, List.length_drop, List.length_replicate, List.length_cons, List.length_nil] at *; omega))) (by (try dsimp only); (first | omega | (simp only [ncast, true_and, List.length_append, List.length_take, List.length_drop, List.length_replicate, List.length_cons, List.length_nil] at *; omega))) ?_; conv => arg 4; cbv)
    | (refine Sat.pop ?_; conv => arg 4; cbv)
    | refine Sat.done ?_
  all_goals refine led_bo ?_
  all_goals first | rfl | contradiction | (exfalso; (try simp only [ncast] at *); omega) | (exfalso; simp_all; done)

end Go.V.T
