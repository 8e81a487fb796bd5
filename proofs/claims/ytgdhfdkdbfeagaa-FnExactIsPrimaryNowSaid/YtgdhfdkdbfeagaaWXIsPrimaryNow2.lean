/- Contracts of the functions that FnExactIsPrimaryNow reaches: what each returns. Conditions: those that each theorem states. -/
import Derived.Test.YtgdhfdkdbfeagaaWXIsPrimaryNow1
namespace Go.V.T
open Go Go.V Go.RowKit
set_option maxRecDepth 100000
set_option linter.unusedVariables false
set_option linter.unusedSimpArgs false
theorem w_spec_l2Put (l : List Int) (x : Int) (hb : l.length ≤ 2000000) : Fn Pr n_spec_l2Put [.sl 1 (encI .i64) (fun _ => l), .int .i64 (fun _ => x)] (.sl 1 (encI .i64) (fun _ => put x l)) := by
  refine k_spec_l2Put.fn (by kernel_rfl) ?_
  conv => arg 4; cbv
  refine Sat.loopP (ι := Nat) (fun i => [(5, .int .i64 (fun _ => (i : Int)))]) (fun i => []) (fun i => i ≤ l.length ∧ ∀ y ∈ l.take i, y < x) (fun i => l.length - i) 0 ?_ ⟨by omega, by simp⟩ (fun i hi => ?_)
  · refine les_of ?_ ?_ rfl
    · repeat' (first | exact trivial | refine And.intro ?_ ?_ | exact .any _ | exact .undef | exact .bo _ | exact .nil | exact .emp | exact .int rfl | exact .sl rfl | exact .str rfl | exact .ptr (fun h => nomatch h) | exact .rptr _ | exact .clo rfl (fun i x y h => by simp at h) | exact .ref (fun h => nomatch h) (fun h => nomatch h) rfl rfl | exact lev_nil | refine lev_cons ?_ ?_ | refine LeV.agg rfl ?_)
    · repeat' (first | exact trivial | refine And.intro ?_ ?_ | exact Nat.le_of_ble_eq_true rfl | exact Or.inl ⟨_, rfl, .row rfl⟩ | refine Or.inl ⟨_, rfl, .row ?_⟩ | refine Or.inl ⟨_, rfl, .lit rfl ?_⟩ | exact Or.inr ⟨rfl, rfl⟩ | exact .any _ | exact .undef | exact .bo _ | exact .nil | exact .emp | exact .int rfl | exact .sl rfl | exact .str rfl | exact .ptr (fun h => nomatch h) | exact .rptr _ | exact .clo rfl (fun i x y h => by simp at h) | exact .ref (fun h => nomatch h) (fun h => nomatch h) rfl rfl | exact lev_nil | refine lev_cons ?_ ?_ | refine LeV.agg rfl ?_)
  have hdr : (l.drop i).head? = l[i]? := by simp
  have htd := List.take_append_drop i l
  have hins : (∀ y, l[i]? = some y → x < y) → put x l = l.take i ++ x :: l.drop i := fun h => by
    have := put_at (x := x) (p := l.take i) (q := l.drop i) hi.2 (fun y hy => h y (by rw [← hdr]; exact hy))
    rwa [htd] at this
  have hsame : l[i]? = some x → put x l = l := fun h => by
    have := put_same (x := x) (p := l.take i) (q := l.drop (i + 1)) hi.2
    rwa [← drop_get h, htd] at this
  conv => arg 4; cbv
  repeat' first
    | (refine Sat.cmp (fun h => ?_) (fun h => ?_) <;> simp only [Cmp.holds] at h <;> (conv => arg 4; cbv))
    | (refine Sat.need ⟨fun y _ => flat_encI .i64 y, by (try dsimp only); (first | omega | (simp only [ncast, true_and, List.length_append, List.length_take, List.length_drop, List.length_replicate, List.length_cons, List.length_nil] at *; omega))⟩ ?_; conv => arg 4; cbv)
    | (refine Sat.need ⟨rfl, rfl, rfl, by (try dsimp only); (first | omega | (simp only [ncast, true_and, List.length_append, List.length_take, List.length_drop, List.length_replicate, List.length_cons, List.length_nil] at *; omega))⟩ ?_; conv => arg 4; cbv)
    | (refine Sat.need ⟨rfl, fun y _ => flat_encI .i64 y, by (try dsimp only); (first | omega | (simp only [ncast, true_and, List.length_append, List.length_take, List.length_drop, List.length_replicate, List.length_cons, List.length_nil] at *; omega))⟩ ?_; conv => arg 4; cbv)
    | (refine Sat.need (by (try dsimp only); (first | omega | (simp only [ncast, true_and, List.length_append, List.length_take, List.length_drop, List.length_replicate, List.length_cons, List.length_nil] at *; omega))) ?_; conv => arg 4; cbv)
    | (refine Sat.idxk (by assumption) ?_; conv => arg 4; cbv) | (refine Sat.idx (by (try dsimp only); (first | omega | (simp only [ncast, true_and, List.length_append, List.length_take, List.length_drop, List.length_replicate, List.length_cons, List.length_nil] at *; omega))) (fun v_ hv_ => ?_); conv => arg 4; cbv)
    | (refine Sat.typed x (by (repeat' (first | exact tnil | refine tcons ?_ ?_ | exact .same _ | exact .int rfl | exact .str rfl | exact .sl rfl | exact .nil rfl | (refine .sl ?_; simp; done))); (first | done | fail)) ?_; conv => arg 4; cbv)
    | (refine Sat.same ?_; conv => arg 4; cbv)
    | (refine Sat.ari64 (by (try dsimp only); (first | omega | (simp only [ncast, true_and, List.length_append, List.length_take, List.length_drop, List.length_replicate, List.length_cons, List.length_nil] at *; omega))) (by (try dsimp only); (first | omega | (simp only [ncast, true_and, List.length_append, List.length_take, List.length_drop, List.length_replicate, List.length_cons, List.length_nil] at *; omega))) ?_; conv => arg 4; cbv)
    | (refine Sat.pop ?_; conv => arg 4; cbv)
    | refine Sat.next (i + 1) ?_ ?_ (by (try dsimp only); (first | omega | (simp only [ncast, true_and, List.length_append, List.length_take, List.length_drop, List.length_replicate, List.length_cons, List.length_nil] at *; omega)))
    | refine Sat.done ?_
  · refine les_of ?_ ?_ rfl
    · repeat' (first | exact trivial | refine And.intro ?_ ?_ | exact .any _ | exact .undef | exact .bo _ | exact .nil | exact .emp | exact .int rfl | exact .sl rfl | exact .str rfl | exact .ptr (fun h => nomatch h) | exact .rptr _ | exact .clo rfl (fun i x y h => by simp at h) | exact .ref (fun h => nomatch h) (fun h => nomatch h) rfl rfl | exact lev_nil | refine lev_cons ?_ ?_ | refine LeV.agg rfl ?_)
    · repeat' (first | exact trivial | refine And.intro ?_ ?_ | exact Nat.le_of_ble_eq_true rfl | exact Or.inl ⟨_, rfl, .row rfl⟩ | refine Or.inl ⟨_, rfl, .row ?_⟩ | refine Or.inl ⟨_, rfl, .lit rfl ?_⟩ | exact Or.inr ⟨rfl, rfl⟩ | exact .any _ | exact .undef | exact .bo _ | exact .nil | exact .emp | exact .int rfl | exact .sl rfl | exact .str rfl | exact .ptr (fun h => nomatch h) | exact .rptr _ | exact .clo rfl (fun i x y h => by simp at h) | exact .ref (fun h => nomatch h) (fun h => nomatch h) rfl rfl | exact lev_nil | refine lev_cons ?_ ?_ | refine LeV.agg rfl ?_)
  · refine ⟨by (first | omega | (simp only [ncast, true_and, List.length_append, List.length_take, List.length_drop, List.length_replicate, List.length_cons, List.length_nil] at *; omega)), fun y hy => ?_⟩
    rw [List.take_add_one, show l[i]? = some v_ from hv_] at hy
    simp only [Option.toList_some, List.mem_append, List.mem_singleton] at hy
    rcases hy with hy | rfl
    · exact hi.2 y hy
    · exact h
  · refine .sl ?_
    rw [hsame (by subst h; exact hv_)]; simp
  · refine .sl ?_
    rw [hins (fun y hy => by rw [show l[i]? = some v_ from hv_] at hy; cases hy; omega)]
    simp only [List.drop_zero]
    rw [List.take_of_length_le (by simp; omega)]; simp
  all_goals first
    | (exfalso; (first | omega | (simp only [ncast, true_and, List.length_append, List.length_take, List.length_drop, List.length_replicate, List.length_cons, List.length_nil] at *; omega)))
    | (refine .sl ?_
       rw [hins (fun y hy => by have := lt_of_get hy; exfalso; (first | omega | (simp only [ncast, true_and, List.length_append, List.length_take, List.length_drop, List.length_replicate, List.length_cons, List.length_nil] at *; omega)))]
       simp only [List.drop_zero]
       rw [List.take_of_length_le (by simp; omega)]; simp; done)

def without (a b : List Int) : List Int := asc (a.filter (fun x => !decide (x ∈ b)))
def common (a b : List Int) : List Int := asc (a.filter (fun x => decide (x ∈ b)))
def unite (a b : List Int) : List Int := asc (a ++ b)
theorem without_len {a b : List Int} : (without a b).length ≤ a.length := Nat.le_trans (asc_len _) (List.length_filter_le _ _)
theorem common_len {a b : List Int} : (common a b).length ≤ a.length := Nat.le_trans (asc_len _) (List.length_filter_le _ _)
theorem unite_len {a b : List Int} : (unite a b).length ≤ a.length + b.length := by have := asc_len (a ++ b); simpa [unite] using this
theorem without_mem {a b : List Int} {x : Int} : x ∈ without a b ↔ x ∈ a ∧ x ∉ b := by simp [without, asc_mem]
theorem common_mem {a b : List Int} {x : Int} : x ∈ common a b ↔ x ∈ a ∧ x ∈ b := by simp [common, asc_mem]
theorem unite_mem {a b : List Int} {x : Int} : x ∈ unite a b ↔ x ∈ a ∨ x ∈ b := by simp [unite, asc_mem]
theorem filter_sasc {p : Int → Bool} {l : List Int} (h : SAsc l) : SAsc (l.filter p) := List.Pairwise.filter p h

set_option maxHeartbeats 1000000 in
theorem w_spec_CommonServers (a b : List Int) (ha : a.length ≤ 2000000) (hb : bIntS b) : Fn Pr n_spec_CommonServers [.sl 1 (encI .i64) (fun _ => a), .sl 1 (encI .i64) (fun _ => b)] (.sl 1 (encI .i64) (fun _ => common a b)) := by
  refine k_spec_CommonServers.fn (by kernel_rfl) ?_
  have hla : ∀ i, (asc ((a.take i).filter (fun x => decide (x ∈ b)))).length ≤ a.length := fun i => Nat.le_trans (asc_len _) (Nat.le_trans (List.length_filter_le _ _) (by simp; omega))
  conv => arg 4; cbv
  refine Sat.loopP (ι := Nat) (fun i => [(6, .int .i64 (fun _ => (i : Int))), (5, .ref 64 (fun _ => 0) (fun _ => (asc ((a.take i).filter (fun x => decide (x ∈ b)))).length))]) (fun i => [(64, .row 1 (encI .i64) (fun _ => asc ((a.take i).filter (fun x => decide (x ∈ b)))) false)]) (fun i => i ≤ a.length) (fun i => a.length - i) 0 ?_ (by omega) (fun i hi => ?_)
  · refine les_of ?_ ?_ rfl
    · repeat' (first | exact trivial | refine And.intro ?_ ?_ | exact .any _ | exact .undef | exact .bo _ | exact .nil | exact .emp | exact .int rfl | exact .sl rfl | exact .str rfl | exact .ptr (fun h => nomatch h) | exact .rptr _ | exact .clo rfl (fun i x y h => by simp at h) | exact .ref (fun h => nomatch h) (fun h => nomatch h) rfl rfl | exact lev_nil | refine lev_cons ?_ ?_ | refine LeV.agg rfl ?_ | (first | exact .empref (fun h => nomatch h) rfl rfl rfl | rfl))
    · repeat' (first | exact trivial | refine And.intro ?_ ?_ | exact Nat.le_of_ble_eq_true rfl | exact Or.inl ⟨_, rfl, .row rfl⟩ | refine Or.inl ⟨_, rfl, .row ?_⟩ | refine Or.inl ⟨_, rfl, .lit rfl ?_⟩ | exact Or.inr ⟨rfl, rfl⟩ | exact .any _ | exact .undef | exact .bo _ | exact .nil | exact .emp | exact .int rfl | exact .sl rfl | exact .str rfl | exact .ptr (fun h => nomatch h) | exact .rptr _ | exact .clo rfl (fun i x y h => by simp at h) | exact .ref (fun h => nomatch h) (fun h => nomatch h) rfl rfl | exact lev_nil | refine lev_cons ?_ ?_ | refine LeV.agg rfl ?_ | (first | exact .empref (fun h => nomatch h) rfl rfl rfl | rfl))
  have hl := hla i
  conv => arg 4; cbv
  repeat' first
    | (refine Sat.cmp (fun h => ?_) (fun h => ?_) <;> simp only [Cmp.holds] at h <;> (conv => arg 4; cbv))
    | (refine Sat.need (by (try dsimp only); (first | omega | (simp only [ncast, true_and, List.length_append, List.length_take, List.length_drop, List.length_replicate, List.length_cons, List.length_nil] at *; omega))) ?_; conv => arg 4; cbv)
    | (refine Sat.idxk (by assumption) ?_; conv => arg 4; cbv) | (refine Sat.idx (by (try dsimp only); (first | omega | (simp only [ncast, true_and, List.length_append, List.length_take, List.length_drop, List.length_replicate, List.length_cons, List.length_nil] at *; omega))) (fun v_ hv_ => ?_); conv => arg 4; cbv)
    | (refine Sat.callb (w_spec_HasServer b _ hb) rfl (by (repeat' (first | exact led_nil | refine led_cons ?_ ?_ | exact .same _ | exact .int rfl | exact .sl rfl | exact .str rfl | exact .nil rfl | exact .emp rfl | refine .agg rfl ?_ | refine .tup rfl ?_ | (refine .sl ?_; simp; done))); (first | done | fail)) (fun h => ?_) (fun h => ?_) <;> (try simp only [decide_eq_true_eq, decide_eq_false_iff_not] at h) <;> (conv => arg 4; cbv))
    | (refine Sat.call (w_spec_l2Put (asc ((a.take i).filter (fun x => decide (x ∈ b)))) _ (by omega)) rfl (by (repeat' (first | exact led_nil | refine led_cons ?_ ?_ | exact .same _ | exact .int rfl | exact .sl rfl | exact .str rfl | exact .nil rfl | exact .emp rfl | refine .agg rfl ?_ | refine .tup rfl ?_ | (refine .sl ?_; simp; done))); (first | done | fail)) ?_; conv => arg 4; cbv)
    | (refine Sat.ari64 (by (try dsimp only); (first | omega | (simp only [ncast, true_and, List.length_append, List.length_take, List.length_drop, List.length_replicate, List.length_cons, List.length_nil] at *; omega))) (by (try dsimp only); (first | omega | (simp only [ncast, true_and, List.length_append, List.length_take, List.length_drop, List.length_replicate, List.length_cons, List.length_nil] at *; omega))) ?_; conv => arg 4; cbv)
    | (refine Sat.pop ?_; conv => arg 4; cbv)
    | refine Sat.done ?_
  · have hs : asc ((a.take (i + 1)).filter (fun x => decide (x ∈ b))) = put v_ (asc ((a.take i).filter (fun x => decide (x ∈ b)))) := by rw [put_asc, List.take_add_one, show a[i]? = some v_ from hv_]; simp [h]
    refine Sat.nextR 305 64 (i + 1) rfl rfl rfl rfl ?_ (by (first | omega | (simp only [ncast, true_and, List.length_append, List.length_take, List.length_drop, List.length_replicate, List.length_cons, List.length_nil] at *; omega))) (by (first | omega | (simp only [ncast, true_and, List.length_append, List.length_take, List.length_drop, List.length_replicate, List.length_cons, List.length_nil] at *; omega)))
    refine les_of ?_ ?_ rfl
    · repeat' (first | exact trivial | refine And.intro ?_ ?_ | exact .any _ | exact .undef | exact .bo _ | exact .nil | exact .emp | exact .int rfl | exact .sl rfl | exact .str rfl | exact .ptr (fun h => nomatch h) | exact .rptr _ | exact .clo rfl (fun i x y h => by simp at h) | exact .ref (fun h => nomatch h) (fun h => nomatch h) rfl rfl | exact lev_nil | refine lev_cons ?_ ?_ | refine LeV.agg rfl ?_ | (first | exact .ref (fun h => nomatch h) (fun h => nomatch h) rfl (by (try dsimp only); rw [hs]) | (show put v_ (asc ((a.take i).filter (fun x => decide (x ∈ b)))) = asc ((a.take (i + 1)).filter (fun x => decide (x ∈ b))); rw [hs])))
    · repeat' (first | exact trivial | refine And.intro ?_ ?_ | exact Nat.le_of_ble_eq_true rfl | exact Or.inl ⟨_, rfl, .row rfl⟩ | refine Or.inl ⟨_, rfl, .row ?_⟩ | refine Or.inl ⟨_, rfl, .lit rfl ?_⟩ | exact Or.inr ⟨rfl, rfl⟩ | exact .any _ | exact .undef | exact .bo _ | exact .nil | exact .emp | exact .int rfl | exact .sl rfl | exact .str rfl | exact .ptr (fun h => nomatch h) | exact .rptr _ | exact .clo rfl (fun i x y h => by simp at h) | exact .ref (fun h => nomatch h) (fun h => nomatch h) rfl rfl | exact lev_nil | refine lev_cons ?_ ?_ | refine LeV.agg rfl ?_ | (first | exact .ref (fun h => nomatch h) (fun h => nomatch h) rfl (by (try dsimp only); rw [hs]) | (show put v_ (asc ((a.take i).filter (fun x => decide (x ∈ b)))) = asc ((a.take (i + 1)).filter (fun x => decide (x ∈ b))); rw [hs])))
  · have hs : asc ((a.take (i + 1)).filter (fun x => decide (x ∈ b))) = asc ((a.take i).filter (fun x => decide (x ∈ b))) := by rw [List.take_add_one, show a[i]? = some v_ from hv_]; simp [h]
    refine Sat.next (i + 1) ?_ (by (first | omega | (simp only [ncast, true_and, List.length_append, List.length_take, List.length_drop, List.length_replicate, List.length_cons, List.length_nil] at *; omega))) (by (first | omega | (simp only [ncast, true_and, List.length_append, List.length_take, List.length_drop, List.length_replicate, List.length_cons, List.length_nil] at *; omega)))
    refine les_of ?_ ?_ rfl
    · repeat' (first | exact trivial | refine And.intro ?_ ?_ | exact .any _ | exact .undef | exact .bo _ | exact .nil | exact .emp | exact .int rfl | exact .sl rfl | exact .str rfl | exact .ptr (fun h => nomatch h) | exact .rptr _ | exact .clo rfl (fun i x y h => by simp at h) | exact .ref (fun h => nomatch h) (fun h => nomatch h) rfl rfl | exact lev_nil | refine lev_cons ?_ ?_ | refine LeV.agg rfl ?_ | (first | exact .ref (fun h => nomatch h) (fun h => nomatch h) rfl (by (try dsimp only); rw [hs]) | (show asc ((a.take i).filter (fun x => decide (x ∈ b))) = asc ((a.take (i + 1)).filter (fun x => decide (x ∈ b))); rw [hs])))
    · repeat' (first | exact trivial | refine And.intro ?_ ?_ | exact Nat.le_of_ble_eq_true rfl | exact Or.inl ⟨_, rfl, .row rfl⟩ | refine Or.inl ⟨_, rfl, .row ?_⟩ | refine Or.inl ⟨_, rfl, .lit rfl ?_⟩ | exact Or.inr ⟨rfl, rfl⟩ | exact .any _ | exact .undef | exact .bo _ | exact .nil | exact .emp | exact .int rfl | exact .sl rfl | exact .str rfl | exact .ptr (fun h => nomatch h) | exact .rptr _ | exact .clo rfl (fun i x y h => by simp at h) | exact .ref (fun h => nomatch h) (fun h => nomatch h) rfl rfl | exact lev_nil | refine lev_cons ?_ ?_ | refine LeV.agg rfl ?_ | (first | exact .ref (fun h => nomatch h) (fun h => nomatch h) rfl (by (try dsimp only); rw [hs]) | (show asc ((a.take i).filter (fun x => decide (x ∈ b))) = asc ((a.take (i + 1)).filter (fun x => decide (x ∈ b))); rw [hs])))
  · refine .sl ?_
    have e : i = a.length := by (first | omega | (simp only [ncast, true_and, List.length_append, List.length_take, List.length_drop, List.length_replicate, List.length_cons, List.length_nil] at *; omega))
    subst e
    simp [common]

theorem keep_asc {a b : List Int} : keep (fun x => decide (x ∈ b)) (asc a) = without a b := sasc_eq (filter_sasc (asc_strict a)) (asc_strict _) (fun y => by simp [keep, without, asc_mem])
theorem common_without {a b : List Int} : without a (without a b) = common a b := asc_eq (fun y => by
  by_cases h1 : y ∈ a <;> by_cases h2 : y ∈ b <;> simp [List.mem_filter, without_mem, h1, h2])

theorem w_impl_WithoutServers_c1 (b : List Int) (hb : bIntS b) (x : Int) : Fn Pr n_impl_WithoutServers_c1 [.int .i64 (fun _ => x), .rptr [.sl 1 (encI .i64) (fun _ => b)]] (.bo (decide (x ∈ b))) := by
  refine k_impl_WithoutServers_c1.fn (by kernel_rfl) ?_
  conv => arg 4; cbv
  repeat' first
    | (refine Sat.cmp (fun h => ?_) (fun h => ?_) <;> simp only [Cmp.holds] at h <;> (conv => arg 4; cbv))
    | (refine Sat.callb (w_impl_HasServer b x hb) rfl (by (repeat' (first | exact led_nil | refine led_cons ?_ ?_ | exact .same _ | exact .int rfl | exact .sl rfl | exact .str rfl | exact .nil rfl | exact .emp rfl | refine .agg rfl ?_ | refine .tup rfl ?_ | (refine .sl ?_; simp; done))); (first | done | fail)) (fun h => ?_) (fun h => ?_) <;> (try simp only [decide_eq_true_eq, decide_eq_false_iff_not] at h) <;> (conv => arg 4; cbv))
    | (refine Sat.call (w_impl_HasServer b x hb) rfl (by (repeat' (first | exact led_nil | refine led_cons ?_ ?_ | exact .same _ | exact .int rfl | exact .sl rfl | exact .str rfl | exact .nil rfl | exact .emp rfl | refine .agg rfl ?_ | refine .tup rfl ?_ | (refine .sl ?_; simp; done))); (first | done | fail)) ?_; conv => arg 4; cbv)
    | (refine Sat.need (by (try dsimp only); (first | omega | (simp only [ncast, true_and, List.length_append, List.length_take, List.length_drop, List.length_replicate, List.length_cons, List.length_nil] at *; omega))) ?_; conv => arg 4; cbv)
    | (refine Sat.idxk (by assumption) ?_; conv => arg 4; cbv) | (refine Sat.idx (by (try dsimp only); (first | omega | (simp only [ncast, true_and, List.length_append, List.length_take, List.length_drop, List.length_replicate, List.length_cons, List.length_nil] at *; omega))) (fun v_ hv_ => ?_); conv => arg 4; cbv)
    | (refine Sat.ari64 (by (try dsimp only); (first | omega | (simp only [ncast, true_and, List.length_append, List.length_take, List.length_drop, List.length_replicate, List.length_cons, List.length_nil] at *; omega))) (by (try dsimp only); (first | omega | (simp only [ncast, true_and, List.length_append, List.length_take, List.length_drop, List.length_replicate, List.length_cons, List.length_nil] at *; omega))) ?_; conv => arg 4; cbv)
    | (refine Sat.pop ?_; conv => arg 4; cbv)
    | refine Sat.done ?_
  all_goals refine led_bo ?_
  all_goals simp_all

theorem w_impl_WithoutServers (a b : List Int) (ha : a.length ≤ 12) (hb : bIntS b) : Fn Pr n_impl_WithoutServers [.sl 1 (encI .i64) (fun _ => a), .sl 1 (encI .i64) (fun _ => b)] (.sl 1 (encI .i64) (fun _ => without a b)) := by
  have hl := asc_len a
  refine k_impl_WithoutServers.fn (by kernel_rfl) ?_
  conv => arg 4; cbv
  repeat' first
    | (refine Sat.cmp (fun h => ?_) (fun h => ?_) <;> simp only [Cmp.holds] at h <;> (conv => arg 4; cbv))
    | (refine Sat.callb (w_impl_ascending a ha) rfl (by (repeat' (first | exact led_nil | refine led_cons ?_ ?_ | exact .same _ | exact .int rfl | exact .sl rfl | exact .str rfl | exact .nil rfl | exact .emp rfl | refine .agg rfl ?_ | refine .tup rfl ?_ | (refine .sl ?_; simp; done))); (first | done | fail)) (fun h => ?_) (fun h => ?_) <;> (try simp only [decide_eq_true_eq, decide_eq_false_iff_not] at h) <;> (conv => arg 4; cbv))
    | (refine Sat.call (w_impl_ascending a ha) rfl (by (repeat' (first | exact led_nil | refine led_cons ?_ ?_ | exact .same _ | exact .int rfl | exact .sl rfl | exact .str rfl | exact .nil rfl | exact .emp rfl | refine .agg rfl ?_ | refine .tup rfl ?_ | (refine .sl ?_; simp; done))); (first | done | fail)) ?_; conv => arg 4; cbv)
    | (refine Sat.callm (w_slices_DeleteFunc_intint (asc a) b n_impl_WithoutServers_c1 (fun x => decide (x ∈ b)) (w_impl_WithoutServers_c1 b hb) (by omega)) rfl (by (repeat' (first | exact led_nil | refine led_cons ?_ ?_ | exact .same _ | exact .int rfl | exact .sl rfl | exact .str rfl | exact .nil rfl | exact .emp rfl | refine .agg rfl ?_ | refine .tup rfl ?_ | (refine .sl ?_; simp; done))); (first | done | fail)) rfl (by (repeat' (first | exact led_nil | refine led_cons ?_ ?_ | exact .same _ | exact .int rfl | exact .sl rfl | exact .str rfl | exact .nil rfl | exact .emp rfl | refine .agg rfl ?_ | refine .tup rfl ?_ | (refine .sl ?_; simp; done))); (first | done | fail)) ?_; conv => arg 4; cbv)
    | (refine Sat.need (by (try dsimp only); (first | omega | (simp only [ncast, true_and, List.length_append, List.length_take, List.length_drop, List.length_replicate, List.length_cons, List.length_nil] at *; omega))) ?_; conv => arg 4; cbv)
    | (refine Sat.need (by (repeat' (first | exact trivial | refine And.intro ?_ ?_ | rfl | (dsimp only; simp [genL_length]; done))); (first | done | fail)) ?_; conv => arg 4; cbv)
    | (refine Sat.idxk (by assumption) ?_; conv => arg 4; cbv) | (refine Sat.idx (by (try dsimp only); (first | omega | (simp only [ncast, true_and, List.length_append, List.length_take, List.length_drop, List.length_replicate, List.length_cons, List.length_nil] at *; omega))) (fun v_ hv_ => ?_); conv => arg 4; cbv)
    | (refine Sat.ari64 (by (try dsimp only); (first | omega | (simp only [ncast, true_and, List.length_append, List.length_take, List.length_drop, List.length_replicate, List.length_cons, List.length_nil] at *; omega))) (by (try dsimp only); (first | omega | (simp only [ncast, true_and, List.length_append, List.length_take, List.length_drop, List.length_replicate, List.length_cons, List.length_nil] at *; omega))) ?_; conv => arg 4; cbv)
    | (refine Sat.pop ?_; conv => arg 4; cbv)
    | refine Sat.done ?_
  all_goals refine .sl ?_
  all_goals simp [keepZ, keep_asc]

theorem w_impl_CommonServers (a b : List Int) (ha : a.length ≤ 12) (hb : bIntS b) : Fn Pr n_impl_CommonServers [.sl 1 (encI .i64) (fun _ => a), .sl 1 (encI .i64) (fun _ => b)] (.sl 1 (encI .i64) (fun _ => common a b)) := by
  have hw : bIntS (without a b) := by have := without_len (a := a) (b := b); show (without a b).length * 8 ≤ _; omega
  refine k_impl_CommonServers.fn (by kernel_rfl) ?_
  conv => arg 4; cbv
  repeat' first
    | (refine Sat.cmp (fun h => ?_) (fun h => ?_) <;> simp only [Cmp.holds] at h <;> (conv => arg 4; cbv))
    | (refine Sat.callb (w_impl_WithoutServers a b ha hb) rfl (by (repeat' (first | exact led_nil | refine led_cons ?_ ?_ | exact .same _ | exact .int rfl | exact .sl rfl | exact .str rfl | exact .nil rfl | exact .emp rfl | refine .agg rfl ?_ | refine .tup rfl ?_ | (refine .sl ?_; simp; done))); (first | done | fail)) (fun h => ?_) (fun h => ?_) <;> (try simp only [decide_eq_true_eq, decide_eq_false_iff_not] at h) <;> (conv => arg 4; cbv))
    | (refine Sat.call (w_impl_WithoutServers a b ha hb) rfl (by (repeat' (first | exact led_nil | refine led_cons ?_ ?_ | exact .same _ | exact .int rfl | exact .sl rfl | exact .str rfl | exact .nil rfl | exact .emp rfl | refine .agg rfl ?_ | refine .tup rfl ?_ | (refine .sl ?_; simp; done))); (first | done | fail)) ?_; conv => arg 4; cbv)
    | (refine Sat.callb (w_impl_WithoutServers a (without a b) ha hw) rfl (by (repeat' (first | exact led_nil | refine led_cons ?_ ?_ | exact .same _ | exact .int rfl | exact .sl rfl | exact .str rfl | exact .nil rfl | exact .emp rfl | refine .agg rfl ?_ | refine .tup rfl ?_ | (refine .sl ?_; simp; done))); (first | done | fail)) (fun h => ?_) (fun h => ?_) <;> (try simp only [decide_eq_true_eq, decide_eq_false_iff_not] at h) <;> (conv => arg 4; cbv))
    | (refine Sat.call (w_impl_WithoutServers a (without a b) ha hw) rfl (by (repeat' (first | exact led_nil | refine led_cons ?_ ?_ | exact .same _ | exact .int rfl | exact .sl rfl | exact .str rfl | exact .nil rfl | exact .emp rfl | refine .agg rfl ?_ | refine .tup rfl ?_ | (refine .sl ?_; simp; done))); (first | done | fail)) ?_; conv => arg 4; cbv)
    | (refine Sat.need (by (try dsimp only); (first | omega | (simp only [ncast, true_and, List.length_append, List.length_take, List.length_drop, List.length_replicate, List.length_cons, List.length_nil] at *; omega))) ?_; conv => arg 4; cbv)
    | (refine Sat.idxk (by assumption) ?_; conv => arg 4; cbv) | (refine Sat.idx (by (try dsimp only); (first | omega | (simp only [ncast, true_and, List.length_append, List.length_take, List.length_drop, List.length_replicate, List.length_cons, List.length_nil] at *; omega))) (fun v_ hv_ => ?_); conv => arg 4; cbv)
    | (refine Sat.ari64 (by (try dsimp only); (first | omega | (simp only [ncast, true_and, List.length_append, List.length_take, List.length_drop, List.length_replicate, List.length_cons, List.length_nil] at *; omega))) (by (try dsimp only); (first | omega | (simp only [ncast, true_and, List.length_append, List.length_take, List.length_drop, List.length_replicate, List.length_cons, List.length_nil] at *; omega))) ?_; conv => arg 4; cbv)
    | (refine Sat.pop ?_; conv => arg 4; cbv)
    | refine Sat.done ?_
  all_goals refine .sl ?_
  all_goals simp [common_without]

def validC (c : GConfig) : Bool := decide (1 ≤ c.Epoch ∧ c.Epoch ≤ 20) && areServers c.Replicas && areServers c.Witnesses && decide (c.Primary ∈ c.Replicas) && decide (((common c.Replicas c.Witnesses).length : Int) = 0)
theorem validC_spec {c : GConfig} (h : validC c = true) : (1 ≤ c.Epoch ∧ c.Epoch ≤ 20) ∧ areServers c.Replicas = true ∧ areServers c.Witnesses = true ∧ c.Primary ∈ c.Replicas ∧ ∀ x ∈ c.Replicas, x ∉ c.Witnesses := by
  simp only [validC, Bool.and_eq_true, decide_eq_true_eq] at h
  obtain ⟨⟨⟨⟨h1, h2⟩, h3⟩, h4⟩, h5⟩ := h
  refine ⟨h1, h2, h3, h4, fun x hx hw => ?_⟩
  have e : common c.Replicas c.Witnesses = [] := List.eq_nil_of_length_eq_zero (by omega)
  have := common_mem.2 ⟨hx, hw⟩
  rw [e] at this
  cases this

theorem w_impl_IsValidConfig (c : GConfig) (hb : bConfig c) : Fn Pr n_impl_IsValidConfig [aGConfig c] (.bo (validC c)) := by
  refine k_impl_IsValidConfig.fn (by kernel_rfl) ?_
  conv => arg 4; cbv
  repeat' first
    | (refine Sat.cmp (fun h => ?_) (fun h => ?_) <;> simp only [Cmp.holds] at h <;> (conv => arg 4; cbv))
    | (refine Sat.callb (w_impl_within _ _ _) rfl (by (repeat' (first | exact led_nil | refine led_cons ?_ ?_ | exact .same _ | exact .int rfl | exact .sl rfl | exact .str rfl | exact .nil rfl | exact .emp rfl | refine .agg rfl ?_ | refine .tup rfl ?_ | (refine .sl ?_; simp; done))); (first | done | fail)) (fun h => ?_) (fun h => ?_) <;> (try simp only [decide_eq_true_eq, decide_eq_false_iff_not] at h) <;> (conv => arg 4; cbv))
    | (refine Sat.call (w_impl_within _ _ _) rfl (by (repeat' (first | exact led_nil | refine led_cons ?_ ?_ | exact .same _ | exact .int rfl | exact .sl rfl | exact .str rfl | exact .nil rfl | exact .emp rfl | refine .agg rfl ?_ | refine .tup rfl ?_ | (refine .sl ?_; simp; done))); (first | done | fail)) ?_; conv => arg 4; cbv)
    | (refine Sat.callb (w_impl_AreServers c.Replicas hb.1) rfl (by (repeat' (first | exact led_nil | refine led_cons ?_ ?_ | exact .same _ | exact .int rfl | exact .sl rfl | exact .str rfl | exact .nil rfl | exact .emp rfl | refine .agg rfl ?_ | refine .tup rfl ?_ | (refine .sl ?_; simp; done))); (first | done | fail)) (fun h => ?_) (fun h => ?_) <;> (try simp only [decide_eq_true_eq, decide_eq_false_iff_not] at h) <;> (conv => arg 4; cbv))
    | (refine Sat.call (w_impl_AreServers c.Replicas hb.1) rfl (by (repeat' (first | exact led_nil | refine led_cons ?_ ?_ | exact .same _ | exact .int rfl | exact .sl rfl | exact .str rfl | exact .nil rfl | exact .emp rfl | refine .agg rfl ?_ | refine .tup rfl ?_ | (refine .sl ?_; simp; done))); (first | done | fail)) ?_; conv => arg 4; cbv)
    | (refine Sat.callb (w_impl_AreServers c.Witnesses hb.2) rfl (by (repeat' (first | exact led_nil | refine led_cons ?_ ?_ | exact .same _ | exact .int rfl | exact .sl rfl | exact .str rfl | exact .nil rfl | exact .emp rfl | refine .agg rfl ?_ | refine .tup rfl ?_ | (refine .sl ?_; simp; done))); (first | done | fail)) (fun h => ?_) (fun h => ?_) <;> (try simp only [decide_eq_true_eq, decide_eq_false_iff_not] at h) <;> (conv => arg 4; cbv))
    | (refine Sat.call (w_impl_AreServers c.Witnesses hb.2) rfl (by (repeat' (first | exact led_nil | refine led_cons ?_ ?_ | exact .same _ | exact .int rfl | exact .sl rfl | exact .str rfl | exact .nil rfl | exact .emp rfl | refine .agg rfl ?_ | refine .tup rfl ?_ | (refine .sl ?_; simp; done))); (first | done | fail)) ?_; conv => arg 4; cbv)
    | (refine Sat.callb (w_impl_HasServer c.Replicas _ hb.1) rfl (by (repeat' (first | exact led_nil | refine led_cons ?_ ?_ | exact .same _ | exact .int rfl | exact .sl rfl | exact .str rfl | exact .nil rfl | exact .emp rfl | refine .agg rfl ?_ | refine .tup rfl ?_ | (refine .sl ?_; simp; done))); (first | done | fail)) (fun h => ?_) (fun h => ?_) <;> (try simp only [decide_eq_true_eq, decide_eq_false_iff_not] at h) <;> (conv => arg 4; cbv))
    | (refine Sat.call (w_impl_HasServer c.Replicas _ hb.1) rfl (by (repeat' (first | exact led_nil | refine led_cons ?_ ?_ | exact .same _ | exact .int rfl | exact .sl rfl | exact .str rfl | exact .nil rfl | exact .emp rfl | refine .agg rfl ?_ | refine .tup rfl ?_ | (refine .sl ?_; simp; done))); (first | done | fail)) ?_; conv => arg 4; cbv)
    | (refine Sat.callb (w_impl_CommonServers c.Replicas c.Witnesses (by have := areServers_len (l := c.Replicas) (by assumption); omega) hb.2) rfl (by (repeat' (first | exact led_nil | refine led_cons ?_ ?_ | exact .same _ | exact .int rfl | exact .sl rfl | exact .str rfl | exact .nil rfl | exact .emp rfl | refine .agg rfl ?_ | refine .tup rfl ?_ | (refine .sl ?_; simp; done))); (first | done | fail)) (fun h => ?_) (fun h => ?_) <;> (try simp only [decide_eq_true_eq, decide_eq_false_iff_not] at h) <;> (conv => arg 4; cbv))
    | (refine Sat.call (w_impl_CommonServers c.Replicas c.Witnesses (by have := areServers_len (l := c.Replicas) (by assumption); omega) hb.2) rfl (by (repeat' (first | exact led_nil | refine led_cons ?_ ?_ | exact .same _ | exact .int rfl | exact .sl rfl | exact .str rfl | exact .nil rfl | exact .emp rfl | refine .agg rfl ?_ | refine .tup rfl ?_ | (refine .sl ?_; simp; done))); (first | done | fail)) ?_; conv => arg 4; cbv)
    | (refine Sat.need (by (try dsimp only); (first | omega | (simp only [ncast, true_and, List.length_append, List.length_take, List.length_drop, List.length_replicate, List.length_cons, List.length_nil] at *; omega))) ?_; conv => arg 4; cbv)
    | (refine Sat.idxk (by assumption) ?_; conv => arg 4; cbv) | (refine Sat.idx (by (try dsimp only); (first | omega | (simp only [ncast, true_and, List.length_append, List.length_take, List.length_drop, List.length_replicate, List.length_cons, List.length_nil] at *; omega))) (fun v_ hv_ => ?_); conv => arg 4; cbv)
    | (refine Sat.ari64 (by (try dsimp only); (first | omega | (simp only [ncast, true_and, List.length_append, List.length_take, List.length_drop, List.length_replicate, List.length_cons, List.length_nil] at *; omega))) (by (try dsimp only); (first | omega | (simp only [ncast, true_and, List.length_append, List.length_take, List.length_drop, List.length_replicate, List.length_cons, List.length_nil] at *; omega))) ?_; conv => arg 4; cbv)
    | (refine Sat.pop ?_; conv => arg 4; cbv)
    | refine Sat.done ?_
  all_goals refine led_bo ?_
  all_goals (try simp only [ncast] at *)
  all_goals first | (simp_all [validC]; done) | (simp_all [validC]; intros; omega)

theorem w_spec_IsValidConfig (c : GConfig) (hb : bConfig c) : Fn Pr n_spec_IsValidConfig [aGConfig c] (.bo (validC c)) := by
  refine k_spec_IsValidConfig.fn (by kernel_rfl) ?_
  conv => arg 4; cbv
  repeat' first
    | (refine Sat.cmp (fun h => ?_) (fun h => ?_) <;> simp only [Cmp.holds] at h <;> (conv => arg 4; cbv))
    | (refine Sat.callb (w_spec_l1In _ _ _) rfl (by (repeat' (first | exact led_nil | refine led_cons ?_ ?_ | exact .same _ | exact .int rfl | exact .sl rfl | exact .str rfl | exact .nil rfl | exact .emp rfl | refine .agg rfl ?_ | refine .tup rfl ?_ | (refine .sl ?_; simp; done))); (first | done | fail)) (fun h => ?_) (fun h => ?_) <;> (try simp only [decide_eq_true_eq, decide_eq_false_iff_not] at h) <;> (conv => arg 4; cbv))
    | (refine Sat.call (w_spec_l1In _ _ _) rfl (by (repeat' (first | exact led_nil | refine led_cons ?_ ?_ | exact .same _ | exact .int rfl | exact .sl rfl | exact .str rfl | exact .nil rfl | exact .emp rfl | refine .agg rfl ?_ | refine .tup rfl ?_ | (refine .sl ?_; simp; done))); (first | done | fail)) ?_; conv => arg 4; cbv)
    | (refine Sat.callb (w_spec_AreServers c.Replicas hb.1) rfl (by (repeat' (first | exact led_nil | refine led_cons ?_ ?_ | exact .same _ | exact .int rfl | exact .sl rfl | exact .str rfl | exact .nil rfl | exact .emp rfl | refine .agg rfl ?_ | refine .tup rfl ?_ | (refine .sl ?_; simp; done))); (first | done | fail)) (fun h => ?_) (fun h => ?_) <;> (try simp only [decide_eq_true_eq, decide_eq_false_iff_not] at h) <;> (conv => arg 4; cbv))
    | (refine Sat.call (w_spec_AreServers c.Replicas hb.1) rfl (by (repeat' (first | exact led_nil | refine led_cons ?_ ?_ | exact .same _ | exact .int rfl | exact .sl rfl | exact .str rfl | exact .nil rfl | exact .emp rfl | refine .agg rfl ?_ | refine .tup rfl ?_ | (refine .sl ?_; simp; done))); (first | done | fail)) ?_; conv => arg 4; cbv)
    | (refine Sat.callb (w_spec_AreServers c.Witnesses hb.2) rfl (by (repeat' (first | exact led_nil | refine led_cons ?_ ?_ | exact .same _ | exact .int rfl | exact .sl rfl | exact .str rfl | exact .nil rfl | exact .emp rfl | refine .agg rfl ?_ | refine .tup rfl ?_ | (refine .sl ?_; simp; done))); (first | done | fail)) (fun h => ?_) (fun h => ?_) <;> (try simp only [decide_eq_true_eq, decide_eq_false_iff_not] at h) <;> (conv => arg 4; cbv))
    | (refine Sat.call (w_spec_AreServers c.Witnesses hb.2) rfl (by (repeat' (first | exact led_nil | refine led_cons ?_ ?_ | exact .same _ | exact .int rfl | exact .sl rfl | exact .str rfl | exact .nil rfl | exact .emp rfl | refine .agg rfl ?_ | refine .tup rfl ?_ | (refine .sl ?_; simp; done))); (first | done | fail)) ?_; conv => arg 4; cbv)
    | (refine Sat.callb (w_spec_HasServer c.Replicas _ hb.1) rfl (by (repeat' (first | exact led_nil | refine led_cons ?_ ?_ | exact .same _ | exact .int rfl | exact .sl rfl | exact .str rfl | exact .nil rfl | exact .emp rfl | refine .agg rfl ?_ | refine .tup rfl ?_ | (refine .sl ?_; simp; done))); (first | done | fail)) (fun h => ?_) (fun h => ?_) <;> (try simp only [decide_eq_true_eq, decide_eq_false_iff_not] at h) <;> (conv => arg 4; cbv))
    | (refine Sat.call (w_spec_HasServer c.Replicas _ hb.1) rfl (by (repeat' (first | exact led_nil | refine led_cons ?_ ?_ | exact .same _ | exact .int rfl | exact .sl rfl | exact .str rfl | exact .nil rfl | exact .emp rfl | refine .agg rfl ?_ | refine .tup rfl ?_ | (refine .sl ?_; simp; done))); (first | done | fail)) ?_; conv => arg 4; cbv)
    | (refine Sat.callb (w_spec_CommonServers c.Replicas c.Witnesses (by have := areServers_len (l := c.Replicas) (by assumption); omega) hb.2) rfl (by (repeat' (first | exact led_nil | refine led_cons ?_ ?_ | exact .same _ | exact .int rfl | exact .sl rfl | exact .str rfl | exact .nil rfl | exact .emp rfl | refine .agg rfl ?_ | refine .tup rfl ?_ | (refine .sl ?_; simp; done))); (first | done | fail)) (fun h => ?_) (fun h => ?_) <;> (try simp only [decide_eq_true_eq, decide_eq_false_iff_not] at h) <;> (conv => arg 4; cbv))
    | (refine Sat.call (w_spec_CommonServers c.Replicas c.Witnesses (by have := areServers_len (l := c.Replicas) (by assumption); omega) hb.2) rfl (by (repeat' (first | exact led_nil | refine led_cons ?_ ?_ | exact .same _ | exact .int rfl | exact .sl rfl | exact .str rfl | exact .nil rfl | exact .emp rfl | refine .agg rfl ?_ | refine .tup rfl ?_ | (refine .sl ?_; simp; done))); (first | done | fail)) ?_; conv => arg 4; cbv)
    | (refine Sat.need (by (try dsimp only); (first | omega | (simp only [ncast, true_and, List.length_append, List.length_take, List.length_drop, List.length_replicate, List.length_cons, List.length_nil] at *; omega))) ?_; conv => arg 4; cbv)
    | (refine Sat.idxk (by assumption) ?_; conv => arg 4; cbv) | (refine Sat.idx (by (try dsimp only); (first | omega | (simp only [ncast, true_and, List.length_append, List.length_take, List.length_drop, List.length_replicate, List.length_cons, List.length_nil] at *; omega))) (fun v_ hv_ => ?_); conv => arg 4; cbv)
    | (refine Sat.ari64 (by (try dsimp only); (first | omega | (simp only [ncast, true_and, List.length_append, List.length_take, List.length_drop, List.length_replicate, List.length_cons, List.length_nil] at *; omega))) (by (try dsimp only); (first | omega | (simp only [ncast, true_and, List.length_append, List.length_take, List.length_drop, List.length_replicate, List.length_cons, List.length_nil] at *; omega))) ?_; conv => arg 4; cbv)
    | (refine Sat.pop ?_; conv => arg 4; cbv)
    | refine Sat.done ?_
  all_goals refine led_bo ?_
  all_goals (try simp only [ncast] at *)
  all_goals first | (simp_all [validC]; done) | (simp_all [validC]; intros; omega)

def roleOf (c : GConfig) (i : Int) : Int := if validC c = true then (if i = c.Primary then 1 else if i ∈ c.Replicas then 2 else if i ∈ c.Witnesses then 3 else 0) else 0

theorem w_impl_RoleOf (c : GConfig) (i : Int) (hb : bConfig c) : Fn Pr n_impl_RoleOf [aGConfig c, .int .i64 (fun _ => i)] (.int .i64 (fun _ => roleOf c i)) := by
  refine k_impl_RoleOf.fn (by kernel_rfl) ?_
  conv => arg 4; cbv
  repeat' first
    | (refine Sat.cmp (fun h => ?_) (fun h => ?_) <;> simp only [Cmp.holds] at h <;> (conv => arg 4; cbv))
    | (refine Sat.callb (w_impl_IsValidConfig c hb) rfl (by (repeat' (first | exact led_nil | refine led_cons ?_ ?_ | exact .same _ | exact .int rfl | exact .sl rfl | exact .str rfl | exact .nil rfl | exact .emp rfl | refine .agg rfl ?_ | refine .tup rfl ?_ | (refine .sl ?_; simp; done))); (first | done | fail)) (fun h => ?_) (fun h => ?_) <;> (try simp only [decide_eq_true_eq, decide_eq_false_iff_not] at h) <;> (conv => arg 4; cbv))
    | (refine Sat.call (w_impl_IsValidConfig c hb) rfl (by (repeat' (first | exact led_nil | refine led_cons ?_ ?_ | exact .same _ | exact .int rfl | exact .sl rfl | exact .str rfl | exact .nil rfl | exact .emp rfl | refine .agg rfl ?_ | refine .tup rfl ?_ | (refine .sl ?_; simp; done))); (first | done | fail)) ?_; conv => arg 4; cbv)
    | (refine Sat.callb (w_impl_HasServer c.Replicas i hb.1) rfl (by (repeat' (first | exact led_nil | refine led_cons ?_ ?_ | exact .same _ | exact .int rfl | exact .sl rfl | exact .str rfl | exact .nil rfl | exact .emp rfl | refine .agg rfl ?_ | refine .tup rfl ?_ | (refine .sl ?_; simp; done))); (first | done | fail)) (fun h => ?_) (fun h => ?_) <;> (try simp only [decide_eq_true_eq, decide_eq_false_iff_not] at h) <;> (conv => arg 4; cbv))
    | (refine Sat.call (w_impl_HasServer c.Replicas i hb.1) rfl (by (repeat' (first | exact led_nil | refine led_cons ?_ ?_ | exact .same _ | exact .int rfl | exact .sl rfl | exact .str rfl | exact .nil rfl | exact .emp rfl | refine .agg rfl ?_ | refine .tup rfl ?_ | (refine .sl ?_; simp; done))); (first | done | fail)) ?_; conv => arg 4; cbv)
    | (refine Sat.callb (w_impl_HasServer c.Witnesses i hb.2) rfl (by (repeat' (first | exact led_nil | refine led_cons ?_ ?_ | exact .same _ | exact .int rfl | exact .sl rfl | exact .str rfl | exact .nil rfl | exact .emp rfl | refine .agg rfl ?_ | refine .tup rfl ?_ | (refine .sl ?_; simp; done))); (first | done | fail)) (fun h => ?_) (fun h => ?_) <;> (try simp only [decide_eq_true_eq, decide_eq_false_iff_not] at h) <;> (conv => arg 4; cbv))
    | (refine Sat.call (w_impl_HasServer c.Witnesses i hb.2) rfl (by (repeat' (first | exact led_nil | refine led_cons ?_ ?_ | exact .same _ | exact .int rfl | exact .sl rfl | exact .str rfl | exact .nil rfl | exact .emp rfl | refine .agg rfl ?_ | refine .tup rfl ?_ | (refine .sl ?_; simp; done))); (first | done | fail)) ?_; conv => arg 4; cbv)
    | (refine Sat.need (by (try dsimp only); (first | omega | (simp only [ncast, true_and, List.length_append, List.length_take, List.length_drop, List.length_replicate, List.length_cons, List.length_nil] at *; omega))) ?_; conv => arg 4; cbv)
    | (refine Sat.idxk (by assumption) ?_; conv => arg 4; cbv) | (refine Sat.idx (by (try dsimp only); (first | omega | (simp only [ncast, true_and, List.length_append, List.length_take, List.length_drop, List.length_replicate, List.length_cons, List.length_nil] at *; omega))) (fun v_ hv_ => ?_); conv => arg 4; cbv)
    | (refine Sat.ari64 (by (try dsimp only); (first | omega | (simp only [ncast, true_and, List.length_append, List.length_take, List.length_drop, List.length_replicate, List.length_cons, List.length_nil] at *; omega))) (by (try dsimp only); (first | omega | (simp only [ncast, true_and, List.length_append, List.length_take, List.length_drop, List.length_replicate, List.length_cons, List.length_nil] at *; omega))) ?_; conv => arg 4; cbv)
    | (refine Sat.pop ?_; conv => arg 4; cbv)
    | refine Sat.done ?_
  all_goals refine .int ?_
  all_goals simp_all [roleOf]

theorem w_spec_RoleOf (c : GConfig) (i : Int) (hb : bConfig c) : Fn Pr n_spec_RoleOf [aGConfig c, .int .i64 (fun _ => i)] (.int .i64 (fun _ => roleOf c i)) := by
  refine k_spec_RoleOf.fn (by kernel_rfl) ?_
  conv => arg 4; cbv
  repeat' first
    | (refine Sat.cmp (fun h => ?_) (fun h => ?_) <;> simp only [Cmp.holds] at h <;> (conv => arg 4; cbv))
    | (refine Sat.callb (w_spec_IsValidConfig c hb) rfl (by (repeat' (first | exact led_nil | refine led_cons ?_ ?_ | exact .same _ | exact .int rfl | exact .sl rfl | exact .str rfl | exact .nil rfl | exact .emp rfl | refine .agg rfl ?_ | refine .tup rfl ?_ | (refine .sl ?_; simp; done))); (first | done | fail)) (fun h => ?_) (fun h => ?_) <;> (try simp only [decide_eq_true_eq, decide_eq_false_iff_not] at h) <;> (conv => arg 4; cbv))
    | (refine Sat.call (w_spec_IsValidConfig c hb) rfl (by (repeat' (first | exact led_nil | refine led_cons ?_ ?_ | exact .same _ | exact .int rfl | exact .sl rfl | exact .str rfl | exact .nil rfl | exact .emp rfl | refine .agg rfl ?_ | refine .tup rfl ?_ | (refine .sl ?_; simp; done))); (first | done | fail)) ?_; conv => arg 4; cbv)
    | (refine Sat.callb (w_spec_HasServer c.Replicas i hb.1) rfl (by (repeat' (first | exact led_nil | refine led_cons ?_ ?_ | exact .same _ | exact .int rfl | exact .sl rfl | exact .str rfl | exact .nil rfl | exact .emp rfl | refine .agg rfl ?_ | refine .tup rfl ?_ | (refine .sl ?_; simp; done))); (first | done | fail)) (fun h => ?_) (fun h => ?_) <;> (try simp only [decide_eq_true_eq, decide_eq_false_iff_not] at h) <;> (conv => arg 4; cbv))
    | (refine Sat.call (w_spec_HasServer c.Replicas i hb.1) rfl (by (repeat' (first | exact led_nil | refine led_cons ?_ ?_ | exact .same _ | exact .int rfl | exact .sl rfl | exact .str rfl | exact .nil rfl | exact .emp rfl | refine .agg rfl ?_ | refine .tup rfl ?_ | (refine .sl ?_; simp; done))); (first | done | fail)) ?_; conv => arg 4; cbv)
    | (refine Sat.callb (w_spec_HasServer c.Witnesses i hb.2) rfl (by (repeat' (first | exact led_nil | refine led_cons ?_ ?_ | exact .same _ | exact .int rfl | exact .sl rfl | exact .str rfl | exact .nil rfl | exact .emp rfl | refine .agg rfl ?_ | refine .tup rfl ?_ | (refine .sl ?_; simp; done))); (first | done | fail)) (fun h => ?_) (fun h => ?_) <;> (try simp only [decide_eq_true_eq, decide_eq_false_iff_not] at h) <;> (conv => arg 4; cbv))
    | (refine Sat.call (w_spec_HasServer c.Witnesses i hb.2) rfl (by (repeat' (first | exact led_nil | refine led_cons ?_ ?_ | exact .same _ | exact .int rfl | exact .sl rfl | exact .str rfl | exact .nil rfl | exact .emp rfl | refine .agg rfl ?_ | refine .tup rfl ?_ | (refine .sl ?_; simp; done))); (first | done | fail)) ?_; conv => arg 4; cbv)
    | (refine Sat.need (by (try dsimp only); (first | omega | (simp only [ncast, true_and, List.length_append, List.length_take, List.length_drop, List.length_replicate, List.length_cons, List.length_nil] at *; omega))) ?_; conv => arg 4; cbv)
    | (refine Sat.idxk (by assumption) ?_; conv => arg 4; cbv) | (refine Sat.idx (by (try dsimp only); (first | omega | (simp only [ncast, true_and, List.length_append, List.length_take, List.length_drop, List.length_replicate, List.length_cons, List.length_nil] at *; omega))) (fun v_ hv_ => ?_); conv => arg 4; cbv)
    | (refine Sat.ari64 (by (try dsimp only); (first | omega | (simp only [ncast, true_and, List.length_append, List.length_take, List.length_drop, List.length_replicate, List.length_cons, List.length_nil] at *; omega))) (by (try dsimp only); (first | omega | (simp only [ncast, true_and, List.length_append, List.length_take, List.length_drop, List.length_replicate, List.length_cons, List.length_nil] at *; omega))) ?_; conv => arg 4; cbv)
    | (refine Sat.pop ?_; conv => arg 4; cbv)
    | refine Sat.done ?_
  all_goals refine .int ?_
  all_goals simp_all [roleOf]

def noConfig : GConfig := ⟨0, 0, [], []⟩
theorem no_b : bConfig noConfig := by simp [noConfig, bConfig, bIntS]
def validA (a : GAcceptor) : Bool := decide (0 ≤ a.Promised ∧ a.Promised ≤ 99) && decide (0 ≤ a.Ballot ∧ a.Ballot ≤ a.Promised) && (if a.Ballot = 0 then decide (a.Value = noConfig) else validC a.Value)

def committed (s : GServer) : List GEntry := if 0 ≤ s.First ∧ s.First ≤ s.Commit ∧ s.Commit ≤ s.First + s.Log.length ∧ s.First + s.Log.length ≤ 9223372036854775807 then s.Log.take (s.Commit - s.First).toNat else []
theorem committed_len {x : GServer} : (committed x).length ≤ x.Log.length := by unfold committed; split <;> simp <;> omega
theorem wf64 {n : Int} (h : (Lit.int .i64 n).wf = true) : -9223372036854775808 ≤ n ∧ n ≤ 9223372036854775807 := by
  simp [Lit.wf, IntKind.min, IntKind.max, IntKind.signed, IntKind.bits] at h
  omega
theorem wrap_over {n : Int} (h1 : 9223372036854775807 < n) (h2 : n ≤ 9223372036854775807 + 140737488351232) : IntKind.i64.wrap n < 0 := by
  rw [IntKind.wrap_i64]
  omega

def lastEp (l : List GEntry) : Int := match l[l.length - 1]? with | some e => e.Epoch | none => 0
theorem lastEp_nil {l : List GEntry} (h : l.length = 0) : lastEp l = 0 := by
  have : l = [] := List.eq_nil_of_length_eq_zero h
  subst this; rfl
theorem lastEp_get {l : List GEntry} {e : GEntry} {i : Nat} (h : l[i]? = some e) (hi : i = l.length - 1) : lastEp l = e.Epoch := by
  subst hi
  rw [lastEp, h]

theorem w_impl_lastEpoch (l : List GEntry) (hb : bEntryS l) : Fn Pr n_impl_lastEpoch [.sl 7 eGEntry (fun _ => l)] (.int .i64 (fun _ => lastEp l)) := by
  have h0 : l.length * 56 ≤ 140737488351232 := hb
  refine k_impl_lastEpoch.fn (by kernel_rfl) ?_
  conv => arg 4; cbv
  repeat' first
    | (refine Sat.cmp (fun h => ?_) (fun h => ?_) <;> simp only [Cmp.holds] at h <;> (conv => arg 4; cbv))
    | (refine Sat.need (by (try dsimp only); (first | omega | (simp only [ncast, true_and, List.length_append, List.length_take, List.length_drop, List.length_replicate, List.length_cons, List.length_nil] at *; omega))) ?_; conv => arg 4; cbv)
    | (refine Sat.idxk (by assumption) ?_; conv => arg 4; cbv) | (refine Sat.idx (by (try dsimp only); (first | omega | (simp only [ncast, true_and, List.length_append, List.length_take, List.length_drop, List.length_replicate, List.length_cons, List.length_nil] at *; omega))) (fun v_ hv_ => ?_); conv => arg 4; cbv)
    | (refine Sat.ari64 (by (try dsimp only); (first | omega | (simp only [ncast, true_and, List.length_append, List.length_take, List.length_drop, List.length_replicate, List.length_cons, List.length_nil] at *; omega))) (by (try dsimp only); (first | omega | (simp only [ncast, true_and, List.length_append, List.length_take, List.length_drop, List.length_replicate, List.length_cons, List.length_nil] at *; omega))) ?_; conv => arg 4; cbv)
    | (refine Sat.pop ?_; conv => arg 4; cbv)
    | refine Sat.done ?_
  all_goals refine .int ?_
  all_goals first | (rw [lastEp_nil (by (first | omega | (simp only [ncast, true_and, List.length_append, List.length_take, List.length_drop, List.length_replicate, List.length_cons, List.length_nil] at *; omega)))]; done) | (rw [lastEp_get (by assumption) (by (first | omega | (simp only [ncast, true_and, List.length_append, List.length_take, List.length_drop, List.length_replicate, List.length_cons, List.length_nil] at *; omega)))])

theorem w_spec_l14Last (l : List GEntry) (hb : bEntryS l) : Fn Pr n_spec_l14Last [.sl 7 eGEntry (fun _ => l)] (.int .i64 (fun _ => lastEp l)) := by
  have h0 : l.length * 56 ≤ 140737488351232 := hb
  refine k_spec_l14Last.fn (by kernel_rfl) ?_
  conv => arg 4; cbv
  repeat' first
    | (refine Sat.cmp (fun h => ?_) (fun h => ?_) <;> simp only [Cmp.holds] at h <;> (conv => arg 4; cbv))
    | (refine Sat.need (by (try dsimp only); (first | omega | (simp only [ncast, true_and, List.length_append, List.length_take, List.length_drop, List.length_replicate, List.length_cons, List.length_nil] at *; omega))) ?_; conv => arg 4; cbv)
    | (refine Sat.idxk (by assumption) ?_; conv => arg 4; cbv) | (refine Sat.idx (by (try dsimp only); (first | omega | (simp only [ncast, true_and, List.length_append, List.length_take, List.length_drop, List.length_replicate, List.length_cons, List.length_nil] at *; omega))) (fun v_ hv_ => ?_); conv => arg 4; cbv)
    | (refine Sat.ari64 (by (try dsimp only); (first | omega | (simp only [ncast, true_and, List.length_append, List.length_take, List.length_drop, List.length_replicate, List.length_cons, List.length_nil] at *; omega))) (by (try dsimp only); (first | omega | (simp only [ncast, true_and, List.length_append, List.length_take, List.length_drop, List.length_replicate, List.length_cons, List.length_nil] at *; omega))) ?_; conv => arg 4; cbv)
    | (refine Sat.pop ?_; conv => arg 4; cbv)
    | refine Sat.done ?_
  all_goals refine .int ?_
  all_goals first | (rw [lastEp_nil (by (first | omega | (simp only [ncast, true_and, List.length_append, List.length_take, List.length_drop, List.length_replicate, List.length_cons, List.length_nil] at *; omega)))]; done) | (rw [lastEp_get (by assumption) (by (first | omega | (simp only [ncast, true_and, List.length_append, List.length_take, List.length_drop, List.length_replicate, List.length_cons, List.length_nil] at *; omega)))])

theorem w_spec_l14None (c : GConfig) (hb : bConfig c) : Fn Pr n_spec_l14None [aGConfig c] (.bo (decide (c = noConfig))) := by
  refine k_spec_l14None.fn (by kernel_rfl) ?_
  conv => arg 4; cbv
  repeat' first
    | (refine Sat.cmp (fun h => ?_) (fun h => ?_) <;> simp only [Cmp.holds] at h <;> (conv => arg 4; cbv))
    | (refine Sat.callb (w_spec_EqualConfigs c noConfig hb) rfl (by (repeat' (first | exact led_nil | refine led_cons ?_ ?_ | exact .same _ | exact .int rfl | exact .sl rfl | exact .str rfl | exact .nil rfl | exact .emp rfl | refine .agg rfl ?_ | refine .tup rfl ?_ | (refine .sl ?_; simp; done))); (first | done | fail)) (fun h => ?_) (fun h => ?_) <;> (try simp only [decide_eq_true_eq, decide_eq_false_iff_not] at h) <;> (conv => arg 4; cbv))
    | (refine Sat.call (w_spec_EqualConfigs c noConfig hb) rfl (by (repeat' (first | exact led_nil | refine led_cons ?_ ?_ | exact .same _ | exact .int rfl | exact .sl rfl | exact .str rfl | exact .nil rfl | exact .emp rfl | refine .agg rfl ?_ | refine .tup rfl ?_ | (refine .sl ?_; simp; done))); (first | done | fail)) ?_; conv => arg 4; cbv)
    | (refine Sat.need (by (try dsimp only); (first | omega | (simp only [ncast, true_and, List.length_append, List.length_take, List.length_drop, List.length_replicate, List.length_cons, List.length_nil] at *; omega))) ?_; conv => arg 4; cbv)
    | (refine Sat.idxk (by assumption) ?_; conv => arg 4; cbv) | (refine Sat.idx (by (try dsimp only); (first | omega | (simp only [ncast, true_and, List.length_append, List.length_take, List.length_drop, List.length_replicate, List.length_cons, List.length_nil] at *; omega))) (fun v_ hv_ => ?_); conv => arg 4; cbv)
    | (refine Sat.ari64 (by (try dsimp only); (first | omega | (simp only [ncast, true_and, List.length_append, List.length_take, List.length_drop, List.length_replicate, List.length_cons, List.length_nil] at *; omega))) (by (try dsimp only); (first | omega | (simp only [ncast, true_and, List.length_append, List.length_take, List.length_drop, List.length_replicate, List.length_cons, List.length_nil] at *; omega))) ?_; conv => arg 4; cbv)
    | (refine Sat.pop ?_; conv => arg 4; cbv)
    | refine Sat.done ?_
  all_goals refine led_bo ?_ <;> simp_all

def okServer (s : GServer) (id : Int) : Bool := decide (1 ≤ s.Version ∧ s.Version ≤ 2) && decide (0 ≤ s.Epoch ∧ s.Epoch ≤ 20) && isLog s.Log && isLog s.Learned && decide (0 ≤ s.First ∧ s.First + s.Log.length ≤ 16 ∧ 0 ≤ s.Commit ∧ s.Commit ≤ s.First + s.Log.length) &&
  (if s.Config = noConfig then decide (s.First = 0 ∧ s.Commit = 0 ∧ s.Log.length = 0) else s.Intact && decide (s.Config.Epoch ≤ s.Epoch ∧ lastEp s.Log ≤ s.Config.Epoch) && (if roleOf s.Config id = 1 ∨ roleOf s.Config id = 2 then decide (s.First = 0) else if roleOf s.Config id = 3 then decide (s.Log.length ≤ 3 ∧ (s.First = 0 ∨ s.Log.length = 3)) else false))
theorem okServer_not {s : GServer} {id : Int} (h : ¬ ((1 ≤ s.Version ∧ s.Version ≤ 2) ∧ (0 ≤ s.Epoch ∧ s.Epoch ≤ 20) ∧ isLog s.Log = true ∧ isLog s.Learned = true ∧ 0 ≤ s.First ∧ s.First + s.Log.length ≤ 16 ∧ 0 ≤ s.Commit ∧ s.Commit ≤ s.First + s.Log.length)) : okServer s id = false := by
  rw [Bool.eq_false_iff]
  intro q
  simp only [okServer, Bool.and_eq_true, decide_eq_true_eq] at q
  exact h ⟨q.1.1.1.1.1, q.1.1.1.1.2, q.1.1.1.2, q.1.1.2, q.1.2⟩
theorem okServer_if {s : GServer} {id : Int} (h1 : 1 ≤ s.Version ∧ s.Version ≤ 2) (h2 : 0 ≤ s.Epoch ∧ s.Epoch ≤ 20) (h3 : isLog s.Log = true) (h4 : isLog s.Learned = true) (h5 : 0 ≤ s.First ∧ s.First + s.Log.length ≤ 16 ∧ 0 ≤ s.Commit ∧ s.Commit ≤ s.First + s.Log.length) : okServer s id = (if s.Config = noConfig then decide (s.First = 0 ∧ s.Commit = 0 ∧ s.Log.length = 0) else s.Intact && decide (s.Config.Epoch ≤ s.Epoch ∧ lastEp s.Log ≤ s.Config.Epoch) && (if roleOf s.Config id = 1 ∨ roleOf s.Config id = 2 then decide (s.First = 0) else if roleOf s.Config id = 3 then decide (s.Log.length ≤ 3 ∧ (s.First = 0 ∨ s.Log.length = 3)) else false)) := by
  simp [okServer, h1, h2, h3, h4, h5]
theorem isTail_if {f : Int} {l : List GEntry} (h : isLog l = true) (h1 : 0 ≤ f ∧ f + l.length ≤ 16) : isTail f l = decide (l.length ≤ 3 ∧ (f = 0 ∨ l.length = 3)) := by
  rw [isTail, h, decide_eq_true (show 0 ≤ f ∧ f ≤ 16 - l.length by omega)]
  by_cases q : l.length ≤ 3 <;> simp [q]
theorem roleOf_cases (c : GConfig) (i : Int) : roleOf c i = 0 ∨ roleOf c i = 1 ∨ roleOf c i = 2 ∨ roleOf c i = 3 := by
  unfold roleOf
  split
  · split
    · simp
    · split
      · simp
      · split <;> simp
  · simp
theorem okServer_first {s : GServer} {id : Int} (h : ¬ s.First ≤ 16) : okServer s id = false := okServer_not (fun q => by omega)

set_option maxHeartbeats 4000000 in
theorem w_impl_IsValidServer (s : GServer) (id : Int) (hb : bServer s) (F : fServer s) : Fn Pr n_impl_IsValidServer [aGServer s, .int .i64 (fun _ => id)] (.bo (okServer s id)) := by
  have h0 : s.Log.length * 56 ≤ 140737488351232 := hb.2.1
  have hF := wf64 F.2.2.2.2.2.1
  by_cases ho : s.First + s.Log.length ≤ 9223372036854775807
  · obtain ⟨up, int, v, e, c, f, l, cm, ln⟩ := s
    dsimp only at h0 hF ho
    cases int
    all_goals refine k_impl_IsValidServer.fn (by kernel_rfl) ?_
    all_goals (conv => arg 4; cbv)
    repeat' first
      | (refine Sat.cmp (fun h => ?_) (fun h => ?_) <;> simp only [Cmp.holds] at h <;> (conv => arg 4; cbv))
      | (refine Sat.callb (w_impl_within _ _ _) rfl (by (repeat' (first | exact led_nil | refine led_cons ?_ ?_ | exact .same _ | exact .int rfl | exact .sl rfl | exact .str rfl | exact .nil rfl | exact .emp rfl | refine .agg rfl ?_ | refine .tup rfl ?_ | (refine .sl ?_; simp; done))); (first | done | fail)) (fun h => ?_) (fun h => ?_) <;> (try simp only [decide_eq_true_eq, decide_eq_false_iff_not] at h) <;> (conv => arg 4; cbv))
      | (refine Sat.call (w_impl_within _ _ _) rfl (by (repeat' (first | exact led_nil | refine led_cons ?_ ?_ | exact .same _ | exact .int rfl | exact .sl rfl | exact .str rfl | exact .nil rfl | exact .emp rfl | refine .agg rfl ?_ | refine .tup rfl ?_ | (refine .sl ?_; simp; done))); (first | done | fail)) ?_; conv => arg 4; cbv)
      | (refine Sat.callb (w_impl_IsLog l hb.2.1) rfl (by (repeat' (first | exact led_nil | refine led_cons ?_ ?_ | exact .same _ | exact .int rfl | exact .sl rfl | exact .str rfl | exact .nil rfl | exact .emp rfl | refine .agg rfl ?_ | refine .tup rfl ?_ | (refine .sl ?_; simp; done))); (first | done | fail)) (fun h => ?_) (fun h => ?_) <;> (try simp only [decide_eq_true_eq, decide_eq_false_iff_not] at h) <;> (conv => arg 4; cbv))
      | (refine Sat.call (w_impl_IsLog l hb.2.1) rfl (by (repeat' (first | exact led_nil | refine led_cons ?_ ?_ | exact .same _ | exact .int rfl | exact .sl rfl | exact .str rfl | exact .nil rfl | exact .emp rfl | refine .agg rfl ?_ | refine .tup rfl ?_ | (refine .sl ?_; simp; done))); (first | done | fail)) ?_; conv => arg 4; cbv)
      | (refine Sat.callb (w_impl_IsLog ln hb.2.2) rfl (by (repeat' (first | exact led_nil | refine led_cons ?_ ?_ | exact .same _ | exact .int rfl | exact .sl rfl | exact .str rfl | exact .nil rfl | exact .emp rfl | refine .agg rfl ?_ | refine .tup rfl ?_ | (refine .sl ?_; simp; done))); (first | done | fail)) (fun h => ?_) (fun h => ?_) <;> (try simp only [decide_eq_true_eq, decide_eq_false_iff_not] at h) <;> (conv => arg 4; cbv))
      | (refine Sat.call (w_impl_IsLog ln hb.2.2) rfl (by (repeat' (first | exact led_nil | refine led_cons ?_ ?_ | exact .same _ | exact .int rfl | exact .sl rfl | exact .str rfl | exact .nil rfl | exact .emp rfl | refine .agg rfl ?_ | refine .tup rfl ?_ | (refine .sl ?_; simp; done))); (first | done | fail)) ?_; conv => arg 4; cbv)
      | (refine Sat.callb (w_impl_EqualConfigs c noConfig hb.1) rfl (by (repeat' (first | exact led_nil | refine led_cons ?_ ?_ | exact .same _ | exact .int rfl | exact .sl rfl | exact .str rfl | exact .nil rfl | exact .emp rfl | refine .agg rfl ?_ | refine .tup rfl ?_ | (refine .sl ?_; simp; done))); (first | done | fail)) (fun h => ?_) (fun h => ?_) <;> (try simp only [decide_eq_true_eq, decide_eq_false_iff_not] at h) <;> (conv => arg 4; cbv))
      | (refine Sat.call (w_impl_EqualConfigs c noConfig hb.1) rfl (by (repeat' (first | exact led_nil | refine led_cons ?_ ?_ | exact .same _ | exact .int rfl | exact .sl rfl | exact .str rfl | exact .nil rfl | exact .emp rfl | refine .agg rfl ?_ | refine .tup rfl ?_ | (refine .sl ?_; simp; done))); (first | done | fail)) ?_; conv => arg 4; cbv)
      | (refine Sat.callb (w_impl_lastEpoch l hb.2.1) rfl (by (repeat' (first | exact led_nil | refine led_cons ?_ ?_ | exact .same _ | exact .int rfl | exact .sl rfl | exact .str rfl | exact .nil rfl | exact .emp rfl | refine .agg rfl ?_ | refine .tup rfl ?_ | (refine .sl ?_; simp; done))); (first | done | fail)) (fun h => ?_) (fun h => ?_) <;> (try simp only [decide_eq_true_eq, decide_eq_false_iff_not] at h) <;> (conv => arg 4; cbv))
      | (refine Sat.call (w_impl_lastEpoch l hb.2.1) rfl (by (repeat' (first | exact led_nil | refine led_cons ?_ ?_ | exact .same _ | exact .int rfl | exact .sl rfl | exact .str rfl | exact .nil rfl | exact .emp rfl | refine .agg rfl ?_ | refine .tup rfl ?_ | (refine .sl ?_; simp; done))); (first | done | fail)) ?_; conv => arg 4; cbv)
      | (refine Sat.callb (w_impl_RoleOf c id hb.1) rfl (by (repeat' (first | exact led_nil | refine led_cons ?_ ?_ | exact .same _ | exact .int rfl | exact .sl rfl | exact .str rfl | exact .nil rfl | exact .emp rfl | refine .agg rfl ?_ | refine .tup rfl ?_ | (refine .sl ?_; simp; done))); (first | done | fail)) (fun h => ?_) (fun h => ?_) <;> (try simp only [decide_eq_true_eq, decide_eq_false_iff_not] at h) <;> (conv => arg 4; cbv))
      | (refine Sat.call (w_impl_RoleOf c id hb.1) rfl (by (repeat' (first | exact led_nil | refine led_cons ?_ ?_ | exact .same _ | exact .int rfl | exact .sl rfl | exact .str rfl | exact .nil rfl | exact .emp rfl | refine .agg rfl ?_ | refine .tup rfl ?_ | (refine .sl ?_; simp; done))); (first | done | fail)) ?_; conv => arg 4; cbv)
      | (refine Sat.callb (w_impl_isTail f l hb.2.1) rfl (by (repeat' (first | exact led_nil | refine led_cons ?_ ?_ | exact .same _ | exact .int rfl | exact .sl rfl | exact .str rfl | exact .nil rfl | exact .emp rfl | refine .agg rfl ?_ | refine .tup rfl ?_ | (refine .sl ?_; simp; done))); (first | done | fail)) (fun h => ?_) (fun h => ?_) <;> (try simp only [decide_eq_true_eq, decide_eq_false_iff_not] at h) <;> (conv => arg 4; cbv))
      | (refine Sat.call (w_impl_isTail f l hb.2.1) rfl (by (repeat' (first | exact led_nil | refine led_cons ?_ ?_ | exact .same _ | exact .int rfl | exact .sl rfl | exact .str rfl | exact .nil rfl | exact .emp rfl | refine .agg rfl ?_ | refine .tup rfl ?_ | (refine .sl ?_; simp; done))); (first | done | fail)) ?_; conv => arg 4; cbv)
      | (refine Sat.need (by (try dsimp only); (first | omega | (simp only [ncast, true_and, List.length_append, List.length_take, List.length_drop, List.length_replicate, List.length_cons, List.length_nil] at *; omega))) ?_; conv => arg 4; cbv)
      | (refine Sat.idxk (by assumption) ?_; conv => arg 4; cbv) | (refine Sat.idx (by (try dsimp only); (first | omega | (simp only [ncast, true_and, List.length_append, List.length_take, List.length_drop, List.length_replicate, List.length_cons, List.length_nil] at *; omega))) (fun v_ hv_ => ?_); conv => arg 4; cbv)
      | (refine Sat.ari64 (by (try dsimp only); (first | omega | (simp only [ncast, true_and, List.length_append, List.length_take, List.length_drop, List.length_replicate, List.length_cons, List.length_nil] at *; omega))) (by (try dsimp only); (first | omega | (simp only [ncast, true_and, List.length_append, List.length_take, List.length_drop, List.length_replicate, List.length_cons, List.length_nil] at *; omega))) ?_; conv => arg 4; cbv)
      | (refine Sat.pop ?_; conv => arg 4; cbv)
      | refine Sat.done ?_
    all_goals refine led_bo ?_
    all_goals (try dsimp only at *)
    all_goals (try simp only [ncast] at *)
    all_goals first
      | exact (okServer_not (fun q => by first | omega | (simp_all; done) | (simp_all; omega))).symm
      | (refine Eq.trans ?_ (okServer_if (by assumption) (by assumption) (by assumption) (by assumption) (by (try dsimp only); omega)).symm; first | (simp_all; done) | (simp_all; omega) | (rw [isTail_if (by assumption) (by omega)] at *; simp_all; done))
      | trace_state
  · refine k_impl_IsValidServer.fn (by kernel_rfl) ?_
    conv => arg 4; cbv
    repeat' first
      | (refine Sat.cmp (fun h => ?_) (fun h => ?_) <;> simp only [Cmp.holds] at h <;> (conv => arg 4; cbv))
      | (refine Sat.callb (w_impl_within _ _ _) rfl (by (repeat' (first | exact led_nil | refine led_cons ?_ ?_ | exact .same _ | exact .int rfl | exact .sl rfl | exact .str rfl | exact .nil rfl | exact .emp rfl | refine .agg rfl ?_ | refine .tup rfl ?_ | (refine .sl ?_; simp; done))); (first | done | fail)) (fun h => ?_) (fun h => ?_) <;> (try simp only [decide_eq_true_eq, decide_eq_false_iff_not] at h) <;> (conv => arg 4; cbv))
      | (refine Sat.call (w_impl_within _ _ _) rfl (by (repeat' (first | exact led_nil | refine led_cons ?_ ?_ | exact .same _ | exact .int rfl | exact .sl rfl | exact .str rfl | exact .nil rfl | exact .emp rfl | refine .agg rfl ?_ | refine .tup rfl ?_ | (refine .sl ?_; simp; done))); (first | done | fail)) ?_; conv => arg 4; cbv)
      | (refine Sat.callb (w_impl_IsLog s.Log hb.2.1) rfl (by (repeat' (first | exact led_nil | refine led_cons ?_ ?_ | exact .same _ | exact .int rfl | exact .sl rfl | exact .str rfl | exact .nil rfl | exact .emp rfl | refine .agg rfl ?_ | refine .tup rfl ?_ | (refine .sl ?_; simp; done))); (first | done | fail)) (fun h => ?_) (fun h => ?_) <;> (try simp only [decide_eq_true_eq, decide_eq_false_iff_not] at h) <;> (conv => arg 4; cbv))
      | (refine Sat.call (w_impl_IsLog s.Log hb.2.1) rfl (by (repeat' (first | exact led_nil | refine led_cons ?_ ?_ | exact .same _ | exact .int rfl | exact .sl rfl | exact .str rfl | exact .nil rfl | exact .emp rfl | refine .agg rfl ?_ | refine .tup rfl ?_ | (refine .sl ?_; simp; done))); (first | done | fail)) ?_; conv => arg 4; cbv)
      | (refine Sat.callb (w_impl_IsLog s.Learned hb.2.2) rfl (by (repeat' (first | exact led_nil | refine led_cons ?_ ?_ | exact .same _ | exact .int rfl | exact .sl rfl | exact .str rfl | exact .nil rfl | exact .emp rfl | refine .agg rfl ?_ | refine .tup rfl ?_ | (refine .sl ?_; simp; done))); (first | done | fail)) (fun h => ?_) (fun h => ?_) <;> (try simp only [decide_eq_true_eq, decide_eq_false_iff_not] at h) <;> (conv => arg 4; cbv))
      | (refine Sat.call (w_impl_IsLog s.Learned hb.2.2) rfl (by (repeat' (first | exact led_nil | refine led_cons ?_ ?_ | exact .same _ | exact .int rfl | exact .sl rfl | exact .str rfl | exact .nil rfl | exact .emp rfl | refine .agg rfl ?_ | refine .tup rfl ?_ | (refine .sl ?_; simp; done))); (first | done | fail)) ?_; conv => arg 4; cbv)
      | (refine Sat.ariw ?_; conv => arg 4; cbv)
      | (exfalso; omega)
      | (refine Sat.need (by (try dsimp only); (first | omega | (simp only [ncast, true_and, List.length_append, List.length_take, List.length_drop, List.length_replicate, List.length_cons, List.length_nil] at *; omega))) ?_; conv => arg 4; cbv)
      | (refine Sat.idxk (by assumption) ?_; conv => arg 4; cbv) | (refine Sat.idx (by (try dsimp only); (first | omega | (simp only [ncast, true_and, List.length_append, List.length_take, List.length_drop, List.length_replicate, List.length_cons, List.length_nil] at *; omega))) (fun v_ hv_ => ?_); conv => arg 4; cbv)
      | (refine Sat.ari64 (by (try dsimp only); (first | omega | (simp only [ncast, true_and, List.length_append, List.length_take, List.length_drop, List.length_replicate, List.length_cons, List.length_nil] at *; omega))) (by (try dsimp only); (first | omega | (simp only [ncast, true_and, List.length_append, List.length_take, List.length_drop, List.length_replicate, List.length_cons, List.length_nil] at *; omega))) ?_; conv => arg 4; cbv)
      | (refine Sat.pop ?_; conv => arg 4; cbv)
      | refine Sat.done ?_
    all_goals rw [okServer_first (by omega)]; exact .same _

set_option maxHeartbeats 4000000 in
theorem w_spec_IsValidServer (s : GServer) (id : Int) (hb : bServer s) (F : fServer s) : Fn Pr n_spec_IsValidServer [aGServer s, .int .i64 (fun _ => id)] (.bo (okServer s id)) := by
  have h0 : s.Log.length * 56 ≤ 140737488351232 := hb.2.1
  have hF := wf64 F.2.2.2.2.2.1
  · obtain ⟨up, int, v, e, c, f, l, cm, ln⟩ := s
    dsimp only at h0 hF
    cases int
    all_goals refine k_spec_IsValidServer.fn (by kernel_rfl) ?_
    all_goals (conv => arg 4; cbv)
    repeat' first
      | (refine Sat.cmp (fun h => ?_) (fun h => ?_) <;> simp only [Cmp.holds] at h <;> (conv => arg 4; cbv))
      | (refine Sat.callb (w_spec_l1In _ _ _) rfl (by (repeat' (first | exact led_nil | refine led_cons ?_ ?_ | exact .same _ | exact .int rfl | exact .sl rfl | exact .str rfl | exact .nil rfl | exact .emp rfl | refine .agg rfl ?_ | refine .tup rfl ?_ | (refine .sl ?_; simp; done))); (first | done | fail)) (fun h => ?_) (fun h => ?_) <;> (try simp only [decide_eq_true_eq, decide_eq_false_iff_not] at h) <;> (conv => arg 4; cbv))
      | (refine Sat.call (w_spec_l1In _ _ _) rfl (by (repeat' (first | exact led_nil | refine led_cons ?_ ?_ | exact .same _ | exact .int rfl | exact .sl rfl | exact .str rfl | exact .nil rfl | exact .emp rfl | refine .agg rfl ?_ | refine .tup rfl ?_ | (refine .sl ?_; simp; done))); (first | done | fail)) ?_; conv => arg 4; cbv)
      | (refine Sat.callb (w_spec_IsLog l hb.2.1) rfl (by (repeat' (first | exact led_nil | refine led_cons ?_ ?_ | exact .same _ | exact .int rfl | exact .sl rfl | exact .str rfl | exact .nil rfl | exact .emp rfl | refine .agg rfl ?_ | refine .tup rfl ?_ | (refine .sl ?_; simp; done))); (first | done | fail)) (fun h => ?_) (fun h => ?_) <;> (try simp only [decide_eq_true_eq, decide_eq_false_iff_not] at h) <;> (conv => arg 4; cbv))
      | (refine Sat.call (w_spec_IsLog l hb.2.1) rfl (by (repeat' (first | exact led_nil | refine led_cons ?_ ?_ | exact .same _ | exact .int rfl | exact .sl rfl | exact .str rfl | exact .nil rfl | exact .emp rfl | refine .agg rfl ?_ | refine .tup rfl ?_ | (refine .sl ?_; simp; done))); (first | done | fail)) ?_; conv => arg 4; cbv)
      | (refine Sat.callb (w_spec_IsLog ln hb.2.2) rfl (by (repeat' (first | exact led_nil | refine led_cons ?_ ?_ | exact .same _ | exact .int rfl | exact .sl rfl | exact .str rfl | exact .nil rfl | exact .emp rfl | refine .agg rfl ?_ | refine .tup rfl ?_ | (refine .sl ?_; simp; done))); (first | done | fail)) (fun h => ?_) (fun h => ?_) <;> (try simp only [decide_eq_true_eq, decide_eq_false_iff_not] at h) <;> (conv => arg 4; cbv))
      | (refine Sat.call (w_spec_IsLog ln hb.2.2) rfl (by (repeat' (first | exact led_nil | refine led_cons ?_ ?_ | exact .same _ | exact .int rfl | exact .sl rfl | exact .str rfl | exact .nil rfl | exact .emp rfl | refine .agg rfl ?_ | refine .tup rfl ?_ | (refine .sl ?_; simp; done))); (first | done | fail)) ?_; conv => arg 4; cbv)
      | (refine Sat.callb (w_spec_l14None c hb.1) rfl (by (repeat' (first | exact led_nil | refine led_cons ?_ ?_ | exact .same _ | exact .int rfl | exact .sl rfl | exact .str rfl | exact .nil rfl | exact .emp rfl | refine .agg rfl ?_ | refine .tup rfl ?_ | (refine .sl ?_; simp; done))); (first | done | fail)) (fun h => ?_) (fun h => ?_) <;> (try simp only [decide_eq_true_eq, decide_eq_false_iff_not] at h) <;> (conv => arg 4; cbv))
      | (refine Sat.call (w_spec_l14None c hb.1) rfl (by (repeat' (first | exact led_nil | refine led_cons ?_ ?_ | exact .same _ | exact .int rfl | exact .sl rfl | exact .str rfl | exact .nil rfl | exact .emp rfl | refine .agg rfl ?_ | refine .tup rfl ?_ | (refine .sl ?_; simp; done))); (first | done | fail)) ?_; conv => arg 4; cbv)
      | (refine Sat.callb (w_spec_l14Last l hb.2.1) rfl (by (repeat' (first | exact led_nil | refine led_cons ?_ ?_ | exact .same _ | exact .int rfl | exact .sl rfl | exact .str rfl | exact .nil rfl | exact .emp rfl | refine .agg rfl ?_ | refine .tup rfl ?_ | (refine .sl ?_; simp; done))); (first | done | fail)) (fun h => ?_) (fun h => ?_) <;> (try simp only [decide_eq_true_eq, decide_eq_false_iff_not] at h) <;> (conv => arg 4; cbv))
      | (refine Sat.call (w_spec_l14Last l hb.2.1) rfl (by (repeat' (first | exact led_nil | refine led_cons ?_ ?_ | exact .same _ | exact .int rfl | exact .sl rfl | exact .str rfl | exact .nil rfl | exact .emp rfl | refine .agg rfl ?_ | refine .tup rfl ?_ | (refine .sl ?_; simp; done))); (first | done | fail)) ?_; conv => arg 4; cbv)
      | (refine Sat.callb (w_spec_RoleOf c id hb.1) rfl (by (repeat' (first | exact led_nil | refine led_cons ?_ ?_ | exact .same _ | exact .int rfl | exact .sl rfl | exact .str rfl | exact .nil rfl | exact .emp rfl | refine .agg rfl ?_ | refine .tup rfl ?_ | (refine .sl ?_; simp; done))); (first | done | fail)) (fun h => ?_) (fun h => ?_) <;> (try simp only [decide_eq_true_eq, decide_eq_false_iff_not] at h) <;> (conv => arg 4; cbv))
      | (refine Sat.call (w_spec_RoleOf c id hb.1) rfl (by (repeat' (first | exact led_nil | refine led_cons ?_ ?_ | exact .same _ | exact .int rfl | exact .sl rfl | exact .str rfl | exact .nil rfl | exact .emp rfl | refine .agg rfl ?_ | refine .tup rfl ?_ | (refine .sl ?_; simp; done))); (first | done | fail)) ?_; conv => arg 4; cbv)
      | (refine Sat.need (by (try dsimp only); (first | omega | (simp only [ncast, true_and, List.length_append, List.length_take, List.length_drop, List.length_replicate, List.length_cons, List.length_nil] at *; omega))) ?_; conv => arg 4; cbv)
      | (refine Sat.idxk (by assumption) ?_; conv => arg 4; cbv) | (refine Sat.idx (by (try dsimp only); (first | omega | (simp only [ncast, true_and, List.length_append, List.length_take, List.length_drop, List.length_replicate, List.length_cons, List.length_nil] at *; omega))) (fun v_ hv_ => ?_); conv => arg 4; cbv)
      | (refine Sat.ari64 (by (try dsimp only); (first | omega | (simp only [ncast, true_and, List.length_append, List.length_take, List.length_drop, List.length_replicate, List.length_cons, List.length_nil] at *; omega))) (by (try dsimp only); (first | omega | (simp only [ncast, true_and, List.length_append, List.length_take, List.length_drop, List.length_replicate, List.length_cons, List.length_nil] at *; omega))) ?_; conv => arg 4; cbv)
      | (refine Sat.pop ?_; conv => arg 4; cbv)
      | refine Sat.done ?_
    all_goals have hr := roleOf_cases c id
    all_goals refine led_bo ?_
    all_goals (try dsimp only at *)
    all_goals (try simp only [ncast] at *)
    all_goals first
      | exact (okServer_not (fun q => by first | omega | (simp_all; done) | (simp_all; omega))).symm
      | (refine Eq.trans ?_ (okServer_if (by assumption) (by assumption) (by assumption) (by assumption) (by (try dsimp only); omega)).symm; first | (simp_all; done) | (simp_all; omega) | (rcases hr with hr | hr | hr | hr <;> simp_all; done) | (rcases hr with hr | hr | hr | hr <;> simp_all <;> omega) | (rw [isTail_if (by assumption) (by omega)] at *; simp_all; done))
      | trace_state

def primaryNow (s : GServer) (id : Int) : Bool := okServer s id && s.Up && decide (roleOf s.Config id = 1) && decide (s.Epoch = s.Config.Epoch)

theorem w_impl_IsPrimaryNow (s : GServer) (id : Int) (hb : bServer s) (F : fServer s) : Fn Pr n_impl_IsPrimaryNow [aGServer s, .int .i64 (fun _ => id)] (.bo (primaryNow s id)) := by
  obtain ⟨up, int, v, e, c, f, l, cm, ln⟩ := s
  cases up
  all_goals refine k_impl_IsPrimaryNow.fn (by kernel_rfl) ?_
  all_goals (conv => arg 4; cbv)
  repeat' first
    | (refine Sat.cmp (fun h => ?_) (fun h => ?_) <;> simp only [Cmp.holds] at h <;> (conv => arg 4; cbv))
    | (refine Sat.callb (w_impl_IsValidServer _ id hb F) rfl (by (repeat' (first | exact led_nil | refine led_cons ?_ ?_ | exact .same _ | exact .int rfl | exact .sl rfl | exact .str rfl | exact .nil rfl | exact .emp rfl | refine .agg rfl ?_ | refine .tup rfl ?_ | (refine .sl ?_; simp; done))); (first | done | fail)) (fun h => ?_) (fun h => ?_) <;> (try simp only [decide_eq_true_eq, decide_eq_false_iff_not] at h) <;> (conv => arg 4; cbv))
    | (refine Sat.call (w_impl_IsValidServer _ id hb F) rfl (by (repeat' (first | exact led_nil | refine led_cons ?_ ?_ | exact .same _ | exact .int rfl | exact .sl rfl | exact .str rfl | exact .nil rfl | exact .emp rfl | refine .agg rfl ?_ | refine .tup rfl ?_ | (refine .sl ?_; simp; done))); (first | done | fail)) ?_; conv => arg 4; cbv)
    | (refine Sat.callb (w_impl_RoleOf _ id hb.1) rfl (by (repeat' (first | exact led_nil | refine led_cons ?_ ?_ | exact .same _ | exact .int rfl | exact .sl rfl | exact .str rfl | exact .nil rfl | exact .emp rfl | refine .agg rfl ?_ | refine .tup rfl ?_ | (refine .sl ?_; simp; done))); (first | done | fail)) (fun h => ?_) (fun h => ?_) <;> (try simp only [decide_eq_true_eq, decide_eq_false_iff_not] at h) <;> (conv => arg 4; cbv))
    | (refine Sat.call (w_impl_RoleOf _ id hb.1) rfl (by (repeat' (first | exact led_nil | refine led_cons ?_ ?_ | exact .same _ | exact .int rfl | exact .sl rfl | exact .str rfl | exact .nil rfl | exact .emp rfl | refine .agg rfl ?_ | refine .tup rfl ?_ | (refine .sl ?_; simp; done))); (first | done | fail)) ?_; conv => arg 4; cbv)
    | (refine Sat.need (by (try dsimp only); (first | omega | (simp only [ncast, true_and, List.length_append, List.length_take, List.length_drop, List.length_replicate, List.length_cons, List.length_nil] at *; omega))) ?_; conv => arg 4; cbv)
    | (refine Sat.idxk (by assumption) ?_; conv => arg 4; cbv) | (refine Sat.idx (by (try dsimp only); (first | omega | (simp only [ncast, true_and, List.length_append, List.length_take, List.length_drop, List.length_replicate, List.length_cons, List.length_nil] at *; omega))) (fun v_ hv_ => ?_); conv => arg 4; cbv)
    | (refine Sat.ari64 (by (try dsimp only); (first | omega | (simp only [ncast, true_and, List.length_append, List.length_take, List.length_drop, List.length_replicate, List.length_cons, List.length_nil] at *; omega))) (by (try dsimp only); (first | omega | (simp only [ncast, true_and, List.length_append, List.length_take, List.length_drop, List.length_replicate, List.length_cons, List.length_nil] at *; omega))) ?_; conv => arg 4; cbv)
    | (refine Sat.pop ?_; conv => arg 4; cbv)
    | refine Sat.done ?_
  all_goals refine led_bo ?_
  all_goals simp_all [primaryNow]

theorem w_spec_IsPrimaryNow (s : GServer) (id : Int) (hb : bServer s) (F : fServer s) : Fn Pr n_spec_IsPrimaryNow [aGServer s, .int .i64 (fun _ => id)] (.bo (primaryNow s id)) := by
  obtain ⟨up, int, v, e, c, f, l, cm, ln⟩ := s
  cases up
  all_goals refine k_spec_IsPrimaryNow.fn (by kernel_rfl) ?_
  all_goals (conv => arg 4; cbv)
  repeat' first
    | (refine Sat.cmp (fun h => ?_) (fun h => ?_) <;> simp only [Cmp.holds] at h <;> (conv => arg 4; cbv))
    | (refine Sat.callb (w_spec_IsValidServer _ id hb F) rfl (by (repeat' (first | exact led_nil | refine led_cons ?_ ?_ | exact .same _ | exact .int rfl | exact .sl rfl | exact .str rfl | exact .nil rfl | exact .emp rfl | refine .agg rfl ?_ | refine .tup rfl ?_ | (refine .sl ?_; simp; done))); (first | done | fail)) (fun h => ?_) (fun h => ?_) <;> (try simp only [decide_eq_true_eq, decide_eq_false_iff_not] at h) <;> (conv => arg 4; cbv))
    | (refine Sat.call (w_spec_IsValidServer _ id hb F) rfl (by (repeat' (first | exact led_nil | refine led_cons ?_ ?_ | exact .same _ | exact .int rfl | exact .sl rfl | exact .str rfl | exact .nil rfl | exact .emp rfl | refine .agg rfl ?_ | refine .tup rfl ?_ | (refine .sl ?_; simp; done))); (first | done | fail)) ?_; conv => arg 4; cbv)
    | (refine Sat.callb (w_spec_RoleOf _ id hb.1) rfl (by (repeat' (first | exact led_nil | refine led_cons ?_ ?_ | exact .same _ | exact .int rfl | exact .sl rfl | exact .str rfl | exact .nil rfl | exact .emp rfl | refine .agg rfl ?_ | refine .tup rfl ?_ | (refine .sl ?_; simp; done))); (first | done | fail)) (fun h => ?_) (fun h => ?_) <;> (try simp only [decide_eq_true_eq, decide_eq_false_iff_not] at h) <;> (conv => arg 4; cbv))
    | (refine Sat.call (w_spec_RoleOf _ id hb.1) rfl (by (repeat' (first | exact led_nil | refine led_cons ?_ ?_ | exact .same _ | exact .int rfl | exact .sl rfl | exact .str rfl | exact .nil rfl | exact .emp rfl | refine .agg rfl ?_ | refine .tup rfl ?_ | (refine .sl ?_; simp; done))); (first | done | fail)) ?_; conv => arg 4; cbv)
    | (refine Sat.need (by (try dsimp only); (first | omega | (simp only [ncast, true_and, List.length_append, List.length_take, List.length_drop, List.length_replicate, List.length_cons, List.length_nil] at *; omega))) ?_; conv => arg 4; cbv)
    | (refine Sat.idxk (by assumption) ?_; conv => arg 4; cbv) | (refine Sat.idx (by (try dsimp only); (first | omega | (simp only [ncast, true_and, List.length_append, List.length_take, List.length_drop, List.length_replicate, List.length_cons, List.length_nil] at *; omega))) (fun v_ hv_ => ?_); conv => arg 4; cbv)
    | (refine Sat.ari64 (by (try dsimp only); (first | omega | (simp only [ncast, true_and, List.length_append, List.length_take, List.length_drop, List.length_replicate, List.length_cons, List.length_nil] at *; omega))) (by (try dsimp only); (first | omega | (simp only [ncast, true_and, List.length_append, List.length_take, List.length_drop, List.length_replicate, List.length_cons, List.length_nil] at *; omega))) ?_; conv => arg 4; cbv)
    | (refine Sat.pop ?_; conv => arg 4; cbv)
    | refine Sat.done ?_
  all_goals refine led_bo ?_
  all_goals simp_all [primaryNow]

theorem w_laws_FnExactIsPrimaryNow (s_ : GServer) (id_ : Int) {A1 G : Prop} (F : fServer s_ ∧ A1 ∧ G) : Fn Pr n_laws_FnExactIsPrimaryNow [aGServer s_, .int .i64 (fun _ => id_)] (.bo true) := by
  have hb_s : bServer s_ := fServer_b F.1
  have q0 := sServer_rng (x := s_) (n := 1048576)
  refine k_laws_FnExactIsPrimaryNow.fn (by kernel_rfl) ?_
  conv => arg 4; cbv
  repeat' first
    | (refine Sat.cmp (fun h => ?_) (fun h => ?_) <;> simp only [Cmp.holds] at h <;> (conv => arg 4; cbv))
    | (refine Sat.callb (w_laws_szServer s_ 1048576 hb_s (by (first | omega | (simp only [ncast, true_and, List.length_append, List.length_take, List.length_drop, List.length_replicate, List.length_cons, List.length_nil] at *; omega)))) rfl (by (repeat' (first | exact led_nil | refine led_cons ?_ ?_ | exact .same _ | exact .int rfl | exact .sl rfl | exact .str rfl | exact .nil rfl | exact .emp rfl | refine .agg rfl ?_ | refine .tup rfl ?_ | (refine .sl ?_; simp; done))); (first | done | fail)) (fun h => ?_) (fun h => ?_) <;> (try simp only [decide_eq_true_eq, decide_eq_false_iff_not] at h) <;> (conv => arg 4; cbv))
    | (refine Sat.call (w_laws_szServer s_ 1048576 hb_s (by (first | omega | (simp only [ncast, true_and, List.length_append, List.length_take, List.length_drop, List.length_replicate, List.length_cons, List.length_nil] at *; omega)))) rfl (by (repeat' (first | exact led_nil | refine led_cons ?_ ?_ | exact .same _ | exact .int rfl | exact .sl rfl | exact .str rfl | exact .nil rfl | exact .emp rfl | refine .agg rfl ?_ | refine .tup rfl ?_ | (refine .sl ?_; simp; done))); (first | done | fail)) ?_; conv => arg 4; cbv)
    | (refine Sat.callb (w_laws_toServer s_ hb_s) rfl (by (repeat' (first | exact led_nil | refine led_cons ?_ ?_ | exact .same _ | exact .int rfl | exact .sl rfl | exact .str rfl | exact .nil rfl | exact .emp rfl | refine .agg rfl ?_ | refine .tup rfl ?_ | (refine .sl ?_; simp; done))); (first | done | fail)) (fun h => ?_) (fun h => ?_) <;> (try simp only [decide_eq_true_eq, decide_eq_false_iff_not] at h) <;> (conv => arg 4; cbv))
    | (refine Sat.call (w_laws_toServer s_ hb_s) rfl (by (repeat' (first | exact led_nil | refine led_cons ?_ ?_ | exact .same _ | exact .int rfl | exact .sl rfl | exact .str rfl | exact .nil rfl | exact .emp rfl | refine .agg rfl ?_ | refine .tup rfl ?_ | (refine .sl ?_; simp; done))); (first | done | fail)) ?_; conv => arg 4; cbv)
    | (refine Sat.callb (w_spec_IsPrimaryNow s_ id_ hb_s F.1) rfl (by (repeat' (first | exact led_nil | refine led_cons ?_ ?_ | exact .same _ | exact .int rfl | exact .sl rfl | exact .str rfl | exact .nil rfl | exact .emp rfl | refine .agg rfl ?_ | refine .tup rfl ?_ | (refine .sl ?_; simp; done))); (first | done | fail)) (fun h => ?_) (fun h => ?_) <;> (try simp only [decide_eq_true_eq, decide_eq_false_iff_not] at h) <;> (conv => arg 4; cbv))
    | (refine Sat.call (w_spec_IsPrimaryNow s_ id_ hb_s F.1) rfl (by (repeat' (first | exact led_nil | refine led_cons ?_ ?_ | exact .same _ | exact .int rfl | exact .sl rfl | exact .str rfl | exact .nil rfl | exact .emp rfl | refine .agg rfl ?_ | refine .tup rfl ?_ | (refine .sl ?_; simp; done))); (first | done | fail)) ?_; conv => arg 4; cbv)
    | (refine Sat.callb (w_impl_IsPrimaryNow s_ id_ hb_s F.1) rfl (by (repeat' (first | exact led_nil | refine led_cons ?_ ?_ | exact .same _ | exact .int rfl | exact .sl rfl | exact .str rfl | exact .nil rfl | exact .emp rfl | refine .agg rfl ?_ | refine .tup rfl ?_ | (refine .sl ?_; simp; done))); (first | done | fail)) (fun h => ?_) (fun h => ?_) <;> (try simp only [decide_eq_true_eq, decide_eq_false_iff_not] at h) <;> (conv => arg 4; cbv))
    | (refine Sat.call (w_impl_IsPrimaryNow s_ id_ hb_s F.1) rfl (by (repeat' (first | exact led_nil | refine led_cons ?_ ?_ | exact .same _ | exact .int rfl | exact .sl rfl | exact .str rfl | exact .nil rfl | exact .emp rfl | refine .agg rfl ?_ | refine .tup rfl ?_ | (refine .sl ?_; simp; done))); (first | done | fail)) ?_; conv => arg 4; cbv)
    | (refine Sat.callb (w_laws_eqServer s_ s_ hb_s) rfl (by (repeat' (first | exact led_nil | refine led_cons ?_ ?_ | exact .same _ | exact .int rfl | exact .sl rfl | exact .str rfl | exact .nil rfl | exact .emp rfl | refine .agg rfl ?_ | refine .tup rfl ?_ | (refine .sl ?_; simp; done))); (first | done | fail)) (fun h => ?_) (fun h => ?_) <;> (try simp only [decide_eq_true_eq, decide_eq_false_iff_not] at h) <;> (conv => arg 4; cbv))
    | (refine Sat.call (w_laws_eqServer s_ s_ hb_s) rfl (by (repeat' (first | exact led_nil | refine led_cons ?_ ?_ | exact .same _ | exact .int rfl | exact .sl rfl | exact .str rfl | exact .nil rfl | exact .emp rfl | refine .agg rfl ?_ | refine .tup rfl ?_ | (refine .sl ?_; simp; done))); (first | done | fail)) ?_; conv => arg 4; cbv)
    | (refine Sat.need (by (try dsimp only); (first | omega | (simp only [ncast, true_and, List.length_append, List.length_take, List.length_drop, List.length_replicate, List.length_cons, List.length_nil] at *; omega))) ?_; conv => arg 4; cbv)
    | (refine Sat.idxk (by assumption) ?_; conv => arg 4; cbv) | (refine Sat.idx (by (try dsimp only); (first | omega | (simp only [ncast, true_and, List.length_append, List.length_take, List.length_drop, List.length_replicate, List.length_cons, List.length_nil] at *; omega))) (fun v_ hv_ => ?_); conv => arg 4; cbv)
    | (refine Sat.ari64 (by (try dsimp only); (first | omega | (simp only [ncast, true_and, List.length_append, List.length_take, List.length_drop, List.length_replicate, List.length_cons, List.length_nil] at *; omega))) (by (try dsimp only); (first | omega | (simp only [ncast, true_and, List.length_append, List.length_take, List.length_drop, List.length_replicate, List.length_cons, List.length_nil] at *; omega))) ?_; conv => arg 4; cbv)
    | (refine Sat.pop ?_; conv => arg 4; cbv)
    | refine Sat.done ?_
  all_goals refine led_bo ?_
  all_goals first | rfl | contradiction | (exfalso; (try simp only [ncast] at *); omega) | (exfalso; simp_all; done)

end Go.V.T
