/- Contracts of the functions that FnExactChosenValue reaches: what each returns. Conditions: those that each theorem states. -/
import Derived.Test.YtgdhfdkdbfeagaaWXChosenValue
namespace Go.V.T
open Go Go.V Go.RowKit
set_option maxRecDepth 100000
set_option linter.unusedVariables false
set_option linter.unusedSimpArgs false
theorem w_spec_l2Put (l : List Int) (x : Int) (hb : l.length ≤ 2000000) : Fn Pr n_spec_l2Put [.sl 1 (encI .i64) (fun _ => l), .int .i64 (fun _ => x)] (.sl 1 (encI .i64) (fun _ => put x l)) := by
  refine k_spec_l2Put.fn (by kernel_rfl) ?_
  conv => arg 4; cbv
  refine Sat.loopP (ι := Nat) (fun i => [(5, .int .i64 (fun _ => (i : Int)))]) (fun i => []) (fun i => i ≤ l.length ∧ ∀ y ∈ l.take i, y < x) (fun i => l.length - i) 0 ?_ ⟨by omega, by simp⟩ (fun i hi => ?_)
  · exact lesA
  have hdr : (l.drop i).head? = l[i]? := by simp
  have htd := List.take_append_drop i l
  have hins : (∀ y, l[i]? = some y → x < y) → put x l = l.take i ++ x :: l.drop i := fun h => by
    have := put_at (x := x) (p := l.take i) (q := l.drop i) hi.2 (fun y hy => h y (by rw [← hdr]; exact hy))
    rwa [htd] at this
  have hsame : l[i]? = some x → put x l = l := fun h => by
    have := put_same (x := x) (p := l.take i) (q := l.drop (i + 1)) hi.2
    rwa [← drop_get h, htd] at this
  conv => arg 4; cbv
  repeat' first
    | (refine Sat.cmp (fun h => ?_) (fun h => ?_) <;> simp only [Cmp.holds] at h <;> (conv => arg 4; cbv))
    | (refine Sat.need ⟨fun y _ => flat_encI .i64 y, by (try dsimp only); exact arA⟩ ?_; conv => arg 4; cbv)
    | (refine Sat.need ⟨rfl, rfl, rfl, by (try dsimp only); exact arA⟩ ?_; conv => arg 4; cbv)
    | (refine Sat.need ⟨rfl, fun y _ => flat_encI .i64 y, by (try dsimp only); exact arA⟩ ?_; conv => arg 4; cbv)
    | (refine Sat.need ndA ?_; conv => arg 4; cbv)
    | (refine Sat.idxk (by assumption) ?_; conv => arg 4; cbv) | (refine Sat.idx ndA (fun v_ hv_ => ?_); conv => arg 4; cbv)
    | (refine Sat.typed x tcA ?_; conv => arg 4; cbv)
    | (refine Sat.same ?_; conv => arg 4; cbv)
    | (refine Sat.ari64 ndA ndA ?_; conv => arg 4; cbv)
    | (refine Sat.pop ?_; conv => arg 4; cbv)
    | refine Sat.next (i + 1) ?_ ?_ (by (try dsimp only); exact arA)
    | refine Sat.done ?_
  · exact lesA
  · refine ⟨by exact arA, fun y hy => ?_⟩
    rw [List.take_add_one, show l[i]? = some v_ from hv_] at hy
    simp only [Option.toList_some, List.mem_append, List.mem_singleton] at hy
    rcases hy with hy | rfl
    · exact hi.2 y hy
    · exact h
  · refine .sl ?_
    rw [hsame (by subst h; exact hv_)]; simp
  · refine .sl ?_
    rw [hins (fun y hy => by rw [show l[i]? = some v_ from hv_] at hy; cases hy; omega)]
    simp only [List.drop_zero]
    rw [List.take_of_length_le (by simp; omega)]; simp
  all_goals first
    | (exfalso; exact arA)
    | (refine .sl ?_
       rw [hins (fun y hy => by have := lt_of_get hy; exfalso; exact arA)]
       simp only [List.drop_zero]
       rw [List.take_of_length_le (by simp; omega)]; simp; done)

def without (a b : List Int) : List Int := asc (a.filter (fun x => !decide (x ∈ b)))
def common (a b : List Int) : List Int := asc (a.filter (fun x => decide (x ∈ b)))
def unite (a b : List Int) : List Int := asc (a ++ b)
theorem without_len {a b : List Int} : (without a b).length ≤ a.length := Nat.le_trans (asc_len _) (List.length_filter_le _ _)
theorem common_len {a b : List Int} : (common a b).length ≤ a.length := Nat.le_trans (asc_len _) (List.length_filter_le _ _)
theorem unite_len {a b : List Int} : (unite a b).length ≤ a.length + b.length := by have := asc_len (a ++ b); simpa [unite] using this
theorem without_mem {a b : List Int} {x : Int} : x ∈ without a b ↔ x ∈ a ∧ x ∉ b := by simp [without, asc_mem]
theorem common_mem {a b : List Int} {x : Int} : x ∈ common a b ↔ x ∈ a ∧ x ∈ b := by simp [common, asc_mem]
theorem unite_mem {a b : List Int} {x : Int} : x ∈ unite a b ↔ x ∈ a ∨ x ∈ b := by simp [unite, asc_mem]
theorem filter_sasc {p : Int → Bool} {l : List Int} (h : SAsc l) : SAsc (l.filter p) := List.Pairwise.filter p h

set_option maxHeartbeats 1000000 in
theorem w_spec_CommonServers (a b : List Int) (ha : a.length ≤ 2000000) (hb : bIntS b) : Fn Pr n_spec_CommonServers [.sl 1 (encI .i64) (fun _ => a), .sl 1 (encI .i64) (fun _ => b)] (.sl 1 (encI .i64) (fun _ => common a b)) := by
  refine k_spec_CommonServers.fn (by kernel_rfl) ?_
  have hla : ∀ i, (asc ((a.take i).filter (fun x => decide (x ∈ b)))).length ≤ a.length := fun i => Nat.le_trans (asc_len _) (Nat.le_trans (List.length_filter_le _ _) (by simp; omega))
  conv => arg 4; cbv
  refine Sat.loopP (ι := Nat) (fun i => [(6, .int .i64 (fun _ => (i : Int))), (5, .ref 64 (fun _ => 0) (fun _ => (asc ((a.take i).filter (fun x => decide (x ∈ b)))).length))]) (fun i => [(64, .row 1 (encI .i64) (fun _ => asc ((a.take i).filter (fun x => decide (x ∈ b)))) false)]) (fun i => i ≤ a.length) (fun i => a.length - i) 0 ?_ (by omega) (fun i hi => ?_)
  · refine les_of ?_ ?_ rfl
    iterate 2 (focus repeat' (first | exact trivial | refine And.intro ?_ ?_ | exact levA | refine lev_cons ?_ ?_ | refine LeV.agg rfl ?_ | exact Nat.le_of_ble_eq_true rfl | exact Or.inl ⟨_, rfl, .row rfl⟩ | refine Or.inl ⟨_, rfl, .row ?_⟩ | refine Or.inl ⟨_, rfl, .lit rfl ?_⟩ | exact Or.inr ⟨rfl, rfl⟩ | (first | exact .empref (fun h => nomatch h) rfl rfl rfl | rfl)))
  have hl := hla i
  conv => arg 4; cbv
  repeat' first
    | (refine Sat.cmp (fun h => ?_) (fun h => ?_) <;> simp only [Cmp.holds] at h <;> (conv => arg 4; cbv))
    | (refine Sat.need ndA ?_; conv => arg 4; cbv)
    | (refine Sat.idxk (by assumption) ?_; conv => arg 4; cbv) | (refine Sat.idx ndA (fun v_ hv_ => ?_); conv => arg 4; cbv)
    | (refine Sat.callb (w_spec_HasServer b _ hb) rfl ledA (fun h => ?_) (fun h => ?_) <;> (try simp only [decide_eq_true_eq, decide_eq_false_iff_not] at h) <;> (conv => arg 4; cbv))
    | (refine Sat.call (w_spec_l2Put (asc ((a.take i).filter (fun x => decide (x ∈ b)))) _ (by omega)) rfl ledA ?_; conv => arg 4; cbv)
    | (refine Sat.ari64 ndA ndA ?_; conv => arg 4; cbv)
    | (refine Sat.pop ?_; conv => arg 4; cbv)
    | refine Sat.done ?_
  · have hs : asc ((a.take (i + 1)).filter (fun x => decide (x ∈ b))) = put v_ (asc ((a.take i).filter (fun x => decide (x ∈ b)))) := by rw [put_asc, List.take_add_one, show a[i]? = some v_ from hv_]; simp [h]
    refine Sat.nextR 305 64 (i + 1) rfl rfl rfl rfl ?_ (by exact arA) (by exact arA)
    refine les_of ?_ ?_ rfl
    iterate 2 (focus repeat' (first | exact trivial | refine And.intro ?_ ?_ | exact levA | refine lev_cons ?_ ?_ | refine LeV.agg rfl ?_ | exact Nat.le_of_ble_eq_true rfl | exact Or.inl ⟨_, rfl, .row rfl⟩ | refine Or.inl ⟨_, rfl, .row ?_⟩ | refine Or.inl ⟨_, rfl, .lit rfl ?_⟩ | exact Or.inr ⟨rfl, rfl⟩ | (first | exact .ref (fun h => nomatch h) (fun h => nomatch h) rfl (by (try dsimp only); rw [hs]) | (show put v_ (asc ((a.take i).filter (fun x => decide (x ∈ b)))) = asc ((a.take (i + 1)).filter (fun x => decide (x ∈ b))); rw [hs]))))
  · have hs : asc ((a.take (i + 1)).filter (fun x => decide (x ∈ b))) = asc ((a.take i).filter (fun x => decide (x ∈ b))) := by rw [List.take_add_one, show a[i]? = some v_ from hv_]; simp [h]
    refine Sat.next (i + 1) ?_ (by exact arA) (by exact arA)
    refine les_of ?_ ?_ rfl
    iterate 2 (focus repeat' (first | exact trivial | refine And.intro ?_ ?_ | exact levA | refine lev_cons ?_ ?_ | refine LeV.agg rfl ?_ | exact Nat.le_of_ble_eq_true rfl | exact Or.inl ⟨_, rfl, .row rfl⟩ | refine Or.inl ⟨_, rfl, .row ?_⟩ | refine Or.inl ⟨_, rfl, .lit rfl ?_⟩ | exact Or.inr ⟨rfl, rfl⟩ | (first | exact .ref (fun h => nomatch h) (fun h => nomatch h) rfl (by (try dsimp only); rw [hs]) | (show asc ((a.take i).filter (fun x => decide (x ∈ b))) = asc ((a.take (i + 1)).filter (fun x => decide (x ∈ b))); rw [hs]))))
  · refine .sl ?_
    have e : i = a.length := by exact arA
    subst e
    simp [common]

theorem keep_asc {a b : List Int} : keep (fun x => decide (x ∈ b)) (asc a) = without a b := sasc_eq (filter_sasc (asc_strict a)) (asc_strict _) (fun y => by simp [keep, without, asc_mem])
theorem common_without {a b : List Int} : without a (without a b) = common a b := asc_eq (fun y => by
  by_cases h1 : y ∈ a <;> by_cases h2 : y ∈ b <;> simp [List.mem_filter, without_mem, h1, h2])

theorem w_impl_WithoutServers_c1 (b : List Int) (hb : bIntS b) (x : Int) : Fn Pr n_impl_WithoutServers_c1 [.int .i64 (fun _ => x), .rptr [.sl 1 (encI .i64) (fun _ => b)]] (.bo (decide (x ∈ b))) := by
  refine k_impl_WithoutServers_c1.fn (by kernel_rfl) ?_
  conv => arg 4; cbv
  repeat' first
    | (refine Sat.cmp (fun h => ?_) (fun h => ?_) <;> simp only [Cmp.holds] at h <;> (conv => arg 4; cbv))
    | (refine Sat.callb (w_impl_HasServer b x hb) rfl ledA (fun h => ?_) (fun h => ?_) <;> (try simp only [decide_eq_true_eq, decide_eq_false_iff_not] at h) <;> (conv => arg 4; cbv))
    | (refine Sat.need ndA ?_; conv => arg 4; cbv)
    | (refine Sat.idxk (by assumption) ?_; conv => arg 4; cbv) | (refine Sat.idx ndA (fun v_ hv_ => ?_); conv => arg 4; cbv)
    | (refine Sat.ari64 ndA ndA ?_; conv => arg 4; cbv)
    | (refine Sat.pop ?_; conv => arg 4; cbv)
    | refine Sat.done ?_
  all_goals refine led_bo ?_
  all_goals simp_all

theorem w_impl_WithoutServers (a b : List Int) (ha : a.length ≤ 12) (hb : bIntS b) : Fn Pr n_impl_WithoutServers [.sl 1 (encI .i64) (fun _ => a), .sl 1 (encI .i64) (fun _ => b)] (.sl 1 (encI .i64) (fun _ => without a b)) := by
  have hl := asc_len a
  refine k_impl_WithoutServers.fn (by kernel_rfl) ?_
  conv => arg 4; cbv
  repeat' first
    | (refine Sat.cmp (fun h => ?_) (fun h => ?_) <;> simp only [Cmp.holds] at h <;> (conv => arg 4; cbv))
    | (refine Sat.call (w_impl_ascending a ha) rfl ledA ?_; conv => arg 4; cbv)
    | (refine Sat.callm (w_slices_DeleteFunc_intint (asc a) b n_impl_WithoutServers_c1 (fun x => decide (x ∈ b)) (w_impl_WithoutServers_c1 b hb) (by omega)) rfl ledA rfl ledA ?_; conv => arg 4; cbv)
    | (refine Sat.need ndA ?_; conv => arg 4; cbv)
    | (refine Sat.need (by (repeat' (first | exact trivial | refine And.intro ?_ ?_ | rfl | (dsimp only; simp [genL_length]; done))); (first | done | fail)) ?_; conv => arg 4; cbv)
    | (refine Sat.idxk (by assumption) ?_; conv => arg 4; cbv) | (refine Sat.idx ndA (fun v_ hv_ => ?_); conv => arg 4; cbv)
    | (refine Sat.ari64 ndA ndA ?_; conv => arg 4; cbv)
    | (refine Sat.pop ?_; conv => arg 4; cbv)
    | refine Sat.done ?_
  all_goals refine .sl ?_
  all_goals simp [keepZ, keep_asc]

theorem w_impl_CommonServers (a b : List Int) (ha : a.length ≤ 12) (hb : bIntS b) : Fn Pr n_impl_CommonServers [.sl 1 (encI .i64) (fun _ => a), .sl 1 (encI .i64) (fun _ => b)] (.sl 1 (encI .i64) (fun _ => common a b)) := by
  have hw : bIntS (without a b) := by have := without_len (a := a) (b := b); show (without a b).length * 8 ≤ _; omega
  refine k_impl_CommonServers.fn (by kernel_rfl) ?_
  conv => arg 4; cbv
  repeat' first
    | (refine Sat.cmp (fun h => ?_) (fun h => ?_) <;> simp only [Cmp.holds] at h <;> (conv => arg 4; cbv))
    | (refine Sat.call (w_impl_WithoutServers a b ha hb) rfl ledA ?_; conv => arg 4; cbv)
    | (refine Sat.call (w_impl_WithoutServers a (without a b) ha hw) rfl ledA ?_; conv => arg 4; cbv)
    | (refine Sat.need ndA ?_; conv => arg 4; cbv)
    | (refine Sat.idxk (by assumption) ?_; conv => arg 4; cbv) | (refine Sat.idx ndA (fun v_ hv_ => ?_); conv => arg 4; cbv)
    | (refine Sat.ari64 ndA ndA ?_; conv => arg 4; cbv)
    | (refine Sat.pop ?_; conv => arg 4; cbv)
    | refine Sat.done ?_
  all_goals refine .sl ?_
  all_goals simp [common_without]

def validC (c : GConfig) : Bool := decide (1 ≤ c.Epoch ∧ c.Epoch ≤ 20) && areServers c.Replicas && areServers c.Witnesses && decide (c.Primary ∈ c.Replicas) && decide (((common c.Replicas c.Witnesses).length : Int) = 0)
theorem validC_spec {c : GConfig} (h : validC c = true) : (1 ≤ c.Epoch ∧ c.Epoch ≤ 20) ∧ areServers c.Replicas = true ∧ areServers c.Witnesses = true ∧ c.Primary ∈ c.Replicas ∧ ∀ x ∈ c.Replicas, x ∉ c.Witnesses := by
  simp only [validC, Bool.and_eq_true, decide_eq_true_eq] at h
  obtain ⟨⟨⟨⟨h1, h2⟩, h3⟩, h4⟩, h5⟩ := h
  refine ⟨h1, h2, h3, h4, fun x hx hw => ?_⟩
  have e : common c.Replicas c.Witnesses = [] := List.eq_nil_of_length_eq_zero (by omega)
  have := common_mem.2 ⟨hx, hw⟩
  rw [e] at this
  cases this

theorem w_impl_IsValidConfig (c : GConfig) (hb : bConfig c) : Fn Pr n_impl_IsValidConfig [aGConfig c] (.bo (validC c)) := by
  refine k_impl_IsValidConfig.fn (by kernel_rfl) ?_
  conv => arg 4; cbv
  repeat' first
    | (refine Sat.cmp (fun h => ?_) (fun h => ?_) <;> simp only [Cmp.holds] at h <;> (conv => arg 4; cbv))
    | (refine Sat.callb (w_impl_within _ _ _) rfl ledA (fun h => ?_) (fun h => ?_) <;> (try simp only [decide_eq_true_eq, decide_eq_false_iff_not] at h) <;> (conv => arg 4; cbv))
    | (refine Sat.callb (w_impl_AreServers c.Replicas hb.1) rfl ledA (fun h => ?_) (fun h => ?_) <;> (try simp only [decide_eq_true_eq, decide_eq_false_iff_not] at h) <;> (conv => arg 4; cbv))
    | (refine Sat.callb (w_impl_AreServers c.Witnesses hb.2) rfl ledA (fun h => ?_) (fun h => ?_) <;> (try simp only [decide_eq_true_eq, decide_eq_false_iff_not] at h) <;> (conv => arg 4; cbv))
    | (refine Sat.callb (w_impl_HasServer c.Replicas _ hb.1) rfl ledA (fun h => ?_) (fun h => ?_) <;> (try simp only [decide_eq_true_eq, decide_eq_false_iff_not] at h) <;> (conv => arg 4; cbv))
    | (refine Sat.call (w_impl_CommonServers c.Replicas c.Witnesses (by have := areServers_len (l := c.Replicas) (by assumption); omega) hb.2) rfl ledA ?_; conv => arg 4; cbv)
    | (refine Sat.need ndA ?_; conv => arg 4; cbv)
    | (refine Sat.idxk (by assumption) ?_; conv => arg 4; cbv) | (refine Sat.idx ndA (fun v_ hv_ => ?_); conv => arg 4; cbv)
    | (refine Sat.ari64 ndA ndA ?_; conv => arg 4; cbv)
    | (refine Sat.pop ?_; conv => arg 4; cbv)
    | refine Sat.done ?_
  all_goals refine led_bo ?_
  all_goals (try simp only [ncast] at *)
  all_goals first | (simp_all [validC]; done) | (simp_all [validC]; intros; omega)

theorem w_spec_IsValidConfig (c : GConfig) (hb : bConfig c) : Fn Pr n_spec_IsValidConfig [aGConfig c] (.bo (validC c)) := by
  refine k_spec_IsValidConfig.fn (by kernel_rfl) ?_
  conv => arg 4; cbv
  repeat' first
    | (refine Sat.cmp (fun h => ?_) (fun h => ?_) <;> simp only [Cmp.holds] at h <;> (conv => arg 4; cbv))
    | (refine Sat.callb (w_spec_l1In _ _ _) rfl ledA (fun h => ?_) (fun h => ?_) <;> (try simp only [decide_eq_true_eq, decide_eq_false_iff_not] at h) <;> (conv => arg 4; cbv))
    | (refine Sat.callb (w_spec_AreServers c.Replicas hb.1) rfl ledA (fun h => ?_) (fun h => ?_) <;> (try simp only [decide_eq_true_eq, decide_eq_false_iff_not] at h) <;> (conv => arg 4; cbv))
    | (refine Sat.callb (w_spec_AreServers c.Witnesses hb.2) rfl ledA (fun h => ?_) (fun h => ?_) <;> (try simp only [decide_eq_true_eq, decide_eq_false_iff_not] at h) <;> (conv => arg 4; cbv))
    | (refine Sat.callb (w_spec_HasServer c.Replicas _ hb.1) rfl ledA (fun h => ?_) (fun h => ?_) <;> (try simp only [decide_eq_true_eq, decide_eq_false_iff_not] at h) <;> (conv => arg 4; cbv))
    | (refine Sat.call (w_spec_CommonServers c.Replicas c.Witnesses (by have := areServers_len (l := c.Replicas) (by assumption); omega) hb.2) rfl ledA ?_; conv => arg 4; cbv)
    | (refine Sat.need ndA ?_; conv => arg 4; cbv)
    | (refine Sat.idxk (by assumption) ?_; conv => arg 4; cbv) | (refine Sat.idx ndA (fun v_ hv_ => ?_); conv => arg 4; cbv)
    | (refine Sat.ari64 ndA ndA ?_; conv => arg 4; cbv)
    | (refine Sat.pop ?_; conv => arg 4; cbv)
    | refine Sat.done ?_
  all_goals refine led_bo ?_
  all_goals (try simp only [ncast] at *)
  all_goals first | (simp_all [validC]; done) | (simp_all [validC]; intros; omega)

def noConfig : GConfig := ⟨0, 0, [], []⟩
theorem no_b : bConfig noConfig := by simp [noConfig, bConfig, bIntS]
def validA (a : GAcceptor) : Bool := decide (0 ≤ a.Promised ∧ a.Promised ≤ 99) && decide (0 ≤ a.Ballot ∧ a.Ballot ≤ a.Promised) && (if a.Ballot = 0 then decide (a.Value = noConfig) else validC a.Value)

theorem w_impl_IsValidAcceptor (a : GAcceptor) (hb : bAcceptor a) : Fn Pr n_impl_IsValidAcceptor [aGAcceptor a] (.bo (validA a)) := by
  refine k_impl_IsValidAcceptor.fn (by kernel_rfl) ?_
  conv => arg 4; cbv
  repeat' first
    | (refine Sat.cmp (fun h => ?_) (fun h => ?_) <;> simp only [Cmp.holds] at h <;> (conv => arg 4; cbv))
    | (refine Sat.callb (w_impl_within _ _ _) rfl ledA (fun h => ?_) (fun h => ?_) <;> (try simp only [decide_eq_true_eq, decide_eq_false_iff_not] at h) <;> (conv => arg 4; cbv))
    | (refine Sat.callb (w_impl_EqualConfigs a.Value noConfig hb) rfl ledA (fun h => ?_) (fun h => ?_) <;> (try simp only [decide_eq_true_eq, decide_eq_false_iff_not] at h) <;> (conv => arg 4; cbv))
    | (refine Sat.callb (w_impl_IsValidConfig a.Value hb) rfl ledA (fun h => ?_) (fun h => ?_) <;> (try simp only [decide_eq_true_eq, decide_eq_false_iff_not] at h) <;> (conv => arg 4; cbv))
    | (refine Sat.need ndA ?_; conv => arg 4; cbv)
    | (refine Sat.idxk (by assumption) ?_; conv => arg 4; cbv) | (refine Sat.idx ndA (fun v_ hv_ => ?_); conv => arg 4; cbv)
    | (refine Sat.ari64 ndA ndA ?_; conv => arg 4; cbv)
    | (refine Sat.pop ?_; conv => arg 4; cbv)
    | refine Sat.done ?_
  all_goals refine led_bo ?_
  all_goals first | (simp_all [validA]; done) | (simp_all [validA]; omega)

theorem w_spec_IsValidAcceptor (a : GAcceptor) (hb : bAcceptor a) : Fn Pr n_spec_IsValidAcceptor [aGAcceptor a] (.bo (validA a)) := by
  refine k_spec_IsValidAcceptor.fn (by kernel_rfl) ?_
  conv => arg 4; cbv
  repeat' first
    | (refine Sat.cmp (fun h => ?_) (fun h => ?_) <;> simp only [Cmp.holds] at h <;> (conv => arg 4; cbv))
    | (refine Sat.callb (w_spec_l1In _ _ _) rfl ledA (fun h => ?_) (fun h => ?_) <;> (try simp only [decide_eq_true_eq, decide_eq_false_iff_not] at h) <;> (conv => arg 4; cbv))
    | (refine Sat.callb (w_spec_EqualConfigs a.Value noConfig hb) rfl ledA (fun h => ?_) (fun h => ?_) <;> (try simp only [decide_eq_true_eq, decide_eq_false_iff_not] at h) <;> (conv => arg 4; cbv))
    | (refine Sat.callb (w_spec_IsValidConfig a.Value hb) rfl ledA (fun h => ?_) (fun h => ?_) <;> (try simp only [decide_eq_true_eq, decide_eq_false_iff_not] at h) <;> (conv => arg 4; cbv))
    | (refine Sat.need ndA ?_; conv => arg 4; cbv)
    | (refine Sat.idxk (by assumption) ?_; conv => arg 4; cbv) | (refine Sat.idx ndA (fun v_ hv_ => ?_); conv => arg 4; cbv)
    | (refine Sat.ari64 ndA ndA ?_; conv => arg 4; cbv)
    | (refine Sat.pop ?_; conv => arg 4; cbv)
    | refine Sat.done ?_
  all_goals refine led_bo ?_
  all_goals first | (simp_all [validA]; done) | (simp_all [validA]; omega)

theorem w_impl_configCopy (c : GConfig) (hb : bConfig c) : Fn Pr n_impl_configCopy [aGConfig c] (aGConfig c) := by
  have h0 : c.Replicas.length * 8 ≤ 140737488351232 := hb.1
  have h1 : c.Witnesses.length * 8 ≤ 140737488351232 := hb.2
  refine k_impl_configCopy.fn (by kernel_rfl) ?_
  conv => arg 4; cbv
  repeat' first
    | (refine Sat.cmp (fun h => ?_) (fun h => ?_) <;> simp only [Cmp.holds] at h <;> (conv => arg 4; cbv))
    | (refine Sat.need ⟨fun y _ => flat_encI .i64 y, by exact arA⟩ ?_; conv => arg 4; cbv)
    | (refine Sat.may (fun h => ?_) ?_ <;> (conv => arg 4; cbv))
    | (refine Sat.need ndA ?_; conv => arg 4; cbv)
    | (refine Sat.idxk (by assumption) ?_; conv => arg 4; cbv) | (refine Sat.idx ndA (fun v_ hv_ => ?_); conv => arg 4; cbv)
    | (refine Sat.ari64 ndA ndA ?_; conv => arg 4; cbv)
    | (refine Sat.pop ?_; conv => arg 4; cbv)
    | refine Sat.done ?_
  all_goals refine .agg rfl ?_
  all_goals (repeat' first | exact led_nil | refine led_cons ?_ ?_ | exact .same _ | exact .nil (by assumption) | exact .emp (by assumption) | exact .sl (by simp))

theorem w_spec_l8Copy (c : GConfig) (hb : bConfig c) : Fn Pr n_spec_l8Copy [aGConfig c] (aGConfig c) := by
  have h0 : c.Replicas.length * 8 ≤ 140737488351232 := hb.1
  have h1 : c.Witnesses.length * 8 ≤ 140737488351232 := hb.2
  refine k_spec_l8Copy.fn (by kernel_rfl) ?_
  conv => arg 4; cbv
  repeat' first
    | (refine Sat.cmp (fun h => ?_) (fun h => ?_) <;> simp only [Cmp.holds] at h <;> (conv => arg 4; cbv))
    | (refine Sat.need ⟨fun y _ => flat_encI .i64 y, by exact arA⟩ ?_; conv => arg 4; cbv)
    | (refine Sat.may (fun h => ?_) ?_ <;> (conv => arg 4; cbv))
    | (refine Sat.need ndA ?_; conv => arg 4; cbv)
    | (refine Sat.idxk (by assumption) ?_; conv => arg 4; cbv) | (refine Sat.idx ndA (fun v_ hv_ => ?_); conv => arg 4; cbv)
    | (refine Sat.ari64 ndA ndA ?_; conv => arg 4; cbv)
    | (refine Sat.pop ?_; conv => arg 4; cbv)
    | refine Sat.done ?_
  all_goals refine .agg rfl ?_
  all_goals (repeat' first | exact led_nil | refine led_cons ?_ ?_ | exact .same _ | exact .nil (by assumption) | exact .emp (by assumption) | exact .sl (by simp))

theorem w_slices_IndexFunc_implAcceptorimplAcceptor (l : List GAcceptor) (f : Nat) (p : GAcceptor → Bool) (hf : ∀ x, bAcceptor x → Fn Pr f [aGAcceptor x] (.bo (p x))) (hb : bAcceptorS l) : Fn Pr n_slices_IndexFunc_implAcceptorimplAcceptor [.sl 6 eGAcceptor (fun _ => l), .clo f []] (.int .i64 (fun _ => idxF p l)) := by
  refine k_slices_IndexFunc_implAcceptorimplAcceptor.fn (by kernel_rfl) ?_
  have h0 : l.length * 80 ≤ 140737488351232 := hb.1
  conv => arg 4; cbv
  refine Sat.loopP (ι := Nat) (fun i => [(8, .int .i64 (fun _ => (i : Int)))]) (fun i => []) (fun i => i ≤ l.length ∧ idxF p l = if idxF p (l.drop i) < 0 then -1 else idxF p (l.drop i) + i) (fun i => l.length - i) 0 ?_ ⟨by omega, by have := (idxF_any (p := p) (l := l)).2; simp; omega⟩ (fun i hi => ?_)
  · exact lesA
  conv => arg 4; cbv
  repeat' first
    | (refine Sat.cmp (fun h => ?_) (fun h => ?_) <;> simp only [Cmp.holds] at h <;> (conv => arg 4; cbv))
    | (refine Sat.need ndA ?_; conv => arg 4; cbv)
    | (refine Sat.idxk (by assumption) ?_; conv => arg 4; cbv) | (refine Sat.idx ndA (fun v_ hv_ => ?_); conv => arg 4; cbv)
    | (refine Sat.callb (hf _ (hb.2 _ (List.mem_of_getElem? (by assumption)))) rfl ledA (fun h => ?_) (fun h => ?_) <;> (conv => arg 4; cbv))
    | (refine Sat.ari64 ndA ndA ?_; conv => arg 4; cbv)
    | (refine Sat.pop ?_; conv => arg 4; cbv)
    | refine Sat.next (i + 1) ?_ ?_ (by (try dsimp only); exact arA)
    | refine Sat.done ?_
  · refine .int ?_
    exact idxF_hit (by assumption) hi.2 h
  · exact lesA
  · exact ⟨by exact arA, idxF_step (by assumption) hi.2 h⟩
  · refine .int ?_
    have e1 : i = l.length := by exact arA
    rw [hi.2, e1, List.drop_length, idxF]
    simp

theorem w_slices_ContainsFunc_implAcceptorimplAcceptor (l : List GAcceptor) (f : Nat) (p : GAcceptor → Bool) (hf : ∀ x, bAcceptor x → Fn Pr f [aGAcceptor x] (.bo (p x))) (hb : bAcceptorS l) : Fn Pr n_slices_ContainsFunc_implAcceptorimplAcceptor [.sl 6 eGAcceptor (fun _ => l), .clo f []] (.bo (l.any p)) := by
  refine k_slices_ContainsFunc_implAcceptorimplAcceptor.fn (by kernel_rfl) ?_
  conv => arg 4; cbv
  repeat' first
    | (refine Sat.cmp (fun h => ?_) (fun h => ?_) <;> simp only [Cmp.holds] at h <;> (conv => arg 4; cbv))
    | (refine Sat.call (w_slices_IndexFunc_implAcceptorimplAcceptor l f p hf hb) rfl ledA ?_; conv => arg 4; cbv)
    | (refine Sat.need ndA ?_; conv => arg 4; cbv)
    | (refine Sat.idxk (by assumption) ?_; conv => arg 4; cbv) | (refine Sat.idx ndA (fun v_ hv_ => ?_); conv => arg 4; cbv)
    | (refine Sat.ari64 ndA ndA ?_; conv => arg 4; cbv)
    | (refine Sat.pop ?_; conv => arg 4; cbv)
    | refine Sat.done ?_
  all_goals refine led_bo ?_
  all_goals have := (idxF_any (p := p) (l := l)).1
  · exact (this.1 h).symm
  · cases e : l.any p with
    | false => rfl
    | true => exact absurd (this.2 e) h

def areAcc (l : List GAcceptor) : Bool := decide (l.length = 3) && l.all validA

theorem w_impl_AreAcceptors_c1 (x : GAcceptor) (hb : bAcceptor x) : Fn Pr n_impl_AreAcceptors_c1 [aGAcceptor x] (.bo (!validA x)) := by
  refine k_impl_AreAcceptors_c1.fn (by kernel_rfl) ?_
  conv => arg 4; cbv
  repeat' first
    | (refine Sat.cmp (fun h => ?_) (fun h => ?_) <;> simp only [Cmp.holds] at h <;> (conv => arg 4; cbv))
    | (refine Sat.callb (w_impl_IsValidAcceptor x hb) rfl ledA (fun h => ?_) (fun h => ?_) <;> (try simp only [decide_eq_true_eq, decide_eq_false_iff_not] at h) <;> (conv => arg 4; cbv))
    | (refine Sat.need ndA ?_; conv => arg 4; cbv)
    | (refine Sat.idxk (by assumption) ?_; conv => arg 4; cbv) | (refine Sat.idx ndA (fun v_ hv_ => ?_); conv => arg 4; cbv)
    | (refine Sat.ari64 ndA ndA ?_; conv => arg 4; cbv)
    | (refine Sat.pop ?_; conv => arg 4; cbv)
    | refine Sat.done ?_
  all_goals refine led_bo ?_ <;> simp_all

theorem w_impl_AreAcceptors (l : List GAcceptor) (hb : bAcceptorS l) : Fn Pr n_impl_AreAcceptors [.sl 6 eGAcceptor (fun _ => l)] (.bo (areAcc l)) := by
  refine k_impl_AreAcceptors.fn (by kernel_rfl) ?_
  conv => arg 4; cbv
  repeat' first
    | (refine Sat.cmp (fun h => ?_) (fun h => ?_) <;> simp only [Cmp.holds] at h <;> (conv => arg 4; cbv))
    | (refine Sat.callb (w_slices_ContainsFunc_implAcceptorimplAcceptor l n_impl_AreAcceptors_c1 _ w_impl_AreAcceptors_c1 hb) rfl ledA (fun h => ?_) (fun h => ?_) <;> (try simp only [decide_eq_true_eq, decide_eq_false_iff_not] at h) <;> (conv => arg 4; cbv))
    | (refine Sat.need ndA ?_; conv => arg 4; cbv)
    | (refine Sat.idxk (by assumption) ?_; conv => arg 4; cbv) | (refine Sat.idx ndA (fun v_ hv_ => ?_); conv => arg 4; cbv)
    | (refine Sat.ari64 ndA ndA ?_; conv => arg 4; cbv)
    | (refine Sat.pop ?_; conv => arg 4; cbv)
    | refine Sat.done ?_
  all_goals refine led_bo ?_
  all_goals simp only [ncast] at *
  all_goals simp_all [areAcc]
  all_goals omega

theorem w_spec_AreAcceptors (l : List GAcceptor) (hb : bAcceptorS l) : Fn Pr n_spec_AreAcceptors [.sl 6 eGAcceptor (fun _ => l)] (.bo (areAcc l)) := by
  refine k_spec_AreAcceptors.fn (by kernel_rfl) ?_
  have h0 : l.length * 80 ≤ 140737488351232 := hb.1
  conv => arg 4; cbv
  refine Sat.loopP (ι := Nat) (fun i => [(3, .int .i64 (fun _ => (i : Int)))]) (fun i => []) (fun i => i ≤ l.length ∧ l.all validA = (l.drop i).all validA) (fun i => l.length - i) 0 ?_ ⟨by omega, by simp⟩ (fun i hi => ?_)
  · exact lesA
  conv => arg 4; cbv
  repeat' first
    | (refine Sat.cmp (fun h => ?_) (fun h => ?_) <;> simp only [Cmp.holds] at h <;> (conv => arg 4; cbv))
    | (refine Sat.need ndA ?_; conv => arg 4; cbv)
    | (refine Sat.idxk (by assumption) ?_; conv => arg 4; cbv) | (refine Sat.idx ndA (fun v_ hv_ => ?_); conv => arg 4; cbv)
    | (refine Sat.callb (w_spec_IsValidAcceptor _ (hb.2 _ (List.mem_of_getElem? (by assumption)))) rfl ledA (fun h => ?_) (fun h => ?_) <;> (conv => arg 4; cbv))
    | (refine Sat.ari64 ndA ndA ?_; conv => arg 4; cbv)
    | (refine Sat.pop ?_; conv => arg 4; cbv)
    | refine Sat.next (i + 1) ?_ ?_ (by (try dsimp only); exact arA)
    | refine Sat.done ?_
  all_goals first
    | exact lesA
    | exact ⟨by exact arA, by rw [hi.2, drop_get (i := i) hv_, List.all_cons, h, Bool.true_and]⟩
    | (refine led_bo ?_; rw [areAcc, hi.2, drop_get (i := i) hv_, List.all_cons, h]; simp; done)
    | (refine led_bo ?_; have e1 : i = l.length := by exact arA
       rw [areAcc, hi.2, e1, List.drop_length]; simp only [ncast] at *; simp; omega)
    | (refine led_bo ?_; rw [areAcc]; simp only [ncast] at *; simp; omega)

def fAcceptorS (l : List GAcceptor) : Prop := l.length ≤ maxLen ∧ l.length * 80 ≤ 140737488351232 ∧ ∀ y ∈ l, fAcceptor y
theorem fAcceptorS_b {l : List GAcceptor} (h : fAcceptorS l) : bAcceptorS l := ⟨h.2.1, fun y hy => fAcceptor_b (h.2.2 y hy)⟩

/-- How many hold what a holds. -/
def votes (l : List GAcceptor) (a : GAcceptor) : Nat := l.countP (fun b => decide (0 < a.Ballot ∧ b.Ballot = a.Ballot ∧ b.Value = a.Value))
def chosenIn (l : List GAcceptor) : List GAcceptor → Option GConfig
  | [] => none
  | a :: r => if 3 < 2 * votes l a then some a.Value else chosenIn l r
def chosen (l : List GAcceptor) : Option GConfig := if areAcc l = true then chosenIn l l else none
def chosenC (l : List GAcceptor) : GConfig := match chosen l with | some c => c | none => noConfig
def chosenOk (l : List GAcceptor) : Bool := (chosen l).isSome
theorem chosenIn_mem {l : List GAcceptor} {c : GConfig} : ∀ {r : List GAcceptor}, chosenIn l r = some c → ∃ a ∈ r, c = a.Value
  | [], h => by cases h
  | a :: r, h => by
    rw [chosenIn] at h
    split at h
    · cases h; exact ⟨a, List.mem_cons_self .., rfl⟩
    · obtain ⟨b, hb, e⟩ := chosenIn_mem h; exact ⟨b, List.mem_cons_of_mem _ hb, e⟩
theorem chosenC_b {l : List GAcceptor} (hb : bAcceptorS l) : bConfig (chosenC l) := by
  unfold chosenC
  split
  · rename_i c h
    unfold chosen at h
    split at h
    · obtain ⟨a, ha, rfl⟩ := chosenIn_mem h
      exact hb.2 a ha
    · cases h
  · exact no_b
theorem chosen_hit {l : List GAcceptor} {i : Nat} {a : GAcceptor} (h : chosen l = chosenIn l (l.drop i)) (ha : l[i]? = some a) (hv : 3 < 2 * votes l a) : chosenC l = a.Value ∧ chosenOk l = true := by
  have e : chosen l = some a.Value := by rw [h, drop_get (i := i) ha, chosenIn, if_pos hv]
  exact ⟨by rw [chosenC, e], by rw [chosenOk, e]; rfl⟩
theorem chosen_next {l : List GAcceptor} {i : Nat} {a : GAcceptor} (h : chosen l = chosenIn l (l.drop i)) (ha : l[i]? = some a) (hv : ¬ 3 < 2 * votes l a) : chosen l = chosenIn l (l.drop (i + 1)) := by
  rw [h, drop_get (i := i) ha, chosenIn, if_neg hv]
theorem chosen_end {l : List GAcceptor} (h : chosen l = chosenIn l (l.drop l.length)) : chosenC l = noConfig ∧ chosenOk l = false := by
  have e : chosen l = none := by rw [h, List.drop_length, chosenIn]
  exact ⟨by rw [chosenC, e], by rw [chosenOk, e]; rfl⟩
theorem chosen_bad {l : List GAcceptor} (h : areAcc l = false) : chosenC l = noConfig ∧ chosenOk l = false := by
  have e : chosen l = none := by rw [chosen, if_neg (by rw [h]; simp)]
  exact ⟨by rw [chosenC, e], by rw [chosenOk, e]; rfl⟩
theorem areAcc_len {l : List GAcceptor} (h : areAcc l = true) : l.length = 3 := by
  simp only [areAcc, Bool.and_eq_true, decide_eq_true_eq] at h
  exact h.1
/-- Those among the first k. -/
def votesTo (l : List GAcceptor) (a : GAcceptor) (k : Nat) : Nat := votes (l.take k) a
theorem votesTo_hit {l : List GAcceptor} {a b : GAcceptor} {k : Nat} (hb : l[k]? = some b) (h1 : 0 < a.Ballot) (h2 : b.Ballot = a.Ballot) (h3 : b.Value = a.Value) : votesTo l a (k + 1) = votesTo l a k + 1 := by
  unfold votesTo votes
  rw [List.take_add_one, hb, List.countP_append]
  simp [h1, h2, h3]
theorem votesTo_miss {l : List GAcceptor} {a b : GAcceptor} {k : Nat} (hb : l[k]? = some b) (h : ¬ (0 < a.Ballot ∧ b.Ballot = a.Ballot ∧ b.Value = a.Value)) : votesTo l a (k + 1) = votesTo l a k := by
  unfold votesTo votes
  rw [List.take_add_one, hb, List.countP_append]
  simp only [Option.toList_some, List.countP_cons, List.countP_nil, decide_eq_true_eq, if_neg h, Nat.add_zero]
theorem votesTo_le {l : List GAcceptor} {a : GAcceptor} {k : Nat} : votesTo l a k ≤ k := by
  unfold votesTo votes
  exact Nat.le_trans List.countP_le_length (by rw [List.length_take]; omega)
theorem votesTo_all {l : List GAcceptor} {a : GAcceptor} : votesTo l a l.length = votes l a := by
  unfold votesTo; rw [List.take_length]

set_option maxHeartbeats 1000000 in
theorem w_impl_ChosenValue (l : List GAcceptor) (hb : bAcceptorS l) : Fn Pr n_impl_ChosenValue [.sl 6 eGAcceptor (fun _ => l)] (.tup [aGConfig (chosenC l), .bo (chosenOk l)]) := by
  have HA := w_impl_AreAcceptors l hb
  cases hv : areAcc l
  · rw [hv] at HA
    obtain ⟨e1, e2⟩ := chosen_bad hv
    rw [e1, e2]
    refine k_impl_ChosenValue.fn (by kernel_rfl) ?_
    conv => arg 4; cbv
    repeat' first
      | (refine Sat.cmp (fun h => ?_) (fun h => ?_) <;> simp only [Cmp.holds] at h <;> (conv => arg 4; cbv))
      | (refine Sat.callb (HA) rfl ledA (fun h => ?_) (fun h => ?_) <;> (try simp only [decide_eq_true_eq, decide_eq_false_iff_not] at h) <;> (conv => arg 4; cbv))
      | (refine Sat.call (HA) rfl ledA ?_; conv => arg 4; cbv)
      | (refine Sat.need ndA ?_; conv => arg 4; cbv)
      | (refine Sat.idxk (by assumption) ?_; conv => arg 4; cbv) | (refine Sat.idx ndA (fun v_ hv_ => ?_); conv => arg 4; cbv)
      | (refine Sat.ari64 ndA ndA ?_; conv => arg 4; cbv)
      | (refine Sat.pop ?_; conv => arg 4; cbv)
      | refine Sat.done ?_
    all_goals first | exact ledA | (exfalso; simp_all; done)
  · rw [hv] at HA
    have hl3 := areAcc_len hv
    refine k_impl_ChosenValue.fn (by kernel_rfl) ?_
    conv => arg 4; cbv
    refine Sat.call HA rfl ledA ?_
    conv => arg 4; cbv
    refine Sat.loopP (ι := Nat) (fun i => [(15, .int .i64 (fun _ => (i : Int)))]) (fun i => []) (fun i => i ≤ l.length ∧ chosen l = chosenIn l (l.drop i)) (fun i => l.length - i) 0 ?_ ⟨by omega, by rw [chosen, if_pos hv]; rfl⟩ (fun i hi => ?_)
    · exact lesA
    conv => arg 4; cbv
    repeat' first
      | (refine Sat.cmp (fun h => ?_) (fun h => ?_) <;> simp only [Cmp.holds] at h <;> (conv => arg 4; cbv))
      | (refine Sat.need ndA ?_; conv => arg 4; cbv)
      | (refine Sat.idxk (by assumption) ?_; conv => arg 4; cbv) | (refine Sat.idx ndA (fun v_ hv_ => ?_); conv => arg 4; cbv)
      | (refine Sat.ari64 ndA ndA ?_; conv => arg 4; cbv)
      | (refine Sat.pop ?_; conv => arg 4; cbv)
    rotate_left
    · refine Sat.done ?_
      have e : i = l.length := by exact arA
      subst e
      obtain ⟨e1, e2⟩ := chosen_end hi.2
      rw [e1, e2]
      exact ledA
    revert v_
    intro a ha
    have ha' : l[i]? = some a := by simpa using ha
    refine Sat.loopP (ι := Nat) (fun k => [(21, .int .i64 (fun _ => (k : Int))), (6, .int .i64 (fun _ => (votesTo l a k : Int)))]) (fun k => []) (fun k => k ≤ l.length) (fun k => l.length - k) 0 ?_ (by omega) (fun k hk => ?_)
    · refine les_of ?_ ?_ rfl
      iterate 2 (focus repeat' (first | exact trivial | refine And.intro ?_ ?_ | exact levA | refine lev_cons ?_ ?_ | refine LeV.agg rfl ?_ | exact Nat.le_of_ble_eq_true rfl | exact Or.inl ⟨_, rfl, .row rfl⟩ | refine Or.inl ⟨_, rfl, .row ?_⟩ | refine Or.inl ⟨_, rfl, .lit rfl ?_⟩ | exact Or.inr ⟨rfl, rfl⟩ | (exact .int (by simp [votesTo, votes]))))
    have hle := votesTo_le (l := l) (a := a) (k := k)
    conv => arg 4; cbv
    repeat' first
      | (refine Sat.cmp (fun h => ?_) (fun h => ?_) <;> simp only [Cmp.holds] at h <;> (conv => arg 4; cbv))
      | (refine Sat.need ndA ?_; conv => arg 4; cbv)
      | (refine Sat.idxk (by assumption) ?_; conv => arg 4; cbv) | (refine Sat.idx ndA (fun v_ hv_ => ?_); conv => arg 4; cbv)
      | (refine Sat.callb (w_impl_EqualConfigs a.Value _ (hb.2 _ (List.mem_of_getElem? ha'))) rfl ledA (fun h => ?_) (fun h => ?_) <;> (try simp only [decide_eq_true_eq, decide_eq_false_iff_not] at h) <;> (conv => arg 4; cbv))
      | (refine Sat.call (w_impl_configCopy a.Value (hb.2 _ (List.mem_of_getElem? ha'))) rfl ledA ?_; conv => arg 4; cbv)
      | (refine Sat.ari64 ndA ndA ?_; conv => arg 4; cbv)
      | (refine Sat.pop ?_; conv => arg 4; cbv)
      | refine Sat.next (k + 1) ?_ (by exact arA) (by exact arA)
      | refine Sat.next (i + 1) ?_ ⟨by exact arA, chosen_next hi.2 ha' (by rw [← votesTo_all, ← show k = l.length by exact arA]; exact arA)⟩ (by exact arA)
      | refine Sat.done ?_
    · have e := votesTo_hit (l := l) (a := a) (b := v_) (k := k) (by simpa using hv_) (by assumption) (by omega) (Eq.symm h)
      refine les_of ?_ ?_ rfl
      iterate 2 (focus repeat' (first | exact trivial | refine And.intro ?_ ?_ | exact levA | refine lev_cons ?_ ?_ | refine LeV.agg rfl ?_ | exact Nat.le_of_ble_eq_true rfl | exact Or.inl ⟨_, rfl, .row rfl⟩ | refine Or.inl ⟨_, rfl, .row ?_⟩ | refine Or.inl ⟨_, rfl, .lit rfl ?_⟩ | exact Or.inr ⟨rfl, rfl⟩ | (exact .int ndA)))
    · have e := votesTo_miss (l := l) (a := a) (b := v_) (k := k) (by simpa using hv_) (fun q => h (Eq.symm q.2.2))
      refine les_of ?_ ?_ rfl
      iterate 2 (focus repeat' (first | exact trivial | refine And.intro ?_ ?_ | exact levA | refine lev_cons ?_ ?_ | refine LeV.agg rfl ?_ | exact Nat.le_of_ble_eq_true rfl | exact Or.inl ⟨_, rfl, .row rfl⟩ | refine Or.inl ⟨_, rfl, .row ?_⟩ | refine Or.inl ⟨_, rfl, .lit rfl ?_⟩ | exact Or.inr ⟨rfl, rfl⟩ | (exact .int ndA)))
    · have e := votesTo_miss (l := l) (a := a) (b := v_) (k := k) (by simpa using hv_) (fun q => h (Eq.symm q.2.1))
      refine les_of ?_ ?_ rfl
      iterate 2 (focus repeat' (first | exact trivial | refine And.intro ?_ ?_ | exact levA | refine lev_cons ?_ ?_ | refine LeV.agg rfl ?_ | exact Nat.le_of_ble_eq_true rfl | exact Or.inl ⟨_, rfl, .row rfl⟩ | refine Or.inl ⟨_, rfl, .row ?_⟩ | refine Or.inl ⟨_, rfl, .lit rfl ?_⟩ | exact Or.inr ⟨rfl, rfl⟩ | (exact .int ndA)))
    · have e := votesTo_miss (l := l) (a := a) (b := v_) (k := k) (by simpa using hv_) (fun q => h q.1)
      refine les_of ?_ ?_ rfl
      iterate 2 (focus repeat' (first | exact trivial | refine And.intro ?_ ?_ | exact levA | refine lev_cons ?_ ?_ | refine LeV.agg rfl ?_ | exact Nat.le_of_ble_eq_true rfl | exact Or.inl ⟨_, rfl, .row rfl⟩ | refine Or.inl ⟨_, rfl, .row ?_⟩ | refine Or.inl ⟨_, rfl, .lit rfl ?_⟩ | exact Or.inr ⟨rfl, rfl⟩ | (exact .int ndA)))
    · have e : k = l.length := by exact arA
      subst e
      rw [votesTo_all] at h
      obtain ⟨e1, e2⟩ := chosen_hit hi.2 ha' (by exact arA)
      rw [e1, e2]
      exact ledA
    · refine les_of ?_ ?_ rfl
      iterate 2 (focus repeat' (first | exact trivial | refine And.intro ?_ ?_ | exact levA | refine lev_cons ?_ ?_ | refine LeV.agg rfl ?_ | exact Nat.le_of_ble_eq_true rfl | exact Or.inl ⟨_, rfl, .row rfl⟩ | refine Or.inl ⟨_, rfl, .row ?_⟩ | refine Or.inl ⟨_, rfl, .lit rfl ?_⟩ | exact Or.inr ⟨rfl, rfl⟩ | (exact .int ndA)))

set_option maxHeartbeats 1000000 in
theorem w_spec_ChosenValue (l : List GAcceptor) (hb : bAcceptorS l) : Fn Pr n_spec_ChosenValue [.sl 6 eGAcceptor (fun _ => l)] (.tup [aGConfig (chosenC l), .bo (chosenOk l)]) := by
  have HA := w_spec_AreAcceptors l hb
  cases hv : areAcc l
  · rw [hv] at HA
    obtain ⟨e1, e2⟩ := chosen_bad hv
    rw [e1, e2]
    refine k_spec_ChosenValue.fn (by kernel_rfl) ?_
    conv => arg 4; cbv
    refine Sat.loopP (ι := Unit) (fun i => []) (fun i => []) (fun i => True) (fun i => 0) () ?_ trivial (fun i hi => ?_)
    · exact lesA
    conv => arg 4; cbv
    repeat' first
      | (refine Sat.cmp (fun h => ?_) (fun h => ?_) <;> simp only [Cmp.holds] at h <;> (conv => arg 4; cbv))
      | (refine Sat.call HA rfl ledA ?_; conv => arg 4; cbv)
      | (refine Sat.need ndA ?_; conv => arg 4; cbv)
      | (refine Sat.idxk (by assumption) ?_; conv => arg 4; cbv) | (refine Sat.idx ndA (fun v_ hv_ => ?_); conv => arg 4; cbv)
      | (refine Sat.ari64 ndA ndA ?_; conv => arg 4; cbv)
      | (refine Sat.pop ?_; conv => arg 4; cbv)
      | refine Sat.done ?_
    all_goals first | exact ledA | (exfalso; exact arA)
  · rw [hv] at HA
    have hl3 := areAcc_len hv
    refine k_spec_ChosenValue.fn (by kernel_rfl) ?_
    conv => arg 4; cbv
    refine Sat.loopP (ι := Nat) (fun i => [(4, .int .i64 (fun _ => (i : Int)))]) (fun i => []) (fun i => i ≤ l.length ∧ chosen l = chosenIn l (l.drop i)) (fun i => l.length - i) 0 ?_ ⟨by omega, by rw [chosen, if_pos hv]; rfl⟩ (fun i hi => ?_)
    · exact lesA
    conv => arg 4; cbv
    repeat' first
      | (refine Sat.cmp (fun h => ?_) (fun h => ?_) <;> simp only [Cmp.holds] at h <;> (conv => arg 4; cbv))
      | (refine Sat.call HA rfl ledA ?_; conv => arg 4; cbv)
      | (refine Sat.pop ?_; conv => arg 4; cbv)
    rotate_left
    · refine Sat.done ?_
      have e : i = l.length := by exact arA
      subst e
      obtain ⟨e1, e2⟩ := chosen_end hi.2
      rw [e1, e2]
      exact ledA
    obtain ⟨a, ha'⟩ : ∃ a, l[i]? = some a := ⟨_, List.getElem?_eq_getElem (by exact arA)⟩
    have ha : l[((i : Nat) : Int).toNat]? = some a := by simpa using ha'
    have hba := hb.2 a (List.mem_of_getElem? ha')
    refine Sat.loopP (ι := Nat) (fun k => [(6, .int .i64 (fun _ => (k : Int))), (5, .int .i64 (fun _ => (votesTo l a k : Int)))]) (fun k => []) (fun k => k ≤ l.length) (fun k => l.length - k) 0 ?_ (by omega) (fun k hk => ?_)
    · refine les_of ?_ ?_ rfl
      iterate 2 (focus repeat' (first | exact trivial | refine And.intro ?_ ?_ | exact levA | refine lev_cons ?_ ?_ | refine LeV.agg rfl ?_ | exact Nat.le_of_ble_eq_true rfl | exact Or.inl ⟨_, rfl, .row rfl⟩ | refine Or.inl ⟨_, rfl, .row ?_⟩ | refine Or.inl ⟨_, rfl, .lit rfl ?_⟩ | exact Or.inr ⟨rfl, rfl⟩ | (exact .int (by simp [votesTo, votes]))))
    have hle := votesTo_le (l := l) (a := a) (k := k)
    by_cases hkl : k < l.length
    · obtain ⟨v, hv'⟩ : ∃ v, l[k]? = some v := ⟨_, List.getElem?_eq_getElem hkl⟩
      have hv2 : l[((k : Nat) : Int).toNat]? = some v := by simpa using hv'
      have hbv := hb.2 v (List.mem_of_getElem? hv')
      conv => arg 4; cbv
      repeat' first
        | (refine Sat.cmp (fun h => ?_) (fun h => ?_) <;> simp only [Cmp.holds] at h <;> (conv => arg 4; cbv))
        | (refine Sat.need ndA ?_; conv => arg 4; cbv)
        | (refine Sat.idxk ha ?_; conv => arg 4; cbv)
        | (refine Sat.idxk hv2 ?_; conv => arg 4; cbv)
        | (refine Sat.callb (w_spec_EqualConfigs v.Value a.Value hbv) rfl ledA (fun h => ?_) (fun h => ?_) <;> (try simp only [decide_eq_true_eq, decide_eq_false_iff_not] at h) <;> (conv => arg 4; cbv))
        | (refine Sat.ari64 ndA ndA ?_; conv => arg 4; cbv)
        | (refine Sat.pop ?_; conv => arg 4; cbv)
        | refine Sat.next (k + 1) ?_ (by exact arA) (by exact arA)
      · have e := votesTo_hit hv' (by assumption) (by omega) h
        refine les_of ?_ ?_ rfl
        iterate 2 (focus repeat' (first | exact trivial | refine And.intro ?_ ?_ | exact levA | refine lev_cons ?_ ?_ | refine LeV.agg rfl ?_ | exact Nat.le_of_ble_eq_true rfl | exact Or.inl ⟨_, rfl, .row rfl⟩ | refine Or.inl ⟨_, rfl, .row ?_⟩ | refine Or.inl ⟨_, rfl, .lit rfl ?_⟩ | exact Or.inr ⟨rfl, rfl⟩ | (exact .int ndA)))
      · have e := votesTo_miss hv' (fun q => h q.2.2)
        refine les_of ?_ ?_ rfl
        iterate 2 (focus repeat' (first | exact trivial | refine And.intro ?_ ?_ | exact levA | refine lev_cons ?_ ?_ | refine LeV.agg rfl ?_ | exact Nat.le_of_ble_eq_true rfl | exact Or.inl ⟨_, rfl, .row rfl⟩ | refine Or.inl ⟨_, rfl, .row ?_⟩ | refine Or.inl ⟨_, rfl, .lit rfl ?_⟩ | exact Or.inr ⟨rfl, rfl⟩ | (exact .int ndA)))
      · have e := votesTo_miss hv' (fun q => h q.2.1)
        refine les_of ?_ ?_ rfl
        iterate 2 (focus repeat' (first | exact trivial | refine And.intro ?_ ?_ | exact levA | refine lev_cons ?_ ?_ | refine LeV.agg rfl ?_ | exact Nat.le_of_ble_eq_true rfl | exact Or.inl ⟨_, rfl, .row rfl⟩ | refine Or.inl ⟨_, rfl, .row ?_⟩ | refine Or.inl ⟨_, rfl, .lit rfl ?_⟩ | exact Or.inr ⟨rfl, rfl⟩ | (exact .int ndA)))
      · have e := votesTo_miss hv' (fun q => h q.1)
        refine les_of ?_ ?_ rfl
        iterate 2 (focus repeat' (first | exact trivial | refine And.intro ?_ ?_ | exact levA | refine lev_cons ?_ ?_ | refine LeV.agg rfl ?_ | exact Nat.le_of_ble_eq_true rfl | exact Or.inl ⟨_, rfl, .row rfl⟩ | refine Or.inl ⟨_, rfl, .row ?_⟩ | refine Or.inl ⟨_, rfl, .lit rfl ?_⟩ | exact Or.inr ⟨rfl, rfl⟩ | (exact .int ndA)))
      all_goals (exfalso; exact arA)
    · have e : k = l.length := by omega
      have e' : (votesTo l a k : Int) = votes l a := by rw [e, votesTo_all]
      conv => arg 4; cbv
      repeat' first
        | (refine Sat.cmp (fun h => ?_) (fun h => ?_) <;> simp only [Cmp.holds] at h <;> (conv => arg 4; cbv))
        | (refine Sat.need ndA ?_; conv => arg 4; cbv)
        | (refine Sat.idxk ha ?_; conv => arg 4; cbv)
        | (refine Sat.call (w_spec_l8Copy a.Value hba) rfl ledA ?_; conv => arg 4; cbv)
        | (refine Sat.ari64 ndA ndA ?_; conv => arg 4; cbv)
        | (refine Sat.pop ?_; conv => arg 4; cbv)
        | refine Sat.next (i + 1) ?_ ⟨by exact arA, chosen_next hi.2 ha' (by exact arA)⟩ (by exact arA)
        | (exfalso; exact arA)
        | refine Sat.done ?_
      · obtain ⟨e1, e2⟩ := chosen_hit hi.2 ha' (by exact arA)
        rw [e1, e2]
        exact ledA
      · refine les_of ?_ ?_ rfl
        iterate 2 (focus repeat' (first | exact trivial | refine And.intro ?_ ?_ | exact levA | refine lev_cons ?_ ?_ | refine LeV.agg rfl ?_ | exact Nat.le_of_ble_eq_true rfl | exact Or.inl ⟨_, rfl, .row rfl⟩ | refine Or.inl ⟨_, rfl, .row ?_⟩ | refine Or.inl ⟨_, rfl, .lit rfl ?_⟩ | exact Or.inr ⟨rfl, rfl⟩ | (exact .int ndA)))

set_option maxHeartbeats 4000000 in
theorem w_laws_FnExactChosenValue (l_ : List GAcceptor) {G : Prop} (F : fAcceptorS l_ ∧ G) : Fn Pr n_laws_FnExactChosenValue [.sl 6 eGAcceptor (fun _ => l_)] (.bo true) := by
  have hb_l : bAcceptorS l_ := fAcceptorS_b F.1
  have q0 := sAcceptorS_rng (x := l_) (n := 1048576)
  by_cases hsz : sAcceptorS l_ 1048576 < 0
  · refine k_laws_FnExactChosenValue.fn (by kernel_rfl) ?_
    conv => arg 4; cbv
    repeat' first
      | (refine Sat.cmp (fun h => ?_) (fun h => ?_) <;> simp only [Cmp.holds] at h <;> (conv => arg 4; cbv))
      | (refine Sat.call (w_laws_szAcceptorS l_ 1048576 hb_l (by exact arA)) rfl ledA ?_; conv => arg 4; cbv)
      | (exfalso; omega)
      | (refine Sat.need ndA ?_; conv => arg 4; cbv)
      | (refine Sat.idxk (by assumption) ?_; conv => arg 4; cbv) | (refine Sat.idx ndA (fun v_ hv_ => ?_); conv => arg 4; cbv)
      | (refine Sat.ari64 ndA ndA ?_; conv => arg 4; cbv)
      | (refine Sat.pop ?_; conv => arg 4; cbv)
      | refine Sat.done ?_
    all_goals first | exact .same _ | (exfalso; exact arA)
  have hlen := sAcceptorS_nG hsz
  have HS := w_spec_ChosenValue l_ hb_l
  have HI := w_impl_ChosenValue l_ hb_l
  have hc0 : bConfig (chosenC l_) := chosenC_b hb_l
  generalize chosenC l_ = g0 at *
  generalize chosenOk l_ = g1 at *
  have hd0 := nConfig_rng hc0
  cases g1
  all_goals refine k_laws_FnExactChosenValue.fn (by kernel_rfl) ?_
  all_goals (conv => arg 4; cbv)
  repeat' first
    | (refine Sat.cmp (fun h => ?_) (fun h => ?_) <;> simp only [Cmp.holds] at h <;> (conv => arg 4; cbv))
    | (refine Sat.call (w_laws_szAcceptorS l_ 1048576 hb_l (by exact arA)) rfl ledA ?_; conv => arg 4; cbv)
    | (refine Sat.call (w_laws_toAcceptorS l_ hb_l) rfl ledA ?_; conv => arg 4; cbv)
    | (refine Sat.callb (HS) rfl ledA (fun h => ?_) (fun h => ?_) <;> (try simp only [decide_eq_true_eq, decide_eq_false_iff_not] at h) <;> (conv => arg 4; cbv))
    | (refine Sat.call (HS) rfl ledA ?_; conv => arg 4; cbv)
    | (refine Sat.callb (HI) rfl ledA (fun h => ?_) (fun h => ?_) <;> (try simp only [decide_eq_true_eq, decide_eq_false_iff_not] at h) <;> (conv => arg 4; cbv))
    | (refine Sat.call (HI) rfl ledA ?_; conv => arg 4; cbv)
    | (refine Sat.callb (w_laws_eqConfig g0 g0 hc0) rfl ledA (fun h => ?_) (fun h => ?_) <;> (try simp only [decide_eq_true_eq, decide_eq_false_iff_not] at h) <;> (conv => arg 4; cbv))
    | (refine Sat.callb (w_laws_eqAcceptorS l_ l_ hb_l) rfl ledA (fun h => ?_) (fun h => ?_) <;> (try simp only [decide_eq_true_eq, decide_eq_false_iff_not] at h) <;> (conv => arg 4; cbv))
    | (refine Sat.callm (w_laws_markAcceptorS l_ (1) hb_l (by exact arA) (by exact arA)) rfl ledA rfl ledA ?_; conv => arg 4; cbv)
    | (refine Sat.callm (w_laws_markConfig g0 1 hc0 (by exact arA)) rfl ledA rfl ledA ?_; conv => arg 4; cbv)
    | (refine Sat.call (w_laws_heldConfig_mk g0 1 hc0 (by exact arA)) rfl ledA ?_; conv => arg 4; cbv)
    | (refine Sat.need ndA ?_; conv => arg 4; cbv)
    | (refine Sat.need (by (repeat' (first | exact trivial | refine And.intro ?_ ?_ | rfl | (dsimp only; simp [genL_length]; done))); (first | done | fail)) ?_; conv => arg 4; cbv)
    | (refine Sat.idxk (by assumption) ?_; conv => arg 4; cbv) | (refine Sat.idx ndA (fun v_ hv_ => ?_); conv => arg 4; cbv)
    | (refine Sat.ari64 ndA ndA ?_; conv => arg 4; cbv)
    | (refine Sat.pop ?_; conv => arg 4; cbv)
    | refine Sat.done ?_
  all_goals refine led_bo ?_
  all_goals first | rfl | contradiction | (exfalso; (try simp only [ncast] at *); omega) | (exfalso; simp_all; done)

end Go.V.T
